import Derived.Test.YtfgpffocieegdaaPAx0
import Derived.Test.YtfgpffocieegdaaGw
import Derived.Test.YtfgpffocieegdaaGm
import Derived.Test.YtfgpffocieegdaaGc
namespace Go.Proofs.Ytfgpffocieegdaa.PA
open Go.RowKit Go.Proofs.YtfgpffocieegdaaW.PrintWords Go.Proofs.YtfgpffocieegdaaW.PrintLast Go.Proofs.YtfgpffocieegdaaW.PrintMore
attribute [local go_sem] max2_int min2_int max_two min_two max_three min_three max_four min_four   -- for this text's walks alone
set_option linter.unusedVariables false
set_option linter.unusedSimpArgs false

-- GIVEN: function 32 (impl_vector_plus)

-- GIVEN: function 44 (impl_powers)

-- GIVEN: function 45 (impl_unit)

/-! ### impl_rowOf: function 33 -/
theorem zL2 {p q : Prop} (h : q) (t : q → p := by intro h_; (with_reducible repeat first|refine blk_drewN ?_ _|refine blk_drew ?_|refine blk_alloc ?_ _); exact h_) : p := t h
theorem z2_1 {p : Prop} (h : p := by repeat (first | (with_reducible first | exact HB.out | apply below_alloc | apply pw_below_drewN | apply below_drew1 | refine below_set ?_ GE101.out) | exact HB.out)) : p := h
theorem z2_2 {p : Prop} (h : p := by repeat (first | (with_reducible first | exact HB.out | apply below_alloc | apply pw_below_drewN | apply below_drew1) | exact HB.out)) : p := h
theorem z2_3 {p : Prop} (h : p := by (try simp only [List.map_toArray, List.map_cons, List.map_nil]); first | done | rfl | (simp only [List.length_drop, List.length_take]; rfl)) : p := h
theorem z2_4 {p : Prop} (h : p := by first | rfl | (simp [errW_none, errW_some] <;> rfl) | (simp [*, errW_none, errW_some] <;> rfl)) : p := h
theorem z2_5 {p : Prop} (h : p := by (with_reducible repeat (first | apply Kd.R_alloc | apply Kd.R_drewN | apply Kd.R_drew)); exact HO_5.out) : p := h
theorem z2_6 {p : Prop} (h : p := by first | (with_reducible assumption) | assumption) : p := h
theorem z2_7 {p : Prop} (h : p := by first | rfl | (simp; done) | (simp [*]; done)) : p := h
theorem z2_8 {p : Prop} (h : p := by rw [hw]; exact (bZ BK101.out)) : p := h
def impl_rowOf.f (a0 : Int) (a1 : Int) : Option (Int × Int × Int × Int) := if a0 = 2 then ((impl_powers.f (wrap64 (a1 + 1))).bind fun bt102 => (some (bt102.1, bt102.2.1, bt102.2.2.1, bt102.2.2.2))) else (if a1 < 4 then ((impl_unit.f a1).bind fun bt106 => (some (bt106.1, bt106.2.1, bt106.2.2.1, bt106.2.2.2))) else (if a1 = 4 then ((impl_unit.f 0).bind fun bt110 => ((impl_unit.f 1).bind fun bt114 => ((impl_vector_plus.f bt110.1 bt110.2.1 bt110.2.2.1 bt110.2.2.2 bt114.1 bt114.2.1 bt114.2.2.1 bt114.2.2.2).bind fun bt118 => (some (bt118.1, bt118.2.1, bt118.2.2.1, bt118.2.2.2))))) else (if a1 = 5 then ((impl_unit.f 2).bind fun bt122 => ((impl_unit.f 3).bind fun bt126 => ((impl_vector_plus.f bt122.1 bt122.2.1 bt122.2.2.1 bt122.2.2.2 bt126.1 bt126.2.1 bt126.2.2.1 bt126.2.2.2).bind fun bt130 => (some (bt130.1, bt130.2.1, bt130.2.2.1, bt130.2.2.2))))) else ((impl_powers.f (wrap64 (a1 - 4))).bind fun bt134 => (some (bt134.1, bt134.2.1, bt134.2.2.1, bt134.2.2.2))))))
set_option maxHeartbeats 8000000 in
set_option maxRecDepth 100000 in
theorem impl_rowOf.calls (a0 : Int) (a1 : Int) (r1 : Int) (r2 : Int) (r3 : Int) (r4 : Int) (w : World) (h : impl_rowOf.f a0 a1 = some (r1, r2, r3, r4)) :
  Calls Try.prog 33 #[.int .i64 a0, .int .i64 a1] w fun e w' => e = .returned (.agg #[.int .i64 r1, .int .i64 r2, .int .i64 r3, .int .i64 r4]) ∧ Below w.heap.size w w' := by
 have hu54 := Try.underlying54
 have HB := Aside0.mk (Below.refl w.heap.size w)
 try unfold impl_rowOf.f at h
 have H := h
 clear h
 by_cases c3 : a0 = 2
 ·rw [if_pos c3] at H
  have c3b0 : (a0 == 2) = true := beq_iff_eq.mpr c3
  have c3b1 : (a0 != 2) = false := bne_eq_false_iff_eq.mpr c3
  clear c3
  replace H := Option.bind_eq_some_iff.mp H
  obtain ⟨⟨t102, t103, t104, t105⟩, A40, H⟩ := H
  dsimp only at H
  have A4 := Aside0.mk A40
  clear A40; simp only [Option.some.injEq, Prod.mk.injEq] at H; obtain ⟨rfl, rfl, rfl, rfl⟩ := H; go_enter Try.func33, Try.ntmps33
  go_wp2_with (first | ((with_reducible refine gate_dst (N := 4) rfl ?_); refine box_event ?hg (N := 4) ?hd (cs := #[.int .i64 0, .int .i64 0, .int .i64 0, .int .i64 0]) (t := 54) ?hr ?_; (case hd => rfl); (case hg => rfl); (case hr => first | (go_simp; done) | (go_simp; rfl)); intro gb101 hg w5 hbox hb; have BK101 := Aside0.mk (hbox); have GW101 := Aside0.mk ((by rw [hg]; exact (below_size z2_2) : w.heap.size ≤ gb101)); have GE101 := Aside0.mk ((by rw [hg]; exact (below_size z2_2) : w.heap.size ≤ gb101)); replace HB := Aside0.mk (below_step z2_2 hb); clear hb hbox hg) | ((with_reducible refine gate_callee (f := 44) rfl ?_); refine goesL_ (some 9) rfl rfl Try.func44 (by kernel_rfl) rfl #[.int .i64 (wrap64 (a1 + 1))] rfl z2_3 ?_; (with_reducible refine (impl_powers.calls (wrap64 (a1 + 1)) t102 t103 t104 t105 _ A4.out).mono ?_); rintro e w6 ⟨rfl, hb⟩; refine ⟨_, rfl, ?_⟩; replace BK101 := bBZ_ BK101 hb; replace HB := Aside0.mk (below_step z2_1 hb); (try clear hb); obtain ⟨hcz7_0, hfz7_0, hcz8_1, hfz8_1, hcz9_2, hfz9_2, hcz10_3, hfz10_3⟩ := cAZ4_ BK101) | ((with_reducible refine gate_store (t := 54) (p := 4) rfl ?_); refine store_event (t := 54) (p := 4) (v := ?vo_w11) (w1 := ((((w6.setCell ⟨gb101, 0, none⟩ (.int .i64 t102)).setCell ⟨gb101, 1, none⟩ (.int .i64 t103)).setCell ⟨gb101, 2, none⟩ (.int .i64 t104)).setCell ⟨gb101, 3, none⟩ (.int .i64 t105))) ?hg ?ho ?hn ?hr ?_; (case ho => rfl); (case hg => rfl); (case hn => rfl); (case hr => first | (go_simp; done) | (go_simp; rfl)); intro w11 hw; have n0_ : Aside0 (w11.heap[gb101]? = some (.cells #[.int .i64 t102, .int .i64 t103, .int .i64 t104, .int .i64 t105] 54 (0, 0))) := ⟨z2_8⟩; have n1_ : Aside0 (Below w.heap.size w w11) := ⟨(by rw [hw]; exact z2_1)⟩; clear hw; clear BK101; clear HB; have BK101 := n0_; have HB := n1_; clear n0_ n1_))
  refine bodyPost_ret (results_cell_row rfl _ _ gb101 54 #[.int .i64 t102, .int .i64 t103, .int .i64 t104, .int .i64 t105] (0, 0) _ rfl (zL2 BK101.out) Try.underlying54 rfl (by kernel_rfl)) rfl ?_; exact ⟨z2_4, z2_1⟩
 ·rw [if_neg c3] at H
  have c3b0 : (a0 == 2) = false := beq_eq_false_iff_ne.mpr c3
  have c3b1 : (a0 != 2) = true := bne_iff_ne.mpr c3
  by_cases c12 : a1 < 4
  ·rw [if_pos c12] at H
   have c12b0 : decide (a1 < 4) = true := decide_eq_true c12; clear c12
   replace H := Option.bind_eq_some_iff.mp H
   obtain ⟨⟨t106, t107, t108, t109⟩, A130, H⟩ := H
   dsimp only at H
   have A13 := Aside0.mk A130
   clear A130; simp only [Option.some.injEq, Prod.mk.injEq] at H; obtain ⟨rfl, rfl, rfl, rfl⟩ := H; go_enter Try.func33, Try.ntmps33
   go_wp2_with (first | ((with_reducible refine gate_dst (N := 4) rfl ?_); refine box_event ?hg (N := 4) ?hd (cs := #[.int .i64 0, .int .i64 0, .int .i64 0, .int .i64 0]) (t := 54) ?hr ?_; (case hd => rfl); (case hg => rfl); (case hr => first | (go_simp; done) | (go_simp; rfl)); intro gb101 hg w14 hbox hb; have BK101 := Aside0.mk (hbox); have GW101 := Aside0.mk ((by rw [hg]; exact (below_size z2_2) : w.heap.size ≤ gb101)); have GE101 := Aside0.mk ((by rw [hg]; exact (below_size z2_2) : w.heap.size ≤ gb101)); replace HB := Aside0.mk (below_step z2_2 hb); clear hb hbox hg) | ((with_reducible refine gate_callee (f := 45) rfl ?_); refine goesL_ (some 14) rfl rfl Try.func45 (by kernel_rfl) rfl #[.int .i64 a1] rfl z2_3 ?_; (with_reducible refine (impl_unit.calls a1 t106 t107 t108 t109 _ A13.out).mono ?_); rintro e w15 ⟨rfl, hb⟩; refine ⟨_, rfl, ?_⟩; replace BK101 := bBZ_ BK101 hb; replace HB := Aside0.mk (below_step z2_1 hb); (try clear hb); obtain ⟨hcz16_0, hfz16_0, hcz17_1, hfz17_1, hcz18_2, hfz18_2, hcz19_3, hfz19_3⟩ := cAZ4_ BK101) | ((with_reducible refine gate_store (t := 54) (p := 4) rfl ?_); refine store_event (t := 54) (p := 4) (v := ?vo_w20) (w1 := ((((w15.setCell ⟨gb101, 0, none⟩ (.int .i64 t106)).setCell ⟨gb101, 1, none⟩ (.int .i64 t107)).setCell ⟨gb101, 2, none⟩ (.int .i64 t108)).setCell ⟨gb101, 3, none⟩ (.int .i64 t109))) ?hg ?ho ?hn ?hr ?_; (case ho => rfl); (case hg => rfl); (case hn => rfl); (case hr => first | (go_simp; done) | (go_simp; rfl)); intro w20 hw; have n0_ : Aside0 (w20.heap[gb101]? = some (.cells #[.int .i64 t106, .int .i64 t107, .int .i64 t108, .int .i64 t109] 54 (0, 0))) := ⟨z2_8⟩; have n1_ : Aside0 (Below w.heap.size w w20) := ⟨(by rw [hw]; exact z2_1)⟩; clear hw; clear BK101; clear HB; have BK101 := n0_; have HB := n1_; clear n0_ n1_))
   refine bodyPost_ret (results_cell_row rfl _ _ gb101 54 #[.int .i64 t106, .int .i64 t107, .int .i64 t108, .int .i64 t109] (0, 0) _ rfl (zL2 BK101.out) Try.underlying54 rfl (by kernel_rfl)) rfl ?_; exact ⟨z2_4, z2_1⟩
  ·rw [if_neg c12] at H
   have c12b0 : decide (a1 < 4) = false := decide_eq_false c12; clear c12
   by_cases c21 : a1 = 4
   ·rw [if_pos c21] at H
    have c21b0 : (a1 == 4) = true := beq_iff_eq.mpr c21
    have c21b1 : (a1 != 4) = false := bne_eq_false_iff_eq.mpr c21
    clear c21
    replace H := Option.bind_eq_some_iff.mp H
    obtain ⟨⟨t110, t111, t112, t113⟩, A220, H⟩ := H
    dsimp only at H
    have A22 := Aside0.mk A220
    clear A220
    replace H := Option.bind_eq_some_iff.mp H
    obtain ⟨⟨t114, t115, t116, t117⟩, A230, H⟩ := H
    dsimp only at H
    have A23 := Aside0.mk A230
    clear A230
    replace H := Option.bind_eq_some_iff.mp H
    obtain ⟨⟨t118, t119, t120, t121⟩, A240, H⟩ := H
    dsimp only at H
    have A24 := Aside0.mk A240
    clear A240; simp only [Option.some.injEq, Prod.mk.injEq] at H; obtain ⟨rfl, rfl, rfl, rfl⟩ := H; go_enter Try.func33, Try.ntmps33
    go_wp2_with (first | ((with_reducible refine gate_dst (N := 4) rfl ?_); refine box_event ?hg (N := 4) ?hd (cs := #[.int .i64 0, .int .i64 0, .int .i64 0, .int .i64 0]) (t := 54) ?hr ?_; (case hd => rfl); (case hg => rfl); (case hr => first | (go_simp; done) | (go_simp; rfl)); intro gb101 hg w25 hbox hb; have BK101 := Aside0.mk (hbox); have GW101 := Aside0.mk ((by rw [hg]; exact (below_size z2_2) : w.heap.size ≤ gb101)); have GE101 := Aside0.mk ((by rw [hg]; exact (below_size z2_2) : w.heap.size ≤ gb101)); replace HB := Aside0.mk (below_step z2_2 hb); clear hb hbox hg) | ((with_reducible refine gate_callee (f := 45) rfl ?_); refine goesL_ (some 18) rfl rfl Try.func45 (by kernel_rfl) rfl #[.int .i64 0] rfl z2_3 ?_; (with_reducible refine (impl_unit.calls 0 t110 t111 t112 t113 _ A22.out).mono ?_); rintro e w26 ⟨rfl, hb⟩; refine ⟨_, rfl, ?_⟩; replace BK101 := bBZ_ BK101 hb; replace HB := Aside0.mk (below_step z2_1 hb); (try clear hb)) | ((with_reducible refine gate_callee (f := 45) rfl ?_); refine goesL_ (some 19) rfl rfl Try.func45 (by kernel_rfl) rfl #[.int .i64 1] rfl z2_3 ?_; (with_reducible refine (impl_unit.calls 1 t114 t115 t116 t117 _ A23.out).mono ?_); rintro e w27 ⟨rfl, hb⟩; refine ⟨_, rfl, ?_⟩; replace BK101 := bBZ_ BK101 hb; replace HB := Aside0.mk (below_step z2_1 hb); (try clear hb)) | ((with_reducible refine gate_callee (f := 32) rfl ?_); refine goesL_ (some 20) rfl rfl Try.func32 (by kernel_rfl) rfl #[.agg #[.int .i64 t110, .int .i64 t111, .int .i64 t112, .int .i64 t113], .agg #[.int .i64 t114, .int .i64 t115, .int .i64 t116, .int .i64 t117]] rfl z2_3 ?_; (with_reducible refine (impl_vector_plus.calls t110 t111 t112 t113 t114 t115 t116 t117 t118 t119 t120 t121 _ A24.out).mono ?_); rintro e w28 ⟨rfl, hb⟩; refine ⟨_, rfl, ?_⟩; replace BK101 := bBZ_ BK101 hb; replace HB := Aside0.mk (below_step z2_1 hb); (try clear hb); obtain ⟨hcz29_0, hfz29_0, hcz30_1, hfz30_1, hcz31_2, hfz31_2, hcz32_3, hfz32_3⟩ := cAZ4_ BK101) | ((with_reducible refine gate_store (t := 54) (p := 4) rfl ?_); refine store_event (t := 54) (p := 4) (v := ?vo_w33) (w1 := ((((w28.setCell ⟨gb101, 0, none⟩ (.int .i64 t118)).setCell ⟨gb101, 1, none⟩ (.int .i64 t119)).setCell ⟨gb101, 2, none⟩ (.int .i64 t120)).setCell ⟨gb101, 3, none⟩ (.int .i64 t121))) ?hg ?ho ?hn ?hr ?_; (case ho => rfl); (case hg => rfl); (case hn => rfl); (case hr => first | (go_simp; done) | (go_simp; rfl)); intro w33 hw; have n0_ : Aside0 (w33.heap[gb101]? = some (.cells #[.int .i64 t118, .int .i64 t119, .int .i64 t120, .int .i64 t121] 54 (0, 0))) := ⟨z2_8⟩; have n1_ : Aside0 (Below w.heap.size w w33) := ⟨(by rw [hw]; exact z2_1)⟩; clear hw; clear BK101; clear HB; have BK101 := n0_; have HB := n1_; clear n0_ n1_))
    refine bodyPost_ret (results_cell_row rfl _ _ gb101 54 #[.int .i64 t118, .int .i64 t119, .int .i64 t120, .int .i64 t121] (0, 0) _ rfl (zL2 BK101.out) Try.underlying54 rfl (by kernel_rfl)) rfl ?_; exact ⟨z2_4, z2_1⟩
   ·rw [if_neg c21] at H
    have c21b0 : (a1 == 4) = false := beq_eq_false_iff_ne.mpr c21
    have c21b1 : (a1 != 4) = true := bne_iff_ne.mpr c21
    by_cases c34 : a1 = 5
    ·rw [if_pos c34] at H
     have c34b0 : (a1 == 5) = true := beq_iff_eq.mpr c34
     have c34b1 : (a1 != 5) = false := bne_eq_false_iff_eq.mpr c34
     clear c34
     replace H := Option.bind_eq_some_iff.mp H
     obtain ⟨⟨t122, t123, t124, t125⟩, A350, H⟩ := H
     dsimp only at H
     have A35 := Aside0.mk A350
     clear A350
     replace H := Option.bind_eq_some_iff.mp H
     obtain ⟨⟨t126, t127, t128, t129⟩, A360, H⟩ := H
     dsimp only at H
     have A36 := Aside0.mk A360
     clear A360
     replace H := Option.bind_eq_some_iff.mp H
     obtain ⟨⟨t130, t131, t132, t133⟩, A370, H⟩ := H
     dsimp only at H
     have A37 := Aside0.mk A370
     clear A370; simp only [Option.some.injEq, Prod.mk.injEq] at H; obtain ⟨rfl, rfl, rfl, rfl⟩ := H; go_enter Try.func33, Try.ntmps33
     go_wp2_with (first | ((with_reducible refine gate_dst (N := 4) rfl ?_); refine box_event ?hg (N := 4) ?hd (cs := #[.int .i64 0, .int .i64 0, .int .i64 0, .int .i64 0]) (t := 54) ?hr ?_; (case hd => rfl); (case hg => rfl); (case hr => first | (go_simp; done) | (go_simp; rfl)); intro gb101 hg w38 hbox hb; have BK101 := Aside0.mk (hbox); have GW101 := Aside0.mk ((by rw [hg]; exact (below_size z2_2) : w.heap.size ≤ gb101)); have GE101 := Aside0.mk ((by rw [hg]; exact (below_size z2_2) : w.heap.size ≤ gb101)); replace HB := Aside0.mk (below_step z2_2 hb); clear hb hbox hg) | ((with_reducible refine gate_callee (f := 45) rfl ?_); refine goesL_ (some 24) rfl rfl Try.func45 (by kernel_rfl) rfl #[.int .i64 2] rfl z2_3 ?_; (with_reducible refine (impl_unit.calls 2 t122 t123 t124 t125 _ A35.out).mono ?_); rintro e w39 ⟨rfl, hb⟩; refine ⟨_, rfl, ?_⟩; replace BK101 := bBZ_ BK101 hb; replace HB := Aside0.mk (below_step z2_1 hb); (try clear hb)) | ((with_reducible refine gate_callee (f := 45) rfl ?_); refine goesL_ (some 25) rfl rfl Try.func45 (by kernel_rfl) rfl #[.int .i64 3] rfl z2_3 ?_; (with_reducible refine (impl_unit.calls 3 t126 t127 t128 t129 _ A36.out).mono ?_); rintro e w40 ⟨rfl, hb⟩; refine ⟨_, rfl, ?_⟩; replace BK101 := bBZ_ BK101 hb; replace HB := Aside0.mk (below_step z2_1 hb); (try clear hb)) | ((with_reducible refine gate_callee (f := 32) rfl ?_); refine goesL_ (some 26) rfl rfl Try.func32 (by kernel_rfl) rfl #[.agg #[.int .i64 t122, .int .i64 t123, .int .i64 t124, .int .i64 t125], .agg #[.int .i64 t126, .int .i64 t127, .int .i64 t128, .int .i64 t129]] rfl z2_3 ?_; (with_reducible refine (impl_vector_plus.calls t122 t123 t124 t125 t126 t127 t128 t129 t130 t131 t132 t133 _ A37.out).mono ?_); rintro e w41 ⟨rfl, hb⟩; refine ⟨_, rfl, ?_⟩; replace BK101 := bBZ_ BK101 hb; replace HB := Aside0.mk (below_step z2_1 hb); (try clear hb); obtain ⟨hcz42_0, hfz42_0, hcz43_1, hfz43_1, hcz44_2, hfz44_2, hcz45_3, hfz45_3⟩ := cAZ4_ BK101) | ((with_reducible refine gate_store (t := 54) (p := 4) rfl ?_); refine store_event (t := 54) (p := 4) (v := ?vo_w46) (w1 := ((((w41.setCell ⟨gb101, 0, none⟩ (.int .i64 t130)).setCell ⟨gb101, 1, none⟩ (.int .i64 t131)).setCell ⟨gb101, 2, none⟩ (.int .i64 t132)).setCell ⟨gb101, 3, none⟩ (.int .i64 t133))) ?hg ?ho ?hn ?hr ?_; (case ho => rfl); (case hg => rfl); (case hn => rfl); (case hr => first | (go_simp; done) | (go_simp; rfl)); intro w46 hw; have n0_ : Aside0 (w46.heap[gb101]? = some (.cells #[.int .i64 t130, .int .i64 t131, .int .i64 t132, .int .i64 t133] 54 (0, 0))) := ⟨z2_8⟩; have n1_ : Aside0 (Below w.heap.size w w46) := ⟨(by rw [hw]; exact z2_1)⟩; clear hw; clear BK101; clear HB; have BK101 := n0_; have HB := n1_; clear n0_ n1_))
     refine bodyPost_ret (results_cell_row rfl _ _ gb101 54 #[.int .i64 t130, .int .i64 t131, .int .i64 t132, .int .i64 t133] (0, 0) _ rfl (zL2 BK101.out) Try.underlying54 rfl (by kernel_rfl)) rfl ?_; exact ⟨z2_4, z2_1⟩
    ·rw [if_neg c34] at H
     have c34b0 : (a1 == 5) = false := beq_eq_false_iff_ne.mpr c34
     have c34b1 : (a1 != 5) = true := bne_iff_ne.mpr c34
     replace H := Option.bind_eq_some_iff.mp H
     obtain ⟨⟨t134, t135, t136, t137⟩, A470, H⟩ := H
     dsimp only at H
     have A47 := Aside0.mk A470
     clear A470; simp only [Option.some.injEq, Prod.mk.injEq] at H; obtain ⟨rfl, rfl, rfl, rfl⟩ := H; go_enter Try.func33, Try.ntmps33
     go_wp2_with (first | ((with_reducible refine gate_dst (N := 4) rfl ?_); refine box_event ?hg (N := 4) ?hd (cs := #[.int .i64 0, .int .i64 0, .int .i64 0, .int .i64 0]) (t := 54) ?hr ?_; (case hd => rfl); (case hg => rfl); (case hr => first | (go_simp; done) | (go_simp; rfl)); intro gb101 hg w48 hbox hb; have BK101 := Aside0.mk (hbox); have GW101 := Aside0.mk ((by rw [hg]; exact (below_size z2_2) : w.heap.size ≤ gb101)); have GE101 := Aside0.mk ((by rw [hg]; exact (below_size z2_2) : w.heap.size ≤ gb101)); replace HB := Aside0.mk (below_step z2_2 hb); clear hb hbox hg) | ((with_reducible refine gate_callee (f := 44) rfl ?_); refine goesL_ (some 29) rfl rfl Try.func44 (by kernel_rfl) rfl #[.int .i64 (wrap64 (a1 - 4))] rfl z2_3 ?_; (with_reducible refine (impl_powers.calls (wrap64 (a1 - 4)) t134 t135 t136 t137 _ A47.out).mono ?_); rintro e w49 ⟨rfl, hb⟩; refine ⟨_, rfl, ?_⟩; replace BK101 := bBZ_ BK101 hb; replace HB := Aside0.mk (below_step z2_1 hb); (try clear hb); obtain ⟨hcz50_0, hfz50_0, hcz51_1, hfz51_1, hcz52_2, hfz52_2, hcz53_3, hfz53_3⟩ := cAZ4_ BK101) | ((with_reducible refine gate_store (t := 54) (p := 4) rfl ?_); refine store_event (t := 54) (p := 4) (v := ?vo_w54) (w1 := ((((w49.setCell ⟨gb101, 0, none⟩ (.int .i64 t134)).setCell ⟨gb101, 1, none⟩ (.int .i64 t135)).setCell ⟨gb101, 2, none⟩ (.int .i64 t136)).setCell ⟨gb101, 3, none⟩ (.int .i64 t137))) ?hg ?ho ?hn ?hr ?_; (case ho => rfl); (case hg => rfl); (case hn => rfl); (case hr => first | (go_simp; done) | (go_simp; rfl)); intro w54 hw; have n0_ : Aside0 (w54.heap[gb101]? = some (.cells #[.int .i64 t134, .int .i64 t135, .int .i64 t136, .int .i64 t137] 54 (0, 0))) := ⟨z2_8⟩; have n1_ : Aside0 (Below w.heap.size w w54) := ⟨(by rw [hw]; exact z2_1)⟩; clear hw; clear BK101; clear HB; have BK101 := n0_; have HB := n1_; clear n0_ n1_))
     refine bodyPost_ret (results_cell_row rfl _ _ gb101 54 #[.int .i64 t134, .int .i64 t135, .int .i64 t136, .int .i64 t137] (0, 0) _ rfl (zL2 BK101.out) Try.underlying54 rfl (by kernel_rfl)) rfl ?_; exact ⟨z2_4, z2_1⟩

/-! ### impl_rowsOf: function 50 -/
def impl_rowsOf.l0 : Nat → Int → List (S54) → List Int → Int → Int → Option ((List (S54)))
  | 0, _, _, _, _, _ => none
  | k + 1, x0, x5, x11, x12, x13 => if x13 < x12 then (if 0 ≤ x13 then (if x13 < (x11.length : Int) then ((impl_rowOf.f x0 (rd x11 x13)).bind fun bt142 => (if x5.length < 4398046511104 then (impl_rowsOf.l0 k x0 (x5 ++ [(⟨bt142.1, bt142.2.1, bt142.2.2.1, bt142.2.2.2⟩ : S54)]) x11 x12 (wrap64 (x13 + 1))) else (none))) else (none)) else (none)) else (some x5)
def impl_rowsOf.f (k : Nat) (a0 : Int) (l1 : List Int) : Option ((List (S54))) := if 0 ≤ (l1.length : Int) then (if ((l1.length : Int) : Int).toNat ≤ 8796093022208 then (impl_rowsOf.l0 k a0 (([] : List (S54))) l1 (l1.length : Int) 0) else (none)) else (none)
set_option maxHeartbeats 8000000 in
set_option maxRecDepth 100000 in
theorem impl_rowsOf.calls (k : Nat) (a0 : Int) (A1 : Option Addr) (c1 : Nat) (l1 : List Int) (r : List (S54)) (w : World) (hr1 : Kd.C (Kd.int .i64) w A1 l1.length l1) (hc1 : l1.length ≤ c1) (h : impl_rowsOf.f k a0 l1 = some r) :
  Calls Try.prog 50 #[.int .i64 a0, .slice A1 l1.length c1] w fun e w' => ∃ v0_ : Value, e = .returned (v0_) ∧ Kd.R k54 54 w' w.heap.size (fun _ => True) v0_ r ∧ Below w.heap.size w w' := by
 have HR1 := Aside0.mk hr1
 have HC1 := Aside0.mk hc1
 clear hr1 hc1
 have HB := Aside0.mk (Below.refl w.heap.size w)
 try unfold impl_rowsOf.f at h
 have H := h
 clear h
 obtain ⟨c3, H⟩ := ifP H
 have c3b0 := eq_true c3
 have c3b1 : decide (0 ≤ (l1.length : Int)) = true := decide_eq_true c3
 clear c3
 obtain ⟨c4, H⟩ := ifP H
 have c4b0 := eq_true c4
 have c4b1 : decide (((l1.length : Int) : Int).toNat ≤ 8796093022208) = true := decide_eq_true c4
 clear c4
 obtain ⟨y138, hy138⟩ : ∃ y_ : List (S54), y_ = (([] : List (S54))) := ⟨_, rfl⟩
 replace H : (impl_rowsOf.l0 k a0 y138 l1 (l1.length : Int) 0) = some r := yZZ_ hy138 H
 have Ny138 := Aside0.mk hy138
 clear hy138
 have H' := Aside0.mk H
 clear H
 go_enter Try.func50, Try.ntmps50
 go_wp2_with (first | ((with_reducible refine gate_dst (N := 10) rfl ?_); refine R_make0 k54 _ 54 rfl (N := 10) rfl 73 _ _ rfl (l1.length : Int) rfl rfl Try.underlying73 (.agg #[(.int .i64 0), (.int .i64 0), (.int .i64 0), (.int .i64 0)]) 32 info54 (by decide) (ok := fun _ => True) (okp := fun _ => True) (fun _ hk => hk) trivial (of_decide_eq_true z2_6) (Nat.le_trans (Nat.mul_le_mul_right _ (of_decide_eq_true z2_6 : (l1.length : Int).toNat ≤ 8796093022208)) (by omega)) (Below.refl _ _) (Nat.le_refl _) ?_; intro v139 w5 ho6 hb hg_ hnew_; clear hg_ hnew_; (first | rw [← Ny138.out] at ho6 | (simp only [Int.reduceToNat] at ho6; rw [← Ny138.out] at ho6)); have HO140 := Aside0.mk (Kd.R_lower ho6 (below_size z2_2)); replace HB := Aside0.mk (below_step z2_2 hb); clear hb ho6))
 go_loopg [5, 13] k (fun kq v5 v13 w' => ∃ (x5_1 : List (S54)) (x13_1 : Int), v13 = .int .i64 x13_1 ∧ Aside0 (impl_rowsOf.l0 kq a0 x5_1 l1 (l1.length : Int) x13_1 = some r) ∧ Aside0 (kq ≤ k) ∧ Aside0 (Kd.R k54 54 w' w.heap.size (fun _ => True) v5 x5_1) ∧ Aside0 (Below w.heap.size w w'))
 case atStart => exact ⟨(y138), (0), z2_7, H', ⟨Nat.le_refl _⟩, ⟨by (with_reducible repeat (first | apply Kd.R_alloc | apply Kd.R_drewN | apply Kd.R_drew)); exact HO140.out⟩, ⟨z2_2⟩⟩
 case round =>
  clear H'
  try clear c1
  try clear c3
  try clear c3b0
  try clear c3b1
  try clear c4
  try clear c4b0
  try clear c4b1
  obtain ⟨x5_1, x13_1, rfl, HA, HK1, HO_5, HB⟩ := hrel
  cases gk with
  | zero => exact absurd HA.out (by simp [impl_rowsOf.l0])
  | succ k1 =>
   have H := HA.out
   clear HA; simp only [impl_rowsOf.l0] at H
   by_cases c7 : x13_1 < (l1.length : Int)
   ·rw [if_pos c7] at H
    have c7b0 : decide (x13_1 < (l1.length : Int)) = true := decide_eq_true c7; clear c7; obtain ⟨c8, H⟩ := ifP H; have c8b0 : decide (0 ≤ x13_1) = true := decide_eq_true c8; clear c8; obtain ⟨c9, H⟩ := ifP H; have c9b0 : decide (x13_1 < (l1.length : Int)) = true := decide_eq_true c9; clear c9
    replace H := Option.bind_eq_some_iff.mp H
    obtain ⟨⟨t142, t143, t144, t145⟩, A100, H⟩ := H
    dsimp only at H
    have A10 := Aside0.mk A100
    clear A100; obtain ⟨c11, H⟩ := ifP H
    have LMc11 := Aside0.mk c11
    clear c11
    obtain ⟨y146, hy146⟩ : ∃ y_ : List (S54), y_ = (x5_1 ++ [(⟨t142, t143, t144, t145⟩ : S54)]) := ⟨_, rfl⟩
    replace H : (impl_rowsOf.l0 k1 a0 y146 l1 (l1.length : Int) (wrap64 (x13_1 + 1))) = some r := yZZ_ hy146 H
    have Ny146 := Aside0.mk hy146
    clear hy146
    have H' := Aside0.mk H
    clear H; have p141 : 0 ≤ (x13_1 : Int) := of_decide_eq_true z2_6; have q141 : x13_1 < (l1.length : Int) := of_decide_eq_true z2_6; obtain ⟨ad141, e141, hx141_0⟩ := Kd.at_int HR1.out x13_1 p141 q141; cases e141
    replace hx141_0 := (HB.out.cell (World.block_lt_of_cell? w _ hx141_0)).trans hx141_0
    replace p141 := eq_true p141
    replace q141 := eq_true q141
    go_wp2_with (first | ((with_reducible refine gate_callee (f := 33) rfl ?_); refine goesL_ (some 20) rfl rfl Try.func33 (by kernel_rfl) rfl #[.int .i64 a0, .int .i64 (rd l1 x13_1)] rfl z2_3 ?_; (with_reducible refine (impl_rowOf.calls a0 (rd l1 x13_1) t142 t143 t144 t145 _ A10.out).mono ?_); rintro e w12 ⟨rfl, hb⟩; refine ⟨_, rfl, ?_⟩; replace HO_5 := Aside0.mk (Kd.R_below z2_5 hb); replace HB := Aside0.mk (below_step z2_2 hb); (try clear hb)) | ((with_reducible refine gate_builtin (b := .append) (xs := #[.tmp 17, .tmp 21]) rfl ?_); at_builtin; refine Kd.R_append k54 (w0 := w) w.heap.size rfl (.tmp 17) (.tmp 21) 73 54 (.agg #[(.int .i64 0), (.int .i64 0), (.int .i64 0), (.int .i64 0)]) 32 rfl Try.underlying73 info54 rfl (by decide) (by omega) u5 x5_1 (⟨t142, t143, t144, t145⟩ : S54) [.int .i64 t142, .int .i64 t143, .int .i64 t144, .int .i64 t145] (fun _ => True) (fun _ => False) rfl rfl ?aP (fun _ hk => hk.elim) ?aF ?aO ?aB ?aS ?aL ?_; (case aP => exact k54_mkM _ _ _ (⟨t142, t143, t144, t145⟩ : S54)); (case aB => exact z2_2); (case aF => exact (fun _ _ => trivial)); (case aO => exact z2_5); (case aS => exact (below_size z2_2)); (case aL => have := LMc11.out; omega); intro v147 w13 ho hb hg hat; rw [← Ny146.out] at ho; have n0_ := Aside0.mk (hb); have n1_ := Aside0.mk (ho); clear HB; clear HO_5; have HB := n0_; have HO148 := n1_; clear n0_ n1_; clear ho hb hg hat))
    go_roundg k1
    case measure => have := HK1.out; omega
    case rel => exact ⟨(y146), (wrap64 (x13_1 + 1)), z2_7, H', ⟨by have := HK1.out; omega⟩, ⟨by (with_reducible repeat (first | apply Kd.R_alloc | apply Kd.R_drewN | apply Kd.R_drew)); exact HO148.out⟩, ⟨z2_2⟩⟩
   ·rw [if_neg c7] at H
    have c7b0 : decide (x13_1 < (l1.length : Int)) = false := decide_eq_false c7; clear c7
    obtain rfl := Option.some.inj H
    go_wp2
    go_ret; exact ⟨_, z2_4, z2_5, z2_2⟩

-- GIVEN: function 34 (impl_vector_times)

/-! ### impl_elementOf: function 54 -/
def impl_elementOf.f (a0 : Int) : Option (Int) := some (Int.tmod (wrap64 ((Int.tmod a0 31) + 31)) 31)
set_option maxHeartbeats 8000000 in
set_option maxRecDepth 100000 in
theorem impl_elementOf.calls (a0 : Int) (r : Int) (w : World) (h : impl_elementOf.f a0 = some r) :
  Calls Try.prog 54 #[.int .i64 a0] w fun e w' => e = .returned (.int .i64 r) ∧ Drawn0 w w' := by
 try unfold impl_elementOf.f at h
 have H := h
 clear h
 obtain rfl := Option.some.inj H
 go_enter Try.func54, Try.ntmps54
 go_wp2
 go_ret
 exact ⟨z2_7, by repeat (first | exact Drawn0.refl _ | apply Drawn0.step)⟩

/-! ### impl_element_times: function 46 -/
def impl_element_times.f (a0 : Int) (a1 : Int) : Option (Int) := (impl_elementOf.f (wrap64 (a0 * a1))).bind fun t149 => (some t149)
set_option maxHeartbeats 8000000 in
set_option maxRecDepth 100000 in
theorem impl_element_times.calls (a0 : Int) (a1 : Int) (r : Int) (w : World) (h : impl_element_times.f a0 a1 = some r) :
  Calls Try.prog 46 #[.int .i64 a0, .int .i64 a1] w fun e w' => e = .returned (.int .i64 r) ∧ Drawn0 w w' := by
 try unfold impl_element_times.f at h
 have H := h
 clear h
 replace H := Option.bind_eq_some_iff.mp H
 obtain ⟨t149, A30, H⟩ := H
 have A3 := Aside0.mk A30
 clear A30
 obtain rfl := Option.some.inj H
 go_enter Try.func46, Try.ntmps46
 go_wp2_with (first | ((with_reducible refine gate_callee (f := 54) rfl ?_); refine goesL_ (some 8) rfl rfl Try.func54 (by kernel_rfl) rfl #[.int .i64 (wrap64 (a0 * a1))] rfl z2_3 ?_; (with_reducible refine (impl_elementOf.calls (wrap64 (a0 * a1)) t149 _ A3.out).mono ?_); rintro e w' ⟨rfl, ⟨nd, rfl⟩⟩; refine ⟨_, rfl, ?_⟩))
 go_ret
 exact ⟨z2_7, by repeat (first | exact Drawn0.refl _ | apply Drawn0.step)⟩

-- GIVEN: function 56 (impl_vector_lead)

end Go.Proofs.Ytfgpffocieegdaa.PA
