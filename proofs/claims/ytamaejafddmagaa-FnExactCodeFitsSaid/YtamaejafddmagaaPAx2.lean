-- Written by a program of this session (after the manner of the kit's print, several laws in one text).
import Derived.Test.YtamaejafddmagaaPAx0
import Derived.Test.YtamaejafddmagaaGw
import Derived.Test.YtamaejafddmagaaGm
import Derived.Test.YtamaejafddmagaaGc
namespace Go.Proofs.Ytamaejafddmagaa.PA
open Go.RowKit Go.Proofs.YtamaejafddmagaaW.PrintWords Go.Proofs.YtamaejafddmagaaW.PrintLast Go.Proofs.YtamaejafddmagaaW.PrintMore
attribute [local go_sem] max2_int min2_int max_two min_two max_three min_three max_four min_four   -- for this text's walks alone
set_option linter.unusedVariables false
set_option linter.unusedSimpArgs false

/-! ### impl_rowOf: function 111 -/
theorem zL2 {p q : Prop} (h : q) (t : q → p := by intro h_; (with_reducible repeat first|refine blk_drewN ?_ _|refine blk_drew ?_|refine blk_alloc ?_ _); exact h_) : p := t h
theorem z2_1 {p : Prop} (h : p := by repeat (first | (with_reducible first | exact HB.out | apply below_alloc | apply pw_below_drewN | apply below_drew1 | refine below_set ?_ GE117.out) | exact HB.out)) : p := h
theorem z2_2 {p : Prop} (h : p := by repeat (first | (with_reducible first | exact HB.out | apply below_alloc | apply pw_below_drewN | apply below_drew1) | exact HB.out)) : p := h
theorem z2_3 {p : Prop} (h : p := by (try simp only [List.map_toArray, List.map_cons, List.map_nil]); first | done | rfl | (simp only [List.length_drop, List.length_take]; rfl)) : p := h
theorem z2_4 {p : Prop} (h : p := by first | rfl | (simp [errW_none, errW_some] <;> rfl) | (simp [*, errW_none, errW_some] <;> rfl)) : p := h
theorem z2_5 {p : Prop} (h : p := by rw [hw]; exact (bZ BK117.out)) : p := h
def impl_rowOf.f (a0 : Int) (a1 : Int) : Option (Int × Int × Int × Int) := if a0 = 2 then ((impl_powers.f (wrap64 (a1 + 1))).bind fun bt118 => (some (bt118.1, bt118.2.1, bt118.2.2.1, bt118.2.2.2))) else (if a1 < 4 then ((impl_unit.f a1).bind fun bt122 => (some (bt122.1, bt122.2.1, bt122.2.2.1, bt122.2.2.2))) else (if a1 = 4 then ((impl_unit.f 0).bind fun bt126 => ((impl_unit.f 1).bind fun bt130 => ((impl_vector_plus.f bt126.1 bt126.2.1 bt126.2.2.1 bt126.2.2.2 bt130.1 bt130.2.1 bt130.2.2.1 bt130.2.2.2).bind fun bt134 => (some (bt134.1, bt134.2.1, bt134.2.2.1, bt134.2.2.2))))) else (if a1 = 5 then ((impl_unit.f 2).bind fun bt138 => ((impl_unit.f 3).bind fun bt142 => ((impl_vector_plus.f bt138.1 bt138.2.1 bt138.2.2.1 bt138.2.2.2 bt142.1 bt142.2.1 bt142.2.2.1 bt142.2.2.2).bind fun bt146 => (some (bt146.1, bt146.2.1, bt146.2.2.1, bt146.2.2.2))))) else ((impl_powers.f (wrap64 (a1 - 4))).bind fun bt150 => (some (bt150.1, bt150.2.1, bt150.2.2.1, bt150.2.2.2))))))
set_option maxHeartbeats 8000000 in
set_option maxRecDepth 100000 in
theorem impl_rowOf.calls (a0 : Int) (a1 : Int) (r1 : Int) (r2 : Int) (r3 : Int) (r4 : Int) (w : World) (h : impl_rowOf.f a0 a1 = some (r1, r2, r3, r4)) :
  Calls Try.prog 111 #[.int .i64 a0, .int .i64 a1] w fun e w' => e = .returned (.agg #[.int .i64 r1, .int .i64 r2, .int .i64 r3, .int .i64 r4]) ∧ Below w.heap.size w w' := by
 have hu70 := Try.underlying70
 have HB := Aside0.mk (Below.refl w.heap.size w)
 have H : (if a0 = 2 then ((impl_powers.f (wrap64 (a1 + 1))).bind fun bt118 => (some (bt118.1, bt118.2.1, bt118.2.2.1, bt118.2.2.2))) else (if a1 < 4 then ((impl_unit.f a1).bind fun bt122 => (some (bt122.1, bt122.2.1, bt122.2.2.1, bt122.2.2.2))) else (if a1 = 4 then ((impl_unit.f 0).bind fun bt126 => ((impl_unit.f 1).bind fun bt130 => ((impl_vector_plus.f bt126.1 bt126.2.1 bt126.2.2.1 bt126.2.2.2 bt130.1 bt130.2.1 bt130.2.2.1 bt130.2.2.2).bind fun bt134 => (some (bt134.1, bt134.2.1, bt134.2.2.1, bt134.2.2.2))))) else (if a1 = 5 then ((impl_unit.f 2).bind fun bt138 => ((impl_unit.f 3).bind fun bt142 => ((impl_vector_plus.f bt138.1 bt138.2.1 bt138.2.2.1 bt138.2.2.2 bt142.1 bt142.2.1 bt142.2.2.1 bt142.2.2.2).bind fun bt146 => (some (bt146.1, bt146.2.1, bt146.2.2.1, bt146.2.2.2))))) else ((impl_powers.f (wrap64 (a1 - 4))).bind fun bt150 => (some (bt150.1, bt150.2.1, bt150.2.2.1, bt150.2.2.2))))))) = some (r1, r2, r3, r4) := h
 clear h
 by_cases c3 : a0 = 2
 ·rw [if_pos c3] at H
  have c3b0 : (a0 == 2) = true := beq_iff_eq.mpr c3
  have c3b1 : (a0 != 2) = false := bne_eq_false_iff_eq.mpr c3
  clear c3
  replace H := Option.bind_eq_some_iff.mp H
  obtain ⟨⟨t118, t119, t120, t121⟩, A40, H⟩ := H
  replace H : (some (t118, t119, t120, t121)) = some (r1, r2, r3, r4) := H
  have A4 := Aside0.mk A40
  clear A40
  simp only [Option.some.injEq, Prod.mk.injEq] at H
  obtain ⟨rfl, rfl, rfl, rfl⟩ := H
  go_enter Try.func111, Try.ntmps111
  go_wp2_with (first | ((with_reducible refine gate_dst (N := 4) rfl ?_); refine box_event ?hg (N := 4) ?hd (cs := #[.int .i64 0, .int .i64 0, .int .i64 0, .int .i64 0]) (t := 70) ?hr ?_; (case hd => rfl); (case hg => rfl); (case hr => first | (go_simp; done) | (go_simp; rfl)); intro gb117 hg w5 hbox hb; have BK117 := Aside0.mk (hbox); have GW117 := Aside0.mk ((by rw [hg]; exact (below_size z2_2) : w.heap.size ≤ gb117)); have GE117 := Aside0.mk ((by rw [hg]; exact (below_size z2_2) : w.heap.size ≤ gb117)); replace HB := Aside0.mk (below_step z2_2 hb); clear hb hbox hg) | ((with_reducible refine gate_callee (f := 128) rfl ?_); refine goesL_ (some 9) rfl rfl Try.func128 (by kernel_rfl) rfl #[.int .i64 (wrap64 (a1 + 1))] rfl z2_3 ?_; (with_reducible refine (impl_powers.calls (wrap64 (a1 + 1)) t118 t119 t120 t121 _ A4.out).mono ?_); rintro e w6 ⟨rfl, hb⟩; refine ⟨_, rfl, ?_⟩; replace BK117 := Aside0.mk (blk_below (g := gb117) (o := .cells #[.int .i64 0, .int .i64 0, .int .i64 0, .int .i64 0] 70 (0, 0)) (zL2 BK117.out) hb); replace HB := Aside0.mk (below_step z2_1 hb); (try clear hb); have hcz7_0 : w6.cell? ⟨gb117, 0, none⟩ = some (.int .i64 0) := (blk_cell BK117.out 0).trans rfl; have hfz7_0 := blk_frozen BK117.out 0; have hcz8_1 : w6.cell? ⟨gb117, 1, none⟩ = some (.int .i64 0) := (blk_cell BK117.out 1).trans rfl; have hfz8_1 := blk_frozen BK117.out 1; have hcz9_2 : w6.cell? ⟨gb117, 2, none⟩ = some (.int .i64 0) := (blk_cell BK117.out 2).trans rfl; have hfz9_2 := blk_frozen BK117.out 2; have hcz10_3 : w6.cell? ⟨gb117, 3, none⟩ = some (.int .i64 0) := (blk_cell BK117.out 3).trans rfl; have hfz10_3 := blk_frozen BK117.out 3) | ((with_reducible refine gate_store (t := 70) (p := 4) rfl ?_); refine store_event (t := 70) (p := 4) (v := ?vo_w11) (w1 := ((((w6.setCell ⟨gb117, 0, none⟩ (.int .i64 t118)).setCell ⟨gb117, 1, none⟩ (.int .i64 t119)).setCell ⟨gb117, 2, none⟩ (.int .i64 t120)).setCell ⟨gb117, 3, none⟩ (.int .i64 t121))) ?hg ?ho ?hn ?hr ?_; (case ho => rfl); (case hg => rfl); (case hn => rfl); (case hr => first | (go_simp; done) | (go_simp; rfl)); intro w11 hw; have n0_ : Aside0 (w11.heap[gb117]? = some (.cells #[.int .i64 t118, .int .i64 t119, .int .i64 t120, .int .i64 t121] 70 (0, 0))) := ⟨z2_5⟩; have n1_ : Aside0 (Below w.heap.size w w11) := ⟨(by rw [hw]; exact z2_1)⟩; clear hw; clear BK117; clear HB; have BK117 := n0_; have HB := n1_; clear n0_ n1_))
  refine bodyPost_ret (results_cell_row rfl _ _ gb117 70 #[.int .i64 t118, .int .i64 t119, .int .i64 t120, .int .i64 t121] (0, 0) _ rfl (zL2 BK117.out) Try.underlying70 rfl (by kernel_rfl)) rfl ?_
  exact ⟨z2_4, z2_1⟩
 ·rw [if_neg c3] at H
  have c3b0 : (a0 == 2) = false := beq_eq_false_iff_ne.mpr c3
  have c3b1 : (a0 != 2) = true := bne_iff_ne.mpr c3
  by_cases c12 : a1 < 4
  ·rw [if_pos c12] at H
   have c12b0 : decide (a1 < 4) = true := decide_eq_true c12
   clear c12
   replace H := Option.bind_eq_some_iff.mp H
   obtain ⟨⟨t122, t123, t124, t125⟩, A130, H⟩ := H
   replace H : (some (t122, t123, t124, t125)) = some (r1, r2, r3, r4) := H
   have A13 := Aside0.mk A130
   clear A130
   simp only [Option.some.injEq, Prod.mk.injEq] at H
   obtain ⟨rfl, rfl, rfl, rfl⟩ := H
   go_enter Try.func111, Try.ntmps111
   go_wp2_with (first | ((with_reducible refine gate_dst (N := 4) rfl ?_); refine box_event ?hg (N := 4) ?hd (cs := #[.int .i64 0, .int .i64 0, .int .i64 0, .int .i64 0]) (t := 70) ?hr ?_; (case hd => rfl); (case hg => rfl); (case hr => first | (go_simp; done) | (go_simp; rfl)); intro gb117 hg w14 hbox hb; have BK117 := Aside0.mk (hbox); have GW117 := Aside0.mk ((by rw [hg]; exact (below_size z2_2) : w.heap.size ≤ gb117)); have GE117 := Aside0.mk ((by rw [hg]; exact (below_size z2_2) : w.heap.size ≤ gb117)); replace HB := Aside0.mk (below_step z2_2 hb); clear hb hbox hg) | ((with_reducible refine gate_callee (f := 129) rfl ?_); refine goesL_ (some 14) rfl rfl Try.func129 (by kernel_rfl) rfl #[.int .i64 a1] rfl z2_3 ?_; (with_reducible refine (impl_unit.calls a1 t122 t123 t124 t125 _ A13.out).mono ?_); rintro e w15 ⟨rfl, hb⟩; refine ⟨_, rfl, ?_⟩; replace BK117 := Aside0.mk (blk_below (g := gb117) (o := .cells #[.int .i64 0, .int .i64 0, .int .i64 0, .int .i64 0] 70 (0, 0)) (zL2 BK117.out) hb); replace HB := Aside0.mk (below_step z2_1 hb); (try clear hb); have hcz16_0 : w15.cell? ⟨gb117, 0, none⟩ = some (.int .i64 0) := (blk_cell BK117.out 0).trans rfl; have hfz16_0 := blk_frozen BK117.out 0; have hcz17_1 : w15.cell? ⟨gb117, 1, none⟩ = some (.int .i64 0) := (blk_cell BK117.out 1).trans rfl; have hfz17_1 := blk_frozen BK117.out 1; have hcz18_2 : w15.cell? ⟨gb117, 2, none⟩ = some (.int .i64 0) := (blk_cell BK117.out 2).trans rfl; have hfz18_2 := blk_frozen BK117.out 2; have hcz19_3 : w15.cell? ⟨gb117, 3, none⟩ = some (.int .i64 0) := (blk_cell BK117.out 3).trans rfl; have hfz19_3 := blk_frozen BK117.out 3) | ((with_reducible refine gate_store (t := 70) (p := 4) rfl ?_); refine store_event (t := 70) (p := 4) (v := ?vo_w20) (w1 := ((((w15.setCell ⟨gb117, 0, none⟩ (.int .i64 t122)).setCell ⟨gb117, 1, none⟩ (.int .i64 t123)).setCell ⟨gb117, 2, none⟩ (.int .i64 t124)).setCell ⟨gb117, 3, none⟩ (.int .i64 t125))) ?hg ?ho ?hn ?hr ?_; (case ho => rfl); (case hg => rfl); (case hn => rfl); (case hr => first | (go_simp; done) | (go_simp; rfl)); intro w20 hw; have n0_ : Aside0 (w20.heap[gb117]? = some (.cells #[.int .i64 t122, .int .i64 t123, .int .i64 t124, .int .i64 t125] 70 (0, 0))) := ⟨z2_5⟩; have n1_ : Aside0 (Below w.heap.size w w20) := ⟨(by rw [hw]; exact z2_1)⟩; clear hw; clear BK117; clear HB; have BK117 := n0_; have HB := n1_; clear n0_ n1_))
   refine bodyPost_ret (results_cell_row rfl _ _ gb117 70 #[.int .i64 t122, .int .i64 t123, .int .i64 t124, .int .i64 t125] (0, 0) _ rfl (zL2 BK117.out) Try.underlying70 rfl (by kernel_rfl)) rfl ?_
   exact ⟨z2_4, z2_1⟩
  ·rw [if_neg c12] at H
   have c12b0 : decide (a1 < 4) = false := decide_eq_false c12
   clear c12
   by_cases c21 : a1 = 4
   ·rw [if_pos c21] at H
    have c21b0 : (a1 == 4) = true := beq_iff_eq.mpr c21
    have c21b1 : (a1 != 4) = false := bne_eq_false_iff_eq.mpr c21
    clear c21
    replace H := Option.bind_eq_some_iff.mp H
    obtain ⟨⟨t126, t127, t128, t129⟩, A220, H⟩ := H
    replace H : ((impl_unit.f 1).bind fun bt130 => ((impl_vector_plus.f t126 t127 t128 t129 bt130.1 bt130.2.1 bt130.2.2.1 bt130.2.2.2).bind fun bt134 => (some (bt134.1, bt134.2.1, bt134.2.2.1, bt134.2.2.2)))) = some (r1, r2, r3, r4) := H
    have A22 := Aside0.mk A220
    clear A220
    replace H := Option.bind_eq_some_iff.mp H
    obtain ⟨⟨t130, t131, t132, t133⟩, A230, H⟩ := H
    replace H : ((impl_vector_plus.f t126 t127 t128 t129 t130 t131 t132 t133).bind fun bt134 => (some (bt134.1, bt134.2.1, bt134.2.2.1, bt134.2.2.2))) = some (r1, r2, r3, r4) := H
    have A23 := Aside0.mk A230
    clear A230
    replace H := Option.bind_eq_some_iff.mp H
    obtain ⟨⟨t134, t135, t136, t137⟩, A240, H⟩ := H
    replace H : (some (t134, t135, t136, t137)) = some (r1, r2, r3, r4) := H
    have A24 := Aside0.mk A240
    clear A240
    simp only [Option.some.injEq, Prod.mk.injEq] at H
    obtain ⟨rfl, rfl, rfl, rfl⟩ := H
    go_enter Try.func111, Try.ntmps111
    go_wp2_with (first | ((with_reducible refine gate_dst (N := 4) rfl ?_); refine box_event ?hg (N := 4) ?hd (cs := #[.int .i64 0, .int .i64 0, .int .i64 0, .int .i64 0]) (t := 70) ?hr ?_; (case hd => rfl); (case hg => rfl); (case hr => first | (go_simp; done) | (go_simp; rfl)); intro gb117 hg w25 hbox hb; have BK117 := Aside0.mk (hbox); have GW117 := Aside0.mk ((by rw [hg]; exact (below_size z2_2) : w.heap.size ≤ gb117)); have GE117 := Aside0.mk ((by rw [hg]; exact (below_size z2_2) : w.heap.size ≤ gb117)); replace HB := Aside0.mk (below_step z2_2 hb); clear hb hbox hg) | ((with_reducible refine gate_callee (f := 129) rfl ?_); refine goesL_ (some 18) rfl rfl Try.func129 (by kernel_rfl) rfl #[.int .i64 0] rfl z2_3 ?_; (with_reducible refine (impl_unit.calls 0 t126 t127 t128 t129 _ A22.out).mono ?_); rintro e w26 ⟨rfl, hb⟩; refine ⟨_, rfl, ?_⟩; replace BK117 := Aside0.mk (blk_below (g := gb117) (o := .cells #[.int .i64 0, .int .i64 0, .int .i64 0, .int .i64 0] 70 (0, 0)) (zL2 BK117.out) hb); replace HB := Aside0.mk (below_step z2_1 hb); (try clear hb)) | ((with_reducible refine gate_callee (f := 129) rfl ?_); refine goesL_ (some 19) rfl rfl Try.func129 (by kernel_rfl) rfl #[.int .i64 1] rfl z2_3 ?_; (with_reducible refine (impl_unit.calls 1 t130 t131 t132 t133 _ A23.out).mono ?_); rintro e w27 ⟨rfl, hb⟩; refine ⟨_, rfl, ?_⟩; replace BK117 := Aside0.mk (blk_below (g := gb117) (o := .cells #[.int .i64 0, .int .i64 0, .int .i64 0, .int .i64 0] 70 (0, 0)) (zL2 BK117.out) hb); replace HB := Aside0.mk (below_step z2_1 hb); (try clear hb)) | ((with_reducible refine gate_callee (f := 119) rfl ?_); refine goesL_ (some 20) rfl rfl Try.func119 (by kernel_rfl) rfl #[.agg #[.int .i64 t126, .int .i64 t127, .int .i64 t128, .int .i64 t129], .agg #[.int .i64 t130, .int .i64 t131, .int .i64 t132, .int .i64 t133]] rfl z2_3 ?_; (with_reducible refine (impl_vector_plus.calls t126 t127 t128 t129 t130 t131 t132 t133 t134 t135 t136 t137 _ A24.out).mono ?_); rintro e w28 ⟨rfl, hb⟩; refine ⟨_, rfl, ?_⟩; replace BK117 := Aside0.mk (blk_below (g := gb117) (o := .cells #[.int .i64 0, .int .i64 0, .int .i64 0, .int .i64 0] 70 (0, 0)) (zL2 BK117.out) hb); replace HB := Aside0.mk (below_step z2_1 hb); (try clear hb); have hcz29_0 : w28.cell? ⟨gb117, 0, none⟩ = some (.int .i64 0) := (blk_cell BK117.out 0).trans rfl; have hfz29_0 := blk_frozen BK117.out 0; have hcz30_1 : w28.cell? ⟨gb117, 1, none⟩ = some (.int .i64 0) := (blk_cell BK117.out 1).trans rfl; have hfz30_1 := blk_frozen BK117.out 1; have hcz31_2 : w28.cell? ⟨gb117, 2, none⟩ = some (.int .i64 0) := (blk_cell BK117.out 2).trans rfl; have hfz31_2 := blk_frozen BK117.out 2; have hcz32_3 : w28.cell? ⟨gb117, 3, none⟩ = some (.int .i64 0) := (blk_cell BK117.out 3).trans rfl; have hfz32_3 := blk_frozen BK117.out 3) | ((with_reducible refine gate_store (t := 70) (p := 4) rfl ?_); refine store_event (t := 70) (p := 4) (v := ?vo_w33) (w1 := ((((w28.setCell ⟨gb117, 0, none⟩ (.int .i64 t134)).setCell ⟨gb117, 1, none⟩ (.int .i64 t135)).setCell ⟨gb117, 2, none⟩ (.int .i64 t136)).setCell ⟨gb117, 3, none⟩ (.int .i64 t137))) ?hg ?ho ?hn ?hr ?_; (case ho => rfl); (case hg => rfl); (case hn => rfl); (case hr => first | (go_simp; done) | (go_simp; rfl)); intro w33 hw; have n0_ : Aside0 (w33.heap[gb117]? = some (.cells #[.int .i64 t134, .int .i64 t135, .int .i64 t136, .int .i64 t137] 70 (0, 0))) := ⟨z2_5⟩; have n1_ : Aside0 (Below w.heap.size w w33) := ⟨(by rw [hw]; exact z2_1)⟩; clear hw; clear BK117; clear HB; have BK117 := n0_; have HB := n1_; clear n0_ n1_))
    refine bodyPost_ret (results_cell_row rfl _ _ gb117 70 #[.int .i64 t134, .int .i64 t135, .int .i64 t136, .int .i64 t137] (0, 0) _ rfl (zL2 BK117.out) Try.underlying70 rfl (by kernel_rfl)) rfl ?_
    exact ⟨z2_4, z2_1⟩
   ·rw [if_neg c21] at H
    have c21b0 : (a1 == 4) = false := beq_eq_false_iff_ne.mpr c21
    have c21b1 : (a1 != 4) = true := bne_iff_ne.mpr c21
    by_cases c34 : a1 = 5
    ·rw [if_pos c34] at H
     have c34b0 : (a1 == 5) = true := beq_iff_eq.mpr c34
     have c34b1 : (a1 != 5) = false := bne_eq_false_iff_eq.mpr c34
     clear c34
     replace H := Option.bind_eq_some_iff.mp H
     obtain ⟨⟨t138, t139, t140, t141⟩, A350, H⟩ := H
     replace H : ((impl_unit.f 3).bind fun bt142 => ((impl_vector_plus.f t138 t139 t140 t141 bt142.1 bt142.2.1 bt142.2.2.1 bt142.2.2.2).bind fun bt146 => (some (bt146.1, bt146.2.1, bt146.2.2.1, bt146.2.2.2)))) = some (r1, r2, r3, r4) := H
     have A35 := Aside0.mk A350
     clear A350
     replace H := Option.bind_eq_some_iff.mp H
     obtain ⟨⟨t142, t143, t144, t145⟩, A360, H⟩ := H
     replace H : ((impl_vector_plus.f t138 t139 t140 t141 t142 t143 t144 t145).bind fun bt146 => (some (bt146.1, bt146.2.1, bt146.2.2.1, bt146.2.2.2))) = some (r1, r2, r3, r4) := H
     have A36 := Aside0.mk A360
     clear A360
     replace H := Option.bind_eq_some_iff.mp H
     obtain ⟨⟨t146, t147, t148, t149⟩, A370, H⟩ := H
     replace H : (some (t146, t147, t148, t149)) = some (r1, r2, r3, r4) := H
     have A37 := Aside0.mk A370
     clear A370
     simp only [Option.some.injEq, Prod.mk.injEq] at H
     obtain ⟨rfl, rfl, rfl, rfl⟩ := H
     go_enter Try.func111, Try.ntmps111
     go_wp2_with (first | ((with_reducible refine gate_dst (N := 4) rfl ?_); refine box_event ?hg (N := 4) ?hd (cs := #[.int .i64 0, .int .i64 0, .int .i64 0, .int .i64 0]) (t := 70) ?hr ?_; (case hd => rfl); (case hg => rfl); (case hr => first | (go_simp; done) | (go_simp; rfl)); intro gb117 hg w38 hbox hb; have BK117 := Aside0.mk (hbox); have GW117 := Aside0.mk ((by rw [hg]; exact (below_size z2_2) : w.heap.size ≤ gb117)); have GE117 := Aside0.mk ((by rw [hg]; exact (below_size z2_2) : w.heap.size ≤ gb117)); replace HB := Aside0.mk (below_step z2_2 hb); clear hb hbox hg) | ((with_reducible refine gate_callee (f := 129) rfl ?_); refine goesL_ (some 24) rfl rfl Try.func129 (by kernel_rfl) rfl #[.int .i64 2] rfl z2_3 ?_; (with_reducible refine (impl_unit.calls 2 t138 t139 t140 t141 _ A35.out).mono ?_); rintro e w39 ⟨rfl, hb⟩; refine ⟨_, rfl, ?_⟩; replace BK117 := Aside0.mk (blk_below (g := gb117) (o := .cells #[.int .i64 0, .int .i64 0, .int .i64 0, .int .i64 0] 70 (0, 0)) (zL2 BK117.out) hb); replace HB := Aside0.mk (below_step z2_1 hb); (try clear hb)) | ((with_reducible refine gate_callee (f := 129) rfl ?_); refine goesL_ (some 25) rfl rfl Try.func129 (by kernel_rfl) rfl #[.int .i64 3] rfl z2_3 ?_; (with_reducible refine (impl_unit.calls 3 t142 t143 t144 t145 _ A36.out).mono ?_); rintro e w40 ⟨rfl, hb⟩; refine ⟨_, rfl, ?_⟩; replace BK117 := Aside0.mk (blk_below (g := gb117) (o := .cells #[.int .i64 0, .int .i64 0, .int .i64 0, .int .i64 0] 70 (0, 0)) (zL2 BK117.out) hb); replace HB := Aside0.mk (below_step z2_1 hb); (try clear hb)) | ((with_reducible refine gate_callee (f := 119) rfl ?_); refine goesL_ (some 26) rfl rfl Try.func119 (by kernel_rfl) rfl #[.agg #[.int .i64 t138, .int .i64 t139, .int .i64 t140, .int .i64 t141], .agg #[.int .i64 t142, .int .i64 t143, .int .i64 t144, .int .i64 t145]] rfl z2_3 ?_; (with_reducible refine (impl_vector_plus.calls t138 t139 t140 t141 t142 t143 t144 t145 t146 t147 t148 t149 _ A37.out).mono ?_); rintro e w41 ⟨rfl, hb⟩; refine ⟨_, rfl, ?_⟩; replace BK117 := Aside0.mk (blk_below (g := gb117) (o := .cells #[.int .i64 0, .int .i64 0, .int .i64 0, .int .i64 0] 70 (0, 0)) (zL2 BK117.out) hb); replace HB := Aside0.mk (below_step z2_1 hb); (try clear hb); have hcz42_0 : w41.cell? ⟨gb117, 0, none⟩ = some (.int .i64 0) := (blk_cell BK117.out 0).trans rfl; have hfz42_0 := blk_frozen BK117.out 0; have hcz43_1 : w41.cell? ⟨gb117, 1, none⟩ = some (.int .i64 0) := (blk_cell BK117.out 1).trans rfl; have hfz43_1 := blk_frozen BK117.out 1; have hcz44_2 : w41.cell? ⟨gb117, 2, none⟩ = some (.int .i64 0) := (blk_cell BK117.out 2).trans rfl; have hfz44_2 := blk_frozen BK117.out 2; have hcz45_3 : w41.cell? ⟨gb117, 3, none⟩ = some (.int .i64 0) := (blk_cell BK117.out 3).trans rfl; have hfz45_3 := blk_frozen BK117.out 3) | ((with_reducible refine gate_store (t := 70) (p := 4) rfl ?_); refine store_event (t := 70) (p := 4) (v := ?vo_w46) (w1 := ((((w41.setCell ⟨gb117, 0, none⟩ (.int .i64 t146)).setCell ⟨gb117, 1, none⟩ (.int .i64 t147)).setCell ⟨gb117, 2, none⟩ (.int .i64 t148)).setCell ⟨gb117, 3, none⟩ (.int .i64 t149))) ?hg ?ho ?hn ?hr ?_; (case ho => rfl); (case hg => rfl); (case hn => rfl); (case hr => first | (go_simp; done) | (go_simp; rfl)); intro w46 hw; have n0_ : Aside0 (w46.heap[gb117]? = some (.cells #[.int .i64 t146, .int .i64 t147, .int .i64 t148, .int .i64 t149] 70 (0, 0))) := ⟨z2_5⟩; have n1_ : Aside0 (Below w.heap.size w w46) := ⟨(by rw [hw]; exact z2_1)⟩; clear hw; clear BK117; clear HB; have BK117 := n0_; have HB := n1_; clear n0_ n1_))
     refine bodyPost_ret (results_cell_row rfl _ _ gb117 70 #[.int .i64 t146, .int .i64 t147, .int .i64 t148, .int .i64 t149] (0, 0) _ rfl (zL2 BK117.out) Try.underlying70 rfl (by kernel_rfl)) rfl ?_
     exact ⟨z2_4, z2_1⟩
    ·rw [if_neg c34] at H
     have c34b0 : (a1 == 5) = false := beq_eq_false_iff_ne.mpr c34
     have c34b1 : (a1 != 5) = true := bne_iff_ne.mpr c34
     replace H := Option.bind_eq_some_iff.mp H
     obtain ⟨⟨t150, t151, t152, t153⟩, A470, H⟩ := H
     replace H : (some (t150, t151, t152, t153)) = some (r1, r2, r3, r4) := H
     have A47 := Aside0.mk A470
     clear A470
     simp only [Option.some.injEq, Prod.mk.injEq] at H
     obtain ⟨rfl, rfl, rfl, rfl⟩ := H
     go_enter Try.func111, Try.ntmps111
     go_wp2_with (first | ((with_reducible refine gate_dst (N := 4) rfl ?_); refine box_event ?hg (N := 4) ?hd (cs := #[.int .i64 0, .int .i64 0, .int .i64 0, .int .i64 0]) (t := 70) ?hr ?_; (case hd => rfl); (case hg => rfl); (case hr => first | (go_simp; done) | (go_simp; rfl)); intro gb117 hg w48 hbox hb; have BK117 := Aside0.mk (hbox); have GW117 := Aside0.mk ((by rw [hg]; exact (below_size z2_2) : w.heap.size ≤ gb117)); have GE117 := Aside0.mk ((by rw [hg]; exact (below_size z2_2) : w.heap.size ≤ gb117)); replace HB := Aside0.mk (below_step z2_2 hb); clear hb hbox hg) | ((with_reducible refine gate_callee (f := 128) rfl ?_); refine goesL_ (some 29) rfl rfl Try.func128 (by kernel_rfl) rfl #[.int .i64 (wrap64 (a1 - 4))] rfl z2_3 ?_; (with_reducible refine (impl_powers.calls (wrap64 (a1 - 4)) t150 t151 t152 t153 _ A47.out).mono ?_); rintro e w49 ⟨rfl, hb⟩; refine ⟨_, rfl, ?_⟩; replace BK117 := Aside0.mk (blk_below (g := gb117) (o := .cells #[.int .i64 0, .int .i64 0, .int .i64 0, .int .i64 0] 70 (0, 0)) (zL2 BK117.out) hb); replace HB := Aside0.mk (below_step z2_1 hb); (try clear hb); have hcz50_0 : w49.cell? ⟨gb117, 0, none⟩ = some (.int .i64 0) := (blk_cell BK117.out 0).trans rfl; have hfz50_0 := blk_frozen BK117.out 0; have hcz51_1 : w49.cell? ⟨gb117, 1, none⟩ = some (.int .i64 0) := (blk_cell BK117.out 1).trans rfl; have hfz51_1 := blk_frozen BK117.out 1; have hcz52_2 : w49.cell? ⟨gb117, 2, none⟩ = some (.int .i64 0) := (blk_cell BK117.out 2).trans rfl; have hfz52_2 := blk_frozen BK117.out 2; have hcz53_3 : w49.cell? ⟨gb117, 3, none⟩ = some (.int .i64 0) := (blk_cell BK117.out 3).trans rfl; have hfz53_3 := blk_frozen BK117.out 3) | ((with_reducible refine gate_store (t := 70) (p := 4) rfl ?_); refine store_event (t := 70) (p := 4) (v := ?vo_w54) (w1 := ((((w49.setCell ⟨gb117, 0, none⟩ (.int .i64 t150)).setCell ⟨gb117, 1, none⟩ (.int .i64 t151)).setCell ⟨gb117, 2, none⟩ (.int .i64 t152)).setCell ⟨gb117, 3, none⟩ (.int .i64 t153))) ?hg ?ho ?hn ?hr ?_; (case ho => rfl); (case hg => rfl); (case hn => rfl); (case hr => first | (go_simp; done) | (go_simp; rfl)); intro w54 hw; have n0_ : Aside0 (w54.heap[gb117]? = some (.cells #[.int .i64 t150, .int .i64 t151, .int .i64 t152, .int .i64 t153] 70 (0, 0))) := ⟨z2_5⟩; have n1_ : Aside0 (Below w.heap.size w w54) := ⟨(by rw [hw]; exact z2_1)⟩; clear hw; clear BK117; clear HB; have BK117 := n0_; have HB := n1_; clear n0_ n1_))
     refine bodyPost_ret (results_cell_row rfl _ _ gb117 70 #[.int .i64 t150, .int .i64 t151, .int .i64 t152, .int .i64 t153] (0, 0) _ rfl (zL2 BK117.out) Try.underlying70 rfl (by kernel_rfl)) rfl ?_
     exact ⟨z2_4, z2_1⟩

-- GIVEN: function 113 (impl_vector_dot)

-- GIVEN: function 60 (impl_vector_lead)

-- GIVEN: function 93 (impl_vector_times)

/-! ### impl_elementOf: function 118 -/
def impl_elementOf.f (a0 : Int) : Option (Int) := some (Int.tmod (wrap64 ((Int.tmod a0 31) + 31)) 31)
set_option maxHeartbeats 8000000 in
set_option maxRecDepth 100000 in
theorem impl_elementOf.calls (a0 : Int) (r : Int) (w : World) (h : impl_elementOf.f a0 = some r) :
  Calls Try.prog 118 #[.int .i64 a0] w fun e w' => e = .returned (.int .i64 r) ∧ Drawn0 w w' := by
 have H : (some (Int.tmod (wrap64 ((Int.tmod a0 31) + 31)) 31)) = some r := h
 clear h
 obtain rfl := Option.some.inj H
 go_enter Try.func118, Try.ntmps118
 go_wp2
 go_ret
 exact ⟨by first | rfl | (simp; done) | (simp [*]; done), by repeat (first | exact Drawn0.refl _ | apply Drawn0.step)⟩

end Go.Proofs.Ytamaejafddmagaa.PA
