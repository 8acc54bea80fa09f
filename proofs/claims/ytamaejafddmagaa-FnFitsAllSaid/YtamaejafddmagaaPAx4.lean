-- Written by a program of this session (after the manner of the kit's print, several laws in one text).
import Derived.Test.YtamaejafddmagaaPAx0
import Derived.Test.YtamaejafddmagaaPAx3
import Derived.Test.YtamaejafddmagaaGw
import Derived.Test.YtamaejafddmagaaGm
import Derived.Test.YtamaejafddmagaaGc
namespace Go.Proofs.Ytamaejafddmagaa.PA
open Go.RowKit Go.Proofs.YtamaejafddmagaaW.PrintWords Go.Proofs.YtamaejafddmagaaW.PrintLast Go.Proofs.YtamaejafddmagaaW.PrintMore
attribute [local go_sem] max2_int min2_int max_two min_two max_three min_three max_four min_four   -- for this text's walks alone
set_option linter.unusedVariables false
set_option linter.unusedSimpArgs false

/-! ### impl_kindOk: function 68 -/
theorem zL4 {p q : Prop} (h : q) (t : q → p := by intro h_; (with_reducible repeat first|refine blk_drewN ?_ _|refine blk_drew ?_|refine blk_alloc ?_ _); exact h_) : p := t h
theorem z4_1 {p : Prop} (h : p := by repeat (first | (with_reducible first | exact HB.out | apply below_alloc | apply pw_below_drewN | apply below_drew1 | refine below_set ?_ GE167.out) | exact HB.out)) : p := h
theorem z4_2 {p : Prop} (h : p := by repeat (first | (with_reducible first | exact HB.out | apply below_alloc | apply pw_below_drewN | apply below_drew1) | exact HB.out)) : p := h
theorem z4_3 {p : Prop} (h : p := by (try simp only [List.map_toArray, List.map_cons, List.map_nil]); first | done | rfl | (simp only [List.length_drop, List.length_take]; rfl)) : p := h
theorem z4_4 {p : Prop} (h : p := by first | rfl | (simp [errW_none, errW_some] <;> rfl) | (simp [*, errW_none, errW_some] <;> rfl)) : p := h
theorem z4_5 {p : Prop} (h : p := by rw [hw]; exact (bZ BK167.out)) : p := h
def impl_kindOk.f (a0 : Int) : Option (Bool) := (impl_within.f a0 1 2).bind fun t166 => (some t166)
set_option maxHeartbeats 8000000 in
set_option maxRecDepth 100000 in
theorem impl_kindOk.calls (a0 : Int) (r : Bool) (w : World) (h : impl_kindOk.f a0 = some r) :
  Calls Try.prog 68 #[.int .i64 a0] w fun e w' => e = .returned (.bool r) ∧ Drawn0 w w' := by
 have H : ((impl_within.f a0 1 2).bind fun t166 => (some t166)) = some r := h
 clear h
 replace H := Option.bind_eq_some_iff.mp H
 obtain ⟨t166, A20, H⟩ := H
 replace H : (some t166) = some r := H
 have A2 := Aside0.mk A20
 clear A20
 obtain rfl := Option.some.inj H
 go_enter Try.func68, Try.ntmps68
 go_wp2_with (first | ((with_reducible refine gate_callee (f := 107) rfl ?_); refine goesL_ (some 4) rfl rfl Try.func107 (by kernel_rfl) rfl #[.int .i64 a0, .int .i64 1, .int .i64 2] rfl z4_3 ?_; (with_reducible refine (impl_within.calls a0 1 2 t166 _ A2.out).mono ?_); rintro e w' ⟨rfl, ⟨nd, rfl⟩⟩; refine ⟨_, rfl, ?_⟩))
 go_ret
 exact ⟨by first | rfl | (simp; done) | (simp [*]; done), by repeat (first | exact Drawn0.refl _ | apply Drawn0.step)⟩

-- GIVEN: function 119 (impl_vector_plus)

-- GIVEN: function 128 (impl_powers)

-- GIVEN: function 129 (impl_unit)

/-! ### impl_rowOf: function 111 -/
def impl_rowOf.f (a0 : Int) (a1 : Int) : Option (Int × Int × Int × Int) := if a0 = 2 then ((impl_powers.f (wrap64 (a1 + 1))).bind fun bt168 => (some (bt168.1, bt168.2.1, bt168.2.2.1, bt168.2.2.2))) else (if a1 < 4 then ((impl_unit.f a1).bind fun bt172 => (some (bt172.1, bt172.2.1, bt172.2.2.1, bt172.2.2.2))) else (if a1 = 4 then ((impl_unit.f 0).bind fun bt176 => ((impl_unit.f 1).bind fun bt180 => ((impl_vector_plus.f bt176.1 bt176.2.1 bt176.2.2.1 bt176.2.2.2 bt180.1 bt180.2.1 bt180.2.2.1 bt180.2.2.2).bind fun bt184 => (some (bt184.1, bt184.2.1, bt184.2.2.1, bt184.2.2.2))))) else (if a1 = 5 then ((impl_unit.f 2).bind fun bt188 => ((impl_unit.f 3).bind fun bt192 => ((impl_vector_plus.f bt188.1 bt188.2.1 bt188.2.2.1 bt188.2.2.2 bt192.1 bt192.2.1 bt192.2.2.1 bt192.2.2.2).bind fun bt196 => (some (bt196.1, bt196.2.1, bt196.2.2.1, bt196.2.2.2))))) else ((impl_powers.f (wrap64 (a1 - 4))).bind fun bt200 => (some (bt200.1, bt200.2.1, bt200.2.2.1, bt200.2.2.2))))))
set_option maxHeartbeats 8000000 in
set_option maxRecDepth 100000 in
theorem impl_rowOf.calls (a0 : Int) (a1 : Int) (r1 : Int) (r2 : Int) (r3 : Int) (r4 : Int) (w : World) (h : impl_rowOf.f a0 a1 = some (r1, r2, r3, r4)) :
  Calls Try.prog 111 #[.int .i64 a0, .int .i64 a1] w fun e w' => e = .returned (.agg #[.int .i64 r1, .int .i64 r2, .int .i64 r3, .int .i64 r4]) ∧ Below w.heap.size w w' := by
 have hu70 := Try.underlying70
 have HB := Aside0.mk (Below.refl w.heap.size w)
 have H : (if a0 = 2 then ((impl_powers.f (wrap64 (a1 + 1))).bind fun bt168 => (some (bt168.1, bt168.2.1, bt168.2.2.1, bt168.2.2.2))) else (if a1 < 4 then ((impl_unit.f a1).bind fun bt172 => (some (bt172.1, bt172.2.1, bt172.2.2.1, bt172.2.2.2))) else (if a1 = 4 then ((impl_unit.f 0).bind fun bt176 => ((impl_unit.f 1).bind fun bt180 => ((impl_vector_plus.f bt176.1 bt176.2.1 bt176.2.2.1 bt176.2.2.2 bt180.1 bt180.2.1 bt180.2.2.1 bt180.2.2.2).bind fun bt184 => (some (bt184.1, bt184.2.1, bt184.2.2.1, bt184.2.2.2))))) else (if a1 = 5 then ((impl_unit.f 2).bind fun bt188 => ((impl_unit.f 3).bind fun bt192 => ((impl_vector_plus.f bt188.1 bt188.2.1 bt188.2.2.1 bt188.2.2.2 bt192.1 bt192.2.1 bt192.2.2.1 bt192.2.2.2).bind fun bt196 => (some (bt196.1, bt196.2.1, bt196.2.2.1, bt196.2.2.2))))) else ((impl_powers.f (wrap64 (a1 - 4))).bind fun bt200 => (some (bt200.1, bt200.2.1, bt200.2.2.1, bt200.2.2.2))))))) = some (r1, r2, r3, r4) := h
 clear h
 by_cases c3 : a0 = 2
 ·rw [if_pos c3] at H
  have c3b0 : (a0 == 2) = true := beq_iff_eq.mpr c3
  have c3b1 : (a0 != 2) = false := bne_eq_false_iff_eq.mpr c3
  clear c3
  replace H := Option.bind_eq_some_iff.mp H
  obtain ⟨⟨t168, t169, t170, t171⟩, A40, H⟩ := H
  replace H : (some (t168, t169, t170, t171)) = some (r1, r2, r3, r4) := H
  have A4 := Aside0.mk A40
  clear A40
  simp only [Option.some.injEq, Prod.mk.injEq] at H
  obtain ⟨rfl, rfl, rfl, rfl⟩ := H
  go_enter Try.func111, Try.ntmps111
  go_wp2_with (first | ((with_reducible refine gate_dst (N := 4) rfl ?_); refine box_event ?hg (N := 4) ?hd (cs := #[.int .i64 0, .int .i64 0, .int .i64 0, .int .i64 0]) (t := 70) ?hr ?_; (case hd => rfl); (case hg => rfl); (case hr => first | (go_simp; done) | (go_simp; rfl)); intro gb167 hg w5 hbox hb; have BK167 := Aside0.mk (hbox); have GW167 := Aside0.mk ((by rw [hg]; exact (below_size z4_2) : w.heap.size ≤ gb167)); have GE167 := Aside0.mk ((by rw [hg]; exact (below_size z4_2) : w.heap.size ≤ gb167)); replace HB := Aside0.mk (below_step z4_2 hb); clear hb hbox hg) | ((with_reducible refine gate_callee (f := 128) rfl ?_); refine goesL_ (some 9) rfl rfl Try.func128 (by kernel_rfl) rfl #[.int .i64 (wrap64 (a1 + 1))] rfl z4_3 ?_; (with_reducible refine (impl_powers.calls (wrap64 (a1 + 1)) t168 t169 t170 t171 _ A4.out).mono ?_); rintro e w6 ⟨rfl, hb⟩; refine ⟨_, rfl, ?_⟩; replace BK167 := Aside0.mk (blk_below (g := gb167) (o := .cells #[.int .i64 0, .int .i64 0, .int .i64 0, .int .i64 0] 70 (0, 0)) (zL4 BK167.out) hb); replace HB := Aside0.mk (below_step z4_1 hb); (try clear hb); have hcz7_0 : w6.cell? ⟨gb167, 0, none⟩ = some (.int .i64 0) := (blk_cell BK167.out 0).trans rfl; have hfz7_0 := blk_frozen BK167.out 0; have hcz8_1 : w6.cell? ⟨gb167, 1, none⟩ = some (.int .i64 0) := (blk_cell BK167.out 1).trans rfl; have hfz8_1 := blk_frozen BK167.out 1; have hcz9_2 : w6.cell? ⟨gb167, 2, none⟩ = some (.int .i64 0) := (blk_cell BK167.out 2).trans rfl; have hfz9_2 := blk_frozen BK167.out 2; have hcz10_3 : w6.cell? ⟨gb167, 3, none⟩ = some (.int .i64 0) := (blk_cell BK167.out 3).trans rfl; have hfz10_3 := blk_frozen BK167.out 3) | ((with_reducible refine gate_store (t := 70) (p := 4) rfl ?_); refine store_event (t := 70) (p := 4) (v := ?vo_w11) (w1 := ((((w6.setCell ⟨gb167, 0, none⟩ (.int .i64 t168)).setCell ⟨gb167, 1, none⟩ (.int .i64 t169)).setCell ⟨gb167, 2, none⟩ (.int .i64 t170)).setCell ⟨gb167, 3, none⟩ (.int .i64 t171))) ?hg ?ho ?hn ?hr ?_; (case ho => rfl); (case hg => rfl); (case hn => rfl); (case hr => first | (go_simp; done) | (go_simp; rfl)); intro w11 hw; have n0_ : Aside0 (w11.heap[gb167]? = some (.cells #[.int .i64 t168, .int .i64 t169, .int .i64 t170, .int .i64 t171] 70 (0, 0))) := ⟨z4_5⟩; have n1_ : Aside0 (Below w.heap.size w w11) := ⟨(by rw [hw]; exact z4_1)⟩; clear hw; clear BK167; clear HB; have BK167 := n0_; have HB := n1_; clear n0_ n1_))
  refine bodyPost_ret (results_cell_row rfl _ _ gb167 70 #[.int .i64 t168, .int .i64 t169, .int .i64 t170, .int .i64 t171] (0, 0) _ rfl (zL4 BK167.out) Try.underlying70 rfl (by kernel_rfl)) rfl ?_
  exact ⟨z4_4, z4_1⟩
 ·rw [if_neg c3] at H
  have c3b0 : (a0 == 2) = false := beq_eq_false_iff_ne.mpr c3
  have c3b1 : (a0 != 2) = true := bne_iff_ne.mpr c3
  by_cases c12 : a1 < 4
  ·rw [if_pos c12] at H
   have c12b0 : decide (a1 < 4) = true := decide_eq_true c12
   clear c12
   replace H := Option.bind_eq_some_iff.mp H
   obtain ⟨⟨t172, t173, t174, t175⟩, A130, H⟩ := H
   replace H : (some (t172, t173, t174, t175)) = some (r1, r2, r3, r4) := H
   have A13 := Aside0.mk A130
   clear A130
   simp only [Option.some.injEq, Prod.mk.injEq] at H
   obtain ⟨rfl, rfl, rfl, rfl⟩ := H
   go_enter Try.func111, Try.ntmps111
   go_wp2_with (first | ((with_reducible refine gate_dst (N := 4) rfl ?_); refine box_event ?hg (N := 4) ?hd (cs := #[.int .i64 0, .int .i64 0, .int .i64 0, .int .i64 0]) (t := 70) ?hr ?_; (case hd => rfl); (case hg => rfl); (case hr => first | (go_simp; done) | (go_simp; rfl)); intro gb167 hg w14 hbox hb; have BK167 := Aside0.mk (hbox); have GW167 := Aside0.mk ((by rw [hg]; exact (below_size z4_2) : w.heap.size ≤ gb167)); have GE167 := Aside0.mk ((by rw [hg]; exact (below_size z4_2) : w.heap.size ≤ gb167)); replace HB := Aside0.mk (below_step z4_2 hb); clear hb hbox hg) | ((with_reducible refine gate_callee (f := 129) rfl ?_); refine goesL_ (some 14) rfl rfl Try.func129 (by kernel_rfl) rfl #[.int .i64 a1] rfl z4_3 ?_; (with_reducible refine (impl_unit.calls a1 t172 t173 t174 t175 _ A13.out).mono ?_); rintro e w15 ⟨rfl, hb⟩; refine ⟨_, rfl, ?_⟩; replace BK167 := Aside0.mk (blk_below (g := gb167) (o := .cells #[.int .i64 0, .int .i64 0, .int .i64 0, .int .i64 0] 70 (0, 0)) (zL4 BK167.out) hb); replace HB := Aside0.mk (below_step z4_1 hb); (try clear hb); have hcz16_0 : w15.cell? ⟨gb167, 0, none⟩ = some (.int .i64 0) := (blk_cell BK167.out 0).trans rfl; have hfz16_0 := blk_frozen BK167.out 0; have hcz17_1 : w15.cell? ⟨gb167, 1, none⟩ = some (.int .i64 0) := (blk_cell BK167.out 1).trans rfl; have hfz17_1 := blk_frozen BK167.out 1; have hcz18_2 : w15.cell? ⟨gb167, 2, none⟩ = some (.int .i64 0) := (blk_cell BK167.out 2).trans rfl; have hfz18_2 := blk_frozen BK167.out 2; have hcz19_3 : w15.cell? ⟨gb167, 3, none⟩ = some (.int .i64 0) := (blk_cell BK167.out 3).trans rfl; have hfz19_3 := blk_frozen BK167.out 3) | ((with_reducible refine gate_store (t := 70) (p := 4) rfl ?_); refine store_event (t := 70) (p := 4) (v := ?vo_w20) (w1 := ((((w15.setCell ⟨gb167, 0, none⟩ (.int .i64 t172)).setCell ⟨gb167, 1, none⟩ (.int .i64 t173)).setCell ⟨gb167, 2, none⟩ (.int .i64 t174)).setCell ⟨gb167, 3, none⟩ (.int .i64 t175))) ?hg ?ho ?hn ?hr ?_; (case ho => rfl); (case hg => rfl); (case hn => rfl); (case hr => first | (go_simp; done) | (go_simp; rfl)); intro w20 hw; have n0_ : Aside0 (w20.heap[gb167]? = some (.cells #[.int .i64 t172, .int .i64 t173, .int .i64 t174, .int .i64 t175] 70 (0, 0))) := ⟨z4_5⟩; have n1_ : Aside0 (Below w.heap.size w w20) := ⟨(by rw [hw]; exact z4_1)⟩; clear hw; clear BK167; clear HB; have BK167 := n0_; have HB := n1_; clear n0_ n1_))
   refine bodyPost_ret (results_cell_row rfl _ _ gb167 70 #[.int .i64 t172, .int .i64 t173, .int .i64 t174, .int .i64 t175] (0, 0) _ rfl (zL4 BK167.out) Try.underlying70 rfl (by kernel_rfl)) rfl ?_
   exact ⟨z4_4, z4_1⟩
  ·rw [if_neg c12] at H
   have c12b0 : decide (a1 < 4) = false := decide_eq_false c12
   clear c12
   by_cases c21 : a1 = 4
   ·rw [if_pos c21] at H
    have c21b0 : (a1 == 4) = true := beq_iff_eq.mpr c21
    have c21b1 : (a1 != 4) = false := bne_eq_false_iff_eq.mpr c21
    clear c21
    replace H := Option.bind_eq_some_iff.mp H
    obtain ⟨⟨t176, t177, t178, t179⟩, A220, H⟩ := H
    replace H : ((impl_unit.f 1).bind fun bt180 => ((impl_vector_plus.f t176 t177 t178 t179 bt180.1 bt180.2.1 bt180.2.2.1 bt180.2.2.2).bind fun bt184 => (some (bt184.1, bt184.2.1, bt184.2.2.1, bt184.2.2.2)))) = some (r1, r2, r3, r4) := H
    have A22 := Aside0.mk A220
    clear A220
    replace H := Option.bind_eq_some_iff.mp H
    obtain ⟨⟨t180, t181, t182, t183⟩, A230, H⟩ := H
    replace H : ((impl_vector_plus.f t176 t177 t178 t179 t180 t181 t182 t183).bind fun bt184 => (some (bt184.1, bt184.2.1, bt184.2.2.1, bt184.2.2.2))) = some (r1, r2, r3, r4) := H
    have A23 := Aside0.mk A230
    clear A230
    replace H := Option.bind_eq_some_iff.mp H
    obtain ⟨⟨t184, t185, t186, t187⟩, A240, H⟩ := H
    replace H : (some (t184, t185, t186, t187)) = some (r1, r2, r3, r4) := H
    have A24 := Aside0.mk A240
    clear A240
    simp only [Option.some.injEq, Prod.mk.injEq] at H
    obtain ⟨rfl, rfl, rfl, rfl⟩ := H
    go_enter Try.func111, Try.ntmps111
    go_wp2_with (first | ((with_reducible refine gate_dst (N := 4) rfl ?_); refine box_event ?hg (N := 4) ?hd (cs := #[.int .i64 0, .int .i64 0, .int .i64 0, .int .i64 0]) (t := 70) ?hr ?_; (case hd => rfl); (case hg => rfl); (case hr => first | (go_simp; done) | (go_simp; rfl)); intro gb167 hg w25 hbox hb; have BK167 := Aside0.mk (hbox); have GW167 := Aside0.mk ((by rw [hg]; exact (below_size z4_2) : w.heap.size ≤ gb167)); have GE167 := Aside0.mk ((by rw [hg]; exact (below_size z4_2) : w.heap.size ≤ gb167)); replace HB := Aside0.mk (below_step z4_2 hb); clear hb hbox hg) | ((with_reducible refine gate_callee (f := 129) rfl ?_); refine goesL_ (some 18) rfl rfl Try.func129 (by kernel_rfl) rfl #[.int .i64 0] rfl z4_3 ?_; (with_reducible refine (impl_unit.calls 0 t176 t177 t178 t179 _ A22.out).mono ?_); rintro e w26 ⟨rfl, hb⟩; refine ⟨_, rfl, ?_⟩; replace BK167 := Aside0.mk (blk_below (g := gb167) (o := .cells #[.int .i64 0, .int .i64 0, .int .i64 0, .int .i64 0] 70 (0, 0)) (zL4 BK167.out) hb); replace HB := Aside0.mk (below_step z4_1 hb); (try clear hb)) | ((with_reducible refine gate_callee (f := 129) rfl ?_); refine goesL_ (some 19) rfl rfl Try.func129 (by kernel_rfl) rfl #[.int .i64 1] rfl z4_3 ?_; (with_reducible refine (impl_unit.calls 1 t180 t181 t182 t183 _ A23.out).mono ?_); rintro e w27 ⟨rfl, hb⟩; refine ⟨_, rfl, ?_⟩; replace BK167 := Aside0.mk (blk_below (g := gb167) (o := .cells #[.int .i64 0, .int .i64 0, .int .i64 0, .int .i64 0] 70 (0, 0)) (zL4 BK167.out) hb); replace HB := Aside0.mk (below_step z4_1 hb); (try clear hb)) | ((with_reducible refine gate_callee (f := 119) rfl ?_); refine goesL_ (some 20) rfl rfl Try.func119 (by kernel_rfl) rfl #[.agg #[.int .i64 t176, .int .i64 t177, .int .i64 t178, .int .i64 t179], .agg #[.int .i64 t180, .int .i64 t181, .int .i64 t182, .int .i64 t183]] rfl z4_3 ?_; (with_reducible refine (impl_vector_plus.calls t176 t177 t178 t179 t180 t181 t182 t183 t184 t185 t186 t187 _ A24.out).mono ?_); rintro e w28 ⟨rfl, hb⟩; refine ⟨_, rfl, ?_⟩; replace BK167 := Aside0.mk (blk_below (g := gb167) (o := .cells #[.int .i64 0, .int .i64 0, .int .i64 0, .int .i64 0] 70 (0, 0)) (zL4 BK167.out) hb); replace HB := Aside0.mk (below_step z4_1 hb); (try clear hb); have hcz29_0 : w28.cell? ⟨gb167, 0, none⟩ = some (.int .i64 0) := (blk_cell BK167.out 0).trans rfl; have hfz29_0 := blk_frozen BK167.out 0; have hcz30_1 : w28.cell? ⟨gb167, 1, none⟩ = some (.int .i64 0) := (blk_cell BK167.out 1).trans rfl; have hfz30_1 := blk_frozen BK167.out 1; have hcz31_2 : w28.cell? ⟨gb167, 2, none⟩ = some (.int .i64 0) := (blk_cell BK167.out 2).trans rfl; have hfz31_2 := blk_frozen BK167.out 2; have hcz32_3 : w28.cell? ⟨gb167, 3, none⟩ = some (.int .i64 0) := (blk_cell BK167.out 3).trans rfl; have hfz32_3 := blk_frozen BK167.out 3) | ((with_reducible refine gate_store (t := 70) (p := 4) rfl ?_); refine store_event (t := 70) (p := 4) (v := ?vo_w33) (w1 := ((((w28.setCell ⟨gb167, 0, none⟩ (.int .i64 t184)).setCell ⟨gb167, 1, none⟩ (.int .i64 t185)).setCell ⟨gb167, 2, none⟩ (.int .i64 t186)).setCell ⟨gb167, 3, none⟩ (.int .i64 t187))) ?hg ?ho ?hn ?hr ?_; (case ho => rfl); (case hg => rfl); (case hn => rfl); (case hr => first | (go_simp; done) | (go_simp; rfl)); intro w33 hw; have n0_ : Aside0 (w33.heap[gb167]? = some (.cells #[.int .i64 t184, .int .i64 t185, .int .i64 t186, .int .i64 t187] 70 (0, 0))) := ⟨z4_5⟩; have n1_ : Aside0 (Below w.heap.size w w33) := ⟨(by rw [hw]; exact z4_1)⟩; clear hw; clear BK167; clear HB; have BK167 := n0_; have HB := n1_; clear n0_ n1_))
    refine bodyPost_ret (results_cell_row rfl _ _ gb167 70 #[.int .i64 t184, .int .i64 t185, .int .i64 t186, .int .i64 t187] (0, 0) _ rfl (zL4 BK167.out) Try.underlying70 rfl (by kernel_rfl)) rfl ?_
    exact ⟨z4_4, z4_1⟩
   ·rw [if_neg c21] at H
    have c21b0 : (a1 == 4) = false := beq_eq_false_iff_ne.mpr c21
    have c21b1 : (a1 != 4) = true := bne_iff_ne.mpr c21
    by_cases c34 : a1 = 5
    ·rw [if_pos c34] at H
     have c34b0 : (a1 == 5) = true := beq_iff_eq.mpr c34
     have c34b1 : (a1 != 5) = false := bne_eq_false_iff_eq.mpr c34
     clear c34
     replace H := Option.bind_eq_some_iff.mp H
     obtain ⟨⟨t188, t189, t190, t191⟩, A350, H⟩ := H
     replace H : ((impl_unit.f 3).bind fun bt192 => ((impl_vector_plus.f t188 t189 t190 t191 bt192.1 bt192.2.1 bt192.2.2.1 bt192.2.2.2).bind fun bt196 => (some (bt196.1, bt196.2.1, bt196.2.2.1, bt196.2.2.2)))) = some (r1, r2, r3, r4) := H
     have A35 := Aside0.mk A350
     clear A350
     replace H := Option.bind_eq_some_iff.mp H
     obtain ⟨⟨t192, t193, t194, t195⟩, A360, H⟩ := H
     replace H : ((impl_vector_plus.f t188 t189 t190 t191 t192 t193 t194 t195).bind fun bt196 => (some (bt196.1, bt196.2.1, bt196.2.2.1, bt196.2.2.2))) = some (r1, r2, r3, r4) := H
     have A36 := Aside0.mk A360
     clear A360
     replace H := Option.bind_eq_some_iff.mp H
     obtain ⟨⟨t196, t197, t198, t199⟩, A370, H⟩ := H
     replace H : (some (t196, t197, t198, t199)) = some (r1, r2, r3, r4) := H
     have A37 := Aside0.mk A370
     clear A370
     simp only [Option.some.injEq, Prod.mk.injEq] at H
     obtain ⟨rfl, rfl, rfl, rfl⟩ := H
     go_enter Try.func111, Try.ntmps111
     go_wp2_with (first | ((with_reducible refine gate_dst (N := 4) rfl ?_); refine box_event ?hg (N := 4) ?hd (cs := #[.int .i64 0, .int .i64 0, .int .i64 0, .int .i64 0]) (t := 70) ?hr ?_; (case hd => rfl); (case hg => rfl); (case hr => first | (go_simp; done) | (go_simp; rfl)); intro gb167 hg w38 hbox hb; have BK167 := Aside0.mk (hbox); have GW167 := Aside0.mk ((by rw [hg]; exact (below_size z4_2) : w.heap.size ≤ gb167)); have GE167 := Aside0.mk ((by rw [hg]; exact (below_size z4_2) : w.heap.size ≤ gb167)); replace HB := Aside0.mk (below_step z4_2 hb); clear hb hbox hg) | ((with_reducible refine gate_callee (f := 129) rfl ?_); refine goesL_ (some 24) rfl rfl Try.func129 (by kernel_rfl) rfl #[.int .i64 2] rfl z4_3 ?_; (with_reducible refine (impl_unit.calls 2 t188 t189 t190 t191 _ A35.out).mono ?_); rintro e w39 ⟨rfl, hb⟩; refine ⟨_, rfl, ?_⟩; replace BK167 := Aside0.mk (blk_below (g := gb167) (o := .cells #[.int .i64 0, .int .i64 0, .int .i64 0, .int .i64 0] 70 (0, 0)) (zL4 BK167.out) hb); replace HB := Aside0.mk (below_step z4_1 hb); (try clear hb)) | ((with_reducible refine gate_callee (f := 129) rfl ?_); refine goesL_ (some 25) rfl rfl Try.func129 (by kernel_rfl) rfl #[.int .i64 3] rfl z4_3 ?_; (with_reducible refine (impl_unit.calls 3 t192 t193 t194 t195 _ A36.out).mono ?_); rintro e w40 ⟨rfl, hb⟩; refine ⟨_, rfl, ?_⟩; replace BK167 := Aside0.mk (blk_below (g := gb167) (o := .cells #[.int .i64 0, .int .i64 0, .int .i64 0, .int .i64 0] 70 (0, 0)) (zL4 BK167.out) hb); replace HB := Aside0.mk (below_step z4_1 hb); (try clear hb)) | ((with_reducible refine gate_callee (f := 119) rfl ?_); refine goesL_ (some 26) rfl rfl Try.func119 (by kernel_rfl) rfl #[.agg #[.int .i64 t188, .int .i64 t189, .int .i64 t190, .int .i64 t191], .agg #[.int .i64 t192, .int .i64 t193, .int .i64 t194, .int .i64 t195]] rfl z4_3 ?_; (with_reducible refine (impl_vector_plus.calls t188 t189 t190 t191 t192 t193 t194 t195 t196 t197 t198 t199 _ A37.out).mono ?_); rintro e w41 ⟨rfl, hb⟩; refine ⟨_, rfl, ?_⟩; replace BK167 := Aside0.mk (blk_below (g := gb167) (o := .cells #[.int .i64 0, .int .i64 0, .int .i64 0, .int .i64 0] 70 (0, 0)) (zL4 BK167.out) hb); replace HB := Aside0.mk (below_step z4_1 hb); (try clear hb); have hcz42_0 : w41.cell? ⟨gb167, 0, none⟩ = some (.int .i64 0) := (blk_cell BK167.out 0).trans rfl; have hfz42_0 := blk_frozen BK167.out 0; have hcz43_1 : w41.cell? ⟨gb167, 1, none⟩ = some (.int .i64 0) := (blk_cell BK167.out 1).trans rfl; have hfz43_1 := blk_frozen BK167.out 1; have hcz44_2 : w41.cell? ⟨gb167, 2, none⟩ = some (.int .i64 0) := (blk_cell BK167.out 2).trans rfl; have hfz44_2 := blk_frozen BK167.out 2; have hcz45_3 : w41.cell? ⟨gb167, 3, none⟩ = some (.int .i64 0) := (blk_cell BK167.out 3).trans rfl; have hfz45_3 := blk_frozen BK167.out 3) | ((with_reducible refine gate_store (t := 70) (p := 4) rfl ?_); refine store_event (t := 70) (p := 4) (v := ?vo_w46) (w1 := ((((w41.setCell ⟨gb167, 0, none⟩ (.int .i64 t196)).setCell ⟨gb167, 1, none⟩ (.int .i64 t197)).setCell ⟨gb167, 2, none⟩ (.int .i64 t198)).setCell ⟨gb167, 3, none⟩ (.int .i64 t199))) ?hg ?ho ?hn ?hr ?_; (case ho => rfl); (case hg => rfl); (case hn => rfl); (case hr => first | (go_simp; done) | (go_simp; rfl)); intro w46 hw; have n0_ : Aside0 (w46.heap[gb167]? = some (.cells #[.int .i64 t196, .int .i64 t197, .int .i64 t198, .int .i64 t199] 70 (0, 0))) := ⟨z4_5⟩; have n1_ : Aside0 (Below w.heap.size w w46) := ⟨(by rw [hw]; exact z4_1)⟩; clear hw; clear BK167; clear HB; have BK167 := n0_; have HB := n1_; clear n0_ n1_))
     refine bodyPost_ret (results_cell_row rfl _ _ gb167 70 #[.int .i64 t196, .int .i64 t197, .int .i64 t198, .int .i64 t199] (0, 0) _ rfl (zL4 BK167.out) Try.underlying70 rfl (by kernel_rfl)) rfl ?_
     exact ⟨z4_4, z4_1⟩
    ·rw [if_neg c34] at H
     have c34b0 : (a1 == 5) = false := beq_eq_false_iff_ne.mpr c34
     have c34b1 : (a1 != 5) = true := bne_iff_ne.mpr c34
     replace H := Option.bind_eq_some_iff.mp H
     obtain ⟨⟨t200, t201, t202, t203⟩, A470, H⟩ := H
     replace H : (some (t200, t201, t202, t203)) = some (r1, r2, r3, r4) := H
     have A47 := Aside0.mk A470
     clear A470
     simp only [Option.some.injEq, Prod.mk.injEq] at H
     obtain ⟨rfl, rfl, rfl, rfl⟩ := H
     go_enter Try.func111, Try.ntmps111
     go_wp2_with (first | ((with_reducible refine gate_dst (N := 4) rfl ?_); refine box_event ?hg (N := 4) ?hd (cs := #[.int .i64 0, .int .i64 0, .int .i64 0, .int .i64 0]) (t := 70) ?hr ?_; (case hd => rfl); (case hg => rfl); (case hr => first | (go_simp; done) | (go_simp; rfl)); intro gb167 hg w48 hbox hb; have BK167 := Aside0.mk (hbox); have GW167 := Aside0.mk ((by rw [hg]; exact (below_size z4_2) : w.heap.size ≤ gb167)); have GE167 := Aside0.mk ((by rw [hg]; exact (below_size z4_2) : w.heap.size ≤ gb167)); replace HB := Aside0.mk (below_step z4_2 hb); clear hb hbox hg) | ((with_reducible refine gate_callee (f := 128) rfl ?_); refine goesL_ (some 29) rfl rfl Try.func128 (by kernel_rfl) rfl #[.int .i64 (wrap64 (a1 - 4))] rfl z4_3 ?_; (with_reducible refine (impl_powers.calls (wrap64 (a1 - 4)) t200 t201 t202 t203 _ A47.out).mono ?_); rintro e w49 ⟨rfl, hb⟩; refine ⟨_, rfl, ?_⟩; replace BK167 := Aside0.mk (blk_below (g := gb167) (o := .cells #[.int .i64 0, .int .i64 0, .int .i64 0, .int .i64 0] 70 (0, 0)) (zL4 BK167.out) hb); replace HB := Aside0.mk (below_step z4_1 hb); (try clear hb); have hcz50_0 : w49.cell? ⟨gb167, 0, none⟩ = some (.int .i64 0) := (blk_cell BK167.out 0).trans rfl; have hfz50_0 := blk_frozen BK167.out 0; have hcz51_1 : w49.cell? ⟨gb167, 1, none⟩ = some (.int .i64 0) := (blk_cell BK167.out 1).trans rfl; have hfz51_1 := blk_frozen BK167.out 1; have hcz52_2 : w49.cell? ⟨gb167, 2, none⟩ = some (.int .i64 0) := (blk_cell BK167.out 2).trans rfl; have hfz52_2 := blk_frozen BK167.out 2; have hcz53_3 : w49.cell? ⟨gb167, 3, none⟩ = some (.int .i64 0) := (blk_cell BK167.out 3).trans rfl; have hfz53_3 := blk_frozen BK167.out 3) | ((with_reducible refine gate_store (t := 70) (p := 4) rfl ?_); refine store_event (t := 70) (p := 4) (v := ?vo_w54) (w1 := ((((w49.setCell ⟨gb167, 0, none⟩ (.int .i64 t200)).setCell ⟨gb167, 1, none⟩ (.int .i64 t201)).setCell ⟨gb167, 2, none⟩ (.int .i64 t202)).setCell ⟨gb167, 3, none⟩ (.int .i64 t203))) ?hg ?ho ?hn ?hr ?_; (case ho => rfl); (case hg => rfl); (case hn => rfl); (case hr => first | (go_simp; done) | (go_simp; rfl)); intro w54 hw; have n0_ : Aside0 (w54.heap[gb167]? = some (.cells #[.int .i64 t200, .int .i64 t201, .int .i64 t202, .int .i64 t203] 70 (0, 0))) := ⟨z4_5⟩; have n1_ : Aside0 (Below w.heap.size w w54) := ⟨(by rw [hw]; exact z4_1)⟩; clear hw; clear BK167; clear HB; have BK167 := n0_; have HB := n1_; clear n0_ n1_))
     refine bodyPost_ret (results_cell_row rfl _ _ gb167 70 #[.int .i64 t200, .int .i64 t201, .int .i64 t202, .int .i64 t203] (0, 0) _ rfl (zL4 BK167.out) Try.underlying70 rfl (by kernel_rfl)) rfl ?_
     exact ⟨z4_4, z4_1⟩

-- GIVEN: function 113 (impl_vector_dot)

end Go.Proofs.Ytamaejafddmagaa.PA
