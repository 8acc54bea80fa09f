-- Written by a program of this session (after the manner of the kit's print, several laws in one text).
import Derived.Test.YtamaejafddmagaaPAx0
import Derived.Test.YtamaejafddmagaaPAx4
import Derived.Test.YtamaejafddmagaaGw
import Derived.Test.YtamaejafddmagaaGm
import Derived.Test.YtamaejafddmagaaGc
namespace Go.Proofs.Ytamaejafddmagaa.PA
open Go.RowKit Go.Proofs.YtamaejafddmagaaW.PrintWords Go.Proofs.YtamaejafddmagaaW.PrintLast Go.Proofs.YtamaejafddmagaaW.PrintMore
attribute [local go_sem] max2_int min2_int max_two min_two max_three min_three max_four min_four   -- for this text's walks alone
set_option linter.unusedVariables false
set_option linter.unusedSimpArgs false

/-! ### impl_rank: function 61 -/
theorem zL5 {p q : Prop} (h : q) (t : q → p := by intro h_; (with_reducible repeat first|refine blk_drewN ?_ _|refine blk_drew ?_|refine blk_alloc ?_ _); exact h_) : p := t h
theorem z5_1 {p : Prop} (h : p := by repeat (first | (with_reducible first | exact HB.out | apply below_alloc | apply pw_below_drewN | apply below_drew1) | exact HB.out)) : p := h
theorem z5_2 {p : Prop} (h : p := by repeat (first | (with_reducible first | exact HB.out | apply below_alloc | apply pw_below_drewN | apply below_drew1 | refine below_set ?_ GE197.out) | exact HB.out)) : p := h
theorem z5_3 {p : Prop} (h : p := by (try simp only [List.map_toArray, List.map_cons, List.map_nil]); first | done | rfl | (simp only [List.length_drop, List.length_take]; rfl)) : p := h
theorem z5_4 {p : Prop} (h : p := by first | rfl | (simp [errW_none, errW_some] <;> rfl) | (simp [*, errW_none, errW_some] <;> rfl)) : p := h
theorem z5_5 {p : Prop} (h : p := by (with_reducible repeat (first | apply Kd.R_alloc | apply Kd.R_drewN | apply Kd.R_drew)); exact HO_5.out) : p := h
theorem z5_6 {p : Prop} (h : p := by first | (with_reducible assumption) | assumption) : p := h
theorem z5_7 {p : Prop} (h : p := by first | rfl | (simp; done) | (simp [*]; done)) : p := h
theorem z5_8 {p : Prop} (h : p := by rw [hw]; exact (bZ BK197.out)) : p := h
def impl_rank.f (k : Nat) (l0 : List (S70)) : Option (Int) := (impl_spanOf.f k l0).bind fun bt190 => (some (bt190.2.length : Int))
set_option maxHeartbeats 8000000 in
set_option maxRecDepth 100000 in
theorem impl_rank.calls (k : Nat) (A0 : Option Addr) (c0 : Nat) (l0 : List (S70)) (r : Int) (w : World) (hr0 : Kd.C k70 w A0 l0.length l0) (hc0 : l0.length ≤ c0) (h : impl_rank.f k l0 = some r) :
  Calls Try.prog 61 #[.slice A0 l0.length c0] w fun e w' => e = .returned (.int .i64 r) ∧ Below w.heap.size w w' := by
 have HR0 := Aside0.mk hr0
 have HC0 := Aside0.mk hc0
 clear hr0 hc0
 have HB := Aside0.mk (Below.refl w.heap.size w)
 have H : ((impl_spanOf.f k l0).bind fun bt190 => (some (bt190.2.length : Int))) = some r := h
 clear h
 replace H := Option.bind_eq_some_iff.mp H
 obtain ⟨⟨t190, t193⟩, A20, H⟩ := H
 replace H : (some (t193.length : Int)) = some r := H
 have A2 := Aside0.mk A20
 clear A20
 obtain rfl := Option.some.inj H
 go_enter Try.func61, Try.ntmps61
 go_wp2_with (first | ((with_reducible refine gate_callee (f := 65) rfl ?_); refine goesL_ (some 4) rfl rfl Try.func65 (by kernel_rfl) rfl #[.slice A0 l0.length c0] rfl z5_3 ?_; (with_reducible refine (impl_spanOf.calls k _ _ l0 t190 t193 _ ?side1 ?side2 A2.out).mono ?_); (case side1 => exact cZ (HR0.out)); (case side2 => exact HC0.out); rintro e w3 ⟨v191, v194, gb196, rfl, hbox, hgr, ho0, ho1, hb⟩; refine ⟨_, rfl, ?_⟩; have HO192 := Aside0.mk (Kd.R_lower ho0 (below_size z5_1)); have HO195 := Aside0.mk (Kd.R_lower ho1 (below_size z5_1)); have BK196 := Aside0.mk (hbox); have GW196 := Aside0.mk ((Nat.le_trans ((below_size z5_1) : w.heap.size ≤ _) hgr : w.heap.size ≤ gb196)); have GE196 := Aside0.mk ((Nat.le_trans ((below_size z5_1) : w.heap.size ≤ _) hgr : w.heap.size ≤ gb196)); replace HB := Aside0.mk (below_step z5_1 hb); (try clear hb); (try clear ho0); (try clear ho1); have hcz4_1 : w3.cell? ⟨gb196, 1, none⟩ = some (v194) := (blk_cell BK196.out 1).trans rfl; have hfz4_1 := blk_frozen BK196.out 1; obtain ⟨Ao5, co5, eo5⟩ := Kd.R_slice HO195.out; subst eo5))
 go_ret
 exact ⟨z5_4, by repeat (first | (with_reducible first | exact HB.out | apply below_alloc | apply pw_below_drewN | apply below_drew1 | refine below_set ?_ GE196.out) | exact HB.out)⟩

-- GIVEN: function 128 (impl_powers)

-- GIVEN: function 129 (impl_unit)

/-! ### impl_rowOf: function 111 -/
def impl_rowOf.f (a0 : Int) (a1 : Int) : Option (Int × Int × Int × Int) := if a0 = 2 then ((impl_powers.f (wrap64 (a1 + 1))).bind fun bt198 => (some (bt198.1, bt198.2.1, bt198.2.2.1, bt198.2.2.2))) else (if a1 < 4 then ((impl_unit.f a1).bind fun bt202 => (some (bt202.1, bt202.2.1, bt202.2.2.1, bt202.2.2.2))) else (if a1 = 4 then ((impl_unit.f 0).bind fun bt206 => ((impl_unit.f 1).bind fun bt210 => ((impl_vector_plus.f bt206.1 bt206.2.1 bt206.2.2.1 bt206.2.2.2 bt210.1 bt210.2.1 bt210.2.2.1 bt210.2.2.2).bind fun bt214 => (some (bt214.1, bt214.2.1, bt214.2.2.1, bt214.2.2.2))))) else (if a1 = 5 then ((impl_unit.f 2).bind fun bt218 => ((impl_unit.f 3).bind fun bt222 => ((impl_vector_plus.f bt218.1 bt218.2.1 bt218.2.2.1 bt218.2.2.2 bt222.1 bt222.2.1 bt222.2.2.1 bt222.2.2.2).bind fun bt226 => (some (bt226.1, bt226.2.1, bt226.2.2.1, bt226.2.2.2))))) else ((impl_powers.f (wrap64 (a1 - 4))).bind fun bt230 => (some (bt230.1, bt230.2.1, bt230.2.2.1, bt230.2.2.2))))))
set_option maxHeartbeats 8000000 in
set_option maxRecDepth 100000 in
theorem impl_rowOf.calls (a0 : Int) (a1 : Int) (r1 : Int) (r2 : Int) (r3 : Int) (r4 : Int) (w : World) (h : impl_rowOf.f a0 a1 = some (r1, r2, r3, r4)) :
  Calls Try.prog 111 #[.int .i64 a0, .int .i64 a1] w fun e w' => e = .returned (.agg #[.int .i64 r1, .int .i64 r2, .int .i64 r3, .int .i64 r4]) ∧ Below w.heap.size w w' := by
 have hu70 := Try.underlying70
 have HB := Aside0.mk (Below.refl w.heap.size w)
 have H : (if a0 = 2 then ((impl_powers.f (wrap64 (a1 + 1))).bind fun bt198 => (some (bt198.1, bt198.2.1, bt198.2.2.1, bt198.2.2.2))) else (if a1 < 4 then ((impl_unit.f a1).bind fun bt202 => (some (bt202.1, bt202.2.1, bt202.2.2.1, bt202.2.2.2))) else (if a1 = 4 then ((impl_unit.f 0).bind fun bt206 => ((impl_unit.f 1).bind fun bt210 => ((impl_vector_plus.f bt206.1 bt206.2.1 bt206.2.2.1 bt206.2.2.2 bt210.1 bt210.2.1 bt210.2.2.1 bt210.2.2.2).bind fun bt214 => (some (bt214.1, bt214.2.1, bt214.2.2.1, bt214.2.2.2))))) else (if a1 = 5 then ((impl_unit.f 2).bind fun bt218 => ((impl_unit.f 3).bind fun bt222 => ((impl_vector_plus.f bt218.1 bt218.2.1 bt218.2.2.1 bt218.2.2.2 bt222.1 bt222.2.1 bt222.2.2.1 bt222.2.2.2).bind fun bt226 => (some (bt226.1, bt226.2.1, bt226.2.2.1, bt226.2.2.2))))) else ((impl_powers.f (wrap64 (a1 - 4))).bind fun bt230 => (some (bt230.1, bt230.2.1, bt230.2.2.1, bt230.2.2.2))))))) = some (r1, r2, r3, r4) := h
 clear h
 by_cases c3 : a0 = 2
 ·rw [if_pos c3] at H
  have c3b0 : (a0 == 2) = true := beq_iff_eq.mpr c3
  have c3b1 : (a0 != 2) = false := bne_eq_false_iff_eq.mpr c3
  clear c3
  replace H := Option.bind_eq_some_iff.mp H
  obtain ⟨⟨t198, t199, t200, t201⟩, A40, H⟩ := H
  replace H : (some (t198, t199, t200, t201)) = some (r1, r2, r3, r4) := H
  have A4 := Aside0.mk A40
  clear A40
  simp only [Option.some.injEq, Prod.mk.injEq] at H
  obtain ⟨rfl, rfl, rfl, rfl⟩ := H
  go_enter Try.func111, Try.ntmps111
  go_wp2_with (first | ((with_reducible refine gate_dst (N := 4) rfl ?_); refine box_event ?hg (N := 4) ?hd (cs := #[.int .i64 0, .int .i64 0, .int .i64 0, .int .i64 0]) (t := 70) ?hr ?_; (case hd => rfl); (case hg => rfl); (case hr => first | (go_simp; done) | (go_simp; rfl)); intro gb197 hg w5 hbox hb; have BK197 := Aside0.mk (hbox); have GW197 := Aside0.mk ((by rw [hg]; exact (below_size z5_1) : w.heap.size ≤ gb197)); have GE197 := Aside0.mk ((by rw [hg]; exact (below_size z5_1) : w.heap.size ≤ gb197)); replace HB := Aside0.mk (below_step z5_1 hb); clear hb hbox hg) | ((with_reducible refine gate_callee (f := 128) rfl ?_); refine goesL_ (some 9) rfl rfl Try.func128 (by kernel_rfl) rfl #[.int .i64 (wrap64 (a1 + 1))] rfl z5_3 ?_; (with_reducible refine (impl_powers.calls (wrap64 (a1 + 1)) t198 t199 t200 t201 _ A4.out).mono ?_); rintro e w6 ⟨rfl, hb⟩; refine ⟨_, rfl, ?_⟩; replace BK197 := Aside0.mk (blk_below (g := gb197) (o := .cells #[.int .i64 0, .int .i64 0, .int .i64 0, .int .i64 0] 70 (0, 0)) (zL5 BK197.out) hb); replace HB := Aside0.mk (below_step z5_2 hb); (try clear hb); have hcz7_0 : w6.cell? ⟨gb197, 0, none⟩ = some (.int .i64 0) := (blk_cell BK197.out 0).trans rfl; have hfz7_0 := blk_frozen BK197.out 0; have hcz8_1 : w6.cell? ⟨gb197, 1, none⟩ = some (.int .i64 0) := (blk_cell BK197.out 1).trans rfl; have hfz8_1 := blk_frozen BK197.out 1; have hcz9_2 : w6.cell? ⟨gb197, 2, none⟩ = some (.int .i64 0) := (blk_cell BK197.out 2).trans rfl; have hfz9_2 := blk_frozen BK197.out 2; have hcz10_3 : w6.cell? ⟨gb197, 3, none⟩ = some (.int .i64 0) := (blk_cell BK197.out 3).trans rfl; have hfz10_3 := blk_frozen BK197.out 3) | ((with_reducible refine gate_store (t := 70) (p := 4) rfl ?_); refine store_event (t := 70) (p := 4) (v := ?vo_w11) (w1 := ((((w6.setCell ⟨gb197, 0, none⟩ (.int .i64 t198)).setCell ⟨gb197, 1, none⟩ (.int .i64 t199)).setCell ⟨gb197, 2, none⟩ (.int .i64 t200)).setCell ⟨gb197, 3, none⟩ (.int .i64 t201))) ?hg ?ho ?hn ?hr ?_; (case ho => rfl); (case hg => rfl); (case hn => rfl); (case hr => first | (go_simp; done) | (go_simp; rfl)); intro w11 hw; have n0_ : Aside0 (w11.heap[gb197]? = some (.cells #[.int .i64 t198, .int .i64 t199, .int .i64 t200, .int .i64 t201] 70 (0, 0))) := ⟨z5_8⟩; have n1_ : Aside0 (Below w.heap.size w w11) := ⟨(by rw [hw]; exact z5_2)⟩; clear hw; clear BK197; clear HB; have BK197 := n0_; have HB := n1_; clear n0_ n1_))
  refine bodyPost_ret (results_cell_row rfl _ _ gb197 70 #[.int .i64 t198, .int .i64 t199, .int .i64 t200, .int .i64 t201] (0, 0) _ rfl (zL5 BK197.out) Try.underlying70 rfl (by kernel_rfl)) rfl ?_
  exact ⟨z5_4, z5_2⟩
 ·rw [if_neg c3] at H
  have c3b0 : (a0 == 2) = false := beq_eq_false_iff_ne.mpr c3
  have c3b1 : (a0 != 2) = true := bne_iff_ne.mpr c3
  by_cases c12 : a1 < 4
  ·rw [if_pos c12] at H
   have c12b0 : decide (a1 < 4) = true := decide_eq_true c12
   clear c12
   replace H := Option.bind_eq_some_iff.mp H
   obtain ⟨⟨t202, t203, t204, t205⟩, A130, H⟩ := H
   replace H : (some (t202, t203, t204, t205)) = some (r1, r2, r3, r4) := H
   have A13 := Aside0.mk A130
   clear A130
   simp only [Option.some.injEq, Prod.mk.injEq] at H
   obtain ⟨rfl, rfl, rfl, rfl⟩ := H
   go_enter Try.func111, Try.ntmps111
   go_wp2_with (first | ((with_reducible refine gate_dst (N := 4) rfl ?_); refine box_event ?hg (N := 4) ?hd (cs := #[.int .i64 0, .int .i64 0, .int .i64 0, .int .i64 0]) (t := 70) ?hr ?_; (case hd => rfl); (case hg => rfl); (case hr => first | (go_simp; done) | (go_simp; rfl)); intro gb197 hg w14 hbox hb; have BK197 := Aside0.mk (hbox); have GW197 := Aside0.mk ((by rw [hg]; exact (below_size z5_1) : w.heap.size ≤ gb197)); have GE197 := Aside0.mk ((by rw [hg]; exact (below_size z5_1) : w.heap.size ≤ gb197)); replace HB := Aside0.mk (below_step z5_1 hb); clear hb hbox hg) | ((with_reducible refine gate_callee (f := 129) rfl ?_); refine goesL_ (some 14) rfl rfl Try.func129 (by kernel_rfl) rfl #[.int .i64 a1] rfl z5_3 ?_; (with_reducible refine (impl_unit.calls a1 t202 t203 t204 t205 _ A13.out).mono ?_); rintro e w15 ⟨rfl, hb⟩; refine ⟨_, rfl, ?_⟩; replace BK197 := Aside0.mk (blk_below (g := gb197) (o := .cells #[.int .i64 0, .int .i64 0, .int .i64 0, .int .i64 0] 70 (0, 0)) (zL5 BK197.out) hb); replace HB := Aside0.mk (below_step z5_2 hb); (try clear hb); have hcz16_0 : w15.cell? ⟨gb197, 0, none⟩ = some (.int .i64 0) := (blk_cell BK197.out 0).trans rfl; have hfz16_0 := blk_frozen BK197.out 0; have hcz17_1 : w15.cell? ⟨gb197, 1, none⟩ = some (.int .i64 0) := (blk_cell BK197.out 1).trans rfl; have hfz17_1 := blk_frozen BK197.out 1; have hcz18_2 : w15.cell? ⟨gb197, 2, none⟩ = some (.int .i64 0) := (blk_cell BK197.out 2).trans rfl; have hfz18_2 := blk_frozen BK197.out 2; have hcz19_3 : w15.cell? ⟨gb197, 3, none⟩ = some (.int .i64 0) := (blk_cell BK197.out 3).trans rfl; have hfz19_3 := blk_frozen BK197.out 3) | ((with_reducible refine gate_store (t := 70) (p := 4) rfl ?_); refine store_event (t := 70) (p := 4) (v := ?vo_w20) (w1 := ((((w15.setCell ⟨gb197, 0, none⟩ (.int .i64 t202)).setCell ⟨gb197, 1, none⟩ (.int .i64 t203)).setCell ⟨gb197, 2, none⟩ (.int .i64 t204)).setCell ⟨gb197, 3, none⟩ (.int .i64 t205))) ?hg ?ho ?hn ?hr ?_; (case ho => rfl); (case hg => rfl); (case hn => rfl); (case hr => first | (go_simp; done) | (go_simp; rfl)); intro w20 hw; have n0_ : Aside0 (w20.heap[gb197]? = some (.cells #[.int .i64 t202, .int .i64 t203, .int .i64 t204, .int .i64 t205] 70 (0, 0))) := ⟨z5_8⟩; have n1_ : Aside0 (Below w.heap.size w w20) := ⟨(by rw [hw]; exact z5_2)⟩; clear hw; clear BK197; clear HB; have BK197 := n0_; have HB := n1_; clear n0_ n1_))
   refine bodyPost_ret (results_cell_row rfl _ _ gb197 70 #[.int .i64 t202, .int .i64 t203, .int .i64 t204, .int .i64 t205] (0, 0) _ rfl (zL5 BK197.out) Try.underlying70 rfl (by kernel_rfl)) rfl ?_
   exact ⟨z5_4, z5_2⟩
  ·rw [if_neg c12] at H
   have c12b0 : decide (a1 < 4) = false := decide_eq_false c12
   clear c12
   by_cases c21 : a1 = 4
   ·rw [if_pos c21] at H
    have c21b0 : (a1 == 4) = true := beq_iff_eq.mpr c21
    have c21b1 : (a1 != 4) = false := bne_eq_false_iff_eq.mpr c21
    clear c21
    replace H := Option.bind_eq_some_iff.mp H
    obtain ⟨⟨t206, t207, t208, t209⟩, A220, H⟩ := H
    replace H : ((impl_unit.f 1).bind fun bt210 => ((impl_vector_plus.f t206 t207 t208 t209 bt210.1 bt210.2.1 bt210.2.2.1 bt210.2.2.2).bind fun bt214 => (some (bt214.1, bt214.2.1, bt214.2.2.1, bt214.2.2.2)))) = some (r1, r2, r3, r4) := H
    have A22 := Aside0.mk A220
    clear A220
    replace H := Option.bind_eq_some_iff.mp H
    obtain ⟨⟨t210, t211, t212, t213⟩, A230, H⟩ := H
    replace H : ((impl_vector_plus.f t206 t207 t208 t209 t210 t211 t212 t213).bind fun bt214 => (some (bt214.1, bt214.2.1, bt214.2.2.1, bt214.2.2.2))) = some (r1, r2, r3, r4) := H
    have A23 := Aside0.mk A230
    clear A230
    replace H := Option.bind_eq_some_iff.mp H
    obtain ⟨⟨t214, t215, t216, t217⟩, A240, H⟩ := H
    replace H : (some (t214, t215, t216, t217)) = some (r1, r2, r3, r4) := H
    have A24 := Aside0.mk A240
    clear A240
    simp only [Option.some.injEq, Prod.mk.injEq] at H
    obtain ⟨rfl, rfl, rfl, rfl⟩ := H
    go_enter Try.func111, Try.ntmps111
    go_wp2_with (first | ((with_reducible refine gate_dst (N := 4) rfl ?_); refine box_event ?hg (N := 4) ?hd (cs := #[.int .i64 0, .int .i64 0, .int .i64 0, .int .i64 0]) (t := 70) ?hr ?_; (case hd => rfl); (case hg => rfl); (case hr => first | (go_simp; done) | (go_simp; rfl)); intro gb197 hg w25 hbox hb; have BK197 := Aside0.mk (hbox); have GW197 := Aside0.mk ((by rw [hg]; exact (below_size z5_1) : w.heap.size ≤ gb197)); have GE197 := Aside0.mk ((by rw [hg]; exact (below_size z5_1) : w.heap.size ≤ gb197)); replace HB := Aside0.mk (below_step z5_1 hb); clear hb hbox hg) | ((with_reducible refine gate_callee (f := 129) rfl ?_); refine goesL_ (some 18) rfl rfl Try.func129 (by kernel_rfl) rfl #[.int .i64 0] rfl z5_3 ?_; (with_reducible refine (impl_unit.calls 0 t206 t207 t208 t209 _ A22.out).mono ?_); rintro e w26 ⟨rfl, hb⟩; refine ⟨_, rfl, ?_⟩; replace BK197 := Aside0.mk (blk_below (g := gb197) (o := .cells #[.int .i64 0, .int .i64 0, .int .i64 0, .int .i64 0] 70 (0, 0)) (zL5 BK197.out) hb); replace HB := Aside0.mk (below_step z5_2 hb); (try clear hb)) | ((with_reducible refine gate_callee (f := 129) rfl ?_); refine goesL_ (some 19) rfl rfl Try.func129 (by kernel_rfl) rfl #[.int .i64 1] rfl z5_3 ?_; (with_reducible refine (impl_unit.calls 1 t210 t211 t212 t213 _ A23.out).mono ?_); rintro e w27 ⟨rfl, hb⟩; refine ⟨_, rfl, ?_⟩; replace BK197 := Aside0.mk (blk_below (g := gb197) (o := .cells #[.int .i64 0, .int .i64 0, .int .i64 0, .int .i64 0] 70 (0, 0)) (zL5 BK197.out) hb); replace HB := Aside0.mk (below_step z5_2 hb); (try clear hb)) | ((with_reducible refine gate_callee (f := 119) rfl ?_); refine goesL_ (some 20) rfl rfl Try.func119 (by kernel_rfl) rfl #[.agg #[.int .i64 t206, .int .i64 t207, .int .i64 t208, .int .i64 t209], .agg #[.int .i64 t210, .int .i64 t211, .int .i64 t212, .int .i64 t213]] rfl z5_3 ?_; (with_reducible refine (impl_vector_plus.calls t206 t207 t208 t209 t210 t211 t212 t213 t214 t215 t216 t217 _ A24.out).mono ?_); rintro e w28 ⟨rfl, hb⟩; refine ⟨_, rfl, ?_⟩; replace BK197 := Aside0.mk (blk_below (g := gb197) (o := .cells #[.int .i64 0, .int .i64 0, .int .i64 0, .int .i64 0] 70 (0, 0)) (zL5 BK197.out) hb); replace HB := Aside0.mk (below_step z5_2 hb); (try clear hb); have hcz29_0 : w28.cell? ⟨gb197, 0, none⟩ = some (.int .i64 0) := (blk_cell BK197.out 0).trans rfl; have hfz29_0 := blk_frozen BK197.out 0; have hcz30_1 : w28.cell? ⟨gb197, 1, none⟩ = some (.int .i64 0) := (blk_cell BK197.out 1).trans rfl; have hfz30_1 := blk_frozen BK197.out 1; have hcz31_2 : w28.cell? ⟨gb197, 2, none⟩ = some (.int .i64 0) := (blk_cell BK197.out 2).trans rfl; have hfz31_2 := blk_frozen BK197.out 2; have hcz32_3 : w28.cell? ⟨gb197, 3, none⟩ = some (.int .i64 0) := (blk_cell BK197.out 3).trans rfl; have hfz32_3 := blk_frozen BK197.out 3) | ((with_reducible refine gate_store (t := 70) (p := 4) rfl ?_); refine store_event (t := 70) (p := 4) (v := ?vo_w33) (w1 := ((((w28.setCell ⟨gb197, 0, none⟩ (.int .i64 t214)).setCell ⟨gb197, 1, none⟩ (.int .i64 t215)).setCell ⟨gb197, 2, none⟩ (.int .i64 t216)).setCell ⟨gb197, 3, none⟩ (.int .i64 t217))) ?hg ?ho ?hn ?hr ?_; (case ho => rfl); (case hg => rfl); (case hn => rfl); (case hr => first | (go_simp; done) | (go_simp; rfl)); intro w33 hw; have n0_ : Aside0 (w33.heap[gb197]? = some (.cells #[.int .i64 t214, .int .i64 t215, .int .i64 t216, .int .i64 t217] 70 (0, 0))) := ⟨z5_8⟩; have n1_ : Aside0 (Below w.heap.size w w33) := ⟨(by rw [hw]; exact z5_2)⟩; clear hw; clear BK197; clear HB; have BK197 := n0_; have HB := n1_; clear n0_ n1_))
    refine bodyPost_ret (results_cell_row rfl _ _ gb197 70 #[.int .i64 t214, .int .i64 t215, .int .i64 t216, .int .i64 t217] (0, 0) _ rfl (zL5 BK197.out) Try.underlying70 rfl (by kernel_rfl)) rfl ?_
    exact ⟨z5_4, z5_2⟩
   ·rw [if_neg c21] at H
    have c21b0 : (a1 == 4) = false := beq_eq_false_iff_ne.mpr c21
    have c21b1 : (a1 != 4) = true := bne_iff_ne.mpr c21
    by_cases c34 : a1 = 5
    ·rw [if_pos c34] at H
     have c34b0 : (a1 == 5) = true := beq_iff_eq.mpr c34
     have c34b1 : (a1 != 5) = false := bne_eq_false_iff_eq.mpr c34
     clear c34
     replace H := Option.bind_eq_some_iff.mp H
     obtain ⟨⟨t218, t219, t220, t221⟩, A350, H⟩ := H
     replace H : ((impl_unit.f 3).bind fun bt222 => ((impl_vector_plus.f t218 t219 t220 t221 bt222.1 bt222.2.1 bt222.2.2.1 bt222.2.2.2).bind fun bt226 => (some (bt226.1, bt226.2.1, bt226.2.2.1, bt226.2.2.2)))) = some (r1, r2, r3, r4) := H
     have A35 := Aside0.mk A350
     clear A350
     replace H := Option.bind_eq_some_iff.mp H
     obtain ⟨⟨t222, t223, t224, t225⟩, A360, H⟩ := H
     replace H : ((impl_vector_plus.f t218 t219 t220 t221 t222 t223 t224 t225).bind fun bt226 => (some (bt226.1, bt226.2.1, bt226.2.2.1, bt226.2.2.2))) = some (r1, r2, r3, r4) := H
     have A36 := Aside0.mk A360
     clear A360
     replace H := Option.bind_eq_some_iff.mp H
     obtain ⟨⟨t226, t227, t228, t229⟩, A370, H⟩ := H
     replace H : (some (t226, t227, t228, t229)) = some (r1, r2, r3, r4) := H
     have A37 := Aside0.mk A370
     clear A370
     simp only [Option.some.injEq, Prod.mk.injEq] at H
     obtain ⟨rfl, rfl, rfl, rfl⟩ := H
     go_enter Try.func111, Try.ntmps111
     go_wp2_with (first | ((with_reducible refine gate_dst (N := 4) rfl ?_); refine box_event ?hg (N := 4) ?hd (cs := #[.int .i64 0, .int .i64 0, .int .i64 0, .int .i64 0]) (t := 70) ?hr ?_; (case hd => rfl); (case hg => rfl); (case hr => first | (go_simp; done) | (go_simp; rfl)); intro gb197 hg w38 hbox hb; have BK197 := Aside0.mk (hbox); have GW197 := Aside0.mk ((by rw [hg]; exact (below_size z5_1) : w.heap.size ≤ gb197)); have GE197 := Aside0.mk ((by rw [hg]; exact (below_size z5_1) : w.heap.size ≤ gb197)); replace HB := Aside0.mk (below_step z5_1 hb); clear hb hbox hg) | ((with_reducible refine gate_callee (f := 129) rfl ?_); refine goesL_ (some 24) rfl rfl Try.func129 (by kernel_rfl) rfl #[.int .i64 2] rfl z5_3 ?_; (with_reducible refine (impl_unit.calls 2 t218 t219 t220 t221 _ A35.out).mono ?_); rintro e w39 ⟨rfl, hb⟩; refine ⟨_, rfl, ?_⟩; replace BK197 := Aside0.mk (blk_below (g := gb197) (o := .cells #[.int .i64 0, .int .i64 0, .int .i64 0, .int .i64 0] 70 (0, 0)) (zL5 BK197.out) hb); replace HB := Aside0.mk (below_step z5_2 hb); (try clear hb)) | ((with_reducible refine gate_callee (f := 129) rfl ?_); refine goesL_ (some 25) rfl rfl Try.func129 (by kernel_rfl) rfl #[.int .i64 3] rfl z5_3 ?_; (with_reducible refine (impl_unit.calls 3 t222 t223 t224 t225 _ A36.out).mono ?_); rintro e w40 ⟨rfl, hb⟩; refine ⟨_, rfl, ?_⟩; replace BK197 := Aside0.mk (blk_below (g := gb197) (o := .cells #[.int .i64 0, .int .i64 0, .int .i64 0, .int .i64 0] 70 (0, 0)) (zL5 BK197.out) hb); replace HB := Aside0.mk (below_step z5_2 hb); (try clear hb)) | ((with_reducible refine gate_callee (f := 119) rfl ?_); refine goesL_ (some 26) rfl rfl Try.func119 (by kernel_rfl) rfl #[.agg #[.int .i64 t218, .int .i64 t219, .int .i64 t220, .int .i64 t221], .agg #[.int .i64 t222, .int .i64 t223, .int .i64 t224, .int .i64 t225]] rfl z5_3 ?_; (with_reducible refine (impl_vector_plus.calls t218 t219 t220 t221 t222 t223 t224 t225 t226 t227 t228 t229 _ A37.out).mono ?_); rintro e w41 ⟨rfl, hb⟩; refine ⟨_, rfl, ?_⟩; replace BK197 := Aside0.mk (blk_below (g := gb197) (o := .cells #[.int .i64 0, .int .i64 0, .int .i64 0, .int .i64 0] 70 (0, 0)) (zL5 BK197.out) hb); replace HB := Aside0.mk (below_step z5_2 hb); (try clear hb); have hcz42_0 : w41.cell? ⟨gb197, 0, none⟩ = some (.int .i64 0) := (blk_cell BK197.out 0).trans rfl; have hfz42_0 := blk_frozen BK197.out 0; have hcz43_1 : w41.cell? ⟨gb197, 1, none⟩ = some (.int .i64 0) := (blk_cell BK197.out 1).trans rfl; have hfz43_1 := blk_frozen BK197.out 1; have hcz44_2 : w41.cell? ⟨gb197, 2, none⟩ = some (.int .i64 0) := (blk_cell BK197.out 2).trans rfl; have hfz44_2 := blk_frozen BK197.out 2; have hcz45_3 : w41.cell? ⟨gb197, 3, none⟩ = some (.int .i64 0) := (blk_cell BK197.out 3).trans rfl; have hfz45_3 := blk_frozen BK197.out 3) | ((with_reducible refine gate_store (t := 70) (p := 4) rfl ?_); refine store_event (t := 70) (p := 4) (v := ?vo_w46) (w1 := ((((w41.setCell ⟨gb197, 0, none⟩ (.int .i64 t226)).setCell ⟨gb197, 1, none⟩ (.int .i64 t227)).setCell ⟨gb197, 2, none⟩ (.int .i64 t228)).setCell ⟨gb197, 3, none⟩ (.int .i64 t229))) ?hg ?ho ?hn ?hr ?_; (case ho => rfl); (case hg => rfl); (case hn => rfl); (case hr => first | (go_simp; done) | (go_simp; rfl)); intro w46 hw; have n0_ : Aside0 (w46.heap[gb197]? = some (.cells #[.int .i64 t226, .int .i64 t227, .int .i64 t228, .int .i64 t229] 70 (0, 0))) := ⟨z5_8⟩; have n1_ : Aside0 (Below w.heap.size w w46) := ⟨(by rw [hw]; exact z5_2)⟩; clear hw; clear BK197; clear HB; have BK197 := n0_; have HB := n1_; clear n0_ n1_))
     refine bodyPost_ret (results_cell_row rfl _ _ gb197 70 #[.int .i64 t226, .int .i64 t227, .int .i64 t228, .int .i64 t229] (0, 0) _ rfl (zL5 BK197.out) Try.underlying70 rfl (by kernel_rfl)) rfl ?_
     exact ⟨z5_4, z5_2⟩
    ·rw [if_neg c34] at H
     have c34b0 : (a1 == 5) = false := beq_eq_false_iff_ne.mpr c34
     have c34b1 : (a1 != 5) = true := bne_iff_ne.mpr c34
     replace H := Option.bind_eq_some_iff.mp H
     obtain ⟨⟨t230, t231, t232, t233⟩, A470, H⟩ := H
     replace H : (some (t230, t231, t232, t233)) = some (r1, r2, r3, r4) := H
     have A47 := Aside0.mk A470
     clear A470
     simp only [Option.some.injEq, Prod.mk.injEq] at H
     obtain ⟨rfl, rfl, rfl, rfl⟩ := H
     go_enter Try.func111, Try.ntmps111
     go_wp2_with (first | ((with_reducible refine gate_dst (N := 4) rfl ?_); refine box_event ?hg (N := 4) ?hd (cs := #[.int .i64 0, .int .i64 0, .int .i64 0, .int .i64 0]) (t := 70) ?hr ?_; (case hd => rfl); (case hg => rfl); (case hr => first | (go_simp; done) | (go_simp; rfl)); intro gb197 hg w48 hbox hb; have BK197 := Aside0.mk (hbox); have GW197 := Aside0.mk ((by rw [hg]; exact (below_size z5_1) : w.heap.size ≤ gb197)); have GE197 := Aside0.mk ((by rw [hg]; exact (below_size z5_1) : w.heap.size ≤ gb197)); replace HB := Aside0.mk (below_step z5_1 hb); clear hb hbox hg) | ((with_reducible refine gate_callee (f := 128) rfl ?_); refine goesL_ (some 29) rfl rfl Try.func128 (by kernel_rfl) rfl #[.int .i64 (wrap64 (a1 - 4))] rfl z5_3 ?_; (with_reducible refine (impl_powers.calls (wrap64 (a1 - 4)) t230 t231 t232 t233 _ A47.out).mono ?_); rintro e w49 ⟨rfl, hb⟩; refine ⟨_, rfl, ?_⟩; replace BK197 := Aside0.mk (blk_below (g := gb197) (o := .cells #[.int .i64 0, .int .i64 0, .int .i64 0, .int .i64 0] 70 (0, 0)) (zL5 BK197.out) hb); replace HB := Aside0.mk (below_step z5_2 hb); (try clear hb); have hcz50_0 : w49.cell? ⟨gb197, 0, none⟩ = some (.int .i64 0) := (blk_cell BK197.out 0).trans rfl; have hfz50_0 := blk_frozen BK197.out 0; have hcz51_1 : w49.cell? ⟨gb197, 1, none⟩ = some (.int .i64 0) := (blk_cell BK197.out 1).trans rfl; have hfz51_1 := blk_frozen BK197.out 1; have hcz52_2 : w49.cell? ⟨gb197, 2, none⟩ = some (.int .i64 0) := (blk_cell BK197.out 2).trans rfl; have hfz52_2 := blk_frozen BK197.out 2; have hcz53_3 : w49.cell? ⟨gb197, 3, none⟩ = some (.int .i64 0) := (blk_cell BK197.out 3).trans rfl; have hfz53_3 := blk_frozen BK197.out 3) | ((with_reducible refine gate_store (t := 70) (p := 4) rfl ?_); refine store_event (t := 70) (p := 4) (v := ?vo_w54) (w1 := ((((w49.setCell ⟨gb197, 0, none⟩ (.int .i64 t230)).setCell ⟨gb197, 1, none⟩ (.int .i64 t231)).setCell ⟨gb197, 2, none⟩ (.int .i64 t232)).setCell ⟨gb197, 3, none⟩ (.int .i64 t233))) ?hg ?ho ?hn ?hr ?_; (case ho => rfl); (case hg => rfl); (case hn => rfl); (case hr => first | (go_simp; done) | (go_simp; rfl)); intro w54 hw; have n0_ : Aside0 (w54.heap[gb197]? = some (.cells #[.int .i64 t230, .int .i64 t231, .int .i64 t232, .int .i64 t233] 70 (0, 0))) := ⟨z5_8⟩; have n1_ : Aside0 (Below w.heap.size w w54) := ⟨(by rw [hw]; exact z5_2)⟩; clear hw; clear BK197; clear HB; have BK197 := n0_; have HB := n1_; clear n0_ n1_))
     refine bodyPost_ret (results_cell_row rfl _ _ gb197 70 #[.int .i64 t230, .int .i64 t231, .int .i64 t232, .int .i64 t233] (0, 0) _ rfl (zL5 BK197.out) Try.underlying70 rfl (by kernel_rfl)) rfl ?_
     exact ⟨z5_4, z5_2⟩

/-! ### impl_rowsOf: function 108 -/
def impl_rowsOf.l0 : Nat → Int → List (S70) → List Int → Int → Int → Option ((List (S70)))
  | 0, _, _, _, _, _ => none
  | k + 1, x0, x5, x11, x12, x13 => if x13 < x12 then (if 0 ≤ x13 then (if x13 < (x11.length : Int) then ((impl_rowOf.f x0 (rd x11 x13)).bind fun bt238 => (if x5.length < 4398046511104 then (impl_rowsOf.l0 k x0 (x5 ++ [(⟨bt238.1, bt238.2.1, bt238.2.2.1, bt238.2.2.2⟩ : S70)]) x11 x12 (wrap64 (x13 + 1))) else (none))) else (none)) else (none)) else (some x5)
def impl_rowsOf.f (k : Nat) (a0 : Int) (l1 : List Int) : Option ((List (S70))) := if 0 ≤ (l1.length : Int) then (if ((l1.length : Int) : Int).toNat ≤ 8796093022208 then (impl_rowsOf.l0 k a0 (([] : List (S70))) l1 (l1.length : Int) 0) else (none)) else (none)
set_option maxHeartbeats 8000000 in
set_option maxRecDepth 100000 in
theorem impl_rowsOf.calls (k : Nat) (a0 : Int) (A1 : Option Addr) (c1 : Nat) (l1 : List Int) (r : List (S70)) (w : World) (hr1 : Kd.C (Kd.int .i64) w A1 l1.length l1) (hc1 : l1.length ≤ c1) (h : impl_rowsOf.f k a0 l1 = some r) :
  Calls Try.prog 108 #[.int .i64 a0, .slice A1 l1.length c1] w fun e w' => ∃ v0_ : Value, e = .returned (v0_) ∧ Kd.R k70 70 w' w.heap.size (fun _ => True) v0_ r ∧ Below w.heap.size w w' := by
 have HR1 := Aside0.mk hr1
 have HC1 := Aside0.mk hc1
 clear hr1 hc1
 have HB := Aside0.mk (Below.refl w.heap.size w)
 have H : (if 0 ≤ (l1.length : Int) then (if ((l1.length : Int) : Int).toNat ≤ 8796093022208 then (impl_rowsOf.l0 k a0 (([] : List (S70))) l1 (l1.length : Int) 0) else (none)) else (none)) = some r := h
 clear h
 obtain ⟨c3, H⟩ := ifP H
 have c3b0 := eq_true c3
 have c3b1 : decide (0 ≤ (l1.length : Int)) = true := decide_eq_true c3
 clear c3
 obtain ⟨c4, H⟩ := ifP H
 have c4b0 := eq_true c4
 have c4b1 : decide (((l1.length : Int) : Int).toNat ≤ 8796093022208) = true := decide_eq_true c4
 clear c4
 obtain ⟨y234, hy234⟩ : ∃ y_ : List (S70), y_ = (([] : List (S70))) := ⟨_, rfl⟩
 replace H : (impl_rowsOf.l0 k a0 y234 l1 (l1.length : Int) 0) = some r := by first | (rw [hy234]; with_reducible exact H) | (have H2_ := (Option.bind_some _ _).symm.trans H; rw [hy234]; with_reducible exact H2_) | (have H2_ := (Option.bind_some _ _).symm.trans H; with_reducible exact H2_) | with_reducible exact H | (rw [hy234]; exact H) | exact H
 have Ny234 := Aside0.mk hy234
 clear hy234
 have H' := Aside0.mk H
 clear H
 go_enter Try.func108, Try.ntmps108
 go_wp2_with (first | ((with_reducible refine gate_dst (N := 10) rfl ?_); refine R_make0 k70 _ 70 rfl (N := 10) rfl 64 _ _ rfl (l1.length : Int) rfl rfl Try.underlying64 (.agg #[(.int .i64 0), (.int .i64 0), (.int .i64 0), (.int .i64 0)]) 32 info70 (by decide) (ok := fun _ => True) (okp := fun _ => True) (fun _ hk => hk) trivial (of_decide_eq_true z5_6) (Nat.le_trans (Nat.mul_le_mul_right _ (of_decide_eq_true z5_6 : (l1.length : Int).toNat ≤ 8796093022208)) (by omega)) (Below.refl _ _) (Nat.le_refl _) ?_; intro v235 w5 ho6 hb hg_ hnew_; clear hg_ hnew_; (first | rw [← Ny234.out] at ho6 | (simp only [Int.reduceToNat] at ho6; rw [← Ny234.out] at ho6)); have HO236 := Aside0.mk (Kd.R_lower ho6 (below_size z5_1)); replace HB := Aside0.mk (below_step z5_1 hb); clear hb ho6))
 go_loopg [5, 13] k (fun kq v5 v13 w' => ∃ (x5_1 : List (S70)) (x13_1 : Int), v13 = .int .i64 x13_1 ∧ Aside0 (impl_rowsOf.l0 kq a0 x5_1 l1 (l1.length : Int) x13_1 = some r) ∧ Aside0 (kq ≤ k) ∧ Aside0 (Kd.R k70 70 w' w.heap.size (fun _ => True) v5 x5_1) ∧ Aside0 (Below w.heap.size w w'))
 case atStart => exact ⟨(y234), (0), z5_7, H', ⟨Nat.le_refl _⟩, ⟨by (with_reducible repeat (first | apply Kd.R_alloc | apply Kd.R_drewN | apply Kd.R_drew)); exact HO236.out⟩, ⟨z5_1⟩⟩
 case round =>
  clear H'
  try clear c1
  try clear c3
  try clear c3b0
  try clear c3b1
  try clear c4
  try clear c4b0
  try clear c4b1
  obtain ⟨x5_1, x13_1, rfl, HA, HK1, HO_5, HB⟩ := hrel
  cases gk with
  | zero => exact absurd HA.out (by simp [impl_rowsOf.l0])
  | succ k1 =>
   have H := HA.out
   clear HA
   simp only [impl_rowsOf.l0] at H
   by_cases c7 : x13_1 < (l1.length : Int)
   ·rw [if_pos c7] at H
    have c7b0 : decide (x13_1 < (l1.length : Int)) = true := decide_eq_true c7
    clear c7
    obtain ⟨c8, H⟩ := ifP H
    have c8b0 : decide (0 ≤ x13_1) = true := decide_eq_true c8
    clear c8
    obtain ⟨c9, H⟩ := ifP H
    have c9b0 : decide (x13_1 < (l1.length : Int)) = true := decide_eq_true c9
    clear c9
    replace H := Option.bind_eq_some_iff.mp H
    obtain ⟨⟨t238, t239, t240, t241⟩, A100, H⟩ := H
    replace H : (if x5_1.length < 4398046511104 then (impl_rowsOf.l0 k1 a0 (x5_1 ++ [(⟨t238, t239, t240, t241⟩ : S70)]) l1 (l1.length : Int) (wrap64 (x13_1 + 1))) else (none)) = some r := H
    have A10 := Aside0.mk A100
    clear A100
    obtain ⟨c11, H⟩ := ifP H
    have LMc11 := Aside0.mk c11
    clear c11
    obtain ⟨y242, hy242⟩ : ∃ y_ : List (S70), y_ = (x5_1 ++ [(⟨t238, t239, t240, t241⟩ : S70)]) := ⟨_, rfl⟩
    replace H : (impl_rowsOf.l0 k1 a0 y242 l1 (l1.length : Int) (wrap64 (x13_1 + 1))) = some r := by first | (rw [hy242]; with_reducible exact H) | (have H2_ := (Option.bind_some _ _).symm.trans H; rw [hy242]; with_reducible exact H2_) | (have H2_ := (Option.bind_some _ _).symm.trans H; with_reducible exact H2_) | with_reducible exact H | (rw [hy242]; exact H) | exact H
    have Ny242 := Aside0.mk hy242
    clear hy242
    have H' := Aside0.mk H
    clear H
    have p237 : 0 ≤ (x13_1 : Int) := of_decide_eq_true z5_6
    have q237 : x13_1 < (l1.length : Int) := of_decide_eq_true z5_6
    obtain ⟨ad237, e237, hx237_0⟩ := Kd.at_int HR1.out x13_1 p237 q237
    cases e237
    replace hx237_0 := (HB.out.cell (World.block_lt_of_cell? w _ hx237_0)).trans hx237_0
    replace p237 := eq_true p237
    replace q237 := eq_true q237
    go_wp2_with (first | ((with_reducible refine gate_callee (f := 111) rfl ?_); refine goesL_ (some 20) rfl rfl Try.func111 (by kernel_rfl) rfl #[.int .i64 a0, .int .i64 (rd l1 x13_1)] rfl z5_3 ?_; (with_reducible refine (impl_rowOf.calls a0 (rd l1 x13_1) t238 t239 t240 t241 _ A10.out).mono ?_); rintro e w12 ⟨rfl, hb⟩; refine ⟨_, rfl, ?_⟩; replace HO_5 := Aside0.mk (Kd.R_below z5_5 hb); replace HB := Aside0.mk (below_step z5_1 hb); (try clear hb)) | ((with_reducible refine gate_builtin (b := .append) (xs := #[.tmp 17, .tmp 21]) rfl ?_); at_builtin; refine Kd.R_append k70 (w0 := w) w.heap.size rfl (.tmp 17) (.tmp 21) 64 70 (.agg #[(.int .i64 0), (.int .i64 0), (.int .i64 0), (.int .i64 0)]) 32 rfl Try.underlying64 info70 rfl (by decide) (by omega) u5 x5_1 (⟨t238, t239, t240, t241⟩ : S70) [.int .i64 t238, .int .i64 t239, .int .i64 t240, .int .i64 t241] (fun _ => True) (fun _ => False) rfl rfl ?aP (fun _ hk => hk.elim) ?aF ?aO ?aB ?aS ?aL ?_; (case aP => exact k70_mkM _ _ _ (⟨t238, t239, t240, t241⟩ : S70)); (case aB => exact z5_1); (case aF => exact (fun _ _ => trivial)); (case aO => exact z5_5); (case aS => exact (below_size z5_1)); (case aL => have := LMc11.out; omega); intro v243 w13 ho hb hg hat; rw [← Ny242.out] at ho; have n0_ := Aside0.mk (hb); have n1_ := Aside0.mk (ho); clear HB; clear HO_5; have HB := n0_; have HO244 := n1_; clear n0_ n1_; clear ho hb hg hat))
    go_roundg k1
    case measure => have := HK1.out; omega
    case rel => exact ⟨(y242), (wrap64 (x13_1 + 1)), z5_7, H', ⟨by have := HK1.out; omega⟩, ⟨by (with_reducible repeat (first | apply Kd.R_alloc | apply Kd.R_drewN | apply Kd.R_drew)); exact HO244.out⟩, ⟨z5_1⟩⟩
   ·rw [if_neg c7] at H
    have c7b0 : decide (x13_1 < (l1.length : Int)) = false := decide_eq_false c7
    clear c7
    obtain rfl := Option.some.inj H
    go_wp2
    go_ret
    exact ⟨_, z5_4, z5_5, z5_1⟩

/-! ### impl_within: function 107 -/
def impl_within.f (a0 : Int) (a1 : Int) (a2 : Int) : Option (Bool) := if a0 ≥ a1 then (some (decide (a0 ≤ a2))) else (some false)
set_option maxHeartbeats 8000000 in
set_option maxRecDepth 100000 in
theorem impl_within.calls (a0 : Int) (a1 : Int) (a2 : Int) (r : Bool) (w : World) (h : impl_within.f a0 a1 a2 = some r) :
  Calls Try.prog 107 #[.int .i64 a0, .int .i64 a1, .int .i64 a2] w fun e w' => e = .returned (.bool r) ∧ Drawn0 w w' := by
 have H : (if a0 ≥ a1 then (some (decide (a0 ≤ a2))) else (some false)) = some r := h
 clear h
 by_cases c4 : a0 ≥ a1
 ·rw [if_pos c4] at H
  have c4b0 : decide (a1 ≤ a0) = true := decide_eq_true c4
  clear c4
  obtain rfl := Option.some.inj H
  go_enter Try.func107, Try.ntmps107
  go_wp2
  go_ret
  exact ⟨z5_7, by repeat (first | exact Drawn0.refl _ | apply Drawn0.step)⟩
 ·rw [if_neg c4] at H
  have c4b0 : decide (a1 ≤ a0) = false := decide_eq_false c4
  clear c4
  obtain rfl := Option.some.inj H
  go_enter Try.func107, Try.ntmps107
  go_wp2
  go_ret
  exact ⟨z5_7, by repeat (first | exact Drawn0.refl _ | apply Drawn0.step)⟩

-- GIVEN: function 59 (impl_vectorOf)

-- GIVEN: function 113 (impl_vector_dot)

end Go.Proofs.Ytamaejafddmagaa.PA
