-- Written by a program of this session (after the manner of the kit's print, several laws in one text).
import Derived.Test.YtamaejafddmagaaPAx0
import Derived.Test.YtamaejafddmagaaPAx8
import Derived.Test.YtamaejafddmagaaGw
import Derived.Test.YtamaejafddmagaaGm
import Derived.Test.YtamaejafddmagaaHt
namespace Go.Proofs.Ytamaejafddmagaa.PA
open Go.RowKit Go.Proofs.YtamaejafddmagaaW.PrintWords Go.Proofs.YtamaejafddmagaaW.PrintLast Go.Proofs.YtamaejafddmagaaW.PrintMore
attribute [local go_sem] max2_int min2_int max_two min_two max_three min_three max_four min_four   -- for this text's walks alone
set_option linter.unusedVariables false
set_option linter.unusedSimpArgs false

-- BREAK
-- GIVEN: function 57 (spec_l3Tidy)

/-! ### spec_SpanRank: function 23 -/
theorem z14_0 {p : Prop} (h : p := by (try simp only [List.map_toArray, List.map_cons, List.map_nil]); first | done | rfl | (simp only [List.length_drop, List.length_take]; rfl)) : p := h
theorem z14_1 {p : Prop} (h : p := by repeat (first | (with_reducible first | exact HB.out | apply below_alloc | apply pw_below_drewN | apply below_drew1) | exact HB.out)) : p := h
theorem z14_2 {p : Prop} (h : p := by first | rfl | (simp [errW_none, errW_some] <;> rfl) | (simp [*, errW_none, errW_some] <;> rfl)) : p := h
def spec_SpanRank.f (k : Nat) (l0 : List (List Int)) : Option (Int) := (spec_SpanOk.f k l0).bind fun t448 => (if t448 = true then ((spec_l3Tidy.f l0).bind fun t449 => (some (t449.length : Int))) else (some (-1)))
set_option maxHeartbeats 8000000 in
set_option maxRecDepth 100000 in
theorem spec_SpanRank.calls (k : Nat) (A0 : Option Addr) (c0 : Nat) (l0 : List (List Int)) (r : Int) (w : World) (hr0 : Kd.C (Kd.slice 3 (Kd.int .i64)) w A0 l0.length l0) (hc0 : l0.length ≤ c0) (h : spec_SpanRank.f k l0 = some r) :
  Calls Try.prog 23 #[.slice A0 l0.length c0] w fun e w' => e = .returned (.int .i64 r) ∧ Below w.heap.size w w' := by
 have HR0 := Aside0.mk hr0
 have HC0 := Aside0.mk hc0
 clear hr0 hc0
 have HB := Aside0.mk (Below.refl w.heap.size w)
 have H : ((spec_SpanOk.f k l0).bind fun t448 => (if t448 = true then ((spec_l3Tidy.f l0).bind fun t449 => (some (t449.length : Int))) else (some (-1)))) = some r := h
 clear h
 replace H := Option.bind_eq_some_iff.mp H
 obtain ⟨t448, A20, H⟩ := H
 replace H : (if t448 = true then ((spec_l3Tidy.f l0).bind fun t449 => (some (t449.length : Int))) else (some (-1))) = some r := H
 have A2 := Aside0.mk A20
 clear A20
 by_cases c3 : t448 = true
 ·subst c3
  have H1 : ((spec_l3Tidy.f l0).bind fun t449 => (some (t449.length : Int))) = some r := by rw [if_pos rfl] at H; exact H
  clear H
  have H := H1
  clear H1
  replace H := Option.bind_eq_some_iff.mp H
  obtain ⟨t449, A40, H⟩ := H
  replace H : (some (t449.length : Int)) = some r := H
  have A4 := Aside0.mk A40
  clear A40
  obtain rfl := Option.some.inj H
  go_enter Try.func23, Try.ntmps23
  go_wp2_with (first | ((with_reducible refine gate_callee (f := 19) rfl ?_); refine goesL_ (some 4) rfl rfl Try.func19 (by kernel_rfl) rfl #[.slice A0 l0.length c0] rfl z14_0 ?_; (with_reducible refine (spec_SpanOk.calls k _ _ l0 true _ ?side1 ?side2 A2.out).mono ?_); (case side1 => exact cZ (HR0.out)); (case side2 => exact HC0.out); rintro e w' ⟨rfl, ⟨nd, rfl⟩⟩; refine ⟨_, rfl, ?_⟩) | ((with_reducible refine gate_callee (f := 57) rfl ?_); refine goesL_ (some 7) rfl rfl Try.func57 (by kernel_rfl) rfl #[.slice A0 l0.length c0] rfl z14_0 ?_; (with_reducible refine (spec_l3Tidy.calls _ _ l0 t449 _ ?side1 ?side2 A4.out).mono ?_); (case side1 => exact cZ (HR0.out)); (case side2 => exact HC0.out); rintro e w5 ⟨v450, rfl, ho0, hb⟩; refine ⟨_, rfl, ?_⟩; have HO451 := Aside0.mk (Kd.R_lower ho0 (below_size z14_1)); replace HB := Aside0.mk (below_step z14_1 hb); (try clear hb); (try clear ho0); obtain ⟨Ao6, co6, eo6⟩ := Kd.R_slice HO451.out; subst eo6))
  go_ret
  exact ⟨z14_2, z14_1⟩
 ·replace c3 := Bool.eq_false_iff.mpr c3
  subst c3
  have H1 : (some (-1)) = some r := by rw [if_neg (show ¬ (false = true) by decide)] at H; exact H
  clear H
  have H := H1
  clear H1
  obtain rfl := Option.some.inj H
  go_enter Try.func23, Try.ntmps23
  go_wp2_with (first | ((with_reducible refine gate_callee (f := 19) rfl ?_); refine goesL_ (some 4) rfl rfl Try.func19 (by kernel_rfl) rfl #[.slice A0 l0.length c0] rfl z14_0 ?_; (with_reducible refine (spec_SpanOk.calls k _ _ l0 false _ ?side1 ?side2 A2.out).mono ?_); (case side1 => exact cZ (HR0.out)); (case side2 => exact HC0.out); rintro e w' ⟨rfl, ⟨nd, rfl⟩⟩; refine ⟨_, rfl, ?_⟩))
  go_ret
  exact ⟨z14_2, z14_1⟩

/-! ### laws_lkNum: function 62 -/
def laws_lkNum.f (a0 : Int) : Option (Int) := some (Int.tmod a0 31)
set_option maxHeartbeats 8000000 in
set_option maxRecDepth 100000 in
theorem laws_lkNum.calls (a0 : Int) (r : Int) (w : World) (h : laws_lkNum.f a0 = some r) :
  Calls Try.prog 62 #[.int .i64 a0] w fun e w' => e = .returned (.int .i64 r) ∧ Drawn0 w w' := by
 have H : (some (Int.tmod a0 31)) = some r := h
 clear h
 obtain rfl := Option.some.inj H
 go_enter Try.func62, Try.ntmps62
 go_wp2
 go_ret
 exact ⟨by first | rfl | (simp; done) | (simp [*]; done), by repeat (first | exact Drawn0.refl _ | apply Drawn0.step)⟩

/-! ### laws_lkVec: function 24 -/
def laws_lkVec.f (a0 : Int) : Option (List Int) := (laws_lkNum.f a0).bind fun t452 => ((laws_lkNum.f (wrap64 (a0 * 3))).bind fun t453 => ((laws_lkNum.f (wrap64 ((wrap64 (a0 * a0)) + 1))).bind fun t454 => ((laws_lkNum.f (wrap64 (a0 + 7))).bind fun t455 => (some (([t452, t453, t454, t455] : List Int))))))
set_option maxHeartbeats 8000000 in
set_option maxRecDepth 100000 in
theorem laws_lkVec.calls (a0 : Int) (r : List Int) (w : World) (h : laws_lkVec.f a0 = some r) :
  Calls Try.prog 24 #[.int .i64 a0] w fun e w' => ∃ v0_ : Value, e = .returned (v0_) ∧ Kd.R (Kd.int .i64) 3 w' w.heap.size (fun _ => True) v0_ r ∧ Below w.heap.size w w' := by
 have HB := Aside0.mk (Below.refl w.heap.size w)
 have H : ((laws_lkNum.f a0).bind fun t452 => ((laws_lkNum.f (wrap64 (a0 * 3))).bind fun t453 => ((laws_lkNum.f (wrap64 ((wrap64 (a0 * a0)) + 1))).bind fun t454 => ((laws_lkNum.f (wrap64 (a0 + 7))).bind fun t455 => (some (([t452, t453, t454, t455] : List Int))))))) = some r := h
 clear h
 replace H := Option.bind_eq_some_iff.mp H
 obtain ⟨t452, A20, H⟩ := H
 replace H : ((laws_lkNum.f (wrap64 (a0 * 3))).bind fun t453 => ((laws_lkNum.f (wrap64 ((wrap64 (a0 * a0)) + 1))).bind fun t454 => ((laws_lkNum.f (wrap64 (a0 + 7))).bind fun t455 => (some (([t452, t453, t454, t455] : List Int)))))) = some r := H
 have A2 := Aside0.mk A20
 clear A20
 replace H := Option.bind_eq_some_iff.mp H
 obtain ⟨t453, A30, H⟩ := H
 replace H : ((laws_lkNum.f (wrap64 ((wrap64 (a0 * a0)) + 1))).bind fun t454 => ((laws_lkNum.f (wrap64 (a0 + 7))).bind fun t455 => (some (([t452, t453, t454, t455] : List Int))))) = some r := H
 have A3 := Aside0.mk A30
 clear A30
 replace H := Option.bind_eq_some_iff.mp H
 obtain ⟨t454, A40, H⟩ := H
 replace H : ((laws_lkNum.f (wrap64 (a0 + 7))).bind fun t455 => (some (([t452, t453, t454, t455] : List Int)))) = some r := H
 have A4 := Aside0.mk A40
 clear A40
 replace H := Option.bind_eq_some_iff.mp H
 obtain ⟨t455, A50, H⟩ := H
 replace H : (some (([t452, t453, t454, t455] : List Int))) = some r := H
 have A5 := Aside0.mk A50
 clear A50
 obtain ⟨y456, hy456⟩ : ∃ y_ : List Int, y_ = (([t452, t453, t454, t455] : List Int)) := ⟨_, rfl⟩
 replace H : (some y456) = some r := by first | (rw [hy456]; with_reducible exact H) | (have H2_ := (Option.bind_some _ _).symm.trans H; rw [hy456]; with_reducible exact H2_) | (have H2_ := (Option.bind_some _ _).symm.trans H; with_reducible exact H2_) | with_reducible exact H | (rw [hy456]; exact H) | exact H
 have Ny456 := Aside0.mk hy456
 clear hy456
 obtain rfl := Option.some.inj H
 go_enter Try.func24, Try.ntmps24
 go_wp2_with (first | ((with_reducible refine gate_callee (f := 62) rfl ?_); refine goesL_ (some 4) rfl rfl Try.func62 (by kernel_rfl) rfl #[.int .i64 a0] rfl z14_0 ?_; (with_reducible refine (laws_lkNum.calls a0 t452 _ A2.out).mono ?_); rintro e w' ⟨rfl, ⟨nd, rfl⟩⟩; refine ⟨_, rfl, ?_⟩) | ((with_reducible refine gate_callee (f := 62) rfl ?_); refine goesL_ (some 7) rfl rfl Try.func62 (by kernel_rfl) rfl #[.int .i64 (wrap64 (a0 * 3))] rfl z14_0 ?_; (with_reducible refine (laws_lkNum.calls (wrap64 (a0 * 3)) t453 _ A3.out).mono ?_); rintro e w' ⟨rfl, ⟨nd, rfl⟩⟩; refine ⟨_, rfl, ?_⟩) | ((with_reducible refine gate_callee (f := 62) rfl ?_); refine goesL_ (some 12) rfl rfl Try.func62 (by kernel_rfl) rfl #[.int .i64 (wrap64 ((wrap64 (a0 * a0)) + 1))] rfl z14_0 ?_; (with_reducible refine (laws_lkNum.calls (wrap64 ((wrap64 (a0 * a0)) + 1)) t454 _ A4.out).mono ?_); rintro e w' ⟨rfl, ⟨nd, rfl⟩⟩; refine ⟨_, rfl, ?_⟩) | ((with_reducible refine gate_callee (f := 62) rfl ?_); refine goesL_ (some 15) rfl rfl Try.func62 (by kernel_rfl) rfl #[.int .i64 (wrap64 (a0 + 7))] rfl z14_0 ?_; (with_reducible refine (laws_lkNum.calls (wrap64 (a0 + 7)) t455 _ A5.out).mono ?_); rintro e w' ⟨rfl, ⟨nd, rfl⟩⟩; refine ⟨_, rfl, ?_⟩) | ((with_reducible refine gate_dst (N := 16) rfl ?_); refine Kd.R_lit (Kd.int .i64) _ 3 ?hg (N := 16) ?hd (xs := ([t452, t453, t454, t455] : List Int)) (inner := [.int .i64 t452, .int .i64 t453, .int .i64 t454, .int .i64 t455]) (ok := fun _ => True) (okp := fun _ => True) ?hr ?hp (fun _ hk => hk) trivial (Below.refl _ _) (Nat.le_refl _) (by simp) ?_; (case hd => rfl); (case hg => rfl); (case hr => first | (go_simp; done) | (go_simp; rfl)); (case hp => exact (Reps.one (show Kd.M (Kd.int .i64) _ _ _ t452 [.int .i64 t452] from rfl) (Reps.one (show Kd.M (Kd.int .i64) _ _ _ t453 [.int .i64 t453] from rfl) (Reps.one (show Kd.M (Kd.int .i64) _ _ _ t454 [.int .i64 t454] from rfl) (Reps.one (show Kd.M (Kd.int .i64) _ _ _ t455 [.int .i64 t455] from rfl) (Reps.none _ _)))))); intro v457 w6 ho7 hb hg_ hnew_; clear hg_ hnew_; (first | rw [← Ny456.out] at ho7 | (simp only [Int.reduceToNat] at ho7; rw [← Ny456.out] at ho7)); have HO458 := Aside0.mk (Kd.R_lower ho7 (below_size z14_1)); replace HB := Aside0.mk (below_step z14_1 hb); clear hb ho7))
 go_ret
 exact ⟨_, z14_2, by (with_reducible repeat (first | apply Kd.R_alloc | apply Kd.R_drewN | apply Kd.R_drew)); exact HO458.out, z14_1⟩

end Go.Proofs.Ytamaejafddmagaa.PA
