-- Written by a program of this session (after the manner of the kit's print, several laws in one text).
import Derived.Test.YtlafdcaplmgjkaaPAx0
import Derived.Test.YtlafdcaplmgjkaaPAx1
import Derived.Test.YtlafdcaplmgjkaaPAx2
import Derived.Test.YtlafdcaplmgjkaaPAx3
import Derived.Test.YtlafdcaplmgjkaaGw
namespace Go.Proofs.Ytlafdcaplmgjkaa.PA
open Go.RowKit Go.Proofs.YtlafdcaplmgjkaaW.PrintWords Go.Proofs.YtlafdcaplmgjkaaW.PrintLast Go.Proofs.YtlafdcaplmgjkaaW.PrintMore
attribute [local go_sem] max2_int min2_int max_two min_two max_three min_three max_four min_four   -- for this text's walks alone
set_option linter.unusedVariables false
set_option linter.unusedSimpArgs false

/-! ### laws_FnMulLaws: function 6 -/
mutual
def laws_FnMulLaws.j0 : Nat → List Int → List Int → Bool → Option (Bool)
  | 0, _, _, _ => none
  | k + 1, x0, x1, x16 => if x16 = true then (some true) else ((spec_DrawFieldMul.f k x0).bind fun bt279 => ((impl_FieldMul.f bt279.1 bt279.2).bind fun t281 => ((spec_FieldMul.f bt279.1 bt279.2).bind fun t282 => (if t281 = t282 then ((spec_FieldOk.f bt279.1).bind fun t283 => (if t283 = true then ((spec_FieldOk.f bt279.2).bind fun t284 => (laws_FnMulLaws.j1 k x1 bt279.1 bt279.2 t281 (!t284))) else (laws_FnMulLaws.j1 k x1 bt279.1 bt279.2 t281 true))) else (laws_FnMulLaws.j1 k x1 bt279.1 bt279.2 t281 true)))))
def laws_FnMulLaws.j1 : Nat → List Int → Int → Int → Int → Bool → Option (Bool)
  | 0, _, _, _, _, _ => none
  | k + 1, x1, x5, x6, x7, x39 => if x39 = true then ((spec_FieldMul.f x5 x6).bind fun t285 => (some (x7 == t285))) else ((laws_lkNum.f (x1.length : Int)).bind fun t286 => ((impl_FieldMul.f x6 x5).bind fun t287 => (if t287 = x7 then ((impl_FieldMul.f x7 t286).bind fun t288 => ((impl_FieldMul.f x6 t286).bind fun t289 => ((impl_FieldMul.f x5 t289).bind fun t290 => (if t288 = t290 then ((impl_FieldMul.f x5 1).bind fun t291 => (if t291 = x5 then ((impl_FieldSum.f x6 t286).bind fun t292 => ((impl_FieldMul.f x5 t292).bind fun t293 => ((impl_FieldMul.f x5 t286).bind fun t294 => ((impl_FieldSum.f x7 t294).bind fun t295 => (some (t293 == t295)))))) else (some false))) else (some false))))) else (some false))))
end
def laws_FnMulLaws.f (k : Nat) (l0 : List Int) (l1 : List Int) : Option (Bool) := if (l0.length : Int) > 1048576 then (laws_FnMulLaws.j0 k l0 l1 true) else (laws_FnMulLaws.j0 k l0 l1 (decide ((l1.length : Int) > 1048576)))
theorem laws_FnMulLaws.mono_l : ∀ k, (∀ y0 y1 y2, LeO (laws_FnMulLaws.j0 k y0 y1 y2) (laws_FnMulLaws.j0 (k + 1) y0 y1 y2)) ∧ (∀ y0 y1 y2 y3 y4, LeO (laws_FnMulLaws.j1 k y0 y1 y2 y3 y4) (laws_FnMulLaws.j1 (k + 1) y0 y1 y2 y3 y4))
  | 0 => ⟨fun _ _ _ r h => by simp [laws_FnMulLaws.j0] at h, fun _ _ _ _ _ r h => by simp [laws_FnMulLaws.j1] at h⟩
  | k + 1 => by
    obtain ⟨ih0, ih1⟩ := laws_FnMulLaws.mono_l k
    refine ⟨?_, ?_⟩
    · intro y0 y1 y2
      unfold laws_FnMulLaws.j0
      repeat' first
      | (with_reducible exact ih0 _ _ _)
      | (with_reducible exact ih1 _ _ _ _ _)
      | (with_reducible exact spec_DrawFieldMul.mono _ _)
      | (with_reducible exact LeO.refl _)
      | (with_reducible exact LeO.none _)
      | (with_reducible refine LeO.ite ?_ ?_)
      | (with_reducible refine LeO.bind ?_ (fun _ => ?_))
      | exact ih0 _ _ _
      | exact ih1 _ _ _ _ _
      | exact spec_DrawFieldMul.mono _ _
      | exact LeO.none _
      | refine LeO.ite ?_ ?_
      | refine LeO.bind ?_ (fun _ => ?_)
    · intro y0 y1 y2 y3 y4
      unfold laws_FnMulLaws.j1
      repeat' first
      | (with_reducible exact ih0 _ _ _)
      | (with_reducible exact ih1 _ _ _ _ _)
      | (with_reducible exact spec_DrawFieldMul.mono _ _)
      | (with_reducible exact LeO.refl _)
      | (with_reducible exact LeO.none _)
      | (with_reducible refine LeO.ite ?_ ?_)
      | (with_reducible refine LeO.bind ?_ (fun _ => ?_))
      | exact ih0 _ _ _
      | exact ih1 _ _ _ _ _
      | exact spec_DrawFieldMul.mono _ _
      | exact LeO.none _
      | refine LeO.ite ?_ ?_
      | refine LeO.bind ?_ (fun _ => ?_)
theorem laws_FnMulLaws.mono : ∀ a0 a1 k, LeO (laws_FnMulLaws.f k a0 a1) (laws_FnMulLaws.f (k + 1) a0 a1) := by
  intro a0 a1 k
  obtain ⟨ih0, ih1⟩ := laws_FnMulLaws.mono_l k
  unfold laws_FnMulLaws.f
  repeat' first
      | (with_reducible exact ih0 _ _ _)
      | (with_reducible exact ih1 _ _ _ _ _)
      | (with_reducible exact spec_DrawFieldMul.mono _ _)
      | (with_reducible exact LeO.refl _)
      | (with_reducible exact LeO.none _)
      | (with_reducible refine LeO.ite ?_ ?_)
      | (with_reducible refine LeO.bind ?_ (fun _ => ?_))
      | exact ih0 _ _ _
      | exact ih1 _ _ _ _ _
      | exact spec_DrawFieldMul.mono _ _
      | exact LeO.none _
      | refine LeO.ite ?_ ?_
      | refine LeO.bind ?_ (fun _ => ?_)
set_option maxHeartbeats 8000000 in
set_option maxRecDepth 100000 in
theorem laws_FnMulLaws.calls (k : Nat) (A0 : Option Addr) (c0 : Nat) (l0 : List Int) (A1 : Option Addr) (c1 : Nat) (l1 : List Int) (r : Bool) (w : World) (hr0 : Kd.C (Kd.int .u8) w A0 l0.length l0) (hc0 : l0.length ≤ c0) (hr1 : Kd.C (Kd.int .u8) w A1 l1.length l1) (hc1 : l1.length ≤ c1) (h : laws_FnMulLaws.f k l0 l1 = some r) :
    Calls Try.prog 6 #[.slice A0 l0.length c0, .slice A1 l1.length c1] w fun e w' => e = .returned (.bool r) ∧ Below w.heap.size w w' := by
  have HR0 := Aside0.mk hr0
  have HC0 := Aside0.mk hc0
  clear hr0 hc0
  have HR1 := Aside0.mk hr1
  have HC1 := Aside0.mk hc1
  clear hr1 hc1
  have HB := Aside0.mk (Below.refl w.heap.size w)
  have H : (if (l0.length : Int) > 1048576 then (laws_FnMulLaws.j0 k l0 l1 true) else (laws_FnMulLaws.j0 k l0 l1 (decide ((l1.length : Int) > 1048576)))) = some r := h
  clear h
  have HC3 := Aside0.mk H
  clear H
  go_enter Try.func6, Try.ntmps6
  go_upto_region 1 with (fail)
  go_cut [16] (fun v16 wc => ∃ (kq : Nat) (x16_2 : Bool), v16 = .bool x16_2 ∧ Aside0 (laws_FnMulLaws.j0 kq l0 l1 x16_2 = some r) ∧ Aside0 (kq ≤ k) ∧ Aside0 (Below w.heap.size w wc))
  case first =>
    have H := HC3.out
    clear HC3
    by_cases c4 : (l0.length : Int) > 1048576
    · rw [if_pos c4] at H
      have c4b0 : decide (1048576 < (l0.length : Int)) = true := decide_eq_true c4
      have c4b1 : decide (1048576 < l0.length) = true := decide_eq_true (by omega)
      clear c4
      (first | rw [c4b0] | (simp only [i64_w, i32_w]; rw [c4b0]) | skip)
      have H' := Aside0.mk H
      clear H
      go_wp2
      go_meet
      case rel => exact ⟨_, (true), (by first | rfl | (simp; done) | (simp [*]; done)), H', ⟨by first | omega | exact Nat.le_refl _⟩, ⟨by repeat (first | (with_reducible first | exact HB.out | apply below_alloc | apply pw_below_drewN | apply below_drew1) | exact HB.out)⟩⟩
    · rw [if_neg c4] at H
      have c4b0 : decide (1048576 < (l0.length : Int)) = false := decide_eq_false c4
      have c4b1 : decide (1048576 < l0.length) = false := decide_eq_false (by omega)
      clear c4
      (first | rw [c4b0] | (simp only [i64_w, i32_w]; rw [c4b0]) | skip)
      have H' := Aside0.mk H
      clear H
      go_wp2
      go_meet
      case rel => exact ⟨_, (decide ((l1.length : Int) > 1048576)), (by first | rfl | (simp; done) | (simp [*]; done)), H', ⟨by first | omega | exact Nat.le_refl _⟩, ⟨by repeat (first | (with_reducible first | exact HB.out | apply below_alloc | apply pw_below_drewN | apply below_drew1) | exact HB.out)⟩⟩
  case rest =>
    clear HC3
    try clear c1
    try clear p2
    try clear c4
    try clear c4b0
    try clear c4b1
    obtain ⟨kq, x16_2, rfl, HA, HJ2, HB⟩ := hcut
    cases kq with
    | zero => exact absurd HA.out (by simp [laws_FnMulLaws.j0])
    | succ kj2 =>
      have H := HA.out
      clear HA
      simp only [laws_FnMulLaws.j0] at H
      by_cases c5 : x16_2 = true
      · subst c5
        have H1 : (some true) = some r := by rw [if_pos rfl] at H; exact H
        clear H
        have H := H1
        clear H1
        obtain rfl := Option.some.inj H
        go_wp2
        go_ret
        exact ⟨by first | rfl | (simp [errW_none, errW_some] <;> rfl) | (simp [*, errW_none, errW_some] <;> rfl), by repeat (first | (with_reducible first | exact HB.out | apply below_alloc | apply pw_below_drewN | apply below_drew1) | exact HB.out)⟩
      · replace c5 := Bool.eq_false_iff.mpr c5
        subst c5
        have H1 : ((spec_DrawFieldMul.f kj2 l0).bind fun bt279 => ((impl_FieldMul.f bt279.1 bt279.2).bind fun t281 => ((spec_FieldMul.f bt279.1 bt279.2).bind fun t282 => (if t281 = t282 then ((spec_FieldOk.f bt279.1).bind fun t283 => (if t283 = true then ((spec_FieldOk.f bt279.2).bind fun t284 => (laws_FnMulLaws.j1 kj2 l1 bt279.1 bt279.2 t281 (!t284))) else (laws_FnMulLaws.j1 kj2 l1 bt279.1 bt279.2 t281 true))) else (laws_FnMulLaws.j1 kj2 l1 bt279.1 bt279.2 t281 true))))) = some r := by rw [if_neg (show ¬ (false = true) by decide)] at H; exact H
        clear H
        have H := H1
        clear H1
        replace H := Option.bind_eq_some_iff.mp H
        obtain ⟨⟨t279, t280⟩, A60, H⟩ := H
        replace H : ((impl_FieldMul.f t279 t280).bind fun t281 => ((spec_FieldMul.f t279 t280).bind fun t282 => (if t281 = t282 then ((spec_FieldOk.f t279).bind fun t283 => (if t283 = true then ((spec_FieldOk.f t280).bind fun t284 => (laws_FnMulLaws.j1 kj2 l1 t279 t280 t281 (!t284))) else (laws_FnMulLaws.j1 kj2 l1 t279 t280 t281 true))) else (laws_FnMulLaws.j1 kj2 l1 t279 t280 t281 true)))) = some r := H
        have A6 := Aside0.mk A60
        clear A60
        replace H := Option.bind_eq_some_iff.mp H
        obtain ⟨t281, A70, H⟩ := H
        replace H : ((spec_FieldMul.f t279 t280).bind fun t282 => (if t281 = t282 then ((spec_FieldOk.f t279).bind fun t283 => (if t283 = true then ((spec_FieldOk.f t280).bind fun t284 => (laws_FnMulLaws.j1 kj2 l1 t279 t280 t281 (!t284))) else (laws_FnMulLaws.j1 kj2 l1 t279 t280 t281 true))) else (laws_FnMulLaws.j1 kj2 l1 t279 t280 t281 true))) = some r := H
        have A7 := Aside0.mk A70
        clear A70
        have HC8 := Aside0.mk H
        clear H
        go_upto_region 5 with (first | ((with_reducible refine gate_callee (f := 24) rfl ?_); refine goesL_ (some 19) rfl rfl Try.func24 (by kernel_rfl) rfl #[.slice A0 l0.length c0] rfl (by (try simp only [List.map_toArray, List.map_cons, List.map_nil]); first | done | rfl | (simp only [List.length_drop, List.length_take]; rfl)) ?_; (with_reducible refine (spec_DrawFieldMul.calls kj2 _ _ l0 t279 t280 _ ?side1 ?side2 A6.out).mono ?_); (case side1 => repeat (first | exact (Kd.C_below HR0.out HB.out) | (with_reducible refine Kd.C_alloc ?_ _) | (with_reducible refine Kd.C_drewN ?_ _) | (with_reducible refine Kd.C_drew ?_))); (case side2 => exact HC0.out); rintro e w9 ⟨rfl, hb⟩; refine ⟨_, rfl, ?_⟩; have n0_ := Aside0.mk (below_step (by repeat (first | (with_reducible first | exact HB.out | apply below_alloc | apply pw_below_drewN | apply below_drew1) | exact HB.out)) hb); clear HB; have HB := n0_; clear n0_; (try clear hb); (try clear hb2); (try clear hk); (try clear hi)) | ((with_reducible refine gate_callee (f := 25) rfl ?_); refine goesL_ (some 24) rfl rfl Try.func25 (by kernel_rfl) rfl #[.int .i64 t279, .int .i64 t280] rfl (by (try simp only [List.map_toArray, List.map_cons, List.map_nil]); first | done | rfl | (simp only [List.length_drop, List.length_take]; rfl)) ?_; (with_reducible refine (impl_FieldMul.calls t279 t280 t281 _ A7.out).mono ?_); rintro e w' ⟨rfl, ⟨nd, rfl⟩⟩; refine ⟨_, rfl, ?_⟩))
        (try simp only [Act.put, List.setIfInBounds_toArray, List.set_cons_zero, List.set_cons_succ])
        go_cut [39] (fun v39 wc => ∃ (kq : Nat) (x39_7 : Bool), v39 = .bool x39_7 ∧ Aside0 (laws_FnMulLaws.j1 kq l1 t279 t280 t281 x39_7 = some r) ∧ Aside0 (kq ≤ kj2) ∧ Aside0 (Below w.heap.size w wc))
        case first =>
          have H := HC8.out
          clear HC8
          replace H := Option.bind_eq_some_iff.mp H
          obtain ⟨t282, A100, H⟩ := H
          replace H : (if t281 = t282 then ((spec_FieldOk.f t279).bind fun t283 => (if t283 = true then ((spec_FieldOk.f t280).bind fun t284 => (laws_FnMulLaws.j1 kj2 l1 t279 t280 t281 (!t284))) else (laws_FnMulLaws.j1 kj2 l1 t279 t280 t281 true))) else (laws_FnMulLaws.j1 kj2 l1 t279 t280 t281 true)) = some r := H
          have A10 := Aside0.mk A100
          clear A100
          by_cases c11 : t281 = t282
          · rw [if_pos c11] at H
            have c11b0 : (t281 == t282) = true := beq_iff_eq.mpr c11
            have c11b1 : (t281 != t282) = false := bne_eq_false_iff_eq.mpr c11
            clear c11
            (first | rw [c11b0] | (simp only [i64_w, i32_w]; rw [c11b0]) | skip)
            replace H := Option.bind_eq_some_iff.mp H
            obtain ⟨t283, A120, H⟩ := H
            replace H : (if t283 = true then ((spec_FieldOk.f t280).bind fun t284 => (laws_FnMulLaws.j1 kj2 l1 t279 t280 t281 (!t284))) else (laws_FnMulLaws.j1 kj2 l1 t279 t280 t281 true)) = some r := H
            have A12 := Aside0.mk A120
            clear A120
            by_cases c13 : t283 = true
            · subst c13
              have H1 : ((spec_FieldOk.f t280).bind fun t284 => (laws_FnMulLaws.j1 kj2 l1 t279 t280 t281 (!t284))) = some r := by rw [if_pos rfl] at H; exact H
              clear H
              have H := H1
              clear H1
              replace H := Option.bind_eq_some_iff.mp H
              obtain ⟨t284, A140, H⟩ := H
              replace H : (laws_FnMulLaws.j1 kj2 l1 t279 t280 t281 (!t284)) = some r := H
              have A14 := Aside0.mk A140
              clear A140
              have H' := Aside0.mk H
              clear H
              go_wp2_with (first | ((with_reducible refine gate_callee (f := 26) rfl ?_); refine goesL_ (some 28) rfl rfl Try.func26 (by kernel_rfl) rfl #[.int .i64 t279, .int .i64 t280] rfl (by (try simp only [List.map_toArray, List.map_cons, List.map_nil]); first | done | rfl | (simp only [List.length_drop, List.length_take]; rfl)) ?_; (with_reducible refine (spec_FieldMul.calls t279 t280 t282 _ A10.out).mono ?_); rintro e w' ⟨rfl, ⟨nd, rfl⟩⟩; refine ⟨_, rfl, ?_⟩) | (go_at_call 27; (with_reducible refine (spec_FieldOk.calls t279 true _ A12.out).mono ?_); rintro e w' ⟨rfl, ⟨nd, rfl⟩⟩) | (go_at_call 27; (with_reducible refine (spec_FieldOk.calls t280 t284 _ A14.out).mono ?_); rintro e w' ⟨rfl, ⟨nd, rfl⟩⟩))
              go_meet
              case rel => exact ⟨_, (!t284), (by first | rfl | (simp; done) | (simp [*]; done)), H', ⟨by have := HJ2.out; first | omega | exact Nat.le_refl _⟩, ⟨by repeat (first | (with_reducible first | exact HB.out | apply below_alloc | apply pw_below_drewN | apply below_drew1) | exact HB.out)⟩⟩
            · replace c13 := Bool.eq_false_iff.mpr c13
              subst c13
              have H1 : (laws_FnMulLaws.j1 kj2 l1 t279 t280 t281 true) = some r := by rw [if_neg (show ¬ (false = true) by decide)] at H; exact H
              clear H
              have H := H1
              clear H1
              have H' := Aside0.mk H
              clear H
              go_wp2_with (first | ((with_reducible refine gate_callee (f := 26) rfl ?_); refine goesL_ (some 28) rfl rfl Try.func26 (by kernel_rfl) rfl #[.int .i64 t279, .int .i64 t280] rfl (by (try simp only [List.map_toArray, List.map_cons, List.map_nil]); first | done | rfl | (simp only [List.length_drop, List.length_take]; rfl)) ?_; (with_reducible refine (spec_FieldMul.calls t279 t280 t282 _ A10.out).mono ?_); rintro e w' ⟨rfl, ⟨nd, rfl⟩⟩; refine ⟨_, rfl, ?_⟩) | (go_at_call 27; (with_reducible refine (spec_FieldOk.calls t279 false _ A12.out).mono ?_); rintro e w' ⟨rfl, ⟨nd, rfl⟩⟩))
              go_meet
              case rel => exact ⟨_, (true), (by first | rfl | (simp; done) | (simp [*]; done)), H', ⟨by have := HJ2.out; first | omega | exact Nat.le_refl _⟩, ⟨by repeat (first | (with_reducible first | exact HB.out | apply below_alloc | apply pw_below_drewN | apply below_drew1) | exact HB.out)⟩⟩
          · rw [if_neg c11] at H
            have c11b0 : (t281 == t282) = false := beq_eq_false_iff_ne.mpr c11
            have c11b1 : (t281 != t282) = true := bne_iff_ne.mpr c11
            (first | rw [c11b0] | (simp only [i64_w, i32_w]; rw [c11b0]) | skip)
            have H' := Aside0.mk H
            clear H
            go_wp2_with (first | ((with_reducible refine gate_callee (f := 26) rfl ?_); refine goesL_ (some 28) rfl rfl Try.func26 (by kernel_rfl) rfl #[.int .i64 t279, .int .i64 t280] rfl (by (try simp only [List.map_toArray, List.map_cons, List.map_nil]); first | done | rfl | (simp only [List.length_drop, List.length_take]; rfl)) ?_; (with_reducible refine (spec_FieldMul.calls t279 t280 t282 _ A10.out).mono ?_); rintro e w' ⟨rfl, ⟨nd, rfl⟩⟩; refine ⟨_, rfl, ?_⟩))
            go_meet
            case rel => exact ⟨_, (true), (by first | rfl | (simp; done) | (simp [*]; done)), H', ⟨by have := HJ2.out; first | omega | exact Nat.le_refl _⟩, ⟨by repeat (first | (with_reducible first | exact HB.out | apply below_alloc | apply pw_below_drewN | apply below_drew1) | exact HB.out)⟩⟩
        case rest =>
          clear HC8
          try clear c1
          try clear c2
          try clear p2
          try clear c4
          try clear c4b0
          try clear c4b1
          try clear c5
          try clear c6
          try clear c11
          try clear c11b0
          try clear c11b1
          try clear c13
          try clear p2
          obtain ⟨kq, x39_7, rfl, HA, HJ7, HB⟩ := hcut
          cases kq with
          | zero => exact absurd HA.out (by simp [laws_FnMulLaws.j1])
          | succ kj7 =>
            have H := HA.out
            clear HA
            simp only [laws_FnMulLaws.j1] at H
            by_cases c15 : x39_7 = true
            · subst c15
              have H1 : ((spec_FieldMul.f t279 t280).bind fun t285 => (some (t281 == t285))) = some r := by rw [if_pos rfl] at H; exact H
              clear H
              have H := H1
              clear H1
              replace H := Option.bind_eq_some_iff.mp H
              obtain ⟨t285, A160, H⟩ := H
              replace H : (some (t281 == t285)) = some r := H
              have A16 := Aside0.mk A160
              clear A160
              obtain rfl := Option.some.inj H
              go_wp2_with (first | ((with_reducible refine gate_callee (f := 26) rfl ?_); refine goesL_ (some 43) rfl rfl Try.func26 (by kernel_rfl) rfl #[.int .i64 t279, .int .i64 t280] rfl (by (try simp only [List.map_toArray, List.map_cons, List.map_nil]); first | done | rfl | (simp only [List.length_drop, List.length_take]; rfl)) ?_; (with_reducible refine (spec_FieldMul.calls t279 t280 t285 _ A16.out).mono ?_); rintro e w' ⟨rfl, ⟨nd, rfl⟩⟩; refine ⟨_, rfl, ?_⟩))
              go_ret
              exact ⟨by first | rfl | (simp [errW_none, errW_some] <;> rfl) | (simp [*, errW_none, errW_some] <;> rfl), by repeat (first | (with_reducible first | exact HB.out | apply below_alloc | apply pw_below_drewN | apply below_drew1) | exact HB.out)⟩
            · replace c15 := Bool.eq_false_iff.mpr c15
              subst c15
              have H1 : ((laws_lkNum.f (l1.length : Int)).bind fun t286 => ((impl_FieldMul.f t280 t279).bind fun t287 => (if t287 = t281 then ((impl_FieldMul.f t281 t286).bind fun t288 => ((impl_FieldMul.f t280 t286).bind fun t289 => ((impl_FieldMul.f t279 t289).bind fun t290 => (if t288 = t290 then ((impl_FieldMul.f t279 1).bind fun t291 => (if t291 = t279 then ((impl_FieldSum.f t280 t286).bind fun t292 => ((impl_FieldMul.f t279 t292).bind fun t293 => ((impl_FieldMul.f t279 t286).bind fun t294 => ((impl_FieldSum.f t281 t294).bind fun t295 => (some (t293 == t295)))))) else (some false))) else (some false))))) else (some false)))) = some r := by rw [if_neg (show ¬ (false = true) by decide)] at H; exact H
              clear H
              have H := H1
              clear H1
              replace H := Option.bind_eq_some_iff.mp H
              obtain ⟨t286, A170, H⟩ := H
              replace H : ((impl_FieldMul.f t280 t279).bind fun t287 => (if t287 = t281 then ((impl_FieldMul.f t281 t286).bind fun t288 => ((impl_FieldMul.f t280 t286).bind fun t289 => ((impl_FieldMul.f t279 t289).bind fun t290 => (if t288 = t290 then ((impl_FieldMul.f t279 1).bind fun t291 => (if t291 = t279 then ((impl_FieldSum.f t280 t286).bind fun t292 => ((impl_FieldMul.f t279 t292).bind fun t293 => ((impl_FieldMul.f t279 t286).bind fun t294 => ((impl_FieldSum.f t281 t294).bind fun t295 => (some (t293 == t295)))))) else (some false))) else (some false))))) else (some false))) = some r := H
              have A17 := Aside0.mk A170
              clear A170
              replace H := Option.bind_eq_some_iff.mp H
              obtain ⟨t287, A180, H⟩ := H
              replace H : (if t287 = t281 then ((impl_FieldMul.f t281 t286).bind fun t288 => ((impl_FieldMul.f t280 t286).bind fun t289 => ((impl_FieldMul.f t279 t289).bind fun t290 => (if t288 = t290 then ((impl_FieldMul.f t279 1).bind fun t291 => (if t291 = t279 then ((impl_FieldSum.f t280 t286).bind fun t292 => ((impl_FieldMul.f t279 t292).bind fun t293 => ((impl_FieldMul.f t279 t286).bind fun t294 => ((impl_FieldSum.f t281 t294).bind fun t295 => (some (t293 == t295)))))) else (some false))) else (some false))))) else (some false)) = some r := H
              have A18 := Aside0.mk A180
              clear A180
              by_cases c19 : t287 = t281
              · rw [if_pos c19] at H
                have c19b0 : (t287 == t281) = true := beq_iff_eq.mpr c19
                have c19b1 : (t287 != t281) = false := bne_eq_false_iff_eq.mpr c19
                clear c19
                replace H := Option.bind_eq_some_iff.mp H
                obtain ⟨t288, A200, H⟩ := H
                replace H : ((impl_FieldMul.f t280 t286).bind fun t289 => ((impl_FieldMul.f t279 t289).bind fun t290 => (if t288 = t290 then ((impl_FieldMul.f t279 1).bind fun t291 => (if t291 = t279 then ((impl_FieldSum.f t280 t286).bind fun t292 => ((impl_FieldMul.f t279 t292).bind fun t293 => ((impl_FieldMul.f t279 t286).bind fun t294 => ((impl_FieldSum.f t281 t294).bind fun t295 => (some (t293 == t295)))))) else (some false))) else (some false)))) = some r := H
                have A20 := Aside0.mk A200
                clear A200
                replace H := Option.bind_eq_some_iff.mp H
                obtain ⟨t289, A210, H⟩ := H
                replace H : ((impl_FieldMul.f t279 t289).bind fun t290 => (if t288 = t290 then ((impl_FieldMul.f t279 1).bind fun t291 => (if t291 = t279 then ((impl_FieldSum.f t280 t286).bind fun t292 => ((impl_FieldMul.f t279 t292).bind fun t293 => ((impl_FieldMul.f t279 t286).bind fun t294 => ((impl_FieldSum.f t281 t294).bind fun t295 => (some (t293 == t295)))))) else (some false))) else (some false))) = some r := H
                have A21 := Aside0.mk A210
                clear A210
                replace H := Option.bind_eq_some_iff.mp H
                obtain ⟨t290, A220, H⟩ := H
                replace H : (if t288 = t290 then ((impl_FieldMul.f t279 1).bind fun t291 => (if t291 = t279 then ((impl_FieldSum.f t280 t286).bind fun t292 => ((impl_FieldMul.f t279 t292).bind fun t293 => ((impl_FieldMul.f t279 t286).bind fun t294 => ((impl_FieldSum.f t281 t294).bind fun t295 => (some (t293 == t295)))))) else (some false))) else (some false)) = some r := H
                have A22 := Aside0.mk A220
                clear A220
                by_cases c23 : t288 = t290
                · rw [if_pos c23] at H
                  have c23b0 : (t288 == t290) = true := beq_iff_eq.mpr c23
                  have c23b1 : (t288 != t290) = false := bne_eq_false_iff_eq.mpr c23
                  clear c23
                  replace H := Option.bind_eq_some_iff.mp H
                  obtain ⟨t291, A240, H⟩ := H
                  replace H : (if t291 = t279 then ((impl_FieldSum.f t280 t286).bind fun t292 => ((impl_FieldMul.f t279 t292).bind fun t293 => ((impl_FieldMul.f t279 t286).bind fun t294 => ((impl_FieldSum.f t281 t294).bind fun t295 => (some (t293 == t295)))))) else (some false)) = some r := H
                  have A24 := Aside0.mk A240
                  clear A240
                  by_cases c25 : t291 = t279
                  · rw [if_pos c25] at H
                    have c25b0 : (t291 == t279) = true := beq_iff_eq.mpr c25
                    have c25b1 : (t291 != t279) = false := bne_eq_false_iff_eq.mpr c25
                    clear c25
                    replace H := Option.bind_eq_some_iff.mp H
                    obtain ⟨t292, A260, H⟩ := H
                    replace H : ((impl_FieldMul.f t279 t292).bind fun t293 => ((impl_FieldMul.f t279 t286).bind fun t294 => ((impl_FieldSum.f t281 t294).bind fun t295 => (some (t293 == t295))))) = some r := H
                    have A26 := Aside0.mk A260
                    clear A260
                    replace H := Option.bind_eq_some_iff.mp H
                    obtain ⟨t293, A270, H⟩ := H
                    replace H : ((impl_FieldMul.f t279 t286).bind fun t294 => ((impl_FieldSum.f t281 t294).bind fun t295 => (some (t293 == t295)))) = some r := H
                    have A27 := Aside0.mk A270
                    clear A270
                    replace H := Option.bind_eq_some_iff.mp H
                    obtain ⟨t294, A280, H⟩ := H
                    replace H : ((impl_FieldSum.f t281 t294).bind fun t295 => (some (t293 == t295))) = some r := H
                    have A28 := Aside0.mk A280
                    clear A280
                    replace H := Option.bind_eq_some_iff.mp H
                    obtain ⟨t295, A290, H⟩ := H
                    replace H : (some (t293 == t295)) = some r := H
                    have A29 := Aside0.mk A290
                    clear A290
                    obtain rfl := Option.some.inj H
                    go_wp2_with (first | ((with_reducible refine gate_callee (f := 28) rfl ?_); refine goesL_ (some 47) rfl rfl Try.func28 (by kernel_rfl) rfl #[.int .i64 (l1.length : Int)] rfl (by (try simp only [List.map_toArray, List.map_cons, List.map_nil]); first | done | rfl | (simp only [List.length_drop, List.length_take]; rfl)) ?_; (with_reducible refine (laws_lkNum.calls (l1.length : Int) t286 _ A17.out).mono ?_); rintro e w' ⟨rfl, ⟨nd, rfl⟩⟩; refine ⟨_, rfl, ?_⟩) | ((with_reducible refine gate_callee (f := 25) rfl ?_); refine goesL_ (some 50) rfl rfl Try.func25 (by kernel_rfl) rfl #[.int .i64 t280, .int .i64 t279] rfl (by (try simp only [List.map_toArray, List.map_cons, List.map_nil]); first | done | rfl | (simp only [List.length_drop, List.length_take]; rfl)) ?_; (with_reducible refine (impl_FieldMul.calls t280 t279 t287 _ A18.out).mono ?_); rintro e w' ⟨rfl, ⟨nd, rfl⟩⟩; refine ⟨_, rfl, ?_⟩) | (go_at_call 25; (with_reducible refine (impl_FieldMul.calls t281 t286 t288 _ A20.out).mono ?_); rintro e w' ⟨rfl, ⟨nd, rfl⟩⟩) | (go_at_call 25; (with_reducible refine (impl_FieldMul.calls t280 t286 t289 _ A21.out).mono ?_); rintro e w' ⟨rfl, ⟨nd, rfl⟩⟩) | (go_at_call 25; (with_reducible refine (impl_FieldMul.calls t279 t289 t290 _ A22.out).mono ?_); rintro e w' ⟨rfl, ⟨nd, rfl⟩⟩) | (go_at_call 25; (with_reducible refine (impl_FieldMul.calls t279 1 t291 _ A24.out).mono ?_); rintro e w' ⟨rfl, ⟨nd, rfl⟩⟩) | (go_at_call 29; (with_reducible refine (impl_FieldSum.calls t280 t286 t292 _ A26.out).mono ?_); rintro e w' ⟨rfl, ⟨nd, rfl⟩⟩) | (go_at_call 25; (with_reducible refine (impl_FieldMul.calls t279 t292 t293 _ A27.out).mono ?_); rintro e w' ⟨rfl, ⟨nd, rfl⟩⟩) | (go_at_call 25; (with_reducible refine (impl_FieldMul.calls t279 t286 t294 _ A28.out).mono ?_); rintro e w' ⟨rfl, ⟨nd, rfl⟩⟩) | (go_at_call 29; (with_reducible refine (impl_FieldSum.calls t281 t294 t295 _ A29.out).mono ?_); rintro e w' ⟨rfl, ⟨nd, rfl⟩⟩))
                    go_ret
                    exact ⟨by first | rfl | (simp [errW_none, errW_some] <;> rfl) | (simp [*, errW_none, errW_some] <;> rfl), by repeat (first | (with_reducible first | exact HB.out | apply below_alloc | apply pw_below_drewN | apply below_drew1) | exact HB.out)⟩
                  · rw [if_neg c25] at H
                    have c25b0 : (t291 == t279) = false := beq_eq_false_iff_ne.mpr c25
                    have c25b1 : (t291 != t279) = true := bne_iff_ne.mpr c25
                    obtain rfl := Option.some.inj H
                    go_wp2_with (first | ((with_reducible refine gate_callee (f := 28) rfl ?_); refine goesL_ (some 47) rfl rfl Try.func28 (by kernel_rfl) rfl #[.int .i64 (l1.length : Int)] rfl (by (try simp only [List.map_toArray, List.map_cons, List.map_nil]); first | done | rfl | (simp only [List.length_drop, List.length_take]; rfl)) ?_; (with_reducible refine (laws_lkNum.calls (l1.length : Int) t286 _ A17.out).mono ?_); rintro e w' ⟨rfl, ⟨nd, rfl⟩⟩; refine ⟨_, rfl, ?_⟩) | ((with_reducible refine gate_callee (f := 25) rfl ?_); refine goesL_ (some 50) rfl rfl Try.func25 (by kernel_rfl) rfl #[.int .i64 t280, .int .i64 t279] rfl (by (try simp only [List.map_toArray, List.map_cons, List.map_nil]); first | done | rfl | (simp only [List.length_drop, List.length_take]; rfl)) ?_; (with_reducible refine (impl_FieldMul.calls t280 t279 t287 _ A18.out).mono ?_); rintro e w' ⟨rfl, ⟨nd, rfl⟩⟩; refine ⟨_, rfl, ?_⟩) | (go_at_call 25; (with_reducible refine (impl_FieldMul.calls t281 t286 t288 _ A20.out).mono ?_); rintro e w' ⟨rfl, ⟨nd, rfl⟩⟩) | (go_at_call 25; (with_reducible refine (impl_FieldMul.calls t280 t286 t289 _ A21.out).mono ?_); rintro e w' ⟨rfl, ⟨nd, rfl⟩⟩) | (go_at_call 25; (with_reducible refine (impl_FieldMul.calls t279 t289 t290 _ A22.out).mono ?_); rintro e w' ⟨rfl, ⟨nd, rfl⟩⟩) | (go_at_call 25; (with_reducible refine (impl_FieldMul.calls t279 1 t291 _ A24.out).mono ?_); rintro e w' ⟨rfl, ⟨nd, rfl⟩⟩))
                    go_ret
                    exact ⟨by first | rfl | (simp [errW_none, errW_some] <;> rfl) | (simp [*, errW_none, errW_some] <;> rfl), by repeat (first | (with_reducible first | exact HB.out | apply below_alloc | apply pw_below_drewN | apply below_drew1) | exact HB.out)⟩
                · rw [if_neg c23] at H
                  have c23b0 : (t288 == t290) = false := beq_eq_false_iff_ne.mpr c23
                  have c23b1 : (t288 != t290) = true := bne_iff_ne.mpr c23
                  obtain rfl := Option.some.inj H
                  go_wp2_with (first | ((with_reducible refine gate_callee (f := 28) rfl ?_); refine goesL_ (some 47) rfl rfl Try.func28 (by kernel_rfl) rfl #[.int .i64 (l1.length : Int)] rfl (by (try simp only [List.map_toArray, List.map_cons, List.map_nil]); first | done | rfl | (simp only [List.length_drop, List.length_take]; rfl)) ?_; (with_reducible refine (laws_lkNum.calls (l1.length : Int) t286 _ A17.out).mono ?_); rintro e w' ⟨rfl, ⟨nd, rfl⟩⟩; refine ⟨_, rfl, ?_⟩) | ((with_reducible refine gate_callee (f := 25) rfl ?_); refine goesL_ (some 50) rfl rfl Try.func25 (by kernel_rfl) rfl #[.int .i64 t280, .int .i64 t279] rfl (by (try simp only [List.map_toArray, List.map_cons, List.map_nil]); first | done | rfl | (simp only [List.length_drop, List.length_take]; rfl)) ?_; (with_reducible refine (impl_FieldMul.calls t280 t279 t287 _ A18.out).mono ?_); rintro e w' ⟨rfl, ⟨nd, rfl⟩⟩; refine ⟨_, rfl, ?_⟩) | (go_at_call 25; (with_reducible refine (impl_FieldMul.calls t281 t286 t288 _ A20.out).mono ?_); rintro e w' ⟨rfl, ⟨nd, rfl⟩⟩) | (go_at_call 25; (with_reducible refine (impl_FieldMul.calls t280 t286 t289 _ A21.out).mono ?_); rintro e w' ⟨rfl, ⟨nd, rfl⟩⟩) | (go_at_call 25; (with_reducible refine (impl_FieldMul.calls t279 t289 t290 _ A22.out).mono ?_); rintro e w' ⟨rfl, ⟨nd, rfl⟩⟩))
                  go_ret
                  exact ⟨by first | rfl | (simp [errW_none, errW_some] <;> rfl) | (simp [*, errW_none, errW_some] <;> rfl), by repeat (first | (with_reducible first | exact HB.out | apply below_alloc | apply pw_below_drewN | apply below_drew1) | exact HB.out)⟩
              · rw [if_neg c19] at H
                have c19b0 : (t287 == t281) = false := beq_eq_false_iff_ne.mpr c19
                have c19b1 : (t287 != t281) = true := bne_iff_ne.mpr c19
                obtain rfl := Option.some.inj H
                go_wp2_with (first | ((with_reducible refine gate_callee (f := 28) rfl ?_); refine goesL_ (some 47) rfl rfl Try.func28 (by kernel_rfl) rfl #[.int .i64 (l1.length : Int)] rfl (by (try simp only [List.map_toArray, List.map_cons, List.map_nil]); first | done | rfl | (simp only [List.length_drop, List.length_take]; rfl)) ?_; (with_reducible refine (laws_lkNum.calls (l1.length : Int) t286 _ A17.out).mono ?_); rintro e w' ⟨rfl, ⟨nd, rfl⟩⟩; refine ⟨_, rfl, ?_⟩) | ((with_reducible refine gate_callee (f := 25) rfl ?_); refine goesL_ (some 50) rfl rfl Try.func25 (by kernel_rfl) rfl #[.int .i64 t280, .int .i64 t279] rfl (by (try simp only [List.map_toArray, List.map_cons, List.map_nil]); first | done | rfl | (simp only [List.length_drop, List.length_take]; rfl)) ?_; (with_reducible refine (impl_FieldMul.calls t280 t279 t287 _ A18.out).mono ?_); rintro e w' ⟨rfl, ⟨nd, rfl⟩⟩; refine ⟨_, rfl, ?_⟩))
                go_ret
                exact ⟨by first | rfl | (simp [errW_none, errW_some] <;> rfl) | (simp [*, errW_none, errW_some] <;> rfl), by repeat (first | (with_reducible first | exact HB.out | apply below_alloc | apply pw_below_drewN | apply below_drew1) | exact HB.out)⟩

/-- THE ONE PURE STATEMENT of laws_FnMulLaws: yours. -/
def laws_FnMulLaws.Pure : Prop := ∀ (l0 : List Int) (l1 : List Int), l0.length ≤ maxLen → l0.length * 1 ≤ 140737488351232 → (∀ x ∈ l0, (Lit.int .u8 x).wf = true) → l1.length ≤ maxLen → l1.length * 1 ≤ 140737488351232 → (∀ x ∈ l1, (Lit.int .u8 x).wf = true) → ∃ k, laws_FnMulLaws.f k l0 l1 = some true
theorem laws_FnMulLaws.walk (P : laws_FnMulLaws.Pure) (a0 : Option Addr) (len0 cap0 : Nat) (z0 : List Int) (a1 : Option Addr) (len1 cap1 : Nat) (z1 : List Int) (w : World) (w0 : (a0 = none ∧ len0 = 0 ∧ cap0 = 0 ∧ z0 = []) ∨ ∃ x, a0 = some x ∧ len0 ≤ cap0 ∧ cap0 ≤ maxLen ∧ z0.length = cap0 ∧ (∀ i, i < z0.length → w.cell? (x.add i) = some (.int .u8 (z0.getD i 0))) ∧ ∀ n ∈ z0, (Lit.int .u8 n).wf = true) (y0 : len0 * 1 ≤ 140737488351232) (w1 : (a1 = none ∧ len1 = 0 ∧ cap1 = 0 ∧ z1 = []) ∨ ∃ x, a1 = some x ∧ len1 ≤ cap1 ∧ cap1 ≤ maxLen ∧ z1.length = cap1 ∧ (∀ i, i < z1.length → w.cell? (x.add i) = some (.int .u8 (z1.getD i 0))) ∧ ∀ n ∈ z1, (Lit.int .u8 n).wf = true) (y1 : len1 * 1 ≤ 140737488351232) :
    Calls Try.prog 6 #[.slice a0 len0 cap0, .slice a1 len1 cap1] w fun e w' => e = .returned (.bool true) ∧ Below w.heap.size w w' := by
  obtain ⟨l0, rfl, hr0, hm0, hw0, hc0⟩ := ReadsInt.ofRowC w0
  obtain ⟨l1, rfl, hr1, hm1, hw1, hc1⟩ := ReadsInt.ofRowC w1
  obtain ⟨k, h⟩ := P l0 l1 hm0 y0 hw0 hm1 y1 hw1
  refine (laws_FnMulLaws.calls k _ _ l0 _ _ l1 true w (Kd.C_of_reads (d := (0 : Int)) (h1 := fun _ => rfl) hr0) hc0 (Kd.C_of_reads (d := (0 : Int)) (h1 := fun _ => rfl) hr1) hc1 h).mono ?_
  rintro e w' ⟨rfl, hd⟩
  exact ⟨rfl, hd⟩

end Go.Proofs.Ytlafdcaplmgjkaa.PA
