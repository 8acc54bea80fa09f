-- Written by a program of this session (after the manner of the kit's print, several laws in one text).
import Derived.Test.YtamaejafddmagaaPAx0
import Derived.Test.YtamaejafddmagaaPAx6
import Derived.Test.YtamaejafddmagaaPAx9
import Derived.Test.YtamaejafddmagaaPAx10
import Derived.Test.YtamaejafddmagaaGw
import Derived.Test.YtamaejafddmagaaGm
import Derived.Test.YtamaejafddmagaaGc
import Derived.Test.YtamaejafddmagaaHm
namespace Go.Proofs.Ytamaejafddmagaa.PA
open Go.RowKit Go.Proofs.YtamaejafddmagaaW.PrintWords Go.Proofs.YtamaejafddmagaaW.PrintLast Go.Proofs.YtamaejafddmagaaW.PrintMore
attribute [local go_sem] max2_int min2_int max_two min_two max_three min_three max_four min_four   -- for this text's walks alone
set_option linter.unusedVariables false
set_option linter.unusedSimpArgs false

/-! ### laws_FnMost: function 9 -/
theorem z13_0 {p : Prop} (h : p := by repeat (first | (with_reducible first | exact HB.out | apply below_alloc | apply pw_below_drewN | apply below_drew1) | exact HB.out)) : p := h
theorem z13_1 {p : Prop} (h : p := by (try simp only [List.map_toArray, List.map_cons, List.map_nil]); first | done | rfl | (simp only [List.length_drop, List.length_take]; rfl)) : p := h
theorem z13_2 {p : Prop} (h : p := by first | rfl | (simp; done) | (simp [*]; done)) : p := h
theorem z13_3 {p : Prop} (h : p := by (with_reducible repeat (first | apply Kd.R_alloc | apply Kd.R_drewN | apply Kd.R_drew)); exact HO414.out) : p := h
theorem z13_4 {p : Prop} (h : p := by first | rfl | (simp [errW_none, errW_some] <;> rfl) | (simp [*, errW_none, errW_some] <;> rfl)) : p := h
theorem z13_5 {p : Prop} (h : p := by have := HJ4.out; have := HK2.out; omega) : p := h
mutual
def laws_FnMost.j0 : Nat → Int → Int → Bool → Option (Bool)
  | 0, _, _, _ => none
  | k + 1, x3, x4, x24 => if x24 = true then ((spec_CodeMost.f k x3).bind fun t411 => (some (x4 == t411))) else (laws_FnMost.l0 k x3 x4 false 0)
def laws_FnMost.l0 : Nat → Int → Int → Bool → Int → Option (Bool)
  | 0, _, _, _, _ => none
  | k + 1, x3, x4, x5, x6 => if x6 < 256 then ((laws_lkThere.f k x6).bind fun t412 => ((laws_lkMany.f k t412).bind fun t415 => ((impl_CodeBears.f k x3 t412).bind fun t416 => (if (wrap64 (8 - t415)) ≤ x4 then (if t416 = true then (if x5 = true then (laws_FnMost.l0 k x3 x4 true (wrap64 (x6 + 1))) else (if (wrap64 (8 - t415)) = (wrap64 (x4 + 1)) then (laws_FnMost.l0 k x3 x4 (!t416) (wrap64 (x6 + 1))) else (laws_FnMost.l0 k x3 x4 false (wrap64 (x6 + 1))))) else (some false)) else (if x5 = true then (laws_FnMost.l0 k x3 x4 true (wrap64 (x6 + 1))) else (if (wrap64 (8 - t415)) = (wrap64 (x4 + 1)) then (laws_FnMost.l0 k x3 x4 (!t416) (wrap64 (x6 + 1))) else (laws_FnMost.l0 k x3 x4 false (wrap64 (x6 + 1))))))))) else (if x5 = true then (some (decide (x4 ≤ 4))) else (some false))
end
def laws_FnMost.f (k : Nat) (l0 : List Int) : Option (Bool) := if (l0.length : Int) > 1048576 then (some true) else ((spec_DrawCodeMost.f k l0).bind fun t408 => ((impl_CodeMost.f t408).bind fun t409 => ((spec_CodeMost.f k t408).bind fun t410 => (if t409 = t410 then (laws_FnMost.j0 k t408 t409 (decide (t409 < 0))) else (laws_FnMost.j0 k t408 t409 true)))))
set_option maxHeartbeats 8000000 in
set_option maxRecDepth 100000 in
theorem laws_FnMost.calls (k : Nat) (A0 : Option Addr) (c0 : Nat) (l0 : List Int) (r : Bool) (w : World) (hr0 : Kd.C (Kd.int .u8) w A0 l0.length l0) (hc0 : l0.length ≤ c0) (h : laws_FnMost.f k l0 = some r) :
  Calls Try.prog 9 #[.slice A0 l0.length c0] w fun e w' => e = .returned (.bool r) ∧ Below w.heap.size w w' := by
 have HR0 := Aside0.mk hr0
 have HC0 := Aside0.mk hc0
 clear hr0 hc0
 have HB := Aside0.mk (Below.refl w.heap.size w)
 have H : (if (l0.length : Int) > 1048576 then (some true) else ((spec_DrawCodeMost.f k l0).bind fun t408 => ((impl_CodeMost.f t408).bind fun t409 => ((spec_CodeMost.f k t408).bind fun t410 => (if t409 = t410 then (laws_FnMost.j0 k t408 t409 (decide (t409 < 0))) else (laws_FnMost.j0 k t408 t409 true)))))) = some r := h
 clear h
 by_cases c2 : (l0.length : Int) > 1048576
 ·rw [if_pos c2] at H
  have c2b0 : decide (1048576 < (l0.length : Int)) = true := decide_eq_true c2
  have c2b1 : decide (1048576 < l0.length) = true := decide_eq_true (by omega)
  clear c2
  obtain rfl := Option.some.inj H
  go_enter Try.func9, Try.ntmps9
  go_wp2
  go_ret
  exact ⟨z13_4, z13_0⟩
 ·rw [if_neg c2] at H
  have c2b0 : decide (1048576 < (l0.length : Int)) = false := decide_eq_false c2
  have c2b1 : decide (1048576 < l0.length) = false := decide_eq_false (by omega)
  clear c2
  replace H := Option.bind_eq_some_iff.mp H
  obtain ⟨t408, A30, H⟩ := H
  replace H : ((impl_CodeMost.f t408).bind fun t409 => ((spec_CodeMost.f k t408).bind fun t410 => (if t409 = t410 then (laws_FnMost.j0 k t408 t409 (decide (t409 < 0))) else (laws_FnMost.j0 k t408 t409 true)))) = some r := H
  have A3 := Aside0.mk A30
  clear A30
  replace H := Option.bind_eq_some_iff.mp H
  obtain ⟨t409, A40, H⟩ := H
  replace H : ((spec_CodeMost.f k t408).bind fun t410 => (if t409 = t410 then (laws_FnMost.j0 k t408 t409 (decide (t409 < 0))) else (laws_FnMost.j0 k t408 t409 true))) = some r := H
  have A4 := Aside0.mk A40
  clear A40
  have HC5 := Aside0.mk H
  clear H
  go_enter Try.func9, Try.ntmps9
  go_upto_region 5 with (first | ((with_reducible refine gate_callee (f := 35) rfl ?_); refine goesL_ (some 14) rfl rfl Try.func35 (by kernel_rfl) rfl #[.slice A0 l0.length c0] rfl z13_1 ?_; (with_reducible refine (spec_DrawCodeMost.calls k _ _ l0 t408 _ ?side1 ?side2 A3.out).mono ?_); (case side1 => exact cZ (HR0.out)); (case side2 => exact HC0.out); rintro e w6 ⟨rfl, hb⟩; refine ⟨_, rfl, ?_⟩; replace HB := Aside0.mk (below_step z13_0 hb); (try clear hb)) | ((with_reducible refine gate_callee (f := 32) rfl ?_); refine goesL_ (some 16) rfl rfl Try.func32 (by kernel_rfl) rfl #[.int .i64 t408] rfl z13_1 ?_; (with_reducible refine (impl_CodeMost.calls t408 t409 _ A4.out).mono ?_); rintro e w7 ⟨rfl, hb⟩; refine ⟨_, rfl, ?_⟩; replace HB := Aside0.mk (below_step z13_0 hb); (try clear hb)))
  (try simp only [Act.put, List.setIfInBounds_toArray, List.set_cons_zero, List.set_cons_succ])
  go_cut [24] (fun v24 wc => ∃ (kq : Nat) (x24_4 : Bool), v24 = .bool x24_4 ∧ Aside0 (laws_FnMost.j0 kq t408 t409 x24_4 = some r) ∧ Aside0 (kq ≤ k) ∧ Aside0 (Below w.heap.size w wc))
  case first =>
   have H := HC5.out
   clear HC5
   replace H := Option.bind_eq_some_iff.mp H
   obtain ⟨t410, A80, H⟩ := H
   replace H : (if t409 = t410 then (laws_FnMost.j0 k t408 t409 (decide (t409 < 0))) else (laws_FnMost.j0 k t408 t409 true)) = some r := H
   have A8 := Aside0.mk A80
   clear A80
   by_cases c9 : t409 = t410
   ·rw [if_pos c9] at H
    have c9b0 : (t409 == t410) = true := beq_iff_eq.mpr c9
    have c9b1 : (t409 != t410) = false := bne_eq_false_iff_eq.mpr c9
    clear c9
    (first | rw [c9b0] | (simp only [i64_w, i32_w]; rw [c9b0]) | skip)
    have H' := Aside0.mk H
    clear H
    go_wp2_with (first | ((with_reducible refine gate_callee (f := 31) rfl ?_); refine goesL_ (some 19) rfl rfl Try.func31 (by kernel_rfl) rfl #[.int .i64 t408] rfl z13_1 ?_; (with_reducible refine (spec_CodeMost.calls k t408 t410 _ A8.out).mono ?_); rintro e w10 ⟨rfl, hb⟩; refine ⟨_, rfl, ?_⟩; replace HB := Aside0.mk (below_step z13_0 hb); (try clear hb)))
    go_meet
    case rel => exact ⟨_, (decide (t409 < 0)), z13_2, H', ⟨by first | omega | exact Nat.le_refl _⟩, ⟨z13_0⟩⟩
   ·rw [if_neg c9] at H
    have c9b0 : (t409 == t410) = false := beq_eq_false_iff_ne.mpr c9
    have c9b1 : (t409 != t410) = true := bne_iff_ne.mpr c9
    (first | rw [c9b0] | (simp only [i64_w, i32_w]; rw [c9b0]) | skip)
    have H' := Aside0.mk H
    clear H
    go_wp2_with (first | ((with_reducible refine gate_callee (f := 31) rfl ?_); refine goesL_ (some 19) rfl rfl Try.func31 (by kernel_rfl) rfl #[.int .i64 t408] rfl z13_1 ?_; (with_reducible refine (spec_CodeMost.calls k t408 t410 _ A8.out).mono ?_); rintro e w11 ⟨rfl, hb⟩; refine ⟨_, rfl, ?_⟩; replace HB := Aside0.mk (below_step z13_0 hb); (try clear hb)))
    go_meet
    case rel => exact ⟨_, (true), z13_2, H', ⟨by first | omega | exact Nat.le_refl _⟩, ⟨z13_0⟩⟩
  case rest =>
   clear HC5
   try clear c2
   try clear c2b0
   try clear c2b1
   obtain ⟨kq, x24_4, rfl, HA, HJ4, HB⟩ := hcut
   cases kq with
   | zero => exact absurd HA.out (by simp [laws_FnMost.j0])
   | succ kj4 =>
    have H := HA.out
    clear HA
    simp only [laws_FnMost.j0] at H
    by_cases c12 : x24_4 = true
    ·subst c12
     have H1 : ((spec_CodeMost.f kj4 t408).bind fun t411 => (some (t409 == t411))) = some r := by rw [if_pos rfl] at H; exact H
     clear H
     have H := H1
     clear H1
     replace H := Option.bind_eq_some_iff.mp H
     obtain ⟨t411, A130, H⟩ := H
     replace H : (some (t409 == t411)) = some r := H
     have A13 := Aside0.mk A130
     clear A130
     obtain rfl := Option.some.inj H
     go_wp2_with (first | ((with_reducible refine gate_callee (f := 31) rfl ?_); refine goesL_ (some 27) rfl rfl Try.func31 (by kernel_rfl) rfl #[.int .i64 t408] rfl z13_1 ?_; (with_reducible refine (spec_CodeMost.calls kj4 t408 t411 _ A13.out).mono ?_); rintro e w14 ⟨rfl, hb⟩; refine ⟨_, rfl, ?_⟩; replace HB := Aside0.mk (below_step z13_0 hb); (try clear hb)))
     go_ret
     exact ⟨z13_4, z13_0⟩
    ·replace c12 := Bool.eq_false_iff.mpr c12
     subst c12
     have H1 : (laws_FnMost.l0 kj4 t408 t409 false 0) = some r := by rw [if_neg (show ¬ (false = true) by decide)] at H; exact H
     clear H
     have H := H1
     clear H1
     have H' := Aside0.mk H
     clear H
     go_wp2
     go_loopg [5, 6] kj4 (fun kq v5 v6 w' => ∃ (x5_2 : Bool) (x6_2 : Int), v5 = .bool x5_2 ∧ v6 = .int .i64 x6_2 ∧ Aside0 (laws_FnMost.l0 kq t408 t409 x5_2 x6_2 = some r) ∧ Aside0 (kq ≤ kj4) ∧ Aside0 (Below w.heap.size w w'))
     case atStart => exact ⟨(false), (0), z13_2, z13_2, H', ⟨Nat.le_refl _⟩, ⟨z13_0⟩⟩
     case round =>
      clear H'
      try clear c2
      try clear c2b0
      try clear c2b1
      try clear c12
      obtain ⟨x5_2, x6_2, rfl, rfl, HA, HK2, HB⟩ := hrel
      cases gk with
      | zero => exact absurd HA.out (by simp [laws_FnMost.l0])
      | succ k2 =>
       have H := HA.out
       clear HA
       simp only [laws_FnMost.l0] at H
       by_cases c15 : x6_2 < 256
       ·rw [if_pos c15] at H
        have c15b0 : decide (x6_2 < 256) = true := decide_eq_true c15
        clear c15
        replace H := Option.bind_eq_some_iff.mp H
        obtain ⟨t412, A160, H⟩ := H
        replace H : ((laws_lkMany.f k2 t412).bind fun t415 => ((impl_CodeBears.f k2 t408 t412).bind fun t416 => (if (wrap64 (8 - t415)) ≤ t409 then (if t416 = true then (if x5_2 = true then (laws_FnMost.l0 k2 t408 t409 true (wrap64 (x6_2 + 1))) else (if (wrap64 (8 - t415)) = (wrap64 (t409 + 1)) then (laws_FnMost.l0 k2 t408 t409 (!t416) (wrap64 (x6_2 + 1))) else (laws_FnMost.l0 k2 t408 t409 false (wrap64 (x6_2 + 1))))) else (some false)) else (if x5_2 = true then (laws_FnMost.l0 k2 t408 t409 true (wrap64 (x6_2 + 1))) else (if (wrap64 (8 - t415)) = (wrap64 (t409 + 1)) then (laws_FnMost.l0 k2 t408 t409 (!t416) (wrap64 (x6_2 + 1))) else (laws_FnMost.l0 k2 t408 t409 false (wrap64 (x6_2 + 1)))))))) = some r := H
        have A16 := Aside0.mk A160
        clear A160
        replace H := Option.bind_eq_some_iff.mp H
        obtain ⟨t415, A170, H⟩ := H
        replace H : ((impl_CodeBears.f k2 t408 t412).bind fun t416 => (if (wrap64 (8 - t415)) ≤ t409 then (if t416 = true then (if x5_2 = true then (laws_FnMost.l0 k2 t408 t409 true (wrap64 (x6_2 + 1))) else (if (wrap64 (8 - t415)) = (wrap64 (t409 + 1)) then (laws_FnMost.l0 k2 t408 t409 (!t416) (wrap64 (x6_2 + 1))) else (laws_FnMost.l0 k2 t408 t409 false (wrap64 (x6_2 + 1))))) else (some false)) else (if x5_2 = true then (laws_FnMost.l0 k2 t408 t409 true (wrap64 (x6_2 + 1))) else (if (wrap64 (8 - t415)) = (wrap64 (t409 + 1)) then (laws_FnMost.l0 k2 t408 t409 (!t416) (wrap64 (x6_2 + 1))) else (laws_FnMost.l0 k2 t408 t409 false (wrap64 (x6_2 + 1))))))) = some r := H
        have A17 := Aside0.mk A170
        clear A170
        replace H := Option.bind_eq_some_iff.mp H
        obtain ⟨t416, A180, H⟩ := H
        replace H : (if (wrap64 (8 - t415)) ≤ t409 then (if t416 = true then (if x5_2 = true then (laws_FnMost.l0 k2 t408 t409 true (wrap64 (x6_2 + 1))) else (if (wrap64 (8 - t415)) = (wrap64 (t409 + 1)) then (laws_FnMost.l0 k2 t408 t409 (!t416) (wrap64 (x6_2 + 1))) else (laws_FnMost.l0 k2 t408 t409 false (wrap64 (x6_2 + 1))))) else (some false)) else (if x5_2 = true then (laws_FnMost.l0 k2 t408 t409 true (wrap64 (x6_2 + 1))) else (if (wrap64 (8 - t415)) = (wrap64 (t409 + 1)) then (laws_FnMost.l0 k2 t408 t409 (!t416) (wrap64 (x6_2 + 1))) else (laws_FnMost.l0 k2 t408 t409 false (wrap64 (x6_2 + 1)))))) = some r := H
        have A18 := Aside0.mk A180
        clear A180
        by_cases c19 : (wrap64 (8 - t415)) ≤ t409
        ·rw [if_pos c19] at H
         have c19b0 : decide ((wrap64 (8 - t415)) ≤ t409) = true := decide_eq_true c19
         clear c19
         by_cases c20 : t416 = true
         ·subst c20
          have H1 : (if x5_2 = true then (laws_FnMost.l0 k2 t408 t409 true (wrap64 (x6_2 + 1))) else (if (wrap64 (8 - t415)) = (wrap64 (t409 + 1)) then (laws_FnMost.l0 k2 t408 t409 (!true) (wrap64 (x6_2 + 1))) else (laws_FnMost.l0 k2 t408 t409 false (wrap64 (x6_2 + 1))))) = some r := by rw [if_pos rfl] at H; exact H
          clear H
          have H := H1
          clear H1
          by_cases c21 : x5_2 = true
          ·subst c21
           have H1 : (laws_FnMost.l0 k2 t408 t409 true (wrap64 (x6_2 + 1))) = some r := by rw [if_pos rfl] at H; exact H
           clear H
           have H := H1
           clear H1
           have H' := Aside0.mk H
           clear H
           go_wp2_with (first | ((with_reducible refine gate_callee (f := 36) rfl ?_); refine goesL_ (some 34) rfl rfl Try.func36 (by kernel_rfl) rfl #[.int .i64 x6_2] rfl z13_1 ?_; (with_reducible refine (laws_lkThere.calls k2 x6_2 t412 _ A16.out).mono ?_); rintro e w22 ⟨v413, rfl, ho0, hb⟩; refine ⟨_, rfl, ?_⟩; have HO414 := Aside0.mk (Kd.R_lower ho0 (below_size z13_0)); replace HB := Aside0.mk (below_step z13_0 hb); (try clear hb); (try clear ho0); obtain ⟨Ao23, co23, eo23⟩ := Kd.R_slice HO414.out; subst eo23) | ((with_reducible refine gate_callee (f := 34) rfl ?_); refine goesL_ (some 36) rfl rfl Try.func34 (by kernel_rfl) rfl #[.slice Ao23 t412.length co23] rfl z13_1 ?_; (with_reducible refine (laws_lkMany.calls k2 _ _ t412 t415 _ ?side1 ?side2 A17.out).mono ?_); (case side1 => exact cZ ((Kd.R_reads' HO414.out).2.2)); (case side2 => exact (Kd.R_reads' HO414.out).2.1); rintro e w' ⟨rfl, ⟨nd, rfl⟩⟩; refine ⟨_, rfl, ?_⟩) | ((with_reducible refine gate_callee (f := 29) rfl ?_); refine goesL_ (some 40) rfl rfl Try.func29 (by kernel_rfl) rfl #[.int .i64 t408, .slice Ao23 t412.length co23] rfl z13_1 ?_; (with_reducible refine (impl_CodeBears.calls k2 t408 _ _ t412 true _ ?side1 ?side2 A18.out).mono ?_); (case side1 => exact cZ ((Kd.R_reads' HO414.out).2.2)); (case side2 => exact (Kd.R_reads' HO414.out).2.1); rintro e w24 ⟨rfl, hb⟩; refine ⟨_, rfl, ?_⟩; replace HO414 := Aside0.mk (Kd.R_below z13_3 hb); replace HB := Aside0.mk (below_step z13_0 hb); (try clear hb)))
           go_roundg k2
           case measure => have := HJ4.out; have := HK2.out; omega
           case rel => exact ⟨(true), (wrap64 (x6_2 + 1)), z13_2, z13_2, H', ⟨z13_5⟩, ⟨z13_0⟩⟩
          ·replace c21 := Bool.eq_false_iff.mpr c21
           subst c21
           have H1 : (if (wrap64 (8 - t415)) = (wrap64 (t409 + 1)) then (laws_FnMost.l0 k2 t408 t409 (!true) (wrap64 (x6_2 + 1))) else (laws_FnMost.l0 k2 t408 t409 false (wrap64 (x6_2 + 1)))) = some r := by rw [if_neg (show ¬ (false = true) by decide)] at H; exact H
           clear H
           have H := H1
           clear H1
           by_cases c25 : (wrap64 (8 - t415)) = (wrap64 (t409 + 1))
           ·rw [if_pos c25] at H
            have c25b0 : ((wrap64 (8 - t415)) == (wrap64 (t409 + 1))) = true := beq_iff_eq.mpr c25
            have c25b1 : ((wrap64 (8 - t415)) != (wrap64 (t409 + 1))) = false := bne_eq_false_iff_eq.mpr c25
            clear c25
            have H' := Aside0.mk H
            clear H
            go_wp2_with (first | ((with_reducible refine gate_callee (f := 36) rfl ?_); refine goesL_ (some 34) rfl rfl Try.func36 (by kernel_rfl) rfl #[.int .i64 x6_2] rfl z13_1 ?_; (with_reducible refine (laws_lkThere.calls k2 x6_2 t412 _ A16.out).mono ?_); rintro e w26 ⟨v413, rfl, ho0, hb⟩; refine ⟨_, rfl, ?_⟩; have HO414 := Aside0.mk (Kd.R_lower ho0 (below_size z13_0)); replace HB := Aside0.mk (below_step z13_0 hb); (try clear hb); (try clear ho0); obtain ⟨Ao27, co27, eo27⟩ := Kd.R_slice HO414.out; subst eo27) | ((with_reducible refine gate_callee (f := 34) rfl ?_); refine goesL_ (some 36) rfl rfl Try.func34 (by kernel_rfl) rfl #[.slice Ao27 t412.length co27] rfl z13_1 ?_; (with_reducible refine (laws_lkMany.calls k2 _ _ t412 t415 _ ?side1 ?side2 A17.out).mono ?_); (case side1 => exact cZ ((Kd.R_reads' HO414.out).2.2)); (case side2 => exact (Kd.R_reads' HO414.out).2.1); rintro e w' ⟨rfl, ⟨nd, rfl⟩⟩; refine ⟨_, rfl, ?_⟩) | ((with_reducible refine gate_callee (f := 29) rfl ?_); refine goesL_ (some 40) rfl rfl Try.func29 (by kernel_rfl) rfl #[.int .i64 t408, .slice Ao27 t412.length co27] rfl z13_1 ?_; (with_reducible refine (impl_CodeBears.calls k2 t408 _ _ t412 true _ ?side1 ?side2 A18.out).mono ?_); (case side1 => exact cZ ((Kd.R_reads' HO414.out).2.2)); (case side2 => exact (Kd.R_reads' HO414.out).2.1); rintro e w28 ⟨rfl, hb⟩; refine ⟨_, rfl, ?_⟩; replace HO414 := Aside0.mk (Kd.R_below z13_3 hb); replace HB := Aside0.mk (below_step z13_0 hb); (try clear hb)))
            go_roundg k2
            case measure => have := HJ4.out; have := HK2.out; omega
            case rel => exact ⟨(!true), (wrap64 (x6_2 + 1)), z13_2, z13_2, H', ⟨z13_5⟩, ⟨z13_0⟩⟩
           ·rw [if_neg c25] at H
            have c25b0 : ((wrap64 (8 - t415)) == (wrap64 (t409 + 1))) = false := beq_eq_false_iff_ne.mpr c25
            have c25b1 : ((wrap64 (8 - t415)) != (wrap64 (t409 + 1))) = true := bne_iff_ne.mpr c25
            have H' := Aside0.mk H
            clear H
            go_wp2_with (first | ((with_reducible refine gate_callee (f := 36) rfl ?_); refine goesL_ (some 34) rfl rfl Try.func36 (by kernel_rfl) rfl #[.int .i64 x6_2] rfl z13_1 ?_; (with_reducible refine (laws_lkThere.calls k2 x6_2 t412 _ A16.out).mono ?_); rintro e w29 ⟨v413, rfl, ho0, hb⟩; refine ⟨_, rfl, ?_⟩; have HO414 := Aside0.mk (Kd.R_lower ho0 (below_size z13_0)); replace HB := Aside0.mk (below_step z13_0 hb); (try clear hb); (try clear ho0); obtain ⟨Ao30, co30, eo30⟩ := Kd.R_slice HO414.out; subst eo30) | ((with_reducible refine gate_callee (f := 34) rfl ?_); refine goesL_ (some 36) rfl rfl Try.func34 (by kernel_rfl) rfl #[.slice Ao30 t412.length co30] rfl z13_1 ?_; (with_reducible refine (laws_lkMany.calls k2 _ _ t412 t415 _ ?side1 ?side2 A17.out).mono ?_); (case side1 => exact cZ ((Kd.R_reads' HO414.out).2.2)); (case side2 => exact (Kd.R_reads' HO414.out).2.1); rintro e w' ⟨rfl, ⟨nd, rfl⟩⟩; refine ⟨_, rfl, ?_⟩) | ((with_reducible refine gate_callee (f := 29) rfl ?_); refine goesL_ (some 40) rfl rfl Try.func29 (by kernel_rfl) rfl #[.int .i64 t408, .slice Ao30 t412.length co30] rfl z13_1 ?_; (with_reducible refine (impl_CodeBears.calls k2 t408 _ _ t412 true _ ?side1 ?side2 A18.out).mono ?_); (case side1 => exact cZ ((Kd.R_reads' HO414.out).2.2)); (case side2 => exact (Kd.R_reads' HO414.out).2.1); rintro e w31 ⟨rfl, hb⟩; refine ⟨_, rfl, ?_⟩; replace HO414 := Aside0.mk (Kd.R_below z13_3 hb); replace HB := Aside0.mk (below_step z13_0 hb); (try clear hb)))
            go_roundg k2
            case measure => have := HJ4.out; have := HK2.out; omega
            case rel => exact ⟨(false), (wrap64 (x6_2 + 1)), z13_2, z13_2, H', ⟨z13_5⟩, ⟨z13_0⟩⟩
         ·replace c20 := Bool.eq_false_iff.mpr c20
          subst c20
          have H1 : (some false) = some r := by rw [if_neg (show ¬ (false = true) by decide)] at H; exact H
          clear H
          have H := H1
          clear H1
          obtain rfl := Option.some.inj H
          go_wp2_with (first | ((with_reducible refine gate_callee (f := 36) rfl ?_); refine goesL_ (some 34) rfl rfl Try.func36 (by kernel_rfl) rfl #[.int .i64 x6_2] rfl z13_1 ?_; (with_reducible refine (laws_lkThere.calls k2 x6_2 t412 _ A16.out).mono ?_); rintro e w32 ⟨v413, rfl, ho0, hb⟩; refine ⟨_, rfl, ?_⟩; have HO414 := Aside0.mk (Kd.R_lower ho0 (below_size z13_0)); replace HB := Aside0.mk (below_step z13_0 hb); (try clear hb); (try clear ho0); obtain ⟨Ao33, co33, eo33⟩ := Kd.R_slice HO414.out; subst eo33) | ((with_reducible refine gate_callee (f := 34) rfl ?_); refine goesL_ (some 36) rfl rfl Try.func34 (by kernel_rfl) rfl #[.slice Ao33 t412.length co33] rfl z13_1 ?_; (with_reducible refine (laws_lkMany.calls k2 _ _ t412 t415 _ ?side1 ?side2 A17.out).mono ?_); (case side1 => exact cZ ((Kd.R_reads' HO414.out).2.2)); (case side2 => exact (Kd.R_reads' HO414.out).2.1); rintro e w' ⟨rfl, ⟨nd, rfl⟩⟩; refine ⟨_, rfl, ?_⟩) | ((with_reducible refine gate_callee (f := 29) rfl ?_); refine goesL_ (some 40) rfl rfl Try.func29 (by kernel_rfl) rfl #[.int .i64 t408, .slice Ao33 t412.length co33] rfl z13_1 ?_; (with_reducible refine (impl_CodeBears.calls k2 t408 _ _ t412 false _ ?side1 ?side2 A18.out).mono ?_); (case side1 => exact cZ ((Kd.R_reads' HO414.out).2.2)); (case side2 => exact (Kd.R_reads' HO414.out).2.1); rintro e w34 ⟨rfl, hb⟩; refine ⟨_, rfl, ?_⟩; replace HO414 := Aside0.mk (Kd.R_below z13_3 hb); replace HB := Aside0.mk (below_step z13_0 hb); (try clear hb)))
          go_ret
          exact ⟨z13_4, z13_0⟩
        ·rw [if_neg c19] at H
         have c19b0 : decide ((wrap64 (8 - t415)) ≤ t409) = false := decide_eq_false c19
         clear c19
         by_cases c35 : x5_2 = true
         ·subst c35
          have H1 : (laws_FnMost.l0 k2 t408 t409 true (wrap64 (x6_2 + 1))) = some r := by rw [if_pos rfl] at H; exact H
          clear H
          have H := H1
          clear H1
          have H' := Aside0.mk H
          clear H
          go_wp2_with (first | ((with_reducible refine gate_callee (f := 36) rfl ?_); refine goesL_ (some 34) rfl rfl Try.func36 (by kernel_rfl) rfl #[.int .i64 x6_2] rfl z13_1 ?_; (with_reducible refine (laws_lkThere.calls k2 x6_2 t412 _ A16.out).mono ?_); rintro e w36 ⟨v413, rfl, ho0, hb⟩; refine ⟨_, rfl, ?_⟩; have HO414 := Aside0.mk (Kd.R_lower ho0 (below_size z13_0)); replace HB := Aside0.mk (below_step z13_0 hb); (try clear hb); (try clear ho0); obtain ⟨Ao37, co37, eo37⟩ := Kd.R_slice HO414.out; subst eo37) | ((with_reducible refine gate_callee (f := 34) rfl ?_); refine goesL_ (some 36) rfl rfl Try.func34 (by kernel_rfl) rfl #[.slice Ao37 t412.length co37] rfl z13_1 ?_; (with_reducible refine (laws_lkMany.calls k2 _ _ t412 t415 _ ?side1 ?side2 A17.out).mono ?_); (case side1 => exact cZ ((Kd.R_reads' HO414.out).2.2)); (case side2 => exact (Kd.R_reads' HO414.out).2.1); rintro e w' ⟨rfl, ⟨nd, rfl⟩⟩; refine ⟨_, rfl, ?_⟩) | ((with_reducible refine gate_callee (f := 29) rfl ?_); refine goesL_ (some 40) rfl rfl Try.func29 (by kernel_rfl) rfl #[.int .i64 t408, .slice Ao37 t412.length co37] rfl z13_1 ?_; (with_reducible refine (impl_CodeBears.calls k2 t408 _ _ t412 t416 _ ?side1 ?side2 A18.out).mono ?_); (case side1 => exact cZ ((Kd.R_reads' HO414.out).2.2)); (case side2 => exact (Kd.R_reads' HO414.out).2.1); rintro e w38 ⟨rfl, hb⟩; refine ⟨_, rfl, ?_⟩; replace HO414 := Aside0.mk (Kd.R_below z13_3 hb); replace HB := Aside0.mk (below_step z13_0 hb); (try clear hb)))
          go_roundg k2
          case measure => have := HJ4.out; have := HK2.out; omega
          case rel => exact ⟨(true), (wrap64 (x6_2 + 1)), z13_2, z13_2, H', ⟨z13_5⟩, ⟨z13_0⟩⟩
         ·replace c35 := Bool.eq_false_iff.mpr c35
          subst c35
          have H1 : (if (wrap64 (8 - t415)) = (wrap64 (t409 + 1)) then (laws_FnMost.l0 k2 t408 t409 (!t416) (wrap64 (x6_2 + 1))) else (laws_FnMost.l0 k2 t408 t409 false (wrap64 (x6_2 + 1)))) = some r := by rw [if_neg (show ¬ (false = true) by decide)] at H; exact H
          clear H
          have H := H1
          clear H1
          by_cases c39 : (wrap64 (8 - t415)) = (wrap64 (t409 + 1))
          ·rw [if_pos c39] at H
           have c39b0 : ((wrap64 (8 - t415)) == (wrap64 (t409 + 1))) = true := beq_iff_eq.mpr c39
           have c39b1 : ((wrap64 (8 - t415)) != (wrap64 (t409 + 1))) = false := bne_eq_false_iff_eq.mpr c39
           clear c39
           have H' := Aside0.mk H
           clear H
           go_wp2_with (first | ((with_reducible refine gate_callee (f := 36) rfl ?_); refine goesL_ (some 34) rfl rfl Try.func36 (by kernel_rfl) rfl #[.int .i64 x6_2] rfl z13_1 ?_; (with_reducible refine (laws_lkThere.calls k2 x6_2 t412 _ A16.out).mono ?_); rintro e w40 ⟨v413, rfl, ho0, hb⟩; refine ⟨_, rfl, ?_⟩; have HO414 := Aside0.mk (Kd.R_lower ho0 (below_size z13_0)); replace HB := Aside0.mk (below_step z13_0 hb); (try clear hb); (try clear ho0); obtain ⟨Ao41, co41, eo41⟩ := Kd.R_slice HO414.out; subst eo41) | ((with_reducible refine gate_callee (f := 34) rfl ?_); refine goesL_ (some 36) rfl rfl Try.func34 (by kernel_rfl) rfl #[.slice Ao41 t412.length co41] rfl z13_1 ?_; (with_reducible refine (laws_lkMany.calls k2 _ _ t412 t415 _ ?side1 ?side2 A17.out).mono ?_); (case side1 => exact cZ ((Kd.R_reads' HO414.out).2.2)); (case side2 => exact (Kd.R_reads' HO414.out).2.1); rintro e w' ⟨rfl, ⟨nd, rfl⟩⟩; refine ⟨_, rfl, ?_⟩) | ((with_reducible refine gate_callee (f := 29) rfl ?_); refine goesL_ (some 40) rfl rfl Try.func29 (by kernel_rfl) rfl #[.int .i64 t408, .slice Ao41 t412.length co41] rfl z13_1 ?_; (with_reducible refine (impl_CodeBears.calls k2 t408 _ _ t412 t416 _ ?side1 ?side2 A18.out).mono ?_); (case side1 => exact cZ ((Kd.R_reads' HO414.out).2.2)); (case side2 => exact (Kd.R_reads' HO414.out).2.1); rintro e w42 ⟨rfl, hb⟩; refine ⟨_, rfl, ?_⟩; replace HO414 := Aside0.mk (Kd.R_below z13_3 hb); replace HB := Aside0.mk (below_step z13_0 hb); (try clear hb)))
           go_roundg k2
           case measure => have := HJ4.out; have := HK2.out; omega
           case rel => exact ⟨(!t416), (wrap64 (x6_2 + 1)), z13_2, z13_2, H', ⟨z13_5⟩, ⟨z13_0⟩⟩
          ·rw [if_neg c39] at H
           have c39b0 : ((wrap64 (8 - t415)) == (wrap64 (t409 + 1))) = false := beq_eq_false_iff_ne.mpr c39
           have c39b1 : ((wrap64 (8 - t415)) != (wrap64 (t409 + 1))) = true := bne_iff_ne.mpr c39
           have H' := Aside0.mk H
           clear H
           go_wp2_with (first | ((with_reducible refine gate_callee (f := 36) rfl ?_); refine goesL_ (some 34) rfl rfl Try.func36 (by kernel_rfl) rfl #[.int .i64 x6_2] rfl z13_1 ?_; (with_reducible refine (laws_lkThere.calls k2 x6_2 t412 _ A16.out).mono ?_); rintro e w43 ⟨v413, rfl, ho0, hb⟩; refine ⟨_, rfl, ?_⟩; have HO414 := Aside0.mk (Kd.R_lower ho0 (below_size z13_0)); replace HB := Aside0.mk (below_step z13_0 hb); (try clear hb); (try clear ho0); obtain ⟨Ao44, co44, eo44⟩ := Kd.R_slice HO414.out; subst eo44) | ((with_reducible refine gate_callee (f := 34) rfl ?_); refine goesL_ (some 36) rfl rfl Try.func34 (by kernel_rfl) rfl #[.slice Ao44 t412.length co44] rfl z13_1 ?_; (with_reducible refine (laws_lkMany.calls k2 _ _ t412 t415 _ ?side1 ?side2 A17.out).mono ?_); (case side1 => exact cZ ((Kd.R_reads' HO414.out).2.2)); (case side2 => exact (Kd.R_reads' HO414.out).2.1); rintro e w' ⟨rfl, ⟨nd, rfl⟩⟩; refine ⟨_, rfl, ?_⟩) | ((with_reducible refine gate_callee (f := 29) rfl ?_); refine goesL_ (some 40) rfl rfl Try.func29 (by kernel_rfl) rfl #[.int .i64 t408, .slice Ao44 t412.length co44] rfl z13_1 ?_; (with_reducible refine (impl_CodeBears.calls k2 t408 _ _ t412 t416 _ ?side1 ?side2 A18.out).mono ?_); (case side1 => exact cZ ((Kd.R_reads' HO414.out).2.2)); (case side2 => exact (Kd.R_reads' HO414.out).2.1); rintro e w45 ⟨rfl, hb⟩; refine ⟨_, rfl, ?_⟩; replace HO414 := Aside0.mk (Kd.R_below z13_3 hb); replace HB := Aside0.mk (below_step z13_0 hb); (try clear hb)))
           go_roundg k2
           case measure => have := HJ4.out; have := HK2.out; omega
           case rel => exact ⟨(false), (wrap64 (x6_2 + 1)), z13_2, z13_2, H', ⟨z13_5⟩, ⟨z13_0⟩⟩
       ·rw [if_neg c15] at H
        have c15b0 : decide (x6_2 < 256) = false := decide_eq_false c15
        clear c15
        by_cases c46 : x5_2 = true
        ·subst c46
         have H1 : (some (decide (t409 ≤ 4))) = some r := by rw [if_pos rfl] at H; exact H
         clear H
         have H := H1
         clear H1
         obtain rfl := Option.some.inj H
         go_wp2
         go_ret
         exact ⟨z13_4, z13_0⟩
        ·replace c46 := Bool.eq_false_iff.mpr c46
         subst c46
         have H1 : (some false) = some r := by rw [if_neg (show ¬ (false = true) by decide)] at H; exact H
         clear H
         have H := H1
         clear H1
         obtain rfl := Option.some.inj H
         go_wp2
         go_ret
         exact ⟨z13_4, z13_0⟩

/-- THE ONE PURE STATEMENT of laws_FnMost: yours. -/
def laws_FnMost.Pure : Prop := ∀ (l0 : List Int), l0.length ≤ maxLen → l0.length * 1 ≤ 140737488351232 → (∀ x ∈ l0, (Lit.int .u8 x).wf = true) → ∃ k, laws_FnMost.f k l0 = some true
theorem laws_FnMost.walk (P : laws_FnMost.Pure) (a0 : Option Addr) (len0 cap0 : Nat) (z0 : List Int) (w : World) (w0 : (a0 = none ∧ len0 = 0 ∧ cap0 = 0 ∧ z0 = []) ∨ ∃ x, a0 = some x ∧ len0 ≤ cap0 ∧ cap0 ≤ maxLen ∧ z0.length = cap0 ∧ (∀ i, i < z0.length → w.cell? (x.add i) = some (.int .u8 (z0.getD i 0))) ∧ ∀ n ∈ z0, (Lit.int .u8 n).wf = true) (y0 : len0 * 1 ≤ 140737488351232) :
    Calls Try.prog 9 #[.slice a0 len0 cap0] w fun e w' => e = .returned (.bool true) ∧ Below w.heap.size w w' := by
  obtain ⟨l0, rfl, hr0, hm0, hw0, hc0⟩ := ReadsInt.ofRowC w0
  obtain ⟨k, h⟩ := P l0 hm0 y0 hw0
  refine (laws_FnMost.calls k _ _ l0 true w (Kd.C_of_reads (d := (0 : Int)) (h1 := fun _ => rfl) hr0) hc0 h).mono ?_
  rintro e w' ⟨rfl, hd⟩
  exact ⟨rfl, hd⟩

end Go.Proofs.Ytamaejafddmagaa.PA
