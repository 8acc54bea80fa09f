-- Written by a program of this session (after the manner of the kit's print, several laws in one text).
import Derived.Test.YtamaejafddmagaaPAx0
import Derived.Test.YtamaejafddmagaaPAx9
import Derived.Test.YtamaejafddmagaaPAx11
import Derived.Test.YtamaejafddmagaaGw
import Derived.Test.YtamaejafddmagaaGm
import Derived.Test.YtamaejafddmagaaGc
import Derived.Test.YtamaejafddmagaaHc
import Derived.Test.YtamaejafddmagaaHm
namespace Go.Proofs.Ytamaejafddmagaa.PA
open Go.RowKit Go.Proofs.YtamaejafddmagaaW.PrintWords Go.Proofs.YtamaejafddmagaaW.PrintLast Go.Proofs.YtamaejafddmagaaW.PrintMore
attribute [local go_sem] max2_int min2_int max_two min_two max_three min_three max_four min_four   -- for this text's walks alone
set_option linter.unusedVariables false
set_option linter.unusedSimpArgs false

/-! ### laws_FnApart: function 11 -/
theorem z14_0 {p : Prop} (h : p := by repeat (first | (with_reducible first | exact HB.out | apply below_alloc | apply pw_below_drewN | apply below_drew1) | exact HB.out)) : p := h
theorem z14_1 {p : Prop} (h : p := by (try simp only [List.map_toArray, List.map_cons, List.map_nil]); first | done | rfl | (simp only [List.length_drop, List.length_take]; rfl)) : p := h
theorem z14_2 {p : Prop} (h : p := by first | rfl | (simp [errW_none, errW_some] <;> rfl) | (simp [*, errW_none, errW_some] <;> rfl)) : p := h
theorem z14_3 {p : Prop} (h : p := by (with_reducible repeat (first | apply Kd.Q_alloc | apply Kd.Q_drewN | apply Kd.Q_drew)); exact HO412.out) : p := h
theorem z14_4 {p : Prop} (h : p := by (with_reducible repeat (first | apply Kd.Q_alloc | apply Kd.Q_drewN | apply Kd.Q_drew)); exact HO414.out) : p := h
theorem z14_5 {p : Prop} (h : p := by (with_reducible repeat (first | apply Kd.Q_alloc | apply Kd.Q_drewN | apply Kd.Q_drew)); exact HO_4.out) : p := h
theorem z14_6 {p : Prop} (h : p := by (with_reducible repeat (first | apply Kd.Q_alloc | apply Kd.Q_drewN | apply Kd.Q_drew)); exact HO_5.out) : p := h
def laws_FnApart.j0 : Nat → Int → List Int → List Int → Int → Bool → Option (Bool)
  | 0, _, _, _, _, _ => none
  | k + 1, x3, x4, x5, x6, x29 => if x29 = true then ((spec_CodeApart.f k x3 x4 x5).bind fun t417 => (some (x6 == t417))) else ((laws_lkInts.f k x4 x5).bind fun t418 => (if t418 = true then (some (x6 == 0)) else ((impl_CodeMost.f x3).bind fun t419 => (if x6 > t419 then (if x6 ≤ 8 then ((impl_CodeApart.f x3 x5 x4).bind fun t420 => (some (t420 == x6))) else (some false)) else (some false)))))
def laws_FnApart.f (k : Nat) (l0 : List Int) : Option (Bool) := if (l0.length : Int) > 1048576 then (some true) else ((spec_DrawCodeApart.f k l0).bind fun bt408 => ((impl_CodeApart.f bt408.1 bt408.2.1 bt408.2.2).bind fun t415 => ((spec_CodeApart.f k bt408.1 bt408.2.1 bt408.2.2).bind fun t416 => (if t415 = t416 then (laws_FnApart.j0 k bt408.1 bt408.2.1 bt408.2.2 t415 (decide (t415 < 0))) else (laws_FnApart.j0 k bt408.1 bt408.2.1 bt408.2.2 t415 true)))))
set_option maxHeartbeats 8000000 in
set_option maxRecDepth 100000 in
theorem laws_FnApart.calls (k : Nat) (A0 : Option Addr) (c0 : Nat) (l0 : List Int) (r : Bool) (w : World) (hr0 : Kd.C (Kd.int .u8) w A0 l0.length l0) (hc0 : l0.length ≤ c0) (h : laws_FnApart.f k l0 = some r) :
  Calls Try.prog 11 #[.slice A0 l0.length c0] w fun e w' => e = .returned (.bool r) ∧ Below w.heap.size w w' := by
 have HR0 := Aside0.mk hr0
 have HC0 := Aside0.mk hc0
 clear hr0 hc0
 have HB := Aside0.mk (Below.refl w.heap.size w)
 have H : (if (l0.length : Int) > 1048576 then (some true) else ((spec_DrawCodeApart.f k l0).bind fun bt408 => ((impl_CodeApart.f bt408.1 bt408.2.1 bt408.2.2).bind fun t415 => ((spec_CodeApart.f k bt408.1 bt408.2.1 bt408.2.2).bind fun t416 => (if t415 = t416 then (laws_FnApart.j0 k bt408.1 bt408.2.1 bt408.2.2 t415 (decide (t415 < 0))) else (laws_FnApart.j0 k bt408.1 bt408.2.1 bt408.2.2 t415 true)))))) = some r := h
 clear h
 by_cases c2 : (l0.length : Int) > 1048576
 ·rw [if_pos c2] at H
  have c2b0 : decide (1048576 < (l0.length : Int)) = true := decide_eq_true c2
  have c2b1 : decide (1048576 < l0.length) = true := decide_eq_true (by omega)
  clear c2
  obtain rfl := Option.some.inj H
  go_enter Try.func11, Try.ntmps11
  go_wp2
  go_ret
  exact ⟨z14_2, z14_0⟩
 ·rw [if_neg c2] at H
  have c2b0 : decide (1048576 < (l0.length : Int)) = false := decide_eq_false c2
  have c2b1 : decide (1048576 < l0.length) = false := decide_eq_false (by omega)
  clear c2
  replace H := Option.bind_eq_some_iff.mp H
  obtain ⟨⟨t408, t409, t410⟩, A30, H⟩ := H
  replace H : ((impl_CodeApart.f t408 t409 t410).bind fun t415 => ((spec_CodeApart.f k t408 t409 t410).bind fun t416 => (if t415 = t416 then (laws_FnApart.j0 k t408 t409 t410 t415 (decide (t415 < 0))) else (laws_FnApart.j0 k t408 t409 t410 t415 true)))) = some r := H
  have A3 := Aside0.mk A30
  clear A30
  replace H := Option.bind_eq_some_iff.mp H
  obtain ⟨t415, A40, H⟩ := H
  replace H : ((spec_CodeApart.f k t408 t409 t410).bind fun t416 => (if t415 = t416 then (laws_FnApart.j0 k t408 t409 t410 t415 (decide (t415 < 0))) else (laws_FnApart.j0 k t408 t409 t410 t415 true))) = some r := H
  have A4 := Aside0.mk A40
  clear A40
  have HC5 := Aside0.mk H
  clear H
  go_enter Try.func11, Try.ntmps11
  go_upto_region 5 with (first | ((with_reducible refine gate_callee (f := 38) rfl ?_); refine goesL_ (some 12) rfl rfl Try.func38 (by kernel_rfl) rfl #[.slice A0 l0.length c0] rfl z14_1 ?_; (with_reducible refine (spec_DrawCodeApart.calls k _ _ l0 t408 t409 t410 _ ?side1 ?side2 A3.out).mono ?_); (case side1 => exact cZ (HR0.out)); (case side2 => exact HC0.out); rintro e w6 ⟨v411, v413, rfl, ho0, ho1, hb⟩; refine ⟨_, rfl, ?_⟩; have HO412 := Aside0.mk (Kd.Q_lower ho0 (below_size z14_0)); have HO414 := Aside0.mk (Kd.Q_lower ho1 (below_size z14_0)); replace HB := Aside0.mk (below_step z14_0 hb); (try clear hb); (try clear ho0); (try clear ho1); obtain ⟨Ao7, co7, eo7, _⟩ := Kd.Q_slice HO412.out; subst eo7; obtain ⟨Ao8, co8, eo8, _⟩ := Kd.Q_slice HO414.out; subst eo8) | ((with_reducible refine gate_callee (f := 39) rfl ?_); refine goesL_ (some 19) rfl rfl Try.func39 (by kernel_rfl) rfl #[.int .i64 t408, .slice Ao7 t409.length co7, .slice Ao8 t410.length co8] rfl z14_1 ?_; (with_reducible refine (impl_CodeApart.calls t408 _ _ t409 _ _ t410 t415 _ ?side1 ?side2 ?side3 ?side4 A4.out).mono ?_); (case side1 => exact cZ ((Kd.Q_reads' HO412.out).2.2)); (case side2 => exact (Kd.Q_reads' HO412.out).2.1); (case side3 => exact cZ ((Kd.Q_reads' HO414.out).2.2)); (case side4 => exact (Kd.Q_reads' HO414.out).2.1); rintro e w9 ⟨rfl, hb⟩; refine ⟨_, rfl, ?_⟩; replace HO412 := Aside0.mk (Kd.Q_below z14_3 hb); replace HO414 := Aside0.mk (Kd.Q_below z14_4 hb); replace HB := Aside0.mk (below_step z14_0 hb); (try clear hb)))
  (try simp only [Act.put, List.setIfInBounds_toArray, List.set_cons_zero, List.set_cons_succ])
  go_cut [29] (fun v29 wc => ∃ (kq : Nat) (x29_4 : Bool), v29 = .bool x29_4 ∧ Aside0 (laws_FnApart.j0 kq t408 t409 t410 t415 x29_4 = some r) ∧ Aside0 (kq ≤ k) ∧ Aside0 (Kd.Q (Kd.int .i64) 3 wc w.heap.size (fun k_ => some k_ ≠ ((.slice Ao8 t410.length co8) : Value).ownBlock) (.slice Ao7 t409.length co7) t409) ∧ Aside0 (Kd.Q (Kd.int .i64) 3 wc w.heap.size (fun k_ => some k_ ≠ ((.slice Ao7 t409.length co7) : Value).ownBlock) (.slice Ao8 t410.length co8) t410) ∧ Aside0 (Below w.heap.size w wc))
  case first =>
   have H := HC5.out
   clear HC5
   replace H := Option.bind_eq_some_iff.mp H
   obtain ⟨t416, A100, H⟩ := H
   replace H : (if t415 = t416 then (laws_FnApart.j0 k t408 t409 t410 t415 (decide (t415 < 0))) else (laws_FnApart.j0 k t408 t409 t410 t415 true)) = some r := H
   have A10 := Aside0.mk A100
   clear A100
   by_cases c11 : t415 = t416
   ·rw [if_pos c11] at H
    have c11b0 : (t415 == t416) = true := beq_iff_eq.mpr c11
    have c11b1 : (t415 != t416) = false := bne_eq_false_iff_eq.mpr c11
    clear c11
    (first | rw [c11b0] | (simp only [i64_w, i32_w]; rw [c11b0]) | skip)
    have H' := Aside0.mk H
    clear H
    go_wp2_with (first | ((with_reducible refine gate_callee (f := 40) rfl ?_); refine goesL_ (some 24) rfl rfl Try.func40 (by kernel_rfl) rfl #[.int .i64 t408, .slice Ao7 t409.length co7, .slice Ao8 t410.length co8] rfl z14_1 ?_; (with_reducible refine (spec_CodeApart.calls k t408 _ _ t409 _ _ t410 t416 _ ?side1 ?side2 ?side3 ?side4 A10.out).mono ?_); (case side1 => exact cZ ((Kd.Q_reads' HO412.out).2.2)); (case side2 => exact (Kd.Q_reads' HO412.out).2.1); (case side3 => exact cZ ((Kd.Q_reads' HO414.out).2.2)); (case side4 => exact (Kd.Q_reads' HO414.out).2.1); rintro e w12 ⟨rfl, hb⟩; refine ⟨_, rfl, ?_⟩; replace HO412 := Aside0.mk (Kd.Q_below z14_3 hb); replace HO414 := Aside0.mk (Kd.Q_below z14_4 hb); replace HB := Aside0.mk (below_step z14_0 hb); (try clear hb)))
    go_meet
    case rel => exact ⟨_, (decide (t415 < 0)), (by first | rfl | (simp; done) | (simp [*]; done)), H', ⟨by first | omega | exact Nat.le_refl _⟩, ⟨z14_3⟩, ⟨z14_4⟩, ⟨z14_0⟩⟩
   ·rw [if_neg c11] at H
    have c11b0 : (t415 == t416) = false := beq_eq_false_iff_ne.mpr c11
    have c11b1 : (t415 != t416) = true := bne_iff_ne.mpr c11
    (first | rw [c11b0] | (simp only [i64_w, i32_w]; rw [c11b0]) | skip)
    have H' := Aside0.mk H
    clear H
    go_wp2_with (first | ((with_reducible refine gate_callee (f := 40) rfl ?_); refine goesL_ (some 24) rfl rfl Try.func40 (by kernel_rfl) rfl #[.int .i64 t408, .slice Ao7 t409.length co7, .slice Ao8 t410.length co8] rfl z14_1 ?_; (with_reducible refine (spec_CodeApart.calls k t408 _ _ t409 _ _ t410 t416 _ ?side1 ?side2 ?side3 ?side4 A10.out).mono ?_); (case side1 => exact cZ ((Kd.Q_reads' HO412.out).2.2)); (case side2 => exact (Kd.Q_reads' HO412.out).2.1); (case side3 => exact cZ ((Kd.Q_reads' HO414.out).2.2)); (case side4 => exact (Kd.Q_reads' HO414.out).2.1); rintro e w13 ⟨rfl, hb⟩; refine ⟨_, rfl, ?_⟩; replace HO412 := Aside0.mk (Kd.Q_below z14_3 hb); replace HO414 := Aside0.mk (Kd.Q_below z14_4 hb); replace HB := Aside0.mk (below_step z14_0 hb); (try clear hb)))
    go_meet
    case rel => exact ⟨_, (true), (by first | rfl | (simp; done) | (simp [*]; done)), H', ⟨by first | omega | exact Nat.le_refl _⟩, ⟨z14_3⟩, ⟨z14_4⟩, ⟨z14_0⟩⟩
  case rest =>
   clear HC5
   try clear c2
   try clear c2b0
   try clear c2b1
   obtain ⟨kq, x29_4, rfl, HA, HJ4, HO_4, HO_5, HB⟩ := hcut
   cases kq with
   | zero => exact absurd HA.out (by simp [laws_FnApart.j0])
   | succ kj4 =>
    have H := HA.out
    clear HA
    simp only [laws_FnApart.j0] at H
    by_cases c14 : x29_4 = true
    ·subst c14
     have H1 : ((spec_CodeApart.f kj4 t408 t409 t410).bind fun t417 => (some (t415 == t417))) = some r := by rw [if_pos rfl] at H; exact H
     clear H
     have H := H1
     clear H1
     replace H := Option.bind_eq_some_iff.mp H
     obtain ⟨t417, A150, H⟩ := H
     replace H : (some (t415 == t417)) = some r := H
     have A15 := Aside0.mk A150
     clear A150
     obtain rfl := Option.some.inj H
     go_wp2_with (first | ((with_reducible refine gate_callee (f := 40) rfl ?_); refine goesL_ (some 34) rfl rfl Try.func40 (by kernel_rfl) rfl #[.int .i64 t408, .slice Ao7 t409.length co7, .slice Ao8 t410.length co8] rfl z14_1 ?_; (with_reducible refine (spec_CodeApart.calls kj4 t408 _ _ t409 _ _ t410 t417 _ ?side1 ?side2 ?side3 ?side4 A15.out).mono ?_); (case side1 => exact cZ ((Kd.Q_reads' HO_4.out).2.2)); (case side2 => exact (Kd.Q_reads' HO_4.out).2.1); (case side3 => exact cZ ((Kd.Q_reads' HO_5.out).2.2)); (case side4 => exact (Kd.Q_reads' HO_5.out).2.1); rintro e w16 ⟨rfl, hb⟩; refine ⟨_, rfl, ?_⟩; replace HO_4 := Aside0.mk (Kd.Q_below z14_5 hb); replace HO_5 := Aside0.mk (Kd.Q_below z14_6 hb); replace HB := Aside0.mk (below_step z14_0 hb); (try clear hb)))
     go_ret
     exact ⟨z14_2, z14_0⟩
    ·replace c14 := Bool.eq_false_iff.mpr c14
     subst c14
     have H1 : ((laws_lkInts.f kj4 t409 t410).bind fun t418 => (if t418 = true then (some (t415 == 0)) else ((impl_CodeMost.f t408).bind fun t419 => (if t415 > t419 then (if t415 ≤ 8 then ((impl_CodeApart.f t408 t410 t409).bind fun t420 => (some (t420 == t415))) else (some false)) else (some false))))) = some r := by rw [if_neg (show ¬ (false = true) by decide)] at H; exact H
     clear H
     have H := H1
     clear H1
     replace H := Option.bind_eq_some_iff.mp H
     obtain ⟨t418, A170, H⟩ := H
     replace H : (if t418 = true then (some (t415 == 0)) else ((impl_CodeMost.f t408).bind fun t419 => (if t415 > t419 then (if t415 ≤ 8 then ((impl_CodeApart.f t408 t410 t409).bind fun t420 => (some (t420 == t415))) else (some false)) else (some false)))) = some r := H
     have A17 := Aside0.mk A170
     clear A170
     by_cases c18 : t418 = true
     ·subst c18
      have H1 : (some (t415 == 0)) = some r := by rw [if_pos rfl] at H; exact H
      clear H
      have H := H1
      clear H1
      obtain rfl := Option.some.inj H
      go_wp2_with (first | ((with_reducible refine gate_callee (f := 41) rfl ?_); refine goesL_ (some 38) rfl rfl Try.func41 (by kernel_rfl) rfl #[.slice Ao7 t409.length co7, .slice Ao8 t410.length co8] rfl z14_1 ?_; (with_reducible refine (laws_lkInts.calls kj4 _ _ t409 _ _ t410 true _ ?side1 ?side2 ?side3 ?side4 A17.out).mono ?_); (case side1 => exact cZ ((Kd.Q_reads' HO_4.out).2.2)); (case side2 => exact (Kd.Q_reads' HO_4.out).2.1); (case side3 => exact cZ ((Kd.Q_reads' HO_5.out).2.2)); (case side4 => exact (Kd.Q_reads' HO_5.out).2.1); rintro e w' ⟨rfl, ⟨nd, rfl⟩⟩; refine ⟨_, rfl, ?_⟩))
      go_ret
      exact ⟨z14_2, z14_0⟩
     ·replace c18 := Bool.eq_false_iff.mpr c18
      subst c18
      have H1 : ((impl_CodeMost.f t408).bind fun t419 => (if t415 > t419 then (if t415 ≤ 8 then ((impl_CodeApart.f t408 t410 t409).bind fun t420 => (some (t420 == t415))) else (some false)) else (some false))) = some r := by rw [if_neg (show ¬ (false = true) by decide)] at H; exact H
      clear H
      have H := H1
      clear H1
      replace H := Option.bind_eq_some_iff.mp H
      obtain ⟨t419, A190, H⟩ := H
      replace H : (if t415 > t419 then (if t415 ≤ 8 then ((impl_CodeApart.f t408 t410 t409).bind fun t420 => (some (t420 == t415))) else (some false)) else (some false)) = some r := H
      have A19 := Aside0.mk A190
      clear A190
      by_cases c20 : t415 > t419
      ·rw [if_pos c20] at H
       have c20b0 : decide (t419 < t415) = true := decide_eq_true c20
       clear c20
       by_cases c21 : t415 ≤ 8
       ·rw [if_pos c21] at H
        have c21b0 : decide (t415 ≤ 8) = true := decide_eq_true c21
        clear c21
        replace H := Option.bind_eq_some_iff.mp H
        obtain ⟨t420, A220, H⟩ := H
        replace H : (some (t420 == t415)) = some r := H
        have A22 := Aside0.mk A220
        clear A220
        obtain rfl := Option.some.inj H
        go_wp2_with (first | ((with_reducible refine gate_callee (f := 41) rfl ?_); refine goesL_ (some 38) rfl rfl Try.func41 (by kernel_rfl) rfl #[.slice Ao7 t409.length co7, .slice Ao8 t410.length co8] rfl z14_1 ?_; (with_reducible refine (laws_lkInts.calls kj4 _ _ t409 _ _ t410 false _ ?side1 ?side2 ?side3 ?side4 A17.out).mono ?_); (case side1 => exact cZ ((Kd.Q_reads' HO_4.out).2.2)); (case side2 => exact (Kd.Q_reads' HO_4.out).2.1); (case side3 => exact cZ ((Kd.Q_reads' HO_5.out).2.2)); (case side4 => exact (Kd.Q_reads' HO_5.out).2.1); rintro e w' ⟨rfl, ⟨nd, rfl⟩⟩; refine ⟨_, rfl, ?_⟩) | ((with_reducible refine gate_callee (f := 32) rfl ?_); refine goesL_ (some 43) rfl rfl Try.func32 (by kernel_rfl) rfl #[.int .i64 t408] rfl z14_1 ?_; (with_reducible refine (impl_CodeMost.calls t408 t419 _ A19.out).mono ?_); rintro e w23 ⟨rfl, hb⟩; refine ⟨_, rfl, ?_⟩; replace HO_4 := Aside0.mk (Kd.Q_below z14_5 hb); replace HO_5 := Aside0.mk (Kd.Q_below z14_6 hb); replace HB := Aside0.mk (below_step z14_0 hb); (try clear hb)) | (go_at_call 39; (with_reducible refine (impl_CodeApart.calls t408 _ _ t410 _ _ t409 t420 _ ?side1 ?side2 ?side3 ?side4 A22.out).mono ?_); (case side1 => exact cZ ((Kd.Q_reads' HO_5.out).2.2)); (case side2 => exact (Kd.Q_reads' HO_5.out).2.1); (case side3 => exact cZ ((Kd.Q_reads' HO_4.out).2.2)); (case side4 => exact (Kd.Q_reads' HO_4.out).2.1); rintro e w24 ⟨rfl, hb⟩; replace HO_4 := Aside0.mk (Kd.Q_below z14_5 hb); replace HO_5 := Aside0.mk (Kd.Q_below z14_6 hb); replace HB := Aside0.mk (below_step z14_0 hb); (try clear hb)))
        go_ret
        exact ⟨z14_2, z14_0⟩
       ·rw [if_neg c21] at H
        have c21b0 : decide (t415 ≤ 8) = false := decide_eq_false c21
        clear c21
        obtain rfl := Option.some.inj H
        go_wp2_with (first | ((with_reducible refine gate_callee (f := 41) rfl ?_); refine goesL_ (some 38) rfl rfl Try.func41 (by kernel_rfl) rfl #[.slice Ao7 t409.length co7, .slice Ao8 t410.length co8] rfl z14_1 ?_; (with_reducible refine (laws_lkInts.calls kj4 _ _ t409 _ _ t410 false _ ?side1 ?side2 ?side3 ?side4 A17.out).mono ?_); (case side1 => exact cZ ((Kd.Q_reads' HO_4.out).2.2)); (case side2 => exact (Kd.Q_reads' HO_4.out).2.1); (case side3 => exact cZ ((Kd.Q_reads' HO_5.out).2.2)); (case side4 => exact (Kd.Q_reads' HO_5.out).2.1); rintro e w' ⟨rfl, ⟨nd, rfl⟩⟩; refine ⟨_, rfl, ?_⟩) | ((with_reducible refine gate_callee (f := 32) rfl ?_); refine goesL_ (some 43) rfl rfl Try.func32 (by kernel_rfl) rfl #[.int .i64 t408] rfl z14_1 ?_; (with_reducible refine (impl_CodeMost.calls t408 t419 _ A19.out).mono ?_); rintro e w25 ⟨rfl, hb⟩; refine ⟨_, rfl, ?_⟩; replace HO_4 := Aside0.mk (Kd.Q_below z14_5 hb); replace HO_5 := Aside0.mk (Kd.Q_below z14_6 hb); replace HB := Aside0.mk (below_step z14_0 hb); (try clear hb)))
        go_ret
        exact ⟨z14_2, z14_0⟩
      ·rw [if_neg c20] at H
       have c20b0 : decide (t419 < t415) = false := decide_eq_false c20
       clear c20
       obtain rfl := Option.some.inj H
       go_wp2_with (first | ((with_reducible refine gate_callee (f := 41) rfl ?_); refine goesL_ (some 38) rfl rfl Try.func41 (by kernel_rfl) rfl #[.slice Ao7 t409.length co7, .slice Ao8 t410.length co8] rfl z14_1 ?_; (with_reducible refine (laws_lkInts.calls kj4 _ _ t409 _ _ t410 false _ ?side1 ?side2 ?side3 ?side4 A17.out).mono ?_); (case side1 => exact cZ ((Kd.Q_reads' HO_4.out).2.2)); (case side2 => exact (Kd.Q_reads' HO_4.out).2.1); (case side3 => exact cZ ((Kd.Q_reads' HO_5.out).2.2)); (case side4 => exact (Kd.Q_reads' HO_5.out).2.1); rintro e w' ⟨rfl, ⟨nd, rfl⟩⟩; refine ⟨_, rfl, ?_⟩) | ((with_reducible refine gate_callee (f := 32) rfl ?_); refine goesL_ (some 43) rfl rfl Try.func32 (by kernel_rfl) rfl #[.int .i64 t408] rfl z14_1 ?_; (with_reducible refine (impl_CodeMost.calls t408 t419 _ A19.out).mono ?_); rintro e w26 ⟨rfl, hb⟩; refine ⟨_, rfl, ?_⟩; replace HO_4 := Aside0.mk (Kd.Q_below z14_5 hb); replace HO_5 := Aside0.mk (Kd.Q_below z14_6 hb); replace HB := Aside0.mk (below_step z14_0 hb); (try clear hb)))
       go_ret
       exact ⟨z14_2, z14_0⟩

/-- THE ONE PURE STATEMENT of laws_FnApart: yours. -/
def laws_FnApart.Pure : Prop := ∀ (l0 : List Int), l0.length ≤ maxLen → l0.length * 1 ≤ 140737488351232 → (∀ x ∈ l0, (Lit.int .u8 x).wf = true) → ∃ k, laws_FnApart.f k l0 = some true
theorem laws_FnApart.walk (P : laws_FnApart.Pure) (a0 : Option Addr) (len0 cap0 : Nat) (z0 : List Int) (w : World) (w0 : (a0 = none ∧ len0 = 0 ∧ cap0 = 0 ∧ z0 = []) ∨ ∃ x, a0 = some x ∧ len0 ≤ cap0 ∧ cap0 ≤ maxLen ∧ z0.length = cap0 ∧ (∀ i, i < z0.length → w.cell? (x.add i) = some (.int .u8 (z0.getD i 0))) ∧ ∀ n ∈ z0, (Lit.int .u8 n).wf = true) (y0 : len0 * 1 ≤ 140737488351232) :
    Calls Try.prog 11 #[.slice a0 len0 cap0] w fun e w' => e = .returned (.bool true) ∧ Below w.heap.size w w' := by
  obtain ⟨l0, rfl, hr0, hm0, hw0, hc0⟩ := ReadsInt.ofRowC w0
  obtain ⟨k, h⟩ := P l0 hm0 y0 hw0
  refine (laws_FnApart.calls k _ _ l0 true w (Kd.C_of_reads (d := (0 : Int)) (h1 := fun _ => rfl) hr0) hc0 h).mono ?_
  rintro e w' ⟨rfl, hd⟩
  exact ⟨rfl, hd⟩

end Go.Proofs.Ytamaejafddmagaa.PA
