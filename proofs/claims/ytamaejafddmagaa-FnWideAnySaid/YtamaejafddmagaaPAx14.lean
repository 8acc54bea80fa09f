-- Written by a program of this session (after the manner of the kit's print, several laws in one text).
import Derived.Test.YtamaejafddmagaaPAx0
import Derived.Test.YtamaejafddmagaaPAx9
import Derived.Test.YtamaejafddmagaaPAx11
import Derived.Test.YtamaejafddmagaaGw
import Derived.Test.YtamaejafddmagaaGm
import Derived.Test.YtamaejafddmagaaGc
import Derived.Test.YtamaejafddmagaaHm
namespace Go.Proofs.Ytamaejafddmagaa.PA
open Go.RowKit Go.Proofs.YtamaejafddmagaaW.PrintWords Go.Proofs.YtamaejafddmagaaW.PrintLast Go.Proofs.YtamaejafddmagaaW.PrintMore
attribute [local go_sem] max2_int min2_int max_two min_two max_three min_three max_four min_four   -- for this text's walks alone
set_option linter.unusedVariables false
set_option linter.unusedSimpArgs false

/-! ### laws_FnWideAny: function 8 -/
theorem z14_0 {p : Prop} (h : p := by repeat (first | (with_reducible first | exact HB.out | apply below_alloc | apply pw_below_drewN | apply below_drew1) | exact HB.out)) : p := h
theorem z14_1 {p : Prop} (h : p := by (try simp only [List.map_toArray, List.map_cons, List.map_nil]); first | done | rfl | (simp only [List.length_drop, List.length_take]; rfl)) : p := h
theorem z14_2 {p : Prop} (h : p := by (with_reducible repeat (first | apply Kd.Q_alloc | apply Kd.Q_drewN | apply Kd.Q_drew)); exact HO425.out) : p := h
theorem z14_3 {p : Prop} (h : p := by first | rfl | (simp [errW_none, errW_some] <;> rfl) | (simp [*, errW_none, errW_some] <;> rfl)) : p := h
def laws_FnWideAny.j0 : Nat → Int → List Bool → Bool → Bool → Option (Bool)
  | 0, _, _, _, _ => none
  | k + 1, x3, x4, x5, x30 => if x30 = true then ((spec_CodeBears.f k x3 x4).bind fun t428 => (some (x5 == t428))) else ((laws_lkMany.f k x4).bind fun t429 => (if (x5 == (decide (t429 ≥ 4))) = true then ((impl_CodeMost.f x3).bind fun t430 => (some (t430 == 4))) else (some false)))
def laws_FnWideAny.f (k : Nat) (l0 : List Int) : Option (Bool) := if (l0.length : Int) > 1048576 then (some true) else ((spec_DrawCodeBears.f k l0).bind fun bt422 => ((impl_CodeBears.f k bt422.1 bt422.2).bind fun t426 => ((spec_CodeBears.f k bt422.1 bt422.2).bind fun t427 => (if (t426 != t427) = true then (laws_FnWideAny.j0 k bt422.1 bt422.2 t426 true) else (if (bt422.2.length : Int) = 8 then (laws_FnWideAny.j0 k bt422.1 bt422.2 t426 (bt422.1 != 2)) else (laws_FnWideAny.j0 k bt422.1 bt422.2 t426 true))))))
set_option maxHeartbeats 8000000 in
set_option maxRecDepth 100000 in
theorem laws_FnWideAny.calls (k : Nat) (A0 : Option Addr) (c0 : Nat) (l0 : List Int) (r : Bool) (w : World) (hr0 : Kd.C (Kd.int .u8) w A0 l0.length l0) (hc0 : l0.length ≤ c0) (h : laws_FnWideAny.f k l0 = some r) :
  Calls Try.prog 8 #[.slice A0 l0.length c0] w fun e w' => e = .returned (.bool r) ∧ Below w.heap.size w w' := by
 have HR0 := Aside0.mk hr0
 have HC0 := Aside0.mk hc0
 clear hr0 hc0
 have HB := Aside0.mk (Below.refl w.heap.size w)
 have H : (if (l0.length : Int) > 1048576 then (some true) else ((spec_DrawCodeBears.f k l0).bind fun bt422 => ((impl_CodeBears.f k bt422.1 bt422.2).bind fun t426 => ((spec_CodeBears.f k bt422.1 bt422.2).bind fun t427 => (if (t426 != t427) = true then (laws_FnWideAny.j0 k bt422.1 bt422.2 t426 true) else (if (bt422.2.length : Int) = 8 then (laws_FnWideAny.j0 k bt422.1 bt422.2 t426 (bt422.1 != 2)) else (laws_FnWideAny.j0 k bt422.1 bt422.2 t426 true))))))) = some r := h
 clear h
 by_cases c2 : (l0.length : Int) > 1048576
 ·rw [if_pos c2] at H
  have c2b0 : decide (1048576 < (l0.length : Int)) = true := decide_eq_true c2
  have c2b1 : decide (1048576 < l0.length) = true := decide_eq_true (by omega)
  clear c2
  obtain rfl := Option.some.inj H
  go_enter Try.func8, Try.ntmps8
  go_wp2
  go_ret
  exact ⟨z14_3, z14_0⟩
 ·rw [if_neg c2] at H
  have c2b0 : decide (1048576 < (l0.length : Int)) = false := decide_eq_false c2
  have c2b1 : decide (1048576 < l0.length) = false := decide_eq_false (by omega)
  clear c2
  replace H := Option.bind_eq_some_iff.mp H
  obtain ⟨⟨t422, t423⟩, A30, H⟩ := H
  replace H : ((impl_CodeBears.f k t422 t423).bind fun t426 => ((spec_CodeBears.f k t422 t423).bind fun t427 => (if (t426 != t427) = true then (laws_FnWideAny.j0 k t422 t423 t426 true) else (if (t423.length : Int) = 8 then (laws_FnWideAny.j0 k t422 t423 t426 (t422 != 2)) else (laws_FnWideAny.j0 k t422 t423 t426 true))))) = some r := H
  have A3 := Aside0.mk A30
  clear A30
  replace H := Option.bind_eq_some_iff.mp H
  obtain ⟨t426, A40, H⟩ := H
  replace H : ((spec_CodeBears.f k t422 t423).bind fun t427 => (if (t426 != t427) = true then (laws_FnWideAny.j0 k t422 t423 t426 true) else (if (t423.length : Int) = 8 then (laws_FnWideAny.j0 k t422 t423 t426 (t422 != 2)) else (laws_FnWideAny.j0 k t422 t423 t426 true)))) = some r := H
  have A4 := Aside0.mk A40
  clear A40
  have HC5 := Aside0.mk H
  clear H
  go_enter Try.func8, Try.ntmps8
  go_upto_region 5 with (first | ((with_reducible refine gate_callee (f := 33) rfl ?_); refine goesL_ (some 11) rfl rfl Try.func33 (by kernel_rfl) rfl #[.slice A0 l0.length c0] rfl z14_1 ?_; (with_reducible refine (spec_DrawCodeBears.calls k _ _ l0 t422 t423 _ ?side1 ?side2 A3.out).mono ?_); (case side1 => exact cZ (HR0.out)); (case side2 => exact HC0.out); rintro e w6 ⟨v424, rfl, ho0, hb⟩; refine ⟨_, rfl, ?_⟩; have HO425 := Aside0.mk (Kd.Q_lower ho0 (below_size z14_0)); replace HB := Aside0.mk (below_step z14_0 hb); (try clear hb); (try clear ho0); obtain ⟨Ao7, co7, eo7, _⟩ := Kd.Q_slice HO425.out; subst eo7) | ((with_reducible refine gate_callee (f := 29) rfl ?_); refine goesL_ (some 16) rfl rfl Try.func29 (by kernel_rfl) rfl #[.int .i64 t422, .slice Ao7 t423.length co7] rfl z14_1 ?_; (with_reducible refine (impl_CodeBears.calls k t422 _ _ t423 t426 _ ?side1 ?side2 A4.out).mono ?_); (case side1 => exact cZ ((Kd.Q_reads' HO425.out).2.2)); (case side2 => exact (Kd.Q_reads' HO425.out).2.1); rintro e w8 ⟨rfl, hb⟩; refine ⟨_, rfl, ?_⟩; replace HO425 := Aside0.mk (Kd.Q_below z14_2 hb); replace HB := Aside0.mk (below_step z14_0 hb); (try clear hb)))
  (try simp only [Act.put, List.setIfInBounds_toArray, List.set_cons_zero, List.set_cons_succ])
  go_cut [30] (fun v30 wc => ∃ (kq : Nat) (x30_4 : Bool), v30 = .bool x30_4 ∧ Aside0 (laws_FnWideAny.j0 kq t422 t423 t426 x30_4 = some r) ∧ Aside0 (kq ≤ k) ∧ Aside0 (Kd.Q Kd.bool 4 wc w.heap.size (fun _ => True) (.slice Ao7 t423.length co7) t423) ∧ Aside0 (Below w.heap.size w wc))
  case first =>
   have H := HC5.out
   clear HC5
   replace H := Option.bind_eq_some_iff.mp H
   obtain ⟨t427, A90, H⟩ := H
   replace H : (if (t426 != t427) = true then (laws_FnWideAny.j0 k t422 t423 t426 true) else (if (t423.length : Int) = 8 then (laws_FnWideAny.j0 k t422 t423 t426 (t422 != 2)) else (laws_FnWideAny.j0 k t422 t423 t426 true))) = some r := H
   have A9 := Aside0.mk A90
   clear A90
   by_cases c10 : (t426 != t427) = true
   ·rw [if_pos c10] at H
    have c10b0 : (t426 != t427) = true := c10
    (try (have c10b1 : decide (t426 = t427) = false := by simpa using c10))
    (try (have c10b2 : (t426 == t427) = false := by simpa using c10))
    (try (have c10b3 : ¬ (t426 = t427) := by simpa using c10))
    clear c10
    (first | rw [c10b0] | (simp only [i64_w, i32_w]; rw [c10b0]) | skip)
    have H' := Aside0.mk H
    clear H
    go_wp2_with (first | ((with_reducible refine gate_callee (f := 27) rfl ?_); refine goesL_ (some 20) rfl rfl Try.func27 (by kernel_rfl) rfl #[.int .i64 t422, .slice Ao7 t423.length co7] rfl z14_1 ?_; (with_reducible refine (spec_CodeBears.calls k t422 _ _ t423 t427 _ ?side1 ?side2 A9.out).mono ?_); (case side1 => exact cZ ((Kd.Q_reads' HO425.out).2.2)); (case side2 => exact (Kd.Q_reads' HO425.out).2.1); rintro e w11 ⟨rfl, hb⟩; refine ⟨_, rfl, ?_⟩; replace HO425 := Aside0.mk (Kd.Q_below z14_2 hb); replace HB := Aside0.mk (below_step z14_0 hb); (try clear hb)))
    go_meet
    case rel => exact ⟨_, (true), (by first | rfl | (simp; done) | (simp [*]; done)), H', ⟨by first | omega | exact Nat.le_refl _⟩, ⟨z14_2⟩, ⟨z14_0⟩⟩
   ·rw [if_neg c10] at H
    have c10b0 : (t426 != t427) = false := by simpa using c10
    (try (have c10b1 : decide (t426 = t427) = true := by simpa using c10))
    (try (have c10b2 : (t426 == t427) = true := by simpa using c10))
    clear c10
    (first | rw [c10b0] | (simp only [i64_w, i32_w]; rw [c10b0]) | skip)
    by_cases c12 : (t423.length : Int) = 8
    ·rw [if_pos c12] at H
     have c12b0 : ((t423.length : Int) == 8) = true := beq_iff_eq.mpr c12
     have c12b1 : ((t423.length : Int) != 8) = false := bne_eq_false_iff_eq.mpr c12
     clear c12
     have H' := Aside0.mk H
     clear H
     go_wp2_with (first | ((with_reducible refine gate_callee (f := 27) rfl ?_); refine goesL_ (some 20) rfl rfl Try.func27 (by kernel_rfl) rfl #[.int .i64 t422, .slice Ao7 t423.length co7] rfl z14_1 ?_; (with_reducible refine (spec_CodeBears.calls k t422 _ _ t423 t427 _ ?side1 ?side2 A9.out).mono ?_); (case side1 => exact cZ ((Kd.Q_reads' HO425.out).2.2)); (case side2 => exact (Kd.Q_reads' HO425.out).2.1); rintro e w13 ⟨rfl, hb⟩; refine ⟨_, rfl, ?_⟩; replace HO425 := Aside0.mk (Kd.Q_below z14_2 hb); replace HB := Aside0.mk (below_step z14_0 hb); (try clear hb)))
     go_meet
     case rel => exact ⟨_, ((t422 != 2)), (by first | rfl | (simp; done) | (simp [*]; done)), H', ⟨by first | omega | exact Nat.le_refl _⟩, ⟨z14_2⟩, ⟨z14_0⟩⟩
    ·rw [if_neg c12] at H
     have c12b0 : ((t423.length : Int) == 8) = false := beq_eq_false_iff_ne.mpr c12
     have c12b1 : ((t423.length : Int) != 8) = true := bne_iff_ne.mpr c12
     have H' := Aside0.mk H
     clear H
     go_wp2_with (first | ((with_reducible refine gate_callee (f := 27) rfl ?_); refine goesL_ (some 20) rfl rfl Try.func27 (by kernel_rfl) rfl #[.int .i64 t422, .slice Ao7 t423.length co7] rfl z14_1 ?_; (with_reducible refine (spec_CodeBears.calls k t422 _ _ t423 t427 _ ?side1 ?side2 A9.out).mono ?_); (case side1 => exact cZ ((Kd.Q_reads' HO425.out).2.2)); (case side2 => exact (Kd.Q_reads' HO425.out).2.1); rintro e w14 ⟨rfl, hb⟩; refine ⟨_, rfl, ?_⟩; replace HO425 := Aside0.mk (Kd.Q_below z14_2 hb); replace HB := Aside0.mk (below_step z14_0 hb); (try clear hb)))
     go_meet
     case rel => exact ⟨_, (true), (by first | rfl | (simp; done) | (simp [*]; done)), H', ⟨by first | omega | exact Nat.le_refl _⟩, ⟨z14_2⟩, ⟨z14_0⟩⟩
  case rest =>
   clear HC5
   try clear c2
   try clear c2b0
   try clear c2b1
   obtain ⟨kq, x30_4, rfl, HA, HJ4, HO_4, HB⟩ := hcut
   cases kq with
   | zero => exact absurd HA.out (by simp [laws_FnWideAny.j0])
   | succ kj4 =>
    have H := HA.out
    clear HA
    simp only [laws_FnWideAny.j0] at H
    by_cases c15 : x30_4 = true
    ·subst c15
     have H1 : ((spec_CodeBears.f kj4 t422 t423).bind fun t428 => (some (t426 == t428))) = some r := by rw [if_pos rfl] at H; exact H
     clear H
     have H := H1
     clear H1
     replace H := Option.bind_eq_some_iff.mp H
     obtain ⟨t428, A160, H⟩ := H
     replace H : (some (t426 == t428)) = some r := H
     have A16 := Aside0.mk A160
     clear A160
     obtain rfl := Option.some.inj H
     go_wp2_with (first | ((with_reducible refine gate_callee (f := 27) rfl ?_); refine goesL_ (some 34) rfl rfl Try.func27 (by kernel_rfl) rfl #[.int .i64 t422, .slice Ao7 t423.length co7] rfl z14_1 ?_; (with_reducible refine (spec_CodeBears.calls kj4 t422 _ _ t423 t428 _ ?side1 ?side2 A16.out).mono ?_); (case side1 => exact cZ ((Kd.Q_reads' HO_4.out).2.2)); (case side2 => exact (Kd.Q_reads' HO_4.out).2.1); rintro e w17 ⟨rfl, hb⟩; refine ⟨_, rfl, ?_⟩; replace HO_4 := Aside0.mk (Kd.Q_below (by (with_reducible repeat (first | apply Kd.Q_alloc | apply Kd.Q_drewN | apply Kd.Q_drew)); exact HO_4.out) hb); replace HB := Aside0.mk (below_step z14_0 hb); (try clear hb)))
     go_ret
     exact ⟨z14_3, z14_0⟩
    ·replace c15 := Bool.eq_false_iff.mpr c15
     subst c15
     have H1 : ((laws_lkMany.f kj4 t423).bind fun t429 => (if (t426 == (decide (t429 ≥ 4))) = true then ((impl_CodeMost.f t422).bind fun t430 => (some (t430 == 4))) else (some false))) = some r := by rw [if_neg (show ¬ (false = true) by decide)] at H; exact H
     clear H
     have H := H1
     clear H1
     replace H := Option.bind_eq_some_iff.mp H
     obtain ⟨t429, A180, H⟩ := H
     replace H : (if (t426 == (decide (t429 ≥ 4))) = true then ((impl_CodeMost.f t422).bind fun t430 => (some (t430 == 4))) else (some false)) = some r := H
     have A18 := Aside0.mk A180
     clear A180
     by_cases c19 : (t426 == (decide (t429 ≥ 4))) = true
     ·rw [if_pos c19] at H
      have c19b0 : (t426 == (decide (t429 ≥ 4))) = true := c19
      (try (have c19b1 : decide (t426 = (decide (t429 ≥ 4))) = true := by simpa using c19))
      (try (have c19b2 : (t426 == (decide (t429 ≥ 4))) = true := by simpa using c19))
      clear c19
      replace H := Option.bind_eq_some_iff.mp H
      obtain ⟨t430, A200, H⟩ := H
      replace H : (some (t430 == 4)) = some r := H
      have A20 := Aside0.mk A200
      clear A200
      obtain rfl := Option.some.inj H
      go_wp2_with (first | ((with_reducible refine gate_callee (f := 34) rfl ?_); refine goesL_ (some 38) rfl rfl Try.func34 (by kernel_rfl) rfl #[.slice Ao7 t423.length co7] rfl z14_1 ?_; (with_reducible refine (laws_lkMany.calls kj4 _ _ t423 t429 _ ?side1 ?side2 A18.out).mono ?_); (case side1 => exact cZ ((Kd.Q_reads' HO_4.out).2.2)); (case side2 => exact (Kd.Q_reads' HO_4.out).2.1); rintro e w' ⟨rfl, ⟨nd, rfl⟩⟩; refine ⟨_, rfl, ?_⟩) | (go_at_call 32; (with_reducible refine (impl_CodeMost.calls t422 t430 _ A20.out).mono ?_); rintro e w21 ⟨rfl, hb⟩; replace HO_4 := Aside0.mk (Kd.Q_below (by (with_reducible repeat (first | apply Kd.Q_alloc | apply Kd.Q_drewN | apply Kd.Q_drew)); exact HO_4.out) hb); replace HB := Aside0.mk (below_step z14_0 hb); (try clear hb)))
      go_ret
      exact ⟨z14_3, z14_0⟩
     ·rw [if_neg c19] at H
      have c19b0 : (t426 == (decide (t429 ≥ 4))) = false := by simpa using c19
      (try (have c19b1 : decide (t426 = (decide (t429 ≥ 4))) = false := by simpa using c19))
      (try (have c19b2 : (t426 == (decide (t429 ≥ 4))) = false := by simpa using c19))
      (try (have c19b3 : ¬ (t426 = (decide (t429 ≥ 4))) := by simpa using c19))
      clear c19
      obtain rfl := Option.some.inj H
      go_wp2_with (first | ((with_reducible refine gate_callee (f := 34) rfl ?_); refine goesL_ (some 38) rfl rfl Try.func34 (by kernel_rfl) rfl #[.slice Ao7 t423.length co7] rfl z14_1 ?_; (with_reducible refine (laws_lkMany.calls kj4 _ _ t423 t429 _ ?side1 ?side2 A18.out).mono ?_); (case side1 => exact cZ ((Kd.Q_reads' HO_4.out).2.2)); (case side2 => exact (Kd.Q_reads' HO_4.out).2.1); rintro e w' ⟨rfl, ⟨nd, rfl⟩⟩; refine ⟨_, rfl, ?_⟩))
      go_ret
      exact ⟨z14_3, z14_0⟩

/-- THE ONE PURE STATEMENT of laws_FnWideAny: yours. -/
def laws_FnWideAny.Pure : Prop := ∀ (l0 : List Int), l0.length ≤ maxLen → l0.length * 1 ≤ 140737488351232 → (∀ x ∈ l0, (Lit.int .u8 x).wf = true) → ∃ k, laws_FnWideAny.f k l0 = some true
theorem laws_FnWideAny.walk (P : laws_FnWideAny.Pure) (a0 : Option Addr) (len0 cap0 : Nat) (z0 : List Int) (w : World) (w0 : (a0 = none ∧ len0 = 0 ∧ cap0 = 0 ∧ z0 = []) ∨ ∃ x, a0 = some x ∧ len0 ≤ cap0 ∧ cap0 ≤ maxLen ∧ z0.length = cap0 ∧ (∀ i, i < z0.length → w.cell? (x.add i) = some (.int .u8 (z0.getD i 0))) ∧ ∀ n ∈ z0, (Lit.int .u8 n).wf = true) (y0 : len0 * 1 ≤ 140737488351232) :
    Calls Try.prog 8 #[.slice a0 len0 cap0] w fun e w' => e = .returned (.bool true) ∧ Below w.heap.size w w' := by
  obtain ⟨l0, rfl, hr0, hm0, hw0, hc0⟩ := ReadsInt.ofRowC w0
  obtain ⟨k, h⟩ := P l0 hm0 y0 hw0
  refine (laws_FnWideAny.calls k _ _ l0 true w (Kd.C_of_reads (d := (0 : Int)) (h1 := fun _ => rfl) hr0) hc0 h).mono ?_
  rintro e w' ⟨rfl, hd⟩
  exact ⟨rfl, hd⟩

end Go.Proofs.Ytamaejafddmagaa.PA
