-- Written by a program of this session (after the manner of the kit's print, several laws in one text).
import Derived.Test.YtbhmgbeebhmfkaaHp
import Derived.Test.YtbhmgbeebhmfkaaPAx0
import Derived.Test.YtbhmgbeebhmfkaaPAx2
import Derived.Test.YtbhmgbeebhmfkaaPAx10
import Derived.Test.YtbhmgbeebhmfkaaPAx12
import Derived.Test.YtbhmgbeebhmfkaaGw
import Derived.Test.YtbhmgbeebhmfkaaGm
namespace Go.Proofs.Ytbhmgbeebhmfkaa.PA
open Go.RowKit Go.Proofs.YtbhmgbeebhmfkaaW.PrintWords Go.Proofs.YtbhmgbeebhmfkaaW.PrintLast Go.Proofs.YtbhmgbeebhmfkaaW.PrintMore
attribute [local go_sem] max2_int min2_int max_two min_two max_three min_three max_four min_four   -- for this text's walks alone
set_option linter.unusedVariables false
set_option linter.unusedSimpArgs false

/-! ### impl_SpanSame: function 32 -/
theorem zL13 {p q : Prop} (h : q) (t : q → p := by intro h_; (with_reducible repeat first|refine blk_drewN ?_ _|refine blk_drew ?_|refine blk_alloc ?_ _); exact h_) : p := t h
theorem z13_1 {p : Prop} (h : p := by repeat (first | (with_reducible first | exact HB.out | apply below_alloc | apply pw_below_drewN | apply below_drew1) | exact HB.out)) : p := h
theorem z13_2 {p : Prop} (h : p := by (try simp only [List.map_toArray, List.map_cons, List.map_nil]); first | done | rfl | (simp only [List.length_drop, List.length_take]; rfl)) : p := h
theorem z13_3 {p : Prop} (h : p := by (with_reducible repeat (first | apply Kd.R_alloc | apply Kd.R_drewN | apply Kd.R_drew)); exact HO428.out) : p := h
theorem z13_4 {p : Prop} (h : p := by repeat (first | (with_reducible first | exact HB.out | apply below_alloc | apply pw_below_drewN | apply below_drew1 | refine below_set ?_ GE451.out) | exact HB.out)) : p := h
theorem z13_5 {p : Prop} (h : p := by first | (with_reducible assumption) | assumption) : p := h
theorem z13_6 {p : Prop} (h : p := by (with_reducible repeat (first | apply Kd.R_alloc | apply Kd.R_drewN | apply Kd.R_drew)); exact HO432.out) : p := h
theorem z13_7 {p : Prop} (h : p := by (with_reducible repeat (first | apply Kd.R_alloc | apply Kd.R_drewN | apply Kd.R_drew)); exact HO_5.out) : p := h
theorem z13_8 {p : Prop} (h : p := by first | rfl | (simp; done) | (simp [*]; done)) : p := h
theorem z13_9 {p : Prop} (h : p := by repeat (first | exact Drawn0.refl _ | apply Drawn0.step)) : p := h
theorem z13_10 {p : Prop} (h : p := by (with_reducible repeat (first | apply Kd.R_alloc | apply Kd.R_drewN | apply Kd.R_drew)); exact HO443.out) : p := h
theorem z13_11 {p : Prop} (h : p := by (with_reducible repeat (first | apply Kd.R_alloc | apply Kd.R_drewN | apply Kd.R_drew)); exact HO_19.out) : p := h
theorem z13_12 {p : Prop} (h : p := by first | rfl | (simp [errW_none, errW_some] <;> rfl) | (simp [*, errW_none, errW_some] <;> rfl)) : p := h
def impl_SpanSame.f (k : Nat) (l0 : List (List Int)) (l1 : List (List Int)) : Option (Bool) := (impl_matrixOf.f k l0).bind fun bt425 => ((impl_matrixOf.f k l1).bind fun bt429 => (if bt425.2 = true then (if bt429.2 = true then ((impl_tidy.f k bt425.1).bind fun t433 => ((impl_tidy.f k bt429.1).bind fun t436 => ((impl_vector_59.f k t433 t436).bind fun t439 => (some t439)))) else (some false)) else (some false)))
set_option maxHeartbeats 8000000 in
set_option maxRecDepth 100000 in
theorem impl_SpanSame.calls (k : Nat) (A0 : Option Addr) (c0 : Nat) (l0 : List (List Int)) (A1 : Option Addr) (c1 : Nat) (l1 : List (List Int)) (r : Bool) (w : World) (hr0 : Kd.C (Kd.slice 3 (Kd.int .i64)) w A0 l0.length l0) (hc0 : l0.length ≤ c0) (hr1 : Kd.C (Kd.slice 3 (Kd.int .i64)) w A1 l1.length l1) (hc1 : l1.length ≤ c1) (h : impl_SpanSame.f k l0 l1 = some r) :
  Calls Try.prog 32 #[.slice A0 l0.length c0, .slice A1 l1.length c1] w fun e w' => e = .returned (.bool r) ∧ Below w.heap.size w w' := by
 have HR0 := Aside0.mk hr0
 have HC0 := Aside0.mk hc0
 clear hr0 hc0
 have HR1 := Aside0.mk hr1
 have HC1 := Aside0.mk hc1
 clear hr1 hc1
 have HB := Aside0.mk (Below.refl w.heap.size w)
 have H : ((impl_matrixOf.f k l0).bind fun bt425 => ((impl_matrixOf.f k l1).bind fun bt429 => (if bt425.2 = true then (if bt429.2 = true then ((impl_tidy.f k bt425.1).bind fun t433 => ((impl_tidy.f k bt429.1).bind fun t436 => ((impl_vector_59.f k t433 t436).bind fun t439 => (some t439)))) else (some false)) else (some false)))) = some r := h
 clear h
 replace H := Option.bind_eq_some_iff.mp H
 obtain ⟨⟨t425, t426⟩, A30, H⟩ := H
 replace H : ((impl_matrixOf.f k l1).bind fun bt429 => (if t426 = true then (if bt429.2 = true then ((impl_tidy.f k t425).bind fun t433 => ((impl_tidy.f k bt429.1).bind fun t436 => ((impl_vector_59.f k t433 t436).bind fun t439 => (some t439)))) else (some false)) else (some false))) = some r := H
 have A3 := Aside0.mk A30
 clear A30
 replace H := Option.bind_eq_some_iff.mp H
 obtain ⟨⟨t429, t430⟩, A40, H⟩ := H
 replace H : (if t426 = true then (if t430 = true then ((impl_tidy.f k t425).bind fun t433 => ((impl_tidy.f k t429).bind fun t436 => ((impl_vector_59.f k t433 t436).bind fun t439 => (some t439)))) else (some false)) else (some false)) = some r := H
 have A4 := Aside0.mk A40
 clear A40
 by_cases c5 : t426 = true
 ·subst c5
  have H1 : (if t430 = true then ((impl_tidy.f k t425).bind fun t433 => ((impl_tidy.f k t429).bind fun t436 => ((impl_vector_59.f k t433 t436).bind fun t439 => (some t439)))) else (some false)) = some r := by rw [if_pos rfl] at H; exact H
  clear H
  have H := H1
  clear H1
  by_cases c6 : t430 = true
  ·subst c6
   have H1 : ((impl_tidy.f k t425).bind fun t433 => ((impl_tidy.f k t429).bind fun t436 => ((impl_vector_59.f k t433 t436).bind fun t439 => (some t439)))) = some r := by rw [if_pos rfl] at H; exact H
   clear H
   have H := H1
   clear H1
   replace H := Option.bind_eq_some_iff.mp H
   obtain ⟨t433, A70, H⟩ := H
   replace H : ((impl_tidy.f k t429).bind fun t436 => ((impl_vector_59.f k t433 t436).bind fun t439 => (some t439))) = some r := H
   have A7 := Aside0.mk A70
   clear A70
   replace H := Option.bind_eq_some_iff.mp H
   obtain ⟨t436, A80, H⟩ := H
   replace H : ((impl_vector_59.f k t433 t436).bind fun t439 => (some t439)) = some r := H
   have A8 := Aside0.mk A80
   clear A80
   replace H := Option.bind_eq_some_iff.mp H
   obtain ⟨t439, A90, H⟩ := H
   replace H : (some t439) = some r := H
   have A9 := Aside0.mk A90
   clear A90
   obtain rfl := Option.some.inj H
   go_enter Try.func32, Try.ntmps32
   go_wp2_with (first | ((with_reducible refine gate_callee (f := 49) rfl ?_); refine goesL_ (some 11) rfl rfl Try.func49 (by kernel_rfl) rfl #[.slice A0 l0.length c0] rfl z13_2 ?_; (with_reducible refine (impl_matrixOf.calls k _ _ l0 t425 true _ ?side1 ?side2 A3.out).mono ?_); (case side1 => exact cZ (HR0.out)); (case side2 => exact HC0.out); rintro e w10 ⟨v427, rfl, ho0, hb⟩; refine ⟨_, rfl, ?_⟩; have HO428 := Aside0.mk (Kd.R_lower ho0 (below_size z13_1)); replace HB := Aside0.mk (below_step z13_1 hb); (try clear hb); (try clear ho0)) | ((with_reducible refine gate_callee (f := 49) rfl ?_); refine goesL_ (some 16) rfl rfl Try.func49 (by kernel_rfl) rfl #[.slice A1 l1.length c1] rfl z13_2 ?_; (with_reducible refine (impl_matrixOf.calls k _ _ l1 t429 true _ ?side1 ?side2 A4.out).mono ?_); (case side1 => exact cZ ((Kd.C_below HR1.out HB.out))); (case side2 => exact HC1.out); rintro e w11 ⟨v431, rfl, ho0, hb⟩; refine ⟨_, rfl, ?_⟩; have HO432 := Aside0.mk (Kd.R_lower (Kd.R_new' ho0 (Kd.R_lt z13_3)) (below_size z13_1)); replace HO428 := Aside0.mk (Kd.R_elder' z13_3 (Kd.R_base ho0) hb); replace HB := Aside0.mk (below_step z13_1 hb); (try clear hb); (try clear ho0); obtain ⟨Ao12, co12, eo12⟩ := Kd.R_slice HO428.out; subst eo12) | (go_at_call 60; (with_reducible refine (impl_tidy.calls k _ _ t425 t433 _ ?side1 ?side2 A7.out).mono ?_); (case side1 => exact cZ ((Kd.R_reads' HO428.out).2.2)); (case side2 => exact (Kd.R_reads' HO428.out).2.1); rintro e w13 ⟨v434, rfl, ho0, hb⟩; have HO435 := Aside0.mk (Kd.R_lower (Kd.R_new' (Kd.R_new' ho0 (Kd.R_lt z13_3)) (Kd.R_lt z13_6)) (below_size z13_1)); replace HO428 := Aside0.mk (Kd.R_elder' z13_3 (Kd.R_base ho0) hb); replace HO432 := Aside0.mk (Kd.R_elder' z13_6 (Kd.R_base ho0) hb); replace HB := Aside0.mk (below_step z13_1 hb); (try clear hb); (try clear ho0); obtain ⟨Ao14, co14, eo14⟩ := Kd.R_slice HO432.out; subst eo14) | (go_at_call 60; (with_reducible refine (impl_tidy.calls k _ _ t429 t436 _ ?side1 ?side2 A8.out).mono ?_); (case side1 => exact cZ ((Kd.R_reads' HO432.out).2.2)); (case side2 => exact (Kd.R_reads' HO432.out).2.1); rintro e w15 ⟨v437, rfl, ho0, hb⟩; have HO438 := Aside0.mk (Kd.R_lower (Kd.R_new' (Kd.R_new' (Kd.R_new' ho0 (Kd.R_lt z13_3)) (Kd.R_lt z13_6)) (Kd.R_lt (by (with_reducible repeat (first | apply Kd.R_alloc | apply Kd.R_drewN | apply Kd.R_drew)); exact HO435.out))) (below_size z13_1)); replace HO428 := Aside0.mk (Kd.R_elder' z13_3 (Kd.R_base ho0) hb); replace HO432 := Aside0.mk (Kd.R_elder' z13_6 (Kd.R_base ho0) hb); replace HO435 := Aside0.mk (Kd.R_elder' (by (with_reducible repeat (first | apply Kd.R_alloc | apply Kd.R_drewN | apply Kd.R_drew)); exact HO435.out) (Kd.R_base ho0) hb); replace HB := Aside0.mk (below_step z13_1 hb); (try clear hb); (try clear ho0); obtain ⟨Ao16, co16, eo16⟩ := Kd.R_slice HO435.out; subst eo16; obtain ⟨Ao17, co17, eo17⟩ := Kd.R_slice HO438.out; subst eo17) | (go_at_call 59; (with_reducible refine (impl_vector_59.calls k _ _ t433 _ _ t436 t439 _ ?side1 ?side2 ?side3 ?side4 A9.out).mono ?_); (case side1 => exact cZ ((Kd.R_reads' HO435.out).2.2)); (case side2 => exact (Kd.R_reads' HO435.out).2.1); (case side3 => exact cZ ((Kd.R_reads' HO438.out).2.2)); (case side4 => exact (Kd.R_reads' HO438.out).2.1); rintro e w' ⟨rfl, ⟨nd, rfl⟩⟩))
   go_ret
   exact ⟨z13_12, z13_1⟩
  ·replace c6 := Bool.eq_false_iff.mpr c6
   subst c6
   have H1 : (some false) = some r := by rw [if_neg (show ¬ (false = true) by decide)] at H; exact H
   clear H
   have H := H1
   clear H1
   obtain rfl := Option.some.inj H
   go_enter Try.func32, Try.ntmps32
   go_wp2_with (first | ((with_reducible refine gate_callee (f := 49) rfl ?_); refine goesL_ (some 11) rfl rfl Try.func49 (by kernel_rfl) rfl #[.slice A0 l0.length c0] rfl z13_2 ?_; (with_reducible refine (impl_matrixOf.calls k _ _ l0 t425 true _ ?side1 ?side2 A3.out).mono ?_); (case side1 => exact cZ (HR0.out)); (case side2 => exact HC0.out); rintro e w18 ⟨v427, rfl, ho0, hb⟩; refine ⟨_, rfl, ?_⟩; have HO428 := Aside0.mk (Kd.R_lower ho0 (below_size z13_1)); replace HB := Aside0.mk (below_step z13_1 hb); (try clear hb); (try clear ho0)) | ((with_reducible refine gate_callee (f := 49) rfl ?_); refine goesL_ (some 16) rfl rfl Try.func49 (by kernel_rfl) rfl #[.slice A1 l1.length c1] rfl z13_2 ?_; (with_reducible refine (impl_matrixOf.calls k _ _ l1 t429 false _ ?side1 ?side2 A4.out).mono ?_); (case side1 => exact cZ ((Kd.C_below HR1.out HB.out))); (case side2 => exact HC1.out); rintro e w19 ⟨v431, rfl, ho0, hb⟩; refine ⟨_, rfl, ?_⟩; have HO432 := Aside0.mk (Kd.R_lower (Kd.R_new' ho0 (Kd.R_lt z13_3)) (below_size z13_1)); replace HO428 := Aside0.mk (Kd.R_elder' z13_3 (Kd.R_base ho0) hb); replace HB := Aside0.mk (below_step z13_1 hb); (try clear hb); (try clear ho0)))
   go_ret
   exact ⟨z13_12, z13_1⟩
 ·replace c5 := Bool.eq_false_iff.mpr c5
  subst c5
  have H1 : (some false) = some r := by rw [if_neg (show ¬ (false = true) by decide)] at H; exact H
  clear H
  have H := H1
  clear H1
  obtain rfl := Option.some.inj H
  go_enter Try.func32, Try.ntmps32
  go_wp2_with (first | ((with_reducible refine gate_callee (f := 49) rfl ?_); refine goesL_ (some 11) rfl rfl Try.func49 (by kernel_rfl) rfl #[.slice A0 l0.length c0] rfl z13_2 ?_; (with_reducible refine (impl_matrixOf.calls k _ _ l0 t425 false _ ?side1 ?side2 A3.out).mono ?_); (case side1 => exact cZ (HR0.out)); (case side2 => exact HC0.out); rintro e w20 ⟨v427, rfl, ho0, hb⟩; refine ⟨_, rfl, ?_⟩; have HO428 := Aside0.mk (Kd.R_lower ho0 (below_size z13_1)); replace HB := Aside0.mk (below_step z13_1 hb); (try clear hb); (try clear ho0)) | ((with_reducible refine gate_callee (f := 49) rfl ?_); refine goesL_ (some 16) rfl rfl Try.func49 (by kernel_rfl) rfl #[.slice A1 l1.length c1] rfl z13_2 ?_; (with_reducible refine (impl_matrixOf.calls k _ _ l1 t429 t430 _ ?side1 ?side2 A4.out).mono ?_); (case side1 => exact cZ ((Kd.C_below HR1.out HB.out))); (case side2 => exact HC1.out); rintro e w21 ⟨v431, rfl, ho0, hb⟩; refine ⟨_, rfl, ?_⟩; have HO432 := Aside0.mk (Kd.R_lower (Kd.R_new' ho0 (Kd.R_lt z13_3)) (below_size z13_1)); replace HO428 := Aside0.mk (Kd.R_elder' z13_3 (Kd.R_base ho0) hb); replace HB := Aside0.mk (below_step z13_1 hb); (try clear hb); (try clear ho0)))
  go_ret
  exact ⟨z13_12, z13_1⟩

-- GIVEN: function 61 (impl_vector_list)

-- NOT PRINTED: function 62 (slices_Clip_int_int)

/-! ### impl_SpanTidy: function 34 -/
def impl_SpanTidy.l0 : Nat → List (List Int) → List (S59) → Int → Int → Option ((List (List Int)))
  | 0, _, _, _, _ => none
  | k + 1, x5, x19, x20, x21 => if x21 < x20 then (if 0 ≤ x21 then (if x21 < (x19.length : Int) then ((impl_vector_list.f ((rd_T59 x19 x21).f0) ((rd_T59 x19 x21).f1) ((rd_T59 x19 x21).f2) ((rd_T59 x19 x21).f3)).bind fun t452 => (if x5.length < 5864062014805 then (impl_SpanTidy.l0 k (x5 ++ [t452]) x19 x20 (wrap64 (x21 + 1))) else (none))) else (none)) else (none)) else (some x5)
def impl_SpanTidy.f (k : Nat) (l0 : List (List Int)) : Option ((List (List Int))) := (impl_matrixOf.f k l0).bind fun bt440 => (if bt440.2 = true then (if 0 ≤ (l0.length : Int) then (if ((l0.length : Int) : Int).toNat ≤ 11728124029610 then ((impl_tidy.f k bt440.1).bind fun t447 => (impl_SpanTidy.l0 k (([] : List (List Int))) t447 (t447.length : Int) 0)) else (none)) else (none)) else (some ([] : List (List Int))))
set_option maxHeartbeats 8000000 in
set_option maxRecDepth 100000 in
theorem impl_SpanTidy.calls (k : Nat) (A0 : Option Addr) (c0 : Nat) (l0 : List (List Int)) (r : List (List Int)) (w : World) (hr0 : Kd.C (Kd.slice 3 (Kd.int .i64)) w A0 l0.length l0) (hc0 : l0.length ≤ c0) (h : impl_SpanTidy.f k l0 = some r) :
  Calls Try.prog 34 #[.slice A0 l0.length c0] w fun e w' => ∃ v0_ : Value, e = .returned (clip v0_) ∧ Kd.R (Kd.slice 3 (Kd.int .i64)) 28 w' w.heap.size (fun _ => True) v0_ r ∧ Below w.heap.size w w' := by
 have hu59 := Try.underlying59
 have HR0 := Aside0.mk hr0
 have HC0 := Aside0.mk hc0
 clear hr0 hc0
 have HB := Aside0.mk (Below.refl w.heap.size w)
 have H : ((impl_matrixOf.f k l0).bind fun bt440 => (if bt440.2 = true then (if 0 ≤ (l0.length : Int) then (if ((l0.length : Int) : Int).toNat ≤ 11728124029610 then ((impl_tidy.f k bt440.1).bind fun t447 => (impl_SpanTidy.l0 k (([] : List (List Int))) t447 (t447.length : Int) 0)) else (none)) else (none)) else (some ([] : List (List Int))))) = some r := h
 clear h
 replace H := Option.bind_eq_some_iff.mp H
 obtain ⟨⟨t440, t441⟩, A20, H⟩ := H
 replace H : (if t441 = true then (if 0 ≤ (l0.length : Int) then (if ((l0.length : Int) : Int).toNat ≤ 11728124029610 then ((impl_tidy.f k t440).bind fun t447 => (impl_SpanTidy.l0 k (([] : List (List Int))) t447 (t447.length : Int) 0)) else (none)) else (none)) else (some ([] : List (List Int)))) = some r := H
 have A2 := Aside0.mk A20
 clear A20
 by_cases c3 : t441 = true
 ·subst c3
  have H1 : (if 0 ≤ (l0.length : Int) then (if ((l0.length : Int) : Int).toNat ≤ 11728124029610 then ((impl_tidy.f k t440).bind fun t447 => (impl_SpanTidy.l0 k (([] : List (List Int))) t447 (t447.length : Int) 0)) else (none)) else (none)) = some r := by rw [if_pos rfl] at H; exact H
  clear H
  have H := H1
  clear H1
  obtain ⟨c4, H⟩ := ifP H
  have c4b0 := eq_true c4
  have c4b1 : decide (0 ≤ (l0.length : Int)) = true := decide_eq_true c4
  clear c4
  obtain ⟨c5, H⟩ := ifP H
  have c5b0 := eq_true c5
  have c5b1 : decide (((l0.length : Int) : Int).toNat ≤ 11728124029610) = true := decide_eq_true c5
  clear c5
  obtain ⟨y444, hy444⟩ : ∃ y_ : List (List Int), y_ = (([] : List (List Int))) := ⟨_, rfl⟩
  replace H : ((impl_tidy.f k t440).bind fun t447 => (impl_SpanTidy.l0 k y444 t447 (t447.length : Int) 0)) = some r := by first | (rw [hy444]; with_reducible exact H) | (have H2_ := (Option.bind_some _ _).symm.trans H; rw [hy444]; with_reducible exact H2_) | (have H2_ := (Option.bind_some _ _).symm.trans H; with_reducible exact H2_) | with_reducible exact H | (rw [hy444]; exact H) | exact H
  have Ny444 := Aside0.mk hy444
  clear hy444
  replace H := Option.bind_eq_some_iff.mp H
  obtain ⟨t447, A60, H⟩ := H
  replace H : (impl_SpanTidy.l0 k y444 t447 (t447.length : Int) 0) = some r := H
  have A6 := Aside0.mk A60
  clear A60
  have H' := Aside0.mk H
  clear H
  go_enter Try.func34, Try.ntmps34
  go_wp2_with (first | ((with_reducible refine gate_callee (f := 49) rfl ?_); refine goesL_ (some 10) rfl rfl Try.func49 (by kernel_rfl) rfl #[.slice A0 l0.length c0] rfl z13_2 ?_; (with_reducible refine (impl_matrixOf.calls k _ _ l0 t440 true _ ?side1 ?side2 A2.out).mono ?_); (case side1 => exact cZ (HR0.out)); (case side2 => exact HC0.out); rintro e w7 ⟨v442, rfl, ho0, hb⟩; refine ⟨_, rfl, ?_⟩; have HO443 := Aside0.mk (Kd.R_lower ho0 (below_size z13_1)); replace HB := Aside0.mk (below_step z13_1 hb); (try clear hb); (try clear ho0)) | ((with_reducible refine gate_dst (N := 17) rfl ?_); refine R_make0 (Kd.slice 3 (Kd.int .i64)) _ 28 rfl (N := 17) rfl 22 _ _ rfl (l0.length : Int) rfl rfl Try.underlying22 (.slice none 0 0) 24 info28 (by decide) (ok := fun _ => True) (okp := fun _ => True) (fun _ hk => hk) trivial (of_decide_eq_true z13_5) (Nat.le_trans (Nat.mul_le_mul_right _ (of_decide_eq_true z13_5 : (l0.length : Int).toNat ≤ 11728124029610)) (by omega)) (Below.refl _ _) (Nat.le_refl _) ?_; intro v445 w8 ho9 hb hg_ hnew_; clear hg_ hnew_; (first | rw [← Ny444.out] at ho9 | (simp only [Int.reduceToNat] at ho9; rw [← Ny444.out] at ho9)); replace HO443 := Aside0.mk (Kd.R_below z13_10 hb); have HO446 := Aside0.mk (Kd.R_lower ho9 (below_size z13_1)); replace HB := Aside0.mk (below_step z13_1 hb); clear hb ho9; obtain ⟨Ao10, co10, eo10⟩ := Kd.R_slice HO443.out; subst eo10) | ((with_reducible refine gate_callee (f := 60) rfl ?_); refine goesL_ (some 19) rfl rfl Try.func60 (by kernel_rfl) rfl #[.slice Ao10 t440.length co10] rfl z13_2 ?_; (with_reducible refine (impl_tidy.calls k _ _ t440 t447 _ ?side1 ?side2 A6.out).mono ?_); (case side1 => exact cZ ((Kd.R_reads' HO443.out).2.2)); (case side2 => exact (Kd.R_reads' HO443.out).2.1); rintro e w11 ⟨v448, rfl, ho0, hb⟩; refine ⟨_, rfl, ?_⟩; replace HO446 := Aside0.mk (Kd.R_below (by (with_reducible repeat (first | apply Kd.R_alloc | apply Kd.R_drewN | apply Kd.R_drew)); exact HO446.out) hb); have HO449 := Aside0.mk (Kd.R_lower (Kd.R_new' ho0 (Kd.R_lt z13_10)) (below_size z13_1)); replace HO443 := Aside0.mk (Kd.R_elder' z13_10 (Kd.R_base ho0) hb); replace HB := Aside0.mk (below_step z13_1 hb); (try clear hb); (try clear ho0); obtain ⟨Ao12, co12, eo12⟩ := Kd.R_slice HO449.out; subst eo12))
  go_loopg [5, 21] k (fun kq v5 v21 w' => ∃ (x5_1 : List (List Int)) (x21_1 : Int), v21 = .int .i64 x21_1 ∧ Aside0 (impl_SpanTidy.l0 kq x5_1 t447 (t447.length : Int) x21_1 = some r) ∧ Aside0 (kq ≤ k) ∧ Aside0 (Kd.R (Kd.slice 3 (Kd.int .i64)) 28 w' w.heap.size (fun _ => True) v5 x5_1) ∧ Aside0 (Kd.R k59 59 w' w.heap.size (fun _ => True) (.slice Ao12 t447.length co12) t447) ∧ Aside0 (Below w.heap.size w w'))
  case atStart => exact ⟨(y444), (0), z13_8, H', ⟨Nat.le_refl _⟩, ⟨by (with_reducible repeat (first | apply Kd.R_alloc | apply Kd.R_drewN | apply Kd.R_drew)); exact HO446.out⟩, ⟨by (with_reducible repeat (first | apply Kd.R_alloc | apply Kd.R_drewN | apply Kd.R_drew)); exact Kd.R_mono HO449.out (fun _ hk => trivial)⟩, ⟨z13_1⟩⟩
  case round =>
   clear H'
   try clear c3
   try clear c4
   try clear c4b0
   try clear c4b1
   try clear c5
   try clear c5b0
   try clear c5b1
   obtain ⟨x5_1, x21_1, rfl, HA, HK1, HO_5, HO_19, HB⟩ := hrel
   cases gk with
   | zero => exact absurd HA.out (by simp [impl_SpanTidy.l0])
   | succ k1 =>
    have H := HA.out
    clear HA
    simp only [impl_SpanTidy.l0] at H
    by_cases c13 : x21_1 < (t447.length : Int)
    ·rw [if_pos c13] at H
     have c13b0 : decide (x21_1 < (t447.length : Int)) = true := decide_eq_true c13
     clear c13
     obtain ⟨c14, H⟩ := ifP H
     have c14b0 : decide (0 ≤ x21_1) = true := decide_eq_true c14
     clear c14
     obtain ⟨c15, H⟩ := ifP H
     have c15b0 : decide (x21_1 < (t447.length : Int)) = true := decide_eq_true c15
     clear c15
     replace H := Option.bind_eq_some_iff.mp H
     obtain ⟨t452, A160, H⟩ := H
     replace H : (if x5_1.length < 5864062014805 then (impl_SpanTidy.l0 k1 (x5_1 ++ [t452]) t447 (t447.length : Int) (wrap64 (x21_1 + 1))) else (none)) = some r := H
     have A16 := Aside0.mk A160
     clear A160
     obtain ⟨c17, H⟩ := ifP H
     have LMc17 := Aside0.mk c17
     clear c17
     obtain ⟨y455, hy455⟩ : ∃ y_ : List (List Int), y_ = (x5_1 ++ [t452]) := ⟨_, rfl⟩
     replace H : (impl_SpanTidy.l0 k1 y455 t447 (t447.length : Int) (wrap64 (x21_1 + 1))) = some r := by first | (rw [hy455]; with_reducible exact H) | (have H2_ := (Option.bind_some _ _).symm.trans H; rw [hy455]; with_reducible exact H2_) | (have H2_ := (Option.bind_some _ _).symm.trans H; with_reducible exact H2_) | with_reducible exact H | (rw [hy455]; exact H) | exact H
     have Ny455 := Aside0.mk hy455
     clear hy455
     have H' := Aside0.mk H
     clear H
     have p450 : 0 ≤ (x21_1 : Int) := of_decide_eq_true z13_5
     have q450 : x21_1 < (t447.length : Int) := of_decide_eq_true z13_5
     obtain ⟨ad450, e450, hx450_0, hx450_1, hx450_2, hx450_3⟩ := at_T59 (Kd.R_reads' HO_19.out).2.2 x21_1 p450 q450
     cases e450
     replace p450 := eq_true p450
     replace q450 := eq_true q450
     go_wp2_with (first | ((with_reducible refine gate_dst (N := 7) rfl ?_); refine box_event ?hg (N := 7) ?hd (cs := #[.int .i64 0, .int .i64 0, .int .i64 0, .int .i64 0]) (t := 59) ?hr ?_; (case hd => rfl); (case hg => rfl); (case hr => first | (go_simp; done) | (go_simp; rfl)); intro gb451 hg w18 hbox hb; replace HO_5 := Aside0.mk (Kd.R_below z13_7 hb); replace HO_19 := Aside0.mk (Kd.R_below (Kd.R_elderB z13_11 gb451 (Nat.le_of_eq hg.symm)) hb); have BK451 := Aside0.mk (hbox); have GW451 := Aside0.mk ((by rw [hg]; exact (below_size z13_1) : w.heap.size ≤ gb451)); have GE451 := Aside0.mk ((by rw [hg]; exact (below_size z13_1) : w.heap.size ≤ gb451)); replace HB := Aside0.mk (below_step z13_1 hb); clear hb hbox hg; have hcz19_0 : w18.cell? ⟨gb451, 0, none⟩ = some (.int .i64 0) := (blk_cell BK451.out 0).trans rfl; have hfz19_0 := blk_frozen BK451.out 0; have hcz20_1 : w18.cell? ⟨gb451, 1, none⟩ = some (.int .i64 0) := (blk_cell BK451.out 1).trans rfl; have hfz20_1 := blk_frozen BK451.out 1; have hcz21_2 : w18.cell? ⟨gb451, 2, none⟩ = some (.int .i64 0) := (blk_cell BK451.out 2).trans rfl; have hfz21_2 := blk_frozen BK451.out 2; have hcz22_3 : w18.cell? ⟨gb451, 3, none⟩ = some (.int .i64 0) := (blk_cell BK451.out 3).trans rfl; have hfz22_3 := blk_frozen BK451.out 3) | ((with_reducible refine gate_store (t := 59) (p := 7) rfl ?_); refine store_event (t := 59) (p := 7) (v := ?vo_w23) (w1 := ((((w18.setCell ⟨gb451, 0, none⟩ (.int .i64 ((rd_T59 t447 x21_1).f0))).setCell ⟨gb451, 1, none⟩ (.int .i64 ((rd_T59 t447 x21_1).f1))).setCell ⟨gb451, 2, none⟩ (.int .i64 ((rd_T59 t447 x21_1).f2))).setCell ⟨gb451, 3, none⟩ (.int .i64 ((rd_T59 t447 x21_1).f3)))) ?hg ?ho ?hn ?hr ?_; (case ho => rfl); (case hg => rfl); (case hn => rfl); (case hr => first | (go_simp; done) | (go_simp; rfl)); intro w23 hw; have n0_ : Aside0 (Kd.R (Kd.slice 3 (Kd.int .i64)) 28 w23 w.heap.size (fun _ => True) u5 x5_1) := ⟨(by rw [hw]; exact (by (with_reducible repeat (first | apply Kd.R_alloc | apply Kd.R_drewN | apply Kd.R_drew)); exact Kd.R_mono (Kd.R_far (p := ⟨gb451, 3, none⟩) (Kd.R_far (p := ⟨gb451, 2, none⟩) (Kd.R_far (p := ⟨gb451, 1, none⟩) (Kd.R_far (p := ⟨gb451, 0, none⟩) (Kd.R_types HO_5.out BK451.out (by decide)) (fun _ hk => hk.2) (.int .i64 ((rd_T59 t447 x21_1).f0))) (fun _ hk => hk.2) (.int .i64 ((rd_T59 t447 x21_1).f1))) (fun _ hk => hk.2) (.int .i64 ((rd_T59 t447 x21_1).f2))) (fun _ hk => hk.2) (.int .i64 ((rd_T59 t447 x21_1).f3))) (fun _ hk => trivial)))⟩; have n1_ : Aside0 (Kd.R k59 59 w23 w.heap.size (fun k_ => k_ ≠ gb451) (.slice (some ad450) t447.length co12) t447) := ⟨(by rw [hw]; exact (by (with_reducible repeat (first | apply Kd.R_alloc | apply Kd.R_drewN | apply Kd.R_drew)); exact Kd.R_mono (Kd.R_far (p := ⟨gb451, 3, none⟩) (Kd.R_far (p := ⟨gb451, 2, none⟩) (Kd.R_far (p := ⟨gb451, 1, none⟩) (Kd.R_far (p := ⟨gb451, 0, none⟩) (Kd.R_mono HO_19.out (fun k_ hk => (⟨hk, hk.2⟩ : _ ∧ k_ ≠ gb451))) (fun _ hk => hk.2) (.int .i64 ((rd_T59 t447 x21_1).f0))) (fun _ hk => hk.2) (.int .i64 ((rd_T59 t447 x21_1).f1))) (fun _ hk => hk.2) (.int .i64 ((rd_T59 t447 x21_1).f2))) (fun _ hk => hk.2) (.int .i64 ((rd_T59 t447 x21_1).f3))) (fun _ hk => hk.1.2)))⟩; have n2_ : Aside0 (w23.heap[gb451]? = some (.cells #[.int .i64 ((rd_T59 t447 x21_1).f0), .int .i64 ((rd_T59 t447 x21_1).f1), .int .i64 ((rd_T59 t447 x21_1).f2), .int .i64 ((rd_T59 t447 x21_1).f3)] 59 (0, 0))) := ⟨(by rw [hw]; exact (bZ BK451.out))⟩; have n3_ : Aside0 (Below w.heap.size w w23) := ⟨(by rw [hw]; exact z13_4)⟩; clear hw; clear HO_5; clear HO_19; clear BK451; clear HB; have HO_5 := n0_; have HO_19 := n1_; have BK451 := n2_; have HB := n3_; clear n0_ n1_ n2_ n3_; have hcz24_0 : w23.cell? ⟨gb451, 0, none⟩ = some (.int .i64 ((rd_T59 t447 x21_1).f0)) := (blk_cell BK451.out 0).trans rfl; have hcz24_1 : w23.cell? ⟨gb451, 1, none⟩ = some (.int .i64 ((rd_T59 t447 x21_1).f1)) := (blk_cell BK451.out 1).trans rfl; have hcz24_2 : w23.cell? ⟨gb451, 2, none⟩ = some (.int .i64 ((rd_T59 t447 x21_1).f2)) := (blk_cell BK451.out 2).trans rfl; have hcz24_3 : w23.cell? ⟨gb451, 3, none⟩ = some (.int .i64 ((rd_T59 t447 x21_1).f3)) := (blk_cell BK451.out 3).trans rfl; have hfz24_0 := blk_frozen BK451.out 0; have hfz24_1 := blk_frozen BK451.out 1; have hfz24_2 := blk_frozen BK451.out 2; have hfz24_3 := blk_frozen BK451.out 3) | ((with_reducible refine gate_callee (f := 61) rfl ?_); refine goesL_ (some 27) rfl rfl Try.func61 (by kernel_rfl) rfl #[.agg #[.int .i64 ((rd_T59 t447 x21_1).f0), .int .i64 ((rd_T59 t447 x21_1).f1), .int .i64 ((rd_T59 t447 x21_1).f2), .int .i64 ((rd_T59 t447 x21_1).f3)]] rfl z13_2 ?_; (with_reducible refine (impl_vector_list.calls ((rd_T59 t447 x21_1).f0) ((rd_T59 t447 x21_1).f1) ((rd_T59 t447 x21_1).f2) ((rd_T59 t447 x21_1).f3) t452 _ A16.out).mono ?_); rintro e w25 ⟨v453, rfl, ho0, hb⟩; refine ⟨_, rfl, ?_⟩; replace HO_5 := Aside0.mk (Kd.R_elder' z13_7 (Kd.R_base ho0) hb); replace HO_19 := Aside0.mk (Kd.R_below z13_11 hb); have HO454 := Aside0.mk (Kd.R_lower ho0 (below_size z13_4)); replace BK451 := Aside0.mk (blk_below (g := gb451) (o := .cells #[.int .i64 ((rd_T59 t447 x21_1).f0), .int .i64 ((rd_T59 t447 x21_1).f1), .int .i64 ((rd_T59 t447 x21_1).f2), .int .i64 ((rd_T59 t447 x21_1).f3)] 59 (0, 0)) (zL13 BK451.out) hb); replace HB := Aside0.mk (below_step z13_4 hb); (try clear hb); (try clear ho0); obtain ⟨Ao27, co27, eo27⟩ := Kd.R_slice HO454.out; subst eo27) | ((with_reducible refine gate_builtin (b := .append) (xs := #[.tmp 25, .tmp 28]) rfl ?_); at_builtin; refine Kd.R_append (Kd.slice 3 (Kd.int .i64)) (w0 := w) w.heap.size rfl (.tmp 25) (.tmp 28) 22 28 (.slice none 0 0) 24 rfl Try.underlying22 info28 rfl (by decide) (by omega) u5 x5_1 t452 [.slice Ao27 t452.length co27] (fun _ => True) (fun k_ => ((fun _ => True)) k_ ∧ some k_ ≠ (u5 : Value).ownBlock) rfl rfl ?aP (fun _ hk => hk) ?aF ?aO ?aB ?aS ?aL ?_; (case aP => exact Kd.M_row (Kd.R_mono (Kd.R_apart' (HO454.out) (Kd.R_typed HO_5.out) (by decide)) (fun k_ hk => ⟨trivial, hk.2⟩))); (case aB => exact z13_4); (case aF => exact (fun _ _ => trivial)); (case aO => exact (by (with_reducible repeat (first | apply Kd.R_alloc | apply Kd.R_drewN | apply Kd.R_drew)); exact Kd.R_mono HO_5.out (fun _ hk => trivial))); (case aS => exact (below_size z13_4)); (case aL => have := LMc17.out; omega); intro v456 w26 ho hb hg hat; rw [← Ny455.out] at ho; have n0_ := Aside0.mk (Kd.R_over' z13_11 (Kd.R_typed z13_7) (by decide) hg); have n1_ := Aside0.mk (blk_grown (g := gb451) (o := .cells #[.int .i64 ((rd_T59 t447 x21_1).f0), .int .i64 ((rd_T59 t447 x21_1).f1), .int .i64 ((rd_T59 t447 x21_1).f2), .int .i64 ((rd_T59 t447 x21_1).f3)] 59 (0, 0)) (zL13 BK451.out) hg (Kd.R_ne HO_5.out BK451.out (by decide))); have n2_ := Aside0.mk (hb); have n3_ := Aside0.mk (ho); clear HO_19; clear BK451; clear HB; clear HO_5; clear HO454; have HO_19 := n0_; have BK451 := n1_; have HB := n2_; have HO457 := n3_; clear n0_ n1_ n2_ n3_; clear ho hb hg hat))
     go_roundg k1
     case measure => have := HK1.out; omega
     case rel => exact ⟨(y455), (wrap64 (x21_1 + 1)), z13_8, H', ⟨by have := HK1.out; omega⟩, ⟨by (with_reducible repeat (first | apply Kd.R_alloc | apply Kd.R_drewN | apply Kd.R_drew)); exact HO457.out⟩, ⟨by (with_reducible repeat (first | apply Kd.R_alloc | apply Kd.R_drewN | apply Kd.R_drew)); exact Kd.R_mono HO_19.out (fun _ hk => trivial)⟩, ⟨z13_4⟩⟩
    ·rw [if_neg c13] at H
     have c13b0 : decide (x21_1 < (t447.length : Int)) = false := decide_eq_false c13
     clear c13
     obtain rfl := Option.some.inj H
     obtain ⟨AoC, coC, eoC⟩ := Kd.R_slice HO_5.out
     subst eoC
     go_wp2_with ((with_reducible refine gate_callee (f := 62) rfl ?_); refine goesL_ (some 32) rfl rfl Try.func62 (by kernel_rfl) rfl #[.slice AoC x5_1.length coC] rfl (by (try simp only [List.map_toArray, List.map_cons, List.map_nil]); first | done | rfl) ?_; (with_reducible refine (slices_Clip_rows.calls _ _ _ ?side1 _).mono ?_); (case side1 => exact (Kd.R_reads' HO_5.out).2.1); rintro e wC ⟨rfl, hbC⟩; refine ⟨_, rfl, ?_⟩; have HOC := Aside0.mk (Kd.R_below z13_7 hbC); have HBC := Aside0.mk (below_step z13_1 hbC); clear hbC HB HO_5; have HB := HBC)
     go_ret
     exact ⟨.slice AoC x5_1.length coC, by rfl, by (with_reducible repeat (first | apply Kd.R_alloc | apply Kd.R_drewN | apply Kd.R_drew)); exact HOC.out, z13_1⟩
 ·replace c3 := Bool.eq_false_iff.mpr c3
  subst c3
  have H1 : (some ([] : List (List Int))) = some r := by rw [if_neg (show ¬ (false = true) by decide)] at H; exact H
  clear H
  have H := H1
  clear H1
  obtain rfl := Option.some.inj H
  go_enter Try.func34, Try.ntmps34
  go_wp2_with (first | ((with_reducible refine gate_callee (f := 49) rfl ?_); refine goesL_ (some 10) rfl rfl Try.func49 (by kernel_rfl) rfl #[.slice A0 l0.length c0] rfl z13_2 ?_; (with_reducible refine (impl_matrixOf.calls k _ _ l0 t440 false _ ?side1 ?side2 A2.out).mono ?_); (case side1 => exact cZ (HR0.out)); (case side2 => exact HC0.out); rintro e w28 ⟨v442, rfl, ho0, hb⟩; refine ⟨_, rfl, ?_⟩; have HO443 := Aside0.mk (Kd.R_lower ho0 (below_size z13_1)); replace HB := Aside0.mk (below_step z13_1 hb); (try clear hb); (try clear ho0)))
  go_ret
  exact ⟨.slice none 0 0, by rfl, by first | exact Kd.R_nil _ _ _ _ _ | exact Kd.N_nil _ _ _ _ _ | exact Kd.V_nil _ _ _ _ _ | exact Kd.Q_nil _ _ _ _ _ | exact Kd.S_nil _ _ _ _ _, z13_1⟩

/-! ### laws_lkInts: function 37 -/
def laws_lkInts.l0 : Nat → List Int → List Int → Int → Option (Bool)
  | 0, _, _, _ => none
  | k + 1, x0, x1, x5 => if x5 < (x0.length : Int) then (if 0 ≤ x5 then (if x5 < (x1.length : Int) then (if (rd x0 x5) = (rd x1 x5) then (laws_lkInts.l0 k x0 x1 (wrap64 (x5 + 1))) else (some false)) else (none)) else (none)) else (some true)
def laws_lkInts.f (k : Nat) (l0 : List Int) (l1 : List Int) : Option (Bool) := if (l0.length : Int) = (l1.length : Int) then (laws_lkInts.l0 k l0 l1 0) else (some false)
set_option maxHeartbeats 8000000 in
set_option maxRecDepth 100000 in
theorem laws_lkInts.calls (k : Nat) (A0 : Option Addr) (c0 : Nat) (l0 : List Int) (A1 : Option Addr) (c1 : Nat) (l1 : List Int) (r : Bool) (w : World) (hr0 : Kd.C (Kd.int .i64) w A0 l0.length l0) (hc0 : l0.length ≤ c0) (hr1 : Kd.C (Kd.int .i64) w A1 l1.length l1) (hc1 : l1.length ≤ c1) (h : laws_lkInts.f k l0 l1 = some r) :
  Calls Try.prog 37 #[.slice A0 l0.length c0, .slice A1 l1.length c1] w fun e w' => e = .returned (.bool r) ∧ Drawn0 w w' := by
 have HR0 := Aside0.mk hr0
 have HC0 := Aside0.mk hc0
 clear hr0 hc0
 have HR1 := Aside0.mk hr1
 have HC1 := Aside0.mk hc1
 clear hr1 hc1
 have H : (if (l0.length : Int) = (l1.length : Int) then (laws_lkInts.l0 k l0 l1 0) else (some false)) = some r := h
 clear h
 by_cases c3 : (l0.length : Int) = (l1.length : Int)
 ·rw [if_pos c3] at H
  have c3b0 : ((l0.length : Int) == (l1.length : Int)) = true := beq_iff_eq.mpr c3
  have c3b1 : ((l0.length : Int) != (l1.length : Int)) = false := bne_eq_false_iff_eq.mpr c3
  have c3b2 : (l0.length == l1.length) = true := by first | simpa using c3 | (simp at c3 ⊢; omega)
  clear c3
  have H' := Aside0.mk H
  clear H
  go_enter Try.func37, Try.ntmps37
  go_wp2
  repeat (go_quiet (fail); try go_wp2)
  go_loopg [5] k (fun kq v5 w' => ∃ (x5_1 : Int), v5 = .int .i64 x5_1 ∧ Aside0 (laws_lkInts.l0 kq l0 l1 x5_1 = some r) ∧ Aside0 (kq ≤ k) ∧ Drawn0 w w')
  case atStart => exact ⟨(0), z13_8, H', ⟨Nat.le_refl _⟩, z13_9⟩
  case round =>
   clear H'
   try clear c1
   try clear c3
   try clear c3b0
   try clear c3b1
   try clear c3b2
   obtain ⟨x5_1, rfl, HA, HK1, ⟨m1, rfl⟩⟩ := hrel
   cases gk with
   | zero => exact absurd HA.out (by simp [laws_lkInts.l0])
   | succ k1 =>
    have H := HA.out
    clear HA
    simp only [laws_lkInts.l0] at H
    by_cases c4 : x5_1 < (l0.length : Int)
    ·rw [if_pos c4] at H
     have c4b0 : decide (x5_1 < (l0.length : Int)) = true := decide_eq_true c4
     clear c4
     obtain ⟨c5, H⟩ := ifP H
     have c5b0 : decide (0 ≤ x5_1) = true := decide_eq_true c5
     clear c5
     obtain ⟨c6, H⟩ := ifP H
     have c6b0 : decide (x5_1 < (l1.length : Int)) = true := decide_eq_true c6
     clear c6
     by_cases c7 : (rd l0 x5_1) = (rd l1 x5_1)
     ·rw [if_pos c7] at H
      have c7b0 : ((rd l0 x5_1) == (rd l1 x5_1)) = true := beq_iff_eq.mpr c7
      have c7b1 : ((rd l0 x5_1) != (rd l1 x5_1)) = false := bne_eq_false_iff_eq.mpr c7
      clear c7
      have H' := Aside0.mk H
      clear H
      have p458 : 0 ≤ (x5_1 : Int) := of_decide_eq_true z13_5
      have q458 : x5_1 < (l0.length : Int) := of_decide_eq_true z13_5
      obtain ⟨ad458, e458, hx458_0⟩ := Kd.at_int HR0.out x5_1 p458 q458
      cases e458
      replace p458 := eq_true p458
      replace q458 := eq_true q458
      have p459 : 0 ≤ (x5_1 : Int) := of_decide_eq_true z13_5
      have q459 : x5_1 < (l1.length : Int) := of_decide_eq_true z13_5
      obtain ⟨ad459, e459, hx459_0⟩ := Kd.at_int HR1.out x5_1 p459 q459
      cases e459
      replace p459 := eq_true p459
      replace q459 := eq_true q459
      go_wp2
      repeat (go_quiet (fail); try go_wp2)
      go_roundg k1
      case measure => have := HK1.out; omega
      case rel => exact ⟨(wrap64 (x5_1 + 1)), z13_8, H', ⟨by have := HK1.out; omega⟩, z13_9⟩
     ·rw [if_neg c7] at H
      have c7b0 : ((rd l0 x5_1) == (rd l1 x5_1)) = false := beq_eq_false_iff_ne.mpr c7
      have c7b1 : ((rd l0 x5_1) != (rd l1 x5_1)) = true := bne_iff_ne.mpr c7
      obtain rfl := Option.some.inj H
      have p458 : 0 ≤ (x5_1 : Int) := of_decide_eq_true z13_5
      have q458 : x5_1 < (l0.length : Int) := of_decide_eq_true z13_5
      obtain ⟨ad458, e458, hx458_0⟩ := Kd.at_int HR0.out x5_1 p458 q458
      cases e458
      replace p458 := eq_true p458
      replace q458 := eq_true q458
      have p459 : 0 ≤ (x5_1 : Int) := of_decide_eq_true z13_5
      have q459 : x5_1 < (l1.length : Int) := of_decide_eq_true z13_5
      obtain ⟨ad459, e459, hx459_0⟩ := Kd.at_int HR1.out x5_1 p459 q459
      cases e459
      replace p459 := eq_true p459
      replace q459 := eq_true q459
      go_wp2
      repeat (go_quiet (fail); try go_wp2)
      go_ret
      exact ⟨z13_8, z13_9⟩
    ·rw [if_neg c4] at H
     have c4b0 : decide (x5_1 < (l0.length : Int)) = false := decide_eq_false c4
     clear c4
     obtain rfl := Option.some.inj H
     go_wp2
     repeat (go_quiet (fail); try go_wp2)
     go_ret
     exact ⟨z13_8, z13_9⟩
 ·rw [if_neg c3] at H
  have c3b0 : ((l0.length : Int) == (l1.length : Int)) = false := beq_eq_false_iff_ne.mpr c3
  have c3b1 : ((l0.length : Int) != (l1.length : Int)) = true := bne_iff_ne.mpr c3
  have c3b2 : (l0.length == l1.length) = false := by first | simpa using c3 | (simp at c3 ⊢; omega)
  obtain rfl := Option.some.inj H
  go_enter Try.func37, Try.ntmps37
  go_wp2
  repeat (go_quiet (fail); try go_wp2)
  go_ret
  exact ⟨z13_8, z13_9⟩

end Go.Proofs.Ytbhmgbeebhmfkaa.PA
