-- Written by a program of this session (after the manner of the kit's print, several laws in one text).
import Derived.Test.YtbhmgbeebhmfkaaHp
import Derived.Test.YtbhmgbeebhmfkaaPAx0
import Derived.Test.YtbhmgbeebhmfkaaPAx2
import Derived.Test.YtbhmgbeebhmfkaaPAx9
import Derived.Test.YtbhmgbeebhmfkaaPAx10
import Derived.Test.YtbhmgbeebhmfkaaGw
import Derived.Test.YtbhmgbeebhmfkaaGm
import Derived.Test.YtbhmgbeebhmfkaaHt
namespace Go.Proofs.Ytbhmgbeebhmfkaa.PA
open Go.RowKit Go.Proofs.YtbhmgbeebhmfkaaW.PrintWords Go.Proofs.YtbhmgbeebhmfkaaW.PrintLast Go.Proofs.YtbhmgbeebhmfkaaW.PrintMore
attribute [local go_sem] max2_int min2_int max_two min_two max_three min_three max_four min_four   -- for this text's walks alone
set_option linter.unusedVariables false
set_option linter.unusedSimpArgs false

-- BREAK
-- GIVEN: function 48 (spec_l3Tidy)

/-! ### spec_SpanTidy: function 33 -/
theorem zL12 {p q : Prop} (h : q) (t : q → p := by intro h_; (with_reducible repeat first|refine blk_drewN ?_ _|refine blk_drew ?_|refine blk_alloc ?_ _); exact h_) : p := t h
theorem z12_1 {p : Prop} (h : p := by repeat (first | (with_reducible first | exact HB.out | apply below_alloc | apply pw_below_drewN | apply below_drew1) | exact HB.out)) : p := h
theorem z12_2 {p : Prop} (h : p := by (try simp only [List.map_toArray, List.map_cons, List.map_nil]); first | done | rfl | (simp only [List.length_drop, List.length_take]; rfl)) : p := h
theorem z12_3 {p : Prop} (h : p := by repeat (first | (with_reducible first | exact HB.out | apply below_alloc | apply pw_below_drewN | apply below_drew1 | refine below_set ?_ GE445.out) | exact HB.out)) : p := h
theorem z12_4 {p : Prop} (h : p := by (with_reducible repeat (first | apply Kd.R_alloc | apply Kd.R_drewN | apply Kd.R_drew)); exact HO_5.out) : p := h
theorem z12_5 {p : Prop} (h : p := by (with_reducible repeat (first | apply Kd.R_alloc | apply Kd.R_drewN | apply Kd.R_drew)); exact HO437.out) : p := h
theorem z12_6 {p : Prop} (h : p := by (with_reducible repeat (first | apply Kd.R_alloc | apply Kd.R_drewN | apply Kd.R_drew)); exact HO_19.out) : p := h
theorem z12_7 {p : Prop} (h : p := by first | (with_reducible assumption) | assumption) : p := h
def spec_SpanTidy.f (k : Nat) (l0 : List (List Int)) : Option ((List (List Int))) := (spec_SpanOk.f k l0).bind fun t427 => (if t427 = true then ((spec_l3Tidy.f l0).bind fun t428 => (some t428)) else (some (([] : List (List Int)))))
set_option maxHeartbeats 8000000 in
set_option maxRecDepth 100000 in
theorem spec_SpanTidy.calls (k : Nat) (A0 : Option Addr) (c0 : Nat) (l0 : List (List Int)) (r : List (List Int)) (w : World) (hr0 : Kd.C (Kd.slice 3 (Kd.int .i64)) w A0 l0.length l0) (hc0 : l0.length ≤ c0) (h : spec_SpanTidy.f k l0 = some r) :
  Calls Try.prog 33 #[.slice A0 l0.length c0] w fun e w' => ∃ v0_ : Value, e = .returned (v0_) ∧ Kd.R (Kd.slice 3 (Kd.int .i64)) 28 w' w.heap.size (fun _ => True) v0_ r ∧ Below w.heap.size w w' := by
 have HR0 := Aside0.mk hr0
 have HC0 := Aside0.mk hc0
 clear hr0 hc0
 have HB := Aside0.mk (Below.refl w.heap.size w)
 have H : ((spec_SpanOk.f k l0).bind fun t427 => (if t427 = true then ((spec_l3Tidy.f l0).bind fun t428 => (some t428)) else (some (([] : List (List Int)))))) = some r := h
 clear h
 replace H := Option.bind_eq_some_iff.mp H
 obtain ⟨t427, A20, H⟩ := H
 replace H : (if t427 = true then ((spec_l3Tidy.f l0).bind fun t428 => (some t428)) else (some (([] : List (List Int))))) = some r := H
 have A2 := Aside0.mk A20
 clear A20
 by_cases c3 : t427 = true
 ·subst c3
  have H1 : ((spec_l3Tidy.f l0).bind fun t428 => (some t428)) = some r := by rw [if_pos rfl] at H; exact H
  clear H
  have H := H1
  clear H1
  replace H := Option.bind_eq_some_iff.mp H
  obtain ⟨t428, A40, H⟩ := H
  replace H : (some t428) = some r := H
  have A4 := Aside0.mk A40
  clear A40
  obtain rfl := Option.some.inj H
  go_enter Try.func33, Try.ntmps33
  go_wp2_with (first | ((with_reducible refine gate_callee (f := 38) rfl ?_); refine goesL_ (some 4) rfl rfl Try.func38 (by kernel_rfl) rfl #[.slice A0 l0.length c0] rfl z12_2 ?_; (with_reducible refine (spec_SpanOk.calls k _ _ l0 true _ ?side1 ?side2 A2.out).mono ?_); (case side1 => exact cZ (HR0.out)); (case side2 => exact HC0.out); rintro e w' ⟨rfl, ⟨nd, rfl⟩⟩; refine ⟨_, rfl, ?_⟩) | ((with_reducible refine gate_callee (f := 48) rfl ?_); refine goesL_ (some 8) rfl rfl Try.func48 (by kernel_rfl) rfl #[.slice A0 l0.length c0] rfl z12_2 ?_; (with_reducible refine (spec_l3Tidy.calls _ _ l0 t428 _ ?side1 ?side2 A4.out).mono ?_); (case side1 => exact cZ (HR0.out)); (case side2 => exact HC0.out); rintro e w5 ⟨v429, rfl, ho0, hb⟩; refine ⟨_, rfl, ?_⟩; have HO430 := Aside0.mk (Kd.R_lower ho0 (below_size z12_1)); replace HB := Aside0.mk (below_step z12_1 hb); (try clear hb); (try clear ho0)))
  go_ret
  exact ⟨_, by first | rfl | (simp [errW_none, errW_some] <;> rfl) | (simp [*, errW_none, errW_some] <;> rfl), by (with_reducible repeat (first | apply Kd.R_alloc | apply Kd.R_drewN | apply Kd.R_drew)); exact HO430.out, z12_1⟩
 ·replace c3 := Bool.eq_false_iff.mpr c3
  subst c3
  have H1 : (some (([] : List (List Int)))) = some r := by rw [if_neg (show ¬ (false = true) by decide)] at H; exact H
  clear H
  have H := H1
  clear H1
  obtain ⟨y431, hy431⟩ : ∃ y_ : List (List Int), y_ = (([] : List (List Int))) := ⟨_, rfl⟩
  replace H : (some y431) = some r := by first | (rw [hy431]; with_reducible exact H) | (have H2_ := (Option.bind_some _ _).symm.trans H; rw [hy431]; with_reducible exact H2_) | (have H2_ := (Option.bind_some _ _).symm.trans H; with_reducible exact H2_) | with_reducible exact H | (rw [hy431]; exact H) | exact H
  have Ny431 := Aside0.mk hy431
  clear hy431
  obtain rfl := Option.some.inj H
  go_enter Try.func33, Try.ntmps33
  go_wp2_with (first | ((with_reducible refine gate_callee (f := 38) rfl ?_); refine goesL_ (some 4) rfl rfl Try.func38 (by kernel_rfl) rfl #[.slice A0 l0.length c0] rfl z12_2 ?_; (with_reducible refine (spec_SpanOk.calls k _ _ l0 false _ ?side1 ?side2 A2.out).mono ?_); (case side1 => exact cZ (HR0.out)); (case side2 => exact HC0.out); rintro e w' ⟨rfl, ⟨nd, rfl⟩⟩; refine ⟨_, rfl, ?_⟩) | ((with_reducible refine gate_dst (N := 6) rfl ?_); refine Kd.R_lit (Kd.slice 3 (Kd.int .i64)) _ 28 ?hg (N := 6) ?hd (xs := ([] : List (List Int))) (inner := []) (ok := fun _ => True) (okp := fun _ => True) ?hr ?hp (fun _ hk => hk) trivial (Below.refl _ _) (Nat.le_refl _) (by simp) ?_; (case hd => rfl); (case hg => rfl); (case hr => first | (go_simp; done) | (go_simp; rfl)); (case hp => exact (Reps.none _ _)); intro v432 w6 ho7 hb hg_ hnew_; clear hg_ hnew_; (first | rw [← Ny431.out] at ho7 | (simp only [Int.reduceToNat] at ho7; rw [← Ny431.out] at ho7)); have HO433 := Aside0.mk (Kd.R_lower ho7 (below_size z12_1)); replace HB := Aside0.mk (below_step z12_1 hb); clear hb ho7))
  go_ret
  exact ⟨_, by first | rfl | (simp [errW_none, errW_some] <;> rfl) | (simp [*, errW_none, errW_some] <;> rfl), by (with_reducible repeat (first | apply Kd.R_alloc | apply Kd.R_drewN | apply Kd.R_drew)); exact HO433.out, z12_1⟩

-- GIVEN: function 61 (impl_vector_list)

-- NOT PRINTED: function 62 (slices_Clip_int_int)

/-! ### impl_SpanTidy: function 34 -/
def impl_SpanTidy.l0 : Nat → List (List Int) → List (S59) → Int → Int → Option ((List (List Int)))
  | 0, _, _, _, _ => none
  | k + 1, x5, x19, x20, x21 => if x21 < x20 then (if 0 ≤ x21 then (if x21 < (x19.length : Int) then ((impl_vector_list.f ((rd_T59 x19 x21).f0) ((rd_T59 x19 x21).f1) ((rd_T59 x19 x21).f2) ((rd_T59 x19 x21).f3)).bind fun t446 => (if x5.length < 5864062014805 then (impl_SpanTidy.l0 k (x5 ++ [t446]) x19 x20 (wrap64 (x21 + 1))) else (none))) else (none)) else (none)) else (some x5)
def impl_SpanTidy.f (k : Nat) (l0 : List (List Int)) : Option ((List (List Int))) := (impl_matrixOf.f k l0).bind fun bt434 => (if bt434.2 = true then (if 0 ≤ (l0.length : Int) then (if ((l0.length : Int) : Int).toNat ≤ 11728124029610 then ((impl_tidy.f k bt434.1).bind fun t441 => (impl_SpanTidy.l0 k (([] : List (List Int))) t441 (t441.length : Int) 0)) else (none)) else (none)) else (some ([] : List (List Int))))
set_option maxHeartbeats 8000000 in
set_option maxRecDepth 100000 in
theorem impl_SpanTidy.calls (k : Nat) (A0 : Option Addr) (c0 : Nat) (l0 : List (List Int)) (r : List (List Int)) (w : World) (hr0 : Kd.C (Kd.slice 3 (Kd.int .i64)) w A0 l0.length l0) (hc0 : l0.length ≤ c0) (h : impl_SpanTidy.f k l0 = some r) :
  Calls Try.prog 34 #[.slice A0 l0.length c0] w fun e w' => ∃ v0_ : Value, e = .returned (clip v0_) ∧ Kd.R (Kd.slice 3 (Kd.int .i64)) 28 w' w.heap.size (fun _ => True) v0_ r ∧ Below w.heap.size w w' := by
 have hu59 := Try.underlying59
 have HR0 := Aside0.mk hr0
 have HC0 := Aside0.mk hc0
 clear hr0 hc0
 have HB := Aside0.mk (Below.refl w.heap.size w)
 have H : ((impl_matrixOf.f k l0).bind fun bt434 => (if bt434.2 = true then (if 0 ≤ (l0.length : Int) then (if ((l0.length : Int) : Int).toNat ≤ 11728124029610 then ((impl_tidy.f k bt434.1).bind fun t441 => (impl_SpanTidy.l0 k (([] : List (List Int))) t441 (t441.length : Int) 0)) else (none)) else (none)) else (some ([] : List (List Int))))) = some r := h
 clear h
 replace H := Option.bind_eq_some_iff.mp H
 obtain ⟨⟨t434, t435⟩, A20, H⟩ := H
 replace H : (if t435 = true then (if 0 ≤ (l0.length : Int) then (if ((l0.length : Int) : Int).toNat ≤ 11728124029610 then ((impl_tidy.f k t434).bind fun t441 => (impl_SpanTidy.l0 k (([] : List (List Int))) t441 (t441.length : Int) 0)) else (none)) else (none)) else (some ([] : List (List Int)))) = some r := H
 have A2 := Aside0.mk A20
 clear A20
 by_cases c3 : t435 = true
 ·subst c3
  have H1 : (if 0 ≤ (l0.length : Int) then (if ((l0.length : Int) : Int).toNat ≤ 11728124029610 then ((impl_tidy.f k t434).bind fun t441 => (impl_SpanTidy.l0 k (([] : List (List Int))) t441 (t441.length : Int) 0)) else (none)) else (none)) = some r := by rw [if_pos rfl] at H; exact H
  clear H
  have H := H1
  clear H1
  obtain ⟨c4, H⟩ := ifP H
  have c4b0 := eq_true c4
  have c4b1 : decide (0 ≤ (l0.length : Int)) = true := decide_eq_true c4
  clear c4
  obtain ⟨c5, H⟩ := ifP H
  have c5b0 := eq_true c5
  have c5b1 : decide (((l0.length : Int) : Int).toNat ≤ 11728124029610) = true := decide_eq_true c5
  clear c5
  obtain ⟨y438, hy438⟩ : ∃ y_ : List (List Int), y_ = (([] : List (List Int))) := ⟨_, rfl⟩
  replace H : ((impl_tidy.f k t434).bind fun t441 => (impl_SpanTidy.l0 k y438 t441 (t441.length : Int) 0)) = some r := by first | (rw [hy438]; with_reducible exact H) | (have H2_ := (Option.bind_some _ _).symm.trans H; rw [hy438]; with_reducible exact H2_) | (have H2_ := (Option.bind_some _ _).symm.trans H; with_reducible exact H2_) | with_reducible exact H | (rw [hy438]; exact H) | exact H
  have Ny438 := Aside0.mk hy438
  clear hy438
  replace H := Option.bind_eq_some_iff.mp H
  obtain ⟨t441, A60, H⟩ := H
  replace H : (impl_SpanTidy.l0 k y438 t441 (t441.length : Int) 0) = some r := H
  have A6 := Aside0.mk A60
  clear A60
  have H' := Aside0.mk H
  clear H
  go_enter Try.func34, Try.ntmps34
  go_wp2_with (first | ((with_reducible refine gate_callee (f := 49) rfl ?_); refine goesL_ (some 10) rfl rfl Try.func49 (by kernel_rfl) rfl #[.slice A0 l0.length c0] rfl z12_2 ?_; (with_reducible refine (impl_matrixOf.calls k _ _ l0 t434 true _ ?side1 ?side2 A2.out).mono ?_); (case side1 => exact cZ (HR0.out)); (case side2 => exact HC0.out); rintro e w7 ⟨v436, rfl, ho0, hb⟩; refine ⟨_, rfl, ?_⟩; have HO437 := Aside0.mk (Kd.R_lower ho0 (below_size z12_1)); replace HB := Aside0.mk (below_step z12_1 hb); (try clear hb); (try clear ho0)) | ((with_reducible refine gate_dst (N := 17) rfl ?_); refine R_make0 (Kd.slice 3 (Kd.int .i64)) _ 28 rfl (N := 17) rfl 22 _ _ rfl (l0.length : Int) rfl rfl Try.underlying22 (.slice none 0 0) 24 info28 (by decide) (ok := fun _ => True) (okp := fun _ => True) (fun _ hk => hk) trivial (of_decide_eq_true z12_7) (Nat.le_trans (Nat.mul_le_mul_right _ (of_decide_eq_true z12_7 : (l0.length : Int).toNat ≤ 11728124029610)) (by omega)) (Below.refl _ _) (Nat.le_refl _) ?_; intro v439 w8 ho9 hb hg_ hnew_; clear hg_ hnew_; (first | rw [← Ny438.out] at ho9 | (simp only [Int.reduceToNat] at ho9; rw [← Ny438.out] at ho9)); replace HO437 := Aside0.mk (Kd.R_below z12_5 hb); have HO440 := Aside0.mk (Kd.R_lower ho9 (below_size z12_1)); replace HB := Aside0.mk (below_step z12_1 hb); clear hb ho9; obtain ⟨Ao10, co10, eo10⟩ := Kd.R_slice HO437.out; subst eo10) | ((with_reducible refine gate_callee (f := 60) rfl ?_); refine goesL_ (some 19) rfl rfl Try.func60 (by kernel_rfl) rfl #[.slice Ao10 t434.length co10] rfl z12_2 ?_; (with_reducible refine (impl_tidy.calls k _ _ t434 t441 _ ?side1 ?side2 A6.out).mono ?_); (case side1 => exact cZ ((Kd.R_reads' HO437.out).2.2)); (case side2 => exact (Kd.R_reads' HO437.out).2.1); rintro e w11 ⟨v442, rfl, ho0, hb⟩; refine ⟨_, rfl, ?_⟩; replace HO440 := Aside0.mk (Kd.R_below (by (with_reducible repeat (first | apply Kd.R_alloc | apply Kd.R_drewN | apply Kd.R_drew)); exact HO440.out) hb); have HO443 := Aside0.mk (Kd.R_lower (Kd.R_new' ho0 (Kd.R_lt z12_5)) (below_size z12_1)); replace HO437 := Aside0.mk (Kd.R_elder' z12_5 (Kd.R_base ho0) hb); replace HB := Aside0.mk (below_step z12_1 hb); (try clear hb); (try clear ho0); obtain ⟨Ao12, co12, eo12⟩ := Kd.R_slice HO443.out; subst eo12))
  go_loopg [5, 21] k (fun kq v5 v21 w' => ∃ (x5_1 : List (List Int)) (x21_1 : Int), v21 = .int .i64 x21_1 ∧ Aside0 (impl_SpanTidy.l0 kq x5_1 t441 (t441.length : Int) x21_1 = some r) ∧ Aside0 (kq ≤ k) ∧ Aside0 (Kd.R (Kd.slice 3 (Kd.int .i64)) 28 w' w.heap.size (fun _ => True) v5 x5_1) ∧ Aside0 (Kd.R k59 59 w' w.heap.size (fun _ => True) (.slice Ao12 t441.length co12) t441) ∧ Aside0 (Below w.heap.size w w'))
  case atStart => exact ⟨(y438), (0), (by first | rfl | (simp; done) | (simp [*]; done)), H', ⟨Nat.le_refl _⟩, ⟨by (with_reducible repeat (first | apply Kd.R_alloc | apply Kd.R_drewN | apply Kd.R_drew)); exact HO440.out⟩, ⟨by (with_reducible repeat (first | apply Kd.R_alloc | apply Kd.R_drewN | apply Kd.R_drew)); exact Kd.R_mono HO443.out (fun _ hk => trivial)⟩, ⟨z12_1⟩⟩
  case round =>
   clear H'
   try clear c3
   try clear c4
   try clear c4b0
   try clear c4b1
   try clear c5
   try clear c5b0
   try clear c5b1
   obtain ⟨x5_1, x21_1, rfl, HA, HK1, HO_5, HO_19, HB⟩ := hrel
   cases gk with
   | zero => exact absurd HA.out (by simp [impl_SpanTidy.l0])
   | succ k1 =>
    have H := HA.out
    clear HA
    simp only [impl_SpanTidy.l0] at H
    by_cases c13 : x21_1 < (t441.length : Int)
    ·rw [if_pos c13] at H
     have c13b0 : decide (x21_1 < (t441.length : Int)) = true := decide_eq_true c13
     clear c13
     obtain ⟨c14, H⟩ := ifP H
     have c14b0 : decide (0 ≤ x21_1) = true := decide_eq_true c14
     clear c14
     obtain ⟨c15, H⟩ := ifP H
     have c15b0 : decide (x21_1 < (t441.length : Int)) = true := decide_eq_true c15
     clear c15
     replace H := Option.bind_eq_some_iff.mp H
     obtain ⟨t446, A160, H⟩ := H
     replace H : (if x5_1.length < 5864062014805 then (impl_SpanTidy.l0 k1 (x5_1 ++ [t446]) t441 (t441.length : Int) (wrap64 (x21_1 + 1))) else (none)) = some r := H
     have A16 := Aside0.mk A160
     clear A160
     obtain ⟨c17, H⟩ := ifP H
     have LMc17 := Aside0.mk c17
     clear c17
     obtain ⟨y449, hy449⟩ : ∃ y_ : List (List Int), y_ = (x5_1 ++ [t446]) := ⟨_, rfl⟩
     replace H : (impl_SpanTidy.l0 k1 y449 t441 (t441.length : Int) (wrap64 (x21_1 + 1))) = some r := by first | (rw [hy449]; with_reducible exact H) | (have H2_ := (Option.bind_some _ _).symm.trans H; rw [hy449]; with_reducible exact H2_) | (have H2_ := (Option.bind_some _ _).symm.trans H; with_reducible exact H2_) | with_reducible exact H | (rw [hy449]; exact H) | exact H
     have Ny449 := Aside0.mk hy449
     clear hy449
     have H' := Aside0.mk H
     clear H
     have p444 : 0 ≤ (x21_1 : Int) := of_decide_eq_true z12_7
     have q444 : x21_1 < (t441.length : Int) := of_decide_eq_true z12_7
     obtain ⟨ad444, e444, hx444_0, hx444_1, hx444_2, hx444_3⟩ := at_T59 (Kd.R_reads' HO_19.out).2.2 x21_1 p444 q444
     cases e444
     replace p444 := eq_true p444
     replace q444 := eq_true q444
     go_wp2_with (first | ((with_reducible refine gate_dst (N := 7) rfl ?_); refine box_event ?hg (N := 7) ?hd (cs := #[.int .i64 0, .int .i64 0, .int .i64 0, .int .i64 0]) (t := 59) ?hr ?_; (case hd => rfl); (case hg => rfl); (case hr => first | (go_simp; done) | (go_simp; rfl)); intro gb445 hg w18 hbox hb; replace HO_5 := Aside0.mk (Kd.R_below z12_4 hb); replace HO_19 := Aside0.mk (Kd.R_below (Kd.R_elderB z12_6 gb445 (Nat.le_of_eq hg.symm)) hb); have BK445 := Aside0.mk (hbox); have GW445 := Aside0.mk ((by rw [hg]; exact (below_size z12_1) : w.heap.size ≤ gb445)); have GE445 := Aside0.mk ((by rw [hg]; exact (below_size z12_1) : w.heap.size ≤ gb445)); replace HB := Aside0.mk (below_step z12_1 hb); clear hb hbox hg; have hcz19_0 : w18.cell? ⟨gb445, 0, none⟩ = some (.int .i64 0) := (blk_cell BK445.out 0).trans rfl; have hfz19_0 := blk_frozen BK445.out 0; have hcz20_1 : w18.cell? ⟨gb445, 1, none⟩ = some (.int .i64 0) := (blk_cell BK445.out 1).trans rfl; have hfz20_1 := blk_frozen BK445.out 1; have hcz21_2 : w18.cell? ⟨gb445, 2, none⟩ = some (.int .i64 0) := (blk_cell BK445.out 2).trans rfl; have hfz21_2 := blk_frozen BK445.out 2; have hcz22_3 : w18.cell? ⟨gb445, 3, none⟩ = some (.int .i64 0) := (blk_cell BK445.out 3).trans rfl; have hfz22_3 := blk_frozen BK445.out 3) | ((with_reducible refine gate_store (t := 59) (p := 7) rfl ?_); refine store_event (t := 59) (p := 7) (v := ?vo_w23) (w1 := ((((w18.setCell ⟨gb445, 0, none⟩ (.int .i64 ((rd_T59 t441 x21_1).f0))).setCell ⟨gb445, 1, none⟩ (.int .i64 ((rd_T59 t441 x21_1).f1))).setCell ⟨gb445, 2, none⟩ (.int .i64 ((rd_T59 t441 x21_1).f2))).setCell ⟨gb445, 3, none⟩ (.int .i64 ((rd_T59 t441 x21_1).f3)))) ?hg ?ho ?hn ?hr ?_; (case ho => rfl); (case hg => rfl); (case hn => rfl); (case hr => first | (go_simp; done) | (go_simp; rfl)); intro w23 hw; have n0_ : Aside0 (Kd.R (Kd.slice 3 (Kd.int .i64)) 28 w23 w.heap.size (fun _ => True) u5 x5_1) := ⟨(by rw [hw]; exact (by (with_reducible repeat (first | apply Kd.R_alloc | apply Kd.R_drewN | apply Kd.R_drew)); exact Kd.R_mono (Kd.R_far (p := ⟨gb445, 3, none⟩) (Kd.R_far (p := ⟨gb445, 2, none⟩) (Kd.R_far (p := ⟨gb445, 1, none⟩) (Kd.R_far (p := ⟨gb445, 0, none⟩) (Kd.R_types HO_5.out BK445.out (by decide)) (fun _ hk => hk.2) (.int .i64 ((rd_T59 t441 x21_1).f0))) (fun _ hk => hk.2) (.int .i64 ((rd_T59 t441 x21_1).f1))) (fun _ hk => hk.2) (.int .i64 ((rd_T59 t441 x21_1).f2))) (fun _ hk => hk.2) (.int .i64 ((rd_T59 t441 x21_1).f3))) (fun _ hk => trivial)))⟩; have n1_ : Aside0 (Kd.R k59 59 w23 w.heap.size (fun k_ => k_ ≠ gb445) (.slice (some ad444) t441.length co12) t441) := ⟨(by rw [hw]; exact (by (with_reducible repeat (first | apply Kd.R_alloc | apply Kd.R_drewN | apply Kd.R_drew)); exact Kd.R_mono (Kd.R_far (p := ⟨gb445, 3, none⟩) (Kd.R_far (p := ⟨gb445, 2, none⟩) (Kd.R_far (p := ⟨gb445, 1, none⟩) (Kd.R_far (p := ⟨gb445, 0, none⟩) (Kd.R_mono HO_19.out (fun k_ hk => (⟨hk, hk.2⟩ : _ ∧ k_ ≠ gb445))) (fun _ hk => hk.2) (.int .i64 ((rd_T59 t441 x21_1).f0))) (fun _ hk => hk.2) (.int .i64 ((rd_T59 t441 x21_1).f1))) (fun _ hk => hk.2) (.int .i64 ((rd_T59 t441 x21_1).f2))) (fun _ hk => hk.2) (.int .i64 ((rd_T59 t441 x21_1).f3))) (fun _ hk => hk.1.2)))⟩; have n2_ : Aside0 (w23.heap[gb445]? = some (.cells #[.int .i64 ((rd_T59 t441 x21_1).f0), .int .i64 ((rd_T59 t441 x21_1).f1), .int .i64 ((rd_T59 t441 x21_1).f2), .int .i64 ((rd_T59 t441 x21_1).f3)] 59 (0, 0))) := ⟨(by rw [hw]; exact (bZ BK445.out))⟩; have n3_ : Aside0 (Below w.heap.size w w23) := ⟨(by rw [hw]; exact z12_3)⟩; clear hw; clear HO_5; clear HO_19; clear BK445; clear HB; have HO_5 := n0_; have HO_19 := n1_; have BK445 := n2_; have HB := n3_; clear n0_ n1_ n2_ n3_; have hcz24_0 : w23.cell? ⟨gb445, 0, none⟩ = some (.int .i64 ((rd_T59 t441 x21_1).f0)) := (blk_cell BK445.out 0).trans rfl; have hcz24_1 : w23.cell? ⟨gb445, 1, none⟩ = some (.int .i64 ((rd_T59 t441 x21_1).f1)) := (blk_cell BK445.out 1).trans rfl; have hcz24_2 : w23.cell? ⟨gb445, 2, none⟩ = some (.int .i64 ((rd_T59 t441 x21_1).f2)) := (blk_cell BK445.out 2).trans rfl; have hcz24_3 : w23.cell? ⟨gb445, 3, none⟩ = some (.int .i64 ((rd_T59 t441 x21_1).f3)) := (blk_cell BK445.out 3).trans rfl; have hfz24_0 := blk_frozen BK445.out 0; have hfz24_1 := blk_frozen BK445.out 1; have hfz24_2 := blk_frozen BK445.out 2; have hfz24_3 := blk_frozen BK445.out 3) | ((with_reducible refine gate_callee (f := 61) rfl ?_); refine goesL_ (some 27) rfl rfl Try.func61 (by kernel_rfl) rfl #[.agg #[.int .i64 ((rd_T59 t441 x21_1).f0), .int .i64 ((rd_T59 t441 x21_1).f1), .int .i64 ((rd_T59 t441 x21_1).f2), .int .i64 ((rd_T59 t441 x21_1).f3)]] rfl z12_2 ?_; (with_reducible refine (impl_vector_list.calls ((rd_T59 t441 x21_1).f0) ((rd_T59 t441 x21_1).f1) ((rd_T59 t441 x21_1).f2) ((rd_T59 t441 x21_1).f3) t446 _ A16.out).mono ?_); rintro e w25 ⟨v447, rfl, ho0, hb⟩; refine ⟨_, rfl, ?_⟩; replace HO_5 := Aside0.mk (Kd.R_elder' z12_4 (Kd.R_base ho0) hb); replace HO_19 := Aside0.mk (Kd.R_below z12_6 hb); have HO448 := Aside0.mk (Kd.R_lower ho0 (below_size z12_3)); replace BK445 := Aside0.mk (blk_below (g := gb445) (o := .cells #[.int .i64 ((rd_T59 t441 x21_1).f0), .int .i64 ((rd_T59 t441 x21_1).f1), .int .i64 ((rd_T59 t441 x21_1).f2), .int .i64 ((rd_T59 t441 x21_1).f3)] 59 (0, 0)) (zL12 BK445.out) hb); replace HB := Aside0.mk (below_step z12_3 hb); (try clear hb); (try clear ho0); obtain ⟨Ao27, co27, eo27⟩ := Kd.R_slice HO448.out; subst eo27) | ((with_reducible refine gate_builtin (b := .append) (xs := #[.tmp 25, .tmp 28]) rfl ?_); at_builtin; refine Kd.R_append (Kd.slice 3 (Kd.int .i64)) (w0 := w) w.heap.size rfl (.tmp 25) (.tmp 28) 22 28 (.slice none 0 0) 24 rfl Try.underlying22 info28 rfl (by decide) (by omega) u5 x5_1 t446 [.slice Ao27 t446.length co27] (fun _ => True) (fun k_ => ((fun _ => True)) k_ ∧ some k_ ≠ (u5 : Value).ownBlock) rfl rfl ?aP (fun _ hk => hk) ?aF ?aO ?aB ?aS ?aL ?_; (case aP => exact Kd.M_row (Kd.R_mono (Kd.R_apart' (HO448.out) (Kd.R_typed HO_5.out) (by decide)) (fun k_ hk => ⟨trivial, hk.2⟩))); (case aB => exact z12_3); (case aF => exact (fun _ _ => trivial)); (case aO => exact (by (with_reducible repeat (first | apply Kd.R_alloc | apply Kd.R_drewN | apply Kd.R_drew)); exact Kd.R_mono HO_5.out (fun _ hk => trivial))); (case aS => exact (below_size z12_3)); (case aL => have := LMc17.out; omega); intro v450 w26 ho hb hg hat; rw [← Ny449.out] at ho; have n0_ := Aside0.mk (Kd.R_over' z12_6 (Kd.R_typed z12_4) (by decide) hg); have n1_ := Aside0.mk (blk_grown (g := gb445) (o := .cells #[.int .i64 ((rd_T59 t441 x21_1).f0), .int .i64 ((rd_T59 t441 x21_1).f1), .int .i64 ((rd_T59 t441 x21_1).f2), .int .i64 ((rd_T59 t441 x21_1).f3)] 59 (0, 0)) (zL12 BK445.out) hg (Kd.R_ne HO_5.out BK445.out (by decide))); have n2_ := Aside0.mk (hb); have n3_ := Aside0.mk (ho); clear HO_19; clear BK445; clear HB; clear HO_5; clear HO448; have HO_19 := n0_; have BK445 := n1_; have HB := n2_; have HO451 := n3_; clear n0_ n1_ n2_ n3_; clear ho hb hg hat))
     go_roundg k1
     case measure => have := HK1.out; omega
     case rel => exact ⟨(y449), (wrap64 (x21_1 + 1)), (by first | rfl | (simp; done) | (simp [*]; done)), H', ⟨by have := HK1.out; omega⟩, ⟨by (with_reducible repeat (first | apply Kd.R_alloc | apply Kd.R_drewN | apply Kd.R_drew)); exact HO451.out⟩, ⟨by (with_reducible repeat (first | apply Kd.R_alloc | apply Kd.R_drewN | apply Kd.R_drew)); exact Kd.R_mono HO_19.out (fun _ hk => trivial)⟩, ⟨z12_3⟩⟩
    ·rw [if_neg c13] at H
     have c13b0 : decide (x21_1 < (t441.length : Int)) = false := decide_eq_false c13
     clear c13
     obtain rfl := Option.some.inj H
     obtain ⟨AoC, coC, eoC⟩ := Kd.R_slice HO_5.out
     subst eoC
     go_wp2_with ((with_reducible refine gate_callee (f := 62) rfl ?_); refine goesL_ (some 32) rfl rfl Try.func62 (by kernel_rfl) rfl #[.slice AoC x5_1.length coC] rfl (by (try simp only [List.map_toArray, List.map_cons, List.map_nil]); first | done | rfl) ?_; (with_reducible refine (slices_Clip_rows.calls _ _ _ ?side1 _).mono ?_); (case side1 => exact (Kd.R_reads' HO_5.out).2.1); rintro e wC ⟨rfl, hbC⟩; refine ⟨_, rfl, ?_⟩; have HOC := Aside0.mk (Kd.R_below z12_4 hbC); have HBC := Aside0.mk (below_step z12_1 hbC); clear hbC HB HO_5; have HB := HBC)
     go_ret
     exact ⟨.slice AoC x5_1.length coC, by rfl, by (with_reducible repeat (first | apply Kd.R_alloc | apply Kd.R_drewN | apply Kd.R_drew)); exact HOC.out, z12_1⟩
 ·replace c3 := Bool.eq_false_iff.mpr c3
  subst c3
  have H1 : (some ([] : List (List Int))) = some r := by rw [if_neg (show ¬ (false = true) by decide)] at H; exact H
  clear H
  have H := H1
  clear H1
  obtain rfl := Option.some.inj H
  go_enter Try.func34, Try.ntmps34
  go_wp2_with (first | ((with_reducible refine gate_callee (f := 49) rfl ?_); refine goesL_ (some 10) rfl rfl Try.func49 (by kernel_rfl) rfl #[.slice A0 l0.length c0] rfl z12_2 ?_; (with_reducible refine (impl_matrixOf.calls k _ _ l0 t434 false _ ?side1 ?side2 A2.out).mono ?_); (case side1 => exact cZ (HR0.out)); (case side2 => exact HC0.out); rintro e w28 ⟨v436, rfl, ho0, hb⟩; refine ⟨_, rfl, ?_⟩; have HO437 := Aside0.mk (Kd.R_lower ho0 (below_size z12_1)); replace HB := Aside0.mk (below_step z12_1 hb); (try clear hb); (try clear ho0)))
  go_ret
  exact ⟨.slice none 0 0, by rfl, by first | exact Kd.R_nil _ _ _ _ _ | exact Kd.N_nil _ _ _ _ _ | exact Kd.V_nil _ _ _ _ _ | exact Kd.Q_nil _ _ _ _ _ | exact Kd.S_nil _ _ _ _ _, z12_1⟩

end Go.Proofs.Ytbhmgbeebhmfkaa.PA
