-- Written by a program of this session (after the manner of the kit's print, several laws in one text).
import Derived.Test.YtbhmgbeebhmfkaaPAx0
import Derived.Test.YtbhmgbeebhmfkaaPAx2
import Derived.Test.YtbhmgbeebhmfkaaPAx13
import Derived.Test.YtbhmgbeebhmfkaaPAx15
import Derived.Test.YtbhmgbeebhmfkaaPAx16
import Derived.Test.YtbhmgbeebhmfkaaPAx26
import Derived.Test.YtbhmgbeebhmfkaaPAx28
import Derived.Test.YtbhmgbeebhmfkaaGw
import Derived.Test.YtbhmgbeebhmfkaaGm
namespace Go.Proofs.Ytbhmgbeebhmfkaa.PA
open Go.RowKit Go.Proofs.YtbhmgbeebhmfkaaW.PrintWords Go.Proofs.YtbhmgbeebhmfkaaW.PrintLast Go.Proofs.YtbhmgbeebhmfkaaW.PrintMore
attribute [local go_sem] max2_int min2_int max_two min_two max_three min_three max_four min_four   -- for this text's walks alone
set_option linter.unusedVariables false
set_option linter.unusedSimpArgs false

/-! ### laws_FnSpanHas: function 12 -/
theorem z37_0 {p : Prop} (h : p := by repeat (first | (with_reducible first | exact HB.out | apply below_alloc | apply pw_below_drewN | apply below_drew1) | exact HB.out)) : p := h
theorem z37_1 {p : Prop} (h : p := by (try simp only [List.map_toArray, List.map_cons, List.map_nil]); first | done | rfl | (simp only [List.length_drop, List.length_take]; rfl)) : p := h
theorem z37_2 {p : Prop} (h : p := by (with_reducible repeat (first | apply Kd.R_alloc | apply Kd.R_drewN | apply Kd.R_drew)); exact HO_10.out) : p := h
theorem z37_3 {p : Prop} (h : p := by (with_reducible repeat (first | apply Kd.N_alloc | apply Kd.N_drewN | apply Kd.N_drew)); exact HO_5.out) : p := h
theorem z37_4 {p : Prop} (h : p := by (with_reducible repeat (first | apply Kd.N_alloc | apply Kd.N_drewN | apply Kd.N_drew)); exact HO646.out) : p := h
theorem z37_5 {p : Prop} (h : p := by (with_reducible repeat (first | apply Kd.Q_alloc | apply Kd.Q_drewN | apply Kd.Q_drew)); exact HO649.out) : p := h
theorem z37_6 {p : Prop} (h : p := by (with_reducible repeat (first | apply Kd.R_alloc | apply Kd.R_drewN | apply Kd.R_drew)); exact HO668.out) : p := h
theorem z37_7 {p : Prop} (h : p := by (with_reducible repeat (first | apply Kd.Q_alloc | apply Kd.Q_drewN | apply Kd.Q_drew)); exact HO_6.out) : p := h
theorem z37_8 {p : Prop} (h : p := by first | rfl | (simp [errW_none, errW_some] <;> rfl) | (simp [*, errW_none, errW_some] <;> rfl)) : p := h
theorem z37_9 {p : Prop} (h : p := by first | rfl | (simp; done) | (simp [*]; done)) : p := h
theorem z37_10 {p : Prop} (h : p := by (with_reducible repeat (first | apply Kd.N_alloc | apply Kd.N_drewN | apply Kd.N_drew)); exact Kd.N_mono HO_5.out (fun _ hk => hk.2)) : p := h
mutual
def laws_FnSpanHas.j0 : Nat → List Int → List Int → Bool → Option (Bool)
  | 0, _, _, _ => none
  | k + 1, x0, x1, x19 => if x19 = true then (some true) else ((spec_DrawSpanHas.f k x0).bind fun bt644 => ((impl_SpanHas.f k bt644.1 bt644.2).bind fun t650 => ((spec_SpanHas.f k bt644.1 bt644.2).bind fun t651 => (if (t650 != t651) = true then (laws_FnSpanHas.j1 k x1 bt644.1 bt644.2 t650 true) else ((spec_SpanOk.f k bt644.1).bind fun t652 => (if t652 = true then ((spec_VecOk.f k bt644.2).bind fun t653 => (laws_FnSpanHas.j1 k x1 bt644.1 bt644.2 t650 (!t653))) else (laws_FnSpanHas.j1 k x1 bt644.1 bt644.2 t650 true)))))))
def laws_FnSpanHas.j1 : Nat → List Int → List (List Int) → List Int → Bool → Bool → Option (Bool)
  | 0, _, _, _, _, _ => none
  | k + 1, x1, x5, x6, x7, x42 => if x42 = true then ((spec_SpanHas.f k x5 x6).bind fun t654 => (some (x7 == t654))) else ((impl_SpanBy.f k x5 x6).bind fun bt655 => (laws_FnSpanHas.l0 k x1 x5 x7 bt655.2 (([] : List Int)) 0))
def laws_FnSpanHas.l0 : Nat → List Int → List (List Int) → Bool → Bool → List Int → Int → Option (Bool)
  | 0, _, _, _, _, _, _ => none
  | k + 1, x1, x5, x7, x9, x10, x11 => if x11 < (x5.length : Int) then ((laws_lkNum.f (wrap64 ((x1.length : Int) * (wrap64 (x11 + 2))))).bind fun t662 => (if x10.length < 17592186044416 then (laws_FnSpanHas.l0 k x1 x5 x7 x9 (x10 ++ [t662]) (wrap64 (x11 + 1))) else (none))) else (if (x7 == x9) = true then ((laws_lkMade.f k x5 x10).bind fun t666 => ((impl_SpanHas.f k x5 t666).bind fun t669 => (if t669 = true then ((impl_SpanHas.f k x5 (([0, 0, 0, 0] : List Int))).bind fun t673 => (some t673)) else (some false)))) else (some false))
end
def laws_FnSpanHas.f (k : Nat) (l0 : List Int) (l1 : List Int) : Option (Bool) := if (l0.length : Int) > 1048576 then (laws_FnSpanHas.j0 k l0 l1 true) else (laws_FnSpanHas.j0 k l0 l1 (decide ((l1.length : Int) > 1048576)))
set_option maxHeartbeats 8000000 in
set_option maxRecDepth 100000 in
theorem laws_FnSpanHas.calls (k : Nat) (A0 : Option Addr) (c0 : Nat) (l0 : List Int) (A1 : Option Addr) (c1 : Nat) (l1 : List Int) (r : Bool) (w : World) (hr0 : Kd.C (Kd.int .u8) w A0 l0.length l0) (hc0 : l0.length ≤ c0) (hr1 : Kd.C (Kd.int .u8) w A1 l1.length l1) (hc1 : l1.length ≤ c1) (h : laws_FnSpanHas.f k l0 l1 = some r) :
  Calls Try.prog 12 #[.slice A0 l0.length c0, .slice A1 l1.length c1] w fun e w' => e = .returned (.bool r) ∧ Below w.heap.size w w' := by
 have HR0 := Aside0.mk hr0
 have HC0 := Aside0.mk hc0
 clear hr0 hc0
 have HR1 := Aside0.mk hr1
 have HC1 := Aside0.mk hc1
 clear hr1 hc1
 have HB := Aside0.mk (Below.refl w.heap.size w)
 have H : (if (l0.length : Int) > 1048576 then (laws_FnSpanHas.j0 k l0 l1 true) else (laws_FnSpanHas.j0 k l0 l1 (decide ((l1.length : Int) > 1048576)))) = some r := h
 clear h
 have HC3 := Aside0.mk H
 clear H
 go_enter Try.func12, Try.ntmps12
 go_upto_region 1 with (fail)
 go_cut [19] (fun v19 wc => ∃ (kq : Nat) (x19_2 : Bool), v19 = .bool x19_2 ∧ Aside0 (laws_FnSpanHas.j0 kq l0 l1 x19_2 = some r) ∧ Aside0 (kq ≤ k) ∧ Aside0 (Below w.heap.size w wc))
 case first =>
  have H := HC3.out
  clear HC3
  by_cases c4 : (l0.length : Int) > 1048576
  ·rw [if_pos c4] at H
   have c4b0 : decide (1048576 < (l0.length : Int)) = true := decide_eq_true c4
   have c4b1 : decide (1048576 < l0.length) = true := decide_eq_true (by omega)
   clear c4
   (first | rw [c4b0] | (simp only [i64_w, i32_w]; rw [c4b0]) | skip)
   have H' := Aside0.mk H
   clear H
   go_wp2
   go_meet
   case rel => exact ⟨_, (true), z37_9, H', ⟨by first | omega | exact Nat.le_refl _⟩, ⟨z37_0⟩⟩
  ·rw [if_neg c4] at H
   have c4b0 : decide (1048576 < (l0.length : Int)) = false := decide_eq_false c4
   have c4b1 : decide (1048576 < l0.length) = false := decide_eq_false (by omega)
   clear c4
   (first | rw [c4b0] | (simp only [i64_w, i32_w]; rw [c4b0]) | skip)
   have H' := Aside0.mk H
   clear H
   go_wp2
   go_meet
   case rel => exact ⟨_, (decide ((l1.length : Int) > 1048576)), z37_9, H', ⟨by first | omega | exact Nat.le_refl _⟩, ⟨z37_0⟩⟩
 case rest =>
  clear HC3
  try clear c1
  obtain ⟨kq, x19_2, rfl, HA, HJ2, HB⟩ := hcut
  cases kq with
  | zero => exact absurd HA.out (by simp [laws_FnSpanHas.j0])
  | succ kj2 =>
   have H := HA.out
   clear HA
   simp only [laws_FnSpanHas.j0] at H
   by_cases c5 : x19_2 = true
   ·subst c5
    have H1 : (some true) = some r := by rw [if_pos rfl] at H; exact H
    clear H
    have H := H1
    clear H1
    obtain rfl := Option.some.inj H
    go_wp2
    go_ret
    exact ⟨z37_8, z37_0⟩
   ·replace c5 := Bool.eq_false_iff.mpr c5
    subst c5
    have H1 : ((spec_DrawSpanHas.f kj2 l0).bind fun bt644 => ((impl_SpanHas.f kj2 bt644.1 bt644.2).bind fun t650 => ((spec_SpanHas.f kj2 bt644.1 bt644.2).bind fun t651 => (if (t650 != t651) = true then (laws_FnSpanHas.j1 kj2 l1 bt644.1 bt644.2 t650 true) else ((spec_SpanOk.f kj2 bt644.1).bind fun t652 => (if t652 = true then ((spec_VecOk.f kj2 bt644.2).bind fun t653 => (laws_FnSpanHas.j1 kj2 l1 bt644.1 bt644.2 t650 (!t653))) else (laws_FnSpanHas.j1 kj2 l1 bt644.1 bt644.2 t650 true))))))) = some r := by rw [if_neg (show ¬ (false = true) by decide)] at H; exact H
    clear H
    have H := H1
    clear H1
    replace H := Option.bind_eq_some_iff.mp H
    obtain ⟨⟨t644, t647⟩, A60, H⟩ := H
    replace H : ((impl_SpanHas.f kj2 t644 t647).bind fun t650 => ((spec_SpanHas.f kj2 t644 t647).bind fun t651 => (if (t650 != t651) = true then (laws_FnSpanHas.j1 kj2 l1 t644 t647 t650 true) else ((spec_SpanOk.f kj2 t644).bind fun t652 => (if t652 = true then ((spec_VecOk.f kj2 t647).bind fun t653 => (laws_FnSpanHas.j1 kj2 l1 t644 t647 t650 (!t653))) else (laws_FnSpanHas.j1 kj2 l1 t644 t647 t650 true)))))) = some r := H
    have A6 := Aside0.mk A60
    clear A60
    replace H := Option.bind_eq_some_iff.mp H
    obtain ⟨t650, A70, H⟩ := H
    replace H : ((spec_SpanHas.f kj2 t644 t647).bind fun t651 => (if (t650 != t651) = true then (laws_FnSpanHas.j1 kj2 l1 t644 t647 t650 true) else ((spec_SpanOk.f kj2 t644).bind fun t652 => (if t652 = true then ((spec_VecOk.f kj2 t647).bind fun t653 => (laws_FnSpanHas.j1 kj2 l1 t644 t647 t650 (!t653))) else (laws_FnSpanHas.j1 kj2 l1 t644 t647 t650 true))))) = some r := H
    have A7 := Aside0.mk A70
    clear A70
    have HC8 := Aside0.mk H
    clear H
    go_upto_region 5 with (first | ((with_reducible refine gate_callee (f := 42) rfl ?_); refine goesL_ (some 22) rfl rfl Try.func42 (by kernel_rfl) rfl #[.slice A0 l0.length c0] rfl z37_1 ?_; (with_reducible refine (spec_DrawSpanHas.calls kj2 _ _ l0 t644 t647 _ ?side1 ?side2 A6.out).mono ?_); (case side1 => repeat (first | exact (Kd.C_below HR0.out HB.out) | (with_reducible refine Kd.C_alloc ?_ _) | (with_reducible refine Kd.C_drewN ?_ _) | (with_reducible refine Kd.C_drew ?_))); (case side2 => exact HC0.out); rintro e w9 ⟨v645, v648, rfl, ho0, ho1, hb⟩; refine ⟨_, rfl, ?_⟩; have n0_ := Aside0.mk (Kd.N_lower (Kd.N_mono (ok' := fun k_ => some k_ ≠ (v648 : Value).ownBlock) ho0 (fun k_ hk_ => hk_.2)) (below_size z37_0)); have n1_ := Aside0.mk (Kd.Q_lower (Kd.Q_mono (ok' := fun k_ => True) ho1 (fun _ hk_ => trivial)) (below_size z37_0)); have n2_ := Aside0.mk (below_step z37_0 hb); clear HB; have HO646 := n0_; have HO649 := n1_; have HB := n2_; clear n0_ n1_ n2_; (try clear hb); (try clear hb2); (try clear hk); (try clear hi); (try clear ho0); (try clear ho1); obtain ⟨Ao10, co10, eo10⟩ := Kd.N_slice HO646.out; subst eo10; obtain ⟨Ao11, co11, eo11, _⟩ := Kd.Q_slice HO649.out; subst eo11) | ((with_reducible refine gate_callee (f := 22) rfl ?_); refine goesL_ (some 27) rfl rfl Try.func22 (by kernel_rfl) rfl #[.slice Ao10 t644.length co10, .slice Ao11 t647.length co11] rfl z37_1 ?_; (with_reducible refine (impl_SpanHas.calls kj2 _ _ t644 _ _ t647 t650 _ ?side1 ?side2 ?side3 ?side4 A7.out).mono ?_); (case side1 => repeat (first | exact (Kd.N_reads' HO646.out).2.2 | (with_reducible refine Kd.C_alloc ?_ _) | (with_reducible refine Kd.C_drewN ?_ _) | (with_reducible refine Kd.C_drew ?_))); (case side2 => exact (Kd.N_reads' HO646.out).2.1); (case side3 => repeat (first | exact (Kd.Q_reads' HO649.out).2.2 | (with_reducible refine Kd.C_alloc ?_ _) | (with_reducible refine Kd.C_drewN ?_ _) | (with_reducible refine Kd.C_drew ?_))); (case side4 => exact (Kd.Q_reads' HO649.out).2.1); rintro e w12 ⟨rfl, hb⟩; refine ⟨_, rfl, ?_⟩; have n0_ := Aside0.mk (Kd.N_below z37_4 hb); have n1_ := Aside0.mk (Kd.Q_below z37_5 hb); have n2_ := Aside0.mk (below_step z37_0 hb); clear HO646; clear HO649; clear HB; have HO646 := n0_; have HO649 := n1_; have HB := n2_; clear n0_ n1_ n2_; (try clear hb); (try clear hb2); (try clear hk); (try clear hi)))
    (try simp only [Act.put, List.setIfInBounds_toArray, List.set_cons_zero, List.set_cons_succ])
    go_cut [42] (fun v42 wc => ∃ (kq : Nat) (x42_7 : Bool), v42 = .bool x42_7 ∧ Aside0 (laws_FnSpanHas.j1 kq l1 t644 t647 t650 x42_7 = some r) ∧ Aside0 (kq ≤ kj2) ∧ Aside0 (Kd.N (Kd.slice 3 (Kd.int .i64)) 28 wc w.heap.size (fun k_ => some k_ ≠ ((.slice Ao11 t647.length co11) : Value).ownBlock) (.slice Ao10 t644.length co10) t644) ∧ Aside0 (Kd.Q (Kd.int .i64) 3 wc w.heap.size (fun _ => True) (.slice Ao11 t647.length co11) t647) ∧ Aside0 (Below w.heap.size w wc))
    case first =>
     have H := HC8.out
     clear HC8
     replace H := Option.bind_eq_some_iff.mp H
     obtain ⟨t651, A130, H⟩ := H
     replace H : (if (t650 != t651) = true then (laws_FnSpanHas.j1 kj2 l1 t644 t647 t650 true) else ((spec_SpanOk.f kj2 t644).bind fun t652 => (if t652 = true then ((spec_VecOk.f kj2 t647).bind fun t653 => (laws_FnSpanHas.j1 kj2 l1 t644 t647 t650 (!t653))) else (laws_FnSpanHas.j1 kj2 l1 t644 t647 t650 true)))) = some r := H
     have A13 := Aside0.mk A130
     clear A130
     by_cases c14 : (t650 != t651) = true
     ·rw [if_pos c14] at H
      have c14b0 : (t650 != t651) = true := c14
      (try (have c14b1 : decide (t650 = t651) = false := by simpa using c14))
      (try (have c14b2 : (t650 == t651) = false := by simpa using c14))
      (try (have c14b3 : ¬ (t650 = t651) := by simpa using c14))
      clear c14
      (first | rw [c14b0] | (simp only [i64_w, i32_w]; rw [c14b0]) | skip)
      have H' := Aside0.mk H
      clear H
      go_wp2_with (first | ((with_reducible refine gate_callee (f := 20) rfl ?_); refine goesL_ (some 31) rfl rfl Try.func20 (by kernel_rfl) rfl #[.slice Ao10 t644.length co10, .slice Ao11 t647.length co11] rfl z37_1 ?_; (with_reducible refine (spec_SpanHas.calls kj2 _ _ t644 _ _ t647 t651 _ ?side1 ?side2 ?side3 ?side4 A13.out).mono ?_); (case side1 => repeat (first | exact (Kd.N_reads' HO646.out).2.2 | (with_reducible refine Kd.C_alloc ?_ _) | (with_reducible refine Kd.C_drewN ?_ _) | (with_reducible refine Kd.C_drew ?_))); (case side2 => exact (Kd.N_reads' HO646.out).2.1); (case side3 => repeat (first | exact (Kd.Q_reads' HO649.out).2.2 | (with_reducible refine Kd.C_alloc ?_ _) | (with_reducible refine Kd.C_drewN ?_ _) | (with_reducible refine Kd.C_drew ?_))); (case side4 => exact (Kd.Q_reads' HO649.out).2.1); rintro e w15 ⟨rfl, hb⟩; refine ⟨_, rfl, ?_⟩; have n0_ := Aside0.mk (Kd.N_below z37_4 hb); have n1_ := Aside0.mk (Kd.Q_below z37_5 hb); have n2_ := Aside0.mk (below_step z37_0 hb); clear HO646; clear HO649; clear HB; have HO646 := n0_; have HO649 := n1_; have HB := n2_; clear n0_ n1_ n2_; (try clear hb); (try clear hb2); (try clear hk); (try clear hi)))
      go_meet
      case rel => exact ⟨_, (true), z37_9, H', ⟨by have := HJ2.out; first | omega | exact Nat.le_refl _⟩, ⟨z37_4⟩, ⟨z37_5⟩, ⟨z37_0⟩⟩
     ·rw [if_neg c14] at H
      have c14b0 : (t650 != t651) = false := by simpa using c14
      (try (have c14b1 : decide (t650 = t651) = true := by simpa using c14))
      (try (have c14b2 : (t650 == t651) = true := by simpa using c14))
      clear c14
      (first | rw [c14b0] | (simp only [i64_w, i32_w]; rw [c14b0]) | skip)
      replace H := Option.bind_eq_some_iff.mp H
      obtain ⟨t652, A160, H⟩ := H
      replace H : (if t652 = true then ((spec_VecOk.f kj2 t647).bind fun t653 => (laws_FnSpanHas.j1 kj2 l1 t644 t647 t650 (!t653))) else (laws_FnSpanHas.j1 kj2 l1 t644 t647 t650 true)) = some r := H
      have A16 := Aside0.mk A160
      clear A160
      by_cases c17 : t652 = true
      ·subst c17
       have H1 : ((spec_VecOk.f kj2 t647).bind fun t653 => (laws_FnSpanHas.j1 kj2 l1 t644 t647 t650 (!t653))) = some r := by rw [if_pos rfl] at H; exact H
       clear H
       have H := H1
       clear H1
       replace H := Option.bind_eq_some_iff.mp H
       obtain ⟨t653, A180, H⟩ := H
       replace H : (laws_FnSpanHas.j1 kj2 l1 t644 t647 t650 (!t653)) = some r := H
       have A18 := Aside0.mk A180
       clear A180
       have H' := Aside0.mk H
       clear H
       go_wp2_with (first | ((with_reducible refine gate_callee (f := 20) rfl ?_); refine goesL_ (some 31) rfl rfl Try.func20 (by kernel_rfl) rfl #[.slice Ao10 t644.length co10, .slice Ao11 t647.length co11] rfl z37_1 ?_; (with_reducible refine (spec_SpanHas.calls kj2 _ _ t644 _ _ t647 t651 _ ?side1 ?side2 ?side3 ?side4 A13.out).mono ?_); (case side1 => repeat (first | exact (Kd.N_reads' HO646.out).2.2 | (with_reducible refine Kd.C_alloc ?_ _) | (with_reducible refine Kd.C_drewN ?_ _) | (with_reducible refine Kd.C_drew ?_))); (case side2 => exact (Kd.N_reads' HO646.out).2.1); (case side3 => repeat (first | exact (Kd.Q_reads' HO649.out).2.2 | (with_reducible refine Kd.C_alloc ?_ _) | (with_reducible refine Kd.C_drewN ?_ _) | (with_reducible refine Kd.C_drew ?_))); (case side4 => exact (Kd.Q_reads' HO649.out).2.1); rintro e w19 ⟨rfl, hb⟩; refine ⟨_, rfl, ?_⟩; have n0_ := Aside0.mk (Kd.N_below z37_4 hb); have n1_ := Aside0.mk (Kd.Q_below z37_5 hb); have n2_ := Aside0.mk (below_step z37_0 hb); clear HO646; clear HO649; clear HB; have HO646 := n0_; have HO649 := n1_; have HB := n2_; clear n0_ n1_ n2_; (try clear hb); (try clear hb2); (try clear hk); (try clear hi)) | (go_at_call 38; (with_reducible refine (spec_SpanOk.calls kj2 _ _ t644 true _ ?side1 ?side2 A16.out).mono ?_); (case side1 => repeat (first | exact (Kd.N_reads' HO646.out).2.2 | (with_reducible refine Kd.C_alloc ?_ _) | (with_reducible refine Kd.C_drewN ?_ _) | (with_reducible refine Kd.C_drew ?_))); (case side2 => exact (Kd.N_reads' HO646.out).2.1); rintro e w' ⟨rfl, ⟨nd, rfl⟩⟩) | (go_at_call 43; (with_reducible refine (spec_VecOk.calls kj2 _ _ t647 t653 _ ?side1 ?side2 A18.out).mono ?_); (case side1 => repeat (first | exact (Kd.Q_reads' HO649.out).2.2 | (with_reducible refine Kd.C_alloc ?_ _) | (with_reducible refine Kd.C_drewN ?_ _) | (with_reducible refine Kd.C_drew ?_))); (case side2 => exact (Kd.Q_reads' HO649.out).2.1); rintro e w' ⟨rfl, ⟨nd, rfl⟩⟩))
       go_meet
       case rel => exact ⟨_, (!t653), z37_9, H', ⟨by have := HJ2.out; first | omega | exact Nat.le_refl _⟩, ⟨z37_4⟩, ⟨z37_5⟩, ⟨z37_0⟩⟩
      ·replace c17 := Bool.eq_false_iff.mpr c17
       subst c17
       have H1 : (laws_FnSpanHas.j1 kj2 l1 t644 t647 t650 true) = some r := by rw [if_neg (show ¬ (false = true) by decide)] at H; exact H
       clear H
       have H := H1
       clear H1
       have H' := Aside0.mk H
       clear H
       go_wp2_with (first | ((with_reducible refine gate_callee (f := 20) rfl ?_); refine goesL_ (some 31) rfl rfl Try.func20 (by kernel_rfl) rfl #[.slice Ao10 t644.length co10, .slice Ao11 t647.length co11] rfl z37_1 ?_; (with_reducible refine (spec_SpanHas.calls kj2 _ _ t644 _ _ t647 t651 _ ?side1 ?side2 ?side3 ?side4 A13.out).mono ?_); (case side1 => repeat (first | exact (Kd.N_reads' HO646.out).2.2 | (with_reducible refine Kd.C_alloc ?_ _) | (with_reducible refine Kd.C_drewN ?_ _) | (with_reducible refine Kd.C_drew ?_))); (case side2 => exact (Kd.N_reads' HO646.out).2.1); (case side3 => repeat (first | exact (Kd.Q_reads' HO649.out).2.2 | (with_reducible refine Kd.C_alloc ?_ _) | (with_reducible refine Kd.C_drewN ?_ _) | (with_reducible refine Kd.C_drew ?_))); (case side4 => exact (Kd.Q_reads' HO649.out).2.1); rintro e w20 ⟨rfl, hb⟩; refine ⟨_, rfl, ?_⟩; have n0_ := Aside0.mk (Kd.N_below z37_4 hb); have n1_ := Aside0.mk (Kd.Q_below z37_5 hb); have n2_ := Aside0.mk (below_step z37_0 hb); clear HO646; clear HO649; clear HB; have HO646 := n0_; have HO649 := n1_; have HB := n2_; clear n0_ n1_ n2_; (try clear hb); (try clear hb2); (try clear hk); (try clear hi)) | (go_at_call 38; (with_reducible refine (spec_SpanOk.calls kj2 _ _ t644 false _ ?side1 ?side2 A16.out).mono ?_); (case side1 => repeat (first | exact (Kd.N_reads' HO646.out).2.2 | (with_reducible refine Kd.C_alloc ?_ _) | (with_reducible refine Kd.C_drewN ?_ _) | (with_reducible refine Kd.C_drew ?_))); (case side2 => exact (Kd.N_reads' HO646.out).2.1); rintro e w' ⟨rfl, ⟨nd, rfl⟩⟩))
       go_meet
       case rel => exact ⟨_, (true), z37_9, H', ⟨by have := HJ2.out; first | omega | exact Nat.le_refl _⟩, ⟨z37_4⟩, ⟨z37_5⟩, ⟨z37_0⟩⟩
    case rest =>
     clear HC8
     try clear c1
     try clear c5
     obtain ⟨kq, x42_7, rfl, HA, HJ7, HO_5, HO_6, HB⟩ := hcut
     cases kq with
     | zero => exact absurd HA.out (by simp [laws_FnSpanHas.j1])
     | succ kj7 =>
      have H := HA.out
      clear HA
      simp only [laws_FnSpanHas.j1] at H
      by_cases c21 : x42_7 = true
      ·subst c21
       have H1 : ((spec_SpanHas.f kj7 t644 t647).bind fun t654 => (some (t650 == t654))) = some r := by rw [if_pos rfl] at H; exact H
       clear H
       have H := H1
       clear H1
       replace H := Option.bind_eq_some_iff.mp H
       obtain ⟨t654, A220, H⟩ := H
       replace H : (some (t650 == t654)) = some r := H
       have A22 := Aside0.mk A220
       clear A220
       obtain rfl := Option.some.inj H
       go_wp2_with (first | ((with_reducible refine gate_callee (f := 20) rfl ?_); refine goesL_ (some 46) rfl rfl Try.func20 (by kernel_rfl) rfl #[.slice Ao10 t644.length co10, .slice Ao11 t647.length co11] rfl z37_1 ?_; (with_reducible refine (spec_SpanHas.calls kj7 _ _ t644 _ _ t647 t654 _ ?side1 ?side2 ?side3 ?side4 A22.out).mono ?_); (case side1 => repeat (first | exact (Kd.N_reads' HO_5.out).2.2 | (with_reducible refine Kd.C_alloc ?_ _) | (with_reducible refine Kd.C_drewN ?_ _) | (with_reducible refine Kd.C_drew ?_))); (case side2 => exact (Kd.N_reads' HO_5.out).2.1); (case side3 => repeat (first | exact (Kd.Q_reads' HO_6.out).2.2 | (with_reducible refine Kd.C_alloc ?_ _) | (with_reducible refine Kd.C_drewN ?_ _) | (with_reducible refine Kd.C_drew ?_))); (case side4 => exact (Kd.Q_reads' HO_6.out).2.1); rintro e w23 ⟨rfl, hb⟩; refine ⟨_, rfl, ?_⟩; have n0_ := Aside0.mk (Kd.N_below z37_3 hb); have n1_ := Aside0.mk (Kd.Q_below z37_7 hb); have n2_ := Aside0.mk (below_step z37_0 hb); clear HO_5; clear HO_6; clear HB; have HO_5 := n0_; have HO_6 := n1_; have HB := n2_; clear n0_ n1_ n2_; (try clear hb); (try clear hb2); (try clear hk); (try clear hi)))
       go_ret
       exact ⟨z37_8, z37_0⟩
      ·replace c21 := Bool.eq_false_iff.mpr c21
       subst c21
       have H1 : ((impl_SpanBy.f kj7 t644 t647).bind fun bt655 => (laws_FnSpanHas.l0 kj7 l1 t644 t650 bt655.2 (([] : List Int)) 0)) = some r := by rw [if_neg (show ¬ (false = true) by decide)] at H; exact H
       clear H
       have H := H1
       clear H1
       replace H := Option.bind_eq_some_iff.mp H
       obtain ⟨⟨t655, t656⟩, A240, H⟩ := H
       replace H : (laws_FnSpanHas.l0 kj7 l1 t644 t650 t656 (([] : List Int)) 0) = some r := H
       have A24 := Aside0.mk A240
       clear A240
       obtain ⟨y659, hy659⟩ : ∃ y_ : List Int, y_ = (([] : List Int)) := ⟨_, rfl⟩
       replace H : (laws_FnSpanHas.l0 kj7 l1 t644 t650 t656 y659 0) = some r := by first | (rw [hy659]; with_reducible exact H) | (have H2_ := (Option.bind_some _ _).symm.trans H; rw [hy659]; with_reducible exact H2_) | (have H2_ := (Option.bind_some _ _).symm.trans H; with_reducible exact H2_) | with_reducible exact H | (rw [hy659]; exact H) | exact H
       have Ny659 := Aside0.mk hy659
       clear hy659
       have H' := Aside0.mk H
       clear H
       go_wp2_with (first | ((with_reducible refine gate_callee (f := 30) rfl ?_); refine goesL_ (some 51) rfl rfl Try.func30 (by kernel_rfl) rfl #[.slice Ao10 t644.length co10, .slice Ao11 t647.length co11] rfl z37_1 ?_; (with_reducible refine (impl_SpanBy.calls kj7 _ _ t644 _ _ t647 t655 t656 _ ?side1 ?side2 ?side3 ?side4 A24.out).mono ?_); (case side1 => repeat (first | exact (Kd.N_reads' HO_5.out).2.2 | (with_reducible refine Kd.C_alloc ?_ _) | (with_reducible refine Kd.C_drewN ?_ _) | (with_reducible refine Kd.C_drew ?_))); (case side2 => exact (Kd.N_reads' HO_5.out).2.1); (case side3 => repeat (first | exact (Kd.Q_reads' HO_6.out).2.2 | (with_reducible refine Kd.C_alloc ?_ _) | (with_reducible refine Kd.C_drewN ?_ _) | (with_reducible refine Kd.C_drew ?_))); (case side4 => exact (Kd.Q_reads' HO_6.out).2.1); rintro e w25 ⟨v657, rfl, ho0, hb⟩; refine ⟨_, rfl, ?_⟩; have n0_ := Aside0.mk (Kd.N_elder' z37_3 (Kd.R_base ho0) hb); have n1_ := Aside0.mk (Kd.Q_elder' z37_7 (Kd.R_base ho0) hb); have n2_ := Aside0.mk (Kd.R_lower (Kd.R_new' ho0 (Kd.Q_lt z37_7)) (below_size z37_0)); have n3_ := Aside0.mk (below_step z37_0 hb); clear HO_5; clear HO_6; clear HB; have HO_5 := n0_; have HO_6 := n1_; have HO658 := n2_; have HB := n3_; clear n0_ n1_ n2_ n3_; (try clear hb); (try clear hb2); (try clear hk); (try clear hi); (try clear ho0)) | ((with_reducible refine gate_dst (N := 54) rfl ?_); (try (refine gate_guard (by rfl) ?_; dsimp only)); refine Kd.R_lit (Kd.int .i64) _ 3 ?hg (N := 54) ?hd (xs := ([] : List Int)) (inner := []) (ok := fun _ => True) (okp := fun _ => True) ?hr ?hp (fun _ hk => hk) trivial (Below.refl _ _) (Nat.le_refl _) (by simp) ?_; (case hd => rfl); (case hg => rfl); (case hr => first | (go_simp; done) | (go_simp; rfl)); (case hp => exact (Reps.none _ _)); intro v660 w26 ho27 hb hg_ hnew_; clear hg_ hnew_; (first | rw [← Ny659.out] at ho27 | (simp only [Int.reduceToNat] at ho27; rw [← Ny659.out] at ho27)); have n0_ := Aside0.mk (Kd.N_elder' z37_3 (Kd.R_base ho27) hb); have n1_ := Aside0.mk (Kd.Q_elder' z37_7 (Kd.R_base ho27) hb); have n2_ := Aside0.mk (Kd.R_elder' (by (with_reducible repeat (first | apply Kd.R_alloc | apply Kd.R_drewN | apply Kd.R_drew)); exact HO658.out) (Kd.R_base ho27) hb); have n3_ := Aside0.mk (Kd.R_lower (Kd.R_new' (Kd.R_new' ho27 (Kd.Q_lt z37_7)) (Kd.R_lt (by (with_reducible repeat (first | apply Kd.R_alloc | apply Kd.R_drewN | apply Kd.R_drew)); exact HO658.out))) (below_size z37_0)); have n4_ := Aside0.mk (below_step z37_0 hb); clear HO_5; clear HO_6; clear HO658; clear HB; have HO_5 := n0_; have HO_6 := n1_; have HO658 := n2_; have HO661 := n3_; have HB := n4_; clear n0_ n1_ n2_ n3_ n4_; clear hb ho27))
       go_loopg [10, 11] kj7 (fun kq v10 v11 w' => ∃ (x10_3 : List Int) (x11_3 : Int), v11 = .int .i64 x11_3 ∧ Aside0 (laws_FnSpanHas.l0 kq l1 t644 t650 t656 x10_3 x11_3 = some r) ∧ Aside0 (kq ≤ kj7) ∧ Aside0 (Kd.N (Kd.slice 3 (Kd.int .i64)) 28 w' w.heap.size (fun k_ => some k_ ≠ (v10 : Value).ownBlock) (.slice Ao10 t644.length co10) t644) ∧ Aside0 (Kd.R (Kd.int .i64) 3 w' w.heap.size (fun _ => True) v10 x10_3) ∧ Aside0 (Below w.heap.size w w'))
       case atStart => exact ⟨(y659), (0), z37_9, H', ⟨Nat.le_refl _⟩, ⟨z37_10⟩, ⟨by (with_reducible repeat (first | apply Kd.R_alloc | apply Kd.R_drewN | apply Kd.R_drew)); exact Kd.R_mono HO661.out (fun _ hk => trivial)⟩, ⟨z37_0⟩⟩
       case round =>
        clear H'
        try clear c1
        try clear c5
        try clear c21
        obtain ⟨x10_3, x11_3, rfl, HA, HK3, HO_5, HO_10, HB⟩ := hrel
        cases gk with
        | zero => exact absurd HA.out (by simp [laws_FnSpanHas.l0])
        | succ k3 =>
         have H := HA.out
         clear HA
         simp only [laws_FnSpanHas.l0] at H
         by_cases c28 : x11_3 < (t644.length : Int)
         ·rw [if_pos c28] at H
          have c28b0 : decide (x11_3 < (t644.length : Int)) = true := decide_eq_true c28
          clear c28
          replace H := Option.bind_eq_some_iff.mp H
          obtain ⟨t662, A290, H⟩ := H
          replace H : (if x10_3.length < 17592186044416 then (laws_FnSpanHas.l0 k3 l1 t644 t650 t656 (x10_3 ++ [t662]) (wrap64 (x11_3 + 1))) else (none)) = some r := H
          have A29 := Aside0.mk A290
          clear A290
          by_cases c30 : x10_3.length < 17592186044416
          ·rw [if_pos c30] at H
           have LMc30 := Aside0.mk c30
           clear c30
           obtain ⟨y663, hy663⟩ : ∃ y_ : List Int, y_ = (x10_3 ++ [t662]) := ⟨_, rfl⟩
           replace H : (laws_FnSpanHas.l0 k3 l1 t644 t650 t656 y663 (wrap64 (x11_3 + 1))) = some r := by first | (rw [hy663]; with_reducible exact H) | (have H2_ := (Option.bind_some _ _).symm.trans H; rw [hy663]; with_reducible exact H2_) | (have H2_ := (Option.bind_some _ _).symm.trans H; with_reducible exact H2_) | with_reducible exact H | (rw [hy663]; exact H) | exact H
           have Ny663 := Aside0.mk hy663
           clear hy663
           have H' := Aside0.mk H
           clear H
           go_wp2_with (first | ((with_reducible refine gate_callee (f := 44) rfl ?_); refine goesL_ (some 67) rfl rfl Try.func44 (by kernel_rfl) rfl #[.int .i64 (wrap64 ((l1.length : Int) * (wrap64 (x11_3 + 2))))] rfl z37_1 ?_; (with_reducible refine (laws_lkNum.calls (wrap64 ((l1.length : Int) * (wrap64 (x11_3 + 2)))) t662 _ A29.out).mono ?_); rintro e w' ⟨rfl, ⟨nd, rfl⟩⟩; refine ⟨_, rfl, ?_⟩) | ((with_reducible refine gate_builtin (b := .append) (xs := #[.tmp 61, .tmp 68]) rfl ?_); (try (refine gate_guard (by rfl) ?_; dsimp only)); at_builtin; refine Kd.R_append (Kd.int .i64) (w0 := w) w.heap.size rfl (.tmp 61) (.tmp 68) 28 3 (.int .i64 0) 8 rfl Try.underlying28 info3 rfl (by decide) (by omega) u10 x10_3 t662 [.int .i64 t662] (fun _ => True) (fun _ => False) rfl rfl ?aP (fun _ hk => hk.elim) ?aF ?aO ?aB ?aS ?aL ?_; (case aP => exact rfl); (case aB => exact z37_0); (case aF => exact (fun _ _ => trivial)); (case aO => exact z37_2); (case aS => exact (below_size z37_0)); (case aL => have := LMc30.out; omega); intro v664 w31 ho hb hg hat; rw [← Ny663.out] at ho; have n0_ := Aside0.mk (Kd.N_afterv (ok := (fun _ => True)) (by (with_reducible repeat (first | apply Kd.N_alloc | apply Kd.N_drewN | apply Kd.N_drew)); exact Kd.N_mono HO_5.out (fun _ hk => ⟨trivial, hk⟩)) hg hat); have n1_ := Aside0.mk (hb); have n2_ := Aside0.mk (ho); clear HO_5; clear HB; clear HO_10; have HO_5 := n0_; have HB := n1_; have HO665 := n2_; clear n0_ n1_ n2_; clear ho hb hg hat))
           go_roundg k3
           case measure => have := HJ2.out; have := HJ7.out; have := HK3.out; omega
           case rel => exact ⟨(y663), (wrap64 (x11_3 + 1)), z37_9, H', ⟨by have := HJ2.out; have := HJ7.out; have := HK3.out; omega⟩, ⟨z37_10⟩, ⟨by (with_reducible repeat (first | apply Kd.R_alloc | apply Kd.R_drewN | apply Kd.R_drew)); exact HO665.out⟩, ⟨z37_0⟩⟩
          ·rw [if_neg c30] at H
           exact absurd H (by simp)
         ·rw [if_neg c28] at H
          have c28b0 : decide (x11_3 < (t644.length : Int)) = false := decide_eq_false c28
          clear c28
          by_cases c32 : (t650 == t656) = true
          ·rw [if_pos c32] at H
           have c32b0 : (t650 == t656) = true := c32
           (try (have c32b1 : decide (t650 = t656) = true := by simpa using c32))
           (try (have c32b2 : (t650 == t656) = true := by simpa using c32))
           clear c32
           replace H := Option.bind_eq_some_iff.mp H
           obtain ⟨t666, A330, H⟩ := H
           replace H : ((impl_SpanHas.f k3 t644 t666).bind fun t669 => (if t669 = true then ((impl_SpanHas.f k3 t644 (([0, 0, 0, 0] : List Int))).bind fun t673 => (some t673)) else (some false))) = some r := H
           have A33 := Aside0.mk A330
           clear A330
           replace H := Option.bind_eq_some_iff.mp H
           obtain ⟨t669, A340, H⟩ := H
           replace H : (if t669 = true then ((impl_SpanHas.f k3 t644 (([0, 0, 0, 0] : List Int))).bind fun t673 => (some t673)) else (some false)) = some r := H
           have A34 := Aside0.mk A340
           clear A340
           by_cases c35 : t669 = true
           ·subst c35
            have H1 : ((impl_SpanHas.f k3 t644 (([0, 0, 0, 0] : List Int))).bind fun t673 => (some t673)) = some r := by rw [if_pos rfl] at H; exact H
            clear H
            have H := H1
            clear H1
            obtain ⟨y670, hy670⟩ : ∃ y_ : List Int, y_ = (([0, 0, 0, 0] : List Int)) := ⟨_, rfl⟩
            replace H : ((impl_SpanHas.f k3 t644 y670).bind fun t673 => (some t673)) = some r := by first | (rw [hy670]; with_reducible exact H) | (have H2_ := (Option.bind_some _ _).symm.trans H; rw [hy670]; with_reducible exact H2_) | (have H2_ := (Option.bind_some _ _).symm.trans H; with_reducible exact H2_) | with_reducible exact H | (rw [hy670]; exact H) | exact H
            have Ny670 := Aside0.mk hy670
            clear hy670
            replace H := Option.bind_eq_some_iff.mp H
            obtain ⟨t673, A360, H⟩ := H
            replace H : (some t673) = some r := H
            have A36 := Aside0.mk A360
            clear A360
            obtain rfl := Option.some.inj H
            obtain ⟨Ao37, co37, eo37⟩ := Kd.R_slice HO_10.out
            subst eo37
            go_wp2_with (first | (go_at_call 45; (with_reducible refine (laws_lkMade.calls k3 _ _ t644 _ _ x10_3 t666 _ ?side1 ?side2 ?side3 ?side4 A33.out).mono ?_); (case side1 => repeat (first | exact (Kd.N_reads' HO_5.out).2.2 | (with_reducible refine Kd.C_alloc ?_ _) | (with_reducible refine Kd.C_drewN ?_ _) | (with_reducible refine Kd.C_drew ?_))); (case side2 => exact (Kd.N_reads' HO_5.out).2.1); (case side3 => repeat (first | exact (Kd.R_reads' HO_10.out).2.2 | (with_reducible refine Kd.C_alloc ?_ _) | (with_reducible refine Kd.C_drewN ?_ _) | (with_reducible refine Kd.C_drew ?_))); (case side4 => exact (Kd.R_reads' HO_10.out).2.1); rintro e w38 ⟨v667, rfl, ho0, hb⟩; have n0_ := Aside0.mk (Kd.N_elder' z37_3 (Kd.R_base ho0) hb); have n1_ := Aside0.mk (Kd.R_elder' z37_2 (Kd.R_base ho0) hb); have n2_ := Aside0.mk (Kd.R_lower (Kd.R_new' ho0 (Kd.R_lt z37_2)) (below_size z37_0)); have n3_ := Aside0.mk (below_step z37_0 hb); clear HO_5; clear HO_10; clear HB; have HO_5 := n0_; have HO_10 := n1_; have HO668 := n2_; have HB := n3_; clear n0_ n1_ n2_ n3_; (try clear hb); (try clear hb2); (try clear hk); (try clear hi); (try clear ho0); obtain ⟨Ao39, co39, eo39⟩ := Kd.R_slice HO668.out; subst eo39) | (go_at_call 22; (with_reducible refine (impl_SpanHas.calls k3 _ _ t644 _ _ t666 true _ ?side1 ?side2 ?side3 ?side4 A34.out).mono ?_); (case side1 => repeat (first | exact (Kd.N_reads' HO_5.out).2.2 | (with_reducible refine Kd.C_alloc ?_ _) | (with_reducible refine Kd.C_drewN ?_ _) | (with_reducible refine Kd.C_drew ?_))); (case side2 => exact (Kd.N_reads' HO_5.out).2.1); (case side3 => repeat (first | exact (Kd.R_reads' HO668.out).2.2 | (with_reducible refine Kd.C_alloc ?_ _) | (with_reducible refine Kd.C_drewN ?_ _) | (with_reducible refine Kd.C_drew ?_))); (case side4 => exact (Kd.R_reads' HO668.out).2.1); rintro e w40 ⟨rfl, hb⟩; have n0_ := Aside0.mk (Kd.N_below z37_3 hb); have n1_ := Aside0.mk (Kd.R_below z37_2 hb); have n2_ := Aside0.mk (Kd.R_below z37_6 hb); have n3_ := Aside0.mk (below_step z37_0 hb); clear HO_5; clear HO_10; clear HO668; clear HB; have HO_5 := n0_; have HO_10 := n1_; have HO668 := n2_; have HB := n3_; clear n0_ n1_ n2_ n3_; (try clear hb); (try clear hb2); (try clear hk); (try clear hi)) | ((with_reducible refine gate_dst (N := 82) rfl ?_); (try (refine gate_guard (by rfl) ?_; dsimp only)); refine Kd.R_lit (Kd.int .i64) _ 3 ?hg (N := 82) ?hd (xs := ([0, 0, 0, 0] : List Int)) (inner := [.int .i64 0, .int .i64 0, .int .i64 0, .int .i64 0]) (ok := fun _ => True) (okp := fun _ => True) ?hr ?hp (fun _ hk => hk) trivial (Below.refl _ _) (Nat.le_refl _) (by simp) ?_; (case hd => rfl); (case hg => rfl); (case hr => first | (go_simp; done) | (go_simp; rfl)); (case hp => exact (Reps.one (show Kd.M (Kd.int .i64) _ _ _ 0 [.int .i64 0] from rfl) (Reps.one (show Kd.M (Kd.int .i64) _ _ _ 0 [.int .i64 0] from rfl) (Reps.one (show Kd.M (Kd.int .i64) _ _ _ 0 [.int .i64 0] from rfl) (Reps.one (show Kd.M (Kd.int .i64) _ _ _ 0 [.int .i64 0] from rfl) (Reps.none _ _)))))); intro v671 w41 ho42 hb hg_ hnew_; clear hg_ hnew_; (first | rw [← Ny670.out] at ho42 | (simp only [Int.reduceToNat] at ho42; rw [← Ny670.out] at ho42)); have n0_ := Aside0.mk (Kd.N_elder' z37_3 (Kd.R_base ho42) hb); have n1_ := Aside0.mk (Kd.R_elder' z37_2 (Kd.R_base ho42) hb); have n2_ := Aside0.mk (Kd.R_elder' z37_6 (Kd.R_base ho42) hb); have n3_ := Aside0.mk (Kd.R_lower (Kd.R_new' (Kd.R_new' ho42 (Kd.R_lt z37_2)) (Kd.R_lt z37_6)) (below_size z37_0)); have n4_ := Aside0.mk (below_step z37_0 hb); clear HO_5; clear HO_10; clear HO668; clear HB; have HO_5 := n0_; have HO_10 := n1_; have HO668 := n2_; have HO672 := n3_; have HB := n4_; clear n0_ n1_ n2_ n3_ n4_; clear hb ho42; obtain ⟨Ao43, co43, eo43⟩ := Kd.R_slice HO672.out; subst eo43) | (go_at_call 22; (with_reducible refine (impl_SpanHas.calls k3 _ _ t644 _ _ y670 t673 _ ?side1 ?side2 ?side3 ?side4 A36.out).mono ?_); (case side1 => repeat (first | exact (Kd.N_reads' HO_5.out).2.2 | (with_reducible refine Kd.C_alloc ?_ _) | (with_reducible refine Kd.C_drewN ?_ _) | (with_reducible refine Kd.C_drew ?_))); (case side2 => exact (Kd.N_reads' HO_5.out).2.1); (case side3 => repeat (first | exact (Kd.R_reads' HO672.out).2.2 | (with_reducible refine Kd.C_alloc ?_ _) | (with_reducible refine Kd.C_drewN ?_ _) | (with_reducible refine Kd.C_drew ?_))); (case side4 => exact (Kd.R_reads' HO672.out).2.1); rintro e w44 ⟨rfl, hb⟩; have n0_ := Aside0.mk (Kd.N_below z37_3 hb); have n1_ := Aside0.mk (Kd.R_below z37_2 hb); have n2_ := Aside0.mk (Kd.R_below z37_6 hb); have n3_ := Aside0.mk (Kd.R_below (by (with_reducible repeat (first | apply Kd.R_alloc | apply Kd.R_drewN | apply Kd.R_drew)); exact HO672.out) hb); have n4_ := Aside0.mk (below_step z37_0 hb); clear HO_5; clear HO_10; clear HO668; clear HO672; clear HB; have HO_5 := n0_; have HO_10 := n1_; have HO668 := n2_; have HO672 := n3_; have HB := n4_; clear n0_ n1_ n2_ n3_ n4_; (try clear hb); (try clear hb2); (try clear hk); (try clear hi)))
            go_ret
            exact ⟨z37_8, z37_0⟩
           ·replace c35 := Bool.eq_false_iff.mpr c35
            subst c35
            have H1 : (some false) = some r := by rw [if_neg (show ¬ (false = true) by decide)] at H; exact H
            clear H
            have H := H1
            clear H1
            obtain rfl := Option.some.inj H
            obtain ⟨Ao45, co45, eo45⟩ := Kd.R_slice HO_10.out
            subst eo45
            go_wp2_with (first | (go_at_call 45; (with_reducible refine (laws_lkMade.calls k3 _ _ t644 _ _ x10_3 t666 _ ?side1 ?side2 ?side3 ?side4 A33.out).mono ?_); (case side1 => repeat (first | exact (Kd.N_reads' HO_5.out).2.2 | (with_reducible refine Kd.C_alloc ?_ _) | (with_reducible refine Kd.C_drewN ?_ _) | (with_reducible refine Kd.C_drew ?_))); (case side2 => exact (Kd.N_reads' HO_5.out).2.1); (case side3 => repeat (first | exact (Kd.R_reads' HO_10.out).2.2 | (with_reducible refine Kd.C_alloc ?_ _) | (with_reducible refine Kd.C_drewN ?_ _) | (with_reducible refine Kd.C_drew ?_))); (case side4 => exact (Kd.R_reads' HO_10.out).2.1); rintro e w46 ⟨v667, rfl, ho0, hb⟩; have n0_ := Aside0.mk (Kd.N_elder' z37_3 (Kd.R_base ho0) hb); have n1_ := Aside0.mk (Kd.R_elder' z37_2 (Kd.R_base ho0) hb); have n2_ := Aside0.mk (Kd.R_lower (Kd.R_new' ho0 (Kd.R_lt z37_2)) (below_size z37_0)); have n3_ := Aside0.mk (below_step z37_0 hb); clear HO_5; clear HO_10; clear HB; have HO_5 := n0_; have HO_10 := n1_; have HO668 := n2_; have HB := n3_; clear n0_ n1_ n2_ n3_; (try clear hb); (try clear hb2); (try clear hk); (try clear hi); (try clear ho0); obtain ⟨Ao47, co47, eo47⟩ := Kd.R_slice HO668.out; subst eo47) | (go_at_call 22; (with_reducible refine (impl_SpanHas.calls k3 _ _ t644 _ _ t666 false _ ?side1 ?side2 ?side3 ?side4 A34.out).mono ?_); (case side1 => repeat (first | exact (Kd.N_reads' HO_5.out).2.2 | (with_reducible refine Kd.C_alloc ?_ _) | (with_reducible refine Kd.C_drewN ?_ _) | (with_reducible refine Kd.C_drew ?_))); (case side2 => exact (Kd.N_reads' HO_5.out).2.1); (case side3 => repeat (first | exact (Kd.R_reads' HO668.out).2.2 | (with_reducible refine Kd.C_alloc ?_ _) | (with_reducible refine Kd.C_drewN ?_ _) | (with_reducible refine Kd.C_drew ?_))); (case side4 => exact (Kd.R_reads' HO668.out).2.1); rintro e w48 ⟨rfl, hb⟩; have n0_ := Aside0.mk (Kd.N_below z37_3 hb); have n1_ := Aside0.mk (Kd.R_below z37_2 hb); have n2_ := Aside0.mk (Kd.R_below z37_6 hb); have n3_ := Aside0.mk (below_step z37_0 hb); clear HO_5; clear HO_10; clear HO668; clear HB; have HO_5 := n0_; have HO_10 := n1_; have HO668 := n2_; have HB := n3_; clear n0_ n1_ n2_ n3_; (try clear hb); (try clear hb2); (try clear hk); (try clear hi)))
            go_ret
            exact ⟨z37_8, z37_0⟩
          ·rw [if_neg c32] at H
           have c32b0 : (t650 == t656) = false := by simpa using c32
           (try (have c32b1 : decide (t650 = t656) = false := by simpa using c32))
           (try (have c32b2 : (t650 == t656) = false := by simpa using c32))
           (try (have c32b3 : ¬ (t650 = t656) := by simpa using c32))
           clear c32
           obtain rfl := Option.some.inj H
           go_wp2
           go_ret
           exact ⟨z37_8, z37_0⟩

/-- THE ONE PURE STATEMENT of laws_FnSpanHas: yours. -/
def laws_FnSpanHas.Pure : Prop := ∀ (l0 : List Int) (l1 : List Int), l0.length ≤ maxLen → l0.length * 1 ≤ 140737488351232 → (∀ x ∈ l0, (Lit.int .u8 x).wf = true) → l1.length ≤ maxLen → l1.length * 1 ≤ 140737488351232 → (∀ x ∈ l1, (Lit.int .u8 x).wf = true) → ∃ k, laws_FnSpanHas.f k l0 l1 = some true
theorem laws_FnSpanHas.walk (P : laws_FnSpanHas.Pure) (a0 : Option Addr) (len0 cap0 : Nat) (z0 : List Int) (a1 : Option Addr) (len1 cap1 : Nat) (z1 : List Int) (w : World) (w0 : (a0 = none ∧ len0 = 0 ∧ cap0 = 0 ∧ z0 = []) ∨ ∃ x, a0 = some x ∧ len0 ≤ cap0 ∧ cap0 ≤ maxLen ∧ z0.length = cap0 ∧ (∀ i, i < z0.length → w.cell? (x.add i) = some (.int .u8 (z0.getD i 0))) ∧ ∀ n ∈ z0, (Lit.int .u8 n).wf = true) (y0 : len0 * 1 ≤ 140737488351232) (w1 : (a1 = none ∧ len1 = 0 ∧ cap1 = 0 ∧ z1 = []) ∨ ∃ x, a1 = some x ∧ len1 ≤ cap1 ∧ cap1 ≤ maxLen ∧ z1.length = cap1 ∧ (∀ i, i < z1.length → w.cell? (x.add i) = some (.int .u8 (z1.getD i 0))) ∧ ∀ n ∈ z1, (Lit.int .u8 n).wf = true) (y1 : len1 * 1 ≤ 140737488351232) :
  Calls Try.prog 12 #[.slice a0 len0 cap0, .slice a1 len1 cap1] w fun e w' => e = .returned (.bool true) ∧ Below w.heap.size w w' := by
 obtain ⟨l0, rfl, hr0, hm0, hw0, hc0⟩ := ReadsInt.ofRowC w0
 obtain ⟨l1, rfl, hr1, hm1, hw1, hc1⟩ := ReadsInt.ofRowC w1
 obtain ⟨k, h⟩ := P l0 l1 hm0 y0 hw0 hm1 y1 hw1
 refine (laws_FnSpanHas.calls k _ _ l0 _ _ l1 true w (Kd.C_of_reads (d := (0 : Int)) (h1 := fun _ => rfl) hr0) hc0 (Kd.C_of_reads (d := (0 : Int)) (h1 := fun _ => rfl) hr1) hc1 h).mono ?_
 rintro e w' ⟨rfl, hd⟩
 exact ⟨rfl, hd⟩

end Go.Proofs.Ytbhmgbeebhmfkaa.PA
