import Derived.Test.YtamaejafddmagaaPAx0
import Derived.Test.YtamaejafddmagaaPAx6
import Derived.Test.YtamaejafddmagaaPAx8
import Derived.Test.YtamaejafddmagaaPAx13
import Derived.Test.YtamaejafddmagaaPAx16
import Derived.Test.YtamaejafddmagaaGw
import Derived.Test.YtamaejafddmagaaGm
import Derived.Test.YtamaejafddmagaaGc
namespace Go.Proofs.Ytamaejafddmagaa.PA
open Go.RowKit Go.Proofs.YtamaejafddmagaaW.PrintWords Go.Proofs.YtamaejafddmagaaW.PrintLast Go.Proofs.YtamaejafddmagaaW.PrintMore
attribute [local go_sem] max2_int min2_int max_two min_two max_three min_three max_four min_four   -- for this text's walks alone
set_option linter.unusedVariables false
set_option linter.unusedSimpArgs false

/-! ### laws_FnFits: function 14 -/
theorem z20_0 {p : Prop} (h : p := by repeat (first | (with_reducible first | exact HB.out | apply below_alloc | apply pw_below_drewN | apply below_drew1) | exact HB.out)) : p := h
theorem z20_1 {p : Prop} (h : p := by (with_reducible repeat (first | apply Kd.R_alloc | apply Kd.R_drewN | apply Kd.R_drew)); exact HO_6.out) : p := h
theorem z20_2 {p : Prop} (h : p := by (with_reducible repeat (first | apply Kd.Q_alloc | apply Kd.Q_drewN | apply Kd.Q_drew)); exact HO_7.out) : p := h
theorem z20_3 {p : Prop} (h : p := by (with_reducible repeat (first | apply Kd.R_alloc | apply Kd.R_drewN | apply Kd.R_drew)); exact HO_10.out) : p := h
theorem z20_4 {p : Prop} (h : p := by first | (with_reducible assumption) | assumption) : p := h
theorem z20_5 {p : Prop} (h : p := by (try simp only [List.map_toArray, List.map_cons, List.map_nil]); first | done | rfl | (simp only [List.length_drop, List.length_take]; rfl)) : p := h
theorem z20_6 {p : Prop} (h : p := by (with_reducible repeat (first | apply Kd.R_alloc | apply Kd.R_drewN | apply Kd.R_drew)); exact HO666.out) : p := h
theorem z20_7 {p : Prop} (h : p := by (with_reducible repeat (first | apply Kd.R_alloc | apply Kd.R_drewN | apply Kd.R_drew)); exact HO645.out) : p := h
theorem z20_8 {p : Prop} (h : p := by (with_reducible repeat (first | apply Kd.Q_alloc | apply Kd.Q_drewN | apply Kd.Q_drew)); exact HO647.out) : p := h
theorem z20_9 {p : Prop} (h : p := by first | rfl | (simp [errW_none, errW_some] <;> rfl) | (simp only [← hji21]; first | rfl | (simp [errW_none, errW_some] <;> rfl)) | (simp [*, errW_none, errW_some] <;> rfl)) : p := h
theorem z20_10 {p : Prop} (h : p := by (with_reducible repeat (first | apply Kd.R_alloc | apply Kd.R_drewN | apply Kd.R_drew)); exact HO663.out) : p := h
theorem z20_11 {p : Prop} (h : p := by first | rfl | (simp; done) | (simp [*]; done)) : p := h
theorem z20_12 {p : Prop} (h : p := by (try simp only [List.map_toArray, List.map_cons, List.map_nil]); first | done | (rw [show y669.length = y664.length from (Kd.R_reads' HO666.out).1.symm] <;> rfl) | rfl | (simp only [List.length_drop, List.length_take]; rfl)) : p := h
theorem z20_13 {p : Prop} (h : p := by (with_reducible repeat (first | apply Kd.R_alloc | apply Kd.R_drewN | apply Kd.R_drew)); exact HO656.out) : p := h
theorem z20_14 {p : Prop} (h : p := by (try simp only [List.map_toArray, List.map_cons, List.map_nil]); first | done | (simp only [hji21]; rfl) | rfl | (simp only [List.length_drop, List.length_take]; rfl)) : p := h
theorem z20_15 {p : Prop} (h : p := by rw [← hq_]; exact (by (with_reducible repeat (first | apply Kd.R_alloc | apply Kd.R_drewN | apply Kd.R_drew)); exact Kd.R_mono HO_6.out (fun _ hk => hk.2))) : p := h
theorem z20_16 {p : Prop} (h : p := by (with_reducible repeat (first | apply Kd.R_alloc | apply Kd.R_drewN | apply Kd.R_drew)); exact Kd.R_mono HO663.out (fun _ hk => hk.2)) : p := h
theorem z20_17 {p : Prop} (h : p := by (with_reducible repeat (first | apply Kd.Q_alloc | apply Kd.Q_drewN | apply Kd.Q_drew)); exact Kd.Q_mono HO_7.out (fun _ hk => hk.2)) : p := h
mutual
def laws_FnFits.j0 : Nat → List Int → List Int → Bool → Option (Bool)
  | 0, _, _, _ => none
  | k + 1, x0, x1, x19 => if x19 = true then (some true) else ((spec_DrawCodeFits.f k x0).bind fun bt641 => ((impl_CodeFits.f k bt641.1 bt641.2.1 bt641.2.2).bind fun t648 => ((spec_CodeFits.f k bt641.1 bt641.2.1 bt641.2.2).bind fun t649 => (if (t648 != t649) = true then (laws_FnFits.j1 k x1 bt641.1 bt641.2.1 bt641.2.2 t648 true) else (laws_FnFits.j1 k x1 bt641.1 bt641.2.1 bt641.2.2 t648 (!t648))))))
def laws_FnFits.j1 : Nat → List Int → Int → List Int → List Bool → Bool → Bool → Option (Bool)
  | 0, _, _, _, _, _, _ => none
  | k + 1, x1, x5, x6, x7, x8, x39 => if x39 = true then ((spec_CodeFits.f k x5 x6 x7).bind fun t650 => (some (x8 == t650))) else ((some (([] : List Bool) : List Bool)).bind fun y651 => (if y651.length + x7.length < 140737488355328 then ((some (y651 ++ x7 : List Bool)).bind fun y654 => (if 0 ≤ ((x1.length : Int) % 8) then (if ((x1.length : Int) % 8) < (y654.length : Int) then ((some (y654.set (((x1.length : Int) % 8) : Int).toNat false : List Bool)).bind fun y657 => (if ((x1.length : Int) % 8) < (x7.length : Int) then (if (rdOf false x7 ((x1.length : Int) % 8) = true) then ((impl_CodeBears.f k x5 y657).bind fun t659 => (laws_FnFits.j2 k x1 x5 x6 x7 ((x1.length : Int) % 8) y657 (!t659))) else (laws_FnFits.j2 k x1 x5 x6 x7 ((x1.length : Int) % 8) y657 true)) else (none))) else (none)) else (none))) else (none)))
def laws_FnFits.j2 : Nat → List Int → Int → List Int → List Bool → Int → List Bool → Bool → Option (Bool)
  | 0, _, _, _, _, _, _, _ => none
  | k + 1, x1, x5, x6, x7, x9, x10, x65 => if x65 = true then ((impl_CodeFits.f k x5 x6 x10).bind fun t660 => (some t660)) else ((some (([] : List Int) : List Int)).bind fun y661 => (if y661.length + x6.length < 17592186044416 then ((some (y661 ++ x6 : List Int)).bind fun y664 => (if 0 ≤ x9 then (if x9 < (x6.length : Int) then ((impl_FieldSum.f (rd x6 x9) (1 + ((x1.length : Int) % 30))).bind fun t668 => (if x9 < (y664.length : Int) then ((some (y664.set (x9 : Int).toNat t668 : List Int)).bind fun y669 => ((impl_CodeFits.f k x5 y669 x7).bind fun t670 => (if t670 = true then (some false) else ((impl_CodeFits.f k x5 y669 x10).bind fun t671 => (some t671))))) else (none))) else (none)) else (none))) else (none)))
end
def laws_FnFits.f (k : Nat) (l0 : List Int) (l1 : List Int) : Option (Bool) := if (l0.length : Int) > 1048576 then (laws_FnFits.j0 k l0 l1 true) else (laws_FnFits.j0 k l0 l1 (decide ((l1.length : Int) > 1048576)))
set_option maxHeartbeats 8000000 in
set_option maxRecDepth 100000 in
theorem laws_FnFits.calls (k : Nat) (A0 : Option Addr) (c0 : Nat) (l0 : List Int) (A1 : Option Addr) (c1 : Nat) (l1 : List Int) (r : Bool) (w : World) (hr0 : Kd.C (Kd.int .u8) w A0 l0.length l0) (hc0 : l0.length ≤ c0) (hr1 : Kd.C (Kd.int .u8) w A1 l1.length l1) (hc1 : l1.length ≤ c1) (h : laws_FnFits.f k l0 l1 = some r) :
  Calls Try.prog 14 #[.slice A0 l0.length c0, .slice A1 l1.length c1] w fun e w' => e = .returned (.bool r) ∧ Below w.heap.size w w' := by
 have HR0 := Aside0.mk hr0
 have HC0 := Aside0.mk hc0
 clear hr0 hc0
 have HR1 := Aside0.mk hr1
 have HC1 := Aside0.mk hc1
 clear hr1 hc1
 have HB := Aside0.mk (Below.refl w.heap.size w)
 unfold laws_FnFits.f at h
 have H := h
 clear h
 have HC3 := Aside0.mk H
 clear H
 go_enter Try.func14, Try.ntmps14
 go_upto_region 1 with (fail)
 go_cut [19] (fun v19 wc => ∃ (kq : Nat) (x19_2 : Bool), v19 = .bool x19_2 ∧ Aside0 (laws_FnFits.j0 kq l0 l1 x19_2 = some r) ∧ Aside0 (kq ≤ k) ∧ Aside0 (Below w.heap.size w wc))
 case first =>
  have H := HC3.out
  clear HC3
  by_cases c4 : (l0.length : Int) > 1048576
  ·rw [if_pos c4] at H
   have c4b0 : decide (1048576 < (l0.length : Int)) = true := decide_eq_true c4; have c4b1 : decide (1048576 < l0.length) = true := decide_eq_true (by omega); clear c4; (first | rw [c4b0] | (simp only [i64_w, i32_w]; rw [c4b0]) | skip)
   have H' := Aside0.mk H
   clear H
   go_wp2
   go_meet
   case rel => exact ⟨_, (true), z20_11, H', ⟨by first | omega | exact Nat.le_refl _⟩, ⟨z20_0⟩⟩
  ·rw [if_neg c4] at H
   have c4b0 : decide (1048576 < (l0.length : Int)) = false := decide_eq_false c4; have c4b1 : decide (1048576 < l0.length) = false := decide_eq_false (by omega); clear c4; (first | rw [c4b0] | (simp only [i64_w, i32_w]; rw [c4b0]) | skip)
   have H' := Aside0.mk H
   clear H
   go_wp2
   go_meet
   case rel => exact ⟨_, (decide ((l1.length : Int) > 1048576)), z20_11, H', ⟨by first | omega | exact Nat.le_refl _⟩, ⟨z20_0⟩⟩
 case rest =>
  clear HC3
  try clear c1
  obtain ⟨kq, x19_2, rfl, HA, HJ2, HB⟩ := hcut
  cases kq with
  | zero => exact absurd HA.out (by simp [laws_FnFits.j0])
  | succ kj2 =>
   have H := HA.out
   clear HA; simp only [laws_FnFits.j0] at H
   by_cases c5 : x19_2 = true
   ·subst c5
    rw [if_pos rfl] at H
    obtain rfl := Option.some.inj H
    go_wp2
    go_ret; exact ⟨by first | rfl | (simp [errW_none, errW_some] <;> rfl) | (simp [*, errW_none, errW_some] <;> rfl), z20_0⟩
   ·replace c5 := Bool.eq_false_iff.mpr c5
    subst c5; rw [if_neg (show ¬ (false = true) by decide)] at H
    replace H := Option.bind_eq_some_iff.mp H
    obtain ⟨⟨t641, t642, t643⟩, A60, H⟩ := H
    dsimp only at H
    have A6 := Aside0.mk A60
    clear A60
    replace H := Option.bind_eq_some_iff.mp H
    obtain ⟨t648, A70, H⟩ := H
    have A7 := Aside0.mk A70
    clear A70
    have HC8 := Aside0.mk H
    clear H
    go_upto_region 5 with (first | ((with_reducible refine gate_callee (f := 49) rfl ?_); refine goesL_ (some 22) rfl rfl Try.func49 (by kernel_rfl) rfl #[.slice A0 l0.length c0] rfl z20_5 ?_; (with_reducible refine (spec_DrawCodeFits.calls kj2 _ _ l0 t641 t642 t643 _ ?side1 ?side2 A6.out).mono ?_); (case side1 => exact cZ ((Kd.C_below HR0.out HB.out))); (case side2 => exact HC0.out); rintro e w9 ⟨v644, v646, rfl, ho0, ho1, hb⟩; refine ⟨_, rfl, ?_⟩; have HO645 := Aside0.mk (Kd.R_lower ho0 (below_size z20_0)); have HO647 := Aside0.mk (Kd.Q_lower ho1 (below_size z20_0)); replace HB := Aside0.mk (below_step z20_0 hb); (try clear hb); (try clear ho0); (try clear ho1); obtain ⟨Ao10, co10, eo10⟩ := Kd.R_slice HO645.out; subst eo10; obtain ⟨Ao11, co11, eo11, _⟩ := Kd.Q_slice HO647.out; subst eo11) | ((with_reducible refine gate_callee (f := 45) rfl ?_); refine goesL_ (some 29) rfl rfl Try.func45 (by kernel_rfl) rfl #[.int .i64 t641, .slice Ao10 t642.length co10, .slice Ao11 t643.length co11] rfl z20_5 ?_; (with_reducible refine (impl_CodeFits.calls kj2 t641 _ _ t642 _ _ t643 t648 _ ?side1 ?side2 ?side3 ?side4 A7.out).mono ?_); (case side1 => exact cZ ((Kd.R_reads' HO645.out).2.2)); (case side2 => exact (Kd.R_reads' HO645.out).2.1); (case side3 => exact cZ ((Kd.Q_reads' HO647.out).2.2)); (case side4 => exact (Kd.Q_reads' HO647.out).2.1); rintro e w12 ⟨rfl, hb⟩; refine ⟨_, rfl, ?_⟩; replace HO645 := Aside0.mk (Kd.R_below z20_7 hb); replace HO647 := Aside0.mk (Kd.Q_below z20_8 hb); replace HB := Aside0.mk (below_step z20_0 hb); (try clear hb)))
    (try simp only [Act.put, List.setIfInBounds_toArray, List.set_cons_zero, List.set_cons_succ])
    go_cut [39] (fun v39 wc => ∃ (kq : Nat) (x39_7 : Bool), v39 = .bool x39_7 ∧ Aside0 (laws_FnFits.j1 kq l1 t641 t642 t643 t648 x39_7 = some r) ∧ Aside0 (kq ≤ kj2) ∧ Aside0 (Kd.R (Kd.int .i64) 3 wc w.heap.size (fun _ => True) (.slice Ao10 t642.length co10) t642) ∧ Aside0 (Kd.Q Kd.bool 4 wc w.heap.size (fun _ => True) (.slice Ao11 t643.length co11) t643) ∧ Aside0 (Below w.heap.size w wc))
    case first =>
     have H := HC8.out
     clear HC8
     replace H := Option.bind_eq_some_iff.mp H
     obtain ⟨t649, A130, H⟩ := H
     have A13 := Aside0.mk A130
     clear A130
     by_cases c14 : (t648 != t649) = true
     ·rw [if_pos c14] at H
      have c14b0 : (t648 != t649) = true := c14
      (try (have c14b1 : decide (t648 = t649) = false := by simpa using c14)); (try (have c14b2 : (t648 == t649) = false := by simpa using c14)); (try (have c14b3 : ¬ (t648 = t649) := by simpa using c14)); clear c14; (first | rw [c14b0] | (simp only [i64_w, i32_w]; rw [c14b0]) | skip)
      have H' := Aside0.mk H
      clear H
      go_wp2_with (first | ((with_reducible refine gate_callee (f := 46) rfl ?_); refine goesL_ (some 34) rfl rfl Try.func46 (by kernel_rfl) rfl #[.int .i64 t641, .slice Ao10 t642.length co10, .slice Ao11 t643.length co11] rfl z20_5 ?_; (with_reducible refine (spec_CodeFits.calls kj2 t641 _ _ t642 _ _ t643 t649 _ ?side1 ?side2 ?side3 ?side4 A13.out).mono ?_); (case side1 => exact cZ ((Kd.R_reads' HO645.out).2.2)); (case side2 => exact (Kd.R_reads' HO645.out).2.1); (case side3 => exact cZ ((Kd.Q_reads' HO647.out).2.2)); (case side4 => exact (Kd.Q_reads' HO647.out).2.1); rintro e w15 ⟨rfl, hb⟩; refine ⟨_, rfl, ?_⟩; replace HO645 := Aside0.mk (Kd.R_below z20_7 hb); replace HO647 := Aside0.mk (Kd.Q_below z20_8 hb); replace HB := Aside0.mk (below_step z20_0 hb); (try clear hb)))
      go_meet
      case rel => exact ⟨_, (true), z20_11, H', ⟨by have := HJ2.out; first | omega | exact Nat.le_refl _⟩, ⟨z20_7⟩, ⟨z20_8⟩, ⟨z20_0⟩⟩
     ·rw [if_neg c14] at H
      have c14b0 : (t648 != t649) = false := by simpa using c14
      (try (have c14b1 : decide (t648 = t649) = true := by simpa using c14)); (try (have c14b2 : (t648 == t649) = true := by simpa using c14)); clear c14; (first | rw [c14b0] | (simp only [i64_w, i32_w]; rw [c14b0]) | skip)
      have H' := Aside0.mk H
      clear H
      go_wp2_with (first | ((with_reducible refine gate_callee (f := 46) rfl ?_); refine goesL_ (some 34) rfl rfl Try.func46 (by kernel_rfl) rfl #[.int .i64 t641, .slice Ao10 t642.length co10, .slice Ao11 t643.length co11] rfl z20_5 ?_; (with_reducible refine (spec_CodeFits.calls kj2 t641 _ _ t642 _ _ t643 t649 _ ?side1 ?side2 ?side3 ?side4 A13.out).mono ?_); (case side1 => exact cZ ((Kd.R_reads' HO645.out).2.2)); (case side2 => exact (Kd.R_reads' HO645.out).2.1); (case side3 => exact cZ ((Kd.Q_reads' HO647.out).2.2)); (case side4 => exact (Kd.Q_reads' HO647.out).2.1); rintro e w16 ⟨rfl, hb⟩; refine ⟨_, rfl, ?_⟩; replace HO645 := Aside0.mk (Kd.R_below z20_7 hb); replace HO647 := Aside0.mk (Kd.Q_below z20_8 hb); replace HB := Aside0.mk (below_step z20_0 hb); (try clear hb)))
      go_meet
      case rel => exact ⟨_, (!t648), z20_11, H', ⟨by have := HJ2.out; first | omega | exact Nat.le_refl _⟩, ⟨z20_7⟩, ⟨z20_8⟩, ⟨z20_0⟩⟩
    case rest =>
     clear HC8
     try clear c1
     try clear c5
     obtain ⟨kq, x39_7, rfl, HA, HJ7, HO_6, HO_7, HB⟩ := hcut
     cases kq with
     | zero => exact absurd HA.out (by simp [laws_FnFits.j1])
     | succ kj7 =>
      have H := HA.out
      clear HA; simp only [laws_FnFits.j1] at H
      by_cases c17 : x39_7 = true
      ·subst c17
       rw [if_pos rfl] at H
       replace H := Option.bind_eq_some_iff.mp H
       obtain ⟨t650, A180, H⟩ := H
       have A18 := Aside0.mk A180
       clear A180
       obtain rfl := Option.some.inj H
       go_wp2_with (first | ((with_reducible refine gate_callee (f := 46) rfl ?_); refine goesL_ (some 44) rfl rfl Try.func46 (by kernel_rfl) rfl #[.int .i64 t641, .slice Ao10 t642.length co10, .slice Ao11 t643.length co11] rfl z20_5 ?_; (with_reducible refine (spec_CodeFits.calls kj7 t641 _ _ t642 _ _ t643 t650 _ ?side1 ?side2 ?side3 ?side4 A18.out).mono ?_); (case side1 => exact cZ ((Kd.R_reads' HO_6.out).2.2)); (case side2 => exact (Kd.R_reads' HO_6.out).2.1); (case side3 => exact cZ ((Kd.Q_reads' HO_7.out).2.2)); (case side4 => exact (Kd.Q_reads' HO_7.out).2.1); rintro e w19 ⟨rfl, hb⟩; refine ⟨_, rfl, ?_⟩; replace HO_6 := Aside0.mk (Kd.R_below z20_1 hb); replace HO_7 := Aside0.mk (Kd.Q_below z20_2 hb); replace HB := Aside0.mk (below_step z20_0 hb); (try clear hb)))
       go_ret; exact ⟨by first | rfl | (simp [errW_none, errW_some] <;> rfl) | (simp [*, errW_none, errW_some] <;> rfl), z20_0⟩
      ·replace c17 := Bool.eq_false_iff.mpr c17
       subst c17; rw [if_neg (show ¬ (false = true) by decide)] at H
       obtain ⟨y651, hy651⟩ : ∃ y_ : List Bool, y_ = (([] : List Bool)) := ⟨_, rfl⟩
       replace H : (if y651.length + t643.length < 140737488355328 then ((some (y651 ++ t643 : List Bool)).bind fun y654 => (if 0 ≤ ((l1.length : Int) % 8) then (if ((l1.length : Int) % 8) < (y654.length : Int) then ((some (y654.set (((l1.length : Int) % 8) : Int).toNat false : List Bool)).bind fun y657 => (if ((l1.length : Int) % 8) < (t643.length : Int) then (if (rdOf false t643 ((l1.length : Int) % 8) = true) then ((impl_CodeBears.f kj7 t641 y657).bind fun t659 => (laws_FnFits.j2 kj7 l1 t641 t642 t643 ((l1.length : Int) % 8) y657 (!t659))) else (laws_FnFits.j2 kj7 l1 t641 t642 t643 ((l1.length : Int) % 8) y657 true)) else (none))) else (none)) else (none))) else (none)) = some r := yZZ_ hy651 H
       have Ny651 := Aside0.mk hy651
       clear hy651; obtain ⟨c20, H⟩ := ifP H
       have LMc20 := Aside0.mk c20
       clear c20
       obtain ⟨y654, hy654⟩ : ∃ y_ : List Bool, y_ = (y651 ++ t643) := ⟨_, rfl⟩
       replace H : (if 0 ≤ ((l1.length : Int) % 8) then (if ((l1.length : Int) % 8) < (y654.length : Int) then ((some (y654.set (((l1.length : Int) % 8) : Int).toNat false : List Bool)).bind fun y657 => (if ((l1.length : Int) % 8) < (t643.length : Int) then (if (rdOf false t643 ((l1.length : Int) % 8) = true) then ((impl_CodeBears.f kj7 t641 y657).bind fun t659 => (laws_FnFits.j2 kj7 l1 t641 t642 t643 ((l1.length : Int) % 8) y657 (!t659))) else (laws_FnFits.j2 kj7 l1 t641 t642 t643 ((l1.length : Int) % 8) y657 true)) else (none))) else (none)) else (none)) = some r := yZZ_ hy654 H
       have Ny654 := Aside0.mk hy654
       clear hy654
       obtain ⟨ji21, hji21⟩ : ∃ j_ : Int, ((l1.length : Int) % 8) = j_ := ⟨_, rfl⟩
       replace H : (if 0 ≤ (ji21) then (if (ji21) < (y654.length : Int) then ((some (y654.set ((ji21) : Int).toNat false : List Bool)).bind fun y657 => (if (ji21) < (t643.length : Int) then (if (rdOf false t643 (ji21) = true) then ((impl_CodeBears.f kj7 t641 y657).bind fun t659 => (laws_FnFits.j2 kj7 l1 t641 t642 t643 ji21 y657 (!t659))) else (laws_FnFits.j2 kj7 l1 t641 t642 t643 ji21 y657 true)) else (none))) else (none)) else (none)) = some r := by first | (rw [hji21] at H; exact H) | (simp only [hji21] at H ⊢; exact H)
       obtain ⟨c22, H⟩ := ifP H; have c22b0 : decide (0 ≤ (ji21)) = true := decide_eq_true c22; clear c22; obtain ⟨c23, H⟩ := ifP H; have c23b0 : decide ((ji21) < (y654.length : Int)) = true := decide_eq_true c23; clear c23
       obtain ⟨y657, hy657⟩ : ∃ y_ : List Bool, y_ = (y654.set ((ji21) : Int).toNat false) := ⟨_, rfl⟩
       replace H : (if (ji21) < (t643.length : Int) then (if (rdOf false t643 (ji21) = true) then ((impl_CodeBears.f kj7 t641 y657).bind fun t659 => (laws_FnFits.j2 kj7 l1 t641 t642 t643 ji21 y657 (!t659))) else (laws_FnFits.j2 kj7 l1 t641 t642 t643 ji21 y657 true)) else (none)) = some r := yZZ_ hy657 H
       have Ny657 := Aside0.mk hy657
       clear hy657
       have HC25 := Aside0.mk H
       clear H
       go_upto_region 10 with (first | ((with_reducible refine gate_dst (N := 49) rfl ?_); (try (refine gate_guard (by rfl) ?_; dsimp only)); refine Kd.R_lit Kd.bool _ 4 ?hg (N := 49) ?hd (xs := ([] : List Bool)) (inner := []) (ok := fun _ => True) (okp := fun _ => True) ?hr ?hp (fun _ hk => hk) trivial (Below.refl _ _) (Nat.le_refl _) (by simp) ?_; (case hd => rfl); (case hg => rfl); (case hr => first | (go_simp; done) | (go_simp; rfl)); (case hp => exact (Reps.none _ _)); intro v652 w26 ho27 hb hg_ hnew_; clear hg_ hnew_; (first | rw [← Ny651.out] at ho27 | (simp only [Int.reduceToNat] at ho27; rw [← Ny651.out] at ho27)); replace HO_6 := Aside0.mk (Kd.R_below z20_1 hb); have HO653 := Aside0.mk (Kd.R_lower (Kd.R_new' ho27 (Kd.Q_lt z20_2)) (below_size z20_0)); replace HO_7 := Aside0.mk (Kd.Q_elder' z20_2 (Kd.R_base ho27) hb); replace HB := Aside0.mk (below_step z20_0 hb); clear hb ho27) | ((with_reducible refine gate_builtin (b := .append) (xs := #[.tmp 49, .tmp 50]) rfl ?_); (try (refine gate_guard (by rfl) ?_; dsimp only)); at_builtin; refine Kd.R_append_rows Kd.bool (w0 := w) w.heap.size rfl (.tmp 49) (.tmp 50) 36 4 (.bool false) 1 rfl Try.underlying36 info4 rfl (by decide) (by omega) v652 y651 t643 _ _ _ (fun k_ => some k_ ≠ (.slice Ao11 t643.length co11 : Value).ownBlock) (fun _ => False) rfl rfl ?aO ?aR (fun _ _ h => h) (fun _ h => h.elim) ?aF ?aB ?aS ?aL ?_; (case aR => repeat (first | exact (Kd.Q_reads' HO_7.out).2.2 | (with_reducible refine Kd.C_alloc ?_ _) | (with_reducible refine Kd.C_drewN ?_ _) | (with_reducible refine Kd.C_drew ?_))); (case aB => exact z20_0); (case aF => exact (fun k_ hk => Kd.fresh' (Kd.Q_lt z20_2) k_ hk)); (case aO => exact (by (with_reducible repeat (first | apply Kd.R_alloc | apply Kd.R_drewN | apply Kd.R_drew)); exact Kd.R_mono HO653.out (fun _ hk => hk.2))); (case aS => exact (below_size z20_0)); (case aL => have := LMc20.out; omega); intro v655 w28 ho hb hg hat; rw [← Ny654.out] at ho; have n0_ := Aside0.mk (Kd.R_over' z20_1 (Kd.R_typed (by (with_reducible repeat (first | apply Kd.R_alloc | apply Kd.R_drewN | apply Kd.R_drew)); exact HO653.out)) (by decide) hg); have n1_ := Aside0.mk (Kd.Q_after (ok := (fun _ => True)) z20_2 hg hat); have n2_ := Aside0.mk (hb); have n3_ := Aside0.mk (ho); clear HO_6; clear HO_7; clear HB; clear HO653; have HO_6 := n0_; have HO_7 := n1_; have HB := n2_; have HO656 := n3_; clear n0_ n1_ n2_ n3_; clear ho hb hg hat; have p24 : 0 ≤ ((ji21) : Int) := of_decide_eq_true z20_4; have q24 : ((ji21) : Int) < ((y654.length : Int) : Int) := of_decide_eq_true z20_4; obtain ⟨go24, co24, eo24, gb24, gl24, cl24, HG24⟩ := Kd.R_form HO656.out (by omega); (first | cases eo24 | (injection eo24 with ea_ en_ ec_; (first | subst ea_ | (injection ea_ with ea_; subst ea_)); subst ec_; clear en_)); have GB24 := Aside0.mk gb24; have GG24 := Aside0.mk HG24; clear gb24 gl24 HG24; obtain ⟨hx24_0, hf24_0⟩ := Kd.R_celln false HO656.out ((ji21) : Int) p24 q24; replace p24 := eq_true p24; replace q24 := eq_true q24; obtain ⟨hy29_, hz29_⟩ := Kd.R_celln false HO656.out ((ji21) : Int) (of_decide_eq_true z20_4) (of_decide_eq_true z20_4); have HP29 := Kd.R_putg HO656.out ((ji21) : Int) false) | ((with_reducible refine gate_store (t := 4) (p := 54) rfl ?_); refine store_event (t := 4) (p := 54) (v := ?vo_w30) (w1 := (w28.setCell ⟨go24, ((ji21) : Int).toNat, none⟩ (.bool false))) ?hg ?ho ?hn ?hr ?_; (case ho => rfl); (case hg => rfl); (case hn => rfl); (case hr => first | (go_simp; done) | (go_simp; rfl)); intro w30 hw; have hg : w28.grownBy w30 (some go24) := (by rw [hw]; exact HP29.2); have hp_ : Kd.R Kd.bool 4 w30 w.heap.size (fun k_ => some k_ ≠ (.slice Ao11 t643.length co11 : Value).ownBlock) (.slice (some ⟨go24, 0, none⟩) y654.length co24) y657 := (by rw [hw, Ny657.out]; exact HP29.1); clear HP29; replace HO_6 := Aside0.mk (Kd.R_over' (v := (.slice (some ⟨go24, 0, none⟩) y654.length co24)) z20_1 (Kd.R_typed HO656.out) (by decide) hg); replace HO_7 := Aside0.mk (Kd.Q_after (v := (.slice (some ⟨go24, 0, none⟩) y654.length co24)) (v1 := (.slice (some ⟨go24, 0, none⟩) y654.length co24)) (ok := (fun _ => True)) (by first | exact z20_2 | exact Kd.R_mono HO_6.out (fun _ hk => ⟨trivial, hk⟩)) hg (.inl rfl)); replace HO656 := Aside0.mk (hp_); replace HB := Aside0.mk ((by rw [hw]; exact below_set (HB.out) GB24.out : Below w.heap.size w w30)); clear hg hw hp_))
       (try simp only [Act.put, List.setIfInBounds_toArray, List.set_cons_zero, List.set_cons_succ])
       go_cut [65] (fun v65 wc => ∃ (kq : Nat) (x65_24 : Bool), v65 = .bool x65_24 ∧ Aside0 (laws_FnFits.j2 kq l1 t641 t642 t643 ji21 y657 x65_24 = some r) ∧ Aside0 (kq ≤ kj7) ∧ Aside0 (Kd.R (Kd.int .i64) 3 wc w.heap.size (fun _ => True) (.slice Ao10 t642.length co10) t642) ∧ Aside0 (Kd.Q Kd.bool 4 wc w.heap.size (fun k_ => some k_ ≠ ((.slice (some ⟨go24, 0, none⟩) y654.length co24) : Value).ownBlock) (.slice Ao11 t643.length co11) t643) ∧ Aside0 (Kd.R Kd.bool 4 wc w.heap.size (fun k_ => some k_ ≠ ((.slice Ao11 t643.length co11) : Value).ownBlock) (.slice (some ⟨go24, 0, none⟩) y654.length co24) y657) ∧ Aside0 (Below w.heap.size w wc))
       case first =>
        have H := HC25.out
        clear HC25; obtain ⟨c31, H⟩ := ifP H; have c31b0 : decide ((ji21) < (t643.length : Int)) = true := decide_eq_true c31; clear c31; (first | rw [c31b0] | (simp only [i64_w, i32_w]; rw [c31b0]) | skip)
        obtain ⟨bq32, hbq32⟩ : ∃ b_ : Bool, b_ = (rdOf false t643 (ji21)) := ⟨_, rfl⟩
        replace H : (if (bq32 = true) then ((impl_CodeBears.f kj7 t641 y657).bind fun t659 => (laws_FnFits.j2 kj7 l1 t641 t642 t643 ji21 y657 (!t659))) else (laws_FnFits.j2 kj7 l1 t641 t642 t643 ji21 y657 true)) = some r := by rw [← hbq32] at H; exact H
        have Nbq32 := Aside0.mk hbq32
        clear hbq32
        by_cases c33 : (bq32 = true)
        ·subst c33
         rw [if_pos rfl] at H
         replace H := Option.bind_eq_some_iff.mp H
         obtain ⟨t659, A340, H⟩ := H
         have A34 := Aside0.mk A340
         clear A340
         have H' := Aside0.mk H
         clear H; have p658 : 0 ≤ ((ji21) : Int) := of_decide_eq_true z20_4
         have q658 : (ji21) < (t643.length : Int) := of_decide_eq_true z20_4
         obtain ⟨ad658, e658, hx658_0⟩ := Kd.at_bool (Kd.Q_reads' HO_7.out).2.2 (ji21) p658 q658; (try rw [← Nbq32.out] at hx658_0); cases e658
         replace p658 := eq_true p658
         replace q658 := eq_true q658
         go_wp2_with (first | (go_at_call 29; refine calls_of_args (args' := #[.int .i64 t641, .slice (some ⟨go24, 0, none⟩) y657.length co24]) (by first | (rw [show y657.length = y654.length from (Kd.R_reads' HO656.out).1.symm] <;> rfl) | rfl) ?_; (with_reducible refine (impl_CodeBears.calls kj7 t641 _ _ y657 t659 _ ?side1 ?side2 A34.out).mono ?_); (case side1 => exact cZ ((Kd.R_reads' HO656.out).2.2)); (case side2 => rw [show y657.length = y654.length from (Kd.R_reads' HO656.out).1.symm]; exact (Kd.R_reads' HO656.out).2.1); rintro e w35 ⟨rfl, hb⟩; replace HO_6 := Aside0.mk (Kd.R_below z20_1 hb); replace HO_7 := Aside0.mk (Kd.Q_below z20_2 hb); replace HO656 := Aside0.mk (Kd.R_below z20_13 hb); replace HB := Aside0.mk (below_step z20_0 hb); (try clear hb)))
         go_meet
         case rel => exact ⟨_, (!t659), z20_11, H', ⟨by have := HJ2.out; have := HJ7.out; first | omega | exact Nat.le_refl _⟩, ⟨z20_1⟩, ⟨z20_17⟩, ⟨z20_13⟩, ⟨z20_0⟩⟩
        ·replace c33 := Bool.eq_false_iff.mpr c33
         subst c33; rw [if_neg (show ¬ (false = true) by decide)] at H
         have H' := Aside0.mk H
         clear H; have p658 : 0 ≤ ((ji21) : Int) := of_decide_eq_true z20_4
         have q658 : (ji21) < (t643.length : Int) := of_decide_eq_true z20_4
         obtain ⟨ad658, e658, hx658_0⟩ := Kd.at_bool (Kd.Q_reads' HO_7.out).2.2 (ji21) p658 q658; (try rw [← Nbq32.out] at hx658_0); cases e658
         replace p658 := eq_true p658
         replace q658 := eq_true q658
         go_wp2
         go_meet
         case rel => exact ⟨_, (true), z20_11, H', ⟨by have := HJ2.out; have := HJ7.out; first | omega | exact Nat.le_refl _⟩, ⟨z20_1⟩, ⟨z20_17⟩, ⟨z20_13⟩, ⟨z20_0⟩⟩
       case rest =>
        clear HC25
        try clear c1
        try clear c5
        try clear c17
        try clear c20
        try clear c22
        try clear c22b0
        try clear c23
        try clear c23b0
        try clear p24
        try clear q24
        try clear hx24_0
        try clear p24
        try clear q24
        obtain ⟨kq, x65_24, rfl, HA, HJ24, HO_6, HO_7, HO_10, HB⟩ := hcut
        have hl10_24 := (Kd.R_reads' HO_10.out).1
        rw [hl10_24] at HO_10; (try simp only [hl10_24]); (try simp only [hl10_24] at HO_6); (try simp only [hl10_24] at HO_7)
        cases kq with
        | zero => exact absurd HA.out (by simp [laws_FnFits.j2])
        | succ kj24 =>
         have H := HA.out
         clear HA; simp only [laws_FnFits.j2] at H
         by_cases c36 : x65_24 = true
         ·subst c36
          rw [if_pos rfl] at H
          replace H := Option.bind_eq_some_iff.mp H
          obtain ⟨t660, A370, H⟩ := H
          have A37 := Aside0.mk A370
          clear A370
          obtain rfl := Option.some.inj H
          go_wp2_with (first | ((with_reducible refine gate_callee (f := 45) rfl ?_); refine goesL_ (some 69) rfl rfl Try.func45 (by kernel_rfl) rfl #[.int .i64 t641, .slice Ao10 t642.length co10, .slice (some ⟨go24, 0, none⟩) y657.length co24] rfl z20_5 ?_; (with_reducible refine (impl_CodeFits.calls kj24 t641 _ _ t642 _ _ y657 t660 _ ?side1 ?side2 ?side3 ?side4 A37.out).mono ?_); (case side1 => exact cZ ((Kd.R_reads' HO_6.out).2.2)); (case side2 => exact (Kd.R_reads' HO_6.out).2.1); (case side3 => exact cZ ((Kd.R_reads' HO_10.out).2.2)); (case side4 => exact (Kd.R_reads' HO_10.out).2.1); rintro e w38 ⟨rfl, hb⟩; refine ⟨_, rfl, ?_⟩; replace HO_6 := Aside0.mk (Kd.R_below z20_1 hb); replace HO_7 := Aside0.mk (Kd.Q_below z20_2 hb); replace HO_10 := Aside0.mk (Kd.R_below z20_3 hb); replace HB := Aside0.mk (below_step z20_0 hb); (try clear hb)))
          go_ret; exact ⟨z20_9, z20_0⟩
         ·replace c36 := Bool.eq_false_iff.mpr c36
          subst c36; rw [if_neg (show ¬ (false = true) by decide)] at H
          obtain ⟨y661, hy661⟩ : ∃ y_ : List Int, y_ = (([] : List Int)) := ⟨_, rfl⟩
          replace H : (if y661.length + t642.length < 17592186044416 then ((some (y661 ++ t642 : List Int)).bind fun y664 => (if 0 ≤ ji21 then (if ji21 < (t642.length : Int) then ((impl_FieldSum.f (rd t642 ji21) (1 + ((l1.length : Int) % 30))).bind fun t668 => (if ji21 < (y664.length : Int) then ((some (y664.set (ji21 : Int).toNat t668 : List Int)).bind fun y669 => ((impl_CodeFits.f kj24 t641 y669 t643).bind fun t670 => (if t670 = true then (some false) else ((impl_CodeFits.f kj24 t641 y669 y657).bind fun t671 => (some t671))))) else (none))) else (none)) else (none))) else (none)) = some r := yZZ_ hy661 H
          have Ny661 := Aside0.mk hy661
          clear hy661; obtain ⟨c39, H⟩ := ifP H
          have LMc39 := Aside0.mk c39
          clear c39
          obtain ⟨y664, hy664⟩ : ∃ y_ : List Int, y_ = (y661 ++ t642) := ⟨_, rfl⟩
          replace H : (if 0 ≤ ji21 then (if ji21 < (t642.length : Int) then ((impl_FieldSum.f (rd t642 ji21) (1 + ((l1.length : Int) % 30))).bind fun t668 => (if ji21 < (y664.length : Int) then ((some (y664.set (ji21 : Int).toNat t668 : List Int)).bind fun y669 => ((impl_CodeFits.f kj24 t641 y669 t643).bind fun t670 => (if t670 = true then (some false) else ((impl_CodeFits.f kj24 t641 y669 y657).bind fun t671 => (some t671))))) else (none))) else (none)) else (none)) = some r := yZZ_ hy664 H
          have Ny664 := Aside0.mk hy664
          clear hy664; obtain ⟨c40, H⟩ := ifP H; have c40b0 : decide (0 ≤ ji21) = true := decide_eq_true c40; clear c40; obtain ⟨c41, H⟩ := ifP H; have c41b0 : decide (ji21 < (t642.length : Int)) = true := decide_eq_true c41; clear c41
          replace H := Option.bind_eq_some_iff.mp H
          obtain ⟨t668, A420, H⟩ := H
          have A42 := Aside0.mk A420
          clear A420; obtain ⟨c43, H⟩ := ifP H; have c43b0 : decide (ji21 < (y664.length : Int)) = true := decide_eq_true c43; clear c43
          obtain ⟨y669, hy669⟩ : ∃ y_ : List Int, y_ = (y664.set (ji21 : Int).toNat t668) := ⟨_, rfl⟩
          replace H : ((impl_CodeFits.f kj24 t641 y669 t643).bind fun t670 => (if t670 = true then (some false) else ((impl_CodeFits.f kj24 t641 y669 y657).bind fun t671 => (some t671)))) = some r := yZZ_ hy669 H
          have Ny669 := Aside0.mk hy669
          clear hy669
          replace H := Option.bind_eq_some_iff.mp H
          obtain ⟨t670, A450, H⟩ := H
          have A45 := Aside0.mk A450
          clear A450
          by_cases c46 : t670 = true
          ·subst c46
           rw [if_pos rfl] at H
           obtain rfl := Option.some.inj H
           go_wp2_with (first | ((with_reducible refine gate_dst (N := 70) rfl ?_); (try (refine gate_guard (by rfl) ?_; dsimp only)); refine Kd.R_lit (Kd.int .i64) _ 3 ?hg (N := 70) ?hd (xs := ([] : List Int)) (inner := []) (ok := fun _ => True) (okp := fun _ => True) ?hr ?hp (fun _ hk => hk) trivial (Below.refl _ _) (Nat.le_refl _) (by simp) ?_; (case hd => rfl); (case hg => rfl); (case hr => first | (go_simp; done) | (go_simp; rfl)); (case hp => exact (Reps.none _ _)); intro v662 w47 ho48 hb hg_ hnew_; clear hg_ hnew_; (first | rw [← Ny661.out] at ho48 | (simp only [Int.reduceToNat] at ho48; rw [← Ny661.out] at ho48)); replace HO_7 := Aside0.mk (Kd.Q_below z20_2 hb); replace HO_10 := Aside0.mk (Kd.R_below z20_3 hb); have HO663 := Aside0.mk (Kd.R_lower (Kd.R_new' ho48 (Kd.R_lt z20_1)) (below_size z20_0)); replace HO_6 := Aside0.mk (Kd.R_elder' z20_1 (Kd.R_base ho48) hb); replace HB := Aside0.mk (below_step z20_0 hb); clear hb ho48) | ((with_reducible refine gate_builtin (b := .append) (xs := #[.tmp 70, .tmp 71]) rfl ?_); (try (refine gate_guard (by rfl) ?_; dsimp only)); at_builtin; refine Kd.R_append_rows (Kd.int .i64) (w0 := w) w.heap.size rfl (.tmp 70) (.tmp 71) 28 3 (.int .i64 0) 8 rfl Try.underlying28 info3 rfl (by decide) (by omega) v662 y661 t642 _ _ _ (fun k_ => some k_ ≠ (.slice Ao10 t642.length co10 : Value).ownBlock) (fun _ => False) rfl rfl ?aO ?aR (fun _ _ h => h) (fun _ h => h.elim) ?aF ?aB ?aS ?aL ?_; (case aR => repeat (first | exact (Kd.R_reads' HO_6.out).2.2 | (with_reducible refine Kd.C_alloc ?_ _) | (with_reducible refine Kd.C_drewN ?_ _) | (with_reducible refine Kd.C_drew ?_))); (case aB => exact z20_0); (case aF => exact (fun k_ hk => Kd.fresh' (Kd.R_lt z20_1) k_ hk)); (case aO => exact z20_16); (case aS => exact (below_size z20_0)); (case aL => have := LMc39.out; omega); intro v665 w49 ho hb hg hat; rw [← Ny664.out] at ho; have n0_ := Aside0.mk (Kd.R_after (ok := (fun _ => True)) z20_1 hg hat); have n1_ := Aside0.mk (Kd.Q_over' z20_2 (Kd.R_typed z20_10) (by decide) hg); have n2_ := Aside0.mk (Kd.R_over' z20_3 (Kd.R_typed z20_10) (by decide) hg); have n3_ := Aside0.mk (hb); have n4_ := Aside0.mk (ho); clear HO_6; clear HO_7; clear HO_10; clear HB; clear HO663; have HO_6 := n0_; have HO_7 := n1_; have HO_10 := n2_; have HB := n3_; have HO666 := n4_; clear n0_ n1_ n2_ n3_ n4_; clear ho hb hg hat; have p667 : 0 ≤ (ji21 : Int) := of_decide_eq_true z20_4; have q667 : ji21 < (t642.length : Int) := of_decide_eq_true z20_4; obtain ⟨ad667, e667, hx667_0⟩ := Kd.at_int (Kd.R_reads' HO_6.out).2.2 ji21 p667 q667; cases e667; replace p667 := eq_true p667; replace q667 := eq_true q667) | ((with_reducible refine gate_callee (f := 50) rfl ?_); refine goesL_ (some 83) rfl rfl Try.func50 (by kernel_rfl) rfl #[.int .i64 (rd t642 ji21), .int .i64 (1 + ((l1.length : Int) % 30))] rfl z20_14 ?_; (with_reducible refine (impl_FieldSum.calls (rd t642 ji21) (1 + ((l1.length : Int) % 30)) t668 _ A42.out).mono ?_); rintro e w' ⟨rfl, ⟨nd, rfl⟩⟩; refine ⟨_, rfl, ?_⟩; (try (rw [drewN_self w49]; generalize hq_ : World.drewN w49 _ = w49; have n0_ : Aside0 (Kd.R (Kd.int .i64) 3 w49 w.heap.size (fun k_ => some k_ ≠ (.slice (some ad667) t642.length co10 : Value).ownBlock) v665 y664) := ⟨by rw [← hq_]; exact z20_6⟩; have n1_ : Aside0 (Kd.R Kd.bool 4 w49 w.heap.size (fun k_ => some k_ ≠ (.slice Ao11 t643.length co11 : Value).ownBlock) (.slice (some ⟨go24, 0, none⟩) y657.length co24) y657) := ⟨by rw [← hq_]; exact z20_3⟩; have n2_ : Aside0 (Kd.R (Kd.int .i64) 3 w49 w.heap.size (fun k_ => some k_ ≠ (v665 : Value).ownBlock) (.slice (some ad667) t642.length co10) t642) := ⟨z20_15⟩; have n3_ : Aside0 (Kd.Q Kd.bool 4 w49 w.heap.size (fun k_ => some k_ ≠ (.slice (some ⟨go24, 0, none⟩) y657.length co24 : Value).ownBlock) (.slice Ao11 t643.length co11) t643) := ⟨by rw [← hq_]; exact z20_2⟩; have n4_ : Aside0 (Below w.heap.size w w49) := ⟨by rw [← hq_]; exact z20_0⟩; clear HO666 HO_10 HO_6 HO_7 HB hq_; have HO666 := n0_; have HO_10 := n1_; have HO_6 := n2_; have HO_7 := n3_; have HB := n4_; clear n0_ n1_ n2_ n3_ n4_)); have p44 : 0 ≤ (ji21 : Int) := of_decide_eq_true z20_4; have q44 : (ji21 : Int) < ((y664.length : Int) : Int) := of_decide_eq_true z20_4; obtain ⟨go44, co44, eo44, gb44, gl44, cl44, HG44⟩ := Kd.R_form HO666.out (by omega); (first | cases eo44 | (injection eo44 with ea_ en_ ec_; (first | subst ea_ | (injection ea_ with ea_; subst ea_)); subst ec_; clear en_)); have GB44 := Aside0.mk gb44; have GG44 := Aside0.mk HG44; clear gb44 gl44 HG44; obtain ⟨hx44_0, hf44_0⟩ := Kd.R_celln 0 HO666.out (ji21 : Int) p44 q44; replace p44 := eq_true p44; replace q44 := eq_true q44; obtain ⟨hy50_, hz50_⟩ := Kd.R_celln 0 HO666.out (ji21 : Int) (of_decide_eq_true z20_4) (of_decide_eq_true z20_4); have HP50 := Kd.R_putg HO666.out (ji21 : Int) t668) | ((with_reducible refine gate_store (t := 3) (p := 84) rfl ?_); refine store_event (t := 3) (p := 84) (v := ?vo_w51) (w1 := (w49.setCell ⟨go44, (ji21 : Int).toNat, none⟩ (.int .i64 t668))) ?hg ?ho ?hn ?hr ?_; (case ho => rfl); (case hg => rfl); (case hn => rfl); (case hr => first | (go_simp; done) | (go_simp; rfl)); intro w51 hw; have hg : w49.grownBy w51 (some go44) := (by rw [hw]; exact HP50.2); have hp_ : Kd.R (Kd.int .i64) 3 w51 w.heap.size (fun k_ => some k_ ≠ (.slice (some ad667) t642.length co10 : Value).ownBlock) (.slice (some ⟨go44, 0, none⟩) y664.length co44) y669 := (by rw [hw, Ny669.out]; exact HP50.1); clear HP50; replace HO_6 := Aside0.mk (Kd.R_after (v := (.slice (some ⟨go44, 0, none⟩) y664.length co44)) (v1 := (.slice (some ⟨go44, 0, none⟩) y664.length co44)) (ok := (fun _ => True)) (by first | exact z20_1 | exact Kd.R_mono HO_6.out (fun _ hk => ⟨trivial, hk⟩)) hg (.inl rfl)); replace HO_7 := Aside0.mk (Kd.Q_over' (v := (.slice (some ⟨go44, 0, none⟩) y664.length co44)) z20_2 (Kd.R_typed HO666.out) (by decide) hg); replace HO_10 := Aside0.mk (Kd.R_over' (v := (.slice (some ⟨go44, 0, none⟩) y664.length co44)) z20_3 (Kd.R_typed HO666.out) (by decide) hg); replace HO666 := Aside0.mk (hp_); replace HB := Aside0.mk ((by rw [hw]; exact below_set (HB.out) GB44.out : Below w.heap.size w w51)); clear hg hw hp_) | ((with_reducible refine gate_callee (f := 45) rfl ?_); refine goesL_ (some 88) rfl rfl Try.func45 (by kernel_rfl) rfl #[.int .i64 t641, .slice (some ⟨go44, 0, none⟩) y664.length co44, .slice Ao11 t643.length co11] rfl z20_12 ?_; refine calls_of_args (args' := #[.int .i64 t641, .slice (some ⟨go44, 0, none⟩) y669.length co44, .slice Ao11 t643.length co11]) (by rw [show y669.length = y664.length from (Kd.R_reads' HO666.out).1.symm]) ?_; (with_reducible refine (impl_CodeFits.calls kj24 t641 _ _ y669 _ _ t643 true _ ?side1 ?side2 ?side3 ?side4 A45.out).mono ?_); (case side1 => exact cZ ((Kd.R_reads' HO666.out).2.2)); (case side2 => rw [show y669.length = y664.length from (Kd.R_reads' HO666.out).1.symm]; exact (Kd.R_reads' HO666.out).2.1); (case side3 => exact cZ ((Kd.Q_reads' HO_7.out).2.2)); (case side4 => exact (Kd.Q_reads' HO_7.out).2.1); rintro e w52 ⟨rfl, hb⟩; refine ⟨_, rfl, ?_⟩; replace HO_6 := Aside0.mk (Kd.R_below z20_1 hb); replace HO_7 := Aside0.mk (Kd.Q_below z20_2 hb); replace HO_10 := Aside0.mk (Kd.R_below z20_3 hb); replace HO666 := Aside0.mk (Kd.R_below z20_6 hb); replace HB := Aside0.mk (below_step z20_0 hb); (try clear hb)))
           go_ret; exact ⟨z20_9, z20_0⟩
          ·replace c46 := Bool.eq_false_iff.mpr c46
           subst c46; rw [if_neg (show ¬ (false = true) by decide)] at H
           replace H := Option.bind_eq_some_iff.mp H
           obtain ⟨t671, A530, H⟩ := H
           have A53 := Aside0.mk A530
           clear A530
           obtain rfl := Option.some.inj H
           go_wp2_with (first | ((with_reducible refine gate_dst (N := 70) rfl ?_); (try (refine gate_guard (by rfl) ?_; dsimp only)); refine Kd.R_lit (Kd.int .i64) _ 3 ?hg (N := 70) ?hd (xs := ([] : List Int)) (inner := []) (ok := fun _ => True) (okp := fun _ => True) ?hr ?hp (fun _ hk => hk) trivial (Below.refl _ _) (Nat.le_refl _) (by simp) ?_; (case hd => rfl); (case hg => rfl); (case hr => first | (go_simp; done) | (go_simp; rfl)); (case hp => exact (Reps.none _ _)); intro v662 w54 ho55 hb hg_ hnew_; clear hg_ hnew_; (first | rw [← Ny661.out] at ho55 | (simp only [Int.reduceToNat] at ho55; rw [← Ny661.out] at ho55)); replace HO_7 := Aside0.mk (Kd.Q_below z20_2 hb); replace HO_10 := Aside0.mk (Kd.R_below z20_3 hb); have HO663 := Aside0.mk (Kd.R_lower (Kd.R_new' ho55 (Kd.R_lt z20_1)) (below_size z20_0)); replace HO_6 := Aside0.mk (Kd.R_elder' z20_1 (Kd.R_base ho55) hb); replace HB := Aside0.mk (below_step z20_0 hb); clear hb ho55) | ((with_reducible refine gate_builtin (b := .append) (xs := #[.tmp 70, .tmp 71]) rfl ?_); (try (refine gate_guard (by rfl) ?_; dsimp only)); at_builtin; refine Kd.R_append_rows (Kd.int .i64) (w0 := w) w.heap.size rfl (.tmp 70) (.tmp 71) 28 3 (.int .i64 0) 8 rfl Try.underlying28 info3 rfl (by decide) (by omega) v662 y661 t642 _ _ _ (fun k_ => some k_ ≠ (.slice Ao10 t642.length co10 : Value).ownBlock) (fun _ => False) rfl rfl ?aO ?aR (fun _ _ h => h) (fun _ h => h.elim) ?aF ?aB ?aS ?aL ?_; (case aR => repeat (first | exact (Kd.R_reads' HO_6.out).2.2 | (with_reducible refine Kd.C_alloc ?_ _) | (with_reducible refine Kd.C_drewN ?_ _) | (with_reducible refine Kd.C_drew ?_))); (case aB => exact z20_0); (case aF => exact (fun k_ hk => Kd.fresh' (Kd.R_lt z20_1) k_ hk)); (case aO => exact z20_16); (case aS => exact (below_size z20_0)); (case aL => have := LMc39.out; omega); intro v665 w56 ho hb hg hat; rw [← Ny664.out] at ho; have n0_ := Aside0.mk (Kd.R_after (ok := (fun _ => True)) z20_1 hg hat); have n1_ := Aside0.mk (Kd.Q_over' z20_2 (Kd.R_typed z20_10) (by decide) hg); have n2_ := Aside0.mk (Kd.R_over' z20_3 (Kd.R_typed z20_10) (by decide) hg); have n3_ := Aside0.mk (hb); have n4_ := Aside0.mk (ho); clear HO_6; clear HO_7; clear HO_10; clear HB; clear HO663; have HO_6 := n0_; have HO_7 := n1_; have HO_10 := n2_; have HB := n3_; have HO666 := n4_; clear n0_ n1_ n2_ n3_ n4_; clear ho hb hg hat; have p667 : 0 ≤ (ji21 : Int) := of_decide_eq_true z20_4; have q667 : ji21 < (t642.length : Int) := of_decide_eq_true z20_4; obtain ⟨ad667, e667, hx667_0⟩ := Kd.at_int (Kd.R_reads' HO_6.out).2.2 ji21 p667 q667; cases e667; replace p667 := eq_true p667; replace q667 := eq_true q667) | ((with_reducible refine gate_callee (f := 50) rfl ?_); refine goesL_ (some 83) rfl rfl Try.func50 (by kernel_rfl) rfl #[.int .i64 (rd t642 ji21), .int .i64 (1 + ((l1.length : Int) % 30))] rfl z20_14 ?_; (with_reducible refine (impl_FieldSum.calls (rd t642 ji21) (1 + ((l1.length : Int) % 30)) t668 _ A42.out).mono ?_); rintro e w' ⟨rfl, ⟨nd, rfl⟩⟩; refine ⟨_, rfl, ?_⟩; (try (rw [drewN_self w56]; generalize hq_ : World.drewN w56 _ = w56; have n0_ : Aside0 (Kd.R (Kd.int .i64) 3 w56 w.heap.size (fun k_ => some k_ ≠ (.slice (some ad667) t642.length co10 : Value).ownBlock) v665 y664) := ⟨by rw [← hq_]; exact z20_6⟩; have n1_ : Aside0 (Kd.R Kd.bool 4 w56 w.heap.size (fun k_ => some k_ ≠ (.slice Ao11 t643.length co11 : Value).ownBlock) (.slice (some ⟨go24, 0, none⟩) y657.length co24) y657) := ⟨by rw [← hq_]; exact z20_3⟩; have n2_ : Aside0 (Kd.R (Kd.int .i64) 3 w56 w.heap.size (fun k_ => some k_ ≠ (v665 : Value).ownBlock) (.slice (some ad667) t642.length co10) t642) := ⟨z20_15⟩; have n3_ : Aside0 (Kd.Q Kd.bool 4 w56 w.heap.size (fun k_ => some k_ ≠ (.slice (some ⟨go24, 0, none⟩) y657.length co24 : Value).ownBlock) (.slice Ao11 t643.length co11) t643) := ⟨by rw [← hq_]; exact z20_2⟩; have n4_ : Aside0 (Below w.heap.size w w56) := ⟨by rw [← hq_]; exact z20_0⟩; clear HO666 HO_10 HO_6 HO_7 HB hq_; have HO666 := n0_; have HO_10 := n1_; have HO_6 := n2_; have HO_7 := n3_; have HB := n4_; clear n0_ n1_ n2_ n3_ n4_)); have p44 : 0 ≤ (ji21 : Int) := of_decide_eq_true z20_4; have q44 : (ji21 : Int) < ((y664.length : Int) : Int) := of_decide_eq_true z20_4; obtain ⟨go44, co44, eo44, gb44, gl44, cl44, HG44⟩ := Kd.R_form HO666.out (by omega); (first | cases eo44 | (injection eo44 with ea_ en_ ec_; (first | subst ea_ | (injection ea_ with ea_; subst ea_)); subst ec_; clear en_)); have GB44 := Aside0.mk gb44; have GG44 := Aside0.mk HG44; clear gb44 gl44 HG44; obtain ⟨hx44_0, hf44_0⟩ := Kd.R_celln 0 HO666.out (ji21 : Int) p44 q44; replace p44 := eq_true p44; replace q44 := eq_true q44; obtain ⟨hy57_, hz57_⟩ := Kd.R_celln 0 HO666.out (ji21 : Int) (of_decide_eq_true z20_4) (of_decide_eq_true z20_4); have HP57 := Kd.R_putg HO666.out (ji21 : Int) t668) | ((with_reducible refine gate_store (t := 3) (p := 84) rfl ?_); refine store_event (t := 3) (p := 84) (v := ?vo_w58) (w1 := (w56.setCell ⟨go44, (ji21 : Int).toNat, none⟩ (.int .i64 t668))) ?hg ?ho ?hn ?hr ?_; (case ho => rfl); (case hg => rfl); (case hn => rfl); (case hr => first | (go_simp; done) | (go_simp; rfl)); intro w58 hw; have hg : w56.grownBy w58 (some go44) := (by rw [hw]; exact HP57.2); have hp_ : Kd.R (Kd.int .i64) 3 w58 w.heap.size (fun k_ => some k_ ≠ (.slice (some ad667) t642.length co10 : Value).ownBlock) (.slice (some ⟨go44, 0, none⟩) y664.length co44) y669 := (by rw [hw, Ny669.out]; exact HP57.1); clear HP57; replace HO_6 := Aside0.mk (Kd.R_after (v := (.slice (some ⟨go44, 0, none⟩) y664.length co44)) (v1 := (.slice (some ⟨go44, 0, none⟩) y664.length co44)) (ok := (fun _ => True)) (by first | exact z20_1 | exact Kd.R_mono HO_6.out (fun _ hk => ⟨trivial, hk⟩)) hg (.inl rfl)); replace HO_7 := Aside0.mk (Kd.Q_over' (v := (.slice (some ⟨go44, 0, none⟩) y664.length co44)) z20_2 (Kd.R_typed HO666.out) (by decide) hg); replace HO_10 := Aside0.mk (Kd.R_over' (v := (.slice (some ⟨go44, 0, none⟩) y664.length co44)) z20_3 (Kd.R_typed HO666.out) (by decide) hg); replace HO666 := Aside0.mk (hp_); replace HB := Aside0.mk ((by rw [hw]; exact below_set (HB.out) GB44.out : Below w.heap.size w w58)); clear hg hw hp_) | ((with_reducible refine gate_callee (f := 45) rfl ?_); refine goesL_ (some 88) rfl rfl Try.func45 (by kernel_rfl) rfl #[.int .i64 t641, .slice (some ⟨go44, 0, none⟩) y664.length co44, .slice Ao11 t643.length co11] rfl z20_12 ?_; refine calls_of_args (args' := #[.int .i64 t641, .slice (some ⟨go44, 0, none⟩) y669.length co44, .slice Ao11 t643.length co11]) (by rw [show y669.length = y664.length from (Kd.R_reads' HO666.out).1.symm]) ?_; (with_reducible refine (impl_CodeFits.calls kj24 t641 _ _ y669 _ _ t643 false _ ?side1 ?side2 ?side3 ?side4 A45.out).mono ?_); (case side1 => exact cZ ((Kd.R_reads' HO666.out).2.2)); (case side2 => rw [show y669.length = y664.length from (Kd.R_reads' HO666.out).1.symm]; exact (Kd.R_reads' HO666.out).2.1); (case side3 => exact cZ ((Kd.Q_reads' HO_7.out).2.2)); (case side4 => exact (Kd.Q_reads' HO_7.out).2.1); rintro e w59 ⟨rfl, hb⟩; refine ⟨_, rfl, ?_⟩; replace HO_6 := Aside0.mk (Kd.R_below z20_1 hb); replace HO_7 := Aside0.mk (Kd.Q_below z20_2 hb); replace HO_10 := Aside0.mk (Kd.R_below z20_3 hb); replace HO666 := Aside0.mk (Kd.R_below z20_6 hb); replace HB := Aside0.mk (below_step z20_0 hb); (try clear hb)) | (go_at_call 45; refine calls_of_args (args' := #[.int .i64 t641, .slice (some ⟨go44, 0, none⟩) y669.length co44, .slice (some ⟨go24, 0, none⟩) y657.length co24]) (by first | (rw [show y669.length = y664.length from (Kd.R_reads' HO666.out).1.symm] <;> rfl) | rfl) ?_; (with_reducible refine (impl_CodeFits.calls kj24 t641 _ _ y669 _ _ y657 t671 _ ?side1 ?side2 ?side3 ?side4 A53.out).mono ?_); (case side1 => exact cZ ((Kd.R_reads' HO666.out).2.2)); (case side2 => rw [show y669.length = y664.length from (Kd.R_reads' HO666.out).1.symm]; exact (Kd.R_reads' HO666.out).2.1); (case side3 => exact cZ ((Kd.R_reads' HO_10.out).2.2)); (case side4 => exact (Kd.R_reads' HO_10.out).2.1); rintro e w60 ⟨rfl, hb⟩; replace HO_6 := Aside0.mk (Kd.R_below z20_1 hb); replace HO_7 := Aside0.mk (Kd.Q_below z20_2 hb); replace HO_10 := Aside0.mk (Kd.R_below z20_3 hb); replace HO666 := Aside0.mk (Kd.R_below z20_6 hb); replace HB := Aside0.mk (below_step z20_0 hb); (try clear hb)))
           go_ret; exact ⟨z20_9, z20_0⟩

/-- THE ONE PURE STATEMENT of laws_FnFits: yours. -/
def laws_FnFits.Pure : Prop := ∀ (l0 : List Int) (l1 : List Int), l0.length ≤ maxLen → l0.length * 1 ≤ 140737488351232 → (∀ x ∈ l0, (Lit.int .u8 x).wf = true) → l1.length ≤ maxLen → l1.length * 1 ≤ 140737488351232 → (∀ x ∈ l1, (Lit.int .u8 x).wf = true) → ∃ k, laws_FnFits.f k l0 l1 = some true
theorem laws_FnFits.walk (P : laws_FnFits.Pure) (a0 : Option Addr) (len0 cap0 : Nat) (z0 : List Int) (a1 : Option Addr) (len1 cap1 : Nat) (z1 : List Int) (w : World) (w0 : (a0 = none ∧ len0 = 0 ∧ cap0 = 0 ∧ z0 = []) ∨ ∃ x, a0 = some x ∧ len0 ≤ cap0 ∧ cap0 ≤ maxLen ∧ z0.length = cap0 ∧ (∀ i, i < z0.length → w.cell? (x.add i) = some (.int .u8 (z0.getD i 0))) ∧ ∀ n ∈ z0, (Lit.int .u8 n).wf = true) (y0 : len0 * 1 ≤ 140737488351232) (w1 : (a1 = none ∧ len1 = 0 ∧ cap1 = 0 ∧ z1 = []) ∨ ∃ x, a1 = some x ∧ len1 ≤ cap1 ∧ cap1 ≤ maxLen ∧ z1.length = cap1 ∧ (∀ i, i < z1.length → w.cell? (x.add i) = some (.int .u8 (z1.getD i 0))) ∧ ∀ n ∈ z1, (Lit.int .u8 n).wf = true) (y1 : len1 * 1 ≤ 140737488351232) :
  Calls Try.prog 14 #[.slice a0 len0 cap0, .slice a1 len1 cap1] w fun e w' => e = .returned (.bool true) ∧ Below w.heap.size w w' := by
 obtain ⟨l0, rfl, hr0, hm0, hw0, hc0⟩ := ReadsInt.ofRowC w0
 obtain ⟨l1, rfl, hr1, hm1, hw1, hc1⟩ := ReadsInt.ofRowC w1
 obtain ⟨k, h⟩ := P l0 l1 hm0 y0 hw0 hm1 y1 hw1
 refine (laws_FnFits.calls k _ _ l0 _ _ l1 true w (Kd.C_of_reads (d := (0 : Int)) (h1 := fun _ => rfl) hr0) hc0 (Kd.C_of_reads (d := (0 : Int)) (h1 := fun _ => rfl) hr1) hc1 h).mono ?_
 rintro e w' ⟨rfl, hd⟩
 exact ⟨rfl, hd⟩

end Go.Proofs.Ytamaejafddmagaa.PA
