-- Written by a program of this session (after the manner of the kit's print, several laws in one text).
import Derived.Test.YtamaejafddmagaaPAx0
import Derived.Test.YtamaejafddmagaaPAx1
import Derived.Test.YtamaejafddmagaaPAx3
import Derived.Test.YtamaejafddmagaaPAx5
import Derived.Test.YtamaejafddmagaaPAx7
import Derived.Test.YtamaejafddmagaaPAx14
import Derived.Test.YtamaejafddmagaaGw
import Derived.Test.YtamaejafddmagaaGm
import Derived.Test.YtamaejafddmagaaGc
namespace Go.Proofs.Ytamaejafddmagaa.PA
open Go.RowKit Go.Proofs.YtamaejafddmagaaW.PrintWords Go.Proofs.YtamaejafddmagaaW.PrintLast Go.Proofs.YtamaejafddmagaaW.PrintMore
attribute [local go_sem] max2_int min2_int max_two min_two max_three min_three max_four min_four   -- for this text's walks alone
set_option linter.unusedVariables false
set_option linter.unusedSimpArgs false

/-! ### laws_FnFitsAll: function 12 -/
theorem z15_0 {p : Prop} (h : p := by repeat (first | (with_reducible first | exact HB.out | apply below_alloc | apply pw_below_drewN | apply below_drew1) | exact HB.out)) : p := h
theorem z15_1 {p : Prop} (h : p := by (try simp only [List.map_toArray, List.map_cons, List.map_nil]); first | done | rfl | (simp only [List.length_drop, List.length_take]; rfl)) : p := h
theorem z15_2 {p : Prop} (h : p := by (with_reducible repeat (first | apply Kd.Q_alloc | apply Kd.Q_drewN | apply Kd.Q_drew)); exact HO_6.out) : p := h
theorem z15_3 {p : Prop} (h : p := by (with_reducible repeat (first | apply Kd.R_alloc | apply Kd.R_drewN | apply Kd.R_drew)); exact HO_7.out) : p := h
theorem z15_4 {p : Prop} (h : p := by (with_reducible repeat (first | apply Kd.R_alloc | apply Kd.R_drewN | apply Kd.R_drew)); exact HO489.out) : p := h
theorem z15_5 {p : Prop} (h : p := by (with_reducible repeat (first | apply Kd.Q_alloc | apply Kd.Q_drewN | apply Kd.Q_drew)); exact HO475.out) : p := h
theorem z15_6 {p : Prop} (h : p := by (with_reducible repeat (first | apply Kd.R_alloc | apply Kd.R_drewN | apply Kd.R_drew)); exact HO493.out) : p := h
theorem z15_7 {p : Prop} (h : p := by first | rfl | (simp [errW_none, errW_some] <;> rfl) | (simp [*, errW_none, errW_some] <;> rfl)) : p := h
theorem z15_8 {p : Prop} (h : p := by (with_reducible repeat (first | apply Kd.R_alloc | apply Kd.R_drewN | apply Kd.R_drew)); exact HO478.out) : p := h
theorem z15_9 {p : Prop} (h : p := by first | rfl | (simp; done) | (simp [*]; done)) : p := h
theorem z15_10 {p : Prop} (h : p := by (with_reducible repeat (first | apply Kd.Q_alloc | apply Kd.Q_drewN | apply Kd.Q_drew)); exact Kd.Q_mono HO475.out (fun _ hk => hk.1.2)) : p := h
theorem z15_11 {p : Prop} (h : p := by (with_reducible repeat (first | apply Kd.R_alloc | apply Kd.R_drewN | apply Kd.R_drew)); exact Kd.R_mono HO478.out (fun _ hk => hk.1.2)) : p := h
mutual
def laws_FnFitsAll.j0 : Nat → List Int → List Int → Bool → Option (Bool)
  | 0, _, _, _ => none
  | k + 1, x0, x1, x15 => if x15 = true then (some true) else ((spec_DrawCodeAll.f k x0).bind fun bt472 => ((impl_CodeAll.f k bt472.1 bt472.2).bind fun t476 => ((spec_CodeAll.f k bt472.1 bt472.2).bind fun t479 => ((laws_lkInts.f k t476 t479).bind fun t482 => (if t482 = true then (laws_FnFitsAll.j1 k x1 bt472.1 bt472.2 t476 ((t476.length : Int) == 0)) else (laws_FnFitsAll.j1 k x1 bt472.1 bt472.2 t476 true))))))
def laws_FnFitsAll.j1 : Nat → List Int → Int → List Int → List Int → Bool → Option (Bool)
  | 0, _, _, _, _, _ => none
  | k + 1, x1, x5, x6, x7, x34 => if x34 = true then ((spec_CodeAll.f k x5 x6).bind fun t483 => ((laws_lkInts.f k x7 t483).bind fun t486 => (some t486))) else ((laws_lkThere.f k (Int.tmod (wrap64 ((x1.length : Int) * 37)) 256)).bind fun t487 => ((impl_CodeFits.f k x5 x7 t487).bind fun t490 => (if t490 = true then ((laws_lkThere.f k 255).bind fun t491 => ((impl_CodeFits.f k x5 x7 t491).bind fun t494 => (if t494 = true then ((laws_lkThere.f k 0).bind fun t495 => ((impl_CodeFits.f k x5 x7 t495).bind fun t498 => (some t498))) else (some false)))) else (some false))))
end
def laws_FnFitsAll.f (k : Nat) (l0 : List Int) (l1 : List Int) : Option (Bool) := if (l0.length : Int) > 1048576 then (laws_FnFitsAll.j0 k l0 l1 true) else (laws_FnFitsAll.j0 k l0 l1 (decide ((l1.length : Int) > 1048576)))
set_option maxHeartbeats 8000000 in
set_option maxRecDepth 100000 in
theorem laws_FnFitsAll.calls (k : Nat) (A0 : Option Addr) (c0 : Nat) (l0 : List Int) (A1 : Option Addr) (c1 : Nat) (l1 : List Int) (r : Bool) (w : World) (hr0 : Kd.C (Kd.int .u8) w A0 l0.length l0) (hc0 : l0.length ≤ c0) (hr1 : Kd.C (Kd.int .u8) w A1 l1.length l1) (hc1 : l1.length ≤ c1) (h : laws_FnFitsAll.f k l0 l1 = some r) :
  Calls Try.prog 12 #[.slice A0 l0.length c0, .slice A1 l1.length c1] w fun e w' => e = .returned (.bool r) ∧ Below w.heap.size w w' := by
 have HR0 := Aside0.mk hr0
 have HC0 := Aside0.mk hc0
 clear hr0 hc0
 have HR1 := Aside0.mk hr1
 have HC1 := Aside0.mk hc1
 clear hr1 hc1
 have HB := Aside0.mk (Below.refl w.heap.size w)
 have H : (if (l0.length : Int) > 1048576 then (laws_FnFitsAll.j0 k l0 l1 true) else (laws_FnFitsAll.j0 k l0 l1 (decide ((l1.length : Int) > 1048576)))) = some r := h
 clear h
 have HC3 := Aside0.mk H
 clear H
 go_enter Try.func12, Try.ntmps12
 go_upto_region 1 with (fail)
 go_cut [15] (fun v15 wc => ∃ (kq : Nat) (x15_2 : Bool), v15 = .bool x15_2 ∧ Aside0 (laws_FnFitsAll.j0 kq l0 l1 x15_2 = some r) ∧ Aside0 (kq ≤ k) ∧ Aside0 (Below w.heap.size w wc))
 case first =>
  have H := HC3.out
  clear HC3
  by_cases c4 : (l0.length : Int) > 1048576
  ·rw [if_pos c4] at H
   have c4b0 : decide (1048576 < (l0.length : Int)) = true := decide_eq_true c4
   have c4b1 : decide (1048576 < l0.length) = true := decide_eq_true (by omega)
   clear c4
   (first | rw [c4b0] | (simp only [i64_w, i32_w]; rw [c4b0]) | skip)
   have H' := Aside0.mk H
   clear H
   go_wp2
   go_meet
   case rel => exact ⟨_, (true), z15_9, H', ⟨by first | omega | exact Nat.le_refl _⟩, ⟨z15_0⟩⟩
  ·rw [if_neg c4] at H
   have c4b0 : decide (1048576 < (l0.length : Int)) = false := decide_eq_false c4
   have c4b1 : decide (1048576 < l0.length) = false := decide_eq_false (by omega)
   clear c4
   (first | rw [c4b0] | (simp only [i64_w, i32_w]; rw [c4b0]) | skip)
   have H' := Aside0.mk H
   clear H
   go_wp2
   go_meet
   case rel => exact ⟨_, (decide ((l1.length : Int) > 1048576)), z15_9, H', ⟨by first | omega | exact Nat.le_refl _⟩, ⟨z15_0⟩⟩
 case rest =>
  clear HC3
  try clear c1
  obtain ⟨kq, x15_2, rfl, HA, HJ2, HB⟩ := hcut
  cases kq with
  | zero => exact absurd HA.out (by simp [laws_FnFitsAll.j0])
  | succ kj2 =>
   have H := HA.out
   clear HA
   simp only [laws_FnFitsAll.j0] at H
   by_cases c5 : x15_2 = true
   ·subst c5
    have H1 : (some true) = some r := by rw [if_pos rfl] at H; exact H
    clear H
    have H := H1
    clear H1
    obtain rfl := Option.some.inj H
    go_wp2
    go_ret
    exact ⟨z15_7, z15_0⟩
   ·replace c5 := Bool.eq_false_iff.mpr c5
    subst c5
    have H1 : ((spec_DrawCodeAll.f kj2 l0).bind fun bt472 => ((impl_CodeAll.f kj2 bt472.1 bt472.2).bind fun t476 => ((spec_CodeAll.f kj2 bt472.1 bt472.2).bind fun t479 => ((laws_lkInts.f kj2 t476 t479).bind fun t482 => (if t482 = true then (laws_FnFitsAll.j1 kj2 l1 bt472.1 bt472.2 t476 ((t476.length : Int) == 0)) else (laws_FnFitsAll.j1 kj2 l1 bt472.1 bt472.2 t476 true)))))) = some r := by rw [if_neg (show ¬ (false = true) by decide)] at H; exact H
    clear H
    have H := H1
    clear H1
    replace H := Option.bind_eq_some_iff.mp H
    obtain ⟨⟨t472, t473⟩, A60, H⟩ := H
    replace H : ((impl_CodeAll.f kj2 t472 t473).bind fun t476 => ((spec_CodeAll.f kj2 t472 t473).bind fun t479 => ((laws_lkInts.f kj2 t476 t479).bind fun t482 => (if t482 = true then (laws_FnFitsAll.j1 kj2 l1 t472 t473 t476 ((t476.length : Int) == 0)) else (laws_FnFitsAll.j1 kj2 l1 t472 t473 t476 true))))) = some r := H
    have A6 := Aside0.mk A60
    clear A60
    replace H := Option.bind_eq_some_iff.mp H
    obtain ⟨t476, A70, H⟩ := H
    replace H : ((spec_CodeAll.f kj2 t472 t473).bind fun t479 => ((laws_lkInts.f kj2 t476 t479).bind fun t482 => (if t482 = true then (laws_FnFitsAll.j1 kj2 l1 t472 t473 t476 ((t476.length : Int) == 0)) else (laws_FnFitsAll.j1 kj2 l1 t472 t473 t476 true)))) = some r := H
    have A7 := Aside0.mk A70
    clear A70
    have HC8 := Aside0.mk H
    clear H
    go_upto_region 5 with (first | ((with_reducible refine gate_callee (f := 42) rfl ?_); refine goesL_ (some 18) rfl rfl Try.func42 (by kernel_rfl) rfl #[.slice A0 l0.length c0] rfl z15_1 ?_; (with_reducible refine (spec_DrawCodeAll.calls kj2 _ _ l0 t472 t473 _ ?side1 ?side2 A6.out).mono ?_); (case side1 => exact cZ ((Kd.C_below HR0.out HB.out))); (case side2 => exact HC0.out); rintro e w9 ⟨v474, rfl, ho0, hb⟩; refine ⟨_, rfl, ?_⟩; have HO475 := Aside0.mk (Kd.Q_lower ho0 (below_size z15_0)); replace HB := Aside0.mk (below_step z15_0 hb); (try clear hb); (try clear ho0); obtain ⟨Ao10, co10, eo10, _⟩ := Kd.Q_slice HO475.out; subst eo10) | ((with_reducible refine gate_callee (f := 43) rfl ?_); refine goesL_ (some 23) rfl rfl Try.func43 (by kernel_rfl) rfl #[.int .i64 t472, .slice Ao10 t473.length co10] rfl z15_1 ?_; (with_reducible refine (impl_CodeAll.calls kj2 t472 _ _ t473 t476 _ ?side1 ?side2 A7.out).mono ?_); (case side1 => exact cZ ((Kd.Q_reads' HO475.out).2.2)); (case side2 => exact (Kd.Q_reads' HO475.out).2.1); rintro e w11 ⟨v477, rfl, ho0, hb⟩; refine ⟨_, rfl, ?_⟩; have HO478 := Aside0.mk (Kd.R_lower (Kd.R_new' ho0 (Kd.Q_lt z15_5)) (below_size z15_0)); replace HO475 := Aside0.mk (Kd.Q_elder' z15_5 (Kd.R_base ho0) hb); replace HB := Aside0.mk (below_step z15_0 hb); (try clear hb); (try clear ho0)))
    (try simp only [Act.put, List.setIfInBounds_toArray, List.set_cons_zero, List.set_cons_succ])
    go_cut [34] (fun v34 wc => ∃ (kq : Nat) (x34_7 : Bool), v34 = .bool x34_7 ∧ Aside0 (laws_FnFitsAll.j1 kq l1 t472 t473 t476 x34_7 = some r) ∧ Aside0 (kq ≤ kj2) ∧ Aside0 (Kd.Q (Kd.int .i64) 3 wc w.heap.size (fun k_ => some k_ ≠ (v477 : Value).ownBlock) (.slice Ao10 t473.length co10) t473) ∧ Aside0 (Kd.R (Kd.int .i64) 3 wc w.heap.size (fun k_ => some k_ ≠ ((.slice Ao10 t473.length co10) : Value).ownBlock) v477 t476) ∧ Aside0 (Below w.heap.size w wc))
    case first =>
     have H := HC8.out
     clear HC8
     replace H := Option.bind_eq_some_iff.mp H
     obtain ⟨t479, A120, H⟩ := H
     replace H : ((laws_lkInts.f kj2 t476 t479).bind fun t482 => (if t482 = true then (laws_FnFitsAll.j1 kj2 l1 t472 t473 t476 ((t476.length : Int) == 0)) else (laws_FnFitsAll.j1 kj2 l1 t472 t473 t476 true))) = some r := H
     have A12 := Aside0.mk A120
     clear A120
     replace H := Option.bind_eq_some_iff.mp H
     obtain ⟨t482, A130, H⟩ := H
     replace H : (if t482 = true then (laws_FnFitsAll.j1 kj2 l1 t472 t473 t476 ((t476.length : Int) == 0)) else (laws_FnFitsAll.j1 kj2 l1 t472 t473 t476 true)) = some r := H
     have A13 := Aside0.mk A130
     clear A130
     by_cases c14 : t482 = true
     ·subst c14
      have H1 : (laws_FnFitsAll.j1 kj2 l1 t472 t473 t476 ((t476.length : Int) == 0)) = some r := by rw [if_pos rfl] at H; exact H
      clear H
      have H := H1
      clear H1
      have H' := Aside0.mk H
      clear H
      go_wp2_with (first | ((with_reducible refine gate_callee (f := 44) rfl ?_); refine goesL_ (some 27) rfl rfl Try.func44 (by kernel_rfl) rfl #[.int .i64 t472, .slice Ao10 t473.length co10] rfl z15_1 ?_; (with_reducible refine (spec_CodeAll.calls kj2 t472 _ _ t473 t479 _ ?side1 ?side2 A12.out).mono ?_); (case side1 => exact cZ ((Kd.Q_reads' HO475.out).2.2)); (case side2 => exact (Kd.Q_reads' HO475.out).2.1); rintro e w15 ⟨v480, rfl, ho0, hb⟩; refine ⟨_, rfl, ?_⟩; have HO481 := Aside0.mk (Kd.R_lower (Kd.R_new' (Kd.R_new' ho0 (Kd.Q_lt z15_5)) (Kd.R_lt z15_8)) (below_size z15_0)); replace HO475 := Aside0.mk (Kd.Q_elder' z15_5 (Kd.R_base ho0) hb); replace HO478 := Aside0.mk (Kd.R_elder' z15_8 (Kd.R_base ho0) hb); replace HB := Aside0.mk (below_step z15_0 hb); (try clear hb); (try clear ho0); obtain ⟨Ao16, co16, eo16⟩ := Kd.R_slice HO478.out; subst eo16; obtain ⟨Ao17, co17, eo17⟩ := Kd.R_slice HO481.out; subst eo17) | ((with_reducible refine gate_callee (f := 41) rfl ?_); refine goesL_ (some 28) rfl rfl Try.func41 (by kernel_rfl) rfl #[.slice Ao16 t476.length co16, .slice Ao17 t479.length co17] rfl z15_1 ?_; (with_reducible refine (laws_lkInts.calls kj2 _ _ t476 _ _ t479 true _ ?side1 ?side2 ?side3 ?side4 A13.out).mono ?_); (case side1 => exact cZ ((Kd.R_reads' HO478.out).2.2)); (case side2 => exact (Kd.R_reads' HO478.out).2.1); (case side3 => exact cZ ((Kd.R_reads' HO481.out).2.2)); (case side4 => exact (Kd.R_reads' HO481.out).2.1); rintro e w' ⟨rfl, ⟨nd, rfl⟩⟩; refine ⟨_, rfl, ?_⟩))
      go_meet
      case rel => exact ⟨_, (((t476.length : Int) == 0)), z15_9, H', ⟨by have := HJ2.out; first | omega | exact Nat.le_refl _⟩, ⟨z15_10⟩, ⟨z15_11⟩, ⟨z15_0⟩⟩
     ·replace c14 := Bool.eq_false_iff.mpr c14
      subst c14
      have H1 : (laws_FnFitsAll.j1 kj2 l1 t472 t473 t476 true) = some r := by rw [if_neg (show ¬ (false = true) by decide)] at H; exact H
      clear H
      have H := H1
      clear H1
      have H' := Aside0.mk H
      clear H
      go_wp2_with (first | ((with_reducible refine gate_callee (f := 44) rfl ?_); refine goesL_ (some 27) rfl rfl Try.func44 (by kernel_rfl) rfl #[.int .i64 t472, .slice Ao10 t473.length co10] rfl z15_1 ?_; (with_reducible refine (spec_CodeAll.calls kj2 t472 _ _ t473 t479 _ ?side1 ?side2 A12.out).mono ?_); (case side1 => exact cZ ((Kd.Q_reads' HO475.out).2.2)); (case side2 => exact (Kd.Q_reads' HO475.out).2.1); rintro e w18 ⟨v480, rfl, ho0, hb⟩; refine ⟨_, rfl, ?_⟩; have HO481 := Aside0.mk (Kd.R_lower (Kd.R_new' (Kd.R_new' ho0 (Kd.Q_lt z15_5)) (Kd.R_lt z15_8)) (below_size z15_0)); replace HO475 := Aside0.mk (Kd.Q_elder' z15_5 (Kd.R_base ho0) hb); replace HO478 := Aside0.mk (Kd.R_elder' z15_8 (Kd.R_base ho0) hb); replace HB := Aside0.mk (below_step z15_0 hb); (try clear hb); (try clear ho0); obtain ⟨Ao19, co19, eo19⟩ := Kd.R_slice HO478.out; subst eo19; obtain ⟨Ao20, co20, eo20⟩ := Kd.R_slice HO481.out; subst eo20) | ((with_reducible refine gate_callee (f := 41) rfl ?_); refine goesL_ (some 28) rfl rfl Try.func41 (by kernel_rfl) rfl #[.slice Ao19 t476.length co19, .slice Ao20 t479.length co20] rfl z15_1 ?_; (with_reducible refine (laws_lkInts.calls kj2 _ _ t476 _ _ t479 false _ ?side1 ?side2 ?side3 ?side4 A13.out).mono ?_); (case side1 => exact cZ ((Kd.R_reads' HO478.out).2.2)); (case side2 => exact (Kd.R_reads' HO478.out).2.1); (case side3 => exact cZ ((Kd.R_reads' HO481.out).2.2)); (case side4 => exact (Kd.R_reads' HO481.out).2.1); rintro e w' ⟨rfl, ⟨nd, rfl⟩⟩; refine ⟨_, rfl, ?_⟩))
      go_meet
      case rel => exact ⟨_, (true), z15_9, H', ⟨by have := HJ2.out; first | omega | exact Nat.le_refl _⟩, ⟨z15_10⟩, ⟨z15_11⟩, ⟨z15_0⟩⟩
    case rest =>
     clear HC8
     try clear c1
     try clear c5
     obtain ⟨kq, x34_7, rfl, HA, HJ7, HO_6, HO_7, HB⟩ := hcut
     cases kq with
     | zero => exact absurd HA.out (by simp [laws_FnFitsAll.j1])
     | succ kj7 =>
      have H := HA.out
      clear HA
      simp only [laws_FnFitsAll.j1] at H
      by_cases c21 : x34_7 = true
      ·subst c21
       have H1 : ((spec_CodeAll.f kj7 t472 t473).bind fun t483 => ((laws_lkInts.f kj7 t476 t483).bind fun t486 => (some t486))) = some r := by rw [if_pos rfl] at H; exact H
       clear H
       have H := H1
       clear H1
       replace H := Option.bind_eq_some_iff.mp H
       obtain ⟨t483, A220, H⟩ := H
       replace H : ((laws_lkInts.f kj7 t476 t483).bind fun t486 => (some t486)) = some r := H
       have A22 := Aside0.mk A220
       clear A220
       replace H := Option.bind_eq_some_iff.mp H
       obtain ⟨t486, A230, H⟩ := H
       replace H : (some t486) = some r := H
       have A23 := Aside0.mk A230
       clear A230
       obtain rfl := Option.some.inj H
       go_wp2_with (first | ((with_reducible refine gate_callee (f := 44) rfl ?_); refine goesL_ (some 38) rfl rfl Try.func44 (by kernel_rfl) rfl #[.int .i64 t472, .slice Ao10 t473.length co10] rfl z15_1 ?_; (with_reducible refine (spec_CodeAll.calls kj7 t472 _ _ t473 t483 _ ?side1 ?side2 A22.out).mono ?_); (case side1 => exact cZ ((Kd.Q_reads' HO_6.out).2.2)); (case side2 => exact (Kd.Q_reads' HO_6.out).2.1); rintro e w24 ⟨v484, rfl, ho0, hb⟩; refine ⟨_, rfl, ?_⟩; have HO485 := Aside0.mk (Kd.R_lower (Kd.R_new' (Kd.R_new' ho0 (Kd.Q_lt z15_2)) (Kd.R_lt z15_3)) (below_size z15_0)); replace HO_6 := Aside0.mk (Kd.Q_elder' z15_2 (Kd.R_base ho0) hb); replace HO_7 := Aside0.mk (Kd.R_elder' z15_3 (Kd.R_base ho0) hb); replace HB := Aside0.mk (below_step z15_0 hb); (try clear hb); (try clear ho0); obtain ⟨Ao25, co25, eo25⟩ := Kd.R_slice HO_7.out; subst eo25; obtain ⟨Ao26, co26, eo26⟩ := Kd.R_slice HO485.out; subst eo26) | ((with_reducible refine gate_callee (f := 41) rfl ?_); refine goesL_ (some 39) rfl rfl Try.func41 (by kernel_rfl) rfl #[.slice Ao25 t476.length co25, .slice Ao26 t483.length co26] rfl z15_1 ?_; (with_reducible refine (laws_lkInts.calls kj7 _ _ t476 _ _ t483 t486 _ ?side1 ?side2 ?side3 ?side4 A23.out).mono ?_); (case side1 => exact cZ ((Kd.R_reads' HO_7.out).2.2)); (case side2 => exact (Kd.R_reads' HO_7.out).2.1); (case side3 => exact cZ ((Kd.R_reads' HO485.out).2.2)); (case side4 => exact (Kd.R_reads' HO485.out).2.1); rintro e w' ⟨rfl, ⟨nd, rfl⟩⟩; refine ⟨_, rfl, ?_⟩))
       go_ret
       exact ⟨z15_7, z15_0⟩
      ·replace c21 := Bool.eq_false_iff.mpr c21
       subst c21
       have H1 : ((laws_lkThere.f kj7 (Int.tmod (wrap64 ((l1.length : Int) * 37)) 256)).bind fun t487 => ((impl_CodeFits.f kj7 t472 t476 t487).bind fun t490 => (if t490 = true then ((laws_lkThere.f kj7 255).bind fun t491 => ((impl_CodeFits.f kj7 t472 t476 t491).bind fun t494 => (if t494 = true then ((laws_lkThere.f kj7 0).bind fun t495 => ((impl_CodeFits.f kj7 t472 t476 t495).bind fun t498 => (some t498))) else (some false)))) else (some false)))) = some r := by rw [if_neg (show ¬ (false = true) by decide)] at H; exact H
       clear H
       have H := H1
       clear H1
       replace H := Option.bind_eq_some_iff.mp H
       obtain ⟨t487, A270, H⟩ := H
       replace H : ((impl_CodeFits.f kj7 t472 t476 t487).bind fun t490 => (if t490 = true then ((laws_lkThere.f kj7 255).bind fun t491 => ((impl_CodeFits.f kj7 t472 t476 t491).bind fun t494 => (if t494 = true then ((laws_lkThere.f kj7 0).bind fun t495 => ((impl_CodeFits.f kj7 t472 t476 t495).bind fun t498 => (some t498))) else (some false)))) else (some false))) = some r := H
       have A27 := Aside0.mk A270
       clear A270
       replace H := Option.bind_eq_some_iff.mp H
       obtain ⟨t490, A280, H⟩ := H
       replace H : (if t490 = true then ((laws_lkThere.f kj7 255).bind fun t491 => ((impl_CodeFits.f kj7 t472 t476 t491).bind fun t494 => (if t494 = true then ((laws_lkThere.f kj7 0).bind fun t495 => ((impl_CodeFits.f kj7 t472 t476 t495).bind fun t498 => (some t498))) else (some false)))) else (some false)) = some r := H
       have A28 := Aside0.mk A280
       clear A280
       by_cases c29 : t490 = true
       ·subst c29
        have H1 : ((laws_lkThere.f kj7 255).bind fun t491 => ((impl_CodeFits.f kj7 t472 t476 t491).bind fun t494 => (if t494 = true then ((laws_lkThere.f kj7 0).bind fun t495 => ((impl_CodeFits.f kj7 t472 t476 t495).bind fun t498 => (some t498))) else (some false)))) = some r := by rw [if_pos rfl] at H; exact H
        clear H
        have H := H1
        clear H1
        replace H := Option.bind_eq_some_iff.mp H
        obtain ⟨t491, A300, H⟩ := H
        replace H : ((impl_CodeFits.f kj7 t472 t476 t491).bind fun t494 => (if t494 = true then ((laws_lkThere.f kj7 0).bind fun t495 => ((impl_CodeFits.f kj7 t472 t476 t495).bind fun t498 => (some t498))) else (some false))) = some r := H
        have A30 := Aside0.mk A300
        clear A300
        replace H := Option.bind_eq_some_iff.mp H
        obtain ⟨t494, A310, H⟩ := H
        replace H : (if t494 = true then ((laws_lkThere.f kj7 0).bind fun t495 => ((impl_CodeFits.f kj7 t472 t476 t495).bind fun t498 => (some t498))) else (some false)) = some r := H
        have A31 := Aside0.mk A310
        clear A310
        by_cases c32 : t494 = true
        ·subst c32
         have H1 : ((laws_lkThere.f kj7 0).bind fun t495 => ((impl_CodeFits.f kj7 t472 t476 t495).bind fun t498 => (some t498))) = some r := by rw [if_pos rfl] at H; exact H
         clear H
         have H := H1
         clear H1
         replace H := Option.bind_eq_some_iff.mp H
         obtain ⟨t495, A330, H⟩ := H
         replace H : ((impl_CodeFits.f kj7 t472 t476 t495).bind fun t498 => (some t498)) = some r := H
         have A33 := Aside0.mk A330
         clear A330
         replace H := Option.bind_eq_some_iff.mp H
         obtain ⟨t498, A340, H⟩ := H
         replace H : (some t498) = some r := H
         have A34 := Aside0.mk A340
         clear A340
         obtain rfl := Option.some.inj H
         go_wp2_with (first | ((with_reducible refine gate_callee (f := 36) rfl ?_); refine goesL_ (some 46) rfl rfl Try.func36 (by kernel_rfl) rfl #[.int .i64 (Int.tmod (wrap64 ((l1.length : Int) * 37)) 256)] rfl z15_1 ?_; (with_reducible refine (laws_lkThere.calls kj7 (Int.tmod (wrap64 ((l1.length : Int) * 37)) 256) t487 _ A27.out).mono ?_); rintro e w35 ⟨v488, rfl, ho0, hb⟩; refine ⟨_, rfl, ?_⟩; replace HO_6 := Aside0.mk (Kd.Q_below z15_2 hb); replace HO_7 := Aside0.mk (Kd.R_below z15_3 hb); have HO489 := Aside0.mk (Kd.R_lower ho0 (below_size z15_0)); replace HB := Aside0.mk (below_step z15_0 hb); (try clear hb); (try clear ho0); obtain ⟨Ao36, co36, eo36⟩ := Kd.R_slice HO_7.out; subst eo36; obtain ⟨Ao37, co37, eo37⟩ := Kd.R_slice HO489.out; subst eo37) | ((with_reducible refine gate_callee (f := 45) rfl ?_); refine goesL_ (some 47) rfl rfl Try.func45 (by kernel_rfl) rfl #[.int .i64 t472, .slice Ao36 t476.length co36, .slice Ao37 t487.length co37] rfl z15_1 ?_; (with_reducible refine (impl_CodeFits.calls kj7 t472 _ _ t476 _ _ t487 true _ ?side1 ?side2 ?side3 ?side4 A28.out).mono ?_); (case side1 => exact cZ ((Kd.R_reads' HO_7.out).2.2)); (case side2 => exact (Kd.R_reads' HO_7.out).2.1); (case side3 => exact cZ ((Kd.R_reads' HO489.out).2.2)); (case side4 => exact (Kd.R_reads' HO489.out).2.1); rintro e w38 ⟨rfl, hb⟩; refine ⟨_, rfl, ?_⟩; replace HO_6 := Aside0.mk (Kd.Q_below z15_2 hb); replace HO_7 := Aside0.mk (Kd.R_below z15_3 hb); replace HO489 := Aside0.mk (Kd.R_below z15_4 hb); replace HB := Aside0.mk (below_step z15_0 hb); (try clear hb)) | (go_at_call 36; (with_reducible refine (laws_lkThere.calls kj7 255 t491 _ A30.out).mono ?_); rintro e w39 ⟨v492, rfl, ho0, hb⟩; replace HO_6 := Aside0.mk (Kd.Q_below z15_2 hb); replace HO_7 := Aside0.mk (Kd.R_below z15_3 hb); have HO493 := Aside0.mk (Kd.R_lower (Kd.R_new' ho0 (Kd.R_lt z15_4)) (below_size z15_0)); replace HO489 := Aside0.mk (Kd.R_elder' z15_4 (Kd.R_base ho0) hb); replace HB := Aside0.mk (below_step z15_0 hb); (try clear hb); (try clear ho0); obtain ⟨Ao40, co40, eo40⟩ := Kd.R_slice HO493.out; subst eo40) | (go_at_call 45; (with_reducible refine (impl_CodeFits.calls kj7 t472 _ _ t476 _ _ t491 true _ ?side1 ?side2 ?side3 ?side4 A31.out).mono ?_); (case side1 => exact cZ ((Kd.R_reads' HO_7.out).2.2)); (case side2 => exact (Kd.R_reads' HO_7.out).2.1); (case side3 => exact cZ ((Kd.R_reads' HO493.out).2.2)); (case side4 => exact (Kd.R_reads' HO493.out).2.1); rintro e w41 ⟨rfl, hb⟩; replace HO_6 := Aside0.mk (Kd.Q_below z15_2 hb); replace HO_7 := Aside0.mk (Kd.R_below z15_3 hb); replace HO489 := Aside0.mk (Kd.R_below z15_4 hb); replace HO493 := Aside0.mk (Kd.R_below z15_6 hb); replace HB := Aside0.mk (below_step z15_0 hb); (try clear hb)) | (go_at_call 36; (with_reducible refine (laws_lkThere.calls kj7 0 t495 _ A33.out).mono ?_); rintro e w42 ⟨v496, rfl, ho0, hb⟩; replace HO_6 := Aside0.mk (Kd.Q_below z15_2 hb); replace HO_7 := Aside0.mk (Kd.R_below z15_3 hb); have HO497 := Aside0.mk (Kd.R_lower (Kd.R_new' (Kd.R_new' ho0 (Kd.R_lt z15_4)) (Kd.R_lt z15_6)) (below_size z15_0)); replace HO489 := Aside0.mk (Kd.R_elder' z15_4 (Kd.R_base ho0) hb); replace HO493 := Aside0.mk (Kd.R_elder' z15_6 (Kd.R_base ho0) hb); replace HB := Aside0.mk (below_step z15_0 hb); (try clear hb); (try clear ho0); obtain ⟨Ao43, co43, eo43⟩ := Kd.R_slice HO497.out; subst eo43) | (go_at_call 45; (with_reducible refine (impl_CodeFits.calls kj7 t472 _ _ t476 _ _ t495 t498 _ ?side1 ?side2 ?side3 ?side4 A34.out).mono ?_); (case side1 => exact cZ ((Kd.R_reads' HO_7.out).2.2)); (case side2 => exact (Kd.R_reads' HO_7.out).2.1); (case side3 => exact cZ ((Kd.R_reads' HO497.out).2.2)); (case side4 => exact (Kd.R_reads' HO497.out).2.1); rintro e w44 ⟨rfl, hb⟩; replace HO_6 := Aside0.mk (Kd.Q_below z15_2 hb); replace HO_7 := Aside0.mk (Kd.R_below z15_3 hb); replace HO489 := Aside0.mk (Kd.R_below z15_4 hb); replace HO493 := Aside0.mk (Kd.R_below z15_6 hb); replace HO497 := Aside0.mk (Kd.R_below (by (with_reducible repeat (first | apply Kd.R_alloc | apply Kd.R_drewN | apply Kd.R_drew)); exact HO497.out) hb); replace HB := Aside0.mk (below_step z15_0 hb); (try clear hb)))
         go_ret
         exact ⟨z15_7, z15_0⟩
        ·replace c32 := Bool.eq_false_iff.mpr c32
         subst c32
         have H1 : (some false) = some r := by rw [if_neg (show ¬ (false = true) by decide)] at H; exact H
         clear H
         have H := H1
         clear H1
         obtain rfl := Option.some.inj H
         go_wp2_with (first | ((with_reducible refine gate_callee (f := 36) rfl ?_); refine goesL_ (some 46) rfl rfl Try.func36 (by kernel_rfl) rfl #[.int .i64 (Int.tmod (wrap64 ((l1.length : Int) * 37)) 256)] rfl z15_1 ?_; (with_reducible refine (laws_lkThere.calls kj7 (Int.tmod (wrap64 ((l1.length : Int) * 37)) 256) t487 _ A27.out).mono ?_); rintro e w45 ⟨v488, rfl, ho0, hb⟩; refine ⟨_, rfl, ?_⟩; replace HO_6 := Aside0.mk (Kd.Q_below z15_2 hb); replace HO_7 := Aside0.mk (Kd.R_below z15_3 hb); have HO489 := Aside0.mk (Kd.R_lower ho0 (below_size z15_0)); replace HB := Aside0.mk (below_step z15_0 hb); (try clear hb); (try clear ho0); obtain ⟨Ao46, co46, eo46⟩ := Kd.R_slice HO_7.out; subst eo46; obtain ⟨Ao47, co47, eo47⟩ := Kd.R_slice HO489.out; subst eo47) | ((with_reducible refine gate_callee (f := 45) rfl ?_); refine goesL_ (some 47) rfl rfl Try.func45 (by kernel_rfl) rfl #[.int .i64 t472, .slice Ao46 t476.length co46, .slice Ao47 t487.length co47] rfl z15_1 ?_; (with_reducible refine (impl_CodeFits.calls kj7 t472 _ _ t476 _ _ t487 true _ ?side1 ?side2 ?side3 ?side4 A28.out).mono ?_); (case side1 => exact cZ ((Kd.R_reads' HO_7.out).2.2)); (case side2 => exact (Kd.R_reads' HO_7.out).2.1); (case side3 => exact cZ ((Kd.R_reads' HO489.out).2.2)); (case side4 => exact (Kd.R_reads' HO489.out).2.1); rintro e w48 ⟨rfl, hb⟩; refine ⟨_, rfl, ?_⟩; replace HO_6 := Aside0.mk (Kd.Q_below z15_2 hb); replace HO_7 := Aside0.mk (Kd.R_below z15_3 hb); replace HO489 := Aside0.mk (Kd.R_below z15_4 hb); replace HB := Aside0.mk (below_step z15_0 hb); (try clear hb)) | (go_at_call 36; (with_reducible refine (laws_lkThere.calls kj7 255 t491 _ A30.out).mono ?_); rintro e w49 ⟨v492, rfl, ho0, hb⟩; replace HO_6 := Aside0.mk (Kd.Q_below z15_2 hb); replace HO_7 := Aside0.mk (Kd.R_below z15_3 hb); have HO493 := Aside0.mk (Kd.R_lower (Kd.R_new' ho0 (Kd.R_lt z15_4)) (below_size z15_0)); replace HO489 := Aside0.mk (Kd.R_elder' z15_4 (Kd.R_base ho0) hb); replace HB := Aside0.mk (below_step z15_0 hb); (try clear hb); (try clear ho0); obtain ⟨Ao50, co50, eo50⟩ := Kd.R_slice HO493.out; subst eo50) | (go_at_call 45; (with_reducible refine (impl_CodeFits.calls kj7 t472 _ _ t476 _ _ t491 false _ ?side1 ?side2 ?side3 ?side4 A31.out).mono ?_); (case side1 => exact cZ ((Kd.R_reads' HO_7.out).2.2)); (case side2 => exact (Kd.R_reads' HO_7.out).2.1); (case side3 => exact cZ ((Kd.R_reads' HO493.out).2.2)); (case side4 => exact (Kd.R_reads' HO493.out).2.1); rintro e w51 ⟨rfl, hb⟩; replace HO_6 := Aside0.mk (Kd.Q_below z15_2 hb); replace HO_7 := Aside0.mk (Kd.R_below z15_3 hb); replace HO489 := Aside0.mk (Kd.R_below z15_4 hb); replace HO493 := Aside0.mk (Kd.R_below z15_6 hb); replace HB := Aside0.mk (below_step z15_0 hb); (try clear hb)))
         go_ret
         exact ⟨z15_7, z15_0⟩
       ·replace c29 := Bool.eq_false_iff.mpr c29
        subst c29
        have H1 : (some false) = some r := by rw [if_neg (show ¬ (false = true) by decide)] at H; exact H
        clear H
        have H := H1
        clear H1
        obtain rfl := Option.some.inj H
        go_wp2_with (first | ((with_reducible refine gate_callee (f := 36) rfl ?_); refine goesL_ (some 46) rfl rfl Try.func36 (by kernel_rfl) rfl #[.int .i64 (Int.tmod (wrap64 ((l1.length : Int) * 37)) 256)] rfl z15_1 ?_; (with_reducible refine (laws_lkThere.calls kj7 (Int.tmod (wrap64 ((l1.length : Int) * 37)) 256) t487 _ A27.out).mono ?_); rintro e w52 ⟨v488, rfl, ho0, hb⟩; refine ⟨_, rfl, ?_⟩; replace HO_6 := Aside0.mk (Kd.Q_below z15_2 hb); replace HO_7 := Aside0.mk (Kd.R_below z15_3 hb); have HO489 := Aside0.mk (Kd.R_lower ho0 (below_size z15_0)); replace HB := Aside0.mk (below_step z15_0 hb); (try clear hb); (try clear ho0); obtain ⟨Ao53, co53, eo53⟩ := Kd.R_slice HO_7.out; subst eo53; obtain ⟨Ao54, co54, eo54⟩ := Kd.R_slice HO489.out; subst eo54) | ((with_reducible refine gate_callee (f := 45) rfl ?_); refine goesL_ (some 47) rfl rfl Try.func45 (by kernel_rfl) rfl #[.int .i64 t472, .slice Ao53 t476.length co53, .slice Ao54 t487.length co54] rfl z15_1 ?_; (with_reducible refine (impl_CodeFits.calls kj7 t472 _ _ t476 _ _ t487 false _ ?side1 ?side2 ?side3 ?side4 A28.out).mono ?_); (case side1 => exact cZ ((Kd.R_reads' HO_7.out).2.2)); (case side2 => exact (Kd.R_reads' HO_7.out).2.1); (case side3 => exact cZ ((Kd.R_reads' HO489.out).2.2)); (case side4 => exact (Kd.R_reads' HO489.out).2.1); rintro e w55 ⟨rfl, hb⟩; refine ⟨_, rfl, ?_⟩; replace HO_6 := Aside0.mk (Kd.Q_below z15_2 hb); replace HO_7 := Aside0.mk (Kd.R_below z15_3 hb); replace HO489 := Aside0.mk (Kd.R_below z15_4 hb); replace HB := Aside0.mk (below_step z15_0 hb); (try clear hb)))
        go_ret
        exact ⟨z15_7, z15_0⟩

/-- THE ONE PURE STATEMENT of laws_FnFitsAll: yours. -/
def laws_FnFitsAll.Pure : Prop := ∀ (l0 : List Int) (l1 : List Int), l0.length ≤ maxLen → l0.length * 1 ≤ 140737488351232 → (∀ x ∈ l0, (Lit.int .u8 x).wf = true) → l1.length ≤ maxLen → l1.length * 1 ≤ 140737488351232 → (∀ x ∈ l1, (Lit.int .u8 x).wf = true) → ∃ k, laws_FnFitsAll.f k l0 l1 = some true
theorem laws_FnFitsAll.walk (P : laws_FnFitsAll.Pure) (a0 : Option Addr) (len0 cap0 : Nat) (z0 : List Int) (a1 : Option Addr) (len1 cap1 : Nat) (z1 : List Int) (w : World) (w0 : (a0 = none ∧ len0 = 0 ∧ cap0 = 0 ∧ z0 = []) ∨ ∃ x, a0 = some x ∧ len0 ≤ cap0 ∧ cap0 ≤ maxLen ∧ z0.length = cap0 ∧ (∀ i, i < z0.length → w.cell? (x.add i) = some (.int .u8 (z0.getD i 0))) ∧ ∀ n ∈ z0, (Lit.int .u8 n).wf = true) (y0 : len0 * 1 ≤ 140737488351232) (w1 : (a1 = none ∧ len1 = 0 ∧ cap1 = 0 ∧ z1 = []) ∨ ∃ x, a1 = some x ∧ len1 ≤ cap1 ∧ cap1 ≤ maxLen ∧ z1.length = cap1 ∧ (∀ i, i < z1.length → w.cell? (x.add i) = some (.int .u8 (z1.getD i 0))) ∧ ∀ n ∈ z1, (Lit.int .u8 n).wf = true) (y1 : len1 * 1 ≤ 140737488351232) :
    Calls Try.prog 12 #[.slice a0 len0 cap0, .slice a1 len1 cap1] w fun e w' => e = .returned (.bool true) ∧ Below w.heap.size w w' := by
  obtain ⟨l0, rfl, hr0, hm0, hw0, hc0⟩ := ReadsInt.ofRowC w0
  obtain ⟨l1, rfl, hr1, hm1, hw1, hc1⟩ := ReadsInt.ofRowC w1
  obtain ⟨k, h⟩ := P l0 l1 hm0 y0 hw0 hm1 y1 hw1
  refine (laws_FnFitsAll.calls k _ _ l0 _ _ l1 true w (Kd.C_of_reads (d := (0 : Int)) (h1 := fun _ => rfl) hr0) hc0 (Kd.C_of_reads (d := (0 : Int)) (h1 := fun _ => rfl) hr1) hc1 h).mono ?_
  rintro e w' ⟨rfl, hd⟩
  exact ⟨rfl, hd⟩

end Go.Proofs.Ytamaejafddmagaa.PA
