-- Written by a program of this session (after the manner of the kit's print, several laws in one text).
import Derived.Test.YtbhmgbeebhmfkaaPAx0
import Derived.Test.YtbhmgbeebhmfkaaPAx2
import Derived.Test.YtbhmgbeebhmfkaaPAx5
import Derived.Test.YtbhmgbeebhmfkaaPAx12
import Derived.Test.YtbhmgbeebhmfkaaPAx16
import Derived.Test.YtbhmgbeebhmfkaaPAx17
import Derived.Test.YtbhmgbeebhmfkaaGw
import Derived.Test.YtbhmgbeebhmfkaaGm
import Derived.Test.YtbhmgbeebhmfkaaHf
namespace Go.Proofs.Ytbhmgbeebhmfkaa.PA
open Go.RowKit Go.Proofs.YtbhmgbeebhmfkaaW.PrintWords Go.Proofs.YtbhmgbeebhmfkaaW.PrintLast Go.Proofs.YtbhmgbeebhmfkaaW.PrintMore
attribute [local go_sem] max2_int min2_int max_two min_two max_three min_three max_four min_four   -- for this text's walks alone
set_option linter.unusedVariables false
set_option linter.unusedSimpArgs false

/-! ### laws_FnSpanOne: function 13 -/
theorem z18_0 {p : Prop} (h : p := by repeat (first | (with_reducible first | exact HB.out | apply below_alloc | apply pw_below_drewN | apply below_drew1) | exact HB.out)) : p := h
theorem z18_1 {p : Prop} (h : p := by (try simp only [List.map_toArray, List.map_cons, List.map_nil]); first | done | rfl | (simp only [List.length_drop, List.length_take]; rfl)) : p := h
theorem z18_2 {p : Prop} (h : p := by (with_reducible repeat (first | apply Kd.R_alloc | apply Kd.R_drewN | apply Kd.R_drew)); exact HO_6.out) : p := h
theorem z18_3 {p : Prop} (h : p := by (with_reducible repeat (first | apply Kd.R_alloc | apply Kd.R_drewN | apply Kd.R_drew)); exact HO_8.out) : p := h
theorem z18_4 {p : Prop} (h : p := by (with_reducible repeat (first | apply Kd.N_alloc | apply Kd.N_drewN | apply Kd.N_drew)); exact HO_5.out) : p := h
theorem z18_5 {p : Prop} (h : p := by (with_reducible repeat (first | apply Kd.N_alloc | apply Kd.N_drewN | apply Kd.N_drew)); exact HO_7.out) : p := h
theorem z18_6 {p : Prop} (h : p := by (with_reducible repeat (first | apply Kd.R_alloc | apply Kd.R_drewN | apply Kd.R_drew)); exact HO507.out) : p := h
theorem z18_7 {p : Prop} (h : p := by (with_reducible repeat (first | apply Kd.R_alloc | apply Kd.R_drewN | apply Kd.R_drew)); exact HO534.out) : p := h
theorem z18_8 {p : Prop} (h : p := by first | rfl | (simp [errW_none, errW_some] <;> rfl) | (simp [*, errW_none, errW_some] <;> rfl)) : p := h
theorem z18_9 {p : Prop} (h : p := by first | rfl | (simp; done) | (simp [*]; done)) : p := h
theorem z18_10 {p : Prop} (h : p := by (with_reducible repeat (first | apply Kd.N_alloc | apply Kd.N_drewN | apply Kd.N_drew)); exact HO504.out) : p := h
theorem z18_11 {p : Prop} (h : p := by first | (with_reducible assumption) | assumption) : p := h
theorem z18_12 {p : Prop} (h : p := by (with_reducible repeat (first | apply Kd.N_alloc | apply Kd.N_drewN | apply Kd.N_drew)); exact Kd.N_mono HO_5.out (fun _ hk => ⟨hk.1.1, ⟨hk.1.2, hk.2⟩⟩)) : p := h
theorem z18_13 {p : Prop} (h : p := by (with_reducible repeat (first | apply Kd.R_alloc | apply Kd.R_drewN | apply Kd.R_drew)); exact Kd.R_mono HO507.out (fun _ hk => trivial)) : p := h
theorem z18_14 {p : Prop} (h : p := by (with_reducible repeat (first | apply Kd.N_alloc | apply Kd.N_drewN | apply Kd.N_drew)); exact Kd.N_mono HO504.out (fun _ hk => hk.1.2)) : p := h
theorem z18_15 {p : Prop} (h : p := by (with_reducible repeat (first | apply Kd.R_alloc | apply Kd.R_drewN | apply Kd.R_drew)); exact Kd.R_mono HO_6.out (fun _ hk => hk.2)) : p := h
mutual
def laws_FnSpanOne.j0 : Nat → List Int → List Int → Bool → Option (Bool)
  | 0, _, _, _ => none
  | k + 1, x0, x1, x19 => if x19 = true then (some true) else ((spec_DrawSpanFirst.f k x0).bind fun t502 => ((impl_SpanFirst.f t502).bind fun t505 => ((spec_SpanFirst.f k t502).bind fun t508 => ((laws_lkInts.f k t505 t508).bind fun t511 => (if t511 = true then ((spec_SpanOk.f k t502).bind fun t512 => (laws_FnSpanOne.j1 k x1 t502 t505 (!t512))) else (laws_FnSpanOne.j1 k x1 t502 t505 true))))))
def laws_FnSpanOne.j1 : Nat → List Int → List (List Int) → List Int → Bool → Option (Bool)
  | 0, _, _, _, _ => none
  | k + 1, x1, x5, x6, x33 => if x33 = true then ((spec_SpanFirst.f k x5).bind fun t513 => ((laws_lkInts.f k x6 t513).bind fun t516 => (some t516))) else (laws_FnSpanOne.l0 k x1 x5 x6 (([] : List (List Int))) (([] : List Int)) 0)
def laws_FnSpanOne.l0 : Nat → List Int → List (List Int) → List Int → List (List Int) → List Int → Int → Option (Bool)
  | 0, _, _, _, _, _, _ => none
  | k + 1, x1, x5, x6, x7, x8, x9 => if x9 < (x6.length : Int) then (if 0 ≤ x9 then (if 0 ≤ (rd x6 x9) then (if (rd x6 x9) < (x5.length : Int) then (if x7.length < 5864062014805 then ((laws_lkNum.f (wrap64 ((wrap64 ((x1.length : Int) * (wrap64 (x9 + 5)))) + x9))).bind fun t528 => (if x8.length < 17592186044416 then (laws_FnSpanOne.l0 k x1 x5 x6 (x7 ++ [rd_L1 x5 (rd x6 x9)]) (x8 ++ [t528]) (wrap64 (x9 + 1))) else (none))) else (none)) else (none)) else (none)) else (none)) else ((laws_lkMade.f k x7 x8).bind fun t532 => ((impl_SpanBy.f k x7 t532).bind fun bt535 => (if bt535.2 = true then ((laws_lkInts.f k bt535.1 x8).bind fun t539 => (some t539)) else (some false))))
end
def laws_FnSpanOne.f (k : Nat) (l0 : List Int) (l1 : List Int) : Option (Bool) := if (l0.length : Int) > 1048576 then (laws_FnSpanOne.j0 k l0 l1 true) else (laws_FnSpanOne.j0 k l0 l1 (decide ((l1.length : Int) > 1048576)))
set_option maxHeartbeats 8000000 in
set_option maxRecDepth 100000 in
theorem laws_FnSpanOne.calls (k : Nat) (A0 : Option Addr) (c0 : Nat) (l0 : List Int) (A1 : Option Addr) (c1 : Nat) (l1 : List Int) (r : Bool) (w : World) (hr0 : Kd.C (Kd.int .u8) w A0 l0.length l0) (hc0 : l0.length ≤ c0) (hr1 : Kd.C (Kd.int .u8) w A1 l1.length l1) (hc1 : l1.length ≤ c1) (h : laws_FnSpanOne.f k l0 l1 = some r) :
  Calls Try.prog 13 #[.slice A0 l0.length c0, .slice A1 l1.length c1] w fun e w' => e = .returned (.bool r) ∧ Below w.heap.size w w' := by
 have HR0 := Aside0.mk hr0
 have HC0 := Aside0.mk hc0
 clear hr0 hc0
 have HR1 := Aside0.mk hr1
 have HC1 := Aside0.mk hc1
 clear hr1 hc1
 have HB := Aside0.mk (Below.refl w.heap.size w)
 have H : (if (l0.length : Int) > 1048576 then (laws_FnSpanOne.j0 k l0 l1 true) else (laws_FnSpanOne.j0 k l0 l1 (decide ((l1.length : Int) > 1048576)))) = some r := h
 clear h
 have HC3 := Aside0.mk H
 clear H
 go_enter Try.func13, Try.ntmps13
 go_upto_region 1 with (fail)
 go_cut [19] (fun v19 wc => ∃ (kq : Nat) (x19_2 : Bool), v19 = .bool x19_2 ∧ Aside0 (laws_FnSpanOne.j0 kq l0 l1 x19_2 = some r) ∧ Aside0 (kq ≤ k) ∧ Aside0 (Below w.heap.size w wc))
 case first =>
  have H := HC3.out
  clear HC3
  by_cases c4 : (l0.length : Int) > 1048576
  ·rw [if_pos c4] at H
   have c4b0 : decide (1048576 < (l0.length : Int)) = true := decide_eq_true c4
   have c4b1 : decide (1048576 < l0.length) = true := decide_eq_true (by omega)
   clear c4
   (first | rw [c4b0] | (simp only [i64_w, i32_w]; rw [c4b0]) | skip)
   have H' := Aside0.mk H
   clear H
   go_wp2
   go_meet
   case rel => exact ⟨_, (true), z18_9, H', ⟨by first | omega | exact Nat.le_refl _⟩, ⟨z18_0⟩⟩
  ·rw [if_neg c4] at H
   have c4b0 : decide (1048576 < (l0.length : Int)) = false := decide_eq_false c4
   have c4b1 : decide (1048576 < l0.length) = false := decide_eq_false (by omega)
   clear c4
   (first | rw [c4b0] | (simp only [i64_w, i32_w]; rw [c4b0]) | skip)
   have H' := Aside0.mk H
   clear H
   go_wp2
   go_meet
   case rel => exact ⟨_, (decide ((l1.length : Int) > 1048576)), z18_9, H', ⟨by first | omega | exact Nat.le_refl _⟩, ⟨z18_0⟩⟩
 case rest =>
  clear HC3
  try clear c1
  obtain ⟨kq, x19_2, rfl, HA, HJ2, HB⟩ := hcut
  cases kq with
  | zero => exact absurd HA.out (by simp [laws_FnSpanOne.j0])
  | succ kj2 =>
   have H := HA.out
   clear HA
   simp only [laws_FnSpanOne.j0] at H
   by_cases c5 : x19_2 = true
   ·subst c5
    have H1 : (some true) = some r := by rw [if_pos rfl] at H; exact H
    clear H
    have H := H1
    clear H1
    obtain rfl := Option.some.inj H
    go_wp2
    go_ret
    exact ⟨z18_8, z18_0⟩
   ·replace c5 := Bool.eq_false_iff.mpr c5
    subst c5
    have H1 : ((spec_DrawSpanFirst.f kj2 l0).bind fun t502 => ((impl_SpanFirst.f t502).bind fun t505 => ((spec_SpanFirst.f kj2 t502).bind fun t508 => ((laws_lkInts.f kj2 t505 t508).bind fun t511 => (if t511 = true then ((spec_SpanOk.f kj2 t502).bind fun t512 => (laws_FnSpanOne.j1 kj2 l1 t502 t505 (!t512))) else (laws_FnSpanOne.j1 kj2 l1 t502 t505 true)))))) = some r := by rw [if_neg (show ¬ (false = true) by decide)] at H; exact H
    clear H
    have H := H1
    clear H1
    replace H := Option.bind_eq_some_iff.mp H
    obtain ⟨t502, A60, H⟩ := H
    replace H : ((impl_SpanFirst.f t502).bind fun t505 => ((spec_SpanFirst.f kj2 t502).bind fun t508 => ((laws_lkInts.f kj2 t505 t508).bind fun t511 => (if t511 = true then ((spec_SpanOk.f kj2 t502).bind fun t512 => (laws_FnSpanOne.j1 kj2 l1 t502 t505 (!t512))) else (laws_FnSpanOne.j1 kj2 l1 t502 t505 true))))) = some r := H
    have A6 := Aside0.mk A60
    clear A60
    replace H := Option.bind_eq_some_iff.mp H
    obtain ⟨t505, A70, H⟩ := H
    replace H : ((spec_SpanFirst.f kj2 t502).bind fun t508 => ((laws_lkInts.f kj2 t505 t508).bind fun t511 => (if t511 = true then ((spec_SpanOk.f kj2 t502).bind fun t512 => (laws_FnSpanOne.j1 kj2 l1 t502 t505 (!t512))) else (laws_FnSpanOne.j1 kj2 l1 t502 t505 true)))) = some r := H
    have A7 := Aside0.mk A70
    clear A70
    have HC8 := Aside0.mk H
    clear H
    go_upto_region 5 with (first | ((with_reducible refine gate_callee (f := 36) rfl ?_); refine goesL_ (some 21) rfl rfl Try.func36 (by kernel_rfl) rfl #[.slice A0 l0.length c0] rfl z18_1 ?_; (with_reducible refine (spec_DrawSpanFirst.calls kj2 _ _ l0 t502 _ ?side1 ?side2 A6.out).mono ?_); (case side1 => repeat (first | exact (Kd.C_below HR0.out HB.out) | (with_reducible refine Kd.C_alloc ?_ _) | (with_reducible refine Kd.C_drewN ?_ _) | (with_reducible refine Kd.C_drew ?_))); (case side2 => exact HC0.out); rintro e w9 ⟨v503, rfl, ho0, hb⟩; refine ⟨_, rfl, ?_⟩; have n0_ := Aside0.mk (Kd.N_lower (Kd.N_mono (ok' := fun k_ => True) ho0 (fun k_ hk_ => trivial)) (below_size z18_0)); have n1_ := Aside0.mk (below_step z18_0 hb); clear HB; have HO504 := n0_; have HB := n1_; clear n0_ n1_; (try clear hb); (try clear hb2); (try clear hk); (try clear hi); (try clear ho0); obtain ⟨Ao10, co10, eo10⟩ := Kd.N_slice HO504.out; subst eo10; (try simp only [clip_slice])) | ((with_reducible refine gate_callee (f := 25) rfl ?_); refine goesL_ (some 23) rfl rfl Try.func25 (by kernel_rfl) rfl #[.slice Ao10 t502.length co10] rfl z18_1 ?_; (with_reducible refine (impl_SpanFirst.calls _ _ t502 t505 _ ?side1 ?side2 A7.out).mono ?_); (case side1 => repeat (first | exact (Kd.N_reads' HO504.out).2.2 | (with_reducible refine Kd.C_alloc ?_ _) | (with_reducible refine Kd.C_drewN ?_ _) | (with_reducible refine Kd.C_drew ?_))); (case side2 => first | exact (Kd.N_reads' HO504.out).2.1 | exact Nat.le_refl _); rintro e w11 ⟨v506, rfl, ho0, hb⟩; refine ⟨_, rfl, ?_⟩; have n0_ := Aside0.mk (Kd.N_elder' z18_10 (Kd.R_base ho0) hb); have n1_ := Aside0.mk (Kd.R_lower ho0 (below_size z18_0)); have n2_ := Aside0.mk (below_step z18_0 hb); clear HO504; clear HB; have HO504 := n0_; have HO507 := n1_; have HB := n2_; clear n0_ n1_ n2_; (try clear hb); (try clear hb2); (try clear hk); (try clear hi); (try clear ho0)))
    (try simp only [Act.put, List.setIfInBounds_toArray, List.set_cons_zero, List.set_cons_succ])
    go_cut [33] (fun v33 wc => ∃ (kq : Nat) (x33_7 : Bool), v33 = .bool x33_7 ∧ Aside0 (laws_FnSpanOne.j1 kq l1 t502 t505 x33_7 = some r) ∧ Aside0 (kq ≤ kj2) ∧ Aside0 (Kd.N (Kd.slice 3 (Kd.int .i64)) 28 wc w.heap.size (fun k_ => some k_ ≠ (v506 : Value).ownBlock) (.slice Ao10 t502.length co10) t502) ∧ Aside0 (Kd.R (Kd.int .i64) 3 wc w.heap.size (fun _ => True) v506 t505) ∧ Aside0 (Below w.heap.size w wc))
    case first =>
     have H := HC8.out
     clear HC8
     replace H := Option.bind_eq_some_iff.mp H
     obtain ⟨t508, A120, H⟩ := H
     replace H : ((laws_lkInts.f kj2 t505 t508).bind fun t511 => (if t511 = true then ((spec_SpanOk.f kj2 t502).bind fun t512 => (laws_FnSpanOne.j1 kj2 l1 t502 t505 (!t512))) else (laws_FnSpanOne.j1 kj2 l1 t502 t505 true))) = some r := H
     have A12 := Aside0.mk A120
     clear A120
     replace H := Option.bind_eq_some_iff.mp H
     obtain ⟨t511, A130, H⟩ := H
     replace H : (if t511 = true then ((spec_SpanOk.f kj2 t502).bind fun t512 => (laws_FnSpanOne.j1 kj2 l1 t502 t505 (!t512))) else (laws_FnSpanOne.j1 kj2 l1 t502 t505 true)) = some r := H
     have A13 := Aside0.mk A130
     clear A130
     by_cases c14 : t511 = true
     ·subst c14
      have H1 : ((spec_SpanOk.f kj2 t502).bind fun t512 => (laws_FnSpanOne.j1 kj2 l1 t502 t505 (!t512))) = some r := by rw [if_pos rfl] at H; exact H
      clear H
      have H := H1
      clear H1
      replace H := Option.bind_eq_some_iff.mp H
      obtain ⟨t512, A150, H⟩ := H
      replace H : (laws_FnSpanOne.j1 kj2 l1 t502 t505 (!t512)) = some r := H
      have A15 := Aside0.mk A150
      clear A150
      have H' := Aside0.mk H
      clear H
      go_wp2_with (first | ((with_reducible refine gate_callee (f := 24) rfl ?_); refine goesL_ (some 26) rfl rfl Try.func24 (by kernel_rfl) rfl #[.slice Ao10 t502.length co10] rfl z18_1 ?_; (with_reducible refine (spec_SpanFirst.calls kj2 _ _ t502 t508 _ ?side1 ?side2 A12.out).mono ?_); (case side1 => repeat (first | exact (Kd.N_reads' HO504.out).2.2 | (with_reducible refine Kd.C_alloc ?_ _) | (with_reducible refine Kd.C_drewN ?_ _) | (with_reducible refine Kd.C_drew ?_))); (case side2 => first | exact (Kd.N_reads' HO504.out).2.1 | exact Nat.le_refl _); rintro e w16 ⟨v509, rfl, ho0, hb⟩; refine ⟨_, rfl, ?_⟩; have n0_ := Aside0.mk (Kd.N_elder' z18_10 (Kd.R_base ho0) hb); have n1_ := Aside0.mk (Kd.R_elder' z18_6 (Kd.R_base ho0) hb); have n2_ := Aside0.mk (Kd.R_lower (Kd.R_new' ho0 (Kd.R_lt z18_6)) (below_size z18_0)); have n3_ := Aside0.mk (below_step z18_0 hb); clear HO504; clear HO507; clear HB; have HO504 := n0_; have HO507 := n1_; have HO510 := n2_; have HB := n3_; clear n0_ n1_ n2_ n3_; (try clear hb); (try clear hb2); (try clear hk); (try clear hi); (try clear ho0); obtain ⟨Ao17, co17, eo17⟩ := Kd.R_slice HO507.out; subst eo17; (try simp only [clip_slice]); obtain ⟨Ao18, co18, eo18⟩ := Kd.R_slice HO510.out; subst eo18; (try simp only [clip_slice])) | ((with_reducible refine gate_callee (f := 37) rfl ?_); refine goesL_ (some 27) rfl rfl Try.func37 (by kernel_rfl) rfl #[.slice Ao17 t505.length t505.length, .slice Ao18 t508.length co18] rfl z18_1 ?_; (with_reducible refine (laws_lkInts.calls kj2 _ _ t505 _ _ t508 true _ ?side1 ?side2 ?side3 ?side4 A13.out).mono ?_); (case side1 => repeat (first | exact (Kd.R_reads' HO507.out).2.2 | (with_reducible refine Kd.C_alloc ?_ _) | (with_reducible refine Kd.C_drewN ?_ _) | (with_reducible refine Kd.C_drew ?_))); (case side2 => first | exact (Kd.R_reads' HO507.out).2.1 | exact Nat.le_refl _); (case side3 => repeat (first | exact (Kd.R_reads' HO510.out).2.2 | (with_reducible refine Kd.C_alloc ?_ _) | (with_reducible refine Kd.C_drewN ?_ _) | (with_reducible refine Kd.C_drew ?_))); (case side4 => first | exact (Kd.R_reads' HO510.out).2.1 | exact Nat.le_refl _); rintro e w' ⟨rfl, ⟨nd, rfl⟩⟩; refine ⟨_, rfl, ?_⟩) | (go_at_call 38; (with_reducible refine (spec_SpanOk.calls kj2 _ _ t502 t512 _ ?side1 ?side2 A15.out).mono ?_); (case side1 => repeat (first | exact (Kd.N_reads' HO504.out).2.2 | (with_reducible refine Kd.C_alloc ?_ _) | (with_reducible refine Kd.C_drewN ?_ _) | (with_reducible refine Kd.C_drew ?_))); (case side2 => first | exact (Kd.N_reads' HO504.out).2.1 | exact Nat.le_refl _); rintro e w' ⟨rfl, ⟨nd, rfl⟩⟩))
      go_meet
      case rel => exact ⟨_, (!t512), z18_9, H', ⟨by have := HJ2.out; first | omega | exact Nat.le_refl _⟩, ⟨z18_14⟩, ⟨z18_13⟩, ⟨z18_0⟩⟩
     ·replace c14 := Bool.eq_false_iff.mpr c14
      subst c14
      have H1 : (laws_FnSpanOne.j1 kj2 l1 t502 t505 true) = some r := by rw [if_neg (show ¬ (false = true) by decide)] at H; exact H
      clear H
      have H := H1
      clear H1
      have H' := Aside0.mk H
      clear H
      go_wp2_with (first | ((with_reducible refine gate_callee (f := 24) rfl ?_); refine goesL_ (some 26) rfl rfl Try.func24 (by kernel_rfl) rfl #[.slice Ao10 t502.length co10] rfl z18_1 ?_; (with_reducible refine (spec_SpanFirst.calls kj2 _ _ t502 t508 _ ?side1 ?side2 A12.out).mono ?_); (case side1 => repeat (first | exact (Kd.N_reads' HO504.out).2.2 | (with_reducible refine Kd.C_alloc ?_ _) | (with_reducible refine Kd.C_drewN ?_ _) | (with_reducible refine Kd.C_drew ?_))); (case side2 => first | exact (Kd.N_reads' HO504.out).2.1 | exact Nat.le_refl _); rintro e w19 ⟨v509, rfl, ho0, hb⟩; refine ⟨_, rfl, ?_⟩; have n0_ := Aside0.mk (Kd.N_elder' z18_10 (Kd.R_base ho0) hb); have n1_ := Aside0.mk (Kd.R_elder' z18_6 (Kd.R_base ho0) hb); have n2_ := Aside0.mk (Kd.R_lower (Kd.R_new' ho0 (Kd.R_lt z18_6)) (below_size z18_0)); have n3_ := Aside0.mk (below_step z18_0 hb); clear HO504; clear HO507; clear HB; have HO504 := n0_; have HO507 := n1_; have HO510 := n2_; have HB := n3_; clear n0_ n1_ n2_ n3_; (try clear hb); (try clear hb2); (try clear hk); (try clear hi); (try clear ho0); obtain ⟨Ao20, co20, eo20⟩ := Kd.R_slice HO507.out; subst eo20; (try simp only [clip_slice]); obtain ⟨Ao21, co21, eo21⟩ := Kd.R_slice HO510.out; subst eo21; (try simp only [clip_slice])) | ((with_reducible refine gate_callee (f := 37) rfl ?_); refine goesL_ (some 27) rfl rfl Try.func37 (by kernel_rfl) rfl #[.slice Ao20 t505.length t505.length, .slice Ao21 t508.length co21] rfl z18_1 ?_; (with_reducible refine (laws_lkInts.calls kj2 _ _ t505 _ _ t508 false _ ?side1 ?side2 ?side3 ?side4 A13.out).mono ?_); (case side1 => repeat (first | exact (Kd.R_reads' HO507.out).2.2 | (with_reducible refine Kd.C_alloc ?_ _) | (with_reducible refine Kd.C_drewN ?_ _) | (with_reducible refine Kd.C_drew ?_))); (case side2 => first | exact (Kd.R_reads' HO507.out).2.1 | exact Nat.le_refl _); (case side3 => repeat (first | exact (Kd.R_reads' HO510.out).2.2 | (with_reducible refine Kd.C_alloc ?_ _) | (with_reducible refine Kd.C_drewN ?_ _) | (with_reducible refine Kd.C_drew ?_))); (case side4 => first | exact (Kd.R_reads' HO510.out).2.1 | exact Nat.le_refl _); rintro e w' ⟨rfl, ⟨nd, rfl⟩⟩; refine ⟨_, rfl, ?_⟩))
      go_meet
      case rel => exact ⟨_, (true), z18_9, H', ⟨by have := HJ2.out; first | omega | exact Nat.le_refl _⟩, ⟨z18_14⟩, ⟨z18_13⟩, ⟨z18_0⟩⟩
    case rest =>
     clear HC8
     try clear c1
     try clear c5
     obtain ⟨kq, x33_7, rfl, HA, HJ7, HO_5, HO_6, HB⟩ := hcut
     cases kq with
     | zero => exact absurd HA.out (by simp [laws_FnSpanOne.j1])
     | succ kj7 =>
      have H := HA.out
      clear HA
      simp only [laws_FnSpanOne.j1] at H
      by_cases c22 : x33_7 = true
      ·subst c22
       have H1 : ((spec_SpanFirst.f kj7 t502).bind fun t513 => ((laws_lkInts.f kj7 t505 t513).bind fun t516 => (some t516))) = some r := by rw [if_pos rfl] at H; exact H
       clear H
       have H := H1
       clear H1
       replace H := Option.bind_eq_some_iff.mp H
       obtain ⟨t513, A230, H⟩ := H
       replace H : ((laws_lkInts.f kj7 t505 t513).bind fun t516 => (some t516)) = some r := H
       have A23 := Aside0.mk A230
       clear A230
       replace H := Option.bind_eq_some_iff.mp H
       obtain ⟨t516, A240, H⟩ := H
       replace H : (some t516) = some r := H
       have A24 := Aside0.mk A240
       clear A240
       obtain rfl := Option.some.inj H
       go_wp2_with (first | ((with_reducible refine gate_callee (f := 24) rfl ?_); refine goesL_ (some 36) rfl rfl Try.func24 (by kernel_rfl) rfl #[.slice Ao10 t502.length co10] rfl z18_1 ?_; (with_reducible refine (spec_SpanFirst.calls kj7 _ _ t502 t513 _ ?side1 ?side2 A23.out).mono ?_); (case side1 => repeat (first | exact (Kd.N_reads' HO_5.out).2.2 | (with_reducible refine Kd.C_alloc ?_ _) | (with_reducible refine Kd.C_drewN ?_ _) | (with_reducible refine Kd.C_drew ?_))); (case side2 => first | exact (Kd.N_reads' HO_5.out).2.1 | exact Nat.le_refl _); rintro e w25 ⟨v514, rfl, ho0, hb⟩; refine ⟨_, rfl, ?_⟩; have n0_ := Aside0.mk (Kd.N_elder' z18_4 (Kd.R_base ho0) hb); have n1_ := Aside0.mk (Kd.R_elder' z18_2 (Kd.R_base ho0) hb); have n2_ := Aside0.mk (Kd.R_lower (Kd.R_new' ho0 (Kd.R_lt z18_2)) (below_size z18_0)); have n3_ := Aside0.mk (below_step z18_0 hb); clear HO_5; clear HO_6; clear HB; have HO_5 := n0_; have HO_6 := n1_; have HO515 := n2_; have HB := n3_; clear n0_ n1_ n2_ n3_; (try clear hb); (try clear hb2); (try clear hk); (try clear hi); (try clear ho0); obtain ⟨Ao26, co26, eo26⟩ := Kd.R_slice HO_6.out; subst eo26; (try simp only [clip_slice]); obtain ⟨Ao27, co27, eo27⟩ := Kd.R_slice HO515.out; subst eo27; (try simp only [clip_slice])) | ((with_reducible refine gate_callee (f := 37) rfl ?_); refine goesL_ (some 37) rfl rfl Try.func37 (by kernel_rfl) rfl #[.slice Ao26 t505.length t505.length, .slice Ao27 t513.length co27] rfl z18_1 ?_; (with_reducible refine (laws_lkInts.calls kj7 _ _ t505 _ _ t513 t516 _ ?side1 ?side2 ?side3 ?side4 A24.out).mono ?_); (case side1 => repeat (first | exact (Kd.R_reads' HO_6.out).2.2 | (with_reducible refine Kd.C_alloc ?_ _) | (with_reducible refine Kd.C_drewN ?_ _) | (with_reducible refine Kd.C_drew ?_))); (case side2 => first | exact (Kd.R_reads' HO_6.out).2.1 | exact Nat.le_refl _); (case side3 => repeat (first | exact (Kd.R_reads' HO515.out).2.2 | (with_reducible refine Kd.C_alloc ?_ _) | (with_reducible refine Kd.C_drewN ?_ _) | (with_reducible refine Kd.C_drew ?_))); (case side4 => first | exact (Kd.R_reads' HO515.out).2.1 | exact Nat.le_refl _); rintro e w' ⟨rfl, ⟨nd, rfl⟩⟩; refine ⟨_, rfl, ?_⟩))
       go_ret
       exact ⟨z18_8, z18_0⟩
      ·replace c22 := Bool.eq_false_iff.mpr c22
       subst c22
       have H1 : (laws_FnSpanOne.l0 kj7 l1 t502 t505 (([] : List (List Int))) (([] : List Int)) 0) = some r := by rw [if_neg (show ¬ (false = true) by decide)] at H; exact H
       clear H
       have H := H1
       clear H1
       obtain ⟨y517, hy517⟩ : ∃ y_ : List (List Int), y_ = (([] : List (List Int))) := ⟨_, rfl⟩
       replace H : (laws_FnSpanOne.l0 kj7 l1 t502 t505 y517 (([] : List Int)) 0) = some r := by first | (rw [hy517]; with_reducible exact H) | (have H2_ := (Option.bind_some _ _).symm.trans H; rw [hy517]; with_reducible exact H2_) | (have H2_ := (Option.bind_some _ _).symm.trans H; with_reducible exact H2_) | with_reducible exact H | (rw [hy517]; exact H) | exact H
       have Ny517 := Aside0.mk hy517
       clear hy517
       obtain ⟨y520, hy520⟩ : ∃ y_ : List Int, y_ = (([] : List Int)) := ⟨_, rfl⟩
       replace H : (laws_FnSpanOne.l0 kj7 l1 t502 t505 y517 y520 0) = some r := by first | (rw [hy520]; with_reducible exact H) | (have H2_ := (Option.bind_some _ _).symm.trans H; rw [hy520]; with_reducible exact H2_) | (have H2_ := (Option.bind_some _ _).symm.trans H; with_reducible exact H2_) | with_reducible exact H | (rw [hy520]; exact H) | exact H
       have Ny520 := Aside0.mk hy520
       clear hy520
       have H' := Aside0.mk H
       clear H
       go_wp2_with (first | ((with_reducible refine gate_dst (N := 38) rfl ?_); (try (refine gate_guard (by rfl) ?_; dsimp only)); refine Kd.N_lit (Kd.slice 3 (Kd.int .i64)) _ 28 ?hg (N' := 38) ?hd (xs := ([] : List (List Int))) (inner := []) (ok := (fun k_ => some k_ ≠ (.slice Ao10 t502.length co10 : Value).ownBlock ∧ some k_ ≠ (v506 : Value).ownBlock)) (okp := (fun k_ => some k_ ≠ (.slice Ao10 t502.length co10 : Value).ownBlock ∧ some k_ ≠ (v506 : Value).ownBlock)) ?hr ?hp (fun _ hk => hk) ((show ∀ k_, wc.heap.size ≤ k_ → (fun k_ => some k_ ≠ (.slice Ao10 t502.length co10 : Value).ownBlock ∧ some k_ ≠ (v506 : Value).ownBlock) k_ from fun k_ hk => ⟨Kd.fresh' (Kd.N_lt z18_4) k_ hk, Kd.fresh' (Kd.R_lt z18_2) k_ hk⟩) _ (Nat.le_refl _)) (Below.refl _ _) (Nat.le_refl _) (by simp) ?_; (case hd => rfl); (case hg => rfl); (case hr => first | (go_simp; done) | (go_simp; rfl)); (case hp => exact (Reps.none _ _)); intro v518 w28 ho29 hb hg_ hnew_; clear hg_ hnew_; (first | rw [← Ny517.out] at ho29 | (simp only [Int.reduceToNat] at ho29; rw [← Ny517.out] at ho29)); have n0_ := Aside0.mk (Kd.N_elder' z18_4 (by first | exact Kd.N_base ho29 | exact Kd.R_base ho29) hb); have n1_ := Aside0.mk (Kd.R_below z18_2 hb); have n2_ := Aside0.mk (Kd.N_lower ho29 (below_size z18_0)); have n3_ := Aside0.mk (below_step z18_0 hb); clear HO_5; clear HO_6; clear HB; have HO_5 := n0_; have HO_6 := n1_; have HO519 := n2_; have HB := n3_; clear n0_ n1_ n2_ n3_; clear hb ho29) | ((with_reducible refine gate_dst (N := 39) rfl ?_); (try (refine gate_guard (by rfl) ?_; dsimp only)); refine Kd.R_lit (Kd.int .i64) _ 3 ?hg (N := 39) ?hd (xs := ([] : List Int)) (inner := []) (ok := fun _ => True) (okp := fun _ => True) ?hr ?hp (fun _ hk => hk) trivial (Below.refl _ _) (Nat.le_refl _) (by simp) ?_; (case hd => rfl); (case hg => rfl); (case hr => first | (go_simp; done) | (go_simp; rfl)); (case hp => exact (Reps.none _ _)); intro v521 w30 ho31 hb hg_ hnew_; clear hg_ hnew_; (first | rw [← Ny520.out] at ho31 | (simp only [Int.reduceToNat] at ho31; rw [← Ny520.out] at ho31)); have n0_ := Aside0.mk (Kd.N_elder' z18_4 (Kd.R_base ho31) hb); have n1_ := Aside0.mk (Kd.R_elder' z18_2 (Kd.R_base ho31) hb); have n2_ := Aside0.mk (Kd.N_elder' (by (with_reducible repeat (first | apply Kd.N_alloc | apply Kd.N_drewN | apply Kd.N_drew)); exact HO519.out) (Kd.R_base ho31) hb); have n3_ := Aside0.mk (Kd.R_lower (Kd.R_new' ho31 (Kd.R_lt z18_2)) (below_size z18_0)); have n4_ := Aside0.mk (below_step z18_0 hb); clear HO_5; clear HO_6; clear HO519; clear HB; have HO_5 := n0_; have HO_6 := n1_; have HO519 := n2_; have HO522 := n3_; have HB := n4_; clear n0_ n1_ n2_ n3_ n4_; clear hb ho31))
       go_loopg [7, 8, 9] kj7 (fun kq v7 v8 v9 w' => ∃ (x7_3 : List (List Int)) (x8_3 : List Int) (x9_3 : Int), v9 = .int .i64 x9_3 ∧ Aside0 (laws_FnSpanOne.l0 kq l1 t502 t505 x7_3 x8_3 x9_3 = some r) ∧ Aside0 (kq ≤ kj7) ∧ Aside0 (Kd.N (Kd.slice 3 (Kd.int .i64)) 28 w' w.heap.size (fun k_ => some k_ ≠ (v506 : Value).ownBlock ∧ some k_ ≠ (v7 : Value).ownBlock ∧ some k_ ≠ (v8 : Value).ownBlock) (.slice Ao10 t502.length co10) t502) ∧ Aside0 (Kd.R (Kd.int .i64) 3 w' w.heap.size (fun k_ => some k_ ≠ (v8 : Value).ownBlock) v506 t505) ∧ Aside0 (Kd.N (Kd.slice 3 (Kd.int .i64)) 28 w' w.heap.size (fun k_ => some k_ ≠ ((.slice Ao10 t502.length co10) : Value).ownBlock ∧ some k_ ≠ (v506 : Value).ownBlock ∧ some k_ ≠ (v8 : Value).ownBlock) v7 x7_3) ∧ Aside0 (Kd.R (Kd.int .i64) 3 w' w.heap.size (fun k_ => some k_ ≠ (v506 : Value).ownBlock) v8 x8_3) ∧ Aside0 (Below w.heap.size w w'))
       case atStart => exact ⟨(y517), (y520), (0), z18_9, H', ⟨Nat.le_refl _⟩, ⟨z18_12⟩, ⟨z18_15⟩, ⟨by (with_reducible repeat (first | apply Kd.N_alloc | apply Kd.N_drewN | apply Kd.N_drew)); exact Kd.N_mono HO519.out (fun _ hk => ⟨hk.1.1, ⟨hk.1.2, hk.2⟩⟩)⟩, ⟨by (with_reducible repeat (first | apply Kd.R_alloc | apply Kd.R_drewN | apply Kd.R_drew)); exact Kd.R_mono HO522.out (fun _ hk => hk.2)⟩, ⟨z18_0⟩⟩
       case round =>
        clear H'
        try clear c1
        try clear c5
        try clear c22
        obtain ⟨x7_3, x8_3, x9_3, rfl, HA, HK3, HO_5, HO_6, HO_7, HO_8, HB⟩ := hrel
        cases gk with
        | zero => exact absurd HA.out (by simp [laws_FnSpanOne.l0])
        | succ k3 =>
         have H := HA.out
         clear HA
         simp only [laws_FnSpanOne.l0] at H
         by_cases c32 : x9_3 < (t505.length : Int)
         ·rw [if_pos c32] at H
          have c32b0 : decide (x9_3 < (t505.length : Int)) = true := decide_eq_true c32
          clear c32
          by_cases c33 : 0 ≤ x9_3
          ·rw [if_pos c33] at H
           have c33b0 : decide (0 ≤ x9_3) = true := decide_eq_true c33
           clear c33
           by_cases c34 : 0 ≤ (rd t505 x9_3)
           ·rw [if_pos c34] at H
            have c34b0 : decide (0 ≤ (rd t505 x9_3)) = true := decide_eq_true c34
            clear c34
            by_cases c35 : (rd t505 x9_3) < (t502.length : Int)
            ·rw [if_pos c35] at H
             have c35b0 : decide ((rd t505 x9_3) < (t502.length : Int)) = true := decide_eq_true c35
             clear c35
             by_cases c36 : x7_3.length < 5864062014805
             ·rw [if_pos c36] at H
              have LMc36 := Aside0.mk c36
              clear c36
              obtain ⟨y525, hy525⟩ : ∃ y_ : List (List Int), y_ = (x7_3 ++ [rd_L1 t502 (rd t505 x9_3)]) := ⟨_, rfl⟩
              replace H : ((laws_lkNum.f (wrap64 ((wrap64 ((l1.length : Int) * (wrap64 (x9_3 + 5)))) + x9_3))).bind fun t528 => (if x8_3.length < 17592186044416 then (laws_FnSpanOne.l0 k3 l1 t502 t505 y525 (x8_3 ++ [t528]) (wrap64 (x9_3 + 1))) else (none))) = some r := by first | (rw [hy525]; with_reducible exact H) | (have H2_ := (Option.bind_some _ _).symm.trans H; rw [hy525]; with_reducible exact H2_) | (have H2_ := (Option.bind_some _ _).symm.trans H; with_reducible exact H2_) | with_reducible exact H | (rw [hy525]; exact H) | exact H
              have Ny525 := Aside0.mk hy525
              clear hy525
              replace H := Option.bind_eq_some_iff.mp H
              obtain ⟨t528, A370, H⟩ := H
              replace H : (if x8_3.length < 17592186044416 then (laws_FnSpanOne.l0 k3 l1 t502 t505 y525 (x8_3 ++ [t528]) (wrap64 (x9_3 + 1))) else (none)) = some r := H
              have A37 := Aside0.mk A370
              clear A370
              by_cases c38 : x8_3.length < 17592186044416
              ·rw [if_pos c38] at H
               have LMc38 := Aside0.mk c38
               clear c38
               obtain ⟨y529, hy529⟩ : ∃ y_ : List Int, y_ = (x8_3 ++ [t528]) := ⟨_, rfl⟩
               replace H : (laws_FnSpanOne.l0 k3 l1 t502 t505 y525 y529 (wrap64 (x9_3 + 1))) = some r := by first | (rw [hy529]; with_reducible exact H) | (have H2_ := (Option.bind_some _ _).symm.trans H; rw [hy529]; with_reducible exact H2_) | (have H2_ := (Option.bind_some _ _).symm.trans H; with_reducible exact H2_) | with_reducible exact H | (rw [hy529]; exact H) | exact H
               have Ny529 := Aside0.mk hy529
               clear hy529
               have H' := Aside0.mk H
               clear H
               obtain ⟨Ao39, co39, eo39⟩ := Kd.R_slice HO_6.out
               subst eo39
               try simp only [clip_slice]
               have p523 : 0 ≤ (x9_3 : Int) := of_decide_eq_true z18_11
               have q523 : x9_3 < (t505.length : Int) := of_decide_eq_true z18_11
               obtain ⟨ad523, e523, hx523_0⟩ := Kd.at_int (Kd.R_reads' HO_6.out).2.2 x9_3 p523 q523
               cases e523
               replace p523 := eq_true p523
               replace q523 := eq_true q523
               have p524 : 0 ≤ ((rd t505 x9_3) : Int) := of_decide_eq_true z18_11
               have q524 : (rd t505 x9_3) < (t502.length : Int) := of_decide_eq_true z18_11
               obtain ⟨ad524, A524_0, c524_0, e524, hx524_0, hl524_0, hi524_0⟩ := at_L1 (Kd.N_reads' HO_5.out).2.2 (rd t505 x9_3) p524 q524
               cases e524
               obtain ⟨ce524, hce524, hMe524, hcc524⟩ := Kd.N_get HO_5.out [] (rd t505 x9_3) p524 (by first | exact q524 | exact of_decide_eq_true z18_11 | (have e_ := (Kd.N_reads' HO_5.out).1; omega))
               obtain ⟨ua524_0, uc524_0, rfl, ul524_0, ge524_0⟩ := Kd.FK_slice_open hMe524
               have hv524_0 := hcc524 0 _ rfl
               rw [Nat.add_zero, show ((Kd.slice 3 (Kd.int .i64))).sz = 1 from rfl, Nat.mul_one] at hv524_0
               replace hv524_0 := Option.some.inj (hv524_0.symm.trans hx524_0)
               injection hv524_0 with hva_ hvn_ hvc_
               rw [hva_] at ge524_0
               rw [hvc_] at ul524_0
               have HL524_0 := Aside0.mk (show Kd.V (Kd.int .i64) 3 _ w.heap.size _ _ (rd_L1 t502 (rd t505 x9_3)) from Kd.V_mk ul524_0 ge524_0)
               clear hva_ hvn_ hvc_ ge524_0 ul524_0
               clear hcc524 hce524
               have HR524_0 := Aside0.mk hi524_0
               have HC524_0 := Aside0.mk hl524_0
               clear hi524_0 hl524_0
               replace p524 := eq_true p524
               replace q524 := eq_true q524
               go_wp2_with (first | ((with_reducible refine gate_builtin (b := .append) (xs := #[.tmp 46, .tmp 54]) rfl ?_); (try (refine gate_guard (by rfl) ?_; dsimp only)); at_builtin; refine Kd.N_append (Kd.slice 3 (Kd.int .i64)) (w0 := w) w.heap.size rfl (.tmp 46) (.tmp 54) 22 28 (.slice none 0 0) 24 rfl Try.underlying22 info28 rfl (by decide) (by omega) u7 x7_3 (rd_L1 t502 (rd t505 x9_3)) [.slice A524_0 (rd_L1 t502 (rd t505 x9_3)).length c524_0] (fun k_ => some k_ ≠ (.slice (some ad524) t502.length co10 : Value).ownBlock ∧ some k_ ≠ (.slice (some ad523) t505.length co39 : Value).ownBlock ∧ some k_ ≠ (u8 : Value).ownBlock) (fun k_ => ((fun k_ => some k_ ≠ (.slice (some ad524) t502.length co10 : Value).ownBlock ∧ some k_ ≠ (.slice (some ad523) t505.length co39 : Value).ownBlock ∧ some k_ ≠ (u8 : Value).ownBlock)) k_ ∧ some k_ ≠ (u7 : Value).ownBlock) rfl rfl ?aP (fun _ hk => hk) ?aF ?aO ?aB ?aS ?aL ?_; (case aP => exact (Kd.FK_slice_mk (Kd.V_reads' (Kd.V_mono (ok' := (fun k_ => ((fun k_ => some k_ ≠ (.slice (some ad524) t502.length co10 : Value).ownBlock ∧ some k_ ≠ (.slice (some ad523) t505.length co39 : Value).ownBlock ∧ some k_ ≠ (u8 : Value).ownBlock)) k_ ∧ some k_ ≠ (u7 : Value).ownBlock)) (HL524_0.out) (fun k_ hk => ⟨⟨hk.2, ⟨hk.1.1, hk.1.2.2⟩⟩, hk.1.2.1⟩))).2.1 (Kd.V_F (Kd.V_mono (ok' := (fun k_ => ((fun k_ => some k_ ≠ (.slice (some ad524) t502.length co10 : Value).ownBlock ∧ some k_ ≠ (.slice (some ad523) t505.length co39 : Value).ownBlock ∧ some k_ ≠ (u8 : Value).ownBlock)) k_ ∧ some k_ ≠ (u7 : Value).ownBlock)) (HL524_0.out) (fun k_ hk => ⟨⟨hk.2, ⟨hk.1.1, hk.1.2.2⟩⟩, hk.1.2.1⟩))))); (case aB => exact z18_0); (case aF => exact (fun k_ hk => ⟨Kd.fresh' (Kd.N_lt z18_4) k_ hk, Kd.fresh' (Kd.R_lt z18_2) k_ hk, Kd.fresh' (Kd.R_lt z18_3) k_ hk⟩)); (case aO => exact z18_5); (case aS => exact (below_size z18_0)); (case aL => have := LMc36.out; omega); intro v526 w40 ho hb hg hat; rw [← Ny525.out] at ho; have n0_ := Aside0.mk (Kd.N_afterv (ok := (fun k_ => some k_ ≠ (.slice (some ad523) t505.length co39 : Value).ownBlock ∧ some k_ ≠ (u8 : Value).ownBlock)) (by (with_reducible repeat (first | apply Kd.N_alloc | apply Kd.N_drewN | apply Kd.N_drew)); exact Kd.N_mono HO_5.out (fun _ hk => ⟨⟨hk.1, hk.2.2⟩, hk.2.1⟩)) hg hat); have n1_ := Aside0.mk (Kd.R_over' z18_2 (Kd.N_typed z18_5) (by decide) hg); have n2_ := Aside0.mk (Kd.R_over' z18_3 (Kd.N_typed z18_5) (by decide) hg); have n3_ := Aside0.mk (Kd.V_afterv (ok := (fun k_ => some k_ ≠ (.slice (some ad524) t502.length co10 : Value).ownBlock ∧ some k_ ≠ (.slice (some ad523) t505.length co39 : Value).ownBlock ∧ some k_ ≠ (u8 : Value).ownBlock)) (by (with_reducible repeat (first | apply Kd.V_alloc | apply Kd.V_drewN | apply Kd.V_drew)); exact Kd.V_mono HL524_0.out (fun _ hk => ⟨⟨hk.2, ⟨hk.1.1, hk.1.2.2⟩⟩, hk.1.2.1⟩)) hg hat); have n4_ := Aside0.mk (hb); have n5_ := Aside0.mk (ho); clear HO_5; clear HO_6; clear HO_8; clear HL524_0; clear HB; clear HO_7; have HO_5 := n0_; have HO_6 := n1_; have HO_8 := n2_; have HL524_0 := n3_; have HB := n4_; have HO527 := n5_; clear n0_ n1_ n2_ n3_ n4_ n5_; clear ho hb hg hat) | ((with_reducible refine gate_callee (f := 44) rfl ?_); refine goesL_ (some 64) rfl rfl Try.func44 (by kernel_rfl) rfl #[.int .i64 (wrap64 ((wrap64 ((l1.length : Int) * (wrap64 (x9_3 + 5)))) + x9_3))] rfl z18_1 ?_; (with_reducible refine (laws_lkNum.calls (wrap64 ((wrap64 ((l1.length : Int) * (wrap64 (x9_3 + 5)))) + x9_3)) t528 _ A37.out).mono ?_); rintro e w' ⟨rfl, ⟨nd, rfl⟩⟩; refine ⟨_, rfl, ?_⟩) | ((with_reducible refine gate_builtin (b := .append) (xs := #[.tmp 56, .tmp 65]) rfl ?_); (try (refine gate_guard (by rfl) ?_; dsimp only)); at_builtin; refine Kd.R_append (Kd.int .i64) (w0 := w) w.heap.size rfl (.tmp 56) (.tmp 65) 28 3 (.int .i64 0) 8 rfl Try.underlying28 info3 rfl (by decide) (by omega) u8 x8_3 t528 [.int .i64 t528] (fun k_ => some k_ ≠ (.slice (some ad523) t505.length co39 : Value).ownBlock) (fun _ => False) rfl rfl ?aP (fun _ hk => hk.elim) ?aF ?aO ?aB ?aS ?aL ?_; (case aP => exact rfl); (case aB => exact z18_0); (case aF => exact (fun k_ hk => Kd.fresh' (Kd.R_lt z18_2) k_ hk)); (case aO => exact z18_3); (case aS => exact (below_size z18_0)); (case aL => have := LMc38.out; omega); intro v530 w41 ho hb hg hat; rw [← Ny529.out] at ho; have n0_ := Aside0.mk (Kd.N_afterv (ok := (fun k_ => some k_ ≠ (.slice (some ad523) t505.length co39 : Value).ownBlock ∧ some k_ ≠ (v526 : Value).ownBlock)) (by (with_reducible repeat (first | apply Kd.N_alloc | apply Kd.N_drewN | apply Kd.N_drew)); exact Kd.N_mono HO_5.out (fun _ hk => ⟨⟨hk.1.1, hk.2⟩, hk.1.2⟩)) hg hat); have n1_ := Aside0.mk (Kd.R_after (ok := (fun _ => True)) (by (with_reducible repeat (first | apply Kd.R_alloc | apply Kd.R_drewN | apply Kd.R_drew)); exact Kd.R_mono HO_6.out (fun _ hk => ⟨trivial, hk⟩)) hg hat); have n2_ := Aside0.mk (Kd.V_afterv (ok := (fun k_ => some k_ ≠ (.slice (some ad524) t502.length co10 : Value).ownBlock ∧ some k_ ≠ (.slice (some ad523) t505.length co39 : Value).ownBlock ∧ some k_ ≠ (v526 : Value).ownBlock)) (by (with_reducible repeat (first | apply Kd.V_alloc | apply Kd.V_drewN | apply Kd.V_drew)); exact Kd.V_mono HL524_0.out (fun _ hk => ⟨⟨hk.1.1, ⟨hk.1.2.1, hk.2⟩⟩, hk.1.2.2⟩)) hg hat); have n3_ := Aside0.mk (Kd.N_afterv (ok := (fun k_ => some k_ ≠ (.slice (some ad524) t502.length co10 : Value).ownBlock ∧ some k_ ≠ (.slice (some ad523) t505.length co39 : Value).ownBlock)) (by (with_reducible repeat (first | apply Kd.N_alloc | apply Kd.N_drewN | apply Kd.N_drew)); exact Kd.N_mono HO527.out (fun _ hk => ⟨⟨hk.1, hk.2.1⟩, hk.2.2⟩)) hg hat); have n4_ := Aside0.mk (hb); have n5_ := Aside0.mk (ho); clear HO_5; clear HO_6; clear HL524_0; clear HO527; clear HB; clear HO_8; have HO_5 := n0_; have HO_6 := n1_; have HL524_0 := n2_; have HO527 := n3_; have HB := n4_; have HO531 := n5_; clear n0_ n1_ n2_ n3_ n4_ n5_; clear ho hb hg hat))
               go_roundg k3
               case measure => have := HJ2.out; have := HJ7.out; have := HK3.out; omega
               case rel => exact ⟨(y525), (y529), (wrap64 (x9_3 + 1)), z18_9, H', ⟨by have := HJ2.out; have := HJ7.out; have := HK3.out; omega⟩, ⟨z18_12⟩, ⟨z18_15⟩, ⟨by (with_reducible repeat (first | apply Kd.N_alloc | apply Kd.N_drewN | apply Kd.N_drew)); exact Kd.N_mono HO527.out (fun _ hk => ⟨hk.1.1, ⟨hk.1.2, hk.2⟩⟩)⟩, ⟨by (with_reducible repeat (first | apply Kd.R_alloc | apply Kd.R_drewN | apply Kd.R_drew)); exact HO531.out⟩, ⟨z18_0⟩⟩
              ·rw [if_neg c38] at H
               exact absurd H (by simp)
             ·rw [if_neg c36] at H
              exact absurd H (by simp)
            ·rw [if_neg c35] at H
             exact absurd H (by simp)
           ·rw [if_neg c34] at H
            exact absurd H (by simp)
          ·rw [if_neg c33] at H
           exact absurd H (by simp)
         ·rw [if_neg c32] at H
          have c32b0 : decide (x9_3 < (t505.length : Int)) = false := decide_eq_false c32
          clear c32
          replace H := Option.bind_eq_some_iff.mp H
          obtain ⟨t532, A420, H⟩ := H
          replace H : ((impl_SpanBy.f k3 x7_3 t532).bind fun bt535 => (if bt535.2 = true then ((laws_lkInts.f k3 bt535.1 x8_3).bind fun t539 => (some t539)) else (some false))) = some r := H
          have A42 := Aside0.mk A420
          clear A420
          replace H := Option.bind_eq_some_iff.mp H
          obtain ⟨⟨t535, t536⟩, A430, H⟩ := H
          replace H : (if t536 = true then ((laws_lkInts.f k3 t535 x8_3).bind fun t539 => (some t539)) else (some false)) = some r := H
          have A43 := Aside0.mk A430
          clear A430
          by_cases c44 : t536 = true
          ·subst c44
           have H1 : ((laws_lkInts.f k3 t535 x8_3).bind fun t539 => (some t539)) = some r := by rw [if_pos rfl] at H; exact H
           clear H
           have H := H1
           clear H1
           replace H := Option.bind_eq_some_iff.mp H
           obtain ⟨t539, A450, H⟩ := H
           replace H : (some t539) = some r := H
           have A45 := Aside0.mk A450
           clear A450
           obtain rfl := Option.some.inj H
           obtain ⟨Ao46, co46, eo46⟩ := Kd.R_slice HO_6.out
           subst eo46
           try simp only [clip_slice]
           obtain ⟨Ao47, co47, eo47⟩ := Kd.N_slice HO_7.out
           subst eo47
           try simp only [clip_slice]
           obtain ⟨Ao48, co48, eo48⟩ := Kd.R_slice HO_8.out
           subst eo48
           try simp only [clip_slice]
           go_wp2_with (first | ((with_reducible refine gate_callee (f := 45) rfl ?_); refine goesL_ (some 71) rfl rfl Try.func45 (by kernel_rfl) rfl #[.slice Ao47 x7_3.length co47, .slice Ao48 x8_3.length co48] rfl z18_1 ?_; (with_reducible refine (laws_lkMade.calls k3 _ _ x7_3 _ _ x8_3 t532 _ ?side1 ?side2 ?side3 ?side4 A42.out).mono ?_); (case side1 => repeat (first | exact (Kd.N_reads' HO_7.out).2.2 | (with_reducible refine Kd.C_alloc ?_ _) | (with_reducible refine Kd.C_drewN ?_ _) | (with_reducible refine Kd.C_drew ?_))); (case side2 => first | exact (Kd.N_reads' HO_7.out).2.1 | exact Nat.le_refl _); (case side3 => repeat (first | exact (Kd.R_reads' HO_8.out).2.2 | (with_reducible refine Kd.C_alloc ?_ _) | (with_reducible refine Kd.C_drewN ?_ _) | (with_reducible refine Kd.C_drew ?_))); (case side4 => first | exact (Kd.R_reads' HO_8.out).2.1 | exact Nat.le_refl _); rintro e w49 ⟨v533, rfl, ho0, hb⟩; refine ⟨_, rfl, ?_⟩; have n0_ := Aside0.mk (Kd.N_elder' z18_4 (Kd.R_base ho0) hb); have n1_ := Aside0.mk (Kd.R_elder' z18_2 (Kd.R_base ho0) hb); have n2_ := Aside0.mk (Kd.N_elder' z18_5 (Kd.R_base ho0) hb); have n3_ := Aside0.mk (Kd.R_elder' z18_3 (Kd.R_base ho0) hb); have n4_ := Aside0.mk (Kd.R_lower (Kd.R_new' (Kd.R_new' ho0 (Kd.R_lt z18_2)) (Kd.R_lt z18_3)) (below_size z18_0)); have n5_ := Aside0.mk (below_step z18_0 hb); clear HO_5; clear HO_6; clear HO_7; clear HO_8; clear HB; have HO_5 := n0_; have HO_6 := n1_; have HO_7 := n2_; have HO_8 := n3_; have HO534 := n4_; have HB := n5_; clear n0_ n1_ n2_ n3_ n4_ n5_; (try clear hb); (try clear hb2); (try clear hk); (try clear hi); (try clear ho0); obtain ⟨Ao50, co50, eo50⟩ := Kd.R_slice HO534.out; subst eo50; (try simp only [clip_slice])) | ((with_reducible refine gate_callee (f := 30) rfl ?_); refine goesL_ (some 72) rfl rfl Try.func30 (by kernel_rfl) rfl #[.slice Ao47 x7_3.length co47, .slice Ao50 t532.length co50] rfl z18_1 ?_; (with_reducible refine (impl_SpanBy.calls k3 _ _ x7_3 _ _ t532 t535 true _ ?side1 ?side2 ?side3 ?side4 A43.out).mono ?_); (case side1 => repeat (first | exact (Kd.N_reads' HO_7.out).2.2 | (with_reducible refine Kd.C_alloc ?_ _) | (with_reducible refine Kd.C_drewN ?_ _) | (with_reducible refine Kd.C_drew ?_))); (case side2 => first | exact (Kd.N_reads' HO_7.out).2.1 | exact Nat.le_refl _); (case side3 => repeat (first | exact (Kd.R_reads' HO534.out).2.2 | (with_reducible refine Kd.C_alloc ?_ _) | (with_reducible refine Kd.C_drewN ?_ _) | (with_reducible refine Kd.C_drew ?_))); (case side4 => first | exact (Kd.R_reads' HO534.out).2.1 | exact Nat.le_refl _); rintro e w51 ⟨v537, rfl, ho0, hb⟩; refine ⟨_, rfl, ?_⟩; have n0_ := Aside0.mk (Kd.N_elder' z18_4 (Kd.R_base ho0) hb); have n1_ := Aside0.mk (Kd.R_elder' z18_2 (Kd.R_base ho0) hb); have n2_ := Aside0.mk (Kd.N_elder' z18_5 (Kd.R_base ho0) hb); have n3_ := Aside0.mk (Kd.R_elder' z18_3 (Kd.R_base ho0) hb); have n4_ := Aside0.mk (Kd.R_elder' z18_7 (Kd.R_base ho0) hb); have n5_ := Aside0.mk (Kd.R_lower (Kd.R_new' (Kd.R_new' (Kd.R_new' ho0 (Kd.R_lt z18_2)) (Kd.R_lt z18_3)) (Kd.R_lt z18_7)) (below_size z18_0)); have n6_ := Aside0.mk (below_step z18_0 hb); clear HO_5; clear HO_6; clear HO_7; clear HO_8; clear HO534; clear HB; have HO_5 := n0_; have HO_6 := n1_; have HO_7 := n2_; have HO_8 := n3_; have HO534 := n4_; have HO538 := n5_; have HB := n6_; clear n0_ n1_ n2_ n3_ n4_ n5_ n6_; (try clear hb); (try clear hb2); (try clear hk); (try clear hi); (try clear ho0); obtain ⟨Ao52, co52, eo52⟩ := Kd.R_slice HO538.out; subst eo52; (try simp only [clip_slice])) | (go_at_call 37; (with_reducible refine (laws_lkInts.calls k3 _ _ t535 _ _ x8_3 t539 _ ?side1 ?side2 ?side3 ?side4 A45.out).mono ?_); (case side1 => repeat (first | exact (Kd.R_reads' HO538.out).2.2 | (with_reducible refine Kd.C_alloc ?_ _) | (with_reducible refine Kd.C_drewN ?_ _) | (with_reducible refine Kd.C_drew ?_))); (case side2 => first | exact (Kd.R_reads' HO538.out).2.1 | exact Nat.le_refl _); (case side3 => repeat (first | exact (Kd.R_reads' HO_8.out).2.2 | (with_reducible refine Kd.C_alloc ?_ _) | (with_reducible refine Kd.C_drewN ?_ _) | (with_reducible refine Kd.C_drew ?_))); (case side4 => first | exact (Kd.R_reads' HO_8.out).2.1 | exact Nat.le_refl _); rintro e w' ⟨rfl, ⟨nd, rfl⟩⟩))
           go_ret
           exact ⟨z18_8, z18_0⟩
          ·replace c44 := Bool.eq_false_iff.mpr c44
           subst c44
           have H1 : (some false) = some r := by rw [if_neg (show ¬ (false = true) by decide)] at H; exact H
           clear H
           have H := H1
           clear H1
           obtain rfl := Option.some.inj H
           obtain ⟨Ao53, co53, eo53⟩ := Kd.R_slice HO_6.out
           subst eo53
           try simp only [clip_slice]
           obtain ⟨Ao54, co54, eo54⟩ := Kd.N_slice HO_7.out
           subst eo54
           try simp only [clip_slice]
           obtain ⟨Ao55, co55, eo55⟩ := Kd.R_slice HO_8.out
           subst eo55
           try simp only [clip_slice]
           go_wp2_with (first | ((with_reducible refine gate_callee (f := 45) rfl ?_); refine goesL_ (some 71) rfl rfl Try.func45 (by kernel_rfl) rfl #[.slice Ao54 x7_3.length co54, .slice Ao55 x8_3.length co55] rfl z18_1 ?_; (with_reducible refine (laws_lkMade.calls k3 _ _ x7_3 _ _ x8_3 t532 _ ?side1 ?side2 ?side3 ?side4 A42.out).mono ?_); (case side1 => repeat (first | exact (Kd.N_reads' HO_7.out).2.2 | (with_reducible refine Kd.C_alloc ?_ _) | (with_reducible refine Kd.C_drewN ?_ _) | (with_reducible refine Kd.C_drew ?_))); (case side2 => first | exact (Kd.N_reads' HO_7.out).2.1 | exact Nat.le_refl _); (case side3 => repeat (first | exact (Kd.R_reads' HO_8.out).2.2 | (with_reducible refine Kd.C_alloc ?_ _) | (with_reducible refine Kd.C_drewN ?_ _) | (with_reducible refine Kd.C_drew ?_))); (case side4 => first | exact (Kd.R_reads' HO_8.out).2.1 | exact Nat.le_refl _); rintro e w56 ⟨v533, rfl, ho0, hb⟩; refine ⟨_, rfl, ?_⟩; have n0_ := Aside0.mk (Kd.N_elder' z18_4 (Kd.R_base ho0) hb); have n1_ := Aside0.mk (Kd.R_elder' z18_2 (Kd.R_base ho0) hb); have n2_ := Aside0.mk (Kd.N_elder' z18_5 (Kd.R_base ho0) hb); have n3_ := Aside0.mk (Kd.R_elder' z18_3 (Kd.R_base ho0) hb); have n4_ := Aside0.mk (Kd.R_lower (Kd.R_new' (Kd.R_new' ho0 (Kd.R_lt z18_2)) (Kd.R_lt z18_3)) (below_size z18_0)); have n5_ := Aside0.mk (below_step z18_0 hb); clear HO_5; clear HO_6; clear HO_7; clear HO_8; clear HB; have HO_5 := n0_; have HO_6 := n1_; have HO_7 := n2_; have HO_8 := n3_; have HO534 := n4_; have HB := n5_; clear n0_ n1_ n2_ n3_ n4_ n5_; (try clear hb); (try clear hb2); (try clear hk); (try clear hi); (try clear ho0); obtain ⟨Ao57, co57, eo57⟩ := Kd.R_slice HO534.out; subst eo57; (try simp only [clip_slice])) | ((with_reducible refine gate_callee (f := 30) rfl ?_); refine goesL_ (some 72) rfl rfl Try.func30 (by kernel_rfl) rfl #[.slice Ao54 x7_3.length co54, .slice Ao57 t532.length co57] rfl z18_1 ?_; (with_reducible refine (impl_SpanBy.calls k3 _ _ x7_3 _ _ t532 t535 false _ ?side1 ?side2 ?side3 ?side4 A43.out).mono ?_); (case side1 => repeat (first | exact (Kd.N_reads' HO_7.out).2.2 | (with_reducible refine Kd.C_alloc ?_ _) | (with_reducible refine Kd.C_drewN ?_ _) | (with_reducible refine Kd.C_drew ?_))); (case side2 => first | exact (Kd.N_reads' HO_7.out).2.1 | exact Nat.le_refl _); (case side3 => repeat (first | exact (Kd.R_reads' HO534.out).2.2 | (with_reducible refine Kd.C_alloc ?_ _) | (with_reducible refine Kd.C_drewN ?_ _) | (with_reducible refine Kd.C_drew ?_))); (case side4 => first | exact (Kd.R_reads' HO534.out).2.1 | exact Nat.le_refl _); rintro e w58 ⟨v537, rfl, ho0, hb⟩; refine ⟨_, rfl, ?_⟩; have n0_ := Aside0.mk (Kd.N_elder' z18_4 (Kd.R_base ho0) hb); have n1_ := Aside0.mk (Kd.R_elder' z18_2 (Kd.R_base ho0) hb); have n2_ := Aside0.mk (Kd.N_elder' z18_5 (Kd.R_base ho0) hb); have n3_ := Aside0.mk (Kd.R_elder' z18_3 (Kd.R_base ho0) hb); have n4_ := Aside0.mk (Kd.R_elder' z18_7 (Kd.R_base ho0) hb); have n5_ := Aside0.mk (Kd.R_lower (Kd.R_new' (Kd.R_new' (Kd.R_new' ho0 (Kd.R_lt z18_2)) (Kd.R_lt z18_3)) (Kd.R_lt z18_7)) (below_size z18_0)); have n6_ := Aside0.mk (below_step z18_0 hb); clear HO_5; clear HO_6; clear HO_7; clear HO_8; clear HO534; clear HB; have HO_5 := n0_; have HO_6 := n1_; have HO_7 := n2_; have HO_8 := n3_; have HO534 := n4_; have HO538 := n5_; have HB := n6_; clear n0_ n1_ n2_ n3_ n4_ n5_ n6_; (try clear hb); (try clear hb2); (try clear hk); (try clear hi); (try clear ho0)))
           go_ret
           exact ⟨z18_8, z18_0⟩

/-- THE ONE PURE STATEMENT of laws_FnSpanOne: yours. -/
def laws_FnSpanOne.Pure : Prop := ∀ (l0 : List Int) (l1 : List Int), l0.length ≤ maxLen → l0.length * 1 ≤ 140737488351232 → (∀ x ∈ l0, (Lit.int .u8 x).wf = true) → l1.length ≤ maxLen → l1.length * 1 ≤ 140737488351232 → (∀ x ∈ l1, (Lit.int .u8 x).wf = true) → ∃ k, laws_FnSpanOne.f k l0 l1 = some true
theorem laws_FnSpanOne.walk (P : laws_FnSpanOne.Pure) (a0 : Option Addr) (len0 cap0 : Nat) (z0 : List Int) (a1 : Option Addr) (len1 cap1 : Nat) (z1 : List Int) (w : World) (w0 : (a0 = none ∧ len0 = 0 ∧ cap0 = 0 ∧ z0 = []) ∨ ∃ x, a0 = some x ∧ len0 ≤ cap0 ∧ cap0 ≤ maxLen ∧ z0.length = cap0 ∧ (∀ i, i < z0.length → w.cell? (x.add i) = some (.int .u8 (z0.getD i 0))) ∧ ∀ n ∈ z0, (Lit.int .u8 n).wf = true) (y0 : len0 * 1 ≤ 140737488351232) (w1 : (a1 = none ∧ len1 = 0 ∧ cap1 = 0 ∧ z1 = []) ∨ ∃ x, a1 = some x ∧ len1 ≤ cap1 ∧ cap1 ≤ maxLen ∧ z1.length = cap1 ∧ (∀ i, i < z1.length → w.cell? (x.add i) = some (.int .u8 (z1.getD i 0))) ∧ ∀ n ∈ z1, (Lit.int .u8 n).wf = true) (y1 : len1 * 1 ≤ 140737488351232) :
  Calls Try.prog 13 #[.slice a0 len0 cap0, .slice a1 len1 cap1] w fun e w' => e = .returned (.bool true) ∧ Below w.heap.size w w' := by
 obtain ⟨l0, rfl, hr0, hm0, hw0, hc0⟩ := ReadsInt.ofRowC w0
 obtain ⟨l1, rfl, hr1, hm1, hw1, hc1⟩ := ReadsInt.ofRowC w1
 obtain ⟨k, h⟩ := P l0 l1 hm0 y0 hw0 hm1 y1 hw1
 refine (laws_FnSpanOne.calls k _ _ l0 _ _ l1 true w (Kd.C_of_reads (d := (0 : Int)) (h1 := fun _ => rfl) hr0) hc0 (Kd.C_of_reads (d := (0 : Int)) (h1 := fun _ => rfl) hr1) hc1 h).mono ?_
 rintro e w' ⟨rfl, hd⟩
 exact ⟨rfl, hd⟩

end Go.Proofs.Ytbhmgbeebhmfkaa.PA
