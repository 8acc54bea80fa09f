-- Written by a program of this session (after the manner of the kit's print, several laws in one text).
import Derived.Test.YtbhmgbeebhmfkaaPAx0
import Derived.Test.YtbhmgbeebhmfkaaPAx8
import Derived.Test.YtbhmgbeebhmfkaaPAx10
import Derived.Test.YtbhmgbeebhmfkaaPAx12
import Derived.Test.YtbhmgbeebhmfkaaPAx16
import Derived.Test.YtbhmgbeebhmfkaaGw
import Derived.Test.YtbhmgbeebhmfkaaGm
namespace Go.Proofs.Ytbhmgbeebhmfkaa.PA
open Go.RowKit Go.Proofs.YtbhmgbeebhmfkaaW.PrintWords Go.Proofs.YtbhmgbeebhmfkaaW.PrintLast Go.Proofs.YtbhmgbeebhmfkaaW.PrintMore
attribute [local go_sem] max2_int min2_int max_two min_two max_three min_three max_four min_four   -- for this text's walks alone
set_option linter.unusedVariables false
set_option linter.unusedSimpArgs false

/-! ### laws_FnTidySame: function 10 -/
theorem z17_0 {p : Prop} (h : p := by repeat (first | (with_reducible first | exact HB.out | apply below_alloc | apply pw_below_drewN | apply below_drew1) | exact HB.out)) : p := h
theorem z17_1 {p : Prop} (h : p := by (try simp only [List.map_toArray, List.map_cons, List.map_nil]); first | done | rfl | (simp only [List.length_drop, List.length_take]; rfl)) : p := h
theorem z17_2 {p : Prop} (h : p := by (with_reducible repeat (first | apply Kd.N_alloc | apply Kd.N_drewN | apply Kd.N_drew)); exact HO_3.out) : p := h
theorem z17_3 {p : Prop} (h : p := by (with_reducible repeat (first | apply Kd.N_alloc | apply Kd.N_drewN | apply Kd.N_drew)); exact HO_4.out) : p := h
theorem z17_4 {p : Prop} (h : p := by repeat (first | (with_reducible exact HR561_0.out) | (with_reducible refine Kd.C_alloc ?_ _) | (with_reducible refine Kd.C_drewN ?_ _) | (with_reducible refine Kd.C_drew ?_) | exact HR561_0.out)) : p := h
theorem z17_5 {p : Prop} (h : p := by repeat (first | (with_reducible exact HR563_0.out) | (with_reducible refine Kd.C_alloc ?_ _) | (with_reducible refine Kd.C_drewN ?_ _) | (with_reducible refine Kd.C_drew ?_) | exact HR563_0.out)) : p := h
theorem z17_6 {p : Prop} (h : p := by first | (with_reducible assumption) | assumption) : p := h
theorem z17_7 {p : Prop} (h : p := by (with_reducible repeat (first | apply Kd.N_alloc | apply Kd.N_drewN | apply Kd.N_drew)); exact HO548.out) : p := h
theorem z17_8 {p : Prop} (h : p := by first | exact Kd.N_base ho0 | exact Kd.R_base ho0) : p := h
theorem z17_9 {p : Prop} (h : p := by first | rfl | (simp [errW_none, errW_some] <;> rfl) | (simp [*, errW_none, errW_some] <;> rfl)) : p := h
theorem z17_10 {p : Prop} (h : p := by (with_reducible repeat (first | apply Kd.N_alloc | apply Kd.N_drewN | apply Kd.N_drew)); exact HO551.out) : p := h
theorem z17_11 {p : Prop} (h : p := by first | rfl | (simp; done) | (simp [*]; done)) : p := h
theorem z17_12 {p : Prop} (h : p := by (with_reducible repeat (first | apply Kd.N_alloc | apply Kd.N_drewN | apply Kd.N_drew)); exact Kd.N_mono HO548.out (fun _ hk => hk.1.2)) : p := h
theorem z17_13 {p : Prop} (h : p := by (with_reducible repeat (first | apply Kd.N_alloc | apply Kd.N_drewN | apply Kd.N_drew)); exact Kd.N_mono HO551.out (fun _ hk => hk.1)) : p := h
mutual
def laws_FnTidySame.j0 : Nat → List (List Int) → List (List Int) → Bool → Option (Bool)
  | 0, _, _, _ => none
  | k + 1, x3, x4, x23 => if x23 = true then ((spec_SpanTidy.f k x3).bind fun t557 => ((laws_lkRows.f k x4 t557).bind fun t560 => (some t560))) else (laws_FnTidySame.l0 k x3 x4 0)
def laws_FnTidySame.l0 : Nat → List (List Int) → List (List Int) → Int → Option (Bool)
  | 0, _, _, _ => none
  | k + 1, x3, x4, x5 => if x5 < (x3.length : Int) then (if 0 ≤ x5 then ((impl_SpanHas.f k x4 (rd_L1 x3 x5)).bind fun t562 => (if t562 = true then (laws_FnTidySame.l0 k x3 x4 (wrap64 (x5 + 1))) else (some false))) else (none)) else (laws_FnTidySame.l1 k x3 x4 0)
def laws_FnTidySame.l1 : Nat → List (List Int) → List (List Int) → Int → Option (Bool)
  | 0, _, _, _ => none
  | k + 1, x3, x4, x6 => if x6 < (x4.length : Int) then (if 0 ≤ x6 then ((impl_SpanHas.f k x3 (rd_L1 x4 x6)).bind fun t564 => (if t564 = true then (laws_FnTidySame.l1 k x3 x4 (wrap64 (x6 + 1))) else (some false))) else (none)) else ((impl_SpanTidy.f k x4).bind fun t565 => ((laws_lkRows.f k t565 x4).bind fun t568 => (if t568 = true then ((impl_SpanSame.f k x4 x3).bind fun t569 => (some t569)) else (some false))))
end
def laws_FnTidySame.f (k : Nat) (l0 : List Int) : Option (Bool) := if (l0.length : Int) > 1048576 then (some true) else ((spec_DrawSpanTidy.f k l0).bind fun t546 => ((impl_SpanTidy.f k t546).bind fun t549 => ((spec_SpanTidy.f k t546).bind fun t552 => ((laws_lkRows.f k t549 t552).bind fun t555 => (if t555 = true then ((spec_SpanOk.f k t546).bind fun t556 => (laws_FnTidySame.j0 k t546 t549 (!t556))) else (laws_FnTidySame.j0 k t546 t549 true))))))
set_option maxHeartbeats 8000000 in
set_option maxRecDepth 100000 in
theorem laws_FnTidySame.calls (k : Nat) (A0 : Option Addr) (c0 : Nat) (l0 : List Int) (r : Bool) (w : World) (hr0 : Kd.C (Kd.int .u8) w A0 l0.length l0) (hc0 : l0.length ≤ c0) (h : laws_FnTidySame.f k l0 = some r) :
  Calls Try.prog 10 #[.slice A0 l0.length c0] w fun e w' => e = .returned (.bool r) ∧ Below w.heap.size w w' := by
 have HR0 := Aside0.mk hr0
 have HC0 := Aside0.mk hc0
 clear hr0 hc0
 have HB := Aside0.mk (Below.refl w.heap.size w)
 have H : (if (l0.length : Int) > 1048576 then (some true) else ((spec_DrawSpanTidy.f k l0).bind fun t546 => ((impl_SpanTidy.f k t546).bind fun t549 => ((spec_SpanTidy.f k t546).bind fun t552 => ((laws_lkRows.f k t549 t552).bind fun t555 => (if t555 = true then ((spec_SpanOk.f k t546).bind fun t556 => (laws_FnTidySame.j0 k t546 t549 (!t556))) else (laws_FnTidySame.j0 k t546 t549 true))))))) = some r := h
 clear h
 by_cases c2 : (l0.length : Int) > 1048576
 ·rw [if_pos c2] at H
  have c2b0 : decide (1048576 < (l0.length : Int)) = true := decide_eq_true c2
  have c2b1 : decide (1048576 < l0.length) = true := decide_eq_true (by omega)
  clear c2
  obtain rfl := Option.some.inj H
  go_enter Try.func10, Try.ntmps10
  go_wp2
  go_ret
  exact ⟨z17_9, z17_0⟩
 ·rw [if_neg c2] at H
  have c2b0 : decide (1048576 < (l0.length : Int)) = false := decide_eq_false c2
  have c2b1 : decide (1048576 < l0.length) = false := decide_eq_false (by omega)
  clear c2
  replace H := Option.bind_eq_some_iff.mp H
  obtain ⟨t546, A30, H⟩ := H
  replace H : ((impl_SpanTidy.f k t546).bind fun t549 => ((spec_SpanTidy.f k t546).bind fun t552 => ((laws_lkRows.f k t549 t552).bind fun t555 => (if t555 = true then ((spec_SpanOk.f k t546).bind fun t556 => (laws_FnTidySame.j0 k t546 t549 (!t556))) else (laws_FnTidySame.j0 k t546 t549 true))))) = some r := H
  have A3 := Aside0.mk A30
  clear A30
  replace H := Option.bind_eq_some_iff.mp H
  obtain ⟨t549, A40, H⟩ := H
  replace H : ((spec_SpanTidy.f k t546).bind fun t552 => ((laws_lkRows.f k t549 t552).bind fun t555 => (if t555 = true then ((spec_SpanOk.f k t546).bind fun t556 => (laws_FnTidySame.j0 k t546 t549 (!t556))) else (laws_FnTidySame.j0 k t546 t549 true)))) = some r := H
  have A4 := Aside0.mk A40
  clear A40
  have HC5 := Aside0.mk H
  clear H
  go_enter Try.func10, Try.ntmps10
  go_upto_region 5 with (first | ((with_reducible refine gate_callee (f := 39) rfl ?_); refine goesL_ (some 11) rfl rfl Try.func39 (by kernel_rfl) rfl #[.slice A0 l0.length c0] rfl z17_1 ?_; (with_reducible refine (spec_DrawSpanTidy.calls k _ _ l0 t546 _ ?side1 ?side2 A3.out).mono ?_); (case side1 => exact cZ (HR0.out)); (case side2 => exact HC0.out); rintro e w6 ⟨v547, rfl, ho0, hb⟩; refine ⟨_, rfl, ?_⟩; have HO548 := Aside0.mk (Kd.N_lower (Kd.N_mono (ok' := fun k_ => True) ho0 (fun k_ hk_ => trivial)) (below_size z17_0)); replace HB := Aside0.mk (below_step z17_0 hb); (try clear hb); (try clear ho0); obtain ⟨Ao7, co7, eo7⟩ := Kd.N_slice HO548.out; subst eo7; (try simp only [clip_slice])) | ((with_reducible refine gate_callee (f := 34) rfl ?_); refine goesL_ (some 13) rfl rfl Try.func34 (by kernel_rfl) rfl #[.slice Ao7 t546.length co7] rfl z17_1 ?_; (with_reducible refine (impl_SpanTidy.calls k _ _ t546 t549 _ ?side1 ?side2 A4.out).mono ?_); (case side1 => exact cZ ((Kd.N_reads' HO548.out).2.2)); (case side2 => first | exact (Kd.N_reads' HO548.out).2.1 | exact Nat.le_refl _); rintro e w8 ⟨v550, rfl, ho0, hb⟩; refine ⟨_, rfl, ?_⟩; have HO551 := Aside0.mk (Kd.N_lower (Kd.N_mono (ok' := fun k_ => some k_ ≠ (.slice Ao7 t546.length co7 : Value).ownBlock) (Kd.R_N (Kd.R_bound ho0)) (fun k_ hk_ => (Kd.fresh' (Kd.N_lt z17_7) k_ hk_.2.1))) (below_size z17_0)); replace HO548 := Aside0.mk (Kd.N_elder' z17_7 z17_8 hb); replace HB := Aside0.mk (below_step z17_0 hb); (try clear hb); (try clear ho0)))
  (try simp only [Act.put, List.setIfInBounds_toArray, List.set_cons_zero, List.set_cons_succ])
  go_cut [23] (fun v23 wc => ∃ (kq : Nat) (x23_4 : Bool), v23 = .bool x23_4 ∧ Aside0 (laws_FnTidySame.j0 kq t546 t549 x23_4 = some r) ∧ Aside0 (kq ≤ k) ∧ Aside0 (Kd.N (Kd.slice 3 (Kd.int .i64)) 28 wc w.heap.size (fun k_ => some k_ ≠ (v550 : Value).ownBlock) (.slice Ao7 t546.length co7) t546) ∧ Aside0 (Kd.N (Kd.slice 3 (Kd.int .i64)) 28 wc w.heap.size (fun k_ => some k_ ≠ ((.slice Ao7 t546.length co7) : Value).ownBlock) v550 t549) ∧ Aside0 (Below w.heap.size w wc))
  case first =>
   have H := HC5.out
   clear HC5
   replace H := Option.bind_eq_some_iff.mp H
   obtain ⟨t552, A90, H⟩ := H
   replace H : ((laws_lkRows.f k t549 t552).bind fun t555 => (if t555 = true then ((spec_SpanOk.f k t546).bind fun t556 => (laws_FnTidySame.j0 k t546 t549 (!t556))) else (laws_FnTidySame.j0 k t546 t549 true))) = some r := H
   have A9 := Aside0.mk A90
   clear A90
   replace H := Option.bind_eq_some_iff.mp H
   obtain ⟨t555, A100, H⟩ := H
   replace H : (if t555 = true then ((spec_SpanOk.f k t546).bind fun t556 => (laws_FnTidySame.j0 k t546 t549 (!t556))) else (laws_FnTidySame.j0 k t546 t549 true)) = some r := H
   have A10 := Aside0.mk A100
   clear A100
   by_cases c11 : t555 = true
   ·subst c11
    have H1 : ((spec_SpanOk.f k t546).bind fun t556 => (laws_FnTidySame.j0 k t546 t549 (!t556))) = some r := by rw [if_pos rfl] at H; exact H
    clear H
    have H := H1
    clear H1
    replace H := Option.bind_eq_some_iff.mp H
    obtain ⟨t556, A120, H⟩ := H
    replace H : (laws_FnTidySame.j0 k t546 t549 (!t556)) = some r := H
    have A12 := Aside0.mk A120
    clear A120
    have H' := Aside0.mk H
    clear H
    go_wp2_with (first | ((with_reducible refine gate_callee (f := 33) rfl ?_); refine goesL_ (some 16) rfl rfl Try.func33 (by kernel_rfl) rfl #[.slice Ao7 t546.length co7] rfl z17_1 ?_; (with_reducible refine (spec_SpanTidy.calls k _ _ t546 t552 _ ?side1 ?side2 A9.out).mono ?_); (case side1 => exact cZ ((Kd.N_reads' HO548.out).2.2)); (case side2 => first | exact (Kd.N_reads' HO548.out).2.1 | exact Nat.le_refl _); rintro e w13 ⟨v553, rfl, ho0, hb⟩; refine ⟨_, rfl, ?_⟩; have HO554 := Aside0.mk (Kd.N_lower (Kd.N_mono (ok' := fun k_ => some k_ ≠ (.slice Ao7 t546.length co7 : Value).ownBlock ∧ some k_ ≠ (v550 : Value).ownBlock) (Kd.R_N (Kd.R_bound ho0)) (fun k_ hk_ => ⟨(Kd.fresh' (Kd.N_lt z17_7) k_ hk_.2.1), (Kd.fresh' (Kd.N_lt z17_10) k_ hk_.2.1)⟩)) (below_size z17_0)); replace HO548 := Aside0.mk (Kd.N_elder' z17_7 z17_8 hb); replace HO551 := Aside0.mk (Kd.N_elder' z17_10 z17_8 hb); replace HB := Aside0.mk (below_step z17_0 hb); (try clear hb); (try clear ho0); obtain ⟨Ao14, co14, eo14⟩ := Kd.N_slice HO551.out; subst eo14; (try simp only [clip_slice]); obtain ⟨Ao15, co15, eo15⟩ := Kd.N_slice HO554.out; subst eo15; (try simp only [clip_slice])) | ((with_reducible refine gate_callee (f := 40) rfl ?_); refine goesL_ (some 17) rfl rfl Try.func40 (by kernel_rfl) rfl #[.slice Ao14 t549.length t549.length, .slice Ao15 t552.length co15] rfl z17_1 ?_; (with_reducible refine (laws_lkRows.calls k _ _ t549 _ _ t552 true _ ?side1 ?side2 ?side3 ?side4 A10.out).mono ?_); (case side1 => exact cZ ((Kd.N_reads' HO551.out).2.2)); (case side2 => first | exact (Kd.N_reads' HO551.out).2.1 | exact Nat.le_refl _); (case side3 => exact cZ ((Kd.N_reads' HO554.out).2.2)); (case side4 => first | exact (Kd.N_reads' HO554.out).2.1 | exact Nat.le_refl _); rintro e w' ⟨rfl, ⟨nd, rfl⟩⟩; refine ⟨_, rfl, ?_⟩) | (go_at_call 38; (with_reducible refine (spec_SpanOk.calls k _ _ t546 t556 _ ?side1 ?side2 A12.out).mono ?_); (case side1 => exact cZ ((Kd.N_reads' HO548.out).2.2)); (case side2 => first | exact (Kd.N_reads' HO548.out).2.1 | exact Nat.le_refl _); rintro e w' ⟨rfl, ⟨nd, rfl⟩⟩))
    go_meet
    case rel => exact ⟨_, (!t556), z17_11, H', ⟨by first | omega | exact Nat.le_refl _⟩, ⟨z17_12⟩, ⟨z17_13⟩, ⟨z17_0⟩⟩
   ·replace c11 := Bool.eq_false_iff.mpr c11
    subst c11
    have H1 : (laws_FnTidySame.j0 k t546 t549 true) = some r := by rw [if_neg (show ¬ (false = true) by decide)] at H; exact H
    clear H
    have H := H1
    clear H1
    have H' := Aside0.mk H
    clear H
    go_wp2_with (first | ((with_reducible refine gate_callee (f := 33) rfl ?_); refine goesL_ (some 16) rfl rfl Try.func33 (by kernel_rfl) rfl #[.slice Ao7 t546.length co7] rfl z17_1 ?_; (with_reducible refine (spec_SpanTidy.calls k _ _ t546 t552 _ ?side1 ?side2 A9.out).mono ?_); (case side1 => exact cZ ((Kd.N_reads' HO548.out).2.2)); (case side2 => first | exact (Kd.N_reads' HO548.out).2.1 | exact Nat.le_refl _); rintro e w16 ⟨v553, rfl, ho0, hb⟩; refine ⟨_, rfl, ?_⟩; have HO554 := Aside0.mk (Kd.N_lower (Kd.N_mono (ok' := fun k_ => some k_ ≠ (.slice Ao7 t546.length co7 : Value).ownBlock ∧ some k_ ≠ (v550 : Value).ownBlock) (Kd.R_N (Kd.R_bound ho0)) (fun k_ hk_ => ⟨(Kd.fresh' (Kd.N_lt z17_7) k_ hk_.2.1), (Kd.fresh' (Kd.N_lt z17_10) k_ hk_.2.1)⟩)) (below_size z17_0)); replace HO548 := Aside0.mk (Kd.N_elder' z17_7 z17_8 hb); replace HO551 := Aside0.mk (Kd.N_elder' z17_10 z17_8 hb); replace HB := Aside0.mk (below_step z17_0 hb); (try clear hb); (try clear ho0); obtain ⟨Ao17, co17, eo17⟩ := Kd.N_slice HO551.out; subst eo17; (try simp only [clip_slice]); obtain ⟨Ao18, co18, eo18⟩ := Kd.N_slice HO554.out; subst eo18; (try simp only [clip_slice])) | ((with_reducible refine gate_callee (f := 40) rfl ?_); refine goesL_ (some 17) rfl rfl Try.func40 (by kernel_rfl) rfl #[.slice Ao17 t549.length t549.length, .slice Ao18 t552.length co18] rfl z17_1 ?_; (with_reducible refine (laws_lkRows.calls k _ _ t549 _ _ t552 false _ ?side1 ?side2 ?side3 ?side4 A10.out).mono ?_); (case side1 => exact cZ ((Kd.N_reads' HO551.out).2.2)); (case side2 => first | exact (Kd.N_reads' HO551.out).2.1 | exact Nat.le_refl _); (case side3 => exact cZ ((Kd.N_reads' HO554.out).2.2)); (case side4 => first | exact (Kd.N_reads' HO554.out).2.1 | exact Nat.le_refl _); rintro e w' ⟨rfl, ⟨nd, rfl⟩⟩; refine ⟨_, rfl, ?_⟩))
    go_meet
    case rel => exact ⟨_, (true), z17_11, H', ⟨by first | omega | exact Nat.le_refl _⟩, ⟨z17_12⟩, ⟨z17_13⟩, ⟨z17_0⟩⟩
  case rest =>
   clear HC5
   try clear c2
   try clear c2b0
   try clear c2b1
   obtain ⟨kq, x23_4, rfl, HA, HJ4, HO_3, HO_4, HB⟩ := hcut
   cases kq with
   | zero => exact absurd HA.out (by simp [laws_FnTidySame.j0])
   | succ kj4 =>
    have H := HA.out
    clear HA
    simp only [laws_FnTidySame.j0] at H
    by_cases c19 : x23_4 = true
    ·subst c19
     have H1 : ((spec_SpanTidy.f kj4 t546).bind fun t557 => ((laws_lkRows.f kj4 t549 t557).bind fun t560 => (some t560))) = some r := by rw [if_pos rfl] at H; exact H
     clear H
     have H := H1
     clear H1
     replace H := Option.bind_eq_some_iff.mp H
     obtain ⟨t557, A200, H⟩ := H
     replace H : ((laws_lkRows.f kj4 t549 t557).bind fun t560 => (some t560)) = some r := H
     have A20 := Aside0.mk A200
     clear A200
     replace H := Option.bind_eq_some_iff.mp H
     obtain ⟨t560, A210, H⟩ := H
     replace H : (some t560) = some r := H
     have A21 := Aside0.mk A210
     clear A210
     obtain rfl := Option.some.inj H
     go_wp2_with (first | ((with_reducible refine gate_callee (f := 33) rfl ?_); refine goesL_ (some 26) rfl rfl Try.func33 (by kernel_rfl) rfl #[.slice Ao7 t546.length co7] rfl z17_1 ?_; (with_reducible refine (spec_SpanTidy.calls kj4 _ _ t546 t557 _ ?side1 ?side2 A20.out).mono ?_); (case side1 => exact cZ ((Kd.N_reads' HO_3.out).2.2)); (case side2 => first | exact (Kd.N_reads' HO_3.out).2.1 | exact Nat.le_refl _); rintro e w22 ⟨v558, rfl, ho0, hb⟩; refine ⟨_, rfl, ?_⟩; have HO559 := Aside0.mk (Kd.N_lower (Kd.N_mono (ok' := fun k_ => some k_ ≠ (.slice Ao7 t546.length co7 : Value).ownBlock ∧ some k_ ≠ (v550 : Value).ownBlock) (Kd.R_N (Kd.R_bound ho0)) (fun k_ hk_ => ⟨(Kd.fresh' (Kd.N_lt z17_2) k_ hk_.2.1), (Kd.fresh' (Kd.N_lt z17_3) k_ hk_.2.1)⟩)) (below_size z17_0)); replace HO_3 := Aside0.mk (Kd.N_elder' z17_2 z17_8 hb); replace HO_4 := Aside0.mk (Kd.N_elder' z17_3 z17_8 hb); replace HB := Aside0.mk (below_step z17_0 hb); (try clear hb); (try clear ho0); obtain ⟨Ao23, co23, eo23⟩ := Kd.N_slice HO_4.out; subst eo23; (try simp only [clip_slice]); obtain ⟨Ao24, co24, eo24⟩ := Kd.N_slice HO559.out; subst eo24; (try simp only [clip_slice])) | ((with_reducible refine gate_callee (f := 40) rfl ?_); refine goesL_ (some 27) rfl rfl Try.func40 (by kernel_rfl) rfl #[.slice Ao23 t549.length t549.length, .slice Ao24 t557.length co24] rfl z17_1 ?_; (with_reducible refine (laws_lkRows.calls kj4 _ _ t549 _ _ t557 t560 _ ?side1 ?side2 ?side3 ?side4 A21.out).mono ?_); (case side1 => exact cZ ((Kd.N_reads' HO_4.out).2.2)); (case side2 => first | exact (Kd.N_reads' HO_4.out).2.1 | exact Nat.le_refl _); (case side3 => exact cZ ((Kd.N_reads' HO559.out).2.2)); (case side4 => first | exact (Kd.N_reads' HO559.out).2.1 | exact Nat.le_refl _); rintro e w' ⟨rfl, ⟨nd, rfl⟩⟩; refine ⟨_, rfl, ?_⟩))
     go_ret
     exact ⟨z17_9, z17_0⟩
    ·replace c19 := Bool.eq_false_iff.mpr c19
     subst c19
     have H1 : (laws_FnTidySame.l0 kj4 t546 t549 0) = some r := by rw [if_neg (show ¬ (false = true) by decide)] at H; exact H
     clear H
     have H := H1
     clear H1
     have H' := Aside0.mk H
     clear H
     go_wp2
     go_loopg [5] kj4 (fun kq v5 w' => ∃ (x5_2 : Int), v5 = .int .i64 x5_2 ∧ Aside0 (laws_FnTidySame.l0 kq t546 t549 x5_2 = some r) ∧ Aside0 (kq ≤ kj4) ∧ Aside0 (Kd.N (Kd.slice 3 (Kd.int .i64)) 28 w' w.heap.size (fun k_ => some k_ ≠ (v550 : Value).ownBlock) (.slice Ao7 t546.length co7) t546) ∧ Aside0 (Kd.N (Kd.slice 3 (Kd.int .i64)) 28 w' w.heap.size (fun k_ => some k_ ≠ ((.slice Ao7 t546.length co7) : Value).ownBlock) v550 t549) ∧ Aside0 (Below w.heap.size w w'))
     case atStart => exact ⟨(0), z17_11, H', ⟨Nat.le_refl _⟩, ⟨z17_2⟩, ⟨z17_3⟩, ⟨z17_0⟩⟩
     case round =>
      clear H'
      try clear c2
      try clear c2b0
      try clear c2b1
      try clear c19
      obtain ⟨x5_2, rfl, HA, HK2, HO_3, HO_4, HB⟩ := hrel
      cases gk with
      | zero => exact absurd HA.out (by simp [laws_FnTidySame.l0])
      | succ k2 =>
       have H := HA.out
       clear HA
       simp only [laws_FnTidySame.l0] at H
       by_cases c25 : x5_2 < (t546.length : Int)
       ·rw [if_pos c25] at H
        have c25b0 : decide (x5_2 < (t546.length : Int)) = true := decide_eq_true c25
        clear c25
        obtain ⟨c26, H⟩ := ifP H
        have c26b0 : decide (0 ≤ x5_2) = true := decide_eq_true c26
        clear c26
        replace H := Option.bind_eq_some_iff.mp H
        obtain ⟨t562, A270, H⟩ := H
        replace H : (if t562 = true then (laws_FnTidySame.l0 k2 t546 t549 (wrap64 (x5_2 + 1))) else (some false)) = some r := H
        have A27 := Aside0.mk A270
        clear A270
        by_cases c28 : t562 = true
        ·subst c28
         have H1 : (laws_FnTidySame.l0 k2 t546 t549 (wrap64 (x5_2 + 1))) = some r := by rw [if_pos rfl] at H; exact H
         clear H
         have H := H1
         clear H1
         have H' := Aside0.mk H
         clear H
         have p561 : 0 ≤ (x5_2 : Int) := of_decide_eq_true z17_6
         have q561 : x5_2 < (t546.length : Int) := of_decide_eq_true z17_6
         obtain ⟨ad561, A561_0, c561_0, e561, hx561_0, hl561_0, hi561_0⟩ := at_L1 (Kd.N_reads' HO_3.out).2.2 x5_2 p561 q561
         cases e561
         obtain ⟨ce561, hce561, hMe561, hcc561⟩ := Kd.N_get HO_3.out [] x5_2 p561 (by first | exact q561 | exact of_decide_eq_true z17_6 | (have e_ := (Kd.N_reads' HO_3.out).1; omega))
         obtain ⟨ua561_0, uc561_0, rfl, ul561_0, ge561_0⟩ := Kd.FK_slice_open hMe561
         have hv561_0 := hcc561 0 _ rfl
         rw [Nat.add_zero, show ((Kd.slice 3 (Kd.int .i64))).sz = 1 from rfl, Nat.mul_one] at hv561_0
         replace hv561_0 := Option.some.inj (hv561_0.symm.trans hx561_0)
         injection hv561_0 with hva_ hvn_ hvc_
         rw [hva_] at ge561_0
         rw [hvc_] at ul561_0
         have HL561_0 := Aside0.mk (show Kd.V (Kd.int .i64) 3 _ w.heap.size _ _ (rd_L1 t546 x5_2) from Kd.V_mk ul561_0 ge561_0)
         clear hva_ hvn_ hvc_ ge561_0 ul561_0
         clear hcc561 hce561
         have HR561_0 := Aside0.mk hi561_0
         have HC561_0 := Aside0.mk hl561_0
         clear hi561_0 hl561_0
         replace p561 := eq_true p561
         replace q561 := eq_true q561
         obtain ⟨Ao29, co29, eo29⟩ := Kd.N_slice HO_4.out
         subst eo29
         try simp only [clip_slice]
         go_wp2_with (first | ((with_reducible refine gate_callee (f := 22) rfl ?_); refine goesL_ (some 39) rfl rfl Try.func22 (by kernel_rfl) rfl #[.slice Ao29 t549.length t549.length, .slice A561_0 (rd_L1 t546 x5_2).length c561_0] rfl z17_1 ?_; (with_reducible refine (impl_SpanHas.calls k2 _ _ t549 _ _ (rd_L1 t546 x5_2) true _ ?side1 ?side2 ?side3 ?side4 A27.out).mono ?_); (case side1 => exact cZ ((Kd.N_reads' HO_4.out).2.2)); (case side2 => first | exact (Kd.N_reads' HO_4.out).2.1 | exact Nat.le_refl _); (case side3 => repeat (first | exact z17_4 | (with_reducible refine Kd.C_alloc ?_ _) | (with_reducible refine Kd.C_drewN ?_ _) | (with_reducible refine Kd.C_drew ?_))); (case side4 => exact HC561_0.out); rintro e w30 ⟨rfl, hb⟩; refine ⟨_, rfl, ?_⟩; replace HO_3 := Aside0.mk (Kd.N_below z17_2 hb); replace HO_4 := Aside0.mk (Kd.N_below z17_3 hb); replace HL561_0 := Aside0.mk (Kd.V_below (by (with_reducible repeat (first | apply Kd.V_alloc | apply Kd.V_drewN | apply Kd.V_drew)); exact HL561_0.out) hb); replace HR561_0 := Aside0.mk (Kd.C_below z17_4 hb); replace HB := Aside0.mk (below_step z17_0 hb); (try clear hb)))
         go_roundg k2
         case measure => have := HJ4.out; have := HK2.out; omega
         case rel => exact ⟨(wrap64 (x5_2 + 1)), z17_11, H', ⟨by have := HJ4.out; have := HK2.out; omega⟩, ⟨z17_2⟩, ⟨z17_3⟩, ⟨z17_0⟩⟩
        ·replace c28 := Bool.eq_false_iff.mpr c28
         subst c28
         have H1 : (some false) = some r := by rw [if_neg (show ¬ (false = true) by decide)] at H; exact H
         clear H
         have H := H1
         clear H1
         obtain rfl := Option.some.inj H
         have p561 : 0 ≤ (x5_2 : Int) := of_decide_eq_true z17_6
         have q561 : x5_2 < (t546.length : Int) := of_decide_eq_true z17_6
         obtain ⟨ad561, A561_0, c561_0, e561, hx561_0, hl561_0, hi561_0⟩ := at_L1 (Kd.N_reads' HO_3.out).2.2 x5_2 p561 q561
         cases e561
         obtain ⟨ce561, hce561, hMe561, hcc561⟩ := Kd.N_get HO_3.out [] x5_2 p561 (by first | exact q561 | exact of_decide_eq_true z17_6 | (have e_ := (Kd.N_reads' HO_3.out).1; omega))
         obtain ⟨ua561_0, uc561_0, rfl, ul561_0, ge561_0⟩ := Kd.FK_slice_open hMe561
         have hv561_0 := hcc561 0 _ rfl
         rw [Nat.add_zero, show ((Kd.slice 3 (Kd.int .i64))).sz = 1 from rfl, Nat.mul_one] at hv561_0
         replace hv561_0 := Option.some.inj (hv561_0.symm.trans hx561_0)
         injection hv561_0 with hva_ hvn_ hvc_
         rw [hva_] at ge561_0
         rw [hvc_] at ul561_0
         have HL561_0 := Aside0.mk (show Kd.V (Kd.int .i64) 3 _ w.heap.size _ _ (rd_L1 t546 x5_2) from Kd.V_mk ul561_0 ge561_0)
         clear hva_ hvn_ hvc_ ge561_0 ul561_0
         clear hcc561 hce561
         have HR561_0 := Aside0.mk hi561_0
         have HC561_0 := Aside0.mk hl561_0
         clear hi561_0 hl561_0
         replace p561 := eq_true p561
         replace q561 := eq_true q561
         obtain ⟨Ao31, co31, eo31⟩ := Kd.N_slice HO_4.out
         subst eo31
         try simp only [clip_slice]
         go_wp2_with (first | ((with_reducible refine gate_callee (f := 22) rfl ?_); refine goesL_ (some 39) rfl rfl Try.func22 (by kernel_rfl) rfl #[.slice Ao31 t549.length t549.length, .slice A561_0 (rd_L1 t546 x5_2).length c561_0] rfl z17_1 ?_; (with_reducible refine (impl_SpanHas.calls k2 _ _ t549 _ _ (rd_L1 t546 x5_2) false _ ?side1 ?side2 ?side3 ?side4 A27.out).mono ?_); (case side1 => exact cZ ((Kd.N_reads' HO_4.out).2.2)); (case side2 => first | exact (Kd.N_reads' HO_4.out).2.1 | exact Nat.le_refl _); (case side3 => repeat (first | exact z17_4 | (with_reducible refine Kd.C_alloc ?_ _) | (with_reducible refine Kd.C_drewN ?_ _) | (with_reducible refine Kd.C_drew ?_))); (case side4 => exact HC561_0.out); rintro e w32 ⟨rfl, hb⟩; refine ⟨_, rfl, ?_⟩; replace HO_3 := Aside0.mk (Kd.N_below z17_2 hb); replace HO_4 := Aside0.mk (Kd.N_below z17_3 hb); replace HL561_0 := Aside0.mk (Kd.V_below (by (with_reducible repeat (first | apply Kd.V_alloc | apply Kd.V_drewN | apply Kd.V_drew)); exact HL561_0.out) hb); replace HR561_0 := Aside0.mk (Kd.C_below z17_4 hb); replace HB := Aside0.mk (below_step z17_0 hb); (try clear hb)))
         go_ret
         exact ⟨z17_9, z17_0⟩
       ·rw [if_neg c25] at H
        have c25b0 : decide (x5_2 < (t546.length : Int)) = false := decide_eq_false c25
        clear c25
        have H' := Aside0.mk H
        clear H
        go_wp2
        go_loopg [6] k2 (fun kq v6 w' => ∃ (x6_3 : Int), v6 = .int .i64 x6_3 ∧ Aside0 (laws_FnTidySame.l1 kq t546 t549 x6_3 = some r) ∧ Aside0 (kq ≤ k2) ∧ Aside0 (Kd.N (Kd.slice 3 (Kd.int .i64)) 28 w' w.heap.size (fun k_ => some k_ ≠ (v550 : Value).ownBlock) (.slice Ao7 t546.length co7) t546) ∧ Aside0 (Kd.N (Kd.slice 3 (Kd.int .i64)) 28 w' w.heap.size (fun k_ => some k_ ≠ ((.slice Ao7 t546.length co7) : Value).ownBlock) v550 t549) ∧ Aside0 (Below w.heap.size w w'))
        case atStart => exact ⟨(0), z17_11, H', ⟨Nat.le_refl _⟩, ⟨z17_2⟩, ⟨z17_3⟩, ⟨z17_0⟩⟩
        case round =>
         clear H'
         try clear c2
         try clear c2b0
         try clear c2b1
         try clear c19
         try clear c25
         try clear c25b0
         obtain ⟨x6_3, rfl, HA, HK3, HO_3, HO_4, HB⟩ := hrel
         cases gk with
         | zero => exact absurd HA.out (by simp [laws_FnTidySame.l1])
         | succ k3 =>
          have H := HA.out
          clear HA
          simp only [laws_FnTidySame.l1] at H
          by_cases c33 : x6_3 < (t549.length : Int)
          ·rw [if_pos c33] at H
           have c33b0 : decide (x6_3 < (t549.length : Int)) = true := decide_eq_true c33
           clear c33
           obtain ⟨c34, H⟩ := ifP H
           have c34b0 : decide (0 ≤ x6_3) = true := decide_eq_true c34
           clear c34
           replace H := Option.bind_eq_some_iff.mp H
           obtain ⟨t564, A350, H⟩ := H
           replace H : (if t564 = true then (laws_FnTidySame.l1 k3 t546 t549 (wrap64 (x6_3 + 1))) else (some false)) = some r := H
           have A35 := Aside0.mk A350
           clear A350
           by_cases c36 : t564 = true
           ·subst c36
            have H1 : (laws_FnTidySame.l1 k3 t546 t549 (wrap64 (x6_3 + 1))) = some r := by rw [if_pos rfl] at H; exact H
            clear H
            have H := H1
            clear H1
            have H' := Aside0.mk H
            clear H
            obtain ⟨Ao37, co37, eo37⟩ := Kd.N_slice HO_4.out
            subst eo37
            try simp only [clip_slice]
            have p563 : 0 ≤ (x6_3 : Int) := of_decide_eq_true z17_6
            have q563 : x6_3 < (t549.length : Int) := of_decide_eq_true z17_6
            obtain ⟨ad563, A563_0, c563_0, e563, hx563_0, hl563_0, hi563_0⟩ := at_L1 (Kd.N_reads' HO_4.out).2.2 x6_3 p563 q563
            cases e563
            obtain ⟨ce563, hce563, hMe563, hcc563⟩ := Kd.N_get HO_4.out [] x6_3 p563 (by first | exact q563 | exact of_decide_eq_true z17_6 | (have e_ := (Kd.N_reads' HO_4.out).1; omega))
            obtain ⟨ua563_0, uc563_0, rfl, ul563_0, ge563_0⟩ := Kd.FK_slice_open hMe563
            have hv563_0 := hcc563 0 _ rfl
            rw [Nat.add_zero, show ((Kd.slice 3 (Kd.int .i64))).sz = 1 from rfl, Nat.mul_one] at hv563_0
            replace hv563_0 := Option.some.inj (hv563_0.symm.trans hx563_0)
            injection hv563_0 with hva_ hvn_ hvc_
            rw [hva_] at ge563_0
            rw [hvc_] at ul563_0
            have HL563_0 := Aside0.mk (show Kd.V (Kd.int .i64) 3 _ w.heap.size _ _ (rd_L1 t549 x6_3) from Kd.V_mk ul563_0 ge563_0)
            clear hva_ hvn_ hvc_ ge563_0 ul563_0
            clear hcc563 hce563
            have HR563_0 := Aside0.mk hi563_0
            have HC563_0 := Aside0.mk hl563_0
            clear hi563_0 hl563_0
            replace p563 := eq_true p563
            replace q563 := eq_true q563
            go_wp2_with (first | ((with_reducible refine gate_callee (f := 22) rfl ?_); refine goesL_ (some 52) rfl rfl Try.func22 (by kernel_rfl) rfl #[.slice Ao7 t546.length co7, .slice A563_0 (rd_L1 t549 x6_3).length c563_0] rfl z17_1 ?_; (with_reducible refine (impl_SpanHas.calls k3 _ _ t546 _ _ (rd_L1 t549 x6_3) true _ ?side1 ?side2 ?side3 ?side4 A35.out).mono ?_); (case side1 => exact cZ ((Kd.N_reads' HO_3.out).2.2)); (case side2 => first | exact (Kd.N_reads' HO_3.out).2.1 | exact Nat.le_refl _); (case side3 => repeat (first | exact z17_5 | (with_reducible refine Kd.C_alloc ?_ _) | (with_reducible refine Kd.C_drewN ?_ _) | (with_reducible refine Kd.C_drew ?_))); (case side4 => exact HC563_0.out); rintro e w38 ⟨rfl, hb⟩; refine ⟨_, rfl, ?_⟩; replace HO_3 := Aside0.mk (Kd.N_below z17_2 hb); replace HO_4 := Aside0.mk (Kd.N_below z17_3 hb); replace HL563_0 := Aside0.mk (Kd.V_below (by (with_reducible repeat (first | apply Kd.V_alloc | apply Kd.V_drewN | apply Kd.V_drew)); exact HL563_0.out) hb); replace HR563_0 := Aside0.mk (Kd.C_below z17_5 hb); replace HB := Aside0.mk (below_step z17_0 hb); (try clear hb)))
            go_roundg k3
            case measure => have := HJ4.out; have := HK2.out; have := HK3.out; omega
            case rel => exact ⟨(wrap64 (x6_3 + 1)), z17_11, H', ⟨by have := HJ4.out; have := HK2.out; have := HK3.out; omega⟩, ⟨z17_2⟩, ⟨z17_3⟩, ⟨z17_0⟩⟩
           ·replace c36 := Bool.eq_false_iff.mpr c36
            subst c36
            have H1 : (some false) = some r := by rw [if_neg (show ¬ (false = true) by decide)] at H; exact H
            clear H
            have H := H1
            clear H1
            obtain rfl := Option.some.inj H
            obtain ⟨Ao39, co39, eo39⟩ := Kd.N_slice HO_4.out
            subst eo39
            try simp only [clip_slice]
            have p563 : 0 ≤ (x6_3 : Int) := of_decide_eq_true z17_6
            have q563 : x6_3 < (t549.length : Int) := of_decide_eq_true z17_6
            obtain ⟨ad563, A563_0, c563_0, e563, hx563_0, hl563_0, hi563_0⟩ := at_L1 (Kd.N_reads' HO_4.out).2.2 x6_3 p563 q563
            cases e563
            obtain ⟨ce563, hce563, hMe563, hcc563⟩ := Kd.N_get HO_4.out [] x6_3 p563 (by first | exact q563 | exact of_decide_eq_true z17_6 | (have e_ := (Kd.N_reads' HO_4.out).1; omega))
            obtain ⟨ua563_0, uc563_0, rfl, ul563_0, ge563_0⟩ := Kd.FK_slice_open hMe563
            have hv563_0 := hcc563 0 _ rfl
            rw [Nat.add_zero, show ((Kd.slice 3 (Kd.int .i64))).sz = 1 from rfl, Nat.mul_one] at hv563_0
            replace hv563_0 := Option.some.inj (hv563_0.symm.trans hx563_0)
            injection hv563_0 with hva_ hvn_ hvc_
            rw [hva_] at ge563_0
            rw [hvc_] at ul563_0
            have HL563_0 := Aside0.mk (show Kd.V (Kd.int .i64) 3 _ w.heap.size _ _ (rd_L1 t549 x6_3) from Kd.V_mk ul563_0 ge563_0)
            clear hva_ hvn_ hvc_ ge563_0 ul563_0
            clear hcc563 hce563
            have HR563_0 := Aside0.mk hi563_0
            have HC563_0 := Aside0.mk hl563_0
            clear hi563_0 hl563_0
            replace p563 := eq_true p563
            replace q563 := eq_true q563
            go_wp2_with (first | ((with_reducible refine gate_callee (f := 22) rfl ?_); refine goesL_ (some 52) rfl rfl Try.func22 (by kernel_rfl) rfl #[.slice Ao7 t546.length co7, .slice A563_0 (rd_L1 t549 x6_3).length c563_0] rfl z17_1 ?_; (with_reducible refine (impl_SpanHas.calls k3 _ _ t546 _ _ (rd_L1 t549 x6_3) false _ ?side1 ?side2 ?side3 ?side4 A35.out).mono ?_); (case side1 => exact cZ ((Kd.N_reads' HO_3.out).2.2)); (case side2 => first | exact (Kd.N_reads' HO_3.out).2.1 | exact Nat.le_refl _); (case side3 => repeat (first | exact z17_5 | (with_reducible refine Kd.C_alloc ?_ _) | (with_reducible refine Kd.C_drewN ?_ _) | (with_reducible refine Kd.C_drew ?_))); (case side4 => exact HC563_0.out); rintro e w40 ⟨rfl, hb⟩; refine ⟨_, rfl, ?_⟩; replace HO_3 := Aside0.mk (Kd.N_below z17_2 hb); replace HO_4 := Aside0.mk (Kd.N_below z17_3 hb); replace HL563_0 := Aside0.mk (Kd.V_below (by (with_reducible repeat (first | apply Kd.V_alloc | apply Kd.V_drewN | apply Kd.V_drew)); exact HL563_0.out) hb); replace HR563_0 := Aside0.mk (Kd.C_below z17_5 hb); replace HB := Aside0.mk (below_step z17_0 hb); (try clear hb)))
            go_ret
            exact ⟨z17_9, z17_0⟩
          ·rw [if_neg c33] at H
           have c33b0 : decide (x6_3 < (t549.length : Int)) = false := decide_eq_false c33
           clear c33
           replace H := Option.bind_eq_some_iff.mp H
           obtain ⟨t565, A410, H⟩ := H
           replace H : ((laws_lkRows.f k3 t565 t549).bind fun t568 => (if t568 = true then ((impl_SpanSame.f k3 t549 t546).bind fun t569 => (some t569)) else (some false))) = some r := H
           have A41 := Aside0.mk A410
           clear A410
           replace H := Option.bind_eq_some_iff.mp H
           obtain ⟨t568, A420, H⟩ := H
           replace H : (if t568 = true then ((impl_SpanSame.f k3 t549 t546).bind fun t569 => (some t569)) else (some false)) = some r := H
           have A42 := Aside0.mk A420
           clear A420
           by_cases c43 : t568 = true
           ·subst c43
            have H1 : ((impl_SpanSame.f k3 t549 t546).bind fun t569 => (some t569)) = some r := by rw [if_pos rfl] at H; exact H
            clear H
            have H := H1
            clear H1
            replace H := Option.bind_eq_some_iff.mp H
            obtain ⟨t569, A440, H⟩ := H
            replace H : (some t569) = some r := H
            have A44 := Aside0.mk A440
            clear A440
            obtain rfl := Option.some.inj H
            obtain ⟨Ao45, co45, eo45⟩ := Kd.N_slice HO_4.out
            subst eo45
            try simp only [clip_slice]
            go_wp2_with (first | ((with_reducible refine gate_callee (f := 34) rfl ?_); refine goesL_ (some 55) rfl rfl Try.func34 (by kernel_rfl) rfl #[.slice Ao45 t549.length t549.length] rfl z17_1 ?_; (with_reducible refine (impl_SpanTidy.calls k3 _ _ t549 t565 _ ?side1 ?side2 A41.out).mono ?_); (case side1 => exact cZ ((Kd.N_reads' HO_4.out).2.2)); (case side2 => first | exact (Kd.N_reads' HO_4.out).2.1 | exact Nat.le_refl _); rintro e w46 ⟨v566, rfl, ho0, hb⟩; refine ⟨_, rfl, ?_⟩; have HO567 := Aside0.mk (Kd.N_lower (Kd.N_mono (ok' := fun k_ => some k_ ≠ (.slice Ao7 t546.length co7 : Value).ownBlock ∧ some k_ ≠ (.slice Ao45 t549.length co45 : Value).ownBlock) (Kd.R_N (Kd.R_bound ho0)) (fun k_ hk_ => ⟨(Kd.fresh' (Kd.N_lt z17_2) k_ hk_.2.1), (Kd.fresh' (Kd.N_lt z17_3) k_ hk_.2.1)⟩)) (below_size z17_0)); replace HO_3 := Aside0.mk (Kd.N_elder' z17_2 z17_8 hb); replace HO_4 := Aside0.mk (Kd.N_elder' z17_3 z17_8 hb); replace HB := Aside0.mk (below_step z17_0 hb); (try clear hb); (try clear ho0); obtain ⟨Ao47, co47, eo47⟩ := Kd.N_slice HO567.out; subst eo47; (try simp only [clip_slice])) | ((with_reducible refine gate_callee (f := 40) rfl ?_); refine goesL_ (some 57) rfl rfl Try.func40 (by kernel_rfl) rfl #[.slice Ao47 t565.length t565.length, .slice Ao45 t549.length t549.length] rfl z17_1 ?_; (with_reducible refine (laws_lkRows.calls k3 _ _ t565 _ _ t549 true _ ?side1 ?side2 ?side3 ?side4 A42.out).mono ?_); (case side1 => exact cZ ((Kd.N_reads' HO567.out).2.2)); (case side2 => first | exact (Kd.N_reads' HO567.out).2.1 | exact Nat.le_refl _); (case side3 => exact cZ ((Kd.N_reads' HO_4.out).2.2)); (case side4 => first | exact (Kd.N_reads' HO_4.out).2.1 | exact Nat.le_refl _); rintro e w' ⟨rfl, ⟨nd, rfl⟩⟩; refine ⟨_, rfl, ?_⟩) | (go_at_call 32; (with_reducible refine (impl_SpanSame.calls k3 _ _ t549 _ _ t546 t569 _ ?side1 ?side2 ?side3 ?side4 A44.out).mono ?_); (case side1 => exact cZ ((Kd.N_reads' HO_4.out).2.2)); (case side2 => first | exact (Kd.N_reads' HO_4.out).2.1 | exact Nat.le_refl _); (case side3 => exact cZ ((Kd.N_reads' HO_3.out).2.2)); (case side4 => first | exact (Kd.N_reads' HO_3.out).2.1 | exact Nat.le_refl _); rintro e w48 ⟨rfl, hb⟩; replace HO_3 := Aside0.mk (Kd.N_below z17_2 hb); replace HO_4 := Aside0.mk (Kd.N_below z17_3 hb); replace HO567 := Aside0.mk (Kd.N_below (by (with_reducible repeat (first | apply Kd.N_alloc | apply Kd.N_drewN | apply Kd.N_drew)); exact HO567.out) hb); replace HB := Aside0.mk (below_step z17_0 hb); (try clear hb)))
            go_ret
            exact ⟨z17_9, z17_0⟩
           ·replace c43 := Bool.eq_false_iff.mpr c43
            subst c43
            have H1 : (some false) = some r := by rw [if_neg (show ¬ (false = true) by decide)] at H; exact H
            clear H
            have H := H1
            clear H1
            obtain rfl := Option.some.inj H
            obtain ⟨Ao49, co49, eo49⟩ := Kd.N_slice HO_4.out
            subst eo49
            try simp only [clip_slice]
            go_wp2_with (first | ((with_reducible refine gate_callee (f := 34) rfl ?_); refine goesL_ (some 55) rfl rfl Try.func34 (by kernel_rfl) rfl #[.slice Ao49 t549.length t549.length] rfl z17_1 ?_; (with_reducible refine (impl_SpanTidy.calls k3 _ _ t549 t565 _ ?side1 ?side2 A41.out).mono ?_); (case side1 => exact cZ ((Kd.N_reads' HO_4.out).2.2)); (case side2 => first | exact (Kd.N_reads' HO_4.out).2.1 | exact Nat.le_refl _); rintro e w50 ⟨v566, rfl, ho0, hb⟩; refine ⟨_, rfl, ?_⟩; have HO567 := Aside0.mk (Kd.N_lower (Kd.N_mono (ok' := fun k_ => some k_ ≠ (.slice Ao7 t546.length co7 : Value).ownBlock ∧ some k_ ≠ (.slice Ao49 t549.length co49 : Value).ownBlock) (Kd.R_N (Kd.R_bound ho0)) (fun k_ hk_ => ⟨(Kd.fresh' (Kd.N_lt z17_2) k_ hk_.2.1), (Kd.fresh' (Kd.N_lt z17_3) k_ hk_.2.1)⟩)) (below_size z17_0)); replace HO_3 := Aside0.mk (Kd.N_elder' z17_2 z17_8 hb); replace HO_4 := Aside0.mk (Kd.N_elder' z17_3 z17_8 hb); replace HB := Aside0.mk (below_step z17_0 hb); (try clear hb); (try clear ho0); obtain ⟨Ao51, co51, eo51⟩ := Kd.N_slice HO567.out; subst eo51; (try simp only [clip_slice])) | ((with_reducible refine gate_callee (f := 40) rfl ?_); refine goesL_ (some 57) rfl rfl Try.func40 (by kernel_rfl) rfl #[.slice Ao51 t565.length t565.length, .slice Ao49 t549.length t549.length] rfl z17_1 ?_; (with_reducible refine (laws_lkRows.calls k3 _ _ t565 _ _ t549 false _ ?side1 ?side2 ?side3 ?side4 A42.out).mono ?_); (case side1 => exact cZ ((Kd.N_reads' HO567.out).2.2)); (case side2 => first | exact (Kd.N_reads' HO567.out).2.1 | exact Nat.le_refl _); (case side3 => exact cZ ((Kd.N_reads' HO_4.out).2.2)); (case side4 => first | exact (Kd.N_reads' HO_4.out).2.1 | exact Nat.le_refl _); rintro e w' ⟨rfl, ⟨nd, rfl⟩⟩; refine ⟨_, rfl, ?_⟩))
            go_ret
            exact ⟨z17_9, z17_0⟩

/-- THE ONE PURE STATEMENT of laws_FnTidySame: yours. -/
def laws_FnTidySame.Pure : Prop := ∀ (l0 : List Int), l0.length ≤ maxLen → l0.length * 1 ≤ 140737488351232 → (∀ x ∈ l0, (Lit.int .u8 x).wf = true) → ∃ k, laws_FnTidySame.f k l0 = some true
theorem laws_FnTidySame.walk (P : laws_FnTidySame.Pure) (a0 : Option Addr) (len0 cap0 : Nat) (z0 : List Int) (w : World) (w0 : (a0 = none ∧ len0 = 0 ∧ cap0 = 0 ∧ z0 = []) ∨ ∃ x, a0 = some x ∧ len0 ≤ cap0 ∧ cap0 ≤ maxLen ∧ z0.length = cap0 ∧ (∀ i, i < z0.length → w.cell? (x.add i) = some (.int .u8 (z0.getD i 0))) ∧ ∀ n ∈ z0, (Lit.int .u8 n).wf = true) (y0 : len0 * 1 ≤ 140737488351232) :
  Calls Try.prog 10 #[.slice a0 len0 cap0] w fun e w' => e = .returned (.bool true) ∧ Below w.heap.size w w' := by
 obtain ⟨l0, rfl, hr0, hm0, hw0, hc0⟩ := ReadsInt.ofRowC w0
 obtain ⟨k, h⟩ := P l0 hm0 y0 hw0
 refine (laws_FnTidySame.calls k _ _ l0 true w (Kd.C_of_reads (d := (0 : Int)) (h1 := fun _ => rfl) hr0) hc0 h).mono ?_
 rintro e w' ⟨rfl, hd⟩
 exact ⟨rfl, hd⟩

end Go.Proofs.Ytbhmgbeebhmfkaa.PA
