-- Written by a program of this session (after the manner of the kit's print, several laws in one text).
import Derived.Test.YtamaejafddmagaaPAx0
import Derived.Test.YtamaejafddmagaaPAx5
import Derived.Test.YtamaejafddmagaaPAx12
import Derived.Test.YtamaejafddmagaaPAx13
import Derived.Test.YtamaejafddmagaaPAx14
import Derived.Test.YtamaejafddmagaaGw
import Derived.Test.YtamaejafddmagaaGm
namespace Go.Proofs.Ytamaejafddmagaa.PA
open Go.RowKit Go.Proofs.YtamaejafddmagaaW.PrintWords Go.Proofs.YtamaejafddmagaaW.PrintLast Go.Proofs.YtamaejafddmagaaW.PrintMore
attribute [local go_sem] max2_int min2_int max_two min_two max_three min_three max_four min_four   -- for this text's walks alone
set_option linter.unusedVariables false
set_option linter.unusedSimpArgs false

/-! ### laws_FnTidyForm: function 4 -/
theorem z15_0 {p : Prop} (h : p := by repeat (first | (with_reducible first | exact HB.out | apply below_alloc | apply pw_below_drewN | apply below_drew1) | exact HB.out)) : p := h
theorem z15_1 {p : Prop} (h : p := by repeat (first | (with_reducible exact HR470_0.out) | (with_reducible refine Kd.C_alloc ?_ _) | (with_reducible refine Kd.C_drewN ?_ _) | (with_reducible refine Kd.C_drew ?_) | exact HR470_0.out)) : p := h
theorem z15_2 {p : Prop} (h : p := by first | (with_reducible assumption) | assumption) : p := h
theorem z15_3 {p : Prop} (h : p := by (with_reducible repeat (first | apply Kd.N_alloc | apply Kd.N_drewN | apply Kd.N_drew)); exact HO_4.out) : p := h
theorem z15_4 {p : Prop} (h : p := by (try simp only [List.map_toArray, List.map_cons, List.map_nil]); first | done | rfl | (simp only [List.length_drop, List.length_take]; rfl)) : p := h
theorem z15_5 {p : Prop} (h : p := by repeat (first | (with_reducible exact HR472_0.out) | (with_reducible refine Kd.C_alloc ?_ _) | (with_reducible refine Kd.C_drewN ?_ _) | (with_reducible refine Kd.C_drew ?_) | exact HR472_0.out)) : p := h
theorem z15_6 {p : Prop} (h : p := by (with_reducible repeat (first | apply Kd.N_alloc | apply Kd.N_drewN | apply Kd.N_drew)); exact HO457.out) : p := h
theorem z15_7 {p : Prop} (h : p := by first | rfl | (simp; done) | (simp [*]; done)) : p := h
theorem z15_8 {p : Prop} (h : p := by first | rfl | (simp [errW_none, errW_some] <;> rfl) | (simp [*, errW_none, errW_some] <;> rfl)) : p := h
theorem z15_9 {p : Prop} (h : p := by (with_reducible repeat (first | apply Kd.N_alloc | apply Kd.N_drewN | apply Kd.N_drew)); exact HO460.out) : p := h
theorem z15_10 {p : Prop} (h : p := by first | exact Kd.N_base ho0 | exact Kd.R_base ho0) : p := h
theorem z15_11 {p : Prop} (h : p := by have := HJ4.out; have := HK2.out; first | omega | exact Nat.le_refl _) : p := h
theorem z15_12 {p : Prop} (h : p := by first | exact q472 | exact of_decide_eq_true z15_2 | (have e_ := (Kd.N_reads' HO_4.out).1; omega)) : p := h
theorem z15_13 {p : Prop} (h : p := by repeat (first | (with_reducible exact HR474_0.out) | (with_reducible refine Kd.C_alloc ?_ _) | (with_reducible refine Kd.C_drewN ?_ _) | (with_reducible refine Kd.C_drew ?_) | exact HR474_0.out)) : p := h
theorem z15_14 {p : Prop} (h : p := by repeat (first | (with_reducible exact HR476_0.out) | (with_reducible refine Kd.C_alloc ?_ _) | (with_reducible refine Kd.C_drewN ?_ _) | (with_reducible refine Kd.C_drew ?_) | exact HR476_0.out)) : p := h
theorem z15_15 {p : Prop} (h : p := by have := HJ4.out; have := HK2.out; have := HJ27.out; have := HK4.out; omega) : p := h
theorem z15_16 {p : Prop} (h : p := by (with_reducible repeat (first | apply Kd.N_alloc | apply Kd.N_drewN | apply Kd.N_drew)); exact Kd.N_mono HO457.out (fun _ hk => hk.1.2)) : p := h
theorem z15_17 {p : Prop} (h : p := by (with_reducible repeat (first | apply Kd.N_alloc | apply Kd.N_drewN | apply Kd.N_drew)); exact Kd.N_mono HO460.out (fun _ hk => hk.1)) : p := h
mutual
def laws_FnTidyForm.j0 : Nat → List (List Int) → List (List Int) → Bool → Option (Bool)
  | 0, _, _, _ => none
  | k + 1, x3, x4, x24 => if x24 = true then ((spec_SpanTidy.f k x3).bind fun t466 => ((laws_lkRows.f k x4 t466).bind fun t469 => (some t469))) else (laws_FnTidyForm.l0 k x4 0)
def laws_FnTidyForm.l0 : Nat → List (List Int) → Int → Option (Bool)
  | 0, _, _ => none
  | k + 1, x4, x5 => if x5 < (x4.length : Int) then (if 0 ≤ x5 then ((impl_VecLead.f (rd_L2 x4 x5)).bind fun t471 => (if t471 < 0 then (laws_FnTidyForm.j2 k x4 x5 t471 true) else (if 0 ≤ t471 then (if t471 < ((rd_L2 x4 x5).length : Int) then (if (rd (rd_L2 x4 x5) t471) = 1 then (if x5 > 0 then (if 0 ≤ (wrap64 (x5 - 1)) then (if (wrap64 (x5 - 1)) < (x4.length : Int) then ((impl_VecLead.f (rd_L2 x4 (wrap64 (x5 - 1)))).bind fun t475 => (laws_FnTidyForm.j2 k x4 x5 t471 (decide (t475 ≥ t471)))) else (none)) else (none)) else (laws_FnTidyForm.j2 k x4 x5 t471 false)) else (laws_FnTidyForm.j2 k x4 x5 t471 true)) else (none)) else (none)))) else (none)) else (some (decide ((x4.length : Int) ≤ 4)))
def laws_FnTidyForm.j2 : Nat → List (List Int) → Int → Int → Bool → Option (Bool)
  | 0, _, _, _, _ => none
  | k + 1, x4, x5, x6, x65 => if x65 = true then (some false) else (laws_FnTidyForm.l1 k x4 x5 x6 0)
def laws_FnTidyForm.l1 : Nat → List (List Int) → Int → Int → Int → Option (Bool)
  | 0, _, _, _, _ => none
  | k + 1, x4, x5, x6, x7 => if x7 < (x4.length : Int) then (if x7 = x5 then (laws_FnTidyForm.l1 k x4 x5 x6 (wrap64 (x7 + 1))) else (if 0 ≤ x7 then (if 0 ≤ x6 then (if x6 < ((rd_L2 x4 x7).length : Int) then (if (rd (rd_L2 x4 x7) x6) = 0 then (laws_FnTidyForm.l1 k x4 x5 x6 (wrap64 (x7 + 1))) else (some false)) else (none)) else (none)) else (none))) else (laws_FnTidyForm.l0 k x4 (wrap64 (x5 + 1)))
end
def laws_FnTidyForm.f (k : Nat) (l0 : List Int) : Option (Bool) := if (l0.length : Int) > 1048576 then (some true) else ((spec_DrawSpanTidy.f k l0).bind fun t455 => ((impl_SpanTidy.f k t455).bind fun t458 => ((spec_SpanTidy.f k t455).bind fun t461 => ((laws_lkRows.f k t458 t461).bind fun t464 => (if t464 = true then ((spec_SpanOk.f k t455).bind fun t465 => (laws_FnTidyForm.j0 k t455 t458 (!t465))) else (laws_FnTidyForm.j0 k t455 t458 true))))))
set_option maxHeartbeats 8000000 in
set_option maxRecDepth 100000 in
theorem laws_FnTidyForm.calls (k : Nat) (A0 : Option Addr) (c0 : Nat) (l0 : List Int) (r : Bool) (w : World) (hr0 : Kd.C (Kd.int .u8) w A0 l0.length l0) (hc0 : l0.length ≤ c0) (h : laws_FnTidyForm.f k l0 = some r) :
  Calls Try.prog 4 #[.slice A0 l0.length c0] w fun e w' => e = .returned (.bool r) ∧ Below w.heap.size w w' := by
 have HR0 := Aside0.mk hr0
 have HC0 := Aside0.mk hc0
 clear hr0 hc0
 have HB := Aside0.mk (Below.refl w.heap.size w)
 have H : (if (l0.length : Int) > 1048576 then (some true) else ((spec_DrawSpanTidy.f k l0).bind fun t455 => ((impl_SpanTidy.f k t455).bind fun t458 => ((spec_SpanTidy.f k t455).bind fun t461 => ((laws_lkRows.f k t458 t461).bind fun t464 => (if t464 = true then ((spec_SpanOk.f k t455).bind fun t465 => (laws_FnTidyForm.j0 k t455 t458 (!t465))) else (laws_FnTidyForm.j0 k t455 t458 true))))))) = some r := h
 clear h
 by_cases c2 : (l0.length : Int) > 1048576
 ·rw [if_pos c2] at H
  have c2b0 : decide (1048576 < (l0.length : Int)) = true := decide_eq_true c2
  have c2b1 : decide (1048576 < l0.length) = true := decide_eq_true (by omega)
  clear c2
  obtain rfl := Option.some.inj H
  go_enter Try.func4, Try.ntmps4
  go_wp2
  go_ret
  exact ⟨z15_8, z15_0⟩
 ·rw [if_neg c2] at H
  have c2b0 : decide (1048576 < (l0.length : Int)) = false := decide_eq_false c2
  have c2b1 : decide (1048576 < l0.length) = false := decide_eq_false (by omega)
  clear c2
  replace H := Option.bind_eq_some_iff.mp H
  obtain ⟨t455, A30, H⟩ := H
  replace H : ((impl_SpanTidy.f k t455).bind fun t458 => ((spec_SpanTidy.f k t455).bind fun t461 => ((laws_lkRows.f k t458 t461).bind fun t464 => (if t464 = true then ((spec_SpanOk.f k t455).bind fun t465 => (laws_FnTidyForm.j0 k t455 t458 (!t465))) else (laws_FnTidyForm.j0 k t455 t458 true))))) = some r := H
  have A3 := Aside0.mk A30
  clear A30
  replace H := Option.bind_eq_some_iff.mp H
  obtain ⟨t458, A40, H⟩ := H
  replace H : ((spec_SpanTidy.f k t455).bind fun t461 => ((laws_lkRows.f k t458 t461).bind fun t464 => (if t464 = true then ((spec_SpanOk.f k t455).bind fun t465 => (laws_FnTidyForm.j0 k t455 t458 (!t465))) else (laws_FnTidyForm.j0 k t455 t458 true)))) = some r := H
  have A4 := Aside0.mk A40
  clear A40
  have HC5 := Aside0.mk H
  clear H
  go_enter Try.func4, Try.ntmps4
  go_upto_region 5 with (first | ((with_reducible refine gate_callee (f := 15) rfl ?_); refine goesL_ (some 12) rfl rfl Try.func15 (by kernel_rfl) rfl #[.slice A0 l0.length c0] rfl z15_4 ?_; (with_reducible refine (spec_DrawSpanTidy.calls k _ _ l0 t455 _ ?side1 ?side2 A3.out).mono ?_); (case side1 => repeat (first | exact HR0.out | (with_reducible refine Kd.C_alloc ?_ _) | (with_reducible refine Kd.C_drewN ?_ _) | (with_reducible refine Kd.C_drew ?_))); (case side2 => exact HC0.out); rintro e w6 ⟨v456, rfl, ho0, hb⟩; refine ⟨_, rfl, ?_⟩; have n0_ := Aside0.mk (Kd.N_lower (Kd.N_mono (ok' := fun k_ => True) ho0 (fun k_ hk_ => trivial)) (below_size z15_0)); have n1_ := Aside0.mk (below_step z15_0 hb); clear HB; have HO457 := n0_; have HB := n1_; clear n0_ n1_; (try clear hb); (try clear hb2); (try clear hk); (try clear hi); (try clear ho0); obtain ⟨Ao7, co7, eo7⟩ := Kd.N_slice HO457.out; subst eo7; (try simp only [clip_slice])) | ((with_reducible refine gate_callee (f := 16) rfl ?_); refine goesL_ (some 14) rfl rfl Try.func16 (by kernel_rfl) rfl #[.slice Ao7 t455.length co7] rfl z15_4 ?_; (with_reducible refine (impl_SpanTidy.calls k _ _ t455 t458 _ ?side1 ?side2 A4.out).mono ?_); (case side1 => repeat (first | exact (Kd.N_reads' HO457.out).2.2 | (with_reducible refine Kd.C_alloc ?_ _) | (with_reducible refine Kd.C_drewN ?_ _) | (with_reducible refine Kd.C_drew ?_))); (case side2 => first | exact (Kd.N_reads' HO457.out).2.1 | exact Nat.le_refl _); rintro e w8 ⟨v459, rfl, ho0, hb⟩; refine ⟨_, rfl, ?_⟩; have n0_ := Aside0.mk (Kd.N_elder' z15_6 z15_10 hb); have n1_ := Aside0.mk (Kd.N_lower (Kd.N_mono (ok' := fun k_ => some k_ ≠ (.slice Ao7 t455.length co7 : Value).ownBlock) (Kd.R_N (Kd.R_bound ho0)) (fun k_ hk_ => (Kd.fresh' (Kd.N_lt z15_6) k_ hk_.2.1))) (below_size z15_0)); have n2_ := Aside0.mk (below_step z15_0 hb); clear HO457; clear HB; have HO457 := n0_; have HO460 := n1_; have HB := n2_; clear n0_ n1_ n2_; (try clear hb); (try clear hb2); (try clear hk); (try clear hi); (try clear ho0)))
  (try simp only [Act.put, List.setIfInBounds_toArray, List.set_cons_zero, List.set_cons_succ])
  go_cut [24] (fun v24 wc => ∃ (kq : Nat) (x24_4 : Bool), v24 = .bool x24_4 ∧ Aside0 (laws_FnTidyForm.j0 kq t455 t458 x24_4 = some r) ∧ Aside0 (kq ≤ k) ∧ Aside0 (Kd.N (Kd.slice 3 (Kd.int .i64)) 28 wc w.heap.size (fun k_ => some k_ ≠ (v459 : Value).ownBlock) (.slice Ao7 t455.length co7) t455) ∧ Aside0 (Kd.N (Kd.slice 3 (Kd.int .i64)) 28 wc w.heap.size (fun k_ => some k_ ≠ ((.slice Ao7 t455.length co7) : Value).ownBlock) v459 t458) ∧ Aside0 (Below w.heap.size w wc))
  case first =>
   have H := HC5.out
   clear HC5
   replace H := Option.bind_eq_some_iff.mp H
   obtain ⟨t461, A90, H⟩ := H
   replace H : ((laws_lkRows.f k t458 t461).bind fun t464 => (if t464 = true then ((spec_SpanOk.f k t455).bind fun t465 => (laws_FnTidyForm.j0 k t455 t458 (!t465))) else (laws_FnTidyForm.j0 k t455 t458 true))) = some r := H
   have A9 := Aside0.mk A90
   clear A90
   replace H := Option.bind_eq_some_iff.mp H
   obtain ⟨t464, A100, H⟩ := H
   replace H : (if t464 = true then ((spec_SpanOk.f k t455).bind fun t465 => (laws_FnTidyForm.j0 k t455 t458 (!t465))) else (laws_FnTidyForm.j0 k t455 t458 true)) = some r := H
   have A10 := Aside0.mk A100
   clear A100
   by_cases c11 : t464 = true
   ·subst c11
    have H1 : ((spec_SpanOk.f k t455).bind fun t465 => (laws_FnTidyForm.j0 k t455 t458 (!t465))) = some r := by rw [if_pos rfl] at H; exact H
    clear H
    have H := H1
    clear H1
    replace H := Option.bind_eq_some_iff.mp H
    obtain ⟨t465, A120, H⟩ := H
    replace H : (laws_FnTidyForm.j0 k t455 t458 (!t465)) = some r := H
    have A12 := Aside0.mk A120
    clear A120
    have H' := Aside0.mk H
    clear H
    go_wp2_with (first | ((with_reducible refine gate_callee (f := 18) rfl ?_); refine goesL_ (some 17) rfl rfl Try.func18 (by kernel_rfl) rfl #[.slice Ao7 t455.length co7] rfl z15_4 ?_; (with_reducible refine (spec_SpanTidy.calls k _ _ t455 t461 _ ?side1 ?side2 A9.out).mono ?_); (case side1 => repeat (first | exact (Kd.N_reads' HO457.out).2.2 | (with_reducible refine Kd.C_alloc ?_ _) | (with_reducible refine Kd.C_drewN ?_ _) | (with_reducible refine Kd.C_drew ?_))); (case side2 => first | exact (Kd.N_reads' HO457.out).2.1 | exact Nat.le_refl _); rintro e w13 ⟨v462, rfl, ho0, hb⟩; refine ⟨_, rfl, ?_⟩; have n0_ := Aside0.mk (Kd.N_elder' z15_6 z15_10 hb); have n1_ := Aside0.mk (Kd.N_elder' z15_9 z15_10 hb); have n2_ := Aside0.mk (Kd.N_lower (Kd.N_mono (ok' := fun k_ => some k_ ≠ (.slice Ao7 t455.length co7 : Value).ownBlock ∧ some k_ ≠ (v459 : Value).ownBlock) (Kd.R_N (Kd.R_bound ho0)) (fun k_ hk_ => ⟨(Kd.fresh' (Kd.N_lt z15_6) k_ hk_.2.1), (Kd.fresh' (Kd.N_lt z15_9) k_ hk_.2.1)⟩)) (below_size z15_0)); have n3_ := Aside0.mk (below_step z15_0 hb); clear HO457; clear HO460; clear HB; have HO457 := n0_; have HO460 := n1_; have HO463 := n2_; have HB := n3_; clear n0_ n1_ n2_ n3_; (try clear hb); (try clear hb2); (try clear hk); (try clear hi); (try clear ho0); obtain ⟨Ao14, co14, eo14⟩ := Kd.N_slice HO460.out; subst eo14; (try simp only [clip_slice]); obtain ⟨Ao15, co15, eo15⟩ := Kd.N_slice HO463.out; subst eo15; (try simp only [clip_slice])) | ((with_reducible refine gate_callee (f := 17) rfl ?_); refine goesL_ (some 18) rfl rfl Try.func17 (by kernel_rfl) rfl #[.slice Ao14 t458.length t458.length, .slice Ao15 t461.length co15] rfl z15_4 ?_; (with_reducible refine (laws_lkRows.calls k _ _ t458 _ _ t461 true _ ?side1 ?side2 ?side3 ?side4 A10.out).mono ?_); (case side1 => repeat (first | exact (Kd.N_reads' HO460.out).2.2 | (with_reducible refine Kd.C_alloc ?_ _) | (with_reducible refine Kd.C_drewN ?_ _) | (with_reducible refine Kd.C_drew ?_))); (case side2 => first | exact (Kd.N_reads' HO460.out).2.1 | exact Nat.le_refl _); (case side3 => repeat (first | exact (Kd.N_reads' HO463.out).2.2 | (with_reducible refine Kd.C_alloc ?_ _) | (with_reducible refine Kd.C_drewN ?_ _) | (with_reducible refine Kd.C_drew ?_))); (case side4 => first | exact (Kd.N_reads' HO463.out).2.1 | exact Nat.le_refl _); rintro e w' ⟨rfl, ⟨nd, rfl⟩⟩; refine ⟨_, rfl, ?_⟩) | (go_at_call 19; (with_reducible refine (spec_SpanOk.calls k _ _ t455 t465 _ ?side1 ?side2 A12.out).mono ?_); (case side1 => repeat (first | exact (Kd.N_reads' HO457.out).2.2 | (with_reducible refine Kd.C_alloc ?_ _) | (with_reducible refine Kd.C_drewN ?_ _) | (with_reducible refine Kd.C_drew ?_))); (case side2 => first | exact (Kd.N_reads' HO457.out).2.1 | exact Nat.le_refl _); rintro e w' ⟨rfl, ⟨nd, rfl⟩⟩))
    go_meet
    case rel => exact ⟨_, (!t465), z15_7, H', ⟨by first | omega | exact Nat.le_refl _⟩, ⟨z15_16⟩, ⟨z15_17⟩, ⟨z15_0⟩⟩
   ·replace c11 := Bool.eq_false_iff.mpr c11
    subst c11
    have H1 : (laws_FnTidyForm.j0 k t455 t458 true) = some r := by rw [if_neg (show ¬ (false = true) by decide)] at H; exact H
    clear H
    have H := H1
    clear H1
    have H' := Aside0.mk H
    clear H
    go_wp2_with (first | ((with_reducible refine gate_callee (f := 18) rfl ?_); refine goesL_ (some 17) rfl rfl Try.func18 (by kernel_rfl) rfl #[.slice Ao7 t455.length co7] rfl z15_4 ?_; (with_reducible refine (spec_SpanTidy.calls k _ _ t455 t461 _ ?side1 ?side2 A9.out).mono ?_); (case side1 => repeat (first | exact (Kd.N_reads' HO457.out).2.2 | (with_reducible refine Kd.C_alloc ?_ _) | (with_reducible refine Kd.C_drewN ?_ _) | (with_reducible refine Kd.C_drew ?_))); (case side2 => first | exact (Kd.N_reads' HO457.out).2.1 | exact Nat.le_refl _); rintro e w16 ⟨v462, rfl, ho0, hb⟩; refine ⟨_, rfl, ?_⟩; have n0_ := Aside0.mk (Kd.N_elder' z15_6 z15_10 hb); have n1_ := Aside0.mk (Kd.N_elder' z15_9 z15_10 hb); have n2_ := Aside0.mk (Kd.N_lower (Kd.N_mono (ok' := fun k_ => some k_ ≠ (.slice Ao7 t455.length co7 : Value).ownBlock ∧ some k_ ≠ (v459 : Value).ownBlock) (Kd.R_N (Kd.R_bound ho0)) (fun k_ hk_ => ⟨(Kd.fresh' (Kd.N_lt z15_6) k_ hk_.2.1), (Kd.fresh' (Kd.N_lt z15_9) k_ hk_.2.1)⟩)) (below_size z15_0)); have n3_ := Aside0.mk (below_step z15_0 hb); clear HO457; clear HO460; clear HB; have HO457 := n0_; have HO460 := n1_; have HO463 := n2_; have HB := n3_; clear n0_ n1_ n2_ n3_; (try clear hb); (try clear hb2); (try clear hk); (try clear hi); (try clear ho0); obtain ⟨Ao17, co17, eo17⟩ := Kd.N_slice HO460.out; subst eo17; (try simp only [clip_slice]); obtain ⟨Ao18, co18, eo18⟩ := Kd.N_slice HO463.out; subst eo18; (try simp only [clip_slice])) | ((with_reducible refine gate_callee (f := 17) rfl ?_); refine goesL_ (some 18) rfl rfl Try.func17 (by kernel_rfl) rfl #[.slice Ao17 t458.length t458.length, .slice Ao18 t461.length co18] rfl z15_4 ?_; (with_reducible refine (laws_lkRows.calls k _ _ t458 _ _ t461 false _ ?side1 ?side2 ?side3 ?side4 A10.out).mono ?_); (case side1 => repeat (first | exact (Kd.N_reads' HO460.out).2.2 | (with_reducible refine Kd.C_alloc ?_ _) | (with_reducible refine Kd.C_drewN ?_ _) | (with_reducible refine Kd.C_drew ?_))); (case side2 => first | exact (Kd.N_reads' HO460.out).2.1 | exact Nat.le_refl _); (case side3 => repeat (first | exact (Kd.N_reads' HO463.out).2.2 | (with_reducible refine Kd.C_alloc ?_ _) | (with_reducible refine Kd.C_drewN ?_ _) | (with_reducible refine Kd.C_drew ?_))); (case side4 => first | exact (Kd.N_reads' HO463.out).2.1 | exact Nat.le_refl _); rintro e w' ⟨rfl, ⟨nd, rfl⟩⟩; refine ⟨_, rfl, ?_⟩))
    go_meet
    case rel => exact ⟨_, (true), z15_7, H', ⟨by first | omega | exact Nat.le_refl _⟩, ⟨z15_16⟩, ⟨z15_17⟩, ⟨z15_0⟩⟩
  case rest =>
   clear HC5
   try clear c2
   try clear c2b0
   try clear c2b1
   obtain ⟨kq, x24_4, rfl, HA, HJ4, HO_3, HO_4, HB⟩ := hcut
   cases kq with
   | zero => exact absurd HA.out (by simp [laws_FnTidyForm.j0])
   | succ kj4 =>
    have H := HA.out
    clear HA
    simp only [laws_FnTidyForm.j0] at H
    by_cases c19 : x24_4 = true
    ·subst c19
     have H1 : ((spec_SpanTidy.f kj4 t455).bind fun t466 => ((laws_lkRows.f kj4 t458 t466).bind fun t469 => (some t469))) = some r := by rw [if_pos rfl] at H; exact H
     clear H
     have H := H1
     clear H1
     replace H := Option.bind_eq_some_iff.mp H
     obtain ⟨t466, A200, H⟩ := H
     replace H : ((laws_lkRows.f kj4 t458 t466).bind fun t469 => (some t469)) = some r := H
     have A20 := Aside0.mk A200
     clear A200
     replace H := Option.bind_eq_some_iff.mp H
     obtain ⟨t469, A210, H⟩ := H
     replace H : (some t469) = some r := H
     have A21 := Aside0.mk A210
     clear A210
     obtain rfl := Option.some.inj H
     go_wp2_with (first | ((with_reducible refine gate_callee (f := 18) rfl ?_); refine goesL_ (some 27) rfl rfl Try.func18 (by kernel_rfl) rfl #[.slice Ao7 t455.length co7] rfl z15_4 ?_; (with_reducible refine (spec_SpanTidy.calls kj4 _ _ t455 t466 _ ?side1 ?side2 A20.out).mono ?_); (case side1 => repeat (first | exact (Kd.N_reads' HO_3.out).2.2 | (with_reducible refine Kd.C_alloc ?_ _) | (with_reducible refine Kd.C_drewN ?_ _) | (with_reducible refine Kd.C_drew ?_))); (case side2 => first | exact (Kd.N_reads' HO_3.out).2.1 | exact Nat.le_refl _); rintro e w22 ⟨v467, rfl, ho0, hb⟩; refine ⟨_, rfl, ?_⟩; have n0_ := Aside0.mk (Kd.N_elder' (by (with_reducible repeat (first | apply Kd.N_alloc | apply Kd.N_drewN | apply Kd.N_drew)); exact HO_3.out) z15_10 hb); have n1_ := Aside0.mk (Kd.N_elder' z15_3 z15_10 hb); have n2_ := Aside0.mk (Kd.N_lower (Kd.N_mono (ok' := fun k_ => some k_ ≠ (.slice Ao7 t455.length co7 : Value).ownBlock ∧ some k_ ≠ (v459 : Value).ownBlock) (Kd.R_N (Kd.R_bound ho0)) (fun k_ hk_ => ⟨(Kd.fresh' (Kd.N_lt (by (with_reducible repeat (first | apply Kd.N_alloc | apply Kd.N_drewN | apply Kd.N_drew)); exact HO_3.out)) k_ hk_.2.1), (Kd.fresh' (Kd.N_lt z15_3) k_ hk_.2.1)⟩)) (below_size z15_0)); have n3_ := Aside0.mk (below_step z15_0 hb); clear HO_3; clear HO_4; clear HB; have HO_3 := n0_; have HO_4 := n1_; have HO468 := n2_; have HB := n3_; clear n0_ n1_ n2_ n3_; (try clear hb); (try clear hb2); (try clear hk); (try clear hi); (try clear ho0); obtain ⟨Ao23, co23, eo23⟩ := Kd.N_slice HO_4.out; subst eo23; (try simp only [clip_slice]); obtain ⟨Ao24, co24, eo24⟩ := Kd.N_slice HO468.out; subst eo24; (try simp only [clip_slice])) | ((with_reducible refine gate_callee (f := 17) rfl ?_); refine goesL_ (some 28) rfl rfl Try.func17 (by kernel_rfl) rfl #[.slice Ao23 t458.length t458.length, .slice Ao24 t466.length co24] rfl z15_4 ?_; (with_reducible refine (laws_lkRows.calls kj4 _ _ t458 _ _ t466 t469 _ ?side1 ?side2 ?side3 ?side4 A21.out).mono ?_); (case side1 => repeat (first | exact (Kd.N_reads' HO_4.out).2.2 | (with_reducible refine Kd.C_alloc ?_ _) | (with_reducible refine Kd.C_drewN ?_ _) | (with_reducible refine Kd.C_drew ?_))); (case side2 => first | exact (Kd.N_reads' HO_4.out).2.1 | exact Nat.le_refl _); (case side3 => repeat (first | exact (Kd.N_reads' HO468.out).2.2 | (with_reducible refine Kd.C_alloc ?_ _) | (with_reducible refine Kd.C_drewN ?_ _) | (with_reducible refine Kd.C_drew ?_))); (case side4 => first | exact (Kd.N_reads' HO468.out).2.1 | exact Nat.le_refl _); rintro e w' ⟨rfl, ⟨nd, rfl⟩⟩; refine ⟨_, rfl, ?_⟩))
     go_ret
     exact ⟨z15_8, z15_0⟩
    ·replace c19 := Bool.eq_false_iff.mpr c19
     subst c19
     have H1 : (laws_FnTidyForm.l0 kj4 t458 0) = some r := by rw [if_neg (show ¬ (false = true) by decide)] at H; exact H
     clear H
     have H := H1
     clear H1
     have H' := Aside0.mk H
     clear H
     go_wp2
     go_loopg [5] kj4 (fun kq v5 w' => ∃ (x5_2 : Int), v5 = .int .i64 x5_2 ∧ Aside0 (laws_FnTidyForm.l0 kq t458 x5_2 = some r) ∧ Aside0 (kq ≤ kj4) ∧ Aside0 (Kd.N (Kd.slice 3 (Kd.int .i64)) 28 w' w.heap.size (fun _ => True) v459 t458) ∧ Aside0 (Below w.heap.size w w'))
     case atStart => exact ⟨(0), z15_7, H', ⟨Nat.le_refl _⟩, ⟨by (with_reducible repeat (first | apply Kd.N_alloc | apply Kd.N_drewN | apply Kd.N_drew)); exact Kd.N_mono HO_4.out (fun _ hk => trivial)⟩, ⟨z15_0⟩⟩
     case round =>
      clear H'
      try clear c2
      try clear c2b0
      try clear c2b1
      try clear c19
      obtain ⟨x5_2, rfl, HA, HK2, HO_4, HB⟩ := hrel
      cases gk with
      | zero => exact absurd HA.out (by simp [laws_FnTidyForm.l0])
      | succ k2 =>
       have H := HA.out
       clear HA
       simp only [laws_FnTidyForm.l0] at H
       by_cases c25 : x5_2 < (t458.length : Int)
       ·rw [if_pos c25] at H
        have c25b0 : decide (x5_2 < (t458.length : Int)) = true := decide_eq_true c25
        clear c25
        by_cases c26 : 0 ≤ x5_2
        ·rw [if_pos c26] at H
         have c26b0 : decide (0 ≤ x5_2) = true := decide_eq_true c26
         clear c26
         replace H := Option.bind_eq_some_iff.mp H
         obtain ⟨t471, A270, H⟩ := H
         replace H : (if t471 < 0 then (laws_FnTidyForm.j2 k2 t458 x5_2 t471 true) else (if 0 ≤ t471 then (if t471 < ((rd_L2 t458 x5_2).length : Int) then (if (rd (rd_L2 t458 x5_2) t471) = 1 then (if x5_2 > 0 then (if 0 ≤ (wrap64 (x5_2 - 1)) then (if (wrap64 (x5_2 - 1)) < (t458.length : Int) then ((impl_VecLead.f (rd_L2 t458 (wrap64 (x5_2 - 1)))).bind fun t475 => (laws_FnTidyForm.j2 k2 t458 x5_2 t471 (decide (t475 ≥ t471)))) else (none)) else (none)) else (laws_FnTidyForm.j2 k2 t458 x5_2 t471 false)) else (laws_FnTidyForm.j2 k2 t458 x5_2 t471 true)) else (none)) else (none))) = some r := H
         have A27 := Aside0.mk A270
         clear A270
         have HC28 := Aside0.mk H
         clear H
         obtain ⟨Ao29, co29, eo29⟩ := Kd.N_slice HO_4.out
         subst eo29
         try simp only [clip_slice]
         have p470 : 0 ≤ (x5_2 : Int) := of_decide_eq_true z15_2
         have q470 : x5_2 < (t458.length : Int) := of_decide_eq_true z15_2
         obtain ⟨ad470, A470_0, c470_0, e470, hx470_0, hl470_0, hi470_0⟩ := at_L2 (Kd.N_reads' HO_4.out).2.2 x5_2 p470 q470
         cases e470
         obtain ⟨ce470, hce470, hMe470, hcc470⟩ := Kd.N_get HO_4.out [] x5_2 p470 (by first | exact q470 | exact of_decide_eq_true z15_2 | (have e_ := (Kd.N_reads' HO_4.out).1; omega))
         obtain ⟨ua470_0, uc470_0, rfl, ul470_0, ge470_0⟩ := Kd.FK_slice_open hMe470
         have hv470_0 := hcc470 0 _ rfl
         rw [Nat.add_zero, show ((Kd.slice 3 (Kd.int .i64))).sz = 1 from rfl, Nat.mul_one] at hv470_0
         replace hv470_0 := Option.some.inj (hv470_0.symm.trans hx470_0)
         injection hv470_0 with hva_ hvn_ hvc_
         rw [hva_] at ge470_0
         rw [hvc_] at ul470_0
         have HL470_0 := Aside0.mk (show Kd.V (Kd.int .i64) 3 _ w.heap.size _ _ (rd_L2 t458 x5_2) from Kd.V_mk ul470_0 ge470_0)
         clear hva_ hvn_ hvc_ ge470_0 ul470_0
         clear hcc470 hce470
         have HR470_0 := Aside0.mk hi470_0
         have HC470_0 := Aside0.mk hl470_0
         clear hi470_0 hl470_0
         replace p470 := eq_true p470
         replace q470 := eq_true q470
         go_upto_region 11 with (first | ((with_reducible refine gate_callee (f := 20) rfl ?_); refine goesL_ (some 39) rfl rfl Try.func20 (by kernel_rfl) rfl #[.slice A470_0 (rd_L2 t458 x5_2).length c470_0] rfl z15_4 ?_; (with_reducible refine (impl_VecLead.calls _ _ (rd_L2 t458 x5_2) t471 _ ?side1 ?side2 A27.out).mono ?_); (case side1 => repeat (first | exact z15_1 | (with_reducible refine Kd.C_alloc ?_ _) | (with_reducible refine Kd.C_drewN ?_ _) | (with_reducible refine Kd.C_drew ?_))); (case side2 => exact HC470_0.out); rintro e w30 ⟨rfl, hb⟩; refine ⟨_, rfl, ?_⟩; have n0_ := Aside0.mk (Kd.N_below z15_3 hb); have n1_ := Aside0.mk (Kd.V_below (by (with_reducible repeat (first | apply Kd.V_alloc | apply Kd.V_drewN | apply Kd.V_drew)); exact HL470_0.out) hb); have n2_ := Aside0.mk (Kd.C_below z15_1 hb); have n3_ := Aside0.mk (below_step z15_0 hb); clear HO_4; clear HL470_0; clear HR470_0; clear HB; have HO_4 := n0_; have HL470_0 := n1_; have HR470_0 := n2_; have HB := n3_; clear n0_ n1_ n2_ n3_; (try clear hb); (try clear hb2); (try clear hk); (try clear hi)))
         (try simp only [Act.put, List.setIfInBounds_toArray, List.set_cons_zero, List.set_cons_succ])
         go_cut [65] (fun v65 wc => ∃ (kq : Nat) (x65_27 : Bool), v65 = .bool x65_27 ∧ Aside0 (laws_FnTidyForm.j2 kq t458 x5_2 t471 x65_27 = some r) ∧ Aside0 (kq ≤ k2) ∧ Aside0 (Kd.N (Kd.slice 3 (Kd.int .i64)) 28 wc w.heap.size (fun _ => True) (.slice (some ad470) t458.length co29) t458) ∧ Aside0 (Kd.C (Kd.int .i64) wc A470_0 (rd_L2 t458 x5_2).length (rd_L2 t458 x5_2)) ∧ Aside0 (Below w.heap.size w wc))
         case first =>
          have H := HC28.out
          clear HC28
          by_cases c31 : t471 < 0
          ·rw [if_pos c31] at H
           have c31b0 : decide (t471 < 0) = true := decide_eq_true c31
           clear c31
           (first | rw [c31b0] | (simp only [i64_w, i32_w]; rw [c31b0]) | skip)
           have H' := Aside0.mk H
           clear H
           go_wp2
           go_meet
           case rel => exact ⟨_, (true), z15_7, H', ⟨z15_11⟩, ⟨z15_3⟩, ⟨z15_1⟩, ⟨z15_0⟩⟩
          ·rw [if_neg c31] at H
           have c31b0 : decide (t471 < 0) = false := decide_eq_false c31
           clear c31
           (first | rw [c31b0] | (simp only [i64_w, i32_w]; rw [c31b0]) | skip)
           by_cases c32 : 0 ≤ t471
           ·rw [if_pos c32] at H
            have c32b0 : decide (0 ≤ t471) = true := decide_eq_true c32
            clear c32
            by_cases c33 : t471 < ((rd_L2 t458 x5_2).length : Int)
            ·rw [if_pos c33] at H
             have c33b0 : decide (t471 < ((rd_L2 t458 x5_2).length : Int)) = true := decide_eq_true c33
             clear c33
             by_cases c34 : (rd (rd_L2 t458 x5_2) t471) = 1
             ·rw [if_pos c34] at H
              have c34b0 : ((rd (rd_L2 t458 x5_2) t471) == 1) = true := beq_iff_eq.mpr c34
              have c34b1 : ((rd (rd_L2 t458 x5_2) t471) != 1) = false := bne_eq_false_iff_eq.mpr c34
              clear c34
              by_cases c35 : x5_2 > 0
              ·rw [if_pos c35] at H
               have c35b0 : decide (0 < x5_2) = true := decide_eq_true c35
               clear c35
               obtain ⟨ji36, hji36⟩ : ∃ j_ : Int, (wrap64 (x5_2 - 1)) = j_ := ⟨_, rfl⟩
               replace H : (if 0 ≤ (ji36) then (if (ji36) < (t458.length : Int) then ((impl_VecLead.f (rd_L2 t458 (ji36))).bind fun t475 => (laws_FnTidyForm.j2 k2 t458 x5_2 t471 (decide (t475 ≥ t471)))) else (none)) else (none)) = some r := by first | (rw [hji36] at H; exact H) | (simp only [hji36] at H ⊢; exact H)
               have hji36w : (IntKind.i64.wrap (x5_2 - 1)) = ji36 := (i64_w _).trans hji36
               by_cases c37 : 0 ≤ (ji36)
               ·rw [if_pos c37] at H
                have c37b0 : decide (0 ≤ (ji36)) = true := decide_eq_true c37
                clear c37
                by_cases c38 : (ji36) < (t458.length : Int)
                ·rw [if_pos c38] at H
                 have c38b0 : decide ((ji36) < (t458.length : Int)) = true := decide_eq_true c38
                 clear c38
                 replace H := Option.bind_eq_some_iff.mp H
                 obtain ⟨t475, A390, H⟩ := H
                 replace H : (laws_FnTidyForm.j2 k2 t458 x5_2 t471 (decide (t475 ≥ t471))) = some r := H
                 have A39 := Aside0.mk A390
                 clear A390
                 have H' := Aside0.mk H
                 clear H
                 have p472 : 0 ≤ (x5_2 : Int) := of_decide_eq_true z15_2
                 have q472 : x5_2 < (t458.length : Int) := of_decide_eq_true z15_2
                 obtain ⟨ad472, A472_0, c472_0, e472, hx472_0, hl472_0, hi472_0⟩ := at_L2 (Kd.N_reads' HO_4.out).2.2 x5_2 p472 q472
                 obtain rfl : ad470 = ad472 := (by injection e472)
                 obtain ⟨ce472, hce472, hMe472, hcc472⟩ := Kd.N_get HO_4.out [] x5_2 p472 z15_12
                 obtain ⟨ua472_0, uc472_0, rfl, ul472_0, ge472_0⟩ := Kd.FK_slice_open hMe472
                 have hv472_0 := hcc472 0 _ rfl
                 rw [Nat.add_zero, show ((Kd.slice 3 (Kd.int .i64))).sz = 1 from rfl, Nat.mul_one] at hv472_0
                 replace hv472_0 := Option.some.inj (hv472_0.symm.trans hx472_0)
                 injection hv472_0 with hva_ hvn_ hvc_
                 rw [hva_] at ge472_0
                 rw [hvc_] at ul472_0
                 have HL472_0 := Aside0.mk (show Kd.V (Kd.int .i64) 3 _ w.heap.size _ _ (rd_L2 t458 x5_2) from Kd.V_mk ul472_0 ge472_0)
                 clear hva_ hvn_ hvc_ ge472_0 ul472_0
                 clear hcc472 hce472
                 have HR472_0 := Aside0.mk hi472_0
                 have HC472_0 := Aside0.mk hl472_0
                 clear hi472_0 hl472_0
                 replace p472 := eq_true p472
                 replace q472 := eq_true q472
                 have p473 : 0 ≤ (t471 : Int) := of_decide_eq_true z15_2
                 have q473 : t471 < ((rd_L2 t458 x5_2).length : Int) := of_decide_eq_true z15_2
                 obtain ⟨ad473, e473, hx473_0⟩ := Kd.at_int z15_5 t471 p473 q473
                 cases e473
                 replace p473 := eq_true p473
                 replace q473 := eq_true q473
                 have p474 : 0 ≤ ((ji36) : Int) := of_decide_eq_true z15_2
                 have q474 : (ji36) < (t458.length : Int) := of_decide_eq_true z15_2
                 obtain ⟨ad474, A474_0, c474_0, e474, hx474_0, hl474_0, hi474_0⟩ := at_L2 (Kd.N_reads' HO_4.out).2.2 (ji36) p474 q474
                 obtain rfl : ad470 = ad474 := (by injection e474)
                 obtain ⟨ce474, hce474, hMe474, hcc474⟩ := Kd.N_get HO_4.out [] (ji36) p474 (by first | exact q474 | exact of_decide_eq_true z15_2 | (have e_ := (Kd.N_reads' HO_4.out).1; omega))
                 obtain ⟨ua474_0, uc474_0, rfl, ul474_0, ge474_0⟩ := Kd.FK_slice_open hMe474
                 have hv474_0 := hcc474 0 _ rfl
                 rw [Nat.add_zero, show ((Kd.slice 3 (Kd.int .i64))).sz = 1 from rfl, Nat.mul_one] at hv474_0
                 replace hv474_0 := Option.some.inj (hv474_0.symm.trans hx474_0)
                 injection hv474_0 with hva_ hvn_ hvc_
                 rw [hva_] at ge474_0
                 rw [hvc_] at ul474_0
                 have HL474_0 := Aside0.mk (show Kd.V (Kd.int .i64) 3 _ w.heap.size _ _ (rd_L2 t458 (ji36)) from Kd.V_mk ul474_0 ge474_0)
                 clear hva_ hvn_ hvc_ ge474_0 ul474_0
                 clear hcc474 hce474
                 have HR474_0 := Aside0.mk hi474_0
                 have HC474_0 := Aside0.mk hl474_0
                 clear hi474_0 hl474_0
                 replace p474 := eq_true p474
                 replace q474 := eq_true q474
                 go_wp2_with (first | (go_at_call 20; (with_reducible refine (impl_VecLead.calls _ _ (rd_L2 t458 (ji36)) t475 _ ?side1 ?side2 A39.out).mono ?_); (case side1 => repeat (first | exact z15_13 | (with_reducible refine Kd.C_alloc ?_ _) | (with_reducible refine Kd.C_drewN ?_ _) | (with_reducible refine Kd.C_drew ?_))); (case side2 => exact HC474_0.out); rintro e w40 ⟨rfl, hb⟩; have n0_ := Aside0.mk (Kd.N_below z15_3 hb); have n1_ := Aside0.mk (Kd.V_below (by (with_reducible repeat (first | apply Kd.V_alloc | apply Kd.V_drewN | apply Kd.V_drew)); exact HL470_0.out) hb); have n2_ := Aside0.mk (Kd.V_below (by (with_reducible repeat (first | apply Kd.V_alloc | apply Kd.V_drewN | apply Kd.V_drew)); exact HL472_0.out) hb); have n3_ := Aside0.mk (Kd.V_below (by (with_reducible repeat (first | apply Kd.V_alloc | apply Kd.V_drewN | apply Kd.V_drew)); exact HL474_0.out) hb); have n4_ := Aside0.mk (Kd.C_below z15_1 hb); have n5_ := Aside0.mk (Kd.C_below z15_5 hb); have n6_ := Aside0.mk (Kd.C_below z15_13 hb); have n7_ := Aside0.mk (below_step z15_0 hb); clear HO_4; clear HL470_0; clear HL472_0; clear HL474_0; clear HR470_0; clear HR472_0; clear HR474_0; clear HB; have HO_4 := n0_; have HL470_0 := n1_; have HL472_0 := n2_; have HL474_0 := n3_; have HR470_0 := n4_; have HR472_0 := n5_; have HR474_0 := n6_; have HB := n7_; clear n0_ n1_ n2_ n3_ n4_ n5_ n6_ n7_; (try clear hb); (try clear hb2); (try clear hk); (try clear hi)))
                 go_meet
                 case rel => exact ⟨_, (decide (t475 ≥ t471)), z15_7, H', ⟨z15_11⟩, ⟨z15_3⟩, ⟨z15_1⟩, ⟨z15_0⟩⟩
                ·rw [if_neg c38] at H
                 exact absurd H (by simp)
               ·rw [if_neg c37] at H
                exact absurd H (by simp)
              ·rw [if_neg c35] at H
               have c35b0 : decide (0 < x5_2) = false := decide_eq_false c35
               clear c35
               have H' := Aside0.mk H
               clear H
               have p472 : 0 ≤ (x5_2 : Int) := of_decide_eq_true z15_2
               have q472 : x5_2 < (t458.length : Int) := of_decide_eq_true z15_2
               obtain ⟨ad472, A472_0, c472_0, e472, hx472_0, hl472_0, hi472_0⟩ := at_L2 (Kd.N_reads' HO_4.out).2.2 x5_2 p472 q472
               obtain rfl : ad470 = ad472 := (by injection e472)
               obtain ⟨ce472, hce472, hMe472, hcc472⟩ := Kd.N_get HO_4.out [] x5_2 p472 z15_12
               obtain ⟨ua472_0, uc472_0, rfl, ul472_0, ge472_0⟩ := Kd.FK_slice_open hMe472
               have hv472_0 := hcc472 0 _ rfl
               rw [Nat.add_zero, show ((Kd.slice 3 (Kd.int .i64))).sz = 1 from rfl, Nat.mul_one] at hv472_0
               replace hv472_0 := Option.some.inj (hv472_0.symm.trans hx472_0)
               injection hv472_0 with hva_ hvn_ hvc_
               rw [hva_] at ge472_0
               rw [hvc_] at ul472_0
               have HL472_0 := Aside0.mk (show Kd.V (Kd.int .i64) 3 _ w.heap.size _ _ (rd_L2 t458 x5_2) from Kd.V_mk ul472_0 ge472_0)
               clear hva_ hvn_ hvc_ ge472_0 ul472_0
               clear hcc472 hce472
               have HR472_0 := Aside0.mk hi472_0
               have HC472_0 := Aside0.mk hl472_0
               clear hi472_0 hl472_0
               replace p472 := eq_true p472
               replace q472 := eq_true q472
               have p473 : 0 ≤ (t471 : Int) := of_decide_eq_true z15_2
               have q473 : t471 < ((rd_L2 t458 x5_2).length : Int) := of_decide_eq_true z15_2
               obtain ⟨ad473, e473, hx473_0⟩ := Kd.at_int z15_5 t471 p473 q473
               cases e473
               replace p473 := eq_true p473
               replace q473 := eq_true q473
               go_wp2
               go_meet
               case rel => exact ⟨_, (false), z15_7, H', ⟨z15_11⟩, ⟨z15_3⟩, ⟨z15_1⟩, ⟨z15_0⟩⟩
             ·rw [if_neg c34] at H
              have c34b0 : ((rd (rd_L2 t458 x5_2) t471) == 1) = false := beq_eq_false_iff_ne.mpr c34
              have c34b1 : ((rd (rd_L2 t458 x5_2) t471) != 1) = true := bne_iff_ne.mpr c34
              have H' := Aside0.mk H
              clear H
              have p472 : 0 ≤ (x5_2 : Int) := of_decide_eq_true z15_2
              have q472 : x5_2 < (t458.length : Int) := of_decide_eq_true z15_2
              obtain ⟨ad472, A472_0, c472_0, e472, hx472_0, hl472_0, hi472_0⟩ := at_L2 (Kd.N_reads' HO_4.out).2.2 x5_2 p472 q472
              obtain rfl : ad470 = ad472 := (by injection e472)
              obtain ⟨ce472, hce472, hMe472, hcc472⟩ := Kd.N_get HO_4.out [] x5_2 p472 z15_12
              obtain ⟨ua472_0, uc472_0, rfl, ul472_0, ge472_0⟩ := Kd.FK_slice_open hMe472
              have hv472_0 := hcc472 0 _ rfl
              rw [Nat.add_zero, show ((Kd.slice 3 (Kd.int .i64))).sz = 1 from rfl, Nat.mul_one] at hv472_0
              replace hv472_0 := Option.some.inj (hv472_0.symm.trans hx472_0)
              injection hv472_0 with hva_ hvn_ hvc_
              rw [hva_] at ge472_0
              rw [hvc_] at ul472_0
              have HL472_0 := Aside0.mk (show Kd.V (Kd.int .i64) 3 _ w.heap.size _ _ (rd_L2 t458 x5_2) from Kd.V_mk ul472_0 ge472_0)
              clear hva_ hvn_ hvc_ ge472_0 ul472_0
              clear hcc472 hce472
              have HR472_0 := Aside0.mk hi472_0
              have HC472_0 := Aside0.mk hl472_0
              clear hi472_0 hl472_0
              replace p472 := eq_true p472
              replace q472 := eq_true q472
              have p473 : 0 ≤ (t471 : Int) := of_decide_eq_true z15_2
              have q473 : t471 < ((rd_L2 t458 x5_2).length : Int) := of_decide_eq_true z15_2
              obtain ⟨ad473, e473, hx473_0⟩ := Kd.at_int z15_5 t471 p473 q473
              cases e473
              replace p473 := eq_true p473
              replace q473 := eq_true q473
              go_wp2
              go_meet
              case rel => exact ⟨_, (true), z15_7, H', ⟨z15_11⟩, ⟨z15_3⟩, ⟨z15_1⟩, ⟨z15_0⟩⟩
            ·rw [if_neg c33] at H
             exact absurd H (by simp)
           ·rw [if_neg c32] at H
            exact absurd H (by simp)
         case rest =>
          clear HC28
          try clear c2
          try clear c2b0
          try clear c2b1
          try clear c19
          try clear c25
          try clear c25b0
          try clear c26
          try clear c26b0
          try clear hx470_0
          try clear p470
          try clear q470
          obtain ⟨kq, x65_27, rfl, HA, HJ27, HO_4, HR470_0, HB⟩ := hcut
          cases kq with
          | zero => exact absurd HA.out (by simp [laws_FnTidyForm.j2])
          | succ kj27 =>
           have H := HA.out
           clear HA
           simp only [laws_FnTidyForm.j2] at H
           by_cases c41 : x65_27 = true
           ·subst c41
            have H1 : (some false) = some r := by rw [if_pos rfl] at H; exact H
            clear H
            have H := H1
            clear H1
            obtain rfl := Option.some.inj H
            go_wp2
            go_ret
            exact ⟨z15_8, z15_0⟩
           ·replace c41 := Bool.eq_false_iff.mpr c41
            subst c41
            have H1 : (laws_FnTidyForm.l1 kj27 t458 x5_2 t471 0) = some r := by rw [if_neg (show ¬ (false = true) by decide)] at H; exact H
            clear H
            have H := H1
            clear H1
            have H' := Aside0.mk H
            clear H
            go_wp2
            go_loopg [7] kj27 (fun kq v7 w' => ∃ (x7_4 : Int), v7 = .int .i64 x7_4 ∧ Aside0 (laws_FnTidyForm.l1 kq t458 x5_2 t471 x7_4 = some r) ∧ Aside0 (kq ≤ kj27) ∧ Aside0 (Kd.N (Kd.slice 3 (Kd.int .i64)) 28 w' w.heap.size (fun _ => True) (.slice (some ad470) t458.length co29) t458) ∧ Aside0 (Kd.C (Kd.int .i64) w' A470_0 (rd_L2 t458 x5_2).length (rd_L2 t458 x5_2)) ∧ Aside0 (Below w.heap.size w w'))
            case atStart => exact ⟨(0), z15_7, H', ⟨Nat.le_refl _⟩, ⟨z15_3⟩, ⟨z15_1⟩, ⟨z15_0⟩⟩
            case round =>
             clear H'
             try clear c2
             try clear c2b0
             try clear c2b1
             try clear c19
             try clear c25
             try clear c25b0
             try clear c26
             try clear c26b0
             try clear c41
             try clear hx470_0
             try clear p470
             try clear q470
             obtain ⟨x7_4, rfl, HA, HK4, HO_4, HR470_0, HB⟩ := hrel
             cases gk with
             | zero => exact absurd HA.out (by simp [laws_FnTidyForm.l1])
             | succ k4 =>
              have H := HA.out
              clear HA
              simp only [laws_FnTidyForm.l1] at H
              by_cases c42 : x7_4 < (t458.length : Int)
              ·rw [if_pos c42] at H
               have c42b0 : decide (x7_4 < (t458.length : Int)) = true := decide_eq_true c42
               clear c42
               by_cases c43 : x7_4 = x5_2
               ·rw [if_pos c43] at H
                have c43b0 : (x7_4 == x5_2) = true := beq_iff_eq.mpr c43
                have c43b1 : (x7_4 != x5_2) = false := bne_eq_false_iff_eq.mpr c43
                clear c43
                have H' := Aside0.mk H
                clear H
                go_wp2
                go_roundg k4
                case measure => have := HJ4.out; have := HK2.out; have := HJ27.out; have := HK4.out; omega
                case rel => exact ⟨(wrap64 (x7_4 + 1)), z15_7, H', ⟨z15_15⟩, ⟨z15_3⟩, ⟨z15_1⟩, ⟨z15_0⟩⟩
               ·rw [if_neg c43] at H
                have c43b0 : (x7_4 == x5_2) = false := beq_eq_false_iff_ne.mpr c43
                have c43b1 : (x7_4 != x5_2) = true := bne_iff_ne.mpr c43
                by_cases c44 : 0 ≤ x7_4
                ·rw [if_pos c44] at H
                 have c44b0 : decide (0 ≤ x7_4) = true := decide_eq_true c44
                 clear c44
                 by_cases c45 : 0 ≤ t471
                 ·rw [if_pos c45] at H
                  have c45b0 : decide (0 ≤ t471) = true := decide_eq_true c45
                  clear c45
                  by_cases c46 : t471 < ((rd_L2 t458 x7_4).length : Int)
                  ·rw [if_pos c46] at H
                   have c46b0 : decide (t471 < ((rd_L2 t458 x7_4).length : Int)) = true := decide_eq_true c46
                   clear c46
                   by_cases c47 : (rd (rd_L2 t458 x7_4) t471) = 0
                   ·rw [if_pos c47] at H
                    have c47b0 : ((rd (rd_L2 t458 x7_4) t471) == 0) = true := beq_iff_eq.mpr c47
                    have c47b1 : ((rd (rd_L2 t458 x7_4) t471) != 0) = false := bne_eq_false_iff_eq.mpr c47
                    clear c47
                    have H' := Aside0.mk H
                    clear H
                    have p476 : 0 ≤ (x7_4 : Int) := of_decide_eq_true z15_2
                    have q476 : x7_4 < (t458.length : Int) := of_decide_eq_true z15_2
                    obtain ⟨ad476, A476_0, c476_0, e476, hx476_0, hl476_0, hi476_0⟩ := at_L2 (Kd.N_reads' HO_4.out).2.2 x7_4 p476 q476
                    obtain rfl : ad470 = ad476 := (by injection e476)
                    obtain ⟨ce476, hce476, hMe476, hcc476⟩ := Kd.N_get HO_4.out [] x7_4 p476 (by first | exact q476 | exact of_decide_eq_true z15_2 | (have e_ := (Kd.N_reads' HO_4.out).1; omega))
                    obtain ⟨ua476_0, uc476_0, rfl, ul476_0, ge476_0⟩ := Kd.FK_slice_open hMe476
                    have hv476_0 := hcc476 0 _ rfl
                    rw [Nat.add_zero, show ((Kd.slice 3 (Kd.int .i64))).sz = 1 from rfl, Nat.mul_one] at hv476_0
                    replace hv476_0 := Option.some.inj (hv476_0.symm.trans hx476_0)
                    injection hv476_0 with hva_ hvn_ hvc_
                    rw [hva_] at ge476_0
                    rw [hvc_] at ul476_0
                    have HL476_0 := Aside0.mk (show Kd.V (Kd.int .i64) 3 _ w.heap.size _ _ (rd_L2 t458 x7_4) from Kd.V_mk ul476_0 ge476_0)
                    clear hva_ hvn_ hvc_ ge476_0 ul476_0
                    clear hcc476 hce476
                    have HR476_0 := Aside0.mk hi476_0
                    have HC476_0 := Aside0.mk hl476_0
                    clear hi476_0 hl476_0
                    replace p476 := eq_true p476
                    replace q476 := eq_true q476
                    have p477 : 0 ≤ (t471 : Int) := of_decide_eq_true z15_2
                    have q477 : t471 < ((rd_L2 t458 x7_4).length : Int) := of_decide_eq_true z15_2
                    obtain ⟨ad477, e477, hx477_0⟩ := Kd.at_int z15_14 t471 p477 q477
                    cases e477
                    replace p477 := eq_true p477
                    replace q477 := eq_true q477
                    go_wp2
                    go_roundg k4
                    case measure => have := HJ4.out; have := HK2.out; have := HJ27.out; have := HK4.out; omega
                    case rel => exact ⟨(wrap64 (x7_4 + 1)), z15_7, H', ⟨z15_15⟩, ⟨z15_3⟩, ⟨z15_1⟩, ⟨z15_0⟩⟩
                   ·rw [if_neg c47] at H
                    have c47b0 : ((rd (rd_L2 t458 x7_4) t471) == 0) = false := beq_eq_false_iff_ne.mpr c47
                    have c47b1 : ((rd (rd_L2 t458 x7_4) t471) != 0) = true := bne_iff_ne.mpr c47
                    obtain rfl := Option.some.inj H
                    have p476 : 0 ≤ (x7_4 : Int) := of_decide_eq_true z15_2
                    have q476 : x7_4 < (t458.length : Int) := of_decide_eq_true z15_2
                    obtain ⟨ad476, A476_0, c476_0, e476, hx476_0, hl476_0, hi476_0⟩ := at_L2 (Kd.N_reads' HO_4.out).2.2 x7_4 p476 q476
                    obtain rfl : ad470 = ad476 := (by injection e476)
                    obtain ⟨ce476, hce476, hMe476, hcc476⟩ := Kd.N_get HO_4.out [] x7_4 p476 (by first | exact q476 | exact of_decide_eq_true z15_2 | (have e_ := (Kd.N_reads' HO_4.out).1; omega))
                    obtain ⟨ua476_0, uc476_0, rfl, ul476_0, ge476_0⟩ := Kd.FK_slice_open hMe476
                    have hv476_0 := hcc476 0 _ rfl
                    rw [Nat.add_zero, show ((Kd.slice 3 (Kd.int .i64))).sz = 1 from rfl, Nat.mul_one] at hv476_0
                    replace hv476_0 := Option.some.inj (hv476_0.symm.trans hx476_0)
                    injection hv476_0 with hva_ hvn_ hvc_
                    rw [hva_] at ge476_0
                    rw [hvc_] at ul476_0
                    have HL476_0 := Aside0.mk (show Kd.V (Kd.int .i64) 3 _ w.heap.size _ _ (rd_L2 t458 x7_4) from Kd.V_mk ul476_0 ge476_0)
                    clear hva_ hvn_ hvc_ ge476_0 ul476_0
                    clear hcc476 hce476
                    have HR476_0 := Aside0.mk hi476_0
                    have HC476_0 := Aside0.mk hl476_0
                    clear hi476_0 hl476_0
                    replace p476 := eq_true p476
                    replace q476 := eq_true q476
                    have p477 : 0 ≤ (t471 : Int) := of_decide_eq_true z15_2
                    have q477 : t471 < ((rd_L2 t458 x7_4).length : Int) := of_decide_eq_true z15_2
                    obtain ⟨ad477, e477, hx477_0⟩ := Kd.at_int z15_14 t471 p477 q477
                    cases e477
                    replace p477 := eq_true p477
                    replace q477 := eq_true q477
                    go_wp2
                    go_ret
                    exact ⟨z15_8, z15_0⟩
                  ·rw [if_neg c46] at H
                   exact absurd H (by simp)
                 ·rw [if_neg c45] at H
                  exact absurd H (by simp)
                ·rw [if_neg c44] at H
                 exact absurd H (by simp)
              ·rw [if_neg c42] at H
               have c42b0 : decide (x7_4 < (t458.length : Int)) = false := decide_eq_false c42
               clear c42
               have H' := Aside0.mk H
               clear H
               go_wp2
               go_roundg k4
               case measure => have := HJ4.out; have := HK2.out; have := HJ27.out; have := HK4.out; omega
               case rel => exact ⟨(wrap64 (x5_2 + 1)), z15_7, H', ⟨z15_15⟩, ⟨z15_3⟩, ⟨z15_0⟩⟩
        ·rw [if_neg c26] at H
         exact absurd H (by simp)
       ·rw [if_neg c25] at H
        have c25b0 : decide (x5_2 < (t458.length : Int)) = false := decide_eq_false c25
        clear c25
        obtain rfl := Option.some.inj H
        obtain ⟨Ao48, co48, eo48⟩ := Kd.N_slice HO_4.out
        subst eo48
        try simp only [clip_slice]
        go_wp2
        go_ret
        exact ⟨z15_8, z15_0⟩

/-- THE ONE PURE STATEMENT of laws_FnTidyForm: yours. -/
def laws_FnTidyForm.Pure : Prop := ∀ (l0 : List Int), l0.length ≤ maxLen → l0.length * 1 ≤ 140737488351232 → (∀ x ∈ l0, (Lit.int .u8 x).wf = true) → ∃ k, laws_FnTidyForm.f k l0 = some true
theorem laws_FnTidyForm.walk (P : laws_FnTidyForm.Pure) (a0 : Option Addr) (len0 cap0 : Nat) (z0 : List Int) (w : World) (w0 : (a0 = none ∧ len0 = 0 ∧ cap0 = 0 ∧ z0 = []) ∨ ∃ x, a0 = some x ∧ len0 ≤ cap0 ∧ cap0 ≤ maxLen ∧ z0.length = cap0 ∧ (∀ i, i < z0.length → w.cell? (x.add i) = some (.int .u8 (z0.getD i 0))) ∧ ∀ n ∈ z0, (Lit.int .u8 n).wf = true) (y0 : len0 * 1 ≤ 140737488351232) :
  Calls Try.prog 4 #[.slice a0 len0 cap0] w fun e w' => e = .returned (.bool true) ∧ Below w.heap.size w w' := by
 obtain ⟨l0, rfl, hr0, hm0, hw0, hc0⟩ := ReadsInt.ofRowC w0
 obtain ⟨k, h⟩ := P l0 hm0 y0 hw0
 refine (laws_FnTidyForm.calls k _ _ l0 true w (Kd.C_of_reads (d := (0 : Int)) (h1 := fun _ => rfl) hr0) hc0 h).mono ?_
 rintro e w' ⟨rfl, hd⟩
 exact ⟨rfl, hd⟩

end Go.Proofs.Ytamaejafddmagaa.PA
