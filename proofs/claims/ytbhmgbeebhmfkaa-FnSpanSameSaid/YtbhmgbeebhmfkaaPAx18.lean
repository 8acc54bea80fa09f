-- Written by a program of this session (after the manner of the kit's print, several laws in one text).
import Derived.Test.YtbhmgbeebhmfkaaPAx0
import Derived.Test.YtbhmgbeebhmfkaaPAx8
import Derived.Test.YtbhmgbeebhmfkaaPAx10
import Derived.Test.YtbhmgbeebhmfkaaPAx13
import Derived.Test.YtbhmgbeebhmfkaaPAx14
import Derived.Test.YtbhmgbeebhmfkaaPAx17
import Derived.Test.YtbhmgbeebhmfkaaGw
import Derived.Test.YtbhmgbeebhmfkaaGm
namespace Go.Proofs.Ytbhmgbeebhmfkaa.PA
open Go.RowKit Go.Proofs.YtbhmgbeebhmfkaaW.PrintWords Go.Proofs.YtbhmgbeebhmfkaaW.PrintLast Go.Proofs.YtbhmgbeebhmfkaaW.PrintMore
attribute [local go_sem] max2_int min2_int max_two min_two max_three min_three max_four min_four   -- for this text's walks alone
set_option linter.unusedVariables false
set_option linter.unusedSimpArgs false

/-! ### laws_FnSpanSame: function 11 -/
theorem z18_0 {p : Prop} (h : p := by repeat (first | (with_reducible first | exact HB.out | apply below_alloc | apply pw_below_drewN | apply below_drew1) | exact HB.out)) : p := h
theorem z18_1 {p : Prop} (h : p := by (with_reducible repeat (first | apply Kd.N_alloc | apply Kd.N_drewN | apply Kd.N_drew)); exact HO_3.out) : p := h
theorem z18_2 {p : Prop} (h : p := by (with_reducible repeat (first | apply Kd.N_alloc | apply Kd.N_drewN | apply Kd.N_drew)); exact HO_4.out) : p := h
theorem z18_3 {p : Prop} (h : p := by (try simp only [List.map_toArray, List.map_cons, List.map_nil]); first | done | rfl | (simp only [List.length_drop, List.length_take]; rfl)) : p := h
theorem z18_4 {p : Prop} (h : p := by first | rfl | (simp; done) | (simp [*]; done)) : p := h
theorem z18_5 {p : Prop} (h : p := by (with_reducible repeat (first | apply Kd.N_alloc | apply Kd.N_drewN | apply Kd.N_drew)); exact HO577.out) : p := h
theorem z18_6 {p : Prop} (h : p := by (with_reducible repeat (first | apply Kd.N_alloc | apply Kd.N_drewN | apply Kd.N_drew)); exact HO580.out) : p := h
theorem z18_7 {p : Prop} (h : p := by first | rfl | (simp [errW_none, errW_some] <;> rfl) | (simp [*, errW_none, errW_some] <;> rfl)) : p := h
theorem z18_8 {p : Prop} (h : p := by first | (with_reducible assumption) | assumption) : p := h
theorem z18_9 {p : Prop} (h : p := by first | exact Kd.N_base ho0 | exact Kd.R_base ho0) : p := h
theorem z18_10 {p : Prop} (h : p := by repeat (first | (with_reducible exact HR586_0.out) | (with_reducible refine Kd.C_alloc ?_ _) | (with_reducible refine Kd.C_drewN ?_ _) | (with_reducible refine Kd.C_drew ?_) | exact HR586_0.out)) : p := h
theorem z18_11 {p : Prop} (h : p := by repeat (first | (with_reducible exact HR588_0.out) | (with_reducible refine Kd.C_alloc ?_ _) | (with_reducible refine Kd.C_drewN ?_ _) | (with_reducible refine Kd.C_drew ?_) | exact HR588_0.out)) : p := h
mutual
def laws_FnSpanSame.j0 : Nat → List (List Int) → List (List Int) → Bool → Bool → Option (Bool)
  | 0, _, _, _, _ => none
  | k + 1, x3, x4, x5, x34 => if x34 = true then ((spec_SpanSame.f k x3 x4).bind fun t585 => (some (x5 == t585))) else (laws_FnSpanSame.l0 k x3 x4 x5 true 0)
def laws_FnSpanSame.l0 : Nat → List (List Int) → List (List Int) → Bool → Bool → Int → Option (Bool)
  | 0, _, _, _, _, _ => none
  | k + 1, x3, x4, x5, x6, x7 => if x7 < (x3.length : Int) then (if x6 = true then (if 0 ≤ x7 then ((impl_SpanHas.f k x4 (rd_L1 x3 x7)).bind fun t587 => (laws_FnSpanSame.l0 k x3 x4 x5 t587 (wrap64 (x7 + 1)))) else (none)) else (laws_FnSpanSame.l0 k x3 x4 x5 false (wrap64 (x7 + 1)))) else (laws_FnSpanSame.l1 k x3 x4 x5 x6 0)
def laws_FnSpanSame.l1 : Nat → List (List Int) → List (List Int) → Bool → Bool → Int → Option (Bool)
  | 0, _, _, _, _, _ => none
  | k + 1, x3, x4, x5, x6, x8 => if x8 < (x4.length : Int) then (if x6 = true then (if 0 ≤ x8 then ((impl_SpanHas.f k x3 (rd_L1 x4 x8)).bind fun t589 => (laws_FnSpanSame.l1 k x3 x4 x5 t589 (wrap64 (x8 + 1)))) else (none)) else (laws_FnSpanSame.l1 k x3 x4 x5 false (wrap64 (x8 + 1)))) else (if (x5 == x6) = true then ((impl_SpanTidy.f k x3).bind fun t590 => ((impl_SpanTidy.f k x4).bind fun t593 => ((laws_lkRows.f k t590 t593).bind fun t596 => (some (x5 == t596))))) else (some false))
end
def laws_FnSpanSame.f (k : Nat) (l0 : List Int) : Option (Bool) := if (l0.length : Int) > 1048576 then (some true) else ((spec_DrawSpanSame.f k l0).bind fun bt575 => ((impl_SpanSame.f k bt575.1 bt575.2).bind fun t581 => ((spec_SpanSame.f k bt575.1 bt575.2).bind fun t582 => (if (t581 != t582) = true then (laws_FnSpanSame.j0 k bt575.1 bt575.2 t581 true) else ((spec_SpanOk.f k bt575.1).bind fun t583 => (if t583 = true then ((spec_SpanOk.f k bt575.2).bind fun t584 => (laws_FnSpanSame.j0 k bt575.1 bt575.2 t581 (!t584))) else (laws_FnSpanSame.j0 k bt575.1 bt575.2 t581 true)))))))
set_option maxHeartbeats 8000000 in
set_option maxRecDepth 100000 in
theorem laws_FnSpanSame.calls (k : Nat) (A0 : Option Addr) (c0 : Nat) (l0 : List Int) (r : Bool) (w : World) (hr0 : Kd.C (Kd.int .u8) w A0 l0.length l0) (hc0 : l0.length ≤ c0) (h : laws_FnSpanSame.f k l0 = some r) :
  Calls Try.prog 11 #[.slice A0 l0.length c0] w fun e w' => e = .returned (.bool r) ∧ Below w.heap.size w w' := by
 have HR0 := Aside0.mk hr0
 have HC0 := Aside0.mk hc0
 clear hr0 hc0
 have HB := Aside0.mk (Below.refl w.heap.size w)
 have H : (if (l0.length : Int) > 1048576 then (some true) else ((spec_DrawSpanSame.f k l0).bind fun bt575 => ((impl_SpanSame.f k bt575.1 bt575.2).bind fun t581 => ((spec_SpanSame.f k bt575.1 bt575.2).bind fun t582 => (if (t581 != t582) = true then (laws_FnSpanSame.j0 k bt575.1 bt575.2 t581 true) else ((spec_SpanOk.f k bt575.1).bind fun t583 => (if t583 = true then ((spec_SpanOk.f k bt575.2).bind fun t584 => (laws_FnSpanSame.j0 k bt575.1 bt575.2 t581 (!t584))) else (laws_FnSpanSame.j0 k bt575.1 bt575.2 t581 true)))))))) = some r := h
 clear h
 by_cases c2 : (l0.length : Int) > 1048576
 ·rw [if_pos c2] at H
  have c2b0 : decide (1048576 < (l0.length : Int)) = true := decide_eq_true c2
  have c2b1 : decide (1048576 < l0.length) = true := decide_eq_true (by omega)
  clear c2
  obtain rfl := Option.some.inj H
  go_enter Try.func11, Try.ntmps11
  go_wp2
  go_ret
  exact ⟨z18_7, z18_0⟩
 ·rw [if_neg c2] at H
  have c2b0 : decide (1048576 < (l0.length : Int)) = false := decide_eq_false c2
  have c2b1 : decide (1048576 < l0.length) = false := decide_eq_false (by omega)
  clear c2
  replace H := Option.bind_eq_some_iff.mp H
  obtain ⟨⟨t575, t578⟩, A30, H⟩ := H
  replace H : ((impl_SpanSame.f k t575 t578).bind fun t581 => ((spec_SpanSame.f k t575 t578).bind fun t582 => (if (t581 != t582) = true then (laws_FnSpanSame.j0 k t575 t578 t581 true) else ((spec_SpanOk.f k t575).bind fun t583 => (if t583 = true then ((spec_SpanOk.f k t578).bind fun t584 => (laws_FnSpanSame.j0 k t575 t578 t581 (!t584))) else (laws_FnSpanSame.j0 k t575 t578 t581 true)))))) = some r := H
  have A3 := Aside0.mk A30
  clear A30
  replace H := Option.bind_eq_some_iff.mp H
  obtain ⟨t581, A40, H⟩ := H
  replace H : ((spec_SpanSame.f k t575 t578).bind fun t582 => (if (t581 != t582) = true then (laws_FnSpanSame.j0 k t575 t578 t581 true) else ((spec_SpanOk.f k t575).bind fun t583 => (if t583 = true then ((spec_SpanOk.f k t578).bind fun t584 => (laws_FnSpanSame.j0 k t575 t578 t581 (!t584))) else (laws_FnSpanSame.j0 k t575 t578 t581 true))))) = some r := H
  have A4 := Aside0.mk A40
  clear A40
  have HC5 := Aside0.mk H
  clear H
  go_enter Try.func11, Try.ntmps11
  go_upto_region 5 with (first | ((with_reducible refine gate_callee (f := 41) rfl ?_); refine goesL_ (some 14) rfl rfl Try.func41 (by kernel_rfl) rfl #[.slice A0 l0.length c0] rfl z18_3 ?_; (with_reducible refine (spec_DrawSpanSame.calls k _ _ l0 t575 t578 _ ?side1 ?side2 A3.out).mono ?_); (case side1 => exact cZ (HR0.out)); (case side2 => exact HC0.out); rintro e w6 ⟨v576, v579, rfl, ho0, ho1, hb⟩; refine ⟨_, rfl, ?_⟩; have HO577 := Aside0.mk (Kd.N_lower (Kd.N_mono (ok' := fun k_ => some k_ ≠ (v579 : Value).ownBlock) ho0 (fun k_ hk_ => hk_.2)) (below_size z18_0)); have HO580 := Aside0.mk (Kd.N_lower (Kd.N_mono (ok' := fun k_ => some k_ ≠ (v576 : Value).ownBlock) ho1 (fun k_ hk_ => hk_.2)) (below_size z18_0)); replace HB := Aside0.mk (below_step z18_0 hb); (try clear hb); (try clear ho0); (try clear ho1); obtain ⟨Ao7, co7, eo7⟩ := Kd.N_slice HO577.out; subst eo7; (try simp only [clip_slice]); obtain ⟨Ao8, co8, eo8⟩ := Kd.N_slice HO580.out; subst eo8; (try simp only [clip_slice])) | ((with_reducible refine gate_callee (f := 32) rfl ?_); refine goesL_ (some 19) rfl rfl Try.func32 (by kernel_rfl) rfl #[.slice Ao7 t575.length co7, .slice Ao8 t578.length co8] rfl z18_3 ?_; (with_reducible refine (impl_SpanSame.calls k _ _ t575 _ _ t578 t581 _ ?side1 ?side2 ?side3 ?side4 A4.out).mono ?_); (case side1 => exact cZ ((Kd.N_reads' HO577.out).2.2)); (case side2 => first | exact (Kd.N_reads' HO577.out).2.1 | exact Nat.le_refl _); (case side3 => exact cZ ((Kd.N_reads' HO580.out).2.2)); (case side4 => first | exact (Kd.N_reads' HO580.out).2.1 | exact Nat.le_refl _); rintro e w9 ⟨rfl, hb⟩; refine ⟨_, rfl, ?_⟩; replace HO577 := Aside0.mk (Kd.N_below z18_5 hb); replace HO580 := Aside0.mk (Kd.N_below z18_6 hb); replace HB := Aside0.mk (below_step z18_0 hb); (try clear hb)))
  (try simp only [Act.put, List.setIfInBounds_toArray, List.set_cons_zero, List.set_cons_succ])
  go_cut [34] (fun v34 wc => ∃ (kq : Nat) (x34_4 : Bool), v34 = .bool x34_4 ∧ Aside0 (laws_FnSpanSame.j0 kq t575 t578 t581 x34_4 = some r) ∧ Aside0 (kq ≤ k) ∧ Aside0 (Kd.N (Kd.slice 3 (Kd.int .i64)) 28 wc w.heap.size (fun k_ => some k_ ≠ ((.slice Ao8 t578.length co8) : Value).ownBlock) (.slice Ao7 t575.length co7) t575) ∧ Aside0 (Kd.N (Kd.slice 3 (Kd.int .i64)) 28 wc w.heap.size (fun k_ => some k_ ≠ ((.slice Ao7 t575.length co7) : Value).ownBlock) (.slice Ao8 t578.length co8) t578) ∧ Aside0 (Below w.heap.size w wc))
  case first =>
   have H := HC5.out
   clear HC5
   replace H := Option.bind_eq_some_iff.mp H
   obtain ⟨t582, A100, H⟩ := H
   replace H : (if (t581 != t582) = true then (laws_FnSpanSame.j0 k t575 t578 t581 true) else ((spec_SpanOk.f k t575).bind fun t583 => (if t583 = true then ((spec_SpanOk.f k t578).bind fun t584 => (laws_FnSpanSame.j0 k t575 t578 t581 (!t584))) else (laws_FnSpanSame.j0 k t575 t578 t581 true)))) = some r := H
   have A10 := Aside0.mk A100
   clear A100
   by_cases c11 : (t581 != t582) = true
   ·rw [if_pos c11] at H
    have c11b0 : (t581 != t582) = true := c11
    (try (have c11b1 : decide (t581 = t582) = false := by simpa using c11))
    (try (have c11b2 : (t581 == t582) = false := by simpa using c11))
    (try (have c11b3 : ¬ (t581 = t582) := by simpa using c11))
    clear c11
    (first | rw [c11b0] | (simp only [i64_w, i32_w]; rw [c11b0]) | skip)
    have H' := Aside0.mk H
    clear H
    go_wp2_with (first | ((with_reducible refine gate_callee (f := 31) rfl ?_); refine goesL_ (some 23) rfl rfl Try.func31 (by kernel_rfl) rfl #[.slice Ao7 t575.length co7, .slice Ao8 t578.length co8] rfl z18_3 ?_; (with_reducible refine (spec_SpanSame.calls k _ _ t575 _ _ t578 t582 _ ?side1 ?side2 ?side3 ?side4 A10.out).mono ?_); (case side1 => exact cZ ((Kd.N_reads' HO577.out).2.2)); (case side2 => first | exact (Kd.N_reads' HO577.out).2.1 | exact Nat.le_refl _); (case side3 => exact cZ ((Kd.N_reads' HO580.out).2.2)); (case side4 => first | exact (Kd.N_reads' HO580.out).2.1 | exact Nat.le_refl _); rintro e w12 ⟨rfl, hb⟩; refine ⟨_, rfl, ?_⟩; replace HO577 := Aside0.mk (Kd.N_below z18_5 hb); replace HO580 := Aside0.mk (Kd.N_below z18_6 hb); replace HB := Aside0.mk (below_step z18_0 hb); (try clear hb)))
    go_meet
    case rel => exact ⟨_, (true), z18_4, H', ⟨by first | omega | exact Nat.le_refl _⟩, ⟨z18_5⟩, ⟨z18_6⟩, ⟨z18_0⟩⟩
   ·rw [if_neg c11] at H
    have c11b0 : (t581 != t582) = false := by simpa using c11
    (try (have c11b1 : decide (t581 = t582) = true := by simpa using c11))
    (try (have c11b2 : (t581 == t582) = true := by simpa using c11))
    clear c11
    (first | rw [c11b0] | (simp only [i64_w, i32_w]; rw [c11b0]) | skip)
    replace H := Option.bind_eq_some_iff.mp H
    obtain ⟨t583, A130, H⟩ := H
    replace H : (if t583 = true then ((spec_SpanOk.f k t578).bind fun t584 => (laws_FnSpanSame.j0 k t575 t578 t581 (!t584))) else (laws_FnSpanSame.j0 k t575 t578 t581 true)) = some r := H
    have A13 := Aside0.mk A130
    clear A130
    by_cases c14 : t583 = true
    ·subst c14
     have H1 : ((spec_SpanOk.f k t578).bind fun t584 => (laws_FnSpanSame.j0 k t575 t578 t581 (!t584))) = some r := by rw [if_pos rfl] at H; exact H
     clear H
     have H := H1
     clear H1
     replace H := Option.bind_eq_some_iff.mp H
     obtain ⟨t584, A150, H⟩ := H
     replace H : (laws_FnSpanSame.j0 k t575 t578 t581 (!t584)) = some r := H
     have A15 := Aside0.mk A150
     clear A150
     have H' := Aside0.mk H
     clear H
     go_wp2_with (first | ((with_reducible refine gate_callee (f := 31) rfl ?_); refine goesL_ (some 23) rfl rfl Try.func31 (by kernel_rfl) rfl #[.slice Ao7 t575.length co7, .slice Ao8 t578.length co8] rfl z18_3 ?_; (with_reducible refine (spec_SpanSame.calls k _ _ t575 _ _ t578 t582 _ ?side1 ?side2 ?side3 ?side4 A10.out).mono ?_); (case side1 => exact cZ ((Kd.N_reads' HO577.out).2.2)); (case side2 => first | exact (Kd.N_reads' HO577.out).2.1 | exact Nat.le_refl _); (case side3 => exact cZ ((Kd.N_reads' HO580.out).2.2)); (case side4 => first | exact (Kd.N_reads' HO580.out).2.1 | exact Nat.le_refl _); rintro e w16 ⟨rfl, hb⟩; refine ⟨_, rfl, ?_⟩; replace HO577 := Aside0.mk (Kd.N_below z18_5 hb); replace HO580 := Aside0.mk (Kd.N_below z18_6 hb); replace HB := Aside0.mk (below_step z18_0 hb); (try clear hb)) | (go_at_call 38; (with_reducible refine (spec_SpanOk.calls k _ _ t575 true _ ?side1 ?side2 A13.out).mono ?_); (case side1 => exact cZ ((Kd.N_reads' HO577.out).2.2)); (case side2 => first | exact (Kd.N_reads' HO577.out).2.1 | exact Nat.le_refl _); rintro e w' ⟨rfl, ⟨nd, rfl⟩⟩) | (go_at_call 38; (with_reducible refine (spec_SpanOk.calls k _ _ t578 t584 _ ?side1 ?side2 A15.out).mono ?_); (case side1 => exact cZ ((Kd.N_reads' HO580.out).2.2)); (case side2 => first | exact (Kd.N_reads' HO580.out).2.1 | exact Nat.le_refl _); rintro e w' ⟨rfl, ⟨nd, rfl⟩⟩))
     go_meet
     case rel => exact ⟨_, (!t584), z18_4, H', ⟨by first | omega | exact Nat.le_refl _⟩, ⟨z18_5⟩, ⟨z18_6⟩, ⟨z18_0⟩⟩
    ·replace c14 := Bool.eq_false_iff.mpr c14
     subst c14
     have H1 : (laws_FnSpanSame.j0 k t575 t578 t581 true) = some r := by rw [if_neg (show ¬ (false = true) by decide)] at H; exact H
     clear H
     have H := H1
     clear H1
     have H' := Aside0.mk H
     clear H
     go_wp2_with (first | ((with_reducible refine gate_callee (f := 31) rfl ?_); refine goesL_ (some 23) rfl rfl Try.func31 (by kernel_rfl) rfl #[.slice Ao7 t575.length co7, .slice Ao8 t578.length co8] rfl z18_3 ?_; (with_reducible refine (spec_SpanSame.calls k _ _ t575 _ _ t578 t582 _ ?side1 ?side2 ?side3 ?side4 A10.out).mono ?_); (case side1 => exact cZ ((Kd.N_reads' HO577.out).2.2)); (case side2 => first | exact (Kd.N_reads' HO577.out).2.1 | exact Nat.le_refl _); (case side3 => exact cZ ((Kd.N_reads' HO580.out).2.2)); (case side4 => first | exact (Kd.N_reads' HO580.out).2.1 | exact Nat.le_refl _); rintro e w17 ⟨rfl, hb⟩; refine ⟨_, rfl, ?_⟩; replace HO577 := Aside0.mk (Kd.N_below z18_5 hb); replace HO580 := Aside0.mk (Kd.N_below z18_6 hb); replace HB := Aside0.mk (below_step z18_0 hb); (try clear hb)) | (go_at_call 38; (with_reducible refine (spec_SpanOk.calls k _ _ t575 false _ ?side1 ?side2 A13.out).mono ?_); (case side1 => exact cZ ((Kd.N_reads' HO577.out).2.2)); (case side2 => first | exact (Kd.N_reads' HO577.out).2.1 | exact Nat.le_refl _); rintro e w' ⟨rfl, ⟨nd, rfl⟩⟩))
     go_meet
     case rel => exact ⟨_, (true), z18_4, H', ⟨by first | omega | exact Nat.le_refl _⟩, ⟨z18_5⟩, ⟨z18_6⟩, ⟨z18_0⟩⟩
  case rest =>
   clear HC5
   try clear c2
   try clear c2b0
   try clear c2b1
   obtain ⟨kq, x34_4, rfl, HA, HJ4, HO_3, HO_4, HB⟩ := hcut
   cases kq with
   | zero => exact absurd HA.out (by simp [laws_FnSpanSame.j0])
   | succ kj4 =>
    have H := HA.out
    clear HA
    simp only [laws_FnSpanSame.j0] at H
    by_cases c18 : x34_4 = true
    ·subst c18
     have H1 : ((spec_SpanSame.f kj4 t575 t578).bind fun t585 => (some (t581 == t585))) = some r := by rw [if_pos rfl] at H; exact H
     clear H
     have H := H1
     clear H1
     replace H := Option.bind_eq_some_iff.mp H
     obtain ⟨t585, A190, H⟩ := H
     replace H : (some (t581 == t585)) = some r := H
     have A19 := Aside0.mk A190
     clear A190
     obtain rfl := Option.some.inj H
     go_wp2_with (first | ((with_reducible refine gate_callee (f := 31) rfl ?_); refine goesL_ (some 38) rfl rfl Try.func31 (by kernel_rfl) rfl #[.slice Ao7 t575.length co7, .slice Ao8 t578.length co8] rfl z18_3 ?_; (with_reducible refine (spec_SpanSame.calls kj4 _ _ t575 _ _ t578 t585 _ ?side1 ?side2 ?side3 ?side4 A19.out).mono ?_); (case side1 => exact cZ ((Kd.N_reads' HO_3.out).2.2)); (case side2 => first | exact (Kd.N_reads' HO_3.out).2.1 | exact Nat.le_refl _); (case side3 => exact cZ ((Kd.N_reads' HO_4.out).2.2)); (case side4 => first | exact (Kd.N_reads' HO_4.out).2.1 | exact Nat.le_refl _); rintro e w20 ⟨rfl, hb⟩; refine ⟨_, rfl, ?_⟩; replace HO_3 := Aside0.mk (Kd.N_below z18_1 hb); replace HO_4 := Aside0.mk (Kd.N_below z18_2 hb); replace HB := Aside0.mk (below_step z18_0 hb); (try clear hb)))
     go_ret
     exact ⟨z18_7, z18_0⟩
    ·replace c18 := Bool.eq_false_iff.mpr c18
     subst c18
     have H1 : (laws_FnSpanSame.l0 kj4 t575 t578 t581 true 0) = some r := by rw [if_neg (show ¬ (false = true) by decide)] at H; exact H
     clear H
     have H := H1
     clear H1
     have H' := Aside0.mk H
     clear H
     go_wp2
     go_loopg [6, 7] kj4 (fun kq v6 v7 w' => ∃ (x6_2 : Bool) (x7_2 : Int), v6 = .bool x6_2 ∧ v7 = .int .i64 x7_2 ∧ Aside0 (laws_FnSpanSame.l0 kq t575 t578 t581 x6_2 x7_2 = some r) ∧ Aside0 (kq ≤ kj4) ∧ Aside0 (Kd.N (Kd.slice 3 (Kd.int .i64)) 28 w' w.heap.size (fun k_ => some k_ ≠ ((.slice Ao8 t578.length co8) : Value).ownBlock) (.slice Ao7 t575.length co7) t575) ∧ Aside0 (Kd.N (Kd.slice 3 (Kd.int .i64)) 28 w' w.heap.size (fun k_ => some k_ ≠ ((.slice Ao7 t575.length co7) : Value).ownBlock) (.slice Ao8 t578.length co8) t578) ∧ Aside0 (Below w.heap.size w w'))
     case atStart => exact ⟨(true), (0), z18_4, z18_4, H', ⟨Nat.le_refl _⟩, ⟨z18_1⟩, ⟨z18_2⟩, ⟨z18_0⟩⟩
     case round =>
      clear H'
      try clear c2
      try clear c2b0
      try clear c2b1
      try clear c18
      obtain ⟨x6_2, x7_2, rfl, rfl, HA, HK2, HO_3, HO_4, HB⟩ := hrel
      cases gk with
      | zero => exact absurd HA.out (by simp [laws_FnSpanSame.l0])
      | succ k2 =>
       have H := HA.out
       clear HA
       simp only [laws_FnSpanSame.l0] at H
       by_cases c21 : x7_2 < (t575.length : Int)
       ·rw [if_pos c21] at H
        have c21b0 : decide (x7_2 < (t575.length : Int)) = true := decide_eq_true c21
        clear c21
        by_cases c22 : x6_2 = true
        ·subst c22
         have H1 : (if 0 ≤ x7_2 then ((impl_SpanHas.f k2 t578 (rd_L1 t575 x7_2)).bind fun t587 => (laws_FnSpanSame.l0 k2 t575 t578 t581 t587 (wrap64 (x7_2 + 1)))) else (none)) = some r := by rw [if_pos rfl] at H; exact H
         clear H
         have H := H1
         clear H1
         obtain ⟨c23, H⟩ := ifP H
         have c23b0 : decide (0 ≤ x7_2) = true := decide_eq_true c23
         clear c23
         replace H := Option.bind_eq_some_iff.mp H
         obtain ⟨t587, A240, H⟩ := H
         replace H : (laws_FnSpanSame.l0 k2 t575 t578 t581 t587 (wrap64 (x7_2 + 1))) = some r := H
         have A24 := Aside0.mk A240
         clear A240
         have H' := Aside0.mk H
         clear H
         have p586 : 0 ≤ (x7_2 : Int) := of_decide_eq_true z18_8
         have q586 : x7_2 < (t575.length : Int) := of_decide_eq_true z18_8
         obtain ⟨ad586, A586_0, c586_0, e586, hx586_0, hl586_0, hi586_0⟩ := at_L1 (Kd.N_reads' HO_3.out).2.2 x7_2 p586 q586
         cases e586
         obtain ⟨ce586, hce586, hMe586, hcc586⟩ := Kd.N_get HO_3.out [] x7_2 p586 (by first | exact q586 | exact of_decide_eq_true z18_8 | (have e_ := (Kd.N_reads' HO_3.out).1; omega))
         obtain ⟨ua586_0, uc586_0, rfl, ul586_0, ge586_0⟩ := Kd.FK_slice_open hMe586
         have hv586_0 := hcc586 0 _ rfl
         rw [Nat.add_zero, show ((Kd.slice 3 (Kd.int .i64))).sz = 1 from rfl, Nat.mul_one] at hv586_0
         replace hv586_0 := Option.some.inj (hv586_0.symm.trans hx586_0)
         injection hv586_0 with hva_ hvn_ hvc_
         rw [hva_] at ge586_0
         rw [hvc_] at ul586_0
         have HL586_0 := Aside0.mk (show Kd.V (Kd.int .i64) 3 _ w.heap.size _ _ (rd_L1 t575 x7_2) from Kd.V_mk ul586_0 ge586_0)
         clear hva_ hvn_ hvc_ ge586_0 ul586_0
         clear hcc586 hce586
         have HR586_0 := Aside0.mk hi586_0
         have HC586_0 := Aside0.mk hl586_0
         clear hi586_0 hl586_0
         replace p586 := eq_true p586
         replace q586 := eq_true q586
         go_wp2_with (first | (go_at_call 22; (with_reducible refine (impl_SpanHas.calls k2 _ _ t578 _ _ (rd_L1 t575 x7_2) t587 _ ?side1 ?side2 ?side3 ?side4 A24.out).mono ?_); (case side1 => exact cZ ((Kd.N_reads' HO_4.out).2.2)); (case side2 => first | exact (Kd.N_reads' HO_4.out).2.1 | exact Nat.le_refl _); (case side3 => repeat (first | exact z18_10 | (with_reducible refine Kd.C_alloc ?_ _) | (with_reducible refine Kd.C_drewN ?_ _) | (with_reducible refine Kd.C_drew ?_))); (case side4 => exact HC586_0.out); rintro e w25 ⟨rfl, hb⟩; replace HO_3 := Aside0.mk (Kd.N_below z18_1 hb); replace HO_4 := Aside0.mk (Kd.N_below z18_2 hb); replace HL586_0 := Aside0.mk (Kd.V_below (by (with_reducible repeat (first | apply Kd.V_alloc | apply Kd.V_drewN | apply Kd.V_drew)); exact HL586_0.out) hb); replace HR586_0 := Aside0.mk (Kd.C_below z18_10 hb); replace HB := Aside0.mk (below_step z18_0 hb); (try clear hb)))
         go_roundg k2
         case measure => have := HJ4.out; have := HK2.out; omega
         case rel => exact ⟨(t587), (wrap64 (x7_2 + 1)), z18_4, z18_4, H', ⟨by have := HJ4.out; have := HK2.out; omega⟩, ⟨z18_1⟩, ⟨z18_2⟩, ⟨z18_0⟩⟩
        ·replace c22 := Bool.eq_false_iff.mpr c22
         subst c22
         have H1 : (laws_FnSpanSame.l0 k2 t575 t578 t581 false (wrap64 (x7_2 + 1))) = some r := by rw [if_neg (show ¬ (false = true) by decide)] at H; exact H
         clear H
         have H := H1
         clear H1
         have H' := Aside0.mk H
         clear H
         go_wp2
         go_roundg k2
         case measure => have := HJ4.out; have := HK2.out; omega
         case rel => exact ⟨(false), (wrap64 (x7_2 + 1)), z18_4, z18_4, H', ⟨by have := HJ4.out; have := HK2.out; omega⟩, ⟨z18_1⟩, ⟨z18_2⟩, ⟨z18_0⟩⟩
       ·rw [if_neg c21] at H
        have c21b0 : decide (x7_2 < (t575.length : Int)) = false := decide_eq_false c21
        clear c21
        have H' := Aside0.mk H
        clear H
        go_wp2
        go_loopg [6, 8] k2 (fun kq v6 v8 w' => ∃ (x6_3 : Bool) (x8_3 : Int), v6 = .bool x6_3 ∧ v8 = .int .i64 x8_3 ∧ Aside0 (laws_FnSpanSame.l1 kq t575 t578 t581 x6_3 x8_3 = some r) ∧ Aside0 (kq ≤ k2) ∧ Aside0 (Kd.N (Kd.slice 3 (Kd.int .i64)) 28 w' w.heap.size (fun k_ => some k_ ≠ ((.slice Ao8 t578.length co8) : Value).ownBlock) (.slice Ao7 t575.length co7) t575) ∧ Aside0 (Kd.N (Kd.slice 3 (Kd.int .i64)) 28 w' w.heap.size (fun k_ => some k_ ≠ ((.slice Ao7 t575.length co7) : Value).ownBlock) (.slice Ao8 t578.length co8) t578) ∧ Aside0 (Below w.heap.size w w'))
        case atStart => exact ⟨(x6_2), (0), z18_4, z18_4, H', ⟨Nat.le_refl _⟩, ⟨z18_1⟩, ⟨z18_2⟩, ⟨z18_0⟩⟩
        case round =>
         clear H'
         try clear c2
         try clear c2b0
         try clear c2b1
         try clear c18
         try clear c21
         try clear c21b0
         obtain ⟨x6_3, x8_3, rfl, rfl, HA, HK3, HO_3, HO_4, HB⟩ := hrel
         cases gk with
         | zero => exact absurd HA.out (by simp [laws_FnSpanSame.l1])
         | succ k3 =>
          have H := HA.out
          clear HA
          simp only [laws_FnSpanSame.l1] at H
          by_cases c26 : x8_3 < (t578.length : Int)
          ·rw [if_pos c26] at H
           have c26b0 : decide (x8_3 < (t578.length : Int)) = true := decide_eq_true c26
           clear c26
           by_cases c27 : x6_3 = true
           ·subst c27
            have H1 : (if 0 ≤ x8_3 then ((impl_SpanHas.f k3 t575 (rd_L1 t578 x8_3)).bind fun t589 => (laws_FnSpanSame.l1 k3 t575 t578 t581 t589 (wrap64 (x8_3 + 1)))) else (none)) = some r := by rw [if_pos rfl] at H; exact H
            clear H
            have H := H1
            clear H1
            obtain ⟨c28, H⟩ := ifP H
            have c28b0 : decide (0 ≤ x8_3) = true := decide_eq_true c28
            clear c28
            replace H := Option.bind_eq_some_iff.mp H
            obtain ⟨t589, A290, H⟩ := H
            replace H : (laws_FnSpanSame.l1 k3 t575 t578 t581 t589 (wrap64 (x8_3 + 1))) = some r := H
            have A29 := Aside0.mk A290
            clear A290
            have H' := Aside0.mk H
            clear H
            have p588 : 0 ≤ (x8_3 : Int) := of_decide_eq_true z18_8
            have q588 : x8_3 < (t578.length : Int) := of_decide_eq_true z18_8
            obtain ⟨ad588, A588_0, c588_0, e588, hx588_0, hl588_0, hi588_0⟩ := at_L1 (Kd.N_reads' HO_4.out).2.2 x8_3 p588 q588
            cases e588
            obtain ⟨ce588, hce588, hMe588, hcc588⟩ := Kd.N_get HO_4.out [] x8_3 p588 (by first | exact q588 | exact of_decide_eq_true z18_8 | (have e_ := (Kd.N_reads' HO_4.out).1; omega))
            obtain ⟨ua588_0, uc588_0, rfl, ul588_0, ge588_0⟩ := Kd.FK_slice_open hMe588
            have hv588_0 := hcc588 0 _ rfl
            rw [Nat.add_zero, show ((Kd.slice 3 (Kd.int .i64))).sz = 1 from rfl, Nat.mul_one] at hv588_0
            replace hv588_0 := Option.some.inj (hv588_0.symm.trans hx588_0)
            injection hv588_0 with hva_ hvn_ hvc_
            rw [hva_] at ge588_0
            rw [hvc_] at ul588_0
            have HL588_0 := Aside0.mk (show Kd.V (Kd.int .i64) 3 _ w.heap.size _ _ (rd_L1 t578 x8_3) from Kd.V_mk ul588_0 ge588_0)
            clear hva_ hvn_ hvc_ ge588_0 ul588_0
            clear hcc588 hce588
            have HR588_0 := Aside0.mk hi588_0
            have HC588_0 := Aside0.mk hl588_0
            clear hi588_0 hl588_0
            replace p588 := eq_true p588
            replace q588 := eq_true q588
            go_wp2_with (first | (go_at_call 22; (with_reducible refine (impl_SpanHas.calls k3 _ _ t575 _ _ (rd_L1 t578 x8_3) t589 _ ?side1 ?side2 ?side3 ?side4 A29.out).mono ?_); (case side1 => exact cZ ((Kd.N_reads' HO_3.out).2.2)); (case side2 => first | exact (Kd.N_reads' HO_3.out).2.1 | exact Nat.le_refl _); (case side3 => repeat (first | exact z18_11 | (with_reducible refine Kd.C_alloc ?_ _) | (with_reducible refine Kd.C_drewN ?_ _) | (with_reducible refine Kd.C_drew ?_))); (case side4 => exact HC588_0.out); rintro e w30 ⟨rfl, hb⟩; replace HO_3 := Aside0.mk (Kd.N_below z18_1 hb); replace HO_4 := Aside0.mk (Kd.N_below z18_2 hb); replace HL588_0 := Aside0.mk (Kd.V_below (by (with_reducible repeat (first | apply Kd.V_alloc | apply Kd.V_drewN | apply Kd.V_drew)); exact HL588_0.out) hb); replace HR588_0 := Aside0.mk (Kd.C_below z18_11 hb); replace HB := Aside0.mk (below_step z18_0 hb); (try clear hb)))
            go_roundg k3
            case measure => have := HJ4.out; have := HK2.out; have := HK3.out; omega
            case rel => exact ⟨(t589), (wrap64 (x8_3 + 1)), z18_4, z18_4, H', ⟨by have := HJ4.out; have := HK2.out; have := HK3.out; omega⟩, ⟨z18_1⟩, ⟨z18_2⟩, ⟨z18_0⟩⟩
           ·replace c27 := Bool.eq_false_iff.mpr c27
            subst c27
            have H1 : (laws_FnSpanSame.l1 k3 t575 t578 t581 false (wrap64 (x8_3 + 1))) = some r := by rw [if_neg (show ¬ (false = true) by decide)] at H; exact H
            clear H
            have H := H1
            clear H1
            have H' := Aside0.mk H
            clear H
            go_wp2
            go_roundg k3
            case measure => have := HJ4.out; have := HK2.out; have := HK3.out; omega
            case rel => exact ⟨(false), (wrap64 (x8_3 + 1)), z18_4, z18_4, H', ⟨by have := HJ4.out; have := HK2.out; have := HK3.out; omega⟩, ⟨z18_1⟩, ⟨z18_2⟩, ⟨z18_0⟩⟩
          ·rw [if_neg c26] at H
           have c26b0 : decide (x8_3 < (t578.length : Int)) = false := decide_eq_false c26
           clear c26
           by_cases c31 : (t581 == x6_3) = true
           ·rw [if_pos c31] at H
            have c31b0 : (t581 == x6_3) = true := c31
            (try (have c31b1 : decide (t581 = x6_3) = true := by simpa using c31))
            (try (have c31b2 : (t581 == x6_3) = true := by simpa using c31))
            clear c31
            replace H := Option.bind_eq_some_iff.mp H
            obtain ⟨t590, A320, H⟩ := H
            replace H : ((impl_SpanTidy.f k3 t578).bind fun t593 => ((laws_lkRows.f k3 t590 t593).bind fun t596 => (some (t581 == t596)))) = some r := H
            have A32 := Aside0.mk A320
            clear A320
            replace H := Option.bind_eq_some_iff.mp H
            obtain ⟨t593, A330, H⟩ := H
            replace H : ((laws_lkRows.f k3 t590 t593).bind fun t596 => (some (t581 == t596))) = some r := H
            have A33 := Aside0.mk A330
            clear A330
            replace H := Option.bind_eq_some_iff.mp H
            obtain ⟨t596, A340, H⟩ := H
            replace H : (some (t581 == t596)) = some r := H
            have A34 := Aside0.mk A340
            clear A340
            obtain rfl := Option.some.inj H
            go_wp2_with (first | (go_at_call 34; (with_reducible refine (impl_SpanTidy.calls k3 _ _ t575 t590 _ ?side1 ?side2 A32.out).mono ?_); (case side1 => exact cZ ((Kd.N_reads' HO_3.out).2.2)); (case side2 => first | exact (Kd.N_reads' HO_3.out).2.1 | exact Nat.le_refl _); rintro e w35 ⟨v591, rfl, ho0, hb⟩; have HO592 := Aside0.mk (Kd.N_lower (Kd.N_mono (ok' := fun k_ => some k_ ≠ (.slice Ao7 t575.length co7 : Value).ownBlock ∧ some k_ ≠ (.slice Ao8 t578.length co8 : Value).ownBlock) (Kd.R_N (Kd.R_bound ho0)) (fun k_ hk_ => ⟨(Kd.fresh' (Kd.N_lt z18_1) k_ hk_.2.1), (Kd.fresh' (Kd.N_lt z18_2) k_ hk_.2.1)⟩)) (below_size z18_0)); replace HO_3 := Aside0.mk (Kd.N_elder' z18_1 z18_9 hb); replace HO_4 := Aside0.mk (Kd.N_elder' z18_2 z18_9 hb); replace HB := Aside0.mk (below_step z18_0 hb); (try clear hb); (try clear ho0)) | (go_at_call 34; (with_reducible refine (impl_SpanTidy.calls k3 _ _ t578 t593 _ ?side1 ?side2 A33.out).mono ?_); (case side1 => exact cZ ((Kd.N_reads' HO_4.out).2.2)); (case side2 => first | exact (Kd.N_reads' HO_4.out).2.1 | exact Nat.le_refl _); rintro e w36 ⟨v594, rfl, ho0, hb⟩; have HO595 := Aside0.mk (Kd.N_lower (Kd.N_mono (ok' := fun k_ => some k_ ≠ (.slice Ao7 t575.length co7 : Value).ownBlock ∧ some k_ ≠ (.slice Ao8 t578.length co8 : Value).ownBlock ∧ some k_ ≠ (v591 : Value).ownBlock) (Kd.R_N (Kd.R_bound ho0)) (fun k_ hk_ => ⟨(Kd.fresh' (Kd.N_lt z18_1) k_ hk_.2.1), (Kd.fresh' (Kd.N_lt z18_2) k_ hk_.2.1), (Kd.fresh' (Kd.N_lt (by (with_reducible repeat (first | apply Kd.N_alloc | apply Kd.N_drewN | apply Kd.N_drew)); exact HO592.out)) k_ hk_.2.1)⟩)) (below_size z18_0)); replace HO_3 := Aside0.mk (Kd.N_elder' z18_1 z18_9 hb); replace HO_4 := Aside0.mk (Kd.N_elder' z18_2 z18_9 hb); replace HO592 := Aside0.mk (Kd.N_elder' (by (with_reducible repeat (first | apply Kd.N_alloc | apply Kd.N_drewN | apply Kd.N_drew)); exact HO592.out) z18_9 hb); replace HB := Aside0.mk (below_step z18_0 hb); (try clear hb); (try clear ho0); obtain ⟨Ao37, co37, eo37⟩ := Kd.N_slice HO592.out; subst eo37; (try simp only [clip_slice]); obtain ⟨Ao38, co38, eo38⟩ := Kd.N_slice HO595.out; subst eo38; (try simp only [clip_slice])) | (go_at_call 40; (with_reducible refine (laws_lkRows.calls k3 _ _ t590 _ _ t593 t596 _ ?side1 ?side2 ?side3 ?side4 A34.out).mono ?_); (case side1 => exact cZ ((Kd.N_reads' HO592.out).2.2)); (case side2 => first | exact (Kd.N_reads' HO592.out).2.1 | exact Nat.le_refl _); (case side3 => exact cZ ((Kd.N_reads' HO595.out).2.2)); (case side4 => first | exact (Kd.N_reads' HO595.out).2.1 | exact Nat.le_refl _); rintro e w' ⟨rfl, ⟨nd, rfl⟩⟩))
            go_ret
            exact ⟨z18_7, z18_0⟩
           ·rw [if_neg c31] at H
            have c31b0 : (t581 == x6_3) = false := by simpa using c31
            (try (have c31b1 : decide (t581 = x6_3) = false := by simpa using c31))
            (try (have c31b2 : (t581 == x6_3) = false := by simpa using c31))
            (try (have c31b3 : ¬ (t581 = x6_3) := by simpa using c31))
            clear c31
            obtain rfl := Option.some.inj H
            go_wp2
            go_ret
            exact ⟨z18_7, z18_0⟩

/-- THE ONE PURE STATEMENT of laws_FnSpanSame: yours. -/
def laws_FnSpanSame.Pure : Prop := ∀ (l0 : List Int), l0.length ≤ maxLen → l0.length * 1 ≤ 140737488351232 → (∀ x ∈ l0, (Lit.int .u8 x).wf = true) → ∃ k, laws_FnSpanSame.f k l0 = some true
theorem laws_FnSpanSame.walk (P : laws_FnSpanSame.Pure) (a0 : Option Addr) (len0 cap0 : Nat) (z0 : List Int) (w : World) (w0 : (a0 = none ∧ len0 = 0 ∧ cap0 = 0 ∧ z0 = []) ∨ ∃ x, a0 = some x ∧ len0 ≤ cap0 ∧ cap0 ≤ maxLen ∧ z0.length = cap0 ∧ (∀ i, i < z0.length → w.cell? (x.add i) = some (.int .u8 (z0.getD i 0))) ∧ ∀ n ∈ z0, (Lit.int .u8 n).wf = true) (y0 : len0 * 1 ≤ 140737488351232) :
    Calls Try.prog 11 #[.slice a0 len0 cap0] w fun e w' => e = .returned (.bool true) ∧ Below w.heap.size w w' := by
  obtain ⟨l0, rfl, hr0, hm0, hw0, hc0⟩ := ReadsInt.ofRowC w0
  obtain ⟨k, h⟩ := P l0 hm0 y0 hw0
  refine (laws_FnSpanSame.calls k _ _ l0 true w (Kd.C_of_reads (d := (0 : Int)) (h1 := fun _ => rfl) hr0) hc0 h).mono ?_
  rintro e w' ⟨rfl, hd⟩
  exact ⟨rfl, hd⟩

end Go.Proofs.Ytbhmgbeebhmfkaa.PA
