-- Written by a program of this session (after the manner of the kit's print, several laws in one text).
import Derived.Test.YtbhmgbeebhmfkaaPAx0
import Derived.Test.YtbhmgbeebhmfkaaPAx8
import Derived.Test.YtbhmgbeebhmfkaaPAx11
import Derived.Test.YtbhmgbeebhmfkaaPAx14
import Derived.Test.YtbhmgbeebhmfkaaPAx17
import Derived.Test.YtbhmgbeebhmfkaaGw
import Derived.Test.YtbhmgbeebhmfkaaGm
import Derived.Test.YtbhmgbeebhmfkaaHf
namespace Go.Proofs.Ytbhmgbeebhmfkaa.PA
open Go.RowKit Go.Proofs.YtbhmgbeebhmfkaaW.PrintWords Go.Proofs.YtbhmgbeebhmfkaaW.PrintLast Go.Proofs.YtbhmgbeebhmfkaaW.PrintMore
attribute [local go_sem] max2_int min2_int max_two min_two max_three min_three max_four min_four   -- for this text's walks alone
set_option linter.unusedVariables false
set_option linter.unusedSimpArgs false

/-! ### laws_FnSpanFirst: function 9 -/
theorem z18_0 {p : Prop} (h : p := by repeat (first | (with_reducible first | exact HB.out | apply below_alloc | apply pw_below_drewN | apply below_drew1) | exact HB.out)) : p := h
theorem z18_1 {p : Prop} (h : p := by (with_reducible repeat (first | apply Kd.R_alloc | apply Kd.R_drewN | apply Kd.R_drew)); exact HO_4.out) : p := h
theorem z18_2 {p : Prop} (h : p := by (with_reducible repeat (first | apply Kd.N_alloc | apply Kd.N_drewN | apply Kd.N_drew)); exact HO_3.out) : p := h
theorem z18_3 {p : Prop} (h : p := by (try simp only [List.map_toArray, List.map_cons, List.map_nil]); first | done | rfl | (simp only [List.length_drop, List.length_take]; rfl)) : p := h
theorem z18_4 {p : Prop} (h : p := by first | (with_reducible assumption) | assumption) : p := h
theorem z18_5 {p : Prop} (h : p := by (with_reducible repeat (first | apply Kd.N_alloc | apply Kd.N_drewN | apply Kd.N_drew)); exact HO_5.out) : p := h
theorem z18_6 {p : Prop} (h : p := by repeat (first | (with_reducible exact HR566_0.out) | (with_reducible refine Kd.C_alloc ?_ _) | (with_reducible refine Kd.C_drewN ?_ _) | (with_reducible refine Kd.C_drew ?_) | exact HR566_0.out)) : p := h
theorem z18_7 {p : Prop} (h : p := by repeat (first | (with_reducible exact HR573_0.out) | (with_reducible refine Kd.C_alloc ?_ _) | (with_reducible refine Kd.C_drewN ?_ _) | (with_reducible refine Kd.C_drew ?_) | exact HR573_0.out)) : p := h
theorem z18_8 {p : Prop} (h : p := by first | rfl | (simp [errW_none, errW_some] <;> rfl) | (simp [*, errW_none, errW_some] <;> rfl)) : p := h
theorem z18_9 {p : Prop} (h : p := by first | rfl | (simp; done) | (simp [*]; done)) : p := h
theorem z18_10 {p : Prop} (h : p := by (with_reducible repeat (first | apply Kd.R_alloc | apply Kd.R_drewN | apply Kd.R_drew)); exact HO542.out) : p := h
theorem z18_11 {p : Prop} (h : p := by (with_reducible repeat (first | apply Kd.N_alloc | apply Kd.N_drewN | apply Kd.N_drew)); exact HO539.out) : p := h
theorem z18_12 {p : Prop} (h : p := by (with_reducible repeat (first | apply Kd.N_alloc | apply Kd.N_drewN | apply Kd.N_drew)); exact HO560.out) : p := h
theorem z18_13 {p : Prop} (h : p := by (with_reducible repeat (first | apply Kd.V_alloc | apply Kd.V_drewN | apply Kd.V_drew)); exact Kd.V_mono HL557_0.out (fun _ hk => ⟨⟨hk.2, hk.1.1⟩, hk.1.2⟩)) : p := h
theorem z18_14 {p : Prop} (h : p := by (with_reducible repeat (first | apply Kd.R_alloc | apply Kd.R_drewN | apply Kd.R_drew)); exact Kd.R_mono HO542.out (fun _ hk => trivial)) : p := h
theorem z18_15 {p : Prop} (h : p := by (with_reducible repeat (first | apply Kd.N_alloc | apply Kd.N_drewN | apply Kd.N_drew)); exact Kd.N_mono HO539.out (fun _ hk => hk.1.2)) : p := h
mutual
def laws_FnSpanFirst.j0 : Nat → List (List Int) → List Int → Bool → Option (Bool)
  | 0, _, _, _ => none
  | k + 1, x3, x4, x25 => if x25 = true then ((spec_SpanFirst.f k x3).bind fun t548 => ((laws_lkInts.f k x4 t548).bind fun t551 => (some t551))) else (laws_FnSpanFirst.l0 k x3 x4 (([] : List (List Int))) 0 0)
def laws_FnSpanFirst.l0 : Nat → List (List Int) → List Int → List (List Int) → Int → Int → Option (Bool)
  | 0, _, _, _, _, _ => none
  | k + 1, x3, x4, x5, x6, x7 => if x7 < (x3.length : Int) then (if x6 < (x4.length : Int) then (if 0 ≤ x6 then (laws_FnSpanFirst.j2 k x3 x4 x5 x6 x7 ((rd x4 x6) == x7)) else (none)) else (laws_FnSpanFirst.j2 k x3 x4 x5 x6 x7 false)) else (if x6 = (x4.length : Int) then ((impl_SpanSame.f k x5 x3).bind fun t555 => (some t555)) else (some false))
def laws_FnSpanFirst.j2 : Nat → List (List Int) → List Int → List (List Int) → Int → Int → Bool → Option (Bool)
  | 0, _, _, _, _, _, _ => none
  | k + 1, x3, x4, x5, x6, x7, x8 => if x8 = true then (if 0 ≤ x7 then (if x7 < (x3.length : Int) then (if x5.length < 5864062014805 then (if x7 ≤ (x3.length : Int) then ((impl_SpanHas.f k (x3.take (x7 : Int).toNat) (rd_L1 x3 x7)).bind fun t567 => (if (x8 == t567) = true then (some false) else (laws_FnSpanFirst.l0 k x3 x4 (x5 ++ [rd_L1 x3 x7]) (wrap64 (x6 + 1)) (wrap64 (x7 + 1))))) else (none)) else (none)) else (none)) else (none)) else (if 0 ≤ x7 then (if x7 ≤ (x3.length : Int) then (if x7 < (x3.length : Int) then ((impl_SpanHas.f k (x3.take (x7 : Int).toNat) (rd_L1 x3 x7)).bind fun t574 => (if (x8 == t574) = true then (some false) else (laws_FnSpanFirst.l0 k x3 x4 x5 x6 (wrap64 (x7 + 1))))) else (none)) else (none)) else (none))
end
def laws_FnSpanFirst.f (k : Nat) (l0 : List Int) : Option (Bool) := if (l0.length : Int) > 1048576 then (some true) else ((spec_DrawSpanFirst.f k l0).bind fun t537 => ((impl_SpanFirst.f t537).bind fun t540 => ((spec_SpanFirst.f k t537).bind fun t543 => ((laws_lkInts.f k t540 t543).bind fun t546 => (if t546 = true then ((spec_SpanOk.f k t537).bind fun t547 => (laws_FnSpanFirst.j0 k t537 t540 (!t547))) else (laws_FnSpanFirst.j0 k t537 t540 true))))))
def laws_FnSpanFirst.T16 : Bool × List (List Nat × List Nat) := (true, [([], []), ([], []), ([], []), ([1, 2], [1, 2]), ([], []), ([], []), ([4, 5], [4, 5]), ([6], [6]), ([3, 7], [3, 7]), ([0, 8], [0, 8])])
def laws_FnSpanFirst.B16 : List Nat := [0, 0, 0, 6, 0, 0, 48, 112, 254, 511]
theorem laws_FnSpanFirst.tab16 : rtab .any (opsOf Try.f9 16) = laws_FnSpanFirst.T16 := by kernel_rfl
theorem laws_FnSpanFirst.bits16 : waitsOk laws_FnSpanFirst.T16.2 laws_FnSpanFirst.B16 = true := by kernel_rfl
set_option maxHeartbeats 8000000 in
set_option maxRecDepth 100000 in
theorem laws_FnSpanFirst.calls (k : Nat) (A0 : Option Addr) (c0 : Nat) (l0 : List Int) (r : Bool) (w : World) (hr0 : Kd.C (Kd.int .u8) w A0 l0.length l0) (hc0 : l0.length ≤ c0) (h : laws_FnSpanFirst.f k l0 = some r) :
  Calls Try.prog 9 #[.slice A0 l0.length c0] w fun e w' => e = .returned (.bool r) ∧ Below w.heap.size w w' := by
 have HR0 := Aside0.mk hr0
 have HC0 := Aside0.mk hc0
 clear hr0 hc0
 have HB := Aside0.mk (Below.refl w.heap.size w)
 have H : (if (l0.length : Int) > 1048576 then (some true) else ((spec_DrawSpanFirst.f k l0).bind fun t537 => ((impl_SpanFirst.f t537).bind fun t540 => ((spec_SpanFirst.f k t537).bind fun t543 => ((laws_lkInts.f k t540 t543).bind fun t546 => (if t546 = true then ((spec_SpanOk.f k t537).bind fun t547 => (laws_FnSpanFirst.j0 k t537 t540 (!t547))) else (laws_FnSpanFirst.j0 k t537 t540 true))))))) = some r := h
 clear h
 by_cases c2 : (l0.length : Int) > 1048576
 ·rw [if_pos c2] at H
  have c2b0 : decide (1048576 < (l0.length : Int)) = true := decide_eq_true c2
  have c2b1 : decide (1048576 < l0.length) = true := decide_eq_true (by omega)
  clear c2
  obtain rfl := Option.some.inj H
  go_enter Try.func9, Try.ntmps9
  go_wp2
  go_ret
  exact ⟨z18_8, z18_0⟩
 ·rw [if_neg c2] at H
  have c2b0 : decide (1048576 < (l0.length : Int)) = false := decide_eq_false c2
  have c2b1 : decide (1048576 < l0.length) = false := decide_eq_false (by omega)
  clear c2
  replace H := Option.bind_eq_some_iff.mp H
  obtain ⟨t537, A30, H⟩ := H
  replace H : ((impl_SpanFirst.f t537).bind fun t540 => ((spec_SpanFirst.f k t537).bind fun t543 => ((laws_lkInts.f k t540 t543).bind fun t546 => (if t546 = true then ((spec_SpanOk.f k t537).bind fun t547 => (laws_FnSpanFirst.j0 k t537 t540 (!t547))) else (laws_FnSpanFirst.j0 k t537 t540 true))))) = some r := H
  have A3 := Aside0.mk A30
  clear A30
  replace H := Option.bind_eq_some_iff.mp H
  obtain ⟨t540, A40, H⟩ := H
  replace H : ((spec_SpanFirst.f k t537).bind fun t543 => ((laws_lkInts.f k t540 t543).bind fun t546 => (if t546 = true then ((spec_SpanOk.f k t537).bind fun t547 => (laws_FnSpanFirst.j0 k t537 t540 (!t547))) else (laws_FnSpanFirst.j0 k t537 t540 true)))) = some r := H
  have A4 := Aside0.mk A40
  clear A40
  have HC5 := Aside0.mk H
  clear H
  go_enter Try.func9, Try.ntmps9
  go_upto_region 5 with (first | ((with_reducible refine gate_callee (f := 36) rfl ?_); refine goesL_ (some 13) rfl rfl Try.func36 (by kernel_rfl) rfl #[.slice A0 l0.length c0] rfl z18_3 ?_; (with_reducible refine (spec_DrawSpanFirst.calls k _ _ l0 t537 _ ?side1 ?side2 A3.out).mono ?_); (case side1 => exact cZ (HR0.out)); (case side2 => exact HC0.out); rintro e w6 ⟨v538, rfl, ho0, hb⟩; refine ⟨_, rfl, ?_⟩; have HO539 := Aside0.mk (Kd.N_lower (Kd.N_mono (ok' := fun k_ => True) ho0 (fun k_ hk_ => trivial)) (below_size z18_0)); replace HB := Aside0.mk (below_step z18_0 hb); (try clear hb); (try clear ho0); obtain ⟨Ao7, co7, eo7⟩ := Kd.N_slice HO539.out; subst eo7; (try simp only [clip_slice])) | ((with_reducible refine gate_callee (f := 25) rfl ?_); refine goesL_ (some 15) rfl rfl Try.func25 (by kernel_rfl) rfl #[.slice Ao7 t537.length co7] rfl z18_3 ?_; (with_reducible refine (impl_SpanFirst.calls _ _ t537 t540 _ ?side1 ?side2 A4.out).mono ?_); (case side1 => exact cZ ((Kd.N_reads' HO539.out).2.2)); (case side2 => first | exact (Kd.N_reads' HO539.out).2.1 | exact Nat.le_refl _); rintro e w8 ⟨v541, rfl, ho0, hb⟩; refine ⟨_, rfl, ?_⟩; replace HO539 := Aside0.mk (Kd.N_elder' z18_11 (Kd.R_base ho0) hb); have HO542 := Aside0.mk (Kd.R_lower ho0 (below_size z18_0)); replace HB := Aside0.mk (below_step z18_0 hb); (try clear hb); (try clear ho0)))
  (try simp only [Act.put, List.setIfInBounds_toArray, List.set_cons_zero, List.set_cons_succ])
  go_cut [25] (fun v25 wc => ∃ (kq : Nat) (x25_4 : Bool), v25 = .bool x25_4 ∧ Aside0 (laws_FnSpanFirst.j0 kq t537 t540 x25_4 = some r) ∧ Aside0 (kq ≤ k) ∧ Aside0 (Kd.N (Kd.slice 3 (Kd.int .i64)) 28 wc w.heap.size (fun k_ => some k_ ≠ (v541 : Value).ownBlock) (.slice Ao7 t537.length co7) t537) ∧ Aside0 (Kd.R (Kd.int .i64) 3 wc w.heap.size (fun _ => True) v541 t540) ∧ Aside0 (Below w.heap.size w wc))
  case first =>
   have H := HC5.out
   clear HC5
   replace H := Option.bind_eq_some_iff.mp H
   obtain ⟨t543, A90, H⟩ := H
   replace H : ((laws_lkInts.f k t540 t543).bind fun t546 => (if t546 = true then ((spec_SpanOk.f k t537).bind fun t547 => (laws_FnSpanFirst.j0 k t537 t540 (!t547))) else (laws_FnSpanFirst.j0 k t537 t540 true))) = some r := H
   have A9 := Aside0.mk A90
   clear A90
   replace H := Option.bind_eq_some_iff.mp H
   obtain ⟨t546, A100, H⟩ := H
   replace H : (if t546 = true then ((spec_SpanOk.f k t537).bind fun t547 => (laws_FnSpanFirst.j0 k t537 t540 (!t547))) else (laws_FnSpanFirst.j0 k t537 t540 true)) = some r := H
   have A10 := Aside0.mk A100
   clear A100
   by_cases c11 : t546 = true
   ·subst c11
    have H1 : ((spec_SpanOk.f k t537).bind fun t547 => (laws_FnSpanFirst.j0 k t537 t540 (!t547))) = some r := by rw [if_pos rfl] at H; exact H
    clear H
    have H := H1
    clear H1
    replace H := Option.bind_eq_some_iff.mp H
    obtain ⟨t547, A120, H⟩ := H
    replace H : (laws_FnSpanFirst.j0 k t537 t540 (!t547)) = some r := H
    have A12 := Aside0.mk A120
    clear A120
    have H' := Aside0.mk H
    clear H
    go_wp2_with (first | ((with_reducible refine gate_callee (f := 24) rfl ?_); refine goesL_ (some 18) rfl rfl Try.func24 (by kernel_rfl) rfl #[.slice Ao7 t537.length co7] rfl z18_3 ?_; (with_reducible refine (spec_SpanFirst.calls k _ _ t537 t543 _ ?side1 ?side2 A9.out).mono ?_); (case side1 => exact cZ ((Kd.N_reads' HO539.out).2.2)); (case side2 => first | exact (Kd.N_reads' HO539.out).2.1 | exact Nat.le_refl _); rintro e w13 ⟨v544, rfl, ho0, hb⟩; refine ⟨_, rfl, ?_⟩; replace HO539 := Aside0.mk (Kd.N_elder' z18_11 (Kd.R_base ho0) hb); have HO545 := Aside0.mk (Kd.R_lower (Kd.R_new' ho0 (Kd.R_lt z18_10)) (below_size z18_0)); replace HO542 := Aside0.mk (Kd.R_elder' z18_10 (Kd.R_base ho0) hb); replace HB := Aside0.mk (below_step z18_0 hb); (try clear hb); (try clear ho0); obtain ⟨Ao14, co14, eo14⟩ := Kd.R_slice HO542.out; subst eo14; (try simp only [clip_slice]); obtain ⟨Ao15, co15, eo15⟩ := Kd.R_slice HO545.out; subst eo15; (try simp only [clip_slice])) | ((with_reducible refine gate_callee (f := 37) rfl ?_); refine goesL_ (some 19) rfl rfl Try.func37 (by kernel_rfl) rfl #[.slice Ao14 t540.length t540.length, .slice Ao15 t543.length co15] rfl z18_3 ?_; (with_reducible refine (laws_lkInts.calls k _ _ t540 _ _ t543 true _ ?side1 ?side2 ?side3 ?side4 A10.out).mono ?_); (case side1 => exact cZ ((Kd.R_reads' HO542.out).2.2)); (case side2 => first | exact (Kd.R_reads' HO542.out).2.1 | exact Nat.le_refl _); (case side3 => exact cZ ((Kd.R_reads' HO545.out).2.2)); (case side4 => first | exact (Kd.R_reads' HO545.out).2.1 | exact Nat.le_refl _); rintro e w' ⟨rfl, ⟨nd, rfl⟩⟩; refine ⟨_, rfl, ?_⟩) | (go_at_call 38; (with_reducible refine (spec_SpanOk.calls k _ _ t537 t547 _ ?side1 ?side2 A12.out).mono ?_); (case side1 => exact cZ ((Kd.N_reads' HO539.out).2.2)); (case side2 => first | exact (Kd.N_reads' HO539.out).2.1 | exact Nat.le_refl _); rintro e w' ⟨rfl, ⟨nd, rfl⟩⟩))
    go_meet
    case rel => exact ⟨_, (!t547), z18_9, H', ⟨by first | omega | exact Nat.le_refl _⟩, ⟨z18_15⟩, ⟨z18_14⟩, ⟨z18_0⟩⟩
   ·replace c11 := Bool.eq_false_iff.mpr c11
    subst c11
    have H1 : (laws_FnSpanFirst.j0 k t537 t540 true) = some r := by rw [if_neg (show ¬ (false = true) by decide)] at H; exact H
    clear H
    have H := H1
    clear H1
    have H' := Aside0.mk H
    clear H
    go_wp2_with (first | ((with_reducible refine gate_callee (f := 24) rfl ?_); refine goesL_ (some 18) rfl rfl Try.func24 (by kernel_rfl) rfl #[.slice Ao7 t537.length co7] rfl z18_3 ?_; (with_reducible refine (spec_SpanFirst.calls k _ _ t537 t543 _ ?side1 ?side2 A9.out).mono ?_); (case side1 => exact cZ ((Kd.N_reads' HO539.out).2.2)); (case side2 => first | exact (Kd.N_reads' HO539.out).2.1 | exact Nat.le_refl _); rintro e w16 ⟨v544, rfl, ho0, hb⟩; refine ⟨_, rfl, ?_⟩; replace HO539 := Aside0.mk (Kd.N_elder' z18_11 (Kd.R_base ho0) hb); have HO545 := Aside0.mk (Kd.R_lower (Kd.R_new' ho0 (Kd.R_lt z18_10)) (below_size z18_0)); replace HO542 := Aside0.mk (Kd.R_elder' z18_10 (Kd.R_base ho0) hb); replace HB := Aside0.mk (below_step z18_0 hb); (try clear hb); (try clear ho0); obtain ⟨Ao17, co17, eo17⟩ := Kd.R_slice HO542.out; subst eo17; (try simp only [clip_slice]); obtain ⟨Ao18, co18, eo18⟩ := Kd.R_slice HO545.out; subst eo18; (try simp only [clip_slice])) | ((with_reducible refine gate_callee (f := 37) rfl ?_); refine goesL_ (some 19) rfl rfl Try.func37 (by kernel_rfl) rfl #[.slice Ao17 t540.length t540.length, .slice Ao18 t543.length co18] rfl z18_3 ?_; (with_reducible refine (laws_lkInts.calls k _ _ t540 _ _ t543 false _ ?side1 ?side2 ?side3 ?side4 A10.out).mono ?_); (case side1 => exact cZ ((Kd.R_reads' HO542.out).2.2)); (case side2 => first | exact (Kd.R_reads' HO542.out).2.1 | exact Nat.le_refl _); (case side3 => exact cZ ((Kd.R_reads' HO545.out).2.2)); (case side4 => first | exact (Kd.R_reads' HO545.out).2.1 | exact Nat.le_refl _); rintro e w' ⟨rfl, ⟨nd, rfl⟩⟩; refine ⟨_, rfl, ?_⟩))
    go_meet
    case rel => exact ⟨_, (true), z18_9, H', ⟨by first | omega | exact Nat.le_refl _⟩, ⟨z18_15⟩, ⟨z18_14⟩, ⟨z18_0⟩⟩
  case rest =>
   clear HC5
   try clear c2
   try clear c2b0
   try clear c2b1
   obtain ⟨kq, x25_4, rfl, HA, HJ4, HO_3, HO_4, HB⟩ := hcut
   cases kq with
   | zero => exact absurd HA.out (by simp [laws_FnSpanFirst.j0])
   | succ kj4 =>
    have H := HA.out
    clear HA
    simp only [laws_FnSpanFirst.j0] at H
    by_cases c19 : x25_4 = true
    ·subst c19
     have H1 : ((spec_SpanFirst.f kj4 t537).bind fun t548 => ((laws_lkInts.f kj4 t540 t548).bind fun t551 => (some t551))) = some r := by rw [if_pos rfl] at H; exact H
     clear H
     have H := H1
     clear H1
     replace H := Option.bind_eq_some_iff.mp H
     obtain ⟨t548, A200, H⟩ := H
     replace H : ((laws_lkInts.f kj4 t540 t548).bind fun t551 => (some t551)) = some r := H
     have A20 := Aside0.mk A200
     clear A200
     replace H := Option.bind_eq_some_iff.mp H
     obtain ⟨t551, A210, H⟩ := H
     replace H : (some t551) = some r := H
     have A21 := Aside0.mk A210
     clear A210
     obtain rfl := Option.some.inj H
     go_wp2_with (first | ((with_reducible refine gate_callee (f := 24) rfl ?_); refine goesL_ (some 28) rfl rfl Try.func24 (by kernel_rfl) rfl #[.slice Ao7 t537.length co7] rfl z18_3 ?_; (with_reducible refine (spec_SpanFirst.calls kj4 _ _ t537 t548 _ ?side1 ?side2 A20.out).mono ?_); (case side1 => exact cZ ((Kd.N_reads' HO_3.out).2.2)); (case side2 => first | exact (Kd.N_reads' HO_3.out).2.1 | exact Nat.le_refl _); rintro e w22 ⟨v549, rfl, ho0, hb⟩; refine ⟨_, rfl, ?_⟩; replace HO_3 := Aside0.mk (Kd.N_elder' z18_2 (Kd.R_base ho0) hb); have HO550 := Aside0.mk (Kd.R_lower (Kd.R_new' ho0 (Kd.R_lt z18_1)) (below_size z18_0)); replace HO_4 := Aside0.mk (Kd.R_elder' z18_1 (Kd.R_base ho0) hb); replace HB := Aside0.mk (below_step z18_0 hb); (try clear hb); (try clear ho0); obtain ⟨Ao23, co23, eo23⟩ := Kd.R_slice HO_4.out; subst eo23; (try simp only [clip_slice]); obtain ⟨Ao24, co24, eo24⟩ := Kd.R_slice HO550.out; subst eo24; (try simp only [clip_slice])) | ((with_reducible refine gate_callee (f := 37) rfl ?_); refine goesL_ (some 29) rfl rfl Try.func37 (by kernel_rfl) rfl #[.slice Ao23 t540.length t540.length, .slice Ao24 t548.length co24] rfl z18_3 ?_; (with_reducible refine (laws_lkInts.calls kj4 _ _ t540 _ _ t548 t551 _ ?side1 ?side2 ?side3 ?side4 A21.out).mono ?_); (case side1 => exact cZ ((Kd.R_reads' HO_4.out).2.2)); (case side2 => first | exact (Kd.R_reads' HO_4.out).2.1 | exact Nat.le_refl _); (case side3 => exact cZ ((Kd.R_reads' HO550.out).2.2)); (case side4 => first | exact (Kd.R_reads' HO550.out).2.1 | exact Nat.le_refl _); rintro e w' ⟨rfl, ⟨nd, rfl⟩⟩; refine ⟨_, rfl, ?_⟩))
     go_ret
     exact ⟨z18_8, z18_0⟩
    ·replace c19 := Bool.eq_false_iff.mpr c19
     subst c19
     have H1 : (laws_FnSpanFirst.l0 kj4 t537 t540 (([] : List (List Int))) 0 0) = some r := by rw [if_neg (show ¬ (false = true) by decide)] at H; exact H
     clear H
     have H := H1
     clear H1
     obtain ⟨y552, hy552⟩ : ∃ y_ : List (List Int), y_ = (([] : List (List Int))) := ⟨_, rfl⟩
     replace H : (laws_FnSpanFirst.l0 kj4 t537 t540 y552 0 0) = some r := by first | (rw [hy552]; with_reducible exact H) | (have H2_ := (Option.bind_some _ _).symm.trans H; rw [hy552]; with_reducible exact H2_) | (have H2_ := (Option.bind_some _ _).symm.trans H; with_reducible exact H2_) | with_reducible exact H | (rw [hy552]; exact H) | exact H
     have Ny552 := Aside0.mk hy552
     clear hy552
     have H' := Aside0.mk H
     clear H
     go_wp2_with (first | ((with_reducible refine gate_dst (N := 30) rfl ?_); refine Kd.N_lit (Kd.slice 3 (Kd.int .i64)) _ 28 ?hg (N' := 30) ?hd (xs := ([] : List (List Int))) (inner := []) (ok := (fun k_ => some k_ ≠ (.slice Ao7 t537.length co7 : Value).ownBlock ∧ some k_ ≠ (v541 : Value).ownBlock)) (okp := (fun k_ => some k_ ≠ (.slice Ao7 t537.length co7 : Value).ownBlock ∧ some k_ ≠ (v541 : Value).ownBlock)) ?hr ?hp (fun _ hk => hk) ((show ∀ k_, wc.heap.size ≤ k_ → (fun k_ => some k_ ≠ (.slice Ao7 t537.length co7 : Value).ownBlock ∧ some k_ ≠ (v541 : Value).ownBlock) k_ from fun k_ hk => ⟨Kd.fresh' (Kd.N_lt z18_2) k_ hk, Kd.fresh' (Kd.R_lt z18_1) k_ hk⟩) _ (Nat.le_refl _)) (Below.refl _ _) (Nat.le_refl _) (by simp) ?_; (case hd => rfl); (case hg => rfl); (case hr => first | (go_simp; done) | (go_simp; rfl)); (case hp => exact (Reps.none _ _)); intro v553 w25 ho26 hb hg_ hnew_; clear hg_ hnew_; (first | rw [← Ny552.out] at ho26 | (simp only [Int.reduceToNat] at ho26; rw [← Ny552.out] at ho26)); replace HO_3 := Aside0.mk (Kd.N_elder' z18_2 (by first | exact Kd.N_base ho26 | exact Kd.R_base ho26) hb); replace HO_4 := Aside0.mk (Kd.R_below z18_1 hb); have HO554 := Aside0.mk (Kd.N_lower ho26 (below_size z18_0)); replace HB := Aside0.mk (below_step z18_0 hb); clear hb ho26))
     go_loopg [5, 6, 7] kj4 (fun kq v5 v6 v7 w' => ∃ (x5_2 : List (List Int)) (x6_2 : Int) (x7_2 : Int), v6 = .int .i64 x6_2 ∧ v7 = .int .i64 x7_2 ∧ Aside0 (laws_FnSpanFirst.l0 kq t537 t540 x5_2 x6_2 x7_2 = some r) ∧ Aside0 (kq ≤ kj4) ∧ Aside0 (Kd.N (Kd.slice 3 (Kd.int .i64)) 28 w' w.heap.size (fun k_ => some k_ ≠ (v541 : Value).ownBlock ∧ some k_ ≠ (v5 : Value).ownBlock) (.slice Ao7 t537.length co7) t537) ∧ Aside0 (Kd.R (Kd.int .i64) 3 w' w.heap.size (fun _ => True) v541 t540) ∧ Aside0 (Kd.N (Kd.slice 3 (Kd.int .i64)) 28 w' w.heap.size (fun k_ => some k_ ≠ ((.slice Ao7 t537.length co7) : Value).ownBlock ∧ some k_ ≠ (v541 : Value).ownBlock) v5 x5_2) ∧ Aside0 (Below w.heap.size w w'))
     case atStart => exact ⟨(y552), (0), (0), z18_9, z18_9, H', ⟨Nat.le_refl _⟩, ⟨z18_2⟩, ⟨z18_1⟩, ⟨by (with_reducible repeat (first | apply Kd.N_alloc | apply Kd.N_drewN | apply Kd.N_drew)); exact HO554.out⟩, ⟨z18_0⟩⟩
     case round =>
      clear H'
      try clear c2
      try clear c2b0
      try clear c2b1
      try clear c19
      obtain ⟨x5_2, x6_2, x7_2, rfl, rfl, HA, HK2, HO_3, HO_4, HO_5, HB⟩ := hrel
      cases gk with
      | zero => exact absurd HA.out (by simp [laws_FnSpanFirst.l0])
      | succ k2 =>
       have H := HA.out
       clear HA
       simp only [laws_FnSpanFirst.l0] at H
       by_cases c27 : x7_2 < (t537.length : Int)
       ·rw [if_pos c27] at H
        have c27b0 : decide (x7_2 < (t537.length : Int)) = true := decide_eq_true c27
        clear c27
        have HC28 := Aside0.mk H
        clear H
        go_upto_region 12 with (fail)
        go_cut [8] (fun v8 wc => ∃ (kq : Nat) (x8_27 : Bool), v8 = .bool x8_27 ∧ Aside0 (laws_FnSpanFirst.j2 kq t537 t540 x5_2 x6_2 x7_2 x8_27 = some r) ∧ Aside0 (kq ≤ k2) ∧ Aside0 (Kd.N (Kd.slice 3 (Kd.int .i64)) 28 wc w.heap.size (fun k_ => some k_ ≠ (v541 : Value).ownBlock ∧ some k_ ≠ (u5 : Value).ownBlock) (.slice Ao7 t537.length co7) t537) ∧ Aside0 (Kd.R (Kd.int .i64) 3 wc w.heap.size (fun _ => True) v541 t540) ∧ Aside0 (Kd.N (Kd.slice 3 (Kd.int .i64)) 28 wc w.heap.size (fun k_ => some k_ ≠ ((.slice Ao7 t537.length co7) : Value).ownBlock ∧ some k_ ≠ (v541 : Value).ownBlock) u5 x5_2) ∧ Aside0 (Below w.heap.size w wc))
        case first =>
         have H := HC28.out
         clear HC28
         by_cases c29 : x6_2 < (t540.length : Int)
         ·rw [if_pos c29] at H
          have c29b0 : decide (x6_2 < (t540.length : Int)) = true := decide_eq_true c29
          clear c29
          (first | rw [c29b0] | (simp only [i64_w, i32_w]; rw [c29b0]) | skip)
          obtain ⟨c30, H⟩ := ifP H
          have c30b0 : decide (0 ≤ x6_2) = true := decide_eq_true c30
          clear c30
          have H' := Aside0.mk H
          clear H
          obtain ⟨Ao31, co31, eo31⟩ := Kd.R_slice HO_4.out
          subst eo31
          try simp only [clip_slice]
          have p556 : 0 ≤ (x6_2 : Int) := of_decide_eq_true z18_4
          have q556 : x6_2 < (t540.length : Int) := of_decide_eq_true z18_4
          obtain ⟨ad556, e556, hx556_0⟩ := Kd.at_int (Kd.R_reads' HO_4.out).2.2 x6_2 p556 q556
          cases e556
          replace p556 := eq_true p556
          replace q556 := eq_true q556
          go_wp2
          go_meet
          case rel => exact ⟨_, (((rd t540 x6_2) == x7_2)), z18_9, H', ⟨by have := HJ4.out; have := HK2.out; first | omega | exact Nat.le_refl _⟩, ⟨z18_2⟩, ⟨z18_1⟩, ⟨z18_5⟩, ⟨z18_0⟩⟩
         ·rw [if_neg c29] at H
          have c29b0 : decide (x6_2 < (t540.length : Int)) = false := decide_eq_false c29
          clear c29
          (first | rw [c29b0] | (simp only [i64_w, i32_w]; rw [c29b0]) | skip)
          have H' := Aside0.mk H
          clear H
          obtain ⟨Ao32, co32, eo32⟩ := Kd.R_slice HO_4.out
          subst eo32
          try simp only [clip_slice]
          go_wp2
          go_meet
          case rel => exact ⟨_, (false), z18_9, H', ⟨by have := HJ4.out; have := HK2.out; first | omega | exact Nat.le_refl _⟩, ⟨z18_2⟩, ⟨z18_1⟩, ⟨z18_5⟩, ⟨z18_0⟩⟩
        case rest =>
         clear HC28
         try clear c2
         try clear c2b0
         try clear c2b1
         try clear c19
         try clear c27
         try clear c27b0
         obtain ⟨kq, x8_27, rfl, HA, HJ27, HO_3, HO_4, HO_5, HB⟩ := hcut
         cases kq with
         | zero => exact absurd HA.out (by simp [laws_FnSpanFirst.j2])
         | succ kj27 =>
          have H := HA.out
          clear HA
          simp only [laws_FnSpanFirst.j2] at H
          by_cases c33 : x8_27 = true
          ·subst c33
           have H1 : (if 0 ≤ x7_2 then (if x7_2 < (t537.length : Int) then (if x5_2.length < 5864062014805 then (if x7_2 ≤ (t537.length : Int) then ((impl_SpanHas.f kj27 (t537.take (x7_2 : Int).toNat) (rd_L1 t537 x7_2)).bind fun t567 => (if (true == t567) = true then (some false) else (laws_FnSpanFirst.l0 kj27 t537 t540 (x5_2 ++ [rd_L1 t537 x7_2]) (wrap64 (x6_2 + 1)) (wrap64 (x7_2 + 1))))) else (none)) else (none)) else (none)) else (none)) = some r := by rw [if_pos rfl] at H; exact H
           clear H
           have H := H1
           clear H1
           obtain ⟨c34, H⟩ := ifP H
           have c34b0 : decide (0 ≤ x7_2) = true := decide_eq_true c34
           clear c34
           obtain ⟨c35, H⟩ := ifP H
           have c35b0 : decide (x7_2 < (t537.length : Int)) = true := decide_eq_true c35
           clear c35
           obtain ⟨c36, H⟩ := ifP H
           have LMc36 := Aside0.mk c36
           clear c36
           obtain ⟨y558, hy558⟩ : ∃ y_ : List (List Int), y_ = (x5_2 ++ [rd_L1 t537 x7_2]) := ⟨_, rfl⟩
           replace H : (if x7_2 ≤ (t537.length : Int) then ((impl_SpanHas.f kj27 (t537.take (x7_2 : Int).toNat) (rd_L1 t537 x7_2)).bind fun t567 => (if (true == t567) = true then (some false) else (laws_FnSpanFirst.l0 kj27 t537 t540 y558 (wrap64 (x6_2 + 1)) (wrap64 (x7_2 + 1))))) else (none)) = some r := by first | (rw [hy558]; with_reducible exact H) | (have H2_ := (Option.bind_some _ _).symm.trans H; rw [hy558]; with_reducible exact H2_) | (have H2_ := (Option.bind_some _ _).symm.trans H; with_reducible exact H2_) | with_reducible exact H | (rw [hy558]; exact H) | exact H
           have Ny558 := Aside0.mk hy558
           clear hy558
           have c37b0 := eq_true (of_decide_eq_true z18_4 : 0 ≤ x7_2)
           obtain ⟨c38, H⟩ := ifP H
           have c38b0 := eq_true c38
           have c38b1 : decide (x7_2 ≤ (t537.length : Int)) = true := decide_eq_true c38
           clear c38
           obtain ⟨y561, hy561⟩ : ∃ y_ : List (List Int), y_ = (t537.take (x7_2 : Int).toNat) := ⟨_, rfl⟩
           replace H : ((impl_SpanHas.f kj27 y561 (rd_L1 t537 x7_2)).bind fun t567 => (if (true == t567) = true then (some false) else (laws_FnSpanFirst.l0 kj27 t537 t540 y558 (wrap64 (x6_2 + 1)) (wrap64 (x7_2 + 1))))) = some r := by first | (rw [hy561]; with_reducible exact H) | (have H2_ := (Option.bind_some _ _).symm.trans H; rw [hy561]; with_reducible exact H2_) | (have H2_ := (Option.bind_some _ _).symm.trans H; with_reducible exact H2_) | with_reducible exact H | (rw [hy561]; exact H) | exact H
           have Ny561 := Aside0.mk hy561
           clear hy561
           replace H := Option.bind_eq_some_iff.mp H
           obtain ⟨t567, A390, H⟩ := H
           replace H : (if (true == t567) = true then (some false) else (laws_FnSpanFirst.l0 kj27 t537 t540 y558 (wrap64 (x6_2 + 1)) (wrap64 (x7_2 + 1)))) = some r := H
           have A39 := Aside0.mk A390
           clear A390
           by_cases c40 : (true == t567) = true
           ·rw [if_pos c40] at H
            have c40b0 : (true == t567) = true := c40
            (try (have c40b1 : decide (true = t567) = true := by simpa using c40))
            (try (have c40b2 : (true == t567) = true := by simpa using c40))
            clear c40
            obtain rfl := Option.some.inj H
            have p557 : 0 ≤ (x7_2 : Int) := of_decide_eq_true z18_4
            have q557 : x7_2 < (t537.length : Int) := of_decide_eq_true z18_4
            obtain ⟨ad557, A557_0, c557_0, e557, hx557_0, hl557_0, hi557_0⟩ := at_L1 (Kd.N_reads' HO_3.out).2.2 x7_2 p557 q557
            cases e557
            obtain ⟨ce557, hce557, hMe557, hcc557⟩ := Kd.N_get HO_3.out [] x7_2 p557 (by first | exact q557 | exact of_decide_eq_true z18_4 | (have e_ := (Kd.N_reads' HO_3.out).1; omega))
            obtain ⟨ua557_0, uc557_0, rfl, ul557_0, ge557_0⟩ := Kd.FK_slice_open hMe557
            have hv557_0 := hcc557 0 _ rfl
            rw [Nat.add_zero, show ((Kd.slice 3 (Kd.int .i64))).sz = 1 from rfl, Nat.mul_one] at hv557_0
            replace hv557_0 := Option.some.inj (hv557_0.symm.trans hx557_0)
            injection hv557_0 with hva_ hvn_ hvc_
            rw [hva_] at ge557_0
            rw [hvc_] at ul557_0
            have HL557_0 := Aside0.mk (show Kd.V (Kd.int .i64) 3 _ w.heap.size _ _ (rd_L1 t537 x7_2) from Kd.V_mk ul557_0 ge557_0)
            clear hva_ hvn_ hvc_ ge557_0 ul557_0
            clear hcc557 hce557
            have HR557_0 := Aside0.mk hi557_0
            have HC557_0 := Aside0.mk hl557_0
            clear hi557_0 hl557_0
            replace p557 := eq_true p557
            replace q557 := eq_true q557
            try go_wp2_with (first | ((with_reducible refine gate_builtin (b := .append) (xs := #[.tmp 52, .tmp 57]) rfl ?_); at_builtin; refine Kd.N_append (Kd.slice 3 (Kd.int .i64)) (w0 := w) w.heap.size rfl (.tmp 52) (.tmp 57) 22 28 (.slice none 0 0) 24 rfl Try.underlying22 info28 rfl (by decide) (by omega) u5 x5_2 (rd_L1 t537 x7_2) [.slice A557_0 (rd_L1 t537 x7_2).length c557_0] (fun k_ => some k_ ≠ (.slice (some ad557) t537.length co7 : Value).ownBlock ∧ some k_ ≠ (v541 : Value).ownBlock) (fun k_ => ((fun k_ => some k_ ≠ (.slice (some ad557) t537.length co7 : Value).ownBlock ∧ some k_ ≠ (v541 : Value).ownBlock)) k_ ∧ some k_ ≠ (u5 : Value).ownBlock) rfl rfl ?aP (fun _ hk => hk) ?aF ?aO ?aB ?aS ?aL ?_; (case aP => exact (Kd.FK_slice_mk (Kd.V_reads' (Kd.V_mono (ok' := (fun k_ => ((fun k_ => some k_ ≠ (.slice (some ad557) t537.length co7 : Value).ownBlock ∧ some k_ ≠ (v541 : Value).ownBlock)) k_ ∧ some k_ ≠ (u5 : Value).ownBlock)) (HL557_0.out) (fun k_ hk => ⟨⟨hk.2, hk.1.1⟩, hk.1.2⟩))).2.1 (Kd.V_F (Kd.V_mono (ok' := (fun k_ => ((fun k_ => some k_ ≠ (.slice (some ad557) t537.length co7 : Value).ownBlock ∧ some k_ ≠ (v541 : Value).ownBlock)) k_ ∧ some k_ ≠ (u5 : Value).ownBlock)) (HL557_0.out) (fun k_ hk => ⟨⟨hk.2, hk.1.1⟩, hk.1.2⟩))))); (case aB => exact z18_0); (case aF => exact (fun k_ hk => ⟨Kd.fresh' (Kd.N_lt z18_2) k_ hk, Kd.fresh' (Kd.R_lt z18_1) k_ hk⟩)); (case aO => exact z18_5); (case aS => exact (below_size z18_0)); (case aL => have := LMc36.out; omega); intro v559 w41 ho hb hg hat; rw [← Ny558.out] at ho; have n0_ := Aside0.mk (Kd.N_afterv (ok := (fun k_ => some k_ ≠ (v541 : Value).ownBlock)) z18_2 hg hat); have n1_ := Aside0.mk (Kd.R_over' z18_1 (Kd.N_typed z18_5) (by decide) hg); have n2_ := Aside0.mk (Kd.V_afterv (ok := (fun k_ => some k_ ≠ (.slice (some ad557) t537.length co7 : Value).ownBlock ∧ some k_ ≠ (v541 : Value).ownBlock)) z18_13 hg hat); have n3_ := Aside0.mk (hb); have n4_ := Aside0.mk (ho); clear HO_3; clear HO_4; clear HL557_0; clear HB; clear HO_5; have HO_3 := n0_; have HO_4 := n1_; have HL557_0 := n2_; have HB := n3_; have HO560 := n4_; clear n0_ n1_ n2_ n3_ n4_; clear ho hb hg hat))
            replace HO_3 := Aside0.mk (Kd.N_drew HO_3.out)
            replace HO_4 := Aside0.mk (Kd.R_drew HO_4.out)
            replace HL557_0 := Aside0.mk (Kd.V_drew HL557_0.out)
            replace HO560 := Aside0.mk (Kd.N_drew HO560.out)
            replace HB := Aside0.mk (below_drew1 HB.out)
            have q43 : (x7_2 : Int) ≤ ((t537.length : Int) : Int) := of_decide_eq_true z18_4
            obtain ⟨i043, hi043, _, hsz43, _⟩ := info_parts info28
            have hroom43 : t537.length ≤ co7 := (Kd.N_reads' HO_3.out).2.1
            have hC43 : Kd.F (Kd.slice 3 (Kd.int .i64)) _ _ (some ad557) t537.length t537 := (Kd.V_at (base := w.heap.size) (Kd.N_V HO_3.out)).2.2
            have hcut43 := cut_to (P := Try.prog) 22 28 .i64 Try.underlying22 hi043 (some ad557) t537.length co7 x7_2 (of_decide_eq_true z18_4) q43 hroom43
            have hr43 := Kd.F_take (m := (x7_2 : Int).toNat) hC43 (by omega)
            have hy43 : y561.length = (x7_2 : Int).toNat := (by rw [Ny561.out, List.length_take]; omega)
            rw [← Ny561.out] at hr43
            rw [← hy43] at hcut43
            have HO565 := Aside0.mk (show Kd.V (Kd.slice 3 (Kd.int .i64)) 28 _ w.heap.size _ (.slice (some ad557) y561.length co7) y561 from Kd.V_mk (by omega) hr43)
            have HC565 := Aside0.mk (show y561.length ≤ co7 from by omega)
            clear hr43 hC43 hroom43 hi043 hsz43
            have KY43 := Aside0.mk hy43
            clear hy43
            replace q43 := eq_true q43
            have p566 : 0 ≤ (x7_2 : Int) := of_decide_eq_true z18_4
            have q566 : x7_2 < (t537.length : Int) := of_decide_eq_true z18_4
            obtain ⟨ad566, A566_0, c566_0, e566, hx566_0, hl566_0, hi566_0⟩ := at_L1 (Kd.N_reads' HO_3.out).2.2 x7_2 p566 q566
            obtain rfl : ad557 = ad566 := (by injection e566)
            obtain ⟨ce566, hce566, hMe566, hcc566⟩ := Kd.N_get HO_3.out [] x7_2 p566 (by first | exact q566 | exact of_decide_eq_true z18_4 | (have e_ := (Kd.N_reads' HO_3.out).1; omega))
            obtain ⟨ua566_0, uc566_0, rfl, ul566_0, ge566_0⟩ := Kd.FK_slice_open hMe566
            have hv566_0 := hcc566 0 _ rfl
            rw [Nat.add_zero, show ((Kd.slice 3 (Kd.int .i64))).sz = 1 from rfl, Nat.mul_one] at hv566_0
            replace hv566_0 := Option.some.inj (hv566_0.symm.trans hx566_0)
            injection hv566_0 with hva_ hvn_ hvc_
            rw [hva_] at ge566_0
            rw [hvc_] at ul566_0
            have HL566_0 := Aside0.mk (show Kd.V (Kd.int .i64) 3 _ w.heap.size _ _ (rd_L1 t537 x7_2) from Kd.V_mk ul566_0 ge566_0)
            clear hva_ hvn_ hvc_ ge566_0 ul566_0
            clear hcc566 hce566
            have HR566_0 := Aside0.mk hi566_0
            have HC566_0 := Aside0.mk hl566_0
            clear hi566_0 hl566_0
            replace p566 := eq_true p566
            replace q566 := eq_true q566
            refine start_ (n := 10) (S := fun w' => w'.cell? (ad557.add (x7_2).toNat) = some (.slice A566_0 (rd_L1 t537 x7_2).length c566_0)) (ds := []) #[false, false, false, false, false, false, false, false, false, false] (by kernel_rfl) rfl rfl (hx566_0) (fun hHeld => ?_); refine with_tabW laws_FnSpanFirst.tab16 laws_FnSpanFirst.bits16 (fun HT_ HW_ => ?_)
            generalize w41.drew = w42 at HO_3 HO_4 HL557_0 HO560 HB HL566_0 HO565 HR566_0 hx566_0 hHeld ⊢
            refine pZ 0 HT_ ?_
            refine pZ 1 HT_ ?_
            refine pZ 2 HT_ ?_
            refine pZ 3 HT_ ?_
            refine pZ 4 HT_ ?_
            refine pZ 5 HT_ ?_
            refine pZ 6 HT_ ?_
            refine take_ (i := 7) (N := some 66) (v := ?_) (a' := ?_) #[true, true, true, true, true, true, true, true, false, false] rfl rfl (take_ofW HT_.out HW_.out (by kernel_rfl)) (fun _ _ _ h => h) (Or.inl ⟨by rfl, ?_⟩) hHeld ?_ ?_
            rotate_left
            ·intro w' s0
             go_simp
             with_reducible rfl
            rotate_left
            ·simp only [Act.put, List.setIfInBounds_toArray, List.set_cons_zero, List.set_cons_succ, i64_w, i32_w]
             rfl
            refine oZ 8 HT_ (fun K hK => ?_)
            refine goes_ Try.func22 (by kernel_rfl) rfl #[.slice (some ad557) y561.length co7, .slice A566_0 (rd_L1 t537 x7_2).length c566_0] (by rfl) rfl rfl z18_3 ?_
            with_reducible refine (impl_SpanHas.calls kj27 _ _ y561 _ _ (rd_L1 t537 x7_2) t567 _ ?side1 ?side2 ?side3 ?side4 A39.out).mono ?_
            (case side1 => exact cZ ((Kd.V_reads' HO565.out).2.2))
            (case side2 => first | exact (Kd.V_reads' HO565.out).2.1 | exact Nat.le_refl _)
            (case side3 => repeat (first | exact z18_6 | (with_reducible refine Kd.C_alloc ?_ _) | (with_reducible refine Kd.C_drewN ?_ _) | (with_reducible refine Kd.C_drew ?_)))
            (case side4 => exact HC566_0.out)
            rintro e w44 ⟨rfl, hb⟩
            have HS0_ := (hb.cell (World.block_lt_of_cell? _ _ (hHeld))).trans (hHeld)
            refine ⟨_, rfl, ?_⟩
            replace HO_3 := Aside0.mk (Kd.N_below z18_2 hb)
            replace HO_4 := Aside0.mk (Kd.R_below z18_1 hb)
            replace HL557_0 := Aside0.mk (Kd.V_below (by (with_reducible repeat (first | apply Kd.V_alloc | apply Kd.V_drewN | apply Kd.V_drew)); exact HL557_0.out) hb)
            replace HO560 := Aside0.mk (Kd.N_below z18_12 hb)
            replace HO565 := Aside0.mk (Kd.V_below (by (with_reducible repeat (first | apply Kd.V_alloc | apply Kd.V_drewN | apply Kd.V_drew)); exact HO565.out) hb)
            replace HL566_0 := Aside0.mk (Kd.V_below (by (with_reducible repeat (first | apply Kd.V_alloc | apply Kd.V_drewN | apply Kd.V_drew)); exact HL566_0.out) hb)
            replace HR566_0 := Aside0.mk (Kd.C_below z18_6 hb)
            replace HB := Aside0.mk (below_step z18_0 hb)
            (try clear hb)
            (try clear hb2)
            (try clear hk)
            (try clear hi)
            refine hK.out _ _ (HS0_) (fun hHeld => ?_)
            clear hK K
            refine nZ ?_
            refine pZ 9 HT_ ?_
            refine done_ (done_of HT_.out (by kernel_rfl)) ?_
            try go_wp2
            go_ret
            exact ⟨z18_8, z18_0⟩
           ·rw [if_neg c40] at H
            have c40b0 : (true == t567) = false := by simpa using c40
            (try (have c40b1 : decide (true = t567) = false := by simpa using c40))
            (try (have c40b2 : (true == t567) = false := by simpa using c40))
            (try (have c40b3 : ¬ (true = t567) := by simpa using c40))
            clear c40
            have H' := Aside0.mk H
            clear H
            have p557 : 0 ≤ (x7_2 : Int) := of_decide_eq_true z18_4
            have q557 : x7_2 < (t537.length : Int) := of_decide_eq_true z18_4
            obtain ⟨ad557, A557_0, c557_0, e557, hx557_0, hl557_0, hi557_0⟩ := at_L1 (Kd.N_reads' HO_3.out).2.2 x7_2 p557 q557
            cases e557
            obtain ⟨ce557, hce557, hMe557, hcc557⟩ := Kd.N_get HO_3.out [] x7_2 p557 (by first | exact q557 | exact of_decide_eq_true z18_4 | (have e_ := (Kd.N_reads' HO_3.out).1; omega))
            obtain ⟨ua557_0, uc557_0, rfl, ul557_0, ge557_0⟩ := Kd.FK_slice_open hMe557
            have hv557_0 := hcc557 0 _ rfl
            rw [Nat.add_zero, show ((Kd.slice 3 (Kd.int .i64))).sz = 1 from rfl, Nat.mul_one] at hv557_0
            replace hv557_0 := Option.some.inj (hv557_0.symm.trans hx557_0)
            injection hv557_0 with hva_ hvn_ hvc_
            rw [hva_] at ge557_0
            rw [hvc_] at ul557_0
            have HL557_0 := Aside0.mk (show Kd.V (Kd.int .i64) 3 _ w.heap.size _ _ (rd_L1 t537 x7_2) from Kd.V_mk ul557_0 ge557_0)
            clear hva_ hvn_ hvc_ ge557_0 ul557_0
            clear hcc557 hce557
            have HR557_0 := Aside0.mk hi557_0
            have HC557_0 := Aside0.mk hl557_0
            clear hi557_0 hl557_0
            replace p557 := eq_true p557
            replace q557 := eq_true q557
            try go_wp2_with (first | ((with_reducible refine gate_builtin (b := .append) (xs := #[.tmp 52, .tmp 57]) rfl ?_); at_builtin; refine Kd.N_append (Kd.slice 3 (Kd.int .i64)) (w0 := w) w.heap.size rfl (.tmp 52) (.tmp 57) 22 28 (.slice none 0 0) 24 rfl Try.underlying22 info28 rfl (by decide) (by omega) u5 x5_2 (rd_L1 t537 x7_2) [.slice A557_0 (rd_L1 t537 x7_2).length c557_0] (fun k_ => some k_ ≠ (.slice (some ad557) t537.length co7 : Value).ownBlock ∧ some k_ ≠ (v541 : Value).ownBlock) (fun k_ => ((fun k_ => some k_ ≠ (.slice (some ad557) t537.length co7 : Value).ownBlock ∧ some k_ ≠ (v541 : Value).ownBlock)) k_ ∧ some k_ ≠ (u5 : Value).ownBlock) rfl rfl ?aP (fun _ hk => hk) ?aF ?aO ?aB ?aS ?aL ?_; (case aP => exact (Kd.FK_slice_mk (Kd.V_reads' (Kd.V_mono (ok' := (fun k_ => ((fun k_ => some k_ ≠ (.slice (some ad557) t537.length co7 : Value).ownBlock ∧ some k_ ≠ (v541 : Value).ownBlock)) k_ ∧ some k_ ≠ (u5 : Value).ownBlock)) (HL557_0.out) (fun k_ hk => ⟨⟨hk.2, hk.1.1⟩, hk.1.2⟩))).2.1 (Kd.V_F (Kd.V_mono (ok' := (fun k_ => ((fun k_ => some k_ ≠ (.slice (some ad557) t537.length co7 : Value).ownBlock ∧ some k_ ≠ (v541 : Value).ownBlock)) k_ ∧ some k_ ≠ (u5 : Value).ownBlock)) (HL557_0.out) (fun k_ hk => ⟨⟨hk.2, hk.1.1⟩, hk.1.2⟩))))); (case aB => exact z18_0); (case aF => exact (fun k_ hk => ⟨Kd.fresh' (Kd.N_lt z18_2) k_ hk, Kd.fresh' (Kd.R_lt z18_1) k_ hk⟩)); (case aO => exact z18_5); (case aS => exact (below_size z18_0)); (case aL => have := LMc36.out; omega); intro v559 w45 ho hb hg hat; rw [← Ny558.out] at ho; have n0_ := Aside0.mk (Kd.N_afterv (ok := (fun k_ => some k_ ≠ (v541 : Value).ownBlock)) z18_2 hg hat); have n1_ := Aside0.mk (Kd.R_over' z18_1 (Kd.N_typed z18_5) (by decide) hg); have n2_ := Aside0.mk (Kd.V_afterv (ok := (fun k_ => some k_ ≠ (.slice (some ad557) t537.length co7 : Value).ownBlock ∧ some k_ ≠ (v541 : Value).ownBlock)) z18_13 hg hat); have n3_ := Aside0.mk (hb); have n4_ := Aside0.mk (ho); clear HO_3; clear HO_4; clear HL557_0; clear HB; clear HO_5; have HO_3 := n0_; have HO_4 := n1_; have HL557_0 := n2_; have HB := n3_; have HO560 := n4_; clear n0_ n1_ n2_ n3_ n4_; clear ho hb hg hat))
            replace HO_3 := Aside0.mk (Kd.N_drew HO_3.out)
            replace HO_4 := Aside0.mk (Kd.R_drew HO_4.out)
            replace HL557_0 := Aside0.mk (Kd.V_drew HL557_0.out)
            replace HO560 := Aside0.mk (Kd.N_drew HO560.out)
            replace HB := Aside0.mk (below_drew1 HB.out)
            have q47 : (x7_2 : Int) ≤ ((t537.length : Int) : Int) := of_decide_eq_true z18_4
            obtain ⟨i047, hi047, _, hsz47, _⟩ := info_parts info28
            have hroom47 : t537.length ≤ co7 := (Kd.N_reads' HO_3.out).2.1
            have hC47 : Kd.F (Kd.slice 3 (Kd.int .i64)) _ _ (some ad557) t537.length t537 := (Kd.V_at (base := w.heap.size) (Kd.N_V HO_3.out)).2.2
            have hcut47 := cut_to (P := Try.prog) 22 28 .i64 Try.underlying22 hi047 (some ad557) t537.length co7 x7_2 (of_decide_eq_true z18_4) q47 hroom47
            have hr47 := Kd.F_take (m := (x7_2 : Int).toNat) hC47 (by omega)
            have hy47 : y561.length = (x7_2 : Int).toNat := (by rw [Ny561.out, List.length_take]; omega)
            rw [← Ny561.out] at hr47
            rw [← hy47] at hcut47
            have HO565 := Aside0.mk (show Kd.V (Kd.slice 3 (Kd.int .i64)) 28 _ w.heap.size _ (.slice (some ad557) y561.length co7) y561 from Kd.V_mk (by omega) hr47)
            have HC565 := Aside0.mk (show y561.length ≤ co7 from by omega)
            clear hr47 hC47 hroom47 hi047 hsz47
            have KY47 := Aside0.mk hy47
            clear hy47
            replace q47 := eq_true q47
            have p566 : 0 ≤ (x7_2 : Int) := of_decide_eq_true z18_4
            have q566 : x7_2 < (t537.length : Int) := of_decide_eq_true z18_4
            obtain ⟨ad566, A566_0, c566_0, e566, hx566_0, hl566_0, hi566_0⟩ := at_L1 (Kd.N_reads' HO_3.out).2.2 x7_2 p566 q566
            obtain rfl : ad557 = ad566 := (by injection e566)
            obtain ⟨ce566, hce566, hMe566, hcc566⟩ := Kd.N_get HO_3.out [] x7_2 p566 (by first | exact q566 | exact of_decide_eq_true z18_4 | (have e_ := (Kd.N_reads' HO_3.out).1; omega))
            obtain ⟨ua566_0, uc566_0, rfl, ul566_0, ge566_0⟩ := Kd.FK_slice_open hMe566
            have hv566_0 := hcc566 0 _ rfl
            rw [Nat.add_zero, show ((Kd.slice 3 (Kd.int .i64))).sz = 1 from rfl, Nat.mul_one] at hv566_0
            replace hv566_0 := Option.some.inj (hv566_0.symm.trans hx566_0)
            injection hv566_0 with hva_ hvn_ hvc_
            rw [hva_] at ge566_0
            rw [hvc_] at ul566_0
            have HL566_0 := Aside0.mk (show Kd.V (Kd.int .i64) 3 _ w.heap.size _ _ (rd_L1 t537 x7_2) from Kd.V_mk ul566_0 ge566_0)
            clear hva_ hvn_ hvc_ ge566_0 ul566_0
            clear hcc566 hce566
            have HR566_0 := Aside0.mk hi566_0
            have HC566_0 := Aside0.mk hl566_0
            clear hi566_0 hl566_0
            replace p566 := eq_true p566
            replace q566 := eq_true q566
            refine start_ (n := 10) (S := fun w' => w'.cell? (ad557.add (x7_2).toNat) = some (.slice A566_0 (rd_L1 t537 x7_2).length c566_0)) (ds := []) #[false, false, false, false, false, false, false, false, false, false] (by kernel_rfl) rfl rfl (hx566_0) (fun hHeld => ?_); refine with_tabW laws_FnSpanFirst.tab16 laws_FnSpanFirst.bits16 (fun HT_ HW_ => ?_)
            generalize w45.drew = w46 at HO_3 HO_4 HL557_0 HO560 HB HL566_0 HO565 HR566_0 hx566_0 hHeld ⊢
            refine pZ 0 HT_ ?_
            refine pZ 1 HT_ ?_
            refine pZ 2 HT_ ?_
            refine pZ 3 HT_ ?_
            refine pZ 4 HT_ ?_
            refine pZ 5 HT_ ?_
            refine pZ 6 HT_ ?_
            refine take_ (i := 7) (N := some 66) (v := ?_) (a' := ?_) #[true, true, true, true, true, true, true, true, false, false] rfl rfl (take_ofW HT_.out HW_.out (by kernel_rfl)) (fun _ _ _ h => h) (Or.inl ⟨by rfl, ?_⟩) hHeld ?_ ?_
            rotate_left
            ·intro w' s0
             go_simp
             with_reducible rfl
            rotate_left
            ·simp only [Act.put, List.setIfInBounds_toArray, List.set_cons_zero, List.set_cons_succ, i64_w, i32_w]
             rfl
            refine oZ 8 HT_ (fun K hK => ?_)
            refine goes_ Try.func22 (by kernel_rfl) rfl #[.slice (some ad557) y561.length co7, .slice A566_0 (rd_L1 t537 x7_2).length c566_0] (by rfl) rfl rfl z18_3 ?_
            with_reducible refine (impl_SpanHas.calls kj27 _ _ y561 _ _ (rd_L1 t537 x7_2) t567 _ ?side1 ?side2 ?side3 ?side4 A39.out).mono ?_
            (case side1 => exact cZ ((Kd.V_reads' HO565.out).2.2))
            (case side2 => first | exact (Kd.V_reads' HO565.out).2.1 | exact Nat.le_refl _)
            (case side3 => repeat (first | exact z18_6 | (with_reducible refine Kd.C_alloc ?_ _) | (with_reducible refine Kd.C_drewN ?_ _) | (with_reducible refine Kd.C_drew ?_)))
            (case side4 => exact HC566_0.out)
            rintro e w48 ⟨rfl, hb⟩
            have HS0_ := (hb.cell (World.block_lt_of_cell? _ _ (hHeld))).trans (hHeld)
            refine ⟨_, rfl, ?_⟩
            replace HO_3 := Aside0.mk (Kd.N_below z18_2 hb)
            replace HO_4 := Aside0.mk (Kd.R_below z18_1 hb)
            replace HL557_0 := Aside0.mk (Kd.V_below (by (with_reducible repeat (first | apply Kd.V_alloc | apply Kd.V_drewN | apply Kd.V_drew)); exact HL557_0.out) hb)
            replace HO560 := Aside0.mk (Kd.N_below z18_12 hb)
            replace HO565 := Aside0.mk (Kd.V_below (by (with_reducible repeat (first | apply Kd.V_alloc | apply Kd.V_drewN | apply Kd.V_drew)); exact HO565.out) hb)
            replace HL566_0 := Aside0.mk (Kd.V_below (by (with_reducible repeat (first | apply Kd.V_alloc | apply Kd.V_drewN | apply Kd.V_drew)); exact HL566_0.out) hb)
            replace HR566_0 := Aside0.mk (Kd.C_below z18_6 hb)
            replace HB := Aside0.mk (below_step z18_0 hb)
            (try clear hb)
            (try clear hb2)
            (try clear hk)
            (try clear hi)
            refine hK.out _ _ (HS0_) (fun hHeld => ?_)
            clear hK K
            refine nZ ?_
            refine pZ 9 HT_ ?_
            refine done_ (done_of HT_.out (by kernel_rfl)) ?_
            try go_wp2
            go_roundg kj27
            case measure => have := HJ4.out; have := HK2.out; have := HJ27.out; omega
            case rel => exact ⟨(y558), (wrap64 (x6_2 + 1)), (wrap64 (x7_2 + 1)), z18_9, z18_9, H', ⟨by have := HJ4.out; have := HK2.out; have := HJ27.out; omega⟩, ⟨z18_2⟩, ⟨z18_1⟩, ⟨z18_12⟩, ⟨z18_0⟩⟩
          ·replace c33 := Bool.eq_false_iff.mpr c33
           subst c33
           have H1 : (if 0 ≤ x7_2 then (if x7_2 ≤ (t537.length : Int) then (if x7_2 < (t537.length : Int) then ((impl_SpanHas.f kj27 (t537.take (x7_2 : Int).toNat) (rd_L1 t537 x7_2)).bind fun t574 => (if (false == t574) = true then (some false) else (laws_FnSpanFirst.l0 kj27 t537 t540 x5_2 x6_2 (wrap64 (x7_2 + 1))))) else (none)) else (none)) else (none)) = some r := by rw [if_neg (show ¬ (false = true) by decide)] at H; exact H
           clear H
           have H := H1
           clear H1
           obtain ⟨c49, H⟩ := ifP H
           have c49b0 := eq_true c49
           have c49b1 : decide (0 ≤ x7_2) = true := decide_eq_true c49
           clear c49
           obtain ⟨c50, H⟩ := ifP H
           have c50b0 := eq_true c50
           have c50b1 : decide (x7_2 ≤ (t537.length : Int)) = true := decide_eq_true c50
           clear c50
           obtain ⟨y568, hy568⟩ : ∃ y_ : List (List Int), y_ = (t537.take (x7_2 : Int).toNat) := ⟨_, rfl⟩
           replace H : (if x7_2 < (t537.length : Int) then ((impl_SpanHas.f kj27 y568 (rd_L1 t537 x7_2)).bind fun t574 => (if (false == t574) = true then (some false) else (laws_FnSpanFirst.l0 kj27 t537 t540 x5_2 x6_2 (wrap64 (x7_2 + 1))))) else (none)) = some r := by first | (rw [hy568]; with_reducible exact H) | (have H2_ := (Option.bind_some _ _).symm.trans H; rw [hy568]; with_reducible exact H2_) | (have H2_ := (Option.bind_some _ _).symm.trans H; with_reducible exact H2_) | with_reducible exact H | (rw [hy568]; exact H) | exact H
           have Ny568 := Aside0.mk hy568
           clear hy568
           obtain ⟨c51, H⟩ := ifP H
           have c51b0 : decide (x7_2 < (t537.length : Int)) = true := decide_eq_true c51
           clear c51
           replace H := Option.bind_eq_some_iff.mp H
           obtain ⟨t574, A520, H⟩ := H
           replace H : (if (false == t574) = true then (some false) else (laws_FnSpanFirst.l0 kj27 t537 t540 x5_2 x6_2 (wrap64 (x7_2 + 1)))) = some r := H
           have A52 := Aside0.mk A520
           clear A520
           by_cases c53 : (false == t574) = true
           ·rw [if_pos c53] at H
            have c53b0 : (false == t574) = true := c53
            (try (have c53b1 : decide (false = t574) = true := by simpa using c53))
            (try (have c53b2 : (false == t574) = true := by simpa using c53))
            clear c53
            obtain rfl := Option.some.inj H
            try go_wp2
            replace HO_3 := Aside0.mk (Kd.N_drew HO_3.out)
            replace HO_4 := Aside0.mk (Kd.R_drew HO_4.out)
            replace HO_5 := Aside0.mk (Kd.N_drew HO_5.out)
            replace HB := Aside0.mk (below_drew1 HB.out)
            have q55 : (x7_2 : Int) ≤ ((t537.length : Int) : Int) := of_decide_eq_true z18_4
            obtain ⟨i055, hi055, _, hsz55, _⟩ := info_parts info28
            have hroom55 : t537.length ≤ co7 := (Kd.N_reads' HO_3.out).2.1
            have hC55 : Kd.F (Kd.slice 3 (Kd.int .i64)) _ _ Ao7 t537.length t537 := (Kd.V_at (base := w.heap.size) (Kd.N_V HO_3.out)).2.2
            have hcut55 := cut_to (P := Try.prog) 22 28 .i64 Try.underlying22 hi055 Ao7 t537.length co7 x7_2 (of_decide_eq_true z18_4) q55 hroom55
            have hr55 := Kd.F_take (m := (x7_2 : Int).toNat) hC55 (by omega)
            have hy55 : y568.length = (x7_2 : Int).toNat := (by rw [Ny568.out, List.length_take]; omega)
            rw [← Ny568.out] at hr55
            rw [← hy55] at hcut55
            have HO572 := Aside0.mk (show Kd.V (Kd.slice 3 (Kd.int .i64)) 28 _ w.heap.size _ (.slice Ao7 y568.length co7) y568 from Kd.V_mk (by omega) hr55)
            have HC572 := Aside0.mk (show y568.length ≤ co7 from by omega)
            clear hr55 hC55 hroom55 hi055 hsz55
            have KY55 := Aside0.mk hy55
            clear hy55
            replace q55 := eq_true q55
            have p573 : 0 ≤ (x7_2 : Int) := of_decide_eq_true z18_4
            have q573 : x7_2 < (t537.length : Int) := of_decide_eq_true z18_4
            obtain ⟨ad573, A573_0, c573_0, e573, hx573_0, hl573_0, hi573_0⟩ := at_L1 (Kd.N_reads' HO_3.out).2.2 x7_2 p573 q573
            cases e573
            obtain ⟨ce573, hce573, hMe573, hcc573⟩ := Kd.N_get HO_3.out [] x7_2 p573 (by first | exact q573 | exact of_decide_eq_true z18_4 | (have e_ := (Kd.N_reads' HO_3.out).1; omega))
            obtain ⟨ua573_0, uc573_0, rfl, ul573_0, ge573_0⟩ := Kd.FK_slice_open hMe573
            have hv573_0 := hcc573 0 _ rfl
            rw [Nat.add_zero, show ((Kd.slice 3 (Kd.int .i64))).sz = 1 from rfl, Nat.mul_one] at hv573_0
            replace hv573_0 := Option.some.inj (hv573_0.symm.trans hx573_0)
            injection hv573_0 with hva_ hvn_ hvc_
            rw [hva_] at ge573_0
            rw [hvc_] at ul573_0
            have HL573_0 := Aside0.mk (show Kd.V (Kd.int .i64) 3 _ w.heap.size _ _ (rd_L1 t537 x7_2) from Kd.V_mk ul573_0 ge573_0)
            clear hva_ hvn_ hvc_ ge573_0 ul573_0
            clear hcc573 hce573
            have HR573_0 := Aside0.mk hi573_0
            have HC573_0 := Aside0.mk hl573_0
            clear hi573_0 hl573_0
            replace p573 := eq_true p573
            replace q573 := eq_true q573
            refine start_ (n := 10) (S := fun w' => w'.cell? (ad573.add (x7_2).toNat) = some (.slice A573_0 (rd_L1 t537 x7_2).length c573_0)) (ds := []) #[false, false, false, false, false, false, false, false, false, false] (by kernel_rfl) rfl rfl (hx573_0) (fun hHeld => ?_); refine with_tabW laws_FnSpanFirst.tab16 laws_FnSpanFirst.bits16 (fun HT_ HW_ => ?_)
            generalize wc.drew = w54 at HO_3 HO_4 HO_5 HB HL573_0 HO572 HR573_0 hx573_0 hHeld ⊢
            refine pZ 0 HT_ ?_
            refine pZ 1 HT_ ?_
            refine pZ 2 HT_ ?_
            refine pZ 3 HT_ ?_
            refine pZ 4 HT_ ?_
            refine pZ 5 HT_ ?_
            refine pZ 6 HT_ ?_
            refine take_ (i := 7) (N := some 66) (v := ?_) (a' := ?_) #[true, true, true, true, true, true, true, true, false, false] rfl rfl (take_ofW HT_.out HW_.out (by kernel_rfl)) (fun _ _ _ h => h) (Or.inl ⟨by rfl, ?_⟩) hHeld ?_ ?_
            rotate_left
            ·intro w' s0
             go_simp
             with_reducible rfl
            rotate_left
            ·simp only [Act.put, List.setIfInBounds_toArray, List.set_cons_zero, List.set_cons_succ, i64_w, i32_w]
             rfl
            refine oZ 8 HT_ (fun K hK => ?_)
            refine goes_ Try.func22 (by kernel_rfl) rfl #[.slice (some ad573) y568.length co7, .slice A573_0 (rd_L1 t537 x7_2).length c573_0] (by rfl) rfl rfl z18_3 ?_
            with_reducible refine (impl_SpanHas.calls kj27 _ _ y568 _ _ (rd_L1 t537 x7_2) t574 _ ?side1 ?side2 ?side3 ?side4 A52.out).mono ?_
            (case side1 => exact cZ ((Kd.V_reads' HO572.out).2.2))
            (case side2 => first | exact (Kd.V_reads' HO572.out).2.1 | exact Nat.le_refl _)
            (case side3 => repeat (first | exact z18_7 | (with_reducible refine Kd.C_alloc ?_ _) | (with_reducible refine Kd.C_drewN ?_ _) | (with_reducible refine Kd.C_drew ?_)))
            (case side4 => exact HC573_0.out)
            rintro e w56 ⟨rfl, hb⟩
            have HS0_ := (hb.cell (World.block_lt_of_cell? _ _ (hHeld))).trans (hHeld)
            refine ⟨_, rfl, ?_⟩
            replace HO_3 := Aside0.mk (Kd.N_below z18_2 hb)
            replace HO_4 := Aside0.mk (Kd.R_below z18_1 hb)
            replace HO_5 := Aside0.mk (Kd.N_below z18_5 hb)
            replace HO572 := Aside0.mk (Kd.V_below (by (with_reducible repeat (first | apply Kd.V_alloc | apply Kd.V_drewN | apply Kd.V_drew)); exact HO572.out) hb)
            replace HL573_0 := Aside0.mk (Kd.V_below (by (with_reducible repeat (first | apply Kd.V_alloc | apply Kd.V_drewN | apply Kd.V_drew)); exact HL573_0.out) hb)
            replace HR573_0 := Aside0.mk (Kd.C_below z18_7 hb)
            replace HB := Aside0.mk (below_step z18_0 hb)
            (try clear hb)
            (try clear hb2)
            (try clear hk)
            (try clear hi)
            refine hK.out _ _ (HS0_) (fun hHeld => ?_)
            clear hK K
            refine nZ ?_
            refine pZ 9 HT_ ?_
            refine done_ (done_of HT_.out (by kernel_rfl)) ?_
            try go_wp2
            go_ret
            exact ⟨z18_8, z18_0⟩
           ·rw [if_neg c53] at H
            have c53b0 : (false == t574) = false := by simpa using c53
            (try (have c53b1 : decide (false = t574) = false := by simpa using c53))
            (try (have c53b2 : (false == t574) = false := by simpa using c53))
            (try (have c53b3 : ¬ (false = t574) := by simpa using c53))
            clear c53
            have H' := Aside0.mk H
            clear H
            try go_wp2
            replace HO_3 := Aside0.mk (Kd.N_drew HO_3.out)
            replace HO_4 := Aside0.mk (Kd.R_drew HO_4.out)
            replace HO_5 := Aside0.mk (Kd.N_drew HO_5.out)
            replace HB := Aside0.mk (below_drew1 HB.out)
            have q58 : (x7_2 : Int) ≤ ((t537.length : Int) : Int) := of_decide_eq_true z18_4
            obtain ⟨i058, hi058, _, hsz58, _⟩ := info_parts info28
            have hroom58 : t537.length ≤ co7 := (Kd.N_reads' HO_3.out).2.1
            have hC58 : Kd.F (Kd.slice 3 (Kd.int .i64)) _ _ Ao7 t537.length t537 := (Kd.V_at (base := w.heap.size) (Kd.N_V HO_3.out)).2.2
            have hcut58 := cut_to (P := Try.prog) 22 28 .i64 Try.underlying22 hi058 Ao7 t537.length co7 x7_2 (of_decide_eq_true z18_4) q58 hroom58
            have hr58 := Kd.F_take (m := (x7_2 : Int).toNat) hC58 (by omega)
            have hy58 : y568.length = (x7_2 : Int).toNat := (by rw [Ny568.out, List.length_take]; omega)
            rw [← Ny568.out] at hr58
            rw [← hy58] at hcut58
            have HO572 := Aside0.mk (show Kd.V (Kd.slice 3 (Kd.int .i64)) 28 _ w.heap.size _ (.slice Ao7 y568.length co7) y568 from Kd.V_mk (by omega) hr58)
            have HC572 := Aside0.mk (show y568.length ≤ co7 from by omega)
            clear hr58 hC58 hroom58 hi058 hsz58
            have KY58 := Aside0.mk hy58
            clear hy58
            replace q58 := eq_true q58
            have p573 : 0 ≤ (x7_2 : Int) := of_decide_eq_true z18_4
            have q573 : x7_2 < (t537.length : Int) := of_decide_eq_true z18_4
            obtain ⟨ad573, A573_0, c573_0, e573, hx573_0, hl573_0, hi573_0⟩ := at_L1 (Kd.N_reads' HO_3.out).2.2 x7_2 p573 q573
            cases e573
            obtain ⟨ce573, hce573, hMe573, hcc573⟩ := Kd.N_get HO_3.out [] x7_2 p573 (by first | exact q573 | exact of_decide_eq_true z18_4 | (have e_ := (Kd.N_reads' HO_3.out).1; omega))
            obtain ⟨ua573_0, uc573_0, rfl, ul573_0, ge573_0⟩ := Kd.FK_slice_open hMe573
            have hv573_0 := hcc573 0 _ rfl
            rw [Nat.add_zero, show ((Kd.slice 3 (Kd.int .i64))).sz = 1 from rfl, Nat.mul_one] at hv573_0
            replace hv573_0 := Option.some.inj (hv573_0.symm.trans hx573_0)
            injection hv573_0 with hva_ hvn_ hvc_
            rw [hva_] at ge573_0
            rw [hvc_] at ul573_0
            have HL573_0 := Aside0.mk (show Kd.V (Kd.int .i64) 3 _ w.heap.size _ _ (rd_L1 t537 x7_2) from Kd.V_mk ul573_0 ge573_0)
            clear hva_ hvn_ hvc_ ge573_0 ul573_0
            clear hcc573 hce573
            have HR573_0 := Aside0.mk hi573_0
            have HC573_0 := Aside0.mk hl573_0
            clear hi573_0 hl573_0
            replace p573 := eq_true p573
            replace q573 := eq_true q573
            refine start_ (n := 10) (S := fun w' => w'.cell? (ad573.add (x7_2).toNat) = some (.slice A573_0 (rd_L1 t537 x7_2).length c573_0)) (ds := []) #[false, false, false, false, false, false, false, false, false, false] (by kernel_rfl) rfl rfl (hx573_0) (fun hHeld => ?_); refine with_tabW laws_FnSpanFirst.tab16 laws_FnSpanFirst.bits16 (fun HT_ HW_ => ?_)
            generalize wc.drew = w57 at HO_3 HO_4 HO_5 HB HL573_0 HO572 HR573_0 hx573_0 hHeld ⊢
            refine pZ 0 HT_ ?_
            refine pZ 1 HT_ ?_
            refine pZ 2 HT_ ?_
            refine pZ 3 HT_ ?_
            refine pZ 4 HT_ ?_
            refine pZ 5 HT_ ?_
            refine pZ 6 HT_ ?_
            refine take_ (i := 7) (N := some 66) (v := ?_) (a' := ?_) #[true, true, true, true, true, true, true, true, false, false] rfl rfl (take_ofW HT_.out HW_.out (by kernel_rfl)) (fun _ _ _ h => h) (Or.inl ⟨by rfl, ?_⟩) hHeld ?_ ?_
            rotate_left
            ·intro w' s0
             go_simp
             with_reducible rfl
            rotate_left
            ·simp only [Act.put, List.setIfInBounds_toArray, List.set_cons_zero, List.set_cons_succ, i64_w, i32_w]
             rfl
            refine oZ 8 HT_ (fun K hK => ?_)
            refine goes_ Try.func22 (by kernel_rfl) rfl #[.slice (some ad573) y568.length co7, .slice A573_0 (rd_L1 t537 x7_2).length c573_0] (by rfl) rfl rfl z18_3 ?_
            with_reducible refine (impl_SpanHas.calls kj27 _ _ y568 _ _ (rd_L1 t537 x7_2) t574 _ ?side1 ?side2 ?side3 ?side4 A52.out).mono ?_
            (case side1 => exact cZ ((Kd.V_reads' HO572.out).2.2))
            (case side2 => first | exact (Kd.V_reads' HO572.out).2.1 | exact Nat.le_refl _)
            (case side3 => repeat (first | exact z18_7 | (with_reducible refine Kd.C_alloc ?_ _) | (with_reducible refine Kd.C_drewN ?_ _) | (with_reducible refine Kd.C_drew ?_)))
            (case side4 => exact HC573_0.out)
            rintro e w59 ⟨rfl, hb⟩
            have HS0_ := (hb.cell (World.block_lt_of_cell? _ _ (hHeld))).trans (hHeld)
            refine ⟨_, rfl, ?_⟩
            replace HO_3 := Aside0.mk (Kd.N_below z18_2 hb)
            replace HO_4 := Aside0.mk (Kd.R_below z18_1 hb)
            replace HO_5 := Aside0.mk (Kd.N_below z18_5 hb)
            replace HO572 := Aside0.mk (Kd.V_below (by (with_reducible repeat (first | apply Kd.V_alloc | apply Kd.V_drewN | apply Kd.V_drew)); exact HO572.out) hb)
            replace HL573_0 := Aside0.mk (Kd.V_below (by (with_reducible repeat (first | apply Kd.V_alloc | apply Kd.V_drewN | apply Kd.V_drew)); exact HL573_0.out) hb)
            replace HR573_0 := Aside0.mk (Kd.C_below z18_7 hb)
            replace HB := Aside0.mk (below_step z18_0 hb)
            (try clear hb)
            (try clear hb2)
            (try clear hk)
            (try clear hi)
            refine hK.out _ _ (HS0_) (fun hHeld => ?_)
            clear hK K
            refine nZ ?_
            refine pZ 9 HT_ ?_
            refine done_ (done_of HT_.out (by kernel_rfl)) ?_
            try go_wp2
            go_roundg kj27
            case measure => have := HJ4.out; have := HK2.out; have := HJ27.out; omega
            case rel => exact ⟨(x5_2), (x6_2), (wrap64 (x7_2 + 1)), z18_9, z18_9, H', ⟨by have := HJ4.out; have := HK2.out; have := HJ27.out; omega⟩, ⟨z18_2⟩, ⟨z18_1⟩, ⟨z18_5⟩, ⟨z18_0⟩⟩
       ·rw [if_neg c27] at H
        have c27b0 : decide (x7_2 < (t537.length : Int)) = false := decide_eq_false c27
        clear c27
        by_cases c60 : x6_2 = (t540.length : Int)
        ·rw [if_pos c60] at H
         have c60b0 : (x6_2 == (t540.length : Int)) = true := beq_iff_eq.mpr c60
         have c60b1 : (x6_2 != (t540.length : Int)) = false := bne_eq_false_iff_eq.mpr c60
         clear c60
         replace H := Option.bind_eq_some_iff.mp H
         obtain ⟨t555, A610, H⟩ := H
         replace H : (some t555) = some r := H
         have A61 := Aside0.mk A610
         clear A610
         obtain rfl := Option.some.inj H
         obtain ⟨Ao62, co62, eo62⟩ := Kd.R_slice HO_4.out
         subst eo62
         try simp only [clip_slice]
         obtain ⟨Ao63, co63, eo63⟩ := Kd.N_slice HO_5.out
         subst eo63
         try simp only [clip_slice]
         go_wp2_with (first | (go_at_call 32; (with_reducible refine (impl_SpanSame.calls k2 _ _ x5_2 _ _ t537 t555 _ ?side1 ?side2 ?side3 ?side4 A61.out).mono ?_); (case side1 => exact cZ ((Kd.N_reads' HO_5.out).2.2)); (case side2 => first | exact (Kd.N_reads' HO_5.out).2.1 | exact Nat.le_refl _); (case side3 => exact cZ ((Kd.N_reads' HO_3.out).2.2)); (case side4 => first | exact (Kd.N_reads' HO_3.out).2.1 | exact Nat.le_refl _); rintro e w64 ⟨rfl, hb⟩; replace HO_3 := Aside0.mk (Kd.N_below z18_2 hb); replace HO_4 := Aside0.mk (Kd.R_below z18_1 hb); replace HO_5 := Aside0.mk (Kd.N_below z18_5 hb); replace HB := Aside0.mk (below_step z18_0 hb); (try clear hb)))
         go_ret
         exact ⟨z18_8, z18_0⟩
        ·rw [if_neg c60] at H
         have c60b0 : (x6_2 == (t540.length : Int)) = false := beq_eq_false_iff_ne.mpr c60
         have c60b1 : (x6_2 != (t540.length : Int)) = true := bne_iff_ne.mpr c60
         obtain rfl := Option.some.inj H
         obtain ⟨Ao65, co65, eo65⟩ := Kd.R_slice HO_4.out
         subst eo65
         try simp only [clip_slice]
         go_wp2
         go_ret
         exact ⟨z18_8, z18_0⟩

/-- THE ONE PURE STATEMENT of laws_FnSpanFirst: yours. -/
def laws_FnSpanFirst.Pure : Prop := ∀ (l0 : List Int), l0.length ≤ maxLen → l0.length * 1 ≤ 140737488351232 → (∀ x ∈ l0, (Lit.int .u8 x).wf = true) → ∃ k, laws_FnSpanFirst.f k l0 = some true
theorem laws_FnSpanFirst.walk (P : laws_FnSpanFirst.Pure) (a0 : Option Addr) (len0 cap0 : Nat) (z0 : List Int) (w : World) (w0 : (a0 = none ∧ len0 = 0 ∧ cap0 = 0 ∧ z0 = []) ∨ ∃ x, a0 = some x ∧ len0 ≤ cap0 ∧ cap0 ≤ maxLen ∧ z0.length = cap0 ∧ (∀ i, i < z0.length → w.cell? (x.add i) = some (.int .u8 (z0.getD i 0))) ∧ ∀ n ∈ z0, (Lit.int .u8 n).wf = true) (y0 : len0 * 1 ≤ 140737488351232) :
  Calls Try.prog 9 #[.slice a0 len0 cap0] w fun e w' => e = .returned (.bool true) ∧ Below w.heap.size w w' := by
 obtain ⟨l0, rfl, hr0, hm0, hw0, hc0⟩ := ReadsInt.ofRowC w0
 obtain ⟨k, h⟩ := P l0 hm0 y0 hw0
 refine (laws_FnSpanFirst.calls k _ _ l0 true w (Kd.C_of_reads (d := (0 : Int)) (h1 := fun _ => rfl) hr0) hc0 h).mono ?_
 rintro e w' ⟨rfl, hd⟩
 exact ⟨rfl, hd⟩

end Go.Proofs.Ytbhmgbeebhmfkaa.PA
