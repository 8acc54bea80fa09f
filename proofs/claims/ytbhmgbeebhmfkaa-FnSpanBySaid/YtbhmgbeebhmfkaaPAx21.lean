-- Written by a program of this session (after the manner of the kit's print, several laws in one text).
import Derived.Test.YtbhmgbeebhmfkaaPAx0
import Derived.Test.YtbhmgbeebhmfkaaPAx11
import Derived.Test.YtbhmgbeebhmfkaaPAx13
import Derived.Test.YtbhmgbeebhmfkaaPAx14
import Derived.Test.YtbhmgbeebhmfkaaPAx15
import Derived.Test.YtbhmgbeebhmfkaaPAx20
import Derived.Test.YtbhmgbeebhmfkaaGw
import Derived.Test.YtbhmgbeebhmfkaaGm
import Derived.Test.YtbhmgbeebhmfkaaHf
namespace Go.Proofs.Ytbhmgbeebhmfkaa.PA
open Go.RowKit Go.Proofs.YtbhmgbeebhmfkaaW.PrintWords Go.Proofs.YtbhmgbeebhmfkaaW.PrintLast Go.Proofs.YtbhmgbeebhmfkaaW.PrintMore
attribute [local go_sem] max2_int min2_int max_two min_two max_three min_three max_four min_four   -- for this text's walks alone
set_option linter.unusedVariables false
set_option linter.unusedSimpArgs false

/-! ### laws_FnSpanBy: function 14 -/
theorem z21_0 {p : Prop} (h : p := by repeat (first | (with_reducible first | exact HB.out | apply below_alloc | apply pw_below_drewN | apply below_drew1) | exact HB.out)) : p := h
theorem z21_1 {p : Prop} (h : p := by (try simp only [List.map_toArray, List.map_cons, List.map_nil]); first | done | rfl | (simp only [List.length_drop, List.length_take]; rfl)) : p := h
theorem z21_2 {p : Prop} (h : p := by (with_reducible repeat (first | apply Kd.Q_alloc | apply Kd.Q_drewN | apply Kd.Q_drew)); exact HO_4.out) : p := h
theorem z21_3 {p : Prop} (h : p := by (with_reducible repeat (first | apply Kd.R_alloc | apply Kd.R_drewN | apply Kd.R_drew)); exact HO_7.out) : p := h
theorem z21_4 {p : Prop} (h : p := by (with_reducible repeat (first | apply Kd.R_alloc | apply Kd.R_drewN | apply Kd.R_drew)); exact HO_9.out) : p := h
theorem z21_5 {p : Prop} (h : p := by (with_reducible repeat (first | apply Kd.N_alloc | apply Kd.N_drewN | apply Kd.N_drew)); exact HO_3.out) : p := h
theorem z21_6 {p : Prop} (h : p := by first | rfl | (simp; done) | (simp [*]; done)) : p := h
theorem z21_7 {p : Prop} (h : p := by first | rfl | (simp [errW_none, errW_some] <;> rfl) | (simp [*, errW_none, errW_some] <;> rfl)) : p := h
theorem z21_8 {p : Prop} (h : p := by (with_reducible repeat (first | apply Kd.Q_alloc | apply Kd.Q_drewN | apply Kd.Q_drew)); exact HO613.out) : p := h
theorem z21_9 {p : Prop} (h : p := by (with_reducible repeat (first | apply Kd.N_alloc | apply Kd.N_drewN | apply Kd.N_drew)); exact Kd.N_mono HO610.out (fun _ hk => ⟨hk.1.1, ⟨hk.1.2, hk.2⟩⟩)) : p := h
theorem z21_10 {p : Prop} (h : p := by (with_reducible repeat (first | apply Kd.Q_alloc | apply Kd.Q_drewN | apply Kd.Q_drew)); exact Kd.Q_mono HO613.out (fun _ hk => ⟨hk.1.2, hk.2⟩)) : p := h
theorem z21_11 {p : Prop} (h : p := by (with_reducible repeat (first | apply Kd.R_alloc | apply Kd.R_drewN | apply Kd.R_drew)); exact Kd.R_mono HO616.out (fun _ hk => ⟨hk.1.2, hk.2⟩)) : p := h
theorem z21_12 {p : Prop} (h : p := by (with_reducible repeat (first | apply Kd.R_alloc | apply Kd.R_drewN | apply Kd.R_drew)); exact Kd.R_mono HO621.out (fun _ hk => ⟨hk.1.2, hk.2⟩)) : p := h
theorem z21_13 {p : Prop} (h : p := by first | (with_reducible assumption) | assumption) : p := h
mutual
def laws_FnSpanBy.j0 : Nat → List (List Int) → List Int → List Int → Bool → List Int → Bool → Bool → Option (Bool)
  | 0, _, _, _, _, _, _, _ => none
  | k + 1, x3, x4, x5, x6, x7, x8, x44 => if x44 = true then (if (x8 == x6) = true then ((laws_lkInts.f k x7 x5).bind fun t623 => (some t623)) else (some false)) else ((impl_SpanFirst.f x3).bind fun t624 => (laws_FnSpanBy.l0 k x3 x4 x7 t624 0 0))
def laws_FnSpanBy.l0 : Nat → List (List Int) → List Int → List Int → List Int → Int → Int → Option (Bool)
  | 0, _, _, _, _, _, _ => none
  | k + 1, x3, x4, x7, x9, x10, x11 => if x11 < (x3.length : Int) then (if x10 < (x9.length : Int) then (if 0 ≤ x10 then (laws_FnSpanBy.j2 k x3 x4 x7 x9 x10 x11 ((rd x9 x10) == x11)) else (none)) else (laws_FnSpanBy.j2 k x3 x4 x7 x9 x10 x11 false)) else ((laws_lkMade.f k x3 x7).bind fun t627 => ((laws_lkInts.f k t627 x4).bind fun t630 => (if t630 = true then (some ((x7.length : Int) == (x3.length : Int))) else (some false))))
def laws_FnSpanBy.j2 : Nat → List (List Int) → List Int → List Int → List Int → Int → Int → Bool → Option (Bool)
  | 0, _, _, _, _, _, _, _ => none
  | k + 1, x3, x4, x7, x9, x10, x11, x72 => if x72 = true then (laws_FnSpanBy.l0 k x3 x4 x7 x9 (wrap64 (x10 + 1)) (wrap64 (x11 + 1))) else (if 0 ≤ x11 then (if x11 < (x7.length : Int) then (if (rd x7 x11) = 0 then (laws_FnSpanBy.l0 k x3 x4 x7 x9 x10 (wrap64 (x11 + 1))) else (some false)) else (none)) else (none))
end
def laws_FnSpanBy.f (k : Nat) (l0 : List Int) : Option (Bool) := if (l0.length : Int) > 1048576 then (some true) else ((spec_DrawSpanBy.f k l0).bind fun bt608 => ((spec_SpanBy.f k bt608.1 bt608.2).bind fun bt614 => ((impl_SpanBy.f k bt608.1 bt608.2).bind fun bt618 => (if (bt618.2 != bt614.2) = true then (laws_FnSpanBy.j0 k bt608.1 bt608.2 bt614.1 bt614.2 bt618.1 bt618.2 true) else ((laws_lkInts.f k bt618.1 bt614.1).bind fun t622 => (if t622 = true then (laws_FnSpanBy.j0 k bt608.1 bt608.2 bt614.1 bt614.2 bt618.1 bt618.2 (!bt618.2)) else (laws_FnSpanBy.j0 k bt608.1 bt608.2 bt614.1 bt614.2 bt618.1 bt618.2 true)))))))
set_option maxHeartbeats 8000000 in
set_option maxRecDepth 100000 in
theorem laws_FnSpanBy.calls (k : Nat) (A0 : Option Addr) (c0 : Nat) (l0 : List Int) (r : Bool) (w : World) (hr0 : Kd.C (Kd.int .u8) w A0 l0.length l0) (hc0 : l0.length ≤ c0) (h : laws_FnSpanBy.f k l0 = some r) :
  Calls Try.prog 14 #[.slice A0 l0.length c0] w fun e w' => e = .returned (.bool r) ∧ Below w.heap.size w w' := by
 have HR0 := Aside0.mk hr0
 have HC0 := Aside0.mk hc0
 clear hr0 hc0
 have HB := Aside0.mk (Below.refl w.heap.size w)
 have H : (if (l0.length : Int) > 1048576 then (some true) else ((spec_DrawSpanBy.f k l0).bind fun bt608 => ((spec_SpanBy.f k bt608.1 bt608.2).bind fun bt614 => ((impl_SpanBy.f k bt608.1 bt608.2).bind fun bt618 => (if (bt618.2 != bt614.2) = true then (laws_FnSpanBy.j0 k bt608.1 bt608.2 bt614.1 bt614.2 bt618.1 bt618.2 true) else ((laws_lkInts.f k bt618.1 bt614.1).bind fun t622 => (if t622 = true then (laws_FnSpanBy.j0 k bt608.1 bt608.2 bt614.1 bt614.2 bt618.1 bt618.2 (!bt618.2)) else (laws_FnSpanBy.j0 k bt608.1 bt608.2 bt614.1 bt614.2 bt618.1 bt618.2 true)))))))) = some r := h
 clear h
 by_cases c2 : (l0.length : Int) > 1048576
 ·rw [if_pos c2] at H
  have c2b0 : decide (1048576 < (l0.length : Int)) = true := decide_eq_true c2
  have c2b1 : decide (1048576 < l0.length) = true := decide_eq_true (by omega)
  clear c2
  obtain rfl := Option.some.inj H
  go_enter Try.func14, Try.ntmps14
  go_wp2
  go_ret
  exact ⟨z21_7, z21_0⟩
 ·rw [if_neg c2] at H
  have c2b0 : decide (1048576 < (l0.length : Int)) = false := decide_eq_false c2
  have c2b1 : decide (1048576 < l0.length) = false := decide_eq_false (by omega)
  clear c2
  replace H := Option.bind_eq_some_iff.mp H
  obtain ⟨⟨t608, t611⟩, A30, H⟩ := H
  replace H : ((spec_SpanBy.f k t608 t611).bind fun bt614 => ((impl_SpanBy.f k t608 t611).bind fun bt618 => (if (bt618.2 != bt614.2) = true then (laws_FnSpanBy.j0 k t608 t611 bt614.1 bt614.2 bt618.1 bt618.2 true) else ((laws_lkInts.f k bt618.1 bt614.1).bind fun t622 => (if t622 = true then (laws_FnSpanBy.j0 k t608 t611 bt614.1 bt614.2 bt618.1 bt618.2 (!bt618.2)) else (laws_FnSpanBy.j0 k t608 t611 bt614.1 bt614.2 bt618.1 bt618.2 true)))))) = some r := H
  have A3 := Aside0.mk A30
  clear A30
  replace H := Option.bind_eq_some_iff.mp H
  obtain ⟨⟨t614, t617⟩, A40, H⟩ := H
  replace H : ((impl_SpanBy.f k t608 t611).bind fun bt618 => (if (bt618.2 != t617) = true then (laws_FnSpanBy.j0 k t608 t611 t614 t617 bt618.1 bt618.2 true) else ((laws_lkInts.f k bt618.1 t614).bind fun t622 => (if t622 = true then (laws_FnSpanBy.j0 k t608 t611 t614 t617 bt618.1 bt618.2 (!bt618.2)) else (laws_FnSpanBy.j0 k t608 t611 t614 t617 bt618.1 bt618.2 true))))) = some r := H
  have A4 := Aside0.mk A40
  clear A40
  replace H := Option.bind_eq_some_iff.mp H
  obtain ⟨⟨t618, t619⟩, A50, H⟩ := H
  replace H : (if (t619 != t617) = true then (laws_FnSpanBy.j0 k t608 t611 t614 t617 t618 t619 true) else ((laws_lkInts.f k t618 t614).bind fun t622 => (if t622 = true then (laws_FnSpanBy.j0 k t608 t611 t614 t617 t618 t619 (!t619)) else (laws_FnSpanBy.j0 k t608 t611 t614 t617 t618 t619 true)))) = some r := H
  have A5 := Aside0.mk A50
  clear A50
  have HC6 := Aside0.mk H
  clear H
  go_enter Try.func14, Try.ntmps14
  go_upto_region 6 with (first | ((with_reducible refine gate_callee (f := 46) rfl ?_); refine goesL_ (some 17) rfl rfl Try.func46 (by kernel_rfl) rfl #[.slice A0 l0.length c0] rfl z21_1 ?_; (with_reducible refine (spec_DrawSpanBy.calls k _ _ l0 t608 t611 _ ?side1 ?side2 A3.out).mono ?_); (case side1 => exact cZ (HR0.out)); (case side2 => exact HC0.out); rintro e w7 ⟨v609, v612, rfl, ho0, ho1, hb⟩; refine ⟨_, rfl, ?_⟩; have HO610 := Aside0.mk (Kd.N_lower (Kd.N_mono (ok' := fun k_ => some k_ ≠ (v612 : Value).ownBlock) ho0 (fun k_ hk_ => hk_.2)) (below_size z21_0)); have HO613 := Aside0.mk (Kd.Q_lower (Kd.Q_mono (ok' := fun k_ => True) ho1 (fun _ hk_ => trivial)) (below_size z21_0)); replace HB := Aside0.mk (below_step z21_0 hb); (try clear hb); (try clear ho0); (try clear ho1); obtain ⟨Ao8, co8, eo8⟩ := Kd.N_slice HO610.out; subst eo8; (try simp only [clip_slice]); obtain ⟨Ao9, co9, eo9, _⟩ := Kd.Q_slice HO613.out; subst eo9; (try simp only [clip_slice])) | ((with_reducible refine gate_callee (f := 29) rfl ?_); refine goesL_ (some 23) rfl rfl Try.func29 (by kernel_rfl) rfl #[.slice Ao8 t608.length co8, .slice Ao9 t611.length co9] rfl z21_1 ?_; (with_reducible refine (spec_SpanBy.calls k (fun k_ => some k_ ≠ (.slice Ao9 t611.length co9 : Value).ownBlock) _ _ t608 _ _ t611 t614 t617 _ ?side1 ?side2 ?side3 A4.out).mono ?_); (case side1 => exact Kd.N_V (HO610.out)); (case side2 => exact cZ ((Kd.Q_reads' HO613.out).2.2)); (case side3 => first | exact (Kd.Q_reads' HO613.out).2.1 | exact Nat.le_refl _); rintro e w10 ⟨v615, rfl, ho0, hb⟩; refine ⟨_, rfl, ?_⟩; replace HO610 := Aside0.mk (Kd.N_elder' (by (with_reducible repeat (first | apply Kd.N_alloc | apply Kd.N_drewN | apply Kd.N_drew)); exact HO610.out) (Kd.R_base ho0) hb); have HO616 := Aside0.mk (Kd.R_lower (Kd.R_new' (Kd.R_mono (ok' := fun k_ => True) ho0 (fun _ hk_ => trivial)) (Kd.Q_lt z21_8)) (below_size z21_0)); replace HO613 := Aside0.mk (Kd.Q_elder' z21_8 (Kd.R_base ho0) hb); replace HB := Aside0.mk (below_step z21_0 hb); (try clear hb); (try clear ho0)) | ((with_reducible refine gate_callee (f := 30) rfl ?_); refine goesL_ (some 29) rfl rfl Try.func30 (by kernel_rfl) rfl #[.slice Ao8 t608.length co8, .slice Ao9 t611.length co9] rfl z21_1 ?_; (with_reducible refine (impl_SpanBy.calls k _ _ t608 _ _ t611 t618 t619 _ ?side1 ?side2 ?side3 ?side4 A5.out).mono ?_); (case side1 => exact cZ ((Kd.N_reads' HO610.out).2.2)); (case side2 => first | exact (Kd.N_reads' HO610.out).2.1 | exact Nat.le_refl _); (case side3 => exact cZ ((Kd.Q_reads' HO613.out).2.2)); (case side4 => first | exact (Kd.Q_reads' HO613.out).2.1 | exact Nat.le_refl _); rintro e w11 ⟨v620, rfl, ho0, hb⟩; refine ⟨_, rfl, ?_⟩; replace HO610 := Aside0.mk (Kd.N_elder' (by (with_reducible repeat (first | apply Kd.N_alloc | apply Kd.N_drewN | apply Kd.N_drew)); exact HO610.out) (Kd.R_base ho0) hb); have HO621 := Aside0.mk (Kd.R_lower (Kd.R_new' (Kd.R_new' ho0 (Kd.Q_lt z21_8)) (Kd.R_lt (by (with_reducible repeat (first | apply Kd.R_alloc | apply Kd.R_drewN | apply Kd.R_drew)); exact HO616.out))) (below_size z21_0)); replace HO613 := Aside0.mk (Kd.Q_elder' z21_8 (Kd.R_base ho0) hb); replace HO616 := Aside0.mk (Kd.R_elder' (by (with_reducible repeat (first | apply Kd.R_alloc | apply Kd.R_drewN | apply Kd.R_drew)); exact HO616.out) (Kd.R_base ho0) hb); replace HB := Aside0.mk (below_step z21_0 hb); (try clear hb); (try clear ho0)))
  (try simp only [Act.put, List.setIfInBounds_toArray, List.set_cons_zero, List.set_cons_succ])
  go_cut [44] (fun v44 wc => ∃ (kq : Nat) (x44_5 : Bool), v44 = .bool x44_5 ∧ Aside0 (laws_FnSpanBy.j0 kq t608 t611 t614 t617 t618 t619 x44_5 = some r) ∧ Aside0 (kq ≤ k) ∧ Aside0 (Kd.N (Kd.slice 3 (Kd.int .i64)) 28 wc w.heap.size (fun k_ => some k_ ≠ ((.slice Ao9 t611.length co9) : Value).ownBlock ∧ some k_ ≠ (v615 : Value).ownBlock ∧ some k_ ≠ (v620 : Value).ownBlock) (.slice Ao8 t608.length co8) t608) ∧ Aside0 (Kd.Q (Kd.int .i64) 3 wc w.heap.size (fun k_ => some k_ ≠ (v615 : Value).ownBlock ∧ some k_ ≠ (v620 : Value).ownBlock) (.slice Ao9 t611.length co9) t611) ∧ Aside0 (Kd.R (Kd.int .i64) 3 wc w.heap.size (fun k_ => some k_ ≠ ((.slice Ao9 t611.length co9) : Value).ownBlock ∧ some k_ ≠ (v620 : Value).ownBlock) v615 t614) ∧ Aside0 (Kd.R (Kd.int .i64) 3 wc w.heap.size (fun k_ => some k_ ≠ ((.slice Ao9 t611.length co9) : Value).ownBlock ∧ some k_ ≠ (v615 : Value).ownBlock) v620 t618) ∧ Aside0 (Below w.heap.size w wc))
  case first =>
   have H := HC6.out
   clear HC6
   by_cases c12 : (t619 != t617) = true
   ·rw [if_pos c12] at H
    have c12b0 : (t619 != t617) = true := c12
    (try (have c12b1 : decide (t619 = t617) = false := by simpa using c12))
    (try (have c12b2 : (t619 == t617) = false := by simpa using c12))
    (try (have c12b3 : ¬ (t619 = t617) := by simpa using c12))
    clear c12
    (first | rw [c12b0] | (simp only [i64_w, i32_w]; rw [c12b0]) | skip)
    have H' := Aside0.mk H
    clear H
    go_wp2
    go_meet
    case rel => exact ⟨_, (true), z21_6, H', ⟨by first | omega | exact Nat.le_refl _⟩, ⟨z21_9⟩, ⟨z21_10⟩, ⟨z21_11⟩, ⟨z21_12⟩, ⟨z21_0⟩⟩
   ·rw [if_neg c12] at H
    have c12b0 : (t619 != t617) = false := by simpa using c12
    (try (have c12b1 : decide (t619 = t617) = true := by simpa using c12))
    (try (have c12b2 : (t619 == t617) = true := by simpa using c12))
    clear c12
    (first | rw [c12b0] | (simp only [i64_w, i32_w]; rw [c12b0]) | skip)
    replace H := Option.bind_eq_some_iff.mp H
    obtain ⟨t622, A130, H⟩ := H
    replace H : (if t622 = true then (laws_FnSpanBy.j0 k t608 t611 t614 t617 t618 t619 (!t619)) else (laws_FnSpanBy.j0 k t608 t611 t614 t617 t618 t619 true)) = some r := H
    have A13 := Aside0.mk A130
    clear A130
    by_cases c14 : t622 = true
    ·subst c14
     have H1 : (laws_FnSpanBy.j0 k t608 t611 t614 t617 t618 t619 (!t619)) = some r := by rw [if_pos rfl] at H; exact H
     clear H
     have H := H1
     clear H1
     have H' := Aside0.mk H
     clear H
     obtain ⟨Ao15, co15, eo15⟩ := Kd.R_slice HO621.out
     subst eo15
     try simp only [clip_slice]
     obtain ⟨Ao16, co16, eo16⟩ := Kd.R_slice HO616.out
     subst eo16
     try simp only [clip_slice]
     go_wp2_with (first | (go_at_call 37; (with_reducible refine (laws_lkInts.calls k _ _ t618 _ _ t614 true _ ?side1 ?side2 ?side3 ?side4 A13.out).mono ?_); (case side1 => exact cZ ((Kd.R_reads' HO621.out).2.2)); (case side2 => first | exact (Kd.R_reads' HO621.out).2.1 | exact Nat.le_refl _); (case side3 => exact cZ ((Kd.R_reads' HO616.out).2.2)); (case side4 => first | exact (Kd.R_reads' HO616.out).2.1 | exact Nat.le_refl _); rintro e w' ⟨rfl, ⟨nd, rfl⟩⟩))
     go_meet
     case rel => exact ⟨_, (!t619), z21_6, H', ⟨by first | omega | exact Nat.le_refl _⟩, ⟨z21_9⟩, ⟨z21_10⟩, ⟨z21_11⟩, ⟨z21_12⟩, ⟨z21_0⟩⟩
    ·replace c14 := Bool.eq_false_iff.mpr c14
     subst c14
     have H1 : (laws_FnSpanBy.j0 k t608 t611 t614 t617 t618 t619 true) = some r := by rw [if_neg (show ¬ (false = true) by decide)] at H; exact H
     clear H
     have H := H1
     clear H1
     have H' := Aside0.mk H
     clear H
     obtain ⟨Ao17, co17, eo17⟩ := Kd.R_slice HO621.out
     subst eo17
     try simp only [clip_slice]
     obtain ⟨Ao18, co18, eo18⟩ := Kd.R_slice HO616.out
     subst eo18
     try simp only [clip_slice]
     go_wp2_with (first | (go_at_call 37; (with_reducible refine (laws_lkInts.calls k _ _ t618 _ _ t614 false _ ?side1 ?side2 ?side3 ?side4 A13.out).mono ?_); (case side1 => exact cZ ((Kd.R_reads' HO621.out).2.2)); (case side2 => first | exact (Kd.R_reads' HO621.out).2.1 | exact Nat.le_refl _); (case side3 => exact cZ ((Kd.R_reads' HO616.out).2.2)); (case side4 => first | exact (Kd.R_reads' HO616.out).2.1 | exact Nat.le_refl _); rintro e w' ⟨rfl, ⟨nd, rfl⟩⟩))
     go_meet
     case rel => exact ⟨_, (true), z21_6, H', ⟨by first | omega | exact Nat.le_refl _⟩, ⟨z21_9⟩, ⟨z21_10⟩, ⟨z21_11⟩, ⟨z21_12⟩, ⟨z21_0⟩⟩
  case rest =>
   clear HC6
   try clear c2
   try clear c2b0
   try clear c2b1
   obtain ⟨kq, x44_5, rfl, HA, HJ5, HO_3, HO_4, HO_5, HO_7, HB⟩ := hcut
   cases kq with
   | zero => exact absurd HA.out (by simp [laws_FnSpanBy.j0])
   | succ kj5 =>
    have H := HA.out
    clear HA
    simp only [laws_FnSpanBy.j0] at H
    by_cases c19 : x44_5 = true
    ·subst c19
     have H1 : (if (t619 == t617) = true then ((laws_lkInts.f kj5 t618 t614).bind fun t623 => (some t623)) else (some false)) = some r := by rw [if_pos rfl] at H; exact H
     clear H
     have H := H1
     clear H1
     by_cases c20 : (t619 == t617) = true
     ·rw [if_pos c20] at H
      have c20b0 : (t619 == t617) = true := c20
      (try (have c20b1 : decide (t619 = t617) = true := by simpa using c20))
      (try (have c20b2 : (t619 == t617) = true := by simpa using c20))
      clear c20
      replace H := Option.bind_eq_some_iff.mp H
      obtain ⟨t623, A210, H⟩ := H
      replace H : (some t623) = some r := H
      have A21 := Aside0.mk A210
      clear A210
      obtain rfl := Option.some.inj H
      obtain ⟨Ao22, co22, eo22⟩ := Kd.R_slice HO_7.out
      subst eo22
      try simp only [clip_slice]
      obtain ⟨Ao23, co23, eo23⟩ := Kd.R_slice HO_5.out
      subst eo23
      try simp only [clip_slice]
      go_wp2_with (first | (go_at_call 37; (with_reducible refine (laws_lkInts.calls kj5 _ _ t618 _ _ t614 t623 _ ?side1 ?side2 ?side3 ?side4 A21.out).mono ?_); (case side1 => exact cZ ((Kd.R_reads' HO_7.out).2.2)); (case side2 => first | exact (Kd.R_reads' HO_7.out).2.1 | exact Nat.le_refl _); (case side3 => exact cZ ((Kd.R_reads' HO_5.out).2.2)); (case side4 => first | exact (Kd.R_reads' HO_5.out).2.1 | exact Nat.le_refl _); rintro e w' ⟨rfl, ⟨nd, rfl⟩⟩))
      go_ret
      exact ⟨z21_7, z21_0⟩
     ·rw [if_neg c20] at H
      have c20b0 : (t619 == t617) = false := by simpa using c20
      (try (have c20b1 : decide (t619 = t617) = false := by simpa using c20))
      (try (have c20b2 : (t619 == t617) = false := by simpa using c20))
      (try (have c20b3 : ¬ (t619 = t617) := by simpa using c20))
      clear c20
      obtain rfl := Option.some.inj H
      go_wp2
      go_ret
      exact ⟨z21_7, z21_0⟩
    ·replace c19 := Bool.eq_false_iff.mpr c19
     subst c19
     have H1 : ((impl_SpanFirst.f t608).bind fun t624 => (laws_FnSpanBy.l0 kj5 t608 t611 t618 t624 0 0)) = some r := by rw [if_neg (show ¬ (false = true) by decide)] at H; exact H
     clear H
     have H := H1
     clear H1
     replace H := Option.bind_eq_some_iff.mp H
     obtain ⟨t624, A240, H⟩ := H
     replace H : (laws_FnSpanBy.l0 kj5 t608 t611 t618 t624 0 0) = some r := H
     have A24 := Aside0.mk A240
     clear A240
     have H' := Aside0.mk H
     clear H
     go_wp2_with (first | ((with_reducible refine gate_callee (f := 25) rfl ?_); refine goesL_ (some 54) rfl rfl Try.func25 (by kernel_rfl) rfl #[.slice Ao8 t608.length co8] rfl z21_1 ?_; (with_reducible refine (impl_SpanFirst.calls _ _ t608 t624 _ ?side1 ?side2 A24.out).mono ?_); (case side1 => exact cZ ((Kd.N_reads' HO_3.out).2.2)); (case side2 => first | exact (Kd.N_reads' HO_3.out).2.1 | exact Nat.le_refl _); rintro e w25 ⟨v625, rfl, ho0, hb⟩; refine ⟨_, rfl, ?_⟩; replace HO_3 := Aside0.mk (Kd.N_elder' z21_5 (Kd.R_base ho0) hb); have HO626 := Aside0.mk (Kd.R_lower (Kd.R_new' (Kd.R_new' (Kd.R_new' ho0 (Kd.Q_lt z21_2)) (Kd.R_lt (by (with_reducible repeat (first | apply Kd.R_alloc | apply Kd.R_drewN | apply Kd.R_drew)); exact HO_5.out))) (Kd.R_lt z21_3)) (below_size z21_0)); replace HO_4 := Aside0.mk (Kd.Q_elder' z21_2 (Kd.R_base ho0) hb); replace HO_5 := Aside0.mk (Kd.R_elder' (by (with_reducible repeat (first | apply Kd.R_alloc | apply Kd.R_drewN | apply Kd.R_drew)); exact HO_5.out) (Kd.R_base ho0) hb); replace HO_7 := Aside0.mk (Kd.R_elder' z21_3 (Kd.R_base ho0) hb); replace HB := Aside0.mk (below_step z21_0 hb); (try clear hb); (try clear ho0)))
     go_loopg [10, 11] kj5 (fun kq v10 v11 w' => ∃ (x10_2 : Int) (x11_2 : Int), v10 = .int .i64 x10_2 ∧ v11 = .int .i64 x11_2 ∧ Aside0 (laws_FnSpanBy.l0 kq t608 t611 t618 t624 x10_2 x11_2 = some r) ∧ Aside0 (kq ≤ kj5) ∧ Aside0 (Kd.N (Kd.slice 3 (Kd.int .i64)) 28 w' w.heap.size (fun k_ => some k_ ≠ ((.slice Ao9 t611.length co9) : Value).ownBlock ∧ some k_ ≠ (v620 : Value).ownBlock ∧ some k_ ≠ (v625 : Value).ownBlock) (.slice Ao8 t608.length co8) t608) ∧ Aside0 (Kd.Q (Kd.int .i64) 3 w' w.heap.size (fun k_ => some k_ ≠ (v620 : Value).ownBlock ∧ some k_ ≠ (v625 : Value).ownBlock) (.slice Ao9 t611.length co9) t611) ∧ Aside0 (Kd.R (Kd.int .i64) 3 w' w.heap.size (fun k_ => some k_ ≠ ((.slice Ao9 t611.length co9) : Value).ownBlock ∧ some k_ ≠ (v625 : Value).ownBlock) v620 t618) ∧ Aside0 (Kd.R (Kd.int .i64) 3 w' w.heap.size (fun k_ => some k_ ≠ ((.slice Ao9 t611.length co9) : Value).ownBlock ∧ some k_ ≠ (v620 : Value).ownBlock) v625 t624) ∧ Aside0 (Below w.heap.size w w'))
     case atStart => exact ⟨(0), (0), z21_6, z21_6, H', ⟨Nat.le_refl _⟩, ⟨by (with_reducible repeat (first | apply Kd.N_alloc | apply Kd.N_drewN | apply Kd.N_drew)); exact Kd.N_mono HO_3.out (fun _ hk => ⟨hk.1.1, ⟨hk.1.2.2, hk.2⟩⟩)⟩, ⟨by (with_reducible repeat (first | apply Kd.Q_alloc | apply Kd.Q_drewN | apply Kd.Q_drew)); exact Kd.Q_mono HO_4.out (fun _ hk => ⟨hk.1.2, hk.2⟩)⟩, ⟨by (with_reducible repeat (first | apply Kd.R_alloc | apply Kd.R_drewN | apply Kd.R_drew)); exact Kd.R_mono HO_7.out (fun _ hk => ⟨hk.1.1, hk.2⟩)⟩, ⟨by (with_reducible repeat (first | apply Kd.R_alloc | apply Kd.R_drewN | apply Kd.R_drew)); exact Kd.R_mono HO626.out (fun _ hk => ⟨hk.1.1.2, hk.2⟩)⟩, ⟨z21_0⟩⟩
     case round =>
      clear H'
      try clear c2
      try clear c2b0
      try clear c2b1
      try clear c19
      obtain ⟨x10_2, x11_2, rfl, rfl, HA, HK2, HO_3, HO_4, HO_7, HO_9, HB⟩ := hrel
      cases gk with
      | zero => exact absurd HA.out (by simp [laws_FnSpanBy.l0])
      | succ k2 =>
       have H := HA.out
       clear HA
       simp only [laws_FnSpanBy.l0] at H
       by_cases c26 : x11_2 < (t608.length : Int)
       ·rw [if_pos c26] at H
        have c26b0 : decide (x11_2 < (t608.length : Int)) = true := decide_eq_true c26
        clear c26
        have HC27 := Aside0.mk H
        clear H
        go_upto_region 13 with (fail)
        go_cut [72] (fun v72 wc => ∃ (kq : Nat) (x72_26 : Bool), v72 = .bool x72_26 ∧ Aside0 (laws_FnSpanBy.j2 kq t608 t611 t618 t624 x10_2 x11_2 x72_26 = some r) ∧ Aside0 (kq ≤ k2) ∧ Aside0 (Kd.N (Kd.slice 3 (Kd.int .i64)) 28 wc w.heap.size (fun k_ => some k_ ≠ ((.slice Ao9 t611.length co9) : Value).ownBlock ∧ some k_ ≠ (v620 : Value).ownBlock ∧ some k_ ≠ (v625 : Value).ownBlock) (.slice Ao8 t608.length co8) t608) ∧ Aside0 (Kd.Q (Kd.int .i64) 3 wc w.heap.size (fun k_ => some k_ ≠ (v620 : Value).ownBlock ∧ some k_ ≠ (v625 : Value).ownBlock) (.slice Ao9 t611.length co9) t611) ∧ Aside0 (Kd.R (Kd.int .i64) 3 wc w.heap.size (fun k_ => some k_ ≠ ((.slice Ao9 t611.length co9) : Value).ownBlock ∧ some k_ ≠ (v625 : Value).ownBlock) v620 t618) ∧ Aside0 (Kd.R (Kd.int .i64) 3 wc w.heap.size (fun k_ => some k_ ≠ ((.slice Ao9 t611.length co9) : Value).ownBlock ∧ some k_ ≠ (v620 : Value).ownBlock) v625 t624) ∧ Aside0 (Below w.heap.size w wc))
        case first =>
         have H := HC27.out
         clear HC27
         by_cases c28 : x10_2 < (t624.length : Int)
         ·rw [if_pos c28] at H
          have c28b0 : decide (x10_2 < (t624.length : Int)) = true := decide_eq_true c28
          clear c28
          (first | rw [c28b0] | (simp only [i64_w, i32_w]; rw [c28b0]) | skip)
          obtain ⟨c29, H⟩ := ifP H
          have c29b0 : decide (0 ≤ x10_2) = true := decide_eq_true c29
          clear c29
          have H' := Aside0.mk H
          clear H
          obtain ⟨Ao30, co30, eo30⟩ := Kd.R_slice HO_9.out
          subst eo30
          try simp only [clip_slice]
          have p631 : 0 ≤ (x10_2 : Int) := of_decide_eq_true z21_13
          have q631 : x10_2 < (t624.length : Int) := of_decide_eq_true z21_13
          obtain ⟨ad631, e631, hx631_0⟩ := Kd.at_int (Kd.R_reads' HO_9.out).2.2 x10_2 p631 q631
          cases e631
          replace p631 := eq_true p631
          replace q631 := eq_true q631
          go_wp2
          go_meet
          case rel => exact ⟨_, (((rd t624 x10_2) == x11_2)), z21_6, H', ⟨by have := HJ5.out; have := HK2.out; first | omega | exact Nat.le_refl _⟩, ⟨z21_5⟩, ⟨z21_2⟩, ⟨z21_3⟩, ⟨z21_4⟩, ⟨z21_0⟩⟩
         ·rw [if_neg c28] at H
          have c28b0 : decide (x10_2 < (t624.length : Int)) = false := decide_eq_false c28
          clear c28
          (first | rw [c28b0] | (simp only [i64_w, i32_w]; rw [c28b0]) | skip)
          have H' := Aside0.mk H
          clear H
          obtain ⟨Ao31, co31, eo31⟩ := Kd.R_slice HO_9.out
          subst eo31
          try simp only [clip_slice]
          go_wp2
          go_meet
          case rel => exact ⟨_, (false), z21_6, H', ⟨by have := HJ5.out; have := HK2.out; first | omega | exact Nat.le_refl _⟩, ⟨z21_5⟩, ⟨z21_2⟩, ⟨z21_3⟩, ⟨z21_4⟩, ⟨z21_0⟩⟩
        case rest =>
         clear HC27
         try clear c2
         try clear c2b0
         try clear c2b1
         try clear c19
         try clear c26
         try clear c26b0
         obtain ⟨kq, x72_26, rfl, HA, HJ26, HO_3, HO_4, HO_7, HO_9, HB⟩ := hcut
         cases kq with
         | zero => exact absurd HA.out (by simp [laws_FnSpanBy.j2])
         | succ kj26 =>
          have H := HA.out
          clear HA
          simp only [laws_FnSpanBy.j2] at H
          by_cases c32 : x72_26 = true
          ·subst c32
           have H1 : (laws_FnSpanBy.l0 kj26 t608 t611 t618 t624 (wrap64 (x10_2 + 1)) (wrap64 (x11_2 + 1))) = some r := by rw [if_pos rfl] at H; exact H
           clear H
           have H := H1
           clear H1
           have H' := Aside0.mk H
           clear H
           go_wp2
           go_roundg kj26
           case measure => have := HJ5.out; have := HK2.out; have := HJ26.out; omega
           case rel => exact ⟨(wrap64 (x10_2 + 1)), (wrap64 (x11_2 + 1)), z21_6, z21_6, H', ⟨by have := HJ5.out; have := HK2.out; have := HJ26.out; omega⟩, ⟨z21_5⟩, ⟨z21_2⟩, ⟨z21_3⟩, ⟨z21_4⟩, ⟨z21_0⟩⟩
          ·replace c32 := Bool.eq_false_iff.mpr c32
           subst c32
           have H1 : (if 0 ≤ x11_2 then (if x11_2 < (t618.length : Int) then (if (rd t618 x11_2) = 0 then (laws_FnSpanBy.l0 kj26 t608 t611 t618 t624 x10_2 (wrap64 (x11_2 + 1))) else (some false)) else (none)) else (none)) = some r := by rw [if_neg (show ¬ (false = true) by decide)] at H; exact H
           clear H
           have H := H1
           clear H1
           obtain ⟨c33, H⟩ := ifP H
           have c33b0 : decide (0 ≤ x11_2) = true := decide_eq_true c33
           clear c33
           obtain ⟨c34, H⟩ := ifP H
           have c34b0 : decide (x11_2 < (t618.length : Int)) = true := decide_eq_true c34
           clear c34
           by_cases c35 : (rd t618 x11_2) = 0
           ·rw [if_pos c35] at H
            have c35b0 : ((rd t618 x11_2) == 0) = true := beq_iff_eq.mpr c35
            have c35b1 : ((rd t618 x11_2) != 0) = false := bne_eq_false_iff_eq.mpr c35
            clear c35
            have H' := Aside0.mk H
            clear H
            obtain ⟨Ao36, co36, eo36⟩ := Kd.R_slice HO_7.out
            subst eo36
            try simp only [clip_slice]
            have p632 : 0 ≤ (x11_2 : Int) := of_decide_eq_true z21_13
            have q632 : x11_2 < (t618.length : Int) := of_decide_eq_true z21_13
            obtain ⟨ad632, e632, hx632_0⟩ := Kd.at_int (Kd.R_reads' HO_7.out).2.2 x11_2 p632 q632
            cases e632
            replace p632 := eq_true p632
            replace q632 := eq_true q632
            go_wp2
            go_roundg kj26
            case measure => have := HJ5.out; have := HK2.out; have := HJ26.out; omega
            case rel => exact ⟨(x10_2), (wrap64 (x11_2 + 1)), z21_6, z21_6, H', ⟨by have := HJ5.out; have := HK2.out; have := HJ26.out; omega⟩, ⟨z21_5⟩, ⟨z21_2⟩, ⟨z21_3⟩, ⟨z21_4⟩, ⟨z21_0⟩⟩
           ·rw [if_neg c35] at H
            have c35b0 : ((rd t618 x11_2) == 0) = false := beq_eq_false_iff_ne.mpr c35
            have c35b1 : ((rd t618 x11_2) != 0) = true := bne_iff_ne.mpr c35
            obtain rfl := Option.some.inj H
            obtain ⟨Ao37, co37, eo37⟩ := Kd.R_slice HO_7.out
            subst eo37
            try simp only [clip_slice]
            have p632 : 0 ≤ (x11_2 : Int) := of_decide_eq_true z21_13
            have q632 : x11_2 < (t618.length : Int) := of_decide_eq_true z21_13
            obtain ⟨ad632, e632, hx632_0⟩ := Kd.at_int (Kd.R_reads' HO_7.out).2.2 x11_2 p632 q632
            cases e632
            replace p632 := eq_true p632
            replace q632 := eq_true q632
            go_wp2
            go_ret
            exact ⟨z21_7, z21_0⟩
       ·rw [if_neg c26] at H
        have c26b0 : decide (x11_2 < (t608.length : Int)) = false := decide_eq_false c26
        clear c26
        replace H := Option.bind_eq_some_iff.mp H
        obtain ⟨t627, A380, H⟩ := H
        replace H : ((laws_lkInts.f k2 t627 t611).bind fun t630 => (if t630 = true then (some ((t618.length : Int) == (t608.length : Int))) else (some false))) = some r := H
        have A38 := Aside0.mk A380
        clear A380
        replace H := Option.bind_eq_some_iff.mp H
        obtain ⟨t630, A390, H⟩ := H
        replace H : (if t630 = true then (some ((t618.length : Int) == (t608.length : Int))) else (some false)) = some r := H
        have A39 := Aside0.mk A390
        clear A390
        by_cases c40 : t630 = true
        ·subst c40
         have H1 : (some ((t618.length : Int) == (t608.length : Int))) = some r := by rw [if_pos rfl] at H; exact H
         clear H
         have H := H1
         clear H1
         obtain rfl := Option.some.inj H
         obtain ⟨Ao41, co41, eo41⟩ := Kd.R_slice HO_7.out
         subst eo41
         try simp only [clip_slice]
         go_wp2_with (first | ((with_reducible refine gate_callee (f := 45) rfl ?_); refine goesL_ (some 82) rfl rfl Try.func45 (by kernel_rfl) rfl #[.slice Ao8 t608.length co8, .slice Ao41 t618.length co41] rfl z21_1 ?_; (with_reducible refine (laws_lkMade.calls k2 _ _ t608 _ _ t618 t627 _ ?side1 ?side2 ?side3 ?side4 A38.out).mono ?_); (case side1 => exact cZ ((Kd.N_reads' HO_3.out).2.2)); (case side2 => first | exact (Kd.N_reads' HO_3.out).2.1 | exact Nat.le_refl _); (case side3 => exact cZ ((Kd.R_reads' HO_7.out).2.2)); (case side4 => first | exact (Kd.R_reads' HO_7.out).2.1 | exact Nat.le_refl _); rintro e w42 ⟨v628, rfl, ho0, hb⟩; refine ⟨_, rfl, ?_⟩; replace HO_3 := Aside0.mk (Kd.N_elder' z21_5 (Kd.R_base ho0) hb); have HO629 := Aside0.mk (Kd.R_lower (Kd.R_new' (Kd.R_new' (Kd.R_new' ho0 (Kd.Q_lt z21_2)) (Kd.R_lt z21_3)) (Kd.R_lt z21_4)) (below_size z21_0)); replace HO_4 := Aside0.mk (Kd.Q_elder' z21_2 (Kd.R_base ho0) hb); replace HO_7 := Aside0.mk (Kd.R_elder' z21_3 (Kd.R_base ho0) hb); replace HO_9 := Aside0.mk (Kd.R_elder' z21_4 (Kd.R_base ho0) hb); replace HB := Aside0.mk (below_step z21_0 hb); (try clear hb); (try clear ho0); obtain ⟨Ao43, co43, eo43⟩ := Kd.R_slice HO629.out; subst eo43; (try simp only [clip_slice])) | ((with_reducible refine gate_callee (f := 37) rfl ?_); refine goesL_ (some 84) rfl rfl Try.func37 (by kernel_rfl) rfl #[.slice Ao43 t627.length co43, .slice Ao9 t611.length co9] rfl z21_1 ?_; (with_reducible refine (laws_lkInts.calls k2 _ _ t627 _ _ t611 true _ ?side1 ?side2 ?side3 ?side4 A39.out).mono ?_); (case side1 => exact cZ ((Kd.R_reads' HO629.out).2.2)); (case side2 => first | exact (Kd.R_reads' HO629.out).2.1 | exact Nat.le_refl _); (case side3 => exact cZ ((Kd.Q_reads' HO_4.out).2.2)); (case side4 => first | exact (Kd.Q_reads' HO_4.out).2.1 | exact Nat.le_refl _); rintro e w' ⟨rfl, ⟨nd, rfl⟩⟩; refine ⟨_, rfl, ?_⟩))
         go_ret
         exact ⟨z21_7, z21_0⟩
        ·replace c40 := Bool.eq_false_iff.mpr c40
         subst c40
         have H1 : (some false) = some r := by rw [if_neg (show ¬ (false = true) by decide)] at H; exact H
         clear H
         have H := H1
         clear H1
         obtain rfl := Option.some.inj H
         obtain ⟨Ao44, co44, eo44⟩ := Kd.R_slice HO_7.out
         subst eo44
         try simp only [clip_slice]
         go_wp2_with (first | ((with_reducible refine gate_callee (f := 45) rfl ?_); refine goesL_ (some 82) rfl rfl Try.func45 (by kernel_rfl) rfl #[.slice Ao8 t608.length co8, .slice Ao44 t618.length co44] rfl z21_1 ?_; (with_reducible refine (laws_lkMade.calls k2 _ _ t608 _ _ t618 t627 _ ?side1 ?side2 ?side3 ?side4 A38.out).mono ?_); (case side1 => exact cZ ((Kd.N_reads' HO_3.out).2.2)); (case side2 => first | exact (Kd.N_reads' HO_3.out).2.1 | exact Nat.le_refl _); (case side3 => exact cZ ((Kd.R_reads' HO_7.out).2.2)); (case side4 => first | exact (Kd.R_reads' HO_7.out).2.1 | exact Nat.le_refl _); rintro e w45 ⟨v628, rfl, ho0, hb⟩; refine ⟨_, rfl, ?_⟩; replace HO_3 := Aside0.mk (Kd.N_elder' z21_5 (Kd.R_base ho0) hb); have HO629 := Aside0.mk (Kd.R_lower (Kd.R_new' (Kd.R_new' (Kd.R_new' ho0 (Kd.Q_lt z21_2)) (Kd.R_lt z21_3)) (Kd.R_lt z21_4)) (below_size z21_0)); replace HO_4 := Aside0.mk (Kd.Q_elder' z21_2 (Kd.R_base ho0) hb); replace HO_7 := Aside0.mk (Kd.R_elder' z21_3 (Kd.R_base ho0) hb); replace HO_9 := Aside0.mk (Kd.R_elder' z21_4 (Kd.R_base ho0) hb); replace HB := Aside0.mk (below_step z21_0 hb); (try clear hb); (try clear ho0); obtain ⟨Ao46, co46, eo46⟩ := Kd.R_slice HO629.out; subst eo46; (try simp only [clip_slice])) | ((with_reducible refine gate_callee (f := 37) rfl ?_); refine goesL_ (some 84) rfl rfl Try.func37 (by kernel_rfl) rfl #[.slice Ao46 t627.length co46, .slice Ao9 t611.length co9] rfl z21_1 ?_; (with_reducible refine (laws_lkInts.calls k2 _ _ t627 _ _ t611 false _ ?side1 ?side2 ?side3 ?side4 A39.out).mono ?_); (case side1 => exact cZ ((Kd.R_reads' HO629.out).2.2)); (case side2 => first | exact (Kd.R_reads' HO629.out).2.1 | exact Nat.le_refl _); (case side3 => exact cZ ((Kd.Q_reads' HO_4.out).2.2)); (case side4 => first | exact (Kd.Q_reads' HO_4.out).2.1 | exact Nat.le_refl _); rintro e w' ⟨rfl, ⟨nd, rfl⟩⟩; refine ⟨_, rfl, ?_⟩))
         go_ret
         exact ⟨z21_7, z21_0⟩

/-- THE ONE PURE STATEMENT of laws_FnSpanBy: yours. -/
def laws_FnSpanBy.Pure : Prop := ∀ (l0 : List Int), l0.length ≤ maxLen → l0.length * 1 ≤ 140737488351232 → (∀ x ∈ l0, (Lit.int .u8 x).wf = true) → ∃ k, laws_FnSpanBy.f k l0 = some true
theorem laws_FnSpanBy.walk (P : laws_FnSpanBy.Pure) (a0 : Option Addr) (len0 cap0 : Nat) (z0 : List Int) (w : World) (w0 : (a0 = none ∧ len0 = 0 ∧ cap0 = 0 ∧ z0 = []) ∨ ∃ x, a0 = some x ∧ len0 ≤ cap0 ∧ cap0 ≤ maxLen ∧ z0.length = cap0 ∧ (∀ i, i < z0.length → w.cell? (x.add i) = some (.int .u8 (z0.getD i 0))) ∧ ∀ n ∈ z0, (Lit.int .u8 n).wf = true) (y0 : len0 * 1 ≤ 140737488351232) :
    Calls Try.prog 14 #[.slice a0 len0 cap0] w fun e w' => e = .returned (.bool true) ∧ Below w.heap.size w w' := by
  obtain ⟨l0, rfl, hr0, hm0, hw0, hc0⟩ := ReadsInt.ofRowC w0
  obtain ⟨k, h⟩ := P l0 hm0 y0 hw0
  refine (laws_FnSpanBy.calls k _ _ l0 true w (Kd.C_of_reads (d := (0 : Int)) (h1 := fun _ => rfl) hr0) hc0 h).mono ?_
  rintro e w' ⟨rfl, hd⟩
  exact ⟨rfl, hd⟩

end Go.Proofs.Ytbhmgbeebhmfkaa.PA
