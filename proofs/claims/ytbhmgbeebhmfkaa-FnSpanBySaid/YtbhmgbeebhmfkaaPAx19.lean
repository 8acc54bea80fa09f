-- Written by a program of this session (after the manner of the kit's print, several laws in one text).
import Derived.Test.YtbhmgbeebhmfkaaPAx0
import Derived.Test.YtbhmgbeebhmfkaaPAx6
import Derived.Test.YtbhmgbeebhmfkaaPAx15
import Derived.Test.YtbhmgbeebhmfkaaPAx16
import Derived.Test.YtbhmgbeebhmfkaaPAx17
import Derived.Test.YtbhmgbeebhmfkaaPAx18
import Derived.Test.YtbhmgbeebhmfkaaGw
import Derived.Test.YtbhmgbeebhmfkaaGm
namespace Go.Proofs.Ytbhmgbeebhmfkaa.PA
open Go.RowKit Go.Proofs.YtbhmgbeebhmfkaaW.PrintWords Go.Proofs.YtbhmgbeebhmfkaaW.PrintLast Go.Proofs.YtbhmgbeebhmfkaaW.PrintMore
attribute [local go_sem] max2_int min2_int max_two min_two max_three min_three max_four min_four   -- for this text's walks alone
set_option linter.unusedVariables false
set_option linter.unusedSimpArgs false

/-! ### spec_l91Made: function 66 -/
theorem z19_0 {p : Prop} (h : p := by repeat (first | (with_reducible first | exact HK.out | apply KeepBut.set_ | apply keep_drewN | apply keep_drew | apply keep_alloc) | exact HK.out)) : p := h
theorem z19_1 {p : Prop} (h : p := by repeat (first | (with_reducible first | exact HB.out | apply below_alloc | apply pw_below_drewN | apply below_drew1 | refine below_set ?_ (IsS92.ge HI0.out)) | exact HB.out)) : p := h
theorem z19_2 {p : Prop} (h : p := by repeat (first | (with_reducible first | exact HI0.out | apply IsS92.alloc | apply IsS92.drewN | apply IsS92.drew | apply IsS92.set_1) | exact HI0.out)) : p := h
theorem z19_3 {p : Prop} (h : p := by (try simp only [List.map_toArray, List.map_cons, List.map_nil]); first | done | rfl | (simp only [List.length_drop, List.length_take]; rfl)) : p := h
theorem z19_4 {p : Prop} (h : p := by (with_reducible repeat (first | apply Kd.Q_alloc | apply Kd.Q_drewN | apply Kd.Q_drew)); exact HO_5.out) : p := h
theorem z19_5 {p : Prop} (h : p := by (with_reducible repeat (first | apply Kd.V_alloc | apply Kd.V_drewN | apply Kd.V_drew)); exact HL587_0.out) : p := h
theorem z19_6 {p : Prop} (h : p := by (with_reducible repeat (first | apply Kd.N_alloc | apply Kd.N_drewN | apply Kd.N_drew)); exact HO_4.out) : p := h
theorem z19_7 {p : Prop} (h : p := by first | (rw [add_block]; exact Kd.own_blk (IsS92.own_neN HI0.out HO_4.out (by decide))) | (show (Addr.add _ _).block ≠ _; rw [add_block]; exact Kd.own_blk (IsS92.own_neN HI0.out HO_4.out (by decide))) | exact Kd.own_blk (IsS92.own_neN HI0.out HO_4.out (by decide)) | (have hz_ := Kd.own_blk (IsS92.own_neN HI0.out HO_4.out (by decide)); exact hz_)) : p := h
theorem z19_8 {p : Prop} (h : p := by (with_reducible repeat (first | apply Kd.N_alloc | apply Kd.N_drewN | apply Kd.N_drew)); exact Kd.N_mono HO575.out (fun _ hk => ⟨hk.1.1, ⟨hk.2, hk.1.2⟩⟩)) : p := h
theorem z19_9 {p : Prop} (h : p := by (with_reducible repeat (first | apply Kd.Q_alloc | apply Kd.Q_drewN | apply Kd.Q_drew)); exact Kd.Q_mono HO579.out (fun _ hk => hk.1)) : p := h
theorem z19_10 {p : Prop} (h : p := by first | rfl | (simp; done) | (simp [*]; done)) : p := h
theorem z19_11 {p : Prop} (h : p := by (with_reducible repeat (first | apply Kd.N_alloc | apply Kd.N_drewN | apply Kd.N_drew)); exact Kd.N_mono HO_4.out (fun _ hk => ⟨hk.1, hk.2.1⟩)) : p := h
mutual
def spec_l91Made.j0 : Nat → List (List Int) → List Int → Bool → List Int → Int → Option ((List (List Int)) × List Int × Int)
  | 0, _, _, _, _, _ => none
  | k + 1, x4, x5, x22, x1000, x1001 => if x22 = true then (if 4 ≤ 35184372088832 then (spec_l91Made.l0 k x4 (List.replicate 4 0) 0 x1000 x1001) else (none)) else (some (x4, x5, x1001))
def spec_l91Made.l0 : Nat → List (List Int) → List Int → Int → List Int → Int → Option ((List (List Int)) × List Int × Int)
  | 0, _, _, _, _, _ => none
  | k + 1, x4, x5, x6, x1000, x1001 => if x6 < (x4.length : Int) then (if 0 ≤ x6 then ((spec_l6Rd_pick.f k x1000 x1001 31).bind fun bt588 => ((spec_l6Rd_pick.f k x1000 bt588.2 2).bind fun bt590 => ((spec_l2Scale.f k (rd_L1 x4 x6) (wrap64 (bt588.1 * bt590.1))).bind fun t592 => ((spec_l2Sum.f k x5 t592).bind fun t595 => (spec_l91Made.l0 k x4 t595 (wrap64 (x6 + 1)) x1000 bt590.2))))) else (none)) else (some (x4, x5, x1001))
end
def spec_l91Made.f (k : Nat) (s0_0 : List Int) (s0_1 : Int) : Option ((List (List Int)) × List Int × Int) := (spec_l91Rows.f k s0_0 s0_1).bind fun bt573 => ((spec_l91Vec.f k s0_0 bt573.2).bind fun bt577 => ((spec_SpanOk.f k bt573.1).bind fun t581 => (if t581 = true then (if (bt573.1.length : Int) > 0 then ((spec_l6Rd_pick.f k s0_0 bt577.2 3).bind fun bt582 => (spec_l91Made.j0 k bt573.1 bt577.1 (decide (bt582.1 > 0)) s0_0 bt582.2)) else (spec_l91Made.j0 k bt573.1 bt577.1 false s0_0 bt577.2)) else (spec_l91Made.j0 k bt573.1 bt577.1 false s0_0 bt577.2))))
def spec_l91Made.T8 : Bool × List (List Nat × List Nat) := (true, [([], []), ([], []), ([], []), ([1, 2], [1, 2]), ([3], [3]), ([], []), ([5], [5]), ([], []), ([7, 6], [7]), ([6, 8], [6, 8]), ([4, 9, 8], [4, 9]), ([0, 10, 10], [0, 10]), ([11, 11, 0, 1, 2, 3, 4, 5, 6, 7, 8, 9, 10, 11], [0, 11])])
def spec_l91Made.B8 : List Nat := [0, 0, 0, 6, 14, 0, 32, 0, 224, 480, 1022, 2047, 4095]
theorem spec_l91Made.tab8 : rtab .any (opsOf Try.f66 8) = spec_l91Made.T8 := by kernel_rfl
theorem spec_l91Made.bits8 : waitsOk spec_l91Made.T8.2 spec_l91Made.B8 = true := by kernel_rfl
set_option maxHeartbeats 8000000 in
set_option maxRecDepth 100000 in
theorem spec_l91Made.calls (k : Nat) (g : Nat) (s0_0 : List Int) (s0_1 : Int) (r1 : List (List Int)) (r2 : List Int) (r3 : Int) (w0 w : World) (hI : IsS92 w0 w g s0_0 s0_1) (hB : Below w0.heap.size w0 w) (h : spec_l91Made.f k s0_0 s0_1 = some (r1, r2, r3)) :
  Calls Try.prog 66 #[.pointer (some ⟨g, 0, none⟩)] w fun e w' => ∃ v0_ v1_ : Value, e = .returned (.tuple #[v0_, v1_]) ∧ Kd.N (Kd.slice 3 (Kd.int .i64)) 28 w' w.heap.size (fun k_ => (w.heap.size ≤ k_) ∧ some k_ ≠ (v1_ : Value).ownBlock) v0_ r1 ∧ Kd.Q (Kd.int .i64) 3 w' w.heap.size (fun k_ => (w.heap.size ≤ k_)) v1_ r2 ∧ IsS92 w0 w' g s0_0 r3 ∧ Below w0.heap.size w0 w' ∧ KeepBut w w' g none := by
 have HI0 := Aside0.mk hI
 have HK := Aside0.mk (KeepBut.refl w g none)
 have HL := Aside0.mk hB.size
 clear hI
 have HW0 := Aside0.mk hB.size
 have HB := Aside0.mk hB
 clear hB
 have H : ((spec_l91Rows.f k s0_0 s0_1).bind fun bt573 => ((spec_l91Vec.f k s0_0 bt573.2).bind fun bt577 => ((spec_SpanOk.f k bt573.1).bind fun t581 => (if t581 = true then (if (bt573.1.length : Int) > 0 then ((spec_l6Rd_pick.f k s0_0 bt577.2 3).bind fun bt582 => (spec_l91Made.j0 k bt573.1 bt577.1 (decide (bt582.1 > 0)) s0_0 bt582.2)) else (spec_l91Made.j0 k bt573.1 bt577.1 false s0_0 bt577.2)) else (spec_l91Made.j0 k bt573.1 bt577.1 false s0_0 bt577.2))))) = some (r1, r2, r3) := h
 clear h
 replace H := Option.bind_eq_some_iff.mp H
 obtain ⟨⟨t573, t576⟩, A20, H⟩ := H
 replace H : ((spec_l91Vec.f k s0_0 t576).bind fun bt577 => ((spec_SpanOk.f k t573).bind fun t581 => (if t581 = true then (if (t573.length : Int) > 0 then ((spec_l6Rd_pick.f k s0_0 bt577.2 3).bind fun bt582 => (spec_l91Made.j0 k t573 bt577.1 (decide (bt582.1 > 0)) s0_0 bt582.2)) else (spec_l91Made.j0 k t573 bt577.1 false s0_0 bt577.2)) else (spec_l91Made.j0 k t573 bt577.1 false s0_0 bt577.2)))) = some (r1, r2, r3) := H
 have A2 := Aside0.mk A20
 clear A20
 replace H := Option.bind_eq_some_iff.mp H
 obtain ⟨⟨t577, t580⟩, A30, H⟩ := H
 replace H : ((spec_SpanOk.f k t573).bind fun t581 => (if t581 = true then (if (t573.length : Int) > 0 then ((spec_l6Rd_pick.f k s0_0 t580 3).bind fun bt582 => (spec_l91Made.j0 k t573 t577 (decide (bt582.1 > 0)) s0_0 bt582.2)) else (spec_l91Made.j0 k t573 t577 false s0_0 t580)) else (spec_l91Made.j0 k t573 t577 false s0_0 t580))) = some (r1, r2, r3) := H
 have A3 := Aside0.mk A30
 clear A30
 have HC4 := Aside0.mk H
 clear H
 go_enter Try.func66, Try.ntmps66
 go_upto_region 3 with (first | ((with_reducible refine gate_callee (f := 63) rfl ?_); refine goesL_ (some 8) rfl rfl Try.func63 (by kernel_rfl) rfl #[.pointer (some ⟨g, 0, none⟩)] rfl z19_3 ?_; (with_reducible refine (spec_l91Rows.calls k g s0_0 s0_1 t573 t576 w0 _ ?side1 ?side2 A2.out).mono ?_); (case side1 => repeat (first | (with_reducible first | exact HI0.out | apply IsS92.alloc | apply IsS92.drewN | apply IsS92.drew | apply IsS92.set_1) | exact HI0.out)); (case side2 => repeat (first | (with_reducible first | exact HB.out | apply below_alloc | apply pw_below_drewN | apply below_drew1 | refine below_set ?_ (IsS92.ge HI0.out)) | exact HB.out)); rintro e w5 ⟨v574, rfl, ho0, hi, hb, hk⟩; refine ⟨_, rfl, ?_⟩; have HO575 := Aside0.mk (Kd.N_lower (Kd.N_mono (ok' := fun k_ => (w.heap.size ≤ k_) ∧ k_ ≠ g) ho0 (fun k_ hk_ => ⟨(Nat.le_trans (keep_size (w := w) (g := g) (row := none) z19_0) hk_), (IsS92.fresh z19_2 k_ hk_)⟩)) (keep_size (w := w) (g := g) (row := none) z19_0)); replace HK := Aside0.mk (KeepBut.trans z19_0 hk (.inl rfl)); replace HB := Aside0.mk (hb); replace HI0 := Aside0.mk (hi); (try clear hb); (try clear ho0)) | ((with_reducible refine gate_callee (f := 85) rfl ?_); refine goesL_ (some 10) rfl rfl Try.func85 (by kernel_rfl) rfl #[.pointer (some ⟨g, 0, none⟩)] rfl z19_3 ?_; (with_reducible refine (spec_l91Vec.calls k g s0_0 t576 t577 t580 w0 _ ?side1 ?side2 A3.out).mono ?_); (case side1 => repeat (first | (with_reducible first | exact HI0.out | apply IsS92.alloc | apply IsS92.drewN | apply IsS92.drew | apply IsS92.set_1) | exact HI0.out)); (case side2 => repeat (first | (with_reducible first | exact HB.out | apply below_alloc | apply pw_below_drewN | apply below_drew1 | refine below_set ?_ (IsS92.ge HI0.out)) | exact HB.out)); rintro e w6 ⟨v578, rfl, ho0, hi, hb, hk⟩; refine ⟨_, rfl, ?_⟩; replace HO575 := Aside0.mk (Kd.N_mono (Kd.N_told (Kd.N_oldK (Kd.N_mono (ok := fun k_ => (((w.heap.size ≤ k_)) ∧ k_ ≠ g)) (by (with_reducible repeat (first | apply Kd.N_alloc | apply Kd.N_drewN | apply Kd.N_drew)); exact HO575.out) (fun k_ hk_ => (⟨hk_, hk_.2⟩ : _ ∧ k_ ≠ g))) hk) (Kd.Q_base ho0)) (fun _ h_ => h_.1)); have HO579 := Aside0.mk (Kd.Q_lower (Kd.Q_newM (M := fun k_ => (w.heap.size ≤ k_)) ho0 (keep_size (w := w) (g := g) (row := none) z19_0) (fun k_ h_ => h_)) (keep_size (w := w) (g := g) (row := none) z19_0)); replace HK := Aside0.mk (KeepBut.trans z19_0 hk (.inl rfl)); replace HB := Aside0.mk (hb); replace HI0 := Aside0.mk (hi); (try clear hb); (try clear ho0)))
 (try simp only [Act.put, List.setIfInBounds_toArray, List.set_cons_zero, List.set_cons_succ])
 go_cut [22] (fun v22 wc => ∃ (kq : Nat) (x22_3 : Bool) (x1001_3 : Int), v22 = .bool x22_3 ∧ Aside0 (spec_l91Made.j0 kq t573 t577 x22_3 s0_0 x1001_3 = some (r1, r2, r3)) ∧ Aside0 (kq ≤ k) ∧ Aside0 (Kd.N (Kd.slice 3 (Kd.int .i64)) 28 wc w.heap.size (fun k_ => (w.heap.size ≤ k_) ∧ some k_ ≠ (v578 : Value).ownBlock ∧ k_ ≠ g) v574 t573) ∧ Aside0 (Kd.Q (Kd.int .i64) 3 wc w.heap.size (fun k_ => (w.heap.size ≤ k_)) v578 t577) ∧ Aside0 (IsS92 w0 wc g s0_0 x1001_3) ∧ Aside0 (KeepBut w wc g none) ∧ Aside0 (Below w0.heap.size w0 wc))
 case first =>
  have H := HC4.out
  clear HC4
  replace H := Option.bind_eq_some_iff.mp H
  obtain ⟨t581, A70, H⟩ := H
  replace H : (if t581 = true then (if (t573.length : Int) > 0 then ((spec_l6Rd_pick.f k s0_0 t580 3).bind fun bt582 => (spec_l91Made.j0 k t573 t577 (decide (bt582.1 > 0)) s0_0 bt582.2)) else (spec_l91Made.j0 k t573 t577 false s0_0 t580)) else (spec_l91Made.j0 k t573 t577 false s0_0 t580)) = some (r1, r2, r3) := H
  have A7 := Aside0.mk A70
  clear A70
  by_cases c8 : t581 = true
  ·subst c8
   have H1 : (if (t573.length : Int) > 0 then ((spec_l6Rd_pick.f k s0_0 t580 3).bind fun bt582 => (spec_l91Made.j0 k t573 t577 (decide (bt582.1 > 0)) s0_0 bt582.2)) else (spec_l91Made.j0 k t573 t577 false s0_0 t580)) = some (r1, r2, r3) := by rw [if_pos rfl] at H; exact H
   clear H
   have H := H1
   clear H1
   by_cases c9 : (t573.length : Int) > 0
   ·rw [if_pos c9] at H
    have c9b0 : decide (0 < (t573.length : Int)) = true := decide_eq_true c9
    have c9b1 : decide (0 < t573.length) = true := decide_eq_true (by omega)
    clear c9
    (first | rw [c9b0] | (simp only [i64_w, i32_w]; rw [c9b0]) | skip)
    replace H := Option.bind_eq_some_iff.mp H
    obtain ⟨⟨t582, t583⟩, A100, H⟩ := H
    replace H : (spec_l91Made.j0 k t573 t577 (decide (t582 > 0)) s0_0 t583) = some (r1, r2, r3) := H
    have A10 := Aside0.mk A100
    clear A100
    have H' := Aside0.mk H
    clear H
    obtain ⟨Ao11, co11, eo11⟩ := Kd.N_slice HO575.out
    subst eo11
    go_wp2_with (first | ((with_reducible refine gate_callee (f := 38) rfl ?_); refine goesL_ (some 12) rfl rfl Try.func38 (by kernel_rfl) rfl #[.slice Ao11 t573.length co11] rfl z19_3 ?_; (with_reducible refine (spec_SpanOk.calls k _ _ t573 true _ ?side1 ?side2 A7.out).mono ?_); (case side1 => exact cZ ((Kd.N_reads' HO575.out).2.2)); (case side2 => exact (Kd.N_reads' HO575.out).2.1); rintro e w' ⟨rfl, ⟨nd, rfl⟩⟩; refine ⟨_, rfl, ?_⟩) | (go_at_call 65; (with_reducible refine (spec_l6Rd_pick.calls k g s0_0 t580 3 t582 t583 w0 _ ?side1 ?side2 A10.out).mono ?_); (case side1 => repeat (first | (with_reducible first | exact HI0.out | apply IsS92.alloc | apply IsS92.drewN | apply IsS92.drew | apply IsS92.set_1) | exact HI0.out)); (case side2 => repeat (first | (with_reducible first | exact HB.out | apply below_alloc | apply pw_below_drewN | apply below_drew1 | refine below_set ?_ (IsS92.ge HI0.out)) | exact HB.out)); rintro e w12 ⟨rfl, hi, hb, hk⟩; replace HO575 := Aside0.mk (Kd.N_mono (Kd.N_keep (Kd.N_mono (ok := fun k_ => ((((w.heap.size ≤ k_)) ∧ k_ ≠ g) ∧ some k_ ≠ (v578 : Value).ownBlock)) (by (with_reducible repeat (first | apply Kd.N_alloc | apply Kd.N_drewN | apply Kd.N_drew)); exact HO575.out) (fun k_ hk_ => (⟨hk_, hk_.1.2⟩ : _ ∧ k_ ≠ g))) hk (fun _ h => h.2)) (fun _ h => h.1)); replace HO579 := Aside0.mk (Kd.Q_mono (Kd.Q_keep (IsS92.apartQ (show IsS92 w0 _ g s0_0 t580 from by repeat (first | (with_reducible first | exact HI0.out | apply IsS92.alloc | apply IsS92.drewN | apply IsS92.drew | apply IsS92.set_1) | exact HI0.out)) (by (with_reducible repeat (first | apply Kd.Q_alloc | apply Kd.Q_drewN | apply Kd.Q_drew)); exact HO579.out) (by decide)) hk (fun _ h => h.2)) (fun _ h => h.1)); replace HK := Aside0.mk (KeepBut.trans z19_0 hk (.inl rfl)); replace HB := Aside0.mk (hb); replace HI0 := Aside0.mk (hi); (try clear hb)))
    go_meet
    case rel => exact ⟨_, (decide (t582 > 0)), (t583), z19_10, H', ⟨by first | omega | exact Nat.le_refl _⟩, ⟨z19_8⟩, ⟨z19_9⟩, ⟨z19_2⟩, ⟨z19_0⟩, ⟨z19_1⟩⟩
   ·rw [if_neg c9] at H
    have c9b0 : decide (0 < (t573.length : Int)) = false := decide_eq_false c9
    have c9b1 : decide (0 < t573.length) = false := decide_eq_false (by omega)
    clear c9
    (first | rw [c9b0] | (simp only [i64_w, i32_w]; rw [c9b0]) | skip)
    have H' := Aside0.mk H
    clear H
    obtain ⟨Ao13, co13, eo13⟩ := Kd.N_slice HO575.out
    subst eo13
    go_wp2_with (first | ((with_reducible refine gate_callee (f := 38) rfl ?_); refine goesL_ (some 12) rfl rfl Try.func38 (by kernel_rfl) rfl #[.slice Ao13 t573.length co13] rfl z19_3 ?_; (with_reducible refine (spec_SpanOk.calls k _ _ t573 true _ ?side1 ?side2 A7.out).mono ?_); (case side1 => exact cZ ((Kd.N_reads' HO575.out).2.2)); (case side2 => exact (Kd.N_reads' HO575.out).2.1); rintro e w' ⟨rfl, ⟨nd, rfl⟩⟩; refine ⟨_, rfl, ?_⟩))
    go_meet
    case rel => exact ⟨_, (false), (t580), z19_10, H', ⟨by first | omega | exact Nat.le_refl _⟩, ⟨z19_8⟩, ⟨z19_9⟩, ⟨z19_2⟩, ⟨z19_0⟩, ⟨z19_1⟩⟩
  ·replace c8 := Bool.eq_false_iff.mpr c8
   subst c8
   have H1 : (spec_l91Made.j0 k t573 t577 false s0_0 t580) = some (r1, r2, r3) := by rw [if_neg (show ¬ (false = true) by decide)] at H; exact H
   clear H
   have H := H1
   clear H1
   have H' := Aside0.mk H
   clear H
   obtain ⟨Ao14, co14, eo14⟩ := Kd.N_slice HO575.out
   subst eo14
   go_wp2_with (first | ((with_reducible refine gate_callee (f := 38) rfl ?_); refine goesL_ (some 12) rfl rfl Try.func38 (by kernel_rfl) rfl #[.slice Ao14 t573.length co14] rfl z19_3 ?_; (with_reducible refine (spec_SpanOk.calls k _ _ t573 false _ ?side1 ?side2 A7.out).mono ?_); (case side1 => exact cZ ((Kd.N_reads' HO575.out).2.2)); (case side2 => exact (Kd.N_reads' HO575.out).2.1); rintro e w' ⟨rfl, ⟨nd, rfl⟩⟩; refine ⟨_, rfl, ?_⟩))
   go_meet
   case rel => exact ⟨_, (false), (t580), z19_10, H', ⟨by first | omega | exact Nat.le_refl _⟩, ⟨z19_8⟩, ⟨z19_9⟩, ⟨z19_2⟩, ⟨z19_0⟩, ⟨z19_1⟩⟩
 case rest =>
  clear HC4
  obtain ⟨kq, x22_3, x1001_3, rfl, HA, HJ3, HO_4, HO_5, HI0, HK, HB⟩ := hcut
  cases kq with
  | zero => exact absurd HA.out (by simp [spec_l91Made.j0])
  | succ kj3 =>
   have H := HA.out
   clear HA
   simp only [spec_l91Made.j0] at H
   by_cases c15 : x22_3 = true
   ·subst c15
    have H1 : (if 4 ≤ 35184372088832 then (spec_l91Made.l0 kj3 t573 (List.replicate 4 0) 0 s0_0 x1001_3) else (none)) = some (r1, r2, r3) := by rw [if_pos rfl] at H; exact H
    clear H
    have H := H1
    clear H1
    obtain ⟨c16, H⟩ := ifP H
    have c16b0 := eq_true c16
    have c16b1 : decide (4 ≤ 35184372088832) = true := decide_eq_true c16
    clear c16
    obtain ⟨y584, hy584⟩ : ∃ y_ : List Int, y_ = (List.replicate 4 0) := ⟨_, rfl⟩
    replace H : (spec_l91Made.l0 kj3 t573 y584 0 s0_0 x1001_3) = some (r1, r2, r3) := by first | (rw [hy584]; with_reducible exact H) | (have H2_ := (Option.bind_some _ _).symm.trans H; rw [hy584]; with_reducible exact H2_) | (have H2_ := (Option.bind_some _ _).symm.trans H; with_reducible exact H2_) | with_reducible exact H | (rw [hy584]; exact H) | exact H
    have Ny584 := Aside0.mk hy584
    clear hy584
    have H' := Aside0.mk H
    clear H
    go_wp2_with (first | ((with_reducible refine gate_dst (N := 23) rfl ?_); (try (refine gate_guard (by rfl) ?_; dsimp only)); refine Kd.R_make (Kd.int .i64) _ 3 rfl (N := 23) rfl 28 _ _ rfl 4 rfl rfl Try.underlying28 (.int .i64 0) 8 info3 rfl (by decide) (by omega) 0 (ok := fun _ => True) (okp := fun _ => True) rfl (fun _ hk => hk) trivial (by omega) (by omega) (Below.refl _ _) (Nat.le_refl _) ?_; intro v585 w17 ho18 hb hg_ hnew_; clear hg_ hnew_; (first | rw [← Ny584.out] at ho18 | (simp only [Int.reduceToNat] at ho18; rw [← Ny584.out] at ho18)); replace HO_4 := Aside0.mk (Kd.N_elder' z19_6 (Kd.R_base ho18) hb); have HO586 := Aside0.mk (Kd.R_lower (Kd.R_new' (Kd.R_newM (M := fun k_ => (w.heap.size ≤ k_)) ho18 (keep_size (w := w) (g := g) (row := none) z19_0) (fun k_ h_ => h_)) (Kd.Q_lt z19_4)) (keep_size (w := w) (g := g) (row := none) z19_0)); replace HO_5 := Aside0.mk (Kd.Q_elder' z19_4 (Kd.R_base ho18) hb); replace HK := Aside0.mk (KeepBut.trans z19_0 (KeepBut.of_below hb g none) (.inl rfl)); replace HB := Aside0.mk (below_step z19_1 hb); replace HI0 := Aside0.mk (IsS92.below z19_2 hb); clear hb ho18))
    go_loopg [5, 6] kj3 (fun kq v5 v6 w' => ∃ (x5_2 : List Int) (x6_2 : Int) (x1001_2 : Int), v6 = .int .i64 x6_2 ∧ Aside0 (spec_l91Made.l0 kq t573 x5_2 x6_2 s0_0 x1001_2 = some (r1, r2, r3)) ∧ Aside0 (kq ≤ kj3) ∧ Aside0 (Kd.N (Kd.slice 3 (Kd.int .i64)) 28 w' w.heap.size (fun k_ => (w.heap.size ≤ k_) ∧ some k_ ≠ (v5 : Value).ownBlock ∧ k_ ≠ g) v574 t573) ∧ Aside0 (Kd.Q (Kd.int .i64) 3 w' w.heap.size (fun k_ => (w.heap.size ≤ k_)) v5 x5_2) ∧ Aside0 (IsS92 w0 w' g s0_0 x1001_2) ∧ Aside0 (KeepBut w w' g none) ∧ Aside0 (Below w0.heap.size w0 w'))
    case atStart => exact ⟨(y584), (0), (x1001_3), z19_10, H', ⟨Nat.le_refl _⟩, ⟨by (with_reducible repeat (first | apply Kd.N_alloc | apply Kd.N_drewN | apply Kd.N_drew)); exact Kd.N_mono HO_4.out (fun _ hk => ⟨hk.1.1, ⟨hk.2, hk.1.2.2⟩⟩)⟩, ⟨Kd.Q_of_R (by (with_reducible repeat (first | apply Kd.R_alloc | apply Kd.R_drewN | apply Kd.R_drew)); exact Kd.R_mono HO586.out (fun _ hk => hk.1.1))⟩, ⟨z19_2⟩, ⟨z19_0⟩, ⟨z19_1⟩⟩
    case round =>
     clear H'
     try clear c15
     try clear c16
     try clear c16b0
     try clear c16b1
     obtain ⟨x5_2, x6_2, x1001_2, rfl, HA, HK2, HO_4, HO_5, HI0, HK, HB⟩ := hrel
     cases gk with
     | zero => exact absurd HA.out (by simp [spec_l91Made.l0])
     | succ k2 =>
      have H := HA.out
      clear HA
      simp only [spec_l91Made.l0] at H
      by_cases c19 : x6_2 < (t573.length : Int)
      ·rw [if_pos c19] at H
       have c19b0 : decide (x6_2 < (t573.length : Int)) = true := decide_eq_true c19
       clear c19
       obtain ⟨c20, H⟩ := ifP H
       have c20b0 : decide (0 ≤ x6_2) = true := decide_eq_true c20
       clear c20
       replace H := Option.bind_eq_some_iff.mp H
       obtain ⟨⟨t588, t589⟩, A210, H⟩ := H
       replace H : ((spec_l6Rd_pick.f k2 s0_0 t589 2).bind fun bt590 => ((spec_l2Scale.f k2 (rd_L1 t573 x6_2) (wrap64 (t588 * bt590.1))).bind fun t592 => ((spec_l2Sum.f k2 x5_2 t592).bind fun t595 => (spec_l91Made.l0 k2 t573 t595 (wrap64 (x6_2 + 1)) s0_0 bt590.2)))) = some (r1, r2, r3) := H
       have A21 := Aside0.mk A210
       clear A210
       replace H := Option.bind_eq_some_iff.mp H
       obtain ⟨⟨t590, t591⟩, A220, H⟩ := H
       replace H : ((spec_l2Scale.f k2 (rd_L1 t573 x6_2) (wrap64 (t588 * t590))).bind fun t592 => ((spec_l2Sum.f k2 x5_2 t592).bind fun t595 => (spec_l91Made.l0 k2 t573 t595 (wrap64 (x6_2 + 1)) s0_0 t591))) = some (r1, r2, r3) := H
       have A22 := Aside0.mk A220
       clear A220
       replace H := Option.bind_eq_some_iff.mp H
       obtain ⟨t592, A230, H⟩ := H
       replace H : ((spec_l2Sum.f k2 x5_2 t592).bind fun t595 => (spec_l91Made.l0 k2 t573 t595 (wrap64 (x6_2 + 1)) s0_0 t591)) = some (r1, r2, r3) := H
       have A23 := Aside0.mk A230
       clear A230
       replace H := Option.bind_eq_some_iff.mp H
       obtain ⟨t595, A240, H⟩ := H
       replace H : (spec_l91Made.l0 k2 t573 t595 (wrap64 (x6_2 + 1)) s0_0 t591) = some (r1, r2, r3) := H
       have A24 := Aside0.mk A240
       clear A240
       have H' := Aside0.mk H
       clear H
       obtain ⟨Ao25, co25, eo25⟩ := Kd.N_slice HO_4.out
       subst eo25
       try go_wp2
       replace HO_4 := Aside0.mk (Kd.N_drew HO_4.out)
       replace HO_5 := Aside0.mk (Kd.Q_drew HO_5.out)
       replace HI0 := Aside0.mk (IsS92.drew HI0.out)
       replace HK := Aside0.mk (keep_drew HK.out)
       replace HB := Aside0.mk (below_drew1 HB.out)
       have p587 : 0 ≤ (x6_2 : Int) := of_decide_eq_true (by first | (with_reducible assumption) | assumption)
       have q587 : x6_2 < (t573.length : Int) := of_decide_eq_true (by first | (with_reducible assumption) | assumption)
       obtain ⟨ad587, A587_0, c587_0, e587, hx587_0, hl587_0, hi587_0⟩ := at_L1 (Kd.N_reads' HO_4.out).2.2 x6_2 p587 q587
       cases e587
       obtain ⟨ce587, hce587, hMe587, hcc587⟩ := Kd.N_get HO_4.out [] x6_2 p587 (by first | exact q587 | exact of_decide_eq_true (by first | (with_reducible assumption) | assumption) | (have e_ := (Kd.N_reads' HO_4.out).1; omega))
       obtain ⟨ua587_0, uc587_0, rfl, ul587_0, ge587_0⟩ := Kd.FK_slice_open hMe587
       have hv587_0 := hcc587 0 _ rfl
       rw [Nat.add_zero, show ((Kd.slice 3 (Kd.int .i64))).sz = 1 from rfl, Nat.mul_one] at hv587_0
       replace hv587_0 := Option.some.inj (hv587_0.symm.trans hx587_0)
       injection hv587_0 with hva_ hvn_ hvc_
       rw [hva_] at ge587_0
       rw [hvc_] at ul587_0
       have HL587_0 := Aside0.mk (show Kd.V (Kd.int .i64) 3 _ w.heap.size _ _ (rd_L1 t573 x6_2) from Kd.V_mk ul587_0 ge587_0)
       clear hva_ hvn_ hvc_ ge587_0 ul587_0
       clear hcc587 hce587
       have HR587_0 := Aside0.mk hi587_0
       have HC587_0 := Aside0.mk hl587_0
       clear hi587_0 hl587_0
       replace p587 := eq_true p587
       replace q587 := eq_true q587
       refine start_ (n := 13) (S := fun w' => w'.cell? (ad587.add (x6_2).toNat) = some (.slice A587_0 (rd_L1 t573 x6_2).length c587_0)) (ds := []) #[false, false, false, false, false, false, false, false, false, false, false, false, false] (by kernel_rfl) rfl rfl (hx587_0) (fun hHeld => ?_); refine with_tabW spec_l91Made.tab8 spec_l91Made.bits8 (fun HT_ HW_ => ?_)
       generalize wr.drew = w26 at HO_4 HO_5 HI0 HK HB HL587_0 HR587_0 hx587_0 hHeld ⊢
       refine pZ 0 HT_ ?_
       refine pZ 1 HT_ ?_
       refine pZ 2 HT_ ?_
       refine pZ 3 HT_ ?_
       refine pZ 5 HT_ ?_
       refine pZ 7 HT_ ?_
       refine take_ (i := 4) (N := some 34) (v := ?_) (a' := ?_) #[true, true, true, true, true, true, false, true, false, false, false, false, false] rfl rfl (take_ofW HT_.out HW_.out (by kernel_rfl)) (fun _ _ _ h => h) (Or.inl ⟨by rfl, ?_⟩) hHeld ?_ ?_
       rotate_left
       ·intro w' s0
        go_simp
        with_reducible rfl
       rotate_left
       ·simp only [Act.put, List.setIfInBounds_toArray, List.set_cons_zero, List.set_cons_succ, i64_w, i32_w]
        rfl
       refine oZ 6 HT_ (fun K hK => ?_)
       refine goes_ Try.func65 (by kernel_rfl) rfl #[.pointer (some ⟨g, 0, none⟩), .int .i64 31] (by rfl) rfl rfl z19_3 ?_
       with_reducible refine (spec_l6Rd_pick.calls k2 g s0_0 x1001_2 31 t588 t589 w0 _ ?side1 ?side2 A21.out).mono ?_
       (case side1 => repeat (first | (with_reducible first | exact HI0.out | apply IsS92.alloc | apply IsS92.drewN | apply IsS92.drew | apply IsS92.set_1) | exact HI0.out))
       (case side2 => repeat (first | (with_reducible first | exact HB.out | apply below_alloc | apply pw_below_drewN | apply below_drew1 | refine below_set ?_ (IsS92.ge HI0.out)) | exact HB.out))
       rintro e w27 ⟨rfl, hi, hb, hk⟩
       have HS0_ := keep_cell hk (hHeld) z19_7
       refine ⟨_, rfl, ?_⟩
       replace HO_4 := Aside0.mk (Kd.N_mono (Kd.N_keep (Kd.N_mono (ok := fun k_ => (((w.heap.size ≤ k_)) ∧ (some k_ ≠ (u5 : Value).ownBlock ∧ k_ ≠ g))) z19_6 (fun k_ hk_ => (⟨hk_, hk_.2.2⟩ : _ ∧ k_ ≠ g))) hk (fun _ h => h.2)) (fun _ h => h.1))
       replace HO_5 := Aside0.mk (Kd.Q_mono (Kd.Q_keep (IsS92.apartQ (show IsS92 w0 _ g s0_0 x1001_2 from by repeat (first | (with_reducible first | exact HI0.out | apply IsS92.alloc | apply IsS92.drewN | apply IsS92.drew | apply IsS92.set_1) | exact HI0.out)) z19_4 (by decide)) hk (fun _ h => h.2)) (fun _ h => h.1))
       replace HL587_0 := Aside0.mk (Kd.V_mono (Kd.V_keep (Kd.V_mono (ok := fun k_ => ((((w.heap.size ≤ k_)) ∧ (some k_ ≠ (u5 : Value).ownBlock ∧ k_ ≠ g)) ∧ some k_ ≠ (.slice (some ad587) t573.length co25 : Value).ownBlock)) z19_5 (fun k_ hk_ => (⟨hk_, hk_.1.2.2⟩ : _ ∧ k_ ≠ g))) hk (fun _ h => h.2)) (fun _ h => h.1))
       replace HK := Aside0.mk (KeepBut.trans z19_0 hk (.inl rfl))
       replace HB := Aside0.mk (hb)
       replace HI0 := Aside0.mk (hi)
       (try clear hb)
       (try clear hb2)
       (try clear hk)
       (try clear hi)
       refine hK.out _ _ (HS0_) (fun hHeld => ?_)
       clear hK K
       refine nZ ?_
       refine oZ 8 HT_ (fun K hK => ?_)
       refine goes_ Try.func65 (by kernel_rfl) rfl #[.pointer (some ⟨g, 0, none⟩), .int .i64 2] (by rfl) rfl rfl z19_3 ?_
       with_reducible refine (spec_l6Rd_pick.calls k2 g s0_0 t589 2 t590 t591 w0 _ ?side1 ?side2 A22.out).mono ?_
       (case side1 => repeat (first | (with_reducible first | exact HI0.out | apply IsS92.alloc | apply IsS92.drewN | apply IsS92.drew | apply IsS92.set_1) | exact HI0.out))
       (case side2 => repeat (first | (with_reducible first | exact HB.out | apply below_alloc | apply pw_below_drewN | apply below_drew1 | refine below_set ?_ (IsS92.ge HI0.out)) | exact HB.out))
       rintro e w28 ⟨rfl, hi, hb, hk⟩
       have HS0_ := keep_cell hk (hHeld) z19_7
       refine ⟨_, rfl, ?_⟩
       replace HO_4 := Aside0.mk (Kd.N_mono (Kd.N_keep (Kd.N_mono (ok := fun k_ => (((w.heap.size ≤ k_)) ∧ (some k_ ≠ (u5 : Value).ownBlock ∧ k_ ≠ g))) z19_6 (fun k_ hk_ => (⟨hk_, hk_.2.2⟩ : _ ∧ k_ ≠ g))) hk (fun _ h => h.2)) (fun _ h => h.1))
       replace HO_5 := Aside0.mk (Kd.Q_mono (Kd.Q_keep (IsS92.apartQ (show IsS92 w0 _ g s0_0 t589 from by repeat (first | (with_reducible first | exact HI0.out | apply IsS92.alloc | apply IsS92.drewN | apply IsS92.drew | apply IsS92.set_1) | exact HI0.out)) z19_4 (by decide)) hk (fun _ h => h.2)) (fun _ h => h.1))
       replace HL587_0 := Aside0.mk (Kd.V_mono (Kd.V_keep (Kd.V_mono (ok := fun k_ => ((((w.heap.size ≤ k_)) ∧ (some k_ ≠ (u5 : Value).ownBlock ∧ k_ ≠ g)) ∧ some k_ ≠ (.slice (some ad587) t573.length co25 : Value).ownBlock)) z19_5 (fun k_ hk_ => (⟨hk_, hk_.1.2.2⟩ : _ ∧ k_ ≠ g))) hk (fun _ h => h.2)) (fun _ h => h.1))
       replace HK := Aside0.mk (KeepBut.trans z19_0 hk (.inl rfl))
       replace HB := Aside0.mk (hb)
       replace HI0 := Aside0.mk (hi)
       (try clear hb)
       (try clear hb2)
       (try clear hk)
       (try clear hi)
       refine hK.out _ _ (HS0_) (fun hHeld => ?_)
       clear hK K
       refine nZ ?_
       refine pZ 9 HT_ ?_
       refine oZ 10 HT_ (fun K hK => ?_)
       refine goes_ Try.func79 (by kernel_rfl) rfl #[.slice A587_0 (rd_L1 t573 x6_2).length c587_0, .int .i64 (wrap64 (t588 * t590))] (by rfl) rfl rfl z19_3 ?_
       with_reducible refine (spec_l2Scale.calls k2 _ _ (rd_L1 t573 x6_2) (wrap64 (t588 * t590)) t592 _ ?side1 ?side2 A23.out).mono ?_
       (case side1 => repeat (first | exact ((Kd.V_reads' z19_5).2.2) | (with_reducible refine Kd.C_alloc ?_ _) | (with_reducible refine Kd.C_drewN ?_ _) | (with_reducible refine Kd.C_drew ?_)))
       (case side2 => exact HC587_0.out)
       rintro e w29 ⟨v593, rfl, ho0, hb⟩
       have HS0_ := (hb.cell (World.block_lt_of_cell? _ _ (hHeld))).trans (hHeld)
       refine ⟨_, rfl, ?_⟩
       replace HO_4 := Aside0.mk (Kd.N_elder' z19_6 (Kd.R_base ho0) hb)
       replace HL587_0 := Aside0.mk (Kd.V_elder' z19_5 (Kd.R_base ho0) hb)
       have HO594 := Aside0.mk (Kd.R_lower (Kd.R_new' (Kd.R_newM (M := fun k_ => (w.heap.size ≤ k_)) ho0 (keep_size (w := w) (g := g) (row := none) z19_0) (fun k_ h_ => h_)) (Kd.Q_lt z19_4)) (keep_size (w := w) (g := g) (row := none) z19_0))
       replace HO_5 := Aside0.mk (Kd.Q_elder' z19_4 (Kd.R_base ho0) hb)
       replace HK := Aside0.mk (KeepBut.trans z19_0 (KeepBut.of_below hb g none) (.inl rfl))
       replace HB := Aside0.mk (below_step z19_1 hb)
       replace HI0 := Aside0.mk (IsS92.below z19_2 hb)
       (try clear hb)
       (try clear hb2)
       (try clear hk)
       (try clear hi)
       (try clear ho0)
       obtain ⟨Ao30, co30, eo30, _⟩ := Kd.Q_slice HO_5.out
       (first | subst eo30 | (injection eo30 with f1_ f2_ f3_; have f4_ := f1_.symm; have f5_ := f3_.symm; clear f1_ f2_ f3_; subst f4_; subst f5_))
       obtain ⟨Ao31, co31, eo31⟩ := Kd.R_slice HO594.out
       (first | subst eo31 | (injection eo31 with f1_ f2_ f3_; have f4_ := f1_.symm; have f5_ := f3_.symm; clear f1_ f2_ f3_; subst f4_; subst f5_))
       refine hK.out _ _ (HS0_) (fun hHeld => ?_)
       clear hK K
       refine nZ ?_
       refine oZ 11 HT_ (fun K hK => ?_)
       refine goes_ Try.func86 (by kernel_rfl) rfl #[.slice Ao30 x5_2.length co30, .slice Ao31 t592.length co31] (by rfl) rfl rfl z19_3 ?_
       with_reducible refine (spec_l2Sum.calls k2 _ _ x5_2 _ _ t592 t595 _ ?side1 ?side2 ?side3 ?side4 A24.out).mono ?_
       (case side1 => exact cZ ((Kd.Q_reads' HO_5.out).2.2))
       (case side2 => exact (Kd.Q_reads' HO_5.out).2.1)
       (case side3 => exact cZ ((Kd.R_reads' HO594.out).2.2))
       (case side4 => exact (Kd.R_reads' HO594.out).2.1)
       rintro e w32 ⟨v596, rfl, ho0, hb⟩
       have HS0_ := (hb.cell (World.block_lt_of_cell? _ _ (hHeld))).trans (hHeld)
       refine ⟨_, rfl, ?_⟩
       replace HO_4 := Aside0.mk (Kd.N_elder' z19_6 (Kd.R_base ho0) hb)
       replace HL587_0 := Aside0.mk (Kd.V_elder' z19_5 (Kd.R_base ho0) hb)
       have HO597 := Aside0.mk (Kd.R_lower (Kd.R_new' (Kd.R_new' (Kd.R_newM (M := fun k_ => (w.heap.size ≤ k_)) ho0 (keep_size (w := w) (g := g) (row := none) z19_0) (fun k_ h_ => h_)) (Kd.Q_lt z19_4)) (Kd.R_lt (by (with_reducible repeat (first | apply Kd.R_alloc | apply Kd.R_drewN | apply Kd.R_drew)); exact HO594.out))) (keep_size (w := w) (g := g) (row := none) z19_0))
       replace HO_5 := Aside0.mk (Kd.Q_elder' z19_4 (Kd.R_base ho0) hb)
       replace HO594 := Aside0.mk (Kd.R_elder' (by (with_reducible repeat (first | apply Kd.R_alloc | apply Kd.R_drewN | apply Kd.R_drew)); exact HO594.out) (Kd.R_base ho0) hb)
       replace HK := Aside0.mk (KeepBut.trans z19_0 (KeepBut.of_below hb g none) (.inl rfl))
       replace HB := Aside0.mk (below_step z19_1 hb)
       replace HI0 := Aside0.mk (IsS92.below z19_2 hb)
       (try clear hb)
       (try clear hb2)
       (try clear hk)
       (try clear hi)
       (try clear ho0)
       refine hK.out _ _ (HS0_) (fun hHeld => ?_)
       clear hK K
       refine nZ ?_
       refine pZ 12 HT_ ?_
       refine done_ (done_of HT_.out (by kernel_rfl)) ?_
       try go_wp2
       go_roundg k2
       case measure => have := HJ3.out; have := HK2.out; omega
       case rel => exact ⟨(t595), (wrap64 (x6_2 + 1)), (t591), z19_10, H', ⟨by have := HJ3.out; have := HK2.out; omega⟩, ⟨by (with_reducible repeat (first | apply Kd.N_alloc | apply Kd.N_drewN | apply Kd.N_drew)); exact Kd.N_mono HO_4.out (fun _ hk => ⟨hk.1.1.1, ⟨hk.2, hk.1.1.2.2⟩⟩)⟩, ⟨Kd.Q_of_R (by (with_reducible repeat (first | apply Kd.R_alloc | apply Kd.R_drewN | apply Kd.R_drew)); exact Kd.R_mono HO597.out (fun _ hk => hk.1.1.1))⟩, ⟨z19_2⟩, ⟨z19_0⟩, ⟨z19_1⟩⟩
      ·rw [if_neg c19] at H
       have c19b0 : decide (x6_2 < (t573.length : Int)) = false := decide_eq_false c19
       clear c19
       simp only [Option.some.injEq, Prod.mk.injEq] at H
       obtain ⟨rfl, rfl, rfl⟩ := H
       obtain ⟨Ao33, co33, eo33⟩ := Kd.N_slice HO_4.out
       subst eo33
       go_wp2
       go_ret2
       exact ⟨_, _, by first | rfl | (simp [errW_none, errW_some] <;> rfl) | (simp [*, errW_none, errW_some] <;> rfl), z19_11, z19_4, z19_2, z19_1, z19_0⟩
   ·replace c15 := Bool.eq_false_iff.mpr c15
    subst c15
    have H1 : (some (t573, t577, x1001_3)) = some (r1, r2, r3) := by rw [if_neg (show ¬ (false = true) by decide)] at H; exact H
    clear H
    have H := H1
    clear H1
    simp only [Option.some.injEq, Prod.mk.injEq] at H
    obtain ⟨rfl, rfl, rfl⟩ := H
    go_wp2
    go_ret2
    exact ⟨_, _, by first | rfl | (simp [errW_none, errW_some] <;> rfl) | (simp [*, errW_none, errW_some] <;> rfl), z19_11, z19_4, z19_2, z19_1, z19_0⟩

end Go.Proofs.Ytbhmgbeebhmfkaa.PA
