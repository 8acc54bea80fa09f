-- Written by a program of this session (after the manner of the kit's print, several laws in one text).
import Derived.Test.YtbhmgbeebhmfkaaPAx0
import Derived.Test.YtbhmgbeebhmfkaaPAx10
import Derived.Test.YtbhmgbeebhmfkaaPAx11
import Derived.Test.YtbhmgbeebhmfkaaPAx13
import Derived.Test.YtbhmgbeebhmfkaaPAx14
import Derived.Test.YtbhmgbeebhmfkaaGw
import Derived.Test.YtbhmgbeebhmfkaaGm
namespace Go.Proofs.Ytbhmgbeebhmfkaa.PA
open Go.RowKit Go.Proofs.YtbhmgbeebhmfkaaW.PrintWords Go.Proofs.YtbhmgbeebhmfkaaW.PrintLast Go.Proofs.YtbhmgbeebhmfkaaW.PrintMore
attribute [local go_sem] max2_int min2_int max_two min_two max_three min_three max_four min_four   -- for this text's walks alone
set_option linter.unusedVariables false
set_option linter.unusedSimpArgs false

/-! ### spec_l91Rows: function 63 -/
theorem z15_0 {p : Prop} (h : p := by repeat (first | (with_reducible first | exact HK.out | apply KeepBut.set_ | apply keep_drewN | apply keep_drew | apply keep_alloc) | exact HK.out)) : p := h
theorem z15_1 {p : Prop} (h : p := by repeat (first | (with_reducible first | exact HI0.out | apply IsS92.alloc | apply IsS92.drewN | apply IsS92.drew | apply IsS92.set_1) | exact HI0.out)) : p := h
theorem z15_2 {p : Prop} (h : p := by repeat (first | (with_reducible first | exact HB.out | apply below_alloc | apply pw_below_drewN | apply below_drew1 | refine below_set ?_ (IsS92.ge HI0.out)) | exact HB.out)) : p := h
theorem z15_3 {p : Prop} (h : p := by (with_reducible repeat (first | apply Kd.N_alloc | apply Kd.N_drewN | apply Kd.N_drew)); exact HO_3.out) : p := h
theorem z15_4 {p : Prop} (h : p := by (try simp only [List.map_toArray, List.map_cons, List.map_nil]); first | done | rfl | (simp only [List.length_drop, List.length_take]; rfl)) : p := h
theorem z15_5 {p : Prop} (h : p := by first | (rw [add_block]; exact Kd.own_blk (IsS92.own_neN HI0.out HO_3.out (by decide))) | (show (Addr.add _ _).block ≠ _; rw [add_block]; exact Kd.own_blk (IsS92.own_neN HI0.out HO_3.out (by decide))) | exact Kd.own_blk (IsS92.own_neN HI0.out HO_3.out (by decide)) | (have hz_ := Kd.own_blk (IsS92.own_neN HI0.out HO_3.out (by decide)); exact hz_)) : p := h
theorem z15_6 {p : Prop} (h : p := by (with_reducible repeat (first | apply Kd.Q_alloc | apply Kd.Q_drewN | apply Kd.Q_drew)); exact HO_5.out) : p := h
theorem z15_7 {p : Prop} (h : p := by (with_reducible repeat (first | apply Kd.R_alloc | apply Kd.R_drewN | apply Kd.R_drew)); exact HO507.out) : p := h
theorem z15_8 {p : Prop} (h : p := by (with_reducible repeat (first | apply Kd.V_alloc | apply Kd.V_drewN | apply Kd.V_drew)); exact HL502_0.out) : p := h
theorem z15_9 {p : Prop} (h : p := by (with_reducible repeat (first | apply Kd.V_alloc | apply Kd.V_drewN | apply Kd.V_drew)); exact HL508_0.out) : p := h
theorem z15_10 {p : Prop} (h : p := by (with_reducible repeat (first | apply Kd.N_alloc | apply Kd.N_drewN | apply Kd.N_drew)); exact Kd.N_mono HO_3.out (fun _ hk => ⟨hk.1.1, ⟨hk.2, hk.1.2⟩⟩)) : p := h
theorem z15_11 {p : Prop} (h : p := by first | (with_reducible assumption) | assumption) : p := h
theorem z15_12 {p : Prop} (h : p := by (with_reducible repeat (first | apply Kd.Q_alloc | apply Kd.Q_drewN | apply Kd.Q_drew)); exact Kd.Q_mono HO494.out (fun _ hk => hk.1)) : p := h
theorem z15_13 {p : Prop} (h : p := by (with_reducible repeat (first | apply Kd.R_alloc | apply Kd.R_drewN | apply Kd.R_drew)); exact HO513.out) : p := h
theorem z15_14 {p : Prop} (h : p := by first | rfl | (simp; done) | (simp [*]; done)) : p := h
theorem z15_15 {p : Prop} (h : p := by (with_reducible repeat (first | apply Kd.Q_alloc | apply Kd.Q_drewN | apply Kd.Q_drew)); exact HO494.out) : p := h
theorem z15_16 {p : Prop} (h : p := by repeat (first | (with_reducible exact HR498_0.out) | (with_reducible refine Kd.C_alloc ?_ _) | (with_reducible refine Kd.C_drewN ?_ _) | (with_reducible refine Kd.C_drew ?_) | exact HR498_0.out)) : p := h
theorem z15_17 {p : Prop} (h : p := by have := HK1.out; first | omega | exact Nat.le_refl _) : p := h
theorem z15_18 {p : Prop} (h : p := by (with_reducible repeat (first | apply Kd.N_alloc | apply Kd.N_drewN | apply Kd.N_drew)); exact Kd.N_mono HO_3.out (fun _ hk => hk.1)) : p := h
mutual
def spec_l91Rows.l0 : Nat → List (List Int) → Int → List Int → Int → Option ((List (List Int)) × Int)
  | 0, _, _, _, _ => none
  | k + 1, x3, x4, x1000, x1001 => if x4 > 0 then ((spec_l91Vec.f k x1000 x1001).bind fun bt492 => (if (x3.length : Int) > 1 then ((spec_l6Rd_pick.f k x1000 bt492.2 3).bind fun bt496 => (if bt496.1 = 0 then (if 0 < (x3.length : Int) then ((spec_VecOk.f k (rd_L1 x3 0)).bind fun t499 => (if t499 = true then (if 1 < (x3.length : Int) then ((spec_VecOk.f k (rd_L1 x3 1)).bind fun t501 => (spec_l91Rows.j1 k x3 x4 bt492.1 t501 x1000 bt496.2)) else (none)) else (spec_l91Rows.j1 k x3 x4 bt492.1 false x1000 bt496.2))) else (none)) else (spec_l91Rows.j1 k x3 x4 bt492.1 false x1000 bt496.2))) else (spec_l91Rows.j1 k x3 x4 bt492.1 false x1000 bt492.2))) else ((spec_l6Rd_pick.f k x1000 x1001 40).bind fun bt523 => (if bt523.1 = 0 then (spec_l91Rows.l1 k x3 x1000 bt523.2) else (some (x3, bt523.2))))
def spec_l91Rows.j1 : Nat → List (List Int) → Int → List Int → Bool → List Int → Int → Option ((List (List Int)) × Int)
  | 0, _, _, _, _, _, _ => none
  | k + 1, x3, x4, x5, x34, x1000, x1001 => if x34 = true then (if 0 < (x3.length : Int) then ((spec_l6Rd_pick.f k x1000 x1001 31).bind fun bt503 => ((spec_l2Scale.f k (rd_L1 x3 0) bt503.1).bind fun t505 => (if 1 < (x3.length : Int) then ((spec_l6Rd_pick.f k x1000 bt503.2 31).bind fun bt509 => ((spec_l2Scale.f k (rd_L1 x3 1) bt509.1).bind fun t511 => ((spec_l2Sum.f k t505 t511).bind fun t514 => (if x3.length < 5864062014805 then (spec_l91Rows.l0 k (x3 ++ [t514]) (wrap64 (x4 - 1)) x1000 bt509.2) else (none))))) else (none)))) else (none)) else (if x3.length < 5864062014805 then (spec_l91Rows.l0 k (x3 ++ [x5]) (wrap64 (x4 - 1)) x1000 x1001) else (none))
def spec_l91Rows.l1 : Nat → List (List Int) → List Int → Int → Option ((List (List Int)) × Int)
  | 0, _, _, _ => none
  | k + 1, x3, x1000, x1001 => if (x3.length : Int) ≤ 8 then (if x3.length < 5864062014805 then (spec_l91Rows.l1 k (x3 ++ [(([1, 2, 3, 4] : List Int))]) x1000 x1001) else (none)) else (some (x3, x1001))
end
def spec_l91Rows.f (k : Nat) (s0_0 : List Int) (s0_1 : Int) : Option ((List (List Int)) × Int) := (spec_l6Rd_pick.f k s0_0 s0_1 6).bind fun bt490 => (spec_l91Rows.l0 k (([] : List (List Int))) bt490.1 s0_0 bt490.2)
def spec_l91Rows.T7 : Bool × List (List Nat × List Nat) := (true, [([], []), ([0], [0]), ([1], [1]), ([], []), ([3], [3]), ([2, 4, 4], [2, 4]), ([], []), ([6], [6]), ([7], [7]), ([], []), ([9, 5], [9]), ([8, 10, 10], [8, 10]), ([5, 11, 11], [5, 11]), ([12, 12, 0, 1, 2, 3, 4, 5, 6, 7, 8, 9, 10, 11, 12], [12])])
def spec_l91Rows.B7 : List Nat := [0, 1, 3, 0, 8, 31, 0, 64, 192, 0, 575, 2047, 4095, 8191]
theorem spec_l91Rows.tab7 : rtab .any (opsOf Try.f63 7) = spec_l91Rows.T7 := by kernel_rfl
theorem spec_l91Rows.bits7 : waitsOk spec_l91Rows.T7.2 spec_l91Rows.B7 = true := by kernel_rfl
set_option maxHeartbeats 8000000 in
set_option maxRecDepth 100000 in
theorem spec_l91Rows.calls (k : Nat) (g : Nat) (s0_0 : List Int) (s0_1 : Int) (r1 : List (List Int)) (r2 : Int) (w0 w : World) (hI : IsS92 w0 w g s0_0 s0_1) (hB : Below w0.heap.size w0 w) (h : spec_l91Rows.f k s0_0 s0_1 = some (r1, r2)) :
  Calls Try.prog 63 #[.pointer (some ⟨g, 0, none⟩)] w fun e w' => ∃ v0_ : Value, e = .returned (v0_) ∧ Kd.N (Kd.slice 3 (Kd.int .i64)) 28 w' w.heap.size (fun k_ => (w.heap.size ≤ k_)) v0_ r1 ∧ IsS92 w0 w' g s0_0 r2 ∧ Below w0.heap.size w0 w' ∧ KeepBut w w' g none := by
 have HI0 := Aside0.mk hI
 have HK := Aside0.mk (KeepBut.refl w g none)
 have HL := Aside0.mk hB.size
 clear hI
 have HW0 := Aside0.mk hB.size
 have HB := Aside0.mk hB
 clear hB
 have H : ((spec_l6Rd_pick.f k s0_0 s0_1 6).bind fun bt490 => (spec_l91Rows.l0 k (([] : List (List Int))) bt490.1 s0_0 bt490.2)) = some (r1, r2) := h
 clear h
 obtain ⟨y487, hy487⟩ : ∃ y_ : List (List Int), y_ = (([] : List (List Int))) := ⟨_, rfl⟩
 replace H : ((spec_l6Rd_pick.f k s0_0 s0_1 6).bind fun bt490 => (spec_l91Rows.l0 k y487 bt490.1 s0_0 bt490.2)) = some (r1, r2) := by first | (rw [hy487]; with_reducible exact H) | (have H2_ := (Option.bind_some _ _).symm.trans H; rw [hy487]; with_reducible exact H2_) | (have H2_ := (Option.bind_some _ _).symm.trans H; with_reducible exact H2_) | with_reducible exact H | (rw [hy487]; exact H) | exact H
 have Ny487 := Aside0.mk hy487
 clear hy487
 replace H := Option.bind_eq_some_iff.mp H
 obtain ⟨⟨t490, t491⟩, A20, H⟩ := H
 replace H : (spec_l91Rows.l0 k y487 t490 s0_0 t491) = some (r1, r2) := H
 have A2 := Aside0.mk A20
 clear A20
 have H' := Aside0.mk H
 clear H
 go_enter Try.func63, Try.ntmps63
 go_wp2_with (first | ((with_reducible refine gate_dst (N := 6) rfl ?_); refine Kd.N_lit (Kd.slice 3 (Kd.int .i64)) _ 28 ?hg (N' := 6) ?hd (xs := ([] : List (List Int))) (inner := []) (ok := (fun k_ => (w.heap.size ≤ k_) ∧ k_ ≠ g)) (okp := (fun k_ => (w.heap.size ≤ k_) ∧ k_ ≠ g)) ?hr ?hp (fun _ hk => hk) ((show ∀ k_, w.heap.size ≤ k_ → (fun k_ => (w.heap.size ≤ k_) ∧ k_ ≠ g) k_ from fun k_ hk => ⟨(Nat.le_trans (keep_size (w := w) (g := g) (row := none) z15_0) hk), IsS92.fresh z15_1 k_ hk⟩) _ (Nat.le_refl _)) (Below.refl _ _) (Nat.le_refl _) (by simp) ?_; (case hd => rfl); (case hg => rfl); (case hr => first | (go_simp; done) | (go_simp; rfl)); (case hp => exact (Reps.none _ _)); intro v488 w3 ho4 hb hg_ hnew_; clear hg_ hnew_; (first | rw [← Ny487.out] at ho4 | (simp only [Int.reduceToNat] at ho4; rw [← Ny487.out] at ho4)); have HO489 := Aside0.mk (Kd.N_lower ho4 (keep_size (w := w) (g := g) (row := none) z15_0)); replace HK := Aside0.mk (KeepBut.trans z15_0 (KeepBut.of_below hb g none) (.inl rfl)); replace HB := Aside0.mk (below_step z15_2 hb); replace HI0 := Aside0.mk (IsS92.below z15_1 hb); clear hb ho4) | ((with_reducible refine gate_callee (f := 65) rfl ?_); refine goesL_ (some 8) rfl rfl Try.func65 (by kernel_rfl) rfl #[.pointer (some ⟨g, 0, none⟩), .int .i64 6] rfl z15_4 ?_; (with_reducible refine (spec_l6Rd_pick.calls k g s0_0 s0_1 6 t490 t491 w0 _ ?side1 ?side2 A2.out).mono ?_); (case side1 => repeat (first | (with_reducible first | exact HI0.out | apply IsS92.alloc | apply IsS92.drewN | apply IsS92.drew | apply IsS92.set_1) | exact HI0.out)); (case side2 => repeat (first | (with_reducible first | exact HB.out | apply below_alloc | apply pw_below_drewN | apply below_drew1 | refine below_set ?_ (IsS92.ge HI0.out)) | exact HB.out)); rintro e w5 ⟨rfl, hi, hb, hk⟩; refine ⟨_, rfl, ?_⟩; replace HO489 := Aside0.mk (Kd.N_mono (Kd.N_keep (Kd.N_mono (ok := fun k_ => (((w.heap.size ≤ k_)) ∧ k_ ≠ g)) (by (with_reducible repeat (first | apply Kd.N_alloc | apply Kd.N_drewN | apply Kd.N_drew)); exact HO489.out) (fun k_ hk_ => (⟨hk_, hk_.2⟩ : _ ∧ k_ ≠ g))) hk (fun _ h => h.2)) (fun _ h => h.1)); replace HK := Aside0.mk (KeepBut.trans z15_0 hk (.inl rfl)); replace HB := Aside0.mk (hb); replace HI0 := Aside0.mk (hi); (try clear hb)))
 go_loopg [3, 4] k (fun kq v3 v4 w' => ∃ (x3_1 : List (List Int)) (x4_1 : Int) (x1001_1 : Int), v4 = .int .i64 x4_1 ∧ Aside0 (spec_l91Rows.l0 kq x3_1 x4_1 s0_0 x1001_1 = some (r1, r2)) ∧ Aside0 (kq ≤ k) ∧ Aside0 (Kd.N (Kd.slice 3 (Kd.int .i64)) 28 w' w.heap.size (fun k_ => (w.heap.size ≤ k_) ∧ k_ ≠ g) v3 x3_1) ∧ Aside0 (IsS92 w0 w' g s0_0 x1001_1) ∧ Aside0 (KeepBut w w' g none) ∧ Aside0 (Below w0.heap.size w0 w'))
 case atStart => exact ⟨(y487), (t490), (t491), z15_14, H', ⟨Nat.le_refl _⟩, ⟨by (with_reducible repeat (first | apply Kd.N_alloc | apply Kd.N_drewN | apply Kd.N_drew)); exact HO489.out⟩, ⟨z15_1⟩, ⟨z15_0⟩, ⟨z15_2⟩⟩
 case round =>
  clear H'
  obtain ⟨x3_1, x4_1, x1001_1, rfl, HA, HK1, HO_3, HI0, HK, HB⟩ := hrel
  cases gk with
  | zero => exact absurd HA.out (by simp [spec_l91Rows.l0])
  | succ k1 =>
   have H := HA.out
   clear HA
   simp only [spec_l91Rows.l0] at H
   by_cases c6 : x4_1 > 0
   ·rw [if_pos c6] at H
    have c6b0 : decide (0 < x4_1) = true := decide_eq_true c6
    clear c6
    replace H := Option.bind_eq_some_iff.mp H
    obtain ⟨⟨t492, t495⟩, A70, H⟩ := H
    replace H : (if (x3_1.length : Int) > 1 then ((spec_l6Rd_pick.f k1 s0_0 t495 3).bind fun bt496 => (if bt496.1 = 0 then (if 0 < (x3_1.length : Int) then ((spec_VecOk.f k1 (rd_L1 x3_1 0)).bind fun t499 => (if t499 = true then (if 1 < (x3_1.length : Int) then ((spec_VecOk.f k1 (rd_L1 x3_1 1)).bind fun t501 => (spec_l91Rows.j1 k1 x3_1 x4_1 t492 t501 s0_0 bt496.2)) else (none)) else (spec_l91Rows.j1 k1 x3_1 x4_1 t492 false s0_0 bt496.2))) else (none)) else (spec_l91Rows.j1 k1 x3_1 x4_1 t492 false s0_0 bt496.2))) else (spec_l91Rows.j1 k1 x3_1 x4_1 t492 false s0_0 t495)) = some (r1, r2) := H
    have A7 := Aside0.mk A70
    clear A70
    have HC8 := Aside0.mk H
    clear H
    go_upto_region 6 with (first | ((with_reducible refine gate_callee (f := 85) rfl ?_); refine goesL_ (some 14) rfl rfl Try.func85 (by kernel_rfl) rfl #[.pointer (some ⟨g, 0, none⟩)] rfl z15_4 ?_; (with_reducible refine (spec_l91Vec.calls k1 g s0_0 x1001_1 t492 t495 w0 _ ?side1 ?side2 A7.out).mono ?_); (case side1 => repeat (first | (with_reducible first | exact HI0.out | apply IsS92.alloc | apply IsS92.drewN | apply IsS92.drew | apply IsS92.set_1) | exact HI0.out)); (case side2 => repeat (first | (with_reducible first | exact HB.out | apply below_alloc | apply pw_below_drewN | apply below_drew1 | refine below_set ?_ (IsS92.ge HI0.out)) | exact HB.out)); rintro e w9 ⟨v493, rfl, ho0, hi, hb, hk⟩; refine ⟨_, rfl, ?_⟩; replace HO_3 := Aside0.mk (Kd.N_mono (Kd.N_told (Kd.N_oldK (Kd.N_mono (ok := fun k_ => (((w.heap.size ≤ k_)) ∧ k_ ≠ g)) z15_3 (fun k_ hk_ => (⟨hk_, hk_.2⟩ : _ ∧ k_ ≠ g))) hk) (Kd.Q_base ho0)) (fun _ h_ => h_.1)); have HO494 := Aside0.mk (Kd.Q_lower (Kd.Q_newM (M := fun k_ => (w.heap.size ≤ k_)) ho0 (keep_size (w := w) (g := g) (row := none) z15_0) (fun k_ h_ => h_)) (keep_size (w := w) (g := g) (row := none) z15_0)); replace HK := Aside0.mk (KeepBut.trans z15_0 hk (.inl rfl)); replace HB := Aside0.mk (hb); replace HI0 := Aside0.mk (hi); (try clear hb); (try clear ho0)))
    (try simp only [Act.put, List.setIfInBounds_toArray, List.set_cons_zero, List.set_cons_succ])
    go_cut [34] (fun v34 wc => ∃ (kq : Nat) (x34_7 : Bool) (x1001_7 : Int), v34 = .bool x34_7 ∧ Aside0 (spec_l91Rows.j1 kq x3_1 x4_1 t492 x34_7 s0_0 x1001_7 = some (r1, r2)) ∧ Aside0 (kq ≤ k1) ∧ Aside0 (Kd.N (Kd.slice 3 (Kd.int .i64)) 28 wc w.heap.size (fun k_ => (w.heap.size ≤ k_) ∧ some k_ ≠ (v493 : Value).ownBlock ∧ k_ ≠ g) u3 x3_1) ∧ Aside0 (Kd.Q (Kd.int .i64) 3 wc w.heap.size (fun k_ => (w.heap.size ≤ k_)) v493 t492) ∧ Aside0 (IsS92 w0 wc g s0_0 x1001_7) ∧ Aside0 (KeepBut w wc g none) ∧ Aside0 (Below w0.heap.size w0 wc))
    case first =>
     have H := HC8.out
     clear HC8
     by_cases c10 : (x3_1.length : Int) > 1
     ·rw [if_pos c10] at H
      have c10b0 : decide (1 < (x3_1.length : Int)) = true := decide_eq_true c10
      have c10b1 : decide (1 < x3_1.length) = true := decide_eq_true (by omega)
      clear c10
      (first | rw [c10b0] | (simp only [i64_w, i32_w]; rw [c10b0]) | skip)
      replace H := Option.bind_eq_some_iff.mp H
      obtain ⟨⟨t496, t497⟩, A110, H⟩ := H
      replace H : (if t496 = 0 then (if 0 < (x3_1.length : Int) then ((spec_VecOk.f k1 (rd_L1 x3_1 0)).bind fun t499 => (if t499 = true then (if 1 < (x3_1.length : Int) then ((spec_VecOk.f k1 (rd_L1 x3_1 1)).bind fun t501 => (spec_l91Rows.j1 k1 x3_1 x4_1 t492 t501 s0_0 t497)) else (none)) else (spec_l91Rows.j1 k1 x3_1 x4_1 t492 false s0_0 t497))) else (none)) else (spec_l91Rows.j1 k1 x3_1 x4_1 t492 false s0_0 t497)) = some (r1, r2) := H
      have A11 := Aside0.mk A110
      clear A110
      by_cases c12 : t496 = 0
      ·rw [if_pos c12] at H
       have c12b0 : (t496 == 0) = true := beq_iff_eq.mpr c12
       have c12b1 : (t496 != 0) = false := bne_eq_false_iff_eq.mpr c12
       clear c12
       obtain ⟨c13, H⟩ := ifP H
       have c13b0 : decide (0 < (x3_1.length : Int)) = true := decide_eq_true c13
       have c13b1 : decide (0 < x3_1.length) = true := decide_eq_true (by omega)
       clear c13
       replace H := Option.bind_eq_some_iff.mp H
       obtain ⟨t499, A140, H⟩ := H
       replace H : (if t499 = true then (if 1 < (x3_1.length : Int) then ((spec_VecOk.f k1 (rd_L1 x3_1 1)).bind fun t501 => (spec_l91Rows.j1 k1 x3_1 x4_1 t492 t501 s0_0 t497)) else (none)) else (spec_l91Rows.j1 k1 x3_1 x4_1 t492 false s0_0 t497)) = some (r1, r2) := H
       have A14 := Aside0.mk A140
       clear A140
       by_cases c15 : t499 = true
       ·subst c15
        have H1 : (if 1 < (x3_1.length : Int) then ((spec_VecOk.f k1 (rd_L1 x3_1 1)).bind fun t501 => (spec_l91Rows.j1 k1 x3_1 x4_1 t492 t501 s0_0 t497)) else (none)) = some (r1, r2) := by rw [if_pos rfl] at H; exact H
        clear H
        have H := H1
        clear H1
        obtain ⟨c16, H⟩ := ifP H
        have c16b0 : decide (1 < (x3_1.length : Int)) = true := decide_eq_true c16
        have c16b1 : decide (1 < x3_1.length) = true := decide_eq_true (by omega)
        clear c16
        replace H := Option.bind_eq_some_iff.mp H
        obtain ⟨t501, A170, H⟩ := H
        replace H : (spec_l91Rows.j1 k1 x3_1 x4_1 t492 t501 s0_0 t497) = some (r1, r2) := H
        have A17 := Aside0.mk A170
        clear A170
        have H' := Aside0.mk H
        clear H
        obtain ⟨Ao18, co18, eo18⟩ := Kd.N_slice HO_3.out
        subst eo18
        go_wp2_with (first | (go_at_call 65; (with_reducible refine (spec_l6Rd_pick.calls k1 g s0_0 t495 3 t496 t497 w0 _ ?side1 ?side2 A11.out).mono ?_); (case side1 => repeat (first | (with_reducible first | exact HI0.out | apply IsS92.alloc | apply IsS92.drewN | apply IsS92.drew | apply IsS92.set_1) | exact HI0.out)); (case side2 => repeat (first | (with_reducible first | exact HB.out | apply below_alloc | apply pw_below_drewN | apply below_drew1 | refine below_set ?_ (IsS92.ge HI0.out)) | exact HB.out)); rintro e w19 ⟨rfl, hi, hb, hk⟩; replace HO_3 := Aside0.mk (Kd.N_mono (Kd.N_keep (Kd.N_mono (ok := fun k_ => ((((w.heap.size ≤ k_)) ∧ k_ ≠ g) ∧ some k_ ≠ (v493 : Value).ownBlock)) z15_3 (fun k_ hk_ => (⟨hk_, hk_.1.2⟩ : _ ∧ k_ ≠ g))) hk (fun _ h => h.2)) (fun _ h => h.1)); replace HO494 := Aside0.mk (Kd.Q_mono (Kd.Q_keep (IsS92.apartQ (show IsS92 w0 _ g s0_0 t495 from by repeat (first | (with_reducible first | exact HI0.out | apply IsS92.alloc | apply IsS92.drewN | apply IsS92.drew | apply IsS92.set_1) | exact HI0.out)) z15_15 (by decide)) hk (fun _ h => h.2)) (fun _ h => h.1)); replace HK := Aside0.mk (KeepBut.trans z15_0 hk (.inl rfl)); replace HB := Aside0.mk (hb); replace HI0 := Aside0.mk (hi); (try clear hb); have p498 : 0 ≤ (0 : Int) := (by omega); have q498 : 0 < (x3_1.length : Int) := of_decide_eq_true z15_11; obtain ⟨ad498, A498_0, c498_0, e498, hx498_0, hl498_0, hi498_0⟩ := at_L1 (Kd.N_reads' HO_3.out).2.2 0 p498 q498; cases e498; obtain ⟨ce498, hce498, hMe498, hcc498⟩ := Kd.N_get HO_3.out [] 0 p498 (by first | exact q498 | exact of_decide_eq_true z15_11 | (have e_ := (Kd.N_reads' HO_3.out).1; omega)); obtain ⟨ua498_0, uc498_0, rfl, ul498_0, ge498_0⟩ := Kd.FK_slice_open hMe498; have hv498_0 := hcc498 0 _ rfl; rw [Nat.add_zero, show ((Kd.slice 3 (Kd.int .i64))).sz = 1 from rfl, Nat.mul_one] at hv498_0; replace hv498_0 := Option.some.inj (hv498_0.symm.trans hx498_0); injection hv498_0 with hva_ hvn_ hvc_; rw [hva_] at ge498_0; rw [hvc_] at ul498_0; have HL498_0 := Aside0.mk (show Kd.V (Kd.int .i64) 3 _ w.heap.size _ _ (rd_L1 x3_1 0) from Kd.V_mk ul498_0 ge498_0); clear hva_ hvn_ hvc_ ge498_0 ul498_0; clear hcc498 hce498; have qi498 : (0 < x3_1.length) = True := eq_true (by omega); (try rw [show ((0 : Int)).toNat = 0 from rfl] at hx498_0); (try rw [Addr.add_zero'] at hx498_0); have HR498_0 := Aside0.mk hi498_0; have HC498_0 := Aside0.mk hl498_0; clear hi498_0 hl498_0; replace p498 := eq_true p498; replace q498 := eq_true q498) | (go_at_call 43; (with_reducible refine (spec_VecOk.calls k1 _ _ (rd_L1 x3_1 0) true _ ?side1 ?side2 A14.out).mono ?_); (case side1 => repeat (first | exact z15_16 | (with_reducible refine Kd.C_alloc ?_ _) | (with_reducible refine Kd.C_drewN ?_ _) | (with_reducible refine Kd.C_drew ?_))); (case side2 => exact HC498_0.out); rintro e w' ⟨rfl, ⟨nd, rfl⟩⟩; have p500 : 0 ≤ (1 : Int) := (by omega); have q500 : 1 < (x3_1.length : Int) := of_decide_eq_true z15_11; obtain ⟨ad500, A500_0, c500_0, e500, hx500_0, hl500_0, hi500_0⟩ := at_L1 (Kd.N_reads' HO_3.out).2.2 1 p500 q500; obtain rfl : ad498 = ad500 := (by injection e500); obtain ⟨ce500, hce500, hMe500, hcc500⟩ := Kd.N_get HO_3.out [] 1 p500 (by first | exact q500 | exact of_decide_eq_true z15_11 | (have e_ := (Kd.N_reads' HO_3.out).1; omega)); obtain ⟨ua500_0, uc500_0, rfl, ul500_0, ge500_0⟩ := Kd.FK_slice_open hMe500; have hv500_0 := hcc500 0 _ rfl; rw [Nat.add_zero, show ((Kd.slice 3 (Kd.int .i64))).sz = 1 from rfl, Nat.mul_one] at hv500_0; replace hv500_0 := Option.some.inj (hv500_0.symm.trans hx500_0); injection hv500_0 with hva_ hvn_ hvc_; rw [hva_] at ge500_0; rw [hvc_] at ul500_0; have HL500_0 := Aside0.mk (show Kd.V (Kd.int .i64) 3 _ w.heap.size _ _ (rd_L1 x3_1 1) from Kd.V_mk ul500_0 ge500_0); clear hva_ hvn_ hvc_ ge500_0 ul500_0; clear hcc500 hce500; (try simp only [show (1 : Int).toNat = 1 from rfl, Nat.reduceMul, Nat.reduceEqDiff, Go.Addr.add, ↓reduceIte] at hx500_0); have qi500 : (1 < x3_1.length) = True := eq_true (by omega); (try rw [show ((1 : Int)).toNat = 1 from rfl] at hx500_0); have HR500_0 := Aside0.mk hi500_0; have HC500_0 := Aside0.mk hl500_0; clear hi500_0 hl500_0; replace p500 := eq_true p500; replace q500 := eq_true q500) | (go_at_call 43; (with_reducible refine (spec_VecOk.calls k1 _ _ (rd_L1 x3_1 1) t501 _ ?side1 ?side2 A17.out).mono ?_); (case side1 => repeat (first | exact (by repeat (first | (with_reducible exact HR500_0.out) | (with_reducible refine Kd.C_alloc ?_ _) | (with_reducible refine Kd.C_drewN ?_ _) | (with_reducible refine Kd.C_drew ?_) | exact HR500_0.out)) | (with_reducible refine Kd.C_alloc ?_ _) | (with_reducible refine Kd.C_drewN ?_ _) | (with_reducible refine Kd.C_drew ?_))); (case side2 => exact HC500_0.out); rintro e w' ⟨rfl, ⟨nd, rfl⟩⟩))
        go_meet
        case rel => exact ⟨_, (t501), (t497), z15_14, H', ⟨z15_17⟩, ⟨z15_10⟩, ⟨z15_12⟩, ⟨z15_1⟩, ⟨z15_0⟩, ⟨z15_2⟩⟩
       ·replace c15 := Bool.eq_false_iff.mpr c15
        subst c15
        have H1 : (spec_l91Rows.j1 k1 x3_1 x4_1 t492 false s0_0 t497) = some (r1, r2) := by rw [if_neg (show ¬ (false = true) by decide)] at H; exact H
        clear H
        have H := H1
        clear H1
        have H' := Aside0.mk H
        clear H
        obtain ⟨Ao20, co20, eo20⟩ := Kd.N_slice HO_3.out
        subst eo20
        go_wp2_with (first | (go_at_call 65; (with_reducible refine (spec_l6Rd_pick.calls k1 g s0_0 t495 3 t496 t497 w0 _ ?side1 ?side2 A11.out).mono ?_); (case side1 => repeat (first | (with_reducible first | exact HI0.out | apply IsS92.alloc | apply IsS92.drewN | apply IsS92.drew | apply IsS92.set_1) | exact HI0.out)); (case side2 => repeat (first | (with_reducible first | exact HB.out | apply below_alloc | apply pw_below_drewN | apply below_drew1 | refine below_set ?_ (IsS92.ge HI0.out)) | exact HB.out)); rintro e w21 ⟨rfl, hi, hb, hk⟩; replace HO_3 := Aside0.mk (Kd.N_mono (Kd.N_keep (Kd.N_mono (ok := fun k_ => ((((w.heap.size ≤ k_)) ∧ k_ ≠ g) ∧ some k_ ≠ (v493 : Value).ownBlock)) z15_3 (fun k_ hk_ => (⟨hk_, hk_.1.2⟩ : _ ∧ k_ ≠ g))) hk (fun _ h => h.2)) (fun _ h => h.1)); replace HO494 := Aside0.mk (Kd.Q_mono (Kd.Q_keep (IsS92.apartQ (show IsS92 w0 _ g s0_0 t495 from by repeat (first | (with_reducible first | exact HI0.out | apply IsS92.alloc | apply IsS92.drewN | apply IsS92.drew | apply IsS92.set_1) | exact HI0.out)) z15_15 (by decide)) hk (fun _ h => h.2)) (fun _ h => h.1)); replace HK := Aside0.mk (KeepBut.trans z15_0 hk (.inl rfl)); replace HB := Aside0.mk (hb); replace HI0 := Aside0.mk (hi); (try clear hb); have p498 : 0 ≤ (0 : Int) := (by omega); have q498 : 0 < (x3_1.length : Int) := of_decide_eq_true z15_11; obtain ⟨ad498, A498_0, c498_0, e498, hx498_0, hl498_0, hi498_0⟩ := at_L1 (Kd.N_reads' HO_3.out).2.2 0 p498 q498; cases e498; obtain ⟨ce498, hce498, hMe498, hcc498⟩ := Kd.N_get HO_3.out [] 0 p498 (by first | exact q498 | exact of_decide_eq_true z15_11 | (have e_ := (Kd.N_reads' HO_3.out).1; omega)); obtain ⟨ua498_0, uc498_0, rfl, ul498_0, ge498_0⟩ := Kd.FK_slice_open hMe498; have hv498_0 := hcc498 0 _ rfl; rw [Nat.add_zero, show ((Kd.slice 3 (Kd.int .i64))).sz = 1 from rfl, Nat.mul_one] at hv498_0; replace hv498_0 := Option.some.inj (hv498_0.symm.trans hx498_0); injection hv498_0 with hva_ hvn_ hvc_; rw [hva_] at ge498_0; rw [hvc_] at ul498_0; have HL498_0 := Aside0.mk (show Kd.V (Kd.int .i64) 3 _ w.heap.size _ _ (rd_L1 x3_1 0) from Kd.V_mk ul498_0 ge498_0); clear hva_ hvn_ hvc_ ge498_0 ul498_0; clear hcc498 hce498; have qi498 : (0 < x3_1.length) = True := eq_true (by omega); (try rw [show ((0 : Int)).toNat = 0 from rfl] at hx498_0); (try rw [Addr.add_zero'] at hx498_0); have HR498_0 := Aside0.mk hi498_0; have HC498_0 := Aside0.mk hl498_0; clear hi498_0 hl498_0; replace p498 := eq_true p498; replace q498 := eq_true q498) | (go_at_call 43; (with_reducible refine (spec_VecOk.calls k1 _ _ (rd_L1 x3_1 0) false _ ?side1 ?side2 A14.out).mono ?_); (case side1 => repeat (first | exact z15_16 | (with_reducible refine Kd.C_alloc ?_ _) | (with_reducible refine Kd.C_drewN ?_ _) | (with_reducible refine Kd.C_drew ?_))); (case side2 => exact HC498_0.out); rintro e w' ⟨rfl, ⟨nd, rfl⟩⟩))
        go_meet
        case rel => exact ⟨_, (false), (t497), z15_14, H', ⟨z15_17⟩, ⟨z15_10⟩, ⟨z15_12⟩, ⟨z15_1⟩, ⟨z15_0⟩, ⟨z15_2⟩⟩
      ·rw [if_neg c12] at H
       have c12b0 : (t496 == 0) = false := beq_eq_false_iff_ne.mpr c12
       have c12b1 : (t496 != 0) = true := bne_iff_ne.mpr c12
       have H' := Aside0.mk H
       clear H
       obtain ⟨Ao22, co22, eo22⟩ := Kd.N_slice HO_3.out
       subst eo22
       go_wp2_with (first | (go_at_call 65; (with_reducible refine (spec_l6Rd_pick.calls k1 g s0_0 t495 3 t496 t497 w0 _ ?side1 ?side2 A11.out).mono ?_); (case side1 => repeat (first | (with_reducible first | exact HI0.out | apply IsS92.alloc | apply IsS92.drewN | apply IsS92.drew | apply IsS92.set_1) | exact HI0.out)); (case side2 => repeat (first | (with_reducible first | exact HB.out | apply below_alloc | apply pw_below_drewN | apply below_drew1 | refine below_set ?_ (IsS92.ge HI0.out)) | exact HB.out)); rintro e w23 ⟨rfl, hi, hb, hk⟩; replace HO_3 := Aside0.mk (Kd.N_mono (Kd.N_keep (Kd.N_mono (ok := fun k_ => ((((w.heap.size ≤ k_)) ∧ k_ ≠ g) ∧ some k_ ≠ (v493 : Value).ownBlock)) z15_3 (fun k_ hk_ => (⟨hk_, hk_.1.2⟩ : _ ∧ k_ ≠ g))) hk (fun _ h => h.2)) (fun _ h => h.1)); replace HO494 := Aside0.mk (Kd.Q_mono (Kd.Q_keep (IsS92.apartQ (show IsS92 w0 _ g s0_0 t495 from by repeat (first | (with_reducible first | exact HI0.out | apply IsS92.alloc | apply IsS92.drewN | apply IsS92.drew | apply IsS92.set_1) | exact HI0.out)) z15_15 (by decide)) hk (fun _ h => h.2)) (fun _ h => h.1)); replace HK := Aside0.mk (KeepBut.trans z15_0 hk (.inl rfl)); replace HB := Aside0.mk (hb); replace HI0 := Aside0.mk (hi); (try clear hb)))
       go_meet
       case rel => exact ⟨_, (false), (t497), z15_14, H', ⟨z15_17⟩, ⟨z15_10⟩, ⟨z15_12⟩, ⟨z15_1⟩, ⟨z15_0⟩, ⟨z15_2⟩⟩
     ·rw [if_neg c10] at H
      have c10b0 : decide (1 < (x3_1.length : Int)) = false := decide_eq_false c10
      have c10b1 : decide (1 < x3_1.length) = false := decide_eq_false (by omega)
      clear c10
      (first | rw [c10b0] | (simp only [i64_w, i32_w]; rw [c10b0]) | skip)
      have H' := Aside0.mk H
      clear H
      obtain ⟨Ao24, co24, eo24⟩ := Kd.N_slice HO_3.out
      subst eo24
      go_wp2
      go_meet
      case rel => exact ⟨_, (false), (t495), z15_14, H', ⟨z15_17⟩, ⟨z15_10⟩, ⟨z15_12⟩, ⟨z15_1⟩, ⟨z15_0⟩, ⟨z15_2⟩⟩
    case rest =>
     clear HC8
     try clear c6
     try clear c6b0
     obtain ⟨kq, x34_7, x1001_7, rfl, HA, HJ7, HO_3, HO_5, HI0, HK, HB⟩ := hcut
     cases kq with
     | zero => exact absurd HA.out (by simp [spec_l91Rows.j1])
     | succ kj7 =>
      have H := HA.out
      clear HA
      simp only [spec_l91Rows.j1] at H
      by_cases c25 : x34_7 = true
      ·subst c25
       have H1 : (if 0 < (x3_1.length : Int) then ((spec_l6Rd_pick.f kj7 s0_0 x1001_7 31).bind fun bt503 => ((spec_l2Scale.f kj7 (rd_L1 x3_1 0) bt503.1).bind fun t505 => (if 1 < (x3_1.length : Int) then ((spec_l6Rd_pick.f kj7 s0_0 bt503.2 31).bind fun bt509 => ((spec_l2Scale.f kj7 (rd_L1 x3_1 1) bt509.1).bind fun t511 => ((spec_l2Sum.f kj7 t505 t511).bind fun t514 => (if x3_1.length < 5864062014805 then (spec_l91Rows.l0 kj7 (x3_1 ++ [t514]) (wrap64 (x4_1 - 1)) s0_0 bt509.2) else (none))))) else (none)))) else (none)) = some (r1, r2) := by rw [if_pos rfl] at H; exact H
       clear H
       have H := H1
       clear H1
       obtain ⟨c26, H⟩ := ifP H
       have c26b0 : decide (0 < (x3_1.length : Int)) = true := decide_eq_true c26
       have c26b1 : decide (0 < x3_1.length) = true := decide_eq_true (by omega)
       clear c26
       replace H := Option.bind_eq_some_iff.mp H
       obtain ⟨⟨t503, t504⟩, A270, H⟩ := H
       replace H : ((spec_l2Scale.f kj7 (rd_L1 x3_1 0) t503).bind fun t505 => (if 1 < (x3_1.length : Int) then ((spec_l6Rd_pick.f kj7 s0_0 t504 31).bind fun bt509 => ((spec_l2Scale.f kj7 (rd_L1 x3_1 1) bt509.1).bind fun t511 => ((spec_l2Sum.f kj7 t505 t511).bind fun t514 => (if x3_1.length < 5864062014805 then (spec_l91Rows.l0 kj7 (x3_1 ++ [t514]) (wrap64 (x4_1 - 1)) s0_0 bt509.2) else (none))))) else (none))) = some (r1, r2) := H
       have A27 := Aside0.mk A270
       clear A270
       replace H := Option.bind_eq_some_iff.mp H
       obtain ⟨t505, A280, H⟩ := H
       replace H : (if 1 < (x3_1.length : Int) then ((spec_l6Rd_pick.f kj7 s0_0 t504 31).bind fun bt509 => ((spec_l2Scale.f kj7 (rd_L1 x3_1 1) bt509.1).bind fun t511 => ((spec_l2Sum.f kj7 t505 t511).bind fun t514 => (if x3_1.length < 5864062014805 then (spec_l91Rows.l0 kj7 (x3_1 ++ [t514]) (wrap64 (x4_1 - 1)) s0_0 bt509.2) else (none))))) else (none)) = some (r1, r2) := H
       have A28 := Aside0.mk A280
       clear A280
       obtain ⟨c29, H⟩ := ifP H
       have c29b0 : decide (1 < (x3_1.length : Int)) = true := decide_eq_true c29
       have c29b1 : decide (1 < x3_1.length) = true := decide_eq_true (by omega)
       clear c29
       replace H := Option.bind_eq_some_iff.mp H
       obtain ⟨⟨t509, t510⟩, A300, H⟩ := H
       replace H : ((spec_l2Scale.f kj7 (rd_L1 x3_1 1) t509).bind fun t511 => ((spec_l2Sum.f kj7 t505 t511).bind fun t514 => (if x3_1.length < 5864062014805 then (spec_l91Rows.l0 kj7 (x3_1 ++ [t514]) (wrap64 (x4_1 - 1)) s0_0 t510) else (none)))) = some (r1, r2) := H
       have A30 := Aside0.mk A300
       clear A300
       replace H := Option.bind_eq_some_iff.mp H
       obtain ⟨t511, A310, H⟩ := H
       replace H : ((spec_l2Sum.f kj7 t505 t511).bind fun t514 => (if x3_1.length < 5864062014805 then (spec_l91Rows.l0 kj7 (x3_1 ++ [t514]) (wrap64 (x4_1 - 1)) s0_0 t510) else (none))) = some (r1, r2) := H
       have A31 := Aside0.mk A310
       clear A310
       replace H := Option.bind_eq_some_iff.mp H
       obtain ⟨t514, A320, H⟩ := H
       replace H : (if x3_1.length < 5864062014805 then (spec_l91Rows.l0 kj7 (x3_1 ++ [t514]) (wrap64 (x4_1 - 1)) s0_0 t510) else (none)) = some (r1, r2) := H
       have A32 := Aside0.mk A320
       clear A320
       obtain ⟨c33, H⟩ := ifP H
       have LMc33 := Aside0.mk c33
       clear c33
       obtain ⟨y517, hy517⟩ : ∃ y_ : List (List Int), y_ = (x3_1 ++ [t514]) := ⟨_, rfl⟩
       replace H : (spec_l91Rows.l0 kj7 y517 (wrap64 (x4_1 - 1)) s0_0 t510) = some (r1, r2) := by first | (rw [hy517]; with_reducible exact H) | (have H2_ := (Option.bind_some _ _).symm.trans H; rw [hy517]; with_reducible exact H2_) | (have H2_ := (Option.bind_some _ _).symm.trans H; with_reducible exact H2_) | with_reducible exact H | (rw [hy517]; exact H) | exact H
       have Ny517 := Aside0.mk hy517
       clear hy517
       have H' := Aside0.mk H
       clear H
       try go_wp2
       replace HO_3 := Aside0.mk (Kd.N_drew HO_3.out)
       replace HO_5 := Aside0.mk (Kd.Q_drew HO_5.out)
       replace HI0 := Aside0.mk (IsS92.drew HI0.out)
       replace HK := Aside0.mk (keep_drew HK.out)
       replace HB := Aside0.mk (below_drew1 HB.out)
       obtain ⟨Ao35, co35, eo35⟩ := Kd.N_slice HO_3.out
       (first | subst eo35 | (injection eo35 with f1_ f2_ f3_; have f4_ := f1_.symm; have f5_ := f3_.symm; clear f1_ f2_ f3_; subst f4_; subst f5_))
       have p502 : 0 ≤ (0 : Int) := (by omega)
       have q502 : 0 < (x3_1.length : Int) := of_decide_eq_true z15_11
       obtain ⟨ad502, A502_0, c502_0, e502, hx502_0, hl502_0, hi502_0⟩ := at_L1 (Kd.N_reads' HO_3.out).2.2 0 p502 q502
       cases e502
       obtain ⟨ce502, hce502, hMe502, hcc502⟩ := Kd.N_get HO_3.out [] 0 p502 (by first | exact q502 | exact of_decide_eq_true z15_11 | (have e_ := (Kd.N_reads' HO_3.out).1; omega))
       obtain ⟨ua502_0, uc502_0, rfl, ul502_0, ge502_0⟩ := Kd.FK_slice_open hMe502
       have hv502_0 := hcc502 0 _ rfl
       rw [Nat.add_zero, show ((Kd.slice 3 (Kd.int .i64))).sz = 1 from rfl, Nat.mul_one] at hv502_0
       replace hv502_0 := Option.some.inj (hv502_0.symm.trans hx502_0)
       injection hv502_0 with hva_ hvn_ hvc_
       rw [hva_] at ge502_0
       rw [hvc_] at ul502_0
       have HL502_0 := Aside0.mk (show Kd.V (Kd.int .i64) 3 _ w.heap.size _ _ (rd_L1 x3_1 0) from Kd.V_mk ul502_0 ge502_0)
       clear hva_ hvn_ hvc_ ge502_0 ul502_0
       clear hcc502 hce502
       have qi502 : (0 < x3_1.length) = True := eq_true (by omega)
       (try rw [show ((0 : Int)).toNat = 0 from rfl] at hx502_0)
       (try rw [Addr.add_zero'] at hx502_0)
       have HR502_0 := Aside0.mk hi502_0
       have HC502_0 := Aside0.mk hl502_0
       clear hi502_0 hl502_0
       replace p502 := eq_true p502
       replace q502 := eq_true q502
       have p508 : 0 ≤ (1 : Int) := (by omega)
       have q508 : 1 < (x3_1.length : Int) := of_decide_eq_true z15_11
       obtain ⟨ad508, A508_0, c508_0, e508, hx508_0, hl508_0, hi508_0⟩ := at_L1 (Kd.N_reads' HO_3.out).2.2 1 p508 q508
       obtain rfl : ad502 = ad508 := (by injection e508)
       obtain ⟨ce508, hce508, hMe508, hcc508⟩ := Kd.N_get HO_3.out [] 1 p508 (by first | exact q508 | exact of_decide_eq_true z15_11 | (have e_ := (Kd.N_reads' HO_3.out).1; omega))
       obtain ⟨ua508_0, uc508_0, rfl, ul508_0, ge508_0⟩ := Kd.FK_slice_open hMe508
       have hv508_0 := hcc508 0 _ rfl
       rw [Nat.add_zero, show ((Kd.slice 3 (Kd.int .i64))).sz = 1 from rfl, Nat.mul_one] at hv508_0
       replace hv508_0 := Option.some.inj (hv508_0.symm.trans hx508_0)
       injection hv508_0 with hva_ hvn_ hvc_
       rw [hva_] at ge508_0
       rw [hvc_] at ul508_0
       have HL508_0 := Aside0.mk (show Kd.V (Kd.int .i64) 3 _ w.heap.size _ _ (rd_L1 x3_1 1) from Kd.V_mk ul508_0 ge508_0)
       clear hva_ hvn_ hvc_ ge508_0 ul508_0
       clear hcc508 hce508
       (try simp only [show (1 : Int).toNat = 1 from rfl, Nat.reduceMul, Nat.reduceEqDiff, Go.Addr.add, ↓reduceIte] at hx508_0)
       have qi508 : (1 < x3_1.length) = True := eq_true (by omega)
       (try rw [show ((1 : Int)).toNat = 1 from rfl] at hx508_0)
       have HR508_0 := Aside0.mk hi508_0
       have HC508_0 := Aside0.mk hl508_0
       clear hi508_0 hl508_0
       replace p508 := eq_true p508
       replace q508 := eq_true q508
       refine start_ (n := 14) (S := fun w' => w'.cell? ad502 = some (.slice A502_0 (rd_L1 x3_1 0).length c502_0) ∧ w'.cell? ⟨ad502.block, ad502.off + 1, none⟩ = some (.slice A508_0 (rd_L1 x3_1 1).length c508_0)) (ds := []) #[false, false, false, false, false, false, false, false, false, false, false, false, false, false] (by kernel_rfl) rfl rfl ⟨hx502_0, hx508_0⟩ (fun hHeld => ?_); refine with_tabW spec_l91Rows.tab7 spec_l91Rows.bits7 (fun HT_ HW_ => ?_)
       generalize wc.drew = w34 at HO_3 HO_5 HI0 HK HB HL502_0 HL508_0 HR502_0 HR508_0 hx502_0 hx508_0 hHeld ⊢
       refine pZ 0 HT_ ?_
       refine pZ 1 HT_ ?_
       refine pZ 3 HT_ ?_
       refine pZ 6 HT_ ?_
       refine pZ 7 HT_ ?_
       refine pZ 9 HT_ ?_
       refine tZ 2 hHeld HT_ HW_ ?_
       refine tZ 8 hHeld HT_ HW_ ?_
       refine oZ 4 HT_ (fun K hK => ?_)
       refine goes_ Try.func65 (by kernel_rfl) rfl #[.pointer (some ⟨g, 0, none⟩), .int .i64 31] (by rfl) rfl rfl z15_4 ?_
       with_reducible refine (spec_l6Rd_pick.calls kj7 g s0_0 x1001_7 31 t503 t504 w0 _ ?side1 ?side2 A27.out).mono ?_
       (case side1 => repeat (first | (with_reducible first | exact HI0.out | apply IsS92.alloc | apply IsS92.drewN | apply IsS92.drew | apply IsS92.set_1) | exact HI0.out))
       (case side2 => repeat (first | (with_reducible first | exact HB.out | apply below_alloc | apply pw_below_drewN | apply below_drew1 | refine below_set ?_ (IsS92.ge HI0.out)) | exact HB.out))
       rintro e w36 ⟨rfl, hi, hb, hk⟩
       have HS0_ := keep_cell hk (hHeld.1) z15_5
       have HS1_ := keep_cell hk (hHeld.2) z15_5
       refine ⟨_, rfl, ?_⟩
       replace HO_3 := Aside0.mk (Kd.N_mono (Kd.N_keep (Kd.N_mono (ok := fun k_ => (((w.heap.size ≤ k_)) ∧ (some k_ ≠ (v493 : Value).ownBlock ∧ k_ ≠ g))) z15_3 (fun k_ hk_ => (⟨hk_, hk_.2.2⟩ : _ ∧ k_ ≠ g))) hk (fun _ h => h.2)) (fun _ h => h.1))
       replace HO_5 := Aside0.mk (Kd.Q_mono (Kd.Q_keep (IsS92.apartQ (show IsS92 w0 _ g s0_0 x1001_7 from by repeat (first | (with_reducible first | exact HI0.out | apply IsS92.alloc | apply IsS92.drewN | apply IsS92.drew | apply IsS92.set_1) | exact HI0.out)) z15_6 (by decide)) hk (fun _ h => h.2)) (fun _ h => h.1))
       replace HL502_0 := Aside0.mk (Kd.V_mono (Kd.V_keep (Kd.V_mono (ok := fun k_ => ((((w.heap.size ≤ k_)) ∧ (some k_ ≠ (v493 : Value).ownBlock ∧ k_ ≠ g)) ∧ some k_ ≠ (.slice (some ad502) x3_1.length co35 : Value).ownBlock)) z15_8 (fun k_ hk_ => (⟨hk_, hk_.1.2.2⟩ : _ ∧ k_ ≠ g))) hk (fun _ h => h.2)) (fun _ h => h.1))
       replace HL508_0 := Aside0.mk (Kd.V_mono (Kd.V_keep (Kd.V_mono (ok := fun k_ => ((((w.heap.size ≤ k_)) ∧ (some k_ ≠ (v493 : Value).ownBlock ∧ k_ ≠ g)) ∧ some k_ ≠ (.slice (some ad502) x3_1.length co35 : Value).ownBlock)) z15_9 (fun k_ hk_ => (⟨hk_, hk_.1.2.2⟩ : _ ∧ k_ ≠ g))) hk (fun _ h => h.2)) (fun _ h => h.1))
       replace HK := Aside0.mk (KeepBut.trans z15_0 hk (.inl rfl))
       replace HB := Aside0.mk (hb)
       replace HI0 := Aside0.mk (hi)
       (try clear hb)
       (try clear hb2)
       (try clear hk)
       (try clear hi)
       refine hK.out _ _ ⟨HS0_, HS1_⟩ (fun hHeld => ?_)
       clear hK K
       refine nZ ?_
       refine oZ 5 HT_ (fun K hK => ?_)
       refine goes_ Try.func79 (by kernel_rfl) rfl #[.slice A502_0 (rd_L1 x3_1 0).length c502_0, .int .i64 t503] (by rfl) rfl rfl z15_4 ?_
       with_reducible refine (spec_l2Scale.calls kj7 _ _ (rd_L1 x3_1 0) t503 t505 _ ?side1 ?side2 A28.out).mono ?_
       (case side1 => repeat (first | exact ((Kd.V_reads' z15_8).2.2) | (with_reducible refine Kd.C_alloc ?_ _) | (with_reducible refine Kd.C_drewN ?_ _) | (with_reducible refine Kd.C_drew ?_)))
       (case side2 => exact HC502_0.out)
       rintro e w37 ⟨v506, rfl, ho0, hb⟩
       have HS0_ := (hb.cell (World.block_lt_of_cell? _ _ (hHeld.1))).trans (hHeld.1)
       have HS1_ := (hb.cell (World.block_lt_of_cell? _ _ (hHeld.2))).trans (hHeld.2)
       refine ⟨_, rfl, ?_⟩
       replace HO_3 := Aside0.mk (Kd.N_elder' z15_3 (Kd.R_base ho0) hb)
       replace HL502_0 := Aside0.mk (Kd.V_elder' z15_8 (Kd.R_base ho0) hb)
       replace HL508_0 := Aside0.mk (Kd.V_elder' z15_9 (Kd.R_base ho0) hb)
       have HO507 := Aside0.mk (Kd.R_lower (Kd.R_new' (Kd.R_newM (M := fun k_ => (w.heap.size ≤ k_)) ho0 (keep_size (w := w) (g := g) (row := none) z15_0) (fun k_ h_ => h_)) (Kd.Q_lt z15_6)) (keep_size (w := w) (g := g) (row := none) z15_0))
       replace HO_5 := Aside0.mk (Kd.Q_elder' z15_6 (Kd.R_base ho0) hb)
       replace HK := Aside0.mk (KeepBut.trans z15_0 (KeepBut.of_below hb g none) (.inl rfl))
       replace HB := Aside0.mk (below_step z15_2 hb)
       replace HI0 := Aside0.mk (IsS92.below z15_1 hb)
       (try clear hb)
       (try clear hb2)
       (try clear hk)
       (try clear hi)
       (try clear ho0)
       refine hK.out _ _ ⟨HS0_, HS1_⟩ (fun hHeld => ?_)
       clear hK K
       refine nZ ?_
       refine oZ 10 HT_ (fun K hK => ?_)
       refine goes_ Try.func65 (by kernel_rfl) rfl #[.pointer (some ⟨g, 0, none⟩), .int .i64 31] (by rfl) rfl rfl z15_4 ?_
       with_reducible refine (spec_l6Rd_pick.calls kj7 g s0_0 t504 31 t509 t510 w0 _ ?side1 ?side2 A30.out).mono ?_
       (case side1 => repeat (first | (with_reducible first | exact HI0.out | apply IsS92.alloc | apply IsS92.drewN | apply IsS92.drew | apply IsS92.set_1) | exact HI0.out))
       (case side2 => repeat (first | (with_reducible first | exact HB.out | apply below_alloc | apply pw_below_drewN | apply below_drew1 | refine below_set ?_ (IsS92.ge HI0.out)) | exact HB.out))
       rintro e w38 ⟨rfl, hi, hb, hk⟩
       have HS0_ := keep_cell hk (hHeld.1) z15_5
       have HS1_ := keep_cell hk (hHeld.2) z15_5
       refine ⟨_, rfl, ?_⟩
       replace HO_3 := Aside0.mk (Kd.N_mono (Kd.N_keep (Kd.N_mono (ok := fun k_ => ((((w.heap.size ≤ k_)) ∧ (some k_ ≠ (v493 : Value).ownBlock ∧ k_ ≠ g)) ∧ some k_ ≠ (v506 : Value).ownBlock)) z15_3 (fun k_ hk_ => (⟨hk_, hk_.1.2.2⟩ : _ ∧ k_ ≠ g))) hk (fun _ h => h.2)) (fun _ h => h.1))
       replace HO_5 := Aside0.mk (Kd.Q_mono (Kd.Q_keep (IsS92.apartQ (show IsS92 w0 _ g s0_0 t504 from by repeat (first | (with_reducible first | exact HI0.out | apply IsS92.alloc | apply IsS92.drewN | apply IsS92.drew | apply IsS92.set_1) | exact HI0.out)) z15_6 (by decide)) hk (fun _ h => h.2)) (fun _ h => h.1))
       replace HL502_0 := Aside0.mk (Kd.V_mono (Kd.V_keep (Kd.V_mono (ok := fun k_ => (((((w.heap.size ≤ k_)) ∧ (some k_ ≠ (v493 : Value).ownBlock ∧ k_ ≠ g)) ∧ some k_ ≠ (.slice (some ad502) x3_1.length co35 : Value).ownBlock) ∧ some k_ ≠ (v506 : Value).ownBlock)) z15_8 (fun k_ hk_ => (⟨hk_, hk_.1.1.2.2⟩ : _ ∧ k_ ≠ g))) hk (fun _ h => h.2)) (fun _ h => h.1))
       replace HL508_0 := Aside0.mk (Kd.V_mono (Kd.V_keep (Kd.V_mono (ok := fun k_ => (((((w.heap.size ≤ k_)) ∧ (some k_ ≠ (v493 : Value).ownBlock ∧ k_ ≠ g)) ∧ some k_ ≠ (.slice (some ad502) x3_1.length co35 : Value).ownBlock) ∧ some k_ ≠ (v506 : Value).ownBlock)) z15_9 (fun k_ hk_ => (⟨hk_, hk_.1.1.2.2⟩ : _ ∧ k_ ≠ g))) hk (fun _ h => h.2)) (fun _ h => h.1))
       replace HO507 := Aside0.mk (Kd.R_mono (Kd.R_keep (IsS92.apart (show IsS92 w0 _ g s0_0 t504 from by repeat (first | (with_reducible first | exact HI0.out | apply IsS92.alloc | apply IsS92.drewN | apply IsS92.drew | apply IsS92.set_1) | exact HI0.out)) z15_7 (by decide)) hk (fun _ h => h.2)) (fun _ h => h.1))
       replace HK := Aside0.mk (KeepBut.trans z15_0 hk (.inl rfl))
       replace HB := Aside0.mk (hb)
       replace HI0 := Aside0.mk (hi)
       (try clear hb)
       (try clear hb2)
       (try clear hk)
       (try clear hi)
       refine hK.out _ _ ⟨HS0_, HS1_⟩ (fun hHeld => ?_)
       clear hK K
       refine nZ ?_
       refine oZ 11 HT_ (fun K hK => ?_)
       refine goes_ Try.func79 (by kernel_rfl) rfl #[.slice A508_0 (rd_L1 x3_1 1).length c508_0, .int .i64 t509] (by rfl) rfl rfl z15_4 ?_
       with_reducible refine (spec_l2Scale.calls kj7 _ _ (rd_L1 x3_1 1) t509 t511 _ ?side1 ?side2 A31.out).mono ?_
       (case side1 => repeat (first | exact ((Kd.V_reads' z15_9).2.2) | (with_reducible refine Kd.C_alloc ?_ _) | (with_reducible refine Kd.C_drewN ?_ _) | (with_reducible refine Kd.C_drew ?_)))
       (case side2 => exact HC508_0.out)
       rintro e w39 ⟨v512, rfl, ho0, hb⟩
       have HS0_ := (hb.cell (World.block_lt_of_cell? _ _ (hHeld.1))).trans (hHeld.1)
       have HS1_ := (hb.cell (World.block_lt_of_cell? _ _ (hHeld.2))).trans (hHeld.2)
       refine ⟨_, rfl, ?_⟩
       replace HO_3 := Aside0.mk (Kd.N_elder' z15_3 (Kd.R_base ho0) hb)
       replace HL502_0 := Aside0.mk (Kd.V_elder' z15_8 (Kd.R_base ho0) hb)
       replace HL508_0 := Aside0.mk (Kd.V_elder' z15_9 (Kd.R_base ho0) hb)
       have HO513 := Aside0.mk (Kd.R_lower (Kd.R_new' (Kd.R_new' (Kd.R_newM (M := fun k_ => (w.heap.size ≤ k_)) ho0 (keep_size (w := w) (g := g) (row := none) z15_0) (fun k_ h_ => h_)) (Kd.Q_lt z15_6)) (Kd.R_lt z15_7)) (keep_size (w := w) (g := g) (row := none) z15_0))
       replace HO_5 := Aside0.mk (Kd.Q_elder' z15_6 (Kd.R_base ho0) hb)
       replace HO507 := Aside0.mk (Kd.R_elder' z15_7 (Kd.R_base ho0) hb)
       replace HK := Aside0.mk (KeepBut.trans z15_0 (KeepBut.of_below hb g none) (.inl rfl))
       replace HB := Aside0.mk (below_step z15_2 hb)
       replace HI0 := Aside0.mk (IsS92.below z15_1 hb)
       (try clear hb)
       (try clear hb2)
       (try clear hk)
       (try clear hi)
       (try clear ho0)
       obtain ⟨Ao40, co40, eo40⟩ := Kd.R_slice HO507.out
       (first | subst eo40 | (injection eo40 with f1_ f2_ f3_; have f4_ := f1_.symm; have f5_ := f3_.symm; clear f1_ f2_ f3_; subst f4_; subst f5_))
       obtain ⟨Ao41, co41, eo41⟩ := Kd.R_slice HO513.out
       (first | subst eo41 | (injection eo41 with f1_ f2_ f3_; have f4_ := f1_.symm; have f5_ := f3_.symm; clear f1_ f2_ f3_; subst f4_; subst f5_))
       refine hK.out _ _ ⟨HS0_, HS1_⟩ (fun hHeld => ?_)
       clear hK K
       refine nZ ?_
       refine oZ 12 HT_ (fun K hK => ?_)
       refine goes_ Try.func86 (by kernel_rfl) rfl #[.slice Ao40 t505.length co40, .slice Ao41 t511.length co41] (by rfl) rfl rfl z15_4 ?_
       with_reducible refine (spec_l2Sum.calls kj7 _ _ t505 _ _ t511 t514 _ ?side1 ?side2 ?side3 ?side4 A32.out).mono ?_
       (case side1 => exact cZ ((Kd.R_reads' HO507.out).2.2))
       (case side2 => exact (Kd.R_reads' HO507.out).2.1)
       (case side3 => exact cZ ((Kd.R_reads' HO513.out).2.2))
       (case side4 => exact (Kd.R_reads' HO513.out).2.1)
       rintro e w42 ⟨v515, rfl, ho0, hb⟩
       have HS0_ := (hb.cell (World.block_lt_of_cell? _ _ (hHeld.1))).trans (hHeld.1)
       have HS1_ := (hb.cell (World.block_lt_of_cell? _ _ (hHeld.2))).trans (hHeld.2)
       refine ⟨_, rfl, ?_⟩
       replace HO_3 := Aside0.mk (Kd.N_elder' z15_3 (Kd.R_base ho0) hb)
       replace HL502_0 := Aside0.mk (Kd.V_elder' z15_8 (Kd.R_base ho0) hb)
       replace HL508_0 := Aside0.mk (Kd.V_elder' z15_9 (Kd.R_base ho0) hb)
       have HO516 := Aside0.mk (Kd.R_lower (Kd.R_new' (Kd.R_new' (Kd.R_new' (Kd.R_newM (M := fun k_ => (w.heap.size ≤ k_)) ho0 (keep_size (w := w) (g := g) (row := none) z15_0) (fun k_ h_ => h_)) (Kd.Q_lt z15_6)) (Kd.R_lt z15_7)) (Kd.R_lt z15_13)) (keep_size (w := w) (g := g) (row := none) z15_0))
       replace HO_5 := Aside0.mk (Kd.Q_elder' z15_6 (Kd.R_base ho0) hb)
       replace HO507 := Aside0.mk (Kd.R_elder' z15_7 (Kd.R_base ho0) hb)
       replace HO513 := Aside0.mk (Kd.R_elder' z15_13 (Kd.R_base ho0) hb)
       replace HK := Aside0.mk (KeepBut.trans z15_0 (KeepBut.of_below hb g none) (.inl rfl))
       replace HB := Aside0.mk (below_step z15_2 hb)
       replace HI0 := Aside0.mk (IsS92.below z15_1 hb)
       (try clear hb)
       (try clear hb2)
       (try clear hk)
       (try clear hi)
       (try clear ho0)
       refine hK.out _ _ ⟨HS0_, HS1_⟩ (fun hHeld => ?_)
       clear hK K
       refine nZ ?_
       refine pZ 13 HT_ ?_
       refine done_ (done_of HT_.out (by kernel_rfl)) ?_
       obtain ⟨Ao44, co44, eo44⟩ := Kd.R_slice HO516.out
       subst eo44
       try go_wp2_with (first | ((with_reducible refine gate_builtin (b := .append) (xs := #[.tmp 48, .tmp 50]) rfl ?_); at_builtin; refine Kd.N_append (Kd.slice 3 (Kd.int .i64)) w.heap.size rfl (.tmp 48) (.tmp 50) 22 28 (.slice none 0 0) 24 rfl Try.underlying22 info28 rfl (by decide) (by omega) (.slice (some ad502) x3_1.length co35) x3_1 t514 [.slice Ao44 t514.length co44] (fun k_ => (w.heap.size ≤ k_) ∧ some k_ ≠ (v493 : Value).ownBlock ∧ some k_ ≠ (.slice Ao40 t505.length co40 : Value).ownBlock ∧ some k_ ≠ (.slice Ao41 t511.length co41 : Value).ownBlock ∧ k_ ≠ g) (fun k_ => ((fun k_ => (w.heap.size ≤ k_) ∧ some k_ ≠ (v493 : Value).ownBlock ∧ some k_ ≠ (.slice Ao40 t505.length co40 : Value).ownBlock ∧ some k_ ≠ (.slice Ao41 t511.length co41 : Value).ownBlock ∧ k_ ≠ g)) k_ ∧ some k_ ≠ (.slice (some ad502) x3_1.length co35 : Value).ownBlock) rfl rfl ?aP (fun _ hk => hk) ?aF ?aO (Below.refl _ _) ?aS ?aL ?_; (case aP => exact (Kd.FK_slice_mk (Kd.R_reads' (Kd.R_mono (ok' := (fun k_ => ((fun k_ => (w.heap.size ≤ k_) ∧ some k_ ≠ (v493 : Value).ownBlock ∧ some k_ ≠ (.slice Ao40 t505.length co40 : Value).ownBlock ∧ some k_ ≠ (.slice Ao41 t511.length co41 : Value).ownBlock ∧ k_ ≠ g)) k_ ∧ some k_ ≠ (.slice (some ad502) x3_1.length co35 : Value).ownBlock)) (IsS92.apart HI0.out (Kd.R_apart' (HO516.out) (Kd.N_typed HO_3.out) (by decide)) (by decide)) (fun k_ hk => ⟨⟨hk.1.1.1.1.1.1, ⟨hk.1.1.1.1.2, ⟨hk.1.1.1.2, ⟨hk.1.1.2, hk.2⟩⟩⟩⟩, hk.1.2⟩))).2.1 (Kd.R_F (Kd.R_mono (ok' := (fun k_ => ((fun k_ => (w.heap.size ≤ k_) ∧ some k_ ≠ (v493 : Value).ownBlock ∧ some k_ ≠ (.slice Ao40 t505.length co40 : Value).ownBlock ∧ some k_ ≠ (.slice Ao41 t511.length co41 : Value).ownBlock ∧ k_ ≠ g)) k_ ∧ some k_ ≠ (.slice (some ad502) x3_1.length co35 : Value).ownBlock)) (IsS92.apart HI0.out (Kd.R_apart' (HO516.out) (Kd.N_typed HO_3.out) (by decide)) (by decide)) (fun k_ hk => ⟨⟨hk.1.1.1.1.1.1, ⟨hk.1.1.1.1.2, ⟨hk.1.1.1.2, ⟨hk.1.1.2, hk.2⟩⟩⟩⟩, hk.1.2⟩))))); (case aF => exact (fun k_ hk => ⟨(Nat.le_trans (keep_size (w := w) (g := g) (row := none) z15_0) hk), Kd.fresh' (Kd.Q_lt z15_6) k_ hk, Kd.fresh' (Kd.R_lt z15_7) k_ hk, Kd.fresh' (Kd.R_lt z15_13) k_ hk, IsS92.fresh z15_1 k_ hk⟩)); (case aO => exact (by (with_reducible repeat (first | apply Kd.N_alloc | apply Kd.N_drewN | apply Kd.N_drew)); exact Kd.N_mono HO_3.out (fun _ hk => ⟨hk.1.1.1.1, ⟨hk.1.1.1.2.1, ⟨hk.1.1.2, ⟨hk.1.2, hk.1.1.1.2.2⟩⟩⟩⟩))); (case aS => exact (keep_size (w := w) (g := g) (row := none) z15_0)); (case aL => have := LMc33.out; omega); intro v518 w43 ho hb hg hat; rw [← Ny517.out] at ho; have n0_ := Aside0.mk (Kd.Q_over' z15_6 (Kd.N_typed z15_3) (by decide) hg); have n1_ := Aside0.mk (IsS92.grown z15_1 hg (IsS92.own_neN HI0.out HO_3.out (by decide))); have n2_ := Aside0.mk (Kd.V_afterv (ok := (fun k_ => (w.heap.size ≤ k_) ∧ some k_ ≠ (v493 : Value).ownBlock ∧ some k_ ≠ (.slice Ao40 t505.length co40 : Value).ownBlock ∧ some k_ ≠ (.slice Ao41 t511.length co41 : Value).ownBlock ∧ some k_ ≠ (.slice Ao44 t514.length co44 : Value).ownBlock ∧ k_ ≠ g)) (by (with_reducible repeat (first | apply Kd.V_alloc | apply Kd.V_drewN | apply Kd.V_drew)); exact Kd.V_mono HL502_0.out (fun _ hk => ⟨⟨hk.1.1.1.1.1, ⟨hk.1.1.1.1.2.1, ⟨hk.1.1.2, ⟨hk.1.2, ⟨hk.2, hk.1.1.1.1.2.2⟩⟩⟩⟩⟩, hk.1.1.1.2⟩)) hg hat); have n3_ := Aside0.mk (Kd.V_afterv (ok := (fun k_ => (w.heap.size ≤ k_) ∧ some k_ ≠ (v493 : Value).ownBlock ∧ some k_ ≠ (.slice Ao40 t505.length co40 : Value).ownBlock ∧ some k_ ≠ (.slice Ao41 t511.length co41 : Value).ownBlock ∧ some k_ ≠ (.slice Ao44 t514.length co44 : Value).ownBlock ∧ k_ ≠ g)) (by (with_reducible repeat (first | apply Kd.V_alloc | apply Kd.V_drewN | apply Kd.V_drew)); exact Kd.V_mono HL508_0.out (fun _ hk => ⟨⟨hk.1.1.1.1.1, ⟨hk.1.1.1.1.2.1, ⟨hk.1.1.2, ⟨hk.1.2, ⟨hk.2, hk.1.1.1.1.2.2⟩⟩⟩⟩⟩, hk.1.1.1.2⟩)) hg hat); have n4_ := Aside0.mk (Kd.R_over' z15_7 (Kd.N_typed z15_3) (by decide) hg); have n5_ := Aside0.mk (Kd.R_over' z15_13 (Kd.N_typed z15_3) (by decide) hg); have n6_ := Aside0.mk (below_weaken z15_2 HL.out hb); have n7_ := Aside0.mk (KeepBut.trans z15_0 (KeepBut.of_grown hg g) (Kd.N_base2 HO_3.out)); have n8_ := Aside0.mk (ho); clear HO_5; clear HI0; clear HL502_0; clear HL508_0; clear HO507; clear HO513; clear HB; clear HK; clear HO_3; clear HO516; have HO_5 := n0_; have HI0 := n1_; have HL502_0 := n2_; have HL508_0 := n3_; have HO507 := n4_; have HO513 := n5_; have HB := n6_; have HK := n7_; have HO519 := n8_; clear n0_ n1_ n2_ n3_ n4_ n5_ n6_ n7_ n8_; clear ho hb hg hat))
       go_roundg kj7
       case measure => have := HK1.out; have := HJ7.out; omega
       case rel => exact ⟨(y517), (wrap64 (x4_1 - 1)), (t510), z15_14, H', ⟨by have := HK1.out; have := HJ7.out; omega⟩, ⟨by (with_reducible repeat (first | apply Kd.N_alloc | apply Kd.N_drewN | apply Kd.N_drew)); exact Kd.N_mono HO519.out (fun _ hk => ⟨hk.1, hk.2.2.2.2⟩)⟩, ⟨z15_1⟩, ⟨z15_0⟩, ⟨z15_2⟩⟩
      ·replace c25 := Bool.eq_false_iff.mpr c25
       subst c25
       have H1 : (if x3_1.length < 5864062014805 then (spec_l91Rows.l0 kj7 (x3_1 ++ [t492]) (wrap64 (x4_1 - 1)) s0_0 x1001_7) else (none)) = some (r1, r2) := by rw [if_neg (show ¬ (false = true) by decide)] at H; exact H
       clear H
       have H := H1
       clear H1
       obtain ⟨c45, H⟩ := ifP H
       have LMc45 := Aside0.mk c45
       clear c45
       obtain ⟨y520, hy520⟩ : ∃ y_ : List (List Int), y_ = (x3_1 ++ [t492]) := ⟨_, rfl⟩
       replace H : (spec_l91Rows.l0 kj7 y520 (wrap64 (x4_1 - 1)) s0_0 x1001_7) = some (r1, r2) := by first | (rw [hy520]; with_reducible exact H) | (have H2_ := (Option.bind_some _ _).symm.trans H; rw [hy520]; with_reducible exact H2_) | (have H2_ := (Option.bind_some _ _).symm.trans H; with_reducible exact H2_) | with_reducible exact H | (rw [hy520]; exact H) | exact H
       have Ny520 := Aside0.mk hy520
       clear hy520
       have H' := Aside0.mk H
       clear H
       obtain ⟨Ao47, co47, eo47, _⟩ := Kd.Q_slice HO_5.out
       subst eo47
       go_wp2_with (first | ((with_reducible refine gate_builtin (b := .append) (xs := #[.tmp 48, .tmp 50]) rfl ?_); at_builtin; refine Kd.N_append (Kd.slice 3 (Kd.int .i64)) w.heap.size rfl (.tmp 48) (.tmp 50) 22 28 (.slice none 0 0) 24 rfl Try.underlying22 info28 rfl (by decide) (by omega) u3 x3_1 t492 [.slice Ao47 t492.length co47] (fun k_ => (w.heap.size ≤ k_) ∧ k_ ≠ g) (fun k_ => ((fun k_ => (w.heap.size ≤ k_) ∧ k_ ≠ g)) k_ ∧ some k_ ≠ (u3 : Value).ownBlock) rfl rfl ?aP (fun _ hk => hk) ?aF ?aO (Below.refl _ _) ?aS ?aL ?_; (case aP => exact (Kd.FK_slice_mk (Kd.Q_reads' (Kd.Q_mono (ok' := (fun k_ => ((fun k_ => (w.heap.size ≤ k_) ∧ k_ ≠ g)) k_ ∧ some k_ ≠ (u3 : Value).ownBlock)) (IsS92.apartQ HI0.out (Kd.Q_apart' (HO_5.out) (Kd.N_typed HO_3.out) (by decide)) (by decide)) (fun k_ hk => ⟨⟨hk.1.1, hk.2⟩, hk.1.2⟩))).2.1 (Kd.Q_F (Kd.Q_mono (ok' := (fun k_ => ((fun k_ => (w.heap.size ≤ k_) ∧ k_ ≠ g)) k_ ∧ some k_ ≠ (u3 : Value).ownBlock)) (IsS92.apartQ HI0.out (Kd.Q_apart' (HO_5.out) (Kd.N_typed HO_3.out) (by decide)) (by decide)) (fun k_ hk => ⟨⟨hk.1.1, hk.2⟩, hk.1.2⟩))))); (case aF => exact (fun k_ hk => ⟨(Nat.le_trans (keep_size (w := w) (g := g) (row := none) z15_0) hk), IsS92.fresh z15_1 k_ hk⟩)); (case aO => exact (by (with_reducible repeat (first | apply Kd.N_alloc | apply Kd.N_drewN | apply Kd.N_drew)); exact Kd.N_mono HO_3.out (fun _ hk => ⟨hk.1, hk.2.2⟩))); (case aS => exact (keep_size (w := w) (g := g) (row := none) z15_0)); (case aL => have := LMc45.out; omega); intro v521 w46 ho hb hg hat; rw [← Ny520.out] at ho; have n0_ := Aside0.mk (IsS92.grown z15_1 hg (IsS92.own_neN HI0.out HO_3.out (by decide))); have n1_ := Aside0.mk (below_weaken z15_2 HL.out hb); have n2_ := Aside0.mk (KeepBut.trans z15_0 (KeepBut.of_grown hg g) (Kd.N_base2 HO_3.out)); have n3_ := Aside0.mk (ho); clear HI0; clear HB; clear HK; clear HO_3; clear HO_5; have HI0 := n0_; have HB := n1_; have HK := n2_; have HO522 := n3_; clear n0_ n1_ n2_ n3_; clear ho hb hg hat))
       go_roundg kj7
       case measure => have := HK1.out; have := HJ7.out; omega
       case rel => exact ⟨(y520), (wrap64 (x4_1 - 1)), (x1001_7), z15_14, H', ⟨by have := HK1.out; have := HJ7.out; omega⟩, ⟨by (with_reducible repeat (first | apply Kd.N_alloc | apply Kd.N_drewN | apply Kd.N_drew)); exact HO522.out⟩, ⟨z15_1⟩, ⟨z15_0⟩, ⟨z15_2⟩⟩
   ·rw [if_neg c6] at H
    have c6b0 : decide (0 < x4_1) = false := decide_eq_false c6
    clear c6
    replace H := Option.bind_eq_some_iff.mp H
    obtain ⟨⟨t523, t524⟩, A480, H⟩ := H
    replace H : (if t523 = 0 then (spec_l91Rows.l1 k1 x3_1 s0_0 t524) else (some (x3_1, t524))) = some (r1, r2) := H
    have A48 := Aside0.mk A480
    clear A480
    by_cases c49 : t523 = 0
    ·rw [if_pos c49] at H
     have c49b0 : (t523 == 0) = true := beq_iff_eq.mpr c49
     have c49b1 : (t523 != 0) = false := bne_eq_false_iff_eq.mpr c49
     clear c49
     have H' := Aside0.mk H
     clear H
     go_wp2_with (first | ((with_reducible refine gate_callee (f := 65) rfl ?_); refine goesL_ (some 53) rfl rfl Try.func65 (by kernel_rfl) rfl #[.pointer (some ⟨g, 0, none⟩), .int .i64 40] rfl z15_4 ?_; (with_reducible refine (spec_l6Rd_pick.calls k1 g s0_0 x1001_1 40 t523 t524 w0 _ ?side1 ?side2 A48.out).mono ?_); (case side1 => repeat (first | (with_reducible first | exact HI0.out | apply IsS92.alloc | apply IsS92.drewN | apply IsS92.drew | apply IsS92.set_1) | exact HI0.out)); (case side2 => repeat (first | (with_reducible first | exact HB.out | apply below_alloc | apply pw_below_drewN | apply below_drew1 | refine below_set ?_ (IsS92.ge HI0.out)) | exact HB.out)); rintro e w50 ⟨rfl, hi, hb, hk⟩; refine ⟨_, rfl, ?_⟩; replace HO_3 := Aside0.mk (Kd.N_mono (Kd.N_keep (Kd.N_mono (ok := fun k_ => (((w.heap.size ≤ k_)) ∧ k_ ≠ g)) z15_3 (fun k_ hk_ => (⟨hk_, hk_.2⟩ : _ ∧ k_ ≠ g))) hk (fun _ h => h.2)) (fun _ h => h.1)); replace HK := Aside0.mk (KeepBut.trans z15_0 hk (.inl rfl)); replace HB := Aside0.mk (hb); replace HI0 := Aside0.mk (hi); (try clear hb)))
     go_loopg [3] k1 (fun kq v3 w' => ∃ (x3_2 : List (List Int)), Aside0 (spec_l91Rows.l1 kq x3_2 s0_0 t524 = some (r1, r2)) ∧ Aside0 (kq ≤ k1) ∧ Aside0 (Kd.N (Kd.slice 3 (Kd.int .i64)) 28 w' w.heap.size (fun k_ => (w.heap.size ≤ k_) ∧ k_ ≠ g) v3 x3_2) ∧ Aside0 (IsS92 w0 w' g s0_0 t524) ∧ Aside0 (KeepBut w w' g none) ∧ Aside0 (Below w0.heap.size w0 w'))
     case atStart => exact ⟨(x3_1), H', ⟨Nat.le_refl _⟩, ⟨z15_3⟩, ⟨z15_1⟩, ⟨z15_0⟩, ⟨z15_2⟩⟩
     case round =>
      clear H'
      try clear c6
      try clear c6b0
      try clear c49
      try clear c49b0
      try clear c49b1
      obtain ⟨x3_2, HA, HK2, HO_3, HI0, HK, HB⟩ := hrel
      cases gk with
      | zero => exact absurd HA.out (by simp [spec_l91Rows.l1])
      | succ k2 =>
       have H := HA.out
       clear HA
       simp only [spec_l91Rows.l1] at H
       by_cases c51 : (x3_2.length : Int) ≤ 8
       ·rw [if_pos c51] at H
        have c51b0 : decide ((x3_2.length : Int) ≤ 8) = true := decide_eq_true c51
        have c51b1 : decide (x3_2.length ≤ 8) = true := decide_eq_true (by omega)
        clear c51
        obtain ⟨y525, hy525⟩ : ∃ y_ : List Int, y_ = (([1, 2, 3, 4] : List Int)) := ⟨_, rfl⟩
        replace H : (if x3_2.length < 5864062014805 then (spec_l91Rows.l1 k2 (x3_2 ++ [y525]) s0_0 t524) else (none)) = some (r1, r2) := by first | (rw [hy525]; with_reducible exact H) | (have H2_ := (Option.bind_some _ _).symm.trans H; rw [hy525]; with_reducible exact H2_) | (have H2_ := (Option.bind_some _ _).symm.trans H; with_reducible exact H2_) | with_reducible exact H | (rw [hy525]; exact H) | exact H
        have Ny525 := Aside0.mk hy525
        clear hy525
        obtain ⟨c52, H⟩ := ifP H
        have LMc52 := Aside0.mk c52
        clear c52
        obtain ⟨y528, hy528⟩ : ∃ y_ : List (List Int), y_ = (x3_2 ++ [y525]) := ⟨_, rfl⟩
        replace H : (spec_l91Rows.l1 k2 y528 s0_0 t524) = some (r1, r2) := by first | (rw [hy528]; with_reducible exact H) | (have H2_ := (Option.bind_some _ _).symm.trans H; rw [hy528]; with_reducible exact H2_) | (have H2_ := (Option.bind_some _ _).symm.trans H; with_reducible exact H2_) | with_reducible exact H | (rw [hy528]; exact H) | exact H
        have Ny528 := Aside0.mk hy528
        clear hy528
        have H' := Aside0.mk H
        clear H
        obtain ⟨Ao53, co53, eo53⟩ := Kd.N_slice HO_3.out
        subst eo53
        go_wp2_with (first | ((with_reducible refine gate_dst (N := 59) rfl ?_); refine Kd.R_lit (Kd.int .i64) _ 3 ?hg (N := 59) ?hd (xs := ([1, 2, 3, 4] : List Int)) (inner := [.int .i64 1, .int .i64 2, .int .i64 3, .int .i64 4]) (ok := fun _ => True) (okp := fun _ => True) ?hr ?hp (fun _ hk => hk) trivial (Below.refl _ _) (Nat.le_refl _) (by simp) ?_; (case hd => rfl); (case hg => rfl); (case hr => first | (go_simp; done) | (go_simp; rfl)); (case hp => exact (Reps.one (show Kd.M (Kd.int .i64) _ _ _ 1 [.int .i64 1] from rfl) (Reps.one (show Kd.M (Kd.int .i64) _ _ _ 2 [.int .i64 2] from rfl) (Reps.one (show Kd.M (Kd.int .i64) _ _ _ 3 [.int .i64 3] from rfl) (Reps.one (show Kd.M (Kd.int .i64) _ _ _ 4 [.int .i64 4] from rfl) (Reps.none _ _)))))); intro v526 w54 ho55 hb hg_ hnew_; clear hg_ hnew_; (first | rw [← Ny525.out] at ho55 | (simp only [Int.reduceToNat] at ho55; rw [← Ny525.out] at ho55)); replace HO_3 := Aside0.mk (Kd.N_elder' z15_3 (Kd.R_base ho55) hb); have HO527 := Aside0.mk (Kd.R_lower (Kd.R_newM (M := fun k_ => (w.heap.size ≤ k_)) ho55 (keep_size (w := w) (g := g) (row := none) z15_0) (fun k_ h_ => h_)) (keep_size (w := w) (g := g) (row := none) z15_0)); replace HK := Aside0.mk (KeepBut.trans z15_0 (KeepBut.of_below hb g none) (.inl rfl)); replace HB := Aside0.mk (below_step z15_2 hb); replace HI0 := Aside0.mk (IsS92.below z15_1 hb); clear hb ho55; obtain ⟨Ao57, co57, eo57⟩ := Kd.R_slice HO527.out; subst eo57) | ((with_reducible refine gate_builtin (b := .append) (xs := #[.tmp 58, .tmp 60]) rfl ?_); at_builtin; refine Kd.N_append (Kd.slice 3 (Kd.int .i64)) w.heap.size rfl (.tmp 58) (.tmp 60) 22 28 (.slice none 0 0) 24 rfl Try.underlying22 info28 rfl (by decide) (by omega) (.slice Ao53 x3_2.length co53) x3_2 y525 [.slice Ao57 y525.length co57] (fun k_ => (w.heap.size ≤ k_) ∧ k_ ≠ g) (fun k_ => ((fun k_ => (w.heap.size ≤ k_) ∧ k_ ≠ g)) k_ ∧ some k_ ≠ (.slice Ao53 x3_2.length co53 : Value).ownBlock) rfl rfl ?aP (fun _ hk => hk) ?aF ?aO (Below.refl _ _) ?aS ?aL ?_; (case aP => exact (Kd.FK_slice_mk (Kd.R_reads' (Kd.R_mono (ok' := (fun k_ => ((fun k_ => (w.heap.size ≤ k_) ∧ k_ ≠ g)) k_ ∧ some k_ ≠ (.slice Ao53 x3_2.length co53 : Value).ownBlock)) (IsS92.apart HI0.out (Kd.R_apart' (HO527.out) (Kd.N_typed HO_3.out) (by decide)) (by decide)) (fun k_ hk => ⟨⟨hk.1.1.1, hk.2⟩, hk.1.2⟩))).2.1 (Kd.R_F (Kd.R_mono (ok' := (fun k_ => ((fun k_ => (w.heap.size ≤ k_) ∧ k_ ≠ g)) k_ ∧ some k_ ≠ (.slice Ao53 x3_2.length co53 : Value).ownBlock)) (IsS92.apart HI0.out (Kd.R_apart' (HO527.out) (Kd.N_typed HO_3.out) (by decide)) (by decide)) (fun k_ hk => ⟨⟨hk.1.1.1, hk.2⟩, hk.1.2⟩))))); (case aF => exact (fun k_ hk => ⟨(Nat.le_trans (keep_size (w := w) (g := g) (row := none) z15_0) hk), IsS92.fresh z15_1 k_ hk⟩)); (case aO => exact (by (with_reducible repeat (first | apply Kd.N_alloc | apply Kd.N_drewN | apply Kd.N_drew)); exact Kd.N_mono HO_3.out (fun _ hk => ⟨hk.1.1, hk.1.2⟩))); (case aS => exact (keep_size (w := w) (g := g) (row := none) z15_0)); (case aL => have := LMc52.out; omega); intro v529 w56 ho hb hg hat; rw [← Ny528.out] at ho; have n0_ := Aside0.mk (IsS92.grown z15_1 hg (IsS92.own_neN HI0.out HO_3.out (by decide))); have n1_ := Aside0.mk (below_weaken z15_2 HL.out hb); have n2_ := Aside0.mk (KeepBut.trans z15_0 (KeepBut.of_grown hg g) (Kd.N_base2 HO_3.out)); have n3_ := Aside0.mk (ho); clear HI0; clear HB; clear HK; clear HO_3; clear HO527; have HI0 := n0_; have HB := n1_; have HK := n2_; have HO530 := n3_; clear n0_ n1_ n2_ n3_; clear ho hb hg hat))
        go_roundg k2
        case measure => have := HK1.out; have := HK2.out; omega
        case rel => exact ⟨(y528), H', ⟨by have := HK1.out; have := HK2.out; omega⟩, ⟨by (with_reducible repeat (first | apply Kd.N_alloc | apply Kd.N_drewN | apply Kd.N_drew)); exact HO530.out⟩, ⟨z15_1⟩, ⟨z15_0⟩, ⟨z15_2⟩⟩
       ·rw [if_neg c51] at H
        have c51b0 : decide ((x3_2.length : Int) ≤ 8) = false := decide_eq_false c51
        have c51b1 : decide (x3_2.length ≤ 8) = false := decide_eq_false (by omega)
        clear c51
        simp only [Option.some.injEq, Prod.mk.injEq] at H
        obtain ⟨rfl, rfl⟩ := H
        obtain ⟨Ao58, co58, eo58⟩ := Kd.N_slice HO_3.out
        subst eo58
        go_wp2
        go_ret
        exact ⟨_, by first | rfl | (simp [errW_none, errW_some] <;> rfl) | (simp [*, errW_none, errW_some] <;> rfl), z15_18, z15_1, z15_2, z15_0⟩
    ·rw [if_neg c49] at H
     have c49b0 : (t523 == 0) = false := beq_eq_false_iff_ne.mpr c49
     have c49b1 : (t523 != 0) = true := bne_iff_ne.mpr c49
     simp only [Option.some.injEq, Prod.mk.injEq] at H
     obtain ⟨rfl, rfl⟩ := H
     go_wp2_with (first | ((with_reducible refine gate_callee (f := 65) rfl ?_); refine goesL_ (some 53) rfl rfl Try.func65 (by kernel_rfl) rfl #[.pointer (some ⟨g, 0, none⟩), .int .i64 40] rfl z15_4 ?_; (with_reducible refine (spec_l6Rd_pick.calls k1 g s0_0 x1001_1 40 t523 t524 w0 _ ?side1 ?side2 A48.out).mono ?_); (case side1 => repeat (first | (with_reducible first | exact HI0.out | apply IsS92.alloc | apply IsS92.drewN | apply IsS92.drew | apply IsS92.set_1) | exact HI0.out)); (case side2 => repeat (first | (with_reducible first | exact HB.out | apply below_alloc | apply pw_below_drewN | apply below_drew1 | refine below_set ?_ (IsS92.ge HI0.out)) | exact HB.out)); rintro e w59 ⟨rfl, hi, hb, hk⟩; refine ⟨_, rfl, ?_⟩; replace HO_3 := Aside0.mk (Kd.N_mono (Kd.N_keep (Kd.N_mono (ok := fun k_ => (((w.heap.size ≤ k_)) ∧ k_ ≠ g)) z15_3 (fun k_ hk_ => (⟨hk_, hk_.2⟩ : _ ∧ k_ ≠ g))) hk (fun _ h => h.2)) (fun _ h => h.1)); replace HK := Aside0.mk (KeepBut.trans z15_0 hk (.inl rfl)); replace HB := Aside0.mk (hb); replace HI0 := Aside0.mk (hi); (try clear hb)))
     go_ret
     exact ⟨_, by first | rfl | (simp [errW_none, errW_some] <;> rfl) | (simp [*, errW_none, errW_some] <;> rfl), z15_18, z15_1, z15_2, z15_0⟩

end Go.Proofs.Ytbhmgbeebhmfkaa.PA
