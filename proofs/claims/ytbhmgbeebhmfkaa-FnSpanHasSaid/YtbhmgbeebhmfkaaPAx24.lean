-- Written by a program of this session (after the manner of the kit's print, several laws in one text).
import Derived.Test.YtbhmgbeebhmfkaaPAx0
import Derived.Test.YtbhmgbeebhmfkaaPAx2
import Derived.Test.YtbhmgbeebhmfkaaPAx3
import Derived.Test.YtbhmgbeebhmfkaaPAx22
import Derived.Test.YtbhmgbeebhmfkaaPAx23
import Derived.Test.YtbhmgbeebhmfkaaGw
import Derived.Test.YtbhmgbeebhmfkaaGm
namespace Go.Proofs.Ytbhmgbeebhmfkaa.PA
open Go.RowKit Go.Proofs.YtbhmgbeebhmfkaaW.PrintWords Go.Proofs.YtbhmgbeebhmfkaaW.PrintLast Go.Proofs.YtbhmgbeebhmfkaaW.PrintMore
attribute [local go_sem] max2_int min2_int max_two min_two max_three min_three max_four min_four   -- for this text's walks alone
set_option linter.unusedVariables false
set_option linter.unusedSimpArgs false

/-! ### spec_l91Rows: function 63 -/
theorem z24_0 {p : Prop} (h : p := by repeat (first | (with_reducible first | exact HK.out | apply KeepBut.set_ | apply keep_drewN | apply keep_drew | apply keep_alloc) | exact HK.out)) : p := h
theorem z24_1 {p : Prop} (h : p := by repeat (first | (with_reducible first | exact HI0.out | apply IsS92.alloc | apply IsS92.drewN | apply IsS92.drew | apply IsS92.set_1) | exact HI0.out)) : p := h
theorem z24_2 {p : Prop} (h : p := by repeat (first | (with_reducible first | exact HB.out | apply below_alloc | apply pw_below_drewN | apply below_drew1 | refine below_set ?_ (IsS92.ge HI0.out)) | exact HB.out)) : p := h
theorem z24_3 {p : Prop} (h : p := by (with_reducible repeat (first | apply Kd.N_alloc | apply Kd.N_drewN | apply Kd.N_drew)); exact HO_3.out) : p := h
theorem z24_4 {p : Prop} (h : p := by (try simp only [List.map_toArray, List.map_cons, List.map_nil]); first | done | rfl | (simp only [List.length_drop, List.length_take]; rfl)) : p := h
theorem z24_5 {p : Prop} (h : p := by first | (rw [add_block]; exact Kd.own_blk (IsS92.own_neN HI0.out HO_3.out (by decide))) | (show (Addr.add _ _).block ≠ _; rw [add_block]; exact Kd.own_blk (IsS92.own_neN HI0.out HO_3.out (by decide))) | exact Kd.own_blk (IsS92.own_neN HI0.out HO_3.out (by decide)) | (have hz_ := Kd.own_blk (IsS92.own_neN HI0.out HO_3.out (by decide)); exact hz_)) : p := h
theorem z24_6 {p : Prop} (h : p := by (with_reducible repeat (first | apply Kd.Q_alloc | apply Kd.Q_drewN | apply Kd.Q_drew)); exact HO_5.out) : p := h
theorem z24_7 {p : Prop} (h : p := by (with_reducible repeat (first | apply Kd.R_alloc | apply Kd.R_drewN | apply Kd.R_drew)); exact HO540.out) : p := h
theorem z24_8 {p : Prop} (h : p := by (with_reducible repeat (first | apply Kd.V_alloc | apply Kd.V_drewN | apply Kd.V_drew)); exact HL535_0.out) : p := h
theorem z24_9 {p : Prop} (h : p := by (with_reducible repeat (first | apply Kd.V_alloc | apply Kd.V_drewN | apply Kd.V_drew)); exact HL541_0.out) : p := h
theorem z24_10 {p : Prop} (h : p := by (with_reducible repeat (first | apply Kd.N_alloc | apply Kd.N_drewN | apply Kd.N_drew)); exact Kd.N_mono HO_3.out (fun _ hk => ⟨hk.1.1, ⟨hk.2, hk.1.2⟩⟩)) : p := h
theorem z24_11 {p : Prop} (h : p := by first | (with_reducible assumption) | assumption) : p := h
theorem z24_12 {p : Prop} (h : p := by (with_reducible repeat (first | apply Kd.Q_alloc | apply Kd.Q_drewN | apply Kd.Q_drew)); exact Kd.Q_mono HO527.out (fun _ hk => hk.1)) : p := h
theorem z24_13 {p : Prop} (h : p := by (with_reducible repeat (first | apply Kd.R_alloc | apply Kd.R_drewN | apply Kd.R_drew)); exact HO546.out) : p := h
theorem z24_14 {p : Prop} (h : p := by first | rfl | (simp; done) | (simp [*]; done)) : p := h
theorem z24_15 {p : Prop} (h : p := by (with_reducible repeat (first | apply Kd.Q_alloc | apply Kd.Q_drewN | apply Kd.Q_drew)); exact HO527.out) : p := h
theorem z24_16 {p : Prop} (h : p := by repeat (first | (with_reducible exact HR531_0.out) | (with_reducible refine Kd.C_alloc ?_ _) | (with_reducible refine Kd.C_drewN ?_ _) | (with_reducible refine Kd.C_drew ?_) | exact HR531_0.out)) : p := h
theorem z24_17 {p : Prop} (h : p := by have := HK1.out; first | omega | exact Nat.le_refl _) : p := h
theorem z24_18 {p : Prop} (h : p := by (with_reducible repeat (first | apply Kd.N_alloc | apply Kd.N_drewN | apply Kd.N_drew)); exact Kd.N_mono HO_3.out (fun _ hk => hk.1)) : p := h
theorem zs24 {α : Type} {l : List α} {i : Nat} {a : α} : l.toArray.setIfInBounds i a = (l.set i a).toArray := List.setIfInBounds_toArray _ _ _
theorem zc24 {α : Type} {x : α} {xs : List α} {a : α} : (x :: xs).set 0 a = a :: xs := List.set_cons_zero
theorem zd24 {α : Type} {x : α} {xs : List α} {n : Nat} {a : α} : (x :: xs).set (n + 1) a = x :: xs.set n a := List.set_cons_succ
mutual
def spec_l91Rows.l0 : Nat → List (List Int) → Int → List Int → Int → Option ((List (List Int)) × Int)
  | 0, _, _, _, _ => none
  | k + 1, x3, x4, x1000, x1001 => if x4 > 0 then ((spec_l91Vec.f k x1000 x1001).bind fun bt525 => (if (x3.length : Int) > 1 then ((spec_l6Rd_pick.f k x1000 bt525.2 3).bind fun bt529 => (if bt529.1 = 0 then (if 0 < (x3.length : Int) then ((spec_VecOk.f k (rd_L1 x3 0)).bind fun t532 => (if t532 = true then (if 1 < (x3.length : Int) then ((spec_VecOk.f k (rd_L1 x3 1)).bind fun t534 => (spec_l91Rows.j1 k x3 x4 bt525.1 t534 x1000 bt529.2)) else (none)) else (spec_l91Rows.j1 k x3 x4 bt525.1 false x1000 bt529.2))) else (none)) else (spec_l91Rows.j1 k x3 x4 bt525.1 false x1000 bt529.2))) else (spec_l91Rows.j1 k x3 x4 bt525.1 false x1000 bt525.2))) else ((spec_l6Rd_pick.f k x1000 x1001 40).bind fun bt556 => (if bt556.1 = 0 then (spec_l91Rows.l1 k x3 x1000 bt556.2) else (some (x3, bt556.2))))
def spec_l91Rows.j1 : Nat → List (List Int) → Int → List Int → Bool → List Int → Int → Option ((List (List Int)) × Int)
  | 0, _, _, _, _, _, _ => none
  | k + 1, x3, x4, x5, x34, x1000, x1001 => if x34 = true then (if 0 < (x3.length : Int) then ((spec_l6Rd_pick.f k x1000 x1001 31).bind fun bt536 => ((spec_l2Scale.f k (rd_L1 x3 0) bt536.1).bind fun t538 => (if 1 < (x3.length : Int) then ((spec_l6Rd_pick.f k x1000 bt536.2 31).bind fun bt542 => ((spec_l2Scale.f k (rd_L1 x3 1) bt542.1).bind fun t544 => ((spec_l2Sum.f k t538 t544).bind fun t547 => (if x3.length < 5864062014805 then (spec_l91Rows.l0 k (x3 ++ [t547]) (wrap64 (x4 - 1)) x1000 bt542.2) else (none))))) else (none)))) else (none)) else (if x3.length < 5864062014805 then (spec_l91Rows.l0 k (x3 ++ [x5]) (wrap64 (x4 - 1)) x1000 x1001) else (none))
def spec_l91Rows.l1 : Nat → List (List Int) → List Int → Int → Option ((List (List Int)) × Int)
  | 0, _, _, _ => none
  | k + 1, x3, x1000, x1001 => if (x3.length : Int) ≤ 8 then (if x3.length < 5864062014805 then (spec_l91Rows.l1 k (x3 ++ [(([1, 2, 3, 4] : List Int))]) x1000 x1001) else (none)) else (some (x3, x1001))
end
def spec_l91Rows.f (k : Nat) (s0_0 : List Int) (s0_1 : Int) : Option ((List (List Int)) × Int) := (spec_l6Rd_pick.f k s0_0 s0_1 6).bind fun bt523 => (spec_l91Rows.l0 k (([] : List (List Int))) bt523.1 s0_0 bt523.2)
def spec_l91Rows.T7 : Bool × List (List Nat × List Nat) := (true, [([], []), ([0], [0]), ([1], [1]), ([], []), ([3], [3]), ([2, 4, 4], [2, 4]), ([], []), ([6], [6]), ([7], [7]), ([], []), ([9, 5], [9]), ([8, 10, 10], [8, 10]), ([5, 11, 11], [5, 11]), ([12, 12, 0, 1, 2, 3, 4, 5, 6, 7, 8, 9, 10, 11, 12], [12])])
def spec_l91Rows.B7 : List Nat := [0, 1, 3, 0, 8, 31, 0, 64, 192, 0, 575, 2047, 4095, 8191]
theorem spec_l91Rows.tab7 : rtab .any (opsOf Try.f63 7) = spec_l91Rows.T7 := by kernel_rfl
theorem spec_l91Rows.bits7 : waitsOk spec_l91Rows.T7.2 spec_l91Rows.B7 = true := by kernel_rfl
set_option maxHeartbeats 8000000 in
set_option maxRecDepth 100000 in
theorem spec_l91Rows.calls (k : Nat) (g : Nat) (s0_0 : List Int) (s0_1 : Int) (r1 : List (List Int)) (r2 : Int) (w0 w : World) (hI : IsS92 w0 w g s0_0 s0_1) (hB : Below w0.heap.size w0 w) (h : spec_l91Rows.f k s0_0 s0_1 = some (r1, r2)) :
  Calls Try.prog 63 #[.pointer (some ⟨g, 0, none⟩)] w fun e w' => ∃ v0_ : Value, e = .returned (v0_) ∧ Kd.N (Kd.slice 3 (Kd.int .i64)) 28 w' w.heap.size (fun k_ => (w.heap.size ≤ k_)) v0_ r1 ∧ IsS92 w0 w' g s0_0 r2 ∧ Below w0.heap.size w0 w' ∧ KeepBut w w' g none := by
 have HI0 := Aside0.mk hI
 have HK := Aside0.mk (KeepBut.refl w g none)
 have HL := Aside0.mk hB.size
 clear hI
 have HW0 := Aside0.mk hB.size
 have HB := Aside0.mk hB
 clear hB
 have H : ((spec_l6Rd_pick.f k s0_0 s0_1 6).bind fun bt523 => (spec_l91Rows.l0 k (([] : List (List Int))) bt523.1 s0_0 bt523.2)) = some (r1, r2) := h
 clear h
 obtain ⟨y520, hy520⟩ : ∃ y_ : List (List Int), y_ = (([] : List (List Int))) := ⟨_, rfl⟩
 replace H : ((spec_l6Rd_pick.f k s0_0 s0_1 6).bind fun bt523 => (spec_l91Rows.l0 k y520 bt523.1 s0_0 bt523.2)) = some (r1, r2) := by first | (rw [hy520]; with_reducible exact H) | (have H2_ := (Option.bind_some _ _).symm.trans H; rw [hy520]; with_reducible exact H2_) | (have H2_ := (Option.bind_some _ _).symm.trans H; with_reducible exact H2_) | with_reducible exact H | (rw [hy520]; exact H) | exact H
 have Ny520 := Aside0.mk hy520
 clear hy520
 replace H := Option.bind_eq_some_iff.mp H
 obtain ⟨⟨t523, t524⟩, A20, H⟩ := H
 replace H : (spec_l91Rows.l0 k y520 t523 s0_0 t524) = some (r1, r2) := H
 have A2 := Aside0.mk A20
 clear A20
 have H' := Aside0.mk H
 clear H
 go_enter Try.func63, Try.ntmps63
 go_wp2_with (first | ((with_reducible refine gate_dst (N := 6) rfl ?_); refine Kd.N_lit (Kd.slice 3 (Kd.int .i64)) _ 28 ?hg (N' := 6) ?hd (xs := ([] : List (List Int))) (inner := []) (ok := (fun k_ => (w.heap.size ≤ k_) ∧ k_ ≠ g)) (okp := (fun k_ => (w.heap.size ≤ k_) ∧ k_ ≠ g)) ?hr ?hp (fun _ hk => hk) ((show ∀ k_, w.heap.size ≤ k_ → (fun k_ => (w.heap.size ≤ k_) ∧ k_ ≠ g) k_ from fun k_ hk => ⟨(Nat.le_trans (keep_size (w := w) (g := g) (row := none) z24_0) hk), IsS92.fresh z24_1 k_ hk⟩) _ (Nat.le_refl _)) (Below.refl _ _) (Nat.le_refl _) (by simp) ?_; (case hd => rfl); (case hg => rfl); (case hr => first | (go_simp; done) | (go_simp; rfl)); (case hp => exact (Reps.none _ _)); intro v521 w3 ho4 hb hg_ hnew_; clear hg_ hnew_; (first | rw [← Ny520.out] at ho4 | (simp only [Int.reduceToNat] at ho4; rw [← Ny520.out] at ho4)); have n0_ := Aside0.mk (Kd.N_lower ho4 (keep_size (w := w) (g := g) (row := none) z24_0)); have n1_ := Aside0.mk (IsS92.below z24_1 hb); have n2_ := Aside0.mk (KeepBut.trans z24_0 (KeepBut.of_below hb g none) (.inl rfl)); have n3_ := Aside0.mk (below_step z24_2 hb); clear HI0; clear HK; clear HB; have HO522 := n0_; have HI0 := n1_; have HK := n2_; have HB := n3_; clear n0_ n1_ n2_ n3_; clear hb ho4) | ((with_reducible refine gate_callee (f := 65) rfl ?_); refine goesL_ (some 8) rfl rfl Try.func65 (by kernel_rfl) rfl #[.pointer (some ⟨g, 0, none⟩), .int .i64 6] rfl z24_4 ?_; (with_reducible refine (spec_l6Rd_pick.calls k g s0_0 s0_1 6 t523 t524 w0 _ ?side1 ?side2 A2.out).mono ?_); (case side1 => repeat (first | (with_reducible first | exact HI0.out | apply IsS92.alloc | apply IsS92.drewN | apply IsS92.drew | apply IsS92.set_1) | exact HI0.out)); (case side2 => repeat (first | (with_reducible first | exact HB.out | apply below_alloc | apply pw_below_drewN | apply below_drew1 | refine below_set ?_ (IsS92.ge HI0.out)) | exact HB.out)); rintro e w5 ⟨rfl, hi, hb, hk⟩; refine ⟨_, rfl, ?_⟩; have n0_ := Aside0.mk (Kd.N_mono (Kd.N_keep (Kd.N_mono (ok := fun k_ => (((w.heap.size ≤ k_)) ∧ k_ ≠ g)) (by (with_reducible repeat (first | apply Kd.N_alloc | apply Kd.N_drewN | apply Kd.N_drew)); exact HO522.out) (fun k_ hk_ => (⟨hk_, hk_.2⟩ : _ ∧ k_ ≠ g))) hk (fun _ h => h.2)) (fun _ h => h.1)); have n1_ := Aside0.mk (KeepBut.trans z24_0 hk (.inl rfl)); have n2_ := Aside0.mk (hb); have n3_ := Aside0.mk (hi); clear HO522; clear HK; clear HB; clear HI0; have HO522 := n0_; have HK := n1_; have HB := n2_; have HI0 := n3_; clear n0_ n1_ n2_ n3_; (try clear hb); (try clear hb2); (try clear hk); (try clear hi)))
 go_loopg [3, 4] k (fun kq v3 v4 w' => ∃ (x3_1 : List (List Int)) (x4_1 : Int) (x1001_1 : Int), v4 = .int .i64 x4_1 ∧ Aside0 (spec_l91Rows.l0 kq x3_1 x4_1 s0_0 x1001_1 = some (r1, r2)) ∧ Aside0 (kq ≤ k) ∧ Aside0 (Kd.N (Kd.slice 3 (Kd.int .i64)) 28 w' w.heap.size (fun k_ => (w.heap.size ≤ k_) ∧ k_ ≠ g) v3 x3_1) ∧ Aside0 (IsS92 w0 w' g s0_0 x1001_1) ∧ Aside0 (KeepBut w w' g none) ∧ Aside0 (Below w0.heap.size w0 w'))
 case atStart => exact ⟨(y520), (t523), (t524), z24_14, H', ⟨Nat.le_refl _⟩, ⟨by (with_reducible repeat (first | apply Kd.N_alloc | apply Kd.N_drewN | apply Kd.N_drew)); exact HO522.out⟩, ⟨z24_1⟩, ⟨z24_0⟩, ⟨z24_2⟩⟩
 case round =>
  clear H'
  obtain ⟨x3_1, x4_1, x1001_1, rfl, HA, HK1, HO_3, HI0, HK, HB⟩ := hrel
  cases gk with
  | zero => exact absurd HA.out (by simp [spec_l91Rows.l0])
  | succ k1 =>
   have H := HA.out
   clear HA
   simp only [spec_l91Rows.l0] at H
   by_cases c6 : x4_1 > 0
   ·rw [if_pos c6] at H
    have c6b0 : decide (0 < x4_1) = true := decide_eq_true c6
    clear c6
    replace H := Option.bind_eq_some_iff.mp H
    obtain ⟨⟨t525, t528⟩, A70, H⟩ := H
    replace H : (if (x3_1.length : Int) > 1 then ((spec_l6Rd_pick.f k1 s0_0 t528 3).bind fun bt529 => (if bt529.1 = 0 then (if 0 < (x3_1.length : Int) then ((spec_VecOk.f k1 (rd_L1 x3_1 0)).bind fun t532 => (if t532 = true then (if 1 < (x3_1.length : Int) then ((spec_VecOk.f k1 (rd_L1 x3_1 1)).bind fun t534 => (spec_l91Rows.j1 k1 x3_1 x4_1 t525 t534 s0_0 bt529.2)) else (none)) else (spec_l91Rows.j1 k1 x3_1 x4_1 t525 false s0_0 bt529.2))) else (none)) else (spec_l91Rows.j1 k1 x3_1 x4_1 t525 false s0_0 bt529.2))) else (spec_l91Rows.j1 k1 x3_1 x4_1 t525 false s0_0 t528)) = some (r1, r2) := H
    have A7 := Aside0.mk A70
    clear A70
    have HC8 := Aside0.mk H
    clear H
    go_upto_region 6 with (first | ((with_reducible refine gate_callee (f := 85) rfl ?_); refine goesL_ (some 14) rfl rfl Try.func85 (by kernel_rfl) rfl #[.pointer (some ⟨g, 0, none⟩)] rfl z24_4 ?_; (with_reducible refine (spec_l91Vec.calls k1 g s0_0 x1001_1 t525 t528 w0 _ ?side1 ?side2 A7.out).mono ?_); (case side1 => repeat (first | (with_reducible first | exact HI0.out | apply IsS92.alloc | apply IsS92.drewN | apply IsS92.drew | apply IsS92.set_1) | exact HI0.out)); (case side2 => repeat (first | (with_reducible first | exact HB.out | apply below_alloc | apply pw_below_drewN | apply below_drew1 | refine below_set ?_ (IsS92.ge HI0.out)) | exact HB.out)); rintro e w9 ⟨v526, rfl, ho0, hi, hb, hk⟩; refine ⟨_, rfl, ?_⟩; have n0_ := Aside0.mk (Kd.N_mono (Kd.N_told (Kd.N_oldK (Kd.N_mono (ok := fun k_ => (((w.heap.size ≤ k_)) ∧ k_ ≠ g)) z24_3 (fun k_ hk_ => (⟨hk_, hk_.2⟩ : _ ∧ k_ ≠ g))) hk) (Kd.Q_base ho0)) (fun _ h_ => h_.1)); have n1_ := Aside0.mk (Kd.Q_lower (Kd.Q_newM (M := fun k_ => (w.heap.size ≤ k_)) ho0 (keep_size (w := w) (g := g) (row := none) z24_0) (fun k_ h_ => h_)) (keep_size (w := w) (g := g) (row := none) z24_0)); have n2_ := Aside0.mk (KeepBut.trans z24_0 hk (.inl rfl)); have n3_ := Aside0.mk (hb); have n4_ := Aside0.mk (hi); clear HO_3; clear HK; clear HB; clear HI0; have HO_3 := n0_; have HO527 := n1_; have HK := n2_; have HB := n3_; have HI0 := n4_; clear n0_ n1_ n2_ n3_ n4_; (try clear hb); (try clear hb2); (try clear hk); (try clear hi); (try clear ho0)))
    (try simp only [Act.put, List.setIfInBounds_toArray, List.set_cons_zero, List.set_cons_succ])
    go_cut [34] (fun v34 wc => ∃ (kq : Nat) (x34_7 : Bool) (x1001_7 : Int), v34 = .bool x34_7 ∧ Aside0 (spec_l91Rows.j1 kq x3_1 x4_1 t525 x34_7 s0_0 x1001_7 = some (r1, r2)) ∧ Aside0 (kq ≤ k1) ∧ Aside0 (Kd.N (Kd.slice 3 (Kd.int .i64)) 28 wc w.heap.size (fun k_ => (w.heap.size ≤ k_) ∧ some k_ ≠ (v526 : Value).ownBlock ∧ k_ ≠ g) u3 x3_1) ∧ Aside0 (Kd.Q (Kd.int .i64) 3 wc w.heap.size (fun k_ => (w.heap.size ≤ k_)) v526 t525) ∧ Aside0 (IsS92 w0 wc g s0_0 x1001_7) ∧ Aside0 (KeepBut w wc g none) ∧ Aside0 (Below w0.heap.size w0 wc))
    case first =>
     have H := HC8.out
     clear HC8
     by_cases c10 : (x3_1.length : Int) > 1
     ·rw [if_pos c10] at H
      have c10b0 : decide (1 < (x3_1.length : Int)) = true := decide_eq_true c10
      have c10b1 : decide (1 < x3_1.length) = true := decide_eq_true (by omega)
      clear c10
      (first | rw [c10b0] | (simp only [i64_w, i32_w]; rw [c10b0]) | skip)
      replace H := Option.bind_eq_some_iff.mp H
      obtain ⟨⟨t529, t530⟩, A110, H⟩ := H
      replace H : (if t529 = 0 then (if 0 < (x3_1.length : Int) then ((spec_VecOk.f k1 (rd_L1 x3_1 0)).bind fun t532 => (if t532 = true then (if 1 < (x3_1.length : Int) then ((spec_VecOk.f k1 (rd_L1 x3_1 1)).bind fun t534 => (spec_l91Rows.j1 k1 x3_1 x4_1 t525 t534 s0_0 t530)) else (none)) else (spec_l91Rows.j1 k1 x3_1 x4_1 t525 false s0_0 t530))) else (none)) else (spec_l91Rows.j1 k1 x3_1 x4_1 t525 false s0_0 t530)) = some (r1, r2) := H
      have A11 := Aside0.mk A110
      clear A110
      by_cases c12 : t529 = 0
      ·rw [if_pos c12] at H
       have c12b0 : (t529 == 0) = true := beq_iff_eq.mpr c12
       have c12b1 : (t529 != 0) = false := bne_eq_false_iff_eq.mpr c12
       clear c12
       by_cases c13 : 0 < (x3_1.length : Int)
       ·rw [if_pos c13] at H
        have c13b0 : decide (0 < (x3_1.length : Int)) = true := decide_eq_true c13
        have c13b1 : decide (0 < x3_1.length) = true := decide_eq_true (by omega)
        clear c13
        replace H := Option.bind_eq_some_iff.mp H
        obtain ⟨t532, A140, H⟩ := H
        replace H : (if t532 = true then (if 1 < (x3_1.length : Int) then ((spec_VecOk.f k1 (rd_L1 x3_1 1)).bind fun t534 => (spec_l91Rows.j1 k1 x3_1 x4_1 t525 t534 s0_0 t530)) else (none)) else (spec_l91Rows.j1 k1 x3_1 x4_1 t525 false s0_0 t530)) = some (r1, r2) := H
        have A14 := Aside0.mk A140
        clear A140
        by_cases c15 : t532 = true
        ·subst c15
         have H1 : (if 1 < (x3_1.length : Int) then ((spec_VecOk.f k1 (rd_L1 x3_1 1)).bind fun t534 => (spec_l91Rows.j1 k1 x3_1 x4_1 t525 t534 s0_0 t530)) else (none)) = some (r1, r2) := by rw [if_pos rfl] at H; exact H
         clear H
         have H := H1
         clear H1
         by_cases c16 : 1 < (x3_1.length : Int)
         ·rw [if_pos c16] at H
          have c16b0 : decide (1 < (x3_1.length : Int)) = true := decide_eq_true c16
          have c16b1 : decide (1 < x3_1.length) = true := decide_eq_true (by omega)
          clear c16
          replace H := Option.bind_eq_some_iff.mp H
          obtain ⟨t534, A170, H⟩ := H
          replace H : (spec_l91Rows.j1 k1 x3_1 x4_1 t525 t534 s0_0 t530) = some (r1, r2) := H
          have A17 := Aside0.mk A170
          clear A170
          have H' := Aside0.mk H
          clear H
          obtain ⟨Ao18, co18, eo18⟩ := Kd.N_slice HO_3.out
          subst eo18
          go_wp2_with (first | (go_at_call 65; (with_reducible refine (spec_l6Rd_pick.calls k1 g s0_0 t528 3 t529 t530 w0 _ ?side1 ?side2 A11.out).mono ?_); (case side1 => repeat (first | (with_reducible first | exact HI0.out | apply IsS92.alloc | apply IsS92.drewN | apply IsS92.drew | apply IsS92.set_1) | exact HI0.out)); (case side2 => repeat (first | (with_reducible first | exact HB.out | apply below_alloc | apply pw_below_drewN | apply below_drew1 | refine below_set ?_ (IsS92.ge HI0.out)) | exact HB.out)); rintro e w19 ⟨rfl, hi, hb, hk⟩; have n0_ := Aside0.mk (Kd.N_mono (Kd.N_keep (Kd.N_mono (ok := fun k_ => ((((w.heap.size ≤ k_)) ∧ k_ ≠ g) ∧ some k_ ≠ (v526 : Value).ownBlock)) z24_3 (fun k_ hk_ => (⟨hk_, hk_.1.2⟩ : _ ∧ k_ ≠ g))) hk (fun _ h => h.2)) (fun _ h => h.1)); have n1_ := Aside0.mk (Kd.Q_mono (Kd.Q_keep (IsS92.apartQ (show IsS92 w0 _ g s0_0 t528 from by repeat (first | (with_reducible first | exact HI0.out | apply IsS92.alloc | apply IsS92.drewN | apply IsS92.drew | apply IsS92.set_1) | exact HI0.out)) z24_15 (by decide)) hk (fun _ h => h.2)) (fun _ h => h.1)); have n2_ := Aside0.mk (KeepBut.trans z24_0 hk (.inl rfl)); have n3_ := Aside0.mk (hb); have n4_ := Aside0.mk (hi); clear HO_3; clear HO527; clear HK; clear HB; clear HI0; have HO_3 := n0_; have HO527 := n1_; have HK := n2_; have HB := n3_; have HI0 := n4_; clear n0_ n1_ n2_ n3_ n4_; (try clear hb); (try clear hb2); (try clear hk); (try clear hi); have p531 : 0 ≤ (0 : Int) := (by omega); have q531 : 0 < (x3_1.length : Int) := of_decide_eq_true z24_11; obtain ⟨ad531, A531_0, c531_0, e531, hx531_0, hl531_0, hi531_0⟩ := at_L1 (Kd.N_reads' HO_3.out).2.2 0 p531 q531; cases e531; obtain ⟨ce531, hce531, hMe531, hcc531⟩ := Kd.N_get HO_3.out [] 0 p531 (by first | exact q531 | exact of_decide_eq_true z24_11 | (have e_ := (Kd.N_reads' HO_3.out).1; omega)); obtain ⟨ua531_0, uc531_0, rfl, ul531_0, ge531_0⟩ := Kd.FK_slice_open hMe531; have hv531_0 := hcc531 0 _ rfl; rw [Nat.add_zero, show ((Kd.slice 3 (Kd.int .i64))).sz = 1 from rfl, Nat.mul_one] at hv531_0; replace hv531_0 := Option.some.inj (hv531_0.symm.trans hx531_0); injection hv531_0 with hva_ hvn_ hvc_; rw [hva_] at ge531_0; rw [hvc_] at ul531_0; have HL531_0 := Aside0.mk (show Kd.V (Kd.int .i64) 3 _ w.heap.size _ _ (rd_L1 x3_1 0) from Kd.V_mk ul531_0 ge531_0); clear hva_ hvn_ hvc_ ge531_0 ul531_0; clear hcc531 hce531; have qi531 : (0 < x3_1.length) = True := eq_true (by omega); (try rw [show ((0 : Int)).toNat = 0 from rfl] at hx531_0); (try rw [Addr.add_zero'] at hx531_0); have HR531_0 := Aside0.mk hi531_0; have HC531_0 := Aside0.mk hl531_0; clear hi531_0 hl531_0; replace p531 := eq_true p531; replace q531 := eq_true q531) | (go_at_call 43; (with_reducible refine (spec_VecOk.calls k1 _ _ (rd_L1 x3_1 0) true _ ?side1 ?side2 A14.out).mono ?_); (case side1 => repeat (first | exact z24_16 | (with_reducible refine Kd.C_alloc ?_ _) | (with_reducible refine Kd.C_drewN ?_ _) | (with_reducible refine Kd.C_drew ?_))); (case side2 => exact HC531_0.out); rintro e w' ⟨rfl, ⟨nd, rfl⟩⟩; have p533 : 0 ≤ (1 : Int) := (by omega); have q533 : 1 < (x3_1.length : Int) := of_decide_eq_true z24_11; obtain ⟨ad533, A533_0, c533_0, e533, hx533_0, hl533_0, hi533_0⟩ := at_L1 (Kd.N_reads' HO_3.out).2.2 1 p533 q533; obtain rfl : ad531 = ad533 := (by injection e533); obtain ⟨ce533, hce533, hMe533, hcc533⟩ := Kd.N_get HO_3.out [] 1 p533 (by first | exact q533 | exact of_decide_eq_true z24_11 | (have e_ := (Kd.N_reads' HO_3.out).1; omega)); obtain ⟨ua533_0, uc533_0, rfl, ul533_0, ge533_0⟩ := Kd.FK_slice_open hMe533; have hv533_0 := hcc533 0 _ rfl; rw [Nat.add_zero, show ((Kd.slice 3 (Kd.int .i64))).sz = 1 from rfl, Nat.mul_one] at hv533_0; replace hv533_0 := Option.some.inj (hv533_0.symm.trans hx533_0); injection hv533_0 with hva_ hvn_ hvc_; rw [hva_] at ge533_0; rw [hvc_] at ul533_0; have HL533_0 := Aside0.mk (show Kd.V (Kd.int .i64) 3 _ w.heap.size _ _ (rd_L1 x3_1 1) from Kd.V_mk ul533_0 ge533_0); clear hva_ hvn_ hvc_ ge533_0 ul533_0; clear hcc533 hce533; (try simp only [show (1 : Int).toNat = 1 from rfl, Nat.reduceMul, Nat.reduceEqDiff, Go.Addr.add, ↓reduceIte] at hx533_0); have qi533 : (1 < x3_1.length) = True := eq_true (by omega); (try rw [show ((1 : Int)).toNat = 1 from rfl] at hx533_0); have HR533_0 := Aside0.mk hi533_0; have HC533_0 := Aside0.mk hl533_0; clear hi533_0 hl533_0; replace p533 := eq_true p533; replace q533 := eq_true q533) | (go_at_call 43; (with_reducible refine (spec_VecOk.calls k1 _ _ (rd_L1 x3_1 1) t534 _ ?side1 ?side2 A17.out).mono ?_); (case side1 => repeat (first | exact (by repeat (first | (with_reducible exact HR533_0.out) | (with_reducible refine Kd.C_alloc ?_ _) | (with_reducible refine Kd.C_drewN ?_ _) | (with_reducible refine Kd.C_drew ?_) | exact HR533_0.out)) | (with_reducible refine Kd.C_alloc ?_ _) | (with_reducible refine Kd.C_drewN ?_ _) | (with_reducible refine Kd.C_drew ?_))); (case side2 => exact HC533_0.out); rintro e w' ⟨rfl, ⟨nd, rfl⟩⟩))
          go_meet
          case rel => exact ⟨_, (t534), (t530), z24_14, H', ⟨z24_17⟩, ⟨z24_10⟩, ⟨z24_12⟩, ⟨z24_1⟩, ⟨z24_0⟩, ⟨z24_2⟩⟩
         ·rw [if_neg c16] at H
          exact absurd H (by simp)
        ·replace c15 := Bool.eq_false_iff.mpr c15
         subst c15
         have H1 : (spec_l91Rows.j1 k1 x3_1 x4_1 t525 false s0_0 t530) = some (r1, r2) := by rw [if_neg (show ¬ (false = true) by decide)] at H; exact H
         clear H
         have H := H1
         clear H1
         have H' := Aside0.mk H
         clear H
         obtain ⟨Ao20, co20, eo20⟩ := Kd.N_slice HO_3.out
         subst eo20
         go_wp2_with (first | (go_at_call 65; (with_reducible refine (spec_l6Rd_pick.calls k1 g s0_0 t528 3 t529 t530 w0 _ ?side1 ?side2 A11.out).mono ?_); (case side1 => repeat (first | (with_reducible first | exact HI0.out | apply IsS92.alloc | apply IsS92.drewN | apply IsS92.drew | apply IsS92.set_1) | exact HI0.out)); (case side2 => repeat (first | (with_reducible first | exact HB.out | apply below_alloc | apply pw_below_drewN | apply below_drew1 | refine below_set ?_ (IsS92.ge HI0.out)) | exact HB.out)); rintro e w21 ⟨rfl, hi, hb, hk⟩; have n0_ := Aside0.mk (Kd.N_mono (Kd.N_keep (Kd.N_mono (ok := fun k_ => ((((w.heap.size ≤ k_)) ∧ k_ ≠ g) ∧ some k_ ≠ (v526 : Value).ownBlock)) z24_3 (fun k_ hk_ => (⟨hk_, hk_.1.2⟩ : _ ∧ k_ ≠ g))) hk (fun _ h => h.2)) (fun _ h => h.1)); have n1_ := Aside0.mk (Kd.Q_mono (Kd.Q_keep (IsS92.apartQ (show IsS92 w0 _ g s0_0 t528 from by repeat (first | (with_reducible first | exact HI0.out | apply IsS92.alloc | apply IsS92.drewN | apply IsS92.drew | apply IsS92.set_1) | exact HI0.out)) z24_15 (by decide)) hk (fun _ h => h.2)) (fun _ h => h.1)); have n2_ := Aside0.mk (KeepBut.trans z24_0 hk (.inl rfl)); have n3_ := Aside0.mk (hb); have n4_ := Aside0.mk (hi); clear HO_3; clear HO527; clear HK; clear HB; clear HI0; have HO_3 := n0_; have HO527 := n1_; have HK := n2_; have HB := n3_; have HI0 := n4_; clear n0_ n1_ n2_ n3_ n4_; (try clear hb); (try clear hb2); (try clear hk); (try clear hi); have p531 : 0 ≤ (0 : Int) := (by omega); have q531 : 0 < (x3_1.length : Int) := of_decide_eq_true z24_11; obtain ⟨ad531, A531_0, c531_0, e531, hx531_0, hl531_0, hi531_0⟩ := at_L1 (Kd.N_reads' HO_3.out).2.2 0 p531 q531; cases e531; obtain ⟨ce531, hce531, hMe531, hcc531⟩ := Kd.N_get HO_3.out [] 0 p531 (by first | exact q531 | exact of_decide_eq_true z24_11 | (have e_ := (Kd.N_reads' HO_3.out).1; omega)); obtain ⟨ua531_0, uc531_0, rfl, ul531_0, ge531_0⟩ := Kd.FK_slice_open hMe531; have hv531_0 := hcc531 0 _ rfl; rw [Nat.add_zero, show ((Kd.slice 3 (Kd.int .i64))).sz = 1 from rfl, Nat.mul_one] at hv531_0; replace hv531_0 := Option.some.inj (hv531_0.symm.trans hx531_0); injection hv531_0 with hva_ hvn_ hvc_; rw [hva_] at ge531_0; rw [hvc_] at ul531_0; have HL531_0 := Aside0.mk (show Kd.V (Kd.int .i64) 3 _ w.heap.size _ _ (rd_L1 x3_1 0) from Kd.V_mk ul531_0 ge531_0); clear hva_ hvn_ hvc_ ge531_0 ul531_0; clear hcc531 hce531; have qi531 : (0 < x3_1.length) = True := eq_true (by omega); (try rw [show ((0 : Int)).toNat = 0 from rfl] at hx531_0); (try rw [Addr.add_zero'] at hx531_0); have HR531_0 := Aside0.mk hi531_0; have HC531_0 := Aside0.mk hl531_0; clear hi531_0 hl531_0; replace p531 := eq_true p531; replace q531 := eq_true q531) | (go_at_call 43; (with_reducible refine (spec_VecOk.calls k1 _ _ (rd_L1 x3_1 0) false _ ?side1 ?side2 A14.out).mono ?_); (case side1 => repeat (first | exact z24_16 | (with_reducible refine Kd.C_alloc ?_ _) | (with_reducible refine Kd.C_drewN ?_ _) | (with_reducible refine Kd.C_drew ?_))); (case side2 => exact HC531_0.out); rintro e w' ⟨rfl, ⟨nd, rfl⟩⟩))
         go_meet
         case rel => exact ⟨_, (false), (t530), z24_14, H', ⟨z24_17⟩, ⟨z24_10⟩, ⟨z24_12⟩, ⟨z24_1⟩, ⟨z24_0⟩, ⟨z24_2⟩⟩
       ·rw [if_neg c13] at H
        exact absurd H (by simp)
      ·rw [if_neg c12] at H
       have c12b0 : (t529 == 0) = false := beq_eq_false_iff_ne.mpr c12
       have c12b1 : (t529 != 0) = true := bne_iff_ne.mpr c12
       have H' := Aside0.mk H
       clear H
       obtain ⟨Ao22, co22, eo22⟩ := Kd.N_slice HO_3.out
       subst eo22
       go_wp2_with (first | (go_at_call 65; (with_reducible refine (spec_l6Rd_pick.calls k1 g s0_0 t528 3 t529 t530 w0 _ ?side1 ?side2 A11.out).mono ?_); (case side1 => repeat (first | (with_reducible first | exact HI0.out | apply IsS92.alloc | apply IsS92.drewN | apply IsS92.drew | apply IsS92.set_1) | exact HI0.out)); (case side2 => repeat (first | (with_reducible first | exact HB.out | apply below_alloc | apply pw_below_drewN | apply below_drew1 | refine below_set ?_ (IsS92.ge HI0.out)) | exact HB.out)); rintro e w23 ⟨rfl, hi, hb, hk⟩; have n0_ := Aside0.mk (Kd.N_mono (Kd.N_keep (Kd.N_mono (ok := fun k_ => ((((w.heap.size ≤ k_)) ∧ k_ ≠ g) ∧ some k_ ≠ (v526 : Value).ownBlock)) z24_3 (fun k_ hk_ => (⟨hk_, hk_.1.2⟩ : _ ∧ k_ ≠ g))) hk (fun _ h => h.2)) (fun _ h => h.1)); have n1_ := Aside0.mk (Kd.Q_mono (Kd.Q_keep (IsS92.apartQ (show IsS92 w0 _ g s0_0 t528 from by repeat (first | (with_reducible first | exact HI0.out | apply IsS92.alloc | apply IsS92.drewN | apply IsS92.drew | apply IsS92.set_1) | exact HI0.out)) z24_15 (by decide)) hk (fun _ h => h.2)) (fun _ h => h.1)); have n2_ := Aside0.mk (KeepBut.trans z24_0 hk (.inl rfl)); have n3_ := Aside0.mk (hb); have n4_ := Aside0.mk (hi); clear HO_3; clear HO527; clear HK; clear HB; clear HI0; have HO_3 := n0_; have HO527 := n1_; have HK := n2_; have HB := n3_; have HI0 := n4_; clear n0_ n1_ n2_ n3_ n4_; (try clear hb); (try clear hb2); (try clear hk); (try clear hi)))
       go_meet
       case rel => exact ⟨_, (false), (t530), z24_14, H', ⟨z24_17⟩, ⟨z24_10⟩, ⟨z24_12⟩, ⟨z24_1⟩, ⟨z24_0⟩, ⟨z24_2⟩⟩
     ·rw [if_neg c10] at H
      have c10b0 : decide (1 < (x3_1.length : Int)) = false := decide_eq_false c10
      have c10b1 : decide (1 < x3_1.length) = false := decide_eq_false (by omega)
      clear c10
      (first | rw [c10b0] | (simp only [i64_w, i32_w]; rw [c10b0]) | skip)
      have H' := Aside0.mk H
      clear H
      obtain ⟨Ao24, co24, eo24⟩ := Kd.N_slice HO_3.out
      subst eo24
      go_wp2
      go_meet
      case rel => exact ⟨_, (false), (t528), z24_14, H', ⟨z24_17⟩, ⟨z24_10⟩, ⟨z24_12⟩, ⟨z24_1⟩, ⟨z24_0⟩, ⟨z24_2⟩⟩
    case rest =>
     clear HC8
     try clear c6
     try clear c6b0
     obtain ⟨kq, x34_7, x1001_7, rfl, HA, HJ7, HO_3, HO_5, HI0, HK, HB⟩ := hcut
     cases kq with
     | zero => exact absurd HA.out (by simp [spec_l91Rows.j1])
     | succ kj7 =>
      have H := HA.out
      clear HA
      simp only [spec_l91Rows.j1] at H
      by_cases c25 : x34_7 = true
      ·subst c25
       have H1 : (if 0 < (x3_1.length : Int) then ((spec_l6Rd_pick.f kj7 s0_0 x1001_7 31).bind fun bt536 => ((spec_l2Scale.f kj7 (rd_L1 x3_1 0) bt536.1).bind fun t538 => (if 1 < (x3_1.length : Int) then ((spec_l6Rd_pick.f kj7 s0_0 bt536.2 31).bind fun bt542 => ((spec_l2Scale.f kj7 (rd_L1 x3_1 1) bt542.1).bind fun t544 => ((spec_l2Sum.f kj7 t538 t544).bind fun t547 => (if x3_1.length < 5864062014805 then (spec_l91Rows.l0 kj7 (x3_1 ++ [t547]) (wrap64 (x4_1 - 1)) s0_0 bt542.2) else (none))))) else (none)))) else (none)) = some (r1, r2) := by rw [if_pos rfl] at H; exact H
       clear H
       have H := H1
       clear H1
       by_cases c26 : 0 < (x3_1.length : Int)
       ·rw [if_pos c26] at H
        have c26b0 : decide (0 < (x3_1.length : Int)) = true := decide_eq_true c26
        have c26b1 : decide (0 < x3_1.length) = true := decide_eq_true (by omega)
        clear c26
        replace H := Option.bind_eq_some_iff.mp H
        obtain ⟨⟨t536, t537⟩, A270, H⟩ := H
        replace H : ((spec_l2Scale.f kj7 (rd_L1 x3_1 0) t536).bind fun t538 => (if 1 < (x3_1.length : Int) then ((spec_l6Rd_pick.f kj7 s0_0 t537 31).bind fun bt542 => ((spec_l2Scale.f kj7 (rd_L1 x3_1 1) bt542.1).bind fun t544 => ((spec_l2Sum.f kj7 t538 t544).bind fun t547 => (if x3_1.length < 5864062014805 then (spec_l91Rows.l0 kj7 (x3_1 ++ [t547]) (wrap64 (x4_1 - 1)) s0_0 bt542.2) else (none))))) else (none))) = some (r1, r2) := H
        have A27 := Aside0.mk A270
        clear A270
        replace H := Option.bind_eq_some_iff.mp H
        obtain ⟨t538, A280, H⟩ := H
        replace H : (if 1 < (x3_1.length : Int) then ((spec_l6Rd_pick.f kj7 s0_0 t537 31).bind fun bt542 => ((spec_l2Scale.f kj7 (rd_L1 x3_1 1) bt542.1).bind fun t544 => ((spec_l2Sum.f kj7 t538 t544).bind fun t547 => (if x3_1.length < 5864062014805 then (spec_l91Rows.l0 kj7 (x3_1 ++ [t547]) (wrap64 (x4_1 - 1)) s0_0 bt542.2) else (none))))) else (none)) = some (r1, r2) := H
        have A28 := Aside0.mk A280
        clear A280
        by_cases c29 : 1 < (x3_1.length : Int)
        ·rw [if_pos c29] at H
         have c29b0 : decide (1 < (x3_1.length : Int)) = true := decide_eq_true c29
         have c29b1 : decide (1 < x3_1.length) = true := decide_eq_true (by omega)
         clear c29
         replace H := Option.bind_eq_some_iff.mp H
         obtain ⟨⟨t542, t543⟩, A300, H⟩ := H
         replace H : ((spec_l2Scale.f kj7 (rd_L1 x3_1 1) t542).bind fun t544 => ((spec_l2Sum.f kj7 t538 t544).bind fun t547 => (if x3_1.length < 5864062014805 then (spec_l91Rows.l0 kj7 (x3_1 ++ [t547]) (wrap64 (x4_1 - 1)) s0_0 t543) else (none)))) = some (r1, r2) := H
         have A30 := Aside0.mk A300
         clear A300
         replace H := Option.bind_eq_some_iff.mp H
         obtain ⟨t544, A310, H⟩ := H
         replace H : ((spec_l2Sum.f kj7 t538 t544).bind fun t547 => (if x3_1.length < 5864062014805 then (spec_l91Rows.l0 kj7 (x3_1 ++ [t547]) (wrap64 (x4_1 - 1)) s0_0 t543) else (none))) = some (r1, r2) := H
         have A31 := Aside0.mk A310
         clear A310
         replace H := Option.bind_eq_some_iff.mp H
         obtain ⟨t547, A320, H⟩ := H
         replace H : (if x3_1.length < 5864062014805 then (spec_l91Rows.l0 kj7 (x3_1 ++ [t547]) (wrap64 (x4_1 - 1)) s0_0 t543) else (none)) = some (r1, r2) := H
         have A32 := Aside0.mk A320
         clear A320
         by_cases c33 : x3_1.length < 5864062014805
         ·rw [if_pos c33] at H
          have LMc33 := Aside0.mk c33
          clear c33
          obtain ⟨y550, hy550⟩ : ∃ y_ : List (List Int), y_ = (x3_1 ++ [t547]) := ⟨_, rfl⟩
          replace H : (spec_l91Rows.l0 kj7 y550 (wrap64 (x4_1 - 1)) s0_0 t543) = some (r1, r2) := by first | (rw [hy550]; with_reducible exact H) | (have H2_ := (Option.bind_some _ _).symm.trans H; rw [hy550]; with_reducible exact H2_) | (have H2_ := (Option.bind_some _ _).symm.trans H; with_reducible exact H2_) | with_reducible exact H | (rw [hy550]; exact H) | exact H
          have Ny550 := Aside0.mk hy550
          clear hy550
          have H' := Aside0.mk H
          clear H
          try go_wp2
          have n0_ := Aside0.mk (Kd.N_drew HO_3.out)
          have n1_ := Aside0.mk (Kd.Q_drew HO_5.out)
          have n2_ := Aside0.mk (IsS92.drew HI0.out)
          have n3_ := Aside0.mk (keep_drew HK.out)
          have n4_ := Aside0.mk (below_drew1 HB.out)
          clear HO_3
          clear HO_5
          clear HI0
          clear HK
          clear HB
          have HO_3 := n0_
          have HO_5 := n1_
          have HI0 := n2_
          have HK := n3_
          have HB := n4_
          clear n0_ n1_ n2_ n3_ n4_
          obtain ⟨Ao35, co35, eo35⟩ := Kd.N_slice HO_3.out
          (first | subst eo35 | (injection eo35 with f1_ f2_ f3_; have f4_ := f1_.symm; have f5_ := f3_.symm; clear f1_ f2_ f3_; subst f4_; subst f5_))
          have p535 : 0 ≤ (0 : Int) := (by omega)
          have q535 : 0 < (x3_1.length : Int) := of_decide_eq_true z24_11
          obtain ⟨ad535, A535_0, c535_0, e535, hx535_0, hl535_0, hi535_0⟩ := at_L1 (Kd.N_reads' HO_3.out).2.2 0 p535 q535
          cases e535
          obtain ⟨ce535, hce535, hMe535, hcc535⟩ := Kd.N_get HO_3.out [] 0 p535 (by first | exact q535 | exact of_decide_eq_true z24_11 | (have e_ := (Kd.N_reads' HO_3.out).1; omega))
          obtain ⟨ua535_0, uc535_0, rfl, ul535_0, ge535_0⟩ := Kd.FK_slice_open hMe535
          have hv535_0 := hcc535 0 _ rfl
          rw [Nat.add_zero, show ((Kd.slice 3 (Kd.int .i64))).sz = 1 from rfl, Nat.mul_one] at hv535_0
          replace hv535_0 := Option.some.inj (hv535_0.symm.trans hx535_0)
          injection hv535_0 with hva_ hvn_ hvc_
          rw [hva_] at ge535_0
          rw [hvc_] at ul535_0
          have HL535_0 := Aside0.mk (show Kd.V (Kd.int .i64) 3 _ w.heap.size _ _ (rd_L1 x3_1 0) from Kd.V_mk ul535_0 ge535_0)
          clear hva_ hvn_ hvc_ ge535_0 ul535_0
          clear hcc535 hce535
          have qi535 : (0 < x3_1.length) = True := eq_true (by omega)
          (try rw [show ((0 : Int)).toNat = 0 from rfl] at hx535_0)
          (try rw [Addr.add_zero'] at hx535_0)
          have HR535_0 := Aside0.mk hi535_0
          have HC535_0 := Aside0.mk hl535_0
          clear hi535_0 hl535_0
          replace p535 := eq_true p535
          replace q535 := eq_true q535
          have p541 : 0 ≤ (1 : Int) := (by omega)
          have q541 : 1 < (x3_1.length : Int) := of_decide_eq_true z24_11
          obtain ⟨ad541, A541_0, c541_0, e541, hx541_0, hl541_0, hi541_0⟩ := at_L1 (Kd.N_reads' HO_3.out).2.2 1 p541 q541
          obtain rfl : ad535 = ad541 := (by injection e541)
          obtain ⟨ce541, hce541, hMe541, hcc541⟩ := Kd.N_get HO_3.out [] 1 p541 (by first | exact q541 | exact of_decide_eq_true z24_11 | (have e_ := (Kd.N_reads' HO_3.out).1; omega))
          obtain ⟨ua541_0, uc541_0, rfl, ul541_0, ge541_0⟩ := Kd.FK_slice_open hMe541
          have hv541_0 := hcc541 0 _ rfl
          rw [Nat.add_zero, show ((Kd.slice 3 (Kd.int .i64))).sz = 1 from rfl, Nat.mul_one] at hv541_0
          replace hv541_0 := Option.some.inj (hv541_0.symm.trans hx541_0)
          injection hv541_0 with hva_ hvn_ hvc_
          rw [hva_] at ge541_0
          rw [hvc_] at ul541_0
          have HL541_0 := Aside0.mk (show Kd.V (Kd.int .i64) 3 _ w.heap.size _ _ (rd_L1 x3_1 1) from Kd.V_mk ul541_0 ge541_0)
          clear hva_ hvn_ hvc_ ge541_0 ul541_0
          clear hcc541 hce541
          (try simp only [show (1 : Int).toNat = 1 from rfl, Nat.reduceMul, Nat.reduceEqDiff, Go.Addr.add, ↓reduceIte] at hx541_0)
          have qi541 : (1 < x3_1.length) = True := eq_true (by omega)
          (try rw [show ((1 : Int)).toNat = 1 from rfl] at hx541_0)
          have HR541_0 := Aside0.mk hi541_0
          have HC541_0 := Aside0.mk hl541_0
          clear hi541_0 hl541_0
          replace p541 := eq_true p541
          replace q541 := eq_true q541
          refine start_ (n := 14) (S := fun w' => w'.cell? ad535 = some (.slice A535_0 (rd_L1 x3_1 0).length c535_0) ∧ w'.cell? ⟨ad535.block, ad535.off + 1, none⟩ = some (.slice A541_0 (rd_L1 x3_1 1).length c541_0)) (ds := []) #[false, false, false, false, false, false, false, false, false, false, false, false, false, false] (by kernel_rfl) rfl rfl ⟨hx535_0, hx541_0⟩ (fun hHeld => ?_); refine with_tabW spec_l91Rows.tab7 spec_l91Rows.bits7 (fun HT_ HW_ => ?_)
          generalize wc.drew = w34 at HO_3 HO_5 HI0 HK HB HL535_0 HL541_0 HR535_0 HR541_0 hx535_0 hx541_0 hHeld ⊢
          refine pure_ (i := 0) (N := some 35) (v := ?_) (a' := ?_) #[true, false, false, false, false, false, false, false, false, false, false, false, false, false] rfl rfl (any_of HT_.out (by kernel_rfl)) (fun _ _ _ h => h) (Or.inl ⟨by rfl, ?_⟩) ?_ ?_
          rotate_left
          ·intro w'
           go_simp
           with_reducible rfl
          rotate_left
          ·simp only [Act.put, zs24, zc24, zd24, i64_w, i32_w]
           rfl
          refine pure_ (i := 1) (N := some 36) (v := ?_) (a' := ?_) #[true, true, false, false, false, false, false, false, false, false, false, false, false, false] rfl rfl (any_of HT_.out (by kernel_rfl)) (fun _ _ _ h => h) (Or.inl ⟨by rfl, ?_⟩) ?_ ?_
          rotate_left
          ·intro w'
           go_simp
           with_reducible rfl
          rotate_left
          ·simp only [Act.put, zs24, zc24, zd24, i64_w, i32_w]
           rfl
          refine pure_ (i := 3) (N := some 38) (v := ?_) (a' := ?_) #[true, true, false, true, false, false, false, false, false, false, false, false, false, false] rfl rfl (any_of HT_.out (by kernel_rfl)) (fun _ _ _ h => h) (Or.inl ⟨by rfl, ?_⟩) ?_ ?_
          rotate_left
          ·intro w'
           go_simp
           with_reducible rfl
          rotate_left
          ·simp only [Act.put, zs24, zc24, zd24, i64_w, i32_w]
           rfl
          refine pure_ (i := 6) (N := some 41) (v := ?_) (a' := ?_) #[true, true, false, true, false, false, true, false, false, false, false, false, false, false] rfl rfl (any_of HT_.out (by kernel_rfl)) (fun _ _ _ h => h) (Or.inl ⟨by rfl, ?_⟩) ?_ ?_
          rotate_left
          ·intro w'
           go_simp
           with_reducible rfl
          rotate_left
          ·simp only [Act.put, zs24, zc24, zd24, i64_w, i32_w]
           rfl
          refine pure_ (i := 7) (N := some 42) (v := ?_) (a' := ?_) #[true, true, false, true, false, false, true, true, false, false, false, false, false, false] rfl rfl (any_of HT_.out (by kernel_rfl)) (fun _ _ _ h => h) (Or.inl ⟨by rfl, ?_⟩) ?_ ?_
          rotate_left
          ·intro w'
           go_simp
           with_reducible rfl
          rotate_left
          ·simp only [Act.put, zs24, zc24, zd24, i64_w, i32_w]
           rfl
          refine pure_ (i := 9) (N := some 44) (v := ?_) (a' := ?_) #[true, true, false, true, false, false, true, true, false, true, false, false, false, false] rfl rfl (any_of HT_.out (by kernel_rfl)) (fun _ _ _ h => h) (Or.inl ⟨by rfl, ?_⟩) ?_ ?_
          rotate_left
          ·intro w'
           go_simp
           with_reducible rfl
          rotate_left
          ·simp only [Act.put, zs24, zc24, zd24, i64_w, i32_w]
           rfl
          refine take_ (i := 2) (N := some 37) (v := ?_) (a' := ?_) #[true, true, true, true, false, false, true, true, false, true, false, false, false, false] rfl rfl (take_ofW HT_.out HW_.out (by kernel_rfl)) (fun _ _ _ h => h) (Or.inl ⟨by rfl, ?_⟩) hHeld ?_ ?_
          rotate_left
          ·rintro w' ⟨s0, s1⟩
           go_simp
           with_reducible rfl
          rotate_left
          ·simp only [Act.put, zs24, zc24, zd24, i64_w, i32_w]
           rfl
          refine take_ (i := 8) (N := some 43) (v := ?_) (a' := ?_) #[true, true, true, true, false, false, true, true, true, true, false, false, false, false] rfl rfl (take_ofW HT_.out HW_.out (by kernel_rfl)) (fun _ _ _ h => h) (Or.inl ⟨by rfl, ?_⟩) hHeld ?_ ?_
          rotate_left
          ·rintro w' ⟨s0, s1⟩
           go_simp
           with_reducible rfl
          rotate_left
          ·simp only [Act.put, zs24, zc24, zd24, i64_w, i32_w]
           rfl
          refine one_ (i := 4) (N := some 39) #[true, true, true, true, true, false, true, true, true, true, false, false, false, false] rfl rfl (one_of HT_.out (by kernel_rfl)) (by decide) (fun K hK => ?_)
          refine goes_ Try.func65 (by kernel_rfl) rfl #[.pointer (some ⟨g, 0, none⟩), .int .i64 31] (by rfl) rfl rfl z24_4 ?_
          with_reducible refine (spec_l6Rd_pick.calls kj7 g s0_0 x1001_7 31 t536 t537 w0 _ ?side1 ?side2 A27.out).mono ?_
          (case side1 => repeat (first | (with_reducible first | exact HI0.out | apply IsS92.alloc | apply IsS92.drewN | apply IsS92.drew | apply IsS92.set_1) | exact HI0.out))
          (case side2 => repeat (first | (with_reducible first | exact HB.out | apply below_alloc | apply pw_below_drewN | apply below_drew1 | refine below_set ?_ (IsS92.ge HI0.out)) | exact HB.out))
          rintro e w36 ⟨rfl, hi, hb, hk⟩
          have HS0_ := keep_cell hk (hHeld.1) z24_5
          have HS1_ := keep_cell hk (hHeld.2) z24_5
          refine ⟨_, rfl, ?_⟩
          have n0_ := Aside0.mk (Kd.N_mono (Kd.N_keep (Kd.N_mono (ok := fun k_ => (((w.heap.size ≤ k_)) ∧ (some k_ ≠ (v526 : Value).ownBlock ∧ k_ ≠ g))) z24_3 (fun k_ hk_ => (⟨hk_, hk_.2.2⟩ : _ ∧ k_ ≠ g))) hk (fun _ h => h.2)) (fun _ h => h.1))
          have n1_ := Aside0.mk (Kd.Q_mono (Kd.Q_keep (IsS92.apartQ (show IsS92 w0 _ g s0_0 x1001_7 from by repeat (first | (with_reducible first | exact HI0.out | apply IsS92.alloc | apply IsS92.drewN | apply IsS92.drew | apply IsS92.set_1) | exact HI0.out)) z24_6 (by decide)) hk (fun _ h => h.2)) (fun _ h => h.1))
          have n2_ := Aside0.mk (Kd.V_mono (Kd.V_keep (Kd.V_mono (ok := fun k_ => ((((w.heap.size ≤ k_)) ∧ (some k_ ≠ (v526 : Value).ownBlock ∧ k_ ≠ g)) ∧ some k_ ≠ (.slice (some ad535) x3_1.length co35 : Value).ownBlock)) z24_8 (fun k_ hk_ => (⟨hk_, hk_.1.2.2⟩ : _ ∧ k_ ≠ g))) hk (fun _ h => h.2)) (fun _ h => h.1))
          have n3_ := Aside0.mk (Kd.V_mono (Kd.V_keep (Kd.V_mono (ok := fun k_ => ((((w.heap.size ≤ k_)) ∧ (some k_ ≠ (v526 : Value).ownBlock ∧ k_ ≠ g)) ∧ some k_ ≠ (.slice (some ad535) x3_1.length co35 : Value).ownBlock)) z24_9 (fun k_ hk_ => (⟨hk_, hk_.1.2.2⟩ : _ ∧ k_ ≠ g))) hk (fun _ h => h.2)) (fun _ h => h.1))
          have n4_ := Aside0.mk (KeepBut.trans z24_0 hk (.inl rfl))
          have n5_ := Aside0.mk (hb)
          have n6_ := Aside0.mk (hi)
          clear HO_3
          clear HO_5
          clear HL535_0
          clear HL541_0
          clear HK
          clear HB
          clear HI0
          have HO_3 := n0_
          have HO_5 := n1_
          have HL535_0 := n2_
          have HL541_0 := n3_
          have HK := n4_
          have HB := n5_
          have HI0 := n6_
          clear n0_ n1_ n2_ n3_ n4_ n5_ n6_
          (try clear hb)
          (try clear hb2)
          (try clear hk)
          (try clear hi)
          refine hK.out _ _ ⟨HS0_, HS1_⟩ (fun hHeld => ?_)
          clear hK K
          refine norm_ (a' := ?_) ?_ ?_
          rotate_left
          ·show Act.put _ (some 39) _ = _
           simp only [Act.put, zs24, zc24, zd24, i64_w, i32_w]
           rfl
          refine one_ (i := 5) (N := some 40) #[true, true, true, true, true, true, true, true, true, true, false, false, false, false] rfl rfl (one_of HT_.out (by kernel_rfl)) (by decide) (fun K hK => ?_)
          refine goes_ Try.func79 (by kernel_rfl) rfl #[.slice A535_0 (rd_L1 x3_1 0).length c535_0, .int .i64 t536] (by rfl) rfl rfl z24_4 ?_
          with_reducible refine (spec_l2Scale.calls kj7 _ _ (rd_L1 x3_1 0) t536 t538 _ ?side1 ?side2 A28.out).mono ?_
          (case side1 => repeat (first | exact ((Kd.V_reads' z24_8).2.2) | (with_reducible refine Kd.C_alloc ?_ _) | (with_reducible refine Kd.C_drewN ?_ _) | (with_reducible refine Kd.C_drew ?_)))
          (case side2 => exact HC535_0.out)
          rintro e w37 ⟨v539, rfl, ho0, hb⟩
          have HS0_ := (hb.cell (World.block_lt_of_cell? _ _ (hHeld.1))).trans (hHeld.1)
          have HS1_ := (hb.cell (World.block_lt_of_cell? _ _ (hHeld.2))).trans (hHeld.2)
          refine ⟨_, rfl, ?_⟩
          have n0_ := Aside0.mk (Kd.N_elder' z24_3 (Kd.R_base ho0) hb)
          have n1_ := Aside0.mk (Kd.Q_elder' z24_6 (Kd.R_base ho0) hb)
          have n2_ := Aside0.mk (Kd.V_elder' z24_8 (Kd.R_base ho0) hb)
          have n3_ := Aside0.mk (Kd.V_elder' z24_9 (Kd.R_base ho0) hb)
          have n4_ := Aside0.mk (Kd.R_lower (Kd.R_new' (Kd.R_newM (M := fun k_ => (w.heap.size ≤ k_)) ho0 (keep_size (w := w) (g := g) (row := none) z24_0) (fun k_ h_ => h_)) (Kd.Q_lt z24_6)) (keep_size (w := w) (g := g) (row := none) z24_0))
          have n5_ := Aside0.mk (IsS92.below z24_1 hb)
          have n6_ := Aside0.mk (KeepBut.trans z24_0 (KeepBut.of_below hb g none) (.inl rfl))
          have n7_ := Aside0.mk (below_step z24_2 hb)
          clear HO_3
          clear HO_5
          clear HL535_0
          clear HL541_0
          clear HI0
          clear HK
          clear HB
          have HO_3 := n0_
          have HO_5 := n1_
          have HL535_0 := n2_
          have HL541_0 := n3_
          have HO540 := n4_
          have HI0 := n5_
          have HK := n6_
          have HB := n7_
          clear n0_ n1_ n2_ n3_ n4_ n5_ n6_ n7_
          (try clear hb)
          (try clear hb2)
          (try clear hk)
          (try clear hi)
          (try clear ho0)
          refine hK.out _ _ ⟨HS0_, HS1_⟩ (fun hHeld => ?_)
          clear hK K
          refine norm_ (a' := ?_) ?_ ?_
          rotate_left
          ·show Act.put _ (some 40) _ = _
           simp only [Act.put, zs24, zc24, zd24, i64_w, i32_w]
           rfl
          refine one_ (i := 10) (N := some 45) #[true, true, true, true, true, true, true, true, true, true, true, false, false, false] rfl rfl (one_of HT_.out (by kernel_rfl)) (by decide) (fun K hK => ?_)
          refine goes_ Try.func65 (by kernel_rfl) rfl #[.pointer (some ⟨g, 0, none⟩), .int .i64 31] (by rfl) rfl rfl z24_4 ?_
          with_reducible refine (spec_l6Rd_pick.calls kj7 g s0_0 t537 31 t542 t543 w0 _ ?side1 ?side2 A30.out).mono ?_
          (case side1 => repeat (first | (with_reducible first | exact HI0.out | apply IsS92.alloc | apply IsS92.drewN | apply IsS92.drew | apply IsS92.set_1) | exact HI0.out))
          (case side2 => repeat (first | (with_reducible first | exact HB.out | apply below_alloc | apply pw_below_drewN | apply below_drew1 | refine below_set ?_ (IsS92.ge HI0.out)) | exact HB.out))
          rintro e w38 ⟨rfl, hi, hb, hk⟩
          have HS0_ := keep_cell hk (hHeld.1) z24_5
          have HS1_ := keep_cell hk (hHeld.2) z24_5
          refine ⟨_, rfl, ?_⟩
          have n0_ := Aside0.mk (Kd.N_mono (Kd.N_keep (Kd.N_mono (ok := fun k_ => ((((w.heap.size ≤ k_)) ∧ (some k_ ≠ (v526 : Value).ownBlock ∧ k_ ≠ g)) ∧ some k_ ≠ (v539 : Value).ownBlock)) z24_3 (fun k_ hk_ => (⟨hk_, hk_.1.2.2⟩ : _ ∧ k_ ≠ g))) hk (fun _ h => h.2)) (fun _ h => h.1))
          have n1_ := Aside0.mk (Kd.Q_mono (Kd.Q_keep (IsS92.apartQ (show IsS92 w0 _ g s0_0 t537 from by repeat (first | (with_reducible first | exact HI0.out | apply IsS92.alloc | apply IsS92.drewN | apply IsS92.drew | apply IsS92.set_1) | exact HI0.out)) z24_6 (by decide)) hk (fun _ h => h.2)) (fun _ h => h.1))
          have n2_ := Aside0.mk (Kd.V_mono (Kd.V_keep (Kd.V_mono (ok := fun k_ => (((((w.heap.size ≤ k_)) ∧ (some k_ ≠ (v526 : Value).ownBlock ∧ k_ ≠ g)) ∧ some k_ ≠ (.slice (some ad535) x3_1.length co35 : Value).ownBlock) ∧ some k_ ≠ (v539 : Value).ownBlock)) z24_8 (fun k_ hk_ => (⟨hk_, hk_.1.1.2.2⟩ : _ ∧ k_ ≠ g))) hk (fun _ h => h.2)) (fun _ h => h.1))
          have n3_ := Aside0.mk (Kd.V_mono (Kd.V_keep (Kd.V_mono (ok := fun k_ => (((((w.heap.size ≤ k_)) ∧ (some k_ ≠ (v526 : Value).ownBlock ∧ k_ ≠ g)) ∧ some k_ ≠ (.slice (some ad535) x3_1.length co35 : Value).ownBlock) ∧ some k_ ≠ (v539 : Value).ownBlock)) z24_9 (fun k_ hk_ => (⟨hk_, hk_.1.1.2.2⟩ : _ ∧ k_ ≠ g))) hk (fun _ h => h.2)) (fun _ h => h.1))
          have n4_ := Aside0.mk (Kd.R_mono (Kd.R_keep (IsS92.apart (show IsS92 w0 _ g s0_0 t537 from by repeat (first | (with_reducible first | exact HI0.out | apply IsS92.alloc | apply IsS92.drewN | apply IsS92.drew | apply IsS92.set_1) | exact HI0.out)) z24_7 (by decide)) hk (fun _ h => h.2)) (fun _ h => h.1))
          have n5_ := Aside0.mk (KeepBut.trans z24_0 hk (.inl rfl))
          have n6_ := Aside0.mk (hb)
          have n7_ := Aside0.mk (hi)
          clear HO_3
          clear HO_5
          clear HL535_0
          clear HL541_0
          clear HO540
          clear HK
          clear HB
          clear HI0
          have HO_3 := n0_
          have HO_5 := n1_
          have HL535_0 := n2_
          have HL541_0 := n3_
          have HO540 := n4_
          have HK := n5_
          have HB := n6_
          have HI0 := n7_
          clear n0_ n1_ n2_ n3_ n4_ n5_ n6_ n7_
          (try clear hb)
          (try clear hb2)
          (try clear hk)
          (try clear hi)
          refine hK.out _ _ ⟨HS0_, HS1_⟩ (fun hHeld => ?_)
          clear hK K
          refine norm_ (a' := ?_) ?_ ?_
          rotate_left
          ·show Act.put _ (some 45) _ = _
           simp only [Act.put, zs24, zc24, zd24, i64_w, i32_w]
           rfl
          refine one_ (i := 11) (N := some 46) #[true, true, true, true, true, true, true, true, true, true, true, true, false, false] rfl rfl (one_of HT_.out (by kernel_rfl)) (by decide) (fun K hK => ?_)
          refine goes_ Try.func79 (by kernel_rfl) rfl #[.slice A541_0 (rd_L1 x3_1 1).length c541_0, .int .i64 t542] (by rfl) rfl rfl z24_4 ?_
          with_reducible refine (spec_l2Scale.calls kj7 _ _ (rd_L1 x3_1 1) t542 t544 _ ?side1 ?side2 A31.out).mono ?_
          (case side1 => repeat (first | exact ((Kd.V_reads' z24_9).2.2) | (with_reducible refine Kd.C_alloc ?_ _) | (with_reducible refine Kd.C_drewN ?_ _) | (with_reducible refine Kd.C_drew ?_)))
          (case side2 => exact HC541_0.out)
          rintro e w39 ⟨v545, rfl, ho0, hb⟩
          have HS0_ := (hb.cell (World.block_lt_of_cell? _ _ (hHeld.1))).trans (hHeld.1)
          have HS1_ := (hb.cell (World.block_lt_of_cell? _ _ (hHeld.2))).trans (hHeld.2)
          refine ⟨_, rfl, ?_⟩
          have n0_ := Aside0.mk (Kd.N_elder' z24_3 (Kd.R_base ho0) hb)
          have n1_ := Aside0.mk (Kd.Q_elder' z24_6 (Kd.R_base ho0) hb)
          have n2_ := Aside0.mk (Kd.V_elder' z24_8 (Kd.R_base ho0) hb)
          have n3_ := Aside0.mk (Kd.V_elder' z24_9 (Kd.R_base ho0) hb)
          have n4_ := Aside0.mk (Kd.R_elder' z24_7 (Kd.R_base ho0) hb)
          have n5_ := Aside0.mk (Kd.R_lower (Kd.R_new' (Kd.R_new' (Kd.R_newM (M := fun k_ => (w.heap.size ≤ k_)) ho0 (keep_size (w := w) (g := g) (row := none) z24_0) (fun k_ h_ => h_)) (Kd.Q_lt z24_6)) (Kd.R_lt z24_7)) (keep_size (w := w) (g := g) (row := none) z24_0))
          have n6_ := Aside0.mk (IsS92.below z24_1 hb)
          have n7_ := Aside0.mk (KeepBut.trans z24_0 (KeepBut.of_below hb g none) (.inl rfl))
          have n8_ := Aside0.mk (below_step z24_2 hb)
          clear HO_3
          clear HO_5
          clear HL535_0
          clear HL541_0
          clear HO540
          clear HI0
          clear HK
          clear HB
          have HO_3 := n0_
          have HO_5 := n1_
          have HL535_0 := n2_
          have HL541_0 := n3_
          have HO540 := n4_
          have HO546 := n5_
          have HI0 := n6_
          have HK := n7_
          have HB := n8_
          clear n0_ n1_ n2_ n3_ n4_ n5_ n6_ n7_ n8_
          (try clear hb)
          (try clear hb2)
          (try clear hk)
          (try clear hi)
          (try clear ho0)
          obtain ⟨Ao40, co40, eo40⟩ := Kd.R_slice HO540.out
          (first | subst eo40 | (injection eo40 with f1_ f2_ f3_; have f4_ := f1_.symm; have f5_ := f3_.symm; clear f1_ f2_ f3_; subst f4_; subst f5_))
          obtain ⟨Ao41, co41, eo41⟩ := Kd.R_slice HO546.out
          (first | subst eo41 | (injection eo41 with f1_ f2_ f3_; have f4_ := f1_.symm; have f5_ := f3_.symm; clear f1_ f2_ f3_; subst f4_; subst f5_))
          refine hK.out _ _ ⟨HS0_, HS1_⟩ (fun hHeld => ?_)
          clear hK K
          refine norm_ (a' := ?_) ?_ ?_
          rotate_left
          ·show Act.put _ (some 46) _ = _
           simp only [Act.put, zs24, zc24, zd24, i64_w, i32_w]
           rfl
          refine one_ (i := 12) (N := some 47) #[true, true, true, true, true, true, true, true, true, true, true, true, true, false] rfl rfl (one_of HT_.out (by kernel_rfl)) (by decide) (fun K hK => ?_)
          refine goes_ Try.func86 (by kernel_rfl) rfl #[.slice Ao40 t538.length co40, .slice Ao41 t544.length co41] (by rfl) rfl rfl z24_4 ?_
          with_reducible refine (spec_l2Sum.calls kj7 _ _ t538 _ _ t544 t547 _ ?side1 ?side2 ?side3 ?side4 A32.out).mono ?_
          (case side1 => repeat (first | exact (Kd.R_reads' HO540.out).2.2 | (with_reducible refine Kd.C_alloc ?_ _) | (with_reducible refine Kd.C_drewN ?_ _) | (with_reducible refine Kd.C_drew ?_)))
          (case side2 => exact (Kd.R_reads' HO540.out).2.1)
          (case side3 => repeat (first | exact (Kd.R_reads' HO546.out).2.2 | (with_reducible refine Kd.C_alloc ?_ _) | (with_reducible refine Kd.C_drewN ?_ _) | (with_reducible refine Kd.C_drew ?_)))
          (case side4 => exact (Kd.R_reads' HO546.out).2.1)
          rintro e w42 ⟨v548, rfl, ho0, hb⟩
          have HS0_ := (hb.cell (World.block_lt_of_cell? _ _ (hHeld.1))).trans (hHeld.1)
          have HS1_ := (hb.cell (World.block_lt_of_cell? _ _ (hHeld.2))).trans (hHeld.2)
          refine ⟨_, rfl, ?_⟩
          have n0_ := Aside0.mk (Kd.N_elder' z24_3 (Kd.R_base ho0) hb)
          have n1_ := Aside0.mk (Kd.Q_elder' z24_6 (Kd.R_base ho0) hb)
          have n2_ := Aside0.mk (Kd.V_elder' z24_8 (Kd.R_base ho0) hb)
          have n3_ := Aside0.mk (Kd.V_elder' z24_9 (Kd.R_base ho0) hb)
          have n4_ := Aside0.mk (Kd.R_elder' z24_7 (Kd.R_base ho0) hb)
          have n5_ := Aside0.mk (Kd.R_elder' z24_13 (Kd.R_base ho0) hb)
          have n6_ := Aside0.mk (Kd.R_lower (Kd.R_new' (Kd.R_new' (Kd.R_new' (Kd.R_newM (M := fun k_ => (w.heap.size ≤ k_)) ho0 (keep_size (w := w) (g := g) (row := none) z24_0) (fun k_ h_ => h_)) (Kd.Q_lt z24_6)) (Kd.R_lt z24_7)) (Kd.R_lt z24_13)) (keep_size (w := w) (g := g) (row := none) z24_0))
          have n7_ := Aside0.mk (IsS92.below z24_1 hb)
          have n8_ := Aside0.mk (KeepBut.trans z24_0 (KeepBut.of_below hb g none) (.inl rfl))
          have n9_ := Aside0.mk (below_step z24_2 hb)
          clear HO_3
          clear HO_5
          clear HL535_0
          clear HL541_0
          clear HO540
          clear HO546
          clear HI0
          clear HK
          clear HB
          have HO_3 := n0_
          have HO_5 := n1_
          have HL535_0 := n2_
          have HL541_0 := n3_
          have HO540 := n4_
          have HO546 := n5_
          have HO549 := n6_
          have HI0 := n7_
          have HK := n8_
          have HB := n9_
          clear n0_ n1_ n2_ n3_ n4_ n5_ n6_ n7_ n8_ n9_
          (try clear hb)
          (try clear hb2)
          (try clear hk)
          (try clear hi)
          (try clear ho0)
          refine hK.out _ _ ⟨HS0_, HS1_⟩ (fun hHeld => ?_)
          clear hK K
          refine norm_ (a' := ?_) ?_ ?_
          rotate_left
          ·show Act.put _ (some 47) _ = _
           simp only [Act.put, zs24, zc24, zd24, i64_w, i32_w]
           rfl
          refine pure_ (i := 13) (N := some 5) (v := ?_) (a' := ?_) #[true, true, true, true, true, true, true, true, true, true, true, true, true, true] rfl rfl (any_of HT_.out (by kernel_rfl)) (fun _ _ _ h => h) (Or.inl ⟨by rfl, ?_⟩) ?_ ?_
          rotate_left
          ·intro w'
           go_simp
           with_reducible rfl
          rotate_left
          ·simp only [Act.put, zs24, zc24, zd24, i64_w, i32_w]
           rfl
          refine done_ (done_of HT_.out (by kernel_rfl)) ?_
          obtain ⟨Ao44, co44, eo44⟩ := Kd.R_slice HO549.out
          subst eo44
          try go_wp2_with (first | ((with_reducible refine gate_builtin (b := .append) (xs := #[.tmp 48, .tmp 50]) rfl ?_); at_builtin; refine Kd.N_append (Kd.slice 3 (Kd.int .i64)) w.heap.size rfl (.tmp 48) (.tmp 50) 22 28 (.slice none 0 0) 24 rfl Try.underlying22 info28 rfl (by decide) (by omega) (.slice (some ad535) x3_1.length co35) x3_1 t547 [.slice Ao44 t547.length co44] (fun k_ => (w.heap.size ≤ k_) ∧ some k_ ≠ (v526 : Value).ownBlock ∧ some k_ ≠ (.slice Ao40 t538.length co40 : Value).ownBlock ∧ some k_ ≠ (.slice Ao41 t544.length co41 : Value).ownBlock ∧ k_ ≠ g) (fun k_ => ((fun k_ => (w.heap.size ≤ k_) ∧ some k_ ≠ (v526 : Value).ownBlock ∧ some k_ ≠ (.slice Ao40 t538.length co40 : Value).ownBlock ∧ some k_ ≠ (.slice Ao41 t544.length co41 : Value).ownBlock ∧ k_ ≠ g)) k_ ∧ some k_ ≠ (.slice (some ad535) x3_1.length co35 : Value).ownBlock) rfl rfl ?aP (fun _ hk => hk) ?aF ?aO (Below.refl _ _) ?aS ?aL ?_; (case aP => exact (Kd.FK_slice_mk (Kd.R_reads' (Kd.R_mono (ok' := (fun k_ => ((fun k_ => (w.heap.size ≤ k_) ∧ some k_ ≠ (v526 : Value).ownBlock ∧ some k_ ≠ (.slice Ao40 t538.length co40 : Value).ownBlock ∧ some k_ ≠ (.slice Ao41 t544.length co41 : Value).ownBlock ∧ k_ ≠ g)) k_ ∧ some k_ ≠ (.slice (some ad535) x3_1.length co35 : Value).ownBlock)) (IsS92.apart HI0.out (Kd.R_apart' (HO549.out) (Kd.N_typed HO_3.out) (by decide)) (by decide)) (fun k_ hk => ⟨⟨hk.1.1.1.1.1.1, ⟨hk.1.1.1.1.2, ⟨hk.1.1.1.2, ⟨hk.1.1.2, hk.2⟩⟩⟩⟩, hk.1.2⟩))).2.1 (Kd.R_F (Kd.R_mono (ok' := (fun k_ => ((fun k_ => (w.heap.size ≤ k_) ∧ some k_ ≠ (v526 : Value).ownBlock ∧ some k_ ≠ (.slice Ao40 t538.length co40 : Value).ownBlock ∧ some k_ ≠ (.slice Ao41 t544.length co41 : Value).ownBlock ∧ k_ ≠ g)) k_ ∧ some k_ ≠ (.slice (some ad535) x3_1.length co35 : Value).ownBlock)) (IsS92.apart HI0.out (Kd.R_apart' (HO549.out) (Kd.N_typed HO_3.out) (by decide)) (by decide)) (fun k_ hk => ⟨⟨hk.1.1.1.1.1.1, ⟨hk.1.1.1.1.2, ⟨hk.1.1.1.2, ⟨hk.1.1.2, hk.2⟩⟩⟩⟩, hk.1.2⟩))))); (case aF => exact (fun k_ hk => ⟨(Nat.le_trans (keep_size (w := w) (g := g) (row := none) z24_0) hk), Kd.fresh' (Kd.Q_lt z24_6) k_ hk, Kd.fresh' (Kd.R_lt z24_7) k_ hk, Kd.fresh' (Kd.R_lt z24_13) k_ hk, IsS92.fresh z24_1 k_ hk⟩)); (case aO => exact (by (with_reducible repeat (first | apply Kd.N_alloc | apply Kd.N_drewN | apply Kd.N_drew)); exact Kd.N_mono HO_3.out (fun _ hk => ⟨hk.1.1.1.1, ⟨hk.1.1.1.2.1, ⟨hk.1.1.2, ⟨hk.1.2, hk.1.1.1.2.2⟩⟩⟩⟩))); (case aS => exact (keep_size (w := w) (g := g) (row := none) z24_0)); (case aL => have := LMc33.out; omega); intro v551 w43 ho hb hg hat; rw [← Ny550.out] at ho; have n0_ := Aside0.mk (Kd.Q_over' z24_6 (Kd.N_typed z24_3) (by decide) hg); have n1_ := Aside0.mk (IsS92.grown z24_1 hg (IsS92.own_neN HI0.out HO_3.out (by decide))); have n2_ := Aside0.mk (Kd.V_afterv (ok := (fun k_ => (w.heap.size ≤ k_) ∧ some k_ ≠ (v526 : Value).ownBlock ∧ some k_ ≠ (.slice Ao40 t538.length co40 : Value).ownBlock ∧ some k_ ≠ (.slice Ao41 t544.length co41 : Value).ownBlock ∧ some k_ ≠ (.slice Ao44 t547.length co44 : Value).ownBlock ∧ k_ ≠ g)) (by (with_reducible repeat (first | apply Kd.V_alloc | apply Kd.V_drewN | apply Kd.V_drew)); exact Kd.V_mono HL535_0.out (fun _ hk => ⟨⟨hk.1.1.1.1.1, ⟨hk.1.1.1.1.2.1, ⟨hk.1.1.2, ⟨hk.1.2, ⟨hk.2, hk.1.1.1.1.2.2⟩⟩⟩⟩⟩, hk.1.1.1.2⟩)) hg hat); have n3_ := Aside0.mk (Kd.V_afterv (ok := (fun k_ => (w.heap.size ≤ k_) ∧ some k_ ≠ (v526 : Value).ownBlock ∧ some k_ ≠ (.slice Ao40 t538.length co40 : Value).ownBlock ∧ some k_ ≠ (.slice Ao41 t544.length co41 : Value).ownBlock ∧ some k_ ≠ (.slice Ao44 t547.length co44 : Value).ownBlock ∧ k_ ≠ g)) (by (with_reducible repeat (first | apply Kd.V_alloc | apply Kd.V_drewN | apply Kd.V_drew)); exact Kd.V_mono HL541_0.out (fun _ hk => ⟨⟨hk.1.1.1.1.1, ⟨hk.1.1.1.1.2.1, ⟨hk.1.1.2, ⟨hk.1.2, ⟨hk.2, hk.1.1.1.1.2.2⟩⟩⟩⟩⟩, hk.1.1.1.2⟩)) hg hat); have n4_ := Aside0.mk (Kd.R_over' z24_7 (Kd.N_typed z24_3) (by decide) hg); have n5_ := Aside0.mk (Kd.R_over' z24_13 (Kd.N_typed z24_3) (by decide) hg); have n6_ := Aside0.mk (below_weaken z24_2 HL.out hb); have n7_ := Aside0.mk (KeepBut.trans z24_0 (KeepBut.of_grown hg g) (Kd.N_base2 HO_3.out)); have n8_ := Aside0.mk (ho); clear HO_5; clear HI0; clear HL535_0; clear HL541_0; clear HO540; clear HO546; clear HB; clear HK; clear HO_3; clear HO549; have HO_5 := n0_; have HI0 := n1_; have HL535_0 := n2_; have HL541_0 := n3_; have HO540 := n4_; have HO546 := n5_; have HB := n6_; have HK := n7_; have HO552 := n8_; clear n0_ n1_ n2_ n3_ n4_ n5_ n6_ n7_ n8_; clear ho hb hg hat))
          go_roundg kj7
          case measure => have := HK1.out; have := HJ7.out; omega
          case rel => exact ⟨(y550), (wrap64 (x4_1 - 1)), (t543), z24_14, H', ⟨by have := HK1.out; have := HJ7.out; omega⟩, ⟨by (with_reducible repeat (first | apply Kd.N_alloc | apply Kd.N_drewN | apply Kd.N_drew)); exact Kd.N_mono HO552.out (fun _ hk => ⟨hk.1, hk.2.2.2.2⟩)⟩, ⟨z24_1⟩, ⟨z24_0⟩, ⟨z24_2⟩⟩
         ·rw [if_neg c33] at H
          exact absurd H (by simp)
        ·rw [if_neg c29] at H
         exact absurd H (by simp)
       ·rw [if_neg c26] at H
        exact absurd H (by simp)
      ·replace c25 := Bool.eq_false_iff.mpr c25
       subst c25
       have H1 : (if x3_1.length < 5864062014805 then (spec_l91Rows.l0 kj7 (x3_1 ++ [t525]) (wrap64 (x4_1 - 1)) s0_0 x1001_7) else (none)) = some (r1, r2) := by rw [if_neg (show ¬ (false = true) by decide)] at H; exact H
       clear H
       have H := H1
       clear H1
       by_cases c45 : x3_1.length < 5864062014805
       ·rw [if_pos c45] at H
        have LMc45 := Aside0.mk c45
        clear c45
        obtain ⟨y553, hy553⟩ : ∃ y_ : List (List Int), y_ = (x3_1 ++ [t525]) := ⟨_, rfl⟩
        replace H : (spec_l91Rows.l0 kj7 y553 (wrap64 (x4_1 - 1)) s0_0 x1001_7) = some (r1, r2) := by first | (rw [hy553]; with_reducible exact H) | (have H2_ := (Option.bind_some _ _).symm.trans H; rw [hy553]; with_reducible exact H2_) | (have H2_ := (Option.bind_some _ _).symm.trans H; with_reducible exact H2_) | with_reducible exact H | (rw [hy553]; exact H) | exact H
        have Ny553 := Aside0.mk hy553
        clear hy553
        have H' := Aside0.mk H
        clear H
        obtain ⟨Ao47, co47, eo47, _⟩ := Kd.Q_slice HO_5.out
        subst eo47
        go_wp2_with (first | ((with_reducible refine gate_builtin (b := .append) (xs := #[.tmp 48, .tmp 50]) rfl ?_); at_builtin; refine Kd.N_append (Kd.slice 3 (Kd.int .i64)) w.heap.size rfl (.tmp 48) (.tmp 50) 22 28 (.slice none 0 0) 24 rfl Try.underlying22 info28 rfl (by decide) (by omega) u3 x3_1 t525 [.slice Ao47 t525.length co47] (fun k_ => (w.heap.size ≤ k_) ∧ k_ ≠ g) (fun k_ => ((fun k_ => (w.heap.size ≤ k_) ∧ k_ ≠ g)) k_ ∧ some k_ ≠ (u3 : Value).ownBlock) rfl rfl ?aP (fun _ hk => hk) ?aF ?aO (Below.refl _ _) ?aS ?aL ?_; (case aP => exact (Kd.FK_slice_mk (Kd.Q_reads' (Kd.Q_mono (ok' := (fun k_ => ((fun k_ => (w.heap.size ≤ k_) ∧ k_ ≠ g)) k_ ∧ some k_ ≠ (u3 : Value).ownBlock)) (IsS92.apartQ HI0.out (Kd.Q_apart' (HO_5.out) (Kd.N_typed HO_3.out) (by decide)) (by decide)) (fun k_ hk => ⟨⟨hk.1.1, hk.2⟩, hk.1.2⟩))).2.1 (Kd.Q_F (Kd.Q_mono (ok' := (fun k_ => ((fun k_ => (w.heap.size ≤ k_) ∧ k_ ≠ g)) k_ ∧ some k_ ≠ (u3 : Value).ownBlock)) (IsS92.apartQ HI0.out (Kd.Q_apart' (HO_5.out) (Kd.N_typed HO_3.out) (by decide)) (by decide)) (fun k_ hk => ⟨⟨hk.1.1, hk.2⟩, hk.1.2⟩))))); (case aF => exact (fun k_ hk => ⟨(Nat.le_trans (keep_size (w := w) (g := g) (row := none) z24_0) hk), IsS92.fresh z24_1 k_ hk⟩)); (case aO => exact (by (with_reducible repeat (first | apply Kd.N_alloc | apply Kd.N_drewN | apply Kd.N_drew)); exact Kd.N_mono HO_3.out (fun _ hk => ⟨hk.1, hk.2.2⟩))); (case aS => exact (keep_size (w := w) (g := g) (row := none) z24_0)); (case aL => have := LMc45.out; omega); intro v554 w46 ho hb hg hat; rw [← Ny553.out] at ho; have n0_ := Aside0.mk (IsS92.grown z24_1 hg (IsS92.own_neN HI0.out HO_3.out (by decide))); have n1_ := Aside0.mk (below_weaken z24_2 HL.out hb); have n2_ := Aside0.mk (KeepBut.trans z24_0 (KeepBut.of_grown hg g) (Kd.N_base2 HO_3.out)); have n3_ := Aside0.mk (ho); clear HI0; clear HB; clear HK; clear HO_3; clear HO_5; have HI0 := n0_; have HB := n1_; have HK := n2_; have HO555 := n3_; clear n0_ n1_ n2_ n3_; clear ho hb hg hat))
        go_roundg kj7
        case measure => have := HK1.out; have := HJ7.out; omega
        case rel => exact ⟨(y553), (wrap64 (x4_1 - 1)), (x1001_7), z24_14, H', ⟨by have := HK1.out; have := HJ7.out; omega⟩, ⟨by (with_reducible repeat (first | apply Kd.N_alloc | apply Kd.N_drewN | apply Kd.N_drew)); exact HO555.out⟩, ⟨z24_1⟩, ⟨z24_0⟩, ⟨z24_2⟩⟩
       ·rw [if_neg c45] at H
        exact absurd H (by simp)
   ·rw [if_neg c6] at H
    have c6b0 : decide (0 < x4_1) = false := decide_eq_false c6
    clear c6
    replace H := Option.bind_eq_some_iff.mp H
    obtain ⟨⟨t556, t557⟩, A480, H⟩ := H
    replace H : (if t556 = 0 then (spec_l91Rows.l1 k1 x3_1 s0_0 t557) else (some (x3_1, t557))) = some (r1, r2) := H
    have A48 := Aside0.mk A480
    clear A480
    by_cases c49 : t556 = 0
    ·rw [if_pos c49] at H
     have c49b0 : (t556 == 0) = true := beq_iff_eq.mpr c49
     have c49b1 : (t556 != 0) = false := bne_eq_false_iff_eq.mpr c49
     clear c49
     have H' := Aside0.mk H
     clear H
     go_wp2_with (first | ((with_reducible refine gate_callee (f := 65) rfl ?_); refine goesL_ (some 53) rfl rfl Try.func65 (by kernel_rfl) rfl #[.pointer (some ⟨g, 0, none⟩), .int .i64 40] rfl z24_4 ?_; (with_reducible refine (spec_l6Rd_pick.calls k1 g s0_0 x1001_1 40 t556 t557 w0 _ ?side1 ?side2 A48.out).mono ?_); (case side1 => repeat (first | (with_reducible first | exact HI0.out | apply IsS92.alloc | apply IsS92.drewN | apply IsS92.drew | apply IsS92.set_1) | exact HI0.out)); (case side2 => repeat (first | (with_reducible first | exact HB.out | apply below_alloc | apply pw_below_drewN | apply below_drew1 | refine below_set ?_ (IsS92.ge HI0.out)) | exact HB.out)); rintro e w50 ⟨rfl, hi, hb, hk⟩; refine ⟨_, rfl, ?_⟩; have n0_ := Aside0.mk (Kd.N_mono (Kd.N_keep (Kd.N_mono (ok := fun k_ => (((w.heap.size ≤ k_)) ∧ k_ ≠ g)) z24_3 (fun k_ hk_ => (⟨hk_, hk_.2⟩ : _ ∧ k_ ≠ g))) hk (fun _ h => h.2)) (fun _ h => h.1)); have n1_ := Aside0.mk (KeepBut.trans z24_0 hk (.inl rfl)); have n2_ := Aside0.mk (hb); have n3_ := Aside0.mk (hi); clear HO_3; clear HK; clear HB; clear HI0; have HO_3 := n0_; have HK := n1_; have HB := n2_; have HI0 := n3_; clear n0_ n1_ n2_ n3_; (try clear hb); (try clear hb2); (try clear hk); (try clear hi)))
     go_loopg [3] k1 (fun kq v3 w' => ∃ (x3_2 : List (List Int)), Aside0 (spec_l91Rows.l1 kq x3_2 s0_0 t557 = some (r1, r2)) ∧ Aside0 (kq ≤ k1) ∧ Aside0 (Kd.N (Kd.slice 3 (Kd.int .i64)) 28 w' w.heap.size (fun k_ => (w.heap.size ≤ k_) ∧ k_ ≠ g) v3 x3_2) ∧ Aside0 (IsS92 w0 w' g s0_0 t557) ∧ Aside0 (KeepBut w w' g none) ∧ Aside0 (Below w0.heap.size w0 w'))
     case atStart => exact ⟨(x3_1), H', ⟨Nat.le_refl _⟩, ⟨z24_3⟩, ⟨z24_1⟩, ⟨z24_0⟩, ⟨z24_2⟩⟩
     case round =>
      clear H'
      try clear c6
      try clear c6b0
      try clear c49
      try clear c49b0
      try clear c49b1
      obtain ⟨x3_2, HA, HK2, HO_3, HI0, HK, HB⟩ := hrel
      cases gk with
      | zero => exact absurd HA.out (by simp [spec_l91Rows.l1])
      | succ k2 =>
       have H := HA.out
       clear HA
       simp only [spec_l91Rows.l1] at H
       by_cases c51 : (x3_2.length : Int) ≤ 8
       ·rw [if_pos c51] at H
        have c51b0 : decide ((x3_2.length : Int) ≤ 8) = true := decide_eq_true c51
        have c51b1 : decide (x3_2.length ≤ 8) = true := decide_eq_true (by omega)
        clear c51
        obtain ⟨y558, hy558⟩ : ∃ y_ : List Int, y_ = (([1, 2, 3, 4] : List Int)) := ⟨_, rfl⟩
        replace H : (if x3_2.length < 5864062014805 then (spec_l91Rows.l1 k2 (x3_2 ++ [y558]) s0_0 t557) else (none)) = some (r1, r2) := by first | (rw [hy558]; with_reducible exact H) | (have H2_ := (Option.bind_some _ _).symm.trans H; rw [hy558]; with_reducible exact H2_) | (have H2_ := (Option.bind_some _ _).symm.trans H; with_reducible exact H2_) | with_reducible exact H | (rw [hy558]; exact H) | exact H
        have Ny558 := Aside0.mk hy558
        clear hy558
        by_cases c52 : x3_2.length < 5864062014805
        ·rw [if_pos c52] at H
         have LMc52 := Aside0.mk c52
         clear c52
         obtain ⟨y561, hy561⟩ : ∃ y_ : List (List Int), y_ = (x3_2 ++ [y558]) := ⟨_, rfl⟩
         replace H : (spec_l91Rows.l1 k2 y561 s0_0 t557) = some (r1, r2) := by first | (rw [hy561]; with_reducible exact H) | (have H2_ := (Option.bind_some _ _).symm.trans H; rw [hy561]; with_reducible exact H2_) | (have H2_ := (Option.bind_some _ _).symm.trans H; with_reducible exact H2_) | with_reducible exact H | (rw [hy561]; exact H) | exact H
         have Ny561 := Aside0.mk hy561
         clear hy561
         have H' := Aside0.mk H
         clear H
         obtain ⟨Ao53, co53, eo53⟩ := Kd.N_slice HO_3.out
         subst eo53
         go_wp2_with (first | ((with_reducible refine gate_dst (N := 59) rfl ?_); refine Kd.R_lit (Kd.int .i64) _ 3 ?hg (N := 59) ?hd (xs := ([1, 2, 3, 4] : List Int)) (inner := [.int .i64 1, .int .i64 2, .int .i64 3, .int .i64 4]) (ok := fun _ => True) (okp := fun _ => True) ?hr ?hp (fun _ hk => hk) trivial (Below.refl _ _) (Nat.le_refl _) (by simp) ?_; (case hd => rfl); (case hg => rfl); (case hr => first | (go_simp; done) | (go_simp; rfl)); (case hp => exact (Reps.one (show Kd.M (Kd.int .i64) _ _ _ 1 [.int .i64 1] from rfl) (Reps.one (show Kd.M (Kd.int .i64) _ _ _ 2 [.int .i64 2] from rfl) (Reps.one (show Kd.M (Kd.int .i64) _ _ _ 3 [.int .i64 3] from rfl) (Reps.one (show Kd.M (Kd.int .i64) _ _ _ 4 [.int .i64 4] from rfl) (Reps.none _ _)))))); intro v559 w54 ho55 hb hg_ hnew_; clear hg_ hnew_; (first | rw [← Ny558.out] at ho55 | (simp only [Int.reduceToNat] at ho55; rw [← Ny558.out] at ho55)); have n0_ := Aside0.mk (Kd.N_elder' z24_3 (Kd.R_base ho55) hb); have n1_ := Aside0.mk (Kd.R_lower (Kd.R_newM (M := fun k_ => (w.heap.size ≤ k_)) ho55 (keep_size (w := w) (g := g) (row := none) z24_0) (fun k_ h_ => h_)) (keep_size (w := w) (g := g) (row := none) z24_0)); have n2_ := Aside0.mk (IsS92.below z24_1 hb); have n3_ := Aside0.mk (KeepBut.trans z24_0 (KeepBut.of_below hb g none) (.inl rfl)); have n4_ := Aside0.mk (below_step z24_2 hb); clear HO_3; clear HI0; clear HK; clear HB; have HO_3 := n0_; have HO560 := n1_; have HI0 := n2_; have HK := n3_; have HB := n4_; clear n0_ n1_ n2_ n3_ n4_; clear hb ho55; obtain ⟨Ao57, co57, eo57⟩ := Kd.R_slice HO560.out; subst eo57) | ((with_reducible refine gate_builtin (b := .append) (xs := #[.tmp 58, .tmp 60]) rfl ?_); at_builtin; refine Kd.N_append (Kd.slice 3 (Kd.int .i64)) w.heap.size rfl (.tmp 58) (.tmp 60) 22 28 (.slice none 0 0) 24 rfl Try.underlying22 info28 rfl (by decide) (by omega) (.slice Ao53 x3_2.length co53) x3_2 y558 [.slice Ao57 y558.length co57] (fun k_ => (w.heap.size ≤ k_) ∧ k_ ≠ g) (fun k_ => ((fun k_ => (w.heap.size ≤ k_) ∧ k_ ≠ g)) k_ ∧ some k_ ≠ (.slice Ao53 x3_2.length co53 : Value).ownBlock) rfl rfl ?aP (fun _ hk => hk) ?aF ?aO (Below.refl _ _) ?aS ?aL ?_; (case aP => exact (Kd.FK_slice_mk (Kd.R_reads' (Kd.R_mono (ok' := (fun k_ => ((fun k_ => (w.heap.size ≤ k_) ∧ k_ ≠ g)) k_ ∧ some k_ ≠ (.slice Ao53 x3_2.length co53 : Value).ownBlock)) (IsS92.apart HI0.out (Kd.R_apart' (HO560.out) (Kd.N_typed HO_3.out) (by decide)) (by decide)) (fun k_ hk => ⟨⟨hk.1.1.1, hk.2⟩, hk.1.2⟩))).2.1 (Kd.R_F (Kd.R_mono (ok' := (fun k_ => ((fun k_ => (w.heap.size ≤ k_) ∧ k_ ≠ g)) k_ ∧ some k_ ≠ (.slice Ao53 x3_2.length co53 : Value).ownBlock)) (IsS92.apart HI0.out (Kd.R_apart' (HO560.out) (Kd.N_typed HO_3.out) (by decide)) (by decide)) (fun k_ hk => ⟨⟨hk.1.1.1, hk.2⟩, hk.1.2⟩))))); (case aF => exact (fun k_ hk => ⟨(Nat.le_trans (keep_size (w := w) (g := g) (row := none) z24_0) hk), IsS92.fresh z24_1 k_ hk⟩)); (case aO => exact (by (with_reducible repeat (first | apply Kd.N_alloc | apply Kd.N_drewN | apply Kd.N_drew)); exact Kd.N_mono HO_3.out (fun _ hk => ⟨hk.1.1, hk.1.2⟩))); (case aS => exact (keep_size (w := w) (g := g) (row := none) z24_0)); (case aL => have := LMc52.out; omega); intro v562 w56 ho hb hg hat; rw [← Ny561.out] at ho; have n0_ := Aside0.mk (IsS92.grown z24_1 hg (IsS92.own_neN HI0.out HO_3.out (by decide))); have n1_ := Aside0.mk (below_weaken z24_2 HL.out hb); have n2_ := Aside0.mk (KeepBut.trans z24_0 (KeepBut.of_grown hg g) (Kd.N_base2 HO_3.out)); have n3_ := Aside0.mk (ho); clear HI0; clear HB; clear HK; clear HO_3; clear HO560; have HI0 := n0_; have HB := n1_; have HK := n2_; have HO563 := n3_; clear n0_ n1_ n2_ n3_; clear ho hb hg hat))
         go_roundg k2
         case measure => have := HK1.out; have := HK2.out; omega
         case rel => exact ⟨(y561), H', ⟨by have := HK1.out; have := HK2.out; omega⟩, ⟨by (with_reducible repeat (first | apply Kd.N_alloc | apply Kd.N_drewN | apply Kd.N_drew)); exact HO563.out⟩, ⟨z24_1⟩, ⟨z24_0⟩, ⟨z24_2⟩⟩
        ·rw [if_neg c52] at H
         exact absurd H (by simp)
       ·rw [if_neg c51] at H
        have c51b0 : decide ((x3_2.length : Int) ≤ 8) = false := decide_eq_false c51
        have c51b1 : decide (x3_2.length ≤ 8) = false := decide_eq_false (by omega)
        clear c51
        simp only [Option.some.injEq, Prod.mk.injEq] at H
        obtain ⟨rfl, rfl⟩ := H
        obtain ⟨Ao58, co58, eo58⟩ := Kd.N_slice HO_3.out
        subst eo58
        go_wp2
        go_ret
        exact ⟨_, by first | rfl | (simp [errW_none, errW_some] <;> rfl) | (simp [*, errW_none, errW_some] <;> rfl), z24_18, z24_1, z24_2, z24_0⟩
    ·rw [if_neg c49] at H
     have c49b0 : (t556 == 0) = false := beq_eq_false_iff_ne.mpr c49
     have c49b1 : (t556 != 0) = true := bne_iff_ne.mpr c49
     simp only [Option.some.injEq, Prod.mk.injEq] at H
     obtain ⟨rfl, rfl⟩ := H
     go_wp2_with (first | ((with_reducible refine gate_callee (f := 65) rfl ?_); refine goesL_ (some 53) rfl rfl Try.func65 (by kernel_rfl) rfl #[.pointer (some ⟨g, 0, none⟩), .int .i64 40] rfl z24_4 ?_; (with_reducible refine (spec_l6Rd_pick.calls k1 g s0_0 x1001_1 40 t556 t557 w0 _ ?side1 ?side2 A48.out).mono ?_); (case side1 => repeat (first | (with_reducible first | exact HI0.out | apply IsS92.alloc | apply IsS92.drewN | apply IsS92.drew | apply IsS92.set_1) | exact HI0.out)); (case side2 => repeat (first | (with_reducible first | exact HB.out | apply below_alloc | apply pw_below_drewN | apply below_drew1 | refine below_set ?_ (IsS92.ge HI0.out)) | exact HB.out)); rintro e w59 ⟨rfl, hi, hb, hk⟩; refine ⟨_, rfl, ?_⟩; have n0_ := Aside0.mk (Kd.N_mono (Kd.N_keep (Kd.N_mono (ok := fun k_ => (((w.heap.size ≤ k_)) ∧ k_ ≠ g)) z24_3 (fun k_ hk_ => (⟨hk_, hk_.2⟩ : _ ∧ k_ ≠ g))) hk (fun _ h => h.2)) (fun _ h => h.1)); have n1_ := Aside0.mk (KeepBut.trans z24_0 hk (.inl rfl)); have n2_ := Aside0.mk (hb); have n3_ := Aside0.mk (hi); clear HO_3; clear HK; clear HB; clear HI0; have HO_3 := n0_; have HK := n1_; have HB := n2_; have HI0 := n3_; clear n0_ n1_ n2_ n3_; (try clear hb); (try clear hb2); (try clear hk); (try clear hi)))
     go_ret
     exact ⟨_, by first | rfl | (simp [errW_none, errW_some] <;> rfl) | (simp [*, errW_none, errW_some] <;> rfl), z24_18, z24_1, z24_2, z24_0⟩

end Go.Proofs.Ytbhmgbeebhmfkaa.PA
