-- Written by a program of this session (after the manner of the kit's print, several laws in one text).
import Derived.Test.YtbhmgbeebhmfkaaPAx0
import Derived.Test.YtbhmgbeebhmfkaaPAx8
import Derived.Test.YtbhmgbeebhmfkaaPAx14
import Derived.Test.YtbhmgbeebhmfkaaPAx15
import Derived.Test.YtbhmgbeebhmfkaaGw
import Derived.Test.YtbhmgbeebhmfkaaGm
namespace Go.Proofs.Ytbhmgbeebhmfkaa.PA
open Go.RowKit Go.Proofs.YtbhmgbeebhmfkaaW.PrintWords Go.Proofs.YtbhmgbeebhmfkaaW.PrintLast Go.Proofs.YtbhmgbeebhmfkaaW.PrintMore
attribute [local go_sem] max2_int min2_int max_two min_two max_three min_three max_four min_four   -- for this text's walks alone
set_option linter.unusedVariables false
set_option linter.unusedSimpArgs false

/-! ### spec_l91Rows: function 63 -/
theorem z16_0 {p : Prop} (h : p := by repeat (first | (with_reducible first | exact HK.out | apply KeepBut.set_ | apply keep_drewN | apply keep_drew | apply keep_alloc) | exact HK.out)) : p := h
theorem z16_1 {p : Prop} (h : p := by repeat (first | (with_reducible first | exact HI0.out | apply IsS92.alloc | apply IsS92.drewN | apply IsS92.drew | apply IsS92.set_1) | exact HI0.out)) : p := h
theorem z16_2 {p : Prop} (h : p := by repeat (first | (with_reducible first | exact HB.out | apply below_alloc | apply pw_below_drewN | apply below_drew1 | refine below_set ?_ (IsS92.ge HI0.out)) | exact HB.out)) : p := h
theorem z16_3 {p : Prop} (h : p := by (with_reducible repeat (first | apply Kd.N_alloc | apply Kd.N_drewN | apply Kd.N_drew)); exact HO_3.out) : p := h
theorem z16_4 {p : Prop} (h : p := by (try simp only [List.map_toArray, List.map_cons, List.map_nil]); first | done | rfl | (simp only [List.length_drop, List.length_take]; rfl)) : p := h
theorem z16_5 {p : Prop} (h : p := by first | (rw [add_block]; exact Kd.own_blk (IsS92.own_neN HI0.out HO_3.out (by decide))) | (show (Addr.add _ _).block ≠ _; rw [add_block]; exact Kd.own_blk (IsS92.own_neN HI0.out HO_3.out (by decide))) | exact Kd.own_blk (IsS92.own_neN HI0.out HO_3.out (by decide)) | (have hz_ := Kd.own_blk (IsS92.own_neN HI0.out HO_3.out (by decide)); exact hz_)) : p := h
theorem z16_6 {p : Prop} (h : p := by (with_reducible repeat (first | apply Kd.Q_alloc | apply Kd.Q_drewN | apply Kd.Q_drew)); exact HO_5.out) : p := h
theorem z16_7 {p : Prop} (h : p := by (with_reducible repeat (first | apply Kd.R_alloc | apply Kd.R_drewN | apply Kd.R_drew)); exact HO501.out) : p := h
theorem z16_8 {p : Prop} (h : p := by (with_reducible repeat (first | apply Kd.V_alloc | apply Kd.V_drewN | apply Kd.V_drew)); exact HL496_0.out) : p := h
theorem z16_9 {p : Prop} (h : p := by (with_reducible repeat (first | apply Kd.V_alloc | apply Kd.V_drewN | apply Kd.V_drew)); exact HL502_0.out) : p := h
theorem z16_10 {p : Prop} (h : p := by (with_reducible repeat (first | apply Kd.N_alloc | apply Kd.N_drewN | apply Kd.N_drew)); exact Kd.N_mono HO_3.out (fun _ hk => ⟨hk.1.1, ⟨hk.2, hk.1.2⟩⟩)) : p := h
theorem z16_11 {p : Prop} (h : p := by first | (with_reducible assumption) | assumption) : p := h
theorem z16_12 {p : Prop} (h : p := by (with_reducible repeat (first | apply Kd.Q_alloc | apply Kd.Q_drewN | apply Kd.Q_drew)); exact Kd.Q_mono HO488.out (fun _ hk => hk.1)) : p := h
theorem z16_13 {p : Prop} (h : p := by (with_reducible repeat (first | apply Kd.R_alloc | apply Kd.R_drewN | apply Kd.R_drew)); exact HO507.out) : p := h
theorem z16_14 {p : Prop} (h : p := by first | rfl | (simp; done) | (simp [*]; done)) : p := h
theorem z16_15 {p : Prop} (h : p := by (with_reducible repeat (first | apply Kd.Q_alloc | apply Kd.Q_drewN | apply Kd.Q_drew)); exact HO488.out) : p := h
theorem z16_16 {p : Prop} (h : p := by repeat (first | (with_reducible exact HR492_0.out) | (with_reducible refine Kd.C_alloc ?_ _) | (with_reducible refine Kd.C_drewN ?_ _) | (with_reducible refine Kd.C_drew ?_) | exact HR492_0.out)) : p := h
theorem z16_17 {p : Prop} (h : p := by have := HK1.out; first | omega | exact Nat.le_refl _) : p := h
theorem z16_18 {p : Prop} (h : p := by (with_reducible repeat (first | apply Kd.N_alloc | apply Kd.N_drewN | apply Kd.N_drew)); exact Kd.N_mono HO_3.out (fun _ hk => hk.1)) : p := h
mutual
def spec_l91Rows.l0 : Nat → List (List Int) → Int → List Int → Int → Option ((List (List Int)) × Int)
  | 0, _, _, _, _ => none
  | k + 1, x3, x4, x1000, x1001 => if x4 > 0 then ((spec_l91Vec.f k x1000 x1001).bind fun bt486 => (if (x3.length : Int) > 1 then ((spec_l6Rd_pick.f k x1000 bt486.2 3).bind fun bt490 => (if bt490.1 = 0 then (if 0 < (x3.length : Int) then ((spec_VecOk.f k (rd_L1 x3 0)).bind fun t493 => (if t493 = true then (if 1 < (x3.length : Int) then ((spec_VecOk.f k (rd_L1 x3 1)).bind fun t495 => (spec_l91Rows.j1 k x3 x4 bt486.1 t495 x1000 bt490.2)) else (none)) else (spec_l91Rows.j1 k x3 x4 bt486.1 false x1000 bt490.2))) else (none)) else (spec_l91Rows.j1 k x3 x4 bt486.1 false x1000 bt490.2))) else (spec_l91Rows.j1 k x3 x4 bt486.1 false x1000 bt486.2))) else ((spec_l6Rd_pick.f k x1000 x1001 40).bind fun bt517 => (if bt517.1 = 0 then (spec_l91Rows.l1 k x3 x1000 bt517.2) else (some (x3, bt517.2))))
def spec_l91Rows.j1 : Nat → List (List Int) → Int → List Int → Bool → List Int → Int → Option ((List (List Int)) × Int)
  | 0, _, _, _, _, _, _ => none
  | k + 1, x3, x4, x5, x34, x1000, x1001 => if x34 = true then (if 0 < (x3.length : Int) then ((spec_l6Rd_pick.f k x1000 x1001 31).bind fun bt497 => ((spec_l2Scale.f k (rd_L1 x3 0) bt497.1).bind fun t499 => (if 1 < (x3.length : Int) then ((spec_l6Rd_pick.f k x1000 bt497.2 31).bind fun bt503 => ((spec_l2Scale.f k (rd_L1 x3 1) bt503.1).bind fun t505 => ((spec_l2Sum.f k t499 t505).bind fun t508 => (if x3.length < 5864062014805 then (spec_l91Rows.l0 k (x3 ++ [t508]) (wrap64 (x4 - 1)) x1000 bt503.2) else (none))))) else (none)))) else (none)) else (if x3.length < 5864062014805 then (spec_l91Rows.l0 k (x3 ++ [x5]) (wrap64 (x4 - 1)) x1000 x1001) else (none))
def spec_l91Rows.l1 : Nat → List (List Int) → List Int → Int → Option ((List (List Int)) × Int)
  | 0, _, _, _ => none
  | k + 1, x3, x1000, x1001 => if (x3.length : Int) ≤ 8 then (if x3.length < 5864062014805 then (spec_l91Rows.l1 k (x3 ++ [(([1, 2, 3, 4] : List Int))]) x1000 x1001) else (none)) else (some (x3, x1001))
end
def spec_l91Rows.f (k : Nat) (s0_0 : List Int) (s0_1 : Int) : Option ((List (List Int)) × Int) := (spec_l6Rd_pick.f k s0_0 s0_1 6).bind fun bt484 => (spec_l91Rows.l0 k (([] : List (List Int))) bt484.1 s0_0 bt484.2)
def spec_l91Rows.T7 : Bool × List (List Nat × List Nat) := (true, [([], []), ([0], [0]), ([1], [1]), ([], []), ([3], [3]), ([2, 4, 4], [2, 4]), ([], []), ([6], [6]), ([7], [7]), ([], []), ([9, 5], [9]), ([8, 10, 10], [8, 10]), ([5, 11, 11], [5, 11]), ([12, 12, 0, 1, 2, 3, 4, 5, 6, 7, 8, 9, 10, 11, 12], [12])])
def spec_l91Rows.B7 : List Nat := [0, 1, 3, 0, 8, 31, 0, 64, 192, 0, 575, 2047, 4095, 8191]
theorem spec_l91Rows.tab7 : rtab .any (opsOf Try.f63 7) = spec_l91Rows.T7 := by kernel_rfl
theorem spec_l91Rows.bits7 : waitsOk spec_l91Rows.T7.2 spec_l91Rows.B7 = true := by kernel_rfl
set_option maxHeartbeats 8000000 in
set_option maxRecDepth 100000 in
theorem spec_l91Rows.calls (k : Nat) (g : Nat) (s0_0 : List Int) (s0_1 : Int) (r1 : List (List Int)) (r2 : Int) (w0 w : World) (hI : IsS92 w0 w g s0_0 s0_1) (hB : Below w0.heap.size w0 w) (h : spec_l91Rows.f k s0_0 s0_1 = some (r1, r2)) :
  Calls Try.prog 63 #[.pointer (some ⟨g, 0, none⟩)] w fun e w' => ∃ v0_ : Value, e = .returned (v0_) ∧ Kd.N (Kd.slice 3 (Kd.int .i64)) 28 w' w.heap.size (fun k_ => (w.heap.size ≤ k_)) v0_ r1 ∧ IsS92 w0 w' g s0_0 r2 ∧ Below w0.heap.size w0 w' ∧ KeepBut w w' g none := by
 have HI0 := Aside0.mk hI
 have HK := Aside0.mk (KeepBut.refl w g none)
 have HL := Aside0.mk hB.size
 clear hI
 have HW0 := Aside0.mk hB.size
 have HB := Aside0.mk hB
 clear hB
 have H : ((spec_l6Rd_pick.f k s0_0 s0_1 6).bind fun bt484 => (spec_l91Rows.l0 k (([] : List (List Int))) bt484.1 s0_0 bt484.2)) = some (r1, r2) := h
 clear h
 obtain ⟨y481, hy481⟩ : ∃ y_ : List (List Int), y_ = (([] : List (List Int))) := ⟨_, rfl⟩
 replace H : ((spec_l6Rd_pick.f k s0_0 s0_1 6).bind fun bt484 => (spec_l91Rows.l0 k y481 bt484.1 s0_0 bt484.2)) = some (r1, r2) := by first | (rw [hy481]; with_reducible exact H) | (have H2_ := (Option.bind_some _ _).symm.trans H; rw [hy481]; with_reducible exact H2_) | (have H2_ := (Option.bind_some _ _).symm.trans H; with_reducible exact H2_) | with_reducible exact H | (rw [hy481]; exact H) | exact H
 have Ny481 := Aside0.mk hy481
 clear hy481
 replace H := Option.bind_eq_some_iff.mp H
 obtain ⟨⟨t484, t485⟩, A20, H⟩ := H
 replace H : (spec_l91Rows.l0 k y481 t484 s0_0 t485) = some (r1, r2) := H
 have A2 := Aside0.mk A20
 clear A20
 have H' := Aside0.mk H
 clear H
 go_enter Try.func63, Try.ntmps63
 go_wp2_with (first | ((with_reducible refine gate_dst (N := 6) rfl ?_); refine Kd.N_lit (Kd.slice 3 (Kd.int .i64)) _ 28 ?hg (N' := 6) ?hd (xs := ([] : List (List Int))) (inner := []) (ok := (fun k_ => (w.heap.size ≤ k_) ∧ k_ ≠ g)) (okp := (fun k_ => (w.heap.size ≤ k_) ∧ k_ ≠ g)) ?hr ?hp (fun _ hk => hk) ((show ∀ k_, w.heap.size ≤ k_ → (fun k_ => (w.heap.size ≤ k_) ∧ k_ ≠ g) k_ from fun k_ hk => ⟨(Nat.le_trans (keep_size (w := w) (g := g) (row := none) z16_0) hk), IsS92.fresh z16_1 k_ hk⟩) _ (Nat.le_refl _)) (Below.refl _ _) (Nat.le_refl _) (by simp) ?_; (case hd => rfl); (case hg => rfl); (case hr => first | (go_simp; done) | (go_simp; rfl)); (case hp => exact (Reps.none _ _)); intro v482 w3 ho4 hb hg_ hnew_; clear hg_ hnew_; (first | rw [← Ny481.out] at ho4 | (simp only [Int.reduceToNat] at ho4; rw [← Ny481.out] at ho4)); have HO483 := Aside0.mk (Kd.N_lower ho4 (keep_size (w := w) (g := g) (row := none) z16_0)); replace HK := Aside0.mk (KeepBut.trans z16_0 (KeepBut.of_below hb g none) (.inl rfl)); replace HB := Aside0.mk (below_step z16_2 hb); replace HI0 := Aside0.mk (IsS92.below z16_1 hb); clear hb ho4) | ((with_reducible refine gate_callee (f := 65) rfl ?_); refine goesL_ (some 8) rfl rfl Try.func65 (by kernel_rfl) rfl #[.pointer (some ⟨g, 0, none⟩), .int .i64 6] rfl z16_4 ?_; (with_reducible refine (spec_l6Rd_pick.calls k g s0_0 s0_1 6 t484 t485 w0 _ ?side1 ?side2 A2.out).mono ?_); (case side1 => repeat (first | (with_reducible first | exact HI0.out | apply IsS92.alloc | apply IsS92.drewN | apply IsS92.drew | apply IsS92.set_1) | exact HI0.out)); (case side2 => repeat (first | (with_reducible first | exact HB.out | apply below_alloc | apply pw_below_drewN | apply below_drew1 | refine below_set ?_ (IsS92.ge HI0.out)) | exact HB.out)); rintro e w5 ⟨rfl, hi, hb, hk⟩; refine ⟨_, rfl, ?_⟩; replace HO483 := Aside0.mk (Kd.N_mono (Kd.N_keep (Kd.N_mono (ok := fun k_ => (((w.heap.size ≤ k_)) ∧ k_ ≠ g)) (by (with_reducible repeat (first | apply Kd.N_alloc | apply Kd.N_drewN | apply Kd.N_drew)); exact HO483.out) (fun k_ hk_ => (⟨hk_, hk_.2⟩ : _ ∧ k_ ≠ g))) hk (fun _ h => h.2)) (fun _ h => h.1)); replace HK := Aside0.mk (KeepBut.trans z16_0 hk (.inl rfl)); replace HB := Aside0.mk (hb); replace HI0 := Aside0.mk (hi); (try clear hb)))
 go_loopg [3, 4] k (fun kq v3 v4 w' => ∃ (x3_1 : List (List Int)) (x4_1 : Int) (x1001_1 : Int), v4 = .int .i64 x4_1 ∧ Aside0 (spec_l91Rows.l0 kq x3_1 x4_1 s0_0 x1001_1 = some (r1, r2)) ∧ Aside0 (kq ≤ k) ∧ Aside0 (Kd.N (Kd.slice 3 (Kd.int .i64)) 28 w' w.heap.size (fun k_ => (w.heap.size ≤ k_) ∧ k_ ≠ g) v3 x3_1) ∧ Aside0 (IsS92 w0 w' g s0_0 x1001_1) ∧ Aside0 (KeepBut w w' g none) ∧ Aside0 (Below w0.heap.size w0 w'))
 case atStart => exact ⟨(y481), (t484), (t485), z16_14, H', ⟨Nat.le_refl _⟩, ⟨by (with_reducible repeat (first | apply Kd.N_alloc | apply Kd.N_drewN | apply Kd.N_drew)); exact HO483.out⟩, ⟨z16_1⟩, ⟨z16_0⟩, ⟨z16_2⟩⟩
 case round =>
  clear H'
  obtain ⟨x3_1, x4_1, x1001_1, rfl, HA, HK1, HO_3, HI0, HK, HB⟩ := hrel
  cases gk with
  | zero => exact absurd HA.out (by simp [spec_l91Rows.l0])
  | succ k1 =>
   have H := HA.out
   clear HA
   simp only [spec_l91Rows.l0] at H
   by_cases c6 : x4_1 > 0
   ·rw [if_pos c6] at H
    have c6b0 : decide (0 < x4_1) = true := decide_eq_true c6
    clear c6
    replace H := Option.bind_eq_some_iff.mp H
    obtain ⟨⟨t486, t489⟩, A70, H⟩ := H
    replace H : (if (x3_1.length : Int) > 1 then ((spec_l6Rd_pick.f k1 s0_0 t489 3).bind fun bt490 => (if bt490.1 = 0 then (if 0 < (x3_1.length : Int) then ((spec_VecOk.f k1 (rd_L1 x3_1 0)).bind fun t493 => (if t493 = true then (if 1 < (x3_1.length : Int) then ((spec_VecOk.f k1 (rd_L1 x3_1 1)).bind fun t495 => (spec_l91Rows.j1 k1 x3_1 x4_1 t486 t495 s0_0 bt490.2)) else (none)) else (spec_l91Rows.j1 k1 x3_1 x4_1 t486 false s0_0 bt490.2))) else (none)) else (spec_l91Rows.j1 k1 x3_1 x4_1 t486 false s0_0 bt490.2))) else (spec_l91Rows.j1 k1 x3_1 x4_1 t486 false s0_0 t489)) = some (r1, r2) := H
    have A7 := Aside0.mk A70
    clear A70
    have HC8 := Aside0.mk H
    clear H
    go_upto_region 6 with (first | ((with_reducible refine gate_callee (f := 85) rfl ?_); refine goesL_ (some 14) rfl rfl Try.func85 (by kernel_rfl) rfl #[.pointer (some ⟨g, 0, none⟩)] rfl z16_4 ?_; (with_reducible refine (spec_l91Vec.calls k1 g s0_0 x1001_1 t486 t489 w0 _ ?side1 ?side2 A7.out).mono ?_); (case side1 => repeat (first | (with_reducible first | exact HI0.out | apply IsS92.alloc | apply IsS92.drewN | apply IsS92.drew | apply IsS92.set_1) | exact HI0.out)); (case side2 => repeat (first | (with_reducible first | exact HB.out | apply below_alloc | apply pw_below_drewN | apply below_drew1 | refine below_set ?_ (IsS92.ge HI0.out)) | exact HB.out)); rintro e w9 ⟨v487, rfl, ho0, hi, hb, hk⟩; refine ⟨_, rfl, ?_⟩; replace HO_3 := Aside0.mk (Kd.N_mono (Kd.N_told (Kd.N_oldK (Kd.N_mono (ok := fun k_ => (((w.heap.size ≤ k_)) ∧ k_ ≠ g)) z16_3 (fun k_ hk_ => (⟨hk_, hk_.2⟩ : _ ∧ k_ ≠ g))) hk) (Kd.Q_base ho0)) (fun _ h_ => h_.1)); have HO488 := Aside0.mk (Kd.Q_lower (Kd.Q_newM (M := fun k_ => (w.heap.size ≤ k_)) ho0 (keep_size (w := w) (g := g) (row := none) z16_0) (fun k_ h_ => h_)) (keep_size (w := w) (g := g) (row := none) z16_0)); replace HK := Aside0.mk (KeepBut.trans z16_0 hk (.inl rfl)); replace HB := Aside0.mk (hb); replace HI0 := Aside0.mk (hi); (try clear hb); (try clear ho0)))
    (try simp only [Act.put, List.setIfInBounds_toArray, List.set_cons_zero, List.set_cons_succ])
    go_cut [34] (fun v34 wc => ∃ (kq : Nat) (x34_7 : Bool) (x1001_7 : Int), v34 = .bool x34_7 ∧ Aside0 (spec_l91Rows.j1 kq x3_1 x4_1 t486 x34_7 s0_0 x1001_7 = some (r1, r2)) ∧ Aside0 (kq ≤ k1) ∧ Aside0 (Kd.N (Kd.slice 3 (Kd.int .i64)) 28 wc w.heap.size (fun k_ => (w.heap.size ≤ k_) ∧ some k_ ≠ (v487 : Value).ownBlock ∧ k_ ≠ g) u3 x3_1) ∧ Aside0 (Kd.Q (Kd.int .i64) 3 wc w.heap.size (fun k_ => (w.heap.size ≤ k_)) v487 t486) ∧ Aside0 (IsS92 w0 wc g s0_0 x1001_7) ∧ Aside0 (KeepBut w wc g none) ∧ Aside0 (Below w0.heap.size w0 wc))
    case first =>
     have H := HC8.out
     clear HC8
     by_cases c10 : (x3_1.length : Int) > 1
     ·rw [if_pos c10] at H
      have c10b0 : decide (1 < (x3_1.length : Int)) = true := decide_eq_true c10
      have c10b1 : decide (1 < x3_1.length) = true := decide_eq_true (by omega)
      clear c10
      (first | rw [c10b0] | (simp only [i64_w, i32_w]; rw [c10b0]) | skip)
      replace H := Option.bind_eq_some_iff.mp H
      obtain ⟨⟨t490, t491⟩, A110, H⟩ := H
      replace H : (if t490 = 0 then (if 0 < (x3_1.length : Int) then ((spec_VecOk.f k1 (rd_L1 x3_1 0)).bind fun t493 => (if t493 = true then (if 1 < (x3_1.length : Int) then ((spec_VecOk.f k1 (rd_L1 x3_1 1)).bind fun t495 => (spec_l91Rows.j1 k1 x3_1 x4_1 t486 t495 s0_0 t491)) else (none)) else (spec_l91Rows.j1 k1 x3_1 x4_1 t486 false s0_0 t491))) else (none)) else (spec_l91Rows.j1 k1 x3_1 x4_1 t486 false s0_0 t491)) = some (r1, r2) := H
      have A11 := Aside0.mk A110
      clear A110
      by_cases c12 : t490 = 0
      ·rw [if_pos c12] at H
       have c12b0 : (t490 == 0) = true := beq_iff_eq.mpr c12
       have c12b1 : (t490 != 0) = false := bne_eq_false_iff_eq.mpr c12
       clear c12
       obtain ⟨c13, H⟩ := ifP H
       have c13b0 : decide (0 < (x3_1.length : Int)) = true := decide_eq_true c13
       have c13b1 : decide (0 < x3_1.length) = true := decide_eq_true (by omega)
       clear c13
       replace H := Option.bind_eq_some_iff.mp H
       obtain ⟨t493, A140, H⟩ := H
       replace H : (if t493 = true then (if 1 < (x3_1.length : Int) then ((spec_VecOk.f k1 (rd_L1 x3_1 1)).bind fun t495 => (spec_l91Rows.j1 k1 x3_1 x4_1 t486 t495 s0_0 t491)) else (none)) else (spec_l91Rows.j1 k1 x3_1 x4_1 t486 false s0_0 t491)) = some (r1, r2) := H
       have A14 := Aside0.mk A140
       clear A140
       by_cases c15 : t493 = true
       ·subst c15
        have H1 : (if 1 < (x3_1.length : Int) then ((spec_VecOk.f k1 (rd_L1 x3_1 1)).bind fun t495 => (spec_l91Rows.j1 k1 x3_1 x4_1 t486 t495 s0_0 t491)) else (none)) = some (r1, r2) := by rw [if_pos rfl] at H; exact H
        clear H
        have H := H1
        clear H1
        obtain ⟨c16, H⟩ := ifP H
        have c16b0 : decide (1 < (x3_1.length : Int)) = true := decide_eq_true c16
        have c16b1 : decide (1 < x3_1.length) = true := decide_eq_true (by omega)
        clear c16
        replace H := Option.bind_eq_some_iff.mp H
        obtain ⟨t495, A170, H⟩ := H
        replace H : (spec_l91Rows.j1 k1 x3_1 x4_1 t486 t495 s0_0 t491) = some (r1, r2) := H
        have A17 := Aside0.mk A170
        clear A170
        have H' := Aside0.mk H
        clear H
        obtain ⟨Ao18, co18, eo18⟩ := Kd.N_slice HO_3.out
        subst eo18
        go_wp2_with (first | (go_at_call 65; (with_reducible refine (spec_l6Rd_pick.calls k1 g s0_0 t489 3 t490 t491 w0 _ ?side1 ?side2 A11.out).mono ?_); (case side1 => repeat (first | (with_reducible first | exact HI0.out | apply IsS92.alloc | apply IsS92.drewN | apply IsS92.drew | apply IsS92.set_1) | exact HI0.out)); (case side2 => repeat (first | (with_reducible first | exact HB.out | apply below_alloc | apply pw_below_drewN | apply below_drew1 | refine below_set ?_ (IsS92.ge HI0.out)) | exact HB.out)); rintro e w19 ⟨rfl, hi, hb, hk⟩; replace HO_3 := Aside0.mk (Kd.N_mono (Kd.N_keep (Kd.N_mono (ok := fun k_ => ((((w.heap.size ≤ k_)) ∧ k_ ≠ g) ∧ some k_ ≠ (v487 : Value).ownBlock)) z16_3 (fun k_ hk_ => (⟨hk_, hk_.1.2⟩ : _ ∧ k_ ≠ g))) hk (fun _ h => h.2)) (fun _ h => h.1)); replace HO488 := Aside0.mk (Kd.Q_mono (Kd.Q_keep (IsS92.apartQ (show IsS92 w0 _ g s0_0 t489 from by repeat (first | (with_reducible first | exact HI0.out | apply IsS92.alloc | apply IsS92.drewN | apply IsS92.drew | apply IsS92.set_1) | exact HI0.out)) z16_15 (by decide)) hk (fun _ h => h.2)) (fun _ h => h.1)); replace HK := Aside0.mk (KeepBut.trans z16_0 hk (.inl rfl)); replace HB := Aside0.mk (hb); replace HI0 := Aside0.mk (hi); (try clear hb); have p492 : 0 ≤ (0 : Int) := (by omega); have q492 : 0 < (x3_1.length : Int) := of_decide_eq_true z16_11; obtain ⟨ad492, A492_0, c492_0, e492, hx492_0, hl492_0, hi492_0⟩ := at_L1 (Kd.N_reads' HO_3.out).2.2 0 p492 q492; cases e492; obtain ⟨ce492, hce492, hMe492, hcc492⟩ := Kd.N_get HO_3.out [] 0 p492 (by first | exact q492 | exact of_decide_eq_true z16_11 | (have e_ := (Kd.N_reads' HO_3.out).1; omega)); obtain ⟨ua492_0, uc492_0, rfl, ul492_0, ge492_0⟩ := Kd.FK_slice_open hMe492; have hv492_0 := hcc492 0 _ rfl; rw [Nat.add_zero, show ((Kd.slice 3 (Kd.int .i64))).sz = 1 from rfl, Nat.mul_one] at hv492_0; replace hv492_0 := Option.some.inj (hv492_0.symm.trans hx492_0); injection hv492_0 with hva_ hvn_ hvc_; rw [hva_] at ge492_0; rw [hvc_] at ul492_0; have HL492_0 := Aside0.mk (show Kd.V (Kd.int .i64) 3 _ w.heap.size _ _ (rd_L1 x3_1 0) from Kd.V_mk ul492_0 ge492_0); clear hva_ hvn_ hvc_ ge492_0 ul492_0; clear hcc492 hce492; have qi492 : (0 < x3_1.length) = True := eq_true (by omega); (try rw [show ((0 : Int)).toNat = 0 from rfl] at hx492_0); (try rw [Addr.add_zero'] at hx492_0); have HR492_0 := Aside0.mk hi492_0; have HC492_0 := Aside0.mk hl492_0; clear hi492_0 hl492_0; replace p492 := eq_true p492; replace q492 := eq_true q492) | (go_at_call 43; (with_reducible refine (spec_VecOk.calls k1 _ _ (rd_L1 x3_1 0) true _ ?side1 ?side2 A14.out).mono ?_); (case side1 => repeat (first | exact z16_16 | (with_reducible refine Kd.C_alloc ?_ _) | (with_reducible refine Kd.C_drewN ?_ _) | (with_reducible refine Kd.C_drew ?_))); (case side2 => exact HC492_0.out); rintro e w' ⟨rfl, ⟨nd, rfl⟩⟩; have p494 : 0 ≤ (1 : Int) := (by omega); have q494 : 1 < (x3_1.length : Int) := of_decide_eq_true z16_11; obtain ⟨ad494, A494_0, c494_0, e494, hx494_0, hl494_0, hi494_0⟩ := at_L1 (Kd.N_reads' HO_3.out).2.2 1 p494 q494; obtain rfl : ad492 = ad494 := (by injection e494); obtain ⟨ce494, hce494, hMe494, hcc494⟩ := Kd.N_get HO_3.out [] 1 p494 (by first | exact q494 | exact of_decide_eq_true z16_11 | (have e_ := (Kd.N_reads' HO_3.out).1; omega)); obtain ⟨ua494_0, uc494_0, rfl, ul494_0, ge494_0⟩ := Kd.FK_slice_open hMe494; have hv494_0 := hcc494 0 _ rfl; rw [Nat.add_zero, show ((Kd.slice 3 (Kd.int .i64))).sz = 1 from rfl, Nat.mul_one] at hv494_0; replace hv494_0 := Option.some.inj (hv494_0.symm.trans hx494_0); injection hv494_0 with hva_ hvn_ hvc_; rw [hva_] at ge494_0; rw [hvc_] at ul494_0; have HL494_0 := Aside0.mk (show Kd.V (Kd.int .i64) 3 _ w.heap.size _ _ (rd_L1 x3_1 1) from Kd.V_mk ul494_0 ge494_0); clear hva_ hvn_ hvc_ ge494_0 ul494_0; clear hcc494 hce494; (try simp only [show (1 : Int).toNat = 1 from rfl, Nat.reduceMul, Nat.reduceEqDiff, Go.Addr.add, ↓reduceIte] at hx494_0); have qi494 : (1 < x3_1.length) = True := eq_true (by omega); (try rw [show ((1 : Int)).toNat = 1 from rfl] at hx494_0); have HR494_0 := Aside0.mk hi494_0; have HC494_0 := Aside0.mk hl494_0; clear hi494_0 hl494_0; replace p494 := eq_true p494; replace q494 := eq_true q494) | (go_at_call 43; (with_reducible refine (spec_VecOk.calls k1 _ _ (rd_L1 x3_1 1) t495 _ ?side1 ?side2 A17.out).mono ?_); (case side1 => repeat (first | exact (by repeat (first | (with_reducible exact HR494_0.out) | (with_reducible refine Kd.C_alloc ?_ _) | (with_reducible refine Kd.C_drewN ?_ _) | (with_reducible refine Kd.C_drew ?_) | exact HR494_0.out)) | (with_reducible refine Kd.C_alloc ?_ _) | (with_reducible refine Kd.C_drewN ?_ _) | (with_reducible refine Kd.C_drew ?_))); (case side2 => exact HC494_0.out); rintro e w' ⟨rfl, ⟨nd, rfl⟩⟩))
        go_meet
        case rel => exact ⟨_, (t495), (t491), z16_14, H', ⟨z16_17⟩, ⟨z16_10⟩, ⟨z16_12⟩, ⟨z16_1⟩, ⟨z16_0⟩, ⟨z16_2⟩⟩
       ·replace c15 := Bool.eq_false_iff.mpr c15
        subst c15
        have H1 : (spec_l91Rows.j1 k1 x3_1 x4_1 t486 false s0_0 t491) = some (r1, r2) := by rw [if_neg (show ¬ (false = true) by decide)] at H; exact H
        clear H
        have H := H1
        clear H1
        have H' := Aside0.mk H
        clear H
        obtain ⟨Ao20, co20, eo20⟩ := Kd.N_slice HO_3.out
        subst eo20
        go_wp2_with (first | (go_at_call 65; (with_reducible refine (spec_l6Rd_pick.calls k1 g s0_0 t489 3 t490 t491 w0 _ ?side1 ?side2 A11.out).mono ?_); (case side1 => repeat (first | (with_reducible first | exact HI0.out | apply IsS92.alloc | apply IsS92.drewN | apply IsS92.drew | apply IsS92.set_1) | exact HI0.out)); (case side2 => repeat (first | (with_reducible first | exact HB.out | apply below_alloc | apply pw_below_drewN | apply below_drew1 | refine below_set ?_ (IsS92.ge HI0.out)) | exact HB.out)); rintro e w21 ⟨rfl, hi, hb, hk⟩; replace HO_3 := Aside0.mk (Kd.N_mono (Kd.N_keep (Kd.N_mono (ok := fun k_ => ((((w.heap.size ≤ k_)) ∧ k_ ≠ g) ∧ some k_ ≠ (v487 : Value).ownBlock)) z16_3 (fun k_ hk_ => (⟨hk_, hk_.1.2⟩ : _ ∧ k_ ≠ g))) hk (fun _ h => h.2)) (fun _ h => h.1)); replace HO488 := Aside0.mk (Kd.Q_mono (Kd.Q_keep (IsS92.apartQ (show IsS92 w0 _ g s0_0 t489 from by repeat (first | (with_reducible first | exact HI0.out | apply IsS92.alloc | apply IsS92.drewN | apply IsS92.drew | apply IsS92.set_1) | exact HI0.out)) z16_15 (by decide)) hk (fun _ h => h.2)) (fun _ h => h.1)); replace HK := Aside0.mk (KeepBut.trans z16_0 hk (.inl rfl)); replace HB := Aside0.mk (hb); replace HI0 := Aside0.mk (hi); (try clear hb); have p492 : 0 ≤ (0 : Int) := (by omega); have q492 : 0 < (x3_1.length : Int) := of_decide_eq_true z16_11; obtain ⟨ad492, A492_0, c492_0, e492, hx492_0, hl492_0, hi492_0⟩ := at_L1 (Kd.N_reads' HO_3.out).2.2 0 p492 q492; cases e492; obtain ⟨ce492, hce492, hMe492, hcc492⟩ := Kd.N_get HO_3.out [] 0 p492 (by first | exact q492 | exact of_decide_eq_true z16_11 | (have e_ := (Kd.N_reads' HO_3.out).1; omega)); obtain ⟨ua492_0, uc492_0, rfl, ul492_0, ge492_0⟩ := Kd.FK_slice_open hMe492; have hv492_0 := hcc492 0 _ rfl; rw [Nat.add_zero, show ((Kd.slice 3 (Kd.int .i64))).sz = 1 from rfl, Nat.mul_one] at hv492_0; replace hv492_0 := Option.some.inj (hv492_0.symm.trans hx492_0); injection hv492_0 with hva_ hvn_ hvc_; rw [hva_] at ge492_0; rw [hvc_] at ul492_0; have HL492_0 := Aside0.mk (show Kd.V (Kd.int .i64) 3 _ w.heap.size _ _ (rd_L1 x3_1 0) from Kd.V_mk ul492_0 ge492_0); clear hva_ hvn_ hvc_ ge492_0 ul492_0; clear hcc492 hce492; have qi492 : (0 < x3_1.length) = True := eq_true (by omega); (try rw [show ((0 : Int)).toNat = 0 from rfl] at hx492_0); (try rw [Addr.add_zero'] at hx492_0); have HR492_0 := Aside0.mk hi492_0; have HC492_0 := Aside0.mk hl492_0; clear hi492_0 hl492_0; replace p492 := eq_true p492; replace q492 := eq_true q492) | (go_at_call 43; (with_reducible refine (spec_VecOk.calls k1 _ _ (rd_L1 x3_1 0) false _ ?side1 ?side2 A14.out).mono ?_); (case side1 => repeat (first | exact z16_16 | (with_reducible refine Kd.C_alloc ?_ _) | (with_reducible refine Kd.C_drewN ?_ _) | (with_reducible refine Kd.C_drew ?_))); (case side2 => exact HC492_0.out); rintro e w' ⟨rfl, ⟨nd, rfl⟩⟩))
        go_meet
        case rel => exact ⟨_, (false), (t491), z16_14, H', ⟨z16_17⟩, ⟨z16_10⟩, ⟨z16_12⟩, ⟨z16_1⟩, ⟨z16_0⟩, ⟨z16_2⟩⟩
      ·rw [if_neg c12] at H
       have c12b0 : (t490 == 0) = false := beq_eq_false_iff_ne.mpr c12
       have c12b1 : (t490 != 0) = true := bne_iff_ne.mpr c12
       have H' := Aside0.mk H
       clear H
       obtain ⟨Ao22, co22, eo22⟩ := Kd.N_slice HO_3.out
       subst eo22
       go_wp2_with (first | (go_at_call 65; (with_reducible refine (spec_l6Rd_pick.calls k1 g s0_0 t489 3 t490 t491 w0 _ ?side1 ?side2 A11.out).mono ?_); (case side1 => repeat (first | (with_reducible first | exact HI0.out | apply IsS92.alloc | apply IsS92.drewN | apply IsS92.drew | apply IsS92.set_1) | exact HI0.out)); (case side2 => repeat (first | (with_reducible first | exact HB.out | apply below_alloc | apply pw_below_drewN | apply below_drew1 | refine below_set ?_ (IsS92.ge HI0.out)) | exact HB.out)); rintro e w23 ⟨rfl, hi, hb, hk⟩; replace HO_3 := Aside0.mk (Kd.N_mono (Kd.N_keep (Kd.N_mono (ok := fun k_ => ((((w.heap.size ≤ k_)) ∧ k_ ≠ g) ∧ some k_ ≠ (v487 : Value).ownBlock)) z16_3 (fun k_ hk_ => (⟨hk_, hk_.1.2⟩ : _ ∧ k_ ≠ g))) hk (fun _ h => h.2)) (fun _ h => h.1)); replace HO488 := Aside0.mk (Kd.Q_mono (Kd.Q_keep (IsS92.apartQ (show IsS92 w0 _ g s0_0 t489 from by repeat (first | (with_reducible first | exact HI0.out | apply IsS92.alloc | apply IsS92.drewN | apply IsS92.drew | apply IsS92.set_1) | exact HI0.out)) z16_15 (by decide)) hk (fun _ h => h.2)) (fun _ h => h.1)); replace HK := Aside0.mk (KeepBut.trans z16_0 hk (.inl rfl)); replace HB := Aside0.mk (hb); replace HI0 := Aside0.mk (hi); (try clear hb)))
       go_meet
       case rel => exact ⟨_, (false), (t491), z16_14, H', ⟨z16_17⟩, ⟨z16_10⟩, ⟨z16_12⟩, ⟨z16_1⟩, ⟨z16_0⟩, ⟨z16_2⟩⟩
     ·rw [if_neg c10] at H
      have c10b0 : decide (1 < (x3_1.length : Int)) = false := decide_eq_false c10
      have c10b1 : decide (1 < x3_1.length) = false := decide_eq_false (by omega)
      clear c10
      (first | rw [c10b0] | (simp only [i64_w, i32_w]; rw [c10b0]) | skip)
      have H' := Aside0.mk H
      clear H
      obtain ⟨Ao24, co24, eo24⟩ := Kd.N_slice HO_3.out
      subst eo24
      go_wp2
      go_meet
      case rel => exact ⟨_, (false), (t489), z16_14, H', ⟨z16_17⟩, ⟨z16_10⟩, ⟨z16_12⟩, ⟨z16_1⟩, ⟨z16_0⟩, ⟨z16_2⟩⟩
    case rest =>
     clear HC8
     try clear c6
     try clear c6b0
     obtain ⟨kq, x34_7, x1001_7, rfl, HA, HJ7, HO_3, HO_5, HI0, HK, HB⟩ := hcut
     cases kq with
     | zero => exact absurd HA.out (by simp [spec_l91Rows.j1])
     | succ kj7 =>
      have H := HA.out
      clear HA
      simp only [spec_l91Rows.j1] at H
      by_cases c25 : x34_7 = true
      ·subst c25
       have H1 : (if 0 < (x3_1.length : Int) then ((spec_l6Rd_pick.f kj7 s0_0 x1001_7 31).bind fun bt497 => ((spec_l2Scale.f kj7 (rd_L1 x3_1 0) bt497.1).bind fun t499 => (if 1 < (x3_1.length : Int) then ((spec_l6Rd_pick.f kj7 s0_0 bt497.2 31).bind fun bt503 => ((spec_l2Scale.f kj7 (rd_L1 x3_1 1) bt503.1).bind fun t505 => ((spec_l2Sum.f kj7 t499 t505).bind fun t508 => (if x3_1.length < 5864062014805 then (spec_l91Rows.l0 kj7 (x3_1 ++ [t508]) (wrap64 (x4_1 - 1)) s0_0 bt503.2) else (none))))) else (none)))) else (none)) = some (r1, r2) := by rw [if_pos rfl] at H; exact H
       clear H
       have H := H1
       clear H1
       obtain ⟨c26, H⟩ := ifP H
       have c26b0 : decide (0 < (x3_1.length : Int)) = true := decide_eq_true c26
       have c26b1 : decide (0 < x3_1.length) = true := decide_eq_true (by omega)
       clear c26
       replace H := Option.bind_eq_some_iff.mp H
       obtain ⟨⟨t497, t498⟩, A270, H⟩ := H
       replace H : ((spec_l2Scale.f kj7 (rd_L1 x3_1 0) t497).bind fun t499 => (if 1 < (x3_1.length : Int) then ((spec_l6Rd_pick.f kj7 s0_0 t498 31).bind fun bt503 => ((spec_l2Scale.f kj7 (rd_L1 x3_1 1) bt503.1).bind fun t505 => ((spec_l2Sum.f kj7 t499 t505).bind fun t508 => (if x3_1.length < 5864062014805 then (spec_l91Rows.l0 kj7 (x3_1 ++ [t508]) (wrap64 (x4_1 - 1)) s0_0 bt503.2) else (none))))) else (none))) = some (r1, r2) := H
       have A27 := Aside0.mk A270
       clear A270
       replace H := Option.bind_eq_some_iff.mp H
       obtain ⟨t499, A280, H⟩ := H
       replace H : (if 1 < (x3_1.length : Int) then ((spec_l6Rd_pick.f kj7 s0_0 t498 31).bind fun bt503 => ((spec_l2Scale.f kj7 (rd_L1 x3_1 1) bt503.1).bind fun t505 => ((spec_l2Sum.f kj7 t499 t505).bind fun t508 => (if x3_1.length < 5864062014805 then (spec_l91Rows.l0 kj7 (x3_1 ++ [t508]) (wrap64 (x4_1 - 1)) s0_0 bt503.2) else (none))))) else (none)) = some (r1, r2) := H
       have A28 := Aside0.mk A280
       clear A280
       obtain ⟨c29, H⟩ := ifP H
       have c29b0 : decide (1 < (x3_1.length : Int)) = true := decide_eq_true c29
       have c29b1 : decide (1 < x3_1.length) = true := decide_eq_true (by omega)
       clear c29
       replace H := Option.bind_eq_some_iff.mp H
       obtain ⟨⟨t503, t504⟩, A300, H⟩ := H
       replace H : ((spec_l2Scale.f kj7 (rd_L1 x3_1 1) t503).bind fun t505 => ((spec_l2Sum.f kj7 t499 t505).bind fun t508 => (if x3_1.length < 5864062014805 then (spec_l91Rows.l0 kj7 (x3_1 ++ [t508]) (wrap64 (x4_1 - 1)) s0_0 t504) else (none)))) = some (r1, r2) := H
       have A30 := Aside0.mk A300
       clear A300
       replace H := Option.bind_eq_some_iff.mp H
       obtain ⟨t505, A310, H⟩ := H
       replace H : ((spec_l2Sum.f kj7 t499 t505).bind fun t508 => (if x3_1.length < 5864062014805 then (spec_l91Rows.l0 kj7 (x3_1 ++ [t508]) (wrap64 (x4_1 - 1)) s0_0 t504) else (none))) = some (r1, r2) := H
       have A31 := Aside0.mk A310
       clear A310
       replace H := Option.bind_eq_some_iff.mp H
       obtain ⟨t508, A320, H⟩ := H
       replace H : (if x3_1.length < 5864062014805 then (spec_l91Rows.l0 kj7 (x3_1 ++ [t508]) (wrap64 (x4_1 - 1)) s0_0 t504) else (none)) = some (r1, r2) := H
       have A32 := Aside0.mk A320
       clear A320
       obtain ⟨c33, H⟩ := ifP H
       have LMc33 := Aside0.mk c33
       clear c33
       obtain ⟨y511, hy511⟩ : ∃ y_ : List (List Int), y_ = (x3_1 ++ [t508]) := ⟨_, rfl⟩
       replace H : (spec_l91Rows.l0 kj7 y511 (wrap64 (x4_1 - 1)) s0_0 t504) = some (r1, r2) := by first | (rw [hy511]; with_reducible exact H) | (have H2_ := (Option.bind_some _ _).symm.trans H; rw [hy511]; with_reducible exact H2_) | (have H2_ := (Option.bind_some _ _).symm.trans H; with_reducible exact H2_) | with_reducible exact H | (rw [hy511]; exact H) | exact H
       have Ny511 := Aside0.mk hy511
       clear hy511
       have H' := Aside0.mk H
       clear H
       try go_wp2
       replace HO_3 := Aside0.mk (Kd.N_drew HO_3.out)
       replace HO_5 := Aside0.mk (Kd.Q_drew HO_5.out)
       replace HI0 := Aside0.mk (IsS92.drew HI0.out)
       replace HK := Aside0.mk (keep_drew HK.out)
       replace HB := Aside0.mk (below_drew1 HB.out)
       obtain ⟨Ao35, co35, eo35⟩ := Kd.N_slice HO_3.out
       (first | subst eo35 | (injection eo35 with f1_ f2_ f3_; have f4_ := f1_.symm; have f5_ := f3_.symm; clear f1_ f2_ f3_; subst f4_; subst f5_))
       have p496 : 0 ≤ (0 : Int) := (by omega)
       have q496 : 0 < (x3_1.length : Int) := of_decide_eq_true z16_11
       obtain ⟨ad496, A496_0, c496_0, e496, hx496_0, hl496_0, hi496_0⟩ := at_L1 (Kd.N_reads' HO_3.out).2.2 0 p496 q496
       cases e496
       obtain ⟨ce496, hce496, hMe496, hcc496⟩ := Kd.N_get HO_3.out [] 0 p496 (by first | exact q496 | exact of_decide_eq_true z16_11 | (have e_ := (Kd.N_reads' HO_3.out).1; omega))
       obtain ⟨ua496_0, uc496_0, rfl, ul496_0, ge496_0⟩ := Kd.FK_slice_open hMe496
       have hv496_0 := hcc496 0 _ rfl
       rw [Nat.add_zero, show ((Kd.slice 3 (Kd.int .i64))).sz = 1 from rfl, Nat.mul_one] at hv496_0
       replace hv496_0 := Option.some.inj (hv496_0.symm.trans hx496_0)
       injection hv496_0 with hva_ hvn_ hvc_
       rw [hva_] at ge496_0
       rw [hvc_] at ul496_0
       have HL496_0 := Aside0.mk (show Kd.V (Kd.int .i64) 3 _ w.heap.size _ _ (rd_L1 x3_1 0) from Kd.V_mk ul496_0 ge496_0)
       clear hva_ hvn_ hvc_ ge496_0 ul496_0
       clear hcc496 hce496
       have qi496 : (0 < x3_1.length) = True := eq_true (by omega)
       (try rw [show ((0 : Int)).toNat = 0 from rfl] at hx496_0)
       (try rw [Addr.add_zero'] at hx496_0)
       have HR496_0 := Aside0.mk hi496_0
       have HC496_0 := Aside0.mk hl496_0
       clear hi496_0 hl496_0
       replace p496 := eq_true p496
       replace q496 := eq_true q496
       have p502 : 0 ≤ (1 : Int) := (by omega)
       have q502 : 1 < (x3_1.length : Int) := of_decide_eq_true z16_11
       obtain ⟨ad502, A502_0, c502_0, e502, hx502_0, hl502_0, hi502_0⟩ := at_L1 (Kd.N_reads' HO_3.out).2.2 1 p502 q502
       obtain rfl : ad496 = ad502 := (by injection e502)
       obtain ⟨ce502, hce502, hMe502, hcc502⟩ := Kd.N_get HO_3.out [] 1 p502 (by first | exact q502 | exact of_decide_eq_true z16_11 | (have e_ := (Kd.N_reads' HO_3.out).1; omega))
       obtain ⟨ua502_0, uc502_0, rfl, ul502_0, ge502_0⟩ := Kd.FK_slice_open hMe502
       have hv502_0 := hcc502 0 _ rfl
       rw [Nat.add_zero, show ((Kd.slice 3 (Kd.int .i64))).sz = 1 from rfl, Nat.mul_one] at hv502_0
       replace hv502_0 := Option.some.inj (hv502_0.symm.trans hx502_0)
       injection hv502_0 with hva_ hvn_ hvc_
       rw [hva_] at ge502_0
       rw [hvc_] at ul502_0
       have HL502_0 := Aside0.mk (show Kd.V (Kd.int .i64) 3 _ w.heap.size _ _ (rd_L1 x3_1 1) from Kd.V_mk ul502_0 ge502_0)
       clear hva_ hvn_ hvc_ ge502_0 ul502_0
       clear hcc502 hce502
       (try simp only [show (1 : Int).toNat = 1 from rfl, Nat.reduceMul, Nat.reduceEqDiff, Go.Addr.add, ↓reduceIte] at hx502_0)
       have qi502 : (1 < x3_1.length) = True := eq_true (by omega)
       (try rw [show ((1 : Int)).toNat = 1 from rfl] at hx502_0)
       have HR502_0 := Aside0.mk hi502_0
       have HC502_0 := Aside0.mk hl502_0
       clear hi502_0 hl502_0
       replace p502 := eq_true p502
       replace q502 := eq_true q502
       refine start_ (n := 14) (S := fun w' => w'.cell? ad496 = some (.slice A496_0 (rd_L1 x3_1 0).length c496_0) ∧ w'.cell? ⟨ad496.block, ad496.off + 1, none⟩ = some (.slice A502_0 (rd_L1 x3_1 1).length c502_0)) (ds := []) #[false, false, false, false, false, false, false, false, false, false, false, false, false, false] (by kernel_rfl) rfl rfl ⟨hx496_0, hx502_0⟩ (fun hHeld => ?_); refine with_tabW spec_l91Rows.tab7 spec_l91Rows.bits7 (fun HT_ HW_ => ?_)
       generalize wc.drew = w34 at HO_3 HO_5 HI0 HK HB HL496_0 HL502_0 HR496_0 HR502_0 hx496_0 hx502_0 hHeld ⊢
       refine pZ 0 HT_ ?_
       refine pZ 1 HT_ ?_
       refine pZ 3 HT_ ?_
       refine pZ 6 HT_ ?_
       refine pZ 7 HT_ ?_
       refine pZ 9 HT_ ?_
       refine tZ 2 hHeld HT_ HW_ ?_
       refine tZ 8 hHeld HT_ HW_ ?_
       refine oZ 4 HT_ (fun K hK => ?_)
       refine goes_ Try.func65 (by kernel_rfl) rfl #[.pointer (some ⟨g, 0, none⟩), .int .i64 31] (by rfl) rfl rfl z16_4 ?_
       with_reducible refine (spec_l6Rd_pick.calls kj7 g s0_0 x1001_7 31 t497 t498 w0 _ ?side1 ?side2 A27.out).mono ?_
       (case side1 => repeat (first | (with_reducible first | exact HI0.out | apply IsS92.alloc | apply IsS92.drewN | apply IsS92.drew | apply IsS92.set_1) | exact HI0.out))
       (case side2 => repeat (first | (with_reducible first | exact HB.out | apply below_alloc | apply pw_below_drewN | apply below_drew1 | refine below_set ?_ (IsS92.ge HI0.out)) | exact HB.out))
       rintro e w36 ⟨rfl, hi, hb, hk⟩
       have HS0_ := keep_cell hk (hHeld.1) z16_5
       have HS1_ := keep_cell hk (hHeld.2) z16_5
       refine ⟨_, rfl, ?_⟩
       replace HO_3 := Aside0.mk (Kd.N_mono (Kd.N_keep (Kd.N_mono (ok := fun k_ => (((w.heap.size ≤ k_)) ∧ (some k_ ≠ (v487 : Value).ownBlock ∧ k_ ≠ g))) z16_3 (fun k_ hk_ => (⟨hk_, hk_.2.2⟩ : _ ∧ k_ ≠ g))) hk (fun _ h => h.2)) (fun _ h => h.1))
       replace HO_5 := Aside0.mk (Kd.Q_mono (Kd.Q_keep (IsS92.apartQ (show IsS92 w0 _ g s0_0 x1001_7 from by repeat (first | (with_reducible first | exact HI0.out | apply IsS92.alloc | apply IsS92.drewN | apply IsS92.drew | apply IsS92.set_1) | exact HI0.out)) z16_6 (by decide)) hk (fun _ h => h.2)) (fun _ h => h.1))
       replace HL496_0 := Aside0.mk (Kd.V_mono (Kd.V_keep (Kd.V_mono (ok := fun k_ => ((((w.heap.size ≤ k_)) ∧ (some k_ ≠ (v487 : Value).ownBlock ∧ k_ ≠ g)) ∧ some k_ ≠ (.slice (some ad496) x3_1.length co35 : Value).ownBlock)) z16_8 (fun k_ hk_ => (⟨hk_, hk_.1.2.2⟩ : _ ∧ k_ ≠ g))) hk (fun _ h => h.2)) (fun _ h => h.1))
       replace HL502_0 := Aside0.mk (Kd.V_mono (Kd.V_keep (Kd.V_mono (ok := fun k_ => ((((w.heap.size ≤ k_)) ∧ (some k_ ≠ (v487 : Value).ownBlock ∧ k_ ≠ g)) ∧ some k_ ≠ (.slice (some ad496) x3_1.length co35 : Value).ownBlock)) z16_9 (fun k_ hk_ => (⟨hk_, hk_.1.2.2⟩ : _ ∧ k_ ≠ g))) hk (fun _ h => h.2)) (fun _ h => h.1))
       replace HK := Aside0.mk (KeepBut.trans z16_0 hk (.inl rfl))
       replace HB := Aside0.mk (hb)
       replace HI0 := Aside0.mk (hi)
       (try clear hb)
       (try clear hb2)
       (try clear hk)
       (try clear hi)
       refine hK.out _ _ ⟨HS0_, HS1_⟩ (fun hHeld => ?_)
       clear hK K
       refine nZ ?_
       refine oZ 5 HT_ (fun K hK => ?_)
       refine goes_ Try.func79 (by kernel_rfl) rfl #[.slice A496_0 (rd_L1 x3_1 0).length c496_0, .int .i64 t497] (by rfl) rfl rfl z16_4 ?_
       with_reducible refine (spec_l2Scale.calls kj7 _ _ (rd_L1 x3_1 0) t497 t499 _ ?side1 ?side2 A28.out).mono ?_
       (case side1 => repeat (first | exact ((Kd.V_reads' z16_8).2.2) | (with_reducible refine Kd.C_alloc ?_ _) | (with_reducible refine Kd.C_drewN ?_ _) | (with_reducible refine Kd.C_drew ?_)))
       (case side2 => exact HC496_0.out)
       rintro e w37 ⟨v500, rfl, ho0, hb⟩
       have HS0_ := (hb.cell (World.block_lt_of_cell? _ _ (hHeld.1))).trans (hHeld.1)
       have HS1_ := (hb.cell (World.block_lt_of_cell? _ _ (hHeld.2))).trans (hHeld.2)
       refine ⟨_, rfl, ?_⟩
       replace HO_3 := Aside0.mk (Kd.N_elder' z16_3 (Kd.R_base ho0) hb)
       replace HL496_0 := Aside0.mk (Kd.V_elder' z16_8 (Kd.R_base ho0) hb)
       replace HL502_0 := Aside0.mk (Kd.V_elder' z16_9 (Kd.R_base ho0) hb)
       have HO501 := Aside0.mk (Kd.R_lower (Kd.R_new' (Kd.R_newM (M := fun k_ => (w.heap.size ≤ k_)) ho0 (keep_size (w := w) (g := g) (row := none) z16_0) (fun k_ h_ => h_)) (Kd.Q_lt z16_6)) (keep_size (w := w) (g := g) (row := none) z16_0))
       replace HO_5 := Aside0.mk (Kd.Q_elder' z16_6 (Kd.R_base ho0) hb)
       replace HK := Aside0.mk (KeepBut.trans z16_0 (KeepBut.of_below hb g none) (.inl rfl))
       replace HB := Aside0.mk (below_step z16_2 hb)
       replace HI0 := Aside0.mk (IsS92.below z16_1 hb)
       (try clear hb)
       (try clear hb2)
       (try clear hk)
       (try clear hi)
       (try clear ho0)
       refine hK.out _ _ ⟨HS0_, HS1_⟩ (fun hHeld => ?_)
       clear hK K
       refine nZ ?_
       refine oZ 10 HT_ (fun K hK => ?_)
       refine goes_ Try.func65 (by kernel_rfl) rfl #[.pointer (some ⟨g, 0, none⟩), .int .i64 31] (by rfl) rfl rfl z16_4 ?_
       with_reducible refine (spec_l6Rd_pick.calls kj7 g s0_0 t498 31 t503 t504 w0 _ ?side1 ?side2 A30.out).mono ?_
       (case side1 => repeat (first | (with_reducible first | exact HI0.out | apply IsS92.alloc | apply IsS92.drewN | apply IsS92.drew | apply IsS92.set_1) | exact HI0.out))
       (case side2 => repeat (first | (with_reducible first | exact HB.out | apply below_alloc | apply pw_below_drewN | apply below_drew1 | refine below_set ?_ (IsS92.ge HI0.out)) | exact HB.out))
       rintro e w38 ⟨rfl, hi, hb, hk⟩
       have HS0_ := keep_cell hk (hHeld.1) z16_5
       have HS1_ := keep_cell hk (hHeld.2) z16_5
       refine ⟨_, rfl, ?_⟩
       replace HO_3 := Aside0.mk (Kd.N_mono (Kd.N_keep (Kd.N_mono (ok := fun k_ => ((((w.heap.size ≤ k_)) ∧ (some k_ ≠ (v487 : Value).ownBlock ∧ k_ ≠ g)) ∧ some k_ ≠ (v500 : Value).ownBlock)) z16_3 (fun k_ hk_ => (⟨hk_, hk_.1.2.2⟩ : _ ∧ k_ ≠ g))) hk (fun _ h => h.2)) (fun _ h => h.1))
       replace HO_5 := Aside0.mk (Kd.Q_mono (Kd.Q_keep (IsS92.apartQ (show IsS92 w0 _ g s0_0 t498 from by repeat (first | (with_reducible first | exact HI0.out | apply IsS92.alloc | apply IsS92.drewN | apply IsS92.drew | apply IsS92.set_1) | exact HI0.out)) z16_6 (by decide)) hk (fun _ h => h.2)) (fun _ h => h.1))
       replace HL496_0 := Aside0.mk (Kd.V_mono (Kd.V_keep (Kd.V_mono (ok := fun k_ => (((((w.heap.size ≤ k_)) ∧ (some k_ ≠ (v487 : Value).ownBlock ∧ k_ ≠ g)) ∧ some k_ ≠ (.slice (some ad496) x3_1.length co35 : Value).ownBlock) ∧ some k_ ≠ (v500 : Value).ownBlock)) z16_8 (fun k_ hk_ => (⟨hk_, hk_.1.1.2.2⟩ : _ ∧ k_ ≠ g))) hk (fun _ h => h.2)) (fun _ h => h.1))
       replace HL502_0 := Aside0.mk (Kd.V_mono (Kd.V_keep (Kd.V_mono (ok := fun k_ => (((((w.heap.size ≤ k_)) ∧ (some k_ ≠ (v487 : Value).ownBlock ∧ k_ ≠ g)) ∧ some k_ ≠ (.slice (some ad496) x3_1.length co35 : Value).ownBlock) ∧ some k_ ≠ (v500 : Value).ownBlock)) z16_9 (fun k_ hk_ => (⟨hk_, hk_.1.1.2.2⟩ : _ ∧ k_ ≠ g))) hk (fun _ h => h.2)) (fun _ h => h.1))
       replace HO501 := Aside0.mk (Kd.R_mono (Kd.R_keep (IsS92.apart (show IsS92 w0 _ g s0_0 t498 from by repeat (first | (with_reducible first | exact HI0.out | apply IsS92.alloc | apply IsS92.drewN | apply IsS92.drew | apply IsS92.set_1) | exact HI0.out)) z16_7 (by decide)) hk (fun _ h => h.2)) (fun _ h => h.1))
       replace HK := Aside0.mk (KeepBut.trans z16_0 hk (.inl rfl))
       replace HB := Aside0.mk (hb)
       replace HI0 := Aside0.mk (hi)
       (try clear hb)
       (try clear hb2)
       (try clear hk)
       (try clear hi)
       refine hK.out _ _ ⟨HS0_, HS1_⟩ (fun hHeld => ?_)
       clear hK K
       refine nZ ?_
       refine oZ 11 HT_ (fun K hK => ?_)
       refine goes_ Try.func79 (by kernel_rfl) rfl #[.slice A502_0 (rd_L1 x3_1 1).length c502_0, .int .i64 t503] (by rfl) rfl rfl z16_4 ?_
       with_reducible refine (spec_l2Scale.calls kj7 _ _ (rd_L1 x3_1 1) t503 t505 _ ?side1 ?side2 A31.out).mono ?_
       (case side1 => repeat (first | exact ((Kd.V_reads' z16_9).2.2) | (with_reducible refine Kd.C_alloc ?_ _) | (with_reducible refine Kd.C_drewN ?_ _) | (with_reducible refine Kd.C_drew ?_)))
       (case side2 => exact HC502_0.out)
       rintro e w39 ⟨v506, rfl, ho0, hb⟩
       have HS0_ := (hb.cell (World.block_lt_of_cell? _ _ (hHeld.1))).trans (hHeld.1)
       have HS1_ := (hb.cell (World.block_lt_of_cell? _ _ (hHeld.2))).trans (hHeld.2)
       refine ⟨_, rfl, ?_⟩
       replace HO_3 := Aside0.mk (Kd.N_elder' z16_3 (Kd.R_base ho0) hb)
       replace HL496_0 := Aside0.mk (Kd.V_elder' z16_8 (Kd.R_base ho0) hb)
       replace HL502_0 := Aside0.mk (Kd.V_elder' z16_9 (Kd.R_base ho0) hb)
       have HO507 := Aside0.mk (Kd.R_lower (Kd.R_new' (Kd.R_new' (Kd.R_newM (M := fun k_ => (w.heap.size ≤ k_)) ho0 (keep_size (w := w) (g := g) (row := none) z16_0) (fun k_ h_ => h_)) (Kd.Q_lt z16_6)) (Kd.R_lt z16_7)) (keep_size (w := w) (g := g) (row := none) z16_0))
       replace HO_5 := Aside0.mk (Kd.Q_elder' z16_6 (Kd.R_base ho0) hb)
       replace HO501 := Aside0.mk (Kd.R_elder' z16_7 (Kd.R_base ho0) hb)
       replace HK := Aside0.mk (KeepBut.trans z16_0 (KeepBut.of_below hb g none) (.inl rfl))
       replace HB := Aside0.mk (below_step z16_2 hb)
       replace HI0 := Aside0.mk (IsS92.below z16_1 hb)
       (try clear hb)
       (try clear hb2)
       (try clear hk)
       (try clear hi)
       (try clear ho0)
       obtain ⟨Ao40, co40, eo40⟩ := Kd.R_slice HO501.out
       (first | subst eo40 | (injection eo40 with f1_ f2_ f3_; have f4_ := f1_.symm; have f5_ := f3_.symm; clear f1_ f2_ f3_; subst f4_; subst f5_))
       obtain ⟨Ao41, co41, eo41⟩ := Kd.R_slice HO507.out
       (first | subst eo41 | (injection eo41 with f1_ f2_ f3_; have f4_ := f1_.symm; have f5_ := f3_.symm; clear f1_ f2_ f3_; subst f4_; subst f5_))
       refine hK.out _ _ ⟨HS0_, HS1_⟩ (fun hHeld => ?_)
       clear hK K
       refine nZ ?_
       refine oZ 12 HT_ (fun K hK => ?_)
       refine goes_ Try.func86 (by kernel_rfl) rfl #[.slice Ao40 t499.length co40, .slice Ao41 t505.length co41] (by rfl) rfl rfl z16_4 ?_
       with_reducible refine (spec_l2Sum.calls kj7 _ _ t499 _ _ t505 t508 _ ?side1 ?side2 ?side3 ?side4 A32.out).mono ?_
       (case side1 => exact cZ ((Kd.R_reads' HO501.out).2.2))
       (case side2 => exact (Kd.R_reads' HO501.out).2.1)
       (case side3 => exact cZ ((Kd.R_reads' HO507.out).2.2))
       (case side4 => exact (Kd.R_reads' HO507.out).2.1)
       rintro e w42 ⟨v509, rfl, ho0, hb⟩
       have HS0_ := (hb.cell (World.block_lt_of_cell? _ _ (hHeld.1))).trans (hHeld.1)
       have HS1_ := (hb.cell (World.block_lt_of_cell? _ _ (hHeld.2))).trans (hHeld.2)
       refine ⟨_, rfl, ?_⟩
       replace HO_3 := Aside0.mk (Kd.N_elder' z16_3 (Kd.R_base ho0) hb)
       replace HL496_0 := Aside0.mk (Kd.V_elder' z16_8 (Kd.R_base ho0) hb)
       replace HL502_0 := Aside0.mk (Kd.V_elder' z16_9 (Kd.R_base ho0) hb)
       have HO510 := Aside0.mk (Kd.R_lower (Kd.R_new' (Kd.R_new' (Kd.R_new' (Kd.R_newM (M := fun k_ => (w.heap.size ≤ k_)) ho0 (keep_size (w := w) (g := g) (row := none) z16_0) (fun k_ h_ => h_)) (Kd.Q_lt z16_6)) (Kd.R_lt z16_7)) (Kd.R_lt z16_13)) (keep_size (w := w) (g := g) (row := none) z16_0))
       replace HO_5 := Aside0.mk (Kd.Q_elder' z16_6 (Kd.R_base ho0) hb)
       replace HO501 := Aside0.mk (Kd.R_elder' z16_7 (Kd.R_base ho0) hb)
       replace HO507 := Aside0.mk (Kd.R_elder' z16_13 (Kd.R_base ho0) hb)
       replace HK := Aside0.mk (KeepBut.trans z16_0 (KeepBut.of_below hb g none) (.inl rfl))
       replace HB := Aside0.mk (below_step z16_2 hb)
       replace HI0 := Aside0.mk (IsS92.below z16_1 hb)
       (try clear hb)
       (try clear hb2)
       (try clear hk)
       (try clear hi)
       (try clear ho0)
       refine hK.out _ _ ⟨HS0_, HS1_⟩ (fun hHeld => ?_)
       clear hK K
       refine nZ ?_
       refine pZ 13 HT_ ?_
       refine done_ (done_of HT_.out (by kernel_rfl)) ?_
       obtain ⟨Ao44, co44, eo44⟩ := Kd.R_slice HO510.out
       subst eo44
       try go_wp2_with (first | ((with_reducible refine gate_builtin (b := .append) (xs := #[.tmp 48, .tmp 50]) rfl ?_); at_builtin; refine Kd.N_append (Kd.slice 3 (Kd.int .i64)) w.heap.size rfl (.tmp 48) (.tmp 50) 22 28 (.slice none 0 0) 24 rfl Try.underlying22 info28 rfl (by decide) (by omega) (.slice (some ad496) x3_1.length co35) x3_1 t508 [.slice Ao44 t508.length co44] (fun k_ => (w.heap.size ≤ k_) ∧ some k_ ≠ (v487 : Value).ownBlock ∧ some k_ ≠ (.slice Ao40 t499.length co40 : Value).ownBlock ∧ some k_ ≠ (.slice Ao41 t505.length co41 : Value).ownBlock ∧ k_ ≠ g) (fun k_ => ((fun k_ => (w.heap.size ≤ k_) ∧ some k_ ≠ (v487 : Value).ownBlock ∧ some k_ ≠ (.slice Ao40 t499.length co40 : Value).ownBlock ∧ some k_ ≠ (.slice Ao41 t505.length co41 : Value).ownBlock ∧ k_ ≠ g)) k_ ∧ some k_ ≠ (.slice (some ad496) x3_1.length co35 : Value).ownBlock) rfl rfl ?aP (fun _ hk => hk) ?aF ?aO (Below.refl _ _) ?aS ?aL ?_; (case aP => exact (Kd.FK_slice_mk (Kd.R_reads' (Kd.R_mono (ok' := (fun k_ => ((fun k_ => (w.heap.size ≤ k_) ∧ some k_ ≠ (v487 : Value).ownBlock ∧ some k_ ≠ (.slice Ao40 t499.length co40 : Value).ownBlock ∧ some k_ ≠ (.slice Ao41 t505.length co41 : Value).ownBlock ∧ k_ ≠ g)) k_ ∧ some k_ ≠ (.slice (some ad496) x3_1.length co35 : Value).ownBlock)) (IsS92.apart HI0.out (Kd.R_apart' (HO510.out) (Kd.N_typed HO_3.out) (by decide)) (by decide)) (fun k_ hk => ⟨⟨hk.1.1.1.1.1.1, ⟨hk.1.1.1.1.2, ⟨hk.1.1.1.2, ⟨hk.1.1.2, hk.2⟩⟩⟩⟩, hk.1.2⟩))).2.1 (Kd.R_F (Kd.R_mono (ok' := (fun k_ => ((fun k_ => (w.heap.size ≤ k_) ∧ some k_ ≠ (v487 : Value).ownBlock ∧ some k_ ≠ (.slice Ao40 t499.length co40 : Value).ownBlock ∧ some k_ ≠ (.slice Ao41 t505.length co41 : Value).ownBlock ∧ k_ ≠ g)) k_ ∧ some k_ ≠ (.slice (some ad496) x3_1.length co35 : Value).ownBlock)) (IsS92.apart HI0.out (Kd.R_apart' (HO510.out) (Kd.N_typed HO_3.out) (by decide)) (by decide)) (fun k_ hk => ⟨⟨hk.1.1.1.1.1.1, ⟨hk.1.1.1.1.2, ⟨hk.1.1.1.2, ⟨hk.1.1.2, hk.2⟩⟩⟩⟩, hk.1.2⟩))))); (case aF => exact (fun k_ hk => ⟨(Nat.le_trans (keep_size (w := w) (g := g) (row := none) z16_0) hk), Kd.fresh' (Kd.Q_lt z16_6) k_ hk, Kd.fresh' (Kd.R_lt z16_7) k_ hk, Kd.fresh' (Kd.R_lt z16_13) k_ hk, IsS92.fresh z16_1 k_ hk⟩)); (case aO => exact (by (with_reducible repeat (first | apply Kd.N_alloc | apply Kd.N_drewN | apply Kd.N_drew)); exact Kd.N_mono HO_3.out (fun _ hk => ⟨hk.1.1.1.1, ⟨hk.1.1.1.2.1, ⟨hk.1.1.2, ⟨hk.1.2, hk.1.1.1.2.2⟩⟩⟩⟩))); (case aS => exact (keep_size (w := w) (g := g) (row := none) z16_0)); (case aL => have := LMc33.out; omega); intro v512 w43 ho hb hg hat; rw [← Ny511.out] at ho; have n0_ := Aside0.mk (Kd.Q_over' z16_6 (Kd.N_typed z16_3) (by decide) hg); have n1_ := Aside0.mk (IsS92.grown z16_1 hg (IsS92.own_neN HI0.out HO_3.out (by decide))); have n2_ := Aside0.mk (Kd.V_afterv (ok := (fun k_ => (w.heap.size ≤ k_) ∧ some k_ ≠ (v487 : Value).ownBlock ∧ some k_ ≠ (.slice Ao40 t499.length co40 : Value).ownBlock ∧ some k_ ≠ (.slice Ao41 t505.length co41 : Value).ownBlock ∧ some k_ ≠ (.slice Ao44 t508.length co44 : Value).ownBlock ∧ k_ ≠ g)) (by (with_reducible repeat (first | apply Kd.V_alloc | apply Kd.V_drewN | apply Kd.V_drew)); exact Kd.V_mono HL496_0.out (fun _ hk => ⟨⟨hk.1.1.1.1.1, ⟨hk.1.1.1.1.2.1, ⟨hk.1.1.2, ⟨hk.1.2, ⟨hk.2, hk.1.1.1.1.2.2⟩⟩⟩⟩⟩, hk.1.1.1.2⟩)) hg hat); have n3_ := Aside0.mk (Kd.V_afterv (ok := (fun k_ => (w.heap.size ≤ k_) ∧ some k_ ≠ (v487 : Value).ownBlock ∧ some k_ ≠ (.slice Ao40 t499.length co40 : Value).ownBlock ∧ some k_ ≠ (.slice Ao41 t505.length co41 : Value).ownBlock ∧ some k_ ≠ (.slice Ao44 t508.length co44 : Value).ownBlock ∧ k_ ≠ g)) (by (with_reducible repeat (first | apply Kd.V_alloc | apply Kd.V_drewN | apply Kd.V_drew)); exact Kd.V_mono HL502_0.out (fun _ hk => ⟨⟨hk.1.1.1.1.1, ⟨hk.1.1.1.1.2.1, ⟨hk.1.1.2, ⟨hk.1.2, ⟨hk.2, hk.1.1.1.1.2.2⟩⟩⟩⟩⟩, hk.1.1.1.2⟩)) hg hat); have n4_ := Aside0.mk (Kd.R_over' z16_7 (Kd.N_typed z16_3) (by decide) hg); have n5_ := Aside0.mk (Kd.R_over' z16_13 (Kd.N_typed z16_3) (by decide) hg); have n6_ := Aside0.mk (below_weaken z16_2 HL.out hb); have n7_ := Aside0.mk (KeepBut.trans z16_0 (KeepBut.of_grown hg g) (Kd.N_base2 HO_3.out)); have n8_ := Aside0.mk (ho); clear HO_5; clear HI0; clear HL496_0; clear HL502_0; clear HO501; clear HO507; clear HB; clear HK; clear HO_3; clear HO510; have HO_5 := n0_; have HI0 := n1_; have HL496_0 := n2_; have HL502_0 := n3_; have HO501 := n4_; have HO507 := n5_; have HB := n6_; have HK := n7_; have HO513 := n8_; clear n0_ n1_ n2_ n3_ n4_ n5_ n6_ n7_ n8_; clear ho hb hg hat))
       go_roundg kj7
       case measure => have := HK1.out; have := HJ7.out; omega
       case rel => exact ⟨(y511), (wrap64 (x4_1 - 1)), (t504), z16_14, H', ⟨by have := HK1.out; have := HJ7.out; omega⟩, ⟨by (with_reducible repeat (first | apply Kd.N_alloc | apply Kd.N_drewN | apply Kd.N_drew)); exact Kd.N_mono HO513.out (fun _ hk => ⟨hk.1, hk.2.2.2.2⟩)⟩, ⟨z16_1⟩, ⟨z16_0⟩, ⟨z16_2⟩⟩
      ·replace c25 := Bool.eq_false_iff.mpr c25
       subst c25
       have H1 : (if x3_1.length < 5864062014805 then (spec_l91Rows.l0 kj7 (x3_1 ++ [t486]) (wrap64 (x4_1 - 1)) s0_0 x1001_7) else (none)) = some (r1, r2) := by rw [if_neg (show ¬ (false = true) by decide)] at H; exact H
       clear H
       have H := H1
       clear H1
       obtain ⟨c45, H⟩ := ifP H
       have LMc45 := Aside0.mk c45
       clear c45
       obtain ⟨y514, hy514⟩ : ∃ y_ : List (List Int), y_ = (x3_1 ++ [t486]) := ⟨_, rfl⟩
       replace H : (spec_l91Rows.l0 kj7 y514 (wrap64 (x4_1 - 1)) s0_0 x1001_7) = some (r1, r2) := by first | (rw [hy514]; with_reducible exact H) | (have H2_ := (Option.bind_some _ _).symm.trans H; rw [hy514]; with_reducible exact H2_) | (have H2_ := (Option.bind_some _ _).symm.trans H; with_reducible exact H2_) | with_reducible exact H | (rw [hy514]; exact H) | exact H
       have Ny514 := Aside0.mk hy514
       clear hy514
       have H' := Aside0.mk H
       clear H
       obtain ⟨Ao47, co47, eo47, _⟩ := Kd.Q_slice HO_5.out
       subst eo47
       go_wp2_with (first | ((with_reducible refine gate_builtin (b := .append) (xs := #[.tmp 48, .tmp 50]) rfl ?_); at_builtin; refine Kd.N_append (Kd.slice 3 (Kd.int .i64)) w.heap.size rfl (.tmp 48) (.tmp 50) 22 28 (.slice none 0 0) 24 rfl Try.underlying22 info28 rfl (by decide) (by omega) u3 x3_1 t486 [.slice Ao47 t486.length co47] (fun k_ => (w.heap.size ≤ k_) ∧ k_ ≠ g) (fun k_ => ((fun k_ => (w.heap.size ≤ k_) ∧ k_ ≠ g)) k_ ∧ some k_ ≠ (u3 : Value).ownBlock) rfl rfl ?aP (fun _ hk => hk) ?aF ?aO (Below.refl _ _) ?aS ?aL ?_; (case aP => exact (Kd.FK_slice_mk (Kd.Q_reads' (Kd.Q_mono (ok' := (fun k_ => ((fun k_ => (w.heap.size ≤ k_) ∧ k_ ≠ g)) k_ ∧ some k_ ≠ (u3 : Value).ownBlock)) (IsS92.apartQ HI0.out (Kd.Q_apart' (HO_5.out) (Kd.N_typed HO_3.out) (by decide)) (by decide)) (fun k_ hk => ⟨⟨hk.1.1, hk.2⟩, hk.1.2⟩))).2.1 (Kd.Q_F (Kd.Q_mono (ok' := (fun k_ => ((fun k_ => (w.heap.size ≤ k_) ∧ k_ ≠ g)) k_ ∧ some k_ ≠ (u3 : Value).ownBlock)) (IsS92.apartQ HI0.out (Kd.Q_apart' (HO_5.out) (Kd.N_typed HO_3.out) (by decide)) (by decide)) (fun k_ hk => ⟨⟨hk.1.1, hk.2⟩, hk.1.2⟩))))); (case aF => exact (fun k_ hk => ⟨(Nat.le_trans (keep_size (w := w) (g := g) (row := none) z16_0) hk), IsS92.fresh z16_1 k_ hk⟩)); (case aO => exact (by (with_reducible repeat (first | apply Kd.N_alloc | apply Kd.N_drewN | apply Kd.N_drew)); exact Kd.N_mono HO_3.out (fun _ hk => ⟨hk.1, hk.2.2⟩))); (case aS => exact (keep_size (w := w) (g := g) (row := none) z16_0)); (case aL => have := LMc45.out; omega); intro v515 w46 ho hb hg hat; rw [← Ny514.out] at ho; have n0_ := Aside0.mk (IsS92.grown z16_1 hg (IsS92.own_neN HI0.out HO_3.out (by decide))); have n1_ := Aside0.mk (below_weaken z16_2 HL.out hb); have n2_ := Aside0.mk (KeepBut.trans z16_0 (KeepBut.of_grown hg g) (Kd.N_base2 HO_3.out)); have n3_ := Aside0.mk (ho); clear HI0; clear HB; clear HK; clear HO_3; clear HO_5; have HI0 := n0_; have HB := n1_; have HK := n2_; have HO516 := n3_; clear n0_ n1_ n2_ n3_; clear ho hb hg hat))
       go_roundg kj7
       case measure => have := HK1.out; have := HJ7.out; omega
       case rel => exact ⟨(y514), (wrap64 (x4_1 - 1)), (x1001_7), z16_14, H', ⟨by have := HK1.out; have := HJ7.out; omega⟩, ⟨by (with_reducible repeat (first | apply Kd.N_alloc | apply Kd.N_drewN | apply Kd.N_drew)); exact HO516.out⟩, ⟨z16_1⟩, ⟨z16_0⟩, ⟨z16_2⟩⟩
   ·rw [if_neg c6] at H
    have c6b0 : decide (0 < x4_1) = false := decide_eq_false c6
    clear c6
    replace H := Option.bind_eq_some_iff.mp H
    obtain ⟨⟨t517, t518⟩, A480, H⟩ := H
    replace H : (if t517 = 0 then (spec_l91Rows.l1 k1 x3_1 s0_0 t518) else (some (x3_1, t518))) = some (r1, r2) := H
    have A48 := Aside0.mk A480
    clear A480
    by_cases c49 : t517 = 0
    ·rw [if_pos c49] at H
     have c49b0 : (t517 == 0) = true := beq_iff_eq.mpr c49
     have c49b1 : (t517 != 0) = false := bne_eq_false_iff_eq.mpr c49
     clear c49
     have H' := Aside0.mk H
     clear H
     go_wp2_with (first | ((with_reducible refine gate_callee (f := 65) rfl ?_); refine goesL_ (some 53) rfl rfl Try.func65 (by kernel_rfl) rfl #[.pointer (some ⟨g, 0, none⟩), .int .i64 40] rfl z16_4 ?_; (with_reducible refine (spec_l6Rd_pick.calls k1 g s0_0 x1001_1 40 t517 t518 w0 _ ?side1 ?side2 A48.out).mono ?_); (case side1 => repeat (first | (with_reducible first | exact HI0.out | apply IsS92.alloc | apply IsS92.drewN | apply IsS92.drew | apply IsS92.set_1) | exact HI0.out)); (case side2 => repeat (first | (with_reducible first | exact HB.out | apply below_alloc | apply pw_below_drewN | apply below_drew1 | refine below_set ?_ (IsS92.ge HI0.out)) | exact HB.out)); rintro e w50 ⟨rfl, hi, hb, hk⟩; refine ⟨_, rfl, ?_⟩; replace HO_3 := Aside0.mk (Kd.N_mono (Kd.N_keep (Kd.N_mono (ok := fun k_ => (((w.heap.size ≤ k_)) ∧ k_ ≠ g)) z16_3 (fun k_ hk_ => (⟨hk_, hk_.2⟩ : _ ∧ k_ ≠ g))) hk (fun _ h => h.2)) (fun _ h => h.1)); replace HK := Aside0.mk (KeepBut.trans z16_0 hk (.inl rfl)); replace HB := Aside0.mk (hb); replace HI0 := Aside0.mk (hi); (try clear hb)))
     go_loopg [3] k1 (fun kq v3 w' => ∃ (x3_2 : List (List Int)), Aside0 (spec_l91Rows.l1 kq x3_2 s0_0 t518 = some (r1, r2)) ∧ Aside0 (kq ≤ k1) ∧ Aside0 (Kd.N (Kd.slice 3 (Kd.int .i64)) 28 w' w.heap.size (fun k_ => (w.heap.size ≤ k_) ∧ k_ ≠ g) v3 x3_2) ∧ Aside0 (IsS92 w0 w' g s0_0 t518) ∧ Aside0 (KeepBut w w' g none) ∧ Aside0 (Below w0.heap.size w0 w'))
     case atStart => exact ⟨(x3_1), H', ⟨Nat.le_refl _⟩, ⟨z16_3⟩, ⟨z16_1⟩, ⟨z16_0⟩, ⟨z16_2⟩⟩
     case round =>
      clear H'
      try clear c6
      try clear c6b0
      try clear c49
      try clear c49b0
      try clear c49b1
      obtain ⟨x3_2, HA, HK2, HO_3, HI0, HK, HB⟩ := hrel
      cases gk with
      | zero => exact absurd HA.out (by simp [spec_l91Rows.l1])
      | succ k2 =>
       have H := HA.out
       clear HA
       simp only [spec_l91Rows.l1] at H
       by_cases c51 : (x3_2.length : Int) ≤ 8
       ·rw [if_pos c51] at H
        have c51b0 : decide ((x3_2.length : Int) ≤ 8) = true := decide_eq_true c51
        have c51b1 : decide (x3_2.length ≤ 8) = true := decide_eq_true (by omega)
        clear c51
        obtain ⟨y519, hy519⟩ : ∃ y_ : List Int, y_ = (([1, 2, 3, 4] : List Int)) := ⟨_, rfl⟩
        replace H : (if x3_2.length < 5864062014805 then (spec_l91Rows.l1 k2 (x3_2 ++ [y519]) s0_0 t518) else (none)) = some (r1, r2) := by first | (rw [hy519]; with_reducible exact H) | (have H2_ := (Option.bind_some _ _).symm.trans H; rw [hy519]; with_reducible exact H2_) | (have H2_ := (Option.bind_some _ _).symm.trans H; with_reducible exact H2_) | with_reducible exact H | (rw [hy519]; exact H) | exact H
        have Ny519 := Aside0.mk hy519
        clear hy519
        obtain ⟨c52, H⟩ := ifP H
        have LMc52 := Aside0.mk c52
        clear c52
        obtain ⟨y522, hy522⟩ : ∃ y_ : List (List Int), y_ = (x3_2 ++ [y519]) := ⟨_, rfl⟩
        replace H : (spec_l91Rows.l1 k2 y522 s0_0 t518) = some (r1, r2) := by first | (rw [hy522]; with_reducible exact H) | (have H2_ := (Option.bind_some _ _).symm.trans H; rw [hy522]; with_reducible exact H2_) | (have H2_ := (Option.bind_some _ _).symm.trans H; with_reducible exact H2_) | with_reducible exact H | (rw [hy522]; exact H) | exact H
        have Ny522 := Aside0.mk hy522
        clear hy522
        have H' := Aside0.mk H
        clear H
        obtain ⟨Ao53, co53, eo53⟩ := Kd.N_slice HO_3.out
        subst eo53
        go_wp2_with (first | ((with_reducible refine gate_dst (N := 59) rfl ?_); refine Kd.R_lit (Kd.int .i64) _ 3 ?hg (N := 59) ?hd (xs := ([1, 2, 3, 4] : List Int)) (inner := [.int .i64 1, .int .i64 2, .int .i64 3, .int .i64 4]) (ok := fun _ => True) (okp := fun _ => True) ?hr ?hp (fun _ hk => hk) trivial (Below.refl _ _) (Nat.le_refl _) (by simp) ?_; (case hd => rfl); (case hg => rfl); (case hr => first | (go_simp; done) | (go_simp; rfl)); (case hp => exact (Reps.one (show Kd.M (Kd.int .i64) _ _ _ 1 [.int .i64 1] from rfl) (Reps.one (show Kd.M (Kd.int .i64) _ _ _ 2 [.int .i64 2] from rfl) (Reps.one (show Kd.M (Kd.int .i64) _ _ _ 3 [.int .i64 3] from rfl) (Reps.one (show Kd.M (Kd.int .i64) _ _ _ 4 [.int .i64 4] from rfl) (Reps.none _ _)))))); intro v520 w54 ho55 hb hg_ hnew_; clear hg_ hnew_; (first | rw [← Ny519.out] at ho55 | (simp only [Int.reduceToNat] at ho55; rw [← Ny519.out] at ho55)); replace HO_3 := Aside0.mk (Kd.N_elder' z16_3 (Kd.R_base ho55) hb); have HO521 := Aside0.mk (Kd.R_lower (Kd.R_newM (M := fun k_ => (w.heap.size ≤ k_)) ho55 (keep_size (w := w) (g := g) (row := none) z16_0) (fun k_ h_ => h_)) (keep_size (w := w) (g := g) (row := none) z16_0)); replace HK := Aside0.mk (KeepBut.trans z16_0 (KeepBut.of_below hb g none) (.inl rfl)); replace HB := Aside0.mk (below_step z16_2 hb); replace HI0 := Aside0.mk (IsS92.below z16_1 hb); clear hb ho55; obtain ⟨Ao57, co57, eo57⟩ := Kd.R_slice HO521.out; subst eo57) | ((with_reducible refine gate_builtin (b := .append) (xs := #[.tmp 58, .tmp 60]) rfl ?_); at_builtin; refine Kd.N_append (Kd.slice 3 (Kd.int .i64)) w.heap.size rfl (.tmp 58) (.tmp 60) 22 28 (.slice none 0 0) 24 rfl Try.underlying22 info28 rfl (by decide) (by omega) (.slice Ao53 x3_2.length co53) x3_2 y519 [.slice Ao57 y519.length co57] (fun k_ => (w.heap.size ≤ k_) ∧ k_ ≠ g) (fun k_ => ((fun k_ => (w.heap.size ≤ k_) ∧ k_ ≠ g)) k_ ∧ some k_ ≠ (.slice Ao53 x3_2.length co53 : Value).ownBlock) rfl rfl ?aP (fun _ hk => hk) ?aF ?aO (Below.refl _ _) ?aS ?aL ?_; (case aP => exact (Kd.FK_slice_mk (Kd.R_reads' (Kd.R_mono (ok' := (fun k_ => ((fun k_ => (w.heap.size ≤ k_) ∧ k_ ≠ g)) k_ ∧ some k_ ≠ (.slice Ao53 x3_2.length co53 : Value).ownBlock)) (IsS92.apart HI0.out (Kd.R_apart' (HO521.out) (Kd.N_typed HO_3.out) (by decide)) (by decide)) (fun k_ hk => ⟨⟨hk.1.1.1, hk.2⟩, hk.1.2⟩))).2.1 (Kd.R_F (Kd.R_mono (ok' := (fun k_ => ((fun k_ => (w.heap.size ≤ k_) ∧ k_ ≠ g)) k_ ∧ some k_ ≠ (.slice Ao53 x3_2.length co53 : Value).ownBlock)) (IsS92.apart HI0.out (Kd.R_apart' (HO521.out) (Kd.N_typed HO_3.out) (by decide)) (by decide)) (fun k_ hk => ⟨⟨hk.1.1.1, hk.2⟩, hk.1.2⟩))))); (case aF => exact (fun k_ hk => ⟨(Nat.le_trans (keep_size (w := w) (g := g) (row := none) z16_0) hk), IsS92.fresh z16_1 k_ hk⟩)); (case aO => exact (by (with_reducible repeat (first | apply Kd.N_alloc | apply Kd.N_drewN | apply Kd.N_drew)); exact Kd.N_mono HO_3.out (fun _ hk => ⟨hk.1.1, hk.1.2⟩))); (case aS => exact (keep_size (w := w) (g := g) (row := none) z16_0)); (case aL => have := LMc52.out; omega); intro v523 w56 ho hb hg hat; rw [← Ny522.out] at ho; have n0_ := Aside0.mk (IsS92.grown z16_1 hg (IsS92.own_neN HI0.out HO_3.out (by decide))); have n1_ := Aside0.mk (below_weaken z16_2 HL.out hb); have n2_ := Aside0.mk (KeepBut.trans z16_0 (KeepBut.of_grown hg g) (Kd.N_base2 HO_3.out)); have n3_ := Aside0.mk (ho); clear HI0; clear HB; clear HK; clear HO_3; clear HO521; have HI0 := n0_; have HB := n1_; have HK := n2_; have HO524 := n3_; clear n0_ n1_ n2_ n3_; clear ho hb hg hat))
        go_roundg k2
        case measure => have := HK1.out; have := HK2.out; omega
        case rel => exact ⟨(y522), H', ⟨by have := HK1.out; have := HK2.out; omega⟩, ⟨by (with_reducible repeat (first | apply Kd.N_alloc | apply Kd.N_drewN | apply Kd.N_drew)); exact HO524.out⟩, ⟨z16_1⟩, ⟨z16_0⟩, ⟨z16_2⟩⟩
       ·rw [if_neg c51] at H
        have c51b0 : decide ((x3_2.length : Int) ≤ 8) = false := decide_eq_false c51
        have c51b1 : decide (x3_2.length ≤ 8) = false := decide_eq_false (by omega)
        clear c51
        simp only [Option.some.injEq, Prod.mk.injEq] at H
        obtain ⟨rfl, rfl⟩ := H
        obtain ⟨Ao58, co58, eo58⟩ := Kd.N_slice HO_3.out
        subst eo58
        go_wp2
        go_ret
        exact ⟨_, by first | rfl | (simp [errW_none, errW_some] <;> rfl) | (simp [*, errW_none, errW_some] <;> rfl), z16_18, z16_1, z16_2, z16_0⟩
    ·rw [if_neg c49] at H
     have c49b0 : (t517 == 0) = false := beq_eq_false_iff_ne.mpr c49
     have c49b1 : (t517 != 0) = true := bne_iff_ne.mpr c49
     simp only [Option.some.injEq, Prod.mk.injEq] at H
     obtain ⟨rfl, rfl⟩ := H
     go_wp2_with (first | ((with_reducible refine gate_callee (f := 65) rfl ?_); refine goesL_ (some 53) rfl rfl Try.func65 (by kernel_rfl) rfl #[.pointer (some ⟨g, 0, none⟩), .int .i64 40] rfl z16_4 ?_; (with_reducible refine (spec_l6Rd_pick.calls k1 g s0_0 x1001_1 40 t517 t518 w0 _ ?side1 ?side2 A48.out).mono ?_); (case side1 => repeat (first | (with_reducible first | exact HI0.out | apply IsS92.alloc | apply IsS92.drewN | apply IsS92.drew | apply IsS92.set_1) | exact HI0.out)); (case side2 => repeat (first | (with_reducible first | exact HB.out | apply below_alloc | apply pw_below_drewN | apply below_drew1 | refine below_set ?_ (IsS92.ge HI0.out)) | exact HB.out)); rintro e w59 ⟨rfl, hi, hb, hk⟩; refine ⟨_, rfl, ?_⟩; replace HO_3 := Aside0.mk (Kd.N_mono (Kd.N_keep (Kd.N_mono (ok := fun k_ => (((w.heap.size ≤ k_)) ∧ k_ ≠ g)) z16_3 (fun k_ hk_ => (⟨hk_, hk_.2⟩ : _ ∧ k_ ≠ g))) hk (fun _ h => h.2)) (fun _ h => h.1)); replace HK := Aside0.mk (KeepBut.trans z16_0 hk (.inl rfl)); replace HB := Aside0.mk (hb); replace HI0 := Aside0.mk (hi); (try clear hb)))
     go_ret
     exact ⟨_, by first | rfl | (simp [errW_none, errW_some] <;> rfl) | (simp [*, errW_none, errW_some] <;> rfl), z16_18, z16_1, z16_2, z16_0⟩

end Go.Proofs.Ytbhmgbeebhmfkaa.PA
