-- Written by a program of this session (after the manner of the kit's print, several laws in one text).
import Derived.Test.YtamaejafddmagaaPAx0
import Derived.Test.YtamaejafddmagaaPAx8
import Derived.Test.YtamaejafddmagaaPAx9
import Derived.Test.YtamaejafddmagaaPAx10
import Derived.Test.YtamaejafddmagaaPAx11
import Derived.Test.YtamaejafddmagaaGw
import Derived.Test.YtamaejafddmagaaGm
namespace Go.Proofs.Ytamaejafddmagaa.PA
open Go.RowKit Go.Proofs.YtamaejafddmagaaW.PrintWords Go.Proofs.YtamaejafddmagaaW.PrintLast Go.Proofs.YtamaejafddmagaaW.PrintMore
attribute [local go_sem] max2_int min2_int max_two min_two max_three min_three max_four min_four   -- for this text's walks alone
set_option linter.unusedVariables false
set_option linter.unusedSimpArgs false

/-! ### spec_l91Rows: function 51 -/
theorem z12_0 {p : Prop} (h : p := by repeat (first | (with_reducible first | exact HK.out | apply KeepBut.set_ | apply keep_drewN | apply keep_drew | apply keep_alloc) | exact HK.out)) : p := h
theorem z12_1 {p : Prop} (h : p := by repeat (first | (with_reducible first | exact HI0.out | apply IsS99.alloc | apply IsS99.drewN | apply IsS99.drew | apply IsS99.set_1) | exact HI0.out)) : p := h
theorem z12_2 {p : Prop} (h : p := by repeat (first | (with_reducible first | exact HB.out | apply below_alloc | apply pw_below_drewN | apply below_drew1 | refine below_set ?_ (IsS99.ge HI0.out)) | exact HB.out)) : p := h
theorem z12_3 {p : Prop} (h : p := by (with_reducible repeat (first | apply Kd.N_alloc | apply Kd.N_drewN | apply Kd.N_drew)); exact HO_3.out) : p := h
theorem z12_4 {p : Prop} (h : p := by (try simp only [List.map_toArray, List.map_cons, List.map_nil]); first | done | rfl | (simp only [List.length_drop, List.length_take]; rfl)) : p := h
theorem z12_5 {p : Prop} (h : p := by first | (rw [add_block]; exact Kd.own_blk (IsS99.own_neN HI0.out HO_3.out (by decide))) | (show (Addr.add _ _).block ≠ _; rw [add_block]; exact Kd.own_blk (IsS99.own_neN HI0.out HO_3.out (by decide))) | exact Kd.own_blk (IsS99.own_neN HI0.out HO_3.out (by decide)) | (have hz_ := Kd.own_blk (IsS99.own_neN HI0.out HO_3.out (by decide)); exact hz_)) : p := h
theorem z12_6 {p : Prop} (h : p := by (with_reducible repeat (first | apply Kd.Q_alloc | apply Kd.Q_drewN | apply Kd.Q_drew)); exact HO_5.out) : p := h
theorem z12_7 {p : Prop} (h : p := by (with_reducible repeat (first | apply Kd.R_alloc | apply Kd.R_drewN | apply Kd.R_drew)); exact HO349.out) : p := h
theorem z12_8 {p : Prop} (h : p := by (with_reducible repeat (first | apply Kd.V_alloc | apply Kd.V_drewN | apply Kd.V_drew)); exact HL344_0.out) : p := h
theorem z12_9 {p : Prop} (h : p := by (with_reducible repeat (first | apply Kd.V_alloc | apply Kd.V_drewN | apply Kd.V_drew)); exact HL350_0.out) : p := h
theorem z12_10 {p : Prop} (h : p := by (with_reducible repeat (first | apply Kd.N_alloc | apply Kd.N_drewN | apply Kd.N_drew)); exact Kd.N_mono HO_3.out (fun _ hk => ⟨hk.1.1, ⟨hk.2, hk.1.2⟩⟩)) : p := h
theorem z12_11 {p : Prop} (h : p := by first | (with_reducible assumption) | assumption) : p := h
theorem z12_12 {p : Prop} (h : p := by (with_reducible repeat (first | apply Kd.Q_alloc | apply Kd.Q_drewN | apply Kd.Q_drew)); exact Kd.Q_mono HO336.out (fun _ hk => hk.1)) : p := h
theorem z12_13 {p : Prop} (h : p := by (with_reducible repeat (first | apply Kd.R_alloc | apply Kd.R_drewN | apply Kd.R_drew)); exact HO355.out) : p := h
theorem z12_14 {p : Prop} (h : p := by first | rfl | (simp; done) | (simp [*]; done)) : p := h
theorem z12_15 {p : Prop} (h : p := by (with_reducible repeat (first | apply Kd.Q_alloc | apply Kd.Q_drewN | apply Kd.Q_drew)); exact HO336.out) : p := h
theorem z12_16 {p : Prop} (h : p := by repeat (first | (with_reducible exact HR340_0.out) | (with_reducible refine Kd.C_alloc ?_ _) | (with_reducible refine Kd.C_drewN ?_ _) | (with_reducible refine Kd.C_drew ?_) | exact HR340_0.out)) : p := h
theorem z12_17 {p : Prop} (h : p := by have := HK1.out; first | omega | exact Nat.le_refl _) : p := h
theorem z12_18 {p : Prop} (h : p := by (with_reducible repeat (first | apply Kd.N_alloc | apply Kd.N_drewN | apply Kd.N_drew)); exact Kd.N_mono HO_3.out (fun _ hk => hk.1)) : p := h
mutual
def spec_l91Rows.l0 : Nat → List (List Int) → Int → List Int → Int → Option ((List (List Int)) × Int)
  | 0, _, _, _, _ => none
  | k + 1, x3, x4, x1000, x1001 => if x4 > 0 then ((spec_l91Vec.f k x1000 x1001).bind fun bt334 => (if (x3.length : Int) > 1 then ((spec_l6Rd_pick.f k x1000 bt334.2 3).bind fun bt338 => (if bt338.1 = 0 then (if 0 < (x3.length : Int) then ((spec_VecOk.f k (rd_L1 x3 0)).bind fun t341 => (if t341 = true then (if 1 < (x3.length : Int) then ((spec_VecOk.f k (rd_L1 x3 1)).bind fun t343 => (spec_l91Rows.j1 k x3 x4 bt334.1 t343 x1000 bt338.2)) else (none)) else (spec_l91Rows.j1 k x3 x4 bt334.1 false x1000 bt338.2))) else (none)) else (spec_l91Rows.j1 k x3 x4 bt334.1 false x1000 bt338.2))) else (spec_l91Rows.j1 k x3 x4 bt334.1 false x1000 bt334.2))) else ((spec_l6Rd_pick.f k x1000 x1001 40).bind fun bt365 => (if bt365.1 = 0 then (spec_l91Rows.l1 k x3 x1000 bt365.2) else (some (x3, bt365.2))))
def spec_l91Rows.j1 : Nat → List (List Int) → Int → List Int → Bool → List Int → Int → Option ((List (List Int)) × Int)
  | 0, _, _, _, _, _, _ => none
  | k + 1, x3, x4, x5, x34, x1000, x1001 => if x34 = true then (if 0 < (x3.length : Int) then ((spec_l6Rd_pick.f k x1000 x1001 31).bind fun bt345 => ((spec_l2Scale.f k (rd_L1 x3 0) bt345.1).bind fun t347 => (if 1 < (x3.length : Int) then ((spec_l6Rd_pick.f k x1000 bt345.2 31).bind fun bt351 => ((spec_l2Scale.f k (rd_L1 x3 1) bt351.1).bind fun t353 => ((spec_l2Sum.f k t347 t353).bind fun t356 => (if x3.length < 5864062014805 then (spec_l91Rows.l0 k (x3 ++ [t356]) (wrap64 (x4 - 1)) x1000 bt351.2) else (none))))) else (none)))) else (none)) else (if x3.length < 5864062014805 then (spec_l91Rows.l0 k (x3 ++ [x5]) (wrap64 (x4 - 1)) x1000 x1001) else (none))
def spec_l91Rows.l1 : Nat → List (List Int) → List Int → Int → Option ((List (List Int)) × Int)
  | 0, _, _, _ => none
  | k + 1, x3, x1000, x1001 => if (x3.length : Int) ≤ 8 then (if x3.length < 5864062014805 then (spec_l91Rows.l1 k (x3 ++ [(([1, 2, 3, 4] : List Int))]) x1000 x1001) else (none)) else (some (x3, x1001))
end
def spec_l91Rows.f (k : Nat) (s0_0 : List Int) (s0_1 : Int) : Option ((List (List Int)) × Int) := (spec_l6Rd_pick.f k s0_0 s0_1 6).bind fun bt332 => (spec_l91Rows.l0 k (([] : List (List Int))) bt332.1 s0_0 bt332.2)
def spec_l91Rows.T7 : Bool × List (List Nat × List Nat) := (true, [([], []), ([0], [0]), ([1], [1]), ([], []), ([3], [3]), ([2, 4, 4], [2, 4]), ([], []), ([6], [6]), ([7], [7]), ([], []), ([9, 5], [9]), ([8, 10, 10], [8, 10]), ([5, 11, 11], [5, 11]), ([12, 12, 0, 1, 2, 3, 4, 5, 6, 7, 8, 9, 10, 11, 12], [12])])
def spec_l91Rows.B7 : List Nat := [0, 1, 3, 0, 8, 31, 0, 64, 192, 0, 575, 2047, 4095, 8191]
theorem spec_l91Rows.tab7 : rtab .any (opsOf Try.f51 7) = spec_l91Rows.T7 := by kernel_rfl
theorem spec_l91Rows.bits7 : waitsOk spec_l91Rows.T7.2 spec_l91Rows.B7 = true := by kernel_rfl
set_option maxHeartbeats 8000000 in
set_option maxRecDepth 100000 in
theorem spec_l91Rows.calls (k : Nat) (g : Nat) (s0_0 : List Int) (s0_1 : Int) (r1 : List (List Int)) (r2 : Int) (w0 w : World) (hI : IsS99 w0 w g s0_0 s0_1) (hB : Below w0.heap.size w0 w) (h : spec_l91Rows.f k s0_0 s0_1 = some (r1, r2)) :
  Calls Try.prog 51 #[.pointer (some ⟨g, 0, none⟩)] w fun e w' => ∃ v0_ : Value, e = .returned (v0_) ∧ Kd.N (Kd.slice 3 (Kd.int .i64)) 28 w' w.heap.size (fun k_ => (w.heap.size ≤ k_)) v0_ r1 ∧ IsS99 w0 w' g s0_0 r2 ∧ Below w0.heap.size w0 w' ∧ KeepBut w w' g none := by
 have HI0 := Aside0.mk hI
 have HK := Aside0.mk (KeepBut.refl w g none)
 have HL := Aside0.mk hB.size
 clear hI
 have HW0 := Aside0.mk hB.size
 have HB := Aside0.mk hB
 clear hB
 have H : ((spec_l6Rd_pick.f k s0_0 s0_1 6).bind fun bt332 => (spec_l91Rows.l0 k (([] : List (List Int))) bt332.1 s0_0 bt332.2)) = some (r1, r2) := h
 clear h
 obtain ⟨y329, hy329⟩ : ∃ y_ : List (List Int), y_ = (([] : List (List Int))) := ⟨_, rfl⟩
 replace H : ((spec_l6Rd_pick.f k s0_0 s0_1 6).bind fun bt332 => (spec_l91Rows.l0 k y329 bt332.1 s0_0 bt332.2)) = some (r1, r2) := by first | (rw [hy329]; with_reducible exact H) | (have H2_ := (Option.bind_some _ _).symm.trans H; rw [hy329]; with_reducible exact H2_) | (have H2_ := (Option.bind_some _ _).symm.trans H; with_reducible exact H2_) | with_reducible exact H | (rw [hy329]; exact H) | exact H
 have Ny329 := Aside0.mk hy329
 clear hy329
 replace H := Option.bind_eq_some_iff.mp H
 obtain ⟨⟨t332, t333⟩, A20, H⟩ := H
 replace H : (spec_l91Rows.l0 k y329 t332 s0_0 t333) = some (r1, r2) := H
 have A2 := Aside0.mk A20
 clear A20
 have H' := Aside0.mk H
 clear H
 go_enter Try.func51, Try.ntmps51
 go_wp2_with (first | ((with_reducible refine gate_dst (N := 6) rfl ?_); refine Kd.N_lit (Kd.slice 3 (Kd.int .i64)) _ 28 ?hg (N' := 6) ?hd (xs := ([] : List (List Int))) (inner := []) (ok := (fun k_ => (w.heap.size ≤ k_) ∧ k_ ≠ g)) (okp := (fun k_ => (w.heap.size ≤ k_) ∧ k_ ≠ g)) ?hr ?hp (fun _ hk => hk) ((show ∀ k_, w.heap.size ≤ k_ → (fun k_ => (w.heap.size ≤ k_) ∧ k_ ≠ g) k_ from fun k_ hk => ⟨(Nat.le_trans (keep_size (w := w) (g := g) (row := none) z12_0) hk), IsS99.fresh z12_1 k_ hk⟩) _ (Nat.le_refl _)) (Below.refl _ _) (Nat.le_refl _) (by simp) ?_; (case hd => rfl); (case hg => rfl); (case hr => first | (go_simp; done) | (go_simp; rfl)); (case hp => exact (Reps.none _ _)); intro v330 w3 ho4 hb hg_ hnew_; clear hg_ hnew_; (first | rw [← Ny329.out] at ho4 | (simp only [Int.reduceToNat] at ho4; rw [← Ny329.out] at ho4)); have HO331 := Aside0.mk (Kd.N_lower ho4 (keep_size (w := w) (g := g) (row := none) z12_0)); replace HK := Aside0.mk (KeepBut.trans z12_0 (KeepBut.of_below hb g none) (.inl rfl)); replace HB := Aside0.mk (below_step z12_2 hb); replace HI0 := Aside0.mk (IsS99.below z12_1 hb); clear hb ho4) | ((with_reducible refine gate_callee (f := 78) rfl ?_); refine goesL_ (some 8) rfl rfl Try.func78 (by kernel_rfl) rfl #[.pointer (some ⟨g, 0, none⟩), .int .i64 6] rfl z12_4 ?_; (with_reducible refine (spec_l6Rd_pick.calls k g s0_0 s0_1 6 t332 t333 w0 _ ?side1 ?side2 A2.out).mono ?_); (case side1 => repeat (first | (with_reducible first | exact HI0.out | apply IsS99.alloc | apply IsS99.drewN | apply IsS99.drew | apply IsS99.set_1) | exact HI0.out)); (case side2 => repeat (first | (with_reducible first | exact HB.out | apply below_alloc | apply pw_below_drewN | apply below_drew1 | refine below_set ?_ (IsS99.ge HI0.out)) | exact HB.out)); rintro e w5 ⟨rfl, hi, hb, hk⟩; refine ⟨_, rfl, ?_⟩; replace HO331 := Aside0.mk (Kd.N_mono (Kd.N_keep (Kd.N_mono (ok := fun k_ => (((w.heap.size ≤ k_)) ∧ k_ ≠ g)) (by (with_reducible repeat (first | apply Kd.N_alloc | apply Kd.N_drewN | apply Kd.N_drew)); exact HO331.out) (fun k_ hk_ => (⟨hk_, hk_.2⟩ : _ ∧ k_ ≠ g))) hk (fun _ h => h.2)) (fun _ h => h.1)); replace HK := Aside0.mk (KeepBut.trans z12_0 hk (.inl rfl)); replace HB := Aside0.mk (hb); replace HI0 := Aside0.mk (hi); (try clear hb)))
 go_loopg [3, 4] k (fun kq v3 v4 w' => ∃ (x3_1 : List (List Int)) (x4_1 : Int) (x1001_1 : Int), v4 = .int .i64 x4_1 ∧ Aside0 (spec_l91Rows.l0 kq x3_1 x4_1 s0_0 x1001_1 = some (r1, r2)) ∧ Aside0 (kq ≤ k) ∧ Aside0 (Kd.N (Kd.slice 3 (Kd.int .i64)) 28 w' w.heap.size (fun k_ => (w.heap.size ≤ k_) ∧ k_ ≠ g) v3 x3_1) ∧ Aside0 (IsS99 w0 w' g s0_0 x1001_1) ∧ Aside0 (KeepBut w w' g none) ∧ Aside0 (Below w0.heap.size w0 w'))
 case atStart => exact ⟨(y329), (t332), (t333), z12_14, H', ⟨Nat.le_refl _⟩, ⟨by (with_reducible repeat (first | apply Kd.N_alloc | apply Kd.N_drewN | apply Kd.N_drew)); exact HO331.out⟩, ⟨z12_1⟩, ⟨z12_0⟩, ⟨z12_2⟩⟩
 case round =>
  clear H'
  obtain ⟨x3_1, x4_1, x1001_1, rfl, HA, HK1, HO_3, HI0, HK, HB⟩ := hrel
  cases gk with
  | zero => exact absurd HA.out (by simp [spec_l91Rows.l0])
  | succ k1 =>
   have H := HA.out
   clear HA
   simp only [spec_l91Rows.l0] at H
   by_cases c6 : x4_1 > 0
   ·rw [if_pos c6] at H
    have c6b0 : decide (0 < x4_1) = true := decide_eq_true c6
    clear c6
    replace H := Option.bind_eq_some_iff.mp H
    obtain ⟨⟨t334, t337⟩, A70, H⟩ := H
    replace H : (if (x3_1.length : Int) > 1 then ((spec_l6Rd_pick.f k1 s0_0 t337 3).bind fun bt338 => (if bt338.1 = 0 then (if 0 < (x3_1.length : Int) then ((spec_VecOk.f k1 (rd_L1 x3_1 0)).bind fun t341 => (if t341 = true then (if 1 < (x3_1.length : Int) then ((spec_VecOk.f k1 (rd_L1 x3_1 1)).bind fun t343 => (spec_l91Rows.j1 k1 x3_1 x4_1 t334 t343 s0_0 bt338.2)) else (none)) else (spec_l91Rows.j1 k1 x3_1 x4_1 t334 false s0_0 bt338.2))) else (none)) else (spec_l91Rows.j1 k1 x3_1 x4_1 t334 false s0_0 bt338.2))) else (spec_l91Rows.j1 k1 x3_1 x4_1 t334 false s0_0 t337)) = some (r1, r2) := H
    have A7 := Aside0.mk A70
    clear A70
    have HC8 := Aside0.mk H
    clear H
    go_upto_region 6 with (first | ((with_reducible refine gate_callee (f := 80) rfl ?_); refine goesL_ (some 14) rfl rfl Try.func80 (by kernel_rfl) rfl #[.pointer (some ⟨g, 0, none⟩)] rfl z12_4 ?_; (with_reducible refine (spec_l91Vec.calls k1 g s0_0 x1001_1 t334 t337 w0 _ ?side1 ?side2 A7.out).mono ?_); (case side1 => repeat (first | (with_reducible first | exact HI0.out | apply IsS99.alloc | apply IsS99.drewN | apply IsS99.drew | apply IsS99.set_1) | exact HI0.out)); (case side2 => repeat (first | (with_reducible first | exact HB.out | apply below_alloc | apply pw_below_drewN | apply below_drew1 | refine below_set ?_ (IsS99.ge HI0.out)) | exact HB.out)); rintro e w9 ⟨v335, rfl, ho0, hi, hb, hk⟩; refine ⟨_, rfl, ?_⟩; replace HO_3 := Aside0.mk (Kd.N_mono (Kd.N_told (Kd.N_oldK (Kd.N_mono (ok := fun k_ => (((w.heap.size ≤ k_)) ∧ k_ ≠ g)) z12_3 (fun k_ hk_ => (⟨hk_, hk_.2⟩ : _ ∧ k_ ≠ g))) hk) (Kd.Q_base ho0)) (fun _ h_ => h_.1)); have HO336 := Aside0.mk (Kd.Q_lower (Kd.Q_newM (M := fun k_ => (w.heap.size ≤ k_)) ho0 (keep_size (w := w) (g := g) (row := none) z12_0) (fun k_ h_ => h_)) (keep_size (w := w) (g := g) (row := none) z12_0)); replace HK := Aside0.mk (KeepBut.trans z12_0 hk (.inl rfl)); replace HB := Aside0.mk (hb); replace HI0 := Aside0.mk (hi); (try clear hb); (try clear ho0)))
    (try simp only [Act.put, List.setIfInBounds_toArray, List.set_cons_zero, List.set_cons_succ])
    go_cut [34] (fun v34 wc => ∃ (kq : Nat) (x34_7 : Bool) (x1001_7 : Int), v34 = .bool x34_7 ∧ Aside0 (spec_l91Rows.j1 kq x3_1 x4_1 t334 x34_7 s0_0 x1001_7 = some (r1, r2)) ∧ Aside0 (kq ≤ k1) ∧ Aside0 (Kd.N (Kd.slice 3 (Kd.int .i64)) 28 wc w.heap.size (fun k_ => (w.heap.size ≤ k_) ∧ some k_ ≠ (v335 : Value).ownBlock ∧ k_ ≠ g) u3 x3_1) ∧ Aside0 (Kd.Q (Kd.int .i64) 3 wc w.heap.size (fun k_ => (w.heap.size ≤ k_)) v335 t334) ∧ Aside0 (IsS99 w0 wc g s0_0 x1001_7) ∧ Aside0 (KeepBut w wc g none) ∧ Aside0 (Below w0.heap.size w0 wc))
    case first =>
     have H := HC8.out
     clear HC8
     by_cases c10 : (x3_1.length : Int) > 1
     ·rw [if_pos c10] at H
      have c10b0 : decide (1 < (x3_1.length : Int)) = true := decide_eq_true c10
      have c10b1 : decide (1 < x3_1.length) = true := decide_eq_true (by omega)
      clear c10
      (first | rw [c10b0] | (simp only [i64_w, i32_w]; rw [c10b0]) | skip)
      replace H := Option.bind_eq_some_iff.mp H
      obtain ⟨⟨t338, t339⟩, A110, H⟩ := H
      replace H : (if t338 = 0 then (if 0 < (x3_1.length : Int) then ((spec_VecOk.f k1 (rd_L1 x3_1 0)).bind fun t341 => (if t341 = true then (if 1 < (x3_1.length : Int) then ((spec_VecOk.f k1 (rd_L1 x3_1 1)).bind fun t343 => (spec_l91Rows.j1 k1 x3_1 x4_1 t334 t343 s0_0 t339)) else (none)) else (spec_l91Rows.j1 k1 x3_1 x4_1 t334 false s0_0 t339))) else (none)) else (spec_l91Rows.j1 k1 x3_1 x4_1 t334 false s0_0 t339)) = some (r1, r2) := H
      have A11 := Aside0.mk A110
      clear A110
      by_cases c12 : t338 = 0
      ·rw [if_pos c12] at H
       have c12b0 : (t338 == 0) = true := beq_iff_eq.mpr c12
       have c12b1 : (t338 != 0) = false := bne_eq_false_iff_eq.mpr c12
       clear c12
       obtain ⟨c13, H⟩ := ifP H
       have c13b0 : decide (0 < (x3_1.length : Int)) = true := decide_eq_true c13
       have c13b1 : decide (0 < x3_1.length) = true := decide_eq_true (by omega)
       clear c13
       replace H := Option.bind_eq_some_iff.mp H
       obtain ⟨t341, A140, H⟩ := H
       replace H : (if t341 = true then (if 1 < (x3_1.length : Int) then ((spec_VecOk.f k1 (rd_L1 x3_1 1)).bind fun t343 => (spec_l91Rows.j1 k1 x3_1 x4_1 t334 t343 s0_0 t339)) else (none)) else (spec_l91Rows.j1 k1 x3_1 x4_1 t334 false s0_0 t339)) = some (r1, r2) := H
       have A14 := Aside0.mk A140
       clear A140
       by_cases c15 : t341 = true
       ·subst c15
        have H1 : (if 1 < (x3_1.length : Int) then ((spec_VecOk.f k1 (rd_L1 x3_1 1)).bind fun t343 => (spec_l91Rows.j1 k1 x3_1 x4_1 t334 t343 s0_0 t339)) else (none)) = some (r1, r2) := by rw [if_pos rfl] at H; exact H
        clear H
        have H := H1
        clear H1
        obtain ⟨c16, H⟩ := ifP H
        have c16b0 : decide (1 < (x3_1.length : Int)) = true := decide_eq_true c16
        have c16b1 : decide (1 < x3_1.length) = true := decide_eq_true (by omega)
        clear c16
        replace H := Option.bind_eq_some_iff.mp H
        obtain ⟨t343, A170, H⟩ := H
        replace H : (spec_l91Rows.j1 k1 x3_1 x4_1 t334 t343 s0_0 t339) = some (r1, r2) := H
        have A17 := Aside0.mk A170
        clear A170
        have H' := Aside0.mk H
        clear H
        obtain ⟨Ao18, co18, eo18⟩ := Kd.N_slice HO_3.out
        subst eo18
        go_wp2_with (first | (go_at_call 78; (with_reducible refine (spec_l6Rd_pick.calls k1 g s0_0 t337 3 t338 t339 w0 _ ?side1 ?side2 A11.out).mono ?_); (case side1 => repeat (first | (with_reducible first | exact HI0.out | apply IsS99.alloc | apply IsS99.drewN | apply IsS99.drew | apply IsS99.set_1) | exact HI0.out)); (case side2 => repeat (first | (with_reducible first | exact HB.out | apply below_alloc | apply pw_below_drewN | apply below_drew1 | refine below_set ?_ (IsS99.ge HI0.out)) | exact HB.out)); rintro e w19 ⟨rfl, hi, hb, hk⟩; replace HO_3 := Aside0.mk (Kd.N_mono (Kd.N_keep (Kd.N_mono (ok := fun k_ => ((((w.heap.size ≤ k_)) ∧ k_ ≠ g) ∧ some k_ ≠ (v335 : Value).ownBlock)) z12_3 (fun k_ hk_ => (⟨hk_, hk_.1.2⟩ : _ ∧ k_ ≠ g))) hk (fun _ h => h.2)) (fun _ h => h.1)); replace HO336 := Aside0.mk (Kd.Q_mono (Kd.Q_keep (IsS99.apartQ (show IsS99 w0 _ g s0_0 t337 from by repeat (first | (with_reducible first | exact HI0.out | apply IsS99.alloc | apply IsS99.drewN | apply IsS99.drew | apply IsS99.set_1) | exact HI0.out)) z12_15 (by decide)) hk (fun _ h => h.2)) (fun _ h => h.1)); replace HK := Aside0.mk (KeepBut.trans z12_0 hk (.inl rfl)); replace HB := Aside0.mk (hb); replace HI0 := Aside0.mk (hi); (try clear hb); have p340 : 0 ≤ (0 : Int) := (by omega); have q340 : 0 < (x3_1.length : Int) := of_decide_eq_true z12_11; obtain ⟨ad340, A340_0, c340_0, e340, hx340_0, hl340_0, hi340_0⟩ := at_L1 (Kd.N_reads' HO_3.out).2.2 0 p340 q340; cases e340; obtain ⟨ce340, hce340, hMe340, hcc340⟩ := Kd.N_get HO_3.out [] 0 p340 (by first | exact q340 | exact of_decide_eq_true z12_11 | (have e_ := (Kd.N_reads' HO_3.out).1; omega)); obtain ⟨ua340_0, uc340_0, rfl, ul340_0, ge340_0⟩ := Kd.FK_slice_open hMe340; have hv340_0 := hcc340 0 _ rfl; rw [Nat.add_zero, show ((Kd.slice 3 (Kd.int .i64))).sz = 1 from rfl, Nat.mul_one] at hv340_0; replace hv340_0 := Option.some.inj (hv340_0.symm.trans hx340_0); injection hv340_0 with hva_ hvn_ hvc_; rw [hva_] at ge340_0; rw [hvc_] at ul340_0; have HL340_0 := Aside0.mk (show Kd.V (Kd.int .i64) 3 _ w.heap.size _ _ (rd_L1 x3_1 0) from Kd.V_mk ul340_0 ge340_0); clear hva_ hvn_ hvc_ ge340_0 ul340_0; clear hcc340 hce340; have qi340 : (0 < x3_1.length) = True := eq_true (by omega); (try rw [show ((0 : Int)).toNat = 0 from rfl] at hx340_0); (try rw [Addr.add_zero'] at hx340_0); have HR340_0 := Aside0.mk hi340_0; have HC340_0 := Aside0.mk hl340_0; clear hi340_0 hl340_0; replace p340 := eq_true p340; replace q340 := eq_true q340) | (go_at_call 58; (with_reducible refine (spec_VecOk.calls k1 _ _ (rd_L1 x3_1 0) true _ ?side1 ?side2 A14.out).mono ?_); (case side1 => repeat (first | exact z12_16 | (with_reducible refine Kd.C_alloc ?_ _) | (with_reducible refine Kd.C_drewN ?_ _) | (with_reducible refine Kd.C_drew ?_))); (case side2 => exact HC340_0.out); rintro e w' ⟨rfl, ⟨nd, rfl⟩⟩; have p342 : 0 ≤ (1 : Int) := (by omega); have q342 : 1 < (x3_1.length : Int) := of_decide_eq_true z12_11; obtain ⟨ad342, A342_0, c342_0, e342, hx342_0, hl342_0, hi342_0⟩ := at_L1 (Kd.N_reads' HO_3.out).2.2 1 p342 q342; obtain rfl : ad340 = ad342 := (by injection e342); obtain ⟨ce342, hce342, hMe342, hcc342⟩ := Kd.N_get HO_3.out [] 1 p342 (by first | exact q342 | exact of_decide_eq_true z12_11 | (have e_ := (Kd.N_reads' HO_3.out).1; omega)); obtain ⟨ua342_0, uc342_0, rfl, ul342_0, ge342_0⟩ := Kd.FK_slice_open hMe342; have hv342_0 := hcc342 0 _ rfl; rw [Nat.add_zero, show ((Kd.slice 3 (Kd.int .i64))).sz = 1 from rfl, Nat.mul_one] at hv342_0; replace hv342_0 := Option.some.inj (hv342_0.symm.trans hx342_0); injection hv342_0 with hva_ hvn_ hvc_; rw [hva_] at ge342_0; rw [hvc_] at ul342_0; have HL342_0 := Aside0.mk (show Kd.V (Kd.int .i64) 3 _ w.heap.size _ _ (rd_L1 x3_1 1) from Kd.V_mk ul342_0 ge342_0); clear hva_ hvn_ hvc_ ge342_0 ul342_0; clear hcc342 hce342; (try simp only [show (1 : Int).toNat = 1 from rfl, Nat.reduceMul, Nat.reduceEqDiff, Go.Addr.add, ↓reduceIte] at hx342_0); have qi342 : (1 < x3_1.length) = True := eq_true (by omega); (try rw [show ((1 : Int)).toNat = 1 from rfl] at hx342_0); have HR342_0 := Aside0.mk hi342_0; have HC342_0 := Aside0.mk hl342_0; clear hi342_0 hl342_0; replace p342 := eq_true p342; replace q342 := eq_true q342) | (go_at_call 58; (with_reducible refine (spec_VecOk.calls k1 _ _ (rd_L1 x3_1 1) t343 _ ?side1 ?side2 A17.out).mono ?_); (case side1 => repeat (first | exact (by repeat (first | (with_reducible exact HR342_0.out) | (with_reducible refine Kd.C_alloc ?_ _) | (with_reducible refine Kd.C_drewN ?_ _) | (with_reducible refine Kd.C_drew ?_) | exact HR342_0.out)) | (with_reducible refine Kd.C_alloc ?_ _) | (with_reducible refine Kd.C_drewN ?_ _) | (with_reducible refine Kd.C_drew ?_))); (case side2 => exact HC342_0.out); rintro e w' ⟨rfl, ⟨nd, rfl⟩⟩))
        go_meet
        case rel => exact ⟨_, (t343), (t339), z12_14, H', ⟨z12_17⟩, ⟨z12_10⟩, ⟨z12_12⟩, ⟨z12_1⟩, ⟨z12_0⟩, ⟨z12_2⟩⟩
       ·replace c15 := Bool.eq_false_iff.mpr c15
        subst c15
        have H1 : (spec_l91Rows.j1 k1 x3_1 x4_1 t334 false s0_0 t339) = some (r1, r2) := by rw [if_neg (show ¬ (false = true) by decide)] at H; exact H
        clear H
        have H := H1
        clear H1
        have H' := Aside0.mk H
        clear H
        obtain ⟨Ao20, co20, eo20⟩ := Kd.N_slice HO_3.out
        subst eo20
        go_wp2_with (first | (go_at_call 78; (with_reducible refine (spec_l6Rd_pick.calls k1 g s0_0 t337 3 t338 t339 w0 _ ?side1 ?side2 A11.out).mono ?_); (case side1 => repeat (first | (with_reducible first | exact HI0.out | apply IsS99.alloc | apply IsS99.drewN | apply IsS99.drew | apply IsS99.set_1) | exact HI0.out)); (case side2 => repeat (first | (with_reducible first | exact HB.out | apply below_alloc | apply pw_below_drewN | apply below_drew1 | refine below_set ?_ (IsS99.ge HI0.out)) | exact HB.out)); rintro e w21 ⟨rfl, hi, hb, hk⟩; replace HO_3 := Aside0.mk (Kd.N_mono (Kd.N_keep (Kd.N_mono (ok := fun k_ => ((((w.heap.size ≤ k_)) ∧ k_ ≠ g) ∧ some k_ ≠ (v335 : Value).ownBlock)) z12_3 (fun k_ hk_ => (⟨hk_, hk_.1.2⟩ : _ ∧ k_ ≠ g))) hk (fun _ h => h.2)) (fun _ h => h.1)); replace HO336 := Aside0.mk (Kd.Q_mono (Kd.Q_keep (IsS99.apartQ (show IsS99 w0 _ g s0_0 t337 from by repeat (first | (with_reducible first | exact HI0.out | apply IsS99.alloc | apply IsS99.drewN | apply IsS99.drew | apply IsS99.set_1) | exact HI0.out)) z12_15 (by decide)) hk (fun _ h => h.2)) (fun _ h => h.1)); replace HK := Aside0.mk (KeepBut.trans z12_0 hk (.inl rfl)); replace HB := Aside0.mk (hb); replace HI0 := Aside0.mk (hi); (try clear hb); have p340 : 0 ≤ (0 : Int) := (by omega); have q340 : 0 < (x3_1.length : Int) := of_decide_eq_true z12_11; obtain ⟨ad340, A340_0, c340_0, e340, hx340_0, hl340_0, hi340_0⟩ := at_L1 (Kd.N_reads' HO_3.out).2.2 0 p340 q340; cases e340; obtain ⟨ce340, hce340, hMe340, hcc340⟩ := Kd.N_get HO_3.out [] 0 p340 (by first | exact q340 | exact of_decide_eq_true z12_11 | (have e_ := (Kd.N_reads' HO_3.out).1; omega)); obtain ⟨ua340_0, uc340_0, rfl, ul340_0, ge340_0⟩ := Kd.FK_slice_open hMe340; have hv340_0 := hcc340 0 _ rfl; rw [Nat.add_zero, show ((Kd.slice 3 (Kd.int .i64))).sz = 1 from rfl, Nat.mul_one] at hv340_0; replace hv340_0 := Option.some.inj (hv340_0.symm.trans hx340_0); injection hv340_0 with hva_ hvn_ hvc_; rw [hva_] at ge340_0; rw [hvc_] at ul340_0; have HL340_0 := Aside0.mk (show Kd.V (Kd.int .i64) 3 _ w.heap.size _ _ (rd_L1 x3_1 0) from Kd.V_mk ul340_0 ge340_0); clear hva_ hvn_ hvc_ ge340_0 ul340_0; clear hcc340 hce340; have qi340 : (0 < x3_1.length) = True := eq_true (by omega); (try rw [show ((0 : Int)).toNat = 0 from rfl] at hx340_0); (try rw [Addr.add_zero'] at hx340_0); have HR340_0 := Aside0.mk hi340_0; have HC340_0 := Aside0.mk hl340_0; clear hi340_0 hl340_0; replace p340 := eq_true p340; replace q340 := eq_true q340) | (go_at_call 58; (with_reducible refine (spec_VecOk.calls k1 _ _ (rd_L1 x3_1 0) false _ ?side1 ?side2 A14.out).mono ?_); (case side1 => repeat (first | exact z12_16 | (with_reducible refine Kd.C_alloc ?_ _) | (with_reducible refine Kd.C_drewN ?_ _) | (with_reducible refine Kd.C_drew ?_))); (case side2 => exact HC340_0.out); rintro e w' ⟨rfl, ⟨nd, rfl⟩⟩))
        go_meet
        case rel => exact ⟨_, (false), (t339), z12_14, H', ⟨z12_17⟩, ⟨z12_10⟩, ⟨z12_12⟩, ⟨z12_1⟩, ⟨z12_0⟩, ⟨z12_2⟩⟩
      ·rw [if_neg c12] at H
       have c12b0 : (t338 == 0) = false := beq_eq_false_iff_ne.mpr c12
       have c12b1 : (t338 != 0) = true := bne_iff_ne.mpr c12
       have H' := Aside0.mk H
       clear H
       obtain ⟨Ao22, co22, eo22⟩ := Kd.N_slice HO_3.out
       subst eo22
       go_wp2_with (first | (go_at_call 78; (with_reducible refine (spec_l6Rd_pick.calls k1 g s0_0 t337 3 t338 t339 w0 _ ?side1 ?side2 A11.out).mono ?_); (case side1 => repeat (first | (with_reducible first | exact HI0.out | apply IsS99.alloc | apply IsS99.drewN | apply IsS99.drew | apply IsS99.set_1) | exact HI0.out)); (case side2 => repeat (first | (with_reducible first | exact HB.out | apply below_alloc | apply pw_below_drewN | apply below_drew1 | refine below_set ?_ (IsS99.ge HI0.out)) | exact HB.out)); rintro e w23 ⟨rfl, hi, hb, hk⟩; replace HO_3 := Aside0.mk (Kd.N_mono (Kd.N_keep (Kd.N_mono (ok := fun k_ => ((((w.heap.size ≤ k_)) ∧ k_ ≠ g) ∧ some k_ ≠ (v335 : Value).ownBlock)) z12_3 (fun k_ hk_ => (⟨hk_, hk_.1.2⟩ : _ ∧ k_ ≠ g))) hk (fun _ h => h.2)) (fun _ h => h.1)); replace HO336 := Aside0.mk (Kd.Q_mono (Kd.Q_keep (IsS99.apartQ (show IsS99 w0 _ g s0_0 t337 from by repeat (first | (with_reducible first | exact HI0.out | apply IsS99.alloc | apply IsS99.drewN | apply IsS99.drew | apply IsS99.set_1) | exact HI0.out)) z12_15 (by decide)) hk (fun _ h => h.2)) (fun _ h => h.1)); replace HK := Aside0.mk (KeepBut.trans z12_0 hk (.inl rfl)); replace HB := Aside0.mk (hb); replace HI0 := Aside0.mk (hi); (try clear hb)))
       go_meet
       case rel => exact ⟨_, (false), (t339), z12_14, H', ⟨z12_17⟩, ⟨z12_10⟩, ⟨z12_12⟩, ⟨z12_1⟩, ⟨z12_0⟩, ⟨z12_2⟩⟩
     ·rw [if_neg c10] at H
      have c10b0 : decide (1 < (x3_1.length : Int)) = false := decide_eq_false c10
      have c10b1 : decide (1 < x3_1.length) = false := decide_eq_false (by omega)
      clear c10
      (first | rw [c10b0] | (simp only [i64_w, i32_w]; rw [c10b0]) | skip)
      have H' := Aside0.mk H
      clear H
      obtain ⟨Ao24, co24, eo24⟩ := Kd.N_slice HO_3.out
      subst eo24
      go_wp2
      go_meet
      case rel => exact ⟨_, (false), (t337), z12_14, H', ⟨z12_17⟩, ⟨z12_10⟩, ⟨z12_12⟩, ⟨z12_1⟩, ⟨z12_0⟩, ⟨z12_2⟩⟩
    case rest =>
     clear HC8
     try clear c6
     try clear c6b0
     obtain ⟨kq, x34_7, x1001_7, rfl, HA, HJ7, HO_3, HO_5, HI0, HK, HB⟩ := hcut
     cases kq with
     | zero => exact absurd HA.out (by simp [spec_l91Rows.j1])
     | succ kj7 =>
      have H := HA.out
      clear HA
      simp only [spec_l91Rows.j1] at H
      by_cases c25 : x34_7 = true
      ·subst c25
       have H1 : (if 0 < (x3_1.length : Int) then ((spec_l6Rd_pick.f kj7 s0_0 x1001_7 31).bind fun bt345 => ((spec_l2Scale.f kj7 (rd_L1 x3_1 0) bt345.1).bind fun t347 => (if 1 < (x3_1.length : Int) then ((spec_l6Rd_pick.f kj7 s0_0 bt345.2 31).bind fun bt351 => ((spec_l2Scale.f kj7 (rd_L1 x3_1 1) bt351.1).bind fun t353 => ((spec_l2Sum.f kj7 t347 t353).bind fun t356 => (if x3_1.length < 5864062014805 then (spec_l91Rows.l0 kj7 (x3_1 ++ [t356]) (wrap64 (x4_1 - 1)) s0_0 bt351.2) else (none))))) else (none)))) else (none)) = some (r1, r2) := by rw [if_pos rfl] at H; exact H
       clear H
       have H := H1
       clear H1
       obtain ⟨c26, H⟩ := ifP H
       have c26b0 : decide (0 < (x3_1.length : Int)) = true := decide_eq_true c26
       have c26b1 : decide (0 < x3_1.length) = true := decide_eq_true (by omega)
       clear c26
       replace H := Option.bind_eq_some_iff.mp H
       obtain ⟨⟨t345, t346⟩, A270, H⟩ := H
       replace H : ((spec_l2Scale.f kj7 (rd_L1 x3_1 0) t345).bind fun t347 => (if 1 < (x3_1.length : Int) then ((spec_l6Rd_pick.f kj7 s0_0 t346 31).bind fun bt351 => ((spec_l2Scale.f kj7 (rd_L1 x3_1 1) bt351.1).bind fun t353 => ((spec_l2Sum.f kj7 t347 t353).bind fun t356 => (if x3_1.length < 5864062014805 then (spec_l91Rows.l0 kj7 (x3_1 ++ [t356]) (wrap64 (x4_1 - 1)) s0_0 bt351.2) else (none))))) else (none))) = some (r1, r2) := H
       have A27 := Aside0.mk A270
       clear A270
       replace H := Option.bind_eq_some_iff.mp H
       obtain ⟨t347, A280, H⟩ := H
       replace H : (if 1 < (x3_1.length : Int) then ((spec_l6Rd_pick.f kj7 s0_0 t346 31).bind fun bt351 => ((spec_l2Scale.f kj7 (rd_L1 x3_1 1) bt351.1).bind fun t353 => ((spec_l2Sum.f kj7 t347 t353).bind fun t356 => (if x3_1.length < 5864062014805 then (spec_l91Rows.l0 kj7 (x3_1 ++ [t356]) (wrap64 (x4_1 - 1)) s0_0 bt351.2) else (none))))) else (none)) = some (r1, r2) := H
       have A28 := Aside0.mk A280
       clear A280
       obtain ⟨c29, H⟩ := ifP H
       have c29b0 : decide (1 < (x3_1.length : Int)) = true := decide_eq_true c29
       have c29b1 : decide (1 < x3_1.length) = true := decide_eq_true (by omega)
       clear c29
       replace H := Option.bind_eq_some_iff.mp H
       obtain ⟨⟨t351, t352⟩, A300, H⟩ := H
       replace H : ((spec_l2Scale.f kj7 (rd_L1 x3_1 1) t351).bind fun t353 => ((spec_l2Sum.f kj7 t347 t353).bind fun t356 => (if x3_1.length < 5864062014805 then (spec_l91Rows.l0 kj7 (x3_1 ++ [t356]) (wrap64 (x4_1 - 1)) s0_0 t352) else (none)))) = some (r1, r2) := H
       have A30 := Aside0.mk A300
       clear A300
       replace H := Option.bind_eq_some_iff.mp H
       obtain ⟨t353, A310, H⟩ := H
       replace H : ((spec_l2Sum.f kj7 t347 t353).bind fun t356 => (if x3_1.length < 5864062014805 then (spec_l91Rows.l0 kj7 (x3_1 ++ [t356]) (wrap64 (x4_1 - 1)) s0_0 t352) else (none))) = some (r1, r2) := H
       have A31 := Aside0.mk A310
       clear A310
       replace H := Option.bind_eq_some_iff.mp H
       obtain ⟨t356, A320, H⟩ := H
       replace H : (if x3_1.length < 5864062014805 then (spec_l91Rows.l0 kj7 (x3_1 ++ [t356]) (wrap64 (x4_1 - 1)) s0_0 t352) else (none)) = some (r1, r2) := H
       have A32 := Aside0.mk A320
       clear A320
       obtain ⟨c33, H⟩ := ifP H
       have LMc33 := Aside0.mk c33
       clear c33
       obtain ⟨y359, hy359⟩ : ∃ y_ : List (List Int), y_ = (x3_1 ++ [t356]) := ⟨_, rfl⟩
       replace H : (spec_l91Rows.l0 kj7 y359 (wrap64 (x4_1 - 1)) s0_0 t352) = some (r1, r2) := by first | (rw [hy359]; with_reducible exact H) | (have H2_ := (Option.bind_some _ _).symm.trans H; rw [hy359]; with_reducible exact H2_) | (have H2_ := (Option.bind_some _ _).symm.trans H; with_reducible exact H2_) | with_reducible exact H | (rw [hy359]; exact H) | exact H
       have Ny359 := Aside0.mk hy359
       clear hy359
       have H' := Aside0.mk H
       clear H
       try go_wp2
       replace HO_3 := Aside0.mk (Kd.N_drew HO_3.out)
       replace HO_5 := Aside0.mk (Kd.Q_drew HO_5.out)
       replace HI0 := Aside0.mk (IsS99.drew HI0.out)
       replace HK := Aside0.mk (keep_drew HK.out)
       replace HB := Aside0.mk (below_drew1 HB.out)
       obtain ⟨Ao35, co35, eo35⟩ := Kd.N_slice HO_3.out
       (first | subst eo35 | (injection eo35 with f1_ f2_ f3_; have f4_ := f1_.symm; have f5_ := f3_.symm; clear f1_ f2_ f3_; subst f4_; subst f5_))
       have p344 : 0 ≤ (0 : Int) := (by omega)
       have q344 : 0 < (x3_1.length : Int) := of_decide_eq_true z12_11
       obtain ⟨ad344, A344_0, c344_0, e344, hx344_0, hl344_0, hi344_0⟩ := at_L1 (Kd.N_reads' HO_3.out).2.2 0 p344 q344
       cases e344
       obtain ⟨ce344, hce344, hMe344, hcc344⟩ := Kd.N_get HO_3.out [] 0 p344 (by first | exact q344 | exact of_decide_eq_true z12_11 | (have e_ := (Kd.N_reads' HO_3.out).1; omega))
       obtain ⟨ua344_0, uc344_0, rfl, ul344_0, ge344_0⟩ := Kd.FK_slice_open hMe344
       have hv344_0 := hcc344 0 _ rfl
       rw [Nat.add_zero, show ((Kd.slice 3 (Kd.int .i64))).sz = 1 from rfl, Nat.mul_one] at hv344_0
       replace hv344_0 := Option.some.inj (hv344_0.symm.trans hx344_0)
       injection hv344_0 with hva_ hvn_ hvc_
       rw [hva_] at ge344_0
       rw [hvc_] at ul344_0
       have HL344_0 := Aside0.mk (show Kd.V (Kd.int .i64) 3 _ w.heap.size _ _ (rd_L1 x3_1 0) from Kd.V_mk ul344_0 ge344_0)
       clear hva_ hvn_ hvc_ ge344_0 ul344_0
       clear hcc344 hce344
       have qi344 : (0 < x3_1.length) = True := eq_true (by omega)
       (try rw [show ((0 : Int)).toNat = 0 from rfl] at hx344_0)
       (try rw [Addr.add_zero'] at hx344_0)
       have HR344_0 := Aside0.mk hi344_0
       have HC344_0 := Aside0.mk hl344_0
       clear hi344_0 hl344_0
       replace p344 := eq_true p344
       replace q344 := eq_true q344
       have p350 : 0 ≤ (1 : Int) := (by omega)
       have q350 : 1 < (x3_1.length : Int) := of_decide_eq_true z12_11
       obtain ⟨ad350, A350_0, c350_0, e350, hx350_0, hl350_0, hi350_0⟩ := at_L1 (Kd.N_reads' HO_3.out).2.2 1 p350 q350
       obtain rfl : ad344 = ad350 := (by injection e350)
       obtain ⟨ce350, hce350, hMe350, hcc350⟩ := Kd.N_get HO_3.out [] 1 p350 (by first | exact q350 | exact of_decide_eq_true z12_11 | (have e_ := (Kd.N_reads' HO_3.out).1; omega))
       obtain ⟨ua350_0, uc350_0, rfl, ul350_0, ge350_0⟩ := Kd.FK_slice_open hMe350
       have hv350_0 := hcc350 0 _ rfl
       rw [Nat.add_zero, show ((Kd.slice 3 (Kd.int .i64))).sz = 1 from rfl, Nat.mul_one] at hv350_0
       replace hv350_0 := Option.some.inj (hv350_0.symm.trans hx350_0)
       injection hv350_0 with hva_ hvn_ hvc_
       rw [hva_] at ge350_0
       rw [hvc_] at ul350_0
       have HL350_0 := Aside0.mk (show Kd.V (Kd.int .i64) 3 _ w.heap.size _ _ (rd_L1 x3_1 1) from Kd.V_mk ul350_0 ge350_0)
       clear hva_ hvn_ hvc_ ge350_0 ul350_0
       clear hcc350 hce350
       (try simp only [show (1 : Int).toNat = 1 from rfl, Nat.reduceMul, Nat.reduceEqDiff, Go.Addr.add, ↓reduceIte] at hx350_0)
       have qi350 : (1 < x3_1.length) = True := eq_true (by omega)
       (try rw [show ((1 : Int)).toNat = 1 from rfl] at hx350_0)
       have HR350_0 := Aside0.mk hi350_0
       have HC350_0 := Aside0.mk hl350_0
       clear hi350_0 hl350_0
       replace p350 := eq_true p350
       replace q350 := eq_true q350
       refine start_ (n := 14) (S := fun w' => w'.cell? ad344 = some (.slice A344_0 (rd_L1 x3_1 0).length c344_0) ∧ w'.cell? ⟨ad344.block, ad344.off + 1, none⟩ = some (.slice A350_0 (rd_L1 x3_1 1).length c350_0)) (ds := []) #[false, false, false, false, false, false, false, false, false, false, false, false, false, false] (by kernel_rfl) rfl rfl ⟨hx344_0, hx350_0⟩ (fun hHeld => ?_); refine with_tabW spec_l91Rows.tab7 spec_l91Rows.bits7 (fun HT_ HW_ => ?_)
       generalize wc.drew = w34 at HO_3 HO_5 HI0 HK HB HL344_0 HL350_0 HR344_0 HR350_0 hx344_0 hx350_0 hHeld ⊢
       refine pZ 0 HT_ ?_
       refine pZ 1 HT_ ?_
       refine pZ 3 HT_ ?_
       refine pZ 6 HT_ ?_
       refine pZ 7 HT_ ?_
       refine pZ 9 HT_ ?_
       refine tZ 2 hHeld HT_ HW_ ?_
       refine tZ 8 hHeld HT_ HW_ ?_
       refine oZ 4 HT_ (fun K hK => ?_)
       refine goes_ Try.func78 (by kernel_rfl) rfl #[.pointer (some ⟨g, 0, none⟩), .int .i64 31] (by rfl) rfl rfl z12_4 ?_
       with_reducible refine (spec_l6Rd_pick.calls kj7 g s0_0 x1001_7 31 t345 t346 w0 _ ?side1 ?side2 A27.out).mono ?_
       (case side1 => repeat (first | (with_reducible first | exact HI0.out | apply IsS99.alloc | apply IsS99.drewN | apply IsS99.drew | apply IsS99.set_1) | exact HI0.out))
       (case side2 => repeat (first | (with_reducible first | exact HB.out | apply below_alloc | apply pw_below_drewN | apply below_drew1 | refine below_set ?_ (IsS99.ge HI0.out)) | exact HB.out))
       rintro e w36 ⟨rfl, hi, hb, hk⟩
       have HS0_ := keep_cell hk (hHeld.1) z12_5
       have HS1_ := keep_cell hk (hHeld.2) z12_5
       refine ⟨_, rfl, ?_⟩
       replace HO_3 := Aside0.mk (Kd.N_mono (Kd.N_keep (Kd.N_mono (ok := fun k_ => (((w.heap.size ≤ k_)) ∧ (some k_ ≠ (v335 : Value).ownBlock ∧ k_ ≠ g))) z12_3 (fun k_ hk_ => (⟨hk_, hk_.2.2⟩ : _ ∧ k_ ≠ g))) hk (fun _ h => h.2)) (fun _ h => h.1))
       replace HO_5 := Aside0.mk (Kd.Q_mono (Kd.Q_keep (IsS99.apartQ (show IsS99 w0 _ g s0_0 x1001_7 from by repeat (first | (with_reducible first | exact HI0.out | apply IsS99.alloc | apply IsS99.drewN | apply IsS99.drew | apply IsS99.set_1) | exact HI0.out)) z12_6 (by decide)) hk (fun _ h => h.2)) (fun _ h => h.1))
       replace HL344_0 := Aside0.mk (Kd.V_mono (Kd.V_keep (Kd.V_mono (ok := fun k_ => ((((w.heap.size ≤ k_)) ∧ (some k_ ≠ (v335 : Value).ownBlock ∧ k_ ≠ g)) ∧ some k_ ≠ (.slice (some ad344) x3_1.length co35 : Value).ownBlock)) z12_8 (fun k_ hk_ => (⟨hk_, hk_.1.2.2⟩ : _ ∧ k_ ≠ g))) hk (fun _ h => h.2)) (fun _ h => h.1))
       replace HL350_0 := Aside0.mk (Kd.V_mono (Kd.V_keep (Kd.V_mono (ok := fun k_ => ((((w.heap.size ≤ k_)) ∧ (some k_ ≠ (v335 : Value).ownBlock ∧ k_ ≠ g)) ∧ some k_ ≠ (.slice (some ad344) x3_1.length co35 : Value).ownBlock)) z12_9 (fun k_ hk_ => (⟨hk_, hk_.1.2.2⟩ : _ ∧ k_ ≠ g))) hk (fun _ h => h.2)) (fun _ h => h.1))
       replace HK := Aside0.mk (KeepBut.trans z12_0 hk (.inl rfl))
       replace HB := Aside0.mk (hb)
       replace HI0 := Aside0.mk (hi)
       (try clear hb)
       (try clear hb2)
       (try clear hk)
       (try clear hi)
       refine hK.out _ _ ⟨HS0_, HS1_⟩ (fun hHeld => ?_)
       clear hK K
       refine nZ ?_
       refine oZ 5 HT_ (fun K hK => ?_)
       refine goes_ Try.func91 (by kernel_rfl) rfl #[.slice A344_0 (rd_L1 x3_1 0).length c344_0, .int .i64 t345] (by rfl) rfl rfl z12_4 ?_
       with_reducible refine (spec_l2Scale.calls kj7 _ _ (rd_L1 x3_1 0) t345 t347 _ ?side1 ?side2 A28.out).mono ?_
       (case side1 => repeat (first | exact ((Kd.V_reads' z12_8).2.2) | (with_reducible refine Kd.C_alloc ?_ _) | (with_reducible refine Kd.C_drewN ?_ _) | (with_reducible refine Kd.C_drew ?_)))
       (case side2 => exact HC344_0.out)
       rintro e w37 ⟨v348, rfl, ho0, hb⟩
       have HS0_ := (hb.cell (World.block_lt_of_cell? _ _ (hHeld.1))).trans (hHeld.1)
       have HS1_ := (hb.cell (World.block_lt_of_cell? _ _ (hHeld.2))).trans (hHeld.2)
       refine ⟨_, rfl, ?_⟩
       replace HO_3 := Aside0.mk (Kd.N_elder' z12_3 (Kd.R_base ho0) hb)
       replace HL344_0 := Aside0.mk (Kd.V_elder' z12_8 (Kd.R_base ho0) hb)
       replace HL350_0 := Aside0.mk (Kd.V_elder' z12_9 (Kd.R_base ho0) hb)
       have HO349 := Aside0.mk (Kd.R_lower (Kd.R_new' (Kd.R_newM (M := fun k_ => (w.heap.size ≤ k_)) ho0 (keep_size (w := w) (g := g) (row := none) z12_0) (fun k_ h_ => h_)) (Kd.Q_lt z12_6)) (keep_size (w := w) (g := g) (row := none) z12_0))
       replace HO_5 := Aside0.mk (Kd.Q_elder' z12_6 (Kd.R_base ho0) hb)
       replace HK := Aside0.mk (KeepBut.trans z12_0 (KeepBut.of_below hb g none) (.inl rfl))
       replace HB := Aside0.mk (below_step z12_2 hb)
       replace HI0 := Aside0.mk (IsS99.below z12_1 hb)
       (try clear hb)
       (try clear hb2)
       (try clear hk)
       (try clear hi)
       (try clear ho0)
       refine hK.out _ _ ⟨HS0_, HS1_⟩ (fun hHeld => ?_)
       clear hK K
       refine nZ ?_
       refine oZ 10 HT_ (fun K hK => ?_)
       refine goes_ Try.func78 (by kernel_rfl) rfl #[.pointer (some ⟨g, 0, none⟩), .int .i64 31] (by rfl) rfl rfl z12_4 ?_
       with_reducible refine (spec_l6Rd_pick.calls kj7 g s0_0 t346 31 t351 t352 w0 _ ?side1 ?side2 A30.out).mono ?_
       (case side1 => repeat (first | (with_reducible first | exact HI0.out | apply IsS99.alloc | apply IsS99.drewN | apply IsS99.drew | apply IsS99.set_1) | exact HI0.out))
       (case side2 => repeat (first | (with_reducible first | exact HB.out | apply below_alloc | apply pw_below_drewN | apply below_drew1 | refine below_set ?_ (IsS99.ge HI0.out)) | exact HB.out))
       rintro e w38 ⟨rfl, hi, hb, hk⟩
       have HS0_ := keep_cell hk (hHeld.1) z12_5
       have HS1_ := keep_cell hk (hHeld.2) z12_5
       refine ⟨_, rfl, ?_⟩
       replace HO_3 := Aside0.mk (Kd.N_mono (Kd.N_keep (Kd.N_mono (ok := fun k_ => ((((w.heap.size ≤ k_)) ∧ (some k_ ≠ (v335 : Value).ownBlock ∧ k_ ≠ g)) ∧ some k_ ≠ (v348 : Value).ownBlock)) z12_3 (fun k_ hk_ => (⟨hk_, hk_.1.2.2⟩ : _ ∧ k_ ≠ g))) hk (fun _ h => h.2)) (fun _ h => h.1))
       replace HO_5 := Aside0.mk (Kd.Q_mono (Kd.Q_keep (IsS99.apartQ (show IsS99 w0 _ g s0_0 t346 from by repeat (first | (with_reducible first | exact HI0.out | apply IsS99.alloc | apply IsS99.drewN | apply IsS99.drew | apply IsS99.set_1) | exact HI0.out)) z12_6 (by decide)) hk (fun _ h => h.2)) (fun _ h => h.1))
       replace HL344_0 := Aside0.mk (Kd.V_mono (Kd.V_keep (Kd.V_mono (ok := fun k_ => (((((w.heap.size ≤ k_)) ∧ (some k_ ≠ (v335 : Value).ownBlock ∧ k_ ≠ g)) ∧ some k_ ≠ (.slice (some ad344) x3_1.length co35 : Value).ownBlock) ∧ some k_ ≠ (v348 : Value).ownBlock)) z12_8 (fun k_ hk_ => (⟨hk_, hk_.1.1.2.2⟩ : _ ∧ k_ ≠ g))) hk (fun _ h => h.2)) (fun _ h => h.1))
       replace HL350_0 := Aside0.mk (Kd.V_mono (Kd.V_keep (Kd.V_mono (ok := fun k_ => (((((w.heap.size ≤ k_)) ∧ (some k_ ≠ (v335 : Value).ownBlock ∧ k_ ≠ g)) ∧ some k_ ≠ (.slice (some ad344) x3_1.length co35 : Value).ownBlock) ∧ some k_ ≠ (v348 : Value).ownBlock)) z12_9 (fun k_ hk_ => (⟨hk_, hk_.1.1.2.2⟩ : _ ∧ k_ ≠ g))) hk (fun _ h => h.2)) (fun _ h => h.1))
       replace HO349 := Aside0.mk (Kd.R_mono (Kd.R_keep (IsS99.apart (show IsS99 w0 _ g s0_0 t346 from by repeat (first | (with_reducible first | exact HI0.out | apply IsS99.alloc | apply IsS99.drewN | apply IsS99.drew | apply IsS99.set_1) | exact HI0.out)) z12_7 (by decide)) hk (fun _ h => h.2)) (fun _ h => h.1))
       replace HK := Aside0.mk (KeepBut.trans z12_0 hk (.inl rfl))
       replace HB := Aside0.mk (hb)
       replace HI0 := Aside0.mk (hi)
       (try clear hb)
       (try clear hb2)
       (try clear hk)
       (try clear hi)
       refine hK.out _ _ ⟨HS0_, HS1_⟩ (fun hHeld => ?_)
       clear hK K
       refine nZ ?_
       refine oZ 11 HT_ (fun K hK => ?_)
       refine goes_ Try.func91 (by kernel_rfl) rfl #[.slice A350_0 (rd_L1 x3_1 1).length c350_0, .int .i64 t351] (by rfl) rfl rfl z12_4 ?_
       with_reducible refine (spec_l2Scale.calls kj7 _ _ (rd_L1 x3_1 1) t351 t353 _ ?side1 ?side2 A31.out).mono ?_
       (case side1 => repeat (first | exact ((Kd.V_reads' z12_9).2.2) | (with_reducible refine Kd.C_alloc ?_ _) | (with_reducible refine Kd.C_drewN ?_ _) | (with_reducible refine Kd.C_drew ?_)))
       (case side2 => exact HC350_0.out)
       rintro e w39 ⟨v354, rfl, ho0, hb⟩
       have HS0_ := (hb.cell (World.block_lt_of_cell? _ _ (hHeld.1))).trans (hHeld.1)
       have HS1_ := (hb.cell (World.block_lt_of_cell? _ _ (hHeld.2))).trans (hHeld.2)
       refine ⟨_, rfl, ?_⟩
       replace HO_3 := Aside0.mk (Kd.N_elder' z12_3 (Kd.R_base ho0) hb)
       replace HL344_0 := Aside0.mk (Kd.V_elder' z12_8 (Kd.R_base ho0) hb)
       replace HL350_0 := Aside0.mk (Kd.V_elder' z12_9 (Kd.R_base ho0) hb)
       have HO355 := Aside0.mk (Kd.R_lower (Kd.R_new' (Kd.R_new' (Kd.R_newM (M := fun k_ => (w.heap.size ≤ k_)) ho0 (keep_size (w := w) (g := g) (row := none) z12_0) (fun k_ h_ => h_)) (Kd.Q_lt z12_6)) (Kd.R_lt z12_7)) (keep_size (w := w) (g := g) (row := none) z12_0))
       replace HO_5 := Aside0.mk (Kd.Q_elder' z12_6 (Kd.R_base ho0) hb)
       replace HO349 := Aside0.mk (Kd.R_elder' z12_7 (Kd.R_base ho0) hb)
       replace HK := Aside0.mk (KeepBut.trans z12_0 (KeepBut.of_below hb g none) (.inl rfl))
       replace HB := Aside0.mk (below_step z12_2 hb)
       replace HI0 := Aside0.mk (IsS99.below z12_1 hb)
       (try clear hb)
       (try clear hb2)
       (try clear hk)
       (try clear hi)
       (try clear ho0)
       obtain ⟨Ao40, co40, eo40⟩ := Kd.R_slice HO349.out
       (first | subst eo40 | (injection eo40 with f1_ f2_ f3_; have f4_ := f1_.symm; have f5_ := f3_.symm; clear f1_ f2_ f3_; subst f4_; subst f5_))
       obtain ⟨Ao41, co41, eo41⟩ := Kd.R_slice HO355.out
       (first | subst eo41 | (injection eo41 with f1_ f2_ f3_; have f4_ := f1_.symm; have f5_ := f3_.symm; clear f1_ f2_ f3_; subst f4_; subst f5_))
       refine hK.out _ _ ⟨HS0_, HS1_⟩ (fun hHeld => ?_)
       clear hK K
       refine nZ ?_
       refine oZ 12 HT_ (fun K hK => ?_)
       refine goes_ Try.func90 (by kernel_rfl) rfl #[.slice Ao40 t347.length co40, .slice Ao41 t353.length co41] (by rfl) rfl rfl z12_4 ?_
       with_reducible refine (spec_l2Sum.calls kj7 _ _ t347 _ _ t353 t356 _ ?side1 ?side2 ?side3 ?side4 A32.out).mono ?_
       (case side1 => exact cZ ((Kd.R_reads' HO349.out).2.2))
       (case side2 => exact (Kd.R_reads' HO349.out).2.1)
       (case side3 => exact cZ ((Kd.R_reads' HO355.out).2.2))
       (case side4 => exact (Kd.R_reads' HO355.out).2.1)
       rintro e w42 ⟨v357, rfl, ho0, hb⟩
       have HS0_ := (hb.cell (World.block_lt_of_cell? _ _ (hHeld.1))).trans (hHeld.1)
       have HS1_ := (hb.cell (World.block_lt_of_cell? _ _ (hHeld.2))).trans (hHeld.2)
       refine ⟨_, rfl, ?_⟩
       replace HO_3 := Aside0.mk (Kd.N_elder' z12_3 (Kd.R_base ho0) hb)
       replace HL344_0 := Aside0.mk (Kd.V_elder' z12_8 (Kd.R_base ho0) hb)
       replace HL350_0 := Aside0.mk (Kd.V_elder' z12_9 (Kd.R_base ho0) hb)
       have HO358 := Aside0.mk (Kd.R_lower (Kd.R_new' (Kd.R_new' (Kd.R_new' (Kd.R_newM (M := fun k_ => (w.heap.size ≤ k_)) ho0 (keep_size (w := w) (g := g) (row := none) z12_0) (fun k_ h_ => h_)) (Kd.Q_lt z12_6)) (Kd.R_lt z12_7)) (Kd.R_lt z12_13)) (keep_size (w := w) (g := g) (row := none) z12_0))
       replace HO_5 := Aside0.mk (Kd.Q_elder' z12_6 (Kd.R_base ho0) hb)
       replace HO349 := Aside0.mk (Kd.R_elder' z12_7 (Kd.R_base ho0) hb)
       replace HO355 := Aside0.mk (Kd.R_elder' z12_13 (Kd.R_base ho0) hb)
       replace HK := Aside0.mk (KeepBut.trans z12_0 (KeepBut.of_below hb g none) (.inl rfl))
       replace HB := Aside0.mk (below_step z12_2 hb)
       replace HI0 := Aside0.mk (IsS99.below z12_1 hb)
       (try clear hb)
       (try clear hb2)
       (try clear hk)
       (try clear hi)
       (try clear ho0)
       refine hK.out _ _ ⟨HS0_, HS1_⟩ (fun hHeld => ?_)
       clear hK K
       refine nZ ?_
       refine pZ 13 HT_ ?_
       refine done_ (done_of HT_.out (by kernel_rfl)) ?_
       obtain ⟨Ao44, co44, eo44⟩ := Kd.R_slice HO358.out
       subst eo44
       try go_wp2_with (first | ((with_reducible refine gate_builtin (b := .append) (xs := #[.tmp 48, .tmp 50]) rfl ?_); at_builtin; refine Kd.N_append (Kd.slice 3 (Kd.int .i64)) w.heap.size rfl (.tmp 48) (.tmp 50) 23 28 (.slice none 0 0) 24 rfl Try.underlying23 info28 rfl (by decide) (by omega) (.slice (some ad344) x3_1.length co35) x3_1 t356 [.slice Ao44 t356.length co44] (fun k_ => (w.heap.size ≤ k_) ∧ some k_ ≠ (v335 : Value).ownBlock ∧ some k_ ≠ (.slice Ao40 t347.length co40 : Value).ownBlock ∧ some k_ ≠ (.slice Ao41 t353.length co41 : Value).ownBlock ∧ k_ ≠ g) (fun k_ => ((fun k_ => (w.heap.size ≤ k_) ∧ some k_ ≠ (v335 : Value).ownBlock ∧ some k_ ≠ (.slice Ao40 t347.length co40 : Value).ownBlock ∧ some k_ ≠ (.slice Ao41 t353.length co41 : Value).ownBlock ∧ k_ ≠ g)) k_ ∧ some k_ ≠ (.slice (some ad344) x3_1.length co35 : Value).ownBlock) rfl rfl ?aP (fun _ hk => hk) ?aF ?aO (Below.refl _ _) ?aS ?aL ?_; (case aP => exact (Kd.FK_slice_mk (Kd.R_reads' (Kd.R_mono (ok' := (fun k_ => ((fun k_ => (w.heap.size ≤ k_) ∧ some k_ ≠ (v335 : Value).ownBlock ∧ some k_ ≠ (.slice Ao40 t347.length co40 : Value).ownBlock ∧ some k_ ≠ (.slice Ao41 t353.length co41 : Value).ownBlock ∧ k_ ≠ g)) k_ ∧ some k_ ≠ (.slice (some ad344) x3_1.length co35 : Value).ownBlock)) (IsS99.apart HI0.out (Kd.R_apart' (HO358.out) (Kd.N_typed HO_3.out) (by decide)) (by decide)) (fun k_ hk => ⟨⟨hk.1.1.1.1.1.1, ⟨hk.1.1.1.1.2, ⟨hk.1.1.1.2, ⟨hk.1.1.2, hk.2⟩⟩⟩⟩, hk.1.2⟩))).2.1 (Kd.R_F (Kd.R_mono (ok' := (fun k_ => ((fun k_ => (w.heap.size ≤ k_) ∧ some k_ ≠ (v335 : Value).ownBlock ∧ some k_ ≠ (.slice Ao40 t347.length co40 : Value).ownBlock ∧ some k_ ≠ (.slice Ao41 t353.length co41 : Value).ownBlock ∧ k_ ≠ g)) k_ ∧ some k_ ≠ (.slice (some ad344) x3_1.length co35 : Value).ownBlock)) (IsS99.apart HI0.out (Kd.R_apart' (HO358.out) (Kd.N_typed HO_3.out) (by decide)) (by decide)) (fun k_ hk => ⟨⟨hk.1.1.1.1.1.1, ⟨hk.1.1.1.1.2, ⟨hk.1.1.1.2, ⟨hk.1.1.2, hk.2⟩⟩⟩⟩, hk.1.2⟩))))); (case aF => exact (fun k_ hk => ⟨(Nat.le_trans (keep_size (w := w) (g := g) (row := none) z12_0) hk), Kd.fresh' (Kd.Q_lt z12_6) k_ hk, Kd.fresh' (Kd.R_lt z12_7) k_ hk, Kd.fresh' (Kd.R_lt z12_13) k_ hk, IsS99.fresh z12_1 k_ hk⟩)); (case aO => exact (by (with_reducible repeat (first | apply Kd.N_alloc | apply Kd.N_drewN | apply Kd.N_drew)); exact Kd.N_mono HO_3.out (fun _ hk => ⟨hk.1.1.1.1, ⟨hk.1.1.1.2.1, ⟨hk.1.1.2, ⟨hk.1.2, hk.1.1.1.2.2⟩⟩⟩⟩))); (case aS => exact (keep_size (w := w) (g := g) (row := none) z12_0)); (case aL => have := LMc33.out; omega); intro v360 w43 ho hb hg hat; rw [← Ny359.out] at ho; have n0_ := Aside0.mk (Kd.Q_over' z12_6 (Kd.N_typed z12_3) (by decide) hg); have n1_ := Aside0.mk (IsS99.grown z12_1 hg (IsS99.own_neN HI0.out HO_3.out (by decide))); have n2_ := Aside0.mk (Kd.V_afterv (ok := (fun k_ => (w.heap.size ≤ k_) ∧ some k_ ≠ (v335 : Value).ownBlock ∧ some k_ ≠ (.slice Ao40 t347.length co40 : Value).ownBlock ∧ some k_ ≠ (.slice Ao41 t353.length co41 : Value).ownBlock ∧ some k_ ≠ (.slice Ao44 t356.length co44 : Value).ownBlock ∧ k_ ≠ g)) (by (with_reducible repeat (first | apply Kd.V_alloc | apply Kd.V_drewN | apply Kd.V_drew)); exact Kd.V_mono HL344_0.out (fun _ hk => ⟨⟨hk.1.1.1.1.1, ⟨hk.1.1.1.1.2.1, ⟨hk.1.1.2, ⟨hk.1.2, ⟨hk.2, hk.1.1.1.1.2.2⟩⟩⟩⟩⟩, hk.1.1.1.2⟩)) hg hat); have n3_ := Aside0.mk (Kd.V_afterv (ok := (fun k_ => (w.heap.size ≤ k_) ∧ some k_ ≠ (v335 : Value).ownBlock ∧ some k_ ≠ (.slice Ao40 t347.length co40 : Value).ownBlock ∧ some k_ ≠ (.slice Ao41 t353.length co41 : Value).ownBlock ∧ some k_ ≠ (.slice Ao44 t356.length co44 : Value).ownBlock ∧ k_ ≠ g)) (by (with_reducible repeat (first | apply Kd.V_alloc | apply Kd.V_drewN | apply Kd.V_drew)); exact Kd.V_mono HL350_0.out (fun _ hk => ⟨⟨hk.1.1.1.1.1, ⟨hk.1.1.1.1.2.1, ⟨hk.1.1.2, ⟨hk.1.2, ⟨hk.2, hk.1.1.1.1.2.2⟩⟩⟩⟩⟩, hk.1.1.1.2⟩)) hg hat); have n4_ := Aside0.mk (Kd.R_over' z12_7 (Kd.N_typed z12_3) (by decide) hg); have n5_ := Aside0.mk (Kd.R_over' z12_13 (Kd.N_typed z12_3) (by decide) hg); have n6_ := Aside0.mk (below_weaken z12_2 HL.out hb); have n7_ := Aside0.mk (KeepBut.trans z12_0 (KeepBut.of_grown hg g) (Kd.N_base2 HO_3.out)); have n8_ := Aside0.mk (ho); clear HO_5; clear HI0; clear HL344_0; clear HL350_0; clear HO349; clear HO355; clear HB; clear HK; clear HO_3; clear HO358; have HO_5 := n0_; have HI0 := n1_; have HL344_0 := n2_; have HL350_0 := n3_; have HO349 := n4_; have HO355 := n5_; have HB := n6_; have HK := n7_; have HO361 := n8_; clear n0_ n1_ n2_ n3_ n4_ n5_ n6_ n7_ n8_; clear ho hb hg hat))
       go_roundg kj7
       case measure => have := HK1.out; have := HJ7.out; omega
       case rel => exact ⟨(y359), (wrap64 (x4_1 - 1)), (t352), z12_14, H', ⟨by have := HK1.out; have := HJ7.out; omega⟩, ⟨by (with_reducible repeat (first | apply Kd.N_alloc | apply Kd.N_drewN | apply Kd.N_drew)); exact Kd.N_mono HO361.out (fun _ hk => ⟨hk.1, hk.2.2.2.2⟩)⟩, ⟨z12_1⟩, ⟨z12_0⟩, ⟨z12_2⟩⟩
      ·replace c25 := Bool.eq_false_iff.mpr c25
       subst c25
       have H1 : (if x3_1.length < 5864062014805 then (spec_l91Rows.l0 kj7 (x3_1 ++ [t334]) (wrap64 (x4_1 - 1)) s0_0 x1001_7) else (none)) = some (r1, r2) := by rw [if_neg (show ¬ (false = true) by decide)] at H; exact H
       clear H
       have H := H1
       clear H1
       obtain ⟨c45, H⟩ := ifP H
       have LMc45 := Aside0.mk c45
       clear c45
       obtain ⟨y362, hy362⟩ : ∃ y_ : List (List Int), y_ = (x3_1 ++ [t334]) := ⟨_, rfl⟩
       replace H : (spec_l91Rows.l0 kj7 y362 (wrap64 (x4_1 - 1)) s0_0 x1001_7) = some (r1, r2) := by first | (rw [hy362]; with_reducible exact H) | (have H2_ := (Option.bind_some _ _).symm.trans H; rw [hy362]; with_reducible exact H2_) | (have H2_ := (Option.bind_some _ _).symm.trans H; with_reducible exact H2_) | with_reducible exact H | (rw [hy362]; exact H) | exact H
       have Ny362 := Aside0.mk hy362
       clear hy362
       have H' := Aside0.mk H
       clear H
       obtain ⟨Ao47, co47, eo47, _⟩ := Kd.Q_slice HO_5.out
       subst eo47
       go_wp2_with (first | ((with_reducible refine gate_builtin (b := .append) (xs := #[.tmp 48, .tmp 50]) rfl ?_); at_builtin; refine Kd.N_append (Kd.slice 3 (Kd.int .i64)) w.heap.size rfl (.tmp 48) (.tmp 50) 23 28 (.slice none 0 0) 24 rfl Try.underlying23 info28 rfl (by decide) (by omega) u3 x3_1 t334 [.slice Ao47 t334.length co47] (fun k_ => (w.heap.size ≤ k_) ∧ k_ ≠ g) (fun k_ => ((fun k_ => (w.heap.size ≤ k_) ∧ k_ ≠ g)) k_ ∧ some k_ ≠ (u3 : Value).ownBlock) rfl rfl ?aP (fun _ hk => hk) ?aF ?aO (Below.refl _ _) ?aS ?aL ?_; (case aP => exact (Kd.FK_slice_mk (Kd.Q_reads' (Kd.Q_mono (ok' := (fun k_ => ((fun k_ => (w.heap.size ≤ k_) ∧ k_ ≠ g)) k_ ∧ some k_ ≠ (u3 : Value).ownBlock)) (IsS99.apartQ HI0.out (Kd.Q_apart' (HO_5.out) (Kd.N_typed HO_3.out) (by decide)) (by decide)) (fun k_ hk => ⟨⟨hk.1.1, hk.2⟩, hk.1.2⟩))).2.1 (Kd.Q_F (Kd.Q_mono (ok' := (fun k_ => ((fun k_ => (w.heap.size ≤ k_) ∧ k_ ≠ g)) k_ ∧ some k_ ≠ (u3 : Value).ownBlock)) (IsS99.apartQ HI0.out (Kd.Q_apart' (HO_5.out) (Kd.N_typed HO_3.out) (by decide)) (by decide)) (fun k_ hk => ⟨⟨hk.1.1, hk.2⟩, hk.1.2⟩))))); (case aF => exact (fun k_ hk => ⟨(Nat.le_trans (keep_size (w := w) (g := g) (row := none) z12_0) hk), IsS99.fresh z12_1 k_ hk⟩)); (case aO => exact (by (with_reducible repeat (first | apply Kd.N_alloc | apply Kd.N_drewN | apply Kd.N_drew)); exact Kd.N_mono HO_3.out (fun _ hk => ⟨hk.1, hk.2.2⟩))); (case aS => exact (keep_size (w := w) (g := g) (row := none) z12_0)); (case aL => have := LMc45.out; omega); intro v363 w46 ho hb hg hat; rw [← Ny362.out] at ho; have n0_ := Aside0.mk (IsS99.grown z12_1 hg (IsS99.own_neN HI0.out HO_3.out (by decide))); have n1_ := Aside0.mk (below_weaken z12_2 HL.out hb); have n2_ := Aside0.mk (KeepBut.trans z12_0 (KeepBut.of_grown hg g) (Kd.N_base2 HO_3.out)); have n3_ := Aside0.mk (ho); clear HI0; clear HB; clear HK; clear HO_3; clear HO_5; have HI0 := n0_; have HB := n1_; have HK := n2_; have HO364 := n3_; clear n0_ n1_ n2_ n3_; clear ho hb hg hat))
       go_roundg kj7
       case measure => have := HK1.out; have := HJ7.out; omega
       case rel => exact ⟨(y362), (wrap64 (x4_1 - 1)), (x1001_7), z12_14, H', ⟨by have := HK1.out; have := HJ7.out; omega⟩, ⟨by (with_reducible repeat (first | apply Kd.N_alloc | apply Kd.N_drewN | apply Kd.N_drew)); exact HO364.out⟩, ⟨z12_1⟩, ⟨z12_0⟩, ⟨z12_2⟩⟩
   ·rw [if_neg c6] at H
    have c6b0 : decide (0 < x4_1) = false := decide_eq_false c6
    clear c6
    replace H := Option.bind_eq_some_iff.mp H
    obtain ⟨⟨t365, t366⟩, A480, H⟩ := H
    replace H : (if t365 = 0 then (spec_l91Rows.l1 k1 x3_1 s0_0 t366) else (some (x3_1, t366))) = some (r1, r2) := H
    have A48 := Aside0.mk A480
    clear A480
    by_cases c49 : t365 = 0
    ·rw [if_pos c49] at H
     have c49b0 : (t365 == 0) = true := beq_iff_eq.mpr c49
     have c49b1 : (t365 != 0) = false := bne_eq_false_iff_eq.mpr c49
     clear c49
     have H' := Aside0.mk H
     clear H
     go_wp2_with (first | ((with_reducible refine gate_callee (f := 78) rfl ?_); refine goesL_ (some 53) rfl rfl Try.func78 (by kernel_rfl) rfl #[.pointer (some ⟨g, 0, none⟩), .int .i64 40] rfl z12_4 ?_; (with_reducible refine (spec_l6Rd_pick.calls k1 g s0_0 x1001_1 40 t365 t366 w0 _ ?side1 ?side2 A48.out).mono ?_); (case side1 => repeat (first | (with_reducible first | exact HI0.out | apply IsS99.alloc | apply IsS99.drewN | apply IsS99.drew | apply IsS99.set_1) | exact HI0.out)); (case side2 => repeat (first | (with_reducible first | exact HB.out | apply below_alloc | apply pw_below_drewN | apply below_drew1 | refine below_set ?_ (IsS99.ge HI0.out)) | exact HB.out)); rintro e w50 ⟨rfl, hi, hb, hk⟩; refine ⟨_, rfl, ?_⟩; replace HO_3 := Aside0.mk (Kd.N_mono (Kd.N_keep (Kd.N_mono (ok := fun k_ => (((w.heap.size ≤ k_)) ∧ k_ ≠ g)) z12_3 (fun k_ hk_ => (⟨hk_, hk_.2⟩ : _ ∧ k_ ≠ g))) hk (fun _ h => h.2)) (fun _ h => h.1)); replace HK := Aside0.mk (KeepBut.trans z12_0 hk (.inl rfl)); replace HB := Aside0.mk (hb); replace HI0 := Aside0.mk (hi); (try clear hb)))
     go_loopg [3] k1 (fun kq v3 w' => ∃ (x3_2 : List (List Int)), Aside0 (spec_l91Rows.l1 kq x3_2 s0_0 t366 = some (r1, r2)) ∧ Aside0 (kq ≤ k1) ∧ Aside0 (Kd.N (Kd.slice 3 (Kd.int .i64)) 28 w' w.heap.size (fun k_ => (w.heap.size ≤ k_) ∧ k_ ≠ g) v3 x3_2) ∧ Aside0 (IsS99 w0 w' g s0_0 t366) ∧ Aside0 (KeepBut w w' g none) ∧ Aside0 (Below w0.heap.size w0 w'))
     case atStart => exact ⟨(x3_1), H', ⟨Nat.le_refl _⟩, ⟨z12_3⟩, ⟨z12_1⟩, ⟨z12_0⟩, ⟨z12_2⟩⟩
     case round =>
      clear H'
      try clear c6
      try clear c6b0
      try clear c49
      try clear c49b0
      try clear c49b1
      obtain ⟨x3_2, HA, HK2, HO_3, HI0, HK, HB⟩ := hrel
      cases gk with
      | zero => exact absurd HA.out (by simp [spec_l91Rows.l1])
      | succ k2 =>
       have H := HA.out
       clear HA
       simp only [spec_l91Rows.l1] at H
       by_cases c51 : (x3_2.length : Int) ≤ 8
       ·rw [if_pos c51] at H
        have c51b0 : decide ((x3_2.length : Int) ≤ 8) = true := decide_eq_true c51
        have c51b1 : decide (x3_2.length ≤ 8) = true := decide_eq_true (by omega)
        clear c51
        obtain ⟨y367, hy367⟩ : ∃ y_ : List Int, y_ = (([1, 2, 3, 4] : List Int)) := ⟨_, rfl⟩
        replace H : (if x3_2.length < 5864062014805 then (spec_l91Rows.l1 k2 (x3_2 ++ [y367]) s0_0 t366) else (none)) = some (r1, r2) := by first | (rw [hy367]; with_reducible exact H) | (have H2_ := (Option.bind_some _ _).symm.trans H; rw [hy367]; with_reducible exact H2_) | (have H2_ := (Option.bind_some _ _).symm.trans H; with_reducible exact H2_) | with_reducible exact H | (rw [hy367]; exact H) | exact H
        have Ny367 := Aside0.mk hy367
        clear hy367
        obtain ⟨c52, H⟩ := ifP H
        have LMc52 := Aside0.mk c52
        clear c52
        obtain ⟨y370, hy370⟩ : ∃ y_ : List (List Int), y_ = (x3_2 ++ [y367]) := ⟨_, rfl⟩
        replace H : (spec_l91Rows.l1 k2 y370 s0_0 t366) = some (r1, r2) := by first | (rw [hy370]; with_reducible exact H) | (have H2_ := (Option.bind_some _ _).symm.trans H; rw [hy370]; with_reducible exact H2_) | (have H2_ := (Option.bind_some _ _).symm.trans H; with_reducible exact H2_) | with_reducible exact H | (rw [hy370]; exact H) | exact H
        have Ny370 := Aside0.mk hy370
        clear hy370
        have H' := Aside0.mk H
        clear H
        obtain ⟨Ao53, co53, eo53⟩ := Kd.N_slice HO_3.out
        subst eo53
        go_wp2_with (first | ((with_reducible refine gate_dst (N := 59) rfl ?_); refine Kd.R_lit (Kd.int .i64) _ 3 ?hg (N := 59) ?hd (xs := ([1, 2, 3, 4] : List Int)) (inner := [.int .i64 1, .int .i64 2, .int .i64 3, .int .i64 4]) (ok := fun _ => True) (okp := fun _ => True) ?hr ?hp (fun _ hk => hk) trivial (Below.refl _ _) (Nat.le_refl _) (by simp) ?_; (case hd => rfl); (case hg => rfl); (case hr => first | (go_simp; done) | (go_simp; rfl)); (case hp => exact (Reps.one (show Kd.M (Kd.int .i64) _ _ _ 1 [.int .i64 1] from rfl) (Reps.one (show Kd.M (Kd.int .i64) _ _ _ 2 [.int .i64 2] from rfl) (Reps.one (show Kd.M (Kd.int .i64) _ _ _ 3 [.int .i64 3] from rfl) (Reps.one (show Kd.M (Kd.int .i64) _ _ _ 4 [.int .i64 4] from rfl) (Reps.none _ _)))))); intro v368 w54 ho55 hb hg_ hnew_; clear hg_ hnew_; (first | rw [← Ny367.out] at ho55 | (simp only [Int.reduceToNat] at ho55; rw [← Ny367.out] at ho55)); replace HO_3 := Aside0.mk (Kd.N_elder' z12_3 (Kd.R_base ho55) hb); have HO369 := Aside0.mk (Kd.R_lower (Kd.R_newM (M := fun k_ => (w.heap.size ≤ k_)) ho55 (keep_size (w := w) (g := g) (row := none) z12_0) (fun k_ h_ => h_)) (keep_size (w := w) (g := g) (row := none) z12_0)); replace HK := Aside0.mk (KeepBut.trans z12_0 (KeepBut.of_below hb g none) (.inl rfl)); replace HB := Aside0.mk (below_step z12_2 hb); replace HI0 := Aside0.mk (IsS99.below z12_1 hb); clear hb ho55; obtain ⟨Ao57, co57, eo57⟩ := Kd.R_slice HO369.out; subst eo57) | ((with_reducible refine gate_builtin (b := .append) (xs := #[.tmp 58, .tmp 60]) rfl ?_); at_builtin; refine Kd.N_append (Kd.slice 3 (Kd.int .i64)) w.heap.size rfl (.tmp 58) (.tmp 60) 23 28 (.slice none 0 0) 24 rfl Try.underlying23 info28 rfl (by decide) (by omega) (.slice Ao53 x3_2.length co53) x3_2 y367 [.slice Ao57 y367.length co57] (fun k_ => (w.heap.size ≤ k_) ∧ k_ ≠ g) (fun k_ => ((fun k_ => (w.heap.size ≤ k_) ∧ k_ ≠ g)) k_ ∧ some k_ ≠ (.slice Ao53 x3_2.length co53 : Value).ownBlock) rfl rfl ?aP (fun _ hk => hk) ?aF ?aO (Below.refl _ _) ?aS ?aL ?_; (case aP => exact (Kd.FK_slice_mk (Kd.R_reads' (Kd.R_mono (ok' := (fun k_ => ((fun k_ => (w.heap.size ≤ k_) ∧ k_ ≠ g)) k_ ∧ some k_ ≠ (.slice Ao53 x3_2.length co53 : Value).ownBlock)) (IsS99.apart HI0.out (Kd.R_apart' (HO369.out) (Kd.N_typed HO_3.out) (by decide)) (by decide)) (fun k_ hk => ⟨⟨hk.1.1.1, hk.2⟩, hk.1.2⟩))).2.1 (Kd.R_F (Kd.R_mono (ok' := (fun k_ => ((fun k_ => (w.heap.size ≤ k_) ∧ k_ ≠ g)) k_ ∧ some k_ ≠ (.slice Ao53 x3_2.length co53 : Value).ownBlock)) (IsS99.apart HI0.out (Kd.R_apart' (HO369.out) (Kd.N_typed HO_3.out) (by decide)) (by decide)) (fun k_ hk => ⟨⟨hk.1.1.1, hk.2⟩, hk.1.2⟩))))); (case aF => exact (fun k_ hk => ⟨(Nat.le_trans (keep_size (w := w) (g := g) (row := none) z12_0) hk), IsS99.fresh z12_1 k_ hk⟩)); (case aO => exact (by (with_reducible repeat (first | apply Kd.N_alloc | apply Kd.N_drewN | apply Kd.N_drew)); exact Kd.N_mono HO_3.out (fun _ hk => ⟨hk.1.1, hk.1.2⟩))); (case aS => exact (keep_size (w := w) (g := g) (row := none) z12_0)); (case aL => have := LMc52.out; omega); intro v371 w56 ho hb hg hat; rw [← Ny370.out] at ho; have n0_ := Aside0.mk (IsS99.grown z12_1 hg (IsS99.own_neN HI0.out HO_3.out (by decide))); have n1_ := Aside0.mk (below_weaken z12_2 HL.out hb); have n2_ := Aside0.mk (KeepBut.trans z12_0 (KeepBut.of_grown hg g) (Kd.N_base2 HO_3.out)); have n3_ := Aside0.mk (ho); clear HI0; clear HB; clear HK; clear HO_3; clear HO369; have HI0 := n0_; have HB := n1_; have HK := n2_; have HO372 := n3_; clear n0_ n1_ n2_ n3_; clear ho hb hg hat))
        go_roundg k2
        case measure => have := HK1.out; have := HK2.out; omega
        case rel => exact ⟨(y370), H', ⟨by have := HK1.out; have := HK2.out; omega⟩, ⟨by (with_reducible repeat (first | apply Kd.N_alloc | apply Kd.N_drewN | apply Kd.N_drew)); exact HO372.out⟩, ⟨z12_1⟩, ⟨z12_0⟩, ⟨z12_2⟩⟩
       ·rw [if_neg c51] at H
        have c51b0 : decide ((x3_2.length : Int) ≤ 8) = false := decide_eq_false c51
        have c51b1 : decide (x3_2.length ≤ 8) = false := decide_eq_false (by omega)
        clear c51
        simp only [Option.some.injEq, Prod.mk.injEq] at H
        obtain ⟨rfl, rfl⟩ := H
        obtain ⟨Ao58, co58, eo58⟩ := Kd.N_slice HO_3.out
        subst eo58
        go_wp2
        go_ret
        exact ⟨_, by first | rfl | (simp [errW_none, errW_some] <;> rfl) | (simp [*, errW_none, errW_some] <;> rfl), z12_18, z12_1, z12_2, z12_0⟩
    ·rw [if_neg c49] at H
     have c49b0 : (t365 == 0) = false := beq_eq_false_iff_ne.mpr c49
     have c49b1 : (t365 != 0) = true := bne_iff_ne.mpr c49
     simp only [Option.some.injEq, Prod.mk.injEq] at H
     obtain ⟨rfl, rfl⟩ := H
     go_wp2_with (first | ((with_reducible refine gate_callee (f := 78) rfl ?_); refine goesL_ (some 53) rfl rfl Try.func78 (by kernel_rfl) rfl #[.pointer (some ⟨g, 0, none⟩), .int .i64 40] rfl z12_4 ?_; (with_reducible refine (spec_l6Rd_pick.calls k1 g s0_0 x1001_1 40 t365 t366 w0 _ ?side1 ?side2 A48.out).mono ?_); (case side1 => repeat (first | (with_reducible first | exact HI0.out | apply IsS99.alloc | apply IsS99.drewN | apply IsS99.drew | apply IsS99.set_1) | exact HI0.out)); (case side2 => repeat (first | (with_reducible first | exact HB.out | apply below_alloc | apply pw_below_drewN | apply below_drew1 | refine below_set ?_ (IsS99.ge HI0.out)) | exact HB.out)); rintro e w59 ⟨rfl, hi, hb, hk⟩; refine ⟨_, rfl, ?_⟩; replace HO_3 := Aside0.mk (Kd.N_mono (Kd.N_keep (Kd.N_mono (ok := fun k_ => (((w.heap.size ≤ k_)) ∧ k_ ≠ g)) z12_3 (fun k_ hk_ => (⟨hk_, hk_.2⟩ : _ ∧ k_ ≠ g))) hk (fun _ h => h.2)) (fun _ h => h.1)); replace HK := Aside0.mk (KeepBut.trans z12_0 hk (.inl rfl)); replace HB := Aside0.mk (hb); replace HI0 := Aside0.mk (hi); (try clear hb)))
     go_ret
     exact ⟨_, by first | rfl | (simp [errW_none, errW_some] <;> rfl) | (simp [*, errW_none, errW_some] <;> rfl), z12_18, z12_1, z12_2, z12_0⟩

end Go.Proofs.Ytamaejafddmagaa.PA
