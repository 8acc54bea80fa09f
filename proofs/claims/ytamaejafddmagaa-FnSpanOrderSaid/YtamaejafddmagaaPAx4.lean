-- Written by a program of this session (after the manner of the kit's print, several laws in one text).
import Derived.Test.YtamaejafddmagaaPAx0
import Derived.Test.YtamaejafddmagaaPAx1
import Derived.Test.YtamaejafddmagaaPAx2
import Derived.Test.YtamaejafddmagaaPAx3
import Derived.Test.YtamaejafddmagaaGw
import Derived.Test.YtamaejafddmagaaGm
namespace Go.Proofs.Ytamaejafddmagaa.PA
open Go.RowKit Go.Proofs.YtamaejafddmagaaW.PrintWords Go.Proofs.YtamaejafddmagaaW.PrintLast Go.Proofs.YtamaejafddmagaaW.PrintMore
attribute [local go_sem] max2_int min2_int max_two min_two max_three min_three max_four min_four   -- for this text's walks alone
set_option linter.unusedVariables false
set_option linter.unusedSimpArgs false

/-! ### spec_l91Rows: function 51 -/
theorem z4_0 {p : Prop} (h : p := by repeat (first | (with_reducible first | exact HK.out | apply KeepBut.set_ | apply keep_drewN | apply keep_drew | apply keep_alloc) | exact HK.out)) : p := h
theorem z4_1 {p : Prop} (h : p := by repeat (first | (with_reducible first | exact HI0.out | apply IsS99.alloc | apply IsS99.drewN | apply IsS99.drew | apply IsS99.set_1) | exact HI0.out)) : p := h
theorem z4_2 {p : Prop} (h : p := by repeat (first | (with_reducible first | exact HB.out | apply below_alloc | apply pw_below_drewN | apply below_drew1 | refine below_set ?_ (IsS99.ge HI0.out)) | exact HB.out)) : p := h
theorem z4_3 {p : Prop} (h : p := by (with_reducible repeat (first | apply Kd.N_alloc | apply Kd.N_drewN | apply Kd.N_drew)); exact HO_3.out) : p := h
theorem z4_4 {p : Prop} (h : p := by (try simp only [List.map_toArray, List.map_cons, List.map_nil]); first | done | rfl | (simp only [List.length_drop, List.length_take]; rfl)) : p := h
theorem z4_5 {p : Prop} (h : p := by first | (rw [add_block]; exact Kd.own_blk (IsS99.own_neN HI0.out HO_3.out (by decide))) | (show (Addr.add _ _).block ≠ _; rw [add_block]; exact Kd.own_blk (IsS99.own_neN HI0.out HO_3.out (by decide))) | exact Kd.own_blk (IsS99.own_neN HI0.out HO_3.out (by decide)) | (have hz_ := Kd.own_blk (IsS99.own_neN HI0.out HO_3.out (by decide)); exact hz_)) : p := h
theorem z4_6 {p : Prop} (h : p := by (with_reducible repeat (first | apply Kd.Q_alloc | apply Kd.Q_drewN | apply Kd.Q_drew)); exact HO_5.out) : p := h
theorem z4_7 {p : Prop} (h : p := by (with_reducible repeat (first | apply Kd.R_alloc | apply Kd.R_drewN | apply Kd.R_drew)); exact HO174.out) : p := h
theorem z4_8 {p : Prop} (h : p := by (with_reducible repeat (first | apply Kd.V_alloc | apply Kd.V_drewN | apply Kd.V_drew)); exact HL169_0.out) : p := h
theorem z4_9 {p : Prop} (h : p := by (with_reducible repeat (first | apply Kd.V_alloc | apply Kd.V_drewN | apply Kd.V_drew)); exact HL175_0.out) : p := h
theorem z4_10 {p : Prop} (h : p := by (with_reducible repeat (first | apply Kd.N_alloc | apply Kd.N_drewN | apply Kd.N_drew)); exact Kd.N_mono HO_3.out (fun _ hk => ⟨hk.1.1, ⟨hk.2, hk.1.2⟩⟩)) : p := h
theorem z4_11 {p : Prop} (h : p := by first | (with_reducible assumption) | assumption) : p := h
theorem z4_12 {p : Prop} (h : p := by (with_reducible repeat (first | apply Kd.Q_alloc | apply Kd.Q_drewN | apply Kd.Q_drew)); exact Kd.Q_mono HO161.out (fun _ hk => hk.1)) : p := h
theorem z4_13 {p : Prop} (h : p := by (with_reducible repeat (first | apply Kd.R_alloc | apply Kd.R_drewN | apply Kd.R_drew)); exact HO180.out) : p := h
theorem z4_14 {p : Prop} (h : p := by first | rfl | (simp; done) | (simp [*]; done)) : p := h
theorem z4_15 {p : Prop} (h : p := by (with_reducible repeat (first | apply Kd.Q_alloc | apply Kd.Q_drewN | apply Kd.Q_drew)); exact HO161.out) : p := h
theorem z4_16 {p : Prop} (h : p := by repeat (first | (with_reducible exact HR165_0.out) | (with_reducible refine Kd.C_alloc ?_ _) | (with_reducible refine Kd.C_drewN ?_ _) | (with_reducible refine Kd.C_drew ?_) | exact HR165_0.out)) : p := h
theorem z4_17 {p : Prop} (h : p := by have := HK1.out; first | omega | exact Nat.le_refl _) : p := h
theorem z4_18 {p : Prop} (h : p := by (with_reducible repeat (first | apply Kd.N_alloc | apply Kd.N_drewN | apply Kd.N_drew)); exact Kd.N_mono HO_3.out (fun _ hk => hk.1)) : p := h
mutual
def spec_l91Rows.l0 : Nat → List (List Int) → Int → List Int → Int → Option ((List (List Int)) × Int)
  | 0, _, _, _, _ => none
  | k + 1, x3, x4, x1000, x1001 => if x4 > 0 then ((spec_l91Vec.f k x1000 x1001).bind fun bt159 => (if (x3.length : Int) > 1 then ((spec_l6Rd_pick.f k x1000 bt159.2 3).bind fun bt163 => (if bt163.1 = 0 then (if 0 < (x3.length : Int) then ((spec_VecOk.f k (rd_L2 x3 0)).bind fun t166 => (if t166 = true then (if 1 < (x3.length : Int) then ((spec_VecOk.f k (rd_L2 x3 1)).bind fun t168 => (spec_l91Rows.j1 k x3 x4 bt159.1 t168 x1000 bt163.2)) else (none)) else (spec_l91Rows.j1 k x3 x4 bt159.1 false x1000 bt163.2))) else (none)) else (spec_l91Rows.j1 k x3 x4 bt159.1 false x1000 bt163.2))) else (spec_l91Rows.j1 k x3 x4 bt159.1 false x1000 bt159.2))) else ((spec_l6Rd_pick.f k x1000 x1001 40).bind fun bt190 => (if bt190.1 = 0 then (spec_l91Rows.l1 k x3 x1000 bt190.2) else (some (x3, bt190.2))))
def spec_l91Rows.j1 : Nat → List (List Int) → Int → List Int → Bool → List Int → Int → Option ((List (List Int)) × Int)
  | 0, _, _, _, _, _, _ => none
  | k + 1, x3, x4, x5, x34, x1000, x1001 => if x34 = true then (if 0 < (x3.length : Int) then ((spec_l6Rd_pick.f k x1000 x1001 31).bind fun bt170 => ((spec_l2Scale.f k (rd_L2 x3 0) bt170.1).bind fun t172 => (if 1 < (x3.length : Int) then ((spec_l6Rd_pick.f k x1000 bt170.2 31).bind fun bt176 => ((spec_l2Scale.f k (rd_L2 x3 1) bt176.1).bind fun t178 => ((spec_l2Sum.f k t172 t178).bind fun t181 => (if x3.length < 5864062014805 then (spec_l91Rows.l0 k (x3 ++ [t181]) (wrap64 (x4 - 1)) x1000 bt176.2) else (none))))) else (none)))) else (none)) else (if x3.length < 5864062014805 then (spec_l91Rows.l0 k (x3 ++ [x5]) (wrap64 (x4 - 1)) x1000 x1001) else (none))
def spec_l91Rows.l1 : Nat → List (List Int) → List Int → Int → Option ((List (List Int)) × Int)
  | 0, _, _, _ => none
  | k + 1, x3, x1000, x1001 => if (x3.length : Int) ≤ 8 then (if x3.length < 5864062014805 then (spec_l91Rows.l1 k (x3 ++ [(([1, 2, 3, 4] : List Int))]) x1000 x1001) else (none)) else (some (x3, x1001))
end
def spec_l91Rows.f (k : Nat) (s0_0 : List Int) (s0_1 : Int) : Option ((List (List Int)) × Int) := (spec_l6Rd_pick.f k s0_0 s0_1 6).bind fun bt157 => (spec_l91Rows.l0 k (([] : List (List Int))) bt157.1 s0_0 bt157.2)
def spec_l91Rows.T7 : Bool × List (List Nat × List Nat) := (true, [([], []), ([0], [0]), ([1], [1]), ([], []), ([3], [3]), ([2, 4, 4], [2, 4]), ([], []), ([6], [6]), ([7], [7]), ([], []), ([9, 5], [9]), ([8, 10, 10], [8, 10]), ([5, 11, 11], [5, 11]), ([12, 12, 0, 1, 2, 3, 4, 5, 6, 7, 8, 9, 10, 11, 12], [12])])
def spec_l91Rows.B7 : List Nat := [0, 1, 3, 0, 8, 31, 0, 64, 192, 0, 575, 2047, 4095, 8191]
theorem spec_l91Rows.tab7 : rtab .any (opsOf Try.f51 7) = spec_l91Rows.T7 := by kernel_rfl
theorem spec_l91Rows.bits7 : waitsOk spec_l91Rows.T7.2 spec_l91Rows.B7 = true := by kernel_rfl
set_option maxHeartbeats 8000000 in
set_option maxRecDepth 100000 in
theorem spec_l91Rows.calls (k : Nat) (g : Nat) (s0_0 : List Int) (s0_1 : Int) (r1 : List (List Int)) (r2 : Int) (w0 w : World) (hI : IsS99 w0 w g s0_0 s0_1) (hB : Below w0.heap.size w0 w) (h : spec_l91Rows.f k s0_0 s0_1 = some (r1, r2)) :
  Calls Try.prog 51 #[.pointer (some ⟨g, 0, none⟩)] w fun e w' => ∃ v0_ : Value, e = .returned (v0_) ∧ Kd.N (Kd.slice 3 (Kd.int .i64)) 28 w' w.heap.size (fun k_ => (w.heap.size ≤ k_)) v0_ r1 ∧ IsS99 w0 w' g s0_0 r2 ∧ Below w0.heap.size w0 w' ∧ KeepBut w w' g none := by
 have HI0 := Aside0.mk hI
 have HK := Aside0.mk (KeepBut.refl w g none)
 have HL := Aside0.mk hB.size
 clear hI
 have HW0 := Aside0.mk hB.size
 have HB := Aside0.mk hB
 clear hB
 have H : ((spec_l6Rd_pick.f k s0_0 s0_1 6).bind fun bt157 => (spec_l91Rows.l0 k (([] : List (List Int))) bt157.1 s0_0 bt157.2)) = some (r1, r2) := h
 clear h
 obtain ⟨y154, hy154⟩ : ∃ y_ : List (List Int), y_ = (([] : List (List Int))) := ⟨_, rfl⟩
 replace H : ((spec_l6Rd_pick.f k s0_0 s0_1 6).bind fun bt157 => (spec_l91Rows.l0 k y154 bt157.1 s0_0 bt157.2)) = some (r1, r2) := by first | (rw [hy154]; with_reducible exact H) | (have H2_ := (Option.bind_some _ _).symm.trans H; rw [hy154]; with_reducible exact H2_) | (have H2_ := (Option.bind_some _ _).symm.trans H; with_reducible exact H2_) | with_reducible exact H | (rw [hy154]; exact H) | exact H
 have Ny154 := Aside0.mk hy154
 clear hy154
 replace H := Option.bind_eq_some_iff.mp H
 obtain ⟨⟨t157, t158⟩, A20, H⟩ := H
 replace H : (spec_l91Rows.l0 k y154 t157 s0_0 t158) = some (r1, r2) := H
 have A2 := Aside0.mk A20
 clear A20
 have H' := Aside0.mk H
 clear H
 go_enter Try.func51, Try.ntmps51
 go_wp2_with (first | ((with_reducible refine gate_dst (N := 6) rfl ?_); refine Kd.N_lit (Kd.slice 3 (Kd.int .i64)) _ 28 ?hg (N' := 6) ?hd (xs := ([] : List (List Int))) (inner := []) (ok := (fun k_ => (w.heap.size ≤ k_) ∧ k_ ≠ g)) (okp := (fun k_ => (w.heap.size ≤ k_) ∧ k_ ≠ g)) ?hr ?hp (fun _ hk => hk) ((show ∀ k_, w.heap.size ≤ k_ → (fun k_ => (w.heap.size ≤ k_) ∧ k_ ≠ g) k_ from fun k_ hk => ⟨(Nat.le_trans (keep_size (w := w) (g := g) (row := none) z4_0) hk), IsS99.fresh z4_1 k_ hk⟩) _ (Nat.le_refl _)) (Below.refl _ _) (Nat.le_refl _) (by simp) ?_; (case hd => rfl); (case hg => rfl); (case hr => first | (go_simp; done) | (go_simp; rfl)); (case hp => exact (Reps.none _ _)); intro v155 w3 ho4 hb hg_ hnew_; clear hg_ hnew_; (first | rw [← Ny154.out] at ho4 | (simp only [Int.reduceToNat] at ho4; rw [← Ny154.out] at ho4)); have HO156 := Aside0.mk (Kd.N_lower ho4 (keep_size (w := w) (g := g) (row := none) z4_0)); replace HK := Aside0.mk (KeepBut.trans z4_0 (KeepBut.of_below hb g none) (.inl rfl)); replace HB := Aside0.mk (below_step z4_2 hb); replace HI0 := Aside0.mk (IsS99.below z4_1 hb); clear hb ho4) | ((with_reducible refine gate_callee (f := 78) rfl ?_); refine goesL_ (some 8) rfl rfl Try.func78 (by kernel_rfl) rfl #[.pointer (some ⟨g, 0, none⟩), .int .i64 6] rfl z4_4 ?_; (with_reducible refine (spec_l6Rd_pick.calls k g s0_0 s0_1 6 t157 t158 w0 _ ?side1 ?side2 A2.out).mono ?_); (case side1 => repeat (first | (with_reducible first | exact HI0.out | apply IsS99.alloc | apply IsS99.drewN | apply IsS99.drew | apply IsS99.set_1) | exact HI0.out)); (case side2 => repeat (first | (with_reducible first | exact HB.out | apply below_alloc | apply pw_below_drewN | apply below_drew1 | refine below_set ?_ (IsS99.ge HI0.out)) | exact HB.out)); rintro e w5 ⟨rfl, hi, hb, hk⟩; refine ⟨_, rfl, ?_⟩; replace HO156 := Aside0.mk (Kd.N_mono (Kd.N_keep (Kd.N_mono (ok := fun k_ => (((w.heap.size ≤ k_)) ∧ k_ ≠ g)) (by (with_reducible repeat (first | apply Kd.N_alloc | apply Kd.N_drewN | apply Kd.N_drew)); exact HO156.out) (fun k_ hk_ => (⟨hk_, hk_.2⟩ : _ ∧ k_ ≠ g))) hk (fun _ h => h.2)) (fun _ h => h.1)); replace HK := Aside0.mk (KeepBut.trans z4_0 hk (.inl rfl)); replace HB := Aside0.mk (hb); replace HI0 := Aside0.mk (hi); (try clear hb)))
 go_loopg [3, 4] k (fun kq v3 v4 w' => ∃ (x3_1 : List (List Int)) (x4_1 : Int) (x1001_1 : Int), v4 = .int .i64 x4_1 ∧ Aside0 (spec_l91Rows.l0 kq x3_1 x4_1 s0_0 x1001_1 = some (r1, r2)) ∧ Aside0 (kq ≤ k) ∧ Aside0 (Kd.N (Kd.slice 3 (Kd.int .i64)) 28 w' w.heap.size (fun k_ => (w.heap.size ≤ k_) ∧ k_ ≠ g) v3 x3_1) ∧ Aside0 (IsS99 w0 w' g s0_0 x1001_1) ∧ Aside0 (KeepBut w w' g none) ∧ Aside0 (Below w0.heap.size w0 w'))
 case atStart => exact ⟨(y154), (t157), (t158), z4_14, H', ⟨Nat.le_refl _⟩, ⟨by (with_reducible repeat (first | apply Kd.N_alloc | apply Kd.N_drewN | apply Kd.N_drew)); exact HO156.out⟩, ⟨z4_1⟩, ⟨z4_0⟩, ⟨z4_2⟩⟩
 case round =>
  clear H'
  obtain ⟨x3_1, x4_1, x1001_1, rfl, HA, HK1, HO_3, HI0, HK, HB⟩ := hrel
  cases gk with
  | zero => exact absurd HA.out (by simp [spec_l91Rows.l0])
  | succ k1 =>
   have H := HA.out
   clear HA
   simp only [spec_l91Rows.l0] at H
   by_cases c6 : x4_1 > 0
   ·rw [if_pos c6] at H
    have c6b0 : decide (0 < x4_1) = true := decide_eq_true c6
    clear c6
    replace H := Option.bind_eq_some_iff.mp H
    obtain ⟨⟨t159, t162⟩, A70, H⟩ := H
    replace H : (if (x3_1.length : Int) > 1 then ((spec_l6Rd_pick.f k1 s0_0 t162 3).bind fun bt163 => (if bt163.1 = 0 then (if 0 < (x3_1.length : Int) then ((spec_VecOk.f k1 (rd_L2 x3_1 0)).bind fun t166 => (if t166 = true then (if 1 < (x3_1.length : Int) then ((spec_VecOk.f k1 (rd_L2 x3_1 1)).bind fun t168 => (spec_l91Rows.j1 k1 x3_1 x4_1 t159 t168 s0_0 bt163.2)) else (none)) else (spec_l91Rows.j1 k1 x3_1 x4_1 t159 false s0_0 bt163.2))) else (none)) else (spec_l91Rows.j1 k1 x3_1 x4_1 t159 false s0_0 bt163.2))) else (spec_l91Rows.j1 k1 x3_1 x4_1 t159 false s0_0 t162)) = some (r1, r2) := H
    have A7 := Aside0.mk A70
    clear A70
    have HC8 := Aside0.mk H
    clear H
    go_upto_region 6 with (first | ((with_reducible refine gate_callee (f := 80) rfl ?_); refine goesL_ (some 14) rfl rfl Try.func80 (by kernel_rfl) rfl #[.pointer (some ⟨g, 0, none⟩)] rfl z4_4 ?_; (with_reducible refine (spec_l91Vec.calls k1 g s0_0 x1001_1 t159 t162 w0 _ ?side1 ?side2 A7.out).mono ?_); (case side1 => repeat (first | (with_reducible first | exact HI0.out | apply IsS99.alloc | apply IsS99.drewN | apply IsS99.drew | apply IsS99.set_1) | exact HI0.out)); (case side2 => repeat (first | (with_reducible first | exact HB.out | apply below_alloc | apply pw_below_drewN | apply below_drew1 | refine below_set ?_ (IsS99.ge HI0.out)) | exact HB.out)); rintro e w9 ⟨v160, rfl, ho0, hi, hb, hk⟩; refine ⟨_, rfl, ?_⟩; replace HO_3 := Aside0.mk (Kd.N_mono (Kd.N_told (Kd.N_oldK (Kd.N_mono (ok := fun k_ => (((w.heap.size ≤ k_)) ∧ k_ ≠ g)) z4_3 (fun k_ hk_ => (⟨hk_, hk_.2⟩ : _ ∧ k_ ≠ g))) hk) (Kd.Q_base ho0)) (fun _ h_ => h_.1)); have HO161 := Aside0.mk (Kd.Q_lower (Kd.Q_newM (M := fun k_ => (w.heap.size ≤ k_)) ho0 (keep_size (w := w) (g := g) (row := none) z4_0) (fun k_ h_ => h_)) (keep_size (w := w) (g := g) (row := none) z4_0)); replace HK := Aside0.mk (KeepBut.trans z4_0 hk (.inl rfl)); replace HB := Aside0.mk (hb); replace HI0 := Aside0.mk (hi); (try clear hb); (try clear ho0)))
    (try simp only [Act.put, List.setIfInBounds_toArray, List.set_cons_zero, List.set_cons_succ])
    go_cut [34] (fun v34 wc => ∃ (kq : Nat) (x34_7 : Bool) (x1001_7 : Int), v34 = .bool x34_7 ∧ Aside0 (spec_l91Rows.j1 kq x3_1 x4_1 t159 x34_7 s0_0 x1001_7 = some (r1, r2)) ∧ Aside0 (kq ≤ k1) ∧ Aside0 (Kd.N (Kd.slice 3 (Kd.int .i64)) 28 wc w.heap.size (fun k_ => (w.heap.size ≤ k_) ∧ some k_ ≠ (v160 : Value).ownBlock ∧ k_ ≠ g) u3 x3_1) ∧ Aside0 (Kd.Q (Kd.int .i64) 3 wc w.heap.size (fun k_ => (w.heap.size ≤ k_)) v160 t159) ∧ Aside0 (IsS99 w0 wc g s0_0 x1001_7) ∧ Aside0 (KeepBut w wc g none) ∧ Aside0 (Below w0.heap.size w0 wc))
    case first =>
     have H := HC8.out
     clear HC8
     by_cases c10 : (x3_1.length : Int) > 1
     ·rw [if_pos c10] at H
      have c10b0 : decide (1 < (x3_1.length : Int)) = true := decide_eq_true c10
      have c10b1 : decide (1 < x3_1.length) = true := decide_eq_true (by omega)
      clear c10
      (first | rw [c10b0] | (simp only [i64_w, i32_w]; rw [c10b0]) | skip)
      replace H := Option.bind_eq_some_iff.mp H
      obtain ⟨⟨t163, t164⟩, A110, H⟩ := H
      replace H : (if t163 = 0 then (if 0 < (x3_1.length : Int) then ((spec_VecOk.f k1 (rd_L2 x3_1 0)).bind fun t166 => (if t166 = true then (if 1 < (x3_1.length : Int) then ((spec_VecOk.f k1 (rd_L2 x3_1 1)).bind fun t168 => (spec_l91Rows.j1 k1 x3_1 x4_1 t159 t168 s0_0 t164)) else (none)) else (spec_l91Rows.j1 k1 x3_1 x4_1 t159 false s0_0 t164))) else (none)) else (spec_l91Rows.j1 k1 x3_1 x4_1 t159 false s0_0 t164)) = some (r1, r2) := H
      have A11 := Aside0.mk A110
      clear A110
      by_cases c12 : t163 = 0
      ·rw [if_pos c12] at H
       have c12b0 : (t163 == 0) = true := beq_iff_eq.mpr c12
       have c12b1 : (t163 != 0) = false := bne_eq_false_iff_eq.mpr c12
       clear c12
       obtain ⟨c13, H⟩ := ifP H
       have c13b0 : decide (0 < (x3_1.length : Int)) = true := decide_eq_true c13
       have c13b1 : decide (0 < x3_1.length) = true := decide_eq_true (by omega)
       clear c13
       replace H := Option.bind_eq_some_iff.mp H
       obtain ⟨t166, A140, H⟩ := H
       replace H : (if t166 = true then (if 1 < (x3_1.length : Int) then ((spec_VecOk.f k1 (rd_L2 x3_1 1)).bind fun t168 => (spec_l91Rows.j1 k1 x3_1 x4_1 t159 t168 s0_0 t164)) else (none)) else (spec_l91Rows.j1 k1 x3_1 x4_1 t159 false s0_0 t164)) = some (r1, r2) := H
       have A14 := Aside0.mk A140
       clear A140
       by_cases c15 : t166 = true
       ·subst c15
        have H1 : (if 1 < (x3_1.length : Int) then ((spec_VecOk.f k1 (rd_L2 x3_1 1)).bind fun t168 => (spec_l91Rows.j1 k1 x3_1 x4_1 t159 t168 s0_0 t164)) else (none)) = some (r1, r2) := by rw [if_pos rfl] at H; exact H
        clear H
        have H := H1
        clear H1
        obtain ⟨c16, H⟩ := ifP H
        have c16b0 : decide (1 < (x3_1.length : Int)) = true := decide_eq_true c16
        have c16b1 : decide (1 < x3_1.length) = true := decide_eq_true (by omega)
        clear c16
        replace H := Option.bind_eq_some_iff.mp H
        obtain ⟨t168, A170, H⟩ := H
        replace H : (spec_l91Rows.j1 k1 x3_1 x4_1 t159 t168 s0_0 t164) = some (r1, r2) := H
        have A17 := Aside0.mk A170
        clear A170
        have H' := Aside0.mk H
        clear H
        obtain ⟨Ao18, co18, eo18⟩ := Kd.N_slice HO_3.out
        subst eo18
        go_wp2_with (first | (go_at_call 78; (with_reducible refine (spec_l6Rd_pick.calls k1 g s0_0 t162 3 t163 t164 w0 _ ?side1 ?side2 A11.out).mono ?_); (case side1 => repeat (first | (with_reducible first | exact HI0.out | apply IsS99.alloc | apply IsS99.drewN | apply IsS99.drew | apply IsS99.set_1) | exact HI0.out)); (case side2 => repeat (first | (with_reducible first | exact HB.out | apply below_alloc | apply pw_below_drewN | apply below_drew1 | refine below_set ?_ (IsS99.ge HI0.out)) | exact HB.out)); rintro e w19 ⟨rfl, hi, hb, hk⟩; replace HO_3 := Aside0.mk (Kd.N_mono (Kd.N_keep (Kd.N_mono (ok := fun k_ => ((((w.heap.size ≤ k_)) ∧ k_ ≠ g) ∧ some k_ ≠ (v160 : Value).ownBlock)) z4_3 (fun k_ hk_ => (⟨hk_, hk_.1.2⟩ : _ ∧ k_ ≠ g))) hk (fun _ h => h.2)) (fun _ h => h.1)); replace HO161 := Aside0.mk (Kd.Q_mono (Kd.Q_keep (IsS99.apartQ (show IsS99 w0 _ g s0_0 t162 from by repeat (first | (with_reducible first | exact HI0.out | apply IsS99.alloc | apply IsS99.drewN | apply IsS99.drew | apply IsS99.set_1) | exact HI0.out)) z4_15 (by decide)) hk (fun _ h => h.2)) (fun _ h => h.1)); replace HK := Aside0.mk (KeepBut.trans z4_0 hk (.inl rfl)); replace HB := Aside0.mk (hb); replace HI0 := Aside0.mk (hi); (try clear hb); have p165 : 0 ≤ (0 : Int) := (by omega); have q165 : 0 < (x3_1.length : Int) := of_decide_eq_true z4_11; obtain ⟨ad165, A165_0, c165_0, e165, hx165_0, hl165_0, hi165_0⟩ := at_L2 (Kd.N_reads' HO_3.out).2.2 0 p165 q165; cases e165; obtain ⟨ce165, hce165, hMe165, hcc165⟩ := Kd.N_get HO_3.out [] 0 p165 (by first | exact q165 | exact of_decide_eq_true z4_11 | (have e_ := (Kd.N_reads' HO_3.out).1; omega)); obtain ⟨ua165_0, uc165_0, rfl, ul165_0, ge165_0⟩ := Kd.FK_slice_open hMe165; have hv165_0 := hcc165 0 _ rfl; rw [Nat.add_zero, show ((Kd.slice 3 (Kd.int .i64))).sz = 1 from rfl, Nat.mul_one] at hv165_0; replace hv165_0 := Option.some.inj (hv165_0.symm.trans hx165_0); injection hv165_0 with hva_ hvn_ hvc_; rw [hva_] at ge165_0; rw [hvc_] at ul165_0; have HL165_0 := Aside0.mk (show Kd.V (Kd.int .i64) 3 _ w.heap.size _ _ (rd_L2 x3_1 0) from Kd.V_mk ul165_0 ge165_0); clear hva_ hvn_ hvc_ ge165_0 ul165_0; clear hcc165 hce165; have qi165 : (0 < x3_1.length) = True := eq_true (by omega); (try rw [show ((0 : Int)).toNat = 0 from rfl] at hx165_0); (try rw [Addr.add_zero'] at hx165_0); have HR165_0 := Aside0.mk hi165_0; have HC165_0 := Aside0.mk hl165_0; clear hi165_0 hl165_0; replace p165 := eq_true p165; replace q165 := eq_true q165) | (go_at_call 58; (with_reducible refine (spec_VecOk.calls k1 _ _ (rd_L2 x3_1 0) true _ ?side1 ?side2 A14.out).mono ?_); (case side1 => repeat (first | exact z4_16 | (with_reducible refine Kd.C_alloc ?_ _) | (with_reducible refine Kd.C_drewN ?_ _) | (with_reducible refine Kd.C_drew ?_))); (case side2 => exact HC165_0.out); rintro e w' ⟨rfl, ⟨nd, rfl⟩⟩; have p167 : 0 ≤ (1 : Int) := (by omega); have q167 : 1 < (x3_1.length : Int) := of_decide_eq_true z4_11; obtain ⟨ad167, A167_0, c167_0, e167, hx167_0, hl167_0, hi167_0⟩ := at_L2 (Kd.N_reads' HO_3.out).2.2 1 p167 q167; obtain rfl : ad165 = ad167 := (by injection e167); obtain ⟨ce167, hce167, hMe167, hcc167⟩ := Kd.N_get HO_3.out [] 1 p167 (by first | exact q167 | exact of_decide_eq_true z4_11 | (have e_ := (Kd.N_reads' HO_3.out).1; omega)); obtain ⟨ua167_0, uc167_0, rfl, ul167_0, ge167_0⟩ := Kd.FK_slice_open hMe167; have hv167_0 := hcc167 0 _ rfl; rw [Nat.add_zero, show ((Kd.slice 3 (Kd.int .i64))).sz = 1 from rfl, Nat.mul_one] at hv167_0; replace hv167_0 := Option.some.inj (hv167_0.symm.trans hx167_0); injection hv167_0 with hva_ hvn_ hvc_; rw [hva_] at ge167_0; rw [hvc_] at ul167_0; have HL167_0 := Aside0.mk (show Kd.V (Kd.int .i64) 3 _ w.heap.size _ _ (rd_L2 x3_1 1) from Kd.V_mk ul167_0 ge167_0); clear hva_ hvn_ hvc_ ge167_0 ul167_0; clear hcc167 hce167; (try simp only [show (1 : Int).toNat = 1 from rfl, Nat.reduceMul, Nat.reduceEqDiff, Go.Addr.add, ↓reduceIte] at hx167_0); have qi167 : (1 < x3_1.length) = True := eq_true (by omega); (try rw [show ((1 : Int)).toNat = 1 from rfl] at hx167_0); have HR167_0 := Aside0.mk hi167_0; have HC167_0 := Aside0.mk hl167_0; clear hi167_0 hl167_0; replace p167 := eq_true p167; replace q167 := eq_true q167) | (go_at_call 58; (with_reducible refine (spec_VecOk.calls k1 _ _ (rd_L2 x3_1 1) t168 _ ?side1 ?side2 A17.out).mono ?_); (case side1 => repeat (first | exact (by repeat (first | (with_reducible exact HR167_0.out) | (with_reducible refine Kd.C_alloc ?_ _) | (with_reducible refine Kd.C_drewN ?_ _) | (with_reducible refine Kd.C_drew ?_) | exact HR167_0.out)) | (with_reducible refine Kd.C_alloc ?_ _) | (with_reducible refine Kd.C_drewN ?_ _) | (with_reducible refine Kd.C_drew ?_))); (case side2 => exact HC167_0.out); rintro e w' ⟨rfl, ⟨nd, rfl⟩⟩))
        go_meet
        case rel => exact ⟨_, (t168), (t164), z4_14, H', ⟨z4_17⟩, ⟨z4_10⟩, ⟨z4_12⟩, ⟨z4_1⟩, ⟨z4_0⟩, ⟨z4_2⟩⟩
       ·replace c15 := Bool.eq_false_iff.mpr c15
        subst c15
        have H1 : (spec_l91Rows.j1 k1 x3_1 x4_1 t159 false s0_0 t164) = some (r1, r2) := by rw [if_neg (show ¬ (false = true) by decide)] at H; exact H
        clear H
        have H := H1
        clear H1
        have H' := Aside0.mk H
        clear H
        obtain ⟨Ao20, co20, eo20⟩ := Kd.N_slice HO_3.out
        subst eo20
        go_wp2_with (first | (go_at_call 78; (with_reducible refine (spec_l6Rd_pick.calls k1 g s0_0 t162 3 t163 t164 w0 _ ?side1 ?side2 A11.out).mono ?_); (case side1 => repeat (first | (with_reducible first | exact HI0.out | apply IsS99.alloc | apply IsS99.drewN | apply IsS99.drew | apply IsS99.set_1) | exact HI0.out)); (case side2 => repeat (first | (with_reducible first | exact HB.out | apply below_alloc | apply pw_below_drewN | apply below_drew1 | refine below_set ?_ (IsS99.ge HI0.out)) | exact HB.out)); rintro e w21 ⟨rfl, hi, hb, hk⟩; replace HO_3 := Aside0.mk (Kd.N_mono (Kd.N_keep (Kd.N_mono (ok := fun k_ => ((((w.heap.size ≤ k_)) ∧ k_ ≠ g) ∧ some k_ ≠ (v160 : Value).ownBlock)) z4_3 (fun k_ hk_ => (⟨hk_, hk_.1.2⟩ : _ ∧ k_ ≠ g))) hk (fun _ h => h.2)) (fun _ h => h.1)); replace HO161 := Aside0.mk (Kd.Q_mono (Kd.Q_keep (IsS99.apartQ (show IsS99 w0 _ g s0_0 t162 from by repeat (first | (with_reducible first | exact HI0.out | apply IsS99.alloc | apply IsS99.drewN | apply IsS99.drew | apply IsS99.set_1) | exact HI0.out)) z4_15 (by decide)) hk (fun _ h => h.2)) (fun _ h => h.1)); replace HK := Aside0.mk (KeepBut.trans z4_0 hk (.inl rfl)); replace HB := Aside0.mk (hb); replace HI0 := Aside0.mk (hi); (try clear hb); have p165 : 0 ≤ (0 : Int) := (by omega); have q165 : 0 < (x3_1.length : Int) := of_decide_eq_true z4_11; obtain ⟨ad165, A165_0, c165_0, e165, hx165_0, hl165_0, hi165_0⟩ := at_L2 (Kd.N_reads' HO_3.out).2.2 0 p165 q165; cases e165; obtain ⟨ce165, hce165, hMe165, hcc165⟩ := Kd.N_get HO_3.out [] 0 p165 (by first | exact q165 | exact of_decide_eq_true z4_11 | (have e_ := (Kd.N_reads' HO_3.out).1; omega)); obtain ⟨ua165_0, uc165_0, rfl, ul165_0, ge165_0⟩ := Kd.FK_slice_open hMe165; have hv165_0 := hcc165 0 _ rfl; rw [Nat.add_zero, show ((Kd.slice 3 (Kd.int .i64))).sz = 1 from rfl, Nat.mul_one] at hv165_0; replace hv165_0 := Option.some.inj (hv165_0.symm.trans hx165_0); injection hv165_0 with hva_ hvn_ hvc_; rw [hva_] at ge165_0; rw [hvc_] at ul165_0; have HL165_0 := Aside0.mk (show Kd.V (Kd.int .i64) 3 _ w.heap.size _ _ (rd_L2 x3_1 0) from Kd.V_mk ul165_0 ge165_0); clear hva_ hvn_ hvc_ ge165_0 ul165_0; clear hcc165 hce165; have qi165 : (0 < x3_1.length) = True := eq_true (by omega); (try rw [show ((0 : Int)).toNat = 0 from rfl] at hx165_0); (try rw [Addr.add_zero'] at hx165_0); have HR165_0 := Aside0.mk hi165_0; have HC165_0 := Aside0.mk hl165_0; clear hi165_0 hl165_0; replace p165 := eq_true p165; replace q165 := eq_true q165) | (go_at_call 58; (with_reducible refine (spec_VecOk.calls k1 _ _ (rd_L2 x3_1 0) false _ ?side1 ?side2 A14.out).mono ?_); (case side1 => repeat (first | exact z4_16 | (with_reducible refine Kd.C_alloc ?_ _) | (with_reducible refine Kd.C_drewN ?_ _) | (with_reducible refine Kd.C_drew ?_))); (case side2 => exact HC165_0.out); rintro e w' ⟨rfl, ⟨nd, rfl⟩⟩))
        go_meet
        case rel => exact ⟨_, (false), (t164), z4_14, H', ⟨z4_17⟩, ⟨z4_10⟩, ⟨z4_12⟩, ⟨z4_1⟩, ⟨z4_0⟩, ⟨z4_2⟩⟩
      ·rw [if_neg c12] at H
       have c12b0 : (t163 == 0) = false := beq_eq_false_iff_ne.mpr c12
       have c12b1 : (t163 != 0) = true := bne_iff_ne.mpr c12
       have H' := Aside0.mk H
       clear H
       obtain ⟨Ao22, co22, eo22⟩ := Kd.N_slice HO_3.out
       subst eo22
       go_wp2_with (first | (go_at_call 78; (with_reducible refine (spec_l6Rd_pick.calls k1 g s0_0 t162 3 t163 t164 w0 _ ?side1 ?side2 A11.out).mono ?_); (case side1 => repeat (first | (with_reducible first | exact HI0.out | apply IsS99.alloc | apply IsS99.drewN | apply IsS99.drew | apply IsS99.set_1) | exact HI0.out)); (case side2 => repeat (first | (with_reducible first | exact HB.out | apply below_alloc | apply pw_below_drewN | apply below_drew1 | refine below_set ?_ (IsS99.ge HI0.out)) | exact HB.out)); rintro e w23 ⟨rfl, hi, hb, hk⟩; replace HO_3 := Aside0.mk (Kd.N_mono (Kd.N_keep (Kd.N_mono (ok := fun k_ => ((((w.heap.size ≤ k_)) ∧ k_ ≠ g) ∧ some k_ ≠ (v160 : Value).ownBlock)) z4_3 (fun k_ hk_ => (⟨hk_, hk_.1.2⟩ : _ ∧ k_ ≠ g))) hk (fun _ h => h.2)) (fun _ h => h.1)); replace HO161 := Aside0.mk (Kd.Q_mono (Kd.Q_keep (IsS99.apartQ (show IsS99 w0 _ g s0_0 t162 from by repeat (first | (with_reducible first | exact HI0.out | apply IsS99.alloc | apply IsS99.drewN | apply IsS99.drew | apply IsS99.set_1) | exact HI0.out)) z4_15 (by decide)) hk (fun _ h => h.2)) (fun _ h => h.1)); replace HK := Aside0.mk (KeepBut.trans z4_0 hk (.inl rfl)); replace HB := Aside0.mk (hb); replace HI0 := Aside0.mk (hi); (try clear hb)))
       go_meet
       case rel => exact ⟨_, (false), (t164), z4_14, H', ⟨z4_17⟩, ⟨z4_10⟩, ⟨z4_12⟩, ⟨z4_1⟩, ⟨z4_0⟩, ⟨z4_2⟩⟩
     ·rw [if_neg c10] at H
      have c10b0 : decide (1 < (x3_1.length : Int)) = false := decide_eq_false c10
      have c10b1 : decide (1 < x3_1.length) = false := decide_eq_false (by omega)
      clear c10
      (first | rw [c10b0] | (simp only [i64_w, i32_w]; rw [c10b0]) | skip)
      have H' := Aside0.mk H
      clear H
      obtain ⟨Ao24, co24, eo24⟩ := Kd.N_slice HO_3.out
      subst eo24
      go_wp2
      go_meet
      case rel => exact ⟨_, (false), (t162), z4_14, H', ⟨z4_17⟩, ⟨z4_10⟩, ⟨z4_12⟩, ⟨z4_1⟩, ⟨z4_0⟩, ⟨z4_2⟩⟩
    case rest =>
     clear HC8
     try clear c6
     try clear c6b0
     obtain ⟨kq, x34_7, x1001_7, rfl, HA, HJ7, HO_3, HO_5, HI0, HK, HB⟩ := hcut
     cases kq with
     | zero => exact absurd HA.out (by simp [spec_l91Rows.j1])
     | succ kj7 =>
      have H := HA.out
      clear HA
      simp only [spec_l91Rows.j1] at H
      by_cases c25 : x34_7 = true
      ·subst c25
       have H1 : (if 0 < (x3_1.length : Int) then ((spec_l6Rd_pick.f kj7 s0_0 x1001_7 31).bind fun bt170 => ((spec_l2Scale.f kj7 (rd_L2 x3_1 0) bt170.1).bind fun t172 => (if 1 < (x3_1.length : Int) then ((spec_l6Rd_pick.f kj7 s0_0 bt170.2 31).bind fun bt176 => ((spec_l2Scale.f kj7 (rd_L2 x3_1 1) bt176.1).bind fun t178 => ((spec_l2Sum.f kj7 t172 t178).bind fun t181 => (if x3_1.length < 5864062014805 then (spec_l91Rows.l0 kj7 (x3_1 ++ [t181]) (wrap64 (x4_1 - 1)) s0_0 bt176.2) else (none))))) else (none)))) else (none)) = some (r1, r2) := by rw [if_pos rfl] at H; exact H
       clear H
       have H := H1
       clear H1
       obtain ⟨c26, H⟩ := ifP H
       have c26b0 : decide (0 < (x3_1.length : Int)) = true := decide_eq_true c26
       have c26b1 : decide (0 < x3_1.length) = true := decide_eq_true (by omega)
       clear c26
       replace H := Option.bind_eq_some_iff.mp H
       obtain ⟨⟨t170, t171⟩, A270, H⟩ := H
       replace H : ((spec_l2Scale.f kj7 (rd_L2 x3_1 0) t170).bind fun t172 => (if 1 < (x3_1.length : Int) then ((spec_l6Rd_pick.f kj7 s0_0 t171 31).bind fun bt176 => ((spec_l2Scale.f kj7 (rd_L2 x3_1 1) bt176.1).bind fun t178 => ((spec_l2Sum.f kj7 t172 t178).bind fun t181 => (if x3_1.length < 5864062014805 then (spec_l91Rows.l0 kj7 (x3_1 ++ [t181]) (wrap64 (x4_1 - 1)) s0_0 bt176.2) else (none))))) else (none))) = some (r1, r2) := H
       have A27 := Aside0.mk A270
       clear A270
       replace H := Option.bind_eq_some_iff.mp H
       obtain ⟨t172, A280, H⟩ := H
       replace H : (if 1 < (x3_1.length : Int) then ((spec_l6Rd_pick.f kj7 s0_0 t171 31).bind fun bt176 => ((spec_l2Scale.f kj7 (rd_L2 x3_1 1) bt176.1).bind fun t178 => ((spec_l2Sum.f kj7 t172 t178).bind fun t181 => (if x3_1.length < 5864062014805 then (spec_l91Rows.l0 kj7 (x3_1 ++ [t181]) (wrap64 (x4_1 - 1)) s0_0 bt176.2) else (none))))) else (none)) = some (r1, r2) := H
       have A28 := Aside0.mk A280
       clear A280
       obtain ⟨c29, H⟩ := ifP H
       have c29b0 : decide (1 < (x3_1.length : Int)) = true := decide_eq_true c29
       have c29b1 : decide (1 < x3_1.length) = true := decide_eq_true (by omega)
       clear c29
       replace H := Option.bind_eq_some_iff.mp H
       obtain ⟨⟨t176, t177⟩, A300, H⟩ := H
       replace H : ((spec_l2Scale.f kj7 (rd_L2 x3_1 1) t176).bind fun t178 => ((spec_l2Sum.f kj7 t172 t178).bind fun t181 => (if x3_1.length < 5864062014805 then (spec_l91Rows.l0 kj7 (x3_1 ++ [t181]) (wrap64 (x4_1 - 1)) s0_0 t177) else (none)))) = some (r1, r2) := H
       have A30 := Aside0.mk A300
       clear A300
       replace H := Option.bind_eq_some_iff.mp H
       obtain ⟨t178, A310, H⟩ := H
       replace H : ((spec_l2Sum.f kj7 t172 t178).bind fun t181 => (if x3_1.length < 5864062014805 then (spec_l91Rows.l0 kj7 (x3_1 ++ [t181]) (wrap64 (x4_1 - 1)) s0_0 t177) else (none))) = some (r1, r2) := H
       have A31 := Aside0.mk A310
       clear A310
       replace H := Option.bind_eq_some_iff.mp H
       obtain ⟨t181, A320, H⟩ := H
       replace H : (if x3_1.length < 5864062014805 then (spec_l91Rows.l0 kj7 (x3_1 ++ [t181]) (wrap64 (x4_1 - 1)) s0_0 t177) else (none)) = some (r1, r2) := H
       have A32 := Aside0.mk A320
       clear A320
       obtain ⟨c33, H⟩ := ifP H
       have LMc33 := Aside0.mk c33
       clear c33
       obtain ⟨y184, hy184⟩ : ∃ y_ : List (List Int), y_ = (x3_1 ++ [t181]) := ⟨_, rfl⟩
       replace H : (spec_l91Rows.l0 kj7 y184 (wrap64 (x4_1 - 1)) s0_0 t177) = some (r1, r2) := by first | (rw [hy184]; with_reducible exact H) | (have H2_ := (Option.bind_some _ _).symm.trans H; rw [hy184]; with_reducible exact H2_) | (have H2_ := (Option.bind_some _ _).symm.trans H; with_reducible exact H2_) | with_reducible exact H | (rw [hy184]; exact H) | exact H
       have Ny184 := Aside0.mk hy184
       clear hy184
       have H' := Aside0.mk H
       clear H
       try go_wp2
       replace HO_3 := Aside0.mk (Kd.N_drew HO_3.out)
       replace HO_5 := Aside0.mk (Kd.Q_drew HO_5.out)
       replace HI0 := Aside0.mk (IsS99.drew HI0.out)
       replace HK := Aside0.mk (keep_drew HK.out)
       replace HB := Aside0.mk (below_drew1 HB.out)
       obtain ⟨Ao35, co35, eo35⟩ := Kd.N_slice HO_3.out
       (first | subst eo35 | (injection eo35 with f1_ f2_ f3_; have f4_ := f1_.symm; have f5_ := f3_.symm; clear f1_ f2_ f3_; subst f4_; subst f5_))
       have p169 : 0 ≤ (0 : Int) := (by omega)
       have q169 : 0 < (x3_1.length : Int) := of_decide_eq_true z4_11
       obtain ⟨ad169, A169_0, c169_0, e169, hx169_0, hl169_0, hi169_0⟩ := at_L2 (Kd.N_reads' HO_3.out).2.2 0 p169 q169
       cases e169
       obtain ⟨ce169, hce169, hMe169, hcc169⟩ := Kd.N_get HO_3.out [] 0 p169 (by first | exact q169 | exact of_decide_eq_true z4_11 | (have e_ := (Kd.N_reads' HO_3.out).1; omega))
       obtain ⟨ua169_0, uc169_0, rfl, ul169_0, ge169_0⟩ := Kd.FK_slice_open hMe169
       have hv169_0 := hcc169 0 _ rfl
       rw [Nat.add_zero, show ((Kd.slice 3 (Kd.int .i64))).sz = 1 from rfl, Nat.mul_one] at hv169_0
       replace hv169_0 := Option.some.inj (hv169_0.symm.trans hx169_0)
       injection hv169_0 with hva_ hvn_ hvc_
       rw [hva_] at ge169_0
       rw [hvc_] at ul169_0
       have HL169_0 := Aside0.mk (show Kd.V (Kd.int .i64) 3 _ w.heap.size _ _ (rd_L2 x3_1 0) from Kd.V_mk ul169_0 ge169_0)
       clear hva_ hvn_ hvc_ ge169_0 ul169_0
       clear hcc169 hce169
       have qi169 : (0 < x3_1.length) = True := eq_true (by omega)
       (try rw [show ((0 : Int)).toNat = 0 from rfl] at hx169_0)
       (try rw [Addr.add_zero'] at hx169_0)
       have HR169_0 := Aside0.mk hi169_0
       have HC169_0 := Aside0.mk hl169_0
       clear hi169_0 hl169_0
       replace p169 := eq_true p169
       replace q169 := eq_true q169
       have p175 : 0 ≤ (1 : Int) := (by omega)
       have q175 : 1 < (x3_1.length : Int) := of_decide_eq_true z4_11
       obtain ⟨ad175, A175_0, c175_0, e175, hx175_0, hl175_0, hi175_0⟩ := at_L2 (Kd.N_reads' HO_3.out).2.2 1 p175 q175
       obtain rfl : ad169 = ad175 := (by injection e175)
       obtain ⟨ce175, hce175, hMe175, hcc175⟩ := Kd.N_get HO_3.out [] 1 p175 (by first | exact q175 | exact of_decide_eq_true z4_11 | (have e_ := (Kd.N_reads' HO_3.out).1; omega))
       obtain ⟨ua175_0, uc175_0, rfl, ul175_0, ge175_0⟩ := Kd.FK_slice_open hMe175
       have hv175_0 := hcc175 0 _ rfl
       rw [Nat.add_zero, show ((Kd.slice 3 (Kd.int .i64))).sz = 1 from rfl, Nat.mul_one] at hv175_0
       replace hv175_0 := Option.some.inj (hv175_0.symm.trans hx175_0)
       injection hv175_0 with hva_ hvn_ hvc_
       rw [hva_] at ge175_0
       rw [hvc_] at ul175_0
       have HL175_0 := Aside0.mk (show Kd.V (Kd.int .i64) 3 _ w.heap.size _ _ (rd_L2 x3_1 1) from Kd.V_mk ul175_0 ge175_0)
       clear hva_ hvn_ hvc_ ge175_0 ul175_0
       clear hcc175 hce175
       (try simp only [show (1 : Int).toNat = 1 from rfl, Nat.reduceMul, Nat.reduceEqDiff, Go.Addr.add, ↓reduceIte] at hx175_0)
       have qi175 : (1 < x3_1.length) = True := eq_true (by omega)
       (try rw [show ((1 : Int)).toNat = 1 from rfl] at hx175_0)
       have HR175_0 := Aside0.mk hi175_0
       have HC175_0 := Aside0.mk hl175_0
       clear hi175_0 hl175_0
       replace p175 := eq_true p175
       replace q175 := eq_true q175
       refine start_ (n := 14) (S := fun w' => w'.cell? ad169 = some (.slice A169_0 (rd_L2 x3_1 0).length c169_0) ∧ w'.cell? ⟨ad169.block, ad169.off + 1, none⟩ = some (.slice A175_0 (rd_L2 x3_1 1).length c175_0)) (ds := []) #[false, false, false, false, false, false, false, false, false, false, false, false, false, false] (by kernel_rfl) rfl rfl ⟨hx169_0, hx175_0⟩ (fun hHeld => ?_); refine with_tabW spec_l91Rows.tab7 spec_l91Rows.bits7 (fun HT_ HW_ => ?_)
       generalize wc.drew = w34 at HO_3 HO_5 HI0 HK HB HL169_0 HL175_0 HR169_0 HR175_0 hx169_0 hx175_0 hHeld ⊢
       refine pZ 0 HT_ ?_
       refine pZ 1 HT_ ?_
       refine pZ 3 HT_ ?_
       refine pZ 6 HT_ ?_
       refine pZ 7 HT_ ?_
       refine pZ 9 HT_ ?_
       refine tZ 2 hHeld HT_ HW_ ?_
       refine tZ 8 hHeld HT_ HW_ ?_
       refine oZ 4 HT_ (fun K hK => ?_)
       refine goes_ Try.func78 (by kernel_rfl) rfl #[.pointer (some ⟨g, 0, none⟩), .int .i64 31] (by rfl) rfl rfl z4_4 ?_
       with_reducible refine (spec_l6Rd_pick.calls kj7 g s0_0 x1001_7 31 t170 t171 w0 _ ?side1 ?side2 A27.out).mono ?_
       (case side1 => repeat (first | (with_reducible first | exact HI0.out | apply IsS99.alloc | apply IsS99.drewN | apply IsS99.drew | apply IsS99.set_1) | exact HI0.out))
       (case side2 => repeat (first | (with_reducible first | exact HB.out | apply below_alloc | apply pw_below_drewN | apply below_drew1 | refine below_set ?_ (IsS99.ge HI0.out)) | exact HB.out))
       rintro e w36 ⟨rfl, hi, hb, hk⟩
       have HS0_ := keep_cell hk (hHeld.1) z4_5
       have HS1_ := keep_cell hk (hHeld.2) z4_5
       refine ⟨_, rfl, ?_⟩
       replace HO_3 := Aside0.mk (Kd.N_mono (Kd.N_keep (Kd.N_mono (ok := fun k_ => (((w.heap.size ≤ k_)) ∧ (some k_ ≠ (v160 : Value).ownBlock ∧ k_ ≠ g))) z4_3 (fun k_ hk_ => (⟨hk_, hk_.2.2⟩ : _ ∧ k_ ≠ g))) hk (fun _ h => h.2)) (fun _ h => h.1))
       replace HO_5 := Aside0.mk (Kd.Q_mono (Kd.Q_keep (IsS99.apartQ (show IsS99 w0 _ g s0_0 x1001_7 from by repeat (first | (with_reducible first | exact HI0.out | apply IsS99.alloc | apply IsS99.drewN | apply IsS99.drew | apply IsS99.set_1) | exact HI0.out)) z4_6 (by decide)) hk (fun _ h => h.2)) (fun _ h => h.1))
       replace HL169_0 := Aside0.mk (Kd.V_mono (Kd.V_keep (Kd.V_mono (ok := fun k_ => ((((w.heap.size ≤ k_)) ∧ (some k_ ≠ (v160 : Value).ownBlock ∧ k_ ≠ g)) ∧ some k_ ≠ (.slice (some ad169) x3_1.length co35 : Value).ownBlock)) z4_8 (fun k_ hk_ => (⟨hk_, hk_.1.2.2⟩ : _ ∧ k_ ≠ g))) hk (fun _ h => h.2)) (fun _ h => h.1))
       replace HL175_0 := Aside0.mk (Kd.V_mono (Kd.V_keep (Kd.V_mono (ok := fun k_ => ((((w.heap.size ≤ k_)) ∧ (some k_ ≠ (v160 : Value).ownBlock ∧ k_ ≠ g)) ∧ some k_ ≠ (.slice (some ad169) x3_1.length co35 : Value).ownBlock)) z4_9 (fun k_ hk_ => (⟨hk_, hk_.1.2.2⟩ : _ ∧ k_ ≠ g))) hk (fun _ h => h.2)) (fun _ h => h.1))
       replace HK := Aside0.mk (KeepBut.trans z4_0 hk (.inl rfl))
       replace HB := Aside0.mk (hb)
       replace HI0 := Aside0.mk (hi)
       (try clear hb)
       (try clear hb2)
       (try clear hk)
       (try clear hi)
       refine hK.out _ _ ⟨HS0_, HS1_⟩ (fun hHeld => ?_)
       clear hK K
       refine nZ ?_
       refine oZ 5 HT_ (fun K hK => ?_)
       refine goes_ Try.func91 (by kernel_rfl) rfl #[.slice A169_0 (rd_L2 x3_1 0).length c169_0, .int .i64 t170] (by rfl) rfl rfl z4_4 ?_
       with_reducible refine (spec_l2Scale.calls kj7 _ _ (rd_L2 x3_1 0) t170 t172 _ ?side1 ?side2 A28.out).mono ?_
       (case side1 => repeat (first | exact ((Kd.V_reads' z4_8).2.2) | (with_reducible refine Kd.C_alloc ?_ _) | (with_reducible refine Kd.C_drewN ?_ _) | (with_reducible refine Kd.C_drew ?_)))
       (case side2 => exact HC169_0.out)
       rintro e w37 ⟨v173, rfl, ho0, hb⟩
       have HS0_ := (hb.cell (World.block_lt_of_cell? _ _ (hHeld.1))).trans (hHeld.1)
       have HS1_ := (hb.cell (World.block_lt_of_cell? _ _ (hHeld.2))).trans (hHeld.2)
       refine ⟨_, rfl, ?_⟩
       replace HO_3 := Aside0.mk (Kd.N_elder' z4_3 (Kd.R_base ho0) hb)
       replace HL169_0 := Aside0.mk (Kd.V_elder' z4_8 (Kd.R_base ho0) hb)
       replace HL175_0 := Aside0.mk (Kd.V_elder' z4_9 (Kd.R_base ho0) hb)
       have HO174 := Aside0.mk (Kd.R_lower (Kd.R_new' (Kd.R_newM (M := fun k_ => (w.heap.size ≤ k_)) ho0 (keep_size (w := w) (g := g) (row := none) z4_0) (fun k_ h_ => h_)) (Kd.Q_lt z4_6)) (keep_size (w := w) (g := g) (row := none) z4_0))
       replace HO_5 := Aside0.mk (Kd.Q_elder' z4_6 (Kd.R_base ho0) hb)
       replace HK := Aside0.mk (KeepBut.trans z4_0 (KeepBut.of_below hb g none) (.inl rfl))
       replace HB := Aside0.mk (below_step z4_2 hb)
       replace HI0 := Aside0.mk (IsS99.below z4_1 hb)
       (try clear hb)
       (try clear hb2)
       (try clear hk)
       (try clear hi)
       (try clear ho0)
       refine hK.out _ _ ⟨HS0_, HS1_⟩ (fun hHeld => ?_)
       clear hK K
       refine nZ ?_
       refine oZ 10 HT_ (fun K hK => ?_)
       refine goes_ Try.func78 (by kernel_rfl) rfl #[.pointer (some ⟨g, 0, none⟩), .int .i64 31] (by rfl) rfl rfl z4_4 ?_
       with_reducible refine (spec_l6Rd_pick.calls kj7 g s0_0 t171 31 t176 t177 w0 _ ?side1 ?side2 A30.out).mono ?_
       (case side1 => repeat (first | (with_reducible first | exact HI0.out | apply IsS99.alloc | apply IsS99.drewN | apply IsS99.drew | apply IsS99.set_1) | exact HI0.out))
       (case side2 => repeat (first | (with_reducible first | exact HB.out | apply below_alloc | apply pw_below_drewN | apply below_drew1 | refine below_set ?_ (IsS99.ge HI0.out)) | exact HB.out))
       rintro e w38 ⟨rfl, hi, hb, hk⟩
       have HS0_ := keep_cell hk (hHeld.1) z4_5
       have HS1_ := keep_cell hk (hHeld.2) z4_5
       refine ⟨_, rfl, ?_⟩
       replace HO_3 := Aside0.mk (Kd.N_mono (Kd.N_keep (Kd.N_mono (ok := fun k_ => ((((w.heap.size ≤ k_)) ∧ (some k_ ≠ (v160 : Value).ownBlock ∧ k_ ≠ g)) ∧ some k_ ≠ (v173 : Value).ownBlock)) z4_3 (fun k_ hk_ => (⟨hk_, hk_.1.2.2⟩ : _ ∧ k_ ≠ g))) hk (fun _ h => h.2)) (fun _ h => h.1))
       replace HO_5 := Aside0.mk (Kd.Q_mono (Kd.Q_keep (IsS99.apartQ (show IsS99 w0 _ g s0_0 t171 from by repeat (first | (with_reducible first | exact HI0.out | apply IsS99.alloc | apply IsS99.drewN | apply IsS99.drew | apply IsS99.set_1) | exact HI0.out)) z4_6 (by decide)) hk (fun _ h => h.2)) (fun _ h => h.1))
       replace HL169_0 := Aside0.mk (Kd.V_mono (Kd.V_keep (Kd.V_mono (ok := fun k_ => (((((w.heap.size ≤ k_)) ∧ (some k_ ≠ (v160 : Value).ownBlock ∧ k_ ≠ g)) ∧ some k_ ≠ (.slice (some ad169) x3_1.length co35 : Value).ownBlock) ∧ some k_ ≠ (v173 : Value).ownBlock)) z4_8 (fun k_ hk_ => (⟨hk_, hk_.1.1.2.2⟩ : _ ∧ k_ ≠ g))) hk (fun _ h => h.2)) (fun _ h => h.1))
       replace HL175_0 := Aside0.mk (Kd.V_mono (Kd.V_keep (Kd.V_mono (ok := fun k_ => (((((w.heap.size ≤ k_)) ∧ (some k_ ≠ (v160 : Value).ownBlock ∧ k_ ≠ g)) ∧ some k_ ≠ (.slice (some ad169) x3_1.length co35 : Value).ownBlock) ∧ some k_ ≠ (v173 : Value).ownBlock)) z4_9 (fun k_ hk_ => (⟨hk_, hk_.1.1.2.2⟩ : _ ∧ k_ ≠ g))) hk (fun _ h => h.2)) (fun _ h => h.1))
       replace HO174 := Aside0.mk (Kd.R_mono (Kd.R_keep (IsS99.apart (show IsS99 w0 _ g s0_0 t171 from by repeat (first | (with_reducible first | exact HI0.out | apply IsS99.alloc | apply IsS99.drewN | apply IsS99.drew | apply IsS99.set_1) | exact HI0.out)) z4_7 (by decide)) hk (fun _ h => h.2)) (fun _ h => h.1))
       replace HK := Aside0.mk (KeepBut.trans z4_0 hk (.inl rfl))
       replace HB := Aside0.mk (hb)
       replace HI0 := Aside0.mk (hi)
       (try clear hb)
       (try clear hb2)
       (try clear hk)
       (try clear hi)
       refine hK.out _ _ ⟨HS0_, HS1_⟩ (fun hHeld => ?_)
       clear hK K
       refine nZ ?_
       refine oZ 11 HT_ (fun K hK => ?_)
       refine goes_ Try.func91 (by kernel_rfl) rfl #[.slice A175_0 (rd_L2 x3_1 1).length c175_0, .int .i64 t176] (by rfl) rfl rfl z4_4 ?_
       with_reducible refine (spec_l2Scale.calls kj7 _ _ (rd_L2 x3_1 1) t176 t178 _ ?side1 ?side2 A31.out).mono ?_
       (case side1 => repeat (first | exact ((Kd.V_reads' z4_9).2.2) | (with_reducible refine Kd.C_alloc ?_ _) | (with_reducible refine Kd.C_drewN ?_ _) | (with_reducible refine Kd.C_drew ?_)))
       (case side2 => exact HC175_0.out)
       rintro e w39 ⟨v179, rfl, ho0, hb⟩
       have HS0_ := (hb.cell (World.block_lt_of_cell? _ _ (hHeld.1))).trans (hHeld.1)
       have HS1_ := (hb.cell (World.block_lt_of_cell? _ _ (hHeld.2))).trans (hHeld.2)
       refine ⟨_, rfl, ?_⟩
       replace HO_3 := Aside0.mk (Kd.N_elder' z4_3 (Kd.R_base ho0) hb)
       replace HL169_0 := Aside0.mk (Kd.V_elder' z4_8 (Kd.R_base ho0) hb)
       replace HL175_0 := Aside0.mk (Kd.V_elder' z4_9 (Kd.R_base ho0) hb)
       have HO180 := Aside0.mk (Kd.R_lower (Kd.R_new' (Kd.R_new' (Kd.R_newM (M := fun k_ => (w.heap.size ≤ k_)) ho0 (keep_size (w := w) (g := g) (row := none) z4_0) (fun k_ h_ => h_)) (Kd.Q_lt z4_6)) (Kd.R_lt z4_7)) (keep_size (w := w) (g := g) (row := none) z4_0))
       replace HO_5 := Aside0.mk (Kd.Q_elder' z4_6 (Kd.R_base ho0) hb)
       replace HO174 := Aside0.mk (Kd.R_elder' z4_7 (Kd.R_base ho0) hb)
       replace HK := Aside0.mk (KeepBut.trans z4_0 (KeepBut.of_below hb g none) (.inl rfl))
       replace HB := Aside0.mk (below_step z4_2 hb)
       replace HI0 := Aside0.mk (IsS99.below z4_1 hb)
       (try clear hb)
       (try clear hb2)
       (try clear hk)
       (try clear hi)
       (try clear ho0)
       obtain ⟨Ao40, co40, eo40⟩ := Kd.R_slice HO174.out
       (first | subst eo40 | (injection eo40 with f1_ f2_ f3_; have f4_ := f1_.symm; have f5_ := f3_.symm; clear f1_ f2_ f3_; subst f4_; subst f5_))
       obtain ⟨Ao41, co41, eo41⟩ := Kd.R_slice HO180.out
       (first | subst eo41 | (injection eo41 with f1_ f2_ f3_; have f4_ := f1_.symm; have f5_ := f3_.symm; clear f1_ f2_ f3_; subst f4_; subst f5_))
       refine hK.out _ _ ⟨HS0_, HS1_⟩ (fun hHeld => ?_)
       clear hK K
       refine nZ ?_
       refine oZ 12 HT_ (fun K hK => ?_)
       refine goes_ Try.func90 (by kernel_rfl) rfl #[.slice Ao40 t172.length co40, .slice Ao41 t178.length co41] (by rfl) rfl rfl z4_4 ?_
       with_reducible refine (spec_l2Sum.calls kj7 _ _ t172 _ _ t178 t181 _ ?side1 ?side2 ?side3 ?side4 A32.out).mono ?_
       (case side1 => exact cZ ((Kd.R_reads' HO174.out).2.2))
       (case side2 => exact (Kd.R_reads' HO174.out).2.1)
       (case side3 => exact cZ ((Kd.R_reads' HO180.out).2.2))
       (case side4 => exact (Kd.R_reads' HO180.out).2.1)
       rintro e w42 ⟨v182, rfl, ho0, hb⟩
       have HS0_ := (hb.cell (World.block_lt_of_cell? _ _ (hHeld.1))).trans (hHeld.1)
       have HS1_ := (hb.cell (World.block_lt_of_cell? _ _ (hHeld.2))).trans (hHeld.2)
       refine ⟨_, rfl, ?_⟩
       replace HO_3 := Aside0.mk (Kd.N_elder' z4_3 (Kd.R_base ho0) hb)
       replace HL169_0 := Aside0.mk (Kd.V_elder' z4_8 (Kd.R_base ho0) hb)
       replace HL175_0 := Aside0.mk (Kd.V_elder' z4_9 (Kd.R_base ho0) hb)
       have HO183 := Aside0.mk (Kd.R_lower (Kd.R_new' (Kd.R_new' (Kd.R_new' (Kd.R_newM (M := fun k_ => (w.heap.size ≤ k_)) ho0 (keep_size (w := w) (g := g) (row := none) z4_0) (fun k_ h_ => h_)) (Kd.Q_lt z4_6)) (Kd.R_lt z4_7)) (Kd.R_lt z4_13)) (keep_size (w := w) (g := g) (row := none) z4_0))
       replace HO_5 := Aside0.mk (Kd.Q_elder' z4_6 (Kd.R_base ho0) hb)
       replace HO174 := Aside0.mk (Kd.R_elder' z4_7 (Kd.R_base ho0) hb)
       replace HO180 := Aside0.mk (Kd.R_elder' z4_13 (Kd.R_base ho0) hb)
       replace HK := Aside0.mk (KeepBut.trans z4_0 (KeepBut.of_below hb g none) (.inl rfl))
       replace HB := Aside0.mk (below_step z4_2 hb)
       replace HI0 := Aside0.mk (IsS99.below z4_1 hb)
       (try clear hb)
       (try clear hb2)
       (try clear hk)
       (try clear hi)
       (try clear ho0)
       refine hK.out _ _ ⟨HS0_, HS1_⟩ (fun hHeld => ?_)
       clear hK K
       refine nZ ?_
       refine pZ 13 HT_ ?_
       refine done_ (done_of HT_.out (by kernel_rfl)) ?_
       obtain ⟨Ao44, co44, eo44⟩ := Kd.R_slice HO183.out
       subst eo44
       try go_wp2_with (first | ((with_reducible refine gate_builtin (b := .append) (xs := #[.tmp 48, .tmp 50]) rfl ?_); at_builtin; refine Kd.N_append (Kd.slice 3 (Kd.int .i64)) w.heap.size rfl (.tmp 48) (.tmp 50) 23 28 (.slice none 0 0) 24 rfl Try.underlying23 info28 rfl (by decide) (by omega) (.slice (some ad169) x3_1.length co35) x3_1 t181 [.slice Ao44 t181.length co44] (fun k_ => (w.heap.size ≤ k_) ∧ some k_ ≠ (v160 : Value).ownBlock ∧ some k_ ≠ (.slice Ao40 t172.length co40 : Value).ownBlock ∧ some k_ ≠ (.slice Ao41 t178.length co41 : Value).ownBlock ∧ k_ ≠ g) (fun k_ => ((fun k_ => (w.heap.size ≤ k_) ∧ some k_ ≠ (v160 : Value).ownBlock ∧ some k_ ≠ (.slice Ao40 t172.length co40 : Value).ownBlock ∧ some k_ ≠ (.slice Ao41 t178.length co41 : Value).ownBlock ∧ k_ ≠ g)) k_ ∧ some k_ ≠ (.slice (some ad169) x3_1.length co35 : Value).ownBlock) rfl rfl ?aP (fun _ hk => hk) ?aF ?aO (Below.refl _ _) ?aS ?aL ?_; (case aP => exact (Kd.FK_slice_mk (Kd.R_reads' (Kd.R_mono (ok' := (fun k_ => ((fun k_ => (w.heap.size ≤ k_) ∧ some k_ ≠ (v160 : Value).ownBlock ∧ some k_ ≠ (.slice Ao40 t172.length co40 : Value).ownBlock ∧ some k_ ≠ (.slice Ao41 t178.length co41 : Value).ownBlock ∧ k_ ≠ g)) k_ ∧ some k_ ≠ (.slice (some ad169) x3_1.length co35 : Value).ownBlock)) (IsS99.apart HI0.out (Kd.R_apart' (HO183.out) (Kd.N_typed HO_3.out) (by decide)) (by decide)) (fun k_ hk => ⟨⟨hk.1.1.1.1.1.1, ⟨hk.1.1.1.1.2, ⟨hk.1.1.1.2, ⟨hk.1.1.2, hk.2⟩⟩⟩⟩, hk.1.2⟩))).2.1 (Kd.R_F (Kd.R_mono (ok' := (fun k_ => ((fun k_ => (w.heap.size ≤ k_) ∧ some k_ ≠ (v160 : Value).ownBlock ∧ some k_ ≠ (.slice Ao40 t172.length co40 : Value).ownBlock ∧ some k_ ≠ (.slice Ao41 t178.length co41 : Value).ownBlock ∧ k_ ≠ g)) k_ ∧ some k_ ≠ (.slice (some ad169) x3_1.length co35 : Value).ownBlock)) (IsS99.apart HI0.out (Kd.R_apart' (HO183.out) (Kd.N_typed HO_3.out) (by decide)) (by decide)) (fun k_ hk => ⟨⟨hk.1.1.1.1.1.1, ⟨hk.1.1.1.1.2, ⟨hk.1.1.1.2, ⟨hk.1.1.2, hk.2⟩⟩⟩⟩, hk.1.2⟩))))); (case aF => exact (fun k_ hk => ⟨(Nat.le_trans (keep_size (w := w) (g := g) (row := none) z4_0) hk), Kd.fresh' (Kd.Q_lt z4_6) k_ hk, Kd.fresh' (Kd.R_lt z4_7) k_ hk, Kd.fresh' (Kd.R_lt z4_13) k_ hk, IsS99.fresh z4_1 k_ hk⟩)); (case aO => exact (by (with_reducible repeat (first | apply Kd.N_alloc | apply Kd.N_drewN | apply Kd.N_drew)); exact Kd.N_mono HO_3.out (fun _ hk => ⟨hk.1.1.1.1, ⟨hk.1.1.1.2.1, ⟨hk.1.1.2, ⟨hk.1.2, hk.1.1.1.2.2⟩⟩⟩⟩))); (case aS => exact (keep_size (w := w) (g := g) (row := none) z4_0)); (case aL => have := LMc33.out; omega); intro v185 w43 ho hb hg hat; rw [← Ny184.out] at ho; have n0_ := Aside0.mk (Kd.Q_over' z4_6 (Kd.N_typed z4_3) (by decide) hg); have n1_ := Aside0.mk (IsS99.grown z4_1 hg (IsS99.own_neN HI0.out HO_3.out (by decide))); have n2_ := Aside0.mk (Kd.V_afterv (ok := (fun k_ => (w.heap.size ≤ k_) ∧ some k_ ≠ (v160 : Value).ownBlock ∧ some k_ ≠ (.slice Ao40 t172.length co40 : Value).ownBlock ∧ some k_ ≠ (.slice Ao41 t178.length co41 : Value).ownBlock ∧ some k_ ≠ (.slice Ao44 t181.length co44 : Value).ownBlock ∧ k_ ≠ g)) (by (with_reducible repeat (first | apply Kd.V_alloc | apply Kd.V_drewN | apply Kd.V_drew)); exact Kd.V_mono HL169_0.out (fun _ hk => ⟨⟨hk.1.1.1.1.1, ⟨hk.1.1.1.1.2.1, ⟨hk.1.1.2, ⟨hk.1.2, ⟨hk.2, hk.1.1.1.1.2.2⟩⟩⟩⟩⟩, hk.1.1.1.2⟩)) hg hat); have n3_ := Aside0.mk (Kd.V_afterv (ok := (fun k_ => (w.heap.size ≤ k_) ∧ some k_ ≠ (v160 : Value).ownBlock ∧ some k_ ≠ (.slice Ao40 t172.length co40 : Value).ownBlock ∧ some k_ ≠ (.slice Ao41 t178.length co41 : Value).ownBlock ∧ some k_ ≠ (.slice Ao44 t181.length co44 : Value).ownBlock ∧ k_ ≠ g)) (by (with_reducible repeat (first | apply Kd.V_alloc | apply Kd.V_drewN | apply Kd.V_drew)); exact Kd.V_mono HL175_0.out (fun _ hk => ⟨⟨hk.1.1.1.1.1, ⟨hk.1.1.1.1.2.1, ⟨hk.1.1.2, ⟨hk.1.2, ⟨hk.2, hk.1.1.1.1.2.2⟩⟩⟩⟩⟩, hk.1.1.1.2⟩)) hg hat); have n4_ := Aside0.mk (Kd.R_over' z4_7 (Kd.N_typed z4_3) (by decide) hg); have n5_ := Aside0.mk (Kd.R_over' z4_13 (Kd.N_typed z4_3) (by decide) hg); have n6_ := Aside0.mk (below_weaken z4_2 HL.out hb); have n7_ := Aside0.mk (KeepBut.trans z4_0 (KeepBut.of_grown hg g) (Kd.N_base2 HO_3.out)); have n8_ := Aside0.mk (ho); clear HO_5; clear HI0; clear HL169_0; clear HL175_0; clear HO174; clear HO180; clear HB; clear HK; clear HO_3; clear HO183; have HO_5 := n0_; have HI0 := n1_; have HL169_0 := n2_; have HL175_0 := n3_; have HO174 := n4_; have HO180 := n5_; have HB := n6_; have HK := n7_; have HO186 := n8_; clear n0_ n1_ n2_ n3_ n4_ n5_ n6_ n7_ n8_; clear ho hb hg hat))
       go_roundg kj7
       case measure => have := HK1.out; have := HJ7.out; omega
       case rel => exact ⟨(y184), (wrap64 (x4_1 - 1)), (t177), z4_14, H', ⟨by have := HK1.out; have := HJ7.out; omega⟩, ⟨by (with_reducible repeat (first | apply Kd.N_alloc | apply Kd.N_drewN | apply Kd.N_drew)); exact Kd.N_mono HO186.out (fun _ hk => ⟨hk.1, hk.2.2.2.2⟩)⟩, ⟨z4_1⟩, ⟨z4_0⟩, ⟨z4_2⟩⟩
      ·replace c25 := Bool.eq_false_iff.mpr c25
       subst c25
       have H1 : (if x3_1.length < 5864062014805 then (spec_l91Rows.l0 kj7 (x3_1 ++ [t159]) (wrap64 (x4_1 - 1)) s0_0 x1001_7) else (none)) = some (r1, r2) := by rw [if_neg (show ¬ (false = true) by decide)] at H; exact H
       clear H
       have H := H1
       clear H1
       obtain ⟨c45, H⟩ := ifP H
       have LMc45 := Aside0.mk c45
       clear c45
       obtain ⟨y187, hy187⟩ : ∃ y_ : List (List Int), y_ = (x3_1 ++ [t159]) := ⟨_, rfl⟩
       replace H : (spec_l91Rows.l0 kj7 y187 (wrap64 (x4_1 - 1)) s0_0 x1001_7) = some (r1, r2) := by first | (rw [hy187]; with_reducible exact H) | (have H2_ := (Option.bind_some _ _).symm.trans H; rw [hy187]; with_reducible exact H2_) | (have H2_ := (Option.bind_some _ _).symm.trans H; with_reducible exact H2_) | with_reducible exact H | (rw [hy187]; exact H) | exact H
       have Ny187 := Aside0.mk hy187
       clear hy187
       have H' := Aside0.mk H
       clear H
       obtain ⟨Ao47, co47, eo47, _⟩ := Kd.Q_slice HO_5.out
       subst eo47
       go_wp2_with (first | ((with_reducible refine gate_builtin (b := .append) (xs := #[.tmp 48, .tmp 50]) rfl ?_); at_builtin; refine Kd.N_append (Kd.slice 3 (Kd.int .i64)) w.heap.size rfl (.tmp 48) (.tmp 50) 23 28 (.slice none 0 0) 24 rfl Try.underlying23 info28 rfl (by decide) (by omega) u3 x3_1 t159 [.slice Ao47 t159.length co47] (fun k_ => (w.heap.size ≤ k_) ∧ k_ ≠ g) (fun k_ => ((fun k_ => (w.heap.size ≤ k_) ∧ k_ ≠ g)) k_ ∧ some k_ ≠ (u3 : Value).ownBlock) rfl rfl ?aP (fun _ hk => hk) ?aF ?aO (Below.refl _ _) ?aS ?aL ?_; (case aP => exact (Kd.FK_slice_mk (Kd.Q_reads' (Kd.Q_mono (ok' := (fun k_ => ((fun k_ => (w.heap.size ≤ k_) ∧ k_ ≠ g)) k_ ∧ some k_ ≠ (u3 : Value).ownBlock)) (IsS99.apartQ HI0.out (Kd.Q_apart' (HO_5.out) (Kd.N_typed HO_3.out) (by decide)) (by decide)) (fun k_ hk => ⟨⟨hk.1.1, hk.2⟩, hk.1.2⟩))).2.1 (Kd.Q_F (Kd.Q_mono (ok' := (fun k_ => ((fun k_ => (w.heap.size ≤ k_) ∧ k_ ≠ g)) k_ ∧ some k_ ≠ (u3 : Value).ownBlock)) (IsS99.apartQ HI0.out (Kd.Q_apart' (HO_5.out) (Kd.N_typed HO_3.out) (by decide)) (by decide)) (fun k_ hk => ⟨⟨hk.1.1, hk.2⟩, hk.1.2⟩))))); (case aF => exact (fun k_ hk => ⟨(Nat.le_trans (keep_size (w := w) (g := g) (row := none) z4_0) hk), IsS99.fresh z4_1 k_ hk⟩)); (case aO => exact (by (with_reducible repeat (first | apply Kd.N_alloc | apply Kd.N_drewN | apply Kd.N_drew)); exact Kd.N_mono HO_3.out (fun _ hk => ⟨hk.1, hk.2.2⟩))); (case aS => exact (keep_size (w := w) (g := g) (row := none) z4_0)); (case aL => have := LMc45.out; omega); intro v188 w46 ho hb hg hat; rw [← Ny187.out] at ho; have n0_ := Aside0.mk (IsS99.grown z4_1 hg (IsS99.own_neN HI0.out HO_3.out (by decide))); have n1_ := Aside0.mk (below_weaken z4_2 HL.out hb); have n2_ := Aside0.mk (KeepBut.trans z4_0 (KeepBut.of_grown hg g) (Kd.N_base2 HO_3.out)); have n3_ := Aside0.mk (ho); clear HI0; clear HB; clear HK; clear HO_3; clear HO_5; have HI0 := n0_; have HB := n1_; have HK := n2_; have HO189 := n3_; clear n0_ n1_ n2_ n3_; clear ho hb hg hat))
       go_roundg kj7
       case measure => have := HK1.out; have := HJ7.out; omega
       case rel => exact ⟨(y187), (wrap64 (x4_1 - 1)), (x1001_7), z4_14, H', ⟨by have := HK1.out; have := HJ7.out; omega⟩, ⟨by (with_reducible repeat (first | apply Kd.N_alloc | apply Kd.N_drewN | apply Kd.N_drew)); exact HO189.out⟩, ⟨z4_1⟩, ⟨z4_0⟩, ⟨z4_2⟩⟩
   ·rw [if_neg c6] at H
    have c6b0 : decide (0 < x4_1) = false := decide_eq_false c6
    clear c6
    replace H := Option.bind_eq_some_iff.mp H
    obtain ⟨⟨t190, t191⟩, A480, H⟩ := H
    replace H : (if t190 = 0 then (spec_l91Rows.l1 k1 x3_1 s0_0 t191) else (some (x3_1, t191))) = some (r1, r2) := H
    have A48 := Aside0.mk A480
    clear A480
    by_cases c49 : t190 = 0
    ·rw [if_pos c49] at H
     have c49b0 : (t190 == 0) = true := beq_iff_eq.mpr c49
     have c49b1 : (t190 != 0) = false := bne_eq_false_iff_eq.mpr c49
     clear c49
     have H' := Aside0.mk H
     clear H
     go_wp2_with (first | ((with_reducible refine gate_callee (f := 78) rfl ?_); refine goesL_ (some 53) rfl rfl Try.func78 (by kernel_rfl) rfl #[.pointer (some ⟨g, 0, none⟩), .int .i64 40] rfl z4_4 ?_; (with_reducible refine (spec_l6Rd_pick.calls k1 g s0_0 x1001_1 40 t190 t191 w0 _ ?side1 ?side2 A48.out).mono ?_); (case side1 => repeat (first | (with_reducible first | exact HI0.out | apply IsS99.alloc | apply IsS99.drewN | apply IsS99.drew | apply IsS99.set_1) | exact HI0.out)); (case side2 => repeat (first | (with_reducible first | exact HB.out | apply below_alloc | apply pw_below_drewN | apply below_drew1 | refine below_set ?_ (IsS99.ge HI0.out)) | exact HB.out)); rintro e w50 ⟨rfl, hi, hb, hk⟩; refine ⟨_, rfl, ?_⟩; replace HO_3 := Aside0.mk (Kd.N_mono (Kd.N_keep (Kd.N_mono (ok := fun k_ => (((w.heap.size ≤ k_)) ∧ k_ ≠ g)) z4_3 (fun k_ hk_ => (⟨hk_, hk_.2⟩ : _ ∧ k_ ≠ g))) hk (fun _ h => h.2)) (fun _ h => h.1)); replace HK := Aside0.mk (KeepBut.trans z4_0 hk (.inl rfl)); replace HB := Aside0.mk (hb); replace HI0 := Aside0.mk (hi); (try clear hb)))
     go_loopg [3] k1 (fun kq v3 w' => ∃ (x3_2 : List (List Int)), Aside0 (spec_l91Rows.l1 kq x3_2 s0_0 t191 = some (r1, r2)) ∧ Aside0 (kq ≤ k1) ∧ Aside0 (Kd.N (Kd.slice 3 (Kd.int .i64)) 28 w' w.heap.size (fun k_ => (w.heap.size ≤ k_) ∧ k_ ≠ g) v3 x3_2) ∧ Aside0 (IsS99 w0 w' g s0_0 t191) ∧ Aside0 (KeepBut w w' g none) ∧ Aside0 (Below w0.heap.size w0 w'))
     case atStart => exact ⟨(x3_1), H', ⟨Nat.le_refl _⟩, ⟨z4_3⟩, ⟨z4_1⟩, ⟨z4_0⟩, ⟨z4_2⟩⟩
     case round =>
      clear H'
      try clear c6
      try clear c6b0
      try clear c49
      try clear c49b0
      try clear c49b1
      obtain ⟨x3_2, HA, HK2, HO_3, HI0, HK, HB⟩ := hrel
      cases gk with
      | zero => exact absurd HA.out (by simp [spec_l91Rows.l1])
      | succ k2 =>
       have H := HA.out
       clear HA
       simp only [spec_l91Rows.l1] at H
       by_cases c51 : (x3_2.length : Int) ≤ 8
       ·rw [if_pos c51] at H
        have c51b0 : decide ((x3_2.length : Int) ≤ 8) = true := decide_eq_true c51
        have c51b1 : decide (x3_2.length ≤ 8) = true := decide_eq_true (by omega)
        clear c51
        obtain ⟨y192, hy192⟩ : ∃ y_ : List Int, y_ = (([1, 2, 3, 4] : List Int)) := ⟨_, rfl⟩
        replace H : (if x3_2.length < 5864062014805 then (spec_l91Rows.l1 k2 (x3_2 ++ [y192]) s0_0 t191) else (none)) = some (r1, r2) := by first | (rw [hy192]; with_reducible exact H) | (have H2_ := (Option.bind_some _ _).symm.trans H; rw [hy192]; with_reducible exact H2_) | (have H2_ := (Option.bind_some _ _).symm.trans H; with_reducible exact H2_) | with_reducible exact H | (rw [hy192]; exact H) | exact H
        have Ny192 := Aside0.mk hy192
        clear hy192
        obtain ⟨c52, H⟩ := ifP H
        have LMc52 := Aside0.mk c52
        clear c52
        obtain ⟨y195, hy195⟩ : ∃ y_ : List (List Int), y_ = (x3_2 ++ [y192]) := ⟨_, rfl⟩
        replace H : (spec_l91Rows.l1 k2 y195 s0_0 t191) = some (r1, r2) := by first | (rw [hy195]; with_reducible exact H) | (have H2_ := (Option.bind_some _ _).symm.trans H; rw [hy195]; with_reducible exact H2_) | (have H2_ := (Option.bind_some _ _).symm.trans H; with_reducible exact H2_) | with_reducible exact H | (rw [hy195]; exact H) | exact H
        have Ny195 := Aside0.mk hy195
        clear hy195
        have H' := Aside0.mk H
        clear H
        obtain ⟨Ao53, co53, eo53⟩ := Kd.N_slice HO_3.out
        subst eo53
        go_wp2_with (first | ((with_reducible refine gate_dst (N := 59) rfl ?_); refine Kd.R_lit (Kd.int .i64) _ 3 ?hg (N := 59) ?hd (xs := ([1, 2, 3, 4] : List Int)) (inner := [.int .i64 1, .int .i64 2, .int .i64 3, .int .i64 4]) (ok := fun _ => True) (okp := fun _ => True) ?hr ?hp (fun _ hk => hk) trivial (Below.refl _ _) (Nat.le_refl _) (by simp) ?_; (case hd => rfl); (case hg => rfl); (case hr => first | (go_simp; done) | (go_simp; rfl)); (case hp => exact (Reps.one (show Kd.M (Kd.int .i64) _ _ _ 1 [.int .i64 1] from rfl) (Reps.one (show Kd.M (Kd.int .i64) _ _ _ 2 [.int .i64 2] from rfl) (Reps.one (show Kd.M (Kd.int .i64) _ _ _ 3 [.int .i64 3] from rfl) (Reps.one (show Kd.M (Kd.int .i64) _ _ _ 4 [.int .i64 4] from rfl) (Reps.none _ _)))))); intro v193 w54 ho55 hb hg_ hnew_; clear hg_ hnew_; (first | rw [← Ny192.out] at ho55 | (simp only [Int.reduceToNat] at ho55; rw [← Ny192.out] at ho55)); replace HO_3 := Aside0.mk (Kd.N_elder' z4_3 (Kd.R_base ho55) hb); have HO194 := Aside0.mk (Kd.R_lower (Kd.R_newM (M := fun k_ => (w.heap.size ≤ k_)) ho55 (keep_size (w := w) (g := g) (row := none) z4_0) (fun k_ h_ => h_)) (keep_size (w := w) (g := g) (row := none) z4_0)); replace HK := Aside0.mk (KeepBut.trans z4_0 (KeepBut.of_below hb g none) (.inl rfl)); replace HB := Aside0.mk (below_step z4_2 hb); replace HI0 := Aside0.mk (IsS99.below z4_1 hb); clear hb ho55; obtain ⟨Ao57, co57, eo57⟩ := Kd.R_slice HO194.out; subst eo57) | ((with_reducible refine gate_builtin (b := .append) (xs := #[.tmp 58, .tmp 60]) rfl ?_); at_builtin; refine Kd.N_append (Kd.slice 3 (Kd.int .i64)) w.heap.size rfl (.tmp 58) (.tmp 60) 23 28 (.slice none 0 0) 24 rfl Try.underlying23 info28 rfl (by decide) (by omega) (.slice Ao53 x3_2.length co53) x3_2 y192 [.slice Ao57 y192.length co57] (fun k_ => (w.heap.size ≤ k_) ∧ k_ ≠ g) (fun k_ => ((fun k_ => (w.heap.size ≤ k_) ∧ k_ ≠ g)) k_ ∧ some k_ ≠ (.slice Ao53 x3_2.length co53 : Value).ownBlock) rfl rfl ?aP (fun _ hk => hk) ?aF ?aO (Below.refl _ _) ?aS ?aL ?_; (case aP => exact (Kd.FK_slice_mk (Kd.R_reads' (Kd.R_mono (ok' := (fun k_ => ((fun k_ => (w.heap.size ≤ k_) ∧ k_ ≠ g)) k_ ∧ some k_ ≠ (.slice Ao53 x3_2.length co53 : Value).ownBlock)) (IsS99.apart HI0.out (Kd.R_apart' (HO194.out) (Kd.N_typed HO_3.out) (by decide)) (by decide)) (fun k_ hk => ⟨⟨hk.1.1.1, hk.2⟩, hk.1.2⟩))).2.1 (Kd.R_F (Kd.R_mono (ok' := (fun k_ => ((fun k_ => (w.heap.size ≤ k_) ∧ k_ ≠ g)) k_ ∧ some k_ ≠ (.slice Ao53 x3_2.length co53 : Value).ownBlock)) (IsS99.apart HI0.out (Kd.R_apart' (HO194.out) (Kd.N_typed HO_3.out) (by decide)) (by decide)) (fun k_ hk => ⟨⟨hk.1.1.1, hk.2⟩, hk.1.2⟩))))); (case aF => exact (fun k_ hk => ⟨(Nat.le_trans (keep_size (w := w) (g := g) (row := none) z4_0) hk), IsS99.fresh z4_1 k_ hk⟩)); (case aO => exact (by (with_reducible repeat (first | apply Kd.N_alloc | apply Kd.N_drewN | apply Kd.N_drew)); exact Kd.N_mono HO_3.out (fun _ hk => ⟨hk.1.1, hk.1.2⟩))); (case aS => exact (keep_size (w := w) (g := g) (row := none) z4_0)); (case aL => have := LMc52.out; omega); intro v196 w56 ho hb hg hat; rw [← Ny195.out] at ho; have n0_ := Aside0.mk (IsS99.grown z4_1 hg (IsS99.own_neN HI0.out HO_3.out (by decide))); have n1_ := Aside0.mk (below_weaken z4_2 HL.out hb); have n2_ := Aside0.mk (KeepBut.trans z4_0 (KeepBut.of_grown hg g) (Kd.N_base2 HO_3.out)); have n3_ := Aside0.mk (ho); clear HI0; clear HB; clear HK; clear HO_3; clear HO194; have HI0 := n0_; have HB := n1_; have HK := n2_; have HO197 := n3_; clear n0_ n1_ n2_ n3_; clear ho hb hg hat))
        go_roundg k2
        case measure => have := HK1.out; have := HK2.out; omega
        case rel => exact ⟨(y195), H', ⟨by have := HK1.out; have := HK2.out; omega⟩, ⟨by (with_reducible repeat (first | apply Kd.N_alloc | apply Kd.N_drewN | apply Kd.N_drew)); exact HO197.out⟩, ⟨z4_1⟩, ⟨z4_0⟩, ⟨z4_2⟩⟩
       ·rw [if_neg c51] at H
        have c51b0 : decide ((x3_2.length : Int) ≤ 8) = false := decide_eq_false c51
        have c51b1 : decide (x3_2.length ≤ 8) = false := decide_eq_false (by omega)
        clear c51
        simp only [Option.some.injEq, Prod.mk.injEq] at H
        obtain ⟨rfl, rfl⟩ := H
        obtain ⟨Ao58, co58, eo58⟩ := Kd.N_slice HO_3.out
        subst eo58
        go_wp2
        go_ret
        exact ⟨_, by first | rfl | (simp [errW_none, errW_some] <;> rfl) | (simp [*, errW_none, errW_some] <;> rfl), z4_18, z4_1, z4_2, z4_0⟩
    ·rw [if_neg c49] at H
     have c49b0 : (t190 == 0) = false := beq_eq_false_iff_ne.mpr c49
     have c49b1 : (t190 != 0) = true := bne_iff_ne.mpr c49
     simp only [Option.some.injEq, Prod.mk.injEq] at H
     obtain ⟨rfl, rfl⟩ := H
     go_wp2_with (first | ((with_reducible refine gate_callee (f := 78) rfl ?_); refine goesL_ (some 53) rfl rfl Try.func78 (by kernel_rfl) rfl #[.pointer (some ⟨g, 0, none⟩), .int .i64 40] rfl z4_4 ?_; (with_reducible refine (spec_l6Rd_pick.calls k1 g s0_0 x1001_1 40 t190 t191 w0 _ ?side1 ?side2 A48.out).mono ?_); (case side1 => repeat (first | (with_reducible first | exact HI0.out | apply IsS99.alloc | apply IsS99.drewN | apply IsS99.drew | apply IsS99.set_1) | exact HI0.out)); (case side2 => repeat (first | (with_reducible first | exact HB.out | apply below_alloc | apply pw_below_drewN | apply below_drew1 | refine below_set ?_ (IsS99.ge HI0.out)) | exact HB.out)); rintro e w59 ⟨rfl, hi, hb, hk⟩; refine ⟨_, rfl, ?_⟩; replace HO_3 := Aside0.mk (Kd.N_mono (Kd.N_keep (Kd.N_mono (ok := fun k_ => (((w.heap.size ≤ k_)) ∧ k_ ≠ g)) z4_3 (fun k_ hk_ => (⟨hk_, hk_.2⟩ : _ ∧ k_ ≠ g))) hk (fun _ h => h.2)) (fun _ h => h.1)); replace HK := Aside0.mk (KeepBut.trans z4_0 hk (.inl rfl)); replace HB := Aside0.mk (hb); replace HI0 := Aside0.mk (hi); (try clear hb)))
     go_ret
     exact ⟨_, by first | rfl | (simp [errW_none, errW_some] <;> rfl) | (simp [*, errW_none, errW_some] <;> rfl), z4_18, z4_1, z4_2, z4_0⟩

end Go.Proofs.Ytamaejafddmagaa.PA
