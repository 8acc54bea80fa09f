-- Written by a program of this session (after the manner of the kit's print, several laws in one text).
import Derived.Test.YtamaejafddmagaaPAx0
import Derived.Test.YtamaejafddmagaaPAx10
import Derived.Test.YtamaejafddmagaaPAx14
import Derived.Test.YtamaejafddmagaaGw
import Derived.Test.YtamaejafddmagaaGm
import Derived.Test.YtamaejafddmagaaGc
import Derived.Test.YtamaejafddmagaaHt
namespace Go.Proofs.Ytamaejafddmagaa.PA
open Go.RowKit Go.Proofs.YtamaejafddmagaaW.PrintWords Go.Proofs.YtamaejafddmagaaW.PrintLast Go.Proofs.YtamaejafddmagaaW.PrintMore
attribute [local go_sem] max2_int min2_int max_two min_two max_three min_three max_four min_four   -- for this text's walks alone
set_option linter.unusedVariables false
set_option linter.unusedSimpArgs false

/-! ### spec_l4Fits: function 86 -/
theorem z15_0 {p : Prop} (h : p := by repeat (first | (with_reducible first | exact HB.out | apply below_alloc | apply pw_below_drewN | apply below_drew1) | exact HB.out)) : p := h
theorem z15_1 {p : Prop} (h : p := by (with_reducible repeat (first | apply Kd.R_alloc | apply Kd.R_drewN | apply Kd.R_drew)); exact HO_8.out) : p := h
theorem z15_2 {p : Prop} (h : p := by (with_reducible repeat (first | apply Kd.N_alloc | apply Kd.N_drewN | apply Kd.N_drew)); exact HO_7.out) : p := h
theorem z15_3 {p : Prop} (h : p := by first | (with_reducible assumption) | assumption) : p := h
theorem z15_4 {p : Prop} (h : p := by (with_reducible repeat (first | apply Kd.V_alloc | apply Kd.V_drewN | apply Kd.V_drew)); exact HO502.out) : p := h
theorem z15_5 {p : Prop} (h : p := by (with_reducible repeat (first | apply Kd.V_alloc | apply Kd.V_drewN | apply Kd.V_drew)); exact Kd.V_mono HO502.out (fun _ hk => ⟨hk.2, hk.1⟩)) : p := h
theorem z15_6 {p : Prop} (h : p := by first | rfl | (simp; done) | (simp [*]; done)) : p := h
theorem z15_7 {p : Prop} (h : p := by (with_reducible repeat (first | apply Kd.N_alloc | apply Kd.N_drewN | apply Kd.N_drew)); exact Kd.N_mono HO513.out (fun _ hk => ⟨trivial, hk⟩)) : p := h
theorem z15_8 {p : Prop} (h : p := by (with_reducible repeat (first | apply Kd.N_alloc | apply Kd.N_drewN | apply Kd.N_drew)); exact HO495.out) : p := h
mutual
def spec_l4Fits.l0 : Nat → Int → List Int → List Bool → List (List Int) → List Int → Int → Option (Bool)
  | 0, _, _, _, _, _, _ => none
  | k + 1, x0, x1, x2, x7, x8, x9 => if x9 < 8 then (if 0 ≤ x9 then (if x9 < (x2.length : Int) then (if rdOf false x2 x9 = true then ((spec_l4Row.f x0 x9).bind fun t500 => ((spec_l3Has.f x7 t500).bind fun t503 => (if t503 = true then ((spec_l3By.f k x7 t500).bind fun bt504 => (spec_l4Fits.l1 k x0 x1 x2 x7 x8 x9 bt504.1 0 0)) else (if x7.length < 5864062014805 then (if x9 < (x1.length : Int) then (if x8.length < 17592186044416 then (spec_l4Fits.l0 k x0 x1 x2 (x7 ++ [t500]) (x8 ++ [rd x1 x9]) (wrap64 (x9 + 1))) else (none)) else (none)) else (none))))) else (spec_l4Fits.l0 k x0 x1 x2 x7 x8 (wrap64 (x9 + 1)))) else (none)) else (none)) else (some true)
def spec_l4Fits.l1 : Nat → Int → List Int → List Bool → List (List Int) → List Int → Int → List Int → Int → Int → Option (Bool)
  | 0, _, _, _, _, _, _, _, _, _ => none
  | k + 1, x0, x1, x2, x7, x8, x9, x11, x13, x14 => if x14 < (x11.length : Int) then (if 0 ≤ x14 then (if x14 < (x8.length : Int) then (spec_l4Fits.l1 k x0 x1 x2 x7 x8 x9 x11 (Int.tmod (wrap64 (x13 + (wrap64 ((rd x11 x14) * (rd x8 x14))))) 31) (wrap64 (x14 + 1))) else (none)) else (none)) else (if 0 ≤ x9 then (if x9 < (x1.length : Int) then (if x13 = (rd x1 x9) then (spec_l4Fits.l0 k x0 x1 x2 x7 x8 (wrap64 (x9 + 1))) else (some false)) else (none)) else (none))
end
def spec_l4Fits.f (k : Nat) (a0 : Int) (l1 : List Int) (l2 : List Bool) : Option (Bool) := spec_l4Fits.l0 k a0 l1 l2 (([] : List (List Int))) (([] : List Int)) 0
set_option maxHeartbeats 8000000 in
set_option maxRecDepth 100000 in
theorem spec_l4Fits.calls (k : Nat) (a0 : Int) (A1 : Option Addr) (c1 : Nat) (l1 : List Int) (A2 : Option Addr) (c2 : Nat) (l2 : List Bool) (r : Bool) (w : World) (hr1 : Kd.C (Kd.int .i64) w A1 l1.length l1) (hc1 : l1.length ≤ c1) (hr2 : Kd.C Kd.bool w A2 l2.length l2) (hc2 : l2.length ≤ c2) (h : spec_l4Fits.f k a0 l1 l2 = some r) :
  Calls Try.prog 86 #[.int .i64 a0, .slice A1 l1.length c1, .slice A2 l2.length c2] w fun e w' => e = .returned (.bool r) ∧ Below w.heap.size w w' := by
 have HR1 := Aside0.mk hr1
 have HC1 := Aside0.mk hc1
 clear hr1 hc1
 have HR2 := Aside0.mk hr2
 have HC2 := Aside0.mk hc2
 clear hr2 hc2
 have HB := Aside0.mk (Below.refl w.heap.size w)
 have H : (spec_l4Fits.l0 k a0 l1 l2 (([] : List (List Int))) (([] : List Int)) 0) = some r := h
 clear h
 obtain ⟨y493, hy493⟩ : ∃ y_ : List (List Int), y_ = (([] : List (List Int))) := ⟨_, rfl⟩
 replace H : (spec_l4Fits.l0 k a0 l1 l2 y493 (([] : List Int)) 0) = some r := by first | (rw [hy493]; with_reducible exact H) | (have H2_ := (Option.bind_some _ _).symm.trans H; rw [hy493]; with_reducible exact H2_) | (have H2_ := (Option.bind_some _ _).symm.trans H; with_reducible exact H2_) | with_reducible exact H | (rw [hy493]; exact H) | exact H
 have Ny493 := Aside0.mk hy493
 clear hy493
 obtain ⟨y496, hy496⟩ : ∃ y_ : List Int, y_ = (([] : List Int)) := ⟨_, rfl⟩
 replace H : (spec_l4Fits.l0 k a0 l1 l2 y493 y496 0) = some r := by first | (rw [hy496]; with_reducible exact H) | (have H2_ := (Option.bind_some _ _).symm.trans H; rw [hy496]; with_reducible exact H2_) | (have H2_ := (Option.bind_some _ _).symm.trans H; with_reducible exact H2_) | with_reducible exact H | (rw [hy496]; exact H) | exact H
 have Ny496 := Aside0.mk hy496
 clear hy496
 have H' := Aside0.mk H
 clear H
 go_enter Try.func86, Try.ntmps86
 go_wp2_with (first | ((with_reducible refine gate_dst (N := 15) rfl ?_); refine Kd.N_lit (Kd.slice 3 (Kd.int .i64)) _ 28 ?hg (N' := 15) ?hd (xs := ([] : List (List Int))) (inner := []) (ok := (fun _ => True)) (okp := (fun _ => True)) ?hr ?hp (fun _ hk => hk) ((show ∀ k_, w.heap.size ≤ k_ → (fun _ => True) k_ from fun k_ hk => trivial) _ (Nat.le_refl _)) (Below.refl _ _) (Nat.le_refl _) (by simp) ?_; (case hd => rfl); (case hg => rfl); (case hr => first | (go_simp; done) | (go_simp; rfl)); (case hp => exact (Reps.none _ _)); intro v494 w4 ho5 hb hg_ hnew_; clear hg_ hnew_; (first | rw [← Ny493.out] at ho5 | (simp only [Int.reduceToNat] at ho5; rw [← Ny493.out] at ho5)); have HO495 := Aside0.mk (Kd.N_lower ho5 (below_size z15_0)); replace HB := Aside0.mk (below_step z15_0 hb); clear hb ho5) | ((with_reducible refine gate_dst (N := 16) rfl ?_); refine Kd.R_lit (Kd.int .i64) _ 3 ?hg (N := 16) ?hd (xs := ([] : List Int)) (inner := []) (ok := fun _ => True) (okp := fun _ => True) ?hr ?hp (fun _ hk => hk) trivial (Below.refl _ _) (Nat.le_refl _) (by simp) ?_; (case hd => rfl); (case hg => rfl); (case hr => first | (go_simp; done) | (go_simp; rfl)); (case hp => exact (Reps.none _ _)); intro v497 w6 ho7 hb hg_ hnew_; clear hg_ hnew_; (first | rw [← Ny496.out] at ho7 | (simp only [Int.reduceToNat] at ho7; rw [← Ny496.out] at ho7)); replace HO495 := Aside0.mk (Kd.N_elder' z15_8 (Kd.R_base ho7) hb); have HO498 := Aside0.mk (Kd.R_lower ho7 (below_size z15_0)); replace HB := Aside0.mk (below_step z15_0 hb); clear hb ho7))
 repeat (go_quiet (first | ((with_reducible refine gate_dst (N := 15) rfl ?_); refine Kd.N_lit (Kd.slice 3 (Kd.int .i64)) _ 28 ?hg (N' := 15) ?hd (xs := ([] : List (List Int))) (inner := []) (ok := (fun _ => True)) (okp := (fun _ => True)) ?hr ?hp (fun _ hk => hk) ((show ∀ k_, w.heap.size ≤ k_ → (fun _ => True) k_ from fun k_ hk => trivial) _ (Nat.le_refl _)) (Below.refl _ _) (Nat.le_refl _) (by simp) ?_; (case hd => rfl); (case hg => rfl); (case hr => first | (go_simp; done) | (go_simp; rfl)); (case hp => exact (Reps.none _ _)); intro v494 w4 ho5 hb hg_ hnew_; clear hg_ hnew_; (first | rw [← Ny493.out] at ho5 | (simp only [Int.reduceToNat] at ho5; rw [← Ny493.out] at ho5)); have HO495 := Aside0.mk (Kd.N_lower ho5 (below_size z15_0)); replace HB := Aside0.mk (below_step z15_0 hb); clear hb ho5) | ((with_reducible refine gate_dst (N := 16) rfl ?_); refine Kd.R_lit (Kd.int .i64) _ 3 ?hg (N := 16) ?hd (xs := ([] : List Int)) (inner := []) (ok := fun _ => True) (okp := fun _ => True) ?hr ?hp (fun _ hk => hk) trivial (Below.refl _ _) (Nat.le_refl _) (by simp) ?_; (case hd => rfl); (case hg => rfl); (case hr => first | (go_simp; done) | (go_simp; rfl)); (case hp => exact (Reps.none _ _)); intro v497 w6 ho7 hb hg_ hnew_; clear hg_ hnew_; (first | rw [← Ny496.out] at ho7 | (simp only [Int.reduceToNat] at ho7; rw [← Ny496.out] at ho7)); replace HO495 := Aside0.mk (Kd.N_elder' z15_8 (Kd.R_base ho7) hb); have HO498 := Aside0.mk (Kd.R_lower ho7 (below_size z15_0)); replace HB := Aside0.mk (below_step z15_0 hb); clear hb ho7)); try go_wp2_with (first | ((with_reducible refine gate_dst (N := 15) rfl ?_); refine Kd.N_lit (Kd.slice 3 (Kd.int .i64)) _ 28 ?hg (N' := 15) ?hd (xs := ([] : List (List Int))) (inner := []) (ok := (fun _ => True)) (okp := (fun _ => True)) ?hr ?hp (fun _ hk => hk) ((show ∀ k_, w.heap.size ≤ k_ → (fun _ => True) k_ from fun k_ hk => trivial) _ (Nat.le_refl _)) (Below.refl _ _) (Nat.le_refl _) (by simp) ?_; (case hd => rfl); (case hg => rfl); (case hr => first | (go_simp; done) | (go_simp; rfl)); (case hp => exact (Reps.none _ _)); intro v494 w4 ho5 hb hg_ hnew_; clear hg_ hnew_; (first | rw [← Ny493.out] at ho5 | (simp only [Int.reduceToNat] at ho5; rw [← Ny493.out] at ho5)); have HO495 := Aside0.mk (Kd.N_lower ho5 (below_size z15_0)); replace HB := Aside0.mk (below_step z15_0 hb); clear hb ho5) | ((with_reducible refine gate_dst (N := 16) rfl ?_); refine Kd.R_lit (Kd.int .i64) _ 3 ?hg (N := 16) ?hd (xs := ([] : List Int)) (inner := []) (ok := fun _ => True) (okp := fun _ => True) ?hr ?hp (fun _ hk => hk) trivial (Below.refl _ _) (Nat.le_refl _) (by simp) ?_; (case hd => rfl); (case hg => rfl); (case hr => first | (go_simp; done) | (go_simp; rfl)); (case hp => exact (Reps.none _ _)); intro v497 w6 ho7 hb hg_ hnew_; clear hg_ hnew_; (first | rw [← Ny496.out] at ho7 | (simp only [Int.reduceToNat] at ho7; rw [← Ny496.out] at ho7)); replace HO495 := Aside0.mk (Kd.N_elder' z15_8 (Kd.R_base ho7) hb); have HO498 := Aside0.mk (Kd.R_lower ho7 (below_size z15_0)); replace HB := Aside0.mk (below_step z15_0 hb); clear hb ho7)))
 go_loopg [7, 8, 9] k (fun kq v7 v8 v9 w' => ∃ (x7_1 : List (List Int)) (x8_1 : List Int) (x9_1 : Int), v9 = .int .i64 x9_1 ∧ Aside0 (spec_l4Fits.l0 kq a0 l1 l2 x7_1 x8_1 x9_1 = some r) ∧ Aside0 (kq ≤ k) ∧ Aside0 (Kd.N (Kd.slice 3 (Kd.int .i64)) 28 w' w.heap.size (fun k_ => some k_ ≠ (v8 : Value).ownBlock) v7 x7_1) ∧ Aside0 (Kd.R (Kd.int .i64) 3 w' w.heap.size (fun _ => True) v8 x8_1) ∧ Aside0 (Below w.heap.size w w'))
 case atStart => exact ⟨(y493), (y496), (0), z15_6, H', ⟨Nat.le_refl _⟩, ⟨by (with_reducible repeat (first | apply Kd.N_alloc | apply Kd.N_drewN | apply Kd.N_drew)); exact Kd.N_mono HO495.out (fun _ hk => hk.2)⟩, ⟨by (with_reducible repeat (first | apply Kd.R_alloc | apply Kd.R_drewN | apply Kd.R_drew)); exact HO498.out⟩, ⟨z15_0⟩⟩
 case round =>
  clear H'
  try clear c1
  try clear c2
  obtain ⟨x7_1, x8_1, x9_1, rfl, HA, HK1, HO_7, HO_8, HB⟩ := hrel
  cases gk with
  | zero => exact absurd HA.out (by simp [spec_l4Fits.l0])
  | succ k1 =>
   have H := HA.out
   clear HA
   simp only [spec_l4Fits.l0] at H
   by_cases c8 : x9_1 < 8
   ·rw [if_pos c8] at H
    have c8b0 : decide (x9_1 < 8) = true := decide_eq_true c8
    clear c8
    obtain ⟨c9, H⟩ := ifP H
    have c9b0 : decide (0 ≤ x9_1) = true := decide_eq_true c9
    clear c9
    obtain ⟨c10, H⟩ := ifP H
    have c10b0 : decide (x9_1 < (l2.length : Int)) = true := decide_eq_true c10
    clear c10
    obtain ⟨bq11, hbq11⟩ : ∃ b_ : Bool, b_ = (rdOf false l2 x9_1) := ⟨_, rfl⟩
    replace H : (if bq11 = true then ((spec_l4Row.f a0 x9_1).bind fun t500 => ((spec_l3Has.f x7_1 t500).bind fun t503 => (if t503 = true then ((spec_l3By.f k1 x7_1 t500).bind fun bt504 => (spec_l4Fits.l1 k1 a0 l1 l2 x7_1 x8_1 x9_1 bt504.1 0 0)) else (if x7_1.length < 5864062014805 then (if x9_1 < (l1.length : Int) then (if x8_1.length < 17592186044416 then (spec_l4Fits.l0 k1 a0 l1 l2 (x7_1 ++ [t500]) (x8_1 ++ [rd l1 x9_1]) (wrap64 (x9_1 + 1))) else (none)) else (none)) else (none))))) else (spec_l4Fits.l0 k1 a0 l1 l2 x7_1 x8_1 (wrap64 (x9_1 + 1)))) = some r := by rw [← hbq11] at H; exact H
    have Nbq11 := Aside0.mk hbq11
    clear hbq11
    by_cases c12 : bq11 = true
    ·subst c12
     have H1 : ((spec_l4Row.f a0 x9_1).bind fun t500 => ((spec_l3Has.f x7_1 t500).bind fun t503 => (if t503 = true then ((spec_l3By.f k1 x7_1 t500).bind fun bt504 => (spec_l4Fits.l1 k1 a0 l1 l2 x7_1 x8_1 x9_1 bt504.1 0 0)) else (if x7_1.length < 5864062014805 then (if x9_1 < (l1.length : Int) then (if x8_1.length < 17592186044416 then (spec_l4Fits.l0 k1 a0 l1 l2 (x7_1 ++ [t500]) (x8_1 ++ [rd l1 x9_1]) (wrap64 (x9_1 + 1))) else (none)) else (none)) else (none))))) = some r := by rw [if_pos rfl] at H; exact H
     clear H
     have H := H1
     clear H1
     replace H := Option.bind_eq_some_iff.mp H
     obtain ⟨t500, A130, H⟩ := H
     replace H : ((spec_l3Has.f x7_1 t500).bind fun t503 => (if t503 = true then ((spec_l3By.f k1 x7_1 t500).bind fun bt504 => (spec_l4Fits.l1 k1 a0 l1 l2 x7_1 x8_1 x9_1 bt504.1 0 0)) else (if x7_1.length < 5864062014805 then (if x9_1 < (l1.length : Int) then (if x8_1.length < 17592186044416 then (spec_l4Fits.l0 k1 a0 l1 l2 (x7_1 ++ [t500]) (x8_1 ++ [rd l1 x9_1]) (wrap64 (x9_1 + 1))) else (none)) else (none)) else (none)))) = some r := H
     have A13 := Aside0.mk A130
     clear A130
     replace H := Option.bind_eq_some_iff.mp H
     obtain ⟨t503, A140, H⟩ := H
     replace H : (if t503 = true then ((spec_l3By.f k1 x7_1 t500).bind fun bt504 => (spec_l4Fits.l1 k1 a0 l1 l2 x7_1 x8_1 x9_1 bt504.1 0 0)) else (if x7_1.length < 5864062014805 then (if x9_1 < (l1.length : Int) then (if x8_1.length < 17592186044416 then (spec_l4Fits.l0 k1 a0 l1 l2 (x7_1 ++ [t500]) (x8_1 ++ [rd l1 x9_1]) (wrap64 (x9_1 + 1))) else (none)) else (none)) else (none))) = some r := H
     have A14 := Aside0.mk A140
     clear A140
     by_cases c15 : t503 = true
     ·subst c15
      have H1 : ((spec_l3By.f k1 x7_1 t500).bind fun bt504 => (spec_l4Fits.l1 k1 a0 l1 l2 x7_1 x8_1 x9_1 bt504.1 0 0)) = some r := by rw [if_pos rfl] at H; exact H
      clear H
      have H := H1
      clear H1
      replace H := Option.bind_eq_some_iff.mp H
      obtain ⟨⟨t504, t505⟩, A160, H⟩ := H
      replace H : (spec_l4Fits.l1 k1 a0 l1 l2 x7_1 x8_1 x9_1 t504 0 0) = some r := H
      have A16 := Aside0.mk A160
      clear A160
      have H' := Aside0.mk H
      clear H
      have p499 : 0 ≤ (x9_1 : Int) := of_decide_eq_true z15_3
      have q499 : x9_1 < (l2.length : Int) := of_decide_eq_true z15_3
      obtain ⟨ad499, e499, hx499_0⟩ := Kd.at_bool HR2.out x9_1 p499 q499
      (try rw [← Nbq11.out] at hx499_0)
      cases e499
      replace hx499_0 := (HB.out.cell (World.block_lt_of_cell? w _ hx499_0)).trans hx499_0
      replace p499 := eq_true p499
      replace q499 := eq_true q499
      go_wp2_with (first | (go_at_call 106; (with_reducible refine (spec_l4Row.calls a0 x9_1 t500 _ A13.out).mono ?_); rintro e w17 ⟨v501, rfl, ho0, hb⟩; have HO502 := Aside0.mk (Kd.V_lower (Kd.V_mono (ok' := fun k_ => some k_ ≠ (u7 : Value).ownBlock ∧ some k_ ≠ (u8 : Value).ownBlock) ho0 (fun k_ hk_ => ⟨(Kd.fresh' (Kd.N_lt z15_2) k_ hk_), (Kd.fresh' (Kd.R_lt z15_1) k_ hk_)⟩)) (below_size z15_0)); replace HO_7 := Aside0.mk (Kd.N_below z15_2 hb); replace HO_8 := Aside0.mk (Kd.R_below z15_1 hb); replace HB := Aside0.mk (below_step z15_0 hb); (try clear hb); (try clear ho0); obtain ⟨Ao18, co18, eo18⟩ := Kd.N_slice HO_7.out; subst eo18; obtain ⟨Ao19, co19, eo19⟩ := Kd.V_slice HO502.out; subst eo19) | (go_at_call 115; (with_reducible refine (spec_l3Has.calls _ _ x7_1 _ _ t500 true _ ?side1 ?side2 ?side3 ?side4 A14.out).mono ?_); (case side1 => exact cZ ((Kd.N_reads' HO_7.out).2.2)); (case side2 => exact (Kd.N_reads' HO_7.out).2.1); (case side3 => exact cZ ((Kd.V_reads' HO502.out).2.2)); (case side4 => exact (Kd.V_reads' HO502.out).2.1); rintro e w20 ⟨rfl, hb⟩; replace HO_7 := Aside0.mk (Kd.N_below z15_2 hb); replace HO_8 := Aside0.mk (Kd.R_below z15_1 hb); replace HO502 := Aside0.mk (Kd.V_below z15_4 hb); replace HB := Aside0.mk (below_step z15_0 hb); (try clear hb)) | (go_at_call 116; (with_reducible refine (spec_l3By.calls k1 _ _ x7_1 _ _ t500 t504 t505 _ ?side1 ?side2 ?side3 ?side4 A16.out).mono ?_); (case side1 => exact cZ ((Kd.N_reads' HO_7.out).2.2)); (case side2 => exact (Kd.N_reads' HO_7.out).2.1); (case side3 => exact cZ ((Kd.V_reads' HO502.out).2.2)); (case side4 => exact (Kd.V_reads' HO502.out).2.1); rintro e w21 ⟨v506, rfl, ho0, hb⟩; replace HO_7 := Aside0.mk (Kd.N_elder' z15_2 (Kd.R_base ho0) hb); replace HO502 := Aside0.mk (Kd.V_elder' z15_4 (Kd.R_base ho0) hb); have HO507 := Aside0.mk (Kd.R_lower (Kd.R_new' ho0 (Kd.R_lt z15_1)) (below_size z15_0)); replace HO_8 := Aside0.mk (Kd.R_elder' z15_1 (Kd.R_base ho0) hb); replace HB := Aside0.mk (below_step z15_0 hb); (try clear hb); (try clear ho0)))
      repeat (go_quiet (first | (go_at_call 106; (with_reducible refine (spec_l4Row.calls a0 x9_1 t500 _ A13.out).mono ?_); rintro e w17 ⟨v501, rfl, ho0, hb⟩; have HO502 := Aside0.mk (Kd.V_lower (Kd.V_mono (ok' := fun k_ => some k_ ≠ (u7 : Value).ownBlock ∧ some k_ ≠ (u8 : Value).ownBlock) ho0 (fun k_ hk_ => ⟨(Kd.fresh' (Kd.N_lt z15_2) k_ hk_), (Kd.fresh' (Kd.R_lt z15_1) k_ hk_)⟩)) (below_size z15_0)); replace HO_7 := Aside0.mk (Kd.N_below z15_2 hb); replace HO_8 := Aside0.mk (Kd.R_below z15_1 hb); replace HB := Aside0.mk (below_step z15_0 hb); (try clear hb); (try clear ho0); obtain ⟨Ao18, co18, eo18⟩ := Kd.N_slice HO_7.out; subst eo18; obtain ⟨Ao19, co19, eo19⟩ := Kd.V_slice HO502.out; subst eo19) | (go_at_call 115; (with_reducible refine (spec_l3Has.calls _ _ x7_1 _ _ t500 true _ ?side1 ?side2 ?side3 ?side4 A14.out).mono ?_); (case side1 => exact cZ ((Kd.N_reads' HO_7.out).2.2)); (case side2 => exact (Kd.N_reads' HO_7.out).2.1); (case side3 => exact cZ ((Kd.V_reads' HO502.out).2.2)); (case side4 => exact (Kd.V_reads' HO502.out).2.1); rintro e w20 ⟨rfl, hb⟩; replace HO_7 := Aside0.mk (Kd.N_below z15_2 hb); replace HO_8 := Aside0.mk (Kd.R_below z15_1 hb); replace HO502 := Aside0.mk (Kd.V_below z15_4 hb); replace HB := Aside0.mk (below_step z15_0 hb); (try clear hb)) | (go_at_call 116; (with_reducible refine (spec_l3By.calls k1 _ _ x7_1 _ _ t500 t504 t505 _ ?side1 ?side2 ?side3 ?side4 A16.out).mono ?_); (case side1 => exact cZ ((Kd.N_reads' HO_7.out).2.2)); (case side2 => exact (Kd.N_reads' HO_7.out).2.1); (case side3 => exact cZ ((Kd.V_reads' HO502.out).2.2)); (case side4 => exact (Kd.V_reads' HO502.out).2.1); rintro e w21 ⟨v506, rfl, ho0, hb⟩; replace HO_7 := Aside0.mk (Kd.N_elder' z15_2 (Kd.R_base ho0) hb); replace HO502 := Aside0.mk (Kd.V_elder' z15_4 (Kd.R_base ho0) hb); have HO507 := Aside0.mk (Kd.R_lower (Kd.R_new' ho0 (Kd.R_lt z15_1)) (below_size z15_0)); replace HO_8 := Aside0.mk (Kd.R_elder' z15_1 (Kd.R_base ho0) hb); replace HB := Aside0.mk (below_step z15_0 hb); (try clear hb); (try clear ho0))); try go_wp2_with (first | (go_at_call 106; (with_reducible refine (spec_l4Row.calls a0 x9_1 t500 _ A13.out).mono ?_); rintro e w17 ⟨v501, rfl, ho0, hb⟩; have HO502 := Aside0.mk (Kd.V_lower (Kd.V_mono (ok' := fun k_ => some k_ ≠ (u7 : Value).ownBlock ∧ some k_ ≠ (u8 : Value).ownBlock) ho0 (fun k_ hk_ => ⟨(Kd.fresh' (Kd.N_lt z15_2) k_ hk_), (Kd.fresh' (Kd.R_lt z15_1) k_ hk_)⟩)) (below_size z15_0)); replace HO_7 := Aside0.mk (Kd.N_below z15_2 hb); replace HO_8 := Aside0.mk (Kd.R_below z15_1 hb); replace HB := Aside0.mk (below_step z15_0 hb); (try clear hb); (try clear ho0); obtain ⟨Ao18, co18, eo18⟩ := Kd.N_slice HO_7.out; subst eo18; obtain ⟨Ao19, co19, eo19⟩ := Kd.V_slice HO502.out; subst eo19) | (go_at_call 115; (with_reducible refine (spec_l3Has.calls _ _ x7_1 _ _ t500 true _ ?side1 ?side2 ?side3 ?side4 A14.out).mono ?_); (case side1 => exact cZ ((Kd.N_reads' HO_7.out).2.2)); (case side2 => exact (Kd.N_reads' HO_7.out).2.1); (case side3 => exact cZ ((Kd.V_reads' HO502.out).2.2)); (case side4 => exact (Kd.V_reads' HO502.out).2.1); rintro e w20 ⟨rfl, hb⟩; replace HO_7 := Aside0.mk (Kd.N_below z15_2 hb); replace HO_8 := Aside0.mk (Kd.R_below z15_1 hb); replace HO502 := Aside0.mk (Kd.V_below z15_4 hb); replace HB := Aside0.mk (below_step z15_0 hb); (try clear hb)) | (go_at_call 116; (with_reducible refine (spec_l3By.calls k1 _ _ x7_1 _ _ t500 t504 t505 _ ?side1 ?side2 ?side3 ?side4 A16.out).mono ?_); (case side1 => exact cZ ((Kd.N_reads' HO_7.out).2.2)); (case side2 => exact (Kd.N_reads' HO_7.out).2.1); (case side3 => exact cZ ((Kd.V_reads' HO502.out).2.2)); (case side4 => exact (Kd.V_reads' HO502.out).2.1); rintro e w21 ⟨v506, rfl, ho0, hb⟩; replace HO_7 := Aside0.mk (Kd.N_elder' z15_2 (Kd.R_base ho0) hb); replace HO502 := Aside0.mk (Kd.V_elder' z15_4 (Kd.R_base ho0) hb); have HO507 := Aside0.mk (Kd.R_lower (Kd.R_new' ho0 (Kd.R_lt z15_1)) (below_size z15_0)); replace HO_8 := Aside0.mk (Kd.R_elder' z15_1 (Kd.R_base ho0) hb); replace HB := Aside0.mk (below_step z15_0 hb); (try clear hb); (try clear ho0))))
      go_loopg [13, 14] k1 (fun kq v13 v14 w' => ∃ (x13_2 : Int) (x14_2 : Int), v13 = .int .i64 x13_2 ∧ v14 = .int .i64 x14_2 ∧ Aside0 (spec_l4Fits.l1 kq a0 l1 l2 x7_1 x8_1 x9_1 t504 x13_2 x14_2 = some r) ∧ Aside0 (kq ≤ k1) ∧ Aside0 (Kd.N (Kd.slice 3 (Kd.int .i64)) 28 w' w.heap.size (fun k_ => some k_ ≠ (u8 : Value).ownBlock ∧ some k_ ≠ (v506 : Value).ownBlock) (.slice Ao18 x7_1.length co18) x7_1) ∧ Aside0 (Kd.R (Kd.int .i64) 3 w' w.heap.size (fun k_ => some k_ ≠ (v506 : Value).ownBlock) u8 x8_1) ∧ Aside0 (Kd.R (Kd.int .i64) 3 w' w.heap.size (fun k_ => some k_ ≠ (u8 : Value).ownBlock) v506 t504) ∧ Aside0 (Below w.heap.size w w'))
      case atStart => exact ⟨(0), (0), z15_6, z15_6, H', ⟨Nat.le_refl _⟩, ⟨z15_2⟩, ⟨by (with_reducible repeat (first | apply Kd.R_alloc | apply Kd.R_drewN | apply Kd.R_drew)); exact Kd.R_mono HO_8.out (fun _ hk => hk.2)⟩, ⟨by (with_reducible repeat (first | apply Kd.R_alloc | apply Kd.R_drewN | apply Kd.R_drew)); exact Kd.R_mono HO507.out (fun _ hk => hk.2)⟩, ⟨z15_0⟩⟩
      case round =>
       clear H'
       try clear c1
       try clear c2
       try clear c8
       try clear c8b0
       try clear c9
       try clear c9b0
       try clear c10
       try clear c10b0
       try clear c12
       try clear c15
       try clear hx499_0
       try clear p499
       try clear q499
       obtain ⟨x13_2, x14_2, rfl, rfl, HA, HK2, HO_7, HO_8, HO_11, HB⟩ := hrel
       cases gk with
       | zero => exact absurd HA.out (by simp [spec_l4Fits.l1])
       | succ k2 =>
        have H := HA.out
        clear HA
        simp only [spec_l4Fits.l1] at H
        by_cases c22 : x14_2 < (t504.length : Int)
        ·rw [if_pos c22] at H
         have c22b0 : decide (x14_2 < (t504.length : Int)) = true := decide_eq_true c22
         clear c22
         obtain ⟨c23, H⟩ := ifP H
         have c23b0 : decide (0 ≤ x14_2) = true := decide_eq_true c23
         clear c23
         obtain ⟨c24, H⟩ := ifP H
         have c24b0 : decide (x14_2 < (x8_1.length : Int)) = true := decide_eq_true c24
         clear c24
         have H' := Aside0.mk H
         clear H
         obtain ⟨Ao25, co25, eo25⟩ := Kd.R_slice HO_11.out
         subst eo25
         have p508 : 0 ≤ (x14_2 : Int) := of_decide_eq_true z15_3
         have q508 : x14_2 < (t504.length : Int) := of_decide_eq_true z15_3
         obtain ⟨ad508, e508, hx508_0⟩ := Kd.at_int (Kd.R_reads' HO_11.out).2.2 x14_2 p508 q508
         cases e508
         replace p508 := eq_true p508
         replace q508 := eq_true q508
         obtain ⟨Ao26, co26, eo26⟩ := Kd.R_slice HO_8.out
         subst eo26
         have p509 : 0 ≤ (x14_2 : Int) := of_decide_eq_true z15_3
         have q509 : x14_2 < (x8_1.length : Int) := of_decide_eq_true z15_3
         obtain ⟨ad509, e509, hx509_0⟩ := Kd.at_int (Kd.R_reads' HO_8.out).2.2 x14_2 p509 q509
         cases e509
         replace p509 := eq_true p509
         replace q509 := eq_true q509
         go_wp2
         repeat (go_quiet (fail); try go_wp2)
         go_roundg k2
         case measure => have := HK1.out; have := HK2.out; omega
         case rel => exact ⟨(Int.tmod (wrap64 (x13_2 + (wrap64 ((rd t504 x14_2) * (rd x8_1 x14_2))))) 31), (wrap64 (x14_2 + 1)), z15_6, z15_6, H', ⟨by have := HK1.out; have := HK2.out; omega⟩, ⟨z15_2⟩, ⟨z15_1⟩, ⟨by (with_reducible repeat (first | apply Kd.R_alloc | apply Kd.R_drewN | apply Kd.R_drew)); exact HO_11.out⟩, ⟨z15_0⟩⟩
        ·rw [if_neg c22] at H
         have c22b0 : decide (x14_2 < (t504.length : Int)) = false := decide_eq_false c22
         clear c22
         obtain ⟨c27, H⟩ := ifP H
         have c27b0 : decide (0 ≤ x9_1) = true := decide_eq_true c27
         clear c27
         obtain ⟨c28, H⟩ := ifP H
         have c28b0 : decide (x9_1 < (l1.length : Int)) = true := decide_eq_true c28
         clear c28
         by_cases c29 : x13_2 = (rd l1 x9_1)
         ·rw [if_pos c29] at H
          have c29b0 : (x13_2 == (rd l1 x9_1)) = true := beq_iff_eq.mpr c29
          have c29b1 : (x13_2 != (rd l1 x9_1)) = false := bne_eq_false_iff_eq.mpr c29
          clear c29
          have H' := Aside0.mk H
          clear H
          obtain ⟨Ao30, co30, eo30⟩ := Kd.R_slice HO_11.out
          subst eo30
          have p510 : 0 ≤ (x9_1 : Int) := of_decide_eq_true z15_3
          have q510 : x9_1 < (l1.length : Int) := of_decide_eq_true z15_3
          obtain ⟨ad510, e510, hx510_0⟩ := Kd.at_int HR1.out x9_1 p510 q510
          cases e510
          replace hx510_0 := (HB.out.cell (World.block_lt_of_cell? w _ hx510_0)).trans hx510_0
          replace p510 := eq_true p510
          replace q510 := eq_true q510
          go_wp2
          repeat (go_quiet (fail); try go_wp2)
          go_roundg k2
          case measure => have := HK1.out; have := HK2.out; omega
          case rel => exact ⟨(x7_1), (x8_1), (wrap64 (x9_1 + 1)), z15_6, H', ⟨by have := HK1.out; have := HK2.out; omega⟩, ⟨by (with_reducible repeat (first | apply Kd.N_alloc | apply Kd.N_drewN | apply Kd.N_drew)); exact Kd.N_mono HO_7.out (fun _ hk => hk.1)⟩, ⟨by (with_reducible repeat (first | apply Kd.R_alloc | apply Kd.R_drewN | apply Kd.R_drew)); exact Kd.R_mono HO_8.out (fun _ hk => trivial)⟩, ⟨z15_0⟩⟩
         ·rw [if_neg c29] at H
          have c29b0 : (x13_2 == (rd l1 x9_1)) = false := beq_eq_false_iff_ne.mpr c29
          have c29b1 : (x13_2 != (rd l1 x9_1)) = true := bne_iff_ne.mpr c29
          obtain rfl := Option.some.inj H
          obtain ⟨Ao31, co31, eo31⟩ := Kd.R_slice HO_11.out
          subst eo31
          have p510 : 0 ≤ (x9_1 : Int) := of_decide_eq_true z15_3
          have q510 : x9_1 < (l1.length : Int) := of_decide_eq_true z15_3
          obtain ⟨ad510, e510, hx510_0⟩ := Kd.at_int HR1.out x9_1 p510 q510
          cases e510
          replace hx510_0 := (HB.out.cell (World.block_lt_of_cell? w _ hx510_0)).trans hx510_0
          replace p510 := eq_true p510
          replace q510 := eq_true q510
          go_wp2
          repeat (go_quiet (fail); try go_wp2)
          go_ret
          exact ⟨by first | rfl | (simp [errW_none, errW_some] <;> rfl) | (simp [*, errW_none, errW_some] <;> rfl), z15_0⟩
     ·replace c15 := Bool.eq_false_iff.mpr c15
      subst c15
      have H1 : (if x7_1.length < 5864062014805 then (if x9_1 < (l1.length : Int) then (if x8_1.length < 17592186044416 then (spec_l4Fits.l0 k1 a0 l1 l2 (x7_1 ++ [t500]) (x8_1 ++ [rd l1 x9_1]) (wrap64 (x9_1 + 1))) else (none)) else (none)) else (none)) = some r := by rw [if_neg (show ¬ (false = true) by decide)] at H; exact H
      clear H
      have H := H1
      clear H1
      obtain ⟨c32, H⟩ := ifP H
      have LMc32 := Aside0.mk c32
      clear c32
      obtain ⟨y511, hy511⟩ : ∃ y_ : List (List Int), y_ = (x7_1 ++ [t500]) := ⟨_, rfl⟩
      replace H : (if x9_1 < (l1.length : Int) then (if x8_1.length < 17592186044416 then (spec_l4Fits.l0 k1 a0 l1 l2 y511 (x8_1 ++ [rd l1 x9_1]) (wrap64 (x9_1 + 1))) else (none)) else (none)) = some r := by first | (rw [hy511]; with_reducible exact H) | (have H2_ := (Option.bind_some _ _).symm.trans H; rw [hy511]; with_reducible exact H2_) | (have H2_ := (Option.bind_some _ _).symm.trans H; with_reducible exact H2_) | with_reducible exact H | (rw [hy511]; exact H) | exact H
      have Ny511 := Aside0.mk hy511
      clear hy511
      obtain ⟨c33, H⟩ := ifP H
      have c33b0 : decide (x9_1 < (l1.length : Int)) = true := decide_eq_true c33
      clear c33
      obtain ⟨c34, H⟩ := ifP H
      have LMc34 := Aside0.mk c34
      clear c34
      obtain ⟨y515, hy515⟩ : ∃ y_ : List Int, y_ = (x8_1 ++ [rd l1 x9_1]) := ⟨_, rfl⟩
      replace H : (spec_l4Fits.l0 k1 a0 l1 l2 y511 y515 (wrap64 (x9_1 + 1))) = some r := by first | (rw [hy515]; with_reducible exact H) | (have H2_ := (Option.bind_some _ _).symm.trans H; rw [hy515]; with_reducible exact H2_) | (have H2_ := (Option.bind_some _ _).symm.trans H; with_reducible exact H2_) | with_reducible exact H | (rw [hy515]; exact H) | exact H
      have Ny515 := Aside0.mk hy515
      clear hy515
      have H' := Aside0.mk H
      clear H
      have p499 : 0 ≤ (x9_1 : Int) := of_decide_eq_true z15_3
      have q499 : x9_1 < (l2.length : Int) := of_decide_eq_true z15_3
      obtain ⟨ad499, e499, hx499_0⟩ := Kd.at_bool HR2.out x9_1 p499 q499
      (try rw [← Nbq11.out] at hx499_0)
      cases e499
      replace hx499_0 := (HB.out.cell (World.block_lt_of_cell? w _ hx499_0)).trans hx499_0
      replace p499 := eq_true p499
      replace q499 := eq_true q499
      go_wp2_with (first | (go_at_call 106; (with_reducible refine (spec_l4Row.calls a0 x9_1 t500 _ A13.out).mono ?_); rintro e w35 ⟨v501, rfl, ho0, hb⟩; have HO502 := Aside0.mk (Kd.V_lower (Kd.V_mono (ok' := fun k_ => some k_ ≠ (u7 : Value).ownBlock ∧ some k_ ≠ (u8 : Value).ownBlock) ho0 (fun k_ hk_ => ⟨(Kd.fresh' (Kd.N_lt z15_2) k_ hk_), (Kd.fresh' (Kd.R_lt z15_1) k_ hk_)⟩)) (below_size z15_0)); replace HO_7 := Aside0.mk (Kd.N_below z15_2 hb); replace HO_8 := Aside0.mk (Kd.R_below z15_1 hb); replace HB := Aside0.mk (below_step z15_0 hb); (try clear hb); (try clear ho0); obtain ⟨Ao36, co36, eo36⟩ := Kd.N_slice HO_7.out; subst eo36; obtain ⟨Ao37, co37, eo37⟩ := Kd.V_slice HO502.out; subst eo37) | (go_at_call 115; (with_reducible refine (spec_l3Has.calls _ _ x7_1 _ _ t500 false _ ?side1 ?side2 ?side3 ?side4 A14.out).mono ?_); (case side1 => exact cZ ((Kd.N_reads' HO_7.out).2.2)); (case side2 => exact (Kd.N_reads' HO_7.out).2.1); (case side3 => exact cZ ((Kd.V_reads' HO502.out).2.2)); (case side4 => exact (Kd.V_reads' HO502.out).2.1); rintro e w38 ⟨rfl, hb⟩; replace HO_7 := Aside0.mk (Kd.N_below z15_2 hb); replace HO_8 := Aside0.mk (Kd.R_below z15_1 hb); replace HO502 := Aside0.mk (Kd.V_below z15_4 hb); replace HB := Aside0.mk (below_step z15_0 hb); (try clear hb)) | ((with_reducible refine gate_builtin (b := .append) (xs := #[.tmp 62, .tmp 64]) rfl ?_); at_builtin; refine Kd.N_append (Kd.slice 3 (Kd.int .i64)) (w0 := w) w.heap.size rfl (.tmp 62) (.tmp 64) 23 28 (.slice none 0 0) 24 rfl Try.underlying23 info28 rfl (by decide) (by omega) (.slice Ao36 x7_1.length co36) x7_1 t500 [.slice Ao37 t500.length co37] (fun k_ => some k_ ≠ (u8 : Value).ownBlock) (fun k_ => ((fun k_ => some k_ ≠ (u8 : Value).ownBlock)) k_ ∧ some k_ ≠ (.slice Ao36 x7_1.length co36 : Value).ownBlock) rfl rfl ?aP (fun _ hk => hk) ?aF ?aO ?aB ?aS ?aL ?_; (case aP => exact (Kd.FK_slice_mk (Kd.V_reads' (Kd.V_mono (ok' := (fun k_ => ((fun k_ => some k_ ≠ (u8 : Value).ownBlock)) k_ ∧ some k_ ≠ (.slice Ao36 x7_1.length co36 : Value).ownBlock)) (HO502.out) (fun k_ hk => ⟨hk.2, hk.1⟩))).2.1 (Kd.V_F (Kd.V_mono (ok' := (fun k_ => ((fun k_ => some k_ ≠ (u8 : Value).ownBlock)) k_ ∧ some k_ ≠ (.slice Ao36 x7_1.length co36 : Value).ownBlock)) (HO502.out) (fun k_ hk => ⟨hk.2, hk.1⟩))))); (case aB => exact z15_0); (case aF => exact (fun k_ hk => Kd.fresh' (Kd.R_lt z15_1) k_ hk)); (case aO => exact z15_2); (case aS => exact (below_size z15_0)); (case aL => have := LMc32.out; omega); intro v512 w39 ho hb hg hat; rw [← Ny511.out] at ho; have n0_ := Aside0.mk (Kd.R_over' z15_1 (Kd.N_typed z15_2) (by decide) hg); have n1_ := Aside0.mk (Kd.V_afterv (ok := (fun k_ => some k_ ≠ (u8 : Value).ownBlock)) z15_5 hg hat); have n2_ := Aside0.mk (hb); have n3_ := Aside0.mk (ho); clear HO_8; clear HO502; clear HB; clear HO_7; have HO_8 := n0_; have HO502 := n1_; have HB := n2_; have HO513 := n3_; clear n0_ n1_ n2_ n3_; clear ho hb hg hat; have p514 : 0 ≤ (x9_1 : Int) := of_decide_eq_true z15_3; have q514 : x9_1 < (l1.length : Int) := of_decide_eq_true z15_3; obtain ⟨ad514, e514, hx514_0⟩ := Kd.at_int HR1.out x9_1 p514 q514; cases e514; replace hx514_0 := (HB.out.cell (World.block_lt_of_cell? w _ hx514_0)).trans hx514_0; replace p514 := eq_true p514; replace q514 := eq_true q514) | ((with_reducible refine gate_builtin (b := .append) (xs := #[.tmp 66, .tmp 71]) rfl ?_); at_builtin; refine Kd.R_append (Kd.int .i64) (w0 := w) w.heap.size rfl (.tmp 66) (.tmp 71) 28 3 (.int .i64 0) 8 rfl Try.underlying28 info3 rfl (by decide) (by omega) u8 x8_1 (rd l1 x9_1) [.int .i64 (rd l1 x9_1)] (fun _ => True) (fun _ => False) rfl rfl ?aP (fun _ hk => hk.elim) ?aF ?aO ?aB ?aS ?aL ?_; (case aP => exact rfl); (case aB => exact z15_0); (case aF => exact (fun _ _ => trivial)); (case aO => exact z15_1); (case aS => exact (below_size z15_0)); (case aL => have := LMc34.out; omega); intro v516 w40 ho hb hg hat; rw [← Ny515.out] at ho; have n0_ := Aside0.mk (Kd.V_afterv (ok := (fun k_ => some k_ ≠ (v512 : Value).ownBlock)) z15_5 hg hat); have n1_ := Aside0.mk (Kd.N_afterv (ok := (fun _ => True)) z15_7 hg hat); have n2_ := Aside0.mk (hb); have n3_ := Aside0.mk (ho); clear HO502; clear HO513; clear HB; clear HO_8; have HO502 := n0_; have HO513 := n1_; have HB := n2_; have HO517 := n3_; clear n0_ n1_ n2_ n3_; clear ho hb hg hat))
      repeat (go_quiet (first | (go_at_call 106; (with_reducible refine (spec_l4Row.calls a0 x9_1 t500 _ A13.out).mono ?_); rintro e w35 ⟨v501, rfl, ho0, hb⟩; have HO502 := Aside0.mk (Kd.V_lower (Kd.V_mono (ok' := fun k_ => some k_ ≠ (u7 : Value).ownBlock ∧ some k_ ≠ (u8 : Value).ownBlock) ho0 (fun k_ hk_ => ⟨(Kd.fresh' (Kd.N_lt z15_2) k_ hk_), (Kd.fresh' (Kd.R_lt z15_1) k_ hk_)⟩)) (below_size z15_0)); replace HO_7 := Aside0.mk (Kd.N_below z15_2 hb); replace HO_8 := Aside0.mk (Kd.R_below z15_1 hb); replace HB := Aside0.mk (below_step z15_0 hb); (try clear hb); (try clear ho0); obtain ⟨Ao36, co36, eo36⟩ := Kd.N_slice HO_7.out; subst eo36; obtain ⟨Ao37, co37, eo37⟩ := Kd.V_slice HO502.out; subst eo37) | (go_at_call 115; (with_reducible refine (spec_l3Has.calls _ _ x7_1 _ _ t500 false _ ?side1 ?side2 ?side3 ?side4 A14.out).mono ?_); (case side1 => exact cZ ((Kd.N_reads' HO_7.out).2.2)); (case side2 => exact (Kd.N_reads' HO_7.out).2.1); (case side3 => exact cZ ((Kd.V_reads' HO502.out).2.2)); (case side4 => exact (Kd.V_reads' HO502.out).2.1); rintro e w38 ⟨rfl, hb⟩; replace HO_7 := Aside0.mk (Kd.N_below z15_2 hb); replace HO_8 := Aside0.mk (Kd.R_below z15_1 hb); replace HO502 := Aside0.mk (Kd.V_below z15_4 hb); replace HB := Aside0.mk (below_step z15_0 hb); (try clear hb)) | ((with_reducible refine gate_builtin (b := .append) (xs := #[.tmp 62, .tmp 64]) rfl ?_); at_builtin; refine Kd.N_append (Kd.slice 3 (Kd.int .i64)) (w0 := w) w.heap.size rfl (.tmp 62) (.tmp 64) 23 28 (.slice none 0 0) 24 rfl Try.underlying23 info28 rfl (by decide) (by omega) (.slice Ao36 x7_1.length co36) x7_1 t500 [.slice Ao37 t500.length co37] (fun k_ => some k_ ≠ (u8 : Value).ownBlock) (fun k_ => ((fun k_ => some k_ ≠ (u8 : Value).ownBlock)) k_ ∧ some k_ ≠ (.slice Ao36 x7_1.length co36 : Value).ownBlock) rfl rfl ?aP (fun _ hk => hk) ?aF ?aO ?aB ?aS ?aL ?_; (case aP => exact (Kd.FK_slice_mk (Kd.V_reads' (Kd.V_mono (ok' := (fun k_ => ((fun k_ => some k_ ≠ (u8 : Value).ownBlock)) k_ ∧ some k_ ≠ (.slice Ao36 x7_1.length co36 : Value).ownBlock)) (HO502.out) (fun k_ hk => ⟨hk.2, hk.1⟩))).2.1 (Kd.V_F (Kd.V_mono (ok' := (fun k_ => ((fun k_ => some k_ ≠ (u8 : Value).ownBlock)) k_ ∧ some k_ ≠ (.slice Ao36 x7_1.length co36 : Value).ownBlock)) (HO502.out) (fun k_ hk => ⟨hk.2, hk.1⟩))))); (case aB => exact z15_0); (case aF => exact (fun k_ hk => Kd.fresh' (Kd.R_lt z15_1) k_ hk)); (case aO => exact z15_2); (case aS => exact (below_size z15_0)); (case aL => have := LMc32.out; omega); intro v512 w39 ho hb hg hat; rw [← Ny511.out] at ho; have n0_ := Aside0.mk (Kd.R_over' z15_1 (Kd.N_typed z15_2) (by decide) hg); have n1_ := Aside0.mk (Kd.V_afterv (ok := (fun k_ => some k_ ≠ (u8 : Value).ownBlock)) z15_5 hg hat); have n2_ := Aside0.mk (hb); have n3_ := Aside0.mk (ho); clear HO_8; clear HO502; clear HB; clear HO_7; have HO_8 := n0_; have HO502 := n1_; have HB := n2_; have HO513 := n3_; clear n0_ n1_ n2_ n3_; clear ho hb hg hat; have p514 : 0 ≤ (x9_1 : Int) := of_decide_eq_true z15_3; have q514 : x9_1 < (l1.length : Int) := of_decide_eq_true z15_3; obtain ⟨ad514, e514, hx514_0⟩ := Kd.at_int HR1.out x9_1 p514 q514; cases e514; replace hx514_0 := (HB.out.cell (World.block_lt_of_cell? w _ hx514_0)).trans hx514_0; replace p514 := eq_true p514; replace q514 := eq_true q514) | ((with_reducible refine gate_builtin (b := .append) (xs := #[.tmp 66, .tmp 71]) rfl ?_); at_builtin; refine Kd.R_append (Kd.int .i64) (w0 := w) w.heap.size rfl (.tmp 66) (.tmp 71) 28 3 (.int .i64 0) 8 rfl Try.underlying28 info3 rfl (by decide) (by omega) u8 x8_1 (rd l1 x9_1) [.int .i64 (rd l1 x9_1)] (fun _ => True) (fun _ => False) rfl rfl ?aP (fun _ hk => hk.elim) ?aF ?aO ?aB ?aS ?aL ?_; (case aP => exact rfl); (case aB => exact z15_0); (case aF => exact (fun _ _ => trivial)); (case aO => exact z15_1); (case aS => exact (below_size z15_0)); (case aL => have := LMc34.out; omega); intro v516 w40 ho hb hg hat; rw [← Ny515.out] at ho; have n0_ := Aside0.mk (Kd.V_afterv (ok := (fun k_ => some k_ ≠ (v512 : Value).ownBlock)) z15_5 hg hat); have n1_ := Aside0.mk (Kd.N_afterv (ok := (fun _ => True)) z15_7 hg hat); have n2_ := Aside0.mk (hb); have n3_ := Aside0.mk (ho); clear HO502; clear HO513; clear HB; clear HO_8; have HO502 := n0_; have HO513 := n1_; have HB := n2_; have HO517 := n3_; clear n0_ n1_ n2_ n3_; clear ho hb hg hat)); try go_wp2_with (first | (go_at_call 106; (with_reducible refine (spec_l4Row.calls a0 x9_1 t500 _ A13.out).mono ?_); rintro e w35 ⟨v501, rfl, ho0, hb⟩; have HO502 := Aside0.mk (Kd.V_lower (Kd.V_mono (ok' := fun k_ => some k_ ≠ (u7 : Value).ownBlock ∧ some k_ ≠ (u8 : Value).ownBlock) ho0 (fun k_ hk_ => ⟨(Kd.fresh' (Kd.N_lt z15_2) k_ hk_), (Kd.fresh' (Kd.R_lt z15_1) k_ hk_)⟩)) (below_size z15_0)); replace HO_7 := Aside0.mk (Kd.N_below z15_2 hb); replace HO_8 := Aside0.mk (Kd.R_below z15_1 hb); replace HB := Aside0.mk (below_step z15_0 hb); (try clear hb); (try clear ho0); obtain ⟨Ao36, co36, eo36⟩ := Kd.N_slice HO_7.out; subst eo36; obtain ⟨Ao37, co37, eo37⟩ := Kd.V_slice HO502.out; subst eo37) | (go_at_call 115; (with_reducible refine (spec_l3Has.calls _ _ x7_1 _ _ t500 false _ ?side1 ?side2 ?side3 ?side4 A14.out).mono ?_); (case side1 => exact cZ ((Kd.N_reads' HO_7.out).2.2)); (case side2 => exact (Kd.N_reads' HO_7.out).2.1); (case side3 => exact cZ ((Kd.V_reads' HO502.out).2.2)); (case side4 => exact (Kd.V_reads' HO502.out).2.1); rintro e w38 ⟨rfl, hb⟩; replace HO_7 := Aside0.mk (Kd.N_below z15_2 hb); replace HO_8 := Aside0.mk (Kd.R_below z15_1 hb); replace HO502 := Aside0.mk (Kd.V_below z15_4 hb); replace HB := Aside0.mk (below_step z15_0 hb); (try clear hb)) | ((with_reducible refine gate_builtin (b := .append) (xs := #[.tmp 62, .tmp 64]) rfl ?_); at_builtin; refine Kd.N_append (Kd.slice 3 (Kd.int .i64)) (w0 := w) w.heap.size rfl (.tmp 62) (.tmp 64) 23 28 (.slice none 0 0) 24 rfl Try.underlying23 info28 rfl (by decide) (by omega) (.slice Ao36 x7_1.length co36) x7_1 t500 [.slice Ao37 t500.length co37] (fun k_ => some k_ ≠ (u8 : Value).ownBlock) (fun k_ => ((fun k_ => some k_ ≠ (u8 : Value).ownBlock)) k_ ∧ some k_ ≠ (.slice Ao36 x7_1.length co36 : Value).ownBlock) rfl rfl ?aP (fun _ hk => hk) ?aF ?aO ?aB ?aS ?aL ?_; (case aP => exact (Kd.FK_slice_mk (Kd.V_reads' (Kd.V_mono (ok' := (fun k_ => ((fun k_ => some k_ ≠ (u8 : Value).ownBlock)) k_ ∧ some k_ ≠ (.slice Ao36 x7_1.length co36 : Value).ownBlock)) (HO502.out) (fun k_ hk => ⟨hk.2, hk.1⟩))).2.1 (Kd.V_F (Kd.V_mono (ok' := (fun k_ => ((fun k_ => some k_ ≠ (u8 : Value).ownBlock)) k_ ∧ some k_ ≠ (.slice Ao36 x7_1.length co36 : Value).ownBlock)) (HO502.out) (fun k_ hk => ⟨hk.2, hk.1⟩))))); (case aB => exact z15_0); (case aF => exact (fun k_ hk => Kd.fresh' (Kd.R_lt z15_1) k_ hk)); (case aO => exact z15_2); (case aS => exact (below_size z15_0)); (case aL => have := LMc32.out; omega); intro v512 w39 ho hb hg hat; rw [← Ny511.out] at ho; have n0_ := Aside0.mk (Kd.R_over' z15_1 (Kd.N_typed z15_2) (by decide) hg); have n1_ := Aside0.mk (Kd.V_afterv (ok := (fun k_ => some k_ ≠ (u8 : Value).ownBlock)) z15_5 hg hat); have n2_ := Aside0.mk (hb); have n3_ := Aside0.mk (ho); clear HO_8; clear HO502; clear HB; clear HO_7; have HO_8 := n0_; have HO502 := n1_; have HB := n2_; have HO513 := n3_; clear n0_ n1_ n2_ n3_; clear ho hb hg hat; have p514 : 0 ≤ (x9_1 : Int) := of_decide_eq_true z15_3; have q514 : x9_1 < (l1.length : Int) := of_decide_eq_true z15_3; obtain ⟨ad514, e514, hx514_0⟩ := Kd.at_int HR1.out x9_1 p514 q514; cases e514; replace hx514_0 := (HB.out.cell (World.block_lt_of_cell? w _ hx514_0)).trans hx514_0; replace p514 := eq_true p514; replace q514 := eq_true q514) | ((with_reducible refine gate_builtin (b := .append) (xs := #[.tmp 66, .tmp 71]) rfl ?_); at_builtin; refine Kd.R_append (Kd.int .i64) (w0 := w) w.heap.size rfl (.tmp 66) (.tmp 71) 28 3 (.int .i64 0) 8 rfl Try.underlying28 info3 rfl (by decide) (by omega) u8 x8_1 (rd l1 x9_1) [.int .i64 (rd l1 x9_1)] (fun _ => True) (fun _ => False) rfl rfl ?aP (fun _ hk => hk.elim) ?aF ?aO ?aB ?aS ?aL ?_; (case aP => exact rfl); (case aB => exact z15_0); (case aF => exact (fun _ _ => trivial)); (case aO => exact z15_1); (case aS => exact (below_size z15_0)); (case aL => have := LMc34.out; omega); intro v516 w40 ho hb hg hat; rw [← Ny515.out] at ho; have n0_ := Aside0.mk (Kd.V_afterv (ok := (fun k_ => some k_ ≠ (v512 : Value).ownBlock)) z15_5 hg hat); have n1_ := Aside0.mk (Kd.N_afterv (ok := (fun _ => True)) z15_7 hg hat); have n2_ := Aside0.mk (hb); have n3_ := Aside0.mk (ho); clear HO502; clear HO513; clear HB; clear HO_8; have HO502 := n0_; have HO513 := n1_; have HB := n2_; have HO517 := n3_; clear n0_ n1_ n2_ n3_; clear ho hb hg hat)))
      go_roundg k1
      case measure => have := HK1.out; omega
      case rel => exact ⟨(y511), (y515), (wrap64 (x9_1 + 1)), z15_6, H', ⟨by have := HK1.out; omega⟩, ⟨by (with_reducible repeat (first | apply Kd.N_alloc | apply Kd.N_drewN | apply Kd.N_drew)); exact Kd.N_mono HO513.out (fun _ hk => hk.2)⟩, ⟨by (with_reducible repeat (first | apply Kd.R_alloc | apply Kd.R_drewN | apply Kd.R_drew)); exact HO517.out⟩, ⟨z15_0⟩⟩
    ·replace c12 := Bool.eq_false_iff.mpr c12
     subst c12
     have H1 : (spec_l4Fits.l0 k1 a0 l1 l2 x7_1 x8_1 (wrap64 (x9_1 + 1))) = some r := by rw [if_neg (show ¬ (false = true) by decide)] at H; exact H
     clear H
     have H := H1
     clear H1
     have H' := Aside0.mk H
     clear H
     have p499 : 0 ≤ (x9_1 : Int) := of_decide_eq_true z15_3
     have q499 : x9_1 < (l2.length : Int) := of_decide_eq_true z15_3
     obtain ⟨ad499, e499, hx499_0⟩ := Kd.at_bool HR2.out x9_1 p499 q499
     (try rw [← Nbq11.out] at hx499_0)
     cases e499
     replace hx499_0 := (HB.out.cell (World.block_lt_of_cell? w _ hx499_0)).trans hx499_0
     replace p499 := eq_true p499
     replace q499 := eq_true q499
     go_wp2
     repeat (go_quiet (fail); try go_wp2)
     go_roundg k1
     case measure => have := HK1.out; omega
     case rel => exact ⟨(x7_1), (x8_1), (wrap64 (x9_1 + 1)), z15_6, H', ⟨by have := HK1.out; omega⟩, ⟨z15_2⟩, ⟨z15_1⟩, ⟨z15_0⟩⟩
   ·rw [if_neg c8] at H
    have c8b0 : decide (x9_1 < 8) = false := decide_eq_false c8
    clear c8
    obtain rfl := Option.some.inj H
    go_wp2
    repeat (go_quiet (fail); try go_wp2)
    go_ret
    exact ⟨by first | rfl | (simp [errW_none, errW_some] <;> rfl) | (simp [*, errW_none, errW_some] <;> rfl), z15_0⟩

end Go.Proofs.Ytamaejafddmagaa.PA
