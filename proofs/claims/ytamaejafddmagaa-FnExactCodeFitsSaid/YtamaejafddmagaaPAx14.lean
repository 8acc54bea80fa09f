-- Written by a program of this session (after the manner of the kit's print, several laws in one text).
import Derived.Test.YtamaejafddmagaaPAx0
import Derived.Test.YtamaejafddmagaaPAx9
import Derived.Test.YtamaejafddmagaaPAx10
import Derived.Test.YtamaejafddmagaaPAx11
import Derived.Test.YtamaejafddmagaaGw
import Derived.Test.YtamaejafddmagaaGm
import Derived.Test.YtamaejafddmagaaGc
namespace Go.Proofs.Ytamaejafddmagaa.PA
open Go.RowKit Go.Proofs.YtamaejafddmagaaW.PrintWords Go.Proofs.YtamaejafddmagaaW.PrintLast Go.Proofs.YtamaejafddmagaaW.PrintMore
attribute [local go_sem] max2_int min2_int max_two min_two max_three min_three max_four min_four   -- for this text's walks alone
set_option linter.unusedVariables false
set_option linter.unusedSimpArgs false

/-! ### spec_l3By: function 116 -/
theorem z14_0 {p : Prop} (h : p := by repeat (first | (with_reducible first | exact HB.out | apply below_alloc | apply pw_below_drewN | apply below_drew1) | exact HB.out)) : p := h
theorem z14_1 {p : Prop} (h : p := by first | (with_reducible assumption) | assumption) : p := h
theorem z14_2 {p : Prop} (h : p := by (with_reducible repeat (first | apply Kd.N_alloc | apply Kd.N_drewN | apply Kd.N_drew)); exact HO_6.out) : p := h
theorem z14_3 {p : Prop} (h : p := by (with_reducible repeat (first | apply Kd.R_alloc | apply Kd.R_drewN | apply Kd.R_drew)); exact HO_9.out) : p := h
theorem z14_4 {p : Prop} (h : p := by (try simp only [List.map_toArray, List.map_cons, List.map_nil]); first | done | rfl | (simp only [List.length_drop, List.length_take]; rfl)) : p := h
theorem z14_5 {p : Prop} (h : p := by (with_reducible repeat (first | apply Kd.R_alloc | apply Kd.R_drewN | apply Kd.R_drew)); exact HO442.out) : p := h
theorem z14_6 {p : Prop} (h : p := by first | rfl | (simp; done) | (simp [*]; done)) : p := h
theorem z14_7 {p : Prop} (h : p := by repeat (first | (with_reducible exact HR468_0.out) | (with_reducible refine Kd.C_alloc ?_ _) | (with_reducible refine Kd.C_drewN ?_ _) | (with_reducible refine Kd.C_drew ?_) | exact HR468_0.out)) : p := h
theorem z14_8 {p : Prop} (h : p := by have := HK1.out; have := HK2.out; have := HK3.out; have := HK4.out; omega) : p := h
theorem z14_9 {p : Prop} (h : p := by repeat (first | (with_reducible exact HR466_0.out) | (with_reducible refine Kd.C_alloc ?_ _) | (with_reducible refine Kd.C_drewN ?_ _) | (with_reducible refine Kd.C_drew ?_) | exact HR466_0.out)) : p := h
theorem z14_10 {p : Prop} (h : p := by repeat (first | (with_reducible exact HR470_0.out) | (with_reducible refine Kd.C_alloc ?_ _) | (with_reducible refine Kd.C_drewN ?_ _) | (with_reducible refine Kd.C_drew ?_) | exact HR470_0.out)) : p := h
theorem z14_11 {p : Prop} (h : p := by repeat (first | (with_reducible exact HR471_0.out) | (with_reducible refine Kd.C_alloc ?_ _) | (with_reducible refine Kd.C_drewN ?_ _) | (with_reducible refine Kd.C_drew ?_) | exact HR471_0.out)) : p := h
theorem z14_12 {p : Prop} (h : p := by repeat (first | (with_reducible exact HR476_0.out) | (with_reducible refine Kd.C_alloc ?_ _) | (with_reducible refine Kd.C_drewN ?_ _) | (with_reducible refine Kd.C_drew ?_) | exact HR476_0.out)) : p := h
theorem z14_13 {p : Prop} (h : p := by (try simp only [hl6_4]); (with_reducible repeat (first | apply Kd.N_alloc | apply Kd.N_drewN | apply Kd.N_drew)); exact HO_6.out) : p := h
theorem z14_14 {p : Prop} (h : p := by (try simp only [hl6_4]); (with_reducible repeat (first | apply Kd.R_alloc | apply Kd.R_drewN | apply Kd.R_drew)); exact HO_9.out) : p := h
mutual
def spec_l3By.l0 : Nat → List (List Int) → List Int → List (List Int) → Int → Option (List Int × Bool)
  | 0, _, _, _, _ => none
  | k + 1, x0, x1, x6, x7 => if x7 < (x0.length : Int) then (if 0 ≤ (x0.length : Int) then (if ((x0.length : Int) : Int).toNat ≤ 35184372088832 then ((some (List.replicate ((x0.length : Int) : Int).toNat 0 : List Int)).bind fun y440 => (if 0 ≤ x7 then (if x7 < (y440.length : Int) then ((some (y440.set (x7 : Int).toNat 1 : List Int)).bind fun y443 => ((some (([] : List Int) : List Int)).bind fun y444 => (if y444.length + (rd_L2 x0 x7).length < 17592186044416 then ((some (y444 ++ (rd_L2 x0 x7) : List Int)).bind fun y448 => (if y448.length + y443.length < 17592186044416 then (if x6.length < 5864062014805 then (spec_l3By.l0 k x0 x1 (x6 ++ [(y448 ++ y443)]) (wrap64 (x7 + 1))) else (none)) else (none))) else (none)))) else (none)) else (none))) else (none)) else (none)) else ((some (([] : List Int) : List Int)).bind fun y457 => (if y457.length + x1.length < 17592186044416 then ((some (y457 ++ x1 : List Int)).bind fun y460 => (if 0 ≤ (x0.length : Int) then (if y460.length + ((x0.length : Int) : Int).toNat < 17592186044416 then (spec_l3By.l1 k x6 (y460 ++ List.replicate ((x0.length : Int) : Int).toNat 0) 0) else (none)) else (none))) else (none)))
def spec_l3By.l1 : Nat → List (List Int) → List Int → Int → Option (List Int × Bool)
  | 0, _, _, _ => none
  | k + 1, x6, x9, x10 => if x10 < 4 then (spec_l3By.l2 k x6 x9 x10 0) else ((spec_l2Lead.f k x9).bind fun t480 => ((spec_l6In.f t480 0 3).bind fun t481 => (if t481 = true then (some ((([] : List Int)), false)) else (if 4 ≤ (x9.length : Int) then ((spec_l2Scale.f k (x9.drop 4) 30).bind fun t490 => (some (t490, true))) else (none)))))
def spec_l3By.l2 : Nat → List (List Int) → List Int → Int → Int → Option (List Int × Bool)
  | 0, _, _, _, _ => none
  | k + 1, x6, x9, x10, x11 => if x11 < (x6.length : Int) then (if 0 ≤ x11 then ((spec_l2Lead.f k (rd_L2 x6 x11)).bind fun t467 => (if t467 = x10 then (spec_l3By.l3 k x6 x9 x10 x11 0) else (spec_l3By.l2 k x6 x9 x10 (wrap64 (x11 + 1))))) else (none)) else (spec_l3By.l1 k x6 x9 (wrap64 (x10 + 1)))
def spec_l3By.l3 : Nat → List (List Int) → List Int → Int → Int → Int → Option (List Int × Bool)
  | 0, _, _, _, _, _ => none
  | k + 1, x6, x9, x10, x11, x12 => if x12 < (x6.length : Int) then (if x12 = x11 then (spec_l3By.l3 k x6 x9 x10 x11 (wrap64 (x12 + 1))) else (if 0 ≤ x12 then (if 0 ≤ x10 then (if x10 < ((rd_L2 x6 x12).length : Int) then (if (rd (rd_L2 x6 x12) x10) = 0 then (spec_l3By.l3 k x6 x9 x10 x11 (wrap64 (x12 + 1))) else (if 0 ≤ x11 then (if x11 < (x6.length : Int) then ((spec_l3Less.f k (rd_L2 x6 x12) (rd_L2 x6 x11)).bind fun t472 => (spec_l3By.l3 k (x6.set (x12 : Int).toNat t472) x9 x10 x11 (wrap64 (x12 + 1)))) else (none)) else (none))) else (none)) else (none)) else (none))) else (if 0 ≤ x11 then (if x11 < (x6.length : Int) then ((spec_l3Less.f k x9 (rd_L2 x6 x11)).bind fun t477 => (spec_l3By.l1 k x6 t477 (wrap64 (x10 + 1)))) else (none)) else (none))
end
def spec_l3By.f (k : Nat) (l0 : List (List Int)) (l1 : List Int) : Option (List Int × Bool) := spec_l3By.l0 k l0 l1 (([] : List (List Int))) 0
def spec_l3By.T20 : Bool × List (List Nat × List Nat) := (true, [([], []), ([], []), ([], []), ([], []), ([2, 3], [2, 3]), ([4], [4]), ([], []), ([], []), ([6, 7], [6, 7]), ([8], [8]), ([5, 9], [5, 9]), ([0, 1, 0, 1, 2, 3, 4, 5, 6, 7, 8, 9, 10], [0, 1]), ([11, 10, 10, 0, 1, 2, 3, 4, 5, 6, 7, 8, 9, 10], [10, 11])])
def spec_l3By.B20 : List Nat := [0, 0, 0, 0, 12, 28, 0, 0, 192, 448, 1020, 2047, 4095]
theorem spec_l3By.tab20 : rtab .any (opsOf Try.f116 20) = spec_l3By.T20 := by kernel_rfl
theorem spec_l3By.bits20 : waitsOk spec_l3By.T20.2 spec_l3By.B20 = true := by kernel_rfl
set_option maxHeartbeats 8000000 in
set_option maxRecDepth 100000 in
theorem spec_l3By.calls (k : Nat) (A0 : Option Addr) (c0 : Nat) (l0 : List (List Int)) (A1 : Option Addr) (c1 : Nat) (l1 : List Int) (r1 : List Int) (r2 : Bool) (w : World) (hr0 : Kd.C (Kd.slice 3 (Kd.int .i64)) w A0 l0.length l0) (hc0 : l0.length ≤ c0) (hr1 : Kd.C (Kd.int .i64) w A1 l1.length l1) (hc1 : l1.length ≤ c1) (h : spec_l3By.f k l0 l1 = some (r1, r2)) :
  Calls Try.prog 116 #[.slice A0 l0.length c0, .slice A1 l1.length c1] w fun e w' => ∃ v0_ : Value, e = .returned (.tuple #[v0_, .bool r2]) ∧ Kd.R (Kd.int .i64) 3 w' w.heap.size (fun _ => True) v0_ r1 ∧ Below w.heap.size w w' := by
 have HR0 := Aside0.mk hr0
 have HC0 := Aside0.mk hc0
 clear hr0 hc0
 have HR1 := Aside0.mk hr1
 have HC1 := Aside0.mk hc1
 clear hr1 hc1
 have HB := Aside0.mk (Below.refl w.heap.size w)
 have H : (spec_l3By.l0 k l0 l1 (([] : List (List Int))) 0) = some (r1, r2) := h
 clear h
 obtain ⟨y437, hy437⟩ : ∃ y_ : List (List Int), y_ = (([] : List (List Int))) := ⟨_, rfl⟩
 replace H : (spec_l3By.l0 k l0 l1 y437 0) = some (r1, r2) := by first | (rw [hy437]; with_reducible exact H) | (have H2_ := (Option.bind_some _ _).symm.trans H; rw [hy437]; with_reducible exact H2_) | (have H2_ := (Option.bind_some _ _).symm.trans H; with_reducible exact H2_) | with_reducible exact H | (rw [hy437]; exact H) | exact H
 have Ny437 := Aside0.mk hy437
 clear hy437
 have H' := Aside0.mk H
 clear H
 go_enter Try.func116, Try.ntmps116
 go_wp2_with (first | ((with_reducible refine gate_dst (N := 13) rfl ?_); refine Kd.N_lit (Kd.slice 3 (Kd.int .i64)) _ 28 ?hg (N' := 13) ?hd (xs := ([] : List (List Int))) (inner := []) (ok := (fun _ => True)) (okp := (fun _ => True)) ?hr ?hp (fun _ hk => hk) ((show ∀ k_, w.heap.size ≤ k_ → (fun _ => True) k_ from fun k_ hk => trivial) _ (Nat.le_refl _)) (Below.refl _ _) (Nat.le_refl _) (by simp) ?_; (case hd => rfl); (case hg => rfl); (case hr => first | (go_simp; done) | (go_simp; rfl)); (case hp => exact (Reps.none _ _)); intro v438 w3 ho4 hb hg_ hnew_; clear hg_ hnew_; (first | rw [← Ny437.out] at ho4 | (simp only [Int.reduceToNat] at ho4; rw [← Ny437.out] at ho4)); have HO439 := Aside0.mk (Kd.N_lower ho4 (below_size z14_0)); replace HB := Aside0.mk (below_step z14_0 hb); clear hb ho4))
 go_loopg [6, 7] k (fun kq v6 v7 w' => ∃ (x6_1 : List (List Int)) (x7_1 : Int), v7 = .int .i64 x7_1 ∧ Aside0 (spec_l3By.l0 kq l0 l1 x6_1 x7_1 = some (r1, r2)) ∧ Aside0 (kq ≤ k) ∧ Aside0 (Kd.N (Kd.slice 3 (Kd.int .i64)) 28 w' w.heap.size (fun _ => True) v6 x6_1) ∧ Aside0 (Below w.heap.size w w'))
 case atStart => exact ⟨(y437), (0), z14_6, H', ⟨Nat.le_refl _⟩, ⟨by (with_reducible repeat (first | apply Kd.N_alloc | apply Kd.N_drewN | apply Kd.N_drew)); exact HO439.out⟩, ⟨z14_0⟩⟩
 case round =>
  clear H'
  try clear c1
  obtain ⟨x6_1, x7_1, rfl, HA, HK1, HO_6, HB⟩ := hrel
  cases gk with
  | zero => exact absurd HA.out (by simp [spec_l3By.l0])
  | succ k1 =>
   have H := HA.out
   clear HA
   simp only [spec_l3By.l0] at H
   by_cases c5 : x7_1 < (l0.length : Int)
   ·rw [if_pos c5] at H
    have c5b0 : decide (x7_1 < (l0.length : Int)) = true := decide_eq_true c5
    clear c5
    obtain ⟨c6, H⟩ := ifP H
    have c6b0 := eq_true c6
    have c6b1 : decide (0 ≤ (l0.length : Int)) = true := decide_eq_true c6
    clear c6
    obtain ⟨c7, H⟩ := ifP H
    have c7b0 := eq_true c7
    have c7b1 : decide (((l0.length : Int) : Int).toNat ≤ 35184372088832) = true := decide_eq_true c7
    clear c7
    obtain ⟨y440, hy440⟩ : ∃ y_ : List Int, y_ = (List.replicate ((l0.length : Int) : Int).toNat 0) := ⟨_, rfl⟩
    replace H : (if 0 ≤ x7_1 then (if x7_1 < (y440.length : Int) then ((some (y440.set (x7_1 : Int).toNat 1 : List Int)).bind fun y443 => ((some (([] : List Int) : List Int)).bind fun y444 => (if y444.length + (rd_L2 l0 x7_1).length < 17592186044416 then ((some (y444 ++ (rd_L2 l0 x7_1) : List Int)).bind fun y448 => (if y448.length + y443.length < 17592186044416 then (if x6_1.length < 5864062014805 then (spec_l3By.l0 k1 l0 l1 (x6_1 ++ [(y448 ++ y443)]) (wrap64 (x7_1 + 1))) else (none)) else (none))) else (none)))) else (none)) else (none)) = some (r1, r2) := by first | (rw [hy440]; with_reducible exact H) | (have H2_ := (Option.bind_some _ _).symm.trans H; rw [hy440]; with_reducible exact H2_) | (have H2_ := (Option.bind_some _ _).symm.trans H; with_reducible exact H2_) | with_reducible exact H | (rw [hy440]; exact H) | exact H
    have Ny440 := Aside0.mk hy440
    clear hy440
    obtain ⟨c8, H⟩ := ifP H
    have c8b0 : decide (0 ≤ x7_1) = true := decide_eq_true c8
    clear c8
    obtain ⟨c9, H⟩ := ifP H
    have c9b0 : decide (x7_1 < (y440.length : Int)) = true := decide_eq_true c9
    clear c9
    obtain ⟨y443, hy443⟩ : ∃ y_ : List Int, y_ = (y440.set (x7_1 : Int).toNat 1) := ⟨_, rfl⟩
    replace H : ((some (([] : List Int) : List Int)).bind fun y444 => (if y444.length + (rd_L2 l0 x7_1).length < 17592186044416 then ((some (y444 ++ (rd_L2 l0 x7_1) : List Int)).bind fun y448 => (if y448.length + y443.length < 17592186044416 then (if x6_1.length < 5864062014805 then (spec_l3By.l0 k1 l0 l1 (x6_1 ++ [(y448 ++ y443)]) (wrap64 (x7_1 + 1))) else (none)) else (none))) else (none))) = some (r1, r2) := by first | (rw [hy443]; with_reducible exact H) | (have H2_ := (Option.bind_some _ _).symm.trans H; rw [hy443]; with_reducible exact H2_) | (have H2_ := (Option.bind_some _ _).symm.trans H; with_reducible exact H2_) | with_reducible exact H | (rw [hy443]; exact H) | exact H
    have Ny443 := Aside0.mk hy443
    clear hy443
    obtain ⟨y444, hy444⟩ : ∃ y_ : List Int, y_ = (([] : List Int)) := ⟨_, rfl⟩
    replace H : (if y444.length + (rd_L2 l0 x7_1).length < 17592186044416 then ((some (y444 ++ (rd_L2 l0 x7_1) : List Int)).bind fun y448 => (if y448.length + y443.length < 17592186044416 then (if x6_1.length < 5864062014805 then (spec_l3By.l0 k1 l0 l1 (x6_1 ++ [(y448 ++ y443)]) (wrap64 (x7_1 + 1))) else (none)) else (none))) else (none)) = some (r1, r2) := by first | (rw [hy444]; with_reducible exact H) | (have H2_ := (Option.bind_some _ _).symm.trans H; rw [hy444]; with_reducible exact H2_) | (have H2_ := (Option.bind_some _ _).symm.trans H; with_reducible exact H2_) | with_reducible exact H | (rw [hy444]; exact H) | exact H
    have Ny444 := Aside0.mk hy444
    clear hy444
    obtain ⟨c11, H⟩ := ifP H
    have LMc11 := Aside0.mk c11
    clear c11
    obtain ⟨y448, hy448⟩ : ∃ y_ : List Int, y_ = (y444 ++ (rd_L2 l0 x7_1)) := ⟨_, rfl⟩
    replace H : (if y448.length + y443.length < 17592186044416 then (if x6_1.length < 5864062014805 then (spec_l3By.l0 k1 l0 l1 (x6_1 ++ [(y448 ++ y443)]) (wrap64 (x7_1 + 1))) else (none)) else (none)) = some (r1, r2) := by first | (rw [hy448]; with_reducible exact H) | (have H2_ := (Option.bind_some _ _).symm.trans H; rw [hy448]; with_reducible exact H2_) | (have H2_ := (Option.bind_some _ _).symm.trans H; with_reducible exact H2_) | with_reducible exact H | (rw [hy448]; exact H) | exact H
    have Ny448 := Aside0.mk hy448
    clear hy448
    obtain ⟨c12, H⟩ := ifP H
    have LMc12 := Aside0.mk c12
    clear c12
    obtain ⟨y451, hy451⟩ : ∃ y_ : List Int, y_ = (y448 ++ y443) := ⟨_, rfl⟩
    replace H : (if x6_1.length < 5864062014805 then (spec_l3By.l0 k1 l0 l1 (x6_1 ++ [y451]) (wrap64 (x7_1 + 1))) else (none)) = some (r1, r2) := by first | (rw [hy451]; with_reducible exact H) | (have H2_ := (Option.bind_some _ _).symm.trans H; rw [hy451]; with_reducible exact H2_) | (have H2_ := (Option.bind_some _ _).symm.trans H; with_reducible exact H2_) | with_reducible exact H | (rw [hy451]; exact H) | exact H
    have Ny451 := Aside0.mk hy451
    clear hy451
    obtain ⟨c13, H⟩ := ifP H
    have LMc13 := Aside0.mk c13
    clear c13
    obtain ⟨y454, hy454⟩ : ∃ y_ : List (List Int), y_ = (x6_1 ++ [y451]) := ⟨_, rfl⟩
    replace H : (spec_l3By.l0 k1 l0 l1 y454 (wrap64 (x7_1 + 1))) = some (r1, r2) := by first | (rw [hy454]; with_reducible exact H) | (have H2_ := (Option.bind_some _ _).symm.trans H; rw [hy454]; with_reducible exact H2_) | (have H2_ := (Option.bind_some _ _).symm.trans H; with_reducible exact H2_) | with_reducible exact H | (rw [hy454]; exact H) | exact H
    have Ny454 := Aside0.mk hy454
    clear hy454
    have H' := Aside0.mk H
    clear H
    go_wp2_with (first | ((with_reducible refine gate_dst (N := 22) rfl ?_); refine Kd.R_make (Kd.int .i64) _ 3 rfl (N := 22) rfl 28 _ _ rfl (l0.length : Int) rfl rfl Try.underlying28 (.int .i64 0) 8 info3 rfl (by decide) (by omega) 0 (ok := fun _ => True) (okp := fun _ => True) rfl (fun _ hk => hk) trivial (of_decide_eq_true z14_1) (Nat.le_trans (Nat.mul_le_mul_right _ (of_decide_eq_true z14_1 : (l0.length : Int).toNat ≤ 35184372088832)) (by omega)) (Below.refl _ _) (Nat.le_refl _) ?_; intro v441 w14 ho15 hb hg_ hnew_; clear hg_ hnew_; (first | rw [← Ny440.out] at ho15 | (simp only [Int.reduceToNat] at ho15; rw [← Ny440.out] at ho15)); replace HO_6 := Aside0.mk (Kd.N_elder' z14_2 (Kd.R_base ho15) hb); have HO442 := Aside0.mk (Kd.R_lower ho15 (below_size z14_0)); replace HB := Aside0.mk (below_step z14_0 hb); clear hb ho15; have p10 : 0 ≤ (x7_1 : Int) := of_decide_eq_true z14_1; have q10 : (x7_1 : Int) < ((y440.length : Int) : Int) := of_decide_eq_true z14_1; obtain ⟨go10, co10, eo10, gb10, gl10, cl10, HG10⟩ := Kd.R_form HO442.out (by omega); (first | cases eo10 | (injection eo10 with ea_ en_ ec_; (first | subst ea_ | (injection ea_ with ea_; subst ea_)); subst ec_; clear en_)); have GB10 := Aside0.mk gb10; have GG10 := Aside0.mk HG10; clear gb10 gl10 HG10; obtain ⟨hx10_0, hf10_0⟩ := Kd.R_celln 0 HO442.out (x7_1 : Int) p10 q10; replace p10 := eq_true p10; replace q10 := eq_true q10; obtain ⟨hy16_, hz16_⟩ := Kd.R_celln 0 HO442.out (x7_1 : Int) (of_decide_eq_true z14_1) (of_decide_eq_true z14_1); have HP16 := Kd.R_putg HO442.out (x7_1 : Int) 1) | ((with_reducible refine gate_store (t := 3) (p := 25) rfl ?_); refine store_event (t := 3) (p := 25) (v := ?vo_w17) (w1 := (w14.setCell ⟨go10, (x7_1 : Int).toNat, none⟩ (.int .i64 1))) ?hg ?ho ?hn ?hr ?_; (case ho => rfl); (case hg => rfl); (case hn => rfl); (case hr => first | (go_simp; done) | (go_simp; rfl)); intro w17 hw; have hg : w14.grownBy w17 (some go10) := (by rw [hw]; exact HP16.2); have hp_ : Kd.R (Kd.int .i64) 3 w17 w.heap.size (fun _ => True) (.slice (some ⟨go10, 0, none⟩) y440.length co10) y443 := (by rw [hw, Ny443.out]; exact HP16.1); clear HP16; replace HO_6 := Aside0.mk (Kd.N_afterv (v := (.slice (some ⟨go10, 0, none⟩) y440.length co10)) (v1 := (.slice (some ⟨go10, 0, none⟩) y440.length co10)) (ok := (fun _ => True)) z14_2 hg (.inl rfl)); replace HO442 := Aside0.mk (hp_); replace HB := Aside0.mk ((by rw [hw]; exact below_set (HB.out) GB10.out : Below w.heap.size w w17)); clear hg hw hp_) | ((with_reducible refine gate_dst (N := 27) rfl ?_); refine Kd.R_lit (Kd.int .i64) _ 3 ?hg (N := 27) ?hd (xs := ([] : List Int)) (inner := []) (ok := fun _ => True) (okp := fun _ => True) ?hr ?hp (fun _ hk => hk) trivial (Below.refl _ _) (Nat.le_refl _) (by simp) ?_; (case hd => rfl); (case hg => rfl); (case hr => first | (go_simp; done) | (go_simp; rfl)); (case hp => exact (Reps.none _ _)); intro v445 w18 ho19 hb hg_ hnew_; clear hg_ hnew_; (first | rw [← Ny444.out] at ho19 | (simp only [Int.reduceToNat] at ho19; rw [← Ny444.out] at ho19)); replace HO_6 := Aside0.mk (Kd.N_elder' z14_2 (Kd.R_base ho19) hb); have HO446 := Aside0.mk (Kd.R_lower (Kd.R_new' ho19 (Kd.R_lt z14_5)) (below_size z14_0)); replace HO442 := Aside0.mk (Kd.R_elder' z14_5 (Kd.R_base ho19) hb); replace HB := Aside0.mk (below_step z14_0 hb); clear hb ho19; have p447 : 0 ≤ (x7_1 : Int) := of_decide_eq_true z14_1; have q447 : x7_1 < (l0.length : Int) := of_decide_eq_true z14_1; obtain ⟨ad447, A447_0, c447_0, e447, hx447_0, hl447_0, hi447_0⟩ := at_L2 HR0.out x7_1 p447 q447; cases e447; replace hx447_0 := (HB.out.cell (World.block_lt_of_cell? w _ hx447_0)).trans hx447_0; have HR447_0 := Aside0.mk hi447_0; have HC447_0 := Aside0.mk hl447_0; clear hi447_0 hl447_0; replace p447 := eq_true p447; replace q447 := eq_true q447) | ((with_reducible refine gate_builtin (b := .append) (xs := #[.tmp 27, .tmp 31]) rfl ?_); at_builtin; refine Kd.R_append_rows (Kd.int .i64) (w0 := w) w.heap.size rfl (.tmp 27) (.tmp 31) 28 3 (.int .i64 0) 8 rfl Try.underlying28 info3 rfl (by decide) (by omega) v445 y444 (rd_L2 l0 x7_1) _ _ _ (fun k_ => some k_ ≠ (.slice (some ⟨go10, 0, none⟩) y440.length co10 : Value).ownBlock) (fun _ => False) rfl rfl ?aO ?aR (fun _ _ h => h) (fun _ h => h.elim) ?aF ?aB ?aS ?aL ?_; (case aR => repeat (first | exact (Kd.C_below HR447_0.out HB.out) | (with_reducible refine Kd.C_alloc ?_ _) | (with_reducible refine Kd.C_drewN ?_ _) | (with_reducible refine Kd.C_drew ?_))); (case aB => exact z14_0); (case aF => exact (fun k_ hk => Kd.fresh' (Kd.R_lt z14_5) k_ hk)); (case aO => exact (by (with_reducible repeat (first | apply Kd.R_alloc | apply Kd.R_drewN | apply Kd.R_drew)); exact Kd.R_mono HO446.out (fun _ hk => hk.2))); (case aS => exact (below_size z14_0)); (case aL => have := LMc11.out; omega); intro v449 w20 ho hb hg hat; rw [← Ny448.out] at ho; have n0_ := Aside0.mk (Kd.N_afterv (ok := (fun k_ => some k_ ≠ (.slice (some ⟨go10, 0, none⟩) y440.length co10 : Value).ownBlock)) (by (with_reducible repeat (first | apply Kd.N_alloc | apply Kd.N_drewN | apply Kd.N_drew)); exact Kd.N_mono HO_6.out (fun _ hk => ⟨hk.1.2, hk.2⟩)) hg hat); have n1_ := Aside0.mk (Kd.R_after (ok := (fun _ => True)) z14_5 hg hat); have n2_ := Aside0.mk (hb); have n3_ := Aside0.mk (ho); clear HO_6; clear HO442; clear HB; clear HO446; have HO_6 := n0_; have HO442 := n1_; have HB := n2_; have HO450 := n3_; clear n0_ n1_ n2_ n3_; clear ho hb hg hat) | ((with_reducible refine gate_builtin (b := .append) (xs := #[.tmp 32, .tmp 33]) rfl ?_); at_builtin; refine Kd.R_append_rows (Kd.int .i64) (w0 := w) w.heap.size rfl (.tmp 32) (.tmp 33) 28 3 (.int .i64 0) 8 rfl Try.underlying28 info3 rfl (by decide) (by omega) v449 y448 y443 _ _ _ (fun k_ => some k_ ≠ (.slice (some ⟨go10, 0, none⟩) y440.length co10 : Value).ownBlock) (fun _ => False) rfl rfl ?aO ?aR (fun _ _ h => h) (fun _ h => h.elim) ?aF ?aB ?aS ?aL ?_; (case aR => rw [show y440.length = y443.length from (Kd.R_reads' HO442.out).1]; repeat (first | exact (Kd.R_reads' HO442.out).2.2 | (with_reducible refine Kd.C_alloc ?_ _) | (with_reducible refine Kd.C_drewN ?_ _) | (with_reducible refine Kd.C_drew ?_))); (case aB => exact z14_0); (case aF => exact (fun k_ hk => Kd.fresh' (Kd.R_lt z14_5) k_ hk)); (case aO => exact (by (with_reducible repeat (first | apply Kd.R_alloc | apply Kd.R_drewN | apply Kd.R_drew)); exact HO450.out)); (case aS => exact (below_size z14_0)); (case aL => have := LMc12.out; have hlx_ := (Kd.R_reads' HO442.out).1; omega); intro v452 w21 ho hb hg hat; rw [← Ny451.out] at ho; have n0_ := Aside0.mk (Kd.N_afterv (ok := (fun k_ => some k_ ≠ (.slice (some ⟨go10, 0, none⟩) y440.length co10 : Value).ownBlock)) z14_2 hg hat); have n1_ := Aside0.mk (Kd.R_after (ok := (fun _ => True)) z14_5 hg hat); have n2_ := Aside0.mk (hb); have n3_ := Aside0.mk (ho); clear HO_6; clear HO442; clear HB; clear HO450; have HO_6 := n0_; have HO442 := n1_; have HB := n2_; have HO453 := n3_; clear n0_ n1_ n2_ n3_; clear ho hb hg hat; obtain ⟨Ao23, co23, eo23⟩ := Kd.R_slice HO453.out; subst eo23) | ((with_reducible refine gate_builtin (b := .append) (xs := #[.tmp 26, .tmp 35]) rfl ?_); at_builtin; refine Kd.N_append (Kd.slice 3 (Kd.int .i64)) (w0 := w) w.heap.size rfl (.tmp 26) (.tmp 35) 23 28 (.slice none 0 0) 24 rfl Try.underlying23 info28 rfl (by decide) (by omega) u6 x6_1 y451 [.slice Ao23 y451.length co23] (fun k_ => some k_ ≠ (.slice (some ⟨go10, 0, none⟩) y440.length co10 : Value).ownBlock) (fun k_ => ((fun k_ => some k_ ≠ (.slice (some ⟨go10, 0, none⟩) y440.length co10 : Value).ownBlock)) k_ ∧ some k_ ≠ (u6 : Value).ownBlock) rfl rfl ?aP (fun _ hk => hk) ?aF ?aO ?aB ?aS ?aL ?_; (case aP => exact (Kd.FK_slice_mk (Kd.R_reads' (Kd.R_mono (ok' := (fun k_ => ((fun k_ => some k_ ≠ (.slice (some ⟨go10, 0, none⟩) y440.length co10 : Value).ownBlock)) k_ ∧ some k_ ≠ (u6 : Value).ownBlock)) (Kd.R_apart' (HO453.out) (Kd.N_typed HO_6.out) (by decide)) (fun k_ hk => ⟨hk.1, hk.2⟩))).2.1 (Kd.R_F (Kd.R_mono (ok' := (fun k_ => ((fun k_ => some k_ ≠ (.slice (some ⟨go10, 0, none⟩) y440.length co10 : Value).ownBlock)) k_ ∧ some k_ ≠ (u6 : Value).ownBlock)) (Kd.R_apart' (HO453.out) (Kd.N_typed HO_6.out) (by decide)) (fun k_ hk => ⟨hk.1, hk.2⟩))))); (case aB => exact z14_0); (case aF => exact (fun k_ hk => Kd.fresh' (Kd.R_lt z14_5) k_ hk)); (case aO => exact (by (with_reducible repeat (first | apply Kd.N_alloc | apply Kd.N_drewN | apply Kd.N_drew)); exact Kd.N_mono HO_6.out (fun _ hk => hk.1))); (case aS => exact (below_size z14_0)); (case aL => have := LMc13.out; omega); intro v455 w22 ho hb hg hat; rw [← Ny454.out] at ho; have n0_ := Aside0.mk (Kd.R_over' z14_5 (Kd.N_typed z14_2) (by decide) hg); have n1_ := Aside0.mk (hb); have n2_ := Aside0.mk (ho); clear HO442; clear HB; clear HO_6; clear HO453; have HO442 := n0_; have HB := n1_; have HO456 := n2_; clear n0_ n1_ n2_; clear ho hb hg hat))
    go_roundg k1
    case measure => have := HK1.out; omega
    case rel => exact ⟨(y454), (wrap64 (x7_1 + 1)), z14_6, H', ⟨by have := HK1.out; omega⟩, ⟨by (with_reducible repeat (first | apply Kd.N_alloc | apply Kd.N_drewN | apply Kd.N_drew)); exact Kd.N_mono HO456.out (fun _ hk => trivial)⟩, ⟨z14_0⟩⟩
   ·rw [if_neg c5] at H
    have c5b0 : decide (x7_1 < (l0.length : Int)) = false := decide_eq_false c5
    clear c5
    obtain ⟨y457, hy457⟩ : ∃ y_ : List Int, y_ = (([] : List Int)) := ⟨_, rfl⟩
    replace H : (if y457.length + l1.length < 17592186044416 then ((some (y457 ++ l1 : List Int)).bind fun y460 => (if 0 ≤ (l0.length : Int) then (if y460.length + ((l0.length : Int) : Int).toNat < 17592186044416 then (spec_l3By.l1 k1 x6_1 (y460 ++ List.replicate ((l0.length : Int) : Int).toNat 0) 0) else (none)) else (none))) else (none)) = some (r1, r2) := by first | (rw [hy457]; with_reducible exact H) | (have H2_ := (Option.bind_some _ _).symm.trans H; rw [hy457]; with_reducible exact H2_) | (have H2_ := (Option.bind_some _ _).symm.trans H; with_reducible exact H2_) | with_reducible exact H | (rw [hy457]; exact H) | exact H
    have Ny457 := Aside0.mk hy457
    clear hy457
    obtain ⟨c24, H⟩ := ifP H
    have LMc24 := Aside0.mk c24
    clear c24
    obtain ⟨y460, hy460⟩ : ∃ y_ : List Int, y_ = (y457 ++ l1) := ⟨_, rfl⟩
    replace H : (if 0 ≤ (l0.length : Int) then (if y460.length + ((l0.length : Int) : Int).toNat < 17592186044416 then (spec_l3By.l1 k1 x6_1 (y460 ++ List.replicate ((l0.length : Int) : Int).toNat 0) 0) else (none)) else (none)) = some (r1, r2) := by first | (rw [hy460]; with_reducible exact H) | (have H2_ := (Option.bind_some _ _).symm.trans H; rw [hy460]; with_reducible exact H2_) | (have H2_ := (Option.bind_some _ _).symm.trans H; with_reducible exact H2_) | with_reducible exact H | (rw [hy460]; exact H) | exact H
    have Ny460 := Aside0.mk hy460
    clear hy460
    obtain ⟨c25, H⟩ := ifP H
    have c25b0 := eq_true c25
    have c25b1 : decide (0 ≤ (l0.length : Int)) = true := decide_eq_true c25
    clear c25
    obtain ⟨c26, H⟩ := ifP H
    have LMc26 := Aside0.mk c26
    clear c26
    obtain ⟨y463, hy463⟩ : ∃ y_ : List Int, y_ = (y460 ++ List.replicate ((l0.length : Int) : Int).toNat 0) := ⟨_, rfl⟩
    replace H : (spec_l3By.l1 k1 x6_1 y463 0) = some (r1, r2) := by first | (rw [hy463]; with_reducible exact H) | (have H2_ := (Option.bind_some _ _).symm.trans H; rw [hy463]; with_reducible exact H2_) | (have H2_ := (Option.bind_some _ _).symm.trans H; with_reducible exact H2_) | with_reducible exact H | (rw [hy463]; exact H) | exact H
    have Ny463 := Aside0.mk hy463
    clear hy463
    have H' := Aside0.mk H
    clear H
    go_wp2_with (first | ((with_reducible refine gate_dst (N := 37) rfl ?_); refine Kd.R_lit (Kd.int .i64) _ 3 ?hg (N := 37) ?hd (xs := ([] : List Int)) (inner := []) (ok := fun _ => True) (okp := fun _ => True) ?hr ?hp (fun _ hk => hk) trivial (Below.refl _ _) (Nat.le_refl _) (by simp) ?_; (case hd => rfl); (case hg => rfl); (case hr => first | (go_simp; done) | (go_simp; rfl)); (case hp => exact (Reps.none _ _)); intro v458 w27 ho28 hb hg_ hnew_; clear hg_ hnew_; (first | rw [← Ny457.out] at ho28 | (simp only [Int.reduceToNat] at ho28; rw [← Ny457.out] at ho28)); replace HO_6 := Aside0.mk (Kd.N_elder' z14_2 (Kd.R_base ho28) hb); have HO459 := Aside0.mk (Kd.R_lower ho28 (below_size z14_0)); replace HB := Aside0.mk (below_step z14_0 hb); clear hb ho28) | ((with_reducible refine gate_builtin (b := .append) (xs := #[.tmp 37, .tmp 38]) rfl ?_); at_builtin; refine Kd.R_append_rows (Kd.int .i64) (w0 := w) w.heap.size rfl (.tmp 37) (.tmp 38) 28 3 (.int .i64 0) 8 rfl Try.underlying28 info3 rfl (by decide) (by omega) v458 y457 l1 _ _ _ (fun _ => True) (fun _ => False) rfl rfl ?aO ?aR (fun _ _ h => h) (fun _ h => h.elim) ?aF ?aB ?aS ?aL ?_; (case aR => repeat (first | exact (Kd.C_below HR1.out HB.out) | (with_reducible refine Kd.C_alloc ?_ _) | (with_reducible refine Kd.C_drewN ?_ _) | (with_reducible refine Kd.C_drew ?_))); (case aB => exact z14_0); (case aF => exact (fun _ _ => trivial)); (case aO => exact (by (with_reducible repeat (first | apply Kd.R_alloc | apply Kd.R_drewN | apply Kd.R_drew)); exact HO459.out)); (case aS => exact (below_size z14_0)); (case aL => have := LMc24.out; omega); intro v461 w29 ho hb hg hat; rw [← Ny460.out] at ho; have n0_ := Aside0.mk (Kd.N_afterv (ok := (fun _ => True)) z14_2 hg hat); have n1_ := Aside0.mk (hb); have n2_ := Aside0.mk (ho); clear HO_6; clear HB; clear HO459; have HO_6 := n0_; have HB := n1_; have HO462 := n2_; clear n0_ n1_ n2_; clear ho hb hg hat) | (at_builtin; refine Kd.R_append_zeros (Kd.int .i64) (w0 := w) w.heap.size rfl (.tmp 39) (.tmp 41) 28 3 3 (.int .i64 0) 8 rfl Try.underlying28 Try.underlying3 info3 rfl (by decide) (by omega) v461 y460 0 ((l0.length : Int) : Int) (fun _ => True) rfl rfl rfl ?aF ?aO (of_decide_eq_true z14_1) ?aB ?aS ?aL ?_; (case aB => exact z14_0); (case aF => exact (fun _ _ => trivial)); (case aO => exact (by (with_reducible repeat (first | apply Kd.R_alloc | apply Kd.R_drewN | apply Kd.R_drew)); exact HO462.out)); (case aS => exact (below_size z14_0)); (case aL => have := LMc26.out; omega); intro v464 w30 ho hb hg hat; rw [← Ny463.out] at ho; have n0_ := Aside0.mk (Kd.N_afterv (ok := (fun _ => True)) z14_2 hg hat); have n1_ := Aside0.mk (hb); have n2_ := Aside0.mk (ho); clear HO_6; clear HB; clear HO462; have HO_6 := n0_; have HB := n1_; have HO465 := n2_; clear n0_ n1_ n2_; clear ho hb hg hat))
    go_loopg [9, 10] k1 (fun kq v9 v10 w' => ∃ (x6_2 : List (List Int)) (x9_2 : List Int) (x10_2 : Int), v10 = .int .i64 x10_2 ∧ Aside0 (spec_l3By.l1 kq x6_2 x9_2 x10_2 = some (r1, r2)) ∧ Aside0 (kq ≤ k1) ∧ Aside0 (Kd.N (Kd.slice 3 (Kd.int .i64)) 28 w' w.heap.size (fun k_ => some k_ ≠ (v9 : Value).ownBlock) u6 x6_2) ∧ Aside0 (Kd.R (Kd.int .i64) 3 w' w.heap.size (fun _ => True) v9 x9_2) ∧ Aside0 (Below w.heap.size w w'))
    case atStart => exact ⟨(x6_1), (y463), (0), z14_6, H', ⟨Nat.le_refl _⟩, ⟨by (with_reducible repeat (first | apply Kd.N_alloc | apply Kd.N_drewN | apply Kd.N_drew)); exact Kd.N_mono HO_6.out (fun _ hk => hk.2)⟩, ⟨by (with_reducible repeat (first | apply Kd.R_alloc | apply Kd.R_drewN | apply Kd.R_drew)); exact HO465.out⟩, ⟨z14_0⟩⟩
    case round =>
     clear H'
     try clear c1
     try clear c5
     try clear c5b0
     try clear c24
     try clear c25
     try clear c25b0
     try clear c25b1
     try clear c26
     obtain ⟨x6_2, x9_2, x10_2, rfl, HA, HK2, HO_6, HO_9, HB⟩ := hrel
     cases gk with
     | zero => exact absurd HA.out (by simp [spec_l3By.l1])
     | succ k2 =>
      have H := HA.out
      clear HA
      simp only [spec_l3By.l1] at H
      by_cases c31 : x10_2 < 4
      ·rw [if_pos c31] at H
       have c31b0 : decide (x10_2 < 4) = true := decide_eq_true c31
       clear c31
       have H' := Aside0.mk H
       clear H
       go_wp2
       go_loopg [9, 11] k2 (fun kq v9 v11 w' => ∃ (x6_3 : List (List Int)) (x9_3 : List Int) (x11_3 : Int), v11 = .int .i64 x11_3 ∧ Aside0 (spec_l3By.l2 kq x6_3 x9_3 x10_2 x11_3 = some (r1, r2)) ∧ Aside0 (kq ≤ k2) ∧ Aside0 (Kd.N (Kd.slice 3 (Kd.int .i64)) 28 w' w.heap.size (fun k_ => some k_ ≠ (v9 : Value).ownBlock) u6 x6_3) ∧ Aside0 (Kd.R (Kd.int .i64) 3 w' w.heap.size (fun _ => True) v9 x9_3) ∧ Aside0 (Below w.heap.size w w'))
       case atStart => exact ⟨(x6_2), (x9_2), (0), z14_6, H', ⟨Nat.le_refl _⟩, ⟨z14_2⟩, ⟨z14_3⟩, ⟨z14_0⟩⟩
       case round =>
        clear H'
        try clear c1
        try clear c5
        try clear c5b0
        try clear c24
        try clear c25
        try clear c25b0
        try clear c25b1
        try clear c26
        try clear c31
        try clear c31b0
        obtain ⟨x6_3, x9_3, x11_3, rfl, HA, HK3, HO_6, HO_9, HB⟩ := hrel
        cases gk with
        | zero => exact absurd HA.out (by simp [spec_l3By.l2])
        | succ k3 =>
         have H := HA.out
         clear HA
         simp only [spec_l3By.l2] at H
         by_cases c32 : x11_3 < (x6_3.length : Int)
         ·rw [if_pos c32] at H
          have c32b0 : decide (x11_3 < (x6_3.length : Int)) = true := decide_eq_true c32
          clear c32
          obtain ⟨c33, H⟩ := ifP H
          have c33b0 : decide (0 ≤ x11_3) = true := decide_eq_true c33
          clear c33
          replace H := Option.bind_eq_some_iff.mp H
          obtain ⟨t467, A340, H⟩ := H
          replace H : (if t467 = x10_2 then (spec_l3By.l3 k3 x6_3 x9_3 x10_2 x11_3 0) else (spec_l3By.l2 k3 x6_3 x9_3 x10_2 (wrap64 (x11_3 + 1)))) = some (r1, r2) := H
          have A34 := Aside0.mk A340
          clear A340
          by_cases c35 : t467 = x10_2
          ·rw [if_pos c35] at H
           have c35b0 : (t467 == x10_2) = true := beq_iff_eq.mpr c35
           have c35b1 : (t467 != x10_2) = false := bne_eq_false_iff_eq.mpr c35
           clear c35
           have H' := Aside0.mk H
           clear H
           obtain ⟨Ao36, co36, eo36⟩ := Kd.N_slice HO_6.out
           subst eo36
           have p466 : 0 ≤ (x11_3 : Int) := of_decide_eq_true z14_1
           have q466 : x11_3 < (x6_3.length : Int) := of_decide_eq_true z14_1
           obtain ⟨ad466, A466_0, c466_0, e466, hx466_0, hl466_0, hi466_0⟩ := at_L2 (Kd.N_reads' HO_6.out).2.2 x11_3 p466 q466
           cases e466
           obtain ⟨ce466, hce466, hMe466, hcc466⟩ := Kd.N_get HO_6.out [] x11_3 p466 (by first | exact q466 | exact of_decide_eq_true z14_1 | (have e_ := (Kd.N_reads' HO_6.out).1; omega))
           obtain ⟨ua466_0, uc466_0, rfl, ul466_0, ge466_0⟩ := Kd.FK_slice_open hMe466
           have hv466_0 := hcc466 0 _ rfl
           rw [Nat.add_zero, show ((Kd.slice 3 (Kd.int .i64))).sz = 1 from rfl, Nat.mul_one] at hv466_0
           replace hv466_0 := Option.some.inj (hv466_0.symm.trans hx466_0)
           injection hv466_0 with hva_ hvn_ hvc_
           rw [hva_] at ge466_0
           rw [hvc_] at ul466_0
           have HL466_0 := Aside0.mk (show Kd.V (Kd.int .i64) 3 _ w.heap.size _ _ (rd_L2 x6_3 x11_3) from Kd.V_mk ul466_0 ge466_0)
           clear hva_ hvn_ hvc_ ge466_0 ul466_0
           clear hcc466 hce466
           have HR466_0 := Aside0.mk hi466_0
           have HC466_0 := Aside0.mk hl466_0
           clear hi466_0 hl466_0
           replace p466 := eq_true p466
           replace q466 := eq_true q466
           go_wp2_with (first | ((with_reducible refine gate_callee (f := 123) rfl ?_); refine goesL_ (some 57) rfl rfl Try.func123 (by kernel_rfl) rfl #[.slice A466_0 (rd_L2 x6_3 x11_3).length c466_0] rfl z14_4 ?_; (with_reducible refine (spec_l2Lead.calls k3 _ _ (rd_L2 x6_3 x11_3) t467 _ ?side1 ?side2 A34.out).mono ?_); (case side1 => repeat (first | exact z14_9 | (with_reducible refine Kd.C_alloc ?_ _) | (with_reducible refine Kd.C_drewN ?_ _) | (with_reducible refine Kd.C_drew ?_))); (case side2 => exact HC466_0.out); rintro e w' ⟨rfl, ⟨nd, rfl⟩⟩; refine ⟨_, rfl, ?_⟩))
           go_loopg [12] k3 (fun kq v12 w' => ∃ (x6_4 : List (List Int)) (x12_4 : Int), v12 = .int .i64 x12_4 ∧ Aside0 (spec_l3By.l3 kq x6_4 x9_3 x10_2 x11_3 x12_4 = some (r1, r2)) ∧ Aside0 (kq ≤ k3) ∧ Aside0 (Kd.N (Kd.slice 3 (Kd.int .i64)) 28 w' w.heap.size (fun k_ => some k_ ≠ (u9 : Value).ownBlock) (.slice (some ad466) x6_3.length co36) x6_4) ∧ Aside0 (Kd.R (Kd.int .i64) 3 w' w.heap.size (fun _ => True) u9 x9_3) ∧ Aside0 (Below w.heap.size w w'))
           case atStart => exact ⟨(x6_3), (0), z14_6, H', ⟨Nat.le_refl _⟩, ⟨z14_2⟩, ⟨z14_3⟩, ⟨z14_0⟩⟩
           case round =>
            clear H'
            try clear c1
            try clear c5
            try clear c5b0
            try clear c24
            try clear c25
            try clear c25b0
            try clear c25b1
            try clear c26
            try clear c31
            try clear c31b0
            try clear c32
            try clear c32b0
            try clear c33
            try clear c33b0
            try clear c35
            try clear c35b0
            try clear c35b1
            try clear hx466_0
            try clear p466
            try clear q466
            obtain ⟨x6_4, x12_4, rfl, HA, HK4, HO_6, HO_9, HB⟩ := hrel
            have hl6_4 := (Kd.N_reads' HO_6.out).1
            rw [hl6_4] at HO_6
            (try simp only [hl6_4])
            (try simp only [hl6_4] at HO_9)
            cases gk with
            | zero => exact absurd HA.out (by simp [spec_l3By.l3])
            | succ k4 =>
             have H := HA.out
             clear HA
             simp only [spec_l3By.l3] at H
             by_cases c37 : x12_4 < (x6_4.length : Int)
             ·rw [if_pos c37] at H
              have c37b0 : decide (x12_4 < (x6_4.length : Int)) = true := decide_eq_true c37
              clear c37
              by_cases c38 : x12_4 = x11_3
              ·rw [if_pos c38] at H
               have c38b0 : (x12_4 == x11_3) = true := beq_iff_eq.mpr c38
               have c38b1 : (x12_4 != x11_3) = false := bne_eq_false_iff_eq.mpr c38
               clear c38
               have H' := Aside0.mk H
               clear H
               go_wp2
               (try simp only [← hl6_4])
               go_roundg k4
               case measure => have := HK1.out; have := HK2.out; have := HK3.out; have := HK4.out; omega
               case rel => exact ⟨(x6_4), (wrap64 (x12_4 + 1)), z14_6, H', ⟨z14_8⟩, ⟨z14_13⟩, ⟨z14_14⟩, ⟨z14_0⟩⟩
              ·rw [if_neg c38] at H
               have c38b0 : (x12_4 == x11_3) = false := beq_eq_false_iff_ne.mpr c38
               have c38b1 : (x12_4 != x11_3) = true := bne_iff_ne.mpr c38
               obtain ⟨c39, H⟩ := ifP H
               have c39b0 : decide (0 ≤ x12_4) = true := decide_eq_true c39
               clear c39
               obtain ⟨c40, H⟩ := ifP H
               have c40b0 : decide (0 ≤ x10_2) = true := decide_eq_true c40
               clear c40
               obtain ⟨c41, H⟩ := ifP H
               have c41b0 : decide (x10_2 < ((rd_L2 x6_4 x12_4).length : Int)) = true := decide_eq_true c41
               clear c41
               by_cases c42 : (rd (rd_L2 x6_4 x12_4) x10_2) = 0
               ·rw [if_pos c42] at H
                have c42b0 : ((rd (rd_L2 x6_4 x12_4) x10_2) == 0) = true := beq_iff_eq.mpr c42
                have c42b1 : ((rd (rd_L2 x6_4 x12_4) x10_2) != 0) = false := bne_eq_false_iff_eq.mpr c42
                clear c42
                have H' := Aside0.mk H
                clear H
                have p468 : 0 ≤ (x12_4 : Int) := of_decide_eq_true z14_1
                have q468 : x12_4 < (x6_4.length : Int) := of_decide_eq_true z14_1
                obtain ⟨ad468, A468_0, c468_0, e468, hx468_0, hl468_0, hi468_0⟩ := at_L2 (Kd.N_reads' HO_6.out).2.2 x12_4 p468 q468
                obtain rfl : ad466 = ad468 := (by injection e468)
                obtain ⟨ce468, hce468, hMe468, hcc468⟩ := Kd.N_get HO_6.out [] x12_4 p468 (by first | exact q468 | exact of_decide_eq_true z14_1 | (have e_ := (Kd.N_reads' HO_6.out).1; omega))
                obtain ⟨ua468_0, uc468_0, rfl, ul468_0, ge468_0⟩ := Kd.FK_slice_open hMe468
                have hv468_0 := hcc468 0 _ rfl
                rw [Nat.add_zero, show ((Kd.slice 3 (Kd.int .i64))).sz = 1 from rfl, Nat.mul_one] at hv468_0
                replace hv468_0 := Option.some.inj (hv468_0.symm.trans hx468_0)
                injection hv468_0 with hva_ hvn_ hvc_
                rw [hva_] at ge468_0
                rw [hvc_] at ul468_0
                have HL468_0 := Aside0.mk (show Kd.V (Kd.int .i64) 3 _ w.heap.size _ _ (rd_L2 x6_4 x12_4) from Kd.V_mk ul468_0 ge468_0)
                clear hva_ hvn_ hvc_ ge468_0 ul468_0
                clear hcc468 hce468
                have HR468_0 := Aside0.mk hi468_0
                have HC468_0 := Aside0.mk hl468_0
                clear hi468_0 hl468_0
                replace p468 := eq_true p468
                replace q468 := eq_true q468
                have p469 : 0 ≤ (x10_2 : Int) := of_decide_eq_true z14_1
                have q469 : x10_2 < ((rd_L2 x6_4 x12_4).length : Int) := of_decide_eq_true z14_1
                obtain ⟨ad469, e469, hx469_0⟩ := Kd.at_int z14_7 x10_2 p469 q469
                cases e469
                replace p469 := eq_true p469
                replace q469 := eq_true q469
                go_wp2
                (try simp only [← hl6_4])
                go_roundg k4
                case measure => have := HK1.out; have := HK2.out; have := HK3.out; have := HK4.out; omega
                case rel => exact ⟨(x6_4), (wrap64 (x12_4 + 1)), z14_6, H', ⟨z14_8⟩, ⟨z14_13⟩, ⟨z14_14⟩, ⟨z14_0⟩⟩
               ·rw [if_neg c42] at H
                have c42b0 : ((rd (rd_L2 x6_4 x12_4) x10_2) == 0) = false := beq_eq_false_iff_ne.mpr c42
                have c42b1 : ((rd (rd_L2 x6_4 x12_4) x10_2) != 0) = true := bne_iff_ne.mpr c42
                obtain ⟨c43, H⟩ := ifP H
                have c43b0 : decide (0 ≤ x11_3) = true := decide_eq_true c43
                clear c43
                obtain ⟨c44, H⟩ := ifP H
                have c44b0 : decide (x11_3 < (x6_4.length : Int)) = true := decide_eq_true c44
                clear c44
                replace H := Option.bind_eq_some_iff.mp H
                obtain ⟨t472, A450, H⟩ := H
                replace H : (spec_l3By.l3 k4 (x6_4.set (x12_4 : Int).toNat t472) x9_3 x10_2 x11_3 (wrap64 (x12_4 + 1))) = some (r1, r2) := H
                have A45 := Aside0.mk A450
                clear A450
                obtain ⟨y475, hy475⟩ : ∃ y_ : List (List Int), y_ = (x6_4.set (x12_4 : Int).toNat t472) := ⟨_, rfl⟩
                replace H : (spec_l3By.l3 k4 y475 x9_3 x10_2 x11_3 (wrap64 (x12_4 + 1))) = some (r1, r2) := by first | (rw [hy475]; with_reducible exact H) | (have H2_ := (Option.bind_some _ _).symm.trans H; rw [hy475]; with_reducible exact H2_) | (have H2_ := (Option.bind_some _ _).symm.trans H; with_reducible exact H2_) | with_reducible exact H | (rw [hy475]; exact H) | exact H
                have Ny475 := Aside0.mk hy475
                clear hy475
                have H' := Aside0.mk H
                clear H
                have p468 : 0 ≤ (x12_4 : Int) := of_decide_eq_true z14_1
                have q468 : x12_4 < (x6_4.length : Int) := of_decide_eq_true z14_1
                obtain ⟨ad468, A468_0, c468_0, e468, hx468_0, hl468_0, hi468_0⟩ := at_L2 (Kd.N_reads' HO_6.out).2.2 x12_4 p468 q468
                obtain rfl : ad466 = ad468 := (by injection e468)
                obtain ⟨ce468, hce468, hMe468, hcc468⟩ := Kd.N_get HO_6.out [] x12_4 p468 (by first | exact q468 | exact of_decide_eq_true z14_1 | (have e_ := (Kd.N_reads' HO_6.out).1; omega))
                obtain ⟨ua468_0, uc468_0, rfl, ul468_0, ge468_0⟩ := Kd.FK_slice_open hMe468
                have hv468_0 := hcc468 0 _ rfl
                rw [Nat.add_zero, show ((Kd.slice 3 (Kd.int .i64))).sz = 1 from rfl, Nat.mul_one] at hv468_0
                replace hv468_0 := Option.some.inj (hv468_0.symm.trans hx468_0)
                injection hv468_0 with hva_ hvn_ hvc_
                rw [hva_] at ge468_0
                rw [hvc_] at ul468_0
                have HL468_0 := Aside0.mk (show Kd.V (Kd.int .i64) 3 _ w.heap.size _ _ (rd_L2 x6_4 x12_4) from Kd.V_mk ul468_0 ge468_0)
                clear hva_ hvn_ hvc_ ge468_0 ul468_0
                clear hcc468 hce468
                have HR468_0 := Aside0.mk hi468_0
                have HC468_0 := Aside0.mk hl468_0
                clear hi468_0 hl468_0
                replace p468 := eq_true p468
                replace q468 := eq_true q468
                have p469 : 0 ≤ (x10_2 : Int) := of_decide_eq_true z14_1
                have q469 : x10_2 < ((rd_L2 x6_4 x12_4).length : Int) := of_decide_eq_true z14_1
                obtain ⟨ad469, e469, hx469_0⟩ := Kd.at_int z14_7 x10_2 p469 q469
                cases e469
                replace p469 := eq_true p469
                replace q469 := eq_true q469
                try go_wp2
                replace HO_6 := Aside0.mk (Kd.N_drew HO_6.out)
                replace HO_9 := Aside0.mk (Kd.R_drew HO_9.out)
                replace HL468_0 := Aside0.mk (Kd.V_drew HL468_0.out)
                replace HR468_0 := Aside0.mk (Kd.C_drew HR468_0.out)
                replace HB := Aside0.mk (below_drew1 HB.out)
                have p470 : 0 ≤ (x12_4 : Int) := of_decide_eq_true z14_1
                have q470 : x12_4 < (x6_4.length : Int) := of_decide_eq_true z14_1
                obtain ⟨ad470, A470_0, c470_0, e470, hx470_0, hl470_0, hi470_0⟩ := at_L2 (Kd.N_reads' HO_6.out).2.2 x12_4 p470 q470
                obtain rfl : ad466 = ad470 := (by injection e470)
                obtain ⟨ce470, hce470, hMe470, hcc470⟩ := Kd.N_get HO_6.out [] x12_4 p470 (by first | exact q470 | exact of_decide_eq_true z14_1 | (have e_ := (Kd.N_reads' HO_6.out).1; omega))
                obtain ⟨ua470_0, uc470_0, rfl, ul470_0, ge470_0⟩ := Kd.FK_slice_open hMe470
                have hv470_0 := hcc470 0 _ rfl
                rw [Nat.add_zero, show ((Kd.slice 3 (Kd.int .i64))).sz = 1 from rfl, Nat.mul_one] at hv470_0
                replace hv470_0 := Option.some.inj (hv470_0.symm.trans hx470_0)
                injection hv470_0 with hva_ hvn_ hvc_
                rw [hva_] at ge470_0
                rw [hvc_] at ul470_0
                have HL470_0 := Aside0.mk (show Kd.V (Kd.int .i64) 3 _ w.heap.size _ _ (rd_L2 x6_4 x12_4) from Kd.V_mk ul470_0 ge470_0)
                clear hva_ hvn_ hvc_ ge470_0 ul470_0
                clear hcc470 hce470
                have HR470_0 := Aside0.mk hi470_0
                have HC470_0 := Aside0.mk hl470_0
                clear hi470_0 hl470_0
                replace p470 := eq_true p470
                replace q470 := eq_true q470
                have p471 : 0 ≤ (x11_3 : Int) := of_decide_eq_true z14_1
                have q471 : x11_3 < (x6_4.length : Int) := of_decide_eq_true z14_1
                obtain ⟨ad471, A471_0, c471_0, e471, hx471_0, hl471_0, hi471_0⟩ := at_L2 (Kd.N_reads' HO_6.out).2.2 x11_3 p471 q471
                obtain rfl : ad466 = ad471 := (by injection e471)
                obtain ⟨ce471, hce471, hMe471, hcc471⟩ := Kd.N_get HO_6.out [] x11_3 p471 (by first | exact q471 | exact of_decide_eq_true z14_1 | (have e_ := (Kd.N_reads' HO_6.out).1; omega))
                obtain ⟨ua471_0, uc471_0, rfl, ul471_0, ge471_0⟩ := Kd.FK_slice_open hMe471
                have hv471_0 := hcc471 0 _ rfl
                rw [Nat.add_zero, show ((Kd.slice 3 (Kd.int .i64))).sz = 1 from rfl, Nat.mul_one] at hv471_0
                replace hv471_0 := Option.some.inj (hv471_0.symm.trans hx471_0)
                injection hv471_0 with hva_ hvn_ hvc_
                rw [hva_] at ge471_0
                rw [hvc_] at ul471_0
                have HL471_0 := Aside0.mk (show Kd.V (Kd.int .i64) 3 _ w.heap.size _ _ (rd_L2 x6_4 x11_3) from Kd.V_mk ul471_0 ge471_0)
                clear hva_ hvn_ hvc_ ge471_0 ul471_0
                clear hcc471 hce471
                have HR471_0 := Aside0.mk hi471_0
                have HC471_0 := Aside0.mk hl471_0
                clear hi471_0 hl471_0
                replace p471 := eq_true p471
                replace q471 := eq_true q471
                refine start_ (n := 13) (S := fun w' => w'.cell? (ad466.add (x12_4).toNat) = some (.slice A470_0 (rd_L2 x6_4 x12_4).length c470_0) ∧ w'.cell? (ad466.add (x11_3).toNat) = some (.slice A471_0 (rd_L2 x6_4 x11_3).length c471_0)) (ds := [12]) #[false, false, false, false, false, false, false, false, false, false, false, false, false] (by kernel_rfl) rfl rfl ⟨hx470_0, hx471_0⟩ (fun hHeld => ?_); refine with_tabW spec_l3By.tab20 spec_l3By.bits20 (fun HT_ HW_ => ?_)
                generalize wr.drew = w47 at HO_6 HO_9 HL468_0 HR468_0 HB HL470_0 HL471_0 HR470_0 HR471_0 hx470_0 hx471_0 hHeld ⊢
                refine pZ 0 HT_ ?_
                refine pZ 1 HT_ ?_
                refine pZ 2 HT_ ?_
                refine pZ 3 HT_ ?_
                refine pZ 4 HT_ ?_
                refine pZ 6 HT_ ?_
                refine pZ 7 HT_ ?_
                refine pZ 8 HT_ ?_
                refine tZ 5 hHeld HT_ HW_ ?_
                refine tZ 9 hHeld HT_ HW_ ?_
                refine oZ 10 HT_ (fun K hK => ?_)
                refine goes_ Try.func122 (by kernel_rfl) rfl #[.slice A470_0 (rd_L2 x6_4 x12_4).length c470_0, .slice A471_0 (rd_L2 x6_4 x11_3).length c471_0] (by rfl) rfl rfl z14_4 ?_
                with_reducible refine (spec_l3Less.calls k4 _ _ (rd_L2 x6_4 x12_4) _ _ (rd_L2 x6_4 x11_3) t472 _ ?side1 ?side2 ?side3 ?side4 A45.out).mono ?_
                (case side1 => repeat (first | exact z14_10 | (with_reducible refine Kd.C_alloc ?_ _) | (with_reducible refine Kd.C_drewN ?_ _) | (with_reducible refine Kd.C_drew ?_)))
                (case side2 => exact HC470_0.out)
                (case side3 => repeat (first | exact z14_11 | (with_reducible refine Kd.C_alloc ?_ _) | (with_reducible refine Kd.C_drewN ?_ _) | (with_reducible refine Kd.C_drew ?_)))
                (case side4 => exact HC471_0.out)
                rintro e w48 ⟨v473, rfl, ho0, hb⟩
                have HS0_ := (hb.cell (World.block_lt_of_cell? _ _ (hHeld.1))).trans (hHeld.1)
                have HS1_ := (hb.cell (World.block_lt_of_cell? _ _ (hHeld.2))).trans (hHeld.2)
                refine ⟨_, rfl, ?_⟩
                replace HO_6 := Aside0.mk (Kd.N_elder' z14_2 (Kd.R_base ho0) hb)
                replace HL468_0 := Aside0.mk (Kd.V_elder' (by (with_reducible repeat (first | apply Kd.V_alloc | apply Kd.V_drewN | apply Kd.V_drew)); exact HL468_0.out) (Kd.R_base ho0) hb)
                replace HL470_0 := Aside0.mk (Kd.V_elder' (by (with_reducible repeat (first | apply Kd.V_alloc | apply Kd.V_drewN | apply Kd.V_drew)); exact HL470_0.out) (Kd.R_base ho0) hb)
                replace HL471_0 := Aside0.mk (Kd.V_elder' (by (with_reducible repeat (first | apply Kd.V_alloc | apply Kd.V_drewN | apply Kd.V_drew)); exact HL471_0.out) (Kd.R_base ho0) hb)
                have HO474 := Aside0.mk (Kd.R_lower (Kd.R_new' ho0 (Kd.R_lt z14_3)) (below_size z14_0))
                replace HO_9 := Aside0.mk (Kd.R_elder' z14_3 (Kd.R_base ho0) hb)
                replace HR468_0 := Aside0.mk (Kd.C_below z14_7 hb)
                replace HR470_0 := Aside0.mk (Kd.C_below z14_10 hb)
                replace HR471_0 := Aside0.mk (Kd.C_below z14_11 hb)
                replace HB := Aside0.mk (below_step z14_0 hb)
                (try clear hb)
                (try clear hb2)
                (try clear hk)
                (try clear hi)
                (try clear ho0)
                have p46 : 0 ≤ (x12_4 : Int) := of_decide_eq_true z14_1
                have q46 : (x12_4 : Int) < ((x6_4.length : Int) : Int) := of_decide_eq_true z14_1
                obtain ⟨go46, co46, eo46, gb46, gl46, cl46, HG46⟩ := Kd.N_form HO_6.out (by omega)
                (first | cases eo46 | (injection eo46 with ea_ en_ ec_; (first | subst ea_ | (injection ea_ with ea_; subst ea_)); subst ec_; clear en_))
                have GB46 := Aside0.mk gb46
                have GG46 := Aside0.mk HG46
                clear gb46 gl46 HG46
                (first | simp only [add_plain] at hx466_0 | skip)
                (first | simp only [add_plain] at hx468_0 | skip)
                (first | simp only [add_plain] at hx470_0 | skip)
                (first | simp only [add_plain] at hx471_0 | skip)
                obtain ⟨ce46, hcl46, hM46, hcc46, hfr46⟩ := Kd.N_elem HO_6.out [] (x12_4 : Int) p46 q46
                obtain ⟨ua46_0, uc46_0, rfl, ul46_0, ge46_0⟩ := Kd.FK_slice_open hM46
                have hx46_0 := hcc46 0 _ rfl
                have hf46_0 := hfr46 0
                (try simp only [show ((Kd.slice 3 (Kd.int .i64))).sz = 1 from rfl, Nat.mul_one, Nat.add_zero] at hx46_0)
                (try simp only [show ((Kd.slice 3 (Kd.int .i64))).sz = 1 from rfl, Nat.mul_one, Nat.add_zero] at hf46_0)
                (try clear hcl46); (try clear hcc46); (try clear hfr46); (try clear hM46)
                replace p46 := eq_true p46
                replace q46 := eq_true q46
                have HX49 := Aside0.mk (show Kd.N (Kd.slice 3 (Kd.int .i64)) 28 _ w.heap.size (fun k_ => some k_ ≠ (u9 : Value).ownBlock ∧ some k_ ≠ (v473 : Value).ownBlock) (.slice (some ⟨go46, 0, none⟩) x6_4.length co36) x6_4 from (Kd.N_mono (HO_6.out) (fun k_ hk => ⟨hk.1, hk.2⟩)))
                replace HX49 := Aside0.mk (show Kd.N (Kd.slice 3 (Kd.int .i64)) 28 _ w.heap.size (fun k_ => some k_ ≠ (u9 : Value).ownBlock) (.slice (some ⟨go46, 0, none⟩) x6_4.length co36) x6_4 from Kd.N_mono HX49.out (fun k_ hk => hk.1))
                obtain ⟨ce49, hcl49, hM49, hcc49, hfr49⟩ := Kd.N_elem HX49.out [] (x12_4 : Int) (of_decide_eq_true z14_1) (by have h_ : (x12_4 : Int) < ((x6_4.length : Int) : Int) := of_decide_eq_true z14_1; first | exact h_ | (have e_ := (Kd.N_reads' HO_6.out).1; omega) | simpa using h_)
                obtain ⟨ua49_0, uc49_0, rfl, ul49_0, ge49_0⟩ := Kd.FK_slice_open hM49
                obtain ⟨As_, cs_, es_⟩ := Kd.R_slice HO474.out
                subst es_
                have HP49 := (Kd.N_seg HX49.out (x12_4 : Int) (of_decide_eq_true z14_1) (by have h_ : (x12_4 : Int) < ((x6_4.length : Int) : Int) := of_decide_eq_true z14_1; first | exact h_ | (have e_ := (Kd.N_reads' HO_6.out).1; omega) | simpa using h_) (seg := [.slice As_ t472.length cs_]) (j := 0) hcl49 hcc49 (show 1 ≤ 1 from by decide) (x' := t472) (Kd.FK_slice_mk (Kd.R_reads' (Kd.R_mono (ok' := (fun k_ => ((fun k_ => some k_ ≠ (u9 : Value).ownBlock)) k_ ∧ k_ ≠ go46)) (Kd.R_apart' (HO474.out) (Kd.N_typed HO_6.out) (by decide)) (fun k_ hk => ⟨hk.1.2, fun e_ => (hk.2) (by rw [e_]; rfl)⟩))).2.1 (Kd.R_F (Kd.R_mono (ok' := (fun k_ => ((fun k_ => some k_ ≠ (u9 : Value).ownBlock)) k_ ∧ k_ ≠ go46)) (Kd.R_apart' (HO474.out) (Kd.N_typed HO_6.out) (by decide)) (fun k_ hk => ⟨hk.1.2, fun e_ => (hk.2) (by rw [e_]; rfl)⟩)))) (fun _ hk => hk)).1
                (try simp only [show ((Kd.slice 3 (Kd.int .i64))).sz = 1 from rfl, Nat.mul_one, Nat.add_zero] at HP49)
                rw [← Ny475.out] at HP49
                have HQ49 := Aside0.mk HP49
                (try clear hcl49); (try clear hcc49); (try clear hfr49); (try clear hM49); (try clear HP49)
                refine hK.out _ _ ⟨HS0_, HS1_⟩ (fun hHeld => ?_)
                clear hK K
                refine nZ ?_
                refine pZ 11 HT_ ?_
                refine lZ 12 HT_ (fun K hK => ?_)
                refine skip_ (w1 := ?_) (by rfl) rfl ?_ ?_
                rotate_left
                ·go_simp
                 rfl
                refine hK.out _ _ ?_
                clear hK K
                refine done_ (done_of HT_.out (by kernel_rfl)) ?_
                try go_wp2
                (try simp only [← hl6_4])
                have hab_ : (⟨go46, (x11_3 : Int).toNat, none⟩ : Addr) = (⟨go46, 0, none⟩ : Addr).add (x11_3 : Int).toNat := (add_plain _ _).symm
                (try simp only [hab_])
                clear hab_
                go_roundg k4
                case measure => have := HK1.out; have := HK2.out; have := HK3.out; have := HK4.out; omega
                case rel => exact ⟨(y475), (wrap64 (x12_4 + 1)), z14_6, H', ⟨z14_8⟩, ⟨by (try simp only [hl6_4]); (with_reducible repeat (first | apply Kd.N_alloc | apply Kd.N_drewN | apply Kd.N_drew)); exact HQ49.out⟩, ⟨by (try simp only [hl6_4]); (with_reducible repeat (first | apply Kd.R_alloc | apply Kd.R_drewN | apply Kd.R_drew)); exact Kd.R_mono (Kd.R_far (p := ⟨go46, (x12_4 : Int).toNat, none⟩) (Kd.R_types HO_9.out GG46.out (by decide)) (fun _ hk => hk.2) ((.slice As_ t472.length cs_ : Value))) (fun _ hk => trivial)⟩, ⟨by repeat (first | (with_reducible first | exact HB.out | apply below_alloc | apply pw_below_drewN | apply below_drew1 | refine below_set ?_ GB46.out) | exact HB.out)⟩⟩
             ·rw [if_neg c37] at H
              have c37b0 : decide (x12_4 < (x6_4.length : Int)) = false := decide_eq_false c37
              clear c37
              obtain ⟨c50, H⟩ := ifP H
              have c50b0 : decide (0 ≤ x11_3) = true := decide_eq_true c50
              clear c50
              obtain ⟨c51, H⟩ := ifP H
              have c51b0 : decide (x11_3 < (x6_4.length : Int)) = true := decide_eq_true c51
              clear c51
              replace H := Option.bind_eq_some_iff.mp H
              obtain ⟨t477, A520, H⟩ := H
              replace H : (spec_l3By.l1 k4 x6_4 t477 (wrap64 (x10_2 + 1))) = some (r1, r2) := H
              have A52 := Aside0.mk A520
              clear A520
              have H' := Aside0.mk H
              clear H
              have p476 : 0 ≤ (x11_3 : Int) := of_decide_eq_true z14_1
              have q476 : x11_3 < (x6_4.length : Int) := of_decide_eq_true z14_1
              obtain ⟨ad476, A476_0, c476_0, e476, hx476_0, hl476_0, hi476_0⟩ := at_L2 (Kd.N_reads' HO_6.out).2.2 x11_3 p476 q476
              obtain rfl : ad466 = ad476 := (by injection e476)
              obtain ⟨ce476, hce476, hMe476, hcc476⟩ := Kd.N_get HO_6.out [] x11_3 p476 (by first | exact q476 | exact of_decide_eq_true z14_1 | (have e_ := (Kd.N_reads' HO_6.out).1; omega))
              obtain ⟨ua476_0, uc476_0, rfl, ul476_0, ge476_0⟩ := Kd.FK_slice_open hMe476
              have hv476_0 := hcc476 0 _ rfl
              rw [Nat.add_zero, show ((Kd.slice 3 (Kd.int .i64))).sz = 1 from rfl, Nat.mul_one] at hv476_0
              replace hv476_0 := Option.some.inj (hv476_0.symm.trans hx476_0)
              injection hv476_0 with hva_ hvn_ hvc_
              rw [hva_] at ge476_0
              rw [hvc_] at ul476_0
              have HL476_0 := Aside0.mk (show Kd.V (Kd.int .i64) 3 _ w.heap.size _ _ (rd_L2 x6_4 x11_3) from Kd.V_mk ul476_0 ge476_0)
              clear hva_ hvn_ hvc_ ge476_0 ul476_0
              clear hcc476 hce476
              have HR476_0 := Aside0.mk hi476_0
              have HC476_0 := Aside0.mk hl476_0
              clear hi476_0 hl476_0
              replace p476 := eq_true p476
              replace q476 := eq_true q476
              obtain ⟨Ao53, co53, eo53⟩ := Kd.R_slice HO_9.out
              subst eo53
              go_wp2_with (first | ((with_reducible refine gate_callee (f := 122) rfl ?_); refine goesL_ (some 96) rfl rfl Try.func122 (by kernel_rfl) rfl #[.slice Ao53 x9_3.length co53, .slice A476_0 (rd_L2 x6_4 x11_3).length c476_0] rfl z14_4 ?_; (with_reducible refine (spec_l3Less.calls k4 _ _ x9_3 _ _ (rd_L2 x6_4 x11_3) t477 _ ?side1 ?side2 ?side3 ?side4 A52.out).mono ?_); (case side1 => exact cZ ((Kd.R_reads' HO_9.out).2.2)); (case side2 => exact (Kd.R_reads' HO_9.out).2.1); (case side3 => repeat (first | exact z14_12 | (with_reducible refine Kd.C_alloc ?_ _) | (with_reducible refine Kd.C_drewN ?_ _) | (with_reducible refine Kd.C_drew ?_))); (case side4 => exact HC476_0.out); rintro e w54 ⟨v478, rfl, ho0, hb⟩; refine ⟨_, rfl, ?_⟩; replace HO_6 := Aside0.mk (Kd.N_elder' z14_2 (Kd.R_base ho0) hb); replace HL476_0 := Aside0.mk (Kd.V_elder' (by (with_reducible repeat (first | apply Kd.V_alloc | apply Kd.V_drewN | apply Kd.V_drew)); exact HL476_0.out) (Kd.R_base ho0) hb); have HO479 := Aside0.mk (Kd.R_lower (Kd.R_new' ho0 (Kd.R_lt z14_3)) (below_size z14_0)); replace HO_9 := Aside0.mk (Kd.R_elder' z14_3 (Kd.R_base ho0) hb); replace HR476_0 := Aside0.mk (Kd.C_below z14_12 hb); replace HB := Aside0.mk (below_step z14_0 hb); (try clear hb); (try clear ho0)))
              (try simp only [← hl6_4])
              go_roundg k4
              case measure => have := HK1.out; have := HK2.out; have := HK3.out; have := HK4.out; omega
              case rel => exact ⟨(x6_4), (t477), (wrap64 (x10_2 + 1)), z14_6, H', ⟨z14_8⟩, ⟨by (try simp only [hl6_4]); (with_reducible repeat (first | apply Kd.N_alloc | apply Kd.N_drewN | apply Kd.N_drew)); exact Kd.N_mono HO_6.out (fun _ hk => hk.2)⟩, ⟨by (try simp only [hl6_4]); (with_reducible repeat (first | apply Kd.R_alloc | apply Kd.R_drewN | apply Kd.R_drew)); exact Kd.R_mono HO479.out (fun _ hk => trivial)⟩, ⟨z14_0⟩⟩
          ·rw [if_neg c35] at H
           have c35b0 : (t467 == x10_2) = false := beq_eq_false_iff_ne.mpr c35
           have c35b1 : (t467 != x10_2) = true := bne_iff_ne.mpr c35
           have H' := Aside0.mk H
           clear H
           obtain ⟨Ao55, co55, eo55⟩ := Kd.N_slice HO_6.out
           subst eo55
           have p466 : 0 ≤ (x11_3 : Int) := of_decide_eq_true z14_1
           have q466 : x11_3 < (x6_3.length : Int) := of_decide_eq_true z14_1
           obtain ⟨ad466, A466_0, c466_0, e466, hx466_0, hl466_0, hi466_0⟩ := at_L2 (Kd.N_reads' HO_6.out).2.2 x11_3 p466 q466
           cases e466
           obtain ⟨ce466, hce466, hMe466, hcc466⟩ := Kd.N_get HO_6.out [] x11_3 p466 (by first | exact q466 | exact of_decide_eq_true z14_1 | (have e_ := (Kd.N_reads' HO_6.out).1; omega))
           obtain ⟨ua466_0, uc466_0, rfl, ul466_0, ge466_0⟩ := Kd.FK_slice_open hMe466
           have hv466_0 := hcc466 0 _ rfl
           rw [Nat.add_zero, show ((Kd.slice 3 (Kd.int .i64))).sz = 1 from rfl, Nat.mul_one] at hv466_0
           replace hv466_0 := Option.some.inj (hv466_0.symm.trans hx466_0)
           injection hv466_0 with hva_ hvn_ hvc_
           rw [hva_] at ge466_0
           rw [hvc_] at ul466_0
           have HL466_0 := Aside0.mk (show Kd.V (Kd.int .i64) 3 _ w.heap.size _ _ (rd_L2 x6_3 x11_3) from Kd.V_mk ul466_0 ge466_0)
           clear hva_ hvn_ hvc_ ge466_0 ul466_0
           clear hcc466 hce466
           have HR466_0 := Aside0.mk hi466_0
           have HC466_0 := Aside0.mk hl466_0
           clear hi466_0 hl466_0
           replace p466 := eq_true p466
           replace q466 := eq_true q466
           go_wp2_with (first | ((with_reducible refine gate_callee (f := 123) rfl ?_); refine goesL_ (some 57) rfl rfl Try.func123 (by kernel_rfl) rfl #[.slice A466_0 (rd_L2 x6_3 x11_3).length c466_0] rfl z14_4 ?_; (with_reducible refine (spec_l2Lead.calls k3 _ _ (rd_L2 x6_3 x11_3) t467 _ ?side1 ?side2 A34.out).mono ?_); (case side1 => repeat (first | exact z14_9 | (with_reducible refine Kd.C_alloc ?_ _) | (with_reducible refine Kd.C_drewN ?_ _) | (with_reducible refine Kd.C_drew ?_))); (case side2 => exact HC466_0.out); rintro e w' ⟨rfl, ⟨nd, rfl⟩⟩; refine ⟨_, rfl, ?_⟩))
           go_roundg k3
           case measure => have := HK1.out; have := HK2.out; have := HK3.out; omega
           case rel => exact ⟨(x6_3), (x9_3), (wrap64 (x11_3 + 1)), z14_6, H', ⟨by have := HK1.out; have := HK2.out; have := HK3.out; omega⟩, ⟨z14_2⟩, ⟨z14_3⟩, ⟨z14_0⟩⟩
         ·rw [if_neg c32] at H
          have c32b0 : decide (x11_3 < (x6_3.length : Int)) = false := decide_eq_false c32
          clear c32
          have H' := Aside0.mk H
          clear H
          obtain ⟨Ao56, co56, eo56⟩ := Kd.N_slice HO_6.out
          subst eo56
          go_wp2
          go_roundg k3
          case measure => have := HK1.out; have := HK2.out; have := HK3.out; omega
          case rel => exact ⟨(x6_3), (x9_3), (wrap64 (x10_2 + 1)), z14_6, H', ⟨by have := HK1.out; have := HK2.out; have := HK3.out; omega⟩, ⟨z14_2⟩, ⟨z14_3⟩, ⟨z14_0⟩⟩
      ·rw [if_neg c31] at H
       have c31b0 : decide (x10_2 < 4) = false := decide_eq_false c31
       clear c31
       replace H := Option.bind_eq_some_iff.mp H
       obtain ⟨t480, A570, H⟩ := H
       replace H : ((spec_l6In.f t480 0 3).bind fun t481 => (if t481 = true then (some ((([] : List Int)), false)) else (if 4 ≤ (x9_2.length : Int) then ((spec_l2Scale.f k2 (x9_2.drop 4) 30).bind fun t490 => (some (t490, true))) else (none)))) = some (r1, r2) := H
       have A57 := Aside0.mk A570
       clear A570
       replace H := Option.bind_eq_some_iff.mp H
       obtain ⟨t481, A580, H⟩ := H
       replace H : (if t481 = true then (some ((([] : List Int)), false)) else (if 4 ≤ (x9_2.length : Int) then ((spec_l2Scale.f k2 (x9_2.drop 4) 30).bind fun t490 => (some (t490, true))) else (none))) = some (r1, r2) := H
       have A58 := Aside0.mk A580
       clear A580
       by_cases c59 : t481 = true
       ·subst c59
        have H1 : (some ((([] : List Int)), false)) = some (r1, r2) := by rw [if_pos rfl] at H; exact H
        clear H
        have H := H1
        clear H1
        obtain ⟨y482, hy482⟩ : ∃ y_ : List Int, y_ = (([] : List Int)) := ⟨_, rfl⟩
        replace H : (some (y482, false)) = some (r1, r2) := by first | (rw [hy482]; with_reducible exact H) | (have H2_ := (Option.bind_some _ _).symm.trans H; rw [hy482]; with_reducible exact H2_) | (have H2_ := (Option.bind_some _ _).symm.trans H; with_reducible exact H2_) | with_reducible exact H | (rw [hy482]; exact H) | exact H
        have Ny482 := Aside0.mk hy482
        clear hy482
        simp only [Option.some.injEq, Prod.mk.injEq] at H
        obtain ⟨rfl, rfl⟩ := H
        obtain ⟨Ao60, co60, eo60⟩ := Kd.R_slice HO_9.out
        subst eo60
        go_wp2_with (first | ((with_reducible refine gate_callee (f := 123) rfl ?_); refine goesL_ (some 98) rfl rfl Try.func123 (by kernel_rfl) rfl #[.slice Ao60 x9_2.length co60] rfl z14_4 ?_; (with_reducible refine (spec_l2Lead.calls k2 _ _ x9_2 t480 _ ?side1 ?side2 A57.out).mono ?_); (case side1 => exact cZ ((Kd.R_reads' HO_9.out).2.2)); (case side2 => exact (Kd.R_reads' HO_9.out).2.1); rintro e w' ⟨rfl, ⟨nd, rfl⟩⟩; refine ⟨_, rfl, ?_⟩) | ((with_reducible refine gate_callee (f := 105) rfl ?_); refine goesL_ (some 99) rfl rfl Try.func105 (by kernel_rfl) rfl #[.int .i64 t480, .int .i64 0, .int .i64 3] rfl z14_4 ?_; (with_reducible refine (spec_l6In.calls t480 0 3 true _ A58.out).mono ?_); rintro e w' ⟨rfl, ⟨nd, rfl⟩⟩; refine ⟨_, rfl, ?_⟩) | ((with_reducible refine gate_dst (N := 100) rfl ?_); refine Kd.R_lit (Kd.int .i64) _ 3 ?hg (N := 100) ?hd (xs := ([] : List Int)) (inner := []) (ok := fun _ => True) (okp := fun _ => True) ?hr ?hp (fun _ hk => hk) trivial (Below.refl _ _) (Nat.le_refl _) (by simp) ?_; (case hd => rfl); (case hg => rfl); (case hr => first | (go_simp; done) | (go_simp; rfl)); (case hp => exact (Reps.none _ _)); intro v483 w61 ho62 hb hg_ hnew_; clear hg_ hnew_; (first | rw [← Ny482.out] at ho62 | (simp only [Int.reduceToNat] at ho62; rw [← Ny482.out] at ho62)); replace HO_6 := Aside0.mk (Kd.N_elder' z14_2 (Kd.R_base ho62) hb); have HO484 := Aside0.mk (Kd.R_lower (Kd.R_new' ho62 (Kd.R_lt z14_3)) (below_size z14_0)); replace HO_9 := Aside0.mk (Kd.R_elder' z14_3 (Kd.R_base ho62) hb); replace HB := Aside0.mk (below_step z14_0 hb); clear hb ho62))
        go_ret2
        exact ⟨_, by first | rfl | (simp [errW_none, errW_some] <;> rfl) | (simp [*, errW_none, errW_some] <;> rfl), by (with_reducible repeat (first | apply Kd.R_alloc | apply Kd.R_drewN | apply Kd.R_drew)); exact Kd.R_mono HO484.out (fun _ hk => trivial), z14_0⟩
       ·replace c59 := Bool.eq_false_iff.mpr c59
        subst c59
        have H1 : (if 4 ≤ (x9_2.length : Int) then ((spec_l2Scale.f k2 (x9_2.drop 4) 30).bind fun t490 => (some (t490, true))) else (none)) = some (r1, r2) := by rw [if_neg (show ¬ (false = true) by decide)] at H; exact H
        clear H
        have H := H1
        clear H1
        obtain ⟨c63, H⟩ := ifP H
        have c63b0 := eq_true c63
        have c63b1 : decide (4 ≤ (x9_2.length : Int)) = true := decide_eq_true c63
        clear c63
        obtain ⟨y485, hy485⟩ : ∃ y_ : List Int, y_ = (x9_2.drop 4) := ⟨_, rfl⟩
        replace H : ((spec_l2Scale.f k2 y485 30).bind fun t490 => (some (t490, true))) = some (r1, r2) := by first | (rw [hy485]; with_reducible exact H) | (have H2_ := (Option.bind_some _ _).symm.trans H; rw [hy485]; with_reducible exact H2_) | (have H2_ := (Option.bind_some _ _).symm.trans H; with_reducible exact H2_) | with_reducible exact H | (rw [hy485]; exact H) | exact H
        have Ny485 := Aside0.mk hy485
        clear hy485
        replace H := Option.bind_eq_some_iff.mp H
        obtain ⟨t490, A640, H⟩ := H
        replace H : (some (t490, true)) = some (r1, r2) := H
        have A64 := Aside0.mk A640
        clear A640
        simp only [Option.some.injEq, Prod.mk.injEq] at H
        obtain ⟨rfl, rfl⟩ := H
        obtain ⟨Ao65, co65, eo65⟩ := Kd.R_slice HO_9.out
        subst eo65
        go_wp2_with (first | ((with_reducible refine gate_callee (f := 123) rfl ?_); refine goesL_ (some 98) rfl rfl Try.func123 (by kernel_rfl) rfl #[.slice Ao65 x9_2.length co65] rfl z14_4 ?_; (with_reducible refine (spec_l2Lead.calls k2 _ _ x9_2 t480 _ ?side1 ?side2 A57.out).mono ?_); (case side1 => exact cZ ((Kd.R_reads' HO_9.out).2.2)); (case side2 => exact (Kd.R_reads' HO_9.out).2.1); rintro e w' ⟨rfl, ⟨nd, rfl⟩⟩; refine ⟨_, rfl, ?_⟩) | ((with_reducible refine gate_callee (f := 105) rfl ?_); refine goesL_ (some 99) rfl rfl Try.func105 (by kernel_rfl) rfl #[.int .i64 t480, .int .i64 0, .int .i64 3] rfl z14_4 ?_; (with_reducible refine (spec_l6In.calls t480 0 3 false _ A58.out).mono ?_); rintro e w' ⟨rfl, ⟨nd, rfl⟩⟩; refine ⟨_, rfl, ?_⟩; have q66 : (4 : Int) ≤ ((x9_2.length : Int) : Int) := of_decide_eq_true z14_1; obtain ⟨i066, hi066, _, hsz66, _⟩ := info_parts info3; have hroom66 : x9_2.length ≤ co65 := (Kd.R_reads' HO_9.out).2.1; have hC66 : Kd.F (Kd.int .i64) _ _ Ao65 x9_2.length x9_2 := (Kd.V_at (base := w.heap.size) (Kd.R_V (Kd.R_apart' (HO_9.out) (Kd.N_typed HO_6.out) (by decide)))).2.2; have hcut66 := cut_from (P := Try.prog) 28 3 .i64 Try.underlying28 hi066 1 hsz66 Ao65 x9_2.length co65 4 (by omega) q66; have hr66 := Kd.F_cut (m := (4 : Int).toNat) (c := co65) hC66 (by omega) hroom66; obtain ⟨A66, hA66⟩ : ∃ A1, A1 = (if co65 = (4 : Int).toNat then Ao65 else (Ao65 : Option Addr).map (·.add ((4 : Int).toNat * 1))) := ⟨_, rfl⟩; obtain ⟨c66, hc66⟩ : ∃ c1, c1 = co65 - (4 : Int).toNat := ⟨_, rfl⟩; have hy66 : y485.length = x9_2.length - (4 : Int).toNat := (by rw [Ny485.out, List.length_drop] <;> omega); rw [show (x9_2).drop (4 : Int).toNat = y485 from Ny485.out.symm] at hr66; replace hr66 : Kd.F (Kd.int .i64) _ _ A66 y485.length y485 := (by rw [hA66]; exact hr66); rw [← hy66, ← hA66, ← hc66] at hcut66; have HO489 := Aside0.mk (show Kd.V (Kd.int .i64) 3 _ w.heap.size _ (.slice A66 y485.length c66) y485 from Kd.V_mk (by rw [hy66, hc66]; exact Nat.sub_le_sub_right hroom66 _) hr66); have HC489 := Aside0.mk (show y485.length ≤ c66 from by rw [hy66, hc66]; exact Nat.sub_le_sub_right hroom66 _); clear hr66 hC66 hroom66 hi066 hsz66 hc66; have KY66 := Aside0.mk hy66; have KA66 := Aside0.mk hA66; clear hy66 hA66; replace q66 := eq_true q66) | ((with_reducible refine gate_callee (f := 91) rfl ?_); refine goesL_ (some 103) rfl rfl Try.func91 (by kernel_rfl) rfl #[.slice A66 y485.length c66, .int .i64 30] rfl z14_4 ?_; (with_reducible refine (spec_l2Scale.calls k2 _ _ y485 30 t490 _ ?side1 ?side2 A64.out).mono ?_); (case side1 => exact cZ ((Kd.V_reads' HO489.out).2.2)); (case side2 => exact (Kd.V_reads' HO489.out).2.1); rintro e w67 ⟨v491, rfl, ho0, hb⟩; refine ⟨_, rfl, ?_⟩; replace HO_6 := Aside0.mk (Kd.N_elder' z14_2 (Kd.R_base ho0) hb); replace HO489 := Aside0.mk (Kd.V_elder' (by (with_reducible repeat (first | apply Kd.V_alloc | apply Kd.V_drewN | apply Kd.V_drew)); exact HO489.out) (Kd.R_base ho0) hb); have HO492 := Aside0.mk (Kd.R_lower (Kd.R_new' ho0 (Kd.R_lt z14_3)) (below_size z14_0)); replace HO_9 := Aside0.mk (Kd.R_elder' z14_3 (Kd.R_base ho0) hb); replace HB := Aside0.mk (below_step z14_0 hb); (try clear hb); (try clear ho0)))
        go_ret2
        exact ⟨_, by first | rfl | (simp [errW_none, errW_some] <;> rfl) | (simp [*, errW_none, errW_some] <;> rfl), by (with_reducible repeat (first | apply Kd.R_alloc | apply Kd.R_drewN | apply Kd.R_drew)); exact Kd.R_mono HO492.out (fun _ hk => trivial), z14_0⟩

end Go.Proofs.Ytamaejafddmagaa.PA
