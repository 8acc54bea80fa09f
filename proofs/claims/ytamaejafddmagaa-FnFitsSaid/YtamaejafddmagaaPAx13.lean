import Derived.Test.YtamaejafddmagaaPAx0
import Derived.Test.YtamaejafddmagaaPAx8
import Derived.Test.YtamaejafddmagaaGw
import Derived.Test.YtamaejafddmagaaGm
import Derived.Test.YtamaejafddmagaaGc
import Derived.Test.YtamaejafddmagaaHt
namespace Go.Proofs.Ytamaejafddmagaa.PA
open Go.RowKit Go.Proofs.YtamaejafddmagaaW.PrintWords Go.Proofs.YtamaejafddmagaaW.PrintLast Go.Proofs.YtamaejafddmagaaW.PrintMore
attribute [local go_sem] max2_int min2_int max_two min_two max_three min_three max_four min_four   -- for this text's walks alone
set_option linter.unusedVariables false
set_option linter.unusedSimpArgs false

/-! ### spec_l3By: function 116 -/
theorem z13_0 {p : Prop} (h : p := by repeat (first | (with_reducible first | exact HB.out | apply below_alloc | apply pw_below_drewN | apply below_drew1) | exact HB.out)) : p := h
theorem z13_1 {p : Prop} (h : p := by first | (with_reducible assumption) | assumption) : p := h
theorem z13_2 {p : Prop} (h : p := by (with_reducible repeat (first | apply Kd.N_alloc | apply Kd.N_drewN | apply Kd.N_drew)); exact HO_6.out) : p := h
theorem z13_3 {p : Prop} (h : p := by (with_reducible repeat (first | apply Kd.R_alloc | apply Kd.R_drewN | apply Kd.R_drew)); exact HO_9.out) : p := h
theorem z13_4 {p : Prop} (h : p := by (try simp only [List.map_toArray, List.map_cons, List.map_nil]); first | done | rfl | (simp only [List.length_drop, List.length_take]; rfl)) : p := h
theorem z13_5 {p : Prop} (h : p := by (with_reducible repeat (first | apply Kd.R_alloc | apply Kd.R_drewN | apply Kd.R_drew)); exact HO451.out) : p := h
theorem z13_6 {p : Prop} (h : p := by first | rfl | (simp; done) | (simp [*]; done)) : p := h
theorem z13_7 {p : Prop} (h : p := by repeat (first | (with_reducible exact HR477_0.out) | (with_reducible refine Kd.C_alloc ?_ _) | (with_reducible refine Kd.C_drewN ?_ _) | (with_reducible refine Kd.C_drew ?_) | exact HR477_0.out)) : p := h
theorem z13_8 {p : Prop} (h : p := by have := HK1.out; have := HK2.out; have := HK3.out; have := HK4.out; omega) : p := h
theorem z13_9 {p : Prop} (h : p := by repeat (first | (with_reducible exact HR475_0.out) | (with_reducible refine Kd.C_alloc ?_ _) | (with_reducible refine Kd.C_drewN ?_ _) | (with_reducible refine Kd.C_drew ?_) | exact HR475_0.out)) : p := h
theorem z13_10 {p : Prop} (h : p := by repeat (first | (with_reducible exact HR479_0.out) | (with_reducible refine Kd.C_alloc ?_ _) | (with_reducible refine Kd.C_drewN ?_ _) | (with_reducible refine Kd.C_drew ?_) | exact HR479_0.out)) : p := h
theorem z13_11 {p : Prop} (h : p := by repeat (first | (with_reducible exact HR480_0.out) | (with_reducible refine Kd.C_alloc ?_ _) | (with_reducible refine Kd.C_drewN ?_ _) | (with_reducible refine Kd.C_drew ?_) | exact HR480_0.out)) : p := h
theorem z13_12 {p : Prop} (h : p := by repeat (first | (with_reducible exact HR485_0.out) | (with_reducible refine Kd.C_alloc ?_ _) | (with_reducible refine Kd.C_drewN ?_ _) | (with_reducible refine Kd.C_drew ?_) | exact HR485_0.out)) : p := h
theorem z13_13 {p : Prop} (h : p := by (try simp only [hl6_4]); (with_reducible repeat (first | apply Kd.N_alloc | apply Kd.N_drewN | apply Kd.N_drew)); exact HO_6.out) : p := h
theorem z13_14 {p : Prop} (h : p := by (try simp only [hl6_4]); (with_reducible repeat (first | apply Kd.R_alloc | apply Kd.R_drewN | apply Kd.R_drew)); exact HO_9.out) : p := h
mutual
def spec_l3By.l0 : Nat → List (List Int) → List Int → List (List Int) → Int → Option (List Int × Bool)
  | 0, _, _, _, _ => none
  | k + 1, x0, x1, x6, x7 => if x7 < (x0.length : Int) then (if 0 ≤ (x0.length : Int) then (if ((x0.length : Int) : Int).toNat ≤ 35184372088832 then ((some (List.replicate ((x0.length : Int) : Int).toNat 0 : List Int)).bind fun y449 => (if 0 ≤ x7 then (if x7 < (y449.length : Int) then ((some (y449.set (x7 : Int).toNat 1 : List Int)).bind fun y452 => ((some (([] : List Int) : List Int)).bind fun y453 => (if y453.length + (rd_L5 x0 x7).length < 17592186044416 then ((some (y453 ++ (rd_L5 x0 x7) : List Int)).bind fun y457 => (if y457.length + y452.length < 17592186044416 then (if x6.length < 5864062014805 then (spec_l3By.l0 k x0 x1 (x6 ++ [(y457 ++ y452)]) (wrap64 (x7 + 1))) else (none)) else (none))) else (none)))) else (none)) else (none))) else (none)) else (none)) else ((some (([] : List Int) : List Int)).bind fun y466 => (if y466.length + x1.length < 17592186044416 then ((some (y466 ++ x1 : List Int)).bind fun y469 => (if 0 ≤ (x0.length : Int) then (if y469.length + ((x0.length : Int) : Int).toNat < 17592186044416 then (spec_l3By.l1 k x6 (y469 ++ List.replicate ((x0.length : Int) : Int).toNat 0) 0) else (none)) else (none))) else (none)))
def spec_l3By.l1 : Nat → List (List Int) → List Int → Int → Option (List Int × Bool)
  | 0, _, _, _ => none
  | k + 1, x6, x9, x10 => if x10 < 4 then (spec_l3By.l2 k x6 x9 x10 0) else ((spec_l2Lead.f k x9).bind fun t489 => ((spec_l6In.f t489 0 3).bind fun t490 => (if t490 = true then (some ((([] : List Int)), false)) else (if 4 ≤ (x9.length : Int) then ((spec_l2Scale.f k (x9.drop 4) 30).bind fun t499 => (some (t499, true))) else (none)))))
def spec_l3By.l2 : Nat → List (List Int) → List Int → Int → Int → Option (List Int × Bool)
  | 0, _, _, _, _ => none
  | k + 1, x6, x9, x10, x11 => if x11 < (x6.length : Int) then (if 0 ≤ x11 then ((spec_l2Lead.f k (rd_L5 x6 x11)).bind fun t476 => (if t476 = x10 then (spec_l3By.l3 k x6 x9 x10 x11 0) else (spec_l3By.l2 k x6 x9 x10 (wrap64 (x11 + 1))))) else (none)) else (spec_l3By.l1 k x6 x9 (wrap64 (x10 + 1)))
def spec_l3By.l3 : Nat → List (List Int) → List Int → Int → Int → Int → Option (List Int × Bool)
  | 0, _, _, _, _, _ => none
  | k + 1, x6, x9, x10, x11, x12 => if x12 < (x6.length : Int) then (if x12 = x11 then (spec_l3By.l3 k x6 x9 x10 x11 (wrap64 (x12 + 1))) else (if 0 ≤ x12 then (if 0 ≤ x10 then (if x10 < ((rd_L5 x6 x12).length : Int) then (if (rd (rd_L5 x6 x12) x10) = 0 then (spec_l3By.l3 k x6 x9 x10 x11 (wrap64 (x12 + 1))) else (if 0 ≤ x11 then (if x11 < (x6.length : Int) then ((spec_l3Less.f k (rd_L5 x6 x12) (rd_L5 x6 x11)).bind fun t481 => (spec_l3By.l3 k (x6.set (x12 : Int).toNat t481) x9 x10 x11 (wrap64 (x12 + 1)))) else (none)) else (none))) else (none)) else (none)) else (none))) else (if 0 ≤ x11 then (if x11 < (x6.length : Int) then ((spec_l3Less.f k x9 (rd_L5 x6 x11)).bind fun t486 => (spec_l3By.l1 k x6 t486 (wrap64 (x10 + 1)))) else (none)) else (none))
end
def spec_l3By.f (k : Nat) (l0 : List (List Int)) (l1 : List Int) : Option (List Int × Bool) := spec_l3By.l0 k l0 l1 (([] : List (List Int))) 0
def spec_l3By.T20 : Bool × List (List Nat × List Nat) := (true, [([], []), ([], []), ([], []), ([], []), ([2, 3], [2, 3]), ([4], [4]), ([], []), ([], []), ([6, 7], [6, 7]), ([8], [8]), ([5, 9], [5, 9]), ([0, 1, 0, 1, 2, 3, 4, 5, 6, 7, 8, 9, 10], [0, 1]), ([11, 10, 10, 0, 1, 2, 3, 4, 5, 6, 7, 8, 9, 10], [10, 11])])
def spec_l3By.B20 : List Nat := [0, 0, 0, 0, 12, 28, 0, 0, 192, 448, 1020, 2047, 4095]
theorem spec_l3By.tab20 : rtab .any (opsOf Try.f116 20) = spec_l3By.T20 := by kernel_rfl
theorem spec_l3By.bits20 : waitsOk spec_l3By.T20.2 spec_l3By.B20 = true := by kernel_rfl
set_option maxHeartbeats 8000000 in
set_option maxRecDepth 100000 in
theorem spec_l3By.calls (k : Nat) (A0 : Option Addr) (c0 : Nat) (l0 : List (List Int)) (A1 : Option Addr) (c1 : Nat) (l1 : List Int) (r1 : List Int) (r2 : Bool) (w : World) (hr0 : Kd.C (Kd.slice 3 (Kd.int .i64)) w A0 l0.length l0) (hc0 : l0.length ≤ c0) (hr1 : Kd.C (Kd.int .i64) w A1 l1.length l1) (hc1 : l1.length ≤ c1) (h : spec_l3By.f k l0 l1 = some (r1, r2)) :
  Calls Try.prog 116 #[.slice A0 l0.length c0, .slice A1 l1.length c1] w fun e w' => ∃ v0_ : Value, e = .returned (.tuple #[v0_, .bool r2]) ∧ Kd.R (Kd.int .i64) 3 w' w.heap.size (fun _ => True) v0_ r1 ∧ Below w.heap.size w w' := by
 have HR0 := Aside0.mk hr0
 have HC0 := Aside0.mk hc0
 clear hr0 hc0
 have HR1 := Aside0.mk hr1
 have HC1 := Aside0.mk hc1
 clear hr1 hc1
 have HB := Aside0.mk (Below.refl w.heap.size w)
 unfold spec_l3By.f at h
 have H := h
 clear h
 obtain ⟨y446, hy446⟩ : ∃ y_ : List (List Int), y_ = (([] : List (List Int))) := ⟨_, rfl⟩
 replace H : (spec_l3By.l0 k l0 l1 y446 0) = some (r1, r2) := yZZ_ hy446 H
 have Ny446 := Aside0.mk hy446
 clear hy446
 have H' := Aside0.mk H
 clear H
 go_enter Try.func116, Try.ntmps116
 go_wp2_with (first | ((with_reducible refine gate_dst (N := 13) rfl ?_); refine Kd.N_lit (Kd.slice 3 (Kd.int .i64)) _ 28 ?hg (N' := 13) ?hd (xs := ([] : List (List Int))) (inner := []) (ok := (fun _ => True)) (okp := (fun _ => True)) ?hr ?hp (fun _ hk => hk) ((show ∀ k_, w.heap.size ≤ k_ → (fun _ => True) k_ from fun k_ hk => trivial) _ (Nat.le_refl _)) (Below.refl _ _) (Nat.le_refl _) (by simp) ?_; (case hd => rfl); (case hg => rfl); (case hr => first | (go_simp; done) | (go_simp; rfl)); (case hp => exact (Reps.none _ _)); intro v447 w3 ho4 hb hg_ hnew_; clear hg_ hnew_; (first | rw [← Ny446.out] at ho4 | (simp only [Int.reduceToNat] at ho4; rw [← Ny446.out] at ho4)); have HO448 := Aside0.mk (Kd.N_lower ho4 (below_size z13_0)); replace HB := Aside0.mk (below_step z13_0 hb); clear hb ho4))
 go_loopg [6, 7] k (fun kq v6 v7 w' => ∃ (x6_1 : List (List Int)) (x7_1 : Int), v7 = .int .i64 x7_1 ∧ Aside0 (spec_l3By.l0 kq l0 l1 x6_1 x7_1 = some (r1, r2)) ∧ Aside0 (kq ≤ k) ∧ Aside0 (Kd.N (Kd.slice 3 (Kd.int .i64)) 28 w' w.heap.size (fun _ => True) v6 x6_1) ∧ Aside0 (Below w.heap.size w w'))
 case atStart => exact ⟨(y446), (0), z13_6, H', ⟨Nat.le_refl _⟩, ⟨by (with_reducible repeat (first | apply Kd.N_alloc | apply Kd.N_drewN | apply Kd.N_drew)); exact HO448.out⟩, ⟨z13_0⟩⟩
 case round =>
  clear H'
  try clear c1
  obtain ⟨x6_1, x7_1, rfl, HA, HK1, HO_6, HB⟩ := hrel
  cases gk with
  | zero => exact absurd HA.out (by simp [spec_l3By.l0])
  | succ k1 =>
   have H := HA.out
   clear HA; simp only [spec_l3By.l0] at H
   by_cases c5 : x7_1 < (l0.length : Int)
   ·rw [if_pos c5] at H
    have c5b0 : decide (x7_1 < (l0.length : Int)) = true := decide_eq_true c5; clear c5; obtain ⟨c6, H⟩ := ifP H
    have c6b0 := eq_true c6
    have c6b1 : decide (0 ≤ (l0.length : Int)) = true := decide_eq_true c6; clear c6; obtain ⟨c7, H⟩ := ifP H
    have c7b0 := eq_true c7
    have c7b1 : decide (((l0.length : Int) : Int).toNat ≤ 35184372088832) = true := decide_eq_true c7; clear c7
    obtain ⟨y449, hy449⟩ : ∃ y_ : List Int, y_ = (List.replicate ((l0.length : Int) : Int).toNat 0) := ⟨_, rfl⟩
    replace H : (if 0 ≤ x7_1 then (if x7_1 < (y449.length : Int) then ((some (y449.set (x7_1 : Int).toNat 1 : List Int)).bind fun y452 => ((some (([] : List Int) : List Int)).bind fun y453 => (if y453.length + (rd_L5 l0 x7_1).length < 17592186044416 then ((some (y453 ++ (rd_L5 l0 x7_1) : List Int)).bind fun y457 => (if y457.length + y452.length < 17592186044416 then (if x6_1.length < 5864062014805 then (spec_l3By.l0 k1 l0 l1 (x6_1 ++ [(y457 ++ y452)]) (wrap64 (x7_1 + 1))) else (none)) else (none))) else (none)))) else (none)) else (none)) = some (r1, r2) := yZZ_ hy449 H
    have Ny449 := Aside0.mk hy449
    clear hy449; obtain ⟨c8, H⟩ := ifP H; have c8b0 : decide (0 ≤ x7_1) = true := decide_eq_true c8; clear c8; obtain ⟨c9, H⟩ := ifP H; have c9b0 : decide (x7_1 < (y449.length : Int)) = true := decide_eq_true c9; clear c9
    obtain ⟨y452, hy452⟩ : ∃ y_ : List Int, y_ = (y449.set (x7_1 : Int).toNat 1) := ⟨_, rfl⟩
    replace H : ((some (([] : List Int) : List Int)).bind fun y453 => (if y453.length + (rd_L5 l0 x7_1).length < 17592186044416 then ((some (y453 ++ (rd_L5 l0 x7_1) : List Int)).bind fun y457 => (if y457.length + y452.length < 17592186044416 then (if x6_1.length < 5864062014805 then (spec_l3By.l0 k1 l0 l1 (x6_1 ++ [(y457 ++ y452)]) (wrap64 (x7_1 + 1))) else (none)) else (none))) else (none))) = some (r1, r2) := yZZ_ hy452 H
    have Ny452 := Aside0.mk hy452
    clear hy452
    obtain ⟨y453, hy453⟩ : ∃ y_ : List Int, y_ = (([] : List Int)) := ⟨_, rfl⟩
    replace H : (if y453.length + (rd_L5 l0 x7_1).length < 17592186044416 then ((some (y453 ++ (rd_L5 l0 x7_1) : List Int)).bind fun y457 => (if y457.length + y452.length < 17592186044416 then (if x6_1.length < 5864062014805 then (spec_l3By.l0 k1 l0 l1 (x6_1 ++ [(y457 ++ y452)]) (wrap64 (x7_1 + 1))) else (none)) else (none))) else (none)) = some (r1, r2) := yZZ_ hy453 H
    have Ny453 := Aside0.mk hy453
    clear hy453; obtain ⟨c11, H⟩ := ifP H
    have LMc11 := Aside0.mk c11
    clear c11
    obtain ⟨y457, hy457⟩ : ∃ y_ : List Int, y_ = (y453 ++ (rd_L5 l0 x7_1)) := ⟨_, rfl⟩
    replace H : (if y457.length + y452.length < 17592186044416 then (if x6_1.length < 5864062014805 then (spec_l3By.l0 k1 l0 l1 (x6_1 ++ [(y457 ++ y452)]) (wrap64 (x7_1 + 1))) else (none)) else (none)) = some (r1, r2) := yZZ_ hy457 H
    have Ny457 := Aside0.mk hy457
    clear hy457; obtain ⟨c12, H⟩ := ifP H
    have LMc12 := Aside0.mk c12
    clear c12
    obtain ⟨y460, hy460⟩ : ∃ y_ : List Int, y_ = (y457 ++ y452) := ⟨_, rfl⟩
    replace H : (if x6_1.length < 5864062014805 then (spec_l3By.l0 k1 l0 l1 (x6_1 ++ [y460]) (wrap64 (x7_1 + 1))) else (none)) = some (r1, r2) := yZZ_ hy460 H
    have Ny460 := Aside0.mk hy460
    clear hy460; obtain ⟨c13, H⟩ := ifP H
    have LMc13 := Aside0.mk c13
    clear c13
    obtain ⟨y463, hy463⟩ : ∃ y_ : List (List Int), y_ = (x6_1 ++ [y460]) := ⟨_, rfl⟩
    replace H : (spec_l3By.l0 k1 l0 l1 y463 (wrap64 (x7_1 + 1))) = some (r1, r2) := yZZ_ hy463 H
    have Ny463 := Aside0.mk hy463
    clear hy463
    have H' := Aside0.mk H
    clear H
    go_wp2_with (first | ((with_reducible refine gate_dst (N := 22) rfl ?_); refine Kd.R_make (Kd.int .i64) _ 3 rfl (N := 22) rfl 28 _ _ rfl (l0.length : Int) rfl rfl Try.underlying28 (.int .i64 0) 8 info3 rfl (by decide) (by omega) 0 (ok := fun _ => True) (okp := fun _ => True) rfl (fun _ hk => hk) trivial (of_decide_eq_true z13_1) (Nat.le_trans (Nat.mul_le_mul_right _ (of_decide_eq_true z13_1 : (l0.length : Int).toNat ≤ 35184372088832)) (by omega)) (Below.refl _ _) (Nat.le_refl _) ?_; intro v450 w14 ho15 hb hg_ hnew_; clear hg_ hnew_; (first | rw [← Ny449.out] at ho15 | (simp only [Int.reduceToNat] at ho15; rw [← Ny449.out] at ho15)); replace HO_6 := Aside0.mk (Kd.N_elder' z13_2 (Kd.R_base ho15) hb); have HO451 := Aside0.mk (Kd.R_lower ho15 (below_size z13_0)); replace HB := Aside0.mk (below_step z13_0 hb); clear hb ho15; have p10 : 0 ≤ (x7_1 : Int) := of_decide_eq_true z13_1; have q10 : (x7_1 : Int) < ((y449.length : Int) : Int) := of_decide_eq_true z13_1; obtain ⟨go10, co10, eo10, gb10, gl10, cl10, HG10⟩ := Kd.R_form HO451.out (by omega); (first | cases eo10 | (injection eo10 with ea_ en_ ec_; (first | subst ea_ | (injection ea_ with ea_; subst ea_)); subst ec_; clear en_)); have GB10 := Aside0.mk gb10; have GG10 := Aside0.mk HG10; clear gb10 gl10 HG10; obtain ⟨hx10_0, hf10_0⟩ := Kd.R_celln 0 HO451.out (x7_1 : Int) p10 q10; replace p10 := eq_true p10; replace q10 := eq_true q10; obtain ⟨hy16_, hz16_⟩ := Kd.R_celln 0 HO451.out (x7_1 : Int) (of_decide_eq_true z13_1) (of_decide_eq_true z13_1); have HP16 := Kd.R_putg HO451.out (x7_1 : Int) 1) | ((with_reducible refine gate_store (t := 3) (p := 25) rfl ?_); refine store_event (t := 3) (p := 25) (v := ?vo_w17) (w1 := (w14.setCell ⟨go10, (x7_1 : Int).toNat, none⟩ (.int .i64 1))) ?hg ?ho ?hn ?hr ?_; (case ho => rfl); (case hg => rfl); (case hn => rfl); (case hr => first | (go_simp; done) | (go_simp; rfl)); intro w17 hw; have hg : w14.grownBy w17 (some go10) := (by rw [hw]; exact HP16.2); have hp_ : Kd.R (Kd.int .i64) 3 w17 w.heap.size (fun _ => True) (.slice (some ⟨go10, 0, none⟩) y449.length co10) y452 := (by rw [hw, Ny452.out]; exact HP16.1); clear HP16; replace HO_6 := Aside0.mk (Kd.N_afterv (v := (.slice (some ⟨go10, 0, none⟩) y449.length co10)) (v1 := (.slice (some ⟨go10, 0, none⟩) y449.length co10)) (ok := (fun _ => True)) z13_2 hg (.inl rfl)); replace HO451 := Aside0.mk (hp_); replace HB := Aside0.mk ((by rw [hw]; exact below_set (HB.out) GB10.out : Below w.heap.size w w17)); clear hg hw hp_) | ((with_reducible refine gate_dst (N := 27) rfl ?_); refine Kd.R_lit (Kd.int .i64) _ 3 ?hg (N := 27) ?hd (xs := ([] : List Int)) (inner := []) (ok := fun _ => True) (okp := fun _ => True) ?hr ?hp (fun _ hk => hk) trivial (Below.refl _ _) (Nat.le_refl _) (by simp) ?_; (case hd => rfl); (case hg => rfl); (case hr => first | (go_simp; done) | (go_simp; rfl)); (case hp => exact (Reps.none _ _)); intro v454 w18 ho19 hb hg_ hnew_; clear hg_ hnew_; (first | rw [← Ny453.out] at ho19 | (simp only [Int.reduceToNat] at ho19; rw [← Ny453.out] at ho19)); replace HO_6 := Aside0.mk (Kd.N_elder' z13_2 (Kd.R_base ho19) hb); have HO455 := Aside0.mk (Kd.R_lower (Kd.R_new' ho19 (Kd.R_lt z13_5)) (below_size z13_0)); replace HO451 := Aside0.mk (Kd.R_elder' z13_5 (Kd.R_base ho19) hb); replace HB := Aside0.mk (below_step z13_0 hb); clear hb ho19; have p456 : 0 ≤ (x7_1 : Int) := of_decide_eq_true z13_1; have q456 : x7_1 < (l0.length : Int) := of_decide_eq_true z13_1; obtain ⟨ad456, A456_0, c456_0, e456, hx456_0, hl456_0, hi456_0⟩ := at_L5 HR0.out x7_1 p456 q456; cases e456; replace hx456_0 := (HB.out.cell (World.block_lt_of_cell? w _ hx456_0)).trans hx456_0; have HR456_0 := Aside0.mk hi456_0; have HC456_0 := Aside0.mk hl456_0; clear hi456_0 hl456_0; replace p456 := eq_true p456; replace q456 := eq_true q456) | ((with_reducible refine gate_builtin (b := .append) (xs := #[.tmp 27, .tmp 31]) rfl ?_); at_builtin; refine Kd.R_append_rows (Kd.int .i64) (w0 := w) w.heap.size rfl (.tmp 27) (.tmp 31) 28 3 (.int .i64 0) 8 rfl Try.underlying28 info3 rfl (by decide) (by omega) v454 y453 (rd_L5 l0 x7_1) _ _ _ (fun k_ => some k_ ≠ (.slice (some ⟨go10, 0, none⟩) y449.length co10 : Value).ownBlock) (fun _ => False) rfl rfl ?aO ?aR (fun _ _ h => h) (fun _ h => h.elim) ?aF ?aB ?aS ?aL ?_; (case aR => repeat (first | exact (Kd.C_below HR456_0.out HB.out) | (with_reducible refine Kd.C_alloc ?_ _) | (with_reducible refine Kd.C_drewN ?_ _) | (with_reducible refine Kd.C_drew ?_))); (case aB => exact z13_0); (case aF => exact (fun k_ hk => Kd.fresh' (Kd.R_lt z13_5) k_ hk)); (case aO => exact (by (with_reducible repeat (first | apply Kd.R_alloc | apply Kd.R_drewN | apply Kd.R_drew)); exact Kd.R_mono HO455.out (fun _ hk => hk.2))); (case aS => exact (below_size z13_0)); (case aL => have := LMc11.out; omega); intro v458 w20 ho hb hg hat; rw [← Ny457.out] at ho; have n0_ := Aside0.mk (Kd.N_afterv (ok := (fun k_ => some k_ ≠ (.slice (some ⟨go10, 0, none⟩) y449.length co10 : Value).ownBlock)) (by (with_reducible repeat (first | apply Kd.N_alloc | apply Kd.N_drewN | apply Kd.N_drew)); exact Kd.N_mono HO_6.out (fun _ hk => ⟨hk.1.2, hk.2⟩)) hg hat); have n1_ := Aside0.mk (Kd.R_after (ok := (fun _ => True)) z13_5 hg hat); have n2_ := Aside0.mk (hb); have n3_ := Aside0.mk (ho); clear HO_6; clear HO451; clear HB; clear HO455; have HO_6 := n0_; have HO451 := n1_; have HB := n2_; have HO459 := n3_; clear n0_ n1_ n2_ n3_; clear ho hb hg hat) | ((with_reducible refine gate_builtin (b := .append) (xs := #[.tmp 32, .tmp 33]) rfl ?_); at_builtin; refine Kd.R_append_rows (Kd.int .i64) (w0 := w) w.heap.size rfl (.tmp 32) (.tmp 33) 28 3 (.int .i64 0) 8 rfl Try.underlying28 info3 rfl (by decide) (by omega) v458 y457 y452 _ _ _ (fun k_ => some k_ ≠ (.slice (some ⟨go10, 0, none⟩) y449.length co10 : Value).ownBlock) (fun _ => False) rfl rfl ?aO ?aR (fun _ _ h => h) (fun _ h => h.elim) ?aF ?aB ?aS ?aL ?_; (case aR => rw [show y449.length = y452.length from (Kd.R_reads' HO451.out).1]; repeat (first | exact (Kd.R_reads' HO451.out).2.2 | (with_reducible refine Kd.C_alloc ?_ _) | (with_reducible refine Kd.C_drewN ?_ _) | (with_reducible refine Kd.C_drew ?_))); (case aB => exact z13_0); (case aF => exact (fun k_ hk => Kd.fresh' (Kd.R_lt z13_5) k_ hk)); (case aO => exact (by (with_reducible repeat (first | apply Kd.R_alloc | apply Kd.R_drewN | apply Kd.R_drew)); exact HO459.out)); (case aS => exact (below_size z13_0)); (case aL => have := LMc12.out; have hlx_ := (Kd.R_reads' HO451.out).1; omega); intro v461 w21 ho hb hg hat; rw [← Ny460.out] at ho; have n0_ := Aside0.mk (Kd.N_afterv (ok := (fun k_ => some k_ ≠ (.slice (some ⟨go10, 0, none⟩) y449.length co10 : Value).ownBlock)) z13_2 hg hat); have n1_ := Aside0.mk (Kd.R_after (ok := (fun _ => True)) z13_5 hg hat); have n2_ := Aside0.mk (hb); have n3_ := Aside0.mk (ho); clear HO_6; clear HO451; clear HB; clear HO459; have HO_6 := n0_; have HO451 := n1_; have HB := n2_; have HO462 := n3_; clear n0_ n1_ n2_ n3_; clear ho hb hg hat; obtain ⟨Ao23, co23, eo23⟩ := Kd.R_slice HO462.out; subst eo23) | ((with_reducible refine gate_builtin (b := .append) (xs := #[.tmp 26, .tmp 35]) rfl ?_); at_builtin; refine Kd.N_append (Kd.slice 3 (Kd.int .i64)) (w0 := w) w.heap.size rfl (.tmp 26) (.tmp 35) 23 28 (.slice none 0 0) 24 rfl Try.underlying23 info28 rfl (by decide) (by omega) u6 x6_1 y460 [.slice Ao23 y460.length co23] (fun k_ => some k_ ≠ (.slice (some ⟨go10, 0, none⟩) y449.length co10 : Value).ownBlock) (fun k_ => ((fun k_ => some k_ ≠ (.slice (some ⟨go10, 0, none⟩) y449.length co10 : Value).ownBlock)) k_ ∧ some k_ ≠ (u6 : Value).ownBlock) rfl rfl ?aP (fun _ hk => hk) ?aF ?aO ?aB ?aS ?aL ?_; (case aP => exact (Kd.FK_slice_mk (Kd.R_reads' (Kd.R_mono (ok' := (fun k_ => ((fun k_ => some k_ ≠ (.slice (some ⟨go10, 0, none⟩) y449.length co10 : Value).ownBlock)) k_ ∧ some k_ ≠ (u6 : Value).ownBlock)) (Kd.R_apart' (HO462.out) (Kd.N_typed HO_6.out) (by decide)) (fun k_ hk => ⟨hk.1, hk.2⟩))).2.1 (Kd.R_F (Kd.R_mono (ok' := (fun k_ => ((fun k_ => some k_ ≠ (.slice (some ⟨go10, 0, none⟩) y449.length co10 : Value).ownBlock)) k_ ∧ some k_ ≠ (u6 : Value).ownBlock)) (Kd.R_apart' (HO462.out) (Kd.N_typed HO_6.out) (by decide)) (fun k_ hk => ⟨hk.1, hk.2⟩))))); (case aB => exact z13_0); (case aF => exact (fun k_ hk => Kd.fresh' (Kd.R_lt z13_5) k_ hk)); (case aO => exact (by (with_reducible repeat (first | apply Kd.N_alloc | apply Kd.N_drewN | apply Kd.N_drew)); exact Kd.N_mono HO_6.out (fun _ hk => hk.1))); (case aS => exact (below_size z13_0)); (case aL => have := LMc13.out; omega); intro v464 w22 ho hb hg hat; rw [← Ny463.out] at ho; have n0_ := Aside0.mk (Kd.R_over' z13_5 (Kd.N_typed z13_2) (by decide) hg); have n1_ := Aside0.mk (hb); have n2_ := Aside0.mk (ho); clear HO451; clear HB; clear HO_6; clear HO462; have HO451 := n0_; have HB := n1_; have HO465 := n2_; clear n0_ n1_ n2_; clear ho hb hg hat))
    go_roundg k1
    case measure => have := HK1.out; omega
    case rel => exact ⟨(y463), (wrap64 (x7_1 + 1)), z13_6, H', ⟨by have := HK1.out; omega⟩, ⟨by (with_reducible repeat (first | apply Kd.N_alloc | apply Kd.N_drewN | apply Kd.N_drew)); exact Kd.N_mono HO465.out (fun _ hk => trivial)⟩, ⟨z13_0⟩⟩
   ·rw [if_neg c5] at H
    have c5b0 : decide (x7_1 < (l0.length : Int)) = false := decide_eq_false c5; clear c5
    obtain ⟨y466, hy466⟩ : ∃ y_ : List Int, y_ = (([] : List Int)) := ⟨_, rfl⟩
    replace H : (if y466.length + l1.length < 17592186044416 then ((some (y466 ++ l1 : List Int)).bind fun y469 => (if 0 ≤ (l0.length : Int) then (if y469.length + ((l0.length : Int) : Int).toNat < 17592186044416 then (spec_l3By.l1 k1 x6_1 (y469 ++ List.replicate ((l0.length : Int) : Int).toNat 0) 0) else (none)) else (none))) else (none)) = some (r1, r2) := yZZ_ hy466 H
    have Ny466 := Aside0.mk hy466
    clear hy466; obtain ⟨c24, H⟩ := ifP H
    have LMc24 := Aside0.mk c24
    clear c24
    obtain ⟨y469, hy469⟩ : ∃ y_ : List Int, y_ = (y466 ++ l1) := ⟨_, rfl⟩
    replace H : (if 0 ≤ (l0.length : Int) then (if y469.length + ((l0.length : Int) : Int).toNat < 17592186044416 then (spec_l3By.l1 k1 x6_1 (y469 ++ List.replicate ((l0.length : Int) : Int).toNat 0) 0) else (none)) else (none)) = some (r1, r2) := yZZ_ hy469 H
    have Ny469 := Aside0.mk hy469
    clear hy469; obtain ⟨c25, H⟩ := ifP H
    have c25b0 := eq_true c25
    have c25b1 : decide (0 ≤ (l0.length : Int)) = true := decide_eq_true c25; clear c25; obtain ⟨c26, H⟩ := ifP H
    have LMc26 := Aside0.mk c26
    clear c26
    obtain ⟨y472, hy472⟩ : ∃ y_ : List Int, y_ = (y469 ++ List.replicate ((l0.length : Int) : Int).toNat 0) := ⟨_, rfl⟩
    replace H : (spec_l3By.l1 k1 x6_1 y472 0) = some (r1, r2) := yZZ_ hy472 H
    have Ny472 := Aside0.mk hy472
    clear hy472
    have H' := Aside0.mk H
    clear H
    go_wp2_with (first | ((with_reducible refine gate_dst (N := 37) rfl ?_); refine Kd.R_lit (Kd.int .i64) _ 3 ?hg (N := 37) ?hd (xs := ([] : List Int)) (inner := []) (ok := fun _ => True) (okp := fun _ => True) ?hr ?hp (fun _ hk => hk) trivial (Below.refl _ _) (Nat.le_refl _) (by simp) ?_; (case hd => rfl); (case hg => rfl); (case hr => first | (go_simp; done) | (go_simp; rfl)); (case hp => exact (Reps.none _ _)); intro v467 w27 ho28 hb hg_ hnew_; clear hg_ hnew_; (first | rw [← Ny466.out] at ho28 | (simp only [Int.reduceToNat] at ho28; rw [← Ny466.out] at ho28)); replace HO_6 := Aside0.mk (Kd.N_elder' z13_2 (Kd.R_base ho28) hb); have HO468 := Aside0.mk (Kd.R_lower ho28 (below_size z13_0)); replace HB := Aside0.mk (below_step z13_0 hb); clear hb ho28) | ((with_reducible refine gate_builtin (b := .append) (xs := #[.tmp 37, .tmp 38]) rfl ?_); at_builtin; refine Kd.R_append_rows (Kd.int .i64) (w0 := w) w.heap.size rfl (.tmp 37) (.tmp 38) 28 3 (.int .i64 0) 8 rfl Try.underlying28 info3 rfl (by decide) (by omega) v467 y466 l1 _ _ _ (fun _ => True) (fun _ => False) rfl rfl ?aO ?aR (fun _ _ h => h) (fun _ h => h.elim) ?aF ?aB ?aS ?aL ?_; (case aR => repeat (first | exact (Kd.C_below HR1.out HB.out) | (with_reducible refine Kd.C_alloc ?_ _) | (with_reducible refine Kd.C_drewN ?_ _) | (with_reducible refine Kd.C_drew ?_))); (case aB => exact z13_0); (case aF => exact (fun _ _ => trivial)); (case aO => exact (by (with_reducible repeat (first | apply Kd.R_alloc | apply Kd.R_drewN | apply Kd.R_drew)); exact HO468.out)); (case aS => exact (below_size z13_0)); (case aL => have := LMc24.out; omega); intro v470 w29 ho hb hg hat; rw [← Ny469.out] at ho; have n0_ := Aside0.mk (Kd.N_afterv (ok := (fun _ => True)) z13_2 hg hat); have n1_ := Aside0.mk (hb); have n2_ := Aside0.mk (ho); clear HO_6; clear HB; clear HO468; have HO_6 := n0_; have HB := n1_; have HO471 := n2_; clear n0_ n1_ n2_; clear ho hb hg hat) | (at_builtin; refine Kd.R_append_zeros (Kd.int .i64) (w0 := w) w.heap.size rfl (.tmp 39) (.tmp 41) 28 3 3 (.int .i64 0) 8 rfl Try.underlying28 Try.underlying3 info3 rfl (by decide) (by omega) v470 y469 0 ((l0.length : Int) : Int) (fun _ => True) rfl rfl rfl ?aF ?aO (of_decide_eq_true z13_1) ?aB ?aS ?aL ?_; (case aB => exact z13_0); (case aF => exact (fun _ _ => trivial)); (case aO => exact (by (with_reducible repeat (first | apply Kd.R_alloc | apply Kd.R_drewN | apply Kd.R_drew)); exact HO471.out)); (case aS => exact (below_size z13_0)); (case aL => have := LMc26.out; omega); intro v473 w30 ho hb hg hat; rw [← Ny472.out] at ho; have n0_ := Aside0.mk (Kd.N_afterv (ok := (fun _ => True)) z13_2 hg hat); have n1_ := Aside0.mk (hb); have n2_ := Aside0.mk (ho); clear HO_6; clear HB; clear HO471; have HO_6 := n0_; have HB := n1_; have HO474 := n2_; clear n0_ n1_ n2_; clear ho hb hg hat))
    go_loopg [9, 10] k1 (fun kq v9 v10 w' => ∃ (x6_2 : List (List Int)) (x9_2 : List Int) (x10_2 : Int), v10 = .int .i64 x10_2 ∧ Aside0 (spec_l3By.l1 kq x6_2 x9_2 x10_2 = some (r1, r2)) ∧ Aside0 (kq ≤ k1) ∧ Aside0 (Kd.N (Kd.slice 3 (Kd.int .i64)) 28 w' w.heap.size (fun k_ => some k_ ≠ (v9 : Value).ownBlock) u6 x6_2) ∧ Aside0 (Kd.R (Kd.int .i64) 3 w' w.heap.size (fun _ => True) v9 x9_2) ∧ Aside0 (Below w.heap.size w w'))
    case atStart => exact ⟨(x6_1), (y472), (0), z13_6, H', ⟨Nat.le_refl _⟩, ⟨by (with_reducible repeat (first | apply Kd.N_alloc | apply Kd.N_drewN | apply Kd.N_drew)); exact Kd.N_mono HO_6.out (fun _ hk => hk.2)⟩, ⟨by (with_reducible repeat (first | apply Kd.R_alloc | apply Kd.R_drewN | apply Kd.R_drew)); exact HO474.out⟩, ⟨z13_0⟩⟩
    case round =>
     clear H'
     try clear c1
     try clear c5
     try clear c5b0
     try clear c24
     try clear c25
     try clear c25b0
     try clear c25b1
     try clear c26
     obtain ⟨x6_2, x9_2, x10_2, rfl, HA, HK2, HO_6, HO_9, HB⟩ := hrel
     cases gk with
     | zero => exact absurd HA.out (by simp [spec_l3By.l1])
     | succ k2 =>
      have H := HA.out
      clear HA; simp only [spec_l3By.l1] at H
      by_cases c31 : x10_2 < 4
      ·rw [if_pos c31] at H
       have c31b0 : decide (x10_2 < 4) = true := decide_eq_true c31; clear c31
       have H' := Aside0.mk H
       clear H
       go_wp2
       go_loopg [9, 11] k2 (fun kq v9 v11 w' => ∃ (x6_3 : List (List Int)) (x9_3 : List Int) (x11_3 : Int), v11 = .int .i64 x11_3 ∧ Aside0 (spec_l3By.l2 kq x6_3 x9_3 x10_2 x11_3 = some (r1, r2)) ∧ Aside0 (kq ≤ k2) ∧ Aside0 (Kd.N (Kd.slice 3 (Kd.int .i64)) 28 w' w.heap.size (fun k_ => some k_ ≠ (v9 : Value).ownBlock) u6 x6_3) ∧ Aside0 (Kd.R (Kd.int .i64) 3 w' w.heap.size (fun _ => True) v9 x9_3) ∧ Aside0 (Below w.heap.size w w'))
       case atStart => exact ⟨(x6_2), (x9_2), (0), z13_6, H', ⟨Nat.le_refl _⟩, ⟨z13_2⟩, ⟨z13_3⟩, ⟨z13_0⟩⟩
       case round =>
        clear H'
        try clear c1
        try clear c5
        try clear c5b0
        try clear c24
        try clear c25
        try clear c25b0
        try clear c25b1
        try clear c26
        try clear c31
        try clear c31b0
        obtain ⟨x6_3, x9_3, x11_3, rfl, HA, HK3, HO_6, HO_9, HB⟩ := hrel
        cases gk with
        | zero => exact absurd HA.out (by simp [spec_l3By.l2])
        | succ k3 =>
         have H := HA.out
         clear HA; simp only [spec_l3By.l2] at H
         by_cases c32 : x11_3 < (x6_3.length : Int)
         ·rw [if_pos c32] at H
          have c32b0 : decide (x11_3 < (x6_3.length : Int)) = true := decide_eq_true c32; clear c32; obtain ⟨c33, H⟩ := ifP H; have c33b0 : decide (0 ≤ x11_3) = true := decide_eq_true c33; clear c33
          replace H := Option.bind_eq_some_iff.mp H
          obtain ⟨t476, A340, H⟩ := H
          have A34 := Aside0.mk A340
          clear A340
          by_cases c35 : t476 = x10_2
          ·rw [if_pos c35] at H
           have c35b0 : (t476 == x10_2) = true := beq_iff_eq.mpr c35
           have c35b1 : (t476 != x10_2) = false := bne_eq_false_iff_eq.mpr c35
           clear c35
           have H' := Aside0.mk H
           clear H; obtain ⟨Ao36, co36, eo36⟩ := Kd.N_slice HO_6.out; subst eo36; have p475 : 0 ≤ (x11_3 : Int) := of_decide_eq_true z13_1; have q475 : x11_3 < (x6_3.length : Int) := of_decide_eq_true z13_1; obtain ⟨ad475, A475_0, c475_0, e475, hx475_0, hl475_0, hi475_0⟩ := at_L5 (Kd.N_reads' HO_6.out).2.2 x11_3 p475 q475; cases e475; obtain ⟨ce475, hce475, hMe475, hcc475⟩ := Kd.N_get HO_6.out [] x11_3 p475 (by first | exact q475 | exact of_decide_eq_true z13_1 | (have e_ := (Kd.N_reads' HO_6.out).1; omega)); obtain ⟨ua475_0, uc475_0, rfl, ul475_0, ge475_0⟩ := Kd.FK_slice_open hMe475
           have hv475_0 := hcc475 0 _ rfl
           rw [Nat.add_zero, show ((Kd.slice 3 (Kd.int .i64))).sz = 1 from rfl, Nat.mul_one] at hv475_0
           replace hv475_0 := Option.some.inj (hv475_0.symm.trans hx475_0)
           injection hv475_0 with hva_ hvn_ hvc_
           rw [hva_] at ge475_0; rw [hvc_] at ul475_0
           have HL475_0 := Aside0.mk (show Kd.V (Kd.int .i64) 3 _ w.heap.size _ _ (rd_L5 x6_3 x11_3) from Kd.V_mk ul475_0 ge475_0)
           clear hva_ hvn_ hvc_ ge475_0 ul475_0; clear hcc475 hce475
           have HR475_0 := Aside0.mk hi475_0
           have HC475_0 := Aside0.mk hl475_0
           clear hi475_0 hl475_0
           replace p475 := eq_true p475
           replace q475 := eq_true q475
           go_wp2_with (first | ((with_reducible refine gate_callee (f := 123) rfl ?_); refine goesL_ (some 57) rfl rfl Try.func123 (by kernel_rfl) rfl #[.slice A475_0 (rd_L5 x6_3 x11_3).length c475_0] rfl z13_4 ?_; (with_reducible refine (spec_l2Lead.calls k3 _ _ (rd_L5 x6_3 x11_3) t476 _ ?side1 ?side2 A34.out).mono ?_); (case side1 => repeat (first | exact z13_9 | (with_reducible refine Kd.C_alloc ?_ _) | (with_reducible refine Kd.C_drewN ?_ _) | (with_reducible refine Kd.C_drew ?_))); (case side2 => exact HC475_0.out); rintro e w' ⟨rfl, ⟨nd, rfl⟩⟩; refine ⟨_, rfl, ?_⟩))
           go_loopg [12] k3 (fun kq v12 w' => ∃ (x6_4 : List (List Int)) (x12_4 : Int), v12 = .int .i64 x12_4 ∧ Aside0 (spec_l3By.l3 kq x6_4 x9_3 x10_2 x11_3 x12_4 = some (r1, r2)) ∧ Aside0 (kq ≤ k3) ∧ Aside0 (Kd.N (Kd.slice 3 (Kd.int .i64)) 28 w' w.heap.size (fun k_ => some k_ ≠ (u9 : Value).ownBlock) (.slice (some ad475) x6_3.length co36) x6_4) ∧ Aside0 (Kd.R (Kd.int .i64) 3 w' w.heap.size (fun _ => True) u9 x9_3) ∧ Aside0 (Below w.heap.size w w'))
           case atStart => exact ⟨(x6_3), (0), z13_6, H', ⟨Nat.le_refl _⟩, ⟨z13_2⟩, ⟨z13_3⟩, ⟨z13_0⟩⟩
           case round =>
            clear H'
            try clear c1
            try clear c5
            try clear c5b0
            try clear c24
            try clear c25
            try clear c25b0
            try clear c25b1
            try clear c26
            try clear c31
            try clear c31b0
            try clear c32
            try clear c32b0
            try clear c33
            try clear c33b0
            try clear c35
            try clear c35b0
            try clear c35b1
            try clear hx475_0
            try clear p475
            try clear q475
            obtain ⟨x6_4, x12_4, rfl, HA, HK4, HO_6, HO_9, HB⟩ := hrel
            have hl6_4 := (Kd.N_reads' HO_6.out).1
            rw [hl6_4] at HO_6; (try simp only [hl6_4]); (try simp only [hl6_4] at HO_9)
            cases gk with
            | zero => exact absurd HA.out (by simp [spec_l3By.l3])
            | succ k4 =>
             have H := HA.out
             clear HA; simp only [spec_l3By.l3] at H
             by_cases c37 : x12_4 < (x6_4.length : Int)
             ·rw [if_pos c37] at H
              have c37b0 : decide (x12_4 < (x6_4.length : Int)) = true := decide_eq_true c37; clear c37
              by_cases c38 : x12_4 = x11_3
              ·rw [if_pos c38] at H
               have c38b0 : (x12_4 == x11_3) = true := beq_iff_eq.mpr c38
               have c38b1 : (x12_4 != x11_3) = false := bne_eq_false_iff_eq.mpr c38
               clear c38
               have H' := Aside0.mk H
               clear H
               go_wp2
               (try simp only [← hl6_4])
               go_roundg k4
               case measure => have := HK1.out; have := HK2.out; have := HK3.out; have := HK4.out; omega
               case rel => exact ⟨(x6_4), (wrap64 (x12_4 + 1)), z13_6, H', ⟨z13_8⟩, ⟨z13_13⟩, ⟨z13_14⟩, ⟨z13_0⟩⟩
              ·rw [if_neg c38] at H
               have c38b0 : (x12_4 == x11_3) = false := beq_eq_false_iff_ne.mpr c38
               have c38b1 : (x12_4 != x11_3) = true := bne_iff_ne.mpr c38
               obtain ⟨c39, H⟩ := ifP H; have c39b0 : decide (0 ≤ x12_4) = true := decide_eq_true c39; clear c39; obtain ⟨c40, H⟩ := ifP H; have c40b0 : decide (0 ≤ x10_2) = true := decide_eq_true c40; clear c40; obtain ⟨c41, H⟩ := ifP H; have c41b0 : decide (x10_2 < ((rd_L5 x6_4 x12_4).length : Int)) = true := decide_eq_true c41; clear c41
               by_cases c42 : (rd (rd_L5 x6_4 x12_4) x10_2) = 0
               ·rw [if_pos c42] at H
                have c42b0 : ((rd (rd_L5 x6_4 x12_4) x10_2) == 0) = true := beq_iff_eq.mpr c42
                have c42b1 : ((rd (rd_L5 x6_4 x12_4) x10_2) != 0) = false := bne_eq_false_iff_eq.mpr c42
                clear c42
                have H' := Aside0.mk H
                clear H; have p477 : 0 ≤ (x12_4 : Int) := of_decide_eq_true z13_1; have q477 : x12_4 < (x6_4.length : Int) := of_decide_eq_true z13_1; obtain ⟨ad477, A477_0, c477_0, e477, hx477_0, hl477_0, hi477_0⟩ := at_L5 (Kd.N_reads' HO_6.out).2.2 x12_4 p477 q477
                obtain rfl : ad475 = ad477 := (by injection e477)
                obtain ⟨ce477, hce477, hMe477, hcc477⟩ := Kd.N_get HO_6.out [] x12_4 p477 (by first | exact q477 | exact of_decide_eq_true z13_1 | (have e_ := (Kd.N_reads' HO_6.out).1; omega)); obtain ⟨ua477_0, uc477_0, rfl, ul477_0, ge477_0⟩ := Kd.FK_slice_open hMe477
                have hv477_0 := hcc477 0 _ rfl
                rw [Nat.add_zero, show ((Kd.slice 3 (Kd.int .i64))).sz = 1 from rfl, Nat.mul_one] at hv477_0
                replace hv477_0 := Option.some.inj (hv477_0.symm.trans hx477_0)
                injection hv477_0 with hva_ hvn_ hvc_
                rw [hva_] at ge477_0; rw [hvc_] at ul477_0
                have HL477_0 := Aside0.mk (show Kd.V (Kd.int .i64) 3 _ w.heap.size _ _ (rd_L5 x6_4 x12_4) from Kd.V_mk ul477_0 ge477_0)
                clear hva_ hvn_ hvc_ ge477_0 ul477_0; clear hcc477 hce477
                have HR477_0 := Aside0.mk hi477_0
                have HC477_0 := Aside0.mk hl477_0
                clear hi477_0 hl477_0
                replace p477 := eq_true p477
                replace q477 := eq_true q477
                have p478 : 0 ≤ (x10_2 : Int) := of_decide_eq_true z13_1; have q478 : x10_2 < ((rd_L5 x6_4 x12_4).length : Int) := of_decide_eq_true z13_1; obtain ⟨ad478, e478, hx478_0⟩ := Kd.at_int z13_7 x10_2 p478 q478; cases e478
                replace p478 := eq_true p478
                replace q478 := eq_true q478
                go_wp2
                (try simp only [← hl6_4])
                go_roundg k4
                case measure => have := HK1.out; have := HK2.out; have := HK3.out; have := HK4.out; omega
                case rel => exact ⟨(x6_4), (wrap64 (x12_4 + 1)), z13_6, H', ⟨z13_8⟩, ⟨z13_13⟩, ⟨z13_14⟩, ⟨z13_0⟩⟩
               ·rw [if_neg c42] at H
                have c42b0 : ((rd (rd_L5 x6_4 x12_4) x10_2) == 0) = false := beq_eq_false_iff_ne.mpr c42
                have c42b1 : ((rd (rd_L5 x6_4 x12_4) x10_2) != 0) = true := bne_iff_ne.mpr c42
                obtain ⟨c43, H⟩ := ifP H; have c43b0 : decide (0 ≤ x11_3) = true := decide_eq_true c43; clear c43; obtain ⟨c44, H⟩ := ifP H; have c44b0 : decide (x11_3 < (x6_4.length : Int)) = true := decide_eq_true c44; clear c44
                replace H := Option.bind_eq_some_iff.mp H
                obtain ⟨t481, A450, H⟩ := H
                have A45 := Aside0.mk A450
                clear A450
                obtain ⟨y484, hy484⟩ : ∃ y_ : List (List Int), y_ = (x6_4.set (x12_4 : Int).toNat t481) := ⟨_, rfl⟩
                replace H : (spec_l3By.l3 k4 y484 x9_3 x10_2 x11_3 (wrap64 (x12_4 + 1))) = some (r1, r2) := yZZ_ hy484 H
                have Ny484 := Aside0.mk hy484
                clear hy484
                have H' := Aside0.mk H
                clear H; have p477 : 0 ≤ (x12_4 : Int) := of_decide_eq_true z13_1; have q477 : x12_4 < (x6_4.length : Int) := of_decide_eq_true z13_1; obtain ⟨ad477, A477_0, c477_0, e477, hx477_0, hl477_0, hi477_0⟩ := at_L5 (Kd.N_reads' HO_6.out).2.2 x12_4 p477 q477
                obtain rfl : ad475 = ad477 := (by injection e477)
                obtain ⟨ce477, hce477, hMe477, hcc477⟩ := Kd.N_get HO_6.out [] x12_4 p477 (by first | exact q477 | exact of_decide_eq_true z13_1 | (have e_ := (Kd.N_reads' HO_6.out).1; omega)); obtain ⟨ua477_0, uc477_0, rfl, ul477_0, ge477_0⟩ := Kd.FK_slice_open hMe477
                have hv477_0 := hcc477 0 _ rfl
                rw [Nat.add_zero, show ((Kd.slice 3 (Kd.int .i64))).sz = 1 from rfl, Nat.mul_one] at hv477_0
                replace hv477_0 := Option.some.inj (hv477_0.symm.trans hx477_0)
                injection hv477_0 with hva_ hvn_ hvc_
                rw [hva_] at ge477_0; rw [hvc_] at ul477_0
                have HL477_0 := Aside0.mk (show Kd.V (Kd.int .i64) 3 _ w.heap.size _ _ (rd_L5 x6_4 x12_4) from Kd.V_mk ul477_0 ge477_0)
                clear hva_ hvn_ hvc_ ge477_0 ul477_0; clear hcc477 hce477
                have HR477_0 := Aside0.mk hi477_0
                have HC477_0 := Aside0.mk hl477_0
                clear hi477_0 hl477_0
                replace p477 := eq_true p477
                replace q477 := eq_true q477
                have p478 : 0 ≤ (x10_2 : Int) := of_decide_eq_true z13_1; have q478 : x10_2 < ((rd_L5 x6_4 x12_4).length : Int) := of_decide_eq_true z13_1; obtain ⟨ad478, e478, hx478_0⟩ := Kd.at_int z13_7 x10_2 p478 q478; cases e478
                replace p478 := eq_true p478
                replace q478 := eq_true q478
                try go_wp2
                replace HO_6 := Aside0.mk (Kd.N_drew HO_6.out)
                replace HO_9 := Aside0.mk (Kd.R_drew HO_9.out)
                replace HL477_0 := Aside0.mk (Kd.V_drew HL477_0.out)
                replace HR477_0 := Aside0.mk (Kd.C_drew HR477_0.out)
                replace HB := Aside0.mk (below_drew1 HB.out)
                have p479 : 0 ≤ (x12_4 : Int) := of_decide_eq_true z13_1; have q479 : x12_4 < (x6_4.length : Int) := of_decide_eq_true z13_1; obtain ⟨ad479, A479_0, c479_0, e479, hx479_0, hl479_0, hi479_0⟩ := at_L5 (Kd.N_reads' HO_6.out).2.2 x12_4 p479 q479
                obtain rfl : ad475 = ad479 := (by injection e479)
                obtain ⟨ce479, hce479, hMe479, hcc479⟩ := Kd.N_get HO_6.out [] x12_4 p479 (by first | exact q479 | exact of_decide_eq_true z13_1 | (have e_ := (Kd.N_reads' HO_6.out).1; omega)); obtain ⟨ua479_0, uc479_0, rfl, ul479_0, ge479_0⟩ := Kd.FK_slice_open hMe479
                have hv479_0 := hcc479 0 _ rfl
                rw [Nat.add_zero, show ((Kd.slice 3 (Kd.int .i64))).sz = 1 from rfl, Nat.mul_one] at hv479_0
                replace hv479_0 := Option.some.inj (hv479_0.symm.trans hx479_0)
                injection hv479_0 with hva_ hvn_ hvc_
                rw [hva_] at ge479_0; rw [hvc_] at ul479_0
                have HL479_0 := Aside0.mk (show Kd.V (Kd.int .i64) 3 _ w.heap.size _ _ (rd_L5 x6_4 x12_4) from Kd.V_mk ul479_0 ge479_0)
                clear hva_ hvn_ hvc_ ge479_0 ul479_0; clear hcc479 hce479
                have HR479_0 := Aside0.mk hi479_0
                have HC479_0 := Aside0.mk hl479_0
                clear hi479_0 hl479_0
                replace p479 := eq_true p479
                replace q479 := eq_true q479
                have p480 : 0 ≤ (x11_3 : Int) := of_decide_eq_true z13_1; have q480 : x11_3 < (x6_4.length : Int) := of_decide_eq_true z13_1; obtain ⟨ad480, A480_0, c480_0, e480, hx480_0, hl480_0, hi480_0⟩ := at_L5 (Kd.N_reads' HO_6.out).2.2 x11_3 p480 q480
                obtain rfl : ad475 = ad480 := (by injection e480)
                obtain ⟨ce480, hce480, hMe480, hcc480⟩ := Kd.N_get HO_6.out [] x11_3 p480 (by first | exact q480 | exact of_decide_eq_true z13_1 | (have e_ := (Kd.N_reads' HO_6.out).1; omega)); obtain ⟨ua480_0, uc480_0, rfl, ul480_0, ge480_0⟩ := Kd.FK_slice_open hMe480
                have hv480_0 := hcc480 0 _ rfl
                rw [Nat.add_zero, show ((Kd.slice 3 (Kd.int .i64))).sz = 1 from rfl, Nat.mul_one] at hv480_0
                replace hv480_0 := Option.some.inj (hv480_0.symm.trans hx480_0)
                injection hv480_0 with hva_ hvn_ hvc_
                rw [hva_] at ge480_0; rw [hvc_] at ul480_0
                have HL480_0 := Aside0.mk (show Kd.V (Kd.int .i64) 3 _ w.heap.size _ _ (rd_L5 x6_4 x11_3) from Kd.V_mk ul480_0 ge480_0)
                clear hva_ hvn_ hvc_ ge480_0 ul480_0; clear hcc480 hce480
                have HR480_0 := Aside0.mk hi480_0
                have HC480_0 := Aside0.mk hl480_0
                clear hi480_0 hl480_0
                replace p480 := eq_true p480
                replace q480 := eq_true q480
                refine start_ (n := 13) (S := fun w' => w'.cell? (ad475.add (x12_4).toNat) = some (.slice A479_0 (rd_L5 x6_4 x12_4).length c479_0) ∧ w'.cell? (ad475.add (x11_3).toNat) = some (.slice A480_0 (rd_L5 x6_4 x11_3).length c480_0)) (ds := [12]) #[false, false, false, false, false, false, false, false, false, false, false, false, false] (by kernel_rfl) rfl rfl ⟨hx479_0, hx480_0⟩ (fun hHeld => ?_); refine with_tabW spec_l3By.tab20 spec_l3By.bits20 (fun HT_ HW_ => ?_); generalize wr.drew = w47 at HO_6 HO_9 HL477_0 HR477_0 HB HL479_0 HL480_0 HR479_0 HR480_0 hx479_0 hx480_0 hHeld ⊢; refine pZ 0 HT_ ?_; refine pZ 1 HT_ ?_; refine pZ 2 HT_ ?_; refine pZ 3 HT_ ?_; refine pZ 4 HT_ ?_; refine pZ 6 HT_ ?_; refine pZ 7 HT_ ?_; refine pZ 8 HT_ ?_; refine tZ 5 hHeld HT_ HW_ ?_; refine tZ 9 hHeld HT_ HW_ ?_; refine oZ 10 HT_ (fun K hK => ?_); refine goes_ Try.func122 (by kernel_rfl) rfl #[.slice A479_0 (rd_L5 x6_4 x12_4).length c479_0, .slice A480_0 (rd_L5 x6_4 x11_3).length c480_0] (by rfl) rfl rfl z13_4 ?_
                with_reducible refine (spec_l3Less.calls k4 _ _ (rd_L5 x6_4 x12_4) _ _ (rd_L5 x6_4 x11_3) t481 _ ?side1 ?side2 ?side3 ?side4 A45.out).mono ?_
                (case side1 => repeat (first | exact z13_10 | (with_reducible refine Kd.C_alloc ?_ _) | (with_reducible refine Kd.C_drewN ?_ _) | (with_reducible refine Kd.C_drew ?_))); (case side2 => exact HC479_0.out); (case side3 => repeat (first | exact z13_11 | (with_reducible refine Kd.C_alloc ?_ _) | (with_reducible refine Kd.C_drewN ?_ _) | (with_reducible refine Kd.C_drew ?_))); (case side4 => exact HC480_0.out)
                rintro e w48 ⟨v482, rfl, ho0, hb⟩
                have HS0_ := (hb.cell (World.block_lt_of_cell? _ _ (hHeld.1))).trans (hHeld.1)
                have HS1_ := (hb.cell (World.block_lt_of_cell? _ _ (hHeld.2))).trans (hHeld.2)
                refine ⟨_, rfl, ?_⟩
                replace HO_6 := Aside0.mk (Kd.N_elder' z13_2 (Kd.R_base ho0) hb)
                replace HL477_0 := Aside0.mk (Kd.V_elder' (by (with_reducible repeat (first | apply Kd.V_alloc | apply Kd.V_drewN | apply Kd.V_drew)); exact HL477_0.out) (Kd.R_base ho0) hb)
                replace HL479_0 := Aside0.mk (Kd.V_elder' (by (with_reducible repeat (first | apply Kd.V_alloc | apply Kd.V_drewN | apply Kd.V_drew)); exact HL479_0.out) (Kd.R_base ho0) hb)
                replace HL480_0 := Aside0.mk (Kd.V_elder' (by (with_reducible repeat (first | apply Kd.V_alloc | apply Kd.V_drewN | apply Kd.V_drew)); exact HL480_0.out) (Kd.R_base ho0) hb)
                have HO483 := Aside0.mk (Kd.R_lower (Kd.R_new' ho0 (Kd.R_lt z13_3)) (below_size z13_0))
                replace HO_9 := Aside0.mk (Kd.R_elder' z13_3 (Kd.R_base ho0) hb)
                replace HR477_0 := Aside0.mk (Kd.C_below z13_7 hb)
                replace HR479_0 := Aside0.mk (Kd.C_below z13_10 hb)
                replace HR480_0 := Aside0.mk (Kd.C_below z13_11 hb)
                replace HB := Aside0.mk (below_step z13_0 hb)
                (try clear hb); (try clear hb2); (try clear hk); (try clear hi); (try clear ho0); have p46 : 0 ≤ (x12_4 : Int) := of_decide_eq_true z13_1
                have q46 : (x12_4 : Int) < ((x6_4.length : Int) : Int) := of_decide_eq_true z13_1
                obtain ⟨go46, co46, eo46, gb46, gl46, cl46, HG46⟩ := Kd.N_form HO_6.out (by omega); (first | cases eo46 | (injection eo46 with ea_ en_ ec_; (first | subst ea_ | (injection ea_ with ea_; subst ea_)); subst ec_; clear en_))
                have GB46 := Aside0.mk gb46
                have GG46 := Aside0.mk HG46
                clear gb46 gl46 HG46; (first | simp only [add_plain] at hx475_0 | skip); (first | simp only [add_plain] at hx477_0 | skip); (first | simp only [add_plain] at hx479_0 | skip); (first | simp only [add_plain] at hx480_0 | skip); obtain ⟨ce46, hcl46, hM46, hcc46, hfr46⟩ := Kd.N_elem HO_6.out [] (x12_4 : Int) p46 q46; obtain ⟨ua46_0, uc46_0, rfl, ul46_0, ge46_0⟩ := Kd.FK_slice_open hM46
                have hx46_0 := hcc46 0 _ rfl
                have hf46_0 := hfr46 0
                (try simp only [show ((Kd.slice 3 (Kd.int .i64))).sz = 1 from rfl, Nat.mul_one, Nat.add_zero] at hx46_0); (try simp only [show ((Kd.slice 3 (Kd.int .i64))).sz = 1 from rfl, Nat.mul_one, Nat.add_zero] at hf46_0)
                (try clear hcl46); (try clear hcc46); (try clear hfr46); (try clear hM46)
                replace p46 := eq_true p46
                replace q46 := eq_true q46
                have HX49 := Aside0.mk (show Kd.N (Kd.slice 3 (Kd.int .i64)) 28 _ w.heap.size (fun k_ => some k_ ≠ (u9 : Value).ownBlock ∧ some k_ ≠ (v482 : Value).ownBlock) (.slice (some ⟨go46, 0, none⟩) x6_4.length co36) x6_4 from (Kd.N_mono (HO_6.out) (fun k_ hk => ⟨hk.1, hk.2⟩)))
                replace HX49 := Aside0.mk (show Kd.N (Kd.slice 3 (Kd.int .i64)) 28 _ w.heap.size (fun k_ => some k_ ≠ (u9 : Value).ownBlock) (.slice (some ⟨go46, 0, none⟩) x6_4.length co36) x6_4 from Kd.N_mono HX49.out (fun k_ hk => hk.1))
                obtain ⟨ce49, hcl49, hM49, hcc49, hfr49⟩ := Kd.N_elem HX49.out [] (x12_4 : Int) (of_decide_eq_true z13_1) (by have h_ : (x12_4 : Int) < ((x6_4.length : Int) : Int) := of_decide_eq_true z13_1; first | exact h_ | (have e_ := (Kd.N_reads' HO_6.out).1; omega) | simpa using h_); obtain ⟨ua49_0, uc49_0, rfl, ul49_0, ge49_0⟩ := Kd.FK_slice_open hM49; obtain ⟨As_, cs_, es_⟩ := Kd.R_slice HO483.out; subst es_
                have HP49 := (Kd.N_seg HX49.out (x12_4 : Int) (of_decide_eq_true z13_1) (by have h_ : (x12_4 : Int) < ((x6_4.length : Int) : Int) := of_decide_eq_true z13_1; first | exact h_ | (have e_ := (Kd.N_reads' HO_6.out).1; omega) | simpa using h_) (seg := [.slice As_ t481.length cs_]) (j := 0) hcl49 hcc49 (show 1 ≤ 1 from by decide) (x' := t481) (Kd.FK_slice_mk (Kd.R_reads' (Kd.R_mono (ok' := (fun k_ => ((fun k_ => some k_ ≠ (u9 : Value).ownBlock)) k_ ∧ k_ ≠ go46)) (Kd.R_apart' (HO483.out) (Kd.N_typed HO_6.out) (by decide)) (fun k_ hk => ⟨hk.1.2, fun e_ => (hk.2) (by rw [e_]; rfl)⟩))).2.1 (Kd.R_F (Kd.R_mono (ok' := (fun k_ => ((fun k_ => some k_ ≠ (u9 : Value).ownBlock)) k_ ∧ k_ ≠ go46)) (Kd.R_apart' (HO483.out) (Kd.N_typed HO_6.out) (by decide)) (fun k_ hk => ⟨hk.1.2, fun e_ => (hk.2) (by rw [e_]; rfl)⟩)))) (fun _ hk => hk)).1
                (try simp only [show ((Kd.slice 3 (Kd.int .i64))).sz = 1 from rfl, Nat.mul_one, Nat.add_zero] at HP49); rw [← Ny484.out] at HP49
                have HQ49 := Aside0.mk HP49
                (try clear hcl49); (try clear hcc49); (try clear hfr49); (try clear hM49); (try clear HP49)
                refine hK.out _ _ ⟨HS0_, HS1_⟩ (fun hHeld => ?_); clear hK K; refine nZ ?_; refine pZ 11 HT_ ?_; refine lZ 12 HT_ (fun K hK => ?_); refine skip_ (w1 := ?_) (by rfl) rfl ?_ ?_; rotate_left
                ·go_simp
                 rfl
                refine hK.out _ _ ?_; clear hK K; refine done_ (done_of HT_.out (by kernel_rfl)) ?_
                try go_wp2
                (try simp only [← hl6_4])
                have hab_ : (⟨go46, (x11_3 : Int).toNat, none⟩ : Addr) = (⟨go46, 0, none⟩ : Addr).add (x11_3 : Int).toNat := (add_plain _ _).symm
                (try simp only [hab_]); clear hab_
                go_roundg k4
                case measure => have := HK1.out; have := HK2.out; have := HK3.out; have := HK4.out; omega
                case rel => exact ⟨(y484), (wrap64 (x12_4 + 1)), z13_6, H', ⟨z13_8⟩, ⟨by (try simp only [hl6_4]); (with_reducible repeat (first | apply Kd.N_alloc | apply Kd.N_drewN | apply Kd.N_drew)); exact HQ49.out⟩, ⟨by (try simp only [hl6_4]); (with_reducible repeat (first | apply Kd.R_alloc | apply Kd.R_drewN | apply Kd.R_drew)); exact Kd.R_mono (Kd.R_far (p := ⟨go46, (x12_4 : Int).toNat, none⟩) (Kd.R_types HO_9.out GG46.out (by decide)) (fun _ hk => hk.2) ((.slice As_ t481.length cs_ : Value))) (fun _ hk => trivial)⟩, ⟨by repeat (first | (with_reducible first | exact HB.out | apply below_alloc | apply pw_below_drewN | apply below_drew1 | refine below_set ?_ GB46.out) | exact HB.out)⟩⟩
             ·rw [if_neg c37] at H
              have c37b0 : decide (x12_4 < (x6_4.length : Int)) = false := decide_eq_false c37; clear c37; obtain ⟨c50, H⟩ := ifP H; have c50b0 : decide (0 ≤ x11_3) = true := decide_eq_true c50; clear c50; obtain ⟨c51, H⟩ := ifP H; have c51b0 : decide (x11_3 < (x6_4.length : Int)) = true := decide_eq_true c51; clear c51
              replace H := Option.bind_eq_some_iff.mp H
              obtain ⟨t486, A520, H⟩ := H
              have A52 := Aside0.mk A520
              clear A520
              have H' := Aside0.mk H
              clear H; have p485 : 0 ≤ (x11_3 : Int) := of_decide_eq_true z13_1; have q485 : x11_3 < (x6_4.length : Int) := of_decide_eq_true z13_1; obtain ⟨ad485, A485_0, c485_0, e485, hx485_0, hl485_0, hi485_0⟩ := at_L5 (Kd.N_reads' HO_6.out).2.2 x11_3 p485 q485
              obtain rfl : ad475 = ad485 := (by injection e485)
              obtain ⟨ce485, hce485, hMe485, hcc485⟩ := Kd.N_get HO_6.out [] x11_3 p485 (by first | exact q485 | exact of_decide_eq_true z13_1 | (have e_ := (Kd.N_reads' HO_6.out).1; omega)); obtain ⟨ua485_0, uc485_0, rfl, ul485_0, ge485_0⟩ := Kd.FK_slice_open hMe485
              have hv485_0 := hcc485 0 _ rfl
              rw [Nat.add_zero, show ((Kd.slice 3 (Kd.int .i64))).sz = 1 from rfl, Nat.mul_one] at hv485_0
              replace hv485_0 := Option.some.inj (hv485_0.symm.trans hx485_0)
              injection hv485_0 with hva_ hvn_ hvc_
              rw [hva_] at ge485_0; rw [hvc_] at ul485_0
              have HL485_0 := Aside0.mk (show Kd.V (Kd.int .i64) 3 _ w.heap.size _ _ (rd_L5 x6_4 x11_3) from Kd.V_mk ul485_0 ge485_0)
              clear hva_ hvn_ hvc_ ge485_0 ul485_0; clear hcc485 hce485
              have HR485_0 := Aside0.mk hi485_0
              have HC485_0 := Aside0.mk hl485_0
              clear hi485_0 hl485_0
              replace p485 := eq_true p485
              replace q485 := eq_true q485
              obtain ⟨Ao53, co53, eo53⟩ := Kd.R_slice HO_9.out; subst eo53
              go_wp2_with (first | ((with_reducible refine gate_callee (f := 122) rfl ?_); refine goesL_ (some 96) rfl rfl Try.func122 (by kernel_rfl) rfl #[.slice Ao53 x9_3.length co53, .slice A485_0 (rd_L5 x6_4 x11_3).length c485_0] rfl z13_4 ?_; (with_reducible refine (spec_l3Less.calls k4 _ _ x9_3 _ _ (rd_L5 x6_4 x11_3) t486 _ ?side1 ?side2 ?side3 ?side4 A52.out).mono ?_); (case side1 => exact cZ ((Kd.R_reads' HO_9.out).2.2)); (case side2 => exact (Kd.R_reads' HO_9.out).2.1); (case side3 => repeat (first | exact z13_12 | (with_reducible refine Kd.C_alloc ?_ _) | (with_reducible refine Kd.C_drewN ?_ _) | (with_reducible refine Kd.C_drew ?_))); (case side4 => exact HC485_0.out); rintro e w54 ⟨v487, rfl, ho0, hb⟩; refine ⟨_, rfl, ?_⟩; replace HO_6 := Aside0.mk (Kd.N_elder' z13_2 (Kd.R_base ho0) hb); replace HL485_0 := Aside0.mk (Kd.V_elder' (by (with_reducible repeat (first | apply Kd.V_alloc | apply Kd.V_drewN | apply Kd.V_drew)); exact HL485_0.out) (Kd.R_base ho0) hb); have HO488 := Aside0.mk (Kd.R_lower (Kd.R_new' ho0 (Kd.R_lt z13_3)) (below_size z13_0)); replace HO_9 := Aside0.mk (Kd.R_elder' z13_3 (Kd.R_base ho0) hb); replace HR485_0 := Aside0.mk (Kd.C_below z13_12 hb); replace HB := Aside0.mk (below_step z13_0 hb); (try clear hb); (try clear ho0)))
              (try simp only [← hl6_4])
              go_roundg k4
              case measure => have := HK1.out; have := HK2.out; have := HK3.out; have := HK4.out; omega
              case rel => exact ⟨(x6_4), (t486), (wrap64 (x10_2 + 1)), z13_6, H', ⟨z13_8⟩, ⟨by (try simp only [hl6_4]); (with_reducible repeat (first | apply Kd.N_alloc | apply Kd.N_drewN | apply Kd.N_drew)); exact Kd.N_mono HO_6.out (fun _ hk => hk.2)⟩, ⟨by (try simp only [hl6_4]); (with_reducible repeat (first | apply Kd.R_alloc | apply Kd.R_drewN | apply Kd.R_drew)); exact Kd.R_mono HO488.out (fun _ hk => trivial)⟩, ⟨z13_0⟩⟩
          ·rw [if_neg c35] at H
           have c35b0 : (t476 == x10_2) = false := beq_eq_false_iff_ne.mpr c35
           have c35b1 : (t476 != x10_2) = true := bne_iff_ne.mpr c35
           have H' := Aside0.mk H
           clear H; obtain ⟨Ao55, co55, eo55⟩ := Kd.N_slice HO_6.out; subst eo55; have p475 : 0 ≤ (x11_3 : Int) := of_decide_eq_true z13_1; have q475 : x11_3 < (x6_3.length : Int) := of_decide_eq_true z13_1; obtain ⟨ad475, A475_0, c475_0, e475, hx475_0, hl475_0, hi475_0⟩ := at_L5 (Kd.N_reads' HO_6.out).2.2 x11_3 p475 q475; cases e475; obtain ⟨ce475, hce475, hMe475, hcc475⟩ := Kd.N_get HO_6.out [] x11_3 p475 (by first | exact q475 | exact of_decide_eq_true z13_1 | (have e_ := (Kd.N_reads' HO_6.out).1; omega)); obtain ⟨ua475_0, uc475_0, rfl, ul475_0, ge475_0⟩ := Kd.FK_slice_open hMe475
           have hv475_0 := hcc475 0 _ rfl
           rw [Nat.add_zero, show ((Kd.slice 3 (Kd.int .i64))).sz = 1 from rfl, Nat.mul_one] at hv475_0
           replace hv475_0 := Option.some.inj (hv475_0.symm.trans hx475_0)
           injection hv475_0 with hva_ hvn_ hvc_
           rw [hva_] at ge475_0; rw [hvc_] at ul475_0
           have HL475_0 := Aside0.mk (show Kd.V (Kd.int .i64) 3 _ w.heap.size _ _ (rd_L5 x6_3 x11_3) from Kd.V_mk ul475_0 ge475_0)
           clear hva_ hvn_ hvc_ ge475_0 ul475_0; clear hcc475 hce475
           have HR475_0 := Aside0.mk hi475_0
           have HC475_0 := Aside0.mk hl475_0
           clear hi475_0 hl475_0
           replace p475 := eq_true p475
           replace q475 := eq_true q475
           go_wp2_with (first | ((with_reducible refine gate_callee (f := 123) rfl ?_); refine goesL_ (some 57) rfl rfl Try.func123 (by kernel_rfl) rfl #[.slice A475_0 (rd_L5 x6_3 x11_3).length c475_0] rfl z13_4 ?_; (with_reducible refine (spec_l2Lead.calls k3 _ _ (rd_L5 x6_3 x11_3) t476 _ ?side1 ?side2 A34.out).mono ?_); (case side1 => repeat (first | exact z13_9 | (with_reducible refine Kd.C_alloc ?_ _) | (with_reducible refine Kd.C_drewN ?_ _) | (with_reducible refine Kd.C_drew ?_))); (case side2 => exact HC475_0.out); rintro e w' ⟨rfl, ⟨nd, rfl⟩⟩; refine ⟨_, rfl, ?_⟩))
           go_roundg k3
           case measure => have := HK1.out; have := HK2.out; have := HK3.out; omega
           case rel => exact ⟨(x6_3), (x9_3), (wrap64 (x11_3 + 1)), z13_6, H', ⟨by have := HK1.out; have := HK2.out; have := HK3.out; omega⟩, ⟨z13_2⟩, ⟨z13_3⟩, ⟨z13_0⟩⟩
         ·rw [if_neg c32] at H
          have c32b0 : decide (x11_3 < (x6_3.length : Int)) = false := decide_eq_false c32; clear c32
          have H' := Aside0.mk H
          clear H; obtain ⟨Ao56, co56, eo56⟩ := Kd.N_slice HO_6.out; subst eo56
          go_wp2
          go_roundg k3
          case measure => have := HK1.out; have := HK2.out; have := HK3.out; omega
          case rel => exact ⟨(x6_3), (x9_3), (wrap64 (x10_2 + 1)), z13_6, H', ⟨by have := HK1.out; have := HK2.out; have := HK3.out; omega⟩, ⟨z13_2⟩, ⟨z13_3⟩, ⟨z13_0⟩⟩
      ·rw [if_neg c31] at H
       have c31b0 : decide (x10_2 < 4) = false := decide_eq_false c31; clear c31
       replace H := Option.bind_eq_some_iff.mp H
       obtain ⟨t489, A570, H⟩ := H
       have A57 := Aside0.mk A570
       clear A570
       replace H := Option.bind_eq_some_iff.mp H
       obtain ⟨t490, A580, H⟩ := H
       have A58 := Aside0.mk A580
       clear A580
       by_cases c59 : t490 = true
       ·subst c59
        rw [if_pos rfl] at H
        obtain ⟨y491, hy491⟩ : ∃ y_ : List Int, y_ = (([] : List Int)) := ⟨_, rfl⟩
        replace H : (some (y491, false)) = some (r1, r2) := yZZ_ hy491 H
        have Ny491 := Aside0.mk hy491
        clear hy491; simp only [Option.some.injEq, Prod.mk.injEq] at H; obtain ⟨rfl, rfl⟩ := H; obtain ⟨Ao60, co60, eo60⟩ := Kd.R_slice HO_9.out; subst eo60
        go_wp2_with (first | ((with_reducible refine gate_callee (f := 123) rfl ?_); refine goesL_ (some 98) rfl rfl Try.func123 (by kernel_rfl) rfl #[.slice Ao60 x9_2.length co60] rfl z13_4 ?_; (with_reducible refine (spec_l2Lead.calls k2 _ _ x9_2 t489 _ ?side1 ?side2 A57.out).mono ?_); (case side1 => exact cZ ((Kd.R_reads' HO_9.out).2.2)); (case side2 => exact (Kd.R_reads' HO_9.out).2.1); rintro e w' ⟨rfl, ⟨nd, rfl⟩⟩; refine ⟨_, rfl, ?_⟩) | ((with_reducible refine gate_callee (f := 105) rfl ?_); refine goesL_ (some 99) rfl rfl Try.func105 (by kernel_rfl) rfl #[.int .i64 t489, .int .i64 0, .int .i64 3] rfl z13_4 ?_; (with_reducible refine (spec_l6In.calls t489 0 3 true _ A58.out).mono ?_); rintro e w' ⟨rfl, ⟨nd, rfl⟩⟩; refine ⟨_, rfl, ?_⟩) | ((with_reducible refine gate_dst (N := 100) rfl ?_); refine Kd.R_lit (Kd.int .i64) _ 3 ?hg (N := 100) ?hd (xs := ([] : List Int)) (inner := []) (ok := fun _ => True) (okp := fun _ => True) ?hr ?hp (fun _ hk => hk) trivial (Below.refl _ _) (Nat.le_refl _) (by simp) ?_; (case hd => rfl); (case hg => rfl); (case hr => first | (go_simp; done) | (go_simp; rfl)); (case hp => exact (Reps.none _ _)); intro v492 w61 ho62 hb hg_ hnew_; clear hg_ hnew_; (first | rw [← Ny491.out] at ho62 | (simp only [Int.reduceToNat] at ho62; rw [← Ny491.out] at ho62)); replace HO_6 := Aside0.mk (Kd.N_elder' z13_2 (Kd.R_base ho62) hb); have HO493 := Aside0.mk (Kd.R_lower (Kd.R_new' ho62 (Kd.R_lt z13_3)) (below_size z13_0)); replace HO_9 := Aside0.mk (Kd.R_elder' z13_3 (Kd.R_base ho62) hb); replace HB := Aside0.mk (below_step z13_0 hb); clear hb ho62))
        go_ret2
        exact ⟨_, by first | rfl | (simp [errW_none, errW_some] <;> rfl) | (simp [*, errW_none, errW_some] <;> rfl), by (with_reducible repeat (first | apply Kd.R_alloc | apply Kd.R_drewN | apply Kd.R_drew)); exact Kd.R_mono HO493.out (fun _ hk => trivial), z13_0⟩
       ·replace c59 := Bool.eq_false_iff.mpr c59
        subst c59; rw [if_neg (show ¬ (false = true) by decide)] at H; obtain ⟨c63, H⟩ := ifP H
        have c63b0 := eq_true c63
        have c63b1 : decide (4 ≤ (x9_2.length : Int)) = true := decide_eq_true c63; clear c63
        obtain ⟨y494, hy494⟩ : ∃ y_ : List Int, y_ = (x9_2.drop 4) := ⟨_, rfl⟩
        replace H : ((spec_l2Scale.f k2 y494 30).bind fun t499 => (some (t499, true))) = some (r1, r2) := yZZ_ hy494 H
        have Ny494 := Aside0.mk hy494
        clear hy494
        replace H := Option.bind_eq_some_iff.mp H
        obtain ⟨t499, A640, H⟩ := H
        have A64 := Aside0.mk A640
        clear A640; simp only [Option.some.injEq, Prod.mk.injEq] at H; obtain ⟨rfl, rfl⟩ := H; obtain ⟨Ao65, co65, eo65⟩ := Kd.R_slice HO_9.out; subst eo65
        go_wp2_with (first | ((with_reducible refine gate_callee (f := 123) rfl ?_); refine goesL_ (some 98) rfl rfl Try.func123 (by kernel_rfl) rfl #[.slice Ao65 x9_2.length co65] rfl z13_4 ?_; (with_reducible refine (spec_l2Lead.calls k2 _ _ x9_2 t489 _ ?side1 ?side2 A57.out).mono ?_); (case side1 => exact cZ ((Kd.R_reads' HO_9.out).2.2)); (case side2 => exact (Kd.R_reads' HO_9.out).2.1); rintro e w' ⟨rfl, ⟨nd, rfl⟩⟩; refine ⟨_, rfl, ?_⟩) | ((with_reducible refine gate_callee (f := 105) rfl ?_); refine goesL_ (some 99) rfl rfl Try.func105 (by kernel_rfl) rfl #[.int .i64 t489, .int .i64 0, .int .i64 3] rfl z13_4 ?_; (with_reducible refine (spec_l6In.calls t489 0 3 false _ A58.out).mono ?_); rintro e w' ⟨rfl, ⟨nd, rfl⟩⟩; refine ⟨_, rfl, ?_⟩; have q66 : (4 : Int) ≤ ((x9_2.length : Int) : Int) := of_decide_eq_true z13_1; obtain ⟨i066, hi066, _, hsz66, _⟩ := info_parts info3; have hroom66 : x9_2.length ≤ co65 := (Kd.R_reads' HO_9.out).2.1; have hC66 : Kd.F (Kd.int .i64) _ _ Ao65 x9_2.length x9_2 := (Kd.V_at (base := w.heap.size) (Kd.R_V (Kd.R_apart' (HO_9.out) (Kd.N_typed HO_6.out) (by decide)))).2.2; have hcut66 := cut_from (P := Try.prog) 28 3 .i64 Try.underlying28 hi066 1 hsz66 Ao65 x9_2.length co65 4 (by omega) q66; have hr66 := Kd.F_cut (m := (4 : Int).toNat) (c := co65) hC66 (by omega) hroom66; obtain ⟨A66, hA66⟩ : ∃ A1, A1 = (if co65 = (4 : Int).toNat then Ao65 else (Ao65 : Option Addr).map (·.add ((4 : Int).toNat * 1))) := ⟨_, rfl⟩; obtain ⟨c66, hc66⟩ : ∃ c1, c1 = co65 - (4 : Int).toNat := ⟨_, rfl⟩; have hy66 : y494.length = x9_2.length - (4 : Int).toNat := (by rw [Ny494.out, List.length_drop] <;> omega); rw [show (x9_2).drop (4 : Int).toNat = y494 from Ny494.out.symm] at hr66; replace hr66 : Kd.F (Kd.int .i64) _ _ A66 y494.length y494 := (by rw [hA66]; exact hr66); rw [← hy66, ← hA66, ← hc66] at hcut66; have HO498 := Aside0.mk (show Kd.V (Kd.int .i64) 3 _ w.heap.size _ (.slice A66 y494.length c66) y494 from Kd.V_mk (by rw [hy66, hc66]; exact Nat.sub_le_sub_right hroom66 _) hr66); have HC498 := Aside0.mk (show y494.length ≤ c66 from by rw [hy66, hc66]; exact Nat.sub_le_sub_right hroom66 _); clear hr66 hC66 hroom66 hi066 hsz66 hc66; have KY66 := Aside0.mk hy66; have KA66 := Aside0.mk hA66; clear hy66 hA66; replace q66 := eq_true q66) | ((with_reducible refine gate_callee (f := 91) rfl ?_); refine goesL_ (some 103) rfl rfl Try.func91 (by kernel_rfl) rfl #[.slice A66 y494.length c66, .int .i64 30] rfl z13_4 ?_; (with_reducible refine (spec_l2Scale.calls k2 _ _ y494 30 t499 _ ?side1 ?side2 A64.out).mono ?_); (case side1 => exact cZ ((Kd.V_reads' HO498.out).2.2)); (case side2 => exact (Kd.V_reads' HO498.out).2.1); rintro e w67 ⟨v500, rfl, ho0, hb⟩; refine ⟨_, rfl, ?_⟩; replace HO_6 := Aside0.mk (Kd.N_elder' z13_2 (Kd.R_base ho0) hb); replace HO498 := Aside0.mk (Kd.V_elder' (by (with_reducible repeat (first | apply Kd.V_alloc | apply Kd.V_drewN | apply Kd.V_drew)); exact HO498.out) (Kd.R_base ho0) hb); have HO501 := Aside0.mk (Kd.R_lower (Kd.R_new' ho0 (Kd.R_lt z13_3)) (below_size z13_0)); replace HO_9 := Aside0.mk (Kd.R_elder' z13_3 (Kd.R_base ho0) hb); replace HB := Aside0.mk (below_step z13_0 hb); (try clear hb); (try clear ho0)))
        go_ret2
        exact ⟨_, by first | rfl | (simp [errW_none, errW_some] <;> rfl) | (simp [*, errW_none, errW_some] <;> rfl), by (with_reducible repeat (first | apply Kd.R_alloc | apply Kd.R_drewN | apply Kd.R_drew)); exact Kd.R_mono HO501.out (fun _ hk => trivial), z13_0⟩

end Go.Proofs.Ytamaejafddmagaa.PA
namespace Go.Proofs.Ytamaejafddmagaa.PA
open Go.RowKit Go.Proofs.YtamaejafddmagaaW.PrintWords Go.Proofs.YtamaejafddmagaaW.PrintLast Go.Proofs.YtamaejafddmagaaW.PrintMore
attribute [local go_sem] max2_int min2_int max_two min_two max_three min_three max_four min_four   -- for this text's walks alone
set_option linter.unusedVariables false
set_option linter.unusedSimpArgs false

/-! ### spec_l4Fits: function 86 -/
theorem z14_0 {p : Prop} (h : p := by repeat (first | (with_reducible first | exact HB.out | apply below_alloc | apply pw_below_drewN | apply below_drew1) | exact HB.out)) : p := h
theorem z14_1 {p : Prop} (h : p := by (with_reducible repeat (first | apply Kd.R_alloc | apply Kd.R_drewN | apply Kd.R_drew)); exact HO_8.out) : p := h
theorem z14_2 {p : Prop} (h : p := by (with_reducible repeat (first | apply Kd.N_alloc | apply Kd.N_drewN | apply Kd.N_drew)); exact HO_7.out) : p := h
theorem z14_3 {p : Prop} (h : p := by first | (with_reducible assumption) | assumption) : p := h
theorem z14_4 {p : Prop} (h : p := by (with_reducible repeat (first | apply Kd.V_alloc | apply Kd.V_drewN | apply Kd.V_drew)); exact HO511.out) : p := h
theorem z14_5 {p : Prop} (h : p := by (with_reducible repeat (first | apply Kd.V_alloc | apply Kd.V_drewN | apply Kd.V_drew)); exact Kd.V_mono HO511.out (fun _ hk => ⟨hk.2, hk.1⟩)) : p := h
theorem z14_6 {p : Prop} (h : p := by first | rfl | (simp; done) | (simp [*]; done)) : p := h
theorem z14_7 {p : Prop} (h : p := by (with_reducible repeat (first | apply Kd.N_alloc | apply Kd.N_drewN | apply Kd.N_drew)); exact Kd.N_mono HO522.out (fun _ hk => ⟨trivial, hk⟩)) : p := h
theorem z14_8 {p : Prop} (h : p := by (with_reducible repeat (first | apply Kd.N_alloc | apply Kd.N_drewN | apply Kd.N_drew)); exact HO504.out) : p := h
mutual
def spec_l4Fits.l0 : Nat → Int → List Int → List Bool → List (List Int) → List Int → Int → Option (Bool)
  | 0, _, _, _, _, _, _ => none
  | k + 1, x0, x1, x2, x7, x8, x9 => if x9 < 8 then (if 0 ≤ x9 then (if x9 < (x2.length : Int) then (if rdOf false x2 x9 = true then ((spec_l4Row.f x0 x9).bind fun t509 => ((spec_l3Has.f x7 t509).bind fun t512 => (if t512 = true then ((spec_l3By.f k x7 t509).bind fun bt513 => (spec_l4Fits.l1 k x0 x1 x2 x7 x8 x9 bt513.1 0 0)) else (if x7.length < 5864062014805 then (if x9 < (x1.length : Int) then (if x8.length < 17592186044416 then (spec_l4Fits.l0 k x0 x1 x2 (x7 ++ [t509]) (x8 ++ [rd x1 x9]) (wrap64 (x9 + 1))) else (none)) else (none)) else (none))))) else (spec_l4Fits.l0 k x0 x1 x2 x7 x8 (wrap64 (x9 + 1)))) else (none)) else (none)) else (some true)
def spec_l4Fits.l1 : Nat → Int → List Int → List Bool → List (List Int) → List Int → Int → List Int → Int → Int → Option (Bool)
  | 0, _, _, _, _, _, _, _, _, _ => none
  | k + 1, x0, x1, x2, x7, x8, x9, x11, x13, x14 => if x14 < (x11.length : Int) then (if 0 ≤ x14 then (if x14 < (x8.length : Int) then (spec_l4Fits.l1 k x0 x1 x2 x7 x8 x9 x11 (Int.tmod (wrap64 (x13 + (wrap64 ((rd x11 x14) * (rd x8 x14))))) 31) (wrap64 (x14 + 1))) else (none)) else (none)) else (if 0 ≤ x9 then (if x9 < (x1.length : Int) then (if x13 = (rd x1 x9) then (spec_l4Fits.l0 k x0 x1 x2 x7 x8 (wrap64 (x9 + 1))) else (some false)) else (none)) else (none))
end
def spec_l4Fits.f (k : Nat) (a0 : Int) (l1 : List Int) (l2 : List Bool) : Option (Bool) := spec_l4Fits.l0 k a0 l1 l2 (([] : List (List Int))) (([] : List Int)) 0
set_option maxHeartbeats 8000000 in
set_option maxRecDepth 100000 in
theorem spec_l4Fits.calls (k : Nat) (a0 : Int) (A1 : Option Addr) (c1 : Nat) (l1 : List Int) (A2 : Option Addr) (c2 : Nat) (l2 : List Bool) (r : Bool) (w : World) (hr1 : Kd.C (Kd.int .i64) w A1 l1.length l1) (hc1 : l1.length ≤ c1) (hr2 : Kd.C Kd.bool w A2 l2.length l2) (hc2 : l2.length ≤ c2) (h : spec_l4Fits.f k a0 l1 l2 = some r) :
  Calls Try.prog 86 #[.int .i64 a0, .slice A1 l1.length c1, .slice A2 l2.length c2] w fun e w' => e = .returned (.bool r) ∧ Below w.heap.size w w' := by
 have HR1 := Aside0.mk hr1
 have HC1 := Aside0.mk hc1
 clear hr1 hc1
 have HR2 := Aside0.mk hr2
 have HC2 := Aside0.mk hc2
 clear hr2 hc2
 have HB := Aside0.mk (Below.refl w.heap.size w)
 unfold spec_l4Fits.f at h
 have H := h
 clear h
 obtain ⟨y502, hy502⟩ : ∃ y_ : List (List Int), y_ = (([] : List (List Int))) := ⟨_, rfl⟩
 replace H : (spec_l4Fits.l0 k a0 l1 l2 y502 (([] : List Int)) 0) = some r := yZZ_ hy502 H
 have Ny502 := Aside0.mk hy502
 clear hy502
 obtain ⟨y505, hy505⟩ : ∃ y_ : List Int, y_ = (([] : List Int)) := ⟨_, rfl⟩
 replace H : (spec_l4Fits.l0 k a0 l1 l2 y502 y505 0) = some r := yZZ_ hy505 H
 have Ny505 := Aside0.mk hy505
 clear hy505
 have H' := Aside0.mk H
 clear H
 go_enter Try.func86, Try.ntmps86
 go_wp2_with (first | ((with_reducible refine gate_dst (N := 15) rfl ?_); refine Kd.N_lit (Kd.slice 3 (Kd.int .i64)) _ 28 ?hg (N' := 15) ?hd (xs := ([] : List (List Int))) (inner := []) (ok := (fun _ => True)) (okp := (fun _ => True)) ?hr ?hp (fun _ hk => hk) ((show ∀ k_, w.heap.size ≤ k_ → (fun _ => True) k_ from fun k_ hk => trivial) _ (Nat.le_refl _)) (Below.refl _ _) (Nat.le_refl _) (by simp) ?_; (case hd => rfl); (case hg => rfl); (case hr => first | (go_simp; done) | (go_simp; rfl)); (case hp => exact (Reps.none _ _)); intro v503 w4 ho5 hb hg_ hnew_; clear hg_ hnew_; (first | rw [← Ny502.out] at ho5 | (simp only [Int.reduceToNat] at ho5; rw [← Ny502.out] at ho5)); have HO504 := Aside0.mk (Kd.N_lower ho5 (below_size z14_0)); replace HB := Aside0.mk (below_step z14_0 hb); clear hb ho5) | ((with_reducible refine gate_dst (N := 16) rfl ?_); refine Kd.R_lit (Kd.int .i64) _ 3 ?hg (N := 16) ?hd (xs := ([] : List Int)) (inner := []) (ok := fun _ => True) (okp := fun _ => True) ?hr ?hp (fun _ hk => hk) trivial (Below.refl _ _) (Nat.le_refl _) (by simp) ?_; (case hd => rfl); (case hg => rfl); (case hr => first | (go_simp; done) | (go_simp; rfl)); (case hp => exact (Reps.none _ _)); intro v506 w6 ho7 hb hg_ hnew_; clear hg_ hnew_; (first | rw [← Ny505.out] at ho7 | (simp only [Int.reduceToNat] at ho7; rw [← Ny505.out] at ho7)); replace HO504 := Aside0.mk (Kd.N_elder' z14_8 (Kd.R_base ho7) hb); have HO507 := Aside0.mk (Kd.R_lower ho7 (below_size z14_0)); replace HB := Aside0.mk (below_step z14_0 hb); clear hb ho7))
 repeat (go_quiet (first | ((with_reducible refine gate_dst (N := 15) rfl ?_); refine Kd.N_lit (Kd.slice 3 (Kd.int .i64)) _ 28 ?hg (N' := 15) ?hd (xs := ([] : List (List Int))) (inner := []) (ok := (fun _ => True)) (okp := (fun _ => True)) ?hr ?hp (fun _ hk => hk) ((show ∀ k_, w.heap.size ≤ k_ → (fun _ => True) k_ from fun k_ hk => trivial) _ (Nat.le_refl _)) (Below.refl _ _) (Nat.le_refl _) (by simp) ?_; (case hd => rfl); (case hg => rfl); (case hr => first | (go_simp; done) | (go_simp; rfl)); (case hp => exact (Reps.none _ _)); intro v503 w4 ho5 hb hg_ hnew_; clear hg_ hnew_; (first | rw [← Ny502.out] at ho5 | (simp only [Int.reduceToNat] at ho5; rw [← Ny502.out] at ho5)); have HO504 := Aside0.mk (Kd.N_lower ho5 (below_size z14_0)); replace HB := Aside0.mk (below_step z14_0 hb); clear hb ho5) | ((with_reducible refine gate_dst (N := 16) rfl ?_); refine Kd.R_lit (Kd.int .i64) _ 3 ?hg (N := 16) ?hd (xs := ([] : List Int)) (inner := []) (ok := fun _ => True) (okp := fun _ => True) ?hr ?hp (fun _ hk => hk) trivial (Below.refl _ _) (Nat.le_refl _) (by simp) ?_; (case hd => rfl); (case hg => rfl); (case hr => first | (go_simp; done) | (go_simp; rfl)); (case hp => exact (Reps.none _ _)); intro v506 w6 ho7 hb hg_ hnew_; clear hg_ hnew_; (first | rw [← Ny505.out] at ho7 | (simp only [Int.reduceToNat] at ho7; rw [← Ny505.out] at ho7)); replace HO504 := Aside0.mk (Kd.N_elder' z14_8 (Kd.R_base ho7) hb); have HO507 := Aside0.mk (Kd.R_lower ho7 (below_size z14_0)); replace HB := Aside0.mk (below_step z14_0 hb); clear hb ho7)); try go_wp2_with (first | ((with_reducible refine gate_dst (N := 15) rfl ?_); refine Kd.N_lit (Kd.slice 3 (Kd.int .i64)) _ 28 ?hg (N' := 15) ?hd (xs := ([] : List (List Int))) (inner := []) (ok := (fun _ => True)) (okp := (fun _ => True)) ?hr ?hp (fun _ hk => hk) ((show ∀ k_, w.heap.size ≤ k_ → (fun _ => True) k_ from fun k_ hk => trivial) _ (Nat.le_refl _)) (Below.refl _ _) (Nat.le_refl _) (by simp) ?_; (case hd => rfl); (case hg => rfl); (case hr => first | (go_simp; done) | (go_simp; rfl)); (case hp => exact (Reps.none _ _)); intro v503 w4 ho5 hb hg_ hnew_; clear hg_ hnew_; (first | rw [← Ny502.out] at ho5 | (simp only [Int.reduceToNat] at ho5; rw [← Ny502.out] at ho5)); have HO504 := Aside0.mk (Kd.N_lower ho5 (below_size z14_0)); replace HB := Aside0.mk (below_step z14_0 hb); clear hb ho5) | ((with_reducible refine gate_dst (N := 16) rfl ?_); refine Kd.R_lit (Kd.int .i64) _ 3 ?hg (N := 16) ?hd (xs := ([] : List Int)) (inner := []) (ok := fun _ => True) (okp := fun _ => True) ?hr ?hp (fun _ hk => hk) trivial (Below.refl _ _) (Nat.le_refl _) (by simp) ?_; (case hd => rfl); (case hg => rfl); (case hr => first | (go_simp; done) | (go_simp; rfl)); (case hp => exact (Reps.none _ _)); intro v506 w6 ho7 hb hg_ hnew_; clear hg_ hnew_; (first | rw [← Ny505.out] at ho7 | (simp only [Int.reduceToNat] at ho7; rw [← Ny505.out] at ho7)); replace HO504 := Aside0.mk (Kd.N_elder' z14_8 (Kd.R_base ho7) hb); have HO507 := Aside0.mk (Kd.R_lower ho7 (below_size z14_0)); replace HB := Aside0.mk (below_step z14_0 hb); clear hb ho7)))
 go_loopg [7, 8, 9] k (fun kq v7 v8 v9 w' => ∃ (x7_1 : List (List Int)) (x8_1 : List Int) (x9_1 : Int), v9 = .int .i64 x9_1 ∧ Aside0 (spec_l4Fits.l0 kq a0 l1 l2 x7_1 x8_1 x9_1 = some r) ∧ Aside0 (kq ≤ k) ∧ Aside0 (Kd.N (Kd.slice 3 (Kd.int .i64)) 28 w' w.heap.size (fun k_ => some k_ ≠ (v8 : Value).ownBlock) v7 x7_1) ∧ Aside0 (Kd.R (Kd.int .i64) 3 w' w.heap.size (fun _ => True) v8 x8_1) ∧ Aside0 (Below w.heap.size w w'))
 case atStart => exact ⟨(y502), (y505), (0), z14_6, H', ⟨Nat.le_refl _⟩, ⟨by (with_reducible repeat (first | apply Kd.N_alloc | apply Kd.N_drewN | apply Kd.N_drew)); exact Kd.N_mono HO504.out (fun _ hk => hk.2)⟩, ⟨by (with_reducible repeat (first | apply Kd.R_alloc | apply Kd.R_drewN | apply Kd.R_drew)); exact HO507.out⟩, ⟨z14_0⟩⟩
 case round =>
  clear H'
  try clear c1
  try clear c2
  obtain ⟨x7_1, x8_1, x9_1, rfl, HA, HK1, HO_7, HO_8, HB⟩ := hrel
  cases gk with
  | zero => exact absurd HA.out (by simp [spec_l4Fits.l0])
  | succ k1 =>
   have H := HA.out
   clear HA; simp only [spec_l4Fits.l0] at H
   by_cases c8 : x9_1 < 8
   ·rw [if_pos c8] at H
    have c8b0 : decide (x9_1 < 8) = true := decide_eq_true c8; clear c8; obtain ⟨c9, H⟩ := ifP H; have c9b0 : decide (0 ≤ x9_1) = true := decide_eq_true c9; clear c9; obtain ⟨c10, H⟩ := ifP H; have c10b0 : decide (x9_1 < (l2.length : Int)) = true := decide_eq_true c10; clear c10
    obtain ⟨bq11, hbq11⟩ : ∃ b_ : Bool, b_ = (rdOf false l2 x9_1) := ⟨_, rfl⟩
    replace H : (if bq11 = true then ((spec_l4Row.f a0 x9_1).bind fun t509 => ((spec_l3Has.f x7_1 t509).bind fun t512 => (if t512 = true then ((spec_l3By.f k1 x7_1 t509).bind fun bt513 => (spec_l4Fits.l1 k1 a0 l1 l2 x7_1 x8_1 x9_1 bt513.1 0 0)) else (if x7_1.length < 5864062014805 then (if x9_1 < (l1.length : Int) then (if x8_1.length < 17592186044416 then (spec_l4Fits.l0 k1 a0 l1 l2 (x7_1 ++ [t509]) (x8_1 ++ [rd l1 x9_1]) (wrap64 (x9_1 + 1))) else (none)) else (none)) else (none))))) else (spec_l4Fits.l0 k1 a0 l1 l2 x7_1 x8_1 (wrap64 (x9_1 + 1)))) = some r := by rw [← hbq11] at H; exact H
    have Nbq11 := Aside0.mk hbq11
    clear hbq11
    by_cases c12 : bq11 = true
    ·subst c12
     rw [if_pos rfl] at H
     replace H := Option.bind_eq_some_iff.mp H
     obtain ⟨t509, A130, H⟩ := H
     have A13 := Aside0.mk A130
     clear A130
     replace H := Option.bind_eq_some_iff.mp H
     obtain ⟨t512, A140, H⟩ := H
     have A14 := Aside0.mk A140
     clear A140
     by_cases c15 : t512 = true
     ·subst c15
      rw [if_pos rfl] at H
      replace H := Option.bind_eq_some_iff.mp H
      obtain ⟨⟨t513, t514⟩, A160, H⟩ := H
      dsimp only at H
      have A16 := Aside0.mk A160
      clear A160
      have H' := Aside0.mk H
      clear H; have p508 : 0 ≤ (x9_1 : Int) := of_decide_eq_true z14_3; have q508 : x9_1 < (l2.length : Int) := of_decide_eq_true z14_3; obtain ⟨ad508, e508, hx508_0⟩ := Kd.at_bool HR2.out x9_1 p508 q508; (try rw [← Nbq11.out] at hx508_0); cases e508
      replace hx508_0 := (HB.out.cell (World.block_lt_of_cell? w _ hx508_0)).trans hx508_0
      replace p508 := eq_true p508
      replace q508 := eq_true q508
      go_wp2_with (first | (go_at_call 106; (with_reducible refine (spec_l4Row.calls a0 x9_1 t509 _ A13.out).mono ?_); rintro e w17 ⟨v510, rfl, ho0, hb⟩; have HO511 := Aside0.mk (Kd.V_lower (Kd.V_mono (ok' := fun k_ => some k_ ≠ (u7 : Value).ownBlock ∧ some k_ ≠ (u8 : Value).ownBlock) ho0 (fun k_ hk_ => ⟨(Kd.fresh' (Kd.N_lt z14_2) k_ hk_), (Kd.fresh' (Kd.R_lt z14_1) k_ hk_)⟩)) (below_size z14_0)); replace HO_7 := Aside0.mk (Kd.N_below z14_2 hb); replace HO_8 := Aside0.mk (Kd.R_below z14_1 hb); replace HB := Aside0.mk (below_step z14_0 hb); (try clear hb); (try clear ho0); obtain ⟨Ao18, co18, eo18⟩ := Kd.N_slice HO_7.out; subst eo18; obtain ⟨Ao19, co19, eo19⟩ := Kd.V_slice HO511.out; subst eo19) | (go_at_call 115; (with_reducible refine (spec_l3Has.calls _ _ x7_1 _ _ t509 true _ ?side1 ?side2 ?side3 ?side4 A14.out).mono ?_); (case side1 => exact cZ ((Kd.N_reads' HO_7.out).2.2)); (case side2 => exact (Kd.N_reads' HO_7.out).2.1); (case side3 => exact cZ ((Kd.V_reads' HO511.out).2.2)); (case side4 => exact (Kd.V_reads' HO511.out).2.1); rintro e w20 ⟨rfl, hb⟩; replace HO_7 := Aside0.mk (Kd.N_below z14_2 hb); replace HO_8 := Aside0.mk (Kd.R_below z14_1 hb); replace HO511 := Aside0.mk (Kd.V_below z14_4 hb); replace HB := Aside0.mk (below_step z14_0 hb); (try clear hb)) | (go_at_call 116; (with_reducible refine (spec_l3By.calls k1 _ _ x7_1 _ _ t509 t513 t514 _ ?side1 ?side2 ?side3 ?side4 A16.out).mono ?_); (case side1 => exact cZ ((Kd.N_reads' HO_7.out).2.2)); (case side2 => exact (Kd.N_reads' HO_7.out).2.1); (case side3 => exact cZ ((Kd.V_reads' HO511.out).2.2)); (case side4 => exact (Kd.V_reads' HO511.out).2.1); rintro e w21 ⟨v515, rfl, ho0, hb⟩; replace HO_7 := Aside0.mk (Kd.N_elder' z14_2 (Kd.R_base ho0) hb); replace HO511 := Aside0.mk (Kd.V_elder' z14_4 (Kd.R_base ho0) hb); have HO516 := Aside0.mk (Kd.R_lower (Kd.R_new' ho0 (Kd.R_lt z14_1)) (below_size z14_0)); replace HO_8 := Aside0.mk (Kd.R_elder' z14_1 (Kd.R_base ho0) hb); replace HB := Aside0.mk (below_step z14_0 hb); (try clear hb); (try clear ho0)))
      repeat (go_quiet (first | (go_at_call 106; (with_reducible refine (spec_l4Row.calls a0 x9_1 t509 _ A13.out).mono ?_); rintro e w17 ⟨v510, rfl, ho0, hb⟩; have HO511 := Aside0.mk (Kd.V_lower (Kd.V_mono (ok' := fun k_ => some k_ ≠ (u7 : Value).ownBlock ∧ some k_ ≠ (u8 : Value).ownBlock) ho0 (fun k_ hk_ => ⟨(Kd.fresh' (Kd.N_lt z14_2) k_ hk_), (Kd.fresh' (Kd.R_lt z14_1) k_ hk_)⟩)) (below_size z14_0)); replace HO_7 := Aside0.mk (Kd.N_below z14_2 hb); replace HO_8 := Aside0.mk (Kd.R_below z14_1 hb); replace HB := Aside0.mk (below_step z14_0 hb); (try clear hb); (try clear ho0); obtain ⟨Ao18, co18, eo18⟩ := Kd.N_slice HO_7.out; subst eo18; obtain ⟨Ao19, co19, eo19⟩ := Kd.V_slice HO511.out; subst eo19) | (go_at_call 115; (with_reducible refine (spec_l3Has.calls _ _ x7_1 _ _ t509 true _ ?side1 ?side2 ?side3 ?side4 A14.out).mono ?_); (case side1 => exact cZ ((Kd.N_reads' HO_7.out).2.2)); (case side2 => exact (Kd.N_reads' HO_7.out).2.1); (case side3 => exact cZ ((Kd.V_reads' HO511.out).2.2)); (case side4 => exact (Kd.V_reads' HO511.out).2.1); rintro e w20 ⟨rfl, hb⟩; replace HO_7 := Aside0.mk (Kd.N_below z14_2 hb); replace HO_8 := Aside0.mk (Kd.R_below z14_1 hb); replace HO511 := Aside0.mk (Kd.V_below z14_4 hb); replace HB := Aside0.mk (below_step z14_0 hb); (try clear hb)) | (go_at_call 116; (with_reducible refine (spec_l3By.calls k1 _ _ x7_1 _ _ t509 t513 t514 _ ?side1 ?side2 ?side3 ?side4 A16.out).mono ?_); (case side1 => exact cZ ((Kd.N_reads' HO_7.out).2.2)); (case side2 => exact (Kd.N_reads' HO_7.out).2.1); (case side3 => exact cZ ((Kd.V_reads' HO511.out).2.2)); (case side4 => exact (Kd.V_reads' HO511.out).2.1); rintro e w21 ⟨v515, rfl, ho0, hb⟩; replace HO_7 := Aside0.mk (Kd.N_elder' z14_2 (Kd.R_base ho0) hb); replace HO511 := Aside0.mk (Kd.V_elder' z14_4 (Kd.R_base ho0) hb); have HO516 := Aside0.mk (Kd.R_lower (Kd.R_new' ho0 (Kd.R_lt z14_1)) (below_size z14_0)); replace HO_8 := Aside0.mk (Kd.R_elder' z14_1 (Kd.R_base ho0) hb); replace HB := Aside0.mk (below_step z14_0 hb); (try clear hb); (try clear ho0))); try go_wp2_with (first | (go_at_call 106; (with_reducible refine (spec_l4Row.calls a0 x9_1 t509 _ A13.out).mono ?_); rintro e w17 ⟨v510, rfl, ho0, hb⟩; have HO511 := Aside0.mk (Kd.V_lower (Kd.V_mono (ok' := fun k_ => some k_ ≠ (u7 : Value).ownBlock ∧ some k_ ≠ (u8 : Value).ownBlock) ho0 (fun k_ hk_ => ⟨(Kd.fresh' (Kd.N_lt z14_2) k_ hk_), (Kd.fresh' (Kd.R_lt z14_1) k_ hk_)⟩)) (below_size z14_0)); replace HO_7 := Aside0.mk (Kd.N_below z14_2 hb); replace HO_8 := Aside0.mk (Kd.R_below z14_1 hb); replace HB := Aside0.mk (below_step z14_0 hb); (try clear hb); (try clear ho0); obtain ⟨Ao18, co18, eo18⟩ := Kd.N_slice HO_7.out; subst eo18; obtain ⟨Ao19, co19, eo19⟩ := Kd.V_slice HO511.out; subst eo19) | (go_at_call 115; (with_reducible refine (spec_l3Has.calls _ _ x7_1 _ _ t509 true _ ?side1 ?side2 ?side3 ?side4 A14.out).mono ?_); (case side1 => exact cZ ((Kd.N_reads' HO_7.out).2.2)); (case side2 => exact (Kd.N_reads' HO_7.out).2.1); (case side3 => exact cZ ((Kd.V_reads' HO511.out).2.2)); (case side4 => exact (Kd.V_reads' HO511.out).2.1); rintro e w20 ⟨rfl, hb⟩; replace HO_7 := Aside0.mk (Kd.N_below z14_2 hb); replace HO_8 := Aside0.mk (Kd.R_below z14_1 hb); replace HO511 := Aside0.mk (Kd.V_below z14_4 hb); replace HB := Aside0.mk (below_step z14_0 hb); (try clear hb)) | (go_at_call 116; (with_reducible refine (spec_l3By.calls k1 _ _ x7_1 _ _ t509 t513 t514 _ ?side1 ?side2 ?side3 ?side4 A16.out).mono ?_); (case side1 => exact cZ ((Kd.N_reads' HO_7.out).2.2)); (case side2 => exact (Kd.N_reads' HO_7.out).2.1); (case side3 => exact cZ ((Kd.V_reads' HO511.out).2.2)); (case side4 => exact (Kd.V_reads' HO511.out).2.1); rintro e w21 ⟨v515, rfl, ho0, hb⟩; replace HO_7 := Aside0.mk (Kd.N_elder' z14_2 (Kd.R_base ho0) hb); replace HO511 := Aside0.mk (Kd.V_elder' z14_4 (Kd.R_base ho0) hb); have HO516 := Aside0.mk (Kd.R_lower (Kd.R_new' ho0 (Kd.R_lt z14_1)) (below_size z14_0)); replace HO_8 := Aside0.mk (Kd.R_elder' z14_1 (Kd.R_base ho0) hb); replace HB := Aside0.mk (below_step z14_0 hb); (try clear hb); (try clear ho0))))
      go_loopg [13, 14] k1 (fun kq v13 v14 w' => ∃ (x13_2 : Int) (x14_2 : Int), v13 = .int .i64 x13_2 ∧ v14 = .int .i64 x14_2 ∧ Aside0 (spec_l4Fits.l1 kq a0 l1 l2 x7_1 x8_1 x9_1 t513 x13_2 x14_2 = some r) ∧ Aside0 (kq ≤ k1) ∧ Aside0 (Kd.N (Kd.slice 3 (Kd.int .i64)) 28 w' w.heap.size (fun k_ => some k_ ≠ (u8 : Value).ownBlock ∧ some k_ ≠ (v515 : Value).ownBlock) (.slice Ao18 x7_1.length co18) x7_1) ∧ Aside0 (Kd.R (Kd.int .i64) 3 w' w.heap.size (fun k_ => some k_ ≠ (v515 : Value).ownBlock) u8 x8_1) ∧ Aside0 (Kd.R (Kd.int .i64) 3 w' w.heap.size (fun k_ => some k_ ≠ (u8 : Value).ownBlock) v515 t513) ∧ Aside0 (Below w.heap.size w w'))
      case atStart => exact ⟨(0), (0), z14_6, z14_6, H', ⟨Nat.le_refl _⟩, ⟨z14_2⟩, ⟨by (with_reducible repeat (first | apply Kd.R_alloc | apply Kd.R_drewN | apply Kd.R_drew)); exact Kd.R_mono HO_8.out (fun _ hk => hk.2)⟩, ⟨by (with_reducible repeat (first | apply Kd.R_alloc | apply Kd.R_drewN | apply Kd.R_drew)); exact Kd.R_mono HO516.out (fun _ hk => hk.2)⟩, ⟨z14_0⟩⟩
      case round =>
       clear H'
       try clear c1
       try clear c2
       try clear c8
       try clear c8b0
       try clear c9
       try clear c9b0
       try clear c10
       try clear c10b0
       try clear c12
       try clear c15
       try clear hx508_0
       try clear p508
       try clear q508
       obtain ⟨x13_2, x14_2, rfl, rfl, HA, HK2, HO_7, HO_8, HO_11, HB⟩ := hrel
       cases gk with
       | zero => exact absurd HA.out (by simp [spec_l4Fits.l1])
       | succ k2 =>
        have H := HA.out
        clear HA; simp only [spec_l4Fits.l1] at H
        by_cases c22 : x14_2 < (t513.length : Int)
        ·rw [if_pos c22] at H
         have c22b0 : decide (x14_2 < (t513.length : Int)) = true := decide_eq_true c22; clear c22; obtain ⟨c23, H⟩ := ifP H; have c23b0 : decide (0 ≤ x14_2) = true := decide_eq_true c23; clear c23; obtain ⟨c24, H⟩ := ifP H; have c24b0 : decide (x14_2 < (x8_1.length : Int)) = true := decide_eq_true c24; clear c24
         have H' := Aside0.mk H
         clear H; obtain ⟨Ao25, co25, eo25⟩ := Kd.R_slice HO_11.out; subst eo25; have p517 : 0 ≤ (x14_2 : Int) := of_decide_eq_true z14_3; have q517 : x14_2 < (t513.length : Int) := of_decide_eq_true z14_3; obtain ⟨ad517, e517, hx517_0⟩ := Kd.at_int (Kd.R_reads' HO_11.out).2.2 x14_2 p517 q517; cases e517
         replace p517 := eq_true p517
         replace q517 := eq_true q517
         obtain ⟨Ao26, co26, eo26⟩ := Kd.R_slice HO_8.out; subst eo26; have p518 : 0 ≤ (x14_2 : Int) := of_decide_eq_true z14_3; have q518 : x14_2 < (x8_1.length : Int) := of_decide_eq_true z14_3; obtain ⟨ad518, e518, hx518_0⟩ := Kd.at_int (Kd.R_reads' HO_8.out).2.2 x14_2 p518 q518; cases e518
         replace p518 := eq_true p518
         replace q518 := eq_true q518
         go_wp2
         repeat (go_quiet (fail); try go_wp2)
         go_roundg k2
         case measure => have := HK1.out; have := HK2.out; omega
         case rel => exact ⟨(Int.tmod (wrap64 (x13_2 + (wrap64 ((rd t513 x14_2) * (rd x8_1 x14_2))))) 31), (wrap64 (x14_2 + 1)), z14_6, z14_6, H', ⟨by have := HK1.out; have := HK2.out; omega⟩, ⟨z14_2⟩, ⟨z14_1⟩, ⟨by (with_reducible repeat (first | apply Kd.R_alloc | apply Kd.R_drewN | apply Kd.R_drew)); exact HO_11.out⟩, ⟨z14_0⟩⟩
        ·rw [if_neg c22] at H
         have c22b0 : decide (x14_2 < (t513.length : Int)) = false := decide_eq_false c22; clear c22; obtain ⟨c27, H⟩ := ifP H; have c27b0 : decide (0 ≤ x9_1) = true := decide_eq_true c27; clear c27; obtain ⟨c28, H⟩ := ifP H; have c28b0 : decide (x9_1 < (l1.length : Int)) = true := decide_eq_true c28; clear c28
         by_cases c29 : x13_2 = (rd l1 x9_1)
         ·rw [if_pos c29] at H
          have c29b0 : (x13_2 == (rd l1 x9_1)) = true := beq_iff_eq.mpr c29
          have c29b1 : (x13_2 != (rd l1 x9_1)) = false := bne_eq_false_iff_eq.mpr c29
          clear c29
          have H' := Aside0.mk H
          clear H; obtain ⟨Ao30, co30, eo30⟩ := Kd.R_slice HO_11.out; subst eo30; have p519 : 0 ≤ (x9_1 : Int) := of_decide_eq_true z14_3; have q519 : x9_1 < (l1.length : Int) := of_decide_eq_true z14_3; obtain ⟨ad519, e519, hx519_0⟩ := Kd.at_int HR1.out x9_1 p519 q519; cases e519
          replace hx519_0 := (HB.out.cell (World.block_lt_of_cell? w _ hx519_0)).trans hx519_0
          replace p519 := eq_true p519
          replace q519 := eq_true q519
          go_wp2
          repeat (go_quiet (fail); try go_wp2)
          go_roundg k2
          case measure => have := HK1.out; have := HK2.out; omega
          case rel => exact ⟨(x7_1), (x8_1), (wrap64 (x9_1 + 1)), z14_6, H', ⟨by have := HK1.out; have := HK2.out; omega⟩, ⟨by (with_reducible repeat (first | apply Kd.N_alloc | apply Kd.N_drewN | apply Kd.N_drew)); exact Kd.N_mono HO_7.out (fun _ hk => hk.1)⟩, ⟨by (with_reducible repeat (first | apply Kd.R_alloc | apply Kd.R_drewN | apply Kd.R_drew)); exact Kd.R_mono HO_8.out (fun _ hk => trivial)⟩, ⟨z14_0⟩⟩
         ·rw [if_neg c29] at H
          have c29b0 : (x13_2 == (rd l1 x9_1)) = false := beq_eq_false_iff_ne.mpr c29
          have c29b1 : (x13_2 != (rd l1 x9_1)) = true := bne_iff_ne.mpr c29
          obtain rfl := Option.some.inj H
          obtain ⟨Ao31, co31, eo31⟩ := Kd.R_slice HO_11.out; subst eo31; have p519 : 0 ≤ (x9_1 : Int) := of_decide_eq_true z14_3; have q519 : x9_1 < (l1.length : Int) := of_decide_eq_true z14_3; obtain ⟨ad519, e519, hx519_0⟩ := Kd.at_int HR1.out x9_1 p519 q519; cases e519
          replace hx519_0 := (HB.out.cell (World.block_lt_of_cell? w _ hx519_0)).trans hx519_0
          replace p519 := eq_true p519
          replace q519 := eq_true q519
          go_wp2
          repeat (go_quiet (fail); try go_wp2)
          go_ret; exact ⟨by first | rfl | (simp [errW_none, errW_some] <;> rfl) | (simp [*, errW_none, errW_some] <;> rfl), z14_0⟩
     ·replace c15 := Bool.eq_false_iff.mpr c15
      subst c15; rw [if_neg (show ¬ (false = true) by decide)] at H; obtain ⟨c32, H⟩ := ifP H
      have LMc32 := Aside0.mk c32
      clear c32
      obtain ⟨y520, hy520⟩ : ∃ y_ : List (List Int), y_ = (x7_1 ++ [t509]) := ⟨_, rfl⟩
      replace H : (if x9_1 < (l1.length : Int) then (if x8_1.length < 17592186044416 then (spec_l4Fits.l0 k1 a0 l1 l2 y520 (x8_1 ++ [rd l1 x9_1]) (wrap64 (x9_1 + 1))) else (none)) else (none)) = some r := yZZ_ hy520 H
      have Ny520 := Aside0.mk hy520
      clear hy520; obtain ⟨c33, H⟩ := ifP H; have c33b0 : decide (x9_1 < (l1.length : Int)) = true := decide_eq_true c33; clear c33; obtain ⟨c34, H⟩ := ifP H
      have LMc34 := Aside0.mk c34
      clear c34
      obtain ⟨y524, hy524⟩ : ∃ y_ : List Int, y_ = (x8_1 ++ [rd l1 x9_1]) := ⟨_, rfl⟩
      replace H : (spec_l4Fits.l0 k1 a0 l1 l2 y520 y524 (wrap64 (x9_1 + 1))) = some r := yZZ_ hy524 H
      have Ny524 := Aside0.mk hy524
      clear hy524
      have H' := Aside0.mk H
      clear H; have p508 : 0 ≤ (x9_1 : Int) := of_decide_eq_true z14_3; have q508 : x9_1 < (l2.length : Int) := of_decide_eq_true z14_3; obtain ⟨ad508, e508, hx508_0⟩ := Kd.at_bool HR2.out x9_1 p508 q508; (try rw [← Nbq11.out] at hx508_0); cases e508
      replace hx508_0 := (HB.out.cell (World.block_lt_of_cell? w _ hx508_0)).trans hx508_0
      replace p508 := eq_true p508
      replace q508 := eq_true q508
      go_wp2_with (first | (go_at_call 106; (with_reducible refine (spec_l4Row.calls a0 x9_1 t509 _ A13.out).mono ?_); rintro e w35 ⟨v510, rfl, ho0, hb⟩; have HO511 := Aside0.mk (Kd.V_lower (Kd.V_mono (ok' := fun k_ => some k_ ≠ (u7 : Value).ownBlock ∧ some k_ ≠ (u8 : Value).ownBlock) ho0 (fun k_ hk_ => ⟨(Kd.fresh' (Kd.N_lt z14_2) k_ hk_), (Kd.fresh' (Kd.R_lt z14_1) k_ hk_)⟩)) (below_size z14_0)); replace HO_7 := Aside0.mk (Kd.N_below z14_2 hb); replace HO_8 := Aside0.mk (Kd.R_below z14_1 hb); replace HB := Aside0.mk (below_step z14_0 hb); (try clear hb); (try clear ho0); obtain ⟨Ao36, co36, eo36⟩ := Kd.N_slice HO_7.out; subst eo36; obtain ⟨Ao37, co37, eo37⟩ := Kd.V_slice HO511.out; subst eo37) | (go_at_call 115; (with_reducible refine (spec_l3Has.calls _ _ x7_1 _ _ t509 false _ ?side1 ?side2 ?side3 ?side4 A14.out).mono ?_); (case side1 => exact cZ ((Kd.N_reads' HO_7.out).2.2)); (case side2 => exact (Kd.N_reads' HO_7.out).2.1); (case side3 => exact cZ ((Kd.V_reads' HO511.out).2.2)); (case side4 => exact (Kd.V_reads' HO511.out).2.1); rintro e w38 ⟨rfl, hb⟩; replace HO_7 := Aside0.mk (Kd.N_below z14_2 hb); replace HO_8 := Aside0.mk (Kd.R_below z14_1 hb); replace HO511 := Aside0.mk (Kd.V_below z14_4 hb); replace HB := Aside0.mk (below_step z14_0 hb); (try clear hb)) | ((with_reducible refine gate_builtin (b := .append) (xs := #[.tmp 62, .tmp 64]) rfl ?_); at_builtin; refine Kd.N_append (Kd.slice 3 (Kd.int .i64)) (w0 := w) w.heap.size rfl (.tmp 62) (.tmp 64) 23 28 (.slice none 0 0) 24 rfl Try.underlying23 info28 rfl (by decide) (by omega) (.slice Ao36 x7_1.length co36) x7_1 t509 [.slice Ao37 t509.length co37] (fun k_ => some k_ ≠ (u8 : Value).ownBlock) (fun k_ => ((fun k_ => some k_ ≠ (u8 : Value).ownBlock)) k_ ∧ some k_ ≠ (.slice Ao36 x7_1.length co36 : Value).ownBlock) rfl rfl ?aP (fun _ hk => hk) ?aF ?aO ?aB ?aS ?aL ?_; (case aP => exact (Kd.FK_slice_mk (Kd.V_reads' (Kd.V_mono (ok' := (fun k_ => ((fun k_ => some k_ ≠ (u8 : Value).ownBlock)) k_ ∧ some k_ ≠ (.slice Ao36 x7_1.length co36 : Value).ownBlock)) (HO511.out) (fun k_ hk => ⟨hk.2, hk.1⟩))).2.1 (Kd.V_F (Kd.V_mono (ok' := (fun k_ => ((fun k_ => some k_ ≠ (u8 : Value).ownBlock)) k_ ∧ some k_ ≠ (.slice Ao36 x7_1.length co36 : Value).ownBlock)) (HO511.out) (fun k_ hk => ⟨hk.2, hk.1⟩))))); (case aB => exact z14_0); (case aF => exact (fun k_ hk => Kd.fresh' (Kd.R_lt z14_1) k_ hk)); (case aO => exact z14_2); (case aS => exact (below_size z14_0)); (case aL => have := LMc32.out; omega); intro v521 w39 ho hb hg hat; rw [← Ny520.out] at ho; have n0_ := Aside0.mk (Kd.R_over' z14_1 (Kd.N_typed z14_2) (by decide) hg); have n1_ := Aside0.mk (Kd.V_afterv (ok := (fun k_ => some k_ ≠ (u8 : Value).ownBlock)) z14_5 hg hat); have n2_ := Aside0.mk (hb); have n3_ := Aside0.mk (ho); clear HO_8; clear HO511; clear HB; clear HO_7; have HO_8 := n0_; have HO511 := n1_; have HB := n2_; have HO522 := n3_; clear n0_ n1_ n2_ n3_; clear ho hb hg hat; have p523 : 0 ≤ (x9_1 : Int) := of_decide_eq_true z14_3; have q523 : x9_1 < (l1.length : Int) := of_decide_eq_true z14_3; obtain ⟨ad523, e523, hx523_0⟩ := Kd.at_int HR1.out x9_1 p523 q523; cases e523; replace hx523_0 := (HB.out.cell (World.block_lt_of_cell? w _ hx523_0)).trans hx523_0; replace p523 := eq_true p523; replace q523 := eq_true q523) | ((with_reducible refine gate_builtin (b := .append) (xs := #[.tmp 66, .tmp 71]) rfl ?_); at_builtin; refine Kd.R_append (Kd.int .i64) (w0 := w) w.heap.size rfl (.tmp 66) (.tmp 71) 28 3 (.int .i64 0) 8 rfl Try.underlying28 info3 rfl (by decide) (by omega) u8 x8_1 (rd l1 x9_1) [.int .i64 (rd l1 x9_1)] (fun _ => True) (fun _ => False) rfl rfl ?aP (fun _ hk => hk.elim) ?aF ?aO ?aB ?aS ?aL ?_; (case aP => exact rfl); (case aB => exact z14_0); (case aF => exact (fun _ _ => trivial)); (case aO => exact z14_1); (case aS => exact (below_size z14_0)); (case aL => have := LMc34.out; omega); intro v525 w40 ho hb hg hat; rw [← Ny524.out] at ho; have n0_ := Aside0.mk (Kd.V_afterv (ok := (fun k_ => some k_ ≠ (v521 : Value).ownBlock)) z14_5 hg hat); have n1_ := Aside0.mk (Kd.N_afterv (ok := (fun _ => True)) z14_7 hg hat); have n2_ := Aside0.mk (hb); have n3_ := Aside0.mk (ho); clear HO511; clear HO522; clear HB; clear HO_8; have HO511 := n0_; have HO522 := n1_; have HB := n2_; have HO526 := n3_; clear n0_ n1_ n2_ n3_; clear ho hb hg hat))
      repeat (go_quiet (first | (go_at_call 106; (with_reducible refine (spec_l4Row.calls a0 x9_1 t509 _ A13.out).mono ?_); rintro e w35 ⟨v510, rfl, ho0, hb⟩; have HO511 := Aside0.mk (Kd.V_lower (Kd.V_mono (ok' := fun k_ => some k_ ≠ (u7 : Value).ownBlock ∧ some k_ ≠ (u8 : Value).ownBlock) ho0 (fun k_ hk_ => ⟨(Kd.fresh' (Kd.N_lt z14_2) k_ hk_), (Kd.fresh' (Kd.R_lt z14_1) k_ hk_)⟩)) (below_size z14_0)); replace HO_7 := Aside0.mk (Kd.N_below z14_2 hb); replace HO_8 := Aside0.mk (Kd.R_below z14_1 hb); replace HB := Aside0.mk (below_step z14_0 hb); (try clear hb); (try clear ho0); obtain ⟨Ao36, co36, eo36⟩ := Kd.N_slice HO_7.out; subst eo36; obtain ⟨Ao37, co37, eo37⟩ := Kd.V_slice HO511.out; subst eo37) | (go_at_call 115; (with_reducible refine (spec_l3Has.calls _ _ x7_1 _ _ t509 false _ ?side1 ?side2 ?side3 ?side4 A14.out).mono ?_); (case side1 => exact cZ ((Kd.N_reads' HO_7.out).2.2)); (case side2 => exact (Kd.N_reads' HO_7.out).2.1); (case side3 => exact cZ ((Kd.V_reads' HO511.out).2.2)); (case side4 => exact (Kd.V_reads' HO511.out).2.1); rintro e w38 ⟨rfl, hb⟩; replace HO_7 := Aside0.mk (Kd.N_below z14_2 hb); replace HO_8 := Aside0.mk (Kd.R_below z14_1 hb); replace HO511 := Aside0.mk (Kd.V_below z14_4 hb); replace HB := Aside0.mk (below_step z14_0 hb); (try clear hb)) | ((with_reducible refine gate_builtin (b := .append) (xs := #[.tmp 62, .tmp 64]) rfl ?_); at_builtin; refine Kd.N_append (Kd.slice 3 (Kd.int .i64)) (w0 := w) w.heap.size rfl (.tmp 62) (.tmp 64) 23 28 (.slice none 0 0) 24 rfl Try.underlying23 info28 rfl (by decide) (by omega) (.slice Ao36 x7_1.length co36) x7_1 t509 [.slice Ao37 t509.length co37] (fun k_ => some k_ ≠ (u8 : Value).ownBlock) (fun k_ => ((fun k_ => some k_ ≠ (u8 : Value).ownBlock)) k_ ∧ some k_ ≠ (.slice Ao36 x7_1.length co36 : Value).ownBlock) rfl rfl ?aP (fun _ hk => hk) ?aF ?aO ?aB ?aS ?aL ?_; (case aP => exact (Kd.FK_slice_mk (Kd.V_reads' (Kd.V_mono (ok' := (fun k_ => ((fun k_ => some k_ ≠ (u8 : Value).ownBlock)) k_ ∧ some k_ ≠ (.slice Ao36 x7_1.length co36 : Value).ownBlock)) (HO511.out) (fun k_ hk => ⟨hk.2, hk.1⟩))).2.1 (Kd.V_F (Kd.V_mono (ok' := (fun k_ => ((fun k_ => some k_ ≠ (u8 : Value).ownBlock)) k_ ∧ some k_ ≠ (.slice Ao36 x7_1.length co36 : Value).ownBlock)) (HO511.out) (fun k_ hk => ⟨hk.2, hk.1⟩))))); (case aB => exact z14_0); (case aF => exact (fun k_ hk => Kd.fresh' (Kd.R_lt z14_1) k_ hk)); (case aO => exact z14_2); (case aS => exact (below_size z14_0)); (case aL => have := LMc32.out; omega); intro v521 w39 ho hb hg hat; rw [← Ny520.out] at ho; have n0_ := Aside0.mk (Kd.R_over' z14_1 (Kd.N_typed z14_2) (by decide) hg); have n1_ := Aside0.mk (Kd.V_afterv (ok := (fun k_ => some k_ ≠ (u8 : Value).ownBlock)) z14_5 hg hat); have n2_ := Aside0.mk (hb); have n3_ := Aside0.mk (ho); clear HO_8; clear HO511; clear HB; clear HO_7; have HO_8 := n0_; have HO511 := n1_; have HB := n2_; have HO522 := n3_; clear n0_ n1_ n2_ n3_; clear ho hb hg hat; have p523 : 0 ≤ (x9_1 : Int) := of_decide_eq_true z14_3; have q523 : x9_1 < (l1.length : Int) := of_decide_eq_true z14_3; obtain ⟨ad523, e523, hx523_0⟩ := Kd.at_int HR1.out x9_1 p523 q523; cases e523; replace hx523_0 := (HB.out.cell (World.block_lt_of_cell? w _ hx523_0)).trans hx523_0; replace p523 := eq_true p523; replace q523 := eq_true q523) | ((with_reducible refine gate_builtin (b := .append) (xs := #[.tmp 66, .tmp 71]) rfl ?_); at_builtin; refine Kd.R_append (Kd.int .i64) (w0 := w) w.heap.size rfl (.tmp 66) (.tmp 71) 28 3 (.int .i64 0) 8 rfl Try.underlying28 info3 rfl (by decide) (by omega) u8 x8_1 (rd l1 x9_1) [.int .i64 (rd l1 x9_1)] (fun _ => True) (fun _ => False) rfl rfl ?aP (fun _ hk => hk.elim) ?aF ?aO ?aB ?aS ?aL ?_; (case aP => exact rfl); (case aB => exact z14_0); (case aF => exact (fun _ _ => trivial)); (case aO => exact z14_1); (case aS => exact (below_size z14_0)); (case aL => have := LMc34.out; omega); intro v525 w40 ho hb hg hat; rw [← Ny524.out] at ho; have n0_ := Aside0.mk (Kd.V_afterv (ok := (fun k_ => some k_ ≠ (v521 : Value).ownBlock)) z14_5 hg hat); have n1_ := Aside0.mk (Kd.N_afterv (ok := (fun _ => True)) z14_7 hg hat); have n2_ := Aside0.mk (hb); have n3_ := Aside0.mk (ho); clear HO511; clear HO522; clear HB; clear HO_8; have HO511 := n0_; have HO522 := n1_; have HB := n2_; have HO526 := n3_; clear n0_ n1_ n2_ n3_; clear ho hb hg hat)); try go_wp2_with (first | (go_at_call 106; (with_reducible refine (spec_l4Row.calls a0 x9_1 t509 _ A13.out).mono ?_); rintro e w35 ⟨v510, rfl, ho0, hb⟩; have HO511 := Aside0.mk (Kd.V_lower (Kd.V_mono (ok' := fun k_ => some k_ ≠ (u7 : Value).ownBlock ∧ some k_ ≠ (u8 : Value).ownBlock) ho0 (fun k_ hk_ => ⟨(Kd.fresh' (Kd.N_lt z14_2) k_ hk_), (Kd.fresh' (Kd.R_lt z14_1) k_ hk_)⟩)) (below_size z14_0)); replace HO_7 := Aside0.mk (Kd.N_below z14_2 hb); replace HO_8 := Aside0.mk (Kd.R_below z14_1 hb); replace HB := Aside0.mk (below_step z14_0 hb); (try clear hb); (try clear ho0); obtain ⟨Ao36, co36, eo36⟩ := Kd.N_slice HO_7.out; subst eo36; obtain ⟨Ao37, co37, eo37⟩ := Kd.V_slice HO511.out; subst eo37) | (go_at_call 115; (with_reducible refine (spec_l3Has.calls _ _ x7_1 _ _ t509 false _ ?side1 ?side2 ?side3 ?side4 A14.out).mono ?_); (case side1 => exact cZ ((Kd.N_reads' HO_7.out).2.2)); (case side2 => exact (Kd.N_reads' HO_7.out).2.1); (case side3 => exact cZ ((Kd.V_reads' HO511.out).2.2)); (case side4 => exact (Kd.V_reads' HO511.out).2.1); rintro e w38 ⟨rfl, hb⟩; replace HO_7 := Aside0.mk (Kd.N_below z14_2 hb); replace HO_8 := Aside0.mk (Kd.R_below z14_1 hb); replace HO511 := Aside0.mk (Kd.V_below z14_4 hb); replace HB := Aside0.mk (below_step z14_0 hb); (try clear hb)) | ((with_reducible refine gate_builtin (b := .append) (xs := #[.tmp 62, .tmp 64]) rfl ?_); at_builtin; refine Kd.N_append (Kd.slice 3 (Kd.int .i64)) (w0 := w) w.heap.size rfl (.tmp 62) (.tmp 64) 23 28 (.slice none 0 0) 24 rfl Try.underlying23 info28 rfl (by decide) (by omega) (.slice Ao36 x7_1.length co36) x7_1 t509 [.slice Ao37 t509.length co37] (fun k_ => some k_ ≠ (u8 : Value).ownBlock) (fun k_ => ((fun k_ => some k_ ≠ (u8 : Value).ownBlock)) k_ ∧ some k_ ≠ (.slice Ao36 x7_1.length co36 : Value).ownBlock) rfl rfl ?aP (fun _ hk => hk) ?aF ?aO ?aB ?aS ?aL ?_; (case aP => exact (Kd.FK_slice_mk (Kd.V_reads' (Kd.V_mono (ok' := (fun k_ => ((fun k_ => some k_ ≠ (u8 : Value).ownBlock)) k_ ∧ some k_ ≠ (.slice Ao36 x7_1.length co36 : Value).ownBlock)) (HO511.out) (fun k_ hk => ⟨hk.2, hk.1⟩))).2.1 (Kd.V_F (Kd.V_mono (ok' := (fun k_ => ((fun k_ => some k_ ≠ (u8 : Value).ownBlock)) k_ ∧ some k_ ≠ (.slice Ao36 x7_1.length co36 : Value).ownBlock)) (HO511.out) (fun k_ hk => ⟨hk.2, hk.1⟩))))); (case aB => exact z14_0); (case aF => exact (fun k_ hk => Kd.fresh' (Kd.R_lt z14_1) k_ hk)); (case aO => exact z14_2); (case aS => exact (below_size z14_0)); (case aL => have := LMc32.out; omega); intro v521 w39 ho hb hg hat; rw [← Ny520.out] at ho; have n0_ := Aside0.mk (Kd.R_over' z14_1 (Kd.N_typed z14_2) (by decide) hg); have n1_ := Aside0.mk (Kd.V_afterv (ok := (fun k_ => some k_ ≠ (u8 : Value).ownBlock)) z14_5 hg hat); have n2_ := Aside0.mk (hb); have n3_ := Aside0.mk (ho); clear HO_8; clear HO511; clear HB; clear HO_7; have HO_8 := n0_; have HO511 := n1_; have HB := n2_; have HO522 := n3_; clear n0_ n1_ n2_ n3_; clear ho hb hg hat; have p523 : 0 ≤ (x9_1 : Int) := of_decide_eq_true z14_3; have q523 : x9_1 < (l1.length : Int) := of_decide_eq_true z14_3; obtain ⟨ad523, e523, hx523_0⟩ := Kd.at_int HR1.out x9_1 p523 q523; cases e523; replace hx523_0 := (HB.out.cell (World.block_lt_of_cell? w _ hx523_0)).trans hx523_0; replace p523 := eq_true p523; replace q523 := eq_true q523) | ((with_reducible refine gate_builtin (b := .append) (xs := #[.tmp 66, .tmp 71]) rfl ?_); at_builtin; refine Kd.R_append (Kd.int .i64) (w0 := w) w.heap.size rfl (.tmp 66) (.tmp 71) 28 3 (.int .i64 0) 8 rfl Try.underlying28 info3 rfl (by decide) (by omega) u8 x8_1 (rd l1 x9_1) [.int .i64 (rd l1 x9_1)] (fun _ => True) (fun _ => False) rfl rfl ?aP (fun _ hk => hk.elim) ?aF ?aO ?aB ?aS ?aL ?_; (case aP => exact rfl); (case aB => exact z14_0); (case aF => exact (fun _ _ => trivial)); (case aO => exact z14_1); (case aS => exact (below_size z14_0)); (case aL => have := LMc34.out; omega); intro v525 w40 ho hb hg hat; rw [← Ny524.out] at ho; have n0_ := Aside0.mk (Kd.V_afterv (ok := (fun k_ => some k_ ≠ (v521 : Value).ownBlock)) z14_5 hg hat); have n1_ := Aside0.mk (Kd.N_afterv (ok := (fun _ => True)) z14_7 hg hat); have n2_ := Aside0.mk (hb); have n3_ := Aside0.mk (ho); clear HO511; clear HO522; clear HB; clear HO_8; have HO511 := n0_; have HO522 := n1_; have HB := n2_; have HO526 := n3_; clear n0_ n1_ n2_ n3_; clear ho hb hg hat)))
      go_roundg k1
      case measure => have := HK1.out; omega
      case rel => exact ⟨(y520), (y524), (wrap64 (x9_1 + 1)), z14_6, H', ⟨by have := HK1.out; omega⟩, ⟨by (with_reducible repeat (first | apply Kd.N_alloc | apply Kd.N_drewN | apply Kd.N_drew)); exact Kd.N_mono HO522.out (fun _ hk => hk.2)⟩, ⟨by (with_reducible repeat (first | apply Kd.R_alloc | apply Kd.R_drewN | apply Kd.R_drew)); exact HO526.out⟩, ⟨z14_0⟩⟩
    ·replace c12 := Bool.eq_false_iff.mpr c12
     subst c12; rw [if_neg (show ¬ (false = true) by decide)] at H
     have H' := Aside0.mk H
     clear H; have p508 : 0 ≤ (x9_1 : Int) := of_decide_eq_true z14_3; have q508 : x9_1 < (l2.length : Int) := of_decide_eq_true z14_3; obtain ⟨ad508, e508, hx508_0⟩ := Kd.at_bool HR2.out x9_1 p508 q508; (try rw [← Nbq11.out] at hx508_0); cases e508
     replace hx508_0 := (HB.out.cell (World.block_lt_of_cell? w _ hx508_0)).trans hx508_0
     replace p508 := eq_true p508
     replace q508 := eq_true q508
     go_wp2
     repeat (go_quiet (fail); try go_wp2)
     go_roundg k1
     case measure => have := HK1.out; omega
     case rel => exact ⟨(x7_1), (x8_1), (wrap64 (x9_1 + 1)), z14_6, H', ⟨by have := HK1.out; omega⟩, ⟨z14_2⟩, ⟨z14_1⟩, ⟨z14_0⟩⟩
   ·rw [if_neg c8] at H
    have c8b0 : decide (x9_1 < 8) = false := decide_eq_false c8; clear c8
    obtain rfl := Option.some.inj H
    go_wp2
    repeat (go_quiet (fail); try go_wp2)
    go_ret; exact ⟨by first | rfl | (simp [errW_none, errW_some] <;> rfl) | (simp [*, errW_none, errW_some] <;> rfl), z14_0⟩

end Go.Proofs.Ytamaejafddmagaa.PA
namespace Go.Proofs.Ytamaejafddmagaa.PA
open Go.RowKit Go.Proofs.YtamaejafddmagaaW.PrintWords Go.Proofs.YtamaejafddmagaaW.PrintLast Go.Proofs.YtamaejafddmagaaW.PrintMore
attribute [local go_sem] max2_int min2_int max_two min_two max_three min_three max_four min_four   -- for this text's walks alone
set_option linter.unusedVariables false
set_option linter.unusedSimpArgs false

/-! ### spec_CodeFits: function 46 -/
theorem zL15 {p q : Prop} (h : q) (t : q → p := by intro h_; (with_reducible repeat first|refine blk_drewN ?_ _|refine blk_drew ?_|refine blk_alloc ?_ _); exact h_) : p := t h
theorem z15_1 {p : Prop} (h : p := by repeat (first | (with_reducible first | exact HK.out | apply KeepBut.set_ | apply keep_drewN | apply keep_drew | apply keep_alloc) | exact HK.out)) : p := h
theorem z15_2 {p : Prop} (h : p := by repeat (first | (with_reducible first | exact HB.out | apply below_alloc | apply pw_below_drewN | apply below_drew1 | refine below_set ?_ (IsS99.ge HI0.out)) | exact HB.out)) : p := h
theorem z15_3 {p : Prop} (h : p := by repeat (first | (with_reducible first | exact HI0.out | apply IsS99.alloc | apply IsS99.drewN | apply IsS99.drew | apply IsS99.set_1) | exact HI0.out)) : p := h
theorem z15_4 {p : Prop} (h : p := by (try simp only [List.map_toArray, List.map_cons, List.map_nil]); first | done | rfl | (simp only [List.length_drop, List.length_take]; rfl)) : p := h
theorem z15_5 {p : Prop} (h : p := by repeat (first | (with_reducible first | exact HB.out | apply below_alloc | apply pw_below_drewN | apply below_drew1) | exact HB.out)) : p := h
theorem z15_6 {p : Prop} (h : p := by first | rfl | (simp [errW_none, errW_some] <;> rfl) | (simp [*, errW_none, errW_some] <;> rfl)) : p := h
theorem z15_7 {p : Prop} (h : p := by repeat (first | (with_reducible first | exact HBW.out | apply below_alloc | apply pw_below_drewN | apply below_drew1) | exact HBW.out)) : p := h
theorem z15_8 {p : Prop} (h : p := by first | (with_reducible assumption) | assumption) : p := h
def spec_CodeFits.f (k : Nat) (a0 : Int) (l1 : List Int) (l2 : List Bool) : Option (Bool) := (spec_l4Kind.f a0).bind fun t527 => (if t527 = true then ((spec_l4Vals.f k l1 l2).bind fun t528 => (if t528 = true then ((spec_l4Fits.f k a0 l1 l2).bind fun t529 => (some t529)) else (some false))) else (some false))
set_option maxHeartbeats 8000000 in
set_option maxRecDepth 100000 in
theorem spec_CodeFits.calls (k : Nat) (a0 : Int) (A1 : Option Addr) (c1 : Nat) (l1 : List Int) (A2 : Option Addr) (c2 : Nat) (l2 : List Bool) (r : Bool) (w : World) (hr1 : Kd.C (Kd.int .i64) w A1 l1.length l1) (hc1 : l1.length ≤ c1) (hr2 : Kd.C Kd.bool w A2 l2.length l2) (hc2 : l2.length ≤ c2) (h : spec_CodeFits.f k a0 l1 l2 = some r) :
  Calls Try.prog 46 #[.int .i64 a0, .slice A1 l1.length c1, .slice A2 l2.length c2] w fun e w' => e = .returned (.bool r) ∧ Below w.heap.size w w' := by
 have HR1 := Aside0.mk hr1
 have HC1 := Aside0.mk hc1
 clear hr1 hc1
 have HR2 := Aside0.mk hr2
 have HC2 := Aside0.mk hc2
 clear hr2 hc2
 have HB := Aside0.mk (Below.refl w.heap.size w)
 unfold spec_CodeFits.f at h
 have H := h
 clear h
 replace H := Option.bind_eq_some_iff.mp H
 obtain ⟨t527, A40, H⟩ := H
 have A4 := Aside0.mk A40
 clear A40
 by_cases c5 : t527 = true
 ·subst c5
  rw [if_pos rfl] at H
  replace H := Option.bind_eq_some_iff.mp H
  obtain ⟨t528, A60, H⟩ := H
  have A6 := Aside0.mk A60
  clear A60
  by_cases c7 : t528 = true
  ·subst c7
   rw [if_pos rfl] at H
   replace H := Option.bind_eq_some_iff.mp H
   obtain ⟨t529, A80, H⟩ := H
   have A8 := Aside0.mk A80
   clear A80
   obtain rfl := Option.some.inj H
   go_enter Try.func46, Try.ntmps46
   go_wp2_with (first | ((with_reducible refine gate_callee (f := 66) rfl ?_); refine goesL_ (some 8) rfl rfl Try.func66 (by kernel_rfl) rfl #[.int .i64 a0] rfl z15_4 ?_; (with_reducible refine (spec_l4Kind.calls a0 true _ A4.out).mono ?_); rintro e w' ⟨rfl, ⟨nd, rfl⟩⟩; refine ⟨_, rfl, ?_⟩) | (go_at_call 85; (with_reducible refine (spec_l4Vals.calls k _ _ l1 _ _ l2 true _ ?side1 ?side2 ?side3 ?side4 A6.out).mono ?_); (case side1 => exact cZ (HR1.out)); (case side2 => exact HC1.out); (case side3 => exact cZ (HR2.out)); (case side4 => exact HC2.out); rintro e w' ⟨rfl, ⟨nd, rfl⟩⟩) | (go_at_call 86; (with_reducible refine (spec_l4Fits.calls k a0 _ _ l1 _ _ l2 t529 _ ?side1 ?side2 ?side3 ?side4 A8.out).mono ?_); (case side1 => exact cZ (HR1.out)); (case side2 => exact HC1.out); (case side3 => exact cZ (HR2.out)); (case side4 => exact HC2.out); rintro e w9 ⟨rfl, hb⟩; replace HB := Aside0.mk (below_step z15_5 hb); (try clear hb)))
   go_ret; exact ⟨z15_6, z15_5⟩
  ·replace c7 := Bool.eq_false_iff.mpr c7
   subst c7; rw [if_neg (show ¬ (false = true) by decide)] at H
   obtain rfl := Option.some.inj H
   go_enter Try.func46, Try.ntmps46
   go_wp2_with (first | ((with_reducible refine gate_callee (f := 66) rfl ?_); refine goesL_ (some 8) rfl rfl Try.func66 (by kernel_rfl) rfl #[.int .i64 a0] rfl z15_4 ?_; (with_reducible refine (spec_l4Kind.calls a0 true _ A4.out).mono ?_); rintro e w' ⟨rfl, ⟨nd, rfl⟩⟩; refine ⟨_, rfl, ?_⟩) | (go_at_call 85; (with_reducible refine (spec_l4Vals.calls k _ _ l1 _ _ l2 false _ ?side1 ?side2 ?side3 ?side4 A6.out).mono ?_); (case side1 => exact cZ (HR1.out)); (case side2 => exact HC1.out); (case side3 => exact cZ (HR2.out)); (case side4 => exact HC2.out); rintro e w' ⟨rfl, ⟨nd, rfl⟩⟩))
   go_ret; exact ⟨z15_6, z15_5⟩
 ·replace c5 := Bool.eq_false_iff.mpr c5
  subst c5; rw [if_neg (show ¬ (false = true) by decide)] at H
  obtain rfl := Option.some.inj H
  go_enter Try.func46, Try.ntmps46
  go_wp2_with (first | ((with_reducible refine gate_callee (f := 66) rfl ?_); refine goesL_ (some 8) rfl rfl Try.func66 (by kernel_rfl) rfl #[.int .i64 a0] rfl z15_4 ?_; (with_reducible refine (spec_l4Kind.calls a0 false _ A4.out).mono ?_); rintro e w' ⟨rfl, ⟨nd, rfl⟩⟩; refine ⟨_, rfl, ?_⟩))
  go_ret; exact ⟨z15_6, z15_5⟩

/-- A state of type 99 at block g of W; what its slices lead to came in by w0. -/
def IsS99 (w0 W : World) (g : Nat) (f0 : List Int) (f1 : Int) : Prop := ∃ A0 c0, W.heap[g]? = some (.cells #[.slice A0 f0.length c0, .int .i64 f1] 99 (0, 0)) ∧ w0.heap.size ≤ g ∧ Kd.C (Kd.int .u8) w0 A0 f0.length f0
theorem IsS99.grown {w0 W : World} {g : Nat} {f0 : List Int} {f1 : Int} {W1 : World} {row : Option Nat} (h : IsS99 w0 W g f0 f1) (hw : W.grownBy W1 row) (hne : some g ≠ row) : IsS99 w0 W1 g f0 f1 := by
  obtain ⟨A0, c0, hb, hg, hr0⟩ := h; exact ⟨A0, c0, blk_grown hb hw hne, hg, hr0⟩
theorem IsS99.kept {w0 W : World} {g : Nat} {f0 : List Int} {f1 : Int} {W1 : World} {S : Nat → Prop} (h : IsS99 w0 W g f0 f1) (hk : Kept W W1 S) (hne : ¬ S g) : IsS99 w0 W1 g f0 f1 := by
  obtain ⟨A0, c0, hb, hg, hr0⟩ := h; exact ⟨A0, c0, blk_kept hb hk hne, hg, hr0⟩
theorem IsS99.below {w0 W : World} {g : Nat} {f0 : List Int} {f1 : Int} {W1 : World} (h : IsS99 w0 W g f0 f1) (hw : Below W.heap.size W W1) : IsS99 w0 W1 g f0 f1 := h.grown (grown_of_below hw none) (by simp)
theorem IsS99.alloc {w0 W : World} {g : Nat} {f0 : List Int} {f1 : Int} (h : IsS99 w0 W g f0 f1) (o : Obj) : IsS99 w0 (W.alloc o) g f0 f1 := h.below (below_alloc (Below.refl _ _) o)
theorem IsS99.drewN {w0 W : World} {g : Nat} {f0 : List Int} {f1 : Int} (h : IsS99 w0 W g f0 f1) (m : Nat) : IsS99 w0 (W.drewN m) g f0 f1 := h
theorem IsS99.drew {w0 W : World} {g : Nat} {f0 : List Int} {f1 : Int} (h : IsS99 w0 W g f0 f1) : IsS99 w0 W.drew g f0 f1 := h
theorem IsS99.at_ {w0 W : World} {g : Nat} {f0 : List Int} {f1 : Int} {w' : World} {m : Nat} (hq : W.drewN m = w') (h : IsS99 w0 W g f0 f1) : IsS99 w0 w' g f0 f1 := by subst hq; exact IsS99.drewN h m
theorem IsS99.apart {w0 W : World} {g : Nat} {f0 : List Int} {f1 : Int} {α : Type} {d : Kd α} {e : Nat} {base : Nat} {ok : Nat → Prop} {v : Value} {xs : List α} (h : IsS99 w0 W g f0 f1) (ho : d.R e W base ok v xs) (ht : ∀ q, q ∈ e :: d.E → q ≠ 99) : d.R e W base (fun k => ok k ∧ k ≠ g) v xs := by
  obtain ⟨A0, c0, hb, hg, hr0⟩ := h; exact Kd.R_types ho hb ht
theorem IsS99.own_ne {w0 W : World} {g : Nat} {f0 : List Int} {f1 : Int} {α : Type} {d : Kd α} {e : Nat} {base : Nat} {ok : Nat → Prop} {v : Value} {xs : List α} (h : IsS99 w0 W g f0 f1) (ho : d.R e W base ok v xs) (ht : e ≠ 99) : some g ≠ v.ownBlock := by
  obtain ⟨A0, c0, hb, hg, hr0⟩ := h; exact Kd.R_ne ho hb ht
theorem IsS99.apartQ {w0 W : World} {g : Nat} {f0 : List Int} {f1 : Int} {α : Type} {d : Kd α} {e : Nat} {base : Nat} {ok : Nat → Prop} {v : Value} {xs : List α} (h : IsS99 w0 W g f0 f1) (ho : d.Q e W base ok v xs) (ht : ∀ q, q ∈ e :: d.E → q ≠ 99) : d.Q e W base (fun k => ok k ∧ k ≠ g) v xs := by
  obtain ⟨A0, c0, hb, hg, hr0⟩ := h; exact Kd.Q_types ho hb ht
theorem IsS99.lt {w0 W : World} {g : Nat} {f0 : List Int} {f1 : Int} (h : IsS99 w0 W g f0 f1) : g < W.heap.size := by
  obtain ⟨A0, c0, hb, hg, hr0⟩ := h; exact blk_lt hb
theorem IsS99.ge {w0 W : World} {g : Nat} {f0 : List Int} {f1 : Int} (h : IsS99 w0 W g f0 f1) : w0.heap.size ≤ g := by
  obtain ⟨A0, c0, hb, hg, hr0⟩ := h; exact hg
theorem cellS99_0 {W : World} {g : Nat} {A0 : Option Addr} {c0 : Nat} {f0 : List Int} {f1 : Int} (h : W.heap[g]? = some (.cells #[.slice A0 f0.length c0, .int .i64 f1] 99 (0, 0))) : W.cell? ⟨g, 0, none⟩ = some (.slice A0 f0.length c0) := (blk_cell h 0).trans rfl
theorem cellS99_1 {W : World} {g : Nat} {A0 : Option Addr} {c0 : Nat} {f0 : List Int} {f1 : Int} (h : W.heap[g]? = some (.cells #[.slice A0 f0.length c0, .int .i64 f1] 99 (0, 0))) : W.cell? ⟨g, 1, none⟩ = some (.int .i64 f1) := (blk_cell h 1).trans rfl
theorem IsS99.set_1 {w0 W : World} {g : Nat} {f0 : List Int} {f1 : Int} (h : IsS99 w0 W g f0 f1) (x : Int) : IsS99 w0 (W.setCell ⟨g, 1, none⟩ (.int .i64 x)) g f0 x := by
  obtain ⟨A0, c0, hb, hg, hr0⟩ := h; exact ⟨A0, c0, by simpa using blk_set hb 1 (.int .i64 x), hg, hr0⟩
/-! ### spec_l6Open: function 52 -/
def spec_l6Open.f (l0 : List Int) : Option (List Int × Int) := if (l0.length : Int) > 2000 then (if 2000 ≤ (l0.length : Int) then (some (l0.take 2000, 0)) else (none)) else (some (l0, 0))
set_option maxHeartbeats 8000000 in
set_option maxRecDepth 100000 in
theorem spec_l6Open.calls (A0 : Option Addr) (c0 : Nat) (l0 : List Int) (r1 : List Int) (r2 : Int) (w0 w : World) (hB : Below w0.heap.size w0 w) (hr0 : Kd.C (Kd.int .u8) w0 A0 l0.length l0) (hc0 : l0.length ≤ c0) (h : spec_l6Open.f l0 = some (r1, r2)) :
  Calls Try.prog 52 #[.slice A0 l0.length c0] w fun e w' => ∃ g_ : Nat, e = .returned (.pointer (some ⟨g_, 0, none⟩)) ∧ IsS99 w0 w' g_ r1 r2 ∧ Below w0.heap.size w0 w' ∧ Below w.heap.size w w' := by
 have hu99 := Try.underlying99
 have HR0 := Aside0.mk hr0
 have HC0 := Aside0.mk hc0
 clear hr0 hc0
 have HBW := Aside0.mk (Below.refl w.heap.size w)
 have HW0 := Aside0.mk hB.size
 have HB := Aside0.mk hB
 clear hB
 unfold spec_l6Open.f at h
 have H := h
 clear h
 by_cases c2 : (l0.length : Int) > 2000
 ·rw [if_pos c2] at H
  have c2b0 : decide (2000 < (l0.length : Int)) = true := decide_eq_true c2; have c2b1 : decide (2000 < l0.length) = true := decide_eq_true (by omega); clear c2; obtain ⟨c3, H⟩ := ifP H
  have c3b0 := eq_true c3
  have c3b1 : decide (2000 ≤ (l0.length : Int)) = true := decide_eq_true c3; clear c3; simp only [Option.some.injEq, Prod.mk.injEq] at H; obtain ⟨rfl, rfl⟩ := H; obtain ⟨i04, hi04, _, hsz4, _⟩ := info_parts info5; obtain ⟨hcut4, hA4, hC4⟩ := print_take_of (P := Try.prog) (Value.int .u8) 0 22 5 .i64 Try.underlying22 hi04 hsz4 A0 c0 l0 2000 (by omega) (of_decide_eq_true z15_8) HC0.out
  have HR530 := Aside0.mk (Kd.C_of_reads (h1 := fun _ => rfl) (hA4 _ (Kd.reads_of_C HR0.out)))
  have HC530 := Aside0.mk hC4
  clear hA4 hC4 hi04 hsz4; go_enter Try.func52, Try.ntmps52
  go_wp2_with (first | ((with_reducible refine gate_dst (N := 10) rfl ?_); refine box_event ?hg (N := 10) ?hd (cs := #[.slice A0 (l0.take 2000).length c0, .int .i64 0]) (t := 99) ?hr ?_; (case hd => rfl); (case hg => rfl); (case hr => first | (go_simp; done) | (go_simp; rfl)); intro gb531 hg w5 hbox hb; replace HB := Aside0.mk (below_step z15_5 hb); have BK531 := Aside0.mk (hbox); have GW531 := Aside0.mk ((by rw [hg]; exact (below_size z15_7) : w.heap.size ≤ gb531)); have GE531 := Aside0.mk ((Nat.le_trans HW0.out (by rw [hg]; exact (below_size z15_7) : w.heap.size ≤ gb531) : w0.heap.size ≤ gb531)); replace HBW := Aside0.mk (below_step HBW.out hb); clear hb hbox hg))
  go_ret; exact ⟨_, rfl, (show IsS99 w0 _ gb531 (l0.take 2000) 0 from ⟨_, _, zL15 BK531.out, GE531.out, HR530.out⟩), by repeat (first | (with_reducible first | exact HB.out | apply below_alloc | apply pw_below_drewN | apply below_drew1 | refine below_set ?_ GE531.out) | exact HB.out), by repeat (first | (with_reducible first | exact HBW.out | apply below_alloc | apply pw_below_drewN | apply below_drew1 | refine below_set ?_ GW531.out) | exact HBW.out)⟩
 ·rw [if_neg c2] at H
  have c2b0 : decide (2000 < (l0.length : Int)) = false := decide_eq_false c2; have c2b1 : decide (2000 < l0.length) = false := decide_eq_false (by omega); clear c2; simp only [Option.some.injEq, Prod.mk.injEq] at H; obtain ⟨rfl, rfl⟩ := H; go_enter Try.func52, Try.ntmps52
  go_wp2_with (first | ((with_reducible refine gate_dst (N := 10) rfl ?_); refine box_event ?hg (N := 10) ?hd (cs := #[.slice A0 l0.length c0, .int .i64 0]) (t := 99) ?hr ?_; (case hd => rfl); (case hg => rfl); (case hr => first | (go_simp; done) | (go_simp; rfl)); intro gb532 hg w6 hbox hb; replace HB := Aside0.mk (below_step z15_5 hb); have BK532 := Aside0.mk (hbox); have GW532 := Aside0.mk ((by rw [hg]; exact (below_size z15_7) : w.heap.size ≤ gb532)); have GE532 := Aside0.mk ((Nat.le_trans HW0.out (by rw [hg]; exact (below_size z15_7) : w.heap.size ≤ gb532) : w0.heap.size ≤ gb532)); replace HBW := Aside0.mk (below_step HBW.out hb); clear hb hbox hg))
  go_ret; exact ⟨_, rfl, (show IsS99 w0 _ gb532 l0 0 from ⟨_, _, zL15 BK532.out, GE532.out, HR0.out⟩), by repeat (first | (with_reducible first | exact HB.out | apply below_alloc | apply pw_below_drewN | apply below_drew1 | refine below_set ?_ GE532.out) | exact HB.out), by repeat (first | (with_reducible first | exact HBW.out | apply below_alloc | apply pw_below_drewN | apply below_drew1 | refine below_set ?_ GW532.out) | exact HBW.out)⟩

/-! ### spec_l6Rd_pick: function 78 -/
def spec_l6Rd_pick.j0 : Nat → Int → Bool → List Int → Int → Option (Int × Int)
  | 0, _, _, _, _ => none
  | k + 1, x1, x24, x1000, x1001 => if x24 = true then (some (0, x1001)) else (if (wrap64 (x1001 - 1)) < (x1000.length : Int) then (if 0 ≤ (wrap64 (x1001 - 1)) then (if x1 = 0 then (none) else (some (Int.tmod (wrap64 (rd x1000 (wrap64 (x1001 - 1)))) x1, x1001))) else (none)) else (if (x1000.length : Int) = 0 then (none) else (if 0 ≤ (Int.tmod (wrap64 (x1001 - 1)) (x1000.length : Int)) then (if (Int.tmod (wrap64 (x1001 - 1)) (x1000.length : Int)) < (x1000.length : Int) then (if 0 ≤ (Int.tmod (wrap64 ((wrap64 ((wrap64 (x1001 - 1)) * 7)) + 3)) (x1000.length : Int)) then (if (Int.tmod (wrap64 ((wrap64 ((wrap64 (x1001 - 1)) * 7)) + 3)) (x1000.length : Int)) < (x1000.length : Int) then (if x1 = 0 then (none) else (some (Int.tmod (Go.bits .xor .i64 (wrap64 ((wrap64 ((wrap64 ((wrap64 ((wrap64 (rd x1000 (Int.tmod (wrap64 (x1001 - 1)) (x1000.length : Int)))) * 131)) + (wrap64 ((wrap64 (rd x1000 (Int.tmod (wrap64 ((wrap64 ((wrap64 (x1001 - 1)) * 7)) + 3)) (x1000.length : Int)))) * 1117)))) + (wrap64 ((wrap64 (x1001 - 1)) * 29)))) + (wrap64 ((wrap64 (Int.tdiv (wrap64 (x1001 - 1)) (x1000.length : Int))) * 53)))) (wrap64 (Int.tdiv (wrap64 ((wrap64 ((wrap64 ((wrap64 ((wrap64 (rd x1000 (Int.tmod (wrap64 (x1001 - 1)) (x1000.length : Int)))) * 131)) + (wrap64 ((wrap64 (rd x1000 (Int.tmod (wrap64 ((wrap64 ((wrap64 (x1001 - 1)) * 7)) + 3)) (x1000.length : Int)))) * 1117)))) + (wrap64 ((wrap64 (x1001 - 1)) * 29)))) + (wrap64 ((wrap64 (Int.tdiv (wrap64 (x1001 - 1)) (x1000.length : Int))) * 53)))) 64))) x1, x1001))) else (none)) else (none)) else (none)) else (none))))
def spec_l6Rd_pick.f (k : Nat) (s0_0 : List Int) (s0_1 : Int) (a1 : Int) : Option (Int × Int) := if a1 < 1 then (spec_l6Rd_pick.j0 k a1 true s0_0 (wrap64 (s0_1 + 1))) else (spec_l6Rd_pick.j0 k a1 ((s0_0.length : Int) == 0) s0_0 (wrap64 (s0_1 + 1)))
set_option maxHeartbeats 8000000 in
set_option maxRecDepth 100000 in
theorem spec_l6Rd_pick.calls (k : Nat) (g : Nat) (s0_0 : List Int) (s0_1 : Int) (a1 : Int) (r1 : Int) (r2 : Int) (w0 w : World) (hI : IsS99 w0 w g s0_0 s0_1) (hB : Below w0.heap.size w0 w) (h : spec_l6Rd_pick.f k s0_0 s0_1 a1 = some (r1, r2)) :
  Calls Try.prog 78 #[.pointer (some ⟨g, 0, none⟩), .int .i64 a1] w fun e w' => e = .returned (.int .i64 r1) ∧ IsS99 w0 w' g s0_0 r2 ∧ Below w0.heap.size w0 w' ∧ KeepBut w w' g none := by
 have HI0 := Aside0.mk hI
 have HK := Aside0.mk (KeepBut.refl w g none)
 have HL := Aside0.mk hB.size
 clear hI
 have HW0 := Aside0.mk hB.size
 have HB := Aside0.mk hB
 clear hB
 unfold spec_l6Rd_pick.f at h
 have H := h
 clear h
 have HC3 := Aside0.mk H
 clear H
 obtain ⟨ASz4_0, cSz4_0, HGz4, hgz4, HSz4_0⟩ := HI0.out
 have hcz4_0 := cellS99_0 HGz4
 have hcz4_1 := cellS99_1 HGz4
 have hfz4_1 := blk_frozen HGz4 1
 clear HGz4 hgz4
 go_enter Try.func78, Try.ntmps78
 go_upto_region 2 with (fail)
 repeat (go_quiet (fail); go_upto_region 2 with (fail))
 go_cut [24] (fun v24 wc => ∃ (kq : Nat) (x24_2 : Bool), v24 = .bool x24_2 ∧ Aside0 (spec_l6Rd_pick.j0 kq a1 x24_2 s0_0 (wrap64 (s0_1 + 1)) = some (r1, r2)) ∧ Aside0 (kq ≤ k) ∧ Aside0 (IsS99 w0 wc g s0_0 (wrap64 (s0_1 + 1))) ∧ Aside0 (KeepBut w wc g none) ∧ Aside0 (Below w0.heap.size w0 wc))
 case first =>
  have H := HC3.out
  clear HC3
  by_cases c5 : a1 < 1
  ·rw [if_pos c5] at H
   have c5b0 : decide (a1 < 1) = true := decide_eq_true c5; clear c5; (first | rw [c5b0] | (simp only [i64_w, i32_w]; rw [c5b0]) | skip)
   have H' := Aside0.mk H
   clear H
   go_wp2
   repeat (go_quiet (fail); try go_wp2)
   go_meet
   case rel => exact ⟨_, (true), (by first | rfl | (simp; done) | (simp [*]; done)), H', ⟨by first | omega | exact Nat.le_refl _⟩, ⟨z15_3⟩, ⟨z15_1⟩, ⟨z15_2⟩⟩
  ·rw [if_neg c5] at H
   have c5b0 : decide (a1 < 1) = false := decide_eq_false c5; clear c5; (first | rw [c5b0] | (simp only [i64_w, i32_w]; rw [c5b0]) | skip)
   have H' := Aside0.mk H
   clear H; obtain ⟨ASz6_0, cSz6_0, HGz6, hgz6, HSz6_0⟩ := HI0.out
   have hcz6_0 := cellS99_0 HGz6
   have hcz6_1 := cellS99_1 HGz6
   have hfz6_1 := blk_frozen HGz6 1
   clear HGz6 hgz6
   go_wp2
   repeat (go_quiet (fail); try go_wp2)
   go_meet
   case rel => exact ⟨_, (((s0_0.length : Int) == 0)), (by first | rfl | (simp; done) | (simp [*]; done)), H', ⟨by first | omega | exact Nat.le_refl _⟩, ⟨z15_3⟩, ⟨z15_1⟩, ⟨z15_2⟩⟩
 case rest =>
  clear HC3
  try clear hcz4_0 hcz4_1
  try clear hfz4_1
  obtain ⟨kq, x24_2, rfl, HA, HJ2, HI0, HK, HB⟩ := hcut
  cases kq with
  | zero => exact absurd HA.out (by simp [spec_l6Rd_pick.j0])
  | succ kj2 =>
   have H := HA.out
   clear HA; simp only [spec_l6Rd_pick.j0] at H
   by_cases c7 : x24_2 = true
   ·subst c7
    rw [if_pos rfl] at H; simp only [Option.some.injEq, Prod.mk.injEq] at H; obtain ⟨rfl, rfl⟩ := H
    go_wp2
    repeat (go_quiet (fail); try go_wp2)
    go_ret; exact ⟨z15_6, z15_3, z15_2, z15_1⟩
   ·replace c7 := Bool.eq_false_iff.mpr c7
    subst c7; rw [if_neg (show ¬ (false = true) by decide)] at H
    by_cases c8 : (wrap64 ((wrap64 (s0_1 + 1)) - 1)) < (s0_0.length : Int)
    ·rw [if_pos c8] at H
     have c8b0 : decide ((wrap64 ((wrap64 (s0_1 + 1)) - 1)) < (s0_0.length : Int)) = true := decide_eq_true c8; clear c8
     obtain ⟨ji9, hji9⟩ : ∃ j_ : Int, (wrap64 ((wrap64 (s0_1 + 1)) - 1)) = j_ := ⟨_, rfl⟩
     replace H : (if 0 ≤ (ji9) then (if a1 = 0 then (none) else (some (Int.tmod (wrap64 (rd s0_0 (ji9))) a1, (wrap64 (s0_1 + 1))))) else (none)) = some (r1, r2) := by first | (rw [hji9] at H; exact H) | (simp only [hji9] at H ⊢; exact H)
     (try rw [hji9] at c8b0)
     have hji9w : (IntKind.i64.wrap ((wrap64 (s0_1 + 1)) - 1)) = ji9 := (i64_w _).trans hji9
     obtain ⟨c10, H⟩ := ifP H; have c10b0 : decide (0 ≤ (ji9)) = true := decide_eq_true c10; clear c10
     by_cases c11 : a1 = 0
     ·rw [if_pos c11] at H
      exact absurd H (by simp)
     ·rw [if_neg c11] at H
      have c11b0 : (a1 == 0) = false := beq_eq_false_iff_ne.mpr c11
      have c11b1 : (a1 != 0) = true := bne_iff_ne.mpr c11
      simp only [Option.some.injEq, Prod.mk.injEq] at H; obtain ⟨rfl, rfl⟩ := H; obtain ⟨ASz12_0, cSz12_0, HGz12, hgz12, HSz12_0⟩ := HI0.out
      have hcz12_0 := cellS99_0 HGz12
      have hcz12_1 := cellS99_1 HGz12
      have hfz12_1 := blk_frozen HGz12 1
      clear HGz12 hgz12; have p533 : 0 ≤ ((ji9) : Int) := of_decide_eq_true z15_8
      have q533 : (ji9) < (s0_0.length : Int) := of_decide_eq_true z15_8
      obtain ⟨ad533, e533, hx533_0⟩ := Kd.at_int HSz12_0 (ji9) p533 q533; cases e533
      replace hx533_0 := pw_cell_below HB.out hx533_0
      replace p533 := eq_true p533
      replace q533 := eq_true q533
      go_wp2
      repeat (go_quiet (fail); try go_wp2)
      go_ret; exact ⟨by first | rfl | (simp [errW_none, errW_some] <;> rfl) | (simp only [← hji9]; first | rfl | (simp [errW_none, errW_some] <;> rfl)) | (simp [*, errW_none, errW_some] <;> rfl), z15_3, z15_2, z15_1⟩
    ·rw [if_neg c8] at H
     have c8b0 : decide ((wrap64 ((wrap64 (s0_1 + 1)) - 1)) < (s0_0.length : Int)) = false := decide_eq_false c8; clear c8
     by_cases c13 : (s0_0.length : Int) = 0
     ·rw [if_pos c13] at H
      exact absurd H (by simp)
     ·rw [if_neg c13] at H
      have c13b0 : ((s0_0.length : Int) == 0) = false := beq_eq_false_iff_ne.mpr c13
      have c13b1 : ((s0_0.length : Int) != 0) = true := bne_iff_ne.mpr c13
      have c13b2 : ¬ (s0_0 = []) := fun h_ => c13 (by rw [h_]; rfl)
      obtain ⟨ji14, hji14⟩ : ∃ j_ : Int, (Int.tmod (wrap64 ((wrap64 (s0_1 + 1)) - 1)) (s0_0.length : Int)) = j_ := ⟨_, rfl⟩
      replace H : (if 0 ≤ (ji14) then (if (ji14) < (s0_0.length : Int) then (if 0 ≤ (Int.tmod (wrap64 ((wrap64 ((wrap64 ((wrap64 (s0_1 + 1)) - 1)) * 7)) + 3)) (s0_0.length : Int)) then (if (Int.tmod (wrap64 ((wrap64 ((wrap64 ((wrap64 (s0_1 + 1)) - 1)) * 7)) + 3)) (s0_0.length : Int)) < (s0_0.length : Int) then (if a1 = 0 then (none) else (some (Int.tmod (Go.bits .xor .i64 (wrap64 ((wrap64 ((wrap64 ((wrap64 ((wrap64 (rd s0_0 (ji14))) * 131)) + (wrap64 ((wrap64 (rd s0_0 (Int.tmod (wrap64 ((wrap64 ((wrap64 ((wrap64 (s0_1 + 1)) - 1)) * 7)) + 3)) (s0_0.length : Int)))) * 1117)))) + (wrap64 ((wrap64 ((wrap64 (s0_1 + 1)) - 1)) * 29)))) + (wrap64 ((wrap64 (Int.tdiv (wrap64 ((wrap64 (s0_1 + 1)) - 1)) (s0_0.length : Int))) * 53)))) (wrap64 (Int.tdiv (wrap64 ((wrap64 ((wrap64 ((wrap64 ((wrap64 (rd s0_0 (ji14))) * 131)) + (wrap64 ((wrap64 (rd s0_0 (Int.tmod (wrap64 ((wrap64 ((wrap64 ((wrap64 (s0_1 + 1)) - 1)) * 7)) + 3)) (s0_0.length : Int)))) * 1117)))) + (wrap64 ((wrap64 ((wrap64 (s0_1 + 1)) - 1)) * 29)))) + (wrap64 ((wrap64 (Int.tdiv (wrap64 ((wrap64 (s0_1 + 1)) - 1)) (s0_0.length : Int))) * 53)))) 64))) a1, (wrap64 (s0_1 + 1))))) else (none)) else (none)) else (none)) else (none)) = some (r1, r2) := by first | (rw [hji14] at H; exact H) | (simp only [hji14] at H ⊢; exact H)
      obtain ⟨c15, H⟩ := ifP H; have c15b0 : decide (0 ≤ (ji14)) = true := decide_eq_true c15; clear c15; obtain ⟨c16, H⟩ := ifP H; have c16b0 : decide ((ji14) < (s0_0.length : Int)) = true := decide_eq_true c16; clear c16
      obtain ⟨ji17, hji17⟩ : ∃ j_ : Int, (Int.tmod (wrap64 ((wrap64 ((wrap64 ((wrap64 (s0_1 + 1)) - 1)) * 7)) + 3)) (s0_0.length : Int)) = j_ := ⟨_, rfl⟩
      replace H : (if 0 ≤ (ji17) then (if (ji17) < (s0_0.length : Int) then (if a1 = 0 then (none) else (some (Int.tmod (Go.bits .xor .i64 (wrap64 ((wrap64 ((wrap64 ((wrap64 ((wrap64 (rd s0_0 (ji14))) * 131)) + (wrap64 ((wrap64 (rd s0_0 (ji17))) * 1117)))) + (wrap64 ((wrap64 ((wrap64 (s0_1 + 1)) - 1)) * 29)))) + (wrap64 ((wrap64 (Int.tdiv (wrap64 ((wrap64 (s0_1 + 1)) - 1)) (s0_0.length : Int))) * 53)))) (wrap64 (Int.tdiv (wrap64 ((wrap64 ((wrap64 ((wrap64 ((wrap64 (rd s0_0 (ji14))) * 131)) + (wrap64 ((wrap64 (rd s0_0 (ji17))) * 1117)))) + (wrap64 ((wrap64 ((wrap64 (s0_1 + 1)) - 1)) * 29)))) + (wrap64 ((wrap64 (Int.tdiv (wrap64 ((wrap64 (s0_1 + 1)) - 1)) (s0_0.length : Int))) * 53)))) 64))) a1, (wrap64 (s0_1 + 1))))) else (none)) else (none)) = some (r1, r2) := by first | (rw [hji17] at H; exact H) | (simp only [hji17] at H ⊢; exact H)
      obtain ⟨c18, H⟩ := ifP H; have c18b0 : decide (0 ≤ (ji17)) = true := decide_eq_true c18; clear c18; obtain ⟨c19, H⟩ := ifP H; have c19b0 : decide ((ji17) < (s0_0.length : Int)) = true := decide_eq_true c19; clear c19
      by_cases c20 : a1 = 0
      ·rw [if_pos c20] at H
       exact absurd H (by simp)
      ·rw [if_neg c20] at H
       have c20b0 : (a1 == 0) = false := beq_eq_false_iff_ne.mpr c20
       have c20b1 : (a1 != 0) = true := bne_iff_ne.mpr c20
       simp only [Option.some.injEq, Prod.mk.injEq] at H; obtain ⟨rfl, rfl⟩ := H; obtain ⟨ASz21_0, cSz21_0, HGz21, hgz21, HSz21_0⟩ := HI0.out
       have hcz21_0 := cellS99_0 HGz21
       have hcz21_1 := cellS99_1 HGz21
       have hfz21_1 := blk_frozen HGz21 1
       clear HGz21 hgz21; have p534 : 0 ≤ ((ji14) : Int) := of_decide_eq_true z15_8
       have q534 : (ji14) < (s0_0.length : Int) := of_decide_eq_true z15_8
       obtain ⟨ad534, e534, hx534_0⟩ := Kd.at_int HSz21_0 (ji14) p534 q534; cases e534
       replace hx534_0 := pw_cell_below HB.out hx534_0
       replace p534 := eq_true p534
       replace q534 := eq_true q534
       have p535 : 0 ≤ ((ji17) : Int) := of_decide_eq_true z15_8
       have q535 : (ji17) < (s0_0.length : Int) := of_decide_eq_true z15_8
       obtain ⟨ad535, e535, hx535_0⟩ := Kd.at_int HSz21_0 (ji17) p535 q535
       obtain rfl : ad534 = ad535 := (by injection e535)
       replace hx535_0 := pw_cell_below HB.out hx535_0
       replace p535 := eq_true p535
       replace q535 := eq_true q535
       go_wp2
       repeat (go_quiet (fail); try go_wp2)
       go_ret; exact ⟨by first | rfl | (simp [errW_none, errW_some] <;> rfl) | (simp only [← hji14, ← hji17]; first | rfl | (simp [errW_none, errW_some] <;> rfl)) | (simp [*, errW_none, errW_some] <;> rfl), z15_3, z15_2, z15_1⟩

/-! ### spec_l91Kind: function 76 -/
def spec_l91Kind.f (k : Nat) (s0_0 : List Int) (s0_1 : Int) : Option (Int × Int) := (spec_l6Rd_pick.f k s0_0 s0_1 40).bind fun bt536 => (if bt536.1 = 0 then ((some (([0, 3] : List Int) : List Int)).bind fun y538 => ((spec_l6Rd_pick.f k s0_0 bt536.2 2).bind fun bt541 => (if 0 ≤ bt541.1 then (if bt541.1 < (y538.length : Int) then (some (rd y538 bt541.1, bt541.2)) else (none)) else (none)))) else ((spec_l6Rd_pick.f k s0_0 bt536.2 2).bind fun bt544 => (some (wrap64 (1 + bt544.1), bt544.2))))
set_option maxHeartbeats 8000000 in
set_option maxRecDepth 100000 in
theorem spec_l91Kind.calls (k : Nat) (g : Nat) (s0_0 : List Int) (s0_1 : Int) (r1 : Int) (r2 : Int) (w0 w : World) (hI : IsS99 w0 w g s0_0 s0_1) (hB : Below w0.heap.size w0 w) (h : spec_l91Kind.f k s0_0 s0_1 = some (r1, r2)) :
  Calls Try.prog 76 #[.pointer (some ⟨g, 0, none⟩)] w fun e w' => e = .returned (.int .i64 r1) ∧ IsS99 w0 w' g s0_0 r2 ∧ Below w0.heap.size w0 w' ∧ KeepBut w w' g none := by
 have HI0 := Aside0.mk hI
 have HK := Aside0.mk (KeepBut.refl w g none)
 have HL := Aside0.mk hB.size
 clear hI
 have HW0 := Aside0.mk hB.size
 have HB := Aside0.mk hB
 clear hB
 unfold spec_l91Kind.f at h
 have H := h
 clear h
 replace H := Option.bind_eq_some_iff.mp H
 obtain ⟨⟨t536, t537⟩, A20, H⟩ := H
 replace H : (if t536 = 0 then ((some (([0, 3] : List Int) : List Int)).bind fun y538 => ((spec_l6Rd_pick.f k s0_0 t537 2).bind fun bt541 => (if 0 ≤ bt541.1 then (if bt541.1 < (y538.length : Int) then (some (rd y538 bt541.1, bt541.2)) else (none)) else (none)))) else ((spec_l6Rd_pick.f k s0_0 t537 2).bind fun bt544 => (some (wrap64 (1 + bt544.1), bt544.2)))) = some (r1, r2) := H
 have A2 := Aside0.mk A20
 clear A20
 by_cases c3 : t536 = 0
 ·rw [if_pos c3] at H
  have c3b0 : (t536 == 0) = true := beq_iff_eq.mpr c3
  have c3b1 : (t536 != 0) = false := bne_eq_false_iff_eq.mpr c3
  clear c3
  obtain ⟨y538, hy538⟩ : ∃ y_ : List Int, y_ = (([0, 3] : List Int)) := ⟨_, rfl⟩
  replace H : ((spec_l6Rd_pick.f k s0_0 t537 2).bind fun bt541 => (if 0 ≤ bt541.1 then (if bt541.1 < (y538.length : Int) then (some (rd y538 bt541.1, bt541.2)) else (none)) else (none))) = some (r1, r2) := yZZ_ hy538 H
  have Ny538 := Aside0.mk hy538
  clear hy538
  replace H := Option.bind_eq_some_iff.mp H
  obtain ⟨⟨t541, t542⟩, A40, H⟩ := H
  replace H : (if 0 ≤ t541 then (if t541 < (y538.length : Int) then (some (rd y538 t541, t542)) else (none)) else (none)) = some (r1, r2) := H
  have A4 := Aside0.mk A40
  clear A40; obtain ⟨c5, H⟩ := ifP H; have c5b0 : decide (0 ≤ t541) = true := decide_eq_true c5; clear c5; obtain ⟨c6, H⟩ := ifP H; have c6b0 : decide (t541 < (y538.length : Int)) = true := decide_eq_true c6; clear c6; simp only [Option.some.injEq, Prod.mk.injEq] at H; obtain ⟨rfl, rfl⟩ := H; go_enter Try.func76, Try.ntmps76
  go_wp2_with (first | ((with_reducible refine gate_callee (f := 78) rfl ?_); refine goesL_ (some 4) rfl rfl Try.func78 (by kernel_rfl) rfl #[.pointer (some ⟨g, 0, none⟩), .int .i64 40] rfl z15_4 ?_; (with_reducible refine (spec_l6Rd_pick.calls k g s0_0 s0_1 40 t536 t537 w0 _ ?side1 ?side2 A2.out).mono ?_); (case side1 => repeat (first | (with_reducible first | exact HI0.out | apply IsS99.alloc | apply IsS99.drewN | apply IsS99.drew | apply IsS99.set_1) | exact HI0.out)); (case side2 => repeat (first | (with_reducible first | exact HB.out | apply below_alloc | apply pw_below_drewN | apply below_drew1 | refine below_set ?_ (IsS99.ge HI0.out)) | exact HB.out)); rintro e w7 ⟨rfl, hi, hb, hk⟩; refine ⟨_, rfl, ?_⟩; replace HK := Aside0.mk (KeepBut.trans z15_1 hk (.inl rfl)); replace HB := Aside0.mk (hb); replace HI0 := Aside0.mk (hi); (try clear hb)) | ((with_reducible refine gate_dst (N := 6) rfl ?_); refine Kd.R_lit (Kd.int .i64) _ 3 ?hg (N := 6) ?hd (xs := ([0, 3] : List Int)) (inner := [.int .i64 0, .int .i64 3]) (ok := fun _ => True) (okp := fun _ => True) ?hr ?hp (fun _ hk => hk) trivial (Below.refl _ _) (Nat.le_refl _) (by simp) ?_; (case hd => rfl); (case hg => rfl); (case hr => first | (go_simp; done) | (go_simp; rfl)); (case hp => exact (Reps.one (show Kd.M (Kd.int .i64) _ _ _ 0 [.int .i64 0] from rfl) (Reps.one (show Kd.M (Kd.int .i64) _ _ _ 3 [.int .i64 3] from rfl) (Reps.none _ _)))); intro v539 w8 ho9 hb hg_ hnew_; clear hg_ hnew_; (first | rw [← Ny538.out] at ho9 | (simp only [Int.reduceToNat] at ho9; rw [← Ny538.out] at ho9)); have HO540 := Aside0.mk (Kd.R_lower ho9 (keep_size (w := w) (g := g) (row := none) z15_1)); replace HK := Aside0.mk (KeepBut.trans z15_1 (KeepBut.of_below hb g none) (.inl rfl)); replace HB := Aside0.mk (below_step z15_2 hb); replace HI0 := Aside0.mk (IsS99.below z15_3 hb); clear hb ho9) | ((with_reducible refine gate_callee (f := 78) rfl ?_); refine goesL_ (some 8) rfl rfl Try.func78 (by kernel_rfl) rfl #[.pointer (some ⟨g, 0, none⟩), .int .i64 2] rfl z15_4 ?_; (with_reducible refine (spec_l6Rd_pick.calls k g s0_0 t537 2 t541 t542 w0 _ ?side1 ?side2 A4.out).mono ?_); (case side1 => repeat (first | (with_reducible first | exact HI0.out | apply IsS99.alloc | apply IsS99.drewN | apply IsS99.drew | apply IsS99.set_1) | exact HI0.out)); (case side2 => repeat (first | (with_reducible first | exact HB.out | apply below_alloc | apply pw_below_drewN | apply below_drew1 | refine below_set ?_ (IsS99.ge HI0.out)) | exact HB.out)); rintro e w10 ⟨rfl, hi, hb, hk⟩; refine ⟨_, rfl, ?_⟩; replace HO540 := Aside0.mk (Kd.R_mono (Kd.R_keep (IsS99.apart (show IsS99 w0 _ g s0_0 t537 from by repeat (first | (with_reducible first | exact HI0.out | apply IsS99.alloc | apply IsS99.drewN | apply IsS99.drew | apply IsS99.set_1) | exact HI0.out)) (by (with_reducible repeat (first | apply Kd.R_alloc | apply Kd.R_drewN | apply Kd.R_drew)); exact HO540.out) (by decide)) hk (fun _ h => h.2)) (fun _ h => h.1)); replace HK := Aside0.mk (KeepBut.trans z15_1 hk (.inl rfl)); replace HB := Aside0.mk (hb); replace HI0 := Aside0.mk (hi); (try clear hb); obtain ⟨Ao11, co11, eo11⟩ := Kd.R_slice HO540.out; subst eo11; have p543 : 0 ≤ (t541 : Int) := of_decide_eq_true z15_8; have q543 : t541 < (y538.length : Int) := of_decide_eq_true z15_8; obtain ⟨ad543, e543, hx543_0⟩ := Kd.at_int (Kd.R_reads' HO540.out).2.2 t541 p543 q543; cases e543; replace p543 := eq_true p543; replace q543 := eq_true q543))
  go_ret; exact ⟨z15_6, z15_3, z15_2, z15_1⟩
 ·rw [if_neg c3] at H
  have c3b0 : (t536 == 0) = false := beq_eq_false_iff_ne.mpr c3
  have c3b1 : (t536 != 0) = true := bne_iff_ne.mpr c3
  replace H := Option.bind_eq_some_iff.mp H
  obtain ⟨⟨t544, t545⟩, A120, H⟩ := H
  dsimp only at H
  have A12 := Aside0.mk A120
  clear A120; simp only [Option.some.injEq, Prod.mk.injEq] at H; obtain ⟨rfl, rfl⟩ := H; go_enter Try.func76, Try.ntmps76
  go_wp2_with (first | ((with_reducible refine gate_callee (f := 78) rfl ?_); refine goesL_ (some 4) rfl rfl Try.func78 (by kernel_rfl) rfl #[.pointer (some ⟨g, 0, none⟩), .int .i64 40] rfl z15_4 ?_; (with_reducible refine (spec_l6Rd_pick.calls k g s0_0 s0_1 40 t536 t537 w0 _ ?side1 ?side2 A2.out).mono ?_); (case side1 => repeat (first | (with_reducible first | exact HI0.out | apply IsS99.alloc | apply IsS99.drewN | apply IsS99.drew | apply IsS99.set_1) | exact HI0.out)); (case side2 => repeat (first | (with_reducible first | exact HB.out | apply below_alloc | apply pw_below_drewN | apply below_drew1 | refine below_set ?_ (IsS99.ge HI0.out)) | exact HB.out)); rintro e w13 ⟨rfl, hi, hb, hk⟩; refine ⟨_, rfl, ?_⟩; replace HK := Aside0.mk (KeepBut.trans z15_1 hk (.inl rfl)); replace HB := Aside0.mk (hb); replace HI0 := Aside0.mk (hi); (try clear hb)) | ((with_reducible refine gate_callee (f := 78) rfl ?_); refine goesL_ (some 12) rfl rfl Try.func78 (by kernel_rfl) rfl #[.pointer (some ⟨g, 0, none⟩), .int .i64 2] rfl z15_4 ?_; (with_reducible refine (spec_l6Rd_pick.calls k g s0_0 t537 2 t544 t545 w0 _ ?side1 ?side2 A12.out).mono ?_); (case side1 => repeat (first | (with_reducible first | exact HI0.out | apply IsS99.alloc | apply IsS99.drewN | apply IsS99.drew | apply IsS99.set_1) | exact HI0.out)); (case side2 => repeat (first | (with_reducible first | exact HB.out | apply below_alloc | apply pw_below_drewN | apply below_drew1 | refine below_set ?_ (IsS99.ge HI0.out)) | exact HB.out)); rintro e w14 ⟨rfl, hi, hb, hk⟩; refine ⟨_, rfl, ?_⟩; replace HK := Aside0.mk (KeepBut.trans z15_1 hk (.inl rfl)); replace HB := Aside0.mk (hb); replace HI0 := Aside0.mk (hi); (try clear hb)))
  go_ret; exact ⟨z15_6, z15_3, z15_2, z15_1⟩

end Go.Proofs.Ytamaejafddmagaa.PA
