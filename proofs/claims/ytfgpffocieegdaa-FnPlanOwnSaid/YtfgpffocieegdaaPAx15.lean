import Derived.Test.YtfgpffocieegdaaPAx0
import Derived.Test.YtfgpffocieegdaaPAx10
import Derived.Test.YtfgpffocieegdaaPAx11
import Derived.Test.YtfgpffocieegdaaPAx12
import Derived.Test.YtfgpffocieegdaaGw
import Derived.Test.YtfgpffocieegdaaGm
import Derived.Test.YtfgpffocieegdaaGc
namespace Go.Proofs.Ytfgpffocieegdaa.PA
open Go.RowKit Go.Proofs.YtfgpffocieegdaaW.PrintWords Go.Proofs.YtfgpffocieegdaaW.PrintLast Go.Proofs.YtfgpffocieegdaaW.PrintMore
attribute [local go_sem] max2_int min2_int max_two min_two max_three min_three max_four min_four   -- for this text's walks alone
set_option linter.unusedVariables false
set_option linter.unusedSimpArgs false

/-! ### spec_l3By: function 60 -/
theorem z15_0 {p : Prop} (h : p := by repeat (first | (with_reducible first | exact HB.out | apply below_alloc | apply pw_below_drewN | apply below_drew1) | exact HB.out)) : p := h
theorem z15_1 {p : Prop} (h : p := by first | (with_reducible assumption) | assumption) : p := h
theorem z15_2 {p : Prop} (h : p := by (with_reducible repeat (first | apply Kd.N_alloc | apply Kd.N_drewN | apply Kd.N_drew)); exact HO_6.out) : p := h
theorem z15_3 {p : Prop} (h : p := by (with_reducible repeat (first | apply Kd.R_alloc | apply Kd.R_drewN | apply Kd.R_drew)); exact HO_9.out) : p := h
theorem z15_4 {p : Prop} (h : p := by (try simp only [List.map_toArray, List.map_cons, List.map_nil]); first | done | rfl | (simp only [List.length_drop, List.length_take]; rfl)) : p := h
theorem z15_5 {p : Prop} (h : p := by (with_reducible repeat (first | apply Kd.R_alloc | apply Kd.R_drewN | apply Kd.R_drew)); exact HO429.out) : p := h
theorem z15_6 {p : Prop} (h : p := by first | rfl | (simp; done) | (simp [*]; done)) : p := h
theorem z15_7 {p : Prop} (h : p := by repeat (first | (with_reducible exact HR455_0.out) | (with_reducible refine Kd.C_alloc ?_ _) | (with_reducible refine Kd.C_drewN ?_ _) | (with_reducible refine Kd.C_drew ?_) | exact HR455_0.out)) : p := h
theorem z15_8 {p : Prop} (h : p := by have := HK1.out; have := HK2.out; have := HK3.out; have := HK4.out; omega) : p := h
theorem z15_9 {p : Prop} (h : p := by repeat (first | (with_reducible exact HR453_0.out) | (with_reducible refine Kd.C_alloc ?_ _) | (with_reducible refine Kd.C_drewN ?_ _) | (with_reducible refine Kd.C_drew ?_) | exact HR453_0.out)) : p := h
theorem z15_10 {p : Prop} (h : p := by repeat (first | (with_reducible exact HR457_0.out) | (with_reducible refine Kd.C_alloc ?_ _) | (with_reducible refine Kd.C_drewN ?_ _) | (with_reducible refine Kd.C_drew ?_) | exact HR457_0.out)) : p := h
theorem z15_11 {p : Prop} (h : p := by repeat (first | (with_reducible exact HR458_0.out) | (with_reducible refine Kd.C_alloc ?_ _) | (with_reducible refine Kd.C_drewN ?_ _) | (with_reducible refine Kd.C_drew ?_) | exact HR458_0.out)) : p := h
theorem z15_12 {p : Prop} (h : p := by repeat (first | (with_reducible exact HR463_0.out) | (with_reducible refine Kd.C_alloc ?_ _) | (with_reducible refine Kd.C_drewN ?_ _) | (with_reducible refine Kd.C_drew ?_) | exact HR463_0.out)) : p := h
theorem z15_13 {p : Prop} (h : p := by (try simp only [hl6_4]); (with_reducible repeat (first | apply Kd.N_alloc | apply Kd.N_drewN | apply Kd.N_drew)); exact HO_6.out) : p := h
theorem z15_14 {p : Prop} (h : p := by (try simp only [hl6_4]); (with_reducible repeat (first | apply Kd.R_alloc | apply Kd.R_drewN | apply Kd.R_drew)); exact HO_9.out) : p := h
mutual
def spec_l3By.l0 : Nat → List (List Int) → List Int → List (List Int) → Int → Option (List Int × Bool)
  | 0, _, _, _, _ => none
  | k + 1, x0, x1, x6, x7 => if x7 < (x0.length : Int) then (if 0 ≤ (x0.length : Int) then (if ((x0.length : Int) : Int).toNat ≤ 35184372088832 then ((some (List.replicate ((x0.length : Int) : Int).toNat 0 : List Int)).bind fun y427 => (if 0 ≤ x7 then (if x7 < (y427.length : Int) then ((some (y427.set (x7 : Int).toNat 1 : List Int)).bind fun y430 => ((some (([] : List Int) : List Int)).bind fun y431 => (if y431.length + (rd_L6 x0 x7).length < 17592186044416 then ((some (y431 ++ (rd_L6 x0 x7) : List Int)).bind fun y435 => (if y435.length + y430.length < 17592186044416 then (if x6.length < 5864062014805 then (spec_l3By.l0 k x0 x1 (x6 ++ [(y435 ++ y430)]) (wrap64 (x7 + 1))) else (none)) else (none))) else (none)))) else (none)) else (none))) else (none)) else (none)) else ((some (([] : List Int) : List Int)).bind fun y444 => (if y444.length + x1.length < 17592186044416 then ((some (y444 ++ x1 : List Int)).bind fun y447 => (if 0 ≤ (x0.length : Int) then (if y447.length + ((x0.length : Int) : Int).toNat < 17592186044416 then (spec_l3By.l1 k x6 (y447 ++ List.replicate ((x0.length : Int) : Int).toNat 0) 0) else (none)) else (none))) else (none)))
def spec_l3By.l1 : Nat → List (List Int) → List Int → Int → Option (List Int × Bool)
  | 0, _, _, _ => none
  | k + 1, x6, x9, x10 => if x10 < 4 then (spec_l3By.l2 k x6 x9 x10 0) else ((spec_l2Lead.f k x9).bind fun t467 => ((spec_l6In.f t467 0 3).bind fun t468 => (if t468 = true then (some ((([] : List Int)), false)) else (if 4 ≤ (x9.length : Int) then ((spec_l2Scale.f k (x9.drop 4) 30).bind fun t477 => (some (t477, true))) else (none)))))
def spec_l3By.l2 : Nat → List (List Int) → List Int → Int → Int → Option (List Int × Bool)
  | 0, _, _, _, _ => none
  | k + 1, x6, x9, x10, x11 => if x11 < (x6.length : Int) then (if 0 ≤ x11 then ((spec_l2Lead.f k (rd_L6 x6 x11)).bind fun t454 => (if t454 = x10 then (spec_l3By.l3 k x6 x9 x10 x11 0) else (spec_l3By.l2 k x6 x9 x10 (wrap64 (x11 + 1))))) else (none)) else (spec_l3By.l1 k x6 x9 (wrap64 (x10 + 1)))
def spec_l3By.l3 : Nat → List (List Int) → List Int → Int → Int → Int → Option (List Int × Bool)
  | 0, _, _, _, _, _ => none
  | k + 1, x6, x9, x10, x11, x12 => if x12 < (x6.length : Int) then (if x12 = x11 then (spec_l3By.l3 k x6 x9 x10 x11 (wrap64 (x12 + 1))) else (if 0 ≤ x12 then (if 0 ≤ x10 then (if x10 < ((rd_L6 x6 x12).length : Int) then (if (rd (rd_L6 x6 x12) x10) = 0 then (spec_l3By.l3 k x6 x9 x10 x11 (wrap64 (x12 + 1))) else (if 0 ≤ x11 then (if x11 < (x6.length : Int) then ((spec_l3Less.f k (rd_L6 x6 x12) (rd_L6 x6 x11)).bind fun t459 => (spec_l3By.l3 k (x6.set (x12 : Int).toNat t459) x9 x10 x11 (wrap64 (x12 + 1)))) else (none)) else (none))) else (none)) else (none)) else (none))) else (if 0 ≤ x11 then (if x11 < (x6.length : Int) then ((spec_l3Less.f k x9 (rd_L6 x6 x11)).bind fun t464 => (spec_l3By.l1 k x6 t464 (wrap64 (x10 + 1)))) else (none)) else (none))
end
def spec_l3By.f (k : Nat) (l0 : List (List Int)) (l1 : List Int) : Option (List Int × Bool) := spec_l3By.l0 k l0 l1 (([] : List (List Int))) 0
def spec_l3By.T20 : Bool × List (List Nat × List Nat) := (true, [([], []), ([], []), ([], []), ([], []), ([2, 3], [2, 3]), ([4], [4]), ([], []), ([], []), ([6, 7], [6, 7]), ([8], [8]), ([5, 9], [5, 9]), ([0, 1, 0, 1, 2, 3, 4, 5, 6, 7, 8, 9, 10], [0, 1]), ([11, 10, 10, 0, 1, 2, 3, 4, 5, 6, 7, 8, 9, 10], [10, 11])])
def spec_l3By.B20 : List Nat := [0, 0, 0, 0, 12, 28, 0, 0, 192, 448, 1020, 2047, 4095]
theorem spec_l3By.tab20 : rtab .any (opsOf Try.f60 20) = spec_l3By.T20 := by kernel_rfl
theorem spec_l3By.bits20 : waitsOk spec_l3By.T20.2 spec_l3By.B20 = true := by kernel_rfl
set_option maxHeartbeats 8000000 in
set_option maxRecDepth 100000 in
theorem spec_l3By.calls (k : Nat) (A0 : Option Addr) (c0 : Nat) (l0 : List (List Int)) (A1 : Option Addr) (c1 : Nat) (l1 : List Int) (r1 : List Int) (r2 : Bool) (w : World) (hr0 : Kd.C (Kd.slice 3 (Kd.int .i64)) w A0 l0.length l0) (hc0 : l0.length ≤ c0) (hr1 : Kd.C (Kd.int .i64) w A1 l1.length l1) (hc1 : l1.length ≤ c1) (h : spec_l3By.f k l0 l1 = some (r1, r2)) :
  Calls Try.prog 60 #[.slice A0 l0.length c0, .slice A1 l1.length c1] w fun e w' => ∃ v0_ : Value, e = .returned (.tuple #[v0_, .bool r2]) ∧ Kd.R (Kd.int .i64) 3 w' w.heap.size (fun _ => True) v0_ r1 ∧ Below w.heap.size w w' := by
 have HR0 := Aside0.mk hr0
 have HC0 := Aside0.mk hc0
 clear hr0 hc0
 have HR1 := Aside0.mk hr1
 have HC1 := Aside0.mk hc1
 clear hr1 hc1
 have HB := Aside0.mk (Below.refl w.heap.size w)
 try unfold spec_l3By.f at h
 have H := h
 clear h
 obtain ⟨y424, hy424⟩ : ∃ y_ : List (List Int), y_ = (([] : List (List Int))) := ⟨_, rfl⟩
 replace H : (spec_l3By.l0 k l0 l1 y424 0) = some (r1, r2) := yZZ_ hy424 H
 have Ny424 := Aside0.mk hy424
 clear hy424
 have H' := Aside0.mk H
 clear H
 go_enter Try.func60, Try.ntmps60
 go_wp2_with (first | ((with_reducible refine gate_dst (N := 13) rfl ?_); refine Kd.N_lit (Kd.slice 3 (Kd.int .i64)) _ 28 ?hg (N' := 13) ?hd (xs := ([] : List (List Int))) (inner := []) (ok := (fun _ => True)) (okp := (fun _ => True)) ?hr ?hp (fun _ hk => hk) ((show ∀ k_, w.heap.size ≤ k_ → (fun _ => True) k_ from fun k_ hk => trivial) _ (Nat.le_refl _)) (Below.refl _ _) (Nat.le_refl _) (by simp) ?_; (case hd => rfl); (case hg => rfl); (case hr => first | (go_simp; done) | (go_simp; rfl)); (case hp => exact (Reps.none _ _)); intro v425 w3 ho4 hb hg_ hnew_; clear hg_ hnew_; (first | rw [← Ny424.out] at ho4 | (simp only [Int.reduceToNat] at ho4; rw [← Ny424.out] at ho4)); have HO426 := Aside0.mk (Kd.N_lower ho4 (below_size z15_0)); replace HB := Aside0.mk (below_step z15_0 hb); clear hb ho4))
 go_loopg [6, 7] k (fun kq v6 v7 w' => ∃ (x6_1 : List (List Int)) (x7_1 : Int), v7 = .int .i64 x7_1 ∧ Aside0 (spec_l3By.l0 kq l0 l1 x6_1 x7_1 = some (r1, r2)) ∧ Aside0 (kq ≤ k) ∧ Aside0 (Kd.N (Kd.slice 3 (Kd.int .i64)) 28 w' w.heap.size (fun _ => True) v6 x6_1) ∧ Aside0 (Below w.heap.size w w'))
 case atStart => exact ⟨(y424), (0), z15_6, H', ⟨Nat.le_refl _⟩, ⟨by (with_reducible repeat (first | apply Kd.N_alloc | apply Kd.N_drewN | apply Kd.N_drew)); exact HO426.out⟩, ⟨z15_0⟩⟩
 case round =>
  clear H'
  try clear c1
  obtain ⟨x6_1, x7_1, rfl, HA, HK1, HO_6, HB⟩ := hrel
  cases gk with
  | zero => exact absurd HA.out (by simp [spec_l3By.l0])
  | succ k1 =>
   have H := HA.out
   clear HA; simp only [spec_l3By.l0] at H
   by_cases c5 : x7_1 < (l0.length : Int)
   ·rw [if_pos c5] at H
    have c5b0 : decide (x7_1 < (l0.length : Int)) = true := decide_eq_true c5; clear c5; obtain ⟨c6, H⟩ := ifP H
    have c6b0 := eq_true c6
    have c6b1 : decide (0 ≤ (l0.length : Int)) = true := decide_eq_true c6; clear c6; obtain ⟨c7, H⟩ := ifP H
    have c7b0 := eq_true c7
    have c7b1 : decide (((l0.length : Int) : Int).toNat ≤ 35184372088832) = true := decide_eq_true c7; clear c7
    obtain ⟨y427, hy427⟩ : ∃ y_ : List Int, y_ = (List.replicate ((l0.length : Int) : Int).toNat 0) := ⟨_, rfl⟩
    replace H : (if 0 ≤ x7_1 then (if x7_1 < (y427.length : Int) then ((some (y427.set (x7_1 : Int).toNat 1 : List Int)).bind fun y430 => ((some (([] : List Int) : List Int)).bind fun y431 => (if y431.length + (rd_L6 l0 x7_1).length < 17592186044416 then ((some (y431 ++ (rd_L6 l0 x7_1) : List Int)).bind fun y435 => (if y435.length + y430.length < 17592186044416 then (if x6_1.length < 5864062014805 then (spec_l3By.l0 k1 l0 l1 (x6_1 ++ [(y435 ++ y430)]) (wrap64 (x7_1 + 1))) else (none)) else (none))) else (none)))) else (none)) else (none)) = some (r1, r2) := yZZ_ hy427 H
    have Ny427 := Aside0.mk hy427
    clear hy427; obtain ⟨c8, H⟩ := ifP H; have c8b0 : decide (0 ≤ x7_1) = true := decide_eq_true c8; clear c8; obtain ⟨c9, H⟩ := ifP H; have c9b0 : decide (x7_1 < (y427.length : Int)) = true := decide_eq_true c9; clear c9
    obtain ⟨y430, hy430⟩ : ∃ y_ : List Int, y_ = (y427.set (x7_1 : Int).toNat 1) := ⟨_, rfl⟩
    replace H : ((some (([] : List Int) : List Int)).bind fun y431 => (if y431.length + (rd_L6 l0 x7_1).length < 17592186044416 then ((some (y431 ++ (rd_L6 l0 x7_1) : List Int)).bind fun y435 => (if y435.length + y430.length < 17592186044416 then (if x6_1.length < 5864062014805 then (spec_l3By.l0 k1 l0 l1 (x6_1 ++ [(y435 ++ y430)]) (wrap64 (x7_1 + 1))) else (none)) else (none))) else (none))) = some (r1, r2) := yZZ_ hy430 H
    have Ny430 := Aside0.mk hy430
    clear hy430
    obtain ⟨y431, hy431⟩ : ∃ y_ : List Int, y_ = (([] : List Int)) := ⟨_, rfl⟩
    replace H : (if y431.length + (rd_L6 l0 x7_1).length < 17592186044416 then ((some (y431 ++ (rd_L6 l0 x7_1) : List Int)).bind fun y435 => (if y435.length + y430.length < 17592186044416 then (if x6_1.length < 5864062014805 then (spec_l3By.l0 k1 l0 l1 (x6_1 ++ [(y435 ++ y430)]) (wrap64 (x7_1 + 1))) else (none)) else (none))) else (none)) = some (r1, r2) := yZZ_ hy431 H
    have Ny431 := Aside0.mk hy431
    clear hy431; obtain ⟨c11, H⟩ := ifP H
    have LMc11 := Aside0.mk c11
    clear c11
    obtain ⟨y435, hy435⟩ : ∃ y_ : List Int, y_ = (y431 ++ (rd_L6 l0 x7_1)) := ⟨_, rfl⟩
    replace H : (if y435.length + y430.length < 17592186044416 then (if x6_1.length < 5864062014805 then (spec_l3By.l0 k1 l0 l1 (x6_1 ++ [(y435 ++ y430)]) (wrap64 (x7_1 + 1))) else (none)) else (none)) = some (r1, r2) := yZZ_ hy435 H
    have Ny435 := Aside0.mk hy435
    clear hy435; obtain ⟨c12, H⟩ := ifP H
    have LMc12 := Aside0.mk c12
    clear c12
    obtain ⟨y438, hy438⟩ : ∃ y_ : List Int, y_ = (y435 ++ y430) := ⟨_, rfl⟩
    replace H : (if x6_1.length < 5864062014805 then (spec_l3By.l0 k1 l0 l1 (x6_1 ++ [y438]) (wrap64 (x7_1 + 1))) else (none)) = some (r1, r2) := yZZ_ hy438 H
    have Ny438 := Aside0.mk hy438
    clear hy438; obtain ⟨c13, H⟩ := ifP H
    have LMc13 := Aside0.mk c13
    clear c13
    obtain ⟨y441, hy441⟩ : ∃ y_ : List (List Int), y_ = (x6_1 ++ [y438]) := ⟨_, rfl⟩
    replace H : (spec_l3By.l0 k1 l0 l1 y441 (wrap64 (x7_1 + 1))) = some (r1, r2) := yZZ_ hy441 H
    have Ny441 := Aside0.mk hy441
    clear hy441
    have H' := Aside0.mk H
    clear H
    go_wp2_with (first | ((with_reducible refine gate_dst (N := 22) rfl ?_); refine Kd.R_make (Kd.int .i64) _ 3 rfl (N := 22) rfl 28 _ _ rfl (l0.length : Int) rfl rfl Try.underlying28 (.int .i64 0) 8 info3 rfl (by decide) (by omega) 0 (ok := fun _ => True) (okp := fun _ => True) rfl (fun _ hk => hk) trivial (of_decide_eq_true z15_1) (Nat.le_trans (Nat.mul_le_mul_right _ (of_decide_eq_true z15_1 : (l0.length : Int).toNat ≤ 35184372088832)) (by omega)) (Below.refl _ _) (Nat.le_refl _) ?_; intro v428 w14 ho15 hb hg_ hnew_; clear hg_ hnew_; (first | rw [← Ny427.out] at ho15 | (simp only [Int.reduceToNat] at ho15; rw [← Ny427.out] at ho15)); replace HO_6 := Aside0.mk (Kd.N_elder' z15_2 (Kd.R_base ho15) hb); have HO429 := Aside0.mk (Kd.R_lower ho15 (below_size z15_0)); replace HB := Aside0.mk (below_step z15_0 hb); clear hb ho15; have p10 : 0 ≤ (x7_1 : Int) := of_decide_eq_true z15_1; have q10 : (x7_1 : Int) < ((y427.length : Int) : Int) := of_decide_eq_true z15_1; obtain ⟨go10, co10, eo10, gb10, gl10, cl10, HG10⟩ := Kd.R_form HO429.out (by omega); (first | cases eo10 | (injection eo10 with ea_ en_ ec_; (first | subst ea_ | (injection ea_ with ea_; subst ea_)); subst ec_; clear en_)); have GB10 := Aside0.mk gb10; have GG10 := Aside0.mk HG10; clear gb10 gl10 HG10; obtain ⟨hx10_0, hf10_0⟩ := Kd.R_celln 0 HO429.out (x7_1 : Int) p10 q10; replace p10 := eq_true p10; replace q10 := eq_true q10; obtain ⟨hy16_, hz16_⟩ := Kd.R_celln 0 HO429.out (x7_1 : Int) (of_decide_eq_true z15_1) (of_decide_eq_true z15_1); have HP16 := Kd.R_putg HO429.out (x7_1 : Int) 1) | ((with_reducible refine gate_store (t := 3) (p := 25) rfl ?_); refine store_event (t := 3) (p := 25) (v := ?vo_w17) (w1 := (w14.setCell ⟨go10, (x7_1 : Int).toNat, none⟩ (.int .i64 1))) ?hg ?ho ?hn ?hr ?_; (case ho => rfl); (case hg => rfl); (case hn => rfl); (case hr => first | (go_simp; done) | (go_simp; rfl)); intro w17 hw; have hg : w14.grownBy w17 (some go10) := (by rw [hw]; exact HP16.2); have hp_ : Kd.R (Kd.int .i64) 3 w17 w.heap.size (fun _ => True) (.slice (some ⟨go10, 0, none⟩) y427.length co10) y430 := (by rw [hw, Ny430.out]; exact HP16.1); clear HP16; replace HO_6 := Aside0.mk (Kd.N_afterv (v := (.slice (some ⟨go10, 0, none⟩) y427.length co10)) (v1 := (.slice (some ⟨go10, 0, none⟩) y427.length co10)) (ok := (fun _ => True)) z15_2 hg (.inl rfl)); replace HO429 := Aside0.mk (hp_); replace HB := Aside0.mk ((by rw [hw]; exact below_set (HB.out) GB10.out : Below w.heap.size w w17)); clear hg hw hp_) | ((with_reducible refine gate_dst (N := 27) rfl ?_); refine Kd.R_lit (Kd.int .i64) _ 3 ?hg (N := 27) ?hd (xs := ([] : List Int)) (inner := []) (ok := fun _ => True) (okp := fun _ => True) ?hr ?hp (fun _ hk => hk) trivial (Below.refl _ _) (Nat.le_refl _) (by simp) ?_; (case hd => rfl); (case hg => rfl); (case hr => first | (go_simp; done) | (go_simp; rfl)); (case hp => exact (Reps.none _ _)); intro v432 w18 ho19 hb hg_ hnew_; clear hg_ hnew_; (first | rw [← Ny431.out] at ho19 | (simp only [Int.reduceToNat] at ho19; rw [← Ny431.out] at ho19)); replace HO_6 := Aside0.mk (Kd.N_elder' z15_2 (Kd.R_base ho19) hb); have HO433 := Aside0.mk (Kd.R_lower (Kd.R_new' ho19 (Kd.R_lt z15_5)) (below_size z15_0)); replace HO429 := Aside0.mk (Kd.R_elder' z15_5 (Kd.R_base ho19) hb); replace HB := Aside0.mk (below_step z15_0 hb); clear hb ho19; have p434 : 0 ≤ (x7_1 : Int) := of_decide_eq_true z15_1; have q434 : x7_1 < (l0.length : Int) := of_decide_eq_true z15_1; obtain ⟨ad434, A434_0, c434_0, e434, hx434_0, hl434_0, hi434_0⟩ := at_L6 HR0.out x7_1 p434 q434; cases e434; replace hx434_0 := (HB.out.cell (World.block_lt_of_cell? w _ hx434_0)).trans hx434_0; have HR434_0 := Aside0.mk hi434_0; have HC434_0 := Aside0.mk hl434_0; clear hi434_0 hl434_0; replace p434 := eq_true p434; replace q434 := eq_true q434) | ((with_reducible refine gate_builtin (b := .append) (xs := #[.tmp 27, .tmp 31]) rfl ?_); at_builtin; refine Kd.R_append_rows (Kd.int .i64) (w0 := w) w.heap.size rfl (.tmp 27) (.tmp 31) 28 3 (.int .i64 0) 8 rfl Try.underlying28 info3 rfl (by decide) (by omega) v432 y431 (rd_L6 l0 x7_1) _ _ _ (fun k_ => some k_ ≠ (.slice (some ⟨go10, 0, none⟩) y427.length co10 : Value).ownBlock) (fun _ => False) rfl rfl ?aO ?aR (fun _ _ h => h) (fun _ h => h.elim) ?aF ?aB ?aS ?aL ?_; (case aR => repeat (first | exact (Kd.C_below HR434_0.out HB.out) | (with_reducible refine Kd.C_alloc ?_ _) | (with_reducible refine Kd.C_drewN ?_ _) | (with_reducible refine Kd.C_drew ?_))); (case aB => exact z15_0); (case aF => exact (fun k_ hk => Kd.fresh' (Kd.R_lt z15_5) k_ hk)); (case aO => exact (by (with_reducible repeat (first | apply Kd.R_alloc | apply Kd.R_drewN | apply Kd.R_drew)); exact Kd.R_mono HO433.out (fun _ hk => hk.2))); (case aS => exact (below_size z15_0)); (case aL => have := LMc11.out; omega); intro v436 w20 ho hb hg hat; rw [← Ny435.out] at ho; have n0_ := Aside0.mk (Kd.N_afterv (ok := (fun k_ => some k_ ≠ (.slice (some ⟨go10, 0, none⟩) y427.length co10 : Value).ownBlock)) (by (with_reducible repeat (first | apply Kd.N_alloc | apply Kd.N_drewN | apply Kd.N_drew)); exact Kd.N_mono HO_6.out (fun _ hk => ⟨hk.1.2, hk.2⟩)) hg hat); have n1_ := Aside0.mk (Kd.R_after (ok := (fun _ => True)) z15_5 hg hat); have n2_ := Aside0.mk (hb); have n3_ := Aside0.mk (ho); clear HO_6; clear HO429; clear HB; clear HO433; have HO_6 := n0_; have HO429 := n1_; have HB := n2_; have HO437 := n3_; clear n0_ n1_ n2_ n3_; clear ho hb hg hat) | ((with_reducible refine gate_builtin (b := .append) (xs := #[.tmp 32, .tmp 33]) rfl ?_); at_builtin; refine Kd.R_append_rows (Kd.int .i64) (w0 := w) w.heap.size rfl (.tmp 32) (.tmp 33) 28 3 (.int .i64 0) 8 rfl Try.underlying28 info3 rfl (by decide) (by omega) v436 y435 y430 _ _ _ (fun k_ => some k_ ≠ (.slice (some ⟨go10, 0, none⟩) y427.length co10 : Value).ownBlock) (fun _ => False) rfl rfl ?aO ?aR (fun _ _ h => h) (fun _ h => h.elim) ?aF ?aB ?aS ?aL ?_; (case aR => rw [show y427.length = y430.length from (Kd.R_reads' HO429.out).1]; repeat (first | exact (Kd.R_reads' HO429.out).2.2 | (with_reducible refine Kd.C_alloc ?_ _) | (with_reducible refine Kd.C_drewN ?_ _) | (with_reducible refine Kd.C_drew ?_))); (case aB => exact z15_0); (case aF => exact (fun k_ hk => Kd.fresh' (Kd.R_lt z15_5) k_ hk)); (case aO => exact (by (with_reducible repeat (first | apply Kd.R_alloc | apply Kd.R_drewN | apply Kd.R_drew)); exact HO437.out)); (case aS => exact (below_size z15_0)); (case aL => have := LMc12.out; have hlx_ := (Kd.R_reads' HO429.out).1; omega); intro v439 w21 ho hb hg hat; rw [← Ny438.out] at ho; have n0_ := Aside0.mk (Kd.N_afterv (ok := (fun k_ => some k_ ≠ (.slice (some ⟨go10, 0, none⟩) y427.length co10 : Value).ownBlock)) z15_2 hg hat); have n1_ := Aside0.mk (Kd.R_after (ok := (fun _ => True)) z15_5 hg hat); have n2_ := Aside0.mk (hb); have n3_ := Aside0.mk (ho); clear HO_6; clear HO429; clear HB; clear HO437; have HO_6 := n0_; have HO429 := n1_; have HB := n2_; have HO440 := n3_; clear n0_ n1_ n2_ n3_; clear ho hb hg hat; obtain ⟨Ao23, co23, eo23⟩ := Kd.R_slice HO440.out; subst eo23) | ((with_reducible refine gate_builtin (b := .append) (xs := #[.tmp 26, .tmp 35]) rfl ?_); at_builtin; refine Kd.N_append (Kd.slice 3 (Kd.int .i64)) (w0 := w) w.heap.size rfl (.tmp 26) (.tmp 35) 85 28 (.slice none 0 0) 24 rfl Try.underlying85 info28 rfl (by decide) (by omega) u6 x6_1 y438 [.slice Ao23 y438.length co23] (fun k_ => some k_ ≠ (.slice (some ⟨go10, 0, none⟩) y427.length co10 : Value).ownBlock) (fun k_ => ((fun k_ => some k_ ≠ (.slice (some ⟨go10, 0, none⟩) y427.length co10 : Value).ownBlock)) k_ ∧ some k_ ≠ (u6 : Value).ownBlock) rfl rfl ?aP (fun _ hk => hk) ?aF ?aO ?aB ?aS ?aL ?_; (case aP => exact (Kd.FK_slice_mk (Kd.R_reads' (Kd.R_mono (ok' := (fun k_ => ((fun k_ => some k_ ≠ (.slice (some ⟨go10, 0, none⟩) y427.length co10 : Value).ownBlock)) k_ ∧ some k_ ≠ (u6 : Value).ownBlock)) (Kd.R_apart' (HO440.out) (Kd.N_typed HO_6.out) (by decide)) (fun k_ hk => ⟨hk.1, hk.2⟩))).2.1 (Kd.R_F (Kd.R_mono (ok' := (fun k_ => ((fun k_ => some k_ ≠ (.slice (some ⟨go10, 0, none⟩) y427.length co10 : Value).ownBlock)) k_ ∧ some k_ ≠ (u6 : Value).ownBlock)) (Kd.R_apart' (HO440.out) (Kd.N_typed HO_6.out) (by decide)) (fun k_ hk => ⟨hk.1, hk.2⟩))))); (case aB => exact z15_0); (case aF => exact (fun k_ hk => Kd.fresh' (Kd.R_lt z15_5) k_ hk)); (case aO => exact (by (with_reducible repeat (first | apply Kd.N_alloc | apply Kd.N_drewN | apply Kd.N_drew)); exact Kd.N_mono HO_6.out (fun _ hk => hk.1))); (case aS => exact (below_size z15_0)); (case aL => have := LMc13.out; omega); intro v442 w22 ho hb hg hat; rw [← Ny441.out] at ho; have n0_ := Aside0.mk (Kd.R_over' z15_5 (Kd.N_typed z15_2) (by decide) hg); have n1_ := Aside0.mk (hb); have n2_ := Aside0.mk (ho); clear HO429; clear HB; clear HO_6; clear HO440; have HO429 := n0_; have HB := n1_; have HO443 := n2_; clear n0_ n1_ n2_; clear ho hb hg hat))
    go_roundg k1
    case measure => have := HK1.out; omega
    case rel => exact ⟨(y441), (wrap64 (x7_1 + 1)), z15_6, H', ⟨by have := HK1.out; omega⟩, ⟨by (with_reducible repeat (first | apply Kd.N_alloc | apply Kd.N_drewN | apply Kd.N_drew)); exact Kd.N_mono HO443.out (fun _ hk => trivial)⟩, ⟨z15_0⟩⟩
   ·rw [if_neg c5] at H
    have c5b0 : decide (x7_1 < (l0.length : Int)) = false := decide_eq_false c5; clear c5
    obtain ⟨y444, hy444⟩ : ∃ y_ : List Int, y_ = (([] : List Int)) := ⟨_, rfl⟩
    replace H : (if y444.length + l1.length < 17592186044416 then ((some (y444 ++ l1 : List Int)).bind fun y447 => (if 0 ≤ (l0.length : Int) then (if y447.length + ((l0.length : Int) : Int).toNat < 17592186044416 then (spec_l3By.l1 k1 x6_1 (y447 ++ List.replicate ((l0.length : Int) : Int).toNat 0) 0) else (none)) else (none))) else (none)) = some (r1, r2) := yZZ_ hy444 H
    have Ny444 := Aside0.mk hy444
    clear hy444; obtain ⟨c24, H⟩ := ifP H
    have LMc24 := Aside0.mk c24
    clear c24
    obtain ⟨y447, hy447⟩ : ∃ y_ : List Int, y_ = (y444 ++ l1) := ⟨_, rfl⟩
    replace H : (if 0 ≤ (l0.length : Int) then (if y447.length + ((l0.length : Int) : Int).toNat < 17592186044416 then (spec_l3By.l1 k1 x6_1 (y447 ++ List.replicate ((l0.length : Int) : Int).toNat 0) 0) else (none)) else (none)) = some (r1, r2) := yZZ_ hy447 H
    have Ny447 := Aside0.mk hy447
    clear hy447; obtain ⟨c25, H⟩ := ifP H
    have c25b0 := eq_true c25
    have c25b1 : decide (0 ≤ (l0.length : Int)) = true := decide_eq_true c25; clear c25; obtain ⟨c26, H⟩ := ifP H
    have LMc26 := Aside0.mk c26
    clear c26
    obtain ⟨y450, hy450⟩ : ∃ y_ : List Int, y_ = (y447 ++ List.replicate ((l0.length : Int) : Int).toNat 0) := ⟨_, rfl⟩
    replace H : (spec_l3By.l1 k1 x6_1 y450 0) = some (r1, r2) := yZZ_ hy450 H
    have Ny450 := Aside0.mk hy450
    clear hy450
    have H' := Aside0.mk H
    clear H
    go_wp2_with (first | ((with_reducible refine gate_dst (N := 37) rfl ?_); refine Kd.R_lit (Kd.int .i64) _ 3 ?hg (N := 37) ?hd (xs := ([] : List Int)) (inner := []) (ok := fun _ => True) (okp := fun _ => True) ?hr ?hp (fun _ hk => hk) trivial (Below.refl _ _) (Nat.le_refl _) (by simp) ?_; (case hd => rfl); (case hg => rfl); (case hr => first | (go_simp; done) | (go_simp; rfl)); (case hp => exact (Reps.none _ _)); intro v445 w27 ho28 hb hg_ hnew_; clear hg_ hnew_; (first | rw [← Ny444.out] at ho28 | (simp only [Int.reduceToNat] at ho28; rw [← Ny444.out] at ho28)); replace HO_6 := Aside0.mk (Kd.N_elder' z15_2 (Kd.R_base ho28) hb); have HO446 := Aside0.mk (Kd.R_lower ho28 (below_size z15_0)); replace HB := Aside0.mk (below_step z15_0 hb); clear hb ho28) | ((with_reducible refine gate_builtin (b := .append) (xs := #[.tmp 37, .tmp 38]) rfl ?_); at_builtin; refine Kd.R_append_rows (Kd.int .i64) (w0 := w) w.heap.size rfl (.tmp 37) (.tmp 38) 28 3 (.int .i64 0) 8 rfl Try.underlying28 info3 rfl (by decide) (by omega) v445 y444 l1 _ _ _ (fun _ => True) (fun _ => False) rfl rfl ?aO ?aR (fun _ _ h => h) (fun _ h => h.elim) ?aF ?aB ?aS ?aL ?_; (case aR => repeat (first | exact (Kd.C_below HR1.out HB.out) | (with_reducible refine Kd.C_alloc ?_ _) | (with_reducible refine Kd.C_drewN ?_ _) | (with_reducible refine Kd.C_drew ?_))); (case aB => exact z15_0); (case aF => exact (fun _ _ => trivial)); (case aO => exact (by (with_reducible repeat (first | apply Kd.R_alloc | apply Kd.R_drewN | apply Kd.R_drew)); exact HO446.out)); (case aS => exact (below_size z15_0)); (case aL => have := LMc24.out; omega); intro v448 w29 ho hb hg hat; rw [← Ny447.out] at ho; have n0_ := Aside0.mk (Kd.N_afterv (ok := (fun _ => True)) z15_2 hg hat); have n1_ := Aside0.mk (hb); have n2_ := Aside0.mk (ho); clear HO_6; clear HB; clear HO446; have HO_6 := n0_; have HB := n1_; have HO449 := n2_; clear n0_ n1_ n2_; clear ho hb hg hat) | (at_builtin; refine Kd.R_append_zeros (Kd.int .i64) (w0 := w) w.heap.size rfl (.tmp 39) (.tmp 41) 28 3 3 (.int .i64 0) 8 rfl Try.underlying28 Try.underlying3 info3 rfl (by decide) (by omega) v448 y447 0 ((l0.length : Int) : Int) (fun _ => True) rfl rfl rfl ?aF ?aO (of_decide_eq_true z15_1) ?aB ?aS ?aL ?_; (case aB => exact z15_0); (case aF => exact (fun _ _ => trivial)); (case aO => exact (by (with_reducible repeat (first | apply Kd.R_alloc | apply Kd.R_drewN | apply Kd.R_drew)); exact HO449.out)); (case aS => exact (below_size z15_0)); (case aL => have := LMc26.out; omega); intro v451 w30 ho hb hg hat; rw [← Ny450.out] at ho; have n0_ := Aside0.mk (Kd.N_afterv (ok := (fun _ => True)) z15_2 hg hat); have n1_ := Aside0.mk (hb); have n2_ := Aside0.mk (ho); clear HO_6; clear HB; clear HO449; have HO_6 := n0_; have HB := n1_; have HO452 := n2_; clear n0_ n1_ n2_; clear ho hb hg hat))
    go_loopg [9, 10] k1 (fun kq v9 v10 w' => ∃ (x6_2 : List (List Int)) (x9_2 : List Int) (x10_2 : Int), v10 = .int .i64 x10_2 ∧ Aside0 (spec_l3By.l1 kq x6_2 x9_2 x10_2 = some (r1, r2)) ∧ Aside0 (kq ≤ k1) ∧ Aside0 (Kd.N (Kd.slice 3 (Kd.int .i64)) 28 w' w.heap.size (fun k_ => some k_ ≠ (v9 : Value).ownBlock) u6 x6_2) ∧ Aside0 (Kd.R (Kd.int .i64) 3 w' w.heap.size (fun _ => True) v9 x9_2) ∧ Aside0 (Below w.heap.size w w'))
    case atStart => exact ⟨(x6_1), (y450), (0), z15_6, H', ⟨Nat.le_refl _⟩, ⟨by (with_reducible repeat (first | apply Kd.N_alloc | apply Kd.N_drewN | apply Kd.N_drew)); exact Kd.N_mono HO_6.out (fun _ hk => hk.2)⟩, ⟨by (with_reducible repeat (first | apply Kd.R_alloc | apply Kd.R_drewN | apply Kd.R_drew)); exact HO452.out⟩, ⟨z15_0⟩⟩
    case round =>
     clear H'
     try clear c1
     try clear c5
     try clear c5b0
     try clear c24
     try clear c25
     try clear c25b0
     try clear c25b1
     try clear c26
     obtain ⟨x6_2, x9_2, x10_2, rfl, HA, HK2, HO_6, HO_9, HB⟩ := hrel
     cases gk with
     | zero => exact absurd HA.out (by simp [spec_l3By.l1])
     | succ k2 =>
      have H := HA.out
      clear HA; simp only [spec_l3By.l1] at H
      by_cases c31 : x10_2 < 4
      ·rw [if_pos c31] at H
       have c31b0 : decide (x10_2 < 4) = true := decide_eq_true c31; clear c31
       have H' := Aside0.mk H
       clear H
       go_wp2
       go_loopg [9, 11] k2 (fun kq v9 v11 w' => ∃ (x6_3 : List (List Int)) (x9_3 : List Int) (x11_3 : Int), v11 = .int .i64 x11_3 ∧ Aside0 (spec_l3By.l2 kq x6_3 x9_3 x10_2 x11_3 = some (r1, r2)) ∧ Aside0 (kq ≤ k2) ∧ Aside0 (Kd.N (Kd.slice 3 (Kd.int .i64)) 28 w' w.heap.size (fun k_ => some k_ ≠ (v9 : Value).ownBlock) u6 x6_3) ∧ Aside0 (Kd.R (Kd.int .i64) 3 w' w.heap.size (fun _ => True) v9 x9_3) ∧ Aside0 (Below w.heap.size w w'))
       case atStart => exact ⟨(x6_2), (x9_2), (0), z15_6, H', ⟨Nat.le_refl _⟩, ⟨z15_2⟩, ⟨z15_3⟩, ⟨z15_0⟩⟩
       case round =>
        clear H'
        try clear c1
        try clear c5
        try clear c5b0
        try clear c24
        try clear c25
        try clear c25b0
        try clear c25b1
        try clear c26
        try clear c31
        try clear c31b0
        obtain ⟨x6_3, x9_3, x11_3, rfl, HA, HK3, HO_6, HO_9, HB⟩ := hrel
        cases gk with
        | zero => exact absurd HA.out (by simp [spec_l3By.l2])
        | succ k3 =>
         have H := HA.out
         clear HA; simp only [spec_l3By.l2] at H
         by_cases c32 : x11_3 < (x6_3.length : Int)
         ·rw [if_pos c32] at H
          have c32b0 : decide (x11_3 < (x6_3.length : Int)) = true := decide_eq_true c32; clear c32; obtain ⟨c33, H⟩ := ifP H; have c33b0 : decide (0 ≤ x11_3) = true := decide_eq_true c33; clear c33
          replace H := Option.bind_eq_some_iff.mp H
          obtain ⟨t454, A340, H⟩ := H
          have A34 := Aside0.mk A340
          clear A340
          by_cases c35 : t454 = x10_2
          ·rw [if_pos c35] at H
           have c35b0 : (t454 == x10_2) = true := beq_iff_eq.mpr c35
           have c35b1 : (t454 != x10_2) = false := bne_eq_false_iff_eq.mpr c35
           clear c35
           have H' := Aside0.mk H
           clear H; obtain ⟨Ao36, co36, eo36⟩ := Kd.N_slice HO_6.out; subst eo36; have p453 : 0 ≤ (x11_3 : Int) := of_decide_eq_true z15_1; have q453 : x11_3 < (x6_3.length : Int) := of_decide_eq_true z15_1; obtain ⟨ad453, A453_0, c453_0, e453, hx453_0, hl453_0, hi453_0⟩ := at_L6 (Kd.N_reads' HO_6.out).2.2 x11_3 p453 q453; cases e453; obtain ⟨ce453, hce453, hMe453, hcc453⟩ := Kd.N_get HO_6.out [] x11_3 p453 (by first | exact q453 | exact of_decide_eq_true z15_1 | (have e_ := (Kd.N_reads' HO_6.out).1; omega)); obtain ⟨ua453_0, uc453_0, rfl, ul453_0, ge453_0⟩ := Kd.FK_slice_open hMe453
           have hv453_0 := hcc453 0 _ rfl
           rw [Nat.add_zero, show ((Kd.slice 3 (Kd.int .i64))).sz = 1 from rfl, Nat.mul_one] at hv453_0
           replace hv453_0 := Option.some.inj (hv453_0.symm.trans hx453_0)
           injection hv453_0 with hva_ hvn_ hvc_
           rw [hva_] at ge453_0; rw [hvc_] at ul453_0
           have HL453_0 := Aside0.mk (show Kd.V (Kd.int .i64) 3 _ w.heap.size _ _ (rd_L6 x6_3 x11_3) from Kd.V_mk ul453_0 ge453_0)
           clear hva_ hvn_ hvc_ ge453_0 ul453_0; clear hcc453 hce453
           have HR453_0 := Aside0.mk hi453_0
           have HC453_0 := Aside0.mk hl453_0
           clear hi453_0 hl453_0
           replace p453 := eq_true p453
           replace q453 := eq_true q453
           go_wp2_with (first | ((with_reducible refine gate_callee (f := 66) rfl ?_); refine goesL_ (some 57) rfl rfl Try.func66 (by kernel_rfl) rfl #[.slice A453_0 (rd_L6 x6_3 x11_3).length c453_0] rfl z15_4 ?_; (with_reducible refine (spec_l2Lead.calls k3 _ _ (rd_L6 x6_3 x11_3) t454 _ ?side1 ?side2 A34.out).mono ?_); (case side1 => repeat (first | exact z15_9 | (with_reducible refine Kd.C_alloc ?_ _) | (with_reducible refine Kd.C_drewN ?_ _) | (with_reducible refine Kd.C_drew ?_))); (case side2 => exact HC453_0.out); rintro e w' ⟨rfl, ⟨nd, rfl⟩⟩; refine ⟨_, rfl, ?_⟩))
           go_loopg [12] k3 (fun kq v12 w' => ∃ (x6_4 : List (List Int)) (x12_4 : Int), v12 = .int .i64 x12_4 ∧ Aside0 (spec_l3By.l3 kq x6_4 x9_3 x10_2 x11_3 x12_4 = some (r1, r2)) ∧ Aside0 (kq ≤ k3) ∧ Aside0 (Kd.N (Kd.slice 3 (Kd.int .i64)) 28 w' w.heap.size (fun k_ => some k_ ≠ (u9 : Value).ownBlock) (.slice (some ad453) x6_3.length co36) x6_4) ∧ Aside0 (Kd.R (Kd.int .i64) 3 w' w.heap.size (fun _ => True) u9 x9_3) ∧ Aside0 (Below w.heap.size w w'))
           case atStart => exact ⟨(x6_3), (0), z15_6, H', ⟨Nat.le_refl _⟩, ⟨z15_2⟩, ⟨z15_3⟩, ⟨z15_0⟩⟩
           case round =>
            clear H'
            try clear c1
            try clear c5
            try clear c5b0
            try clear c24
            try clear c25
            try clear c25b0
            try clear c25b1
            try clear c26
            try clear c31
            try clear c31b0
            try clear c32
            try clear c32b0
            try clear c33
            try clear c33b0
            try clear c35
            try clear c35b0
            try clear c35b1
            try clear hx453_0
            try clear p453
            try clear q453
            obtain ⟨x6_4, x12_4, rfl, HA, HK4, HO_6, HO_9, HB⟩ := hrel
            have hl6_4 := (Kd.N_reads' HO_6.out).1
            rw [hl6_4] at HO_6; (try simp only [hl6_4]); (try simp only [hl6_4] at HO_9)
            cases gk with
            | zero => exact absurd HA.out (by simp [spec_l3By.l3])
            | succ k4 =>
             have H := HA.out
             clear HA; simp only [spec_l3By.l3] at H
             by_cases c37 : x12_4 < (x6_4.length : Int)
             ·rw [if_pos c37] at H
              have c37b0 : decide (x12_4 < (x6_4.length : Int)) = true := decide_eq_true c37; clear c37
              by_cases c38 : x12_4 = x11_3
              ·rw [if_pos c38] at H
               have c38b0 : (x12_4 == x11_3) = true := beq_iff_eq.mpr c38
               have c38b1 : (x12_4 != x11_3) = false := bne_eq_false_iff_eq.mpr c38
               clear c38
               have H' := Aside0.mk H
               clear H
               go_wp2
               (try simp only [← hl6_4])
               go_roundg k4
               case measure => have := HK1.out; have := HK2.out; have := HK3.out; have := HK4.out; omega
               case rel => exact ⟨(x6_4), (wrap64 (x12_4 + 1)), z15_6, H', ⟨z15_8⟩, ⟨z15_13⟩, ⟨z15_14⟩, ⟨z15_0⟩⟩
              ·rw [if_neg c38] at H
               have c38b0 : (x12_4 == x11_3) = false := beq_eq_false_iff_ne.mpr c38
               have c38b1 : (x12_4 != x11_3) = true := bne_iff_ne.mpr c38
               obtain ⟨c39, H⟩ := ifP H; have c39b0 : decide (0 ≤ x12_4) = true := decide_eq_true c39; clear c39; obtain ⟨c40, H⟩ := ifP H; have c40b0 : decide (0 ≤ x10_2) = true := decide_eq_true c40; clear c40; obtain ⟨c41, H⟩ := ifP H; have c41b0 : decide (x10_2 < ((rd_L6 x6_4 x12_4).length : Int)) = true := decide_eq_true c41; clear c41
               by_cases c42 : (rd (rd_L6 x6_4 x12_4) x10_2) = 0
               ·rw [if_pos c42] at H
                have c42b0 : ((rd (rd_L6 x6_4 x12_4) x10_2) == 0) = true := beq_iff_eq.mpr c42
                have c42b1 : ((rd (rd_L6 x6_4 x12_4) x10_2) != 0) = false := bne_eq_false_iff_eq.mpr c42
                clear c42
                have H' := Aside0.mk H
                clear H; have p455 : 0 ≤ (x12_4 : Int) := of_decide_eq_true z15_1; have q455 : x12_4 < (x6_4.length : Int) := of_decide_eq_true z15_1; obtain ⟨ad455, A455_0, c455_0, e455, hx455_0, hl455_0, hi455_0⟩ := at_L6 (Kd.N_reads' HO_6.out).2.2 x12_4 p455 q455
                obtain rfl : ad453 = ad455 := (by injection e455)
                obtain ⟨ce455, hce455, hMe455, hcc455⟩ := Kd.N_get HO_6.out [] x12_4 p455 (by first | exact q455 | exact of_decide_eq_true z15_1 | (have e_ := (Kd.N_reads' HO_6.out).1; omega)); obtain ⟨ua455_0, uc455_0, rfl, ul455_0, ge455_0⟩ := Kd.FK_slice_open hMe455
                have hv455_0 := hcc455 0 _ rfl
                rw [Nat.add_zero, show ((Kd.slice 3 (Kd.int .i64))).sz = 1 from rfl, Nat.mul_one] at hv455_0
                replace hv455_0 := Option.some.inj (hv455_0.symm.trans hx455_0)
                injection hv455_0 with hva_ hvn_ hvc_
                rw [hva_] at ge455_0; rw [hvc_] at ul455_0
                have HL455_0 := Aside0.mk (show Kd.V (Kd.int .i64) 3 _ w.heap.size _ _ (rd_L6 x6_4 x12_4) from Kd.V_mk ul455_0 ge455_0)
                clear hva_ hvn_ hvc_ ge455_0 ul455_0; clear hcc455 hce455
                have HR455_0 := Aside0.mk hi455_0
                have HC455_0 := Aside0.mk hl455_0
                clear hi455_0 hl455_0
                replace p455 := eq_true p455
                replace q455 := eq_true q455
                have p456 : 0 ≤ (x10_2 : Int) := of_decide_eq_true z15_1; have q456 : x10_2 < ((rd_L6 x6_4 x12_4).length : Int) := of_decide_eq_true z15_1; obtain ⟨ad456, e456, hx456_0⟩ := Kd.at_int z15_7 x10_2 p456 q456; cases e456
                replace p456 := eq_true p456
                replace q456 := eq_true q456
                go_wp2
                (try simp only [← hl6_4])
                go_roundg k4
                case measure => have := HK1.out; have := HK2.out; have := HK3.out; have := HK4.out; omega
                case rel => exact ⟨(x6_4), (wrap64 (x12_4 + 1)), z15_6, H', ⟨z15_8⟩, ⟨z15_13⟩, ⟨z15_14⟩, ⟨z15_0⟩⟩
               ·rw [if_neg c42] at H
                have c42b0 : ((rd (rd_L6 x6_4 x12_4) x10_2) == 0) = false := beq_eq_false_iff_ne.mpr c42
                have c42b1 : ((rd (rd_L6 x6_4 x12_4) x10_2) != 0) = true := bne_iff_ne.mpr c42
                obtain ⟨c43, H⟩ := ifP H; have c43b0 : decide (0 ≤ x11_3) = true := decide_eq_true c43; clear c43; obtain ⟨c44, H⟩ := ifP H; have c44b0 : decide (x11_3 < (x6_4.length : Int)) = true := decide_eq_true c44; clear c44
                replace H := Option.bind_eq_some_iff.mp H
                obtain ⟨t459, A450, H⟩ := H
                have A45 := Aside0.mk A450
                clear A450
                obtain ⟨y462, hy462⟩ : ∃ y_ : List (List Int), y_ = (x6_4.set (x12_4 : Int).toNat t459) := ⟨_, rfl⟩
                replace H : (spec_l3By.l3 k4 y462 x9_3 x10_2 x11_3 (wrap64 (x12_4 + 1))) = some (r1, r2) := yZZ_ hy462 H
                have Ny462 := Aside0.mk hy462
                clear hy462
                have H' := Aside0.mk H
                clear H; have p455 : 0 ≤ (x12_4 : Int) := of_decide_eq_true z15_1; have q455 : x12_4 < (x6_4.length : Int) := of_decide_eq_true z15_1; obtain ⟨ad455, A455_0, c455_0, e455, hx455_0, hl455_0, hi455_0⟩ := at_L6 (Kd.N_reads' HO_6.out).2.2 x12_4 p455 q455
                obtain rfl : ad453 = ad455 := (by injection e455)
                obtain ⟨ce455, hce455, hMe455, hcc455⟩ := Kd.N_get HO_6.out [] x12_4 p455 (by first | exact q455 | exact of_decide_eq_true z15_1 | (have e_ := (Kd.N_reads' HO_6.out).1; omega)); obtain ⟨ua455_0, uc455_0, rfl, ul455_0, ge455_0⟩ := Kd.FK_slice_open hMe455
                have hv455_0 := hcc455 0 _ rfl
                rw [Nat.add_zero, show ((Kd.slice 3 (Kd.int .i64))).sz = 1 from rfl, Nat.mul_one] at hv455_0
                replace hv455_0 := Option.some.inj (hv455_0.symm.trans hx455_0)
                injection hv455_0 with hva_ hvn_ hvc_
                rw [hva_] at ge455_0; rw [hvc_] at ul455_0
                have HL455_0 := Aside0.mk (show Kd.V (Kd.int .i64) 3 _ w.heap.size _ _ (rd_L6 x6_4 x12_4) from Kd.V_mk ul455_0 ge455_0)
                clear hva_ hvn_ hvc_ ge455_0 ul455_0; clear hcc455 hce455
                have HR455_0 := Aside0.mk hi455_0
                have HC455_0 := Aside0.mk hl455_0
                clear hi455_0 hl455_0
                replace p455 := eq_true p455
                replace q455 := eq_true q455
                have p456 : 0 ≤ (x10_2 : Int) := of_decide_eq_true z15_1; have q456 : x10_2 < ((rd_L6 x6_4 x12_4).length : Int) := of_decide_eq_true z15_1; obtain ⟨ad456, e456, hx456_0⟩ := Kd.at_int z15_7 x10_2 p456 q456; cases e456
                replace p456 := eq_true p456
                replace q456 := eq_true q456
                try go_wp2
                replace HO_6 := Aside0.mk (Kd.N_drew HO_6.out)
                replace HO_9 := Aside0.mk (Kd.R_drew HO_9.out)
                replace HL455_0 := Aside0.mk (Kd.V_drew HL455_0.out)
                replace HR455_0 := Aside0.mk (Kd.C_drew HR455_0.out)
                replace HB := Aside0.mk (below_drew1 HB.out)
                have p457 : 0 ≤ (x12_4 : Int) := of_decide_eq_true z15_1; have q457 : x12_4 < (x6_4.length : Int) := of_decide_eq_true z15_1; obtain ⟨ad457, A457_0, c457_0, e457, hx457_0, hl457_0, hi457_0⟩ := at_L6 (Kd.N_reads' HO_6.out).2.2 x12_4 p457 q457
                obtain rfl : ad453 = ad457 := (by injection e457)
                obtain ⟨ce457, hce457, hMe457, hcc457⟩ := Kd.N_get HO_6.out [] x12_4 p457 (by first | exact q457 | exact of_decide_eq_true z15_1 | (have e_ := (Kd.N_reads' HO_6.out).1; omega)); obtain ⟨ua457_0, uc457_0, rfl, ul457_0, ge457_0⟩ := Kd.FK_slice_open hMe457
                have hv457_0 := hcc457 0 _ rfl
                rw [Nat.add_zero, show ((Kd.slice 3 (Kd.int .i64))).sz = 1 from rfl, Nat.mul_one] at hv457_0
                replace hv457_0 := Option.some.inj (hv457_0.symm.trans hx457_0)
                injection hv457_0 with hva_ hvn_ hvc_
                rw [hva_] at ge457_0; rw [hvc_] at ul457_0
                have HL457_0 := Aside0.mk (show Kd.V (Kd.int .i64) 3 _ w.heap.size _ _ (rd_L6 x6_4 x12_4) from Kd.V_mk ul457_0 ge457_0)
                clear hva_ hvn_ hvc_ ge457_0 ul457_0; clear hcc457 hce457
                have HR457_0 := Aside0.mk hi457_0
                have HC457_0 := Aside0.mk hl457_0
                clear hi457_0 hl457_0
                replace p457 := eq_true p457
                replace q457 := eq_true q457
                have p458 : 0 ≤ (x11_3 : Int) := of_decide_eq_true z15_1; have q458 : x11_3 < (x6_4.length : Int) := of_decide_eq_true z15_1; obtain ⟨ad458, A458_0, c458_0, e458, hx458_0, hl458_0, hi458_0⟩ := at_L6 (Kd.N_reads' HO_6.out).2.2 x11_3 p458 q458
                obtain rfl : ad453 = ad458 := (by injection e458)
                obtain ⟨ce458, hce458, hMe458, hcc458⟩ := Kd.N_get HO_6.out [] x11_3 p458 (by first | exact q458 | exact of_decide_eq_true z15_1 | (have e_ := (Kd.N_reads' HO_6.out).1; omega)); obtain ⟨ua458_0, uc458_0, rfl, ul458_0, ge458_0⟩ := Kd.FK_slice_open hMe458
                have hv458_0 := hcc458 0 _ rfl
                rw [Nat.add_zero, show ((Kd.slice 3 (Kd.int .i64))).sz = 1 from rfl, Nat.mul_one] at hv458_0
                replace hv458_0 := Option.some.inj (hv458_0.symm.trans hx458_0)
                injection hv458_0 with hva_ hvn_ hvc_
                rw [hva_] at ge458_0; rw [hvc_] at ul458_0
                have HL458_0 := Aside0.mk (show Kd.V (Kd.int .i64) 3 _ w.heap.size _ _ (rd_L6 x6_4 x11_3) from Kd.V_mk ul458_0 ge458_0)
                clear hva_ hvn_ hvc_ ge458_0 ul458_0; clear hcc458 hce458
                have HR458_0 := Aside0.mk hi458_0
                have HC458_0 := Aside0.mk hl458_0
                clear hi458_0 hl458_0
                replace p458 := eq_true p458
                replace q458 := eq_true q458
                refine start_ (n := 13) (S := fun w' => w'.cell? (ad453.add (x12_4).toNat) = some (.slice A457_0 (rd_L6 x6_4 x12_4).length c457_0) ∧ w'.cell? (ad453.add (x11_3).toNat) = some (.slice A458_0 (rd_L6 x6_4 x11_3).length c458_0)) (ds := [12]) #[false, false, false, false, false, false, false, false, false, false, false, false, false] (by kernel_rfl) rfl rfl ⟨hx457_0, hx458_0⟩ (fun hHeld => ?_); refine with_tabW spec_l3By.tab20 spec_l3By.bits20 (fun HT_ HW_ => ?_); generalize wr.drew = w47 at HO_6 HO_9 HL455_0 HR455_0 HB HL457_0 HL458_0 HR457_0 HR458_0 hx457_0 hx458_0 hHeld ⊢; refine pZ 0 HT_ ?_; refine pZ 1 HT_ ?_; refine pZ 2 HT_ ?_; refine pZ 3 HT_ ?_; refine pZ 4 HT_ ?_; refine pZ 6 HT_ ?_; refine pZ 7 HT_ ?_; refine pZ 8 HT_ ?_; refine tZ 5 hHeld HT_ HW_ ?_; refine tZ 9 hHeld HT_ HW_ ?_; refine oZ 10 HT_ (fun K hK => ?_); refine goes_ Try.func67 (by kernel_rfl) rfl #[.slice A457_0 (rd_L6 x6_4 x12_4).length c457_0, .slice A458_0 (rd_L6 x6_4 x11_3).length c458_0] (by rfl) rfl rfl z15_4 ?_
                with_reducible refine (spec_l3Less.calls k4 _ _ (rd_L6 x6_4 x12_4) _ _ (rd_L6 x6_4 x11_3) t459 _ ?side1 ?side2 ?side3 ?side4 A45.out).mono ?_
                (case side1 => repeat (first | exact z15_10 | (with_reducible refine Kd.C_alloc ?_ _) | (with_reducible refine Kd.C_drewN ?_ _) | (with_reducible refine Kd.C_drew ?_))); (case side2 => exact HC457_0.out); (case side3 => repeat (first | exact z15_11 | (with_reducible refine Kd.C_alloc ?_ _) | (with_reducible refine Kd.C_drewN ?_ _) | (with_reducible refine Kd.C_drew ?_))); (case side4 => exact HC458_0.out)
                rintro e w48 ⟨v460, rfl, ho0, hb⟩
                have HS0_ := (hb.cell (World.block_lt_of_cell? _ _ (hHeld.1))).trans (hHeld.1)
                have HS1_ := (hb.cell (World.block_lt_of_cell? _ _ (hHeld.2))).trans (hHeld.2)
                refine ⟨_, rfl, ?_⟩
                replace HO_6 := Aside0.mk (Kd.N_elder' z15_2 (Kd.R_base ho0) hb)
                replace HL455_0 := Aside0.mk (Kd.V_elder' (by (with_reducible repeat (first | apply Kd.V_alloc | apply Kd.V_drewN | apply Kd.V_drew)); exact HL455_0.out) (Kd.R_base ho0) hb)
                replace HL457_0 := Aside0.mk (Kd.V_elder' (by (with_reducible repeat (first | apply Kd.V_alloc | apply Kd.V_drewN | apply Kd.V_drew)); exact HL457_0.out) (Kd.R_base ho0) hb)
                replace HL458_0 := Aside0.mk (Kd.V_elder' (by (with_reducible repeat (first | apply Kd.V_alloc | apply Kd.V_drewN | apply Kd.V_drew)); exact HL458_0.out) (Kd.R_base ho0) hb)
                have HO461 := Aside0.mk (Kd.R_lower (Kd.R_new' ho0 (Kd.R_lt z15_3)) (below_size z15_0))
                replace HO_9 := Aside0.mk (Kd.R_elder' z15_3 (Kd.R_base ho0) hb)
                replace HR455_0 := Aside0.mk (Kd.C_below z15_7 hb)
                replace HR457_0 := Aside0.mk (Kd.C_below z15_10 hb)
                replace HR458_0 := Aside0.mk (Kd.C_below z15_11 hb)
                replace HB := Aside0.mk (below_step z15_0 hb)
                (try clear hb); (try clear hb2); (try clear hk); (try clear hi); (try clear ho0); have p46 : 0 ≤ (x12_4 : Int) := of_decide_eq_true z15_1
                have q46 : (x12_4 : Int) < ((x6_4.length : Int) : Int) := of_decide_eq_true z15_1
                obtain ⟨go46, co46, eo46, gb46, gl46, cl46, HG46⟩ := Kd.N_form HO_6.out (by omega); (first | cases eo46 | (injection eo46 with ea_ en_ ec_; (first | subst ea_ | (injection ea_ with ea_; subst ea_)); subst ec_; clear en_))
                have GB46 := Aside0.mk gb46
                have GG46 := Aside0.mk HG46
                clear gb46 gl46 HG46; (first | simp only [add_plain] at hx453_0 | skip); (first | simp only [add_plain] at hx455_0 | skip); (first | simp only [add_plain] at hx457_0 | skip); (first | simp only [add_plain] at hx458_0 | skip); obtain ⟨ce46, hcl46, hM46, hcc46, hfr46⟩ := Kd.N_elem HO_6.out [] (x12_4 : Int) p46 q46; obtain ⟨ua46_0, uc46_0, rfl, ul46_0, ge46_0⟩ := Kd.FK_slice_open hM46
                have hx46_0 := hcc46 0 _ rfl
                have hf46_0 := hfr46 0
                (try simp only [show ((Kd.slice 3 (Kd.int .i64))).sz = 1 from rfl, Nat.mul_one, Nat.add_zero] at hx46_0); (try simp only [show ((Kd.slice 3 (Kd.int .i64))).sz = 1 from rfl, Nat.mul_one, Nat.add_zero] at hf46_0)
                (try clear hcl46); (try clear hcc46); (try clear hfr46); (try clear hM46)
                replace p46 := eq_true p46
                replace q46 := eq_true q46
                have HX49 := Aside0.mk (show Kd.N (Kd.slice 3 (Kd.int .i64)) 28 _ w.heap.size (fun k_ => some k_ ≠ (u9 : Value).ownBlock ∧ some k_ ≠ (v460 : Value).ownBlock) (.slice (some ⟨go46, 0, none⟩) x6_4.length co36) x6_4 from (Kd.N_mono (HO_6.out) (fun k_ hk => ⟨hk.1, hk.2⟩)))
                replace HX49 := Aside0.mk (show Kd.N (Kd.slice 3 (Kd.int .i64)) 28 _ w.heap.size (fun k_ => some k_ ≠ (u9 : Value).ownBlock) (.slice (some ⟨go46, 0, none⟩) x6_4.length co36) x6_4 from Kd.N_mono HX49.out (fun k_ hk => hk.1))
                obtain ⟨ce49, hcl49, hM49, hcc49, hfr49⟩ := Kd.N_elem HX49.out [] (x12_4 : Int) (of_decide_eq_true z15_1) (by have h_ : (x12_4 : Int) < ((x6_4.length : Int) : Int) := of_decide_eq_true z15_1; first | exact h_ | (have e_ := (Kd.N_reads' HO_6.out).1; omega) | simpa using h_); obtain ⟨ua49_0, uc49_0, rfl, ul49_0, ge49_0⟩ := Kd.FK_slice_open hM49; obtain ⟨As_, cs_, es_⟩ := Kd.R_slice HO461.out; subst es_
                have HP49 := (Kd.N_seg HX49.out (x12_4 : Int) (of_decide_eq_true z15_1) (by have h_ : (x12_4 : Int) < ((x6_4.length : Int) : Int) := of_decide_eq_true z15_1; first | exact h_ | (have e_ := (Kd.N_reads' HO_6.out).1; omega) | simpa using h_) (seg := [.slice As_ t459.length cs_]) (j := 0) hcl49 hcc49 (show 1 ≤ 1 from by decide) (x' := t459) (Kd.FK_slice_mk (Kd.R_reads' (Kd.R_mono (ok' := (fun k_ => ((fun k_ => some k_ ≠ (u9 : Value).ownBlock)) k_ ∧ k_ ≠ go46)) (Kd.R_apart' (HO461.out) (Kd.N_typed HO_6.out) (by decide)) (fun k_ hk => ⟨hk.1.2, fun e_ => (hk.2) (by rw [e_]; rfl)⟩))).2.1 (Kd.R_F (Kd.R_mono (ok' := (fun k_ => ((fun k_ => some k_ ≠ (u9 : Value).ownBlock)) k_ ∧ k_ ≠ go46)) (Kd.R_apart' (HO461.out) (Kd.N_typed HO_6.out) (by decide)) (fun k_ hk => ⟨hk.1.2, fun e_ => (hk.2) (by rw [e_]; rfl)⟩)))) (fun _ hk => hk)).1
                (try simp only [show ((Kd.slice 3 (Kd.int .i64))).sz = 1 from rfl, Nat.mul_one, Nat.add_zero] at HP49); rw [← Ny462.out] at HP49
                have HQ49 := Aside0.mk HP49
                (try clear hcl49); (try clear hcc49); (try clear hfr49); (try clear hM49); (try clear HP49)
                refine hK.out _ _ ⟨HS0_, HS1_⟩ (fun hHeld => ?_); clear hK K; refine nZ ?_; refine pZ 11 HT_ ?_; refine lZ 12 HT_ (fun K hK => ?_); refine skip_ (w1 := ?_) (by rfl) rfl ?_ ?_; rotate_left
                ·go_simp
                 rfl
                refine hK.out _ _ ?_; clear hK K; refine done_ (done_of HT_.out (by kernel_rfl)) ?_
                try go_wp2
                (try simp only [← hl6_4])
                have hab_ : (⟨go46, (x11_3 : Int).toNat, none⟩ : Addr) = (⟨go46, 0, none⟩ : Addr).add (x11_3 : Int).toNat := (add_plain _ _).symm
                (try simp only [hab_]); clear hab_
                go_roundg k4
                case measure => have := HK1.out; have := HK2.out; have := HK3.out; have := HK4.out; omega
                case rel => exact ⟨(y462), (wrap64 (x12_4 + 1)), z15_6, H', ⟨z15_8⟩, ⟨by (try simp only [hl6_4]); (with_reducible repeat (first | apply Kd.N_alloc | apply Kd.N_drewN | apply Kd.N_drew)); exact HQ49.out⟩, ⟨by (try simp only [hl6_4]); (with_reducible repeat (first | apply Kd.R_alloc | apply Kd.R_drewN | apply Kd.R_drew)); exact Kd.R_mono (Kd.R_far (p := ⟨go46, (x12_4 : Int).toNat, none⟩) (Kd.R_types HO_9.out GG46.out (by decide)) (fun _ hk => hk.2) ((.slice As_ t459.length cs_ : Value))) (fun _ hk => trivial)⟩, ⟨by repeat (first | (with_reducible first | exact HB.out | apply below_alloc | apply pw_below_drewN | apply below_drew1 | refine below_set ?_ GB46.out) | exact HB.out)⟩⟩
             ·rw [if_neg c37] at H
              have c37b0 : decide (x12_4 < (x6_4.length : Int)) = false := decide_eq_false c37; clear c37; obtain ⟨c50, H⟩ := ifP H; have c50b0 : decide (0 ≤ x11_3) = true := decide_eq_true c50; clear c50; obtain ⟨c51, H⟩ := ifP H; have c51b0 : decide (x11_3 < (x6_4.length : Int)) = true := decide_eq_true c51; clear c51
              replace H := Option.bind_eq_some_iff.mp H
              obtain ⟨t464, A520, H⟩ := H
              have A52 := Aside0.mk A520
              clear A520
              have H' := Aside0.mk H
              clear H; have p463 : 0 ≤ (x11_3 : Int) := of_decide_eq_true z15_1; have q463 : x11_3 < (x6_4.length : Int) := of_decide_eq_true z15_1; obtain ⟨ad463, A463_0, c463_0, e463, hx463_0, hl463_0, hi463_0⟩ := at_L6 (Kd.N_reads' HO_6.out).2.2 x11_3 p463 q463
              obtain rfl : ad453 = ad463 := (by injection e463)
              obtain ⟨ce463, hce463, hMe463, hcc463⟩ := Kd.N_get HO_6.out [] x11_3 p463 (by first | exact q463 | exact of_decide_eq_true z15_1 | (have e_ := (Kd.N_reads' HO_6.out).1; omega)); obtain ⟨ua463_0, uc463_0, rfl, ul463_0, ge463_0⟩ := Kd.FK_slice_open hMe463
              have hv463_0 := hcc463 0 _ rfl
              rw [Nat.add_zero, show ((Kd.slice 3 (Kd.int .i64))).sz = 1 from rfl, Nat.mul_one] at hv463_0
              replace hv463_0 := Option.some.inj (hv463_0.symm.trans hx463_0)
              injection hv463_0 with hva_ hvn_ hvc_
              rw [hva_] at ge463_0; rw [hvc_] at ul463_0
              have HL463_0 := Aside0.mk (show Kd.V (Kd.int .i64) 3 _ w.heap.size _ _ (rd_L6 x6_4 x11_3) from Kd.V_mk ul463_0 ge463_0)
              clear hva_ hvn_ hvc_ ge463_0 ul463_0; clear hcc463 hce463
              have HR463_0 := Aside0.mk hi463_0
              have HC463_0 := Aside0.mk hl463_0
              clear hi463_0 hl463_0
              replace p463 := eq_true p463
              replace q463 := eq_true q463
              obtain ⟨Ao53, co53, eo53⟩ := Kd.R_slice HO_9.out; subst eo53
              go_wp2_with (first | ((with_reducible refine gate_callee (f := 67) rfl ?_); refine goesL_ (some 96) rfl rfl Try.func67 (by kernel_rfl) rfl #[.slice Ao53 x9_3.length co53, .slice A463_0 (rd_L6 x6_4 x11_3).length c463_0] rfl z15_4 ?_; (with_reducible refine (spec_l3Less.calls k4 _ _ x9_3 _ _ (rd_L6 x6_4 x11_3) t464 _ ?side1 ?side2 ?side3 ?side4 A52.out).mono ?_); (case side1 => exact cZ ((Kd.R_reads' HO_9.out).2.2)); (case side2 => exact (Kd.R_reads' HO_9.out).2.1); (case side3 => repeat (first | exact z15_12 | (with_reducible refine Kd.C_alloc ?_ _) | (with_reducible refine Kd.C_drewN ?_ _) | (with_reducible refine Kd.C_drew ?_))); (case side4 => exact HC463_0.out); rintro e w54 ⟨v465, rfl, ho0, hb⟩; refine ⟨_, rfl, ?_⟩; replace HO_6 := Aside0.mk (Kd.N_elder' z15_2 (Kd.R_base ho0) hb); replace HL463_0 := Aside0.mk (Kd.V_elder' (by (with_reducible repeat (first | apply Kd.V_alloc | apply Kd.V_drewN | apply Kd.V_drew)); exact HL463_0.out) (Kd.R_base ho0) hb); have HO466 := Aside0.mk (Kd.R_lower (Kd.R_new' ho0 (Kd.R_lt z15_3)) (below_size z15_0)); replace HO_9 := Aside0.mk (Kd.R_elder' z15_3 (Kd.R_base ho0) hb); replace HR463_0 := Aside0.mk (Kd.C_below z15_12 hb); replace HB := Aside0.mk (below_step z15_0 hb); (try clear hb); (try clear ho0)))
              (try simp only [← hl6_4])
              go_roundg k4
              case measure => have := HK1.out; have := HK2.out; have := HK3.out; have := HK4.out; omega
              case rel => exact ⟨(x6_4), (t464), (wrap64 (x10_2 + 1)), z15_6, H', ⟨z15_8⟩, ⟨by (try simp only [hl6_4]); (with_reducible repeat (first | apply Kd.N_alloc | apply Kd.N_drewN | apply Kd.N_drew)); exact Kd.N_mono HO_6.out (fun _ hk => hk.2)⟩, ⟨by (try simp only [hl6_4]); (with_reducible repeat (first | apply Kd.R_alloc | apply Kd.R_drewN | apply Kd.R_drew)); exact Kd.R_mono HO466.out (fun _ hk => trivial)⟩, ⟨z15_0⟩⟩
          ·rw [if_neg c35] at H
           have c35b0 : (t454 == x10_2) = false := beq_eq_false_iff_ne.mpr c35
           have c35b1 : (t454 != x10_2) = true := bne_iff_ne.mpr c35
           have H' := Aside0.mk H
           clear H; obtain ⟨Ao55, co55, eo55⟩ := Kd.N_slice HO_6.out; subst eo55; have p453 : 0 ≤ (x11_3 : Int) := of_decide_eq_true z15_1; have q453 : x11_3 < (x6_3.length : Int) := of_decide_eq_true z15_1; obtain ⟨ad453, A453_0, c453_0, e453, hx453_0, hl453_0, hi453_0⟩ := at_L6 (Kd.N_reads' HO_6.out).2.2 x11_3 p453 q453; cases e453; obtain ⟨ce453, hce453, hMe453, hcc453⟩ := Kd.N_get HO_6.out [] x11_3 p453 (by first | exact q453 | exact of_decide_eq_true z15_1 | (have e_ := (Kd.N_reads' HO_6.out).1; omega)); obtain ⟨ua453_0, uc453_0, rfl, ul453_0, ge453_0⟩ := Kd.FK_slice_open hMe453
           have hv453_0 := hcc453 0 _ rfl
           rw [Nat.add_zero, show ((Kd.slice 3 (Kd.int .i64))).sz = 1 from rfl, Nat.mul_one] at hv453_0
           replace hv453_0 := Option.some.inj (hv453_0.symm.trans hx453_0)
           injection hv453_0 with hva_ hvn_ hvc_
           rw [hva_] at ge453_0; rw [hvc_] at ul453_0
           have HL453_0 := Aside0.mk (show Kd.V (Kd.int .i64) 3 _ w.heap.size _ _ (rd_L6 x6_3 x11_3) from Kd.V_mk ul453_0 ge453_0)
           clear hva_ hvn_ hvc_ ge453_0 ul453_0; clear hcc453 hce453
           have HR453_0 := Aside0.mk hi453_0
           have HC453_0 := Aside0.mk hl453_0
           clear hi453_0 hl453_0
           replace p453 := eq_true p453
           replace q453 := eq_true q453
           go_wp2_with (first | ((with_reducible refine gate_callee (f := 66) rfl ?_); refine goesL_ (some 57) rfl rfl Try.func66 (by kernel_rfl) rfl #[.slice A453_0 (rd_L6 x6_3 x11_3).length c453_0] rfl z15_4 ?_; (with_reducible refine (spec_l2Lead.calls k3 _ _ (rd_L6 x6_3 x11_3) t454 _ ?side1 ?side2 A34.out).mono ?_); (case side1 => repeat (first | exact z15_9 | (with_reducible refine Kd.C_alloc ?_ _) | (with_reducible refine Kd.C_drewN ?_ _) | (with_reducible refine Kd.C_drew ?_))); (case side2 => exact HC453_0.out); rintro e w' ⟨rfl, ⟨nd, rfl⟩⟩; refine ⟨_, rfl, ?_⟩))
           go_roundg k3
           case measure => have := HK1.out; have := HK2.out; have := HK3.out; omega
           case rel => exact ⟨(x6_3), (x9_3), (wrap64 (x11_3 + 1)), z15_6, H', ⟨by have := HK1.out; have := HK2.out; have := HK3.out; omega⟩, ⟨z15_2⟩, ⟨z15_3⟩, ⟨z15_0⟩⟩
         ·rw [if_neg c32] at H
          have c32b0 : decide (x11_3 < (x6_3.length : Int)) = false := decide_eq_false c32; clear c32
          have H' := Aside0.mk H
          clear H; obtain ⟨Ao56, co56, eo56⟩ := Kd.N_slice HO_6.out; subst eo56
          go_wp2
          go_roundg k3
          case measure => have := HK1.out; have := HK2.out; have := HK3.out; omega
          case rel => exact ⟨(x6_3), (x9_3), (wrap64 (x10_2 + 1)), z15_6, H', ⟨by have := HK1.out; have := HK2.out; have := HK3.out; omega⟩, ⟨z15_2⟩, ⟨z15_3⟩, ⟨z15_0⟩⟩
      ·rw [if_neg c31] at H
       have c31b0 : decide (x10_2 < 4) = false := decide_eq_false c31; clear c31
       replace H := Option.bind_eq_some_iff.mp H
       obtain ⟨t467, A570, H⟩ := H
       have A57 := Aside0.mk A570
       clear A570
       replace H := Option.bind_eq_some_iff.mp H
       obtain ⟨t468, A580, H⟩ := H
       have A58 := Aside0.mk A580
       clear A580
       by_cases c59 : t468 = true
       ·subst c59
        rw [if_pos rfl] at H
        obtain ⟨y469, hy469⟩ : ∃ y_ : List Int, y_ = (([] : List Int)) := ⟨_, rfl⟩
        replace H : (some (y469, false)) = some (r1, r2) := yZZ_ hy469 H
        have Ny469 := Aside0.mk hy469
        clear hy469; simp only [Option.some.injEq, Prod.mk.injEq] at H; obtain ⟨rfl, rfl⟩ := H; obtain ⟨Ao60, co60, eo60⟩ := Kd.R_slice HO_9.out; subst eo60
        go_wp2_with (first | ((with_reducible refine gate_callee (f := 66) rfl ?_); refine goesL_ (some 98) rfl rfl Try.func66 (by kernel_rfl) rfl #[.slice Ao60 x9_2.length co60] rfl z15_4 ?_; (with_reducible refine (spec_l2Lead.calls k2 _ _ x9_2 t467 _ ?side1 ?side2 A57.out).mono ?_); (case side1 => exact cZ ((Kd.R_reads' HO_9.out).2.2)); (case side2 => exact (Kd.R_reads' HO_9.out).2.1); rintro e w' ⟨rfl, ⟨nd, rfl⟩⟩; refine ⟨_, rfl, ?_⟩) | ((with_reducible refine gate_callee (f := 27) rfl ?_); refine goesL_ (some 99) rfl rfl Try.func27 (by kernel_rfl) rfl #[.int .i64 t467, .int .i64 0, .int .i64 3] rfl z15_4 ?_; (with_reducible refine (spec_l6In.calls t467 0 3 true _ A58.out).mono ?_); rintro e w' ⟨rfl, ⟨nd, rfl⟩⟩; refine ⟨_, rfl, ?_⟩) | ((with_reducible refine gate_dst (N := 100) rfl ?_); refine Kd.R_lit (Kd.int .i64) _ 3 ?hg (N := 100) ?hd (xs := ([] : List Int)) (inner := []) (ok := fun _ => True) (okp := fun _ => True) ?hr ?hp (fun _ hk => hk) trivial (Below.refl _ _) (Nat.le_refl _) (by simp) ?_; (case hd => rfl); (case hg => rfl); (case hr => first | (go_simp; done) | (go_simp; rfl)); (case hp => exact (Reps.none _ _)); intro v470 w61 ho62 hb hg_ hnew_; clear hg_ hnew_; (first | rw [← Ny469.out] at ho62 | (simp only [Int.reduceToNat] at ho62; rw [← Ny469.out] at ho62)); replace HO_6 := Aside0.mk (Kd.N_elder' z15_2 (Kd.R_base ho62) hb); have HO471 := Aside0.mk (Kd.R_lower (Kd.R_new' ho62 (Kd.R_lt z15_3)) (below_size z15_0)); replace HO_9 := Aside0.mk (Kd.R_elder' z15_3 (Kd.R_base ho62) hb); replace HB := Aside0.mk (below_step z15_0 hb); clear hb ho62))
        go_ret2
        exact ⟨_, by first | rfl | (simp [errW_none, errW_some] <;> rfl) | (simp [*, errW_none, errW_some] <;> rfl), by (with_reducible repeat (first | apply Kd.R_alloc | apply Kd.R_drewN | apply Kd.R_drew)); exact Kd.R_mono HO471.out (fun _ hk => trivial), z15_0⟩
       ·replace c59 := Bool.eq_false_iff.mpr c59
        subst c59; rw [if_neg (show ¬ (false = true) by decide)] at H; obtain ⟨c63, H⟩ := ifP H
        have c63b0 := eq_true c63
        have c63b1 : decide (4 ≤ (x9_2.length : Int)) = true := decide_eq_true c63; clear c63
        obtain ⟨y472, hy472⟩ : ∃ y_ : List Int, y_ = (x9_2.drop 4) := ⟨_, rfl⟩
        replace H : ((spec_l2Scale.f k2 y472 30).bind fun t477 => (some (t477, true))) = some (r1, r2) := yZZ_ hy472 H
        have Ny472 := Aside0.mk hy472
        clear hy472
        replace H := Option.bind_eq_some_iff.mp H
        obtain ⟨t477, A640, H⟩ := H
        have A64 := Aside0.mk A640
        clear A640; simp only [Option.some.injEq, Prod.mk.injEq] at H; obtain ⟨rfl, rfl⟩ := H; obtain ⟨Ao65, co65, eo65⟩ := Kd.R_slice HO_9.out; subst eo65
        go_wp2_with (first | ((with_reducible refine gate_callee (f := 66) rfl ?_); refine goesL_ (some 98) rfl rfl Try.func66 (by kernel_rfl) rfl #[.slice Ao65 x9_2.length co65] rfl z15_4 ?_; (with_reducible refine (spec_l2Lead.calls k2 _ _ x9_2 t467 _ ?side1 ?side2 A57.out).mono ?_); (case side1 => exact cZ ((Kd.R_reads' HO_9.out).2.2)); (case side2 => exact (Kd.R_reads' HO_9.out).2.1); rintro e w' ⟨rfl, ⟨nd, rfl⟩⟩; refine ⟨_, rfl, ?_⟩) | ((with_reducible refine gate_callee (f := 27) rfl ?_); refine goesL_ (some 99) rfl rfl Try.func27 (by kernel_rfl) rfl #[.int .i64 t467, .int .i64 0, .int .i64 3] rfl z15_4 ?_; (with_reducible refine (spec_l6In.calls t467 0 3 false _ A58.out).mono ?_); rintro e w' ⟨rfl, ⟨nd, rfl⟩⟩; refine ⟨_, rfl, ?_⟩; have q66 : (4 : Int) ≤ ((x9_2.length : Int) : Int) := of_decide_eq_true z15_1; obtain ⟨i066, hi066, _, hsz66, _⟩ := info_parts info3; have hroom66 : x9_2.length ≤ co65 := (Kd.R_reads' HO_9.out).2.1; have hC66 : Kd.F (Kd.int .i64) _ _ Ao65 x9_2.length x9_2 := (Kd.V_at (base := w.heap.size) (Kd.R_V (Kd.R_apart' (HO_9.out) (Kd.N_typed HO_6.out) (by decide)))).2.2; have hcut66 := cut_from (P := Try.prog) 28 3 .i64 Try.underlying28 hi066 1 hsz66 Ao65 x9_2.length co65 4 (by omega) q66; have hr66 := Kd.F_cut (m := (4 : Int).toNat) (c := co65) hC66 (by omega) hroom66; obtain ⟨A66, hA66⟩ : ∃ A1, A1 = (if co65 = (4 : Int).toNat then Ao65 else (Ao65 : Option Addr).map (·.add ((4 : Int).toNat * 1))) := ⟨_, rfl⟩; obtain ⟨c66, hc66⟩ : ∃ c1, c1 = co65 - (4 : Int).toNat := ⟨_, rfl⟩; have hy66 : y472.length = x9_2.length - (4 : Int).toNat := (by rw [Ny472.out, List.length_drop] <;> omega); rw [show (x9_2).drop (4 : Int).toNat = y472 from Ny472.out.symm] at hr66; replace hr66 : Kd.F (Kd.int .i64) _ _ A66 y472.length y472 := (by rw [hA66]; exact hr66); rw [← hy66, ← hA66, ← hc66] at hcut66; have HO476 := Aside0.mk (show Kd.V (Kd.int .i64) 3 _ w.heap.size _ (.slice A66 y472.length c66) y472 from Kd.V_mk (by rw [hy66, hc66]; exact Nat.sub_le_sub_right hroom66 _) hr66); have HC476 := Aside0.mk (show y472.length ≤ c66 from by rw [hy66, hc66]; exact Nat.sub_le_sub_right hroom66 _); clear hr66 hC66 hroom66 hi066 hsz66 hc66; have KY66 := Aside0.mk hy66; have KA66 := Aside0.mk hA66; clear hy66 hA66; replace q66 := eq_true q66) | ((with_reducible refine gate_callee (f := 68) rfl ?_); refine goesL_ (some 103) rfl rfl Try.func68 (by kernel_rfl) rfl #[.slice A66 y472.length c66, .int .i64 30] rfl z15_4 ?_; (with_reducible refine (spec_l2Scale.calls k2 _ _ y472 30 t477 _ ?side1 ?side2 A64.out).mono ?_); (case side1 => exact cZ ((Kd.V_reads' HO476.out).2.2)); (case side2 => exact (Kd.V_reads' HO476.out).2.1); rintro e w67 ⟨v478, rfl, ho0, hb⟩; refine ⟨_, rfl, ?_⟩; replace HO_6 := Aside0.mk (Kd.N_elder' z15_2 (Kd.R_base ho0) hb); replace HO476 := Aside0.mk (Kd.V_elder' (by (with_reducible repeat (first | apply Kd.V_alloc | apply Kd.V_drewN | apply Kd.V_drew)); exact HO476.out) (Kd.R_base ho0) hb); have HO479 := Aside0.mk (Kd.R_lower (Kd.R_new' ho0 (Kd.R_lt z15_3)) (below_size z15_0)); replace HO_9 := Aside0.mk (Kd.R_elder' z15_3 (Kd.R_base ho0) hb); replace HB := Aside0.mk (below_step z15_0 hb); (try clear hb); (try clear ho0)))
        go_ret2
        exact ⟨_, by first | rfl | (simp [errW_none, errW_some] <;> rfl) | (simp [*, errW_none, errW_some] <;> rfl), by (with_reducible repeat (first | apply Kd.R_alloc | apply Kd.R_drewN | apply Kd.R_drew)); exact Kd.R_mono HO479.out (fun _ hk => trivial), z15_0⟩

end Go.Proofs.Ytfgpffocieegdaa.PA
