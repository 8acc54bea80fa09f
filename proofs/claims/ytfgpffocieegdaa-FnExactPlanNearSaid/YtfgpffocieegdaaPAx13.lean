import Derived.Test.YtfgpffocieegdaaPAx0
import Derived.Test.YtfgpffocieegdaaPAx8
import Derived.Test.YtfgpffocieegdaaPAx9
import Derived.Test.YtfgpffocieegdaaPAx10
import Derived.Test.YtfgpffocieegdaaGw
import Derived.Test.YtfgpffocieegdaaGm
import Derived.Test.YtfgpffocieegdaaGc
namespace Go.Proofs.Ytfgpffocieegdaa.PA
open Go.RowKit Go.Proofs.YtfgpffocieegdaaW.PrintWords Go.Proofs.YtfgpffocieegdaaW.PrintLast Go.Proofs.YtfgpffocieegdaaW.PrintMore
attribute [local go_sem] max2_int min2_int max_two min_two max_three min_three max_four min_four   -- for this text's walks alone
set_option linter.unusedVariables false
set_option linter.unusedSimpArgs false

/-! ### spec_l3By: function 60 -/
theorem z13_0 {p : Prop} (h : p := by repeat (first | (with_reducible first | exact HB.out | apply below_alloc | apply pw_below_drewN | apply below_drew1) | exact HB.out)) : p := h
theorem z13_1 {p : Prop} (h : p := by first | (with_reducible assumption) | assumption) : p := h
theorem z13_2 {p : Prop} (h : p := by (with_reducible repeat (first | apply Kd.N_alloc | apply Kd.N_drewN | apply Kd.N_drew)); exact HO_6.out) : p := h
theorem z13_3 {p : Prop} (h : p := by (with_reducible repeat (first | apply Kd.R_alloc | apply Kd.R_drewN | apply Kd.R_drew)); exact HO_9.out) : p := h
theorem z13_4 {p : Prop} (h : p := by (try simp only [List.map_toArray, List.map_cons, List.map_nil]); first | done | rfl | (simp only [List.length_drop, List.length_take]; rfl)) : p := h
theorem z13_5 {p : Prop} (h : p := by (with_reducible repeat (first | apply Kd.R_alloc | apply Kd.R_drewN | apply Kd.R_drew)); exact HO383.out) : p := h
theorem z13_6 {p : Prop} (h : p := by first | rfl | (simp; done) | (simp [*]; done)) : p := h
theorem z13_7 {p : Prop} (h : p := by repeat (first | (with_reducible exact HR409_0.out) | (with_reducible refine Kd.C_alloc ?_ _) | (with_reducible refine Kd.C_drewN ?_ _) | (with_reducible refine Kd.C_drew ?_) | exact HR409_0.out)) : p := h
theorem z13_8 {p : Prop} (h : p := by have := HK1.out; have := HK2.out; have := HK3.out; have := HK4.out; omega) : p := h
theorem z13_9 {p : Prop} (h : p := by repeat (first | (with_reducible exact HR407_0.out) | (with_reducible refine Kd.C_alloc ?_ _) | (with_reducible refine Kd.C_drewN ?_ _) | (with_reducible refine Kd.C_drew ?_) | exact HR407_0.out)) : p := h
theorem z13_10 {p : Prop} (h : p := by repeat (first | (with_reducible exact HR411_0.out) | (with_reducible refine Kd.C_alloc ?_ _) | (with_reducible refine Kd.C_drewN ?_ _) | (with_reducible refine Kd.C_drew ?_) | exact HR411_0.out)) : p := h
theorem z13_11 {p : Prop} (h : p := by repeat (first | (with_reducible exact HR412_0.out) | (with_reducible refine Kd.C_alloc ?_ _) | (with_reducible refine Kd.C_drewN ?_ _) | (with_reducible refine Kd.C_drew ?_) | exact HR412_0.out)) : p := h
theorem z13_12 {p : Prop} (h : p := by repeat (first | (with_reducible exact HR417_0.out) | (with_reducible refine Kd.C_alloc ?_ _) | (with_reducible refine Kd.C_drewN ?_ _) | (with_reducible refine Kd.C_drew ?_) | exact HR417_0.out)) : p := h
theorem z13_13 {p : Prop} (h : p := by (try simp only [hl6_4]); (with_reducible repeat (first | apply Kd.N_alloc | apply Kd.N_drewN | apply Kd.N_drew)); exact HO_6.out) : p := h
theorem z13_14 {p : Prop} (h : p := by (try simp only [hl6_4]); (with_reducible repeat (first | apply Kd.R_alloc | apply Kd.R_drewN | apply Kd.R_drew)); exact HO_9.out) : p := h
mutual
def spec_l3By.l0 : Nat → List (List Int) → List Int → List (List Int) → Int → Option (List Int × Bool)
  | 0, _, _, _, _ => none
  | k + 1, x0, x1, x6, x7 => if x7 < (x0.length : Int) then (if 0 ≤ (x0.length : Int) then (if ((x0.length : Int) : Int).toNat ≤ 35184372088832 then ((some (List.replicate ((x0.length : Int) : Int).toNat 0 : List Int)).bind fun y381 => (if 0 ≤ x7 then (if x7 < (y381.length : Int) then ((some (y381.set (x7 : Int).toNat 1 : List Int)).bind fun y384 => ((some (([] : List Int) : List Int)).bind fun y385 => (if y385.length + (rd_L4 x0 x7).length < 17592186044416 then ((some (y385 ++ (rd_L4 x0 x7) : List Int)).bind fun y389 => (if y389.length + y384.length < 17592186044416 then (if x6.length < 5864062014805 then (spec_l3By.l0 k x0 x1 (x6 ++ [(y389 ++ y384)]) (wrap64 (x7 + 1))) else (none)) else (none))) else (none)))) else (none)) else (none))) else (none)) else (none)) else ((some (([] : List Int) : List Int)).bind fun y398 => (if y398.length + x1.length < 17592186044416 then ((some (y398 ++ x1 : List Int)).bind fun y401 => (if 0 ≤ (x0.length : Int) then (if y401.length + ((x0.length : Int) : Int).toNat < 17592186044416 then (spec_l3By.l1 k x6 (y401 ++ List.replicate ((x0.length : Int) : Int).toNat 0) 0) else (none)) else (none))) else (none)))
def spec_l3By.l1 : Nat → List (List Int) → List Int → Int → Option (List Int × Bool)
  | 0, _, _, _ => none
  | k + 1, x6, x9, x10 => if x10 < 4 then (spec_l3By.l2 k x6 x9 x10 0) else ((spec_l2Lead.f k x9).bind fun t421 => ((spec_l6In.f t421 0 3).bind fun t422 => (if t422 = true then (some ((([] : List Int)), false)) else (if 4 ≤ (x9.length : Int) then ((spec_l2Scale.f k (x9.drop 4) 30).bind fun t431 => (some (t431, true))) else (none)))))
def spec_l3By.l2 : Nat → List (List Int) → List Int → Int → Int → Option (List Int × Bool)
  | 0, _, _, _, _ => none
  | k + 1, x6, x9, x10, x11 => if x11 < (x6.length : Int) then (if 0 ≤ x11 then ((spec_l2Lead.f k (rd_L4 x6 x11)).bind fun t408 => (if t408 = x10 then (spec_l3By.l3 k x6 x9 x10 x11 0) else (spec_l3By.l2 k x6 x9 x10 (wrap64 (x11 + 1))))) else (none)) else (spec_l3By.l1 k x6 x9 (wrap64 (x10 + 1)))
def spec_l3By.l3 : Nat → List (List Int) → List Int → Int → Int → Int → Option (List Int × Bool)
  | 0, _, _, _, _, _ => none
  | k + 1, x6, x9, x10, x11, x12 => if x12 < (x6.length : Int) then (if x12 = x11 then (spec_l3By.l3 k x6 x9 x10 x11 (wrap64 (x12 + 1))) else (if 0 ≤ x12 then (if 0 ≤ x10 then (if x10 < ((rd_L4 x6 x12).length : Int) then (if (rd (rd_L4 x6 x12) x10) = 0 then (spec_l3By.l3 k x6 x9 x10 x11 (wrap64 (x12 + 1))) else (if 0 ≤ x11 then (if x11 < (x6.length : Int) then ((spec_l3Less.f k (rd_L4 x6 x12) (rd_L4 x6 x11)).bind fun t413 => (spec_l3By.l3 k (x6.set (x12 : Int).toNat t413) x9 x10 x11 (wrap64 (x12 + 1)))) else (none)) else (none))) else (none)) else (none)) else (none))) else (if 0 ≤ x11 then (if x11 < (x6.length : Int) then ((spec_l3Less.f k x9 (rd_L4 x6 x11)).bind fun t418 => (spec_l3By.l1 k x6 t418 (wrap64 (x10 + 1)))) else (none)) else (none))
end
def spec_l3By.f (k : Nat) (l0 : List (List Int)) (l1 : List Int) : Option (List Int × Bool) := spec_l3By.l0 k l0 l1 (([] : List (List Int))) 0
def spec_l3By.T20 : Bool × List (List Nat × List Nat) := (true, [([], []), ([], []), ([], []), ([], []), ([2, 3], [2, 3]), ([4], [4]), ([], []), ([], []), ([6, 7], [6, 7]), ([8], [8]), ([5, 9], [5, 9]), ([0, 1, 0, 1, 2, 3, 4, 5, 6, 7, 8, 9, 10], [0, 1]), ([11, 10, 10, 0, 1, 2, 3, 4, 5, 6, 7, 8, 9, 10], [10, 11])])
def spec_l3By.B20 : List Nat := [0, 0, 0, 0, 12, 28, 0, 0, 192, 448, 1020, 2047, 4095]
theorem spec_l3By.tab20 : rtab .any (opsOf Try.f60 20) = spec_l3By.T20 := by kernel_rfl
theorem spec_l3By.bits20 : waitsOk spec_l3By.T20.2 spec_l3By.B20 = true := by kernel_rfl
set_option maxHeartbeats 8000000 in
set_option maxRecDepth 100000 in
theorem spec_l3By.calls (k : Nat) (A0 : Option Addr) (c0 : Nat) (l0 : List (List Int)) (A1 : Option Addr) (c1 : Nat) (l1 : List Int) (r1 : List Int) (r2 : Bool) (w : World) (hr0 : Kd.C (Kd.slice 3 (Kd.int .i64)) w A0 l0.length l0) (hc0 : l0.length ≤ c0) (hr1 : Kd.C (Kd.int .i64) w A1 l1.length l1) (hc1 : l1.length ≤ c1) (h : spec_l3By.f k l0 l1 = some (r1, r2)) :
  Calls Try.prog 60 #[.slice A0 l0.length c0, .slice A1 l1.length c1] w fun e w' => ∃ v0_ : Value, e = .returned (.tuple #[v0_, .bool r2]) ∧ Kd.R (Kd.int .i64) 3 w' w.heap.size (fun _ => True) v0_ r1 ∧ Below w.heap.size w w' := by
 have HR0 := Aside0.mk hr0
 have HC0 := Aside0.mk hc0
 clear hr0 hc0
 have HR1 := Aside0.mk hr1
 have HC1 := Aside0.mk hc1
 clear hr1 hc1
 have HB := Aside0.mk (Below.refl w.heap.size w)
 try unfold spec_l3By.f at h
 have H := h
 clear h
 obtain ⟨y378, hy378⟩ : ∃ y_ : List (List Int), y_ = (([] : List (List Int))) := ⟨_, rfl⟩
 replace H : (spec_l3By.l0 k l0 l1 y378 0) = some (r1, r2) := yZZ_ hy378 H
 have Ny378 := Aside0.mk hy378
 clear hy378
 have H' := Aside0.mk H
 clear H
 go_enter Try.func60, Try.ntmps60
 go_wp2_with (first | ((with_reducible refine gate_dst (N := 13) rfl ?_); refine Kd.N_lit (Kd.slice 3 (Kd.int .i64)) _ 28 ?hg (N' := 13) ?hd (xs := ([] : List (List Int))) (inner := []) (ok := (fun _ => True)) (okp := (fun _ => True)) ?hr ?hp (fun _ hk => hk) ((show ∀ k_, w.heap.size ≤ k_ → (fun _ => True) k_ from fun k_ hk => trivial) _ (Nat.le_refl _)) (Below.refl _ _) (Nat.le_refl _) (by simp) ?_; (case hd => rfl); (case hg => rfl); (case hr => first | (go_simp; done) | (go_simp; rfl)); (case hp => exact (Reps.none _ _)); intro v379 w3 ho4 hb hg_ hnew_; clear hg_ hnew_; (first | rw [← Ny378.out] at ho4 | (simp only [Int.reduceToNat] at ho4; rw [← Ny378.out] at ho4)); have HO380 := Aside0.mk (Kd.N_lower ho4 (below_size z13_0)); replace HB := Aside0.mk (below_step z13_0 hb); clear hb ho4))
 go_loopg [6, 7] k (fun kq v6 v7 w' => ∃ (x6_1 : List (List Int)) (x7_1 : Int), v7 = .int .i64 x7_1 ∧ Aside0 (spec_l3By.l0 kq l0 l1 x6_1 x7_1 = some (r1, r2)) ∧ Aside0 (kq ≤ k) ∧ Aside0 (Kd.N (Kd.slice 3 (Kd.int .i64)) 28 w' w.heap.size (fun _ => True) v6 x6_1) ∧ Aside0 (Below w.heap.size w w'))
 case atStart => exact ⟨(y378), (0), z13_6, H', ⟨Nat.le_refl _⟩, ⟨by (with_reducible repeat (first | apply Kd.N_alloc | apply Kd.N_drewN | apply Kd.N_drew)); exact HO380.out⟩, ⟨z13_0⟩⟩
 case round =>
  clear H'
  try clear c1
  obtain ⟨x6_1, x7_1, rfl, HA, HK1, HO_6, HB⟩ := hrel
  cases gk with
  | zero => exact absurd HA.out (by simp [spec_l3By.l0])
  | succ k1 =>
   have H := HA.out
   clear HA; simp only [spec_l3By.l0] at H
   by_cases c5 : x7_1 < (l0.length : Int)
   ·rw [if_pos c5] at H
    have c5b0 : decide (x7_1 < (l0.length : Int)) = true := decide_eq_true c5; clear c5; obtain ⟨c6, H⟩ := ifP H
    have c6b0 := eq_true c6
    have c6b1 : decide (0 ≤ (l0.length : Int)) = true := decide_eq_true c6; clear c6; obtain ⟨c7, H⟩ := ifP H
    have c7b0 := eq_true c7
    have c7b1 : decide (((l0.length : Int) : Int).toNat ≤ 35184372088832) = true := decide_eq_true c7; clear c7
    obtain ⟨y381, hy381⟩ : ∃ y_ : List Int, y_ = (List.replicate ((l0.length : Int) : Int).toNat 0) := ⟨_, rfl⟩
    replace H : (if 0 ≤ x7_1 then (if x7_1 < (y381.length : Int) then ((some (y381.set (x7_1 : Int).toNat 1 : List Int)).bind fun y384 => ((some (([] : List Int) : List Int)).bind fun y385 => (if y385.length + (rd_L4 l0 x7_1).length < 17592186044416 then ((some (y385 ++ (rd_L4 l0 x7_1) : List Int)).bind fun y389 => (if y389.length + y384.length < 17592186044416 then (if x6_1.length < 5864062014805 then (spec_l3By.l0 k1 l0 l1 (x6_1 ++ [(y389 ++ y384)]) (wrap64 (x7_1 + 1))) else (none)) else (none))) else (none)))) else (none)) else (none)) = some (r1, r2) := yZZ_ hy381 H
    have Ny381 := Aside0.mk hy381
    clear hy381; obtain ⟨c8, H⟩ := ifP H; have c8b0 : decide (0 ≤ x7_1) = true := decide_eq_true c8; clear c8; obtain ⟨c9, H⟩ := ifP H; have c9b0 : decide (x7_1 < (y381.length : Int)) = true := decide_eq_true c9; clear c9
    obtain ⟨y384, hy384⟩ : ∃ y_ : List Int, y_ = (y381.set (x7_1 : Int).toNat 1) := ⟨_, rfl⟩
    replace H : ((some (([] : List Int) : List Int)).bind fun y385 => (if y385.length + (rd_L4 l0 x7_1).length < 17592186044416 then ((some (y385 ++ (rd_L4 l0 x7_1) : List Int)).bind fun y389 => (if y389.length + y384.length < 17592186044416 then (if x6_1.length < 5864062014805 then (spec_l3By.l0 k1 l0 l1 (x6_1 ++ [(y389 ++ y384)]) (wrap64 (x7_1 + 1))) else (none)) else (none))) else (none))) = some (r1, r2) := yZZ_ hy384 H
    have Ny384 := Aside0.mk hy384
    clear hy384
    obtain ⟨y385, hy385⟩ : ∃ y_ : List Int, y_ = (([] : List Int)) := ⟨_, rfl⟩
    replace H : (if y385.length + (rd_L4 l0 x7_1).length < 17592186044416 then ((some (y385 ++ (rd_L4 l0 x7_1) : List Int)).bind fun y389 => (if y389.length + y384.length < 17592186044416 then (if x6_1.length < 5864062014805 then (spec_l3By.l0 k1 l0 l1 (x6_1 ++ [(y389 ++ y384)]) (wrap64 (x7_1 + 1))) else (none)) else (none))) else (none)) = some (r1, r2) := yZZ_ hy385 H
    have Ny385 := Aside0.mk hy385
    clear hy385; obtain ⟨c11, H⟩ := ifP H
    have LMc11 := Aside0.mk c11
    clear c11
    obtain ⟨y389, hy389⟩ : ∃ y_ : List Int, y_ = (y385 ++ (rd_L4 l0 x7_1)) := ⟨_, rfl⟩
    replace H : (if y389.length + y384.length < 17592186044416 then (if x6_1.length < 5864062014805 then (spec_l3By.l0 k1 l0 l1 (x6_1 ++ [(y389 ++ y384)]) (wrap64 (x7_1 + 1))) else (none)) else (none)) = some (r1, r2) := yZZ_ hy389 H
    have Ny389 := Aside0.mk hy389
    clear hy389; obtain ⟨c12, H⟩ := ifP H
    have LMc12 := Aside0.mk c12
    clear c12
    obtain ⟨y392, hy392⟩ : ∃ y_ : List Int, y_ = (y389 ++ y384) := ⟨_, rfl⟩
    replace H : (if x6_1.length < 5864062014805 then (spec_l3By.l0 k1 l0 l1 (x6_1 ++ [y392]) (wrap64 (x7_1 + 1))) else (none)) = some (r1, r2) := yZZ_ hy392 H
    have Ny392 := Aside0.mk hy392
    clear hy392; obtain ⟨c13, H⟩ := ifP H
    have LMc13 := Aside0.mk c13
    clear c13
    obtain ⟨y395, hy395⟩ : ∃ y_ : List (List Int), y_ = (x6_1 ++ [y392]) := ⟨_, rfl⟩
    replace H : (spec_l3By.l0 k1 l0 l1 y395 (wrap64 (x7_1 + 1))) = some (r1, r2) := yZZ_ hy395 H
    have Ny395 := Aside0.mk hy395
    clear hy395
    have H' := Aside0.mk H
    clear H
    go_wp2_with (first | ((with_reducible refine gate_dst (N := 22) rfl ?_); refine Kd.R_make (Kd.int .i64) _ 3 rfl (N := 22) rfl 28 _ _ rfl (l0.length : Int) rfl rfl Try.underlying28 (.int .i64 0) 8 info3 rfl (by decide) (by omega) 0 (ok := fun _ => True) (okp := fun _ => True) rfl (fun _ hk => hk) trivial (of_decide_eq_true z13_1) (Nat.le_trans (Nat.mul_le_mul_right _ (of_decide_eq_true z13_1 : (l0.length : Int).toNat ≤ 35184372088832)) (by omega)) (Below.refl _ _) (Nat.le_refl _) ?_; intro v382 w14 ho15 hb hg_ hnew_; clear hg_ hnew_; (first | rw [← Ny381.out] at ho15 | (simp only [Int.reduceToNat] at ho15; rw [← Ny381.out] at ho15)); replace HO_6 := Aside0.mk (Kd.N_elder' z13_2 (Kd.R_base ho15) hb); have HO383 := Aside0.mk (Kd.R_lower ho15 (below_size z13_0)); replace HB := Aside0.mk (below_step z13_0 hb); clear hb ho15; have p10 : 0 ≤ (x7_1 : Int) := of_decide_eq_true z13_1; have q10 : (x7_1 : Int) < ((y381.length : Int) : Int) := of_decide_eq_true z13_1; obtain ⟨go10, co10, eo10, gb10, gl10, cl10, HG10⟩ := Kd.R_form HO383.out (by omega); (first | cases eo10 | (injection eo10 with ea_ en_ ec_; (first | subst ea_ | (injection ea_ with ea_; subst ea_)); subst ec_; clear en_)); have GB10 := Aside0.mk gb10; have GG10 := Aside0.mk HG10; clear gb10 gl10 HG10; obtain ⟨hx10_0, hf10_0⟩ := Kd.R_celln 0 HO383.out (x7_1 : Int) p10 q10; replace p10 := eq_true p10; replace q10 := eq_true q10; obtain ⟨hy16_, hz16_⟩ := Kd.R_celln 0 HO383.out (x7_1 : Int) (of_decide_eq_true z13_1) (of_decide_eq_true z13_1); have HP16 := Kd.R_putg HO383.out (x7_1 : Int) 1) | ((with_reducible refine gate_store (t := 3) (p := 25) rfl ?_); refine store_event (t := 3) (p := 25) (v := ?vo_w17) (w1 := (w14.setCell ⟨go10, (x7_1 : Int).toNat, none⟩ (.int .i64 1))) ?hg ?ho ?hn ?hr ?_; (case ho => rfl); (case hg => rfl); (case hn => rfl); (case hr => first | (go_simp; done) | (go_simp; rfl)); intro w17 hw; have hg : w14.grownBy w17 (some go10) := (by rw [hw]; exact HP16.2); have hp_ : Kd.R (Kd.int .i64) 3 w17 w.heap.size (fun _ => True) (.slice (some ⟨go10, 0, none⟩) y381.length co10) y384 := (by rw [hw, Ny384.out]; exact HP16.1); clear HP16; replace HO_6 := Aside0.mk (Kd.N_afterv (v := (.slice (some ⟨go10, 0, none⟩) y381.length co10)) (v1 := (.slice (some ⟨go10, 0, none⟩) y381.length co10)) (ok := (fun _ => True)) z13_2 hg (.inl rfl)); replace HO383 := Aside0.mk (hp_); replace HB := Aside0.mk ((by rw [hw]; exact below_set (HB.out) GB10.out : Below w.heap.size w w17)); clear hg hw hp_) | ((with_reducible refine gate_dst (N := 27) rfl ?_); refine Kd.R_lit (Kd.int .i64) _ 3 ?hg (N := 27) ?hd (xs := ([] : List Int)) (inner := []) (ok := fun _ => True) (okp := fun _ => True) ?hr ?hp (fun _ hk => hk) trivial (Below.refl _ _) (Nat.le_refl _) (by simp) ?_; (case hd => rfl); (case hg => rfl); (case hr => first | (go_simp; done) | (go_simp; rfl)); (case hp => exact (Reps.none _ _)); intro v386 w18 ho19 hb hg_ hnew_; clear hg_ hnew_; (first | rw [← Ny385.out] at ho19 | (simp only [Int.reduceToNat] at ho19; rw [← Ny385.out] at ho19)); replace HO_6 := Aside0.mk (Kd.N_elder' z13_2 (Kd.R_base ho19) hb); have HO387 := Aside0.mk (Kd.R_lower (Kd.R_new' ho19 (Kd.R_lt z13_5)) (below_size z13_0)); replace HO383 := Aside0.mk (Kd.R_elder' z13_5 (Kd.R_base ho19) hb); replace HB := Aside0.mk (below_step z13_0 hb); clear hb ho19; have p388 : 0 ≤ (x7_1 : Int) := of_decide_eq_true z13_1; have q388 : x7_1 < (l0.length : Int) := of_decide_eq_true z13_1; obtain ⟨ad388, A388_0, c388_0, e388, hx388_0, hl388_0, hi388_0⟩ := at_L4 HR0.out x7_1 p388 q388; cases e388; replace hx388_0 := (HB.out.cell (World.block_lt_of_cell? w _ hx388_0)).trans hx388_0; have HR388_0 := Aside0.mk hi388_0; have HC388_0 := Aside0.mk hl388_0; clear hi388_0 hl388_0; replace p388 := eq_true p388; replace q388 := eq_true q388) | ((with_reducible refine gate_builtin (b := .append) (xs := #[.tmp 27, .tmp 31]) rfl ?_); at_builtin; refine Kd.R_append_rows (Kd.int .i64) (w0 := w) w.heap.size rfl (.tmp 27) (.tmp 31) 28 3 (.int .i64 0) 8 rfl Try.underlying28 info3 rfl (by decide) (by omega) v386 y385 (rd_L4 l0 x7_1) _ _ _ (fun k_ => some k_ ≠ (.slice (some ⟨go10, 0, none⟩) y381.length co10 : Value).ownBlock) (fun _ => False) rfl rfl ?aO ?aR (fun _ _ h => h) (fun _ h => h.elim) ?aF ?aB ?aS ?aL ?_; (case aR => repeat (first | exact (Kd.C_below HR388_0.out HB.out) | (with_reducible refine Kd.C_alloc ?_ _) | (with_reducible refine Kd.C_drewN ?_ _) | (with_reducible refine Kd.C_drew ?_))); (case aB => exact z13_0); (case aF => exact (fun k_ hk => Kd.fresh' (Kd.R_lt z13_5) k_ hk)); (case aO => exact (by (with_reducible repeat (first | apply Kd.R_alloc | apply Kd.R_drewN | apply Kd.R_drew)); exact Kd.R_mono HO387.out (fun _ hk => hk.2))); (case aS => exact (below_size z13_0)); (case aL => have := LMc11.out; omega); intro v390 w20 ho hb hg hat; rw [← Ny389.out] at ho; have n0_ := Aside0.mk (Kd.N_afterv (ok := (fun k_ => some k_ ≠ (.slice (some ⟨go10, 0, none⟩) y381.length co10 : Value).ownBlock)) (by (with_reducible repeat (first | apply Kd.N_alloc | apply Kd.N_drewN | apply Kd.N_drew)); exact Kd.N_mono HO_6.out (fun _ hk => ⟨hk.1.2, hk.2⟩)) hg hat); have n1_ := Aside0.mk (Kd.R_after (ok := (fun _ => True)) z13_5 hg hat); have n2_ := Aside0.mk (hb); have n3_ := Aside0.mk (ho); clear HO_6; clear HO383; clear HB; clear HO387; have HO_6 := n0_; have HO383 := n1_; have HB := n2_; have HO391 := n3_; clear n0_ n1_ n2_ n3_; clear ho hb hg hat) | ((with_reducible refine gate_builtin (b := .append) (xs := #[.tmp 32, .tmp 33]) rfl ?_); at_builtin; refine Kd.R_append_rows (Kd.int .i64) (w0 := w) w.heap.size rfl (.tmp 32) (.tmp 33) 28 3 (.int .i64 0) 8 rfl Try.underlying28 info3 rfl (by decide) (by omega) v390 y389 y384 _ _ _ (fun k_ => some k_ ≠ (.slice (some ⟨go10, 0, none⟩) y381.length co10 : Value).ownBlock) (fun _ => False) rfl rfl ?aO ?aR (fun _ _ h => h) (fun _ h => h.elim) ?aF ?aB ?aS ?aL ?_; (case aR => rw [show y381.length = y384.length from (Kd.R_reads' HO383.out).1]; repeat (first | exact (Kd.R_reads' HO383.out).2.2 | (with_reducible refine Kd.C_alloc ?_ _) | (with_reducible refine Kd.C_drewN ?_ _) | (with_reducible refine Kd.C_drew ?_))); (case aB => exact z13_0); (case aF => exact (fun k_ hk => Kd.fresh' (Kd.R_lt z13_5) k_ hk)); (case aO => exact (by (with_reducible repeat (first | apply Kd.R_alloc | apply Kd.R_drewN | apply Kd.R_drew)); exact HO391.out)); (case aS => exact (below_size z13_0)); (case aL => have := LMc12.out; have hlx_ := (Kd.R_reads' HO383.out).1; omega); intro v393 w21 ho hb hg hat; rw [← Ny392.out] at ho; have n0_ := Aside0.mk (Kd.N_afterv (ok := (fun k_ => some k_ ≠ (.slice (some ⟨go10, 0, none⟩) y381.length co10 : Value).ownBlock)) z13_2 hg hat); have n1_ := Aside0.mk (Kd.R_after (ok := (fun _ => True)) z13_5 hg hat); have n2_ := Aside0.mk (hb); have n3_ := Aside0.mk (ho); clear HO_6; clear HO383; clear HB; clear HO391; have HO_6 := n0_; have HO383 := n1_; have HB := n2_; have HO394 := n3_; clear n0_ n1_ n2_ n3_; clear ho hb hg hat; obtain ⟨Ao23, co23, eo23⟩ := Kd.R_slice HO394.out; subst eo23) | ((with_reducible refine gate_builtin (b := .append) (xs := #[.tmp 26, .tmp 35]) rfl ?_); at_builtin; refine Kd.N_append (Kd.slice 3 (Kd.int .i64)) (w0 := w) w.heap.size rfl (.tmp 26) (.tmp 35) 85 28 (.slice none 0 0) 24 rfl Try.underlying85 info28 rfl (by decide) (by omega) u6 x6_1 y392 [.slice Ao23 y392.length co23] (fun k_ => some k_ ≠ (.slice (some ⟨go10, 0, none⟩) y381.length co10 : Value).ownBlock) (fun k_ => ((fun k_ => some k_ ≠ (.slice (some ⟨go10, 0, none⟩) y381.length co10 : Value).ownBlock)) k_ ∧ some k_ ≠ (u6 : Value).ownBlock) rfl rfl ?aP (fun _ hk => hk) ?aF ?aO ?aB ?aS ?aL ?_; (case aP => exact (Kd.FK_slice_mk (Kd.R_reads' (Kd.R_mono (ok' := (fun k_ => ((fun k_ => some k_ ≠ (.slice (some ⟨go10, 0, none⟩) y381.length co10 : Value).ownBlock)) k_ ∧ some k_ ≠ (u6 : Value).ownBlock)) (Kd.R_apart' (HO394.out) (Kd.N_typed HO_6.out) (by decide)) (fun k_ hk => ⟨hk.1, hk.2⟩))).2.1 (Kd.R_F (Kd.R_mono (ok' := (fun k_ => ((fun k_ => some k_ ≠ (.slice (some ⟨go10, 0, none⟩) y381.length co10 : Value).ownBlock)) k_ ∧ some k_ ≠ (u6 : Value).ownBlock)) (Kd.R_apart' (HO394.out) (Kd.N_typed HO_6.out) (by decide)) (fun k_ hk => ⟨hk.1, hk.2⟩))))); (case aB => exact z13_0); (case aF => exact (fun k_ hk => Kd.fresh' (Kd.R_lt z13_5) k_ hk)); (case aO => exact (by (with_reducible repeat (first | apply Kd.N_alloc | apply Kd.N_drewN | apply Kd.N_drew)); exact Kd.N_mono HO_6.out (fun _ hk => hk.1))); (case aS => exact (below_size z13_0)); (case aL => have := LMc13.out; omega); intro v396 w22 ho hb hg hat; rw [← Ny395.out] at ho; have n0_ := Aside0.mk (Kd.R_over' z13_5 (Kd.N_typed z13_2) (by decide) hg); have n1_ := Aside0.mk (hb); have n2_ := Aside0.mk (ho); clear HO383; clear HB; clear HO_6; clear HO394; have HO383 := n0_; have HB := n1_; have HO397 := n2_; clear n0_ n1_ n2_; clear ho hb hg hat))
    go_roundg k1
    case measure => have := HK1.out; omega
    case rel => exact ⟨(y395), (wrap64 (x7_1 + 1)), z13_6, H', ⟨by have := HK1.out; omega⟩, ⟨by (with_reducible repeat (first | apply Kd.N_alloc | apply Kd.N_drewN | apply Kd.N_drew)); exact Kd.N_mono HO397.out (fun _ hk => trivial)⟩, ⟨z13_0⟩⟩
   ·rw [if_neg c5] at H
    have c5b0 : decide (x7_1 < (l0.length : Int)) = false := decide_eq_false c5; clear c5
    obtain ⟨y398, hy398⟩ : ∃ y_ : List Int, y_ = (([] : List Int)) := ⟨_, rfl⟩
    replace H : (if y398.length + l1.length < 17592186044416 then ((some (y398 ++ l1 : List Int)).bind fun y401 => (if 0 ≤ (l0.length : Int) then (if y401.length + ((l0.length : Int) : Int).toNat < 17592186044416 then (spec_l3By.l1 k1 x6_1 (y401 ++ List.replicate ((l0.length : Int) : Int).toNat 0) 0) else (none)) else (none))) else (none)) = some (r1, r2) := yZZ_ hy398 H
    have Ny398 := Aside0.mk hy398
    clear hy398; obtain ⟨c24, H⟩ := ifP H
    have LMc24 := Aside0.mk c24
    clear c24
    obtain ⟨y401, hy401⟩ : ∃ y_ : List Int, y_ = (y398 ++ l1) := ⟨_, rfl⟩
    replace H : (if 0 ≤ (l0.length : Int) then (if y401.length + ((l0.length : Int) : Int).toNat < 17592186044416 then (spec_l3By.l1 k1 x6_1 (y401 ++ List.replicate ((l0.length : Int) : Int).toNat 0) 0) else (none)) else (none)) = some (r1, r2) := yZZ_ hy401 H
    have Ny401 := Aside0.mk hy401
    clear hy401; obtain ⟨c25, H⟩ := ifP H
    have c25b0 := eq_true c25
    have c25b1 : decide (0 ≤ (l0.length : Int)) = true := decide_eq_true c25; clear c25; obtain ⟨c26, H⟩ := ifP H
    have LMc26 := Aside0.mk c26
    clear c26
    obtain ⟨y404, hy404⟩ : ∃ y_ : List Int, y_ = (y401 ++ List.replicate ((l0.length : Int) : Int).toNat 0) := ⟨_, rfl⟩
    replace H : (spec_l3By.l1 k1 x6_1 y404 0) = some (r1, r2) := yZZ_ hy404 H
    have Ny404 := Aside0.mk hy404
    clear hy404
    have H' := Aside0.mk H
    clear H
    go_wp2_with (first | ((with_reducible refine gate_dst (N := 37) rfl ?_); refine Kd.R_lit (Kd.int .i64) _ 3 ?hg (N := 37) ?hd (xs := ([] : List Int)) (inner := []) (ok := fun _ => True) (okp := fun _ => True) ?hr ?hp (fun _ hk => hk) trivial (Below.refl _ _) (Nat.le_refl _) (by simp) ?_; (case hd => rfl); (case hg => rfl); (case hr => first | (go_simp; done) | (go_simp; rfl)); (case hp => exact (Reps.none _ _)); intro v399 w27 ho28 hb hg_ hnew_; clear hg_ hnew_; (first | rw [← Ny398.out] at ho28 | (simp only [Int.reduceToNat] at ho28; rw [← Ny398.out] at ho28)); replace HO_6 := Aside0.mk (Kd.N_elder' z13_2 (Kd.R_base ho28) hb); have HO400 := Aside0.mk (Kd.R_lower ho28 (below_size z13_0)); replace HB := Aside0.mk (below_step z13_0 hb); clear hb ho28) | ((with_reducible refine gate_builtin (b := .append) (xs := #[.tmp 37, .tmp 38]) rfl ?_); at_builtin; refine Kd.R_append_rows (Kd.int .i64) (w0 := w) w.heap.size rfl (.tmp 37) (.tmp 38) 28 3 (.int .i64 0) 8 rfl Try.underlying28 info3 rfl (by decide) (by omega) v399 y398 l1 _ _ _ (fun _ => True) (fun _ => False) rfl rfl ?aO ?aR (fun _ _ h => h) (fun _ h => h.elim) ?aF ?aB ?aS ?aL ?_; (case aR => repeat (first | exact (Kd.C_below HR1.out HB.out) | (with_reducible refine Kd.C_alloc ?_ _) | (with_reducible refine Kd.C_drewN ?_ _) | (with_reducible refine Kd.C_drew ?_))); (case aB => exact z13_0); (case aF => exact (fun _ _ => trivial)); (case aO => exact (by (with_reducible repeat (first | apply Kd.R_alloc | apply Kd.R_drewN | apply Kd.R_drew)); exact HO400.out)); (case aS => exact (below_size z13_0)); (case aL => have := LMc24.out; omega); intro v402 w29 ho hb hg hat; rw [← Ny401.out] at ho; have n0_ := Aside0.mk (Kd.N_afterv (ok := (fun _ => True)) z13_2 hg hat); have n1_ := Aside0.mk (hb); have n2_ := Aside0.mk (ho); clear HO_6; clear HB; clear HO400; have HO_6 := n0_; have HB := n1_; have HO403 := n2_; clear n0_ n1_ n2_; clear ho hb hg hat) | (at_builtin; refine Kd.R_append_zeros (Kd.int .i64) (w0 := w) w.heap.size rfl (.tmp 39) (.tmp 41) 28 3 3 (.int .i64 0) 8 rfl Try.underlying28 Try.underlying3 info3 rfl (by decide) (by omega) v402 y401 0 ((l0.length : Int) : Int) (fun _ => True) rfl rfl rfl ?aF ?aO (of_decide_eq_true z13_1) ?aB ?aS ?aL ?_; (case aB => exact z13_0); (case aF => exact (fun _ _ => trivial)); (case aO => exact (by (with_reducible repeat (first | apply Kd.R_alloc | apply Kd.R_drewN | apply Kd.R_drew)); exact HO403.out)); (case aS => exact (below_size z13_0)); (case aL => have := LMc26.out; omega); intro v405 w30 ho hb hg hat; rw [← Ny404.out] at ho; have n0_ := Aside0.mk (Kd.N_afterv (ok := (fun _ => True)) z13_2 hg hat); have n1_ := Aside0.mk (hb); have n2_ := Aside0.mk (ho); clear HO_6; clear HB; clear HO403; have HO_6 := n0_; have HB := n1_; have HO406 := n2_; clear n0_ n1_ n2_; clear ho hb hg hat))
    go_loopg [9, 10] k1 (fun kq v9 v10 w' => ∃ (x6_2 : List (List Int)) (x9_2 : List Int) (x10_2 : Int), v10 = .int .i64 x10_2 ∧ Aside0 (spec_l3By.l1 kq x6_2 x9_2 x10_2 = some (r1, r2)) ∧ Aside0 (kq ≤ k1) ∧ Aside0 (Kd.N (Kd.slice 3 (Kd.int .i64)) 28 w' w.heap.size (fun k_ => some k_ ≠ (v9 : Value).ownBlock) u6 x6_2) ∧ Aside0 (Kd.R (Kd.int .i64) 3 w' w.heap.size (fun _ => True) v9 x9_2) ∧ Aside0 (Below w.heap.size w w'))
    case atStart => exact ⟨(x6_1), (y404), (0), z13_6, H', ⟨Nat.le_refl _⟩, ⟨by (with_reducible repeat (first | apply Kd.N_alloc | apply Kd.N_drewN | apply Kd.N_drew)); exact Kd.N_mono HO_6.out (fun _ hk => hk.2)⟩, ⟨by (with_reducible repeat (first | apply Kd.R_alloc | apply Kd.R_drewN | apply Kd.R_drew)); exact HO406.out⟩, ⟨z13_0⟩⟩
    case round =>
     clear H'
     try clear c1
     try clear c5
     try clear c5b0
     try clear c24
     try clear c25
     try clear c25b0
     try clear c25b1
     try clear c26
     obtain ⟨x6_2, x9_2, x10_2, rfl, HA, HK2, HO_6, HO_9, HB⟩ := hrel
     cases gk with
     | zero => exact absurd HA.out (by simp [spec_l3By.l1])
     | succ k2 =>
      have H := HA.out
      clear HA; simp only [spec_l3By.l1] at H
      by_cases c31 : x10_2 < 4
      ·rw [if_pos c31] at H
       have c31b0 : decide (x10_2 < 4) = true := decide_eq_true c31; clear c31
       have H' := Aside0.mk H
       clear H
       go_wp2
       go_loopg [9, 11] k2 (fun kq v9 v11 w' => ∃ (x6_3 : List (List Int)) (x9_3 : List Int) (x11_3 : Int), v11 = .int .i64 x11_3 ∧ Aside0 (spec_l3By.l2 kq x6_3 x9_3 x10_2 x11_3 = some (r1, r2)) ∧ Aside0 (kq ≤ k2) ∧ Aside0 (Kd.N (Kd.slice 3 (Kd.int .i64)) 28 w' w.heap.size (fun k_ => some k_ ≠ (v9 : Value).ownBlock) u6 x6_3) ∧ Aside0 (Kd.R (Kd.int .i64) 3 w' w.heap.size (fun _ => True) v9 x9_3) ∧ Aside0 (Below w.heap.size w w'))
       case atStart => exact ⟨(x6_2), (x9_2), (0), z13_6, H', ⟨Nat.le_refl _⟩, ⟨z13_2⟩, ⟨z13_3⟩, ⟨z13_0⟩⟩
       case round =>
        clear H'
        try clear c1
        try clear c5
        try clear c5b0
        try clear c24
        try clear c25
        try clear c25b0
        try clear c25b1
        try clear c26
        try clear c31
        try clear c31b0
        obtain ⟨x6_3, x9_3, x11_3, rfl, HA, HK3, HO_6, HO_9, HB⟩ := hrel
        cases gk with
        | zero => exact absurd HA.out (by simp [spec_l3By.l2])
        | succ k3 =>
         have H := HA.out
         clear HA; simp only [spec_l3By.l2] at H
         by_cases c32 : x11_3 < (x6_3.length : Int)
         ·rw [if_pos c32] at H
          have c32b0 : decide (x11_3 < (x6_3.length : Int)) = true := decide_eq_true c32; clear c32; obtain ⟨c33, H⟩ := ifP H; have c33b0 : decide (0 ≤ x11_3) = true := decide_eq_true c33; clear c33
          replace H := Option.bind_eq_some_iff.mp H
          obtain ⟨t408, A340, H⟩ := H
          have A34 := Aside0.mk A340
          clear A340
          by_cases c35 : t408 = x10_2
          ·rw [if_pos c35] at H
           have c35b0 : (t408 == x10_2) = true := beq_iff_eq.mpr c35
           have c35b1 : (t408 != x10_2) = false := bne_eq_false_iff_eq.mpr c35
           clear c35
           have H' := Aside0.mk H
           clear H; obtain ⟨Ao36, co36, eo36⟩ := Kd.N_slice HO_6.out; subst eo36; have p407 : 0 ≤ (x11_3 : Int) := of_decide_eq_true z13_1; have q407 : x11_3 < (x6_3.length : Int) := of_decide_eq_true z13_1; obtain ⟨ad407, A407_0, c407_0, e407, hx407_0, hl407_0, hi407_0⟩ := at_L4 (Kd.N_reads' HO_6.out).2.2 x11_3 p407 q407; cases e407; obtain ⟨ce407, hce407, hMe407, hcc407⟩ := Kd.N_get HO_6.out [] x11_3 p407 (by first | exact q407 | exact of_decide_eq_true z13_1 | (have e_ := (Kd.N_reads' HO_6.out).1; omega)); obtain ⟨ua407_0, uc407_0, rfl, ul407_0, ge407_0⟩ := Kd.FK_slice_open hMe407
           have hv407_0 := hcc407 0 _ rfl
           rw [Nat.add_zero, show ((Kd.slice 3 (Kd.int .i64))).sz = 1 from rfl, Nat.mul_one] at hv407_0
           replace hv407_0 := Option.some.inj (hv407_0.symm.trans hx407_0)
           injection hv407_0 with hva_ hvn_ hvc_
           rw [hva_] at ge407_0; rw [hvc_] at ul407_0
           have HL407_0 := Aside0.mk (show Kd.V (Kd.int .i64) 3 _ w.heap.size _ _ (rd_L4 x6_3 x11_3) from Kd.V_mk ul407_0 ge407_0)
           clear hva_ hvn_ hvc_ ge407_0 ul407_0; clear hcc407 hce407
           have HR407_0 := Aside0.mk hi407_0
           have HC407_0 := Aside0.mk hl407_0
           clear hi407_0 hl407_0
           replace p407 := eq_true p407
           replace q407 := eq_true q407
           go_wp2_with (first | ((with_reducible refine gate_callee (f := 66) rfl ?_); refine goesL_ (some 57) rfl rfl Try.func66 (by kernel_rfl) rfl #[.slice A407_0 (rd_L4 x6_3 x11_3).length c407_0] rfl z13_4 ?_; (with_reducible refine (spec_l2Lead.calls k3 _ _ (rd_L4 x6_3 x11_3) t408 _ ?side1 ?side2 A34.out).mono ?_); (case side1 => repeat (first | exact z13_9 | (with_reducible refine Kd.C_alloc ?_ _) | (with_reducible refine Kd.C_drewN ?_ _) | (with_reducible refine Kd.C_drew ?_))); (case side2 => exact HC407_0.out); rintro e w' ⟨rfl, ⟨nd, rfl⟩⟩; refine ⟨_, rfl, ?_⟩))
           go_loopg [12] k3 (fun kq v12 w' => ∃ (x6_4 : List (List Int)) (x12_4 : Int), v12 = .int .i64 x12_4 ∧ Aside0 (spec_l3By.l3 kq x6_4 x9_3 x10_2 x11_3 x12_4 = some (r1, r2)) ∧ Aside0 (kq ≤ k3) ∧ Aside0 (Kd.N (Kd.slice 3 (Kd.int .i64)) 28 w' w.heap.size (fun k_ => some k_ ≠ (u9 : Value).ownBlock) (.slice (some ad407) x6_3.length co36) x6_4) ∧ Aside0 (Kd.R (Kd.int .i64) 3 w' w.heap.size (fun _ => True) u9 x9_3) ∧ Aside0 (Below w.heap.size w w'))
           case atStart => exact ⟨(x6_3), (0), z13_6, H', ⟨Nat.le_refl _⟩, ⟨z13_2⟩, ⟨z13_3⟩, ⟨z13_0⟩⟩
           case round =>
            clear H'
            try clear c1
            try clear c5
            try clear c5b0
            try clear c24
            try clear c25
            try clear c25b0
            try clear c25b1
            try clear c26
            try clear c31
            try clear c31b0
            try clear c32
            try clear c32b0
            try clear c33
            try clear c33b0
            try clear c35
            try clear c35b0
            try clear c35b1
            try clear hx407_0
            try clear p407
            try clear q407
            obtain ⟨x6_4, x12_4, rfl, HA, HK4, HO_6, HO_9, HB⟩ := hrel
            have hl6_4 := (Kd.N_reads' HO_6.out).1
            rw [hl6_4] at HO_6; (try simp only [hl6_4]); (try simp only [hl6_4] at HO_9)
            cases gk with
            | zero => exact absurd HA.out (by simp [spec_l3By.l3])
            | succ k4 =>
             have H := HA.out
             clear HA; simp only [spec_l3By.l3] at H
             by_cases c37 : x12_4 < (x6_4.length : Int)
             ·rw [if_pos c37] at H
              have c37b0 : decide (x12_4 < (x6_4.length : Int)) = true := decide_eq_true c37; clear c37
              by_cases c38 : x12_4 = x11_3
              ·rw [if_pos c38] at H
               have c38b0 : (x12_4 == x11_3) = true := beq_iff_eq.mpr c38
               have c38b1 : (x12_4 != x11_3) = false := bne_eq_false_iff_eq.mpr c38
               clear c38
               have H' := Aside0.mk H
               clear H
               go_wp2
               (try simp only [← hl6_4])
               go_roundg k4
               case measure => have := HK1.out; have := HK2.out; have := HK3.out; have := HK4.out; omega
               case rel => exact ⟨(x6_4), (wrap64 (x12_4 + 1)), z13_6, H', ⟨z13_8⟩, ⟨z13_13⟩, ⟨z13_14⟩, ⟨z13_0⟩⟩
              ·rw [if_neg c38] at H
               have c38b0 : (x12_4 == x11_3) = false := beq_eq_false_iff_ne.mpr c38
               have c38b1 : (x12_4 != x11_3) = true := bne_iff_ne.mpr c38
               obtain ⟨c39, H⟩ := ifP H; have c39b0 : decide (0 ≤ x12_4) = true := decide_eq_true c39; clear c39; obtain ⟨c40, H⟩ := ifP H; have c40b0 : decide (0 ≤ x10_2) = true := decide_eq_true c40; clear c40; obtain ⟨c41, H⟩ := ifP H; have c41b0 : decide (x10_2 < ((rd_L4 x6_4 x12_4).length : Int)) = true := decide_eq_true c41; clear c41
               by_cases c42 : (rd (rd_L4 x6_4 x12_4) x10_2) = 0
               ·rw [if_pos c42] at H
                have c42b0 : ((rd (rd_L4 x6_4 x12_4) x10_2) == 0) = true := beq_iff_eq.mpr c42
                have c42b1 : ((rd (rd_L4 x6_4 x12_4) x10_2) != 0) = false := bne_eq_false_iff_eq.mpr c42
                clear c42
                have H' := Aside0.mk H
                clear H; have p409 : 0 ≤ (x12_4 : Int) := of_decide_eq_true z13_1; have q409 : x12_4 < (x6_4.length : Int) := of_decide_eq_true z13_1; obtain ⟨ad409, A409_0, c409_0, e409, hx409_0, hl409_0, hi409_0⟩ := at_L4 (Kd.N_reads' HO_6.out).2.2 x12_4 p409 q409
                obtain rfl : ad407 = ad409 := (by injection e409)
                obtain ⟨ce409, hce409, hMe409, hcc409⟩ := Kd.N_get HO_6.out [] x12_4 p409 (by first | exact q409 | exact of_decide_eq_true z13_1 | (have e_ := (Kd.N_reads' HO_6.out).1; omega)); obtain ⟨ua409_0, uc409_0, rfl, ul409_0, ge409_0⟩ := Kd.FK_slice_open hMe409
                have hv409_0 := hcc409 0 _ rfl
                rw [Nat.add_zero, show ((Kd.slice 3 (Kd.int .i64))).sz = 1 from rfl, Nat.mul_one] at hv409_0
                replace hv409_0 := Option.some.inj (hv409_0.symm.trans hx409_0)
                injection hv409_0 with hva_ hvn_ hvc_
                rw [hva_] at ge409_0; rw [hvc_] at ul409_0
                have HL409_0 := Aside0.mk (show Kd.V (Kd.int .i64) 3 _ w.heap.size _ _ (rd_L4 x6_4 x12_4) from Kd.V_mk ul409_0 ge409_0)
                clear hva_ hvn_ hvc_ ge409_0 ul409_0; clear hcc409 hce409
                have HR409_0 := Aside0.mk hi409_0
                have HC409_0 := Aside0.mk hl409_0
                clear hi409_0 hl409_0
                replace p409 := eq_true p409
                replace q409 := eq_true q409
                have p410 : 0 ≤ (x10_2 : Int) := of_decide_eq_true z13_1; have q410 : x10_2 < ((rd_L4 x6_4 x12_4).length : Int) := of_decide_eq_true z13_1; obtain ⟨ad410, e410, hx410_0⟩ := Kd.at_int z13_7 x10_2 p410 q410; cases e410
                replace p410 := eq_true p410
                replace q410 := eq_true q410
                go_wp2
                (try simp only [← hl6_4])
                go_roundg k4
                case measure => have := HK1.out; have := HK2.out; have := HK3.out; have := HK4.out; omega
                case rel => exact ⟨(x6_4), (wrap64 (x12_4 + 1)), z13_6, H', ⟨z13_8⟩, ⟨z13_13⟩, ⟨z13_14⟩, ⟨z13_0⟩⟩
               ·rw [if_neg c42] at H
                have c42b0 : ((rd (rd_L4 x6_4 x12_4) x10_2) == 0) = false := beq_eq_false_iff_ne.mpr c42
                have c42b1 : ((rd (rd_L4 x6_4 x12_4) x10_2) != 0) = true := bne_iff_ne.mpr c42
                obtain ⟨c43, H⟩ := ifP H; have c43b0 : decide (0 ≤ x11_3) = true := decide_eq_true c43; clear c43; obtain ⟨c44, H⟩ := ifP H; have c44b0 : decide (x11_3 < (x6_4.length : Int)) = true := decide_eq_true c44; clear c44
                replace H := Option.bind_eq_some_iff.mp H
                obtain ⟨t413, A450, H⟩ := H
                have A45 := Aside0.mk A450
                clear A450
                obtain ⟨y416, hy416⟩ : ∃ y_ : List (List Int), y_ = (x6_4.set (x12_4 : Int).toNat t413) := ⟨_, rfl⟩
                replace H : (spec_l3By.l3 k4 y416 x9_3 x10_2 x11_3 (wrap64 (x12_4 + 1))) = some (r1, r2) := yZZ_ hy416 H
                have Ny416 := Aside0.mk hy416
                clear hy416
                have H' := Aside0.mk H
                clear H; have p409 : 0 ≤ (x12_4 : Int) := of_decide_eq_true z13_1; have q409 : x12_4 < (x6_4.length : Int) := of_decide_eq_true z13_1; obtain ⟨ad409, A409_0, c409_0, e409, hx409_0, hl409_0, hi409_0⟩ := at_L4 (Kd.N_reads' HO_6.out).2.2 x12_4 p409 q409
                obtain rfl : ad407 = ad409 := (by injection e409)
                obtain ⟨ce409, hce409, hMe409, hcc409⟩ := Kd.N_get HO_6.out [] x12_4 p409 (by first | exact q409 | exact of_decide_eq_true z13_1 | (have e_ := (Kd.N_reads' HO_6.out).1; omega)); obtain ⟨ua409_0, uc409_0, rfl, ul409_0, ge409_0⟩ := Kd.FK_slice_open hMe409
                have hv409_0 := hcc409 0 _ rfl
                rw [Nat.add_zero, show ((Kd.slice 3 (Kd.int .i64))).sz = 1 from rfl, Nat.mul_one] at hv409_0
                replace hv409_0 := Option.some.inj (hv409_0.symm.trans hx409_0)
                injection hv409_0 with hva_ hvn_ hvc_
                rw [hva_] at ge409_0; rw [hvc_] at ul409_0
                have HL409_0 := Aside0.mk (show Kd.V (Kd.int .i64) 3 _ w.heap.size _ _ (rd_L4 x6_4 x12_4) from Kd.V_mk ul409_0 ge409_0)
                clear hva_ hvn_ hvc_ ge409_0 ul409_0; clear hcc409 hce409
                have HR409_0 := Aside0.mk hi409_0
                have HC409_0 := Aside0.mk hl409_0
                clear hi409_0 hl409_0
                replace p409 := eq_true p409
                replace q409 := eq_true q409
                have p410 : 0 ≤ (x10_2 : Int) := of_decide_eq_true z13_1; have q410 : x10_2 < ((rd_L4 x6_4 x12_4).length : Int) := of_decide_eq_true z13_1; obtain ⟨ad410, e410, hx410_0⟩ := Kd.at_int z13_7 x10_2 p410 q410; cases e410
                replace p410 := eq_true p410
                replace q410 := eq_true q410
                try go_wp2
                replace HO_6 := Aside0.mk (Kd.N_drew HO_6.out)
                replace HO_9 := Aside0.mk (Kd.R_drew HO_9.out)
                replace HL409_0 := Aside0.mk (Kd.V_drew HL409_0.out)
                replace HR409_0 := Aside0.mk (Kd.C_drew HR409_0.out)
                replace HB := Aside0.mk (below_drew1 HB.out)
                have p411 : 0 ≤ (x12_4 : Int) := of_decide_eq_true z13_1; have q411 : x12_4 < (x6_4.length : Int) := of_decide_eq_true z13_1; obtain ⟨ad411, A411_0, c411_0, e411, hx411_0, hl411_0, hi411_0⟩ := at_L4 (Kd.N_reads' HO_6.out).2.2 x12_4 p411 q411
                obtain rfl : ad407 = ad411 := (by injection e411)
                obtain ⟨ce411, hce411, hMe411, hcc411⟩ := Kd.N_get HO_6.out [] x12_4 p411 (by first | exact q411 | exact of_decide_eq_true z13_1 | (have e_ := (Kd.N_reads' HO_6.out).1; omega)); obtain ⟨ua411_0, uc411_0, rfl, ul411_0, ge411_0⟩ := Kd.FK_slice_open hMe411
                have hv411_0 := hcc411 0 _ rfl
                rw [Nat.add_zero, show ((Kd.slice 3 (Kd.int .i64))).sz = 1 from rfl, Nat.mul_one] at hv411_0
                replace hv411_0 := Option.some.inj (hv411_0.symm.trans hx411_0)
                injection hv411_0 with hva_ hvn_ hvc_
                rw [hva_] at ge411_0; rw [hvc_] at ul411_0
                have HL411_0 := Aside0.mk (show Kd.V (Kd.int .i64) 3 _ w.heap.size _ _ (rd_L4 x6_4 x12_4) from Kd.V_mk ul411_0 ge411_0)
                clear hva_ hvn_ hvc_ ge411_0 ul411_0; clear hcc411 hce411
                have HR411_0 := Aside0.mk hi411_0
                have HC411_0 := Aside0.mk hl411_0
                clear hi411_0 hl411_0
                replace p411 := eq_true p411
                replace q411 := eq_true q411
                have p412 : 0 ≤ (x11_3 : Int) := of_decide_eq_true z13_1; have q412 : x11_3 < (x6_4.length : Int) := of_decide_eq_true z13_1; obtain ⟨ad412, A412_0, c412_0, e412, hx412_0, hl412_0, hi412_0⟩ := at_L4 (Kd.N_reads' HO_6.out).2.2 x11_3 p412 q412
                obtain rfl : ad407 = ad412 := (by injection e412)
                obtain ⟨ce412, hce412, hMe412, hcc412⟩ := Kd.N_get HO_6.out [] x11_3 p412 (by first | exact q412 | exact of_decide_eq_true z13_1 | (have e_ := (Kd.N_reads' HO_6.out).1; omega)); obtain ⟨ua412_0, uc412_0, rfl, ul412_0, ge412_0⟩ := Kd.FK_slice_open hMe412
                have hv412_0 := hcc412 0 _ rfl
                rw [Nat.add_zero, show ((Kd.slice 3 (Kd.int .i64))).sz = 1 from rfl, Nat.mul_one] at hv412_0
                replace hv412_0 := Option.some.inj (hv412_0.symm.trans hx412_0)
                injection hv412_0 with hva_ hvn_ hvc_
                rw [hva_] at ge412_0; rw [hvc_] at ul412_0
                have HL412_0 := Aside0.mk (show Kd.V (Kd.int .i64) 3 _ w.heap.size _ _ (rd_L4 x6_4 x11_3) from Kd.V_mk ul412_0 ge412_0)
                clear hva_ hvn_ hvc_ ge412_0 ul412_0; clear hcc412 hce412
                have HR412_0 := Aside0.mk hi412_0
                have HC412_0 := Aside0.mk hl412_0
                clear hi412_0 hl412_0
                replace p412 := eq_true p412
                replace q412 := eq_true q412
                refine start_ (n := 13) (S := fun w' => w'.cell? (ad407.add (x12_4).toNat) = some (.slice A411_0 (rd_L4 x6_4 x12_4).length c411_0) ∧ w'.cell? (ad407.add (x11_3).toNat) = some (.slice A412_0 (rd_L4 x6_4 x11_3).length c412_0)) (ds := [12]) #[false, false, false, false, false, false, false, false, false, false, false, false, false] (by kernel_rfl) rfl rfl ⟨hx411_0, hx412_0⟩ (fun hHeld => ?_); refine with_tabW spec_l3By.tab20 spec_l3By.bits20 (fun HT_ HW_ => ?_); generalize wr.drew = w47 at HO_6 HO_9 HL409_0 HR409_0 HB HL411_0 HL412_0 HR411_0 HR412_0 hx411_0 hx412_0 hHeld ⊢; refine pZ 0 HT_ ?_; refine pZ 1 HT_ ?_; refine pZ 2 HT_ ?_; refine pZ 3 HT_ ?_; refine pZ 4 HT_ ?_; refine pZ 6 HT_ ?_; refine pZ 7 HT_ ?_; refine pZ 8 HT_ ?_; refine tZ 5 hHeld HT_ HW_ ?_; refine tZ 9 hHeld HT_ HW_ ?_; refine oZ 10 HT_ (fun K hK => ?_); refine goes_ Try.func67 (by kernel_rfl) rfl #[.slice A411_0 (rd_L4 x6_4 x12_4).length c411_0, .slice A412_0 (rd_L4 x6_4 x11_3).length c412_0] (by rfl) rfl rfl z13_4 ?_
                with_reducible refine (spec_l3Less.calls k4 _ _ (rd_L4 x6_4 x12_4) _ _ (rd_L4 x6_4 x11_3) t413 _ ?side1 ?side2 ?side3 ?side4 A45.out).mono ?_
                (case side1 => repeat (first | exact z13_10 | (with_reducible refine Kd.C_alloc ?_ _) | (with_reducible refine Kd.C_drewN ?_ _) | (with_reducible refine Kd.C_drew ?_))); (case side2 => exact HC411_0.out); (case side3 => repeat (first | exact z13_11 | (with_reducible refine Kd.C_alloc ?_ _) | (with_reducible refine Kd.C_drewN ?_ _) | (with_reducible refine Kd.C_drew ?_))); (case side4 => exact HC412_0.out)
                rintro e w48 ⟨v414, rfl, ho0, hb⟩
                have HS0_ := (hb.cell (World.block_lt_of_cell? _ _ (hHeld.1))).trans (hHeld.1)
                have HS1_ := (hb.cell (World.block_lt_of_cell? _ _ (hHeld.2))).trans (hHeld.2)
                refine ⟨_, rfl, ?_⟩
                replace HO_6 := Aside0.mk (Kd.N_elder' z13_2 (Kd.R_base ho0) hb)
                replace HL409_0 := Aside0.mk (Kd.V_elder' (by (with_reducible repeat (first | apply Kd.V_alloc | apply Kd.V_drewN | apply Kd.V_drew)); exact HL409_0.out) (Kd.R_base ho0) hb)
                replace HL411_0 := Aside0.mk (Kd.V_elder' (by (with_reducible repeat (first | apply Kd.V_alloc | apply Kd.V_drewN | apply Kd.V_drew)); exact HL411_0.out) (Kd.R_base ho0) hb)
                replace HL412_0 := Aside0.mk (Kd.V_elder' (by (with_reducible repeat (first | apply Kd.V_alloc | apply Kd.V_drewN | apply Kd.V_drew)); exact HL412_0.out) (Kd.R_base ho0) hb)
                have HO415 := Aside0.mk (Kd.R_lower (Kd.R_new' ho0 (Kd.R_lt z13_3)) (below_size z13_0))
                replace HO_9 := Aside0.mk (Kd.R_elder' z13_3 (Kd.R_base ho0) hb)
                replace HR409_0 := Aside0.mk (Kd.C_below z13_7 hb)
                replace HR411_0 := Aside0.mk (Kd.C_below z13_10 hb)
                replace HR412_0 := Aside0.mk (Kd.C_below z13_11 hb)
                replace HB := Aside0.mk (below_step z13_0 hb)
                (try clear hb); (try clear hb2); (try clear hk); (try clear hi); (try clear ho0); have p46 : 0 ≤ (x12_4 : Int) := of_decide_eq_true z13_1
                have q46 : (x12_4 : Int) < ((x6_4.length : Int) : Int) := of_decide_eq_true z13_1
                obtain ⟨go46, co46, eo46, gb46, gl46, cl46, HG46⟩ := Kd.N_form HO_6.out (by omega); (first | cases eo46 | (injection eo46 with ea_ en_ ec_; (first | subst ea_ | (injection ea_ with ea_; subst ea_)); subst ec_; clear en_))
                have GB46 := Aside0.mk gb46
                have GG46 := Aside0.mk HG46
                clear gb46 gl46 HG46; (first | simp only [add_plain] at hx407_0 | skip); (first | simp only [add_plain] at hx409_0 | skip); (first | simp only [add_plain] at hx411_0 | skip); (first | simp only [add_plain] at hx412_0 | skip); obtain ⟨ce46, hcl46, hM46, hcc46, hfr46⟩ := Kd.N_elem HO_6.out [] (x12_4 : Int) p46 q46; obtain ⟨ua46_0, uc46_0, rfl, ul46_0, ge46_0⟩ := Kd.FK_slice_open hM46
                have hx46_0 := hcc46 0 _ rfl
                have hf46_0 := hfr46 0
                (try simp only [show ((Kd.slice 3 (Kd.int .i64))).sz = 1 from rfl, Nat.mul_one, Nat.add_zero] at hx46_0); (try simp only [show ((Kd.slice 3 (Kd.int .i64))).sz = 1 from rfl, Nat.mul_one, Nat.add_zero] at hf46_0)
                (try clear hcl46); (try clear hcc46); (try clear hfr46); (try clear hM46)
                replace p46 := eq_true p46
                replace q46 := eq_true q46
                have HX49 := Aside0.mk (show Kd.N (Kd.slice 3 (Kd.int .i64)) 28 _ w.heap.size (fun k_ => some k_ ≠ (u9 : Value).ownBlock ∧ some k_ ≠ (v414 : Value).ownBlock) (.slice (some ⟨go46, 0, none⟩) x6_4.length co36) x6_4 from (Kd.N_mono (HO_6.out) (fun k_ hk => ⟨hk.1, hk.2⟩)))
                replace HX49 := Aside0.mk (show Kd.N (Kd.slice 3 (Kd.int .i64)) 28 _ w.heap.size (fun k_ => some k_ ≠ (u9 : Value).ownBlock) (.slice (some ⟨go46, 0, none⟩) x6_4.length co36) x6_4 from Kd.N_mono HX49.out (fun k_ hk => hk.1))
                obtain ⟨ce49, hcl49, hM49, hcc49, hfr49⟩ := Kd.N_elem HX49.out [] (x12_4 : Int) (of_decide_eq_true z13_1) (by have h_ : (x12_4 : Int) < ((x6_4.length : Int) : Int) := of_decide_eq_true z13_1; first | exact h_ | (have e_ := (Kd.N_reads' HO_6.out).1; omega) | simpa using h_); obtain ⟨ua49_0, uc49_0, rfl, ul49_0, ge49_0⟩ := Kd.FK_slice_open hM49; obtain ⟨As_, cs_, es_⟩ := Kd.R_slice HO415.out; subst es_
                have HP49 := (Kd.N_seg HX49.out (x12_4 : Int) (of_decide_eq_true z13_1) (by have h_ : (x12_4 : Int) < ((x6_4.length : Int) : Int) := of_decide_eq_true z13_1; first | exact h_ | (have e_ := (Kd.N_reads' HO_6.out).1; omega) | simpa using h_) (seg := [.slice As_ t413.length cs_]) (j := 0) hcl49 hcc49 (show 1 ≤ 1 from by decide) (x' := t413) (Kd.FK_slice_mk (Kd.R_reads' (Kd.R_mono (ok' := (fun k_ => ((fun k_ => some k_ ≠ (u9 : Value).ownBlock)) k_ ∧ k_ ≠ go46)) (Kd.R_apart' (HO415.out) (Kd.N_typed HO_6.out) (by decide)) (fun k_ hk => ⟨hk.1.2, fun e_ => (hk.2) (by rw [e_]; rfl)⟩))).2.1 (Kd.R_F (Kd.R_mono (ok' := (fun k_ => ((fun k_ => some k_ ≠ (u9 : Value).ownBlock)) k_ ∧ k_ ≠ go46)) (Kd.R_apart' (HO415.out) (Kd.N_typed HO_6.out) (by decide)) (fun k_ hk => ⟨hk.1.2, fun e_ => (hk.2) (by rw [e_]; rfl)⟩)))) (fun _ hk => hk)).1
                (try simp only [show ((Kd.slice 3 (Kd.int .i64))).sz = 1 from rfl, Nat.mul_one, Nat.add_zero] at HP49); rw [← Ny416.out] at HP49
                have HQ49 := Aside0.mk HP49
                (try clear hcl49); (try clear hcc49); (try clear hfr49); (try clear hM49); (try clear HP49)
                refine hK.out _ _ ⟨HS0_, HS1_⟩ (fun hHeld => ?_); clear hK K; refine nZ ?_; refine pZ 11 HT_ ?_; refine lZ 12 HT_ (fun K hK => ?_); refine skip_ (w1 := ?_) (by rfl) rfl ?_ ?_; rotate_left
                ·go_simp
                 rfl
                refine hK.out _ _ ?_; clear hK K; refine done_ (done_of HT_.out (by kernel_rfl)) ?_
                try go_wp2
                (try simp only [← hl6_4])
                have hab_ : (⟨go46, (x11_3 : Int).toNat, none⟩ : Addr) = (⟨go46, 0, none⟩ : Addr).add (x11_3 : Int).toNat := (add_plain _ _).symm
                (try simp only [hab_]); clear hab_
                go_roundg k4
                case measure => have := HK1.out; have := HK2.out; have := HK3.out; have := HK4.out; omega
                case rel => exact ⟨(y416), (wrap64 (x12_4 + 1)), z13_6, H', ⟨z13_8⟩, ⟨by (try simp only [hl6_4]); (with_reducible repeat (first | apply Kd.N_alloc | apply Kd.N_drewN | apply Kd.N_drew)); exact HQ49.out⟩, ⟨by (try simp only [hl6_4]); (with_reducible repeat (first | apply Kd.R_alloc | apply Kd.R_drewN | apply Kd.R_drew)); exact Kd.R_mono (Kd.R_far (p := ⟨go46, (x12_4 : Int).toNat, none⟩) (Kd.R_types HO_9.out GG46.out (by decide)) (fun _ hk => hk.2) ((.slice As_ t413.length cs_ : Value))) (fun _ hk => trivial)⟩, ⟨by repeat (first | (with_reducible first | exact HB.out | apply below_alloc | apply pw_below_drewN | apply below_drew1 | refine below_set ?_ GB46.out) | exact HB.out)⟩⟩
             ·rw [if_neg c37] at H
              have c37b0 : decide (x12_4 < (x6_4.length : Int)) = false := decide_eq_false c37; clear c37; obtain ⟨c50, H⟩ := ifP H; have c50b0 : decide (0 ≤ x11_3) = true := decide_eq_true c50; clear c50; obtain ⟨c51, H⟩ := ifP H; have c51b0 : decide (x11_3 < (x6_4.length : Int)) = true := decide_eq_true c51; clear c51
              replace H := Option.bind_eq_some_iff.mp H
              obtain ⟨t418, A520, H⟩ := H
              have A52 := Aside0.mk A520
              clear A520
              have H' := Aside0.mk H
              clear H; have p417 : 0 ≤ (x11_3 : Int) := of_decide_eq_true z13_1; have q417 : x11_3 < (x6_4.length : Int) := of_decide_eq_true z13_1; obtain ⟨ad417, A417_0, c417_0, e417, hx417_0, hl417_0, hi417_0⟩ := at_L4 (Kd.N_reads' HO_6.out).2.2 x11_3 p417 q417
              obtain rfl : ad407 = ad417 := (by injection e417)
              obtain ⟨ce417, hce417, hMe417, hcc417⟩ := Kd.N_get HO_6.out [] x11_3 p417 (by first | exact q417 | exact of_decide_eq_true z13_1 | (have e_ := (Kd.N_reads' HO_6.out).1; omega)); obtain ⟨ua417_0, uc417_0, rfl, ul417_0, ge417_0⟩ := Kd.FK_slice_open hMe417
              have hv417_0 := hcc417 0 _ rfl
              rw [Nat.add_zero, show ((Kd.slice 3 (Kd.int .i64))).sz = 1 from rfl, Nat.mul_one] at hv417_0
              replace hv417_0 := Option.some.inj (hv417_0.symm.trans hx417_0)
              injection hv417_0 with hva_ hvn_ hvc_
              rw [hva_] at ge417_0; rw [hvc_] at ul417_0
              have HL417_0 := Aside0.mk (show Kd.V (Kd.int .i64) 3 _ w.heap.size _ _ (rd_L4 x6_4 x11_3) from Kd.V_mk ul417_0 ge417_0)
              clear hva_ hvn_ hvc_ ge417_0 ul417_0; clear hcc417 hce417
              have HR417_0 := Aside0.mk hi417_0
              have HC417_0 := Aside0.mk hl417_0
              clear hi417_0 hl417_0
              replace p417 := eq_true p417
              replace q417 := eq_true q417
              obtain ⟨Ao53, co53, eo53⟩ := Kd.R_slice HO_9.out; subst eo53
              go_wp2_with (first | ((with_reducible refine gate_callee (f := 67) rfl ?_); refine goesL_ (some 96) rfl rfl Try.func67 (by kernel_rfl) rfl #[.slice Ao53 x9_3.length co53, .slice A417_0 (rd_L4 x6_4 x11_3).length c417_0] rfl z13_4 ?_; (with_reducible refine (spec_l3Less.calls k4 _ _ x9_3 _ _ (rd_L4 x6_4 x11_3) t418 _ ?side1 ?side2 ?side3 ?side4 A52.out).mono ?_); (case side1 => exact cZ ((Kd.R_reads' HO_9.out).2.2)); (case side2 => exact (Kd.R_reads' HO_9.out).2.1); (case side3 => repeat (first | exact z13_12 | (with_reducible refine Kd.C_alloc ?_ _) | (with_reducible refine Kd.C_drewN ?_ _) | (with_reducible refine Kd.C_drew ?_))); (case side4 => exact HC417_0.out); rintro e w54 ⟨v419, rfl, ho0, hb⟩; refine ⟨_, rfl, ?_⟩; replace HO_6 := Aside0.mk (Kd.N_elder' z13_2 (Kd.R_base ho0) hb); replace HL417_0 := Aside0.mk (Kd.V_elder' (by (with_reducible repeat (first | apply Kd.V_alloc | apply Kd.V_drewN | apply Kd.V_drew)); exact HL417_0.out) (Kd.R_base ho0) hb); have HO420 := Aside0.mk (Kd.R_lower (Kd.R_new' ho0 (Kd.R_lt z13_3)) (below_size z13_0)); replace HO_9 := Aside0.mk (Kd.R_elder' z13_3 (Kd.R_base ho0) hb); replace HR417_0 := Aside0.mk (Kd.C_below z13_12 hb); replace HB := Aside0.mk (below_step z13_0 hb); (try clear hb); (try clear ho0)))
              (try simp only [← hl6_4])
              go_roundg k4
              case measure => have := HK1.out; have := HK2.out; have := HK3.out; have := HK4.out; omega
              case rel => exact ⟨(x6_4), (t418), (wrap64 (x10_2 + 1)), z13_6, H', ⟨z13_8⟩, ⟨by (try simp only [hl6_4]); (with_reducible repeat (first | apply Kd.N_alloc | apply Kd.N_drewN | apply Kd.N_drew)); exact Kd.N_mono HO_6.out (fun _ hk => hk.2)⟩, ⟨by (try simp only [hl6_4]); (with_reducible repeat (first | apply Kd.R_alloc | apply Kd.R_drewN | apply Kd.R_drew)); exact Kd.R_mono HO420.out (fun _ hk => trivial)⟩, ⟨z13_0⟩⟩
          ·rw [if_neg c35] at H
           have c35b0 : (t408 == x10_2) = false := beq_eq_false_iff_ne.mpr c35
           have c35b1 : (t408 != x10_2) = true := bne_iff_ne.mpr c35
           have H' := Aside0.mk H
           clear H; obtain ⟨Ao55, co55, eo55⟩ := Kd.N_slice HO_6.out; subst eo55; have p407 : 0 ≤ (x11_3 : Int) := of_decide_eq_true z13_1; have q407 : x11_3 < (x6_3.length : Int) := of_decide_eq_true z13_1; obtain ⟨ad407, A407_0, c407_0, e407, hx407_0, hl407_0, hi407_0⟩ := at_L4 (Kd.N_reads' HO_6.out).2.2 x11_3 p407 q407; cases e407; obtain ⟨ce407, hce407, hMe407, hcc407⟩ := Kd.N_get HO_6.out [] x11_3 p407 (by first | exact q407 | exact of_decide_eq_true z13_1 | (have e_ := (Kd.N_reads' HO_6.out).1; omega)); obtain ⟨ua407_0, uc407_0, rfl, ul407_0, ge407_0⟩ := Kd.FK_slice_open hMe407
           have hv407_0 := hcc407 0 _ rfl
           rw [Nat.add_zero, show ((Kd.slice 3 (Kd.int .i64))).sz = 1 from rfl, Nat.mul_one] at hv407_0
           replace hv407_0 := Option.some.inj (hv407_0.symm.trans hx407_0)
           injection hv407_0 with hva_ hvn_ hvc_
           rw [hva_] at ge407_0; rw [hvc_] at ul407_0
           have HL407_0 := Aside0.mk (show Kd.V (Kd.int .i64) 3 _ w.heap.size _ _ (rd_L4 x6_3 x11_3) from Kd.V_mk ul407_0 ge407_0)
           clear hva_ hvn_ hvc_ ge407_0 ul407_0; clear hcc407 hce407
           have HR407_0 := Aside0.mk hi407_0
           have HC407_0 := Aside0.mk hl407_0
           clear hi407_0 hl407_0
           replace p407 := eq_true p407
           replace q407 := eq_true q407
           go_wp2_with (first | ((with_reducible refine gate_callee (f := 66) rfl ?_); refine goesL_ (some 57) rfl rfl Try.func66 (by kernel_rfl) rfl #[.slice A407_0 (rd_L4 x6_3 x11_3).length c407_0] rfl z13_4 ?_; (with_reducible refine (spec_l2Lead.calls k3 _ _ (rd_L4 x6_3 x11_3) t408 _ ?side1 ?side2 A34.out).mono ?_); (case side1 => repeat (first | exact z13_9 | (with_reducible refine Kd.C_alloc ?_ _) | (with_reducible refine Kd.C_drewN ?_ _) | (with_reducible refine Kd.C_drew ?_))); (case side2 => exact HC407_0.out); rintro e w' ⟨rfl, ⟨nd, rfl⟩⟩; refine ⟨_, rfl, ?_⟩))
           go_roundg k3
           case measure => have := HK1.out; have := HK2.out; have := HK3.out; omega
           case rel => exact ⟨(x6_3), (x9_3), (wrap64 (x11_3 + 1)), z13_6, H', ⟨by have := HK1.out; have := HK2.out; have := HK3.out; omega⟩, ⟨z13_2⟩, ⟨z13_3⟩, ⟨z13_0⟩⟩
         ·rw [if_neg c32] at H
          have c32b0 : decide (x11_3 < (x6_3.length : Int)) = false := decide_eq_false c32; clear c32
          have H' := Aside0.mk H
          clear H; obtain ⟨Ao56, co56, eo56⟩ := Kd.N_slice HO_6.out; subst eo56
          go_wp2
          go_roundg k3
          case measure => have := HK1.out; have := HK2.out; have := HK3.out; omega
          case rel => exact ⟨(x6_3), (x9_3), (wrap64 (x10_2 + 1)), z13_6, H', ⟨by have := HK1.out; have := HK2.out; have := HK3.out; omega⟩, ⟨z13_2⟩, ⟨z13_3⟩, ⟨z13_0⟩⟩
      ·rw [if_neg c31] at H
       have c31b0 : decide (x10_2 < 4) = false := decide_eq_false c31; clear c31
       replace H := Option.bind_eq_some_iff.mp H
       obtain ⟨t421, A570, H⟩ := H
       have A57 := Aside0.mk A570
       clear A570
       replace H := Option.bind_eq_some_iff.mp H
       obtain ⟨t422, A580, H⟩ := H
       have A58 := Aside0.mk A580
       clear A580
       by_cases c59 : t422 = true
       ·subst c59
        rw [if_pos rfl] at H
        obtain ⟨y423, hy423⟩ : ∃ y_ : List Int, y_ = (([] : List Int)) := ⟨_, rfl⟩
        replace H : (some (y423, false)) = some (r1, r2) := yZZ_ hy423 H
        have Ny423 := Aside0.mk hy423
        clear hy423; simp only [Option.some.injEq, Prod.mk.injEq] at H; obtain ⟨rfl, rfl⟩ := H; obtain ⟨Ao60, co60, eo60⟩ := Kd.R_slice HO_9.out; subst eo60
        go_wp2_with (first | ((with_reducible refine gate_callee (f := 66) rfl ?_); refine goesL_ (some 98) rfl rfl Try.func66 (by kernel_rfl) rfl #[.slice Ao60 x9_2.length co60] rfl z13_4 ?_; (with_reducible refine (spec_l2Lead.calls k2 _ _ x9_2 t421 _ ?side1 ?side2 A57.out).mono ?_); (case side1 => exact cZ ((Kd.R_reads' HO_9.out).2.2)); (case side2 => exact (Kd.R_reads' HO_9.out).2.1); rintro e w' ⟨rfl, ⟨nd, rfl⟩⟩; refine ⟨_, rfl, ?_⟩) | ((with_reducible refine gate_callee (f := 27) rfl ?_); refine goesL_ (some 99) rfl rfl Try.func27 (by kernel_rfl) rfl #[.int .i64 t421, .int .i64 0, .int .i64 3] rfl z13_4 ?_; (with_reducible refine (spec_l6In.calls t421 0 3 true _ A58.out).mono ?_); rintro e w' ⟨rfl, ⟨nd, rfl⟩⟩; refine ⟨_, rfl, ?_⟩) | ((with_reducible refine gate_dst (N := 100) rfl ?_); refine Kd.R_lit (Kd.int .i64) _ 3 ?hg (N := 100) ?hd (xs := ([] : List Int)) (inner := []) (ok := fun _ => True) (okp := fun _ => True) ?hr ?hp (fun _ hk => hk) trivial (Below.refl _ _) (Nat.le_refl _) (by simp) ?_; (case hd => rfl); (case hg => rfl); (case hr => first | (go_simp; done) | (go_simp; rfl)); (case hp => exact (Reps.none _ _)); intro v424 w61 ho62 hb hg_ hnew_; clear hg_ hnew_; (first | rw [← Ny423.out] at ho62 | (simp only [Int.reduceToNat] at ho62; rw [← Ny423.out] at ho62)); replace HO_6 := Aside0.mk (Kd.N_elder' z13_2 (Kd.R_base ho62) hb); have HO425 := Aside0.mk (Kd.R_lower (Kd.R_new' ho62 (Kd.R_lt z13_3)) (below_size z13_0)); replace HO_9 := Aside0.mk (Kd.R_elder' z13_3 (Kd.R_base ho62) hb); replace HB := Aside0.mk (below_step z13_0 hb); clear hb ho62))
        go_ret2
        exact ⟨_, by first | rfl | (simp [errW_none, errW_some] <;> rfl) | (simp [*, errW_none, errW_some] <;> rfl), by (with_reducible repeat (first | apply Kd.R_alloc | apply Kd.R_drewN | apply Kd.R_drew)); exact Kd.R_mono HO425.out (fun _ hk => trivial), z13_0⟩
       ·replace c59 := Bool.eq_false_iff.mpr c59
        subst c59; rw [if_neg (show ¬ (false = true) by decide)] at H; obtain ⟨c63, H⟩ := ifP H
        have c63b0 := eq_true c63
        have c63b1 : decide (4 ≤ (x9_2.length : Int)) = true := decide_eq_true c63; clear c63
        obtain ⟨y426, hy426⟩ : ∃ y_ : List Int, y_ = (x9_2.drop 4) := ⟨_, rfl⟩
        replace H : ((spec_l2Scale.f k2 y426 30).bind fun t431 => (some (t431, true))) = some (r1, r2) := yZZ_ hy426 H
        have Ny426 := Aside0.mk hy426
        clear hy426
        replace H := Option.bind_eq_some_iff.mp H
        obtain ⟨t431, A640, H⟩ := H
        have A64 := Aside0.mk A640
        clear A640; simp only [Option.some.injEq, Prod.mk.injEq] at H; obtain ⟨rfl, rfl⟩ := H; obtain ⟨Ao65, co65, eo65⟩ := Kd.R_slice HO_9.out; subst eo65
        go_wp2_with (first | ((with_reducible refine gate_callee (f := 66) rfl ?_); refine goesL_ (some 98) rfl rfl Try.func66 (by kernel_rfl) rfl #[.slice Ao65 x9_2.length co65] rfl z13_4 ?_; (with_reducible refine (spec_l2Lead.calls k2 _ _ x9_2 t421 _ ?side1 ?side2 A57.out).mono ?_); (case side1 => exact cZ ((Kd.R_reads' HO_9.out).2.2)); (case side2 => exact (Kd.R_reads' HO_9.out).2.1); rintro e w' ⟨rfl, ⟨nd, rfl⟩⟩; refine ⟨_, rfl, ?_⟩) | ((with_reducible refine gate_callee (f := 27) rfl ?_); refine goesL_ (some 99) rfl rfl Try.func27 (by kernel_rfl) rfl #[.int .i64 t421, .int .i64 0, .int .i64 3] rfl z13_4 ?_; (with_reducible refine (spec_l6In.calls t421 0 3 false _ A58.out).mono ?_); rintro e w' ⟨rfl, ⟨nd, rfl⟩⟩; refine ⟨_, rfl, ?_⟩; have q66 : (4 : Int) ≤ ((x9_2.length : Int) : Int) := of_decide_eq_true z13_1; obtain ⟨i066, hi066, _, hsz66, _⟩ := info_parts info3; have hroom66 : x9_2.length ≤ co65 := (Kd.R_reads' HO_9.out).2.1; have hC66 : Kd.F (Kd.int .i64) _ _ Ao65 x9_2.length x9_2 := (Kd.V_at (base := w.heap.size) (Kd.R_V (Kd.R_apart' (HO_9.out) (Kd.N_typed HO_6.out) (by decide)))).2.2; have hcut66 := cut_from (P := Try.prog) 28 3 .i64 Try.underlying28 hi066 1 hsz66 Ao65 x9_2.length co65 4 (by omega) q66; have hr66 := Kd.F_cut (m := (4 : Int).toNat) (c := co65) hC66 (by omega) hroom66; obtain ⟨A66, hA66⟩ : ∃ A1, A1 = (if co65 = (4 : Int).toNat then Ao65 else (Ao65 : Option Addr).map (·.add ((4 : Int).toNat * 1))) := ⟨_, rfl⟩; obtain ⟨c66, hc66⟩ : ∃ c1, c1 = co65 - (4 : Int).toNat := ⟨_, rfl⟩; have hy66 : y426.length = x9_2.length - (4 : Int).toNat := (by rw [Ny426.out, List.length_drop] <;> omega); rw [show (x9_2).drop (4 : Int).toNat = y426 from Ny426.out.symm] at hr66; replace hr66 : Kd.F (Kd.int .i64) _ _ A66 y426.length y426 := (by rw [hA66]; exact hr66); rw [← hy66, ← hA66, ← hc66] at hcut66; have HO430 := Aside0.mk (show Kd.V (Kd.int .i64) 3 _ w.heap.size _ (.slice A66 y426.length c66) y426 from Kd.V_mk (by rw [hy66, hc66]; exact Nat.sub_le_sub_right hroom66 _) hr66); have HC430 := Aside0.mk (show y426.length ≤ c66 from by rw [hy66, hc66]; exact Nat.sub_le_sub_right hroom66 _); clear hr66 hC66 hroom66 hi066 hsz66 hc66; have KY66 := Aside0.mk hy66; have KA66 := Aside0.mk hA66; clear hy66 hA66; replace q66 := eq_true q66) | ((with_reducible refine gate_callee (f := 68) rfl ?_); refine goesL_ (some 103) rfl rfl Try.func68 (by kernel_rfl) rfl #[.slice A66 y426.length c66, .int .i64 30] rfl z13_4 ?_; (with_reducible refine (spec_l2Scale.calls k2 _ _ y426 30 t431 _ ?side1 ?side2 A64.out).mono ?_); (case side1 => exact cZ ((Kd.V_reads' HO430.out).2.2)); (case side2 => exact (Kd.V_reads' HO430.out).2.1); rintro e w67 ⟨v432, rfl, ho0, hb⟩; refine ⟨_, rfl, ?_⟩; replace HO_6 := Aside0.mk (Kd.N_elder' z13_2 (Kd.R_base ho0) hb); replace HO430 := Aside0.mk (Kd.V_elder' (by (with_reducible repeat (first | apply Kd.V_alloc | apply Kd.V_drewN | apply Kd.V_drew)); exact HO430.out) (Kd.R_base ho0) hb); have HO433 := Aside0.mk (Kd.R_lower (Kd.R_new' ho0 (Kd.R_lt z13_3)) (below_size z13_0)); replace HO_9 := Aside0.mk (Kd.R_elder' z13_3 (Kd.R_base ho0) hb); replace HB := Aside0.mk (below_step z13_0 hb); (try clear hb); (try clear ho0)))
        go_ret2
        exact ⟨_, by first | rfl | (simp [errW_none, errW_some] <;> rfl) | (simp [*, errW_none, errW_some] <;> rfl), by (with_reducible repeat (first | apply Kd.R_alloc | apply Kd.R_drewN | apply Kd.R_drew)); exact Kd.R_mono HO433.out (fun _ hk => trivial), z13_0⟩

end Go.Proofs.Ytfgpffocieegdaa.PA
