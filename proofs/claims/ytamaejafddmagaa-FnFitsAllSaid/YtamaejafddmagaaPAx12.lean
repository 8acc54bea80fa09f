-- Written by a program of this session (after the manner of the kit's print, several laws in one text).
import Derived.Test.YtamaejafddmagaaPAx0
import Derived.Test.YtamaejafddmagaaPAx4
import Derived.Test.YtamaejafddmagaaPAx7
import Derived.Test.YtamaejafddmagaaGw
import Derived.Test.YtamaejafddmagaaGm
import Derived.Test.YtamaejafddmagaaGc
namespace Go.Proofs.Ytamaejafddmagaa.PA
open Go.RowKit Go.Proofs.YtamaejafddmagaaW.PrintWords Go.Proofs.YtamaejafddmagaaW.PrintLast Go.Proofs.YtamaejafddmagaaW.PrintMore
attribute [local go_sem] max2_int min2_int max_two min_two max_three min_three max_four min_four   -- for this text's walks alone
set_option linter.unusedVariables false
set_option linter.unusedSimpArgs false

/-! ### impl_element_plus: function 89 -/
theorem z12_0 {p : Prop} (h : p := by repeat (first | (with_reducible first | exact HB.out | apply below_alloc | apply pw_below_drewN | apply below_drew1) | exact HB.out)) : p := h
theorem z12_1 {p : Prop} (h : p := by (with_reducible repeat (first | apply Kd.R_alloc | apply Kd.R_drewN | apply Kd.R_drew)); exact HO_5.out) : p := h
theorem z12_2 {p : Prop} (h : p := by first | (with_reducible assumption) | assumption) : p := h
theorem z12_3 {p : Prop} (h : p := by (try simp only [List.map_toArray, List.map_cons, List.map_nil]); first | done | rfl | (simp only [List.length_drop, List.length_take]; rfl)) : p := h
def impl_element_plus.f (a0 : Int) (a1 : Int) : Option (Int) := (impl_elementOf.f (wrap64 (a0 + a1))).bind fun t375 => (some t375)
set_option maxHeartbeats 8000000 in
set_option maxRecDepth 100000 in
theorem impl_element_plus.calls (a0 : Int) (a1 : Int) (r : Int) (w : World) (h : impl_element_plus.f a0 a1 = some r) :
  Calls Try.prog 89 #[.int .i64 a0, .int .i64 a1] w fun e w' => e = .returned (.int .i64 r) ∧ Drawn0 w w' := by
 have H : ((impl_elementOf.f (wrap64 (a0 + a1))).bind fun t375 => (some t375)) = some r := h
 clear h
 replace H := Option.bind_eq_some_iff.mp H
 obtain ⟨t375, A30, H⟩ := H
 replace H : (some t375) = some r := H
 have A3 := Aside0.mk A30
 clear A30
 obtain rfl := Option.some.inj H
 go_enter Try.func89, Try.ntmps89
 go_wp2_with (first | ((with_reducible refine gate_callee (f := 118) rfl ?_); refine goesL_ (some 8) rfl rfl Try.func118 (by kernel_rfl) rfl #[.int .i64 (wrap64 (a0 + a1))] rfl z12_3 ?_; (with_reducible refine (impl_elementOf.calls (wrap64 (a0 + a1)) t375 _ A3.out).mono ?_); rintro e w' ⟨rfl, ⟨nd, rfl⟩⟩; refine ⟨_, rfl, ?_⟩))
 go_ret
 exact ⟨by first | rfl | (simp; done) | (simp [*]; done), by repeat (first | exact Drawn0.refl _ | apply Drawn0.step)⟩

/-! ### impl_rowsOf: function 108 -/
def impl_rowsOf.l0 : Nat → Int → List (S70) → List Int → Int → Int → Option ((List (S70)))
  | 0, _, _, _, _, _ => none
  | k + 1, x0, x5, x11, x12, x13 => if x13 < x12 then (if 0 ≤ x13 then (if x13 < (x11.length : Int) then ((impl_rowOf.f x0 (rd x11 x13)).bind fun bt380 => (if x5.length < 4398046511104 then (impl_rowsOf.l0 k x0 (x5 ++ [(⟨bt380.1, bt380.2.1, bt380.2.2.1, bt380.2.2.2⟩ : S70)]) x11 x12 (wrap64 (x13 + 1))) else (none))) else (none)) else (none)) else (some x5)
def impl_rowsOf.f (k : Nat) (a0 : Int) (l1 : List Int) : Option ((List (S70))) := if 0 ≤ (l1.length : Int) then (if ((l1.length : Int) : Int).toNat ≤ 8796093022208 then (impl_rowsOf.l0 k a0 (([] : List (S70))) l1 (l1.length : Int) 0) else (none)) else (none)
set_option maxHeartbeats 8000000 in
set_option maxRecDepth 100000 in
theorem impl_rowsOf.calls (k : Nat) (a0 : Int) (A1 : Option Addr) (c1 : Nat) (l1 : List Int) (r : List (S70)) (w : World) (hr1 : Kd.C (Kd.int .i64) w A1 l1.length l1) (hc1 : l1.length ≤ c1) (h : impl_rowsOf.f k a0 l1 = some r) :
  Calls Try.prog 108 #[.int .i64 a0, .slice A1 l1.length c1] w fun e w' => ∃ v0_ : Value, e = .returned (v0_) ∧ Kd.R k70 70 w' w.heap.size (fun _ => True) v0_ r ∧ Below w.heap.size w w' := by
 have HR1 := Aside0.mk hr1
 have HC1 := Aside0.mk hc1
 clear hr1 hc1
 have HB := Aside0.mk (Below.refl w.heap.size w)
 have H : (if 0 ≤ (l1.length : Int) then (if ((l1.length : Int) : Int).toNat ≤ 8796093022208 then (impl_rowsOf.l0 k a0 (([] : List (S70))) l1 (l1.length : Int) 0) else (none)) else (none)) = some r := h
 clear h
 obtain ⟨c3, H⟩ := ifP H
 have c3b0 := eq_true c3
 have c3b1 : decide (0 ≤ (l1.length : Int)) = true := decide_eq_true c3
 clear c3
 obtain ⟨c4, H⟩ := ifP H
 have c4b0 := eq_true c4
 have c4b1 : decide (((l1.length : Int) : Int).toNat ≤ 8796093022208) = true := decide_eq_true c4
 clear c4
 obtain ⟨y376, hy376⟩ : ∃ y_ : List (S70), y_ = (([] : List (S70))) := ⟨_, rfl⟩
 replace H : (impl_rowsOf.l0 k a0 y376 l1 (l1.length : Int) 0) = some r := by first | (rw [hy376]; with_reducible exact H) | (have H2_ := (Option.bind_some _ _).symm.trans H; rw [hy376]; with_reducible exact H2_) | (have H2_ := (Option.bind_some _ _).symm.trans H; with_reducible exact H2_) | with_reducible exact H | (rw [hy376]; exact H) | exact H
 have Ny376 := Aside0.mk hy376
 clear hy376
 have H' := Aside0.mk H
 clear H
 go_enter Try.func108, Try.ntmps108
 go_wp2_with (first | ((with_reducible refine gate_dst (N := 10) rfl ?_); refine R_make0 k70 _ 70 rfl (N := 10) rfl 64 _ _ rfl (l1.length : Int) rfl rfl Try.underlying64 (.agg #[(.int .i64 0), (.int .i64 0), (.int .i64 0), (.int .i64 0)]) 32 info70 (by decide) (ok := fun _ => True) (okp := fun _ => True) (fun _ hk => hk) trivial (of_decide_eq_true z12_2) (Nat.le_trans (Nat.mul_le_mul_right _ (of_decide_eq_true z12_2 : (l1.length : Int).toNat ≤ 8796093022208)) (by omega)) (Below.refl _ _) (Nat.le_refl _) ?_; intro v377 w5 ho6 hb hg_ hnew_; clear hg_ hnew_; (first | rw [← Ny376.out] at ho6 | (simp only [Int.reduceToNat] at ho6; rw [← Ny376.out] at ho6)); have HO378 := Aside0.mk (Kd.R_lower ho6 (below_size z12_0)); replace HB := Aside0.mk (below_step z12_0 hb); clear hb ho6))
 go_loopg [5, 13] k (fun kq v5 v13 w' => ∃ (x5_1 : List (S70)) (x13_1 : Int), v13 = .int .i64 x13_1 ∧ Aside0 (impl_rowsOf.l0 kq a0 x5_1 l1 (l1.length : Int) x13_1 = some r) ∧ Aside0 (kq ≤ k) ∧ Aside0 (Kd.R k70 70 w' w.heap.size (fun _ => True) v5 x5_1) ∧ Aside0 (Below w.heap.size w w'))
 case atStart => exact ⟨(y376), (0), (by first | rfl | (simp; done) | (simp [*]; done)), H', ⟨Nat.le_refl _⟩, ⟨by (with_reducible repeat (first | apply Kd.R_alloc | apply Kd.R_drewN | apply Kd.R_drew)); exact HO378.out⟩, ⟨z12_0⟩⟩
 case round =>
  clear H'
  try clear c1
  try clear c3
  try clear c3b0
  try clear c3b1
  try clear c4
  try clear c4b0
  try clear c4b1
  obtain ⟨x5_1, x13_1, rfl, HA, HK1, HO_5, HB⟩ := hrel
  cases gk with
  | zero => exact absurd HA.out (by simp [impl_rowsOf.l0])
  | succ k1 =>
   have H := HA.out
   clear HA
   simp only [impl_rowsOf.l0] at H
   by_cases c7 : x13_1 < (l1.length : Int)
   ·rw [if_pos c7] at H
    have c7b0 : decide (x13_1 < (l1.length : Int)) = true := decide_eq_true c7
    clear c7
    obtain ⟨c8, H⟩ := ifP H
    have c8b0 : decide (0 ≤ x13_1) = true := decide_eq_true c8
    clear c8
    obtain ⟨c9, H⟩ := ifP H
    have c9b0 : decide (x13_1 < (l1.length : Int)) = true := decide_eq_true c9
    clear c9
    replace H := Option.bind_eq_some_iff.mp H
    obtain ⟨⟨t380, t381, t382, t383⟩, A100, H⟩ := H
    replace H : (if x5_1.length < 4398046511104 then (impl_rowsOf.l0 k1 a0 (x5_1 ++ [(⟨t380, t381, t382, t383⟩ : S70)]) l1 (l1.length : Int) (wrap64 (x13_1 + 1))) else (none)) = some r := H
    have A10 := Aside0.mk A100
    clear A100
    obtain ⟨c11, H⟩ := ifP H
    have LMc11 := Aside0.mk c11
    clear c11
    obtain ⟨y384, hy384⟩ : ∃ y_ : List (S70), y_ = (x5_1 ++ [(⟨t380, t381, t382, t383⟩ : S70)]) := ⟨_, rfl⟩
    replace H : (impl_rowsOf.l0 k1 a0 y384 l1 (l1.length : Int) (wrap64 (x13_1 + 1))) = some r := by first | (rw [hy384]; with_reducible exact H) | (have H2_ := (Option.bind_some _ _).symm.trans H; rw [hy384]; with_reducible exact H2_) | (have H2_ := (Option.bind_some _ _).symm.trans H; with_reducible exact H2_) | with_reducible exact H | (rw [hy384]; exact H) | exact H
    have Ny384 := Aside0.mk hy384
    clear hy384
    have H' := Aside0.mk H
    clear H
    have p379 : 0 ≤ (x13_1 : Int) := of_decide_eq_true z12_2
    have q379 : x13_1 < (l1.length : Int) := of_decide_eq_true z12_2
    obtain ⟨ad379, e379, hx379_0⟩ := Kd.at_int HR1.out x13_1 p379 q379
    cases e379
    replace hx379_0 := (HB.out.cell (World.block_lt_of_cell? w _ hx379_0)).trans hx379_0
    replace p379 := eq_true p379
    replace q379 := eq_true q379
    go_wp2_with (first | ((with_reducible refine gate_callee (f := 111) rfl ?_); refine goesL_ (some 20) rfl rfl Try.func111 (by kernel_rfl) rfl #[.int .i64 a0, .int .i64 (rd l1 x13_1)] rfl z12_3 ?_; (with_reducible refine (impl_rowOf.calls a0 (rd l1 x13_1) t380 t381 t382 t383 _ A10.out).mono ?_); rintro e w12 ⟨rfl, hb⟩; refine ⟨_, rfl, ?_⟩; replace HO_5 := Aside0.mk (Kd.R_below z12_1 hb); replace HB := Aside0.mk (below_step z12_0 hb); (try clear hb)) | ((with_reducible refine gate_builtin (b := .append) (xs := #[.tmp 17, .tmp 21]) rfl ?_); at_builtin; refine Kd.R_append k70 (w0 := w) w.heap.size rfl (.tmp 17) (.tmp 21) 64 70 (.agg #[(.int .i64 0), (.int .i64 0), (.int .i64 0), (.int .i64 0)]) 32 rfl Try.underlying64 info70 rfl (by decide) (by omega) u5 x5_1 (⟨t380, t381, t382, t383⟩ : S70) [.int .i64 t380, .int .i64 t381, .int .i64 t382, .int .i64 t383] (fun _ => True) (fun _ => False) rfl rfl ?aP (fun _ hk => hk.elim) ?aF ?aO ?aB ?aS ?aL ?_; (case aP => exact k70_mkM _ _ _ (⟨t380, t381, t382, t383⟩ : S70)); (case aB => exact z12_0); (case aF => exact (fun _ _ => trivial)); (case aO => exact z12_1); (case aS => exact (below_size z12_0)); (case aL => have := LMc11.out; omega); intro v385 w13 ho hb hg hat; rw [← Ny384.out] at ho; have n0_ := Aside0.mk (hb); have n1_ := Aside0.mk (ho); clear HB; clear HO_5; have HB := n0_; have HO386 := n1_; clear n0_ n1_; clear ho hb hg hat))
    go_roundg k1
    case measure => have := HK1.out; omega
    case rel => exact ⟨(y384), (wrap64 (x13_1 + 1)), (by first | rfl | (simp; done) | (simp [*]; done)), H', ⟨by have := HK1.out; omega⟩, ⟨by (with_reducible repeat (first | apply Kd.R_alloc | apply Kd.R_drewN | apply Kd.R_drew)); exact HO386.out⟩, ⟨z12_0⟩⟩
   ·rw [if_neg c7] at H
    have c7b0 : decide (x13_1 < (l1.length : Int)) = false := decide_eq_false c7
    clear c7
    obtain rfl := Option.some.inj H
    go_wp2
    go_ret
    exact ⟨_, by first | rfl | (simp [errW_none, errW_some] <;> rfl) | (simp [*, errW_none, errW_some] <;> rfl), z12_1, z12_0⟩

end Go.Proofs.Ytamaejafddmagaa.PA
