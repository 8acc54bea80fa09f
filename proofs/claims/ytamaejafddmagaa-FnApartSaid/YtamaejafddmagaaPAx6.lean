-- Written by a program of this session (after the manner of the kit's print, several laws in one text).
import Derived.Test.YtamaejafddmagaaPAx0
import Derived.Test.YtamaejafddmagaaPAx5
import Derived.Test.YtamaejafddmagaaPAx13
import Derived.Test.YtamaejafddmagaaGw
import Derived.Test.YtamaejafddmagaaGm
import Derived.Test.YtamaejafddmagaaGc
namespace Go.Proofs.Ytamaejafddmagaa.PA
open Go.RowKit Go.Proofs.YtamaejafddmagaaW.PrintWords Go.Proofs.YtamaejafddmagaaW.PrintLast Go.Proofs.YtamaejafddmagaaW.PrintMore
attribute [local go_sem] max2_int min2_int max_two min_two max_three min_three max_four min_four   -- for this text's walks alone
set_option linter.unusedVariables false
set_option linter.unusedSimpArgs false

/-! ### impl_encode: function 82 -/
theorem zL6 {p q : Prop} (h : q) (t : q → p := by intro h_; (with_reducible repeat first|refine blk_drewN ?_ _|refine blk_drew ?_|refine blk_alloc ?_ _); exact h_) : p := t h
theorem z6_1 {p : Prop} (h : p := by repeat (first | (with_reducible first | exact HB.out | apply below_alloc | apply pw_below_drewN | apply below_drew1) | exact HB.out)) : p := h
theorem z6_2 {p : Prop} (h : p := by repeat (first | (with_reducible first | exact HB.out | apply below_alloc | apply pw_below_drewN | apply below_drew1 | refine below_set ?_ GE250.out) | exact HB.out)) : p := h
theorem z6_3 {p : Prop} (h : p := by repeat (first | (with_reducible first | exact HB.out | apply below_alloc | apply pw_below_drewN | apply below_drew1 | refine below_set ?_ GE267.out) | exact HB.out)) : p := h
theorem z6_4 {p : Prop} (h : p := by (try simp only [List.map_toArray, List.map_cons, List.map_nil]); first | done | rfl | (simp only [List.length_drop, List.length_take]; rfl)) : p := h
theorem z6_5 {p : Prop} (h : p := by (with_reducible repeat (first | apply Kd.R_alloc | apply Kd.R_drewN | apply Kd.R_drew)); exact HO_5.out) : p := h
theorem z6_6 {p : Prop} (h : p := by first | rfl | (simp [errW_none, errW_some] <;> rfl) | (simp [*, errW_none, errW_some] <;> rfl)) : p := h
theorem z6_7 {p : Prop} (h : p := by first | exact Kd.R_nil _ _ _ _ _ | exact Kd.N_nil _ _ _ _ _ | exact Kd.V_nil _ _ _ _ _ | exact Kd.Q_nil _ _ _ _ _ | exact Kd.S_nil _ _ _ _ _) : p := h
def impl_encode.l0 : Nat → Int → List Int → Int → Int → Int → Int → Int → Option (List Int)
  | 0, _, _, _, _, _, _, _ => none
  | k + 1, x0, x5, x8, x251000, x251001, x251002, x251003 => if x8 < 8 then ((impl_rowOf.f x0 x8).bind fun bt254 => ((impl_vector_dot.f bt254.1 bt254.2.1 bt254.2.2.1 bt254.2.2.2 x251000 x251001 x251002 x251003).bind fun t258 => (if x5.length < 17592186044416 then (impl_encode.l0 k x0 (x5 ++ [t258]) (wrap64 (x8 + 1)) x251000 x251001 x251002 x251003) else (none)))) else (some x5)
def impl_encode.f (k : Nat) (a0 : Int) (a1_0 : Int) (a1_1 : Int) (a1_2 : Int) (a1_3 : Int) : Option (List Int) := if 8 ≤ 35184372088832 then (impl_encode.l0 k a0 (([] : List Int)) 0 a1_0 a1_1 a1_2 a1_3) else (none)
def impl_encode.T5 : Bool × List (List Nat × List Nat) := (true, [([], []), ([], []), ([], []), ([1, 2], [1, 2]), ([], []), ([3, 4, 3], [3, 4]), ([5], [5]), ([0, 6, 5], [0, 6]), ([7, 7, 0, 1, 2, 3, 4, 5, 6, 7], [0, 7])])
def impl_encode.B5 : List Nat := [0, 0, 0, 6, 0, 30, 62, 127, 255]
theorem impl_encode.tab5 : rtab .any (opsOf Try.f82 5) = impl_encode.T5 := by kernel_rfl
theorem impl_encode.bits5 : waitsOk impl_encode.T5.2 impl_encode.B5 = true := by kernel_rfl
set_option maxHeartbeats 8000000 in
set_option maxRecDepth 100000 in
theorem impl_encode.calls (k : Nat) (a0 : Int) (a1_0 : Int) (a1_1 : Int) (a1_2 : Int) (a1_3 : Int) (r : List Int) (w : World) (h : impl_encode.f k a0 a1_0 a1_1 a1_2 a1_3 = some r) :
  Calls Try.prog 82 #[.int .i64 a0, .agg #[.int .i64 a1_0, .int .i64 a1_1, .int .i64 a1_2, .int .i64 a1_3]] w fun e w' => ∃ v0_ : Value, e = .returned (v0_) ∧ Kd.R (Kd.int .i64) 3 w' w.heap.size (fun _ => True) v0_ r ∧ Below w.heap.size w w' := by
 have hu70 := Try.underlying70
 have HB := Aside0.mk (Below.refl w.heap.size w)
 have H : (if 8 ≤ 35184372088832 then (impl_encode.l0 k a0 (([] : List Int)) 0 a1_0 a1_1 a1_2 a1_3) else (none)) = some r := h
 clear h
 obtain ⟨c3, H⟩ := ifP H
 have c3b0 := eq_true c3
 have c3b1 : decide (8 ≤ 35184372088832) = true := decide_eq_true c3
 clear c3
 obtain ⟨y251, hy251⟩ : ∃ y_ : List Int, y_ = (([] : List Int)) := ⟨_, rfl⟩
 replace H : (impl_encode.l0 k a0 y251 0 a1_0 a1_1 a1_2 a1_3) = some r := by first | (rw [hy251]; with_reducible exact H) | (have H2_ := (Option.bind_some _ _).symm.trans H; rw [hy251]; with_reducible exact H2_) | (have H2_ := (Option.bind_some _ _).symm.trans H; with_reducible exact H2_) | with_reducible exact H | (rw [hy251]; exact H) | exact H
 have Ny251 := Aside0.mk hy251
 clear hy251
 have H' := Aside0.mk H
 clear H
 go_enter Try.func82, Try.ntmps82
 go_wp2_with (first | ((with_reducible refine gate_dst (N := 3) rfl ?_); refine box_event ?hg (N := 3) ?hd (cs := #[.int .i64 a1_0, .int .i64 a1_1, .int .i64 a1_2, .int .i64 a1_3]) (t := 70) ?hr ?_; (case hd => rfl); (case hg => rfl); (case hr => first | (go_simp; done) | (go_simp; rfl)); intro gb250 hg w4 hbox hb; have BK250 := Aside0.mk (hbox); have GW250 := Aside0.mk ((by rw [hg]; exact (below_size z6_1) : w.heap.size ≤ gb250)); have GE250 := Aside0.mk ((by rw [hg]; exact (below_size z6_1) : w.heap.size ≤ gb250)); replace HB := Aside0.mk (below_step z6_1 hb); clear hb hbox hg) | ((with_reducible refine gate_dst (N := 7) rfl ?_); refine R_make0 (Kd.int .i64) _ 3 rfl (N := 7) rfl 28 _ _ rfl 8 rfl rfl Try.underlying28 (.int .i64 0) 8 info3 (by decide) (ok := fun _ => True) (okp := fun _ => True) (fun _ hk => hk) trivial (by omega) (by omega) (Below.refl _ _) (Nat.le_refl _) ?_; intro v252 w5 ho6 hb hg_ hnew_; clear hg_ hnew_; (first | rw [← Ny251.out] at ho6 | (simp only [Int.reduceToNat] at ho6; rw [← Ny251.out] at ho6)); have HO253 := Aside0.mk (Kd.R_lower ho6 (below_size z6_2)); replace BK250 := Aside0.mk (blk_below (g := gb250) (o := .cells #[.int .i64 a1_0, .int .i64 a1_1, .int .i64 a1_2, .int .i64 a1_3] 70 (0, 0)) (zL6 BK250.out) hb); replace HB := Aside0.mk (below_step z6_2 hb); clear hb ho6))
 go_loopg [5, 8] k (fun kq v5 v8 w' => ∃ (x5_1 : List Int) (x8_1 : Int), v8 = .int .i64 x8_1 ∧ Aside0 (impl_encode.l0 kq a0 x5_1 x8_1 a1_0 a1_1 a1_2 a1_3 = some r) ∧ Aside0 (kq ≤ k) ∧ Aside0 (Kd.R (Kd.int .i64) 3 w' w.heap.size (fun _ => True) v5 x5_1) ∧ Aside0 (w'.heap[gb250]? = some (.cells #[.int .i64 a1_0, .int .i64 a1_1, .int .i64 a1_2, .int .i64 a1_3] 70 (0, 0))) ∧ Aside0 (Below w.heap.size w w'))
 case atStart => exact ⟨(y251), (0), (by first | rfl | (simp; done) | (simp [*]; done)), H', ⟨Nat.le_refl _⟩, ⟨by (with_reducible repeat (first | apply Kd.R_alloc | apply Kd.R_drewN | apply Kd.R_drew)); exact HO253.out⟩, ⟨zL6 BK250.out⟩, ⟨z6_2⟩⟩
 case round =>
  clear H'
  try clear c3
  try clear c3b0
  try clear c3b1
  obtain ⟨x5_1, x8_1, rfl, HA, HK1, HO_5, BK250, HB⟩ := hrel
  cases gk with
  | zero => exact absurd HA.out (by simp [impl_encode.l0])
  | succ k1 =>
   have H := HA.out
   clear HA
   simp only [impl_encode.l0] at H
   by_cases c7 : x8_1 < 8
   ·rw [if_pos c7] at H
    have c7b0 : decide (x8_1 < 8) = true := decide_eq_true c7
    clear c7
    replace H := Option.bind_eq_some_iff.mp H
    obtain ⟨⟨t254, t255, t256, t257⟩, A80, H⟩ := H
    replace H : ((impl_vector_dot.f t254 t255 t256 t257 a1_0 a1_1 a1_2 a1_3).bind fun t258 => (if x5_1.length < 17592186044416 then (impl_encode.l0 k1 a0 (x5_1 ++ [t258]) (wrap64 (x8_1 + 1)) a1_0 a1_1 a1_2 a1_3) else (none))) = some r := H
    have A8 := Aside0.mk A80
    clear A80
    replace H := Option.bind_eq_some_iff.mp H
    obtain ⟨t258, A90, H⟩ := H
    replace H : (if x5_1.length < 17592186044416 then (impl_encode.l0 k1 a0 (x5_1 ++ [t258]) (wrap64 (x8_1 + 1)) a1_0 a1_1 a1_2 a1_3) else (none)) = some r := H
    have A9 := Aside0.mk A90
    clear A90
    obtain ⟨c10, H⟩ := ifP H
    have LMc10 := Aside0.mk c10
    clear c10
    obtain ⟨y259, hy259⟩ : ∃ y_ : List Int, y_ = (x5_1 ++ [t258]) := ⟨_, rfl⟩
    replace H : (impl_encode.l0 k1 a0 y259 (wrap64 (x8_1 + 1)) a1_0 a1_1 a1_2 a1_3) = some r := by first | (rw [hy259]; with_reducible exact H) | (have H2_ := (Option.bind_some _ _).symm.trans H; rw [hy259]; with_reducible exact H2_) | (have H2_ := (Option.bind_some _ _).symm.trans H; with_reducible exact H2_) | with_reducible exact H | (rw [hy259]; exact H) | exact H
    have Ny259 := Aside0.mk hy259
    clear hy259
    have H' := Aside0.mk H
    clear H
    try go_wp2
    replace HO_5 := Aside0.mk (Kd.R_drew HO_5.out)
    replace BK250 := Aside0.mk (blk_drew BK250.out)
    replace HB := Aside0.mk (below_drew1 HB.out)
    refine start_ (n := 9) (S := fun w' => w'.cell? ⟨gb250, 0, none⟩ = some (.int .i64 a1_0) ∧ w'.cell? ⟨gb250, 1, none⟩ = some (.int .i64 a1_1) ∧ w'.cell? ⟨gb250, 2, none⟩ = some (.int .i64 a1_2) ∧ w'.cell? ⟨gb250, 3, none⟩ = some (.int .i64 a1_3)) (ds := []) #[false, false, false, false, false, false, false, false, false] (by kernel_rfl) rfl rfl ⟨(blk_cell BK250.out 0).trans rfl, (blk_cell BK250.out 1).trans rfl, (blk_cell BK250.out 2).trans rfl, (blk_cell BK250.out 3).trans rfl⟩ (fun hHeld => ?_); refine with_tabW impl_encode.tab5 impl_encode.bits5 (fun HT_ HW_ => ?_)
    generalize wr.drew = w11 at HO_5 BK250 HB hHeld ⊢
    refine pZ 0 HT_ ?_
    refine pZ 1 HT_ ?_
    refine pZ 2 HT_ ?_
    refine tZ 4 hHeld HT_ HW_ ?_
    refine oZ 3 HT_ (fun K hK => ?_)
    refine goes_ Try.func111 (by kernel_rfl) rfl #[.int .i64 a0, .int .i64 x8_1] (by rfl) rfl rfl z6_4 ?_
    with_reducible refine (impl_rowOf.calls a0 x8_1 t254 t255 t256 t257 _ A8.out).mono ?_
    rintro e w12 ⟨rfl, hb⟩
    refine ⟨_, rfl, ?_⟩
    replace HO_5 := Aside0.mk (Kd.R_below z6_5 hb)
    replace BK250 := Aside0.mk (blk_below (g := gb250) (o := .cells #[.int .i64 a1_0, .int .i64 a1_1, .int .i64 a1_2, .int .i64 a1_3] 70 (0, 0)) (zL6 BK250.out) hb)
    replace HB := Aside0.mk (below_step z6_2 hb)
    (try clear hb)
    (try clear hb2)
    (try clear hk)
    (try clear hi)
    refine hK.out _ _ ⟨(blk_cell BK250.out 0).trans rfl, (blk_cell BK250.out 1).trans rfl, (blk_cell BK250.out 2).trans rfl, (blk_cell BK250.out 3).trans rfl⟩ (fun hHeld => ?_)
    clear hK K
    refine nZ ?_
    refine oZ 5 HT_ (fun K hK => ?_)
    refine goes_ Try.func113 (by kernel_rfl) rfl #[.agg #[.int .i64 t254, .int .i64 t255, .int .i64 t256, .int .i64 t257], .agg #[.int .i64 a1_0, .int .i64 a1_1, .int .i64 a1_2, .int .i64 a1_3]] (by rfl) rfl rfl z6_4 ?_
    with_reducible refine (impl_vector_dot.calls t254 t255 t256 t257 a1_0 a1_1 a1_2 a1_3 t258 _ A9.out).mono ?_
    rintro e w13 ⟨rfl, hb⟩
    refine ⟨_, rfl, ?_⟩
    replace HO_5 := Aside0.mk (Kd.R_below z6_5 hb)
    replace BK250 := Aside0.mk (blk_below (g := gb250) (o := .cells #[.int .i64 a1_0, .int .i64 a1_1, .int .i64 a1_2, .int .i64 a1_3] 70 (0, 0)) (zL6 BK250.out) hb)
    replace HB := Aside0.mk (below_step z6_2 hb)
    (try clear hb)
    (try clear hb2)
    (try clear hk)
    (try clear hi)
    refine hK.out _ _ ⟨(blk_cell BK250.out 0).trans rfl, (blk_cell BK250.out 1).trans rfl, (blk_cell BK250.out 2).trans rfl, (blk_cell BK250.out 3).trans rfl⟩ (fun hHeld => ?_)
    clear hK K
    refine nZ ?_
    refine oZ 6 HT_ (fun K hK => ?_)
    refine value_ (w1 := ?_) (v := ?_) (by rfl) rfl ?_ ?_
    rotate_left 2
    ·go_simp
     constructor
     ·rfl
     ·rfl
    refine hK.out _ _ ⟨(blk_cell (blk_alloc BK250.out _) 0).trans rfl, (blk_cell (blk_alloc BK250.out _) 1).trans rfl, (blk_cell (blk_alloc BK250.out _) 2).trans rfl, (blk_cell (blk_alloc BK250.out _) 3).trans rfl⟩ (fun hHeld => ?_)
    clear hK K
    refine nZ ?_
    refine oZ 7 HT_ (fun K hK => ?_)
    refine Kd.R_append_step (Kd.int .i64) (w0 := w) w.heap.size (by rfl) (.tmp 11) (.tmp 17) 28 3 (.int .i64 0) 8 rfl Try.underlying28 info3 rfl (by decide) (by omega) u5 x5_1 t258 [.int .i64 t258] (fun _ => True) (fun _ => False) rfl rfl ?aP (fun _ hk => hk.elim) ?aF ?aO ?aB ?aS ?aL ?_
    (case aP => exact rfl)
    (case aB => exact z6_2)
    (case aF => exact (fun _ _ => trivial))
    (case aO => exact z6_5)
    (case aS => exact (below_size z6_2))
    (case aL => have := LMc10.out; omega)
    intro v260 w14 ho hb hg hat
    rw [← Ny259.out] at ho
    have n0_ := Aside0.mk (blk_grown (g := gb250) (o := .cells #[.int .i64 a1_0, .int .i64 a1_1, .int .i64 a1_2, .int .i64 a1_3] 70 (0, 0)) (zL6 BK250.out) hg (Kd.R_ne HO_5.out BK250.out (by decide)))
    have n1_ := Aside0.mk (hb)
    have n2_ := Aside0.mk (ho)
    clear BK250
    clear HB
    clear HO_5
    have BK250 := n0_
    have HB := n1_
    have HO261 := n2_
    clear n0_ n1_ n2_
    clear ho hb hg hat
    refine hK.out _ _ ⟨(blk_cell BK250.out 0).trans rfl, (blk_cell BK250.out 1).trans rfl, (blk_cell BK250.out 2).trans rfl, (blk_cell BK250.out 3).trans rfl⟩ (fun hHeld => ?_)
    clear hK K
    refine nZ ?_
    refine pZ 8 HT_ ?_
    refine done_ (done_of HT_.out (by kernel_rfl)) ?_
    try go_wp2
    go_roundg k1
    case measure => have := HK1.out; omega
    case rel => exact ⟨(y259), (wrap64 (x8_1 + 1)), (by first | rfl | (simp; done) | (simp [*]; done)), H', ⟨by have := HK1.out; omega⟩, ⟨by (with_reducible repeat (first | apply Kd.R_alloc | apply Kd.R_drewN | apply Kd.R_drew)); exact HO261.out⟩, ⟨zL6 BK250.out⟩, ⟨z6_2⟩⟩
   ·rw [if_neg c7] at H
    have c7b0 : decide (x8_1 < 8) = false := decide_eq_false c7
    clear c7
    obtain rfl := Option.some.inj H
    go_wp2
    go_ret
    exact ⟨_, z6_6, z6_5, z6_2⟩

/-! ### impl_CodeAll: function 43 -/
def impl_CodeAll.f (k : Nat) (a0 : Int) (l1 : List Int) : Option (List Int) := (impl_vectorOf.f l1).bind fun bt262 => (if bt262.2.2.2.2 = true then ((impl_kindOk.f a0).bind fun t268 => (if t268 = true then ((impl_encode.f k a0 bt262.1 bt262.2.1 bt262.2.2.1 bt262.2.2.2.1).bind fun t269 => (some t269)) else (some ([] : List Int)))) else (some ([] : List Int)))
set_option maxHeartbeats 8000000 in
set_option maxRecDepth 100000 in
theorem impl_CodeAll.calls (k : Nat) (a0 : Int) (A1 : Option Addr) (c1 : Nat) (l1 : List Int) (r : List Int) (w : World) (hr1 : Kd.C (Kd.int .i64) w A1 l1.length l1) (hc1 : l1.length ≤ c1) (h : impl_CodeAll.f k a0 l1 = some r) :
  Calls Try.prog 43 #[.int .i64 a0, .slice A1 l1.length c1] w fun e w' => ∃ v0_ : Value, e = .returned (v0_) ∧ Kd.R (Kd.int .i64) 3 w' w.heap.size (fun _ => True) v0_ r ∧ Below w.heap.size w w' := by
 have hu70 := Try.underlying70
 have HR1 := Aside0.mk hr1
 have HC1 := Aside0.mk hc1
 clear hr1 hc1
 have HB := Aside0.mk (Below.refl w.heap.size w)
 have H : ((impl_vectorOf.f l1).bind fun bt262 => (if bt262.2.2.2.2 = true then ((impl_kindOk.f a0).bind fun t268 => (if t268 = true then ((impl_encode.f k a0 bt262.1 bt262.2.1 bt262.2.2.1 bt262.2.2.2.1).bind fun t269 => (some t269)) else (some ([] : List Int)))) else (some ([] : List Int)))) = some r := h
 clear h
 replace H := Option.bind_eq_some_iff.mp H
 obtain ⟨⟨t262, t263, t264, t265, t266⟩, A30, H⟩ := H
 replace H : (if t266 = true then ((impl_kindOk.f a0).bind fun t268 => (if t268 = true then ((impl_encode.f k a0 t262 t263 t264 t265).bind fun t269 => (some t269)) else (some ([] : List Int)))) else (some ([] : List Int))) = some r := H
 have A3 := Aside0.mk A30
 clear A30
 by_cases c4 : t266 = true
 ·subst c4
  have H1 : ((impl_kindOk.f a0).bind fun t268 => (if t268 = true then ((impl_encode.f k a0 t262 t263 t264 t265).bind fun t269 => (some t269)) else (some ([] : List Int)))) = some r := by rw [if_pos rfl] at H; exact H
  clear H
  have H := H1
  clear H1
  replace H := Option.bind_eq_some_iff.mp H
  obtain ⟨t268, A50, H⟩ := H
  replace H : (if t268 = true then ((impl_encode.f k a0 t262 t263 t264 t265).bind fun t269 => (some t269)) else (some ([] : List Int))) = some r := H
  have A5 := Aside0.mk A50
  clear A50
  by_cases c6 : t268 = true
  ·subst c6
   have H1 : ((impl_encode.f k a0 t262 t263 t264 t265).bind fun t269 => (some t269)) = some r := by rw [if_pos rfl] at H; exact H
   clear H
   have H := H1
   clear H1
   replace H := Option.bind_eq_some_iff.mp H
   obtain ⟨t269, A70, H⟩ := H
   replace H : (some t269) = some r := H
   have A7 := Aside0.mk A70
   clear A70
   obtain rfl := Option.some.inj H
   go_enter Try.func43, Try.ntmps43
   go_wp2_with (first | ((with_reducible refine gate_callee (f := 59) rfl ?_); refine goesL_ (some 9) rfl rfl Try.func59 (by kernel_rfl) rfl #[.slice A1 l1.length c1] rfl z6_4 ?_; (with_reducible refine (impl_vectorOf.calls _ _ l1 t262 t263 t264 t265 true _ ?side1 ?side2 A3.out).mono ?_); (case side1 => exact cZ (HR1.out)); (case side2 => exact HC1.out); rintro e w8 ⟨rfl, hb⟩; refine ⟨_, rfl, ?_⟩; replace HB := Aside0.mk (below_step z6_1 hb); (try clear hb)) | ((with_reducible refine gate_dst (N := 5) rfl ?_); refine box_event ?hg (N := 5) ?hd (cs := #[.int .i64 0, .int .i64 0, .int .i64 0, .int .i64 0]) (t := 70) ?hr ?_; (case hd => rfl); (case hg => rfl); (case hr => first | (go_simp; done) | (go_simp; rfl)); intro gb267 hg w9 hbox hb; have BK267 := Aside0.mk (hbox); have GW267 := Aside0.mk ((by rw [hg]; exact (below_size z6_1) : w.heap.size ≤ gb267)); have GE267 := Aside0.mk ((by rw [hg]; exact (below_size z6_1) : w.heap.size ≤ gb267)); replace HB := Aside0.mk (below_step z6_1 hb); clear hb hbox hg; have hcz10_0 : w9.cell? ⟨gb267, 0, none⟩ = some (.int .i64 0) := (blk_cell BK267.out 0).trans rfl; have hfz10_0 := blk_frozen BK267.out 0; have hcz11_1 : w9.cell? ⟨gb267, 1, none⟩ = some (.int .i64 0) := (blk_cell BK267.out 1).trans rfl; have hfz11_1 := blk_frozen BK267.out 1; have hcz12_2 : w9.cell? ⟨gb267, 2, none⟩ = some (.int .i64 0) := (blk_cell BK267.out 2).trans rfl; have hfz12_2 := blk_frozen BK267.out 2; have hcz13_3 : w9.cell? ⟨gb267, 3, none⟩ = some (.int .i64 0) := (blk_cell BK267.out 3).trans rfl; have hfz13_3 := blk_frozen BK267.out 3) | ((with_reducible refine gate_store (t := 70) (p := 5) rfl ?_); refine store_event (t := 70) (p := 5) (v := ?vo_w14) (w1 := ((((w9.setCell ⟨gb267, 0, none⟩ (.int .i64 t262)).setCell ⟨gb267, 1, none⟩ (.int .i64 t263)).setCell ⟨gb267, 2, none⟩ (.int .i64 t264)).setCell ⟨gb267, 3, none⟩ (.int .i64 t265))) ?hg ?ho ?hn ?hr ?_; (case ho => rfl); (case hg => rfl); (case hn => rfl); (case hr => first | (go_simp; done) | (go_simp; rfl)); intro w14 hw; have n0_ : Aside0 (w14.heap[gb267]? = some (.cells #[.int .i64 t262, .int .i64 t263, .int .i64 t264, .int .i64 t265] 70 (0, 0))) := ⟨(by rw [hw]; exact (bZ BK267.out))⟩; have n1_ : Aside0 (Below w.heap.size w w14) := ⟨(by rw [hw]; exact z6_3)⟩; clear hw; clear BK267; clear HB; have BK267 := n0_; have HB := n1_; clear n0_ n1_) | (go_at_call 68; (with_reducible refine (impl_kindOk.calls a0 true _ A5.out).mono ?_); rintro e w' ⟨rfl, ⟨nd, rfl⟩⟩; have hcz15_0 : w14.cell? ⟨gb267, 0, none⟩ = some (.int .i64 t262) := (blk_cell BK267.out 0).trans rfl; have hcz15_1 : w14.cell? ⟨gb267, 1, none⟩ = some (.int .i64 t263) := (blk_cell BK267.out 1).trans rfl; have hcz15_2 : w14.cell? ⟨gb267, 2, none⟩ = some (.int .i64 t264) := (blk_cell BK267.out 2).trans rfl; have hcz15_3 : w14.cell? ⟨gb267, 3, none⟩ = some (.int .i64 t265) := (blk_cell BK267.out 3).trans rfl; have hfz15_0 := blk_frozen BK267.out 0; have hfz15_1 := blk_frozen BK267.out 1; have hfz15_2 := blk_frozen BK267.out 2; have hfz15_3 := blk_frozen BK267.out 3) | ((with_reducible refine gate_callee (f := 82) rfl ?_); refine goesL_ (some 21) rfl rfl Try.func82 (by kernel_rfl) rfl #[.int .i64 a0, .agg #[.int .i64 t262, .int .i64 t263, .int .i64 t264, .int .i64 t265]] rfl z6_4 ?_; (with_reducible refine (impl_encode.calls k a0 t262 t263 t264 t265 t269 _ A7.out).mono ?_); rintro e w16 ⟨v270, rfl, ho0, hb⟩; refine ⟨_, rfl, ?_⟩; have HO271 := Aside0.mk (Kd.R_lower ho0 (below_size z6_3)); replace BK267 := Aside0.mk (blk_below (g := gb267) (o := .cells #[.int .i64 t262, .int .i64 t263, .int .i64 t264, .int .i64 t265] 70 (0, 0)) (zL6 BK267.out) hb); replace HB := Aside0.mk (below_step z6_3 hb); (try clear hb); (try clear ho0)))
   go_ret
   exact ⟨_, z6_6, by (with_reducible repeat (first | apply Kd.R_alloc | apply Kd.R_drewN | apply Kd.R_drew)); exact HO271.out, z6_3⟩
  ·replace c6 := Bool.eq_false_iff.mpr c6
   subst c6
   have H1 : (some ([] : List Int)) = some r := by rw [if_neg (show ¬ (false = true) by decide)] at H; exact H
   clear H
   have H := H1
   clear H1
   obtain rfl := Option.some.inj H
   go_enter Try.func43, Try.ntmps43
   go_wp2_with (first | ((with_reducible refine gate_callee (f := 59) rfl ?_); refine goesL_ (some 9) rfl rfl Try.func59 (by kernel_rfl) rfl #[.slice A1 l1.length c1] rfl z6_4 ?_; (with_reducible refine (impl_vectorOf.calls _ _ l1 t262 t263 t264 t265 true _ ?side1 ?side2 A3.out).mono ?_); (case side1 => exact cZ (HR1.out)); (case side2 => exact HC1.out); rintro e w17 ⟨rfl, hb⟩; refine ⟨_, rfl, ?_⟩; replace HB := Aside0.mk (below_step z6_1 hb); (try clear hb)) | ((with_reducible refine gate_dst (N := 5) rfl ?_); refine box_event ?hg (N := 5) ?hd (cs := #[.int .i64 0, .int .i64 0, .int .i64 0, .int .i64 0]) (t := 70) ?hr ?_; (case hd => rfl); (case hg => rfl); (case hr => first | (go_simp; done) | (go_simp; rfl)); intro gb267 hg w18 hbox hb; have BK267 := Aside0.mk (hbox); have GW267 := Aside0.mk ((by rw [hg]; exact (below_size z6_1) : w.heap.size ≤ gb267)); have GE267 := Aside0.mk ((by rw [hg]; exact (below_size z6_1) : w.heap.size ≤ gb267)); replace HB := Aside0.mk (below_step z6_1 hb); clear hb hbox hg; have hcz19_0 : w18.cell? ⟨gb267, 0, none⟩ = some (.int .i64 0) := (blk_cell BK267.out 0).trans rfl; have hfz19_0 := blk_frozen BK267.out 0; have hcz20_1 : w18.cell? ⟨gb267, 1, none⟩ = some (.int .i64 0) := (blk_cell BK267.out 1).trans rfl; have hfz20_1 := blk_frozen BK267.out 1; have hcz21_2 : w18.cell? ⟨gb267, 2, none⟩ = some (.int .i64 0) := (blk_cell BK267.out 2).trans rfl; have hfz21_2 := blk_frozen BK267.out 2; have hcz22_3 : w18.cell? ⟨gb267, 3, none⟩ = some (.int .i64 0) := (blk_cell BK267.out 3).trans rfl; have hfz22_3 := blk_frozen BK267.out 3) | ((with_reducible refine gate_store (t := 70) (p := 5) rfl ?_); refine store_event (t := 70) (p := 5) (v := ?vo_w23) (w1 := ((((w18.setCell ⟨gb267, 0, none⟩ (.int .i64 t262)).setCell ⟨gb267, 1, none⟩ (.int .i64 t263)).setCell ⟨gb267, 2, none⟩ (.int .i64 t264)).setCell ⟨gb267, 3, none⟩ (.int .i64 t265))) ?hg ?ho ?hn ?hr ?_; (case ho => rfl); (case hg => rfl); (case hn => rfl); (case hr => first | (go_simp; done) | (go_simp; rfl)); intro w23 hw; have n0_ : Aside0 (w23.heap[gb267]? = some (.cells #[.int .i64 t262, .int .i64 t263, .int .i64 t264, .int .i64 t265] 70 (0, 0))) := ⟨(by rw [hw]; exact (bZ BK267.out))⟩; have n1_ : Aside0 (Below w.heap.size w w23) := ⟨(by rw [hw]; exact z6_3)⟩; clear hw; clear BK267; clear HB; have BK267 := n0_; have HB := n1_; clear n0_ n1_) | (go_at_call 68; (with_reducible refine (impl_kindOk.calls a0 false _ A5.out).mono ?_); rintro e w' ⟨rfl, ⟨nd, rfl⟩⟩))
   go_ret
   exact ⟨_, z6_6, z6_7, z6_3⟩
 ·replace c4 := Bool.eq_false_iff.mpr c4
  subst c4
  have H1 : (some ([] : List Int)) = some r := by rw [if_neg (show ¬ (false = true) by decide)] at H; exact H
  clear H
  have H := H1
  clear H1
  obtain rfl := Option.some.inj H
  go_enter Try.func43, Try.ntmps43
  go_wp2_with (first | ((with_reducible refine gate_callee (f := 59) rfl ?_); refine goesL_ (some 9) rfl rfl Try.func59 (by kernel_rfl) rfl #[.slice A1 l1.length c1] rfl z6_4 ?_; (with_reducible refine (impl_vectorOf.calls _ _ l1 t262 t263 t264 t265 false _ ?side1 ?side2 A3.out).mono ?_); (case side1 => exact cZ (HR1.out)); (case side2 => exact HC1.out); rintro e w24 ⟨rfl, hb⟩; refine ⟨_, rfl, ?_⟩; replace HB := Aside0.mk (below_step z6_1 hb); (try clear hb)) | ((with_reducible refine gate_dst (N := 5) rfl ?_); refine box_event ?hg (N := 5) ?hd (cs := #[.int .i64 0, .int .i64 0, .int .i64 0, .int .i64 0]) (t := 70) ?hr ?_; (case hd => rfl); (case hg => rfl); (case hr => first | (go_simp; done) | (go_simp; rfl)); intro gb267 hg w25 hbox hb; have BK267 := Aside0.mk (hbox); have GW267 := Aside0.mk ((by rw [hg]; exact (below_size z6_1) : w.heap.size ≤ gb267)); have GE267 := Aside0.mk ((by rw [hg]; exact (below_size z6_1) : w.heap.size ≤ gb267)); replace HB := Aside0.mk (below_step z6_1 hb); clear hb hbox hg; have hcz26_0 : w25.cell? ⟨gb267, 0, none⟩ = some (.int .i64 0) := (blk_cell BK267.out 0).trans rfl; have hfz26_0 := blk_frozen BK267.out 0; have hcz27_1 : w25.cell? ⟨gb267, 1, none⟩ = some (.int .i64 0) := (blk_cell BK267.out 1).trans rfl; have hfz27_1 := blk_frozen BK267.out 1; have hcz28_2 : w25.cell? ⟨gb267, 2, none⟩ = some (.int .i64 0) := (blk_cell BK267.out 2).trans rfl; have hfz28_2 := blk_frozen BK267.out 2; have hcz29_3 : w25.cell? ⟨gb267, 3, none⟩ = some (.int .i64 0) := (blk_cell BK267.out 3).trans rfl; have hfz29_3 := blk_frozen BK267.out 3) | ((with_reducible refine gate_store (t := 70) (p := 5) rfl ?_); refine store_event (t := 70) (p := 5) (v := ?vo_w30) (w1 := ((((w25.setCell ⟨gb267, 0, none⟩ (.int .i64 t262)).setCell ⟨gb267, 1, none⟩ (.int .i64 t263)).setCell ⟨gb267, 2, none⟩ (.int .i64 t264)).setCell ⟨gb267, 3, none⟩ (.int .i64 t265))) ?hg ?ho ?hn ?hr ?_; (case ho => rfl); (case hg => rfl); (case hn => rfl); (case hr => first | (go_simp; done) | (go_simp; rfl)); intro w30 hw; have n0_ : Aside0 (w30.heap[gb267]? = some (.cells #[.int .i64 t262, .int .i64 t263, .int .i64 t264, .int .i64 t265] 70 (0, 0))) := ⟨(by rw [hw]; exact (bZ BK267.out))⟩; have n1_ : Aside0 (Below w.heap.size w w30) := ⟨(by rw [hw]; exact z6_3)⟩; clear hw; clear BK267; clear HB; have BK267 := n0_; have HB := n1_; clear n0_ n1_))
  go_ret
  exact ⟨_, z6_6, z6_7, z6_3⟩

-- NOT PRINTED: function 73 (impl_chosen)

end Go.Proofs.Ytamaejafddmagaa.PA
