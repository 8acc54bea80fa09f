import Derived.Test.YtfgpffocieegdaaHd
import Derived.Test.YtfgpffocieegdaaPAx0
import Derived.Test.YtfgpffocieegdaaPAx8
import Derived.Test.YtfgpffocieegdaaPAx17
import Derived.Test.YtfgpffocieegdaaGw
import Derived.Test.YtfgpffocieegdaaGm
import Derived.Test.YtfgpffocieegdaaGc
import Derived.Test.YtfgpffocieegdaaHw
namespace Go.Proofs.Ytfgpffocieegdaa.PA
open Go.RowKit Go.Proofs.YtfgpffocieegdaaW.PrintWords Go.Proofs.YtfgpffocieegdaaW.PrintLast Go.Proofs.YtfgpffocieegdaaW.PrintMore
attribute [local go_sem] max2_int min2_int max_two min_two max_three min_three max_four min_four   -- for this text's walks alone
set_option linter.unusedVariables false
set_option linter.unusedSimpArgs false

-- BREAK
-- GIVEN: function 20 (impl_planOf)

/-! ### impl_everyShard: function 21 -/
theorem zL19 {p q : Prop} (h : q) (t : q → p := by intro h_; (with_reducible repeat first|refine blk_drewN ?_ _|refine blk_drew ?_|refine blk_alloc ?_ _); exact h_) : p := t h
theorem z19_1 {p : Prop} (h : p := by repeat (first | (with_reducible first | exact HB.out | apply below_alloc | apply pw_below_drewN | apply below_drew1) | exact HB.out)) : p := h
theorem z19_2 {p : Prop} (h : p := by repeat (first | (with_reducible first | exact HB.out | apply below_alloc | apply pw_below_drewN | apply below_drew1 | refine below_set ?_ GE557.out) | exact HB.out)) : p := h
theorem z19_3 {p : Prop} (h : p := by (try simp only [List.map_toArray, List.map_cons, List.map_nil]); first | done | rfl | (simp only [List.length_drop, List.length_take]; rfl)) : p := h
theorem z19_4 {p : Prop} (h : p := by first | rfl | (simp [errW_none, errW_some] <;> rfl) | (simp [*, errW_none, errW_some] <;> rfl)) : p := h
theorem z19_5 {p : Prop} (h : p := by first | rfl | (simp; done) | (simp [*]; done)) : p := h
theorem z19_6 {p : Prop} (h : p := by (with_reducible repeat (first | apply Kd.R_alloc | apply Kd.R_drewN | apply Kd.R_drew)); exact HO540.out) : p := h
theorem z19_7 {p : Prop} (h : p := by (with_reducible repeat (first | apply Kd.R_alloc | apply Kd.R_drewN | apply Kd.R_drew)); exact HO562.out) : p := h
theorem z19_8 {p : Prop} (h : p := by (with_reducible repeat (first | apply Kd.R_alloc | apply Kd.R_drewN | apply Kd.R_drew)); exact HO_3.out) : p := h
theorem z19_9 {p : Prop} (h : p := by first | (with_reducible assumption) | assumption) : p := h
theorem z19_10 {p : Prop} (h : p := by first | omega | exact Nat.le_refl _) : p := h
theorem z19_11 {p : Prop} (h : p := by first | exact Kd.R_nil _ _ _ _ _ | exact Kd.N_nil _ _ _ _ _ | exact Kd.V_nil _ _ _ _ _ | exact Kd.Q_nil _ _ _ _ _ | exact Kd.S_nil _ _ _ _ _) : p := h
def impl_everyShard.l0 : Nat → List Int → Int → Option (List Int)
  | 0, _, _ => none
  | k + 1, x1, x4 => if x4 < 8 then (if x1.length < 17592186044416 then (impl_everyShard.l0 k (x1 ++ [x4]) (wrap64 (x4 + 1))) else (none)) else (some x1)
def impl_everyShard.f (k : Nat)  : Option (List Int) := if 8 ≤ 35184372088832 then (impl_everyShard.l0 k (([] : List Int)) 0) else (none)
set_option maxHeartbeats 8000000 in
set_option maxRecDepth 100000 in
theorem impl_everyShard.calls (k : Nat)  (r : List Int) (w : World) (h : impl_everyShard.f k  = some r) :
  Calls Try.prog 21 #[] w fun e w' => ∃ v0_ : Value, e = .returned (v0_) ∧ Kd.R (Kd.int .i64) 3 w' w.heap.size (fun _ => True) v0_ r ∧ Below w.heap.size w w' := by
 have HB := Aside0.mk (Below.refl w.heap.size w)
 try unfold impl_everyShard.f at h
 have H := h
 clear h
 obtain ⟨c1, H⟩ := ifP H
 have c1b0 := eq_true c1
 have c1b1 : decide (8 ≤ 35184372088832) = true := decide_eq_true c1
 clear c1
 obtain ⟨y530, hy530⟩ : ∃ y_ : List Int, y_ = (([] : List Int)) := ⟨_, rfl⟩
 replace H : (impl_everyShard.l0 k y530 0) = some r := yZZ_ hy530 H
 have Ny530 := Aside0.mk hy530
 clear hy530
 have H' := Aside0.mk H
 clear H
 go_enter Try.func21, Try.ntmps21
 go_wp2_with (first | ((with_reducible refine gate_dst (N := 3) rfl ?_); refine R_make0 (Kd.int .i64) _ 3 rfl (N := 3) rfl 28 _ _ rfl 8 rfl rfl Try.underlying28 (.int .i64 0) 8 info3 (by decide) (ok := fun _ => True) (okp := fun _ => True) (fun _ hk => hk) trivial (by omega) (by omega) (Below.refl _ _) (Nat.le_refl _) ?_; intro v531 w2 ho3 hb hg_ hnew_; clear hg_ hnew_; (first | rw [← Ny530.out] at ho3 | (simp only [Int.reduceToNat] at ho3; rw [← Ny530.out] at ho3)); have HO532 := Aside0.mk (Kd.R_lower ho3 (below_size z19_1)); replace HB := Aside0.mk (below_step z19_1 hb); clear hb ho3))
 go_loopg [1, 4] k (fun kq v1 v4 w' => ∃ (x1_1 : List Int) (x4_1 : Int), v4 = .int .i64 x4_1 ∧ Aside0 (impl_everyShard.l0 kq x1_1 x4_1 = some r) ∧ Aside0 (kq ≤ k) ∧ Aside0 (Kd.R (Kd.int .i64) 3 w' w.heap.size (fun _ => True) v1 x1_1) ∧ Aside0 (Below w.heap.size w w'))
 case atStart => exact ⟨(y530), (0), z19_5, H', ⟨Nat.le_refl _⟩, ⟨by (with_reducible repeat (first | apply Kd.R_alloc | apply Kd.R_drewN | apply Kd.R_drew)); exact HO532.out⟩, ⟨z19_1⟩⟩
 case round =>
  clear H'
  try clear c1
  try clear c1b0
  try clear c1b1
  obtain ⟨x1_1, x4_1, rfl, HA, HK1, HO_1, HB⟩ := hrel
  cases gk with
  | zero => exact absurd HA.out (by simp [impl_everyShard.l0])
  | succ k1 =>
   have H := HA.out
   clear HA; simp only [impl_everyShard.l0] at H
   by_cases c4 : x4_1 < 8
   ·rw [if_pos c4] at H
    have c4b0 : decide (x4_1 < 8) = true := decide_eq_true c4; clear c4; obtain ⟨c5, H⟩ := ifP H
    have LMc5 := Aside0.mk c5
    clear c5
    obtain ⟨y533, hy533⟩ : ∃ y_ : List Int, y_ = (x1_1 ++ [x4_1]) := ⟨_, rfl⟩
    replace H : (impl_everyShard.l0 k1 y533 (wrap64 (x4_1 + 1))) = some r := yZZ_ hy533 H
    have Ny533 := Aside0.mk hy533
    clear hy533
    have H' := Aside0.mk H
    clear H
    go_wp2_with (first | ((with_reducible refine gate_builtin (b := .append) (xs := #[.tmp 7, .tmp 9]) rfl ?_); at_builtin; refine Kd.R_append (Kd.int .i64) (w0 := w) w.heap.size rfl (.tmp 7) (.tmp 9) 28 3 (.int .i64 0) 8 rfl Try.underlying28 info3 rfl (by decide) (by omega) u1 x1_1 x4_1 [.int .i64 x4_1] (fun _ => True) (fun _ => False) rfl rfl ?aP (fun _ hk => hk.elim) ?aF ?aO ?aB ?aS ?aL ?_; (case aP => exact rfl); (case aB => exact z19_1); (case aF => exact (fun _ _ => trivial)); (case aO => exact (by (with_reducible repeat (first | apply Kd.R_alloc | apply Kd.R_drewN | apply Kd.R_drew)); exact HO_1.out)); (case aS => exact (below_size z19_1)); (case aL => have := LMc5.out; omega); intro v534 w6 ho hb hg hat; rw [← Ny533.out] at ho; have n0_ := Aside0.mk (hb); have n1_ := Aside0.mk (ho); clear HB; clear HO_1; have HB := n0_; have HO535 := n1_; clear n0_ n1_; clear ho hb hg hat))
    go_roundg k1
    case measure => have := HK1.out; omega
    case rel => exact ⟨(y533), (wrap64 (x4_1 + 1)), z19_5, H', ⟨by have := HK1.out; omega⟩, ⟨by (with_reducible repeat (first | apply Kd.R_alloc | apply Kd.R_drewN | apply Kd.R_drew)); exact HO535.out⟩, ⟨z19_1⟩⟩
   ·rw [if_neg c4] at H
    have c4b0 : decide (x4_1 < 8) = false := decide_eq_false c4; clear c4
    obtain rfl := Option.some.inj H
    go_wp2
    go_ret; exact ⟨_, z19_4, by (with_reducible repeat (first | apply Kd.R_alloc | apply Kd.R_drewN | apply Kd.R_drew)); exact HO_1.out, z19_1⟩

/-! ### impl_PlanNear: function 9 -/
def impl_PlanNear.j0 : Nat → Int → Int → Bool → Option (Int)
  | 0, _, _, _ => none
  | k + 1, x0, x1, x14 => if x14 = true then (some 0) else ((impl_everyShard.f k).bind fun t538 => ((impl_planOf.f x0 x1 t538).bind fun bt541 => (some (bt541.2.1.length : Int))))
def impl_PlanNear.f (k : Nat) (a0 : Int) (a1 : Int) : Option (Int) := (impl_kindOk.f a0).bind fun t536 => (if t536 = true then ((impl_shardOk.f a1).bind fun t537 => (impl_PlanNear.j0 k a0 a1 (!t537))) else (impl_PlanNear.j0 k a0 a1 true))
set_option maxHeartbeats 8000000 in
set_option maxRecDepth 100000 in
theorem impl_PlanNear.calls (k : Nat) (a0 : Int) (a1 : Int) (r : Int) (w : World) (h : impl_PlanNear.f k a0 a1 = some r) :
  Calls Try.prog 9 #[.int .i64 a0, .int .i64 a1] w fun e w' => e = .returned (.int .i64 r) ∧ Below w.heap.size w w' := by
 have hu30 := Try.underlying30
 have HB := Aside0.mk (Below.refl w.heap.size w)
 try unfold impl_PlanNear.f at h
 have H := h
 clear h
 have HC3 := Aside0.mk H
 clear H
 go_enter Try.func9, Try.ntmps9
 go_upto_region 1 with (fail)
 go_cut [14] (fun v14 wc => ∃ (kq : Nat) (x14_2 : Bool), v14 = .bool x14_2 ∧ Aside0 (impl_PlanNear.j0 kq a0 a1 x14_2 = some r) ∧ Aside0 (kq ≤ k) ∧ Aside0 (Below w.heap.size w wc))
 case first =>
  have H := HC3.out
  clear HC3
  replace H := Option.bind_eq_some_iff.mp H
  obtain ⟨t536, A40, H⟩ := H
  have A4 := Aside0.mk A40
  clear A40
  by_cases c5 : t536 = true
  ·subst c5
   rw [if_pos rfl] at H
   replace H := Option.bind_eq_some_iff.mp H
   obtain ⟨t537, A60, H⟩ := H
   have A6 := Aside0.mk A60
   clear A60
   have H' := Aside0.mk H
   clear H
   go_wp2_with (first | ((with_reducible refine gate_callee (f := 18) rfl ?_); refine goesL_ (some 8) rfl rfl Try.func18 (by kernel_rfl) rfl #[.int .i64 a0] rfl z19_3 ?_; (with_reducible refine (impl_kindOk.calls a0 true _ A4.out).mono ?_); rintro e w' ⟨rfl, ⟨nd, rfl⟩⟩; refine ⟨_, rfl, ?_⟩) | (go_at_call 19; (with_reducible refine (impl_shardOk.calls a1 t537 _ A6.out).mono ?_); rintro e w' ⟨rfl, ⟨nd, rfl⟩⟩))
   go_meet
   case rel => exact ⟨_, (!t537), z19_5, H', ⟨z19_10⟩, ⟨z19_1⟩⟩
  ·replace c5 := Bool.eq_false_iff.mpr c5
   subst c5; rw [if_neg (show ¬ (false = true) by decide)] at H
   have H' := Aside0.mk H
   clear H
   go_wp2_with (first | ((with_reducible refine gate_callee (f := 18) rfl ?_); refine goesL_ (some 8) rfl rfl Try.func18 (by kernel_rfl) rfl #[.int .i64 a0] rfl z19_3 ?_; (with_reducible refine (impl_kindOk.calls a0 false _ A4.out).mono ?_); rintro e w' ⟨rfl, ⟨nd, rfl⟩⟩; refine ⟨_, rfl, ?_⟩))
   go_meet
   case rel => exact ⟨_, (true), z19_5, H', ⟨z19_10⟩, ⟨z19_1⟩⟩
 case rest =>
  clear HC3; obtain ⟨kq, x14_2, rfl, HA, HJ2, HB⟩ := hcut
  cases kq with
  | zero => exact absurd HA.out (by simp [impl_PlanNear.j0])
  | succ kj2 =>
   have H := HA.out
   clear HA; simp only [impl_PlanNear.j0] at H
   by_cases c7 : x14_2 = true
   ·subst c7
    rw [if_pos rfl] at H
    obtain rfl := Option.some.inj H
    go_wp2
    go_ret; exact ⟨z19_4, z19_1⟩
   ·replace c7 := Bool.eq_false_iff.mpr c7
    subst c7; rw [if_neg (show ¬ (false = true) by decide)] at H
    replace H := Option.bind_eq_some_iff.mp H
    obtain ⟨t538, A80, H⟩ := H
    have A8 := Aside0.mk A80
    clear A80
    replace H := Option.bind_eq_some_iff.mp H
    obtain ⟨⟨t541, t542, t545, t548⟩, A90, H⟩ := H
    dsimp only at H
    have A9 := Aside0.mk A90
    clear A90
    obtain rfl := Option.some.inj H
    go_wp2_with (first | ((with_reducible refine gate_callee (f := 21) rfl ?_); refine goesL_ (some 18) rfl rfl Try.func21 (by kernel_rfl) rfl #[] rfl z19_3 ?_; (with_reducible refine (impl_everyShard.calls kj2  t538 _ A8.out).mono ?_); rintro e w10 ⟨v539, rfl, ho0, hb⟩; refine ⟨_, rfl, ?_⟩; have HO540 := Aside0.mk (Kd.R_lower ho0 (below_size z19_1)); replace HB := Aside0.mk (below_step z19_1 hb); (try clear hb); (try clear ho0); obtain ⟨Ao11, co11, eo11⟩ := Kd.R_slice HO540.out; subst eo11; (try simp only [clip_slice])) | ((with_reducible refine gate_callee (f := 20) rfl ?_); refine goesL_ (some 19) rfl rfl Try.func20 (by kernel_rfl) rfl #[.int .i64 a0, .int .i64 a1, .slice Ao11 t538.length co11] rfl z19_3 ?_; (with_reducible refine (impl_planOf.calls a0 a1 _ _ t538 t541 t542 t545 t548 _ ?side1 ?side2 A9.out).mono ?_); (case side1 => exact cZ ((Kd.R_reads' HO540.out).2.2)); (case side2 => first | exact (Kd.R_reads' HO540.out).2.1 | exact Nat.le_refl _); rintro e w12 ⟨v543, v546, rfl, ho0, ho1, hb⟩; refine ⟨_, rfl, ?_⟩; have HO544 := Aside0.mk (Kd.R_lower (Kd.R_new' ho0 (Kd.R_lt z19_6)) (below_size z19_1)); have HO547 := Aside0.mk (Kd.R_lower (Kd.R_new' ho1 (Kd.R_lt z19_6)) (below_size z19_1)); replace HO540 := Aside0.mk (Kd.R_mono (Kd.R_told (Kd.R_told (Kd.R_old z19_6 hb) (Kd.R_base ho0)) (Kd.R_base ho1)) (fun _ h_ => h_.1)); replace HB := Aside0.mk (below_step z19_1 hb); (try clear hb); (try clear ho0); (try clear ho1)) | ((with_reducible refine gate_dst (N := 5) rfl ?_); refine box_event ?hg (N := 5) ?hd (cs := #[.int .i64 0, .slice none 0 0, .slice none 0 0]) (t := 30) ?hr ?_; (case hd => rfl); (case hg => rfl); (case hr => first | (go_simp; done) | (go_simp; rfl)); intro gb549 hg w13 hbox hb; replace HO540 := Aside0.mk (Kd.R_below z19_6 hb); replace HO544 := Aside0.mk (Kd.R_below (by (with_reducible repeat (first | apply Kd.R_alloc | apply Kd.R_drewN | apply Kd.R_drew)); exact HO544.out) hb); replace HO547 := Aside0.mk (Kd.R_below (by (with_reducible repeat (first | apply Kd.R_alloc | apply Kd.R_drewN | apply Kd.R_drew)); exact HO547.out) hb); have BK549 := Aside0.mk (hbox); have GW549 := Aside0.mk ((by rw [hg]; exact (below_size z19_1) : w.heap.size ≤ gb549)); have GE549 := Aside0.mk ((by rw [hg]; exact (below_size z19_1) : w.heap.size ≤ gb549)); replace HB := Aside0.mk (below_step z19_1 hb); clear hb hbox hg; have hcz14_0 : w13.cell? ⟨gb549, 0, none⟩ = some (.int .i64 0) := (blk_cell BK549.out 0).trans rfl; have hfz14_0 := blk_frozen BK549.out 0; obtain ⟨Ao15, co15, eo15⟩ := Kd.R_slice HO544.out; subst eo15; (try simp only [clip_slice]); have hcz16_1 : w13.cell? ⟨gb549, 1, none⟩ = some (.slice none 0 0) := (blk_cell BK549.out 1).trans rfl; have hfz16_1 := blk_frozen BK549.out 1; obtain ⟨Ao17, co17, eo17⟩ := Kd.R_slice HO547.out; subst eo17; (try simp only [clip_slice]); have hcz18_2 : w13.cell? ⟨gb549, 2, none⟩ = some (.slice none 0 0) := (blk_cell BK549.out 2).trans rfl; have hfz18_2 := blk_frozen BK549.out 2))
    go_ret; exact ⟨z19_4, by repeat (first | (with_reducible first | exact HB.out | apply below_alloc | apply pw_below_drewN | apply below_drew1 | refine below_set ?_ GE549.out) | exact HB.out)⟩

/-! ### impl_flagged: function 29 -/
def impl_flagged.l0 : Nat → List Int → List Bool → Int → Int → Option (List Int)
  | 0, _, _, _, _ => none
  | k + 1, x3, x7, x8, x9 => if x9 < x8 then (if 0 ≤ x9 then (if x9 < (x7.length : Int) then (if rdOf false x7 x9 = true then (if x3.length < 17592186044416 then (impl_flagged.l0 k (x3 ++ [x9]) x7 x8 (wrap64 (x9 + 1))) else (none)) else (impl_flagged.l0 k x3 x7 x8 (wrap64 (x9 + 1)))) else (none)) else (none)) else (some x3)
def impl_flagged.f (k : Nat) (l0 : List Bool) : Option (List Int) := if 8 ≤ 35184372088832 then (impl_flagged.l0 k (([] : List Int)) l0 (l0.length : Int) 0) else (none)
set_option maxHeartbeats 8000000 in
set_option maxRecDepth 100000 in
theorem impl_flagged.calls (k : Nat) (A0 : Option Addr) (c0 : Nat) (l0 : List Bool) (r : List Int) (w : World) (hr0 : Kd.C Kd.bool w A0 l0.length l0) (hc0 : l0.length ≤ c0) (h : impl_flagged.f k l0 = some r) :
  Calls Try.prog 29 #[.slice A0 l0.length c0] w fun e w' => ∃ v0_ : Value, e = .returned (v0_) ∧ Kd.R (Kd.int .i64) 3 w' w.heap.size (fun _ => True) v0_ r ∧ Below w.heap.size w w' := by
 have HR0 := Aside0.mk hr0
 have HC0 := Aside0.mk hc0
 clear hr0 hc0
 have HB := Aside0.mk (Below.refl w.heap.size w)
 try unfold impl_flagged.f at h
 have H := h
 clear h
 obtain ⟨c2, H⟩ := ifP H
 have c2b0 := eq_true c2
 have c2b1 : decide (8 ≤ 35184372088832) = true := decide_eq_true c2
 clear c2
 obtain ⟨y550, hy550⟩ : ∃ y_ : List Int, y_ = (([] : List Int)) := ⟨_, rfl⟩
 replace H : (impl_flagged.l0 k y550 l0 (l0.length : Int) 0) = some r := yZZ_ hy550 H
 have Ny550 := Aside0.mk hy550
 clear hy550
 have H' := Aside0.mk H
 clear H
 go_enter Try.func29, Try.ntmps29
 go_wp2_with (first | ((with_reducible refine gate_dst (N := 6) rfl ?_); refine R_make0 (Kd.int .i64) _ 3 rfl (N := 6) rfl 28 _ _ rfl 8 rfl rfl Try.underlying28 (.int .i64 0) 8 info3 (by decide) (ok := fun _ => True) (okp := fun _ => True) (fun _ hk => hk) trivial (by omega) (by omega) (Below.refl _ _) (Nat.le_refl _) ?_; intro v551 w3 ho4 hb hg_ hnew_; clear hg_ hnew_; (first | rw [← Ny550.out] at ho4 | (simp only [Int.reduceToNat] at ho4; rw [← Ny550.out] at ho4)); have HO552 := Aside0.mk (Kd.R_lower ho4 (below_size z19_1)); replace HB := Aside0.mk (below_step z19_1 hb); clear hb ho4))
 go_loopg [3, 9] k (fun kq v3 v9 w' => ∃ (x3_1 : List Int) (x9_1 : Int), v9 = .int .i64 x9_1 ∧ Aside0 (impl_flagged.l0 kq x3_1 l0 (l0.length : Int) x9_1 = some r) ∧ Aside0 (kq ≤ k) ∧ Aside0 (Kd.R (Kd.int .i64) 3 w' w.heap.size (fun _ => True) v3 x3_1) ∧ Aside0 (Below w.heap.size w w'))
 case atStart => exact ⟨(y550), (0), z19_5, H', ⟨Nat.le_refl _⟩, ⟨by (with_reducible repeat (first | apply Kd.R_alloc | apply Kd.R_drewN | apply Kd.R_drew)); exact HO552.out⟩, ⟨z19_1⟩⟩
 case round =>
  clear H'
  try clear c2
  try clear c2b0
  try clear c2b1
  obtain ⟨x3_1, x9_1, rfl, HA, HK1, HO_3, HB⟩ := hrel
  cases gk with
  | zero => exact absurd HA.out (by simp [impl_flagged.l0])
  | succ k1 =>
   have H := HA.out
   clear HA; simp only [impl_flagged.l0] at H
   by_cases c5 : x9_1 < (l0.length : Int)
   ·rw [if_pos c5] at H
    have c5b0 : decide (x9_1 < (l0.length : Int)) = true := decide_eq_true c5; clear c5; obtain ⟨c6, H⟩ := ifP H; have c6b0 : decide (0 ≤ x9_1) = true := decide_eq_true c6; clear c6; obtain ⟨c7, H⟩ := ifP H; have c7b0 : decide (x9_1 < (l0.length : Int)) = true := decide_eq_true c7; clear c7
    obtain ⟨bq8, hbq8⟩ : ∃ b_ : Bool, b_ = (rdOf false l0 x9_1) := ⟨_, rfl⟩
    replace H : (if bq8 = true then (if x3_1.length < 17592186044416 then (impl_flagged.l0 k1 (x3_1 ++ [x9_1]) l0 (l0.length : Int) (wrap64 (x9_1 + 1))) else (none)) else (impl_flagged.l0 k1 x3_1 l0 (l0.length : Int) (wrap64 (x9_1 + 1)))) = some r := by rw [← hbq8] at H; exact H
    have Nbq8 := Aside0.mk hbq8
    clear hbq8
    by_cases c9 : bq8 = true
    ·subst c9
     rw [if_pos rfl] at H; obtain ⟨c10, H⟩ := ifP H
     have LMc10 := Aside0.mk c10
     clear c10
     obtain ⟨y554, hy554⟩ : ∃ y_ : List Int, y_ = (x3_1 ++ [x9_1]) := ⟨_, rfl⟩
     replace H : (impl_flagged.l0 k1 y554 l0 (l0.length : Int) (wrap64 (x9_1 + 1))) = some r := yZZ_ hy554 H
     have Ny554 := Aside0.mk hy554
     clear hy554
     have H' := Aside0.mk H
     clear H; have p553 : 0 ≤ (x9_1 : Int) := of_decide_eq_true z19_9; have q553 : x9_1 < (l0.length : Int) := of_decide_eq_true z19_9; obtain ⟨ad553, e553, hx553_0⟩ := Kd.at_bool HR0.out x9_1 p553 q553; (try rw [← Nbq8.out] at hx553_0); cases e553
     replace hx553_0 := (HB.out.cell (World.block_lt_of_cell? w _ hx553_0)).trans hx553_0
     replace p553 := eq_true p553
     replace q553 := eq_true q553
     go_wp2_with (first | ((with_reducible refine gate_builtin (b := .append) (xs := #[.tmp 15, .tmp 17]) rfl ?_); at_builtin; refine Kd.R_append (Kd.int .i64) (w0 := w) w.heap.size rfl (.tmp 15) (.tmp 17) 28 3 (.int .i64 0) 8 rfl Try.underlying28 info3 rfl (by decide) (by omega) u3 x3_1 x9_1 [.int .i64 x9_1] (fun _ => True) (fun _ => False) rfl rfl ?aP (fun _ hk => hk.elim) ?aF ?aO ?aB ?aS ?aL ?_; (case aP => exact rfl); (case aB => exact z19_1); (case aF => exact (fun _ _ => trivial)); (case aO => exact z19_8); (case aS => exact (below_size z19_1)); (case aL => have := LMc10.out; omega); intro v555 w11 ho hb hg hat; rw [← Ny554.out] at ho; have n0_ := Aside0.mk (hb); have n1_ := Aside0.mk (ho); clear HB; clear HO_3; have HB := n0_; have HO556 := n1_; clear n0_ n1_; clear ho hb hg hat))
     go_roundg k1
     case measure => have := HK1.out; omega
     case rel => exact ⟨(y554), (wrap64 (x9_1 + 1)), z19_5, H', ⟨by have := HK1.out; omega⟩, ⟨by (with_reducible repeat (first | apply Kd.R_alloc | apply Kd.R_drewN | apply Kd.R_drew)); exact HO556.out⟩, ⟨z19_1⟩⟩
    ·replace c9 := Bool.eq_false_iff.mpr c9
     subst c9; rw [if_neg (show ¬ (false = true) by decide)] at H
     have H' := Aside0.mk H
     clear H; have p553 : 0 ≤ (x9_1 : Int) := of_decide_eq_true z19_9; have q553 : x9_1 < (l0.length : Int) := of_decide_eq_true z19_9; obtain ⟨ad553, e553, hx553_0⟩ := Kd.at_bool HR0.out x9_1 p553 q553; (try rw [← Nbq8.out] at hx553_0); cases e553
     replace hx553_0 := (HB.out.cell (World.block_lt_of_cell? w _ hx553_0)).trans hx553_0
     replace p553 := eq_true p553
     replace q553 := eq_true q553
     go_wp2
     go_roundg k1
     case measure => have := HK1.out; omega
     case rel => exact ⟨(x3_1), (wrap64 (x9_1 + 1)), z19_5, H', ⟨by have := HK1.out; omega⟩, ⟨z19_8⟩, ⟨z19_1⟩⟩
   ·rw [if_neg c5] at H
    have c5b0 : decide (x9_1 < (l0.length : Int)) = false := decide_eq_false c5; clear c5
    obtain rfl := Option.some.inj H
    go_wp2
    go_ret; exact ⟨_, z19_4, z19_8, z19_1⟩

/-! ### impl_PlanOf: function 12 -/
def impl_PlanOf.j0 : Nat → Int → Int → List Bool → Bool → Option (Int × List Int × List Int × Bool)
  | 0, _, _, _, _ => none
  | k + 1, x0, x1, x2, x20 => if x20 = true then (some (0, ([] : List Int), ([] : List Int), false)) else ((impl_flagged.f k x2).bind fun t560 => ((impl_planOf.f x0 x1 t560).bind fun bt563 => (some (bt563.1, bt563.2.1, bt563.2.2.1, bt563.2.2.2))))
def impl_PlanOf.f (k : Nat) (a0 : Int) (a1 : Int) (l2 : List Bool) : Option (Int × List Int × List Int × Bool) := (impl_kindOk.f a0).bind fun t558 => (if t558 = true then ((impl_shardOk.f a1).bind fun t559 => (if t559 = true then (impl_PlanOf.j0 k a0 a1 l2 ((l2.length : Int) != 8)) else (impl_PlanOf.j0 k a0 a1 l2 true))) else (impl_PlanOf.j0 k a0 a1 l2 true))
set_option maxHeartbeats 8000000 in
set_option maxRecDepth 100000 in
theorem impl_PlanOf.calls (k : Nat) (a0 : Int) (a1 : Int) (A2 : Option Addr) (c2 : Nat) (l2 : List Bool) (r1 : Int) (r2 : List Int) (r3 : List Int) (r4 : Bool) (w : World) (hr2 : Kd.C Kd.bool w A2 l2.length l2) (hc2 : l2.length ≤ c2) (h : impl_PlanOf.f k a0 a1 l2 = some (r1, r2, r3, r4)) :
  Calls Try.prog 12 #[.int .i64 a0, .int .i64 a1, .slice A2 l2.length c2] w fun e w' => ∃ v1_ v2_ : Value, e = .returned (.tuple #[.agg #[.int .i64 r1, clip v1_, v2_], .bool r4]) ∧ Kd.R (Kd.int .i64) 3 w' w.heap.size (fun k_ => some k_ ≠ (v2_ : Value).ownBlock) v1_ r2 ∧ Kd.R (Kd.int .i64) 3 w' w.heap.size (fun k_ => some k_ ≠ (v1_ : Value).ownBlock) v2_ r3 ∧ Below w.heap.size w w' := by
 have hu30 := Try.underlying30
 have HR2 := Aside0.mk hr2
 have HC2 := Aside0.mk hc2
 clear hr2 hc2
 have HB := Aside0.mk (Below.refl w.heap.size w)
 try unfold impl_PlanOf.f at h
 have H := h
 clear h
 have HC4 := Aside0.mk H
 clear H
 go_enter Try.func12, Try.ntmps12
 go_upto_region 1 with (first | ((with_reducible refine gate_dst (N := 6) rfl ?_); (try (refine gate_guard (by rfl) ?_; dsimp only)); refine box_event ?hg (N := 6) ?hd (cs := #[.int .i64 0, .slice none 0 0, .slice none 0 0]) (t := 30) ?hr ?_; (case hd => rfl); (case hg => rfl); (case hr => first | (go_simp; done) | (go_simp; rfl)); intro gb557 hg w5 hbox hb; have BK557 := Aside0.mk (hbox); have GW557 := Aside0.mk ((by rw [hg]; exact (below_size z19_1) : w.heap.size ≤ gb557)); have GE557 := Aside0.mk ((by rw [hg]; exact (below_size z19_1) : w.heap.size ≤ gb557)); replace HB := Aside0.mk (below_step z19_1 hb); clear hb hbox hg))
 (try simp only [Act.put, List.setIfInBounds_toArray, List.set_cons_zero, List.set_cons_succ])
 go_cut [20] (fun v20 wc => ∃ (kq : Nat) (x20_3 : Bool), v20 = .bool x20_3 ∧ Aside0 (impl_PlanOf.j0 kq a0 a1 l2 x20_3 = some (r1, r2, r3, r4)) ∧ Aside0 (kq ≤ k) ∧ Aside0 (wc.heap[gb557]? = some (.cells #[.int .i64 0, (.slice none 0 0), (.slice none 0 0)] 30 (0, 0))) ∧ Aside0 (Below w.heap.size w wc))
 case first =>
  have H := HC4.out
  clear HC4
  replace H := Option.bind_eq_some_iff.mp H
  obtain ⟨t558, A60, H⟩ := H
  have A6 := Aside0.mk A60
  clear A60
  by_cases c7 : t558 = true
  ·subst c7
   rw [if_pos rfl] at H
   replace H := Option.bind_eq_some_iff.mp H
   obtain ⟨t559, A80, H⟩ := H
   have A8 := Aside0.mk A80
   clear A80
   by_cases c9 : t559 = true
   ·subst c9
    rw [if_pos rfl] at H
    have H' := Aside0.mk H
    clear H
    go_wp2_with (first | ((with_reducible refine gate_callee (f := 18) rfl ?_); refine goesL_ (some 9) rfl rfl Try.func18 (by kernel_rfl) rfl #[.int .i64 a0] rfl z19_3 ?_; (with_reducible refine (impl_kindOk.calls a0 true _ A6.out).mono ?_); rintro e w' ⟨rfl, ⟨nd, rfl⟩⟩; refine ⟨_, rfl, ?_⟩) | (go_at_call 19; (with_reducible refine (impl_shardOk.calls a1 true _ A8.out).mono ?_); rintro e w' ⟨rfl, ⟨nd, rfl⟩⟩))
    go_meet
    case rel => exact ⟨_, (((l2.length : Int) != 8)), z19_5, H', ⟨z19_10⟩, ⟨zL19 BK557.out⟩, ⟨z19_2⟩⟩
   ·replace c9 := Bool.eq_false_iff.mpr c9
    subst c9; rw [if_neg (show ¬ (false = true) by decide)] at H
    have H' := Aside0.mk H
    clear H
    go_wp2_with (first | ((with_reducible refine gate_callee (f := 18) rfl ?_); refine goesL_ (some 9) rfl rfl Try.func18 (by kernel_rfl) rfl #[.int .i64 a0] rfl z19_3 ?_; (with_reducible refine (impl_kindOk.calls a0 true _ A6.out).mono ?_); rintro e w' ⟨rfl, ⟨nd, rfl⟩⟩; refine ⟨_, rfl, ?_⟩) | (go_at_call 19; (with_reducible refine (impl_shardOk.calls a1 false _ A8.out).mono ?_); rintro e w' ⟨rfl, ⟨nd, rfl⟩⟩))
    go_meet
    case rel => exact ⟨_, (true), z19_5, H', ⟨z19_10⟩, ⟨zL19 BK557.out⟩, ⟨z19_2⟩⟩
  ·replace c7 := Bool.eq_false_iff.mpr c7
   subst c7; rw [if_neg (show ¬ (false = true) by decide)] at H
   have H' := Aside0.mk H
   clear H
   go_wp2_with (first | ((with_reducible refine gate_callee (f := 18) rfl ?_); refine goesL_ (some 9) rfl rfl Try.func18 (by kernel_rfl) rfl #[.int .i64 a0] rfl z19_3 ?_; (with_reducible refine (impl_kindOk.calls a0 false _ A6.out).mono ?_); rintro e w' ⟨rfl, ⟨nd, rfl⟩⟩; refine ⟨_, rfl, ?_⟩))
   go_meet
   case rel => exact ⟨_, (true), z19_5, H', ⟨z19_10⟩, ⟨zL19 BK557.out⟩, ⟨z19_2⟩⟩
 case rest =>
  clear HC4
  try clear c2
  obtain ⟨kq, x20_3, rfl, HA, HJ3, BK557, HB⟩ := hcut
  cases kq with
  | zero => exact absurd HA.out (by simp [impl_PlanOf.j0])
  | succ kj3 =>
   have H := HA.out
   clear HA; simp only [impl_PlanOf.j0] at H
   by_cases c10 : x20_3 = true
   ·subst c10
    rw [if_pos rfl] at H; simp only [Option.some.injEq, Prod.mk.injEq] at H; obtain ⟨rfl, rfl, rfl, rfl⟩ := H; obtain ⟨hcz11_0, hfz11_0, hcz12_1, hfz12_1, hcz13_2, hfz13_2⟩ := cAZ3_ BK557
    go_wp2
    refine bodyPost_ret (results_ct rfl _ _ gb557 30 #[.int .i64 0, .slice none 0 0, .slice none 0 0] (0, 0) _ rfl (bZ BK557.out) Try.underlying30 rfl (by kernel_rfl)) rfl ?_; exact ⟨.slice none 0 0, .slice none 0 0, z19_4, z19_11, z19_11, z19_2⟩
   ·replace c10 := Bool.eq_false_iff.mpr c10
    subst c10; rw [if_neg (show ¬ (false = true) by decide)] at H
    replace H := Option.bind_eq_some_iff.mp H
    obtain ⟨t560, A140, H⟩ := H
    have A14 := Aside0.mk A140
    clear A140
    replace H := Option.bind_eq_some_iff.mp H
    obtain ⟨⟨t563, t564, t567, t570⟩, A150, H⟩ := H
    dsimp only at H
    have A15 := Aside0.mk A150
    clear A150; simp only [Option.some.injEq, Prod.mk.injEq] at H; obtain ⟨rfl, rfl, rfl, rfl⟩ := H
    go_wp2_with (first | ((with_reducible refine gate_callee (f := 29) rfl ?_); refine goesL_ (some 25) rfl rfl Try.func29 (by kernel_rfl) rfl #[.slice A2 l2.length c2] rfl z19_3 ?_; (with_reducible refine (impl_flagged.calls kj3 _ _ l2 t560 _ ?side1 ?side2 A14.out).mono ?_); (case side1 => exact cZ ((Kd.C_below HR2.out HB.out))); (case side2 => exact HC2.out); rintro e w16 ⟨v561, rfl, ho0, hb⟩; refine ⟨_, rfl, ?_⟩; have HO562 := Aside0.mk (Kd.R_lower ho0 (below_size z19_2)); replace BK557 := bBZ_ BK557 hb; replace HB := Aside0.mk (below_step z19_2 hb); (try clear hb); (try clear ho0); obtain ⟨Ao17, co17, eo17⟩ := Kd.R_slice HO562.out; subst eo17; (try simp only [clip_slice])) | ((with_reducible refine gate_callee (f := 20) rfl ?_); refine goesL_ (some 26) rfl rfl Try.func20 (by kernel_rfl) rfl #[.int .i64 a0, .int .i64 a1, .slice Ao17 t560.length co17] rfl z19_3 ?_; (with_reducible refine (impl_planOf.calls a0 a1 _ _ t560 t563 t564 t567 t570 _ ?side1 ?side2 A15.out).mono ?_); (case side1 => exact cZ ((Kd.R_reads' HO562.out).2.2)); (case side2 => first | exact (Kd.R_reads' HO562.out).2.1 | exact Nat.le_refl _); rintro e w18 ⟨v565, v568, rfl, ho0, ho1, hb⟩; refine ⟨_, rfl, ?_⟩; have HO566 := Aside0.mk (Kd.R_lower (Kd.R_new' ho0 (Kd.R_lt z19_7)) (below_size z19_2)); have HO569 := Aside0.mk (Kd.R_lower (Kd.R_new' ho1 (Kd.R_lt z19_7)) (below_size z19_2)); replace HO562 := Aside0.mk (Kd.R_mono (Kd.R_told (Kd.R_told (Kd.R_old z19_7 hb) (Kd.R_base ho0)) (Kd.R_base ho1)) (fun _ h_ => h_.1)); replace BK557 := bBZ_ BK557 hb; replace HB := Aside0.mk (below_step z19_2 hb); (try clear hb); (try clear ho0); (try clear ho1); have hcz19_0 : w18.cell? ⟨gb557, 0, none⟩ = some (.int .i64 0) := (blk_cell BK557.out 0).trans rfl; have hfz19_0 := blk_frozen BK557.out 0; obtain ⟨Ao20, co20, eo20⟩ := Kd.R_slice HO566.out; subst eo20; (try simp only [clip_slice]); have hcz21_1 : w18.cell? ⟨gb557, 1, none⟩ = some (.slice none 0 0) := (blk_cell BK557.out 1).trans rfl; have hfz21_1 := blk_frozen BK557.out 1; obtain ⟨Ao22, co22, eo22⟩ := Kd.R_slice HO569.out; subst eo22; (try simp only [clip_slice]); have hcz23_2 : w18.cell? ⟨gb557, 2, none⟩ = some (.slice none 0 0) := (blk_cell BK557.out 2).trans rfl; have hfz23_2 := blk_frozen BK557.out 2))
    refine bodyPost_ret (results_ct rfl _ _ gb557 30 #[.int .i64 t563, .slice Ao20 t564.length t564.length, .slice Ao22 t567.length co22] (0, 0) _ rfl (bZ BK557.out) Try.underlying30 rfl (by kernel_rfl)) rfl ?_; exact ⟨.slice Ao20 t564.length co20, .slice Ao22 t567.length co22, z19_4, by (with_reducible repeat (first | apply Kd.R_alloc | apply Kd.R_drewN | apply Kd.R_drew)); exact Kd.R_mono (Kd.R_far (p := ⟨gb557, 2, none⟩) (Kd.R_far (p := ⟨gb557, 1, none⟩) (Kd.R_far (p := ⟨gb557, 0, none⟩) (Kd.R_types HO566.out BK557.out (by decide)) (fun _ hk => hk.2) (.int .i64 t563)) (fun _ hk => hk.2) (.slice Ao20 t564.length t564.length)) (fun _ hk => hk.2) (.slice Ao22 t567.length co22)) (fun _ hk => hk.1.1), by (with_reducible repeat (first | apply Kd.R_alloc | apply Kd.R_drewN | apply Kd.R_drew)); exact Kd.R_mono (Kd.R_far (p := ⟨gb557, 2, none⟩) (Kd.R_far (p := ⟨gb557, 1, none⟩) (Kd.R_far (p := ⟨gb557, 0, none⟩) (Kd.R_types HO569.out BK557.out (by decide)) (fun _ hk => hk.2) (.int .i64 t563)) (fun _ hk => hk.2) (.slice Ao20 t564.length t564.length)) (fun _ hk => hk.2) (.slice Ao22 t567.length co22)) (fun _ hk => hk.1.1), z19_2⟩

end Go.Proofs.Ytfgpffocieegdaa.PA
