-- Written by a program of this session (after the manner of the kit's print, several laws in one text).
import Derived.Test.YtamaejafddmagaaPAx0
import Derived.Test.YtamaejafddmagaaPAx10
import Derived.Test.YtamaejafddmagaaGw
import Derived.Test.YtamaejafddmagaaGm
import Derived.Test.YtamaejafddmagaaGc
namespace Go.Proofs.Ytamaejafddmagaa.PA
open Go.RowKit Go.Proofs.YtamaejafddmagaaW.PrintWords Go.Proofs.YtamaejafddmagaaW.PrintLast Go.Proofs.YtamaejafddmagaaW.PrintMore
attribute [local go_sem] max2_int min2_int max_two min_two max_three min_three max_four min_four   -- for this text's walks alone
set_option linter.unusedVariables false
set_option linter.unusedSimpArgs false

/-! ### spec_l4All: function 81 -/
theorem z11_0 {p : Prop} (h : p := by repeat (first | (with_reducible first | exact HB.out | apply below_alloc | apply pw_below_drewN | apply below_drew1) | exact HB.out)) : p := h
theorem z11_1 {p : Prop} (h : p := by first | (with_reducible assumption) | assumption) : p := h
theorem z11_2 {p : Prop} (h : p := by first | rfl | (simp; done) | (simp [*]; done)) : p := h
theorem z11_3 {p : Prop} (h : p := by (with_reducible repeat (first | apply Kd.R_alloc | apply Kd.R_drewN | apply Kd.R_drew)); exact HO400.out) : p := h
theorem z11_4 {p : Prop} (h : p := by (with_reducible repeat (first | apply Kd.R_alloc | apply Kd.R_drewN | apply Kd.R_drew)); exact HO_5.out) : p := h
theorem z11_5 {p : Prop} (h : p := by repeat (first | exact Drawn0.refl _ | apply Drawn0.step)) : p := h
theorem z11_6 {p : Prop} (h : p := by first | rfl | (simp [errW_none, errW_some] <;> rfl) | (simp [*, errW_none, errW_some] <;> rfl)) : p := h
theorem z11_7 {p : Prop} (h : p := by (try simp only [List.map_toArray, List.map_cons, List.map_nil]); first | done | rfl | (simp only [List.length_drop, List.length_take]; rfl)) : p := h
def spec_l4All.l0 : Nat → Int → List Int → List Int → Int → Option (List Int)
  | 0, _, _, _, _ => none
  | k + 1, x0, x1, x5, x6 => if x6 < 8 then ((spec_l4Row.f x0 x6).bind fun t388 => ((spec_l2Dot.f k t388 x1).bind fun t391 => (if x5.length < 17592186044416 then (spec_l4All.l0 k x0 x1 (x5 ++ [t391]) (wrap64 (x6 + 1))) else (none)))) else (some x5)
def spec_l4All.f (k : Nat) (a0 : Int) (l1 : List Int) : Option (List Int) := spec_l4All.l0 k a0 l1 (([] : List Int)) 0
set_option maxHeartbeats 8000000 in
set_option maxRecDepth 100000 in
theorem spec_l4All.calls (k : Nat) (a0 : Int) (A1 : Option Addr) (c1 : Nat) (l1 : List Int) (r : List Int) (w : World) (hr1 : Kd.C (Kd.int .i64) w A1 l1.length l1) (hc1 : l1.length ≤ c1) (h : spec_l4All.f k a0 l1 = some r) :
  Calls Try.prog 81 #[.int .i64 a0, .slice A1 l1.length c1] w fun e w' => ∃ v0_ : Value, e = .returned (v0_) ∧ Kd.R (Kd.int .i64) 3 w' w.heap.size (fun _ => True) v0_ r ∧ Below w.heap.size w w' := by
 have HR1 := Aside0.mk hr1
 have HC1 := Aside0.mk hc1
 clear hr1 hc1
 have HB := Aside0.mk (Below.refl w.heap.size w)
 have H : (spec_l4All.l0 k a0 l1 (([] : List Int)) 0) = some r := h
 clear h
 obtain ⟨y385, hy385⟩ : ∃ y_ : List Int, y_ = (([] : List Int)) := ⟨_, rfl⟩
 replace H : (spec_l4All.l0 k a0 l1 y385 0) = some r := by first | (rw [hy385]; with_reducible exact H) | (have H2_ := (Option.bind_some _ _).symm.trans H; rw [hy385]; with_reducible exact H2_) | (have H2_ := (Option.bind_some _ _).symm.trans H; with_reducible exact H2_) | with_reducible exact H | (rw [hy385]; exact H) | exact H
 have Ny385 := Aside0.mk hy385
 clear hy385
 have H' := Aside0.mk H
 clear H
 go_enter Try.func81, Try.ntmps81
 go_wp2_with (first | ((with_reducible refine gate_dst (N := 7) rfl ?_); refine Kd.R_lit (Kd.int .i64) _ 3 ?hg (N := 7) ?hd (xs := ([] : List Int)) (inner := []) (ok := fun _ => True) (okp := fun _ => True) ?hr ?hp (fun _ hk => hk) trivial (Below.refl _ _) (Nat.le_refl _) (by simp) ?_; (case hd => rfl); (case hg => rfl); (case hr => first | (go_simp; done) | (go_simp; rfl)); (case hp => exact (Reps.none _ _)); intro v386 w3 ho4 hb hg_ hnew_; clear hg_ hnew_; (first | rw [← Ny385.out] at ho4 | (simp only [Int.reduceToNat] at ho4; rw [← Ny385.out] at ho4)); have HO387 := Aside0.mk (Kd.R_lower ho4 (below_size z11_0)); replace HB := Aside0.mk (below_step z11_0 hb); clear hb ho4))
 go_loopg [5, 6] k (fun kq v5 v6 w' => ∃ (x5_1 : List Int) (x6_1 : Int), v6 = .int .i64 x6_1 ∧ Aside0 (spec_l4All.l0 kq a0 l1 x5_1 x6_1 = some r) ∧ Aside0 (kq ≤ k) ∧ Aside0 (Kd.R (Kd.int .i64) 3 w' w.heap.size (fun _ => True) v5 x5_1) ∧ Aside0 (Below w.heap.size w w'))
 case atStart => exact ⟨(y385), (0), z11_2, H', ⟨Nat.le_refl _⟩, ⟨by (with_reducible repeat (first | apply Kd.R_alloc | apply Kd.R_drewN | apply Kd.R_drew)); exact HO387.out⟩, ⟨z11_0⟩⟩
 case round =>
  clear H'
  try clear c1
  obtain ⟨x5_1, x6_1, rfl, HA, HK1, HO_5, HB⟩ := hrel
  cases gk with
  | zero => exact absurd HA.out (by simp [spec_l4All.l0])
  | succ k1 =>
   have H := HA.out
   clear HA
   simp only [spec_l4All.l0] at H
   by_cases c5 : x6_1 < 8
   ·rw [if_pos c5] at H
    have c5b0 : decide (x6_1 < 8) = true := decide_eq_true c5
    clear c5
    replace H := Option.bind_eq_some_iff.mp H
    obtain ⟨t388, A60, H⟩ := H
    replace H : ((spec_l2Dot.f k1 t388 l1).bind fun t391 => (if x5_1.length < 17592186044416 then (spec_l4All.l0 k1 a0 l1 (x5_1 ++ [t391]) (wrap64 (x6_1 + 1))) else (none))) = some r := H
    have A6 := Aside0.mk A60
    clear A60
    replace H := Option.bind_eq_some_iff.mp H
    obtain ⟨t391, A70, H⟩ := H
    replace H : (if x5_1.length < 17592186044416 then (spec_l4All.l0 k1 a0 l1 (x5_1 ++ [t391]) (wrap64 (x6_1 + 1))) else (none)) = some r := H
    have A7 := Aside0.mk A70
    clear A70
    obtain ⟨c8, H⟩ := ifP H
    have LMc8 := Aside0.mk c8
    clear c8
    obtain ⟨y392, hy392⟩ : ∃ y_ : List Int, y_ = (x5_1 ++ [t391]) := ⟨_, rfl⟩
    replace H : (spec_l4All.l0 k1 a0 l1 y392 (wrap64 (x6_1 + 1))) = some r := by first | (rw [hy392]; with_reducible exact H) | (have H2_ := (Option.bind_some _ _).symm.trans H; rw [hy392]; with_reducible exact H2_) | (have H2_ := (Option.bind_some _ _).symm.trans H; with_reducible exact H2_) | with_reducible exact H | (rw [hy392]; exact H) | exact H
    have Ny392 := Aside0.mk hy392
    clear hy392
    have H' := Aside0.mk H
    clear H
    go_wp2_with (first | ((with_reducible refine gate_callee (f := 106) rfl ?_); refine goesL_ (some 15) rfl rfl Try.func106 (by kernel_rfl) rfl #[.int .i64 a0, .int .i64 x6_1] rfl z11_7 ?_; (with_reducible refine (spec_l4Row.calls a0 x6_1 t388 _ A6.out).mono ?_); rintro e w9 ⟨v389, rfl, ho0, hb⟩; refine ⟨_, rfl, ?_⟩; have HO390 := Aside0.mk (Kd.V_lower (Kd.V_mono (ok' := fun k_ => some k_ ≠ (u5 : Value).ownBlock) ho0 (fun k_ hk_ => (Kd.fresh' (Kd.R_lt z11_4) k_ hk_))) (below_size z11_0)); replace HO_5 := Aside0.mk (Kd.R_below z11_4 hb); replace HB := Aside0.mk (below_step z11_0 hb); (try clear hb); (try clear ho0); obtain ⟨Ao10, co10, eo10⟩ := Kd.V_slice HO390.out; subst eo10) | ((with_reducible refine gate_callee (f := 112) rfl ?_); refine goesL_ (some 17) rfl rfl Try.func112 (by kernel_rfl) rfl #[.slice Ao10 t388.length co10, .slice A1 l1.length c1] rfl z11_7 ?_; (with_reducible refine (spec_l2Dot.calls k1 _ _ t388 _ _ l1 t391 _ ?side1 ?side2 ?side3 ?side4 A7.out).mono ?_); (case side1 => exact cZ ((Kd.V_reads' HO390.out).2.2)); (case side2 => exact (Kd.V_reads' HO390.out).2.1); (case side3 => exact cZ ((Kd.C_below HR1.out HB.out))); (case side4 => exact HC1.out); rintro e w' ⟨rfl, ⟨nd, rfl⟩⟩; refine ⟨_, rfl, ?_⟩) | ((with_reducible refine gate_builtin (b := .append) (xs := #[.tmp 12, .tmp 18]) rfl ?_); at_builtin; refine Kd.R_append (Kd.int .i64) (w0 := w) w.heap.size rfl (.tmp 12) (.tmp 18) 28 3 (.int .i64 0) 8 rfl Try.underlying28 info3 rfl (by decide) (by omega) u5 x5_1 t391 [.int .i64 t391] (fun _ => True) (fun _ => False) rfl rfl ?aP (fun _ hk => hk.elim) ?aF ?aO ?aB ?aS ?aL ?_; (case aP => exact rfl); (case aB => exact z11_0); (case aF => exact (fun _ _ => trivial)); (case aO => exact z11_4); (case aS => exact (below_size z11_0)); (case aL => have := LMc8.out; omega); intro v393 w11 ho hb hg hat; rw [← Ny392.out] at ho; have n0_ := Aside0.mk (Kd.V_afterv (ok := (fun _ => True)) (by (with_reducible repeat (first | apply Kd.V_alloc | apply Kd.V_drewN | apply Kd.V_drew)); exact Kd.V_mono HO390.out (fun _ hk => ⟨trivial, hk⟩)) hg hat); have n1_ := Aside0.mk (hb); have n2_ := Aside0.mk (ho); clear HO390; clear HB; clear HO_5; have HO390 := n0_; have HB := n1_; have HO394 := n2_; clear n0_ n1_ n2_; clear ho hb hg hat))
    go_roundg k1
    case measure => have := HK1.out; omega
    case rel => exact ⟨(y392), (wrap64 (x6_1 + 1)), z11_2, H', ⟨by have := HK1.out; omega⟩, ⟨by (with_reducible repeat (first | apply Kd.R_alloc | apply Kd.R_drewN | apply Kd.R_drew)); exact HO394.out⟩, ⟨z11_0⟩⟩
   ·rw [if_neg c5] at H
    have c5b0 : decide (x6_1 < 8) = false := decide_eq_false c5
    clear c5
    obtain rfl := Option.some.inj H
    go_wp2
    go_ret
    exact ⟨_, z11_6, z11_4, z11_0⟩

/-! ### spec_CodeApart: function 40 -/
mutual
def spec_CodeApart.j0 : Nat → Int → List Int → List Int → Bool → Option (Int)
  | 0, _, _, _, _ => none
  | k + 1, x0, x1, x2, x23 => if x23 = true then (some (-1)) else ((spec_l4All.f k x0 x1).bind fun t398 => ((spec_l4All.f k x0 x2).bind fun t401 => (spec_CodeApart.l0 k 0 t398 t401 0)))
def spec_CodeApart.l0 : Nat → Int → List Int → List Int → Int → Option (Int)
  | 0, _, _, _, _ => none
  | k + 1, x7, x8, x9, x10 => if x10 < (x8.length : Int) then (if 0 ≤ x10 then (if x10 < (x9.length : Int) then (if (rd x8 x10) = (rd x9 x10) then (spec_CodeApart.l0 k x7 x8 x9 (wrap64 (x10 + 1))) else (spec_CodeApart.l0 k (wrap64 (x7 + 1)) x8 x9 (wrap64 (x10 + 1)))) else (none)) else (none)) else (some x7)
end
def spec_CodeApart.f (k : Nat) (a0 : Int) (l1 : List Int) (l2 : List Int) : Option (Int) := (spec_l4Kind.f a0).bind fun t395 => (if t395 = true then ((spec_VecOk.f k l1).bind fun t396 => (if t396 = true then ((spec_VecOk.f k l2).bind fun t397 => (spec_CodeApart.j0 k a0 l1 l2 (!t397))) else (spec_CodeApart.j0 k a0 l1 l2 true))) else (spec_CodeApart.j0 k a0 l1 l2 true))
set_option maxHeartbeats 8000000 in
set_option maxRecDepth 100000 in
theorem spec_CodeApart.calls (k : Nat) (a0 : Int) (A1 : Option Addr) (c1 : Nat) (l1 : List Int) (A2 : Option Addr) (c2 : Nat) (l2 : List Int) (r : Int) (w : World) (hr1 : Kd.C (Kd.int .i64) w A1 l1.length l1) (hc1 : l1.length ≤ c1) (hr2 : Kd.C (Kd.int .i64) w A2 l2.length l2) (hc2 : l2.length ≤ c2) (h : spec_CodeApart.f k a0 l1 l2 = some r) :
  Calls Try.prog 40 #[.int .i64 a0, .slice A1 l1.length c1, .slice A2 l2.length c2] w fun e w' => e = .returned (.int .i64 r) ∧ Below w.heap.size w w' := by
 have HR1 := Aside0.mk hr1
 have HC1 := Aside0.mk hc1
 clear hr1 hc1
 have HR2 := Aside0.mk hr2
 have HC2 := Aside0.mk hc2
 clear hr2 hc2
 have HB := Aside0.mk (Below.refl w.heap.size w)
 have H : ((spec_l4Kind.f a0).bind fun t395 => (if t395 = true then ((spec_VecOk.f k l1).bind fun t396 => (if t396 = true then ((spec_VecOk.f k l2).bind fun t397 => (spec_CodeApart.j0 k a0 l1 l2 (!t397))) else (spec_CodeApart.j0 k a0 l1 l2 true))) else (spec_CodeApart.j0 k a0 l1 l2 true))) = some r := h
 clear h
 have HC4 := Aside0.mk H
 clear H
 go_enter Try.func40, Try.ntmps40
 go_upto_region 1 with (fail)
 repeat (go_quiet (fail); go_upto_region 1 with (fail))
 go_cut [23] (fun v23 wc => ∃ (kq : Nat) (x23_3 : Bool), v23 = .bool x23_3 ∧ Aside0 (spec_CodeApart.j0 kq a0 l1 l2 x23_3 = some r) ∧ Aside0 (kq ≤ k) ∧ Aside0 (Below w.heap.size w wc))
 case first =>
  have H := HC4.out
  clear HC4
  replace H := Option.bind_eq_some_iff.mp H
  obtain ⟨t395, A50, H⟩ := H
  replace H : (if t395 = true then ((spec_VecOk.f k l1).bind fun t396 => (if t396 = true then ((spec_VecOk.f k l2).bind fun t397 => (spec_CodeApart.j0 k a0 l1 l2 (!t397))) else (spec_CodeApart.j0 k a0 l1 l2 true))) else (spec_CodeApart.j0 k a0 l1 l2 true)) = some r := H
  have A5 := Aside0.mk A50
  clear A50
  by_cases c6 : t395 = true
  ·subst c6
   have H1 : ((spec_VecOk.f k l1).bind fun t396 => (if t396 = true then ((spec_VecOk.f k l2).bind fun t397 => (spec_CodeApart.j0 k a0 l1 l2 (!t397))) else (spec_CodeApart.j0 k a0 l1 l2 true))) = some r := by rw [if_pos rfl] at H; exact H
   clear H
   have H := H1
   clear H1
   replace H := Option.bind_eq_some_iff.mp H
   obtain ⟨t396, A70, H⟩ := H
   replace H : (if t396 = true then ((spec_VecOk.f k l2).bind fun t397 => (spec_CodeApart.j0 k a0 l1 l2 (!t397))) else (spec_CodeApart.j0 k a0 l1 l2 true)) = some r := H
   have A7 := Aside0.mk A70
   clear A70
   by_cases c8 : t396 = true
   ·subst c8
    have H1 : ((spec_VecOk.f k l2).bind fun t397 => (spec_CodeApart.j0 k a0 l1 l2 (!t397))) = some r := by rw [if_pos rfl] at H; exact H
    clear H
    have H := H1
    clear H1
    replace H := Option.bind_eq_some_iff.mp H
    obtain ⟨t397, A90, H⟩ := H
    replace H : (spec_CodeApart.j0 k a0 l1 l2 (!t397)) = some r := H
    have A9 := Aside0.mk A90
    clear A90
    have H' := Aside0.mk H
    clear H
    go_wp2_with (first | (go_at_call 66; (with_reducible refine (spec_l4Kind.calls a0 true _ A5.out).mono ?_); rintro e w' ⟨rfl, ⟨nd, rfl⟩⟩; (try first | exact ⟨rfl, _, World.drewN_drewN _ _ _⟩ | exact ⟨rfl, _, Eq.trans (World.drewN_drewN _ _ _) (congrArg (World.drewN _) (Nat.add_assoc _ _ _))⟩)) | (go_at_call 58; (with_reducible refine (spec_VecOk.calls k _ _ l1 true _ ?side1 ?side2 A7.out).mono ?_); (case side1 => repeat (first | exact (Kd.C_below HR1.out z11_0) | (with_reducible refine Kd.C_alloc ?_ _) | (with_reducible refine Kd.C_drewN ?_ _) | (with_reducible refine Kd.C_drew ?_))); (case side2 => exact HC1.out); rintro e w' ⟨rfl, ⟨nd, rfl⟩⟩; (try first | exact ⟨rfl, _, World.drewN_drewN _ _ _⟩ | exact ⟨rfl, _, Eq.trans (World.drewN_drewN _ _ _) (congrArg (World.drewN _) (Nat.add_assoc _ _ _))⟩)) | (go_at_call 58; (with_reducible refine (spec_VecOk.calls k _ _ l2 t397 _ ?side1 ?side2 A9.out).mono ?_); (case side1 => repeat (first | exact (Kd.C_below HR2.out z11_0) | (with_reducible refine Kd.C_alloc ?_ _) | (with_reducible refine Kd.C_drewN ?_ _) | (with_reducible refine Kd.C_drew ?_))); (case side2 => exact HC2.out); rintro e w' ⟨rfl, ⟨nd, rfl⟩⟩; (try first | exact ⟨rfl, _, World.drewN_drewN _ _ _⟩ | exact ⟨rfl, _, Eq.trans (World.drewN_drewN _ _ _) (congrArg (World.drewN _) (Nat.add_assoc _ _ _))⟩)))
    repeat (go_quiet (first | (go_at_call 66; (with_reducible refine (spec_l4Kind.calls a0 true _ A5.out).mono ?_); rintro e w' ⟨rfl, ⟨nd, rfl⟩⟩; (try first | exact ⟨rfl, _, World.drewN_drewN _ _ _⟩ | exact ⟨rfl, _, Eq.trans (World.drewN_drewN _ _ _) (congrArg (World.drewN _) (Nat.add_assoc _ _ _))⟩)) | (go_at_call 58; (with_reducible refine (spec_VecOk.calls k _ _ l1 true _ ?side1 ?side2 A7.out).mono ?_); (case side1 => repeat (first | exact (Kd.C_below HR1.out z11_0) | (with_reducible refine Kd.C_alloc ?_ _) | (with_reducible refine Kd.C_drewN ?_ _) | (with_reducible refine Kd.C_drew ?_))); (case side2 => exact HC1.out); rintro e w' ⟨rfl, ⟨nd, rfl⟩⟩; (try first | exact ⟨rfl, _, World.drewN_drewN _ _ _⟩ | exact ⟨rfl, _, Eq.trans (World.drewN_drewN _ _ _) (congrArg (World.drewN _) (Nat.add_assoc _ _ _))⟩)) | (go_at_call 58; (with_reducible refine (spec_VecOk.calls k _ _ l2 t397 _ ?side1 ?side2 A9.out).mono ?_); (case side1 => repeat (first | exact (Kd.C_below HR2.out z11_0) | (with_reducible refine Kd.C_alloc ?_ _) | (with_reducible refine Kd.C_drewN ?_ _) | (with_reducible refine Kd.C_drew ?_))); (case side2 => exact HC2.out); rintro e w' ⟨rfl, ⟨nd, rfl⟩⟩; (try first | exact ⟨rfl, _, World.drewN_drewN _ _ _⟩ | exact ⟨rfl, _, Eq.trans (World.drewN_drewN _ _ _) (congrArg (World.drewN _) (Nat.add_assoc _ _ _))⟩))); try go_wp2_with (first | (go_at_call 66; (with_reducible refine (spec_l4Kind.calls a0 true _ A5.out).mono ?_); rintro e w' ⟨rfl, ⟨nd, rfl⟩⟩; (try first | exact ⟨rfl, _, World.drewN_drewN _ _ _⟩ | exact ⟨rfl, _, Eq.trans (World.drewN_drewN _ _ _) (congrArg (World.drewN _) (Nat.add_assoc _ _ _))⟩)) | (go_at_call 58; (with_reducible refine (spec_VecOk.calls k _ _ l1 true _ ?side1 ?side2 A7.out).mono ?_); (case side1 => repeat (first | exact (Kd.C_below HR1.out z11_0) | (with_reducible refine Kd.C_alloc ?_ _) | (with_reducible refine Kd.C_drewN ?_ _) | (with_reducible refine Kd.C_drew ?_))); (case side2 => exact HC1.out); rintro e w' ⟨rfl, ⟨nd, rfl⟩⟩; (try first | exact ⟨rfl, _, World.drewN_drewN _ _ _⟩ | exact ⟨rfl, _, Eq.trans (World.drewN_drewN _ _ _) (congrArg (World.drewN _) (Nat.add_assoc _ _ _))⟩)) | (go_at_call 58; (with_reducible refine (spec_VecOk.calls k _ _ l2 t397 _ ?side1 ?side2 A9.out).mono ?_); (case side1 => repeat (first | exact (Kd.C_below HR2.out z11_0) | (with_reducible refine Kd.C_alloc ?_ _) | (with_reducible refine Kd.C_drewN ?_ _) | (with_reducible refine Kd.C_drew ?_))); (case side2 => exact HC2.out); rintro e w' ⟨rfl, ⟨nd, rfl⟩⟩; (try first | exact ⟨rfl, _, World.drewN_drewN _ _ _⟩ | exact ⟨rfl, _, Eq.trans (World.drewN_drewN _ _ _) (congrArg (World.drewN _) (Nat.add_assoc _ _ _))⟩))))
    go_meet
    case rel => exact ⟨_, (!t397), z11_2, H', ⟨by first | omega | exact Nat.le_refl _⟩, ⟨z11_0⟩⟩
   ·replace c8 := Bool.eq_false_iff.mpr c8
    subst c8
    have H1 : (spec_CodeApart.j0 k a0 l1 l2 true) = some r := by rw [if_neg (show ¬ (false = true) by decide)] at H; exact H
    clear H
    have H := H1
    clear H1
    have H' := Aside0.mk H
    clear H
    go_wp2_with (first | (go_at_call 66; (with_reducible refine (spec_l4Kind.calls a0 true _ A5.out).mono ?_); rintro e w' ⟨rfl, ⟨nd, rfl⟩⟩; (try first | exact ⟨rfl, _, World.drewN_drewN _ _ _⟩ | exact ⟨rfl, _, Eq.trans (World.drewN_drewN _ _ _) (congrArg (World.drewN _) (Nat.add_assoc _ _ _))⟩)) | (go_at_call 58; (with_reducible refine (spec_VecOk.calls k _ _ l1 false _ ?side1 ?side2 A7.out).mono ?_); (case side1 => repeat (first | exact (Kd.C_below HR1.out z11_0) | (with_reducible refine Kd.C_alloc ?_ _) | (with_reducible refine Kd.C_drewN ?_ _) | (with_reducible refine Kd.C_drew ?_))); (case side2 => exact HC1.out); rintro e w' ⟨rfl, ⟨nd, rfl⟩⟩; (try first | exact ⟨rfl, _, World.drewN_drewN _ _ _⟩ | exact ⟨rfl, _, Eq.trans (World.drewN_drewN _ _ _) (congrArg (World.drewN _) (Nat.add_assoc _ _ _))⟩)))
    repeat (go_quiet (first | (go_at_call 66; (with_reducible refine (spec_l4Kind.calls a0 true _ A5.out).mono ?_); rintro e w' ⟨rfl, ⟨nd, rfl⟩⟩; (try first | exact ⟨rfl, _, World.drewN_drewN _ _ _⟩ | exact ⟨rfl, _, Eq.trans (World.drewN_drewN _ _ _) (congrArg (World.drewN _) (Nat.add_assoc _ _ _))⟩)) | (go_at_call 58; (with_reducible refine (spec_VecOk.calls k _ _ l1 false _ ?side1 ?side2 A7.out).mono ?_); (case side1 => repeat (first | exact (Kd.C_below HR1.out z11_0) | (with_reducible refine Kd.C_alloc ?_ _) | (with_reducible refine Kd.C_drewN ?_ _) | (with_reducible refine Kd.C_drew ?_))); (case side2 => exact HC1.out); rintro e w' ⟨rfl, ⟨nd, rfl⟩⟩; (try first | exact ⟨rfl, _, World.drewN_drewN _ _ _⟩ | exact ⟨rfl, _, Eq.trans (World.drewN_drewN _ _ _) (congrArg (World.drewN _) (Nat.add_assoc _ _ _))⟩))); try go_wp2_with (first | (go_at_call 66; (with_reducible refine (spec_l4Kind.calls a0 true _ A5.out).mono ?_); rintro e w' ⟨rfl, ⟨nd, rfl⟩⟩; (try first | exact ⟨rfl, _, World.drewN_drewN _ _ _⟩ | exact ⟨rfl, _, Eq.trans (World.drewN_drewN _ _ _) (congrArg (World.drewN _) (Nat.add_assoc _ _ _))⟩)) | (go_at_call 58; (with_reducible refine (spec_VecOk.calls k _ _ l1 false _ ?side1 ?side2 A7.out).mono ?_); (case side1 => repeat (first | exact (Kd.C_below HR1.out z11_0) | (with_reducible refine Kd.C_alloc ?_ _) | (with_reducible refine Kd.C_drewN ?_ _) | (with_reducible refine Kd.C_drew ?_))); (case side2 => exact HC1.out); rintro e w' ⟨rfl, ⟨nd, rfl⟩⟩; (try first | exact ⟨rfl, _, World.drewN_drewN _ _ _⟩ | exact ⟨rfl, _, Eq.trans (World.drewN_drewN _ _ _) (congrArg (World.drewN _) (Nat.add_assoc _ _ _))⟩))))
    go_meet
    case rel => exact ⟨_, (true), z11_2, H', ⟨by first | omega | exact Nat.le_refl _⟩, ⟨z11_0⟩⟩
  ·replace c6 := Bool.eq_false_iff.mpr c6
   subst c6
   have H1 : (spec_CodeApart.j0 k a0 l1 l2 true) = some r := by rw [if_neg (show ¬ (false = true) by decide)] at H; exact H
   clear H
   have H := H1
   clear H1
   have H' := Aside0.mk H
   clear H
   go_wp2_with (first | (go_at_call 66; (with_reducible refine (spec_l4Kind.calls a0 false _ A5.out).mono ?_); rintro e w' ⟨rfl, ⟨nd, rfl⟩⟩; (try first | exact ⟨rfl, _, World.drewN_drewN _ _ _⟩ | exact ⟨rfl, _, Eq.trans (World.drewN_drewN _ _ _) (congrArg (World.drewN _) (Nat.add_assoc _ _ _))⟩)))
   repeat (go_quiet (first | (go_at_call 66; (with_reducible refine (spec_l4Kind.calls a0 false _ A5.out).mono ?_); rintro e w' ⟨rfl, ⟨nd, rfl⟩⟩; (try first | exact ⟨rfl, _, World.drewN_drewN _ _ _⟩ | exact ⟨rfl, _, Eq.trans (World.drewN_drewN _ _ _) (congrArg (World.drewN _) (Nat.add_assoc _ _ _))⟩))); try go_wp2_with (first | (go_at_call 66; (with_reducible refine (spec_l4Kind.calls a0 false _ A5.out).mono ?_); rintro e w' ⟨rfl, ⟨nd, rfl⟩⟩; (try first | exact ⟨rfl, _, World.drewN_drewN _ _ _⟩ | exact ⟨rfl, _, Eq.trans (World.drewN_drewN _ _ _) (congrArg (World.drewN _) (Nat.add_assoc _ _ _))⟩))))
   go_meet
   case rel => exact ⟨_, (true), z11_2, H', ⟨by first | omega | exact Nat.le_refl _⟩, ⟨z11_0⟩⟩
 case rest =>
  clear HC4
  try clear c1
  try clear c2
  obtain ⟨kq, x23_3, rfl, HA, HJ3, HB⟩ := hcut
  cases kq with
  | zero => exact absurd HA.out (by simp [spec_CodeApart.j0])
  | succ kj3 =>
   have H := HA.out
   clear HA
   simp only [spec_CodeApart.j0] at H
   by_cases c10 : x23_3 = true
   ·subst c10
    have H1 : (some (-1)) = some r := by rw [if_pos rfl] at H; exact H
    clear H
    have H := H1
    clear H1
    obtain rfl := Option.some.inj H
    go_wp2
    repeat (go_quiet (fail); try go_wp2)
    go_ret
    exact ⟨z11_6, z11_0⟩
   ·replace c10 := Bool.eq_false_iff.mpr c10
    subst c10
    have H1 : ((spec_l4All.f kj3 a0 l1).bind fun t398 => ((spec_l4All.f kj3 a0 l2).bind fun t401 => (spec_CodeApart.l0 kj3 0 t398 t401 0))) = some r := by rw [if_neg (show ¬ (false = true) by decide)] at H; exact H
    clear H
    have H := H1
    clear H1
    replace H := Option.bind_eq_some_iff.mp H
    obtain ⟨t398, A110, H⟩ := H
    replace H : ((spec_l4All.f kj3 a0 l2).bind fun t401 => (spec_CodeApart.l0 kj3 0 t398 t401 0)) = some r := H
    have A11 := Aside0.mk A110
    clear A110
    replace H := Option.bind_eq_some_iff.mp H
    obtain ⟨t401, A120, H⟩ := H
    replace H : (spec_CodeApart.l0 kj3 0 t398 t401 0) = some r := H
    have A12 := Aside0.mk A120
    clear A120
    have H' := Aside0.mk H
    clear H
    go_wp2_with (first | (go_at_call 81; (with_reducible refine (spec_l4All.calls kj3 a0 _ _ l1 t398 _ ?side1 ?side2 A11.out).mono ?_); (case side1 => exact cZ ((Kd.C_below HR1.out HB.out))); (case side2 => exact HC1.out); rintro e w13 ⟨v399, rfl, ho0, hb⟩; have HO400 := Aside0.mk (Kd.R_lower ho0 (below_size z11_0)); replace HB := Aside0.mk (below_step z11_0 hb); (try clear hb); (try clear ho0)) | (go_at_call 81; (with_reducible refine (spec_l4All.calls kj3 a0 _ _ l2 t401 _ ?side1 ?side2 A12.out).mono ?_); (case side1 => exact cZ ((Kd.C_below HR2.out HB.out))); (case side2 => exact HC2.out); rintro e w14 ⟨v402, rfl, ho0, hb⟩; have HO403 := Aside0.mk (Kd.R_lower (Kd.R_new' ho0 (Kd.R_lt z11_3)) (below_size z11_0)); replace HO400 := Aside0.mk (Kd.R_elder' z11_3 (Kd.R_base ho0) hb); replace HB := Aside0.mk (below_step z11_0 hb); (try clear hb); (try clear ho0)))
    repeat (go_quiet (first | (go_at_call 81; (with_reducible refine (spec_l4All.calls kj3 a0 _ _ l1 t398 _ ?side1 ?side2 A11.out).mono ?_); (case side1 => exact cZ ((Kd.C_below HR1.out HB.out))); (case side2 => exact HC1.out); rintro e w13 ⟨v399, rfl, ho0, hb⟩; have HO400 := Aside0.mk (Kd.R_lower ho0 (below_size z11_0)); replace HB := Aside0.mk (below_step z11_0 hb); (try clear hb); (try clear ho0)) | (go_at_call 81; (with_reducible refine (spec_l4All.calls kj3 a0 _ _ l2 t401 _ ?side1 ?side2 A12.out).mono ?_); (case side1 => exact cZ ((Kd.C_below HR2.out HB.out))); (case side2 => exact HC2.out); rintro e w14 ⟨v402, rfl, ho0, hb⟩; have HO403 := Aside0.mk (Kd.R_lower (Kd.R_new' ho0 (Kd.R_lt z11_3)) (below_size z11_0)); replace HO400 := Aside0.mk (Kd.R_elder' z11_3 (Kd.R_base ho0) hb); replace HB := Aside0.mk (below_step z11_0 hb); (try clear hb); (try clear ho0))); try go_wp2_with (first | (go_at_call 81; (with_reducible refine (spec_l4All.calls kj3 a0 _ _ l1 t398 _ ?side1 ?side2 A11.out).mono ?_); (case side1 => exact cZ ((Kd.C_below HR1.out HB.out))); (case side2 => exact HC1.out); rintro e w13 ⟨v399, rfl, ho0, hb⟩; have HO400 := Aside0.mk (Kd.R_lower ho0 (below_size z11_0)); replace HB := Aside0.mk (below_step z11_0 hb); (try clear hb); (try clear ho0)) | (go_at_call 81; (with_reducible refine (spec_l4All.calls kj3 a0 _ _ l2 t401 _ ?side1 ?side2 A12.out).mono ?_); (case side1 => exact cZ ((Kd.C_below HR2.out HB.out))); (case side2 => exact HC2.out); rintro e w14 ⟨v402, rfl, ho0, hb⟩; have HO403 := Aside0.mk (Kd.R_lower (Kd.R_new' ho0 (Kd.R_lt z11_3)) (below_size z11_0)); replace HO400 := Aside0.mk (Kd.R_elder' z11_3 (Kd.R_base ho0) hb); replace HB := Aside0.mk (below_step z11_0 hb); (try clear hb); (try clear ho0))))
    go_loopg [7, 10] kj3 (fun kq v7 v10 w' => ∃ (x7_2 : Int) (x10_2 : Int), v7 = .int .i64 x7_2 ∧ v10 = .int .i64 x10_2 ∧ Aside0 (spec_CodeApart.l0 kq x7_2 t398 t401 x10_2 = some r) ∧ Aside0 (kq ≤ kj3) ∧ Aside0 (Kd.R (Kd.int .i64) 3 w' w.heap.size (fun k_ => some k_ ≠ (v402 : Value).ownBlock) v399 t398) ∧ Aside0 (Kd.R (Kd.int .i64) 3 w' w.heap.size (fun k_ => some k_ ≠ (v399 : Value).ownBlock) v402 t401) ∧ Aside0 (Below w.heap.size w w'))
    case atStart => exact ⟨(0), (0), z11_2, z11_2, H', ⟨Nat.le_refl _⟩, ⟨by (with_reducible repeat (first | apply Kd.R_alloc | apply Kd.R_drewN | apply Kd.R_drew)); exact Kd.R_mono HO400.out (fun _ hk => hk.2)⟩, ⟨by (with_reducible repeat (first | apply Kd.R_alloc | apply Kd.R_drewN | apply Kd.R_drew)); exact Kd.R_mono HO403.out (fun _ hk => hk.2)⟩, ⟨z11_0⟩⟩
    case round =>
     clear H'
     try clear c1
     try clear c2
     try clear c10
     obtain ⟨x7_2, x10_2, rfl, rfl, HA, HK2, HO_8, HO_9, HB⟩ := hrel
     cases gk with
     | zero => exact absurd HA.out (by simp [spec_CodeApart.l0])
     | succ k2 =>
      have H := HA.out
      clear HA
      simp only [spec_CodeApart.l0] at H
      by_cases c15 : x10_2 < (t398.length : Int)
      ·rw [if_pos c15] at H
       have c15b0 : decide (x10_2 < (t398.length : Int)) = true := decide_eq_true c15
       clear c15
       obtain ⟨c16, H⟩ := ifP H
       have c16b0 : decide (0 ≤ x10_2) = true := decide_eq_true c16
       clear c16
       obtain ⟨c17, H⟩ := ifP H
       have c17b0 : decide (x10_2 < (t401.length : Int)) = true := decide_eq_true c17
       clear c17
       by_cases c18 : (rd t398 x10_2) = (rd t401 x10_2)
       ·rw [if_pos c18] at H
        have c18b0 : ((rd t398 x10_2) == (rd t401 x10_2)) = true := beq_iff_eq.mpr c18
        have c18b1 : ((rd t398 x10_2) != (rd t401 x10_2)) = false := bne_eq_false_iff_eq.mpr c18
        clear c18
        have H' := Aside0.mk H
        clear H
        obtain ⟨Ao19, co19, eo19⟩ := Kd.R_slice HO_8.out
        subst eo19
        have p404 : 0 ≤ (x10_2 : Int) := of_decide_eq_true z11_1
        have q404 : x10_2 < (t398.length : Int) := of_decide_eq_true z11_1
        obtain ⟨ad404, e404, hx404_0⟩ := Kd.at_int (Kd.R_reads' HO_8.out).2.2 x10_2 p404 q404
        cases e404
        replace p404 := eq_true p404
        replace q404 := eq_true q404
        obtain ⟨Ao20, co20, eo20⟩ := Kd.R_slice HO_9.out
        subst eo20
        have p405 : 0 ≤ (x10_2 : Int) := of_decide_eq_true z11_1
        have q405 : x10_2 < (t401.length : Int) := of_decide_eq_true z11_1
        obtain ⟨ad405, e405, hx405_0⟩ := Kd.at_int (Kd.R_reads' HO_9.out).2.2 x10_2 p405 q405
        cases e405
        replace p405 := eq_true p405
        replace q405 := eq_true q405
        go_wp2
        repeat (go_quiet (fail); try go_wp2)
        go_roundg k2
        case measure => have := HJ3.out; have := HK2.out; omega
        case rel => exact ⟨(x7_2), (wrap64 (x10_2 + 1)), z11_2, z11_2, H', ⟨by have := HJ3.out; have := HK2.out; omega⟩, ⟨by (with_reducible repeat (first | apply Kd.R_alloc | apply Kd.R_drewN | apply Kd.R_drew)); exact HO_8.out⟩, ⟨by (with_reducible repeat (first | apply Kd.R_alloc | apply Kd.R_drewN | apply Kd.R_drew)); exact HO_9.out⟩, ⟨z11_0⟩⟩
       ·rw [if_neg c18] at H
        have c18b0 : ((rd t398 x10_2) == (rd t401 x10_2)) = false := beq_eq_false_iff_ne.mpr c18
        have c18b1 : ((rd t398 x10_2) != (rd t401 x10_2)) = true := bne_iff_ne.mpr c18
        have H' := Aside0.mk H
        clear H
        obtain ⟨Ao21, co21, eo21⟩ := Kd.R_slice HO_8.out
        subst eo21
        have p404 : 0 ≤ (x10_2 : Int) := of_decide_eq_true z11_1
        have q404 : x10_2 < (t398.length : Int) := of_decide_eq_true z11_1
        obtain ⟨ad404, e404, hx404_0⟩ := Kd.at_int (Kd.R_reads' HO_8.out).2.2 x10_2 p404 q404
        cases e404
        replace p404 := eq_true p404
        replace q404 := eq_true q404
        obtain ⟨Ao22, co22, eo22⟩ := Kd.R_slice HO_9.out
        subst eo22
        have p405 : 0 ≤ (x10_2 : Int) := of_decide_eq_true z11_1
        have q405 : x10_2 < (t401.length : Int) := of_decide_eq_true z11_1
        obtain ⟨ad405, e405, hx405_0⟩ := Kd.at_int (Kd.R_reads' HO_9.out).2.2 x10_2 p405 q405
        cases e405
        replace p405 := eq_true p405
        replace q405 := eq_true q405
        go_wp2
        repeat (go_quiet (fail); try go_wp2)
        go_roundg k2
        case measure => have := HJ3.out; have := HK2.out; omega
        case rel => exact ⟨(wrap64 (x7_2 + 1)), (wrap64 (x10_2 + 1)), z11_2, z11_2, H', ⟨by have := HJ3.out; have := HK2.out; omega⟩, ⟨by (with_reducible repeat (first | apply Kd.R_alloc | apply Kd.R_drewN | apply Kd.R_drew)); exact HO_8.out⟩, ⟨by (with_reducible repeat (first | apply Kd.R_alloc | apply Kd.R_drewN | apply Kd.R_drew)); exact HO_9.out⟩, ⟨z11_0⟩⟩
      ·rw [if_neg c15] at H
       have c15b0 : decide (x10_2 < (t398.length : Int)) = false := decide_eq_false c15
       clear c15
       obtain rfl := Option.some.inj H
       obtain ⟨Ao23, co23, eo23⟩ := Kd.R_slice HO_8.out
       subst eo23
       go_wp2
       repeat (go_quiet (fail); try go_wp2)
       go_ret
       exact ⟨z11_6, z11_0⟩

/-! ### laws_lkInts: function 41 -/
def laws_lkInts.l0 : Nat → List Int → List Int → Int → Option (Bool)
  | 0, _, _, _ => none
  | k + 1, x0, x1, x5 => if x5 < (x0.length : Int) then (if 0 ≤ x5 then (if x5 < (x1.length : Int) then (if (rd x0 x5) = (rd x1 x5) then (laws_lkInts.l0 k x0 x1 (wrap64 (x5 + 1))) else (some false)) else (none)) else (none)) else (some true)
def laws_lkInts.f (k : Nat) (l0 : List Int) (l1 : List Int) : Option (Bool) := if (l0.length : Int) = (l1.length : Int) then (laws_lkInts.l0 k l0 l1 0) else (some false)
set_option maxHeartbeats 8000000 in
set_option maxRecDepth 100000 in
theorem laws_lkInts.calls (k : Nat) (A0 : Option Addr) (c0 : Nat) (l0 : List Int) (A1 : Option Addr) (c1 : Nat) (l1 : List Int) (r : Bool) (w : World) (hr0 : Kd.C (Kd.int .i64) w A0 l0.length l0) (hc0 : l0.length ≤ c0) (hr1 : Kd.C (Kd.int .i64) w A1 l1.length l1) (hc1 : l1.length ≤ c1) (h : laws_lkInts.f k l0 l1 = some r) :
  Calls Try.prog 41 #[.slice A0 l0.length c0, .slice A1 l1.length c1] w fun e w' => e = .returned (.bool r) ∧ Drawn0 w w' := by
 have HR0 := Aside0.mk hr0
 have HC0 := Aside0.mk hc0
 clear hr0 hc0
 have HR1 := Aside0.mk hr1
 have HC1 := Aside0.mk hc1
 clear hr1 hc1
 have H : (if (l0.length : Int) = (l1.length : Int) then (laws_lkInts.l0 k l0 l1 0) else (some false)) = some r := h
 clear h
 by_cases c3 : (l0.length : Int) = (l1.length : Int)
 ·rw [if_pos c3] at H
  have c3b0 : ((l0.length : Int) == (l1.length : Int)) = true := beq_iff_eq.mpr c3
  have c3b1 : ((l0.length : Int) != (l1.length : Int)) = false := bne_eq_false_iff_eq.mpr c3
  have c3b2 : (l0.length == l1.length) = true := by first | simpa using c3 | (simp at c3 ⊢; omega)
  clear c3
  have H' := Aside0.mk H
  clear H
  go_enter Try.func41, Try.ntmps41
  go_wp2
  repeat (go_quiet (fail); try go_wp2)
  go_loopg [5] k (fun kq v5 w' => ∃ (x5_1 : Int), v5 = .int .i64 x5_1 ∧ Aside0 (laws_lkInts.l0 kq l0 l1 x5_1 = some r) ∧ Aside0 (kq ≤ k) ∧ Drawn0 w w')
  case atStart => exact ⟨(0), z11_2, H', ⟨Nat.le_refl _⟩, z11_5⟩
  case round =>
   clear H'
   try clear c1
   try clear c3
   try clear c3b0
   try clear c3b1
   try clear c3b2
   obtain ⟨x5_1, rfl, HA, HK1, ⟨m1, rfl⟩⟩ := hrel
   cases gk with
   | zero => exact absurd HA.out (by simp [laws_lkInts.l0])
   | succ k1 =>
    have H := HA.out
    clear HA
    simp only [laws_lkInts.l0] at H
    by_cases c4 : x5_1 < (l0.length : Int)
    ·rw [if_pos c4] at H
     have c4b0 : decide (x5_1 < (l0.length : Int)) = true := decide_eq_true c4
     clear c4
     obtain ⟨c5, H⟩ := ifP H
     have c5b0 : decide (0 ≤ x5_1) = true := decide_eq_true c5
     clear c5
     obtain ⟨c6, H⟩ := ifP H
     have c6b0 : decide (x5_1 < (l1.length : Int)) = true := decide_eq_true c6
     clear c6
     by_cases c7 : (rd l0 x5_1) = (rd l1 x5_1)
     ·rw [if_pos c7] at H
      have c7b0 : ((rd l0 x5_1) == (rd l1 x5_1)) = true := beq_iff_eq.mpr c7
      have c7b1 : ((rd l0 x5_1) != (rd l1 x5_1)) = false := bne_eq_false_iff_eq.mpr c7
      clear c7
      have H' := Aside0.mk H
      clear H
      have p406 : 0 ≤ (x5_1 : Int) := of_decide_eq_true z11_1
      have q406 : x5_1 < (l0.length : Int) := of_decide_eq_true z11_1
      obtain ⟨ad406, e406, hx406_0⟩ := Kd.at_int HR0.out x5_1 p406 q406
      cases e406
      replace p406 := eq_true p406
      replace q406 := eq_true q406
      have p407 : 0 ≤ (x5_1 : Int) := of_decide_eq_true z11_1
      have q407 : x5_1 < (l1.length : Int) := of_decide_eq_true z11_1
      obtain ⟨ad407, e407, hx407_0⟩ := Kd.at_int HR1.out x5_1 p407 q407
      cases e407
      replace p407 := eq_true p407
      replace q407 := eq_true q407
      go_wp2
      repeat (go_quiet (fail); try go_wp2)
      go_roundg k1
      case measure => have := HK1.out; omega
      case rel => exact ⟨(wrap64 (x5_1 + 1)), z11_2, H', ⟨by have := HK1.out; omega⟩, z11_5⟩
     ·rw [if_neg c7] at H
      have c7b0 : ((rd l0 x5_1) == (rd l1 x5_1)) = false := beq_eq_false_iff_ne.mpr c7
      have c7b1 : ((rd l0 x5_1) != (rd l1 x5_1)) = true := bne_iff_ne.mpr c7
      obtain rfl := Option.some.inj H
      have p406 : 0 ≤ (x5_1 : Int) := of_decide_eq_true z11_1
      have q406 : x5_1 < (l0.length : Int) := of_decide_eq_true z11_1
      obtain ⟨ad406, e406, hx406_0⟩ := Kd.at_int HR0.out x5_1 p406 q406
      cases e406
      replace p406 := eq_true p406
      replace q406 := eq_true q406
      have p407 : 0 ≤ (x5_1 : Int) := of_decide_eq_true z11_1
      have q407 : x5_1 < (l1.length : Int) := of_decide_eq_true z11_1
      obtain ⟨ad407, e407, hx407_0⟩ := Kd.at_int HR1.out x5_1 p407 q407
      cases e407
      replace p407 := eq_true p407
      replace q407 := eq_true q407
      go_wp2
      repeat (go_quiet (fail); try go_wp2)
      go_ret
      exact ⟨z11_2, z11_5⟩
    ·rw [if_neg c4] at H
     have c4b0 : decide (x5_1 < (l0.length : Int)) = false := decide_eq_false c4
     clear c4
     obtain rfl := Option.some.inj H
     go_wp2
     repeat (go_quiet (fail); try go_wp2)
     go_ret
     exact ⟨z11_2, z11_5⟩
 ·rw [if_neg c3] at H
  have c3b0 : ((l0.length : Int) == (l1.length : Int)) = false := beq_eq_false_iff_ne.mpr c3
  have c3b1 : ((l0.length : Int) != (l1.length : Int)) = true := bne_iff_ne.mpr c3
  have c3b2 : (l0.length == l1.length) = false := by first | simpa using c3 | (simp at c3 ⊢; omega)
  obtain rfl := Option.some.inj H
  go_enter Try.func41, Try.ntmps41
  go_wp2
  repeat (go_quiet (fail); try go_wp2)
  go_ret
  exact ⟨z11_2, z11_5⟩

end Go.Proofs.Ytamaejafddmagaa.PA
