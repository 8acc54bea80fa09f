import Derived.Test.YtfgpffocieegdaaPAx0
import Derived.Test.YtfgpffocieegdaaPAx11
import Derived.Test.YtfgpffocieegdaaPAx14
import Derived.Test.YtfgpffocieegdaaPAx15
import Derived.Test.YtfgpffocieegdaaGw
import Derived.Test.YtfgpffocieegdaaGm
import Derived.Test.YtfgpffocieegdaaGc
namespace Go.Proofs.Ytfgpffocieegdaa.PA
open Go.RowKit Go.Proofs.YtfgpffocieegdaaW.PrintWords Go.Proofs.YtfgpffocieegdaaW.PrintLast Go.Proofs.YtfgpffocieegdaaW.PrintMore
attribute [local go_sem] max2_int min2_int max_two min_two max_three min_three max_four min_four   -- for this text's walks alone
set_option linter.unusedVariables false
set_option linter.unusedSimpArgs false

/-! ### spec_l11Plan: function 53 -/
theorem zL16 {p q : Prop} (h : q) (t : q → p := by intro h_; (with_reducible repeat first|refine blk_drewN ?_ _|refine blk_drew ?_|refine blk_alloc ?_ _); exact h_) : p := t h
theorem z16_1 {p : Prop} (h : p := by repeat (first | (with_reducible first | exact HB.out | apply below_alloc | apply pw_below_drewN | apply below_drew1 | refine below_set ?_ GE480.out) | exact HB.out)) : p := h
theorem z16_2 {p : Prop} (h : p := by (with_reducible repeat (first | apply Kd.N_alloc | apply Kd.N_drewN | apply Kd.N_drew)); exact HO_8.out) : p := h
theorem z16_3 {p : Prop} (h : p := by (with_reducible repeat (first | apply Kd.R_alloc | apply Kd.R_drewN | apply Kd.R_drew)); exact HO493.out) : p := h
theorem z16_4 {p : Prop} (h : p := by (try simp only [List.map_toArray, List.map_cons, List.map_nil]); first | done | rfl | (simp only [List.length_drop, List.length_take]; rfl)) : p := h
theorem z16_5 {p : Prop} (h : p := by first | exact Kd.R_nil _ _ _ _ _ | exact Kd.N_nil _ _ _ _ _ | exact Kd.V_nil _ _ _ _ _ | exact Kd.Q_nil _ _ _ _ _ | exact Kd.S_nil _ _ _ _ _) : p := h
theorem z16_6 {p : Prop} (h : p := by repeat (first | (with_reducible first | exact HB.out | apply below_alloc | apply pw_below_drewN | apply below_drew1) | exact HB.out)) : p := h
theorem z16_7 {p : Prop} (h : p := by (with_reducible repeat (first | apply Kd.V_alloc | apply Kd.V_drewN | apply Kd.V_drew)); exact HO496.out) : p := h
theorem z16_8 {p : Prop} (h : p := by (with_reducible repeat (first | apply Kd.R_alloc | apply Kd.R_drewN | apply Kd.R_drew)); exact HO500.out) : p := h
theorem z16_9 {p : Prop} (h : p := by first | rfl | (simp [errW_none, errW_some] <;> rfl) | (simp [*, errW_none, errW_some] <;> rfl)) : p := h
def spec_l11Plan.l0 : Nat → Int → Int → List Int → List (List Int) → Int → Option (Int × List Int × List Int × Bool)
  | 0, _, _, _, _, _ => none
  | k + 1, x0, x1, x2, x8, x9 => if x9 < (x2.length : Int) then (if 0 ≤ x9 then ((spec_l4Row.f x0 (rd x2 x9)).bind fun t485 => (if x8.length < 5864062014805 then (spec_l11Plan.l0 k x0 x1 x2 (x8 ++ [t485]) (wrap64 (x9 + 1))) else (none))) else (none)) else ((spec_l3First.f k x8).bind fun t491 => (if (t491.length : Int) < (x8.length : Int) then (some (0, ([] : List Int), ([] : List Int), false)) else ((spec_l4Row.f x0 x1).bind fun t494 => ((spec_l3By.f k x8 t494).bind fun bt497 => (if bt497.2 = true then ((some (([] : List Int) : List Int)).bind fun y501 => (if y501.length + x2.length < 17592186044416 then (some (x1, (y501 ++ x2), bt497.1, true)) else (none))) else (some (0, ([] : List Int), ([] : List Int), false)))))))
def spec_l11Plan.f (k : Nat) (a0 : Int) (a1 : Int) (l2 : List Int) : Option (Int × List Int × List Int × Bool) := spec_l11Plan.l0 k a0 a1 l2 (([] : List (List Int))) 0
set_option maxHeartbeats 8000000 in
set_option maxRecDepth 100000 in
theorem spec_l11Plan.calls (k : Nat) (a0 : Int) (a1 : Int) (A2 : Option Addr) (c2 : Nat) (l2 : List Int) (r1 : Int) (r2 : List Int) (r3 : List Int) (r4 : Bool) (w : World) (hr2 : Kd.C (Kd.int .i64) w A2 l2.length l2) (hc2 : l2.length ≤ c2) (h : spec_l11Plan.f k a0 a1 l2 = some (r1, r2, r3, r4)) :
  Calls Try.prog 53 #[.int .i64 a0, .int .i64 a1, .slice A2 l2.length c2] w fun e w' => ∃ v1_ v2_ : Value, e = .returned (.tuple #[.agg #[.int .i64 r1, v1_, v2_], .bool r4]) ∧ Kd.R (Kd.int .i64) 3 w' w.heap.size (fun k_ => some k_ ≠ (v2_ : Value).ownBlock) v1_ r2 ∧ Kd.R (Kd.int .i64) 3 w' w.heap.size (fun k_ => some k_ ≠ (v1_ : Value).ownBlock) v2_ r3 ∧ Below w.heap.size w w' := by
 have hu30 := Try.underlying30
 have HR2 := Aside0.mk hr2
 have HC2 := Aside0.mk hc2
 clear hr2 hc2
 have HB := Aside0.mk (Below.refl w.heap.size w)
 have H : (spec_l11Plan.l0 k a0 a1 l2 (([] : List (List Int))) 0) = some (r1, r2, r3, r4) := h
 clear h
 obtain ⟨y481, hy481⟩ : ∃ y_ : List (List Int), y_ = (([] : List (List Int))) := ⟨_, rfl⟩
 replace H : (spec_l11Plan.l0 k a0 a1 l2 y481 0) = some (r1, r2, r3, r4) := by first | (rw [hy481]; with_reducible exact H) | (have H2_ := (Option.bind_some _ _).symm.trans H; rw [hy481]; with_reducible exact H2_) | (have H2_ := (Option.bind_some _ _).symm.trans H; with_reducible exact H2_) | with_reducible exact H | (rw [hy481]; exact H) | exact H
 have Ny481 := Aside0.mk hy481
 clear hy481
 have H' := Aside0.mk H
 clear H
 go_enter Try.func53, Try.ntmps53
 go_wp2_with (first | ((with_reducible refine gate_dst (N := 6) rfl ?_); refine box_event ?hg (N := 6) ?hd (cs := #[.int .i64 0, .slice none 0 0, .slice none 0 0]) (t := 30) ?hr ?_; (case hd => rfl); (case hg => rfl); (case hr => first | (go_simp; done) | (go_simp; rfl)); intro gb480 hg w4 hbox hb; have BK480 := Aside0.mk (hbox); have GW480 := Aside0.mk ((by rw [hg]; exact (below_size z16_6) : w.heap.size ≤ gb480)); have GE480 := Aside0.mk ((by rw [hg]; exact (below_size z16_6) : w.heap.size ≤ gb480)); replace HB := Aside0.mk (below_step z16_6 hb); clear hb hbox hg) | ((with_reducible refine gate_dst (N := 12) rfl ?_); refine Kd.N_lit (Kd.slice 3 (Kd.int .i64)) _ 28 ?hg (N' := 12) ?hd (xs := ([] : List (List Int))) (inner := []) (ok := (fun k_ => k_ ≠ gb480)) (okp := (fun k_ => k_ ≠ gb480)) ?hr ?hp (fun _ hk => hk) ((show ∀ k_, w4.heap.size ≤ k_ → (fun k_ => k_ ≠ gb480) k_ from fun k_ hk => Kd.freshB (g := gb480) (o := .cells #[.int .i64 0, .slice none 0 0, .slice none 0 0] 30 (0, 0)) (zL16 BK480.out) k_ hk) _ (Nat.le_refl _)) (Below.refl _ _) (Nat.le_refl _) (by simp) ?_; (case hd => rfl); (case hg => rfl); (case hr => first | (go_simp; done) | (go_simp; rfl)); (case hp => exact (Reps.none _ _)); intro v482 w5 ho6 hb hg_ hnew_; clear hg_ hnew_; (first | rw [← Ny481.out] at ho6 | (simp only [Int.reduceToNat] at ho6; rw [← Ny481.out] at ho6)); have HO483 := Aside0.mk (Kd.N_lower ho6 (below_size z16_1)); replace BK480 := Aside0.mk (blk_below (g := gb480) (o := .cells #[.int .i64 0, .slice none 0 0, .slice none 0 0] 30 (0, 0)) (zL16 BK480.out) hb); replace HB := Aside0.mk (below_step z16_1 hb); clear hb ho6))
 go_loopg [8, 9] k (fun kq v8 v9 w' => ∃ (x8_1 : List (List Int)) (x9_1 : Int), v9 = .int .i64 x9_1 ∧ Aside0 (spec_l11Plan.l0 kq a0 a1 l2 x8_1 x9_1 = some (r1, r2, r3, r4)) ∧ Aside0 (kq ≤ k) ∧ Aside0 (Kd.N (Kd.slice 3 (Kd.int .i64)) 28 w' w.heap.size (fun k_ => k_ ≠ gb480) v8 x8_1) ∧ Aside0 (w'.heap[gb480]? = some (.cells #[.int .i64 0, (.slice none 0 0), (.slice none 0 0)] 30 (0, 0))) ∧ Aside0 (Below w.heap.size w w'))
 case atStart => exact ⟨(y481), (0), (by first | rfl | (simp; done) | (simp [*]; done)), H', ⟨Nat.le_refl _⟩, ⟨by (with_reducible repeat (first | apply Kd.N_alloc | apply Kd.N_drewN | apply Kd.N_drew)); exact HO483.out⟩, ⟨zL16 BK480.out⟩, ⟨z16_1⟩⟩
 case round =>
  clear H'
  try clear c2
  obtain ⟨x8_1, x9_1, rfl, HA, HK1, HO_8, BK480, HB⟩ := hrel
  cases gk with
  | zero => exact absurd HA.out (by simp [spec_l11Plan.l0])
  | succ k1 =>
   have H := HA.out
   clear HA
   simp only [spec_l11Plan.l0] at H
   by_cases c7 : x9_1 < (l2.length : Int)
   ·rw [if_pos c7] at H
    have c7b0 : decide (x9_1 < (l2.length : Int)) = true := decide_eq_true c7
    clear c7
    obtain ⟨c8, H⟩ := ifP H
    have c8b0 : decide (0 ≤ x9_1) = true := decide_eq_true c8
    clear c8
    replace H := Option.bind_eq_some_iff.mp H
    obtain ⟨t485, A90, H⟩ := H
    replace H : (if x8_1.length < 5864062014805 then (spec_l11Plan.l0 k1 a0 a1 l2 (x8_1 ++ [t485]) (wrap64 (x9_1 + 1))) else (none)) = some (r1, r2, r3, r4) := H
    have A9 := Aside0.mk A90
    clear A90
    obtain ⟨c10, H⟩ := ifP H
    have LMc10 := Aside0.mk c10
    clear c10
    obtain ⟨y488, hy488⟩ : ∃ y_ : List (List Int), y_ = (x8_1 ++ [t485]) := ⟨_, rfl⟩
    replace H : (spec_l11Plan.l0 k1 a0 a1 l2 y488 (wrap64 (x9_1 + 1))) = some (r1, r2, r3, r4) := by first | (rw [hy488]; with_reducible exact H) | (have H2_ := (Option.bind_some _ _).symm.trans H; rw [hy488]; with_reducible exact H2_) | (have H2_ := (Option.bind_some _ _).symm.trans H; with_reducible exact H2_) | with_reducible exact H | (rw [hy488]; exact H) | exact H
    have Ny488 := Aside0.mk hy488
    clear hy488
    have H' := Aside0.mk H
    clear H
    have p484 : 0 ≤ (x9_1 : Int) := of_decide_eq_true (by first | (with_reducible assumption) | assumption)
    have q484 : x9_1 < (l2.length : Int) := of_decide_eq_true (by first | (with_reducible assumption) | assumption)
    obtain ⟨ad484, e484, hx484_0⟩ := Kd.at_int HR2.out x9_1 p484 q484
    cases e484
    replace hx484_0 := (HB.out.cell (World.block_lt_of_cell? w _ hx484_0)).trans hx484_0
    replace p484 := eq_true p484
    replace q484 := eq_true q484
    go_wp2_with (first | ((with_reducible refine gate_callee (f := 58) rfl ?_); refine goesL_ (some 25) rfl rfl Try.func58 (by kernel_rfl) rfl #[.int .i64 a0, .int .i64 (rd l2 x9_1)] rfl z16_4 ?_; (with_reducible refine (spec_l4Row.calls a0 (rd l2 x9_1) t485 _ A9.out).mono ?_); rintro e w11 ⟨v486, rfl, ho0, hb⟩; refine ⟨_, rfl, ?_⟩; have HO487 := Aside0.mk (Kd.V_lower (Kd.V_mono (ok' := fun k_ => some k_ ≠ (u8 : Value).ownBlock ∧ k_ ≠ gb480) ho0 (fun k_ hk_ => ⟨(Kd.fresh' (Kd.N_lt z16_2) k_ hk_), (Kd.freshB (g := gb480) (o := .cells #[.int .i64 0, .slice none 0 0, .slice none 0 0] 30 (0, 0)) (zL16 BK480.out) k_ hk_)⟩)) (below_size z16_1)); replace HO_8 := Aside0.mk (Kd.N_below z16_2 hb); replace BK480 := Aside0.mk (blk_below (g := gb480) (o := .cells #[.int .i64 0, .slice none 0 0, .slice none 0 0] 30 (0, 0)) (zL16 BK480.out) hb); replace HB := Aside0.mk (below_step z16_1 hb); (try clear hb); (try clear ho0); obtain ⟨Ao13, co13, eo13⟩ := Kd.V_slice HO487.out; subst eo13) | ((with_reducible refine gate_builtin (b := .append) (xs := #[.tmp 19, .tmp 26]) rfl ?_); at_builtin; refine Kd.N_append (Kd.slice 3 (Kd.int .i64)) (w0 := w) w.heap.size rfl (.tmp 19) (.tmp 26) 85 28 (.slice none 0 0) 24 rfl Try.underlying85 info28 rfl (by decide) (by omega) u8 x8_1 t485 [.slice Ao13 t485.length co13] (fun k_ => k_ ≠ gb480) (fun k_ => ((fun k_ => k_ ≠ gb480)) k_ ∧ some k_ ≠ (u8 : Value).ownBlock) rfl rfl ?aP (fun _ hk => hk) ?aF ?aO ?aB ?aS ?aL ?_; (case aP => exact (Kd.FK_slice_mk (Kd.V_reads' (Kd.V_mono (ok' := (fun k_ => ((fun k_ => k_ ≠ gb480)) k_ ∧ some k_ ≠ (u8 : Value).ownBlock)) (HO487.out) (fun k_ hk => ⟨hk.2, hk.1⟩))).2.1 (Kd.V_F (Kd.V_mono (ok' := (fun k_ => ((fun k_ => k_ ≠ gb480)) k_ ∧ some k_ ≠ (u8 : Value).ownBlock)) (HO487.out) (fun k_ hk => ⟨hk.2, hk.1⟩))))); (case aB => exact z16_1); (case aF => exact (fun k_ hk => Kd.freshB (g := gb480) (o := .cells #[.int .i64 0, .slice none 0 0, .slice none 0 0] 30 (0, 0)) (zL16 BK480.out) k_ hk)); (case aO => exact z16_2); (case aS => exact (below_size z16_1)); (case aL => have := LMc10.out; omega); intro v489 w12 ho hb hg hat; rw [← Ny488.out] at ho; have n0_ := Aside0.mk (blk_grown (g := gb480) (o := .cells #[.int .i64 0, .slice none 0 0, .slice none 0 0] 30 (0, 0)) (zL16 BK480.out) hg (Kd.N_ne HO_8.out BK480.out (by decide))); have n1_ := Aside0.mk (Kd.V_afterv (ok := (fun k_ => k_ ≠ gb480)) (by (with_reducible repeat (first | apply Kd.V_alloc | apply Kd.V_drewN | apply Kd.V_drew)); exact Kd.V_mono HO487.out (fun _ hk => ⟨hk.2, hk.1⟩)) hg hat); have n2_ := Aside0.mk (hb); have n3_ := Aside0.mk (ho); clear BK480; clear HO487; clear HB; clear HO_8; have BK480 := n0_; have HO487 := n1_; have HB := n2_; have HO490 := n3_; clear n0_ n1_ n2_ n3_; clear ho hb hg hat))
    go_roundg k1
    case measure => have := HK1.out; omega
    case rel => exact ⟨(y488), (wrap64 (x9_1 + 1)), (by first | rfl | (simp; done) | (simp [*]; done)), H', ⟨by have := HK1.out; omega⟩, ⟨by (with_reducible repeat (first | apply Kd.N_alloc | apply Kd.N_drewN | apply Kd.N_drew)); exact HO490.out⟩, ⟨zL16 BK480.out⟩, ⟨z16_1⟩⟩
   ·rw [if_neg c7] at H
    have c7b0 : decide (x9_1 < (l2.length : Int)) = false := decide_eq_false c7
    clear c7
    replace H := Option.bind_eq_some_iff.mp H
    obtain ⟨t491, A140, H⟩ := H
    replace H : (if (t491.length : Int) < (x8_1.length : Int) then (some (0, ([] : List Int), ([] : List Int), false)) else ((spec_l4Row.f a0 a1).bind fun t494 => ((spec_l3By.f k1 x8_1 t494).bind fun bt497 => (if bt497.2 = true then ((some (([] : List Int) : List Int)).bind fun y501 => (if y501.length + l2.length < 17592186044416 then (some (a1, (y501 ++ l2), bt497.1, true)) else (none))) else (some (0, ([] : List Int), ([] : List Int), false)))))) = some (r1, r2, r3, r4) := H
    have A14 := Aside0.mk A140
    clear A140
    by_cases c15 : (t491.length : Int) < (x8_1.length : Int)
    ·rw [if_pos c15] at H
     have c15b0 : decide ((t491.length : Int) < (x8_1.length : Int)) = true := decide_eq_true c15
     have c15b1 : decide (t491.length < x8_1.length) = true := decide_eq_true (Int.ofNat_lt.mp c15)
     clear c15
     simp only [Option.some.injEq, Prod.mk.injEq] at H
     obtain ⟨rfl, rfl, rfl, rfl⟩ := H
     obtain ⟨Ao16, co16, eo16⟩ := Kd.N_slice HO_8.out
     subst eo16
     go_wp2_with (first | ((with_reducible refine gate_callee (f := 59) rfl ?_); refine goesL_ (some 29) rfl rfl Try.func59 (by kernel_rfl) rfl #[.slice Ao16 x8_1.length co16] rfl z16_4 ?_; (with_reducible refine (spec_l3First.calls k1 _ _ x8_1 t491 _ ?side1 ?side2 A14.out).mono ?_); (case side1 => exact cZ ((Kd.N_reads' HO_8.out).2.2)); (case side2 => exact (Kd.N_reads' HO_8.out).2.1); rintro e w17 ⟨v492, rfl, ho0, hb⟩; refine ⟨_, rfl, ?_⟩; replace HO_8 := Aside0.mk (Kd.N_elder' z16_2 (Kd.R_base ho0) hb); have HO493 := Aside0.mk (Kd.R_lower ho0 (below_size z16_1)); replace BK480 := Aside0.mk (blk_below (g := gb480) (o := .cells #[.int .i64 0, .slice none 0 0, .slice none 0 0] 30 (0, 0)) (zL16 BK480.out) hb); replace HB := Aside0.mk (below_step z16_1 hb); (try clear hb); (try clear ho0); obtain ⟨Ao18, co18, eo18⟩ := Kd.R_slice HO493.out; subst eo18; have hcz19_0 : w17.cell? ⟨gb480, 0, none⟩ = some (.int .i64 0) := (blk_cell BK480.out 0).trans rfl; have hfz19_0 := blk_frozen BK480.out 0; have hcz20_1 : w17.cell? ⟨gb480, 1, none⟩ = some (.slice none 0 0) := (blk_cell BK480.out 1).trans rfl; have hfz20_1 := blk_frozen BK480.out 1; have hcz21_2 : w17.cell? ⟨gb480, 2, none⟩ = some (.slice none 0 0) := (blk_cell BK480.out 2).trans rfl; have hfz21_2 := blk_frozen BK480.out 2))
     refine bodyPost_ret (results_ct rfl _ _ gb480 30 #[.int .i64 0, .slice none 0 0, .slice none 0 0] (0, 0) _ rfl (bZ BK480.out) Try.underlying30 rfl (by kernel_rfl)) rfl ?_
     exact ⟨_, _, z16_9, z16_5, z16_5, z16_1⟩
    ·rw [if_neg c15] at H
     have c15b0 : decide ((t491.length : Int) < (x8_1.length : Int)) = false := decide_eq_false c15
     have c15b1 : decide (t491.length < x8_1.length) = false := decide_eq_false (fun h => c15 (Int.ofNat_lt.mpr h))
     clear c15
     replace H := Option.bind_eq_some_iff.mp H
     obtain ⟨t494, A220, H⟩ := H
     replace H : ((spec_l3By.f k1 x8_1 t494).bind fun bt497 => (if bt497.2 = true then ((some (([] : List Int) : List Int)).bind fun y501 => (if y501.length + l2.length < 17592186044416 then (some (a1, (y501 ++ l2), bt497.1, true)) else (none))) else (some (0, ([] : List Int), ([] : List Int), false)))) = some (r1, r2, r3, r4) := H
     have A22 := Aside0.mk A220
     clear A220
     replace H := Option.bind_eq_some_iff.mp H
     obtain ⟨⟨t497, t498⟩, A230, H⟩ := H
     replace H : (if t498 = true then ((some (([] : List Int) : List Int)).bind fun y501 => (if y501.length + l2.length < 17592186044416 then (some (a1, (y501 ++ l2), t497, true)) else (none))) else (some (0, ([] : List Int), ([] : List Int), false))) = some (r1, r2, r3, r4) := H
     have A23 := Aside0.mk A230
     clear A230
     by_cases c24 : t498 = true
     ·subst c24
      have H1 : ((some (([] : List Int) : List Int)).bind fun y501 => (if y501.length + l2.length < 17592186044416 then (some (a1, (y501 ++ l2), t497, true)) else (none))) = some (r1, r2, r3, r4) := by rw [if_pos rfl] at H; exact H
      clear H
      have H := H1
      clear H1
      obtain ⟨y501, hy501⟩ : ∃ y_ : List Int, y_ = (([] : List Int)) := ⟨_, rfl⟩
      replace H : (if y501.length + l2.length < 17592186044416 then (some (a1, (y501 ++ l2), t497, true)) else (none)) = some (r1, r2, r3, r4) := by first | (rw [hy501]; with_reducible exact H) | (have H2_ := (Option.bind_some _ _).symm.trans H; rw [hy501]; with_reducible exact H2_) | (have H2_ := (Option.bind_some _ _).symm.trans H; with_reducible exact H2_) | with_reducible exact H | (rw [hy501]; exact H) | exact H
      have Ny501 := Aside0.mk hy501
      clear hy501
      obtain ⟨c25, H⟩ := ifP H
      have LMc25 := Aside0.mk c25
      clear c25
      obtain ⟨y504, hy504⟩ : ∃ y_ : List Int, y_ = (y501 ++ l2) := ⟨_, rfl⟩
      replace H : (some (a1, y504, t497, true)) = some (r1, r2, r3, r4) := by first | (rw [hy504]; with_reducible exact H) | (have H2_ := (Option.bind_some _ _).symm.trans H; rw [hy504]; with_reducible exact H2_) | (have H2_ := (Option.bind_some _ _).symm.trans H; with_reducible exact H2_) | with_reducible exact H | (rw [hy504]; exact H) | exact H
      have Ny504 := Aside0.mk hy504
      clear hy504
      simp only [Option.some.injEq, Prod.mk.injEq] at H
      obtain ⟨rfl, rfl, rfl, rfl⟩ := H
      obtain ⟨Ao26, co26, eo26⟩ := Kd.N_slice HO_8.out
      subst eo26
      go_wp2_with (first | ((with_reducible refine gate_callee (f := 59) rfl ?_); refine goesL_ (some 29) rfl rfl Try.func59 (by kernel_rfl) rfl #[.slice Ao26 x8_1.length co26] rfl z16_4 ?_; (with_reducible refine (spec_l3First.calls k1 _ _ x8_1 t491 _ ?side1 ?side2 A14.out).mono ?_); (case side1 => exact cZ ((Kd.N_reads' HO_8.out).2.2)); (case side2 => exact (Kd.N_reads' HO_8.out).2.1); rintro e w27 ⟨v492, rfl, ho0, hb⟩; refine ⟨_, rfl, ?_⟩; replace HO_8 := Aside0.mk (Kd.N_elder' z16_2 (Kd.R_base ho0) hb); have HO493 := Aside0.mk (Kd.R_lower ho0 (below_size z16_1)); replace BK480 := Aside0.mk (blk_below (g := gb480) (o := .cells #[.int .i64 0, .slice none 0 0, .slice none 0 0] 30 (0, 0)) (zL16 BK480.out) hb); replace HB := Aside0.mk (below_step z16_1 hb); (try clear hb); (try clear ho0); obtain ⟨Ao28, co28, eo28⟩ := Kd.R_slice HO493.out; subst eo28) | ((with_reducible refine gate_callee (f := 58) rfl ?_); refine goesL_ (some 39) rfl rfl Try.func58 (by kernel_rfl) rfl #[.int .i64 a0, .int .i64 a1] rfl z16_4 ?_; (with_reducible refine (spec_l4Row.calls a0 a1 t494 _ A22.out).mono ?_); rintro e w29 ⟨v495, rfl, ho0, hb⟩; refine ⟨_, rfl, ?_⟩; have HO496 := Aside0.mk (Kd.V_lower (Kd.V_mono (ok' := fun k_ => some k_ ≠ (.slice Ao26 x8_1.length co26 : Value).ownBlock ∧ some k_ ≠ (.slice Ao28 t491.length co28 : Value).ownBlock ∧ k_ ≠ gb480) ho0 (fun k_ hk_ => ⟨(Kd.fresh' (Kd.N_lt z16_2) k_ hk_), (Kd.fresh' (Kd.R_lt z16_3) k_ hk_), (Kd.freshB (g := gb480) (o := .cells #[.int .i64 0, .slice none 0 0, .slice none 0 0] 30 (0, 0)) (zL16 BK480.out) k_ hk_)⟩)) (below_size z16_1)); replace HO_8 := Aside0.mk (Kd.N_below z16_2 hb); replace HO493 := Aside0.mk (Kd.R_below z16_3 hb); replace BK480 := Aside0.mk (blk_below (g := gb480) (o := .cells #[.int .i64 0, .slice none 0 0, .slice none 0 0] 30 (0, 0)) (zL16 BK480.out) hb); replace HB := Aside0.mk (below_step z16_1 hb); (try clear hb); (try clear ho0); obtain ⟨Ao30, co30, eo30⟩ := Kd.V_slice HO496.out; subst eo30) | ((with_reducible refine gate_callee (f := 60) rfl ?_); refine goesL_ (some 40) rfl rfl Try.func60 (by kernel_rfl) rfl #[.slice Ao26 x8_1.length co26, .slice Ao30 t494.length co30] rfl z16_4 ?_; (with_reducible refine (spec_l3By.calls k1 _ _ x8_1 _ _ t494 t497 true _ ?side1 ?side2 ?side3 ?side4 A23.out).mono ?_); (case side1 => exact cZ ((Kd.N_reads' HO_8.out).2.2)); (case side2 => exact (Kd.N_reads' HO_8.out).2.1); (case side3 => exact cZ ((Kd.V_reads' HO496.out).2.2)); (case side4 => exact (Kd.V_reads' HO496.out).2.1); rintro e w31 ⟨v499, rfl, ho0, hb⟩; refine ⟨_, rfl, ?_⟩; replace HO_8 := Aside0.mk (Kd.N_elder' z16_2 (Kd.R_base ho0) hb); replace HO496 := Aside0.mk (Kd.V_elder' z16_7 (Kd.R_base ho0) hb); have HO500 := Aside0.mk (Kd.R_lower (Kd.R_new' ho0 (Kd.R_lt z16_3)) (below_size z16_1)); replace HO493 := Aside0.mk (Kd.R_elder' z16_3 (Kd.R_base ho0) hb); replace BK480 := Aside0.mk (blk_below (g := gb480) (o := .cells #[.int .i64 0, .slice none 0 0, .slice none 0 0] 30 (0, 0)) (zL16 BK480.out) hb); replace HB := Aside0.mk (below_step z16_1 hb); (try clear hb); (try clear ho0)) | ((with_reducible refine gate_dst (N := 47) rfl ?_); refine Kd.R_lit (Kd.int .i64) _ 3 ?hg (N := 47) ?hd (xs := ([] : List Int)) (inner := []) (ok := fun _ => True) (okp := fun _ => True) ?hr ?hp (fun _ hk => hk) trivial (Below.refl _ _) (Nat.le_refl _) (by simp) ?_; (case hd => rfl); (case hg => rfl); (case hr => first | (go_simp; done) | (go_simp; rfl)); (case hp => exact (Reps.none _ _)); intro v502 w32 ho33 hb hg_ hnew_; clear hg_ hnew_; (first | rw [← Ny501.out] at ho33 | (simp only [Int.reduceToNat] at ho33; rw [← Ny501.out] at ho33)); replace HO_8 := Aside0.mk (Kd.N_elder' z16_2 (Kd.R_base ho33) hb); replace HO496 := Aside0.mk (Kd.V_elder' z16_7 (Kd.R_base ho33) hb); have HO503 := Aside0.mk (Kd.R_lower (Kd.R_new' (Kd.R_new' ho33 (Kd.R_lt z16_3)) (Kd.R_lt z16_8)) (below_size z16_1)); replace HO493 := Aside0.mk (Kd.R_elder' z16_3 (Kd.R_base ho33) hb); replace HO500 := Aside0.mk (Kd.R_elder' z16_8 (Kd.R_base ho33) hb); replace BK480 := Aside0.mk (blk_below (g := gb480) (o := .cells #[.int .i64 0, .slice none 0 0, .slice none 0 0] 30 (0, 0)) (zL16 BK480.out) hb); replace HB := Aside0.mk (below_step z16_1 hb); clear hb ho33) | ((with_reducible refine gate_builtin (b := .append) (xs := #[.tmp 47, .tmp 48]) rfl ?_); at_builtin; refine Kd.R_append_rows (Kd.int .i64) (w0 := w) w.heap.size rfl (.tmp 47) (.tmp 48) 28 3 (.int .i64 0) 8 rfl Try.underlying28 info3 rfl (by decide) (by omega) v502 y501 l2 _ _ _ (fun k_ => some k_ ≠ (.slice Ao28 t491.length co28 : Value).ownBlock ∧ some k_ ≠ (v499 : Value).ownBlock) (fun _ => False) rfl rfl ?aO ?aR (fun _ _ h => h) (fun _ h => h.elim) ?aF ?aB ?aS ?aL ?_; (case aR => repeat (first | exact (Kd.C_below HR2.out HB.out) | (with_reducible refine Kd.C_alloc ?_ _) | (with_reducible refine Kd.C_drewN ?_ _) | (with_reducible refine Kd.C_drew ?_))); (case aB => exact z16_1); (case aF => exact (fun k_ hk => ⟨Kd.fresh' (Kd.R_lt z16_3) k_ hk, Kd.fresh' (Kd.R_lt z16_8) k_ hk⟩)); (case aO => exact (by (with_reducible repeat (first | apply Kd.R_alloc | apply Kd.R_drewN | apply Kd.R_drew)); exact Kd.R_mono HO503.out (fun _ hk => ⟨hk.1.2, hk.2⟩))); (case aS => exact (below_size z16_1)); (case aL => have := LMc25.out; omega); intro v505 w34 ho hb hg hat; rw [← Ny504.out] at ho; have n0_ := Aside0.mk (Kd.N_afterv (ok := (fun k_ => some k_ ≠ (.slice Ao28 t491.length co28 : Value).ownBlock ∧ some k_ ≠ (v499 : Value).ownBlock ∧ k_ ≠ gb480)) (by (with_reducible repeat (first | apply Kd.N_alloc | apply Kd.N_drewN | apply Kd.N_drew)); exact Kd.N_mono HO_8.out (fun _ hk => ⟨⟨hk.1.1.2, ⟨hk.1.2, hk.1.1.1⟩⟩, hk.2⟩)) hg hat); have n1_ := Aside0.mk (blk_grown (g := gb480) (o := .cells #[.int .i64 0, .slice none 0 0, .slice none 0 0] 30 (0, 0)) (zL16 BK480.out) hg (Kd.R_ne HO503.out BK480.out (by decide))); have n2_ := Aside0.mk (Kd.R_after (ok := (fun k_ => some k_ ≠ (v499 : Value).ownBlock)) (by (with_reducible repeat (first | apply Kd.R_alloc | apply Kd.R_drewN | apply Kd.R_drew)); exact Kd.R_mono HO493.out (fun _ hk => ⟨hk.1.2, hk.2⟩)) hg hat); have n3_ := Aside0.mk (Kd.V_afterv (ok := (fun k_ => some k_ ≠ (.slice Ao26 x8_1.length co26 : Value).ownBlock ∧ some k_ ≠ (.slice Ao28 t491.length co28 : Value).ownBlock ∧ some k_ ≠ (v499 : Value).ownBlock ∧ k_ ≠ gb480)) (by (with_reducible repeat (first | apply Kd.V_alloc | apply Kd.V_drewN | apply Kd.V_drew)); exact Kd.V_mono HO496.out (fun _ hk => ⟨⟨hk.1.1.1, ⟨hk.1.1.2.1, ⟨hk.1.2, hk.1.1.2.2⟩⟩⟩, hk.2⟩)) hg hat); have n4_ := Aside0.mk (Kd.R_after (ok := (fun k_ => some k_ ≠ (.slice Ao28 t491.length co28 : Value).ownBlock)) (by (with_reducible repeat (first | apply Kd.R_alloc | apply Kd.R_drewN | apply Kd.R_drew)); exact Kd.R_mono HO500.out (fun _ hk => ⟨hk.1.2, hk.2⟩)) hg hat); have n5_ := Aside0.mk (hb); have n6_ := Aside0.mk (ho); clear HO_8; clear BK480; clear HO493; clear HO496; clear HO500; clear HB; clear HO503; have HO_8 := n0_; have BK480 := n1_; have HO493 := n2_; have HO496 := n3_; have HO500 := n4_; have HB := n5_; have HO506 := n6_; clear n0_ n1_ n2_ n3_ n4_ n5_ n6_; clear ho hb hg hat; obtain ⟨Ao35, co35, eo35⟩ := Kd.R_slice HO500.out; subst eo35; obtain ⟨Ao36, co36, eo36⟩ := Kd.R_slice HO506.out; subst eo36; have hcz37_0 : w34.cell? ⟨gb480, 0, none⟩ = some (.int .i64 0) := (blk_cell BK480.out 0).trans rfl; have hfz37_0 := blk_frozen BK480.out 0; have hcz38_1 : w34.cell? ⟨gb480, 1, none⟩ = some (.slice none 0 0) := (blk_cell BK480.out 1).trans rfl; have hfz38_1 := blk_frozen BK480.out 1; have hcz39_2 : w34.cell? ⟨gb480, 2, none⟩ = some (.slice none 0 0) := (blk_cell BK480.out 2).trans rfl; have hfz39_2 := blk_frozen BK480.out 2))
      refine bodyPost_ret (results_ct rfl _ _ gb480 30 #[.int .i64 a1, .slice Ao36 y504.length co36, .slice Ao35 t497.length co35] (0, 0) _ rfl (bZ BK480.out) Try.underlying30 rfl (by kernel_rfl)) rfl ?_
      exact ⟨_, _, z16_9, by (with_reducible repeat (first | apply Kd.R_alloc | apply Kd.R_drewN | apply Kd.R_drew)); exact Kd.R_mono (Kd.R_far (p := ⟨gb480, 2, none⟩) (Kd.R_far (p := ⟨gb480, 1, none⟩) (Kd.R_far (p := ⟨gb480, 0, none⟩) (Kd.R_types HO506.out BK480.out (by decide)) (fun _ hk => hk.2) (.int .i64 a1)) (fun _ hk => hk.2) (.slice Ao36 y504.length co36)) (fun _ hk => hk.2) (.slice Ao35 t497.length co35)) (fun _ hk => hk.1.2), by (with_reducible repeat (first | apply Kd.R_alloc | apply Kd.R_drewN | apply Kd.R_drew)); exact Kd.R_mono (Kd.R_far (p := ⟨gb480, 2, none⟩) (Kd.R_far (p := ⟨gb480, 1, none⟩) (Kd.R_far (p := ⟨gb480, 0, none⟩) (Kd.R_types HO500.out BK480.out (by decide)) (fun _ hk => hk.2) (.int .i64 a1)) (fun _ hk => hk.2) (.slice Ao36 y504.length co36)) (fun _ hk => hk.2) (.slice Ao35 t497.length co35)) (fun _ hk => hk.1.2), z16_1⟩
     ·replace c24 := Bool.eq_false_iff.mpr c24
      subst c24
      have H1 : (some (0, ([] : List Int), ([] : List Int), false)) = some (r1, r2, r3, r4) := by rw [if_neg (show ¬ (false = true) by decide)] at H; exact H
      clear H
      have H := H1
      clear H1
      simp only [Option.some.injEq, Prod.mk.injEq] at H
      obtain ⟨rfl, rfl, rfl, rfl⟩ := H
      obtain ⟨Ao40, co40, eo40⟩ := Kd.N_slice HO_8.out
      subst eo40
      go_wp2_with (first | ((with_reducible refine gate_callee (f := 59) rfl ?_); refine goesL_ (some 29) rfl rfl Try.func59 (by kernel_rfl) rfl #[.slice Ao40 x8_1.length co40] rfl z16_4 ?_; (with_reducible refine (spec_l3First.calls k1 _ _ x8_1 t491 _ ?side1 ?side2 A14.out).mono ?_); (case side1 => exact cZ ((Kd.N_reads' HO_8.out).2.2)); (case side2 => exact (Kd.N_reads' HO_8.out).2.1); rintro e w41 ⟨v492, rfl, ho0, hb⟩; refine ⟨_, rfl, ?_⟩; replace HO_8 := Aside0.mk (Kd.N_elder' z16_2 (Kd.R_base ho0) hb); have HO493 := Aside0.mk (Kd.R_lower ho0 (below_size z16_1)); replace BK480 := Aside0.mk (blk_below (g := gb480) (o := .cells #[.int .i64 0, .slice none 0 0, .slice none 0 0] 30 (0, 0)) (zL16 BK480.out) hb); replace HB := Aside0.mk (below_step z16_1 hb); (try clear hb); (try clear ho0); obtain ⟨Ao42, co42, eo42⟩ := Kd.R_slice HO493.out; subst eo42) | ((with_reducible refine gate_callee (f := 58) rfl ?_); refine goesL_ (some 39) rfl rfl Try.func58 (by kernel_rfl) rfl #[.int .i64 a0, .int .i64 a1] rfl z16_4 ?_; (with_reducible refine (spec_l4Row.calls a0 a1 t494 _ A22.out).mono ?_); rintro e w43 ⟨v495, rfl, ho0, hb⟩; refine ⟨_, rfl, ?_⟩; have HO496 := Aside0.mk (Kd.V_lower (Kd.V_mono (ok' := fun k_ => some k_ ≠ (.slice Ao40 x8_1.length co40 : Value).ownBlock ∧ some k_ ≠ (.slice Ao42 t491.length co42 : Value).ownBlock ∧ k_ ≠ gb480) ho0 (fun k_ hk_ => ⟨(Kd.fresh' (Kd.N_lt z16_2) k_ hk_), (Kd.fresh' (Kd.R_lt z16_3) k_ hk_), (Kd.freshB (g := gb480) (o := .cells #[.int .i64 0, .slice none 0 0, .slice none 0 0] 30 (0, 0)) (zL16 BK480.out) k_ hk_)⟩)) (below_size z16_1)); replace HO_8 := Aside0.mk (Kd.N_below z16_2 hb); replace HO493 := Aside0.mk (Kd.R_below z16_3 hb); replace BK480 := Aside0.mk (blk_below (g := gb480) (o := .cells #[.int .i64 0, .slice none 0 0, .slice none 0 0] 30 (0, 0)) (zL16 BK480.out) hb); replace HB := Aside0.mk (below_step z16_1 hb); (try clear hb); (try clear ho0); obtain ⟨Ao44, co44, eo44⟩ := Kd.V_slice HO496.out; subst eo44) | ((with_reducible refine gate_callee (f := 60) rfl ?_); refine goesL_ (some 40) rfl rfl Try.func60 (by kernel_rfl) rfl #[.slice Ao40 x8_1.length co40, .slice Ao44 t494.length co44] rfl z16_4 ?_; (with_reducible refine (spec_l3By.calls k1 _ _ x8_1 _ _ t494 t497 false _ ?side1 ?side2 ?side3 ?side4 A23.out).mono ?_); (case side1 => exact cZ ((Kd.N_reads' HO_8.out).2.2)); (case side2 => exact (Kd.N_reads' HO_8.out).2.1); (case side3 => exact cZ ((Kd.V_reads' HO496.out).2.2)); (case side4 => exact (Kd.V_reads' HO496.out).2.1); rintro e w45 ⟨v499, rfl, ho0, hb⟩; refine ⟨_, rfl, ?_⟩; replace HO_8 := Aside0.mk (Kd.N_elder' z16_2 (Kd.R_base ho0) hb); replace HO496 := Aside0.mk (Kd.V_elder' z16_7 (Kd.R_base ho0) hb); have HO500 := Aside0.mk (Kd.R_lower (Kd.R_new' ho0 (Kd.R_lt z16_3)) (below_size z16_1)); replace HO493 := Aside0.mk (Kd.R_elder' z16_3 (Kd.R_base ho0) hb); replace BK480 := Aside0.mk (blk_below (g := gb480) (o := .cells #[.int .i64 0, .slice none 0 0, .slice none 0 0] 30 (0, 0)) (zL16 BK480.out) hb); replace HB := Aside0.mk (below_step z16_1 hb); (try clear hb); (try clear ho0); have hcz46_0 : w45.cell? ⟨gb480, 0, none⟩ = some (.int .i64 0) := (blk_cell BK480.out 0).trans rfl; have hfz46_0 := blk_frozen BK480.out 0; have hcz47_1 : w45.cell? ⟨gb480, 1, none⟩ = some (.slice none 0 0) := (blk_cell BK480.out 1).trans rfl; have hfz47_1 := blk_frozen BK480.out 1; have hcz48_2 : w45.cell? ⟨gb480, 2, none⟩ = some (.slice none 0 0) := (blk_cell BK480.out 2).trans rfl; have hfz48_2 := blk_frozen BK480.out 2))
      refine bodyPost_ret (results_ct rfl _ _ gb480 30 #[.int .i64 0, .slice none 0 0, .slice none 0 0] (0, 0) _ rfl (bZ BK480.out) Try.underlying30 rfl (by kernel_rfl)) rfl ?_
      exact ⟨_, _, z16_9, z16_5, z16_5, z16_1⟩

end Go.Proofs.Ytfgpffocieegdaa.PA
