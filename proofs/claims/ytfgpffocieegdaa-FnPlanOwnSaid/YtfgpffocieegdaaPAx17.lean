import Derived.Test.YtfgpffocieegdaaPAx0
import Derived.Test.YtfgpffocieegdaaPAx16
import Derived.Test.YtfgpffocieegdaaGw
import Derived.Test.YtfgpffocieegdaaGm
import Derived.Test.YtfgpffocieegdaaGc
namespace Go.Proofs.Ytfgpffocieegdaa.PA
open Go.RowKit Go.Proofs.YtfgpffocieegdaaW.PrintWords Go.Proofs.YtfgpffocieegdaaW.PrintLast Go.Proofs.YtfgpffocieegdaaW.PrintMore
attribute [local go_sem] max2_int min2_int max_two min_two max_three min_three max_four min_four   -- for this text's walks alone
set_option linter.unusedVariables false
set_option linter.unusedSimpArgs false

/-! ### spec_l11Search: function 42 -/
theorem zL17 {p q : Prop} (h : q) (t : q → p := by intro h_; (with_reducible repeat first|refine blk_drewN ?_ _|refine blk_drew ?_|refine blk_alloc ?_ _); exact h_) : p := t h
theorem z17_1 {p : Prop} (h : p := by repeat (first | (with_reducible first | exact HB.out | apply below_alloc | apply pw_below_drewN | apply below_drew1 | refine below_set ?_ GE507.out) | exact HB.out)) : p := h
theorem z17_2 {p : Prop} (h : p := by (with_reducible repeat (first | apply Kd.R_alloc | apply Kd.R_drewN | apply Kd.R_drew)); exact HO525.out) : p := h
theorem z17_3 {p : Prop} (h : p := by repeat (first | (with_reducible first | exact HB.out | apply below_alloc | apply pw_below_drewN | apply below_drew1) | exact HB.out)) : p := h
theorem z17_4 {p : Prop} (h : p := by repeat (first | (with_reducible first | exact HB.out | apply below_alloc | apply pw_below_drewN | apply below_drew1 | refine below_set ?_ GE507.out | refine below_set ?_ GE534.out) | exact HB.out)) : p := h
theorem z17_5 {p : Prop} (h : p := by (try simp only [List.map_toArray, List.map_cons, List.map_nil]); first | done | rfl | (simp only [List.length_drop, List.length_take]; rfl)) : p := h
theorem z17_6 {p : Prop} (h : p := by first | rfl | (simp; done) | (simp [*]; done)) : p := h
theorem z17_7 {p : Prop} (h : p := by first | rfl | (simp [errW_none, errW_some] <;> rfl) | (simp [*, errW_none, errW_some] <;> rfl)) : p := h
theorem z17_8 {p : Prop} (h : p := by first | (with_reducible assumption) | assumption) : p := h
theorem z17_9 {p : Prop} (h : p := by first | exact Kd.R_nil _ _ _ _ _ | exact Kd.N_nil _ _ _ _ _ | exact Kd.V_nil _ _ _ _ _ | exact Kd.Q_nil _ _ _ _ _ | exact Kd.S_nil _ _ _ _ _) : p := h
theorem z17_10 {p : Prop} (h : p := by have := HK1.out; have := HJ17.out; omega) : p := h
mutual
def spec_l11Search.l0 : Nat → Int → Int → List Bool → List Int → Int → Int → Option (Int × List Int × List Int × Bool)
  | 0, _, _, _, _, _, _ => none
  | k + 1, x0, x1, x2, x3, x5, x14 => if x14 < 8 then (if 0 ≤ x14 then (if x14 < (x2.length : Int) then (if rdOf false x2 x14 = true then (spec_l11Search.j1 k x0 x1 x2 x3 x5 x14 (x14 == x1)) else (spec_l11Search.j1 k x0 x1 x2 x3 x5 x14 true)) else (none)) else (none)) else (some (0, ([] : List Int), ([] : List Int), false))
def spec_l11Search.j1 : Nat → Int → Int → List Bool → List Int → Int → Int → Bool → Option (Int × List Int × List Int × Bool)
  | 0, _, _, _, _, _, _, _ => none
  | k + 1, x0, x1, x2, x3, x5, x14, x39 => if x39 = true then (spec_l11Search.l0 k x0 x1 x2 x3 x5 (wrap64 (x14 + 1))) else ((some (([] : List Int) : List Int)).bind fun y517 => (if y517.length + x3.length < 17592186044416 then ((some (y517 ++ x3 : List Int)).bind fun y520 => (if y520.length < 17592186044416 then ((spec_l11Search.f k x0 x1 x2 (y520 ++ [x14]) (wrap64 (x14 + 1)) (wrap64 (x5 - 1))).bind fun bt526 => (if bt526.2.2.2 = true then (some (bt526.1, bt526.2.1, bt526.2.2.1, true)) else (spec_l11Search.l0 k x0 x1 x2 x3 x5 (wrap64 (x14 + 1))))) else (none))) else (none)))
def spec_l11Search.f : Nat → Int → Int → List Bool → List Int → Int → Int → Option (Int × List Int × List Int × Bool)
  | 0, _, _, _, _, _, _ => none
  | k + 1, a0, a1, l2, l3, a4, a5 => if a5 = 0 then ((spec_l11Plan.f k a0 a1 l3).bind fun bt508 => (some (bt508.1, bt508.2.1, bt508.2.2.1, bt508.2.2.2))) else (spec_l11Search.l0 k a0 a1 l2 l3 a5 a4)
end
theorem bA17 {W : World} {g : Nat} {cs : Array Value} {ty : TypeId} {j : Nat} {v : Value} (h : Aside0 (W.heap[g]? = some (.cells cs ty (0, 0)))) (e : cs[j]? = some v) : W.cell? ⟨g, j, none⟩ = some v := (blk_cell h.out j).trans e
set_option maxHeartbeats 8000000 in
set_option maxRecDepth 100000 in
theorem spec_l11Search.calls (k : Nat) : ∀ (a0 : Int) (a1 : Int) (A2 : Option Addr) (c2 : Nat) (l2 : List Bool) (A3 : Option Addr) (c3 : Nat) (l3 : List Int) (a4 : Int) (a5 : Int) (r1 : Int) (r2 : List Int) (r3 : List Int) (r4 : Bool) (w : World) (hr2 : Kd.C Kd.bool w A2 l2.length l2) (hc2 : l2.length ≤ c2) (hr3 : Kd.C (Kd.int .i64) w A3 l3.length l3) (hc3 : l3.length ≤ c3) (h : spec_l11Search.f k a0 a1 l2 l3 a4 a5 = some (r1, r2, r3, r4)),
  Calls Try.prog 42 #[.int .i64 a0, .int .i64 a1, .slice A2 l2.length c2, .slice A3 l3.length c3, .int .i64 a4, .int .i64 a5] w fun e w' => ∃ v1_ v2_ : Value, e = .returned (.tuple #[.agg #[.int .i64 r1, v1_, v2_], .bool r4]) ∧ Kd.R (Kd.int .i64) 3 w' w.heap.size (fun k_ => some k_ ≠ (v2_ : Value).ownBlock) v1_ r2 ∧ Kd.R (Kd.int .i64) 3 w' w.heap.size (fun k_ => some k_ ≠ (v1_ : Value).ownBlock) v2_ r3 ∧ Below w.heap.size w w' := by
 induction k using Nat.strongRecOn with
 | _ k ih =>
 intro a0 a1 A2 c2 l2 A3 c3 l3 a4 a5 r1 r2 r3 r4 w hr2 hc2 hr3 hc3 h
 cases k with
 | zero => exact absurd h (by simp [spec_l11Search.f])
 | succ k =>
 simp only [spec_l11Search.f] at h
 have hu30 := Try.underlying30
 have HR2 := Aside0.mk hr2
 have HC2 := Aside0.mk hc2
 clear hr2 hc2
 have HR3 := Aside0.mk hr3
 have HC3 := Aside0.mk hc3
 clear hr3 hc3
 have HB := Aside0.mk (Below.refl w.heap.size w)
 try unfold spec_l11Search.f at h
 have H := h
 clear h
 by_cases c7 : a5 = 0
 ·rw [if_pos c7] at H
  have c7b0 : (a5 == 0) = true := beq_iff_eq.mpr c7
  have c7b1 : (a5 != 0) = false := bne_eq_false_iff_eq.mpr c7
  clear c7
  replace H := Option.bind_eq_some_iff.mp H
  obtain ⟨⟨t508, t509, t512, t515⟩, A80, H⟩ := H
  dsimp only at H
  have A8 := Aside0.mk A80
  clear A80; simp only [Option.some.injEq, Prod.mk.injEq] at H; obtain ⟨rfl, rfl, rfl, rfl⟩ := H; go_enter Try.func42, Try.ntmps42
  go_wp2_with (first | ((with_reducible refine gate_dst (N := 12) rfl ?_); refine box_event ?hg (N := 12) ?hd (cs := #[.int .i64 0, .slice none 0 0, .slice none 0 0]) (t := 30) ?hr ?_; (case hd => rfl); (case hg => rfl); (case hr => first | (go_simp; done) | (go_simp; rfl)); intro gb507 hg w9 hbox hb; have BK507 := Aside0.mk (hbox); have GW507 := Aside0.mk ((by rw [hg]; exact (below_size z17_3) : w.heap.size ≤ gb507)); have GE507 := Aside0.mk ((by rw [hg]; exact (below_size z17_3) : w.heap.size ≤ gb507)); replace HB := Aside0.mk (below_step z17_3 hb); clear hb hbox hg) | ((with_reducible refine gate_callee (f := 53) rfl ?_); refine goesL_ (some 22) rfl rfl Try.func53 (by kernel_rfl) rfl #[.int .i64 a0, .int .i64 a1, .slice A3 l3.length c3] rfl z17_5 ?_; (with_reducible refine (spec_l11Plan.calls k a0 a1 _ _ l3 t508 t509 t512 t515 _ ?side1 ?side2 A8.out).mono ?_); (case side1 => exact cZ ((Kd.C_below HR3.out HB.out))); (case side2 => exact HC3.out); rintro e w10 ⟨v510, v513, rfl, ho0, ho1, hb⟩; refine ⟨_, rfl, ?_⟩; have HO511 := Aside0.mk (Kd.R_lower ho0 (below_size z17_1)); have HO514 := Aside0.mk (Kd.R_lower ho1 (below_size z17_1)); replace BK507 := bBZ_ BK507 hb; replace HB := Aside0.mk (below_step z17_1 hb); (try clear hb); (try clear ho0); (try clear ho1); have ad : w10.cell? ⟨gb507, 0, none⟩ = some (.int .i64 0) := bA17 BK507 rfl; have ae := blk_frozen BK507.out 0; obtain ⟨Ao12, co12, eo12⟩ := Kd.R_slice HO511.out; subst eo12; have af : w10.cell? ⟨gb507, 1, none⟩ = some (.slice none 0 0) := bA17 BK507 rfl; have ag := blk_frozen BK507.out 1; obtain ⟨Ao14, co14, eo14⟩ := Kd.R_slice HO514.out; subst eo14; have ah : w10.cell? ⟨gb507, 2, none⟩ = some (.slice none 0 0) := bA17 BK507 rfl; have ai := blk_frozen BK507.out 2))
  refine bodyPost_ret (results_ct rfl _ _ gb507 30 #[.int .i64 t508, .slice Ao12 t509.length co12, .slice Ao14 t512.length co14] (0, 0) _ rfl (bZ BK507.out) Try.underlying30 rfl (by kernel_rfl)) rfl ?_; exact ⟨_, _, z17_7, by (with_reducible repeat (first | apply Kd.R_alloc | apply Kd.R_drewN | apply Kd.R_drew)); exact Kd.R_mono (Kd.R_far (p := ⟨gb507, 2, none⟩) (Kd.R_far (p := ⟨gb507, 1, none⟩) (Kd.R_far (p := ⟨gb507, 0, none⟩) (Kd.R_types HO511.out BK507.out (by decide)) (fun _ hk => hk.2) (.int .i64 t508)) (fun _ hk => hk.2) (.slice Ao12 t509.length co12)) (fun _ hk => hk.2) (.slice Ao14 t512.length co14)) (fun _ hk => hk.1), by (with_reducible repeat (first | apply Kd.R_alloc | apply Kd.R_drewN | apply Kd.R_drew)); exact Kd.R_mono (Kd.R_far (p := ⟨gb507, 2, none⟩) (Kd.R_far (p := ⟨gb507, 1, none⟩) (Kd.R_far (p := ⟨gb507, 0, none⟩) (Kd.R_types HO514.out BK507.out (by decide)) (fun _ hk => hk.2) (.int .i64 t508)) (fun _ hk => hk.2) (.slice Ao12 t509.length co12)) (fun _ hk => hk.2) (.slice Ao14 t512.length co14)) (fun _ hk => hk.1), z17_1⟩
 ·rw [if_neg c7] at H
  have c7b0 : (a5 == 0) = false := beq_eq_false_iff_ne.mpr c7
  have c7b1 : (a5 != 0) = true := bne_iff_ne.mpr c7
  have H' := Aside0.mk H
  clear H; go_enter Try.func42, Try.ntmps42
  go_wp2_with (first | ((with_reducible refine gate_dst (N := 12) rfl ?_); refine box_event ?hg (N := 12) ?hd (cs := #[.int .i64 0, .slice none 0 0, .slice none 0 0]) (t := 30) ?hr ?_; (case hd => rfl); (case hg => rfl); (case hr => first | (go_simp; done) | (go_simp; rfl)); intro gb507 hg w16 hbox hb; have BK507 := Aside0.mk (hbox); have GW507 := Aside0.mk ((by rw [hg]; exact (below_size z17_3) : w.heap.size ≤ gb507)); have GE507 := Aside0.mk ((by rw [hg]; exact (below_size z17_3) : w.heap.size ≤ gb507)); replace HB := Aside0.mk (below_step z17_3 hb); clear hb hbox hg))
  go_loopg [14] k (fun kq v14 w' => ∃ (x14_1 : Int) (aa : Int), v14 = .int .i64 x14_1 ∧ Aside0 (spec_l11Search.l0 kq a0 a1 l2 l3 a5 x14_1 = some (r1, r2, r3, r4)) ∧ Aside0 (kq ≤ k) ∧ Aside0 (w'.heap[gb507]? = some (.cells #[.int .i64 aa, (.slice none 0 0), (.slice none 0 0)] 30 (0, 0))) ∧ Aside0 (Below w.heap.size w w'))
  case atStart => exact ⟨(a4), (0), z17_6, H', ⟨Nat.le_refl _⟩, ⟨zL17 BK507.out⟩, ⟨z17_1⟩⟩
  case round =>
   clear H'
   try clear c2
   try clear c3
   try clear c7
   try clear c7b0
   try clear c7b1
   obtain ⟨x14_1, aa, rfl, HA, HK1, BK507, HB⟩ := hrel
   cases gk with
   | zero => exact absurd HA.out (by simp [spec_l11Search.l0])
   | succ k1 =>
    have H := HA.out
    clear HA; simp only [spec_l11Search.l0] at H
    by_cases c17 : x14_1 < 8
    ·rw [if_pos c17] at H
     have c17b0 : decide (x14_1 < 8) = true := decide_eq_true c17; clear c17
     have HC18 := Aside0.mk H
     clear H
     go_upto_region 6 with (fail)
     go_cut [39] (fun v39 wc => ∃ (kq : Nat) (x39_17 : Bool), v39 = .bool x39_17 ∧ Aside0 (spec_l11Search.j1 kq a0 a1 l2 l3 a5 x14_1 x39_17 = some (r1, r2, r3, r4)) ∧ Aside0 (kq ≤ k1) ∧ Aside0 (wc.heap[gb507]? = some (.cells #[.int .i64 aa, (.slice none 0 0), (.slice none 0 0)] 30 (0, 0))) ∧ Aside0 (Below w.heap.size w wc))
     case first =>
      have H := HC18.out
      clear HC18; obtain ⟨c19, H⟩ := ifP H; have c19b0 : decide (0 ≤ x14_1) = true := decide_eq_true c19; clear c19; (first | rw [c19b0] | (simp only [i64_w, i32_w]; rw [c19b0]) | skip); obtain ⟨c20, H⟩ := ifP H; have c20b0 : decide (x14_1 < (l2.length : Int)) = true := decide_eq_true c20; clear c20
      obtain ⟨bq21, hbq21⟩ : ∃ b_ : Bool, b_ = (rdOf false l2 x14_1) := ⟨_, rfl⟩
      replace H : (if bq21 = true then (spec_l11Search.j1 k1 a0 a1 l2 l3 a5 x14_1 (x14_1 == a1)) else (spec_l11Search.j1 k1 a0 a1 l2 l3 a5 x14_1 true)) = some (r1, r2, r3, r4) := by rw [← hbq21] at H; exact H
      have Nbq21 := Aside0.mk hbq21
      clear hbq21
      by_cases c22 : bq21 = true
      ·subst c22
       rw [if_pos rfl] at H
       have H' := Aside0.mk H
       clear H; have p516 : 0 ≤ (x14_1 : Int) := of_decide_eq_true z17_8; have q516 : x14_1 < (l2.length : Int) := of_decide_eq_true z17_8; obtain ⟨ad516, e516, hx516_0⟩ := Kd.at_bool HR2.out x14_1 p516 q516; (try rw [← Nbq21.out] at hx516_0); cases e516
       replace hx516_0 := (HB.out.cell (World.block_lt_of_cell? w _ hx516_0)).trans hx516_0
       replace p516 := eq_true p516
       replace q516 := eq_true q516
       go_wp2
       go_meet
       case rel => exact ⟨_, ((x14_1 == a1)), z17_6, H', ⟨by have := HK1.out; first | omega | exact Nat.le_refl _⟩, ⟨zL17 BK507.out⟩, ⟨z17_1⟩⟩
      ·replace c22 := Bool.eq_false_iff.mpr c22
       subst c22; rw [if_neg (show ¬ (false = true) by decide)] at H
       have H' := Aside0.mk H
       clear H; have p516 : 0 ≤ (x14_1 : Int) := of_decide_eq_true z17_8; have q516 : x14_1 < (l2.length : Int) := of_decide_eq_true z17_8; obtain ⟨ad516, e516, hx516_0⟩ := Kd.at_bool HR2.out x14_1 p516 q516; (try rw [← Nbq21.out] at hx516_0); cases e516
       replace hx516_0 := (HB.out.cell (World.block_lt_of_cell? w _ hx516_0)).trans hx516_0
       replace p516 := eq_true p516
       replace q516 := eq_true q516
       go_wp2
       go_meet
       case rel => exact ⟨_, (true), z17_6, H', ⟨by have := HK1.out; first | omega | exact Nat.le_refl _⟩, ⟨zL17 BK507.out⟩, ⟨z17_1⟩⟩
     case rest =>
      clear HC18
      try clear c2
      try clear c3
      try clear c7
      try clear c7b0
      try clear c7b1
      try clear c17
      try clear c17b0
      obtain ⟨kq, x39_17, rfl, HA, HJ17, BK507, HB⟩ := hcut
      cases kq with
      | zero => exact absurd HA.out (by simp [spec_l11Search.j1])
      | succ kj17 =>
       have H := HA.out
       clear HA; simp only [spec_l11Search.j1] at H
       by_cases c23 : x39_17 = true
       ·subst c23
        rw [if_pos rfl] at H
        have H' := Aside0.mk H
        clear H
        go_wp2
        go_roundg kj17
        case measure => have := HK1.out; have := HJ17.out; omega
        case rel => exact ⟨(wrap64 (x14_1 + 1)), (aa), z17_6, H', ⟨z17_10⟩, ⟨zL17 BK507.out⟩, ⟨z17_1⟩⟩
       ·replace c23 := Bool.eq_false_iff.mpr c23
        subst c23; rw [if_neg (show ¬ (false = true) by decide)] at H
        obtain ⟨y517, hy517⟩ : ∃ y_ : List Int, y_ = (([] : List Int)) := ⟨_, rfl⟩
        replace H : (if y517.length + l3.length < 17592186044416 then ((some (y517 ++ l3 : List Int)).bind fun y520 => (if y520.length < 17592186044416 then ((spec_l11Search.f kj17 a0 a1 l2 (y520 ++ [x14_1]) (wrap64 (x14_1 + 1)) (wrap64 (a5 - 1))).bind fun bt526 => (if bt526.2.2.2 = true then (some (bt526.1, bt526.2.1, bt526.2.2.1, true)) else (spec_l11Search.l0 kj17 a0 a1 l2 l3 a5 (wrap64 (x14_1 + 1))))) else (none))) else (none)) = some (r1, r2, r3, r4) := yZZ_ hy517 H
        have Ny517 := Aside0.mk hy517
        clear hy517; obtain ⟨c24, H⟩ := ifP H
        have LMc24 := Aside0.mk c24
        clear c24
        obtain ⟨y520, hy520⟩ : ∃ y_ : List Int, y_ = (y517 ++ l3) := ⟨_, rfl⟩
        replace H : (if y520.length < 17592186044416 then ((spec_l11Search.f kj17 a0 a1 l2 (y520 ++ [x14_1]) (wrap64 (x14_1 + 1)) (wrap64 (a5 - 1))).bind fun bt526 => (if bt526.2.2.2 = true then (some (bt526.1, bt526.2.1, bt526.2.2.1, true)) else (spec_l11Search.l0 kj17 a0 a1 l2 l3 a5 (wrap64 (x14_1 + 1))))) else (none)) = some (r1, r2, r3, r4) := yZZ_ hy520 H
        have Ny520 := Aside0.mk hy520
        clear hy520; obtain ⟨c25, H⟩ := ifP H
        have LMc25 := Aside0.mk c25
        clear c25
        obtain ⟨y523, hy523⟩ : ∃ y_ : List Int, y_ = (y520 ++ [x14_1]) := ⟨_, rfl⟩
        replace H : ((spec_l11Search.f kj17 a0 a1 l2 y523 (wrap64 (x14_1 + 1)) (wrap64 (a5 - 1))).bind fun bt526 => (if bt526.2.2.2 = true then (some (bt526.1, bt526.2.1, bt526.2.2.1, true)) else (spec_l11Search.l0 kj17 a0 a1 l2 l3 a5 (wrap64 (x14_1 + 1))))) = some (r1, r2, r3, r4) := yZZ_ hy523 H
        have Ny523 := Aside0.mk hy523
        clear hy523
        replace H := Option.bind_eq_some_iff.mp H
        obtain ⟨⟨t526, t527, t530, t533⟩, A260, H⟩ := H
        dsimp only at H
        have A26 := Aside0.mk A260
        clear A260
        by_cases c27 : t533 = true
        ·subst c27
         rw [if_pos rfl] at H; simp only [Option.some.injEq, Prod.mk.injEq] at H; obtain ⟨rfl, rfl, rfl, rfl⟩ := H
         go_wp2_with (first | ((with_reducible refine gate_dst (N := 44) rfl ?_); refine Kd.R_lit (Kd.int .i64) _ 3 ?hg (N := 44) ?hd (xs := ([] : List Int)) (inner := []) (ok := fun _ => True) (okp := fun _ => True) ?hr ?hp (fun _ hk => hk) trivial (Below.refl _ _) (Nat.le_refl _) (by simp) ?_; (case hd => rfl); (case hg => rfl); (case hr => first | (go_simp; done) | (go_simp; rfl)); (case hp => exact (Reps.none _ _)); intro v518 w28 ho29 hb hg_ hnew_; clear hg_ hnew_; (first | rw [← Ny517.out] at ho29 | (simp only [Int.reduceToNat] at ho29; rw [← Ny517.out] at ho29)); have HO519 := Aside0.mk (Kd.R_lower ho29 (below_size z17_1)); replace BK507 := bBZ_ BK507 hb; replace HB := Aside0.mk (below_step z17_1 hb); clear hb ho29) | ((with_reducible refine gate_builtin (b := .append) (xs := #[.tmp 44, .tmp 45]) rfl ?_); at_builtin; refine Kd.R_append_rows (Kd.int .i64) (w0 := w) w.heap.size rfl (.tmp 44) (.tmp 45) 28 3 (.int .i64 0) 8 rfl Try.underlying28 info3 rfl (by decide) (by omega) v518 y517 l3 _ _ _ (fun _ => True) (fun _ => False) rfl rfl ?aO ?aR (fun _ _ h => h) (fun _ h => h.elim) ?aF ?aB ?aS ?aL ?_; (case aR => repeat (first | exact (Kd.C_below HR3.out HB.out) | (with_reducible refine Kd.C_alloc ?_ _) | (with_reducible refine Kd.C_drewN ?_ _) | (with_reducible refine Kd.C_drew ?_))); (case aB => exact z17_1); (case aF => exact (fun _ _ => trivial)); (case aO => exact (by (with_reducible repeat (first | apply Kd.R_alloc | apply Kd.R_drewN | apply Kd.R_drew)); exact HO519.out)); (case aS => exact (below_size z17_1)); (case aL => have := LMc24.out; omega); intro v521 w30 ho hb hg hat; rw [← Ny520.out] at ho; have n0_ := Aside0.mk (blk_grown (g := gb507) (o := .cells #[.int .i64 aa, .slice none 0 0, .slice none 0 0] 30 (0, 0)) (zL17 BK507.out) hg (Kd.R_ne HO519.out BK507.out (by decide))); have n1_ := Aside0.mk (hb); have n2_ := Aside0.mk (ho); clear BK507; clear HB; clear HO519; have BK507 := n0_; have HB := n1_; have HO522 := n2_; clear n0_ n1_ n2_; clear ho hb hg hat) | ((with_reducible refine gate_builtin (b := .append) (xs := #[.tmp 46, .tmp 48]) rfl ?_); at_builtin; refine Kd.R_append (Kd.int .i64) (w0 := w) w.heap.size rfl (.tmp 46) (.tmp 48) 28 3 (.int .i64 0) 8 rfl Try.underlying28 info3 rfl (by decide) (by omega) v521 y520 x14_1 [.int .i64 x14_1] (fun _ => True) (fun _ => False) rfl rfl ?aP (fun _ hk => hk.elim) ?aF ?aO ?aB ?aS ?aL ?_; (case aP => exact rfl); (case aB => exact z17_1); (case aF => exact (fun _ _ => trivial)); (case aO => exact (by (with_reducible repeat (first | apply Kd.R_alloc | apply Kd.R_drewN | apply Kd.R_drew)); exact HO522.out)); (case aS => exact (below_size z17_1)); (case aL => have := LMc25.out; omega); intro v524 w31 ho hb hg hat; rw [← Ny523.out] at ho; have n0_ := Aside0.mk (blk_grown (g := gb507) (o := .cells #[.int .i64 aa, .slice none 0 0, .slice none 0 0] 30 (0, 0)) (zL17 BK507.out) hg (Kd.R_ne HO522.out BK507.out (by decide))); have n1_ := Aside0.mk (hb); have n2_ := Aside0.mk (ho); clear BK507; clear HB; clear HO522; have BK507 := n0_; have HB := n1_; have HO525 := n2_; clear n0_ n1_ n2_; clear ho hb hg hat; obtain ⟨Ao32, co32, eo32⟩ := Kd.R_slice HO525.out; subst eo32) | ((with_reducible refine gate_callee (f := 42) rfl ?_); refine goesL_ (some 54) rfl rfl Try.func42 (by kernel_rfl) rfl #[.int .i64 a0, .int .i64 a1, .slice A2 l2.length c2, .slice Ao32 y523.length co32, .int .i64 (wrap64 (x14_1 + 1)), .int .i64 (wrap64 (a5 - 1))] rfl z17_5 ?_; (with_reducible refine (ih kj17 z17_10 a0 a1 _ _ l2 _ _ y523 (wrap64 (x14_1 + 1)) (wrap64 (a5 - 1)) t526 t527 t530 true _ ?side1 ?side2 ?side3 ?side4 A26.out).mono ?_); (case side1 => exact cZ ((Kd.C_below HR2.out HB.out))); (case side2 => exact HC2.out); (case side3 => exact cZ ((Kd.R_reads' HO525.out).2.2)); (case side4 => exact (Kd.R_reads' HO525.out).2.1); rintro e w33 ⟨v528, v531, rfl, ho0, ho1, hb⟩; refine ⟨_, rfl, ?_⟩; have HO529 := Aside0.mk (Kd.R_lower (Kd.R_new' ho0 (Kd.R_lt z17_2)) (below_size z17_1)); have HO532 := Aside0.mk (Kd.R_lower (Kd.R_new' ho1 (Kd.R_lt z17_2)) (below_size z17_1)); replace HO525 := Aside0.mk (Kd.R_mono (Kd.R_told (Kd.R_told (Kd.R_old z17_2 hb) (Kd.R_base ho0)) (Kd.R_base ho1)) (fun _ h_ => h_.1)); replace BK507 := bBZ_ BK507 hb; replace HB := Aside0.mk (below_step z17_1 hb); (try clear hb); (try clear ho0); (try clear ho1)) | ((with_reducible refine gate_dst (N := 15) rfl ?_); refine box_event ?hg (N := 15) ?hd (cs := #[.int .i64 0, .slice none 0 0, .slice none 0 0]) (t := 30) ?hr ?_; (case hd => rfl); (case hg => rfl); (case hr => first | (go_simp; done) | (go_simp; rfl)); intro gb534 hg w34 hbox hb; replace HO525 := Aside0.mk (Kd.R_below z17_2 hb); replace HO529 := Aside0.mk (Kd.R_below (by (with_reducible repeat (first | apply Kd.R_alloc | apply Kd.R_drewN | apply Kd.R_drew)); exact HO529.out) hb); replace HO532 := Aside0.mk (Kd.R_below (by (with_reducible repeat (first | apply Kd.R_alloc | apply Kd.R_drewN | apply Kd.R_drew)); exact HO532.out) hb); have BK534 := Aside0.mk (hbox); have GW534 := Aside0.mk ((by rw [hg]; exact (below_size z17_1) : w.heap.size ≤ gb534)); have GE534 := Aside0.mk ((by rw [hg]; exact (below_size z17_1) : w.heap.size ≤ gb534)); replace HB := Aside0.mk (below_step z17_1 hb); have ab := Aside0.mk ((by rw [hg]; exact bLZ_ BK507 : gb507 ≠ gb534)); have ac := Aside0.mk ((by rw [hg]; exact bGZ_ BK507 : gb534 ≠ gb507)); replace BK507 := bBZ_ BK507 hb; clear hb hbox hg; have hnb35 := ac.out; have hnc35 := ab.out; have hcz36_0 : w34.cell? ⟨gb534, 0, none⟩ = some (.int .i64 0) := bA17 BK534 rfl; have hfz36_0 := blk_frozen BK534.out 0; obtain ⟨Ao37, co37, eo37⟩ := Kd.R_slice HO529.out; subst eo37; have hcz38_1 : w34.cell? ⟨gb534, 1, none⟩ = some (.slice none 0 0) := bA17 BK534 rfl; have hfz38_1 := blk_frozen BK534.out 1; obtain ⟨Ao39, co39, eo39⟩ := Kd.R_slice HO532.out; subst eo39; have hcz40_2 : w34.cell? ⟨gb534, 2, none⟩ = some (.slice none 0 0) := bA17 BK534 rfl; have hfz40_2 := blk_frozen BK534.out 2; obtain ⟨hcz42_0, hfz42_0, hcz43_1, hfz43_1, hcz44_2, hfz44_2⟩ := cAZ3_ BK507) | ((with_reducible refine gate_store (t := 30) (p := 12) rfl ?_); refine store_event (t := 30) (p := 12) (v := ?vo_w45) (w1 := ((((((w34.setCell ⟨gb534, 0, none⟩ (.int .i64 t526)).setCell ⟨gb534, 1, none⟩ (.slice Ao37 t527.length co37)).setCell ⟨gb534, 2, none⟩ (.slice Ao39 t530.length co39)).setCell ⟨gb507, 0, none⟩ (.int .i64 t526)).setCell ⟨gb507, 1, none⟩ (.slice Ao37 t527.length co37)).setCell ⟨gb507, 2, none⟩ (.slice Ao39 t530.length co39))) ?hg ?ho ?hn ?hr ?_; (case ho => rfl); (case hg => rfl); (case hn => rfl); (case hr => first | (go_simp; done) | (go_simp; rfl)); intro w45 hw; have n0_ : Aside0 (Kd.R (Kd.int .i64) 3 w45 w.heap.size (fun k_ => some k_ ≠ (.slice Ao37 t527.length co37 : Value).ownBlock ∧ some k_ ≠ (.slice Ao39 t530.length co39 : Value).ownBlock) (.slice Ao32 y523.length co32) y523) := ⟨(by rw [hw]; exact (by (with_reducible repeat (first | apply Kd.R_alloc | apply Kd.R_drewN | apply Kd.R_drew)); exact Kd.R_mono (Kd.R_far (p := ⟨gb507, 2, none⟩) (Kd.R_far (p := ⟨gb507, 1, none⟩) (Kd.R_far (p := ⟨gb507, 0, none⟩) (Kd.R_far (p := ⟨gb534, 2, none⟩) (Kd.R_far (p := ⟨gb534, 1, none⟩) (Kd.R_far (p := ⟨gb534, 0, none⟩) (Kd.R_types (Kd.R_types HO525.out BK534.out (by decide)) BK507.out (by decide)) (fun _ hk => hk.1.2) (.int .i64 t526)) (fun _ hk => hk.1.2) (.slice Ao37 t527.length co37)) (fun _ hk => hk.1.2) (.slice Ao39 t530.length co39)) (fun _ hk => hk.2) (.int .i64 t526)) (fun _ hk => hk.2) (.slice Ao37 t527.length co37)) (fun _ hk => hk.2) (.slice Ao39 t530.length co39)) (fun _ hk => ⟨hk.1.1.1.2, hk.1.1.2⟩)))⟩; have n1_ : Aside0 (Kd.R (Kd.int .i64) 3 w45 w.heap.size (fun k_ => some k_ ≠ (.slice Ao32 y523.length co32 : Value).ownBlock ∧ some k_ ≠ (.slice Ao39 t530.length co39 : Value).ownBlock) (.slice Ao37 t527.length co37) t527) := ⟨(by rw [hw]; exact (by (with_reducible repeat (first | apply Kd.R_alloc | apply Kd.R_drewN | apply Kd.R_drew)); exact Kd.R_mono (Kd.R_far (p := ⟨gb507, 2, none⟩) (Kd.R_far (p := ⟨gb507, 1, none⟩) (Kd.R_far (p := ⟨gb507, 0, none⟩) (Kd.R_far (p := ⟨gb534, 2, none⟩) (Kd.R_far (p := ⟨gb534, 1, none⟩) (Kd.R_far (p := ⟨gb534, 0, none⟩) (Kd.R_types (Kd.R_types HO529.out BK534.out (by decide)) BK507.out (by decide)) (fun _ hk => hk.1.2) (.int .i64 t526)) (fun _ hk => hk.1.2) (.slice Ao37 t527.length co37)) (fun _ hk => hk.1.2) (.slice Ao39 t530.length co39)) (fun _ hk => hk.2) (.int .i64 t526)) (fun _ hk => hk.2) (.slice Ao37 t527.length co37)) (fun _ hk => hk.2) (.slice Ao39 t530.length co39)) (fun _ hk => ⟨hk.1.1.2, hk.1.1.1⟩)))⟩; have n2_ : Aside0 (Kd.R (Kd.int .i64) 3 w45 w.heap.size (fun k_ => some k_ ≠ (.slice Ao32 y523.length co32 : Value).ownBlock ∧ some k_ ≠ (.slice Ao37 t527.length co37 : Value).ownBlock) (.slice Ao39 t530.length co39) t530) := ⟨(by rw [hw]; exact (by (with_reducible repeat (first | apply Kd.R_alloc | apply Kd.R_drewN | apply Kd.R_drew)); exact Kd.R_mono (Kd.R_far (p := ⟨gb507, 2, none⟩) (Kd.R_far (p := ⟨gb507, 1, none⟩) (Kd.R_far (p := ⟨gb507, 0, none⟩) (Kd.R_far (p := ⟨gb534, 2, none⟩) (Kd.R_far (p := ⟨gb534, 1, none⟩) (Kd.R_far (p := ⟨gb534, 0, none⟩) (Kd.R_types (Kd.R_types HO532.out BK534.out (by decide)) BK507.out (by decide)) (fun _ hk => hk.1.2) (.int .i64 t526)) (fun _ hk => hk.1.2) (.slice Ao37 t527.length co37)) (fun _ hk => hk.1.2) (.slice Ao39 t530.length co39)) (fun _ hk => hk.2) (.int .i64 t526)) (fun _ hk => hk.2) (.slice Ao37 t527.length co37)) (fun _ hk => hk.2) (.slice Ao39 t530.length co39)) (fun _ hk => ⟨hk.1.1.2, hk.1.1.1⟩)))⟩; have n3_ : Aside0 (w45.heap[gb507]? = some (.cells #[.int .i64 t526, .slice Ao37 t527.length co37, .slice Ao39 t530.length co39] 30 (0, 0))) := ⟨(by rw [hw]; exact (by (with_reducible repeat first|refine blk_drewN ?_ _|refine blk_drew ?_|refine blk_alloc ?_ _); refine blk_put (cs := #[.int .i64 t526, .slice Ao37 t527.length co37, .slice none 0 0]) ?_ 2 _ rfl; (with_reducible repeat first|refine blk_drewN ?_ _|refine blk_drew ?_|refine blk_alloc ?_ _); refine blk_put (cs := #[.int .i64 t526, .slice none 0 0, .slice none 0 0]) ?_ 1 _ rfl; (with_reducible repeat first|refine blk_drewN ?_ _|refine blk_drew ?_|refine blk_alloc ?_ _); refine blk_put (cs := #[.int .i64 aa, .slice none 0 0, .slice none 0 0]) ?_ 0 _ rfl; (with_reducible repeat first|refine blk_drewN ?_ _|refine blk_drew ?_|refine blk_alloc ?_ _); refine blk_far ?_ ab.out _; (with_reducible repeat first|refine blk_drewN ?_ _|refine blk_drew ?_|refine blk_alloc ?_ _); refine blk_far ?_ ab.out _; (with_reducible repeat first|refine blk_drewN ?_ _|refine blk_drew ?_|refine blk_alloc ?_ _); refine blk_far ?_ ab.out _; (with_reducible repeat first|refine blk_drewN ?_ _|refine blk_drew ?_|refine blk_alloc ?_ _); exact BK507.out))⟩; have n4_ : Aside0 (w45.heap[gb534]? = some (.cells #[.int .i64 t526, .slice Ao37 t527.length co37, .slice Ao39 t530.length co39] 30 (0, 0))) := ⟨(by rw [hw]; exact (by (with_reducible repeat first|refine blk_drewN ?_ _|refine blk_drew ?_|refine blk_alloc ?_ _); refine blk_far ?_ ac.out _; (with_reducible repeat first|refine blk_drewN ?_ _|refine blk_drew ?_|refine blk_alloc ?_ _); refine blk_far ?_ ac.out _; (with_reducible repeat first|refine blk_drewN ?_ _|refine blk_drew ?_|refine blk_alloc ?_ _); refine blk_far ?_ ac.out _; (with_reducible repeat first|refine blk_drewN ?_ _|refine blk_drew ?_|refine blk_alloc ?_ _); refine blk_put (cs := #[.int .i64 t526, .slice Ao37 t527.length co37, .slice none 0 0]) ?_ 2 _ rfl; (with_reducible repeat first|refine blk_drewN ?_ _|refine blk_drew ?_|refine blk_alloc ?_ _); refine blk_put (cs := #[.int .i64 t526, .slice none 0 0, .slice none 0 0]) ?_ 1 _ rfl; (with_reducible repeat first|refine blk_drewN ?_ _|refine blk_drew ?_|refine blk_alloc ?_ _); refine blk_put (cs := #[.int .i64 0, .slice none 0 0, .slice none 0 0]) ?_ 0 _ rfl; (with_reducible repeat first|refine blk_drewN ?_ _|refine blk_drew ?_|refine blk_alloc ?_ _); exact BK534.out))⟩; have n5_ : Aside0 (Below w.heap.size w w45) := ⟨(by rw [hw]; exact z17_4)⟩; clear hw; clear HO525; clear HO529; clear HO532; clear BK507; clear BK534; clear HB; have HO525 := n0_; have HO529 := n1_; have HO532 := n2_; have BK507 := n3_; have BK534 := n4_; have HB := n5_; clear n0_ n1_ n2_ n3_ n4_ n5_))
         refine bodyPost_ret (results_ct rfl _ _ gb507 30 #[.int .i64 t526, .slice Ao37 t527.length co37, .slice Ao39 t530.length co39] (0, 0) _ rfl (zL17 BK507.out) Try.underlying30 rfl (by kernel_rfl)) rfl ?_; exact ⟨_, _, z17_7, by (with_reducible repeat (first | apply Kd.R_alloc | apply Kd.R_drewN | apply Kd.R_drew)); exact Kd.R_mono HO529.out (fun _ hk => hk.2), by (with_reducible repeat (first | apply Kd.R_alloc | apply Kd.R_drewN | apply Kd.R_drew)); exact Kd.R_mono HO532.out (fun _ hk => hk.2), z17_4⟩
        ·replace c27 := Bool.eq_false_iff.mpr c27
         subst c27; rw [if_neg (show ¬ (false = true) by decide)] at H
         have H' := Aside0.mk H
         clear H
         go_wp2_with (first | ((with_reducible refine gate_dst (N := 44) rfl ?_); refine Kd.R_lit (Kd.int .i64) _ 3 ?hg (N := 44) ?hd (xs := ([] : List Int)) (inner := []) (ok := fun _ => True) (okp := fun _ => True) ?hr ?hp (fun _ hk => hk) trivial (Below.refl _ _) (Nat.le_refl _) (by simp) ?_; (case hd => rfl); (case hg => rfl); (case hr => first | (go_simp; done) | (go_simp; rfl)); (case hp => exact (Reps.none _ _)); intro v518 w46 ho47 hb hg_ hnew_; clear hg_ hnew_; (first | rw [← Ny517.out] at ho47 | (simp only [Int.reduceToNat] at ho47; rw [← Ny517.out] at ho47)); have HO519 := Aside0.mk (Kd.R_lower ho47 (below_size z17_1)); replace BK507 := bBZ_ BK507 hb; replace HB := Aside0.mk (below_step z17_1 hb); clear hb ho47) | ((with_reducible refine gate_builtin (b := .append) (xs := #[.tmp 44, .tmp 45]) rfl ?_); at_builtin; refine Kd.R_append_rows (Kd.int .i64) (w0 := w) w.heap.size rfl (.tmp 44) (.tmp 45) 28 3 (.int .i64 0) 8 rfl Try.underlying28 info3 rfl (by decide) (by omega) v518 y517 l3 _ _ _ (fun _ => True) (fun _ => False) rfl rfl ?aO ?aR (fun _ _ h => h) (fun _ h => h.elim) ?aF ?aB ?aS ?aL ?_; (case aR => repeat (first | exact (Kd.C_below HR3.out HB.out) | (with_reducible refine Kd.C_alloc ?_ _) | (with_reducible refine Kd.C_drewN ?_ _) | (with_reducible refine Kd.C_drew ?_))); (case aB => exact z17_1); (case aF => exact (fun _ _ => trivial)); (case aO => exact (by (with_reducible repeat (first | apply Kd.R_alloc | apply Kd.R_drewN | apply Kd.R_drew)); exact HO519.out)); (case aS => exact (below_size z17_1)); (case aL => have := LMc24.out; omega); intro v521 w48 ho hb hg hat; rw [← Ny520.out] at ho; have n0_ := Aside0.mk (blk_grown (g := gb507) (o := .cells #[.int .i64 aa, .slice none 0 0, .slice none 0 0] 30 (0, 0)) (zL17 BK507.out) hg (Kd.R_ne HO519.out BK507.out (by decide))); have n1_ := Aside0.mk (hb); have n2_ := Aside0.mk (ho); clear BK507; clear HB; clear HO519; have BK507 := n0_; have HB := n1_; have HO522 := n2_; clear n0_ n1_ n2_; clear ho hb hg hat) | ((with_reducible refine gate_builtin (b := .append) (xs := #[.tmp 46, .tmp 48]) rfl ?_); at_builtin; refine Kd.R_append (Kd.int .i64) (w0 := w) w.heap.size rfl (.tmp 46) (.tmp 48) 28 3 (.int .i64 0) 8 rfl Try.underlying28 info3 rfl (by decide) (by omega) v521 y520 x14_1 [.int .i64 x14_1] (fun _ => True) (fun _ => False) rfl rfl ?aP (fun _ hk => hk.elim) ?aF ?aO ?aB ?aS ?aL ?_; (case aP => exact rfl); (case aB => exact z17_1); (case aF => exact (fun _ _ => trivial)); (case aO => exact (by (with_reducible repeat (first | apply Kd.R_alloc | apply Kd.R_drewN | apply Kd.R_drew)); exact HO522.out)); (case aS => exact (below_size z17_1)); (case aL => have := LMc25.out; omega); intro v524 w49 ho hb hg hat; rw [← Ny523.out] at ho; have n0_ := Aside0.mk (blk_grown (g := gb507) (o := .cells #[.int .i64 aa, .slice none 0 0, .slice none 0 0] 30 (0, 0)) (zL17 BK507.out) hg (Kd.R_ne HO522.out BK507.out (by decide))); have n1_ := Aside0.mk (hb); have n2_ := Aside0.mk (ho); clear BK507; clear HB; clear HO522; have BK507 := n0_; have HB := n1_; have HO525 := n2_; clear n0_ n1_ n2_; clear ho hb hg hat; obtain ⟨Ao50, co50, eo50⟩ := Kd.R_slice HO525.out; subst eo50) | ((with_reducible refine gate_callee (f := 42) rfl ?_); refine goesL_ (some 54) rfl rfl Try.func42 (by kernel_rfl) rfl #[.int .i64 a0, .int .i64 a1, .slice A2 l2.length c2, .slice Ao50 y523.length co50, .int .i64 (wrap64 (x14_1 + 1)), .int .i64 (wrap64 (a5 - 1))] rfl z17_5 ?_; (with_reducible refine (ih kj17 z17_10 a0 a1 _ _ l2 _ _ y523 (wrap64 (x14_1 + 1)) (wrap64 (a5 - 1)) t526 t527 t530 false _ ?side1 ?side2 ?side3 ?side4 A26.out).mono ?_); (case side1 => exact cZ ((Kd.C_below HR2.out HB.out))); (case side2 => exact HC2.out); (case side3 => exact cZ ((Kd.R_reads' HO525.out).2.2)); (case side4 => exact (Kd.R_reads' HO525.out).2.1); rintro e w51 ⟨v528, v531, rfl, ho0, ho1, hb⟩; refine ⟨_, rfl, ?_⟩; have HO529 := Aside0.mk (Kd.R_lower (Kd.R_new' ho0 (Kd.R_lt z17_2)) (below_size z17_1)); have HO532 := Aside0.mk (Kd.R_lower (Kd.R_new' ho1 (Kd.R_lt z17_2)) (below_size z17_1)); replace HO525 := Aside0.mk (Kd.R_mono (Kd.R_told (Kd.R_told (Kd.R_old z17_2 hb) (Kd.R_base ho0)) (Kd.R_base ho1)) (fun _ h_ => h_.1)); replace BK507 := bBZ_ BK507 hb; replace HB := Aside0.mk (below_step z17_1 hb); (try clear hb); (try clear ho0); (try clear ho1)) | ((with_reducible refine gate_dst (N := 15) rfl ?_); refine box_event ?hg (N := 15) ?hd (cs := #[.int .i64 0, .slice none 0 0, .slice none 0 0]) (t := 30) ?hr ?_; (case hd => rfl); (case hg => rfl); (case hr => first | (go_simp; done) | (go_simp; rfl)); intro gb534 hg w52 hbox hb; replace HO525 := Aside0.mk (Kd.R_below z17_2 hb); replace HO529 := Aside0.mk (Kd.R_below (by (with_reducible repeat (first | apply Kd.R_alloc | apply Kd.R_drewN | apply Kd.R_drew)); exact HO529.out) hb); replace HO532 := Aside0.mk (Kd.R_below (by (with_reducible repeat (first | apply Kd.R_alloc | apply Kd.R_drewN | apply Kd.R_drew)); exact HO532.out) hb); have BK534 := Aside0.mk (hbox); have GW534 := Aside0.mk ((by rw [hg]; exact (below_size z17_1) : w.heap.size ≤ gb534)); have GE534 := Aside0.mk ((by rw [hg]; exact (below_size z17_1) : w.heap.size ≤ gb534)); replace HB := Aside0.mk (below_step z17_1 hb); have ab := Aside0.mk ((by rw [hg]; exact bLZ_ BK507 : gb507 ≠ gb534)); have ac := Aside0.mk ((by rw [hg]; exact bGZ_ BK507 : gb534 ≠ gb507)); replace BK507 := bBZ_ BK507 hb; clear hb hbox hg; have hnb53 := ac.out; have hnc53 := ab.out; have hcz54_0 : w52.cell? ⟨gb534, 0, none⟩ = some (.int .i64 0) := bA17 BK534 rfl; have hfz54_0 := blk_frozen BK534.out 0; obtain ⟨Ao55, co55, eo55⟩ := Kd.R_slice HO529.out; subst eo55; have hcz56_1 : w52.cell? ⟨gb534, 1, none⟩ = some (.slice none 0 0) := bA17 BK534 rfl; have hfz56_1 := blk_frozen BK534.out 1; obtain ⟨Ao57, co57, eo57⟩ := Kd.R_slice HO532.out; subst eo57; have hcz58_2 : w52.cell? ⟨gb534, 2, none⟩ = some (.slice none 0 0) := bA17 BK534 rfl; have hfz58_2 := blk_frozen BK534.out 2))
         go_roundg kj17
         case measure => have := HK1.out; have := HJ17.out; omega
         case rel => exact ⟨(wrap64 (x14_1 + 1)), (aa), z17_6, H', ⟨z17_10⟩, ⟨gZ ab.out BK507.out⟩, ⟨z17_4⟩⟩
    ·rw [if_neg c17] at H
     have c17b0 : decide (x14_1 < 8) = false := decide_eq_false c17; clear c17; simp only [Option.some.injEq, Prod.mk.injEq] at H; obtain ⟨rfl, rfl, rfl, rfl⟩ := H; obtain ⟨hcz59_0, hfz59_0, hcz60_1, hfz60_1, hcz61_2, hfz61_2⟩ := cAZ3_ BK507
     go_wp2
     refine bodyPost_ret (results_ct rfl _ _ gb507 30 #[.int .i64 0, .slice none 0 0, .slice none 0 0] (0, 0) _ rfl (bZ BK507.out) Try.underlying30 rfl (by kernel_rfl)) rfl ?_; exact ⟨_, _, z17_7, z17_9, z17_9, z17_1⟩

end Go.Proofs.Ytfgpffocieegdaa.PA
