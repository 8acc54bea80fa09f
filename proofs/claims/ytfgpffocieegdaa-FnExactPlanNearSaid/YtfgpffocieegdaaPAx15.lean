import Derived.Test.YtfgpffocieegdaaPAx0
import Derived.Test.YtfgpffocieegdaaPAx14
import Derived.Test.YtfgpffocieegdaaGw
import Derived.Test.YtfgpffocieegdaaGm
import Derived.Test.YtfgpffocieegdaaGc
namespace Go.Proofs.Ytfgpffocieegdaa.PA
open Go.RowKit Go.Proofs.YtfgpffocieegdaaW.PrintWords Go.Proofs.YtfgpffocieegdaaW.PrintLast Go.Proofs.YtfgpffocieegdaaW.PrintMore
attribute [local go_sem] max2_int min2_int max_two min_two max_three min_three max_four min_four   -- for this text's walks alone
set_option linter.unusedVariables false
set_option linter.unusedSimpArgs false

/-! ### spec_l11Search: function 42 -/
theorem zL15 {p q : Prop} (h : q) (t : q → p := by intro h_; (with_reducible repeat first|refine blk_drewN ?_ _|refine blk_drew ?_|refine blk_alloc ?_ _); exact h_) : p := t h
theorem z15_1 {p : Prop} (h : p := by repeat (first | (with_reducible first | exact HB.out | apply below_alloc | apply pw_below_drewN | apply below_drew1 | refine below_set ?_ GE461.out) | exact HB.out)) : p := h
theorem z15_2 {p : Prop} (h : p := by (with_reducible repeat (first | apply Kd.R_alloc | apply Kd.R_drewN | apply Kd.R_drew)); exact HO479.out) : p := h
theorem z15_3 {p : Prop} (h : p := by repeat (first | (with_reducible first | exact HB.out | apply below_alloc | apply pw_below_drewN | apply below_drew1) | exact HB.out)) : p := h
theorem z15_4 {p : Prop} (h : p := by repeat (first | (with_reducible first | exact HB.out | apply below_alloc | apply pw_below_drewN | apply below_drew1 | refine below_set ?_ GE461.out | refine below_set ?_ GE488.out) | exact HB.out)) : p := h
theorem z15_5 {p : Prop} (h : p := by (try simp only [List.map_toArray, List.map_cons, List.map_nil]); first | done | rfl | (simp only [List.length_drop, List.length_take]; rfl)) : p := h
theorem z15_6 {p : Prop} (h : p := by first | rfl | (simp; done) | (simp [*]; done)) : p := h
theorem z15_7 {p : Prop} (h : p := by first | rfl | (simp [errW_none, errW_some] <;> rfl) | (simp [*, errW_none, errW_some] <;> rfl)) : p := h
theorem z15_8 {p : Prop} (h : p := by first | (with_reducible assumption) | assumption) : p := h
theorem z15_9 {p : Prop} (h : p := by first | exact Kd.R_nil _ _ _ _ _ | exact Kd.N_nil _ _ _ _ _ | exact Kd.V_nil _ _ _ _ _ | exact Kd.Q_nil _ _ _ _ _ | exact Kd.S_nil _ _ _ _ _) : p := h
theorem z15_10 {p : Prop} (h : p := by have := HK1.out; have := HJ17.out; omega) : p := h
mutual
def spec_l11Search.l0 : Nat → Int → Int → List Bool → List Int → Int → Int → Option (Int × List Int × List Int × Bool)
  | 0, _, _, _, _, _, _ => none
  | k + 1, x0, x1, x2, x3, x5, x14 => if x14 < 8 then (if 0 ≤ x14 then (if x14 < (x2.length : Int) then (if rdOf false x2 x14 = true then (spec_l11Search.j1 k x0 x1 x2 x3 x5 x14 (x14 == x1)) else (spec_l11Search.j1 k x0 x1 x2 x3 x5 x14 true)) else (none)) else (none)) else (some (0, ([] : List Int), ([] : List Int), false))
def spec_l11Search.j1 : Nat → Int → Int → List Bool → List Int → Int → Int → Bool → Option (Int × List Int × List Int × Bool)
  | 0, _, _, _, _, _, _, _ => none
  | k + 1, x0, x1, x2, x3, x5, x14, x39 => if x39 = true then (spec_l11Search.l0 k x0 x1 x2 x3 x5 (wrap64 (x14 + 1))) else ((some (([] : List Int) : List Int)).bind fun y471 => (if y471.length + x3.length < 17592186044416 then ((some (y471 ++ x3 : List Int)).bind fun y474 => (if y474.length < 17592186044416 then ((spec_l11Search.f k x0 x1 x2 (y474 ++ [x14]) (wrap64 (x14 + 1)) (wrap64 (x5 - 1))).bind fun bt480 => (if bt480.2.2.2 = true then (some (bt480.1, bt480.2.1, bt480.2.2.1, true)) else (spec_l11Search.l0 k x0 x1 x2 x3 x5 (wrap64 (x14 + 1))))) else (none))) else (none)))
def spec_l11Search.f : Nat → Int → Int → List Bool → List Int → Int → Int → Option (Int × List Int × List Int × Bool)
  | 0, _, _, _, _, _, _ => none
  | k + 1, a0, a1, l2, l3, a4, a5 => if a5 = 0 then ((spec_l11Plan.f k a0 a1 l3).bind fun bt462 => (some (bt462.1, bt462.2.1, bt462.2.2.1, bt462.2.2.2))) else (spec_l11Search.l0 k a0 a1 l2 l3 a5 a4)
end
theorem bA15 {W : World} {g : Nat} {cs : Array Value} {ty : TypeId} {j : Nat} {v : Value} (h : Aside0 (W.heap[g]? = some (.cells cs ty (0, 0)))) (e : cs[j]? = some v) : W.cell? ⟨g, j, none⟩ = some v := (blk_cell h.out j).trans e
set_option maxHeartbeats 8000000 in
set_option maxRecDepth 100000 in
theorem spec_l11Search.calls (k : Nat) : ∀ (a0 : Int) (a1 : Int) (A2 : Option Addr) (c2 : Nat) (l2 : List Bool) (A3 : Option Addr) (c3 : Nat) (l3 : List Int) (a4 : Int) (a5 : Int) (r1 : Int) (r2 : List Int) (r3 : List Int) (r4 : Bool) (w : World) (hr2 : Kd.C Kd.bool w A2 l2.length l2) (hc2 : l2.length ≤ c2) (hr3 : Kd.C (Kd.int .i64) w A3 l3.length l3) (hc3 : l3.length ≤ c3) (h : spec_l11Search.f k a0 a1 l2 l3 a4 a5 = some (r1, r2, r3, r4)),
  Calls Try.prog 42 #[.int .i64 a0, .int .i64 a1, .slice A2 l2.length c2, .slice A3 l3.length c3, .int .i64 a4, .int .i64 a5] w fun e w' => ∃ v1_ v2_ : Value, e = .returned (.tuple #[.agg #[.int .i64 r1, v1_, v2_], .bool r4]) ∧ Kd.R (Kd.int .i64) 3 w' w.heap.size (fun k_ => some k_ ≠ (v2_ : Value).ownBlock) v1_ r2 ∧ Kd.R (Kd.int .i64) 3 w' w.heap.size (fun k_ => some k_ ≠ (v1_ : Value).ownBlock) v2_ r3 ∧ Below w.heap.size w w' := by
 induction k using Nat.strongRecOn with
 | _ k ih =>
 intro a0 a1 A2 c2 l2 A3 c3 l3 a4 a5 r1 r2 r3 r4 w hr2 hc2 hr3 hc3 h
 cases k with
 | zero => exact absurd h (by simp [spec_l11Search.f])
 | succ k =>
 simp only [spec_l11Search.f] at h
 have hu30 := Try.underlying30
 have HR2 := Aside0.mk hr2
 have HC2 := Aside0.mk hc2
 clear hr2 hc2
 have HR3 := Aside0.mk hr3
 have HC3 := Aside0.mk hc3
 clear hr3 hc3
 have HB := Aside0.mk (Below.refl w.heap.size w)
 try unfold spec_l11Search.f at h
 have H := h
 clear h
 by_cases c7 : a5 = 0
 ·rw [if_pos c7] at H
  have c7b0 : (a5 == 0) = true := beq_iff_eq.mpr c7
  have c7b1 : (a5 != 0) = false := bne_eq_false_iff_eq.mpr c7
  clear c7
  replace H := Option.bind_eq_some_iff.mp H
  obtain ⟨⟨t462, t463, t466, t469⟩, A80, H⟩ := H
  dsimp only at H
  have A8 := Aside0.mk A80
  clear A80; simp only [Option.some.injEq, Prod.mk.injEq] at H; obtain ⟨rfl, rfl, rfl, rfl⟩ := H; go_enter Try.func42, Try.ntmps42
  go_wp2_with (first | ((with_reducible refine gate_dst (N := 12) rfl ?_); refine box_event ?hg (N := 12) ?hd (cs := #[.int .i64 0, .slice none 0 0, .slice none 0 0]) (t := 30) ?hr ?_; (case hd => rfl); (case hg => rfl); (case hr => first | (go_simp; done) | (go_simp; rfl)); intro gb461 hg w9 hbox hb; have BK461 := Aside0.mk (hbox); have GW461 := Aside0.mk ((by rw [hg]; exact (below_size z15_3) : w.heap.size ≤ gb461)); have GE461 := Aside0.mk ((by rw [hg]; exact (below_size z15_3) : w.heap.size ≤ gb461)); replace HB := Aside0.mk (below_step z15_3 hb); clear hb hbox hg) | ((with_reducible refine gate_callee (f := 53) rfl ?_); refine goesL_ (some 22) rfl rfl Try.func53 (by kernel_rfl) rfl #[.int .i64 a0, .int .i64 a1, .slice A3 l3.length c3] rfl z15_5 ?_; (with_reducible refine (spec_l11Plan.calls k a0 a1 _ _ l3 t462 t463 t466 t469 _ ?side1 ?side2 A8.out).mono ?_); (case side1 => exact cZ ((Kd.C_below HR3.out HB.out))); (case side2 => exact HC3.out); rintro e w10 ⟨v464, v467, rfl, ho0, ho1, hb⟩; refine ⟨_, rfl, ?_⟩; have HO465 := Aside0.mk (Kd.R_lower ho0 (below_size z15_1)); have HO468 := Aside0.mk (Kd.R_lower ho1 (below_size z15_1)); replace BK461 := bBZ_ BK461 hb; replace HB := Aside0.mk (below_step z15_1 hb); (try clear hb); (try clear ho0); (try clear ho1); have ad : w10.cell? ⟨gb461, 0, none⟩ = some (.int .i64 0) := bA15 BK461 rfl; have ae := blk_frozen BK461.out 0; obtain ⟨Ao12, co12, eo12⟩ := Kd.R_slice HO465.out; subst eo12; have af : w10.cell? ⟨gb461, 1, none⟩ = some (.slice none 0 0) := bA15 BK461 rfl; have ag := blk_frozen BK461.out 1; obtain ⟨Ao14, co14, eo14⟩ := Kd.R_slice HO468.out; subst eo14; have ah : w10.cell? ⟨gb461, 2, none⟩ = some (.slice none 0 0) := bA15 BK461 rfl; have ai := blk_frozen BK461.out 2))
  refine bodyPost_ret (results_ct rfl _ _ gb461 30 #[.int .i64 t462, .slice Ao12 t463.length co12, .slice Ao14 t466.length co14] (0, 0) _ rfl (bZ BK461.out) Try.underlying30 rfl (by kernel_rfl)) rfl ?_; exact ⟨_, _, z15_7, by (with_reducible repeat (first | apply Kd.R_alloc | apply Kd.R_drewN | apply Kd.R_drew)); exact Kd.R_mono (Kd.R_far (p := ⟨gb461, 2, none⟩) (Kd.R_far (p := ⟨gb461, 1, none⟩) (Kd.R_far (p := ⟨gb461, 0, none⟩) (Kd.R_types HO465.out BK461.out (by decide)) (fun _ hk => hk.2) (.int .i64 t462)) (fun _ hk => hk.2) (.slice Ao12 t463.length co12)) (fun _ hk => hk.2) (.slice Ao14 t466.length co14)) (fun _ hk => hk.1), by (with_reducible repeat (first | apply Kd.R_alloc | apply Kd.R_drewN | apply Kd.R_drew)); exact Kd.R_mono (Kd.R_far (p := ⟨gb461, 2, none⟩) (Kd.R_far (p := ⟨gb461, 1, none⟩) (Kd.R_far (p := ⟨gb461, 0, none⟩) (Kd.R_types HO468.out BK461.out (by decide)) (fun _ hk => hk.2) (.int .i64 t462)) (fun _ hk => hk.2) (.slice Ao12 t463.length co12)) (fun _ hk => hk.2) (.slice Ao14 t466.length co14)) (fun _ hk => hk.1), z15_1⟩
 ·rw [if_neg c7] at H
  have c7b0 : (a5 == 0) = false := beq_eq_false_iff_ne.mpr c7
  have c7b1 : (a5 != 0) = true := bne_iff_ne.mpr c7
  have H' := Aside0.mk H
  clear H; go_enter Try.func42, Try.ntmps42
  go_wp2_with (first | ((with_reducible refine gate_dst (N := 12) rfl ?_); refine box_event ?hg (N := 12) ?hd (cs := #[.int .i64 0, .slice none 0 0, .slice none 0 0]) (t := 30) ?hr ?_; (case hd => rfl); (case hg => rfl); (case hr => first | (go_simp; done) | (go_simp; rfl)); intro gb461 hg w16 hbox hb; have BK461 := Aside0.mk (hbox); have GW461 := Aside0.mk ((by rw [hg]; exact (below_size z15_3) : w.heap.size ≤ gb461)); have GE461 := Aside0.mk ((by rw [hg]; exact (below_size z15_3) : w.heap.size ≤ gb461)); replace HB := Aside0.mk (below_step z15_3 hb); clear hb hbox hg))
  go_loopg [14] k (fun kq v14 w' => ∃ (x14_1 : Int) (aa : Int), v14 = .int .i64 x14_1 ∧ Aside0 (spec_l11Search.l0 kq a0 a1 l2 l3 a5 x14_1 = some (r1, r2, r3, r4)) ∧ Aside0 (kq ≤ k) ∧ Aside0 (w'.heap[gb461]? = some (.cells #[.int .i64 aa, (.slice none 0 0), (.slice none 0 0)] 30 (0, 0))) ∧ Aside0 (Below w.heap.size w w'))
  case atStart => exact ⟨(a4), (0), z15_6, H', ⟨Nat.le_refl _⟩, ⟨zL15 BK461.out⟩, ⟨z15_1⟩⟩
  case round =>
   clear H'
   try clear c2
   try clear c3
   try clear c7
   try clear c7b0
   try clear c7b1
   obtain ⟨x14_1, aa, rfl, HA, HK1, BK461, HB⟩ := hrel
   cases gk with
   | zero => exact absurd HA.out (by simp [spec_l11Search.l0])
   | succ k1 =>
    have H := HA.out
    clear HA; simp only [spec_l11Search.l0] at H
    by_cases c17 : x14_1 < 8
    ·rw [if_pos c17] at H
     have c17b0 : decide (x14_1 < 8) = true := decide_eq_true c17; clear c17
     have HC18 := Aside0.mk H
     clear H
     go_upto_region 6 with (fail)
     go_cut [39] (fun v39 wc => ∃ (kq : Nat) (x39_17 : Bool), v39 = .bool x39_17 ∧ Aside0 (spec_l11Search.j1 kq a0 a1 l2 l3 a5 x14_1 x39_17 = some (r1, r2, r3, r4)) ∧ Aside0 (kq ≤ k1) ∧ Aside0 (wc.heap[gb461]? = some (.cells #[.int .i64 aa, (.slice none 0 0), (.slice none 0 0)] 30 (0, 0))) ∧ Aside0 (Below w.heap.size w wc))
     case first =>
      have H := HC18.out
      clear HC18; obtain ⟨c19, H⟩ := ifP H; have c19b0 : decide (0 ≤ x14_1) = true := decide_eq_true c19; clear c19; (first | rw [c19b0] | (simp only [i64_w, i32_w]; rw [c19b0]) | skip); obtain ⟨c20, H⟩ := ifP H; have c20b0 : decide (x14_1 < (l2.length : Int)) = true := decide_eq_true c20; clear c20
      obtain ⟨bq21, hbq21⟩ : ∃ b_ : Bool, b_ = (rdOf false l2 x14_1) := ⟨_, rfl⟩
      replace H : (if bq21 = true then (spec_l11Search.j1 k1 a0 a1 l2 l3 a5 x14_1 (x14_1 == a1)) else (spec_l11Search.j1 k1 a0 a1 l2 l3 a5 x14_1 true)) = some (r1, r2, r3, r4) := by rw [← hbq21] at H; exact H
      have Nbq21 := Aside0.mk hbq21
      clear hbq21
      by_cases c22 : bq21 = true
      ·subst c22
       rw [if_pos rfl] at H
       have H' := Aside0.mk H
       clear H; have p470 : 0 ≤ (x14_1 : Int) := of_decide_eq_true z15_8; have q470 : x14_1 < (l2.length : Int) := of_decide_eq_true z15_8; obtain ⟨ad470, e470, hx470_0⟩ := Kd.at_bool HR2.out x14_1 p470 q470; (try rw [← Nbq21.out] at hx470_0); cases e470
       replace hx470_0 := (HB.out.cell (World.block_lt_of_cell? w _ hx470_0)).trans hx470_0
       replace p470 := eq_true p470
       replace q470 := eq_true q470
       go_wp2
       go_meet
       case rel => exact ⟨_, ((x14_1 == a1)), z15_6, H', ⟨by have := HK1.out; first | omega | exact Nat.le_refl _⟩, ⟨zL15 BK461.out⟩, ⟨z15_1⟩⟩
      ·replace c22 := Bool.eq_false_iff.mpr c22
       subst c22; rw [if_neg (show ¬ (false = true) by decide)] at H
       have H' := Aside0.mk H
       clear H; have p470 : 0 ≤ (x14_1 : Int) := of_decide_eq_true z15_8; have q470 : x14_1 < (l2.length : Int) := of_decide_eq_true z15_8; obtain ⟨ad470, e470, hx470_0⟩ := Kd.at_bool HR2.out x14_1 p470 q470; (try rw [← Nbq21.out] at hx470_0); cases e470
       replace hx470_0 := (HB.out.cell (World.block_lt_of_cell? w _ hx470_0)).trans hx470_0
       replace p470 := eq_true p470
       replace q470 := eq_true q470
       go_wp2
       go_meet
       case rel => exact ⟨_, (true), z15_6, H', ⟨by have := HK1.out; first | omega | exact Nat.le_refl _⟩, ⟨zL15 BK461.out⟩, ⟨z15_1⟩⟩
     case rest =>
      clear HC18
      try clear c2
      try clear c3
      try clear c7
      try clear c7b0
      try clear c7b1
      try clear c17
      try clear c17b0
      obtain ⟨kq, x39_17, rfl, HA, HJ17, BK461, HB⟩ := hcut
      cases kq with
      | zero => exact absurd HA.out (by simp [spec_l11Search.j1])
      | succ kj17 =>
       have H := HA.out
       clear HA; simp only [spec_l11Search.j1] at H
       by_cases c23 : x39_17 = true
       ·subst c23
        rw [if_pos rfl] at H
        have H' := Aside0.mk H
        clear H
        go_wp2
        go_roundg kj17
        case measure => have := HK1.out; have := HJ17.out; omega
        case rel => exact ⟨(wrap64 (x14_1 + 1)), (aa), z15_6, H', ⟨z15_10⟩, ⟨zL15 BK461.out⟩, ⟨z15_1⟩⟩
       ·replace c23 := Bool.eq_false_iff.mpr c23
        subst c23; rw [if_neg (show ¬ (false = true) by decide)] at H
        obtain ⟨y471, hy471⟩ : ∃ y_ : List Int, y_ = (([] : List Int)) := ⟨_, rfl⟩
        replace H : (if y471.length + l3.length < 17592186044416 then ((some (y471 ++ l3 : List Int)).bind fun y474 => (if y474.length < 17592186044416 then ((spec_l11Search.f kj17 a0 a1 l2 (y474 ++ [x14_1]) (wrap64 (x14_1 + 1)) (wrap64 (a5 - 1))).bind fun bt480 => (if bt480.2.2.2 = true then (some (bt480.1, bt480.2.1, bt480.2.2.1, true)) else (spec_l11Search.l0 kj17 a0 a1 l2 l3 a5 (wrap64 (x14_1 + 1))))) else (none))) else (none)) = some (r1, r2, r3, r4) := yZZ_ hy471 H
        have Ny471 := Aside0.mk hy471
        clear hy471; obtain ⟨c24, H⟩ := ifP H
        have LMc24 := Aside0.mk c24
        clear c24
        obtain ⟨y474, hy474⟩ : ∃ y_ : List Int, y_ = (y471 ++ l3) := ⟨_, rfl⟩
        replace H : (if y474.length < 17592186044416 then ((spec_l11Search.f kj17 a0 a1 l2 (y474 ++ [x14_1]) (wrap64 (x14_1 + 1)) (wrap64 (a5 - 1))).bind fun bt480 => (if bt480.2.2.2 = true then (some (bt480.1, bt480.2.1, bt480.2.2.1, true)) else (spec_l11Search.l0 kj17 a0 a1 l2 l3 a5 (wrap64 (x14_1 + 1))))) else (none)) = some (r1, r2, r3, r4) := yZZ_ hy474 H
        have Ny474 := Aside0.mk hy474
        clear hy474; obtain ⟨c25, H⟩ := ifP H
        have LMc25 := Aside0.mk c25
        clear c25
        obtain ⟨y477, hy477⟩ : ∃ y_ : List Int, y_ = (y474 ++ [x14_1]) := ⟨_, rfl⟩
        replace H : ((spec_l11Search.f kj17 a0 a1 l2 y477 (wrap64 (x14_1 + 1)) (wrap64 (a5 - 1))).bind fun bt480 => (if bt480.2.2.2 = true then (some (bt480.1, bt480.2.1, bt480.2.2.1, true)) else (spec_l11Search.l0 kj17 a0 a1 l2 l3 a5 (wrap64 (x14_1 + 1))))) = some (r1, r2, r3, r4) := yZZ_ hy477 H
        have Ny477 := Aside0.mk hy477
        clear hy477
        replace H := Option.bind_eq_some_iff.mp H
        obtain ⟨⟨t480, t481, t484, t487⟩, A260, H⟩ := H
        dsimp only at H
        have A26 := Aside0.mk A260
        clear A260
        by_cases c27 : t487 = true
        ·subst c27
         rw [if_pos rfl] at H; simp only [Option.some.injEq, Prod.mk.injEq] at H; obtain ⟨rfl, rfl, rfl, rfl⟩ := H
         go_wp2_with (first | ((with_reducible refine gate_dst (N := 44) rfl ?_); refine Kd.R_lit (Kd.int .i64) _ 3 ?hg (N := 44) ?hd (xs := ([] : List Int)) (inner := []) (ok := fun _ => True) (okp := fun _ => True) ?hr ?hp (fun _ hk => hk) trivial (Below.refl _ _) (Nat.le_refl _) (by simp) ?_; (case hd => rfl); (case hg => rfl); (case hr => first | (go_simp; done) | (go_simp; rfl)); (case hp => exact (Reps.none _ _)); intro v472 w28 ho29 hb hg_ hnew_; clear hg_ hnew_; (first | rw [← Ny471.out] at ho29 | (simp only [Int.reduceToNat] at ho29; rw [← Ny471.out] at ho29)); have HO473 := Aside0.mk (Kd.R_lower ho29 (below_size z15_1)); replace BK461 := bBZ_ BK461 hb; replace HB := Aside0.mk (below_step z15_1 hb); clear hb ho29) | ((with_reducible refine gate_builtin (b := .append) (xs := #[.tmp 44, .tmp 45]) rfl ?_); at_builtin; refine Kd.R_append_rows (Kd.int .i64) (w0 := w) w.heap.size rfl (.tmp 44) (.tmp 45) 28 3 (.int .i64 0) 8 rfl Try.underlying28 info3 rfl (by decide) (by omega) v472 y471 l3 _ _ _ (fun _ => True) (fun _ => False) rfl rfl ?aO ?aR (fun _ _ h => h) (fun _ h => h.elim) ?aF ?aB ?aS ?aL ?_; (case aR => repeat (first | exact (Kd.C_below HR3.out HB.out) | (with_reducible refine Kd.C_alloc ?_ _) | (with_reducible refine Kd.C_drewN ?_ _) | (with_reducible refine Kd.C_drew ?_))); (case aB => exact z15_1); (case aF => exact (fun _ _ => trivial)); (case aO => exact (by (with_reducible repeat (first | apply Kd.R_alloc | apply Kd.R_drewN | apply Kd.R_drew)); exact HO473.out)); (case aS => exact (below_size z15_1)); (case aL => have := LMc24.out; omega); intro v475 w30 ho hb hg hat; rw [← Ny474.out] at ho; have n0_ := Aside0.mk (blk_grown (g := gb461) (o := .cells #[.int .i64 aa, .slice none 0 0, .slice none 0 0] 30 (0, 0)) (zL15 BK461.out) hg (Kd.R_ne HO473.out BK461.out (by decide))); have n1_ := Aside0.mk (hb); have n2_ := Aside0.mk (ho); clear BK461; clear HB; clear HO473; have BK461 := n0_; have HB := n1_; have HO476 := n2_; clear n0_ n1_ n2_; clear ho hb hg hat) | ((with_reducible refine gate_builtin (b := .append) (xs := #[.tmp 46, .tmp 48]) rfl ?_); at_builtin; refine Kd.R_append (Kd.int .i64) (w0 := w) w.heap.size rfl (.tmp 46) (.tmp 48) 28 3 (.int .i64 0) 8 rfl Try.underlying28 info3 rfl (by decide) (by omega) v475 y474 x14_1 [.int .i64 x14_1] (fun _ => True) (fun _ => False) rfl rfl ?aP (fun _ hk => hk.elim) ?aF ?aO ?aB ?aS ?aL ?_; (case aP => exact rfl); (case aB => exact z15_1); (case aF => exact (fun _ _ => trivial)); (case aO => exact (by (with_reducible repeat (first | apply Kd.R_alloc | apply Kd.R_drewN | apply Kd.R_drew)); exact HO476.out)); (case aS => exact (below_size z15_1)); (case aL => have := LMc25.out; omega); intro v478 w31 ho hb hg hat; rw [← Ny477.out] at ho; have n0_ := Aside0.mk (blk_grown (g := gb461) (o := .cells #[.int .i64 aa, .slice none 0 0, .slice none 0 0] 30 (0, 0)) (zL15 BK461.out) hg (Kd.R_ne HO476.out BK461.out (by decide))); have n1_ := Aside0.mk (hb); have n2_ := Aside0.mk (ho); clear BK461; clear HB; clear HO476; have BK461 := n0_; have HB := n1_; have HO479 := n2_; clear n0_ n1_ n2_; clear ho hb hg hat; obtain ⟨Ao32, co32, eo32⟩ := Kd.R_slice HO479.out; subst eo32) | ((with_reducible refine gate_callee (f := 42) rfl ?_); refine goesL_ (some 54) rfl rfl Try.func42 (by kernel_rfl) rfl #[.int .i64 a0, .int .i64 a1, .slice A2 l2.length c2, .slice Ao32 y477.length co32, .int .i64 (wrap64 (x14_1 + 1)), .int .i64 (wrap64 (a5 - 1))] rfl z15_5 ?_; (with_reducible refine (ih kj17 z15_10 a0 a1 _ _ l2 _ _ y477 (wrap64 (x14_1 + 1)) (wrap64 (a5 - 1)) t480 t481 t484 true _ ?side1 ?side2 ?side3 ?side4 A26.out).mono ?_); (case side1 => exact cZ ((Kd.C_below HR2.out HB.out))); (case side2 => exact HC2.out); (case side3 => exact cZ ((Kd.R_reads' HO479.out).2.2)); (case side4 => exact (Kd.R_reads' HO479.out).2.1); rintro e w33 ⟨v482, v485, rfl, ho0, ho1, hb⟩; refine ⟨_, rfl, ?_⟩; have HO483 := Aside0.mk (Kd.R_lower (Kd.R_new' ho0 (Kd.R_lt z15_2)) (below_size z15_1)); have HO486 := Aside0.mk (Kd.R_lower (Kd.R_new' ho1 (Kd.R_lt z15_2)) (below_size z15_1)); replace HO479 := Aside0.mk (Kd.R_mono (Kd.R_told (Kd.R_told (Kd.R_old z15_2 hb) (Kd.R_base ho0)) (Kd.R_base ho1)) (fun _ h_ => h_.1)); replace BK461 := bBZ_ BK461 hb; replace HB := Aside0.mk (below_step z15_1 hb); (try clear hb); (try clear ho0); (try clear ho1)) | ((with_reducible refine gate_dst (N := 15) rfl ?_); refine box_event ?hg (N := 15) ?hd (cs := #[.int .i64 0, .slice none 0 0, .slice none 0 0]) (t := 30) ?hr ?_; (case hd => rfl); (case hg => rfl); (case hr => first | (go_simp; done) | (go_simp; rfl)); intro gb488 hg w34 hbox hb; replace HO479 := Aside0.mk (Kd.R_below z15_2 hb); replace HO483 := Aside0.mk (Kd.R_below (by (with_reducible repeat (first | apply Kd.R_alloc | apply Kd.R_drewN | apply Kd.R_drew)); exact HO483.out) hb); replace HO486 := Aside0.mk (Kd.R_below (by (with_reducible repeat (first | apply Kd.R_alloc | apply Kd.R_drewN | apply Kd.R_drew)); exact HO486.out) hb); have BK488 := Aside0.mk (hbox); have GW488 := Aside0.mk ((by rw [hg]; exact (below_size z15_1) : w.heap.size ≤ gb488)); have GE488 := Aside0.mk ((by rw [hg]; exact (below_size z15_1) : w.heap.size ≤ gb488)); replace HB := Aside0.mk (below_step z15_1 hb); have ab := Aside0.mk ((by rw [hg]; exact bLZ_ BK461 : gb461 ≠ gb488)); have ac := Aside0.mk ((by rw [hg]; exact bGZ_ BK461 : gb488 ≠ gb461)); replace BK461 := bBZ_ BK461 hb; clear hb hbox hg; have hnb35 := ac.out; have hnc35 := ab.out; have hcz36_0 : w34.cell? ⟨gb488, 0, none⟩ = some (.int .i64 0) := bA15 BK488 rfl; have hfz36_0 := blk_frozen BK488.out 0; obtain ⟨Ao37, co37, eo37⟩ := Kd.R_slice HO483.out; subst eo37; have hcz38_1 : w34.cell? ⟨gb488, 1, none⟩ = some (.slice none 0 0) := bA15 BK488 rfl; have hfz38_1 := blk_frozen BK488.out 1; obtain ⟨Ao39, co39, eo39⟩ := Kd.R_slice HO486.out; subst eo39; have hcz40_2 : w34.cell? ⟨gb488, 2, none⟩ = some (.slice none 0 0) := bA15 BK488 rfl; have hfz40_2 := blk_frozen BK488.out 2; obtain ⟨hcz42_0, hfz42_0, hcz43_1, hfz43_1, hcz44_2, hfz44_2⟩ := cAZ3_ BK461) | ((with_reducible refine gate_store (t := 30) (p := 12) rfl ?_); refine store_event (t := 30) (p := 12) (v := ?vo_w45) (w1 := ((((((w34.setCell ⟨gb488, 0, none⟩ (.int .i64 t480)).setCell ⟨gb488, 1, none⟩ (.slice Ao37 t481.length co37)).setCell ⟨gb488, 2, none⟩ (.slice Ao39 t484.length co39)).setCell ⟨gb461, 0, none⟩ (.int .i64 t480)).setCell ⟨gb461, 1, none⟩ (.slice Ao37 t481.length co37)).setCell ⟨gb461, 2, none⟩ (.slice Ao39 t484.length co39))) ?hg ?ho ?hn ?hr ?_; (case ho => rfl); (case hg => rfl); (case hn => rfl); (case hr => first | (go_simp; done) | (go_simp; rfl)); intro w45 hw; have n0_ : Aside0 (Kd.R (Kd.int .i64) 3 w45 w.heap.size (fun k_ => some k_ ≠ (.slice Ao37 t481.length co37 : Value).ownBlock ∧ some k_ ≠ (.slice Ao39 t484.length co39 : Value).ownBlock) (.slice Ao32 y477.length co32) y477) := ⟨(by rw [hw]; exact (by (with_reducible repeat (first | apply Kd.R_alloc | apply Kd.R_drewN | apply Kd.R_drew)); exact Kd.R_mono (Kd.R_far (p := ⟨gb461, 2, none⟩) (Kd.R_far (p := ⟨gb461, 1, none⟩) (Kd.R_far (p := ⟨gb461, 0, none⟩) (Kd.R_far (p := ⟨gb488, 2, none⟩) (Kd.R_far (p := ⟨gb488, 1, none⟩) (Kd.R_far (p := ⟨gb488, 0, none⟩) (Kd.R_types (Kd.R_types HO479.out BK488.out (by decide)) BK461.out (by decide)) (fun _ hk => hk.1.2) (.int .i64 t480)) (fun _ hk => hk.1.2) (.slice Ao37 t481.length co37)) (fun _ hk => hk.1.2) (.slice Ao39 t484.length co39)) (fun _ hk => hk.2) (.int .i64 t480)) (fun _ hk => hk.2) (.slice Ao37 t481.length co37)) (fun _ hk => hk.2) (.slice Ao39 t484.length co39)) (fun _ hk => ⟨hk.1.1.1.2, hk.1.1.2⟩)))⟩; have n1_ : Aside0 (Kd.R (Kd.int .i64) 3 w45 w.heap.size (fun k_ => some k_ ≠ (.slice Ao32 y477.length co32 : Value).ownBlock ∧ some k_ ≠ (.slice Ao39 t484.length co39 : Value).ownBlock) (.slice Ao37 t481.length co37) t481) := ⟨(by rw [hw]; exact (by (with_reducible repeat (first | apply Kd.R_alloc | apply Kd.R_drewN | apply Kd.R_drew)); exact Kd.R_mono (Kd.R_far (p := ⟨gb461, 2, none⟩) (Kd.R_far (p := ⟨gb461, 1, none⟩) (Kd.R_far (p := ⟨gb461, 0, none⟩) (Kd.R_far (p := ⟨gb488, 2, none⟩) (Kd.R_far (p := ⟨gb488, 1, none⟩) (Kd.R_far (p := ⟨gb488, 0, none⟩) (Kd.R_types (Kd.R_types HO483.out BK488.out (by decide)) BK461.out (by decide)) (fun _ hk => hk.1.2) (.int .i64 t480)) (fun _ hk => hk.1.2) (.slice Ao37 t481.length co37)) (fun _ hk => hk.1.2) (.slice Ao39 t484.length co39)) (fun _ hk => hk.2) (.int .i64 t480)) (fun _ hk => hk.2) (.slice Ao37 t481.length co37)) (fun _ hk => hk.2) (.slice Ao39 t484.length co39)) (fun _ hk => ⟨hk.1.1.2, hk.1.1.1⟩)))⟩; have n2_ : Aside0 (Kd.R (Kd.int .i64) 3 w45 w.heap.size (fun k_ => some k_ ≠ (.slice Ao32 y477.length co32 : Value).ownBlock ∧ some k_ ≠ (.slice Ao37 t481.length co37 : Value).ownBlock) (.slice Ao39 t484.length co39) t484) := ⟨(by rw [hw]; exact (by (with_reducible repeat (first | apply Kd.R_alloc | apply Kd.R_drewN | apply Kd.R_drew)); exact Kd.R_mono (Kd.R_far (p := ⟨gb461, 2, none⟩) (Kd.R_far (p := ⟨gb461, 1, none⟩) (Kd.R_far (p := ⟨gb461, 0, none⟩) (Kd.R_far (p := ⟨gb488, 2, none⟩) (Kd.R_far (p := ⟨gb488, 1, none⟩) (Kd.R_far (p := ⟨gb488, 0, none⟩) (Kd.R_types (Kd.R_types HO486.out BK488.out (by decide)) BK461.out (by decide)) (fun _ hk => hk.1.2) (.int .i64 t480)) (fun _ hk => hk.1.2) (.slice Ao37 t481.length co37)) (fun _ hk => hk.1.2) (.slice Ao39 t484.length co39)) (fun _ hk => hk.2) (.int .i64 t480)) (fun _ hk => hk.2) (.slice Ao37 t481.length co37)) (fun _ hk => hk.2) (.slice Ao39 t484.length co39)) (fun _ hk => ⟨hk.1.1.2, hk.1.1.1⟩)))⟩; have n3_ : Aside0 (w45.heap[gb461]? = some (.cells #[.int .i64 t480, .slice Ao37 t481.length co37, .slice Ao39 t484.length co39] 30 (0, 0))) := ⟨(by rw [hw]; exact (by (with_reducible repeat first|refine blk_drewN ?_ _|refine blk_drew ?_|refine blk_alloc ?_ _); refine blk_put (cs := #[.int .i64 t480, .slice Ao37 t481.length co37, .slice none 0 0]) ?_ 2 _ rfl; (with_reducible repeat first|refine blk_drewN ?_ _|refine blk_drew ?_|refine blk_alloc ?_ _); refine blk_put (cs := #[.int .i64 t480, .slice none 0 0, .slice none 0 0]) ?_ 1 _ rfl; (with_reducible repeat first|refine blk_drewN ?_ _|refine blk_drew ?_|refine blk_alloc ?_ _); refine blk_put (cs := #[.int .i64 aa, .slice none 0 0, .slice none 0 0]) ?_ 0 _ rfl; (with_reducible repeat first|refine blk_drewN ?_ _|refine blk_drew ?_|refine blk_alloc ?_ _); refine blk_far ?_ ab.out _; (with_reducible repeat first|refine blk_drewN ?_ _|refine blk_drew ?_|refine blk_alloc ?_ _); refine blk_far ?_ ab.out _; (with_reducible repeat first|refine blk_drewN ?_ _|refine blk_drew ?_|refine blk_alloc ?_ _); refine blk_far ?_ ab.out _; (with_reducible repeat first|refine blk_drewN ?_ _|refine blk_drew ?_|refine blk_alloc ?_ _); exact BK461.out))⟩; have n4_ : Aside0 (w45.heap[gb488]? = some (.cells #[.int .i64 t480, .slice Ao37 t481.length co37, .slice Ao39 t484.length co39] 30 (0, 0))) := ⟨(by rw [hw]; exact (by (with_reducible repeat first|refine blk_drewN ?_ _|refine blk_drew ?_|refine blk_alloc ?_ _); refine blk_far ?_ ac.out _; (with_reducible repeat first|refine blk_drewN ?_ _|refine blk_drew ?_|refine blk_alloc ?_ _); refine blk_far ?_ ac.out _; (with_reducible repeat first|refine blk_drewN ?_ _|refine blk_drew ?_|refine blk_alloc ?_ _); refine blk_far ?_ ac.out _; (with_reducible repeat first|refine blk_drewN ?_ _|refine blk_drew ?_|refine blk_alloc ?_ _); refine blk_put (cs := #[.int .i64 t480, .slice Ao37 t481.length co37, .slice none 0 0]) ?_ 2 _ rfl; (with_reducible repeat first|refine blk_drewN ?_ _|refine blk_drew ?_|refine blk_alloc ?_ _); refine blk_put (cs := #[.int .i64 t480, .slice none 0 0, .slice none 0 0]) ?_ 1 _ rfl; (with_reducible repeat first|refine blk_drewN ?_ _|refine blk_drew ?_|refine blk_alloc ?_ _); refine blk_put (cs := #[.int .i64 0, .slice none 0 0, .slice none 0 0]) ?_ 0 _ rfl; (with_reducible repeat first|refine blk_drewN ?_ _|refine blk_drew ?_|refine blk_alloc ?_ _); exact BK488.out))⟩; have n5_ : Aside0 (Below w.heap.size w w45) := ⟨(by rw [hw]; exact z15_4)⟩; clear hw; clear HO479; clear HO483; clear HO486; clear BK461; clear BK488; clear HB; have HO479 := n0_; have HO483 := n1_; have HO486 := n2_; have BK461 := n3_; have BK488 := n4_; have HB := n5_; clear n0_ n1_ n2_ n3_ n4_ n5_))
         refine bodyPost_ret (results_ct rfl _ _ gb461 30 #[.int .i64 t480, .slice Ao37 t481.length co37, .slice Ao39 t484.length co39] (0, 0) _ rfl (zL15 BK461.out) Try.underlying30 rfl (by kernel_rfl)) rfl ?_; exact ⟨_, _, z15_7, by (with_reducible repeat (first | apply Kd.R_alloc | apply Kd.R_drewN | apply Kd.R_drew)); exact Kd.R_mono HO483.out (fun _ hk => hk.2), by (with_reducible repeat (first | apply Kd.R_alloc | apply Kd.R_drewN | apply Kd.R_drew)); exact Kd.R_mono HO486.out (fun _ hk => hk.2), z15_4⟩
        ·replace c27 := Bool.eq_false_iff.mpr c27
         subst c27; rw [if_neg (show ¬ (false = true) by decide)] at H
         have H' := Aside0.mk H
         clear H
         go_wp2_with (first | ((with_reducible refine gate_dst (N := 44) rfl ?_); refine Kd.R_lit (Kd.int .i64) _ 3 ?hg (N := 44) ?hd (xs := ([] : List Int)) (inner := []) (ok := fun _ => True) (okp := fun _ => True) ?hr ?hp (fun _ hk => hk) trivial (Below.refl _ _) (Nat.le_refl _) (by simp) ?_; (case hd => rfl); (case hg => rfl); (case hr => first | (go_simp; done) | (go_simp; rfl)); (case hp => exact (Reps.none _ _)); intro v472 w46 ho47 hb hg_ hnew_; clear hg_ hnew_; (first | rw [← Ny471.out] at ho47 | (simp only [Int.reduceToNat] at ho47; rw [← Ny471.out] at ho47)); have HO473 := Aside0.mk (Kd.R_lower ho47 (below_size z15_1)); replace BK461 := bBZ_ BK461 hb; replace HB := Aside0.mk (below_step z15_1 hb); clear hb ho47) | ((with_reducible refine gate_builtin (b := .append) (xs := #[.tmp 44, .tmp 45]) rfl ?_); at_builtin; refine Kd.R_append_rows (Kd.int .i64) (w0 := w) w.heap.size rfl (.tmp 44) (.tmp 45) 28 3 (.int .i64 0) 8 rfl Try.underlying28 info3 rfl (by decide) (by omega) v472 y471 l3 _ _ _ (fun _ => True) (fun _ => False) rfl rfl ?aO ?aR (fun _ _ h => h) (fun _ h => h.elim) ?aF ?aB ?aS ?aL ?_; (case aR => repeat (first | exact (Kd.C_below HR3.out HB.out) | (with_reducible refine Kd.C_alloc ?_ _) | (with_reducible refine Kd.C_drewN ?_ _) | (with_reducible refine Kd.C_drew ?_))); (case aB => exact z15_1); (case aF => exact (fun _ _ => trivial)); (case aO => exact (by (with_reducible repeat (first | apply Kd.R_alloc | apply Kd.R_drewN | apply Kd.R_drew)); exact HO473.out)); (case aS => exact (below_size z15_1)); (case aL => have := LMc24.out; omega); intro v475 w48 ho hb hg hat; rw [← Ny474.out] at ho; have n0_ := Aside0.mk (blk_grown (g := gb461) (o := .cells #[.int .i64 aa, .slice none 0 0, .slice none 0 0] 30 (0, 0)) (zL15 BK461.out) hg (Kd.R_ne HO473.out BK461.out (by decide))); have n1_ := Aside0.mk (hb); have n2_ := Aside0.mk (ho); clear BK461; clear HB; clear HO473; have BK461 := n0_; have HB := n1_; have HO476 := n2_; clear n0_ n1_ n2_; clear ho hb hg hat) | ((with_reducible refine gate_builtin (b := .append) (xs := #[.tmp 46, .tmp 48]) rfl ?_); at_builtin; refine Kd.R_append (Kd.int .i64) (w0 := w) w.heap.size rfl (.tmp 46) (.tmp 48) 28 3 (.int .i64 0) 8 rfl Try.underlying28 info3 rfl (by decide) (by omega) v475 y474 x14_1 [.int .i64 x14_1] (fun _ => True) (fun _ => False) rfl rfl ?aP (fun _ hk => hk.elim) ?aF ?aO ?aB ?aS ?aL ?_; (case aP => exact rfl); (case aB => exact z15_1); (case aF => exact (fun _ _ => trivial)); (case aO => exact (by (with_reducible repeat (first | apply Kd.R_alloc | apply Kd.R_drewN | apply Kd.R_drew)); exact HO476.out)); (case aS => exact (below_size z15_1)); (case aL => have := LMc25.out; omega); intro v478 w49 ho hb hg hat; rw [← Ny477.out] at ho; have n0_ := Aside0.mk (blk_grown (g := gb461) (o := .cells #[.int .i64 aa, .slice none 0 0, .slice none 0 0] 30 (0, 0)) (zL15 BK461.out) hg (Kd.R_ne HO476.out BK461.out (by decide))); have n1_ := Aside0.mk (hb); have n2_ := Aside0.mk (ho); clear BK461; clear HB; clear HO476; have BK461 := n0_; have HB := n1_; have HO479 := n2_; clear n0_ n1_ n2_; clear ho hb hg hat; obtain ⟨Ao50, co50, eo50⟩ := Kd.R_slice HO479.out; subst eo50) | ((with_reducible refine gate_callee (f := 42) rfl ?_); refine goesL_ (some 54) rfl rfl Try.func42 (by kernel_rfl) rfl #[.int .i64 a0, .int .i64 a1, .slice A2 l2.length c2, .slice Ao50 y477.length co50, .int .i64 (wrap64 (x14_1 + 1)), .int .i64 (wrap64 (a5 - 1))] rfl z15_5 ?_; (with_reducible refine (ih kj17 z15_10 a0 a1 _ _ l2 _ _ y477 (wrap64 (x14_1 + 1)) (wrap64 (a5 - 1)) t480 t481 t484 false _ ?side1 ?side2 ?side3 ?side4 A26.out).mono ?_); (case side1 => exact cZ ((Kd.C_below HR2.out HB.out))); (case side2 => exact HC2.out); (case side3 => exact cZ ((Kd.R_reads' HO479.out).2.2)); (case side4 => exact (Kd.R_reads' HO479.out).2.1); rintro e w51 ⟨v482, v485, rfl, ho0, ho1, hb⟩; refine ⟨_, rfl, ?_⟩; have HO483 := Aside0.mk (Kd.R_lower (Kd.R_new' ho0 (Kd.R_lt z15_2)) (below_size z15_1)); have HO486 := Aside0.mk (Kd.R_lower (Kd.R_new' ho1 (Kd.R_lt z15_2)) (below_size z15_1)); replace HO479 := Aside0.mk (Kd.R_mono (Kd.R_told (Kd.R_told (Kd.R_old z15_2 hb) (Kd.R_base ho0)) (Kd.R_base ho1)) (fun _ h_ => h_.1)); replace BK461 := bBZ_ BK461 hb; replace HB := Aside0.mk (below_step z15_1 hb); (try clear hb); (try clear ho0); (try clear ho1)) | ((with_reducible refine gate_dst (N := 15) rfl ?_); refine box_event ?hg (N := 15) ?hd (cs := #[.int .i64 0, .slice none 0 0, .slice none 0 0]) (t := 30) ?hr ?_; (case hd => rfl); (case hg => rfl); (case hr => first | (go_simp; done) | (go_simp; rfl)); intro gb488 hg w52 hbox hb; replace HO479 := Aside0.mk (Kd.R_below z15_2 hb); replace HO483 := Aside0.mk (Kd.R_below (by (with_reducible repeat (first | apply Kd.R_alloc | apply Kd.R_drewN | apply Kd.R_drew)); exact HO483.out) hb); replace HO486 := Aside0.mk (Kd.R_below (by (with_reducible repeat (first | apply Kd.R_alloc | apply Kd.R_drewN | apply Kd.R_drew)); exact HO486.out) hb); have BK488 := Aside0.mk (hbox); have GW488 := Aside0.mk ((by rw [hg]; exact (below_size z15_1) : w.heap.size ≤ gb488)); have GE488 := Aside0.mk ((by rw [hg]; exact (below_size z15_1) : w.heap.size ≤ gb488)); replace HB := Aside0.mk (below_step z15_1 hb); have ab := Aside0.mk ((by rw [hg]; exact bLZ_ BK461 : gb461 ≠ gb488)); have ac := Aside0.mk ((by rw [hg]; exact bGZ_ BK461 : gb488 ≠ gb461)); replace BK461 := bBZ_ BK461 hb; clear hb hbox hg; have hnb53 := ac.out; have hnc53 := ab.out; have hcz54_0 : w52.cell? ⟨gb488, 0, none⟩ = some (.int .i64 0) := bA15 BK488 rfl; have hfz54_0 := blk_frozen BK488.out 0; obtain ⟨Ao55, co55, eo55⟩ := Kd.R_slice HO483.out; subst eo55; have hcz56_1 : w52.cell? ⟨gb488, 1, none⟩ = some (.slice none 0 0) := bA15 BK488 rfl; have hfz56_1 := blk_frozen BK488.out 1; obtain ⟨Ao57, co57, eo57⟩ := Kd.R_slice HO486.out; subst eo57; have hcz58_2 : w52.cell? ⟨gb488, 2, none⟩ = some (.slice none 0 0) := bA15 BK488 rfl; have hfz58_2 := blk_frozen BK488.out 2))
         go_roundg kj17
         case measure => have := HK1.out; have := HJ17.out; omega
         case rel => exact ⟨(wrap64 (x14_1 + 1)), (aa), z15_6, H', ⟨z15_10⟩, ⟨gZ ab.out BK461.out⟩, ⟨z15_4⟩⟩
    ·rw [if_neg c17] at H
     have c17b0 : decide (x14_1 < 8) = false := decide_eq_false c17; clear c17; simp only [Option.some.injEq, Prod.mk.injEq] at H; obtain ⟨rfl, rfl, rfl, rfl⟩ := H; obtain ⟨hcz59_0, hfz59_0, hcz60_1, hfz60_1, hcz61_2, hfz61_2⟩ := cAZ3_ BK461
     go_wp2
     refine bodyPost_ret (results_ct rfl _ _ gb461 30 #[.int .i64 0, .slice none 0 0, .slice none 0 0] (0, 0) _ rfl (bZ BK461.out) Try.underlying30 rfl (by kernel_rfl)) rfl ?_; exact ⟨_, _, z15_7, z15_9, z15_9, z15_1⟩

end Go.Proofs.Ytfgpffocieegdaa.PA
