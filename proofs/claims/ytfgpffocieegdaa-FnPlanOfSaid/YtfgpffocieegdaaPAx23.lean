import Derived.Test.YtfgpffocieegdaaPAx0
import Derived.Test.YtfgpffocieegdaaPAx1
import Derived.Test.YtfgpffocieegdaaPAx2
import Derived.Test.YtfgpffocieegdaaPAx8
import Derived.Test.YtfgpffocieegdaaPAx19
import Derived.Test.YtfgpffocieegdaaGw
import Derived.Test.YtfgpffocieegdaaGm
import Derived.Test.YtfgpffocieegdaaGc
namespace Go.Proofs.Ytfgpffocieegdaa.PA
open Go.RowKit Go.Proofs.YtfgpffocieegdaaW.PrintWords Go.Proofs.YtfgpffocieegdaaW.PrintLast Go.Proofs.YtfgpffocieegdaaW.PrintMore
attribute [local go_sem] max2_int min2_int max_two min_two max_three min_three max_four min_four   -- for this text's walks alone
set_option linter.unusedVariables false
set_option linter.unusedSimpArgs false

attribute [local go_sem high] eqA54
/-! ### impl_PlanOk: function 16 -/
theorem zL23 {p q : Prop} (h : q) (t : q → p := by intro h_; (with_reducible repeat first|refine blk_drewN ?_ _|refine blk_drew ?_|refine blk_alloc ?_ _); exact h_) : p := t h
theorem z23_1 {p : Prop} (h : p := by repeat (first | (with_reducible first | exact HB.out | apply below_alloc | apply pw_below_drewN | apply below_drew1 | refine below_set ?_ GE587.out) | exact HB.out)) : p := h
theorem z23_2 {p : Prop} (h : p := by repeat (first | (with_reducible first | exact HB.out | apply below_alloc | apply pw_below_drewN | apply below_drew1 | refine below_set ?_ GE587.out | refine below_set ?_ GE590.out) | exact HB.out)) : p := h
theorem z23_3 {p : Prop} (h : p := by (try simp only [List.map_toArray, List.map_cons, List.map_nil]); first | done | rfl | (simp only [List.length_drop, List.length_take]; rfl)) : p := h
theorem z23_4 {p : Prop} (h : p := by repeat (first | (with_reducible first | exact HB.out | apply below_alloc | apply pw_below_drewN | apply below_drew1) | exact HB.out)) : p := h
theorem z23_5 {p : Prop} (h : p := by first | (with_reducible assumption) | assumption) : p := h
theorem z23_6 {p : Prop} (h : p := by first | rfl | (simp; done) | (simp [*]; done)) : p := h
mutual
def impl_PlanOk.j0 : Nat → Int → Bool → Int → List Int → List Int → Option (Bool)
  | 0, _, _, _, _, _ => none
  | k + 1, x0, x15, x588000, x588001, x588002 => if x15 = true then (some false) else (impl_PlanOk.l0 k x0 x588001 (x588001.length : Int) 0 x588000 x588001 x588002 0 0 0 0)
def impl_PlanOk.l0 : Nat → Int → List Int → Int → Int → Int → List Int → List Int → Int → Int → Int → Int → Option (Bool)
  | 0, _, _, _, _, _, _, _, _, _, _, _ => none
  | k + 1, x0, x17, x18, x19, x588000, x588001, x588002, x591000, x591001, x591002, x591003 => if x19 < x18 then (if 0 ≤ x19 then (if x19 < (x17.length : Int) then ((impl_rowOf.f x0 (rd x17 x19)).bind fun bt592 => (if x19 < (x588002.length : Int) then ((impl_vector_times.f bt592.1 bt592.2.1 bt592.2.2.1 bt592.2.2.2 (rd x588002 x19)).bind fun bt597 => ((impl_vector_plus.f x591000 x591001 x591002 x591003 bt597.1 bt597.2.1 bt597.2.2.1 bt597.2.2.2).bind fun bt601 => (impl_PlanOk.l0 k x0 x17 x18 (wrap64 (x19 + 1)) x588000 x588001 x588002 bt601.1 bt601.2.1 bt601.2.2.1 bt601.2.2.2))) else (none))) else (none)) else (none)) else ((impl_rowOf.f x0 x588000).bind fun bt605 => (some (x591000 == bt605.1 && (x591001 == bt605.2.1 && (x591002 == bt605.2.2.1 && (x591003 == bt605.2.2.2))))))
end
def impl_PlanOk.f (k : Nat) (a0 : Int) (a1_0 : Int) (l1_1 : List Int) (l1_2 : List Int) : Option (Bool) := (impl_kindOk.f a0).bind fun t588 => (if t588 = true then ((impl_Plan_formed.f k a1_0 l1_1 l1_2).bind fun t589 => (impl_PlanOk.j0 k a0 (!t589) a1_0 l1_1 l1_2)) else (impl_PlanOk.j0 k a0 true a1_0 l1_1 l1_2))
def impl_PlanOk.T7 : Bool × List (List Nat × List Nat) := (true, [([], []), ([], []), ([], []), ([1, 2], [1, 2]), ([], []), ([4], [4]), ([], []), ([5, 6], [5, 6]), ([7], [7]), ([3, 8, 3], [3, 8]), ([0, 9, 9], [0, 9]), ([10, 10, 0, 1, 2, 3, 4, 5, 6, 7, 8, 9, 10], [10])])
def impl_PlanOk.B7 : List Nat := [0, 0, 0, 6, 0, 16, 0, 112, 240, 510, 1023, 2047]
theorem impl_PlanOk.tab7 : rtab .any (opsOf Try.f16 7) = impl_PlanOk.T7 := by kernel_rfl
theorem impl_PlanOk.bits7 : waitsOk impl_PlanOk.T7.2 impl_PlanOk.B7 = true := by kernel_rfl
set_option maxHeartbeats 8000000 in
set_option maxRecDepth 100000 in
theorem impl_PlanOk.calls (k : Nat) (a0 : Int) (a1_0 : Int) (A1_1 : Option Addr) (c1_1 : Nat) (l1_1 : List Int) (A1_2 : Option Addr) (c1_2 : Nat) (l1_2 : List Int) (r : Bool) (w : World) (hr1_1 : Kd.C (Kd.int .i64) w A1_1 l1_1.length l1_1) (hc1_1 : l1_1.length ≤ c1_1) (hr1_2 : Kd.C (Kd.int .i64) w A1_2 l1_2.length l1_2) (hc1_2 : l1_2.length ≤ c1_2) (h : impl_PlanOk.f k a0 a1_0 l1_1 l1_2 = some r) :
  Calls Try.prog 16 #[.int .i64 a0, .agg #[.int .i64 a1_0, .slice A1_1 l1_1.length c1_1, .slice A1_2 l1_2.length c1_2]] w fun e w' => e = .returned (.bool r) ∧ Below w.heap.size w w' := by
 have hu30 := Try.underlying30
 have hu54 := Try.underlying54
 have HR1_1 := Aside0.mk hr1_1
 have HC1_1 := Aside0.mk hc1_1
 clear hr1_1 hc1_1
 have HR1_2 := Aside0.mk hr1_2
 have HC1_2 := Aside0.mk hc1_2
 clear hr1_2 hc1_2
 have HB := Aside0.mk (Below.refl w.heap.size w)
 unfold impl_PlanOk.f at h
 have H := h
 clear h
 have HC3 := Aside0.mk H
 clear H
 go_enter Try.func16, Try.ntmps16
 go_upto_region 1 with (first | ((with_reducible refine gate_dst (N := 3) rfl ?_); refine box_event ?hg (N := 3) ?hd (cs := #[.int .i64 a1_0, .slice A1_1 l1_1.length c1_1, .slice A1_2 l1_2.length c1_2]) (t := 30) ?hr ?_; (case hd => rfl); (case hg => rfl); (case hr => first | (go_simp; done) | (go_simp; rfl)); intro gb587 hg w4 hbox hb; have BK587 := Aside0.mk (hbox); have GW587 := Aside0.mk ((by rw [hg]; exact (below_size z23_4) : w.heap.size ≤ gb587)); have GE587 := Aside0.mk ((by rw [hg]; exact (below_size z23_4) : w.heap.size ≤ gb587)); replace HB := Aside0.mk (below_step z23_4 hb); clear hb hbox hg))
 (try simp only [Act.put, List.setIfInBounds_toArray, List.set_cons_zero, List.set_cons_succ])
 go_cut [15] (fun v15 wc => ∃ (kq : Nat) (x15_2 : Bool), v15 = .bool x15_2 ∧ Aside0 (impl_PlanOk.j0 kq a0 x15_2 a1_0 l1_1 l1_2 = some r) ∧ Aside0 (kq ≤ k) ∧ Aside0 (wc.heap[gb587]? = some (.cells #[.int .i64 a1_0, (.slice A1_1 l1_1.length c1_1), (.slice A1_2 l1_2.length c1_2)] 30 (0, 0))) ∧ Aside0 (Below w.heap.size w wc))
 case first =>
  have H := HC3.out
  clear HC3
  replace H := Option.bind_eq_some_iff.mp H
  obtain ⟨t588, A50, H⟩ := H
  have A5 := Aside0.mk A50
  clear A50
  by_cases c6 : t588 = true
  ·subst c6
   rw [if_pos rfl] at H
   replace H := Option.bind_eq_some_iff.mp H
   obtain ⟨t589, A70, H⟩ := H
   have A7 := Aside0.mk A70
   clear A70
   have H' := Aside0.mk H
   clear H
   go_wp2_with (first | ((with_reducible refine gate_callee (f := 18) rfl ?_); refine goesL_ (some 9) rfl rfl Try.func18 (by kernel_rfl) rfl #[.int .i64 a0] rfl z23_3 ?_; (with_reducible refine (impl_kindOk.calls a0 true _ A5.out).mono ?_); rintro e w' ⟨rfl, ⟨nd, rfl⟩⟩; refine ⟨_, rfl, ?_⟩; have ac : w4.cell? ⟨gb587, 0, none⟩ = some (.int .i64 a1_0) := (blk_cell BK587.out 0).trans rfl; have ad : w4.cell? ⟨gb587, 1, none⟩ = some (.slice A1_1 l1_1.length c1_1) := (blk_cell BK587.out 1).trans rfl; have ae : w4.cell? ⟨gb587, 2, none⟩ = some (.slice A1_2 l1_2.length c1_2) := (blk_cell BK587.out 2).trans rfl; have af := blk_frozen BK587.out 0; have ag := blk_frozen BK587.out 1; have ah := blk_frozen BK587.out 2) | (go_at_call 31; (with_reducible refine (impl_Plan_formed.calls k a1_0 _ _ l1_1 _ _ l1_2 t589 _ ?side1 ?side2 ?side3 ?side4 A7.out).mono ?_); (case side1 => repeat (first | exact (Kd.C_below HR1_1.out z23_1) | (with_reducible refine Kd.C_alloc ?_ _) | (with_reducible refine Kd.C_drewN ?_ _) | (with_reducible refine Kd.C_drew ?_))); (case side2 => exact HC1_1.out); (case side3 => repeat (first | exact (Kd.C_below HR1_2.out z23_1) | (with_reducible refine Kd.C_alloc ?_ _) | (with_reducible refine Kd.C_drewN ?_ _) | (with_reducible refine Kd.C_drew ?_))); (case side4 => exact HC1_2.out); rintro e w9 ⟨rfl, hb⟩; replace BK587 := bBZ_ BK587 hb; replace HB := Aside0.mk (below_step z23_1 hb); (try clear hb)))
   go_meet
   case rel => exact ⟨_, (!t589), z23_6, H', ⟨by first | omega | exact Nat.le_refl _⟩, ⟨zL23 BK587.out⟩, ⟨z23_1⟩⟩
  ·replace c6 := Bool.eq_false_iff.mpr c6
   subst c6; rw [if_neg (show ¬ (false = true) by decide)] at H
   have H' := Aside0.mk H
   clear H
   go_wp2_with (first | ((with_reducible refine gate_callee (f := 18) rfl ?_); refine goesL_ (some 9) rfl rfl Try.func18 (by kernel_rfl) rfl #[.int .i64 a0] rfl z23_3 ?_; (with_reducible refine (impl_kindOk.calls a0 false _ A5.out).mono ?_); rintro e w' ⟨rfl, ⟨nd, rfl⟩⟩; refine ⟨_, rfl, ?_⟩))
   go_meet
   case rel => exact ⟨_, (true), z23_6, H', ⟨by first | omega | exact Nat.le_refl _⟩, ⟨zL23 BK587.out⟩, ⟨z23_1⟩⟩
 case rest =>
  clear HC3; obtain ⟨kq, x15_2, rfl, HA, HJ2, BK587, HB⟩ := hcut
  cases kq with
  | zero => exact absurd HA.out (by simp [impl_PlanOk.j0])
  | succ kj2 =>
   have H := HA.out
   clear HA; simp only [impl_PlanOk.j0] at H
   by_cases c10 : x15_2 = true
   ·subst c10
    rw [if_pos rfl] at H
    obtain rfl := Option.some.inj H
    go_wp2
    go_ret; exact ⟨by first | rfl | (simp [errW_none, errW_some] <;> rfl) | (simp [*, errW_none, errW_some] <;> rfl), z23_1⟩
   ·replace c10 := Bool.eq_false_iff.mpr c10
    subst c10; rw [if_neg (show ¬ (false = true) by decide)] at H
    have H' := Aside0.mk H
    clear H
    go_wp2_with (first | ((with_reducible refine gate_dst (N := 5) rfl ?_); refine box_event ?hg (N := 5) ?hd (cs := #[.int .i64 0, .int .i64 0, .int .i64 0, .int .i64 0]) (t := 54) ?hr ?_; (case hd => rfl); (case hg => rfl); (case hr => first | (go_simp; done) | (go_simp; rfl)); intro gb590 hg w11 hbox hb; have BK590 := Aside0.mk (hbox); have GW590 := Aside0.mk ((by rw [hg]; exact (below_size z23_1) : w.heap.size ≤ gb590)); have GE590 := Aside0.mk ((by rw [hg]; exact (below_size z23_1) : w.heap.size ≤ gb590)); replace HB := Aside0.mk (below_step z23_1 hb); have aa := Aside0.mk ((by rw [hg]; exact bLZ_ BK587 : gb587 ≠ gb590)); have ab := Aside0.mk ((by rw [hg]; exact bGZ_ BK587 : gb590 ≠ gb587)); replace BK587 := bBZ_ BK587 hb; clear hb hbox hg; have hnb12 := aa.out; have hnc12 := ab.out; have hcz13_1 : w11.cell? ⟨gb587, 1, none⟩ = some (.slice A1_1 l1_1.length c1_1) := (blk_cell BK587.out 1).trans rfl; have hfz13_1 := blk_frozen BK587.out 1))
    go_loopg [19] kj2 (fun kq v19 w' => ∃ (x19_2 : Int) (x591000_2 : Int) (x591001_2 : Int) (x591002_2 : Int) (x591003_2 : Int), v19 = .int .i64 x19_2 ∧ Aside0 (impl_PlanOk.l0 kq a0 l1_1 (l1_1.length : Int) x19_2 a1_0 l1_1 l1_2 x591000_2 x591001_2 x591002_2 x591003_2 = some r) ∧ Aside0 (kq ≤ kj2) ∧ Aside0 (w'.heap[gb587]? = some (.cells #[.int .i64 a1_0, (.slice A1_1 l1_1.length c1_1), (.slice A1_2 l1_2.length c1_2)] 30 (0, 0))) ∧ Aside0 (w'.heap[gb590]? = some (.cells #[.int .i64 x591000_2, .int .i64 x591001_2, .int .i64 x591002_2, .int .i64 x591003_2] 54 (0, 0))) ∧ Aside0 (Below w.heap.size w w'))
    case atStart => exact ⟨(0), (0), (0), (0), (0), z23_6, H', ⟨Nat.le_refl _⟩, ⟨zL23 BK587.out⟩, ⟨zL23 BK590.out⟩, ⟨z23_2⟩⟩
    case round =>
     clear H'
     try clear c10
     try clear hcz13_1
     try clear hfz13_1
     obtain ⟨x19_2, x591000_2, x591001_2, x591002_2, x591003_2, rfl, HA, HK2, BK587, BK590, HB⟩ := hrel
     cases gk with
     | zero => exact absurd HA.out (by simp [impl_PlanOk.l0])
     | succ k2 =>
      have H := HA.out
      clear HA; simp only [impl_PlanOk.l0] at H
      by_cases c14 : x19_2 < (l1_1.length : Int)
      ·rw [if_pos c14] at H
       have c14b0 : decide (x19_2 < (l1_1.length : Int)) = true := decide_eq_true c14; clear c14; obtain ⟨c15, H⟩ := ifP H; have c15b0 : decide (0 ≤ x19_2) = true := decide_eq_true c15; clear c15; obtain ⟨c16, H⟩ := ifP H; have c16b0 : decide (x19_2 < (l1_1.length : Int)) = true := decide_eq_true c16; clear c16
       replace H := Option.bind_eq_some_iff.mp H
       obtain ⟨⟨t592, t593, t594, t595⟩, A170, H⟩ := H
       dsimp only at H
       have A17 := Aside0.mk A170
       clear A170; obtain ⟨c18, H⟩ := ifP H; have c18b0 : decide (x19_2 < (l1_2.length : Int)) = true := decide_eq_true c18; clear c18
       replace H := Option.bind_eq_some_iff.mp H
       obtain ⟨⟨t597, t598, t599, t600⟩, A190, H⟩ := H
       dsimp only at H
       have A19 := Aside0.mk A190
       clear A190
       replace H := Option.bind_eq_some_iff.mp H
       obtain ⟨⟨t601, t602, t603, t604⟩, A200, H⟩ := H
       dsimp only at H
       have A20 := Aside0.mk A200
       clear A200
       have H' := Aside0.mk H
       clear H; have p591 : 0 ≤ (x19_2 : Int) := of_decide_eq_true z23_5; have q591 : x19_2 < (l1_1.length : Int) := of_decide_eq_true z23_5; obtain ⟨ad591, e591, hx591_0⟩ := Kd.at_int HR1_1.out x19_2 p591 q591; cases e591
       replace hx591_0 := (HB.out.cell (World.block_lt_of_cell? w _ hx591_0)).trans hx591_0
       replace p591 := eq_true p591
       replace q591 := eq_true q591
       try go_wp2
       replace BK587 := Aside0.mk (blk_drew BK587.out)
       replace BK590 := Aside0.mk (blk_drew BK590.out)
       replace HB := Aside0.mk (below_drew1 HB.out)
       have p596 : 0 ≤ (x19_2 : Int) := of_decide_eq_true z23_5; have q596 : x19_2 < (l1_2.length : Int) := of_decide_eq_true z23_5; obtain ⟨ad596, e596, hx596_0⟩ := Kd.at_int HR1_2.out x19_2 p596 q596
       have hw596_0 := hx596_0
       cases e596
       replace hx596_0 := (HB.out.cell (World.block_lt_of_cell? w _ hx596_0)).trans hx596_0
       replace p596 := eq_true p596
       replace q596 := eq_true q596
       refine start_ (n := 12) (S := fun w' => w'.cell? ⟨gb590, 0, none⟩ = some (.int .i64 x591000_2) ∧ w'.cell? ⟨gb590, 1, none⟩ = some (.int .i64 x591001_2) ∧ w'.cell? ⟨gb590, 2, none⟩ = some (.int .i64 x591002_2) ∧ w'.cell? ⟨gb590, 3, none⟩ = some (.int .i64 x591003_2) ∧ w'.cell? ⟨gb587, 2, none⟩ = some (.slice (some ad596) l1_2.length c1_2) ∧ w'.cell? (ad596.add (x19_2).toNat) = some (.int .i64 (rd l1_2 x19_2))) (ds := [11]) #[false, false, false, false, false, false, false, false, false, false, false, false] (by kernel_rfl) rfl rfl ⟨(blk_cell BK590.out 0).trans rfl, (blk_cell BK590.out 1).trans rfl, (blk_cell BK590.out 2).trans rfl, (blk_cell BK590.out 3).trans rfl, (blk_cell BK587.out 2).trans rfl, ((HB.out.cell (World.block_lt_of_cell? w _ hw596_0)).trans hw596_0)⟩ (fun hHeld => ?_); refine with_tabW impl_PlanOk.tab7 impl_PlanOk.bits7 (fun HT_ HW_ => ?_); generalize wr.drew = w21 at BK587 BK590 HB hx596_0 hHeld ⊢; refine pZ 1 HT_ ?_; refine pZ 2 HT_ ?_; refine pZ 4 HT_ ?_; refine pZ 6 HT_ ?_; refine tZ 0 hHeld HT_ HW_ ?_; refine tZ 5 hHeld HT_ HW_ ?_; refine pZ 7 HT_ ?_; refine tZ 8 hHeld HT_ HW_ ?_; refine oZ 3 HT_ (fun K hK => ?_); refine goes_ Try.func33 (by kernel_rfl) rfl #[.int .i64 a0, .int .i64 (rd l1_1 x19_2)] (by rfl) rfl rfl z23_3 ?_
       with_reducible refine (impl_rowOf.calls a0 (rd l1_1 x19_2) t592 t593 t594 t595 _ A17.out).mono ?_
       rintro e w22 ⟨rfl, hb⟩
       refine ⟨_, rfl, ?_⟩
       replace BK587 := bBZ_ BK587 hb
       replace BK590 := bBZ_ BK590 hb
       replace HB := Aside0.mk (below_step z23_2 hb)
       (try clear hb); (try clear hb2); (try clear hk); (try clear hi); refine hK.out _ _ ⟨(blk_cell BK590.out 0).trans rfl, (blk_cell BK590.out 1).trans rfl, (blk_cell BK590.out 2).trans rfl, (blk_cell BK590.out 3).trans rfl, (blk_cell BK587.out 2).trans rfl, ((HB.out.cell (World.block_lt_of_cell? w _ hw596_0)).trans hw596_0)⟩ (fun hHeld => ?_); clear hK K; refine nZ ?_; refine oZ 9 HT_ (fun K hK => ?_); refine goes_ Try.func34 (by kernel_rfl) rfl #[.agg #[.int .i64 t592, .int .i64 t593, .int .i64 t594, .int .i64 t595], .int .i64 (rd l1_2 x19_2)] (by rfl) rfl rfl z23_3 ?_
       with_reducible refine (impl_vector_times.calls t592 t593 t594 t595 (rd l1_2 x19_2) t597 t598 t599 t600 _ A19.out).mono ?_
       rintro e w23 ⟨rfl, hb⟩
       refine ⟨_, rfl, ?_⟩
       replace BK587 := bBZ_ BK587 hb
       replace BK590 := bBZ_ BK590 hb
       replace HB := Aside0.mk (below_step z23_2 hb)
       (try clear hb); (try clear hb2); (try clear hk); (try clear hi); refine hK.out _ _ ⟨(blk_cell BK590.out 0).trans rfl, (blk_cell BK590.out 1).trans rfl, (blk_cell BK590.out 2).trans rfl, (blk_cell BK590.out 3).trans rfl, (blk_cell BK587.out 2).trans rfl, ((HB.out.cell (World.block_lt_of_cell? w _ hw596_0)).trans hw596_0)⟩ (fun hHeld => ?_); clear hK K; refine nZ ?_; refine oZ 10 HT_ (fun K hK => ?_); refine goes_ Try.func32 (by kernel_rfl) rfl #[.agg #[.int .i64 x591000_2, .int .i64 x591001_2, .int .i64 x591002_2, .int .i64 x591003_2], .agg #[.int .i64 t597, .int .i64 t598, .int .i64 t599, .int .i64 t600]] (by rfl) rfl rfl z23_3 ?_
       with_reducible refine (impl_vector_plus.calls x591000_2 x591001_2 x591002_2 x591003_2 t597 t598 t599 t600 t601 t602 t603 t604 _ A20.out).mono ?_
       rintro e w24 ⟨rfl, hb⟩
       refine ⟨_, rfl, ?_⟩
       replace BK587 := bBZ_ BK587 hb
       replace BK590 := bBZ_ BK590 hb
       replace HB := Aside0.mk (below_step z23_2 hb)
       (try clear hb); (try clear hb2); (try clear hk); (try clear hi); refine hK.out _ _ ⟨(blk_cell BK590.out 0).trans rfl, (blk_cell BK590.out 1).trans rfl, (blk_cell BK590.out 2).trans rfl, (blk_cell BK590.out 3).trans rfl, (blk_cell BK587.out 2).trans rfl, ((HB.out.cell (World.block_lt_of_cell? w _ hw596_0)).trans hw596_0)⟩ (fun hHeld => ?_); clear hK K; refine nZ ?_; refine lZ 11 HT_ (fun K hK => ?_); have hs25 : w24.cell? ⟨gb590, 0, none⟩ = some (.int .i64 x591000_2) := (blk_cell BK590.out 0).trans rfl
       have hfs25 := blk_frozen BK590.out 0
       have hns25_0 := aa.out
       have hms25_0 := ab.out
       have hs26 : w24.cell? ⟨gb590, 1, none⟩ = some (.int .i64 x591001_2) := (blk_cell BK590.out 1).trans rfl
       have hfs26 := blk_frozen BK590.out 1
       have hns26_0 := aa.out
       have hms26_0 := ab.out
       have hs27 : w24.cell? ⟨gb590, 2, none⟩ = some (.int .i64 x591002_2) := (blk_cell BK590.out 2).trans rfl
       have hfs27 := blk_frozen BK590.out 2
       have hns27_0 := aa.out
       have hms27_0 := ab.out
       have hs28 : w24.cell? ⟨gb590, 3, none⟩ = some (.int .i64 x591003_2) := (blk_cell BK590.out 3).trans rfl
       have hfs28 := blk_frozen BK590.out 3
       have hns28_0 := aa.out
       have hms28_0 := ab.out
       refine skip_ (w1 := ?_) (by rfl) rfl ?_ ?_; rotate_left
       ·go_simp
        rfl
       refine hK.out _ _ ?_; clear hK K; refine done_ (done_of HT_.out (by kernel_rfl)) ?_
       try go_wp2
       go_roundg k2
       case measure => have := HJ2.out; have := HK2.out; omega
       case rel => exact ⟨(wrap64 (x19_2 + 1)), (t601), (t602), (t603), (t604), z23_6, H', ⟨by have := HJ2.out; have := HK2.out; omega⟩, ⟨gZ aa.out BK587.out⟩, ⟨bZ BK590.out⟩, ⟨z23_2⟩⟩
      ·rw [if_neg c14] at H
       have c14b0 : decide (x19_2 < (l1_1.length : Int)) = false := decide_eq_false c14; clear c14
       replace H := Option.bind_eq_some_iff.mp H
       obtain ⟨⟨t605, t606, t607, t608⟩, A290, H⟩ := H
       dsimp only at H
       have A29 := Aside0.mk A290
       clear A290
       obtain rfl := Option.some.inj H
       try go_wp2
       replace BK587 := Aside0.mk (blk_drew BK587.out)
       replace BK590 := Aside0.mk (blk_drew BK590.out)
       replace HB := Aside0.mk (below_drew1 HB.out)
       refine start_ (n := 7) (S := fun w' => w'.cell? ⟨gb590, 0, none⟩ = some (.int .i64 x591000_2) ∧ w'.cell? ⟨gb590, 1, none⟩ = some (.int .i64 x591001_2) ∧ w'.cell? ⟨gb590, 2, none⟩ = some (.int .i64 x591002_2) ∧ w'.cell? ⟨gb590, 3, none⟩ = some (.int .i64 x591003_2) ∧ w'.cell? ⟨gb587, 0, none⟩ = some (.int .i64 a1_0)) (ds := []) #[false, false, false, false, false, false, false] (by kernel_rfl) rfl rfl ⟨(blk_cell BK590.out 0).trans rfl, (blk_cell BK590.out 1).trans rfl, (blk_cell BK590.out 2).trans rfl, (blk_cell BK590.out 3).trans rfl, (blk_cell BK587.out 0).trans rfl⟩ (fun hHeld => ?_); generalize wr.drew = w30 at BK587 BK590 HB hHeld ⊢; refine pure_ (i := 1) (N := some 37) (v := ?_) (a' := ?_) #[false, true, false, false, false, false, false] rfl rfl (by kernel_rfl) (fun _ _ _ h => h) (Or.inl ⟨by rfl, ?_⟩) ?_ ?_; rotate_left
       ·intro w'
        go_simp
        with_reducible rfl
       rotate_left
       ·simp only [Act.put, List.setIfInBounds_toArray, List.set_cons_zero, List.set_cons_succ, i64_w, i32_w]
        rfl
       refine pure_ (i := 2) (N := some 38) (v := ?_) (a' := ?_) #[false, true, true, false, false, false, false] rfl rfl (by kernel_rfl) (fun _ _ _ h => h) (Or.inl ⟨by rfl, ?_⟩) ?_ ?_; rotate_left
       ·intro w'
        go_simp
        with_reducible rfl
       rotate_left
       ·simp only [Act.put, List.setIfInBounds_toArray, List.set_cons_zero, List.set_cons_succ, i64_w, i32_w]
        rfl
       refine take_ (i := 0) (N := some 36) (v := ?_) (a' := ?_) #[true, true, true, false, false, false, false] rfl rfl (by kernel_rfl) (fun _ _ _ h => h) (Or.inl ⟨by rfl, ?_⟩) hHeld ?_ ?_; rotate_left
       ·rintro w' ⟨s0, s1, s2, s3, s4⟩
        go_simp
        with_reducible rfl
       rotate_left
       ·simp only [Act.put, List.setIfInBounds_toArray, List.set_cons_zero, List.set_cons_succ, i64_w, i32_w]
        rfl
       refine take_ (i := 3) (N := some 39) (v := ?_) (a' := ?_) #[true, true, true, true, false, false, false] rfl rfl (by kernel_rfl) (fun _ _ _ h => h) (Or.inl ⟨by rfl, ?_⟩) hHeld ?_ ?_; rotate_left
       ·rintro w' ⟨s0, s1, s2, s3, s4⟩
        go_simp
        with_reducible rfl
       rotate_left
       ·simp only [Act.put, List.setIfInBounds_toArray, List.set_cons_zero, List.set_cons_succ, i64_w, i32_w]
        rfl
       refine one_ (i := 4) (N := some 40) #[true, true, true, true, true, false, false] rfl rfl (by kernel_rfl) (by decide) (fun K hK => ?_); refine goes_ Try.func33 (by kernel_rfl) rfl #[.int .i64 a0, .int .i64 a1_0] (by rfl) rfl rfl z23_3 ?_
       with_reducible refine (impl_rowOf.calls a0 a1_0 t605 t606 t607 t608 _ A29.out).mono ?_
       rintro e w31 ⟨rfl, hb⟩
       refine ⟨_, rfl, ?_⟩
       replace BK587 := bBZ_ BK587 hb
       replace BK590 := bBZ_ BK590 hb
       replace HB := Aside0.mk (below_step z23_2 hb)
       (try clear hb); (try clear hb2); (try clear hk); (try clear hi); refine hK.out _ _ ⟨(blk_cell BK590.out 0).trans rfl, (blk_cell BK590.out 1).trans rfl, (blk_cell BK590.out 2).trans rfl, (blk_cell BK590.out 3).trans rfl, (blk_cell BK587.out 0).trans rfl⟩ (fun hHeld => ?_); clear hK K; refine nZ ?_; refine pure_ (i := 5) (N := some 41) (v := ?_) (a' := ?_) #[true, true, true, true, true, true, false] rfl rfl (by kernel_rfl) (fun _ _ _ h => h) (Or.inl ⟨by rfl, ?_⟩) ?_ ?_; rotate_left
       ·intro w'
        go_simp
        with_reducible rfl
       rotate_left
       ·simp only [Act.put, List.setIfInBounds_toArray, List.set_cons_zero, List.set_cons_succ, i64_w, i32_w]
        rfl
       refine pure_ (i := 6) (N := some 4) (v := ?_) (a' := ?_) #[true, true, true, true, true, true, true] rfl rfl (by kernel_rfl) (fun _ _ _ h => h) (Or.inl ⟨by rfl, ?_⟩) ?_ ?_; rotate_left
       ·intro w'
        go_simp
        with_reducible rfl
       rotate_left
       ·simp only [Act.put, List.setIfInBounds_toArray, List.set_cons_zero, List.set_cons_succ, i64_w, i32_w]
        rfl
       refine done_ (by kernel_rfl) ?_
       try go_wp2
       go_ret; exact ⟨by first | rfl | (simp [errW_none, errW_some] <;> rfl) | (simp [*, errW_none, errW_some] <;> rfl), z23_2⟩

end Go.Proofs.Ytfgpffocieegdaa.PA
