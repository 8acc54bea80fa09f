import Derived.Test.YtfgpffocieegdaaPAx0
import Derived.Test.YtfgpffocieegdaaPAx8
import Derived.Test.YtfgpffocieegdaaPAx10
import Derived.Test.YtfgpffocieegdaaPAx18
import Derived.Test.YtfgpffocieegdaaGw
import Derived.Test.YtfgpffocieegdaaGm
import Derived.Test.YtfgpffocieegdaaGc
namespace Go.Proofs.Ytfgpffocieegdaa.PA
open Go.RowKit Go.Proofs.YtfgpffocieegdaaW.PrintWords Go.Proofs.YtfgpffocieegdaaW.PrintLast Go.Proofs.YtfgpffocieegdaaW.PrintMore
attribute [local go_sem] max2_int min2_int max_two min_two max_three min_three max_four min_four   -- for this text's walks alone
set_option linter.unusedVariables false
set_option linter.unusedSimpArgs false

/-! ### spec_PlanOf: function 11 -/
theorem zL19 {p q : Prop} (h : q) (t : q → p := by intro h_; (with_reducible repeat first|refine blk_drewN ?_ _|refine blk_drew ?_|refine blk_alloc ?_ _); exact h_) : p := t h
theorem z19_1 {p : Prop} (h : p := by repeat (first | (with_reducible first | exact HB.out | apply below_alloc | apply pw_below_drewN | apply below_drew1 | refine below_set ?_ GE548.out) | exact HB.out)) : p := h
theorem z19_2 {p : Prop} (h : p := by repeat (first | (with_reducible first | exact HB.out | apply below_alloc | apply pw_below_drewN | apply below_drew1) | exact HB.out)) : p := h
theorem z19_3 {p : Prop} (h : p := by (try simp only [List.map_toArray, List.map_cons, List.map_nil]); first | done | rfl | (simp only [List.length_drop, List.length_take]; rfl)) : p := h
theorem z19_4 {p : Prop} (h : p := by first | exact Kd.R_nil _ _ _ _ _ | exact Kd.N_nil _ _ _ _ _ | exact Kd.V_nil _ _ _ _ _ | exact Kd.Q_nil _ _ _ _ _ | exact Kd.S_nil _ _ _ _ _) : p := h
theorem z19_5 {p : Prop} (h : p := by first | rfl | (simp [errW_none, errW_some] <;> rfl) | (simp [*, errW_none, errW_some] <;> rfl)) : p := h
theorem z19_6 {p : Prop} (h : p := by rw [← hq_]; exact (zL19 BK548.out)) : p := h
theorem z19_7 {p : Prop} (h : p := by rw [← hq_]; exact z19_1) : p := h
def spec_PlanOf.f (k : Nat) (a0 : Int) (a1 : Int) (l2 : List Bool) : Option (Int × List Int × List Int × Bool) := (spec_l4Kind.f a0).bind fun t549 => (if t549 = true then ((spec_l6In.f a1 0 7).bind fun t550 => (if t550 = true then (if (l2.length : Int) = 8 then ((spec_l11Of.f k a0 a1 l2).bind fun bt551 => (some (bt551.1, bt551.2.1, bt551.2.2.1, bt551.2.2.2))) else (some (0, ([] : List Int), ([] : List Int), false))) else (some (0, ([] : List Int), ([] : List Int), false)))) else (some (0, ([] : List Int), ([] : List Int), false)))
set_option maxHeartbeats 8000000 in
set_option maxRecDepth 100000 in
theorem spec_PlanOf.calls (k : Nat) (a0 : Int) (a1 : Int) (A2 : Option Addr) (c2 : Nat) (l2 : List Bool) (r1 : Int) (r2 : List Int) (r3 : List Int) (r4 : Bool) (w : World) (hr2 : Kd.C Kd.bool w A2 l2.length l2) (hc2 : l2.length ≤ c2) (h : spec_PlanOf.f k a0 a1 l2 = some (r1, r2, r3, r4)) :
  Calls Try.prog 11 #[.int .i64 a0, .int .i64 a1, .slice A2 l2.length c2] w fun e w' => ∃ v1_ v2_ : Value, e = .returned (.tuple #[.agg #[.int .i64 r1, v1_, v2_], .bool r4]) ∧ Kd.R (Kd.int .i64) 3 w' w.heap.size (fun k_ => some k_ ≠ (v2_ : Value).ownBlock) v1_ r2 ∧ Kd.R (Kd.int .i64) 3 w' w.heap.size (fun k_ => some k_ ≠ (v1_ : Value).ownBlock) v2_ r3 ∧ Below w.heap.size w w' := by
 have hu30 := Try.underlying30
 have HR2 := Aside0.mk hr2
 have HC2 := Aside0.mk hc2
 clear hr2 hc2
 have HB := Aside0.mk (Below.refl w.heap.size w)
 try unfold spec_PlanOf.f at h
 have H := h
 clear h
 replace H := Option.bind_eq_some_iff.mp H
 obtain ⟨t549, A40, H⟩ := H
 have A4 := Aside0.mk A40
 clear A40
 by_cases c5 : t549 = true
 ·subst c5
  rw [if_pos rfl] at H
  replace H := Option.bind_eq_some_iff.mp H
  obtain ⟨t550, A60, H⟩ := H
  have A6 := Aside0.mk A60
  clear A60
  by_cases c7 : t550 = true
  ·subst c7
   rw [if_pos rfl] at H
   by_cases c8 : (l2.length : Int) = 8
   ·rw [if_pos c8] at H
    have c8b0 : ((l2.length : Int) == 8) = true := beq_iff_eq.mpr c8
    have c8b1 : ((l2.length : Int) != 8) = false := bne_eq_false_iff_eq.mpr c8
    clear c8
    replace H := Option.bind_eq_some_iff.mp H
    obtain ⟨⟨t551, t552, t555, t558⟩, A90, H⟩ := H
    dsimp only at H
    have A9 := Aside0.mk A90
    clear A90; simp only [Option.some.injEq, Prod.mk.injEq] at H; obtain ⟨rfl, rfl, rfl, rfl⟩ := H; go_enter Try.func11, Try.ntmps11
    go_wp2_with (first | ((with_reducible refine gate_dst (N := 6) rfl ?_); (try (refine gate_guard (by rfl) ?_; dsimp only)); refine box_event ?hg (N := 6) ?hd (cs := #[.int .i64 0, .slice none 0 0, .slice none 0 0]) (t := 30) ?hr ?_; (case hd => rfl); (case hg => rfl); (case hr => first | (go_simp; done) | (go_simp; rfl)); intro gb548 hg w10 hbox hb; have BK548 := Aside0.mk (hbox); have GW548 := Aside0.mk ((by rw [hg]; exact (below_size z19_2) : w.heap.size ≤ gb548)); have GE548 := Aside0.mk ((by rw [hg]; exact (below_size z19_2) : w.heap.size ≤ gb548)); replace HB := Aside0.mk (below_step z19_2 hb); clear hb hbox hg) | ((with_reducible refine gate_callee (f := 26) rfl ?_); refine goesL_ (some 9) rfl rfl Try.func26 (by kernel_rfl) rfl #[.int .i64 a0] rfl z19_3 ?_; (with_reducible refine (spec_l4Kind.calls a0 true _ A4.out).mono ?_); rintro e w' ⟨rfl, ⟨nd, rfl⟩⟩; refine ⟨_, rfl, ?_⟩; (try (rw [drewN_self w10]; generalize hq_ : World.drewN w10 _ = w10; have n0_ : Aside0 (w10.heap[gb548]? = some (.cells #[.int .i64 0, .slice none 0 0, .slice none 0 0] 30 (0, 0))) := ⟨z19_6⟩; have n1_ : Aside0 (Below w.heap.size w w10) := ⟨z19_7⟩; clear BK548 HB hq_; have BK548 := n0_; have HB := n1_; clear n0_ n1_))) | (go_at_call 27; (with_reducible refine (spec_l6In.calls a1 0 7 true _ A6.out).mono ?_); rintro e w' ⟨rfl, ⟨nd, rfl⟩⟩; (try (rw [drewN_self w10]; generalize hq_ : World.drewN w10 _ = w10; have n0_ : Aside0 (w10.heap[gb548]? = some (.cells #[.int .i64 0, .slice none 0 0, .slice none 0 0] 30 (0, 0))) := ⟨z19_6⟩; have n1_ : Aside0 (Below w.heap.size w w10) := ⟨z19_7⟩; clear BK548 HB hq_; have BK548 := n0_; have HB := n1_; clear n0_ n1_))) | ((with_reducible refine gate_callee (f := 28) rfl ?_); refine goesL_ (some 25) rfl rfl Try.func28 (by kernel_rfl) rfl #[.int .i64 a0, .int .i64 a1, .slice A2 l2.length c2] rfl z19_3 ?_; (with_reducible refine (spec_l11Of.calls k a0 a1 _ _ l2 t551 t552 t555 t558 _ ?side1 ?side2 A9.out).mono ?_); (case side1 => exact cZ ((Kd.C_below HR2.out HB.out))); (case side2 => exact HC2.out); rintro e w11 ⟨v553, v556, rfl, ho0, ho1, hb⟩; refine ⟨_, rfl, ?_⟩; have HO554 := Aside0.mk (Kd.R_lower ho0 (below_size z19_1)); have HO557 := Aside0.mk (Kd.R_lower ho1 (below_size z19_1)); replace BK548 := bBZ_ BK548 hb; replace HB := Aside0.mk (below_step z19_1 hb); (try clear hb); (try clear ho0); (try clear ho1); have hcz12_0 : w11.cell? ⟨gb548, 0, none⟩ = some (.int .i64 0) := (blk_cell BK548.out 0).trans rfl; have hfz12_0 := blk_frozen BK548.out 0; obtain ⟨Ao13, co13, eo13⟩ := Kd.R_slice HO554.out; subst eo13; have hcz14_1 : w11.cell? ⟨gb548, 1, none⟩ = some (.slice none 0 0) := (blk_cell BK548.out 1).trans rfl; have hfz14_1 := blk_frozen BK548.out 1; obtain ⟨Ao15, co15, eo15⟩ := Kd.R_slice HO557.out; subst eo15; have hcz16_2 : w11.cell? ⟨gb548, 2, none⟩ = some (.slice none 0 0) := (blk_cell BK548.out 2).trans rfl; have hfz16_2 := blk_frozen BK548.out 2))
    refine bodyPost_ret (results_ct rfl _ _ gb548 30 #[.int .i64 t551, .slice Ao13 t552.length co13, .slice Ao15 t555.length co15] (0, 0) _ rfl (bZ BK548.out) Try.underlying30 rfl (by kernel_rfl)) rfl ?_; exact ⟨_, _, z19_5, by (with_reducible repeat (first | apply Kd.R_alloc | apply Kd.R_drewN | apply Kd.R_drew)); exact Kd.R_mono (Kd.R_far (p := ⟨gb548, 2, none⟩) (Kd.R_far (p := ⟨gb548, 1, none⟩) (Kd.R_far (p := ⟨gb548, 0, none⟩) (Kd.R_types HO554.out BK548.out (by decide)) (fun _ hk => hk.2) (.int .i64 t551)) (fun _ hk => hk.2) (.slice Ao13 t552.length co13)) (fun _ hk => hk.2) (.slice Ao15 t555.length co15)) (fun _ hk => hk.1), by (with_reducible repeat (first | apply Kd.R_alloc | apply Kd.R_drewN | apply Kd.R_drew)); exact Kd.R_mono (Kd.R_far (p := ⟨gb548, 2, none⟩) (Kd.R_far (p := ⟨gb548, 1, none⟩) (Kd.R_far (p := ⟨gb548, 0, none⟩) (Kd.R_types HO557.out BK548.out (by decide)) (fun _ hk => hk.2) (.int .i64 t551)) (fun _ hk => hk.2) (.slice Ao13 t552.length co13)) (fun _ hk => hk.2) (.slice Ao15 t555.length co15)) (fun _ hk => hk.1), z19_1⟩
   ·rw [if_neg c8] at H
    have c8b0 : ((l2.length : Int) == 8) = false := beq_eq_false_iff_ne.mpr c8
    have c8b1 : ((l2.length : Int) != 8) = true := bne_iff_ne.mpr c8
    simp only [Option.some.injEq, Prod.mk.injEq] at H; obtain ⟨rfl, rfl, rfl, rfl⟩ := H; go_enter Try.func11, Try.ntmps11
    go_wp2_with (first | ((with_reducible refine gate_dst (N := 6) rfl ?_); (try (refine gate_guard (by rfl) ?_; dsimp only)); refine box_event ?hg (N := 6) ?hd (cs := #[.int .i64 0, .slice none 0 0, .slice none 0 0]) (t := 30) ?hr ?_; (case hd => rfl); (case hg => rfl); (case hr => first | (go_simp; done) | (go_simp; rfl)); intro gb548 hg w17 hbox hb; have BK548 := Aside0.mk (hbox); have GW548 := Aside0.mk ((by rw [hg]; exact (below_size z19_2) : w.heap.size ≤ gb548)); have GE548 := Aside0.mk ((by rw [hg]; exact (below_size z19_2) : w.heap.size ≤ gb548)); replace HB := Aside0.mk (below_step z19_2 hb); clear hb hbox hg) | ((with_reducible refine gate_callee (f := 26) rfl ?_); refine goesL_ (some 9) rfl rfl Try.func26 (by kernel_rfl) rfl #[.int .i64 a0] rfl z19_3 ?_; (with_reducible refine (spec_l4Kind.calls a0 true _ A4.out).mono ?_); rintro e w' ⟨rfl, ⟨nd, rfl⟩⟩; refine ⟨_, rfl, ?_⟩; (try (rw [drewN_self w17]; generalize hq_ : World.drewN w17 _ = w17; have n0_ : Aside0 (w17.heap[gb548]? = some (.cells #[.int .i64 0, .slice none 0 0, .slice none 0 0] 30 (0, 0))) := ⟨z19_6⟩; have n1_ : Aside0 (Below w.heap.size w w17) := ⟨z19_7⟩; clear BK548 HB hq_; have BK548 := n0_; have HB := n1_; clear n0_ n1_))) | (go_at_call 27; (with_reducible refine (spec_l6In.calls a1 0 7 true _ A6.out).mono ?_); rintro e w' ⟨rfl, ⟨nd, rfl⟩⟩; (try (rw [drewN_self w17]; generalize hq_ : World.drewN w17 _ = w17; have n0_ : Aside0 (w17.heap[gb548]? = some (.cells #[.int .i64 0, .slice none 0 0, .slice none 0 0] 30 (0, 0))) := ⟨z19_6⟩; have n1_ : Aside0 (Below w.heap.size w w17) := ⟨z19_7⟩; clear BK548 HB hq_; have BK548 := n0_; have HB := n1_; clear n0_ n1_)); obtain ⟨hcz18_0, hfz18_0, hcz19_1, hfz19_1, hcz20_2, hfz20_2⟩ := cAZ3_ BK548))
    refine bodyPost_ret (results_ct rfl _ _ gb548 30 #[.int .i64 0, .slice none 0 0, .slice none 0 0] (0, 0) _ rfl (bZ BK548.out) Try.underlying30 rfl (by kernel_rfl)) rfl ?_; exact ⟨_, _, z19_5, z19_4, z19_4, z19_1⟩
  ·replace c7 := Bool.eq_false_iff.mpr c7
   subst c7; rw [if_neg (show ¬ (false = true) by decide)] at H; simp only [Option.some.injEq, Prod.mk.injEq] at H; obtain ⟨rfl, rfl, rfl, rfl⟩ := H; go_enter Try.func11, Try.ntmps11
   go_wp2_with (first | ((with_reducible refine gate_dst (N := 6) rfl ?_); (try (refine gate_guard (by rfl) ?_; dsimp only)); refine box_event ?hg (N := 6) ?hd (cs := #[.int .i64 0, .slice none 0 0, .slice none 0 0]) (t := 30) ?hr ?_; (case hd => rfl); (case hg => rfl); (case hr => first | (go_simp; done) | (go_simp; rfl)); intro gb548 hg w21 hbox hb; have BK548 := Aside0.mk (hbox); have GW548 := Aside0.mk ((by rw [hg]; exact (below_size z19_2) : w.heap.size ≤ gb548)); have GE548 := Aside0.mk ((by rw [hg]; exact (below_size z19_2) : w.heap.size ≤ gb548)); replace HB := Aside0.mk (below_step z19_2 hb); clear hb hbox hg) | ((with_reducible refine gate_callee (f := 26) rfl ?_); refine goesL_ (some 9) rfl rfl Try.func26 (by kernel_rfl) rfl #[.int .i64 a0] rfl z19_3 ?_; (with_reducible refine (spec_l4Kind.calls a0 true _ A4.out).mono ?_); rintro e w' ⟨rfl, ⟨nd, rfl⟩⟩; refine ⟨_, rfl, ?_⟩; (try (rw [drewN_self w21]; generalize hq_ : World.drewN w21 _ = w21; have n0_ : Aside0 (w21.heap[gb548]? = some (.cells #[.int .i64 0, .slice none 0 0, .slice none 0 0] 30 (0, 0))) := ⟨z19_6⟩; have n1_ : Aside0 (Below w.heap.size w w21) := ⟨z19_7⟩; clear BK548 HB hq_; have BK548 := n0_; have HB := n1_; clear n0_ n1_))) | (go_at_call 27; (with_reducible refine (spec_l6In.calls a1 0 7 false _ A6.out).mono ?_); rintro e w' ⟨rfl, ⟨nd, rfl⟩⟩; (try (rw [drewN_self w21]; generalize hq_ : World.drewN w21 _ = w21; have n0_ : Aside0 (w21.heap[gb548]? = some (.cells #[.int .i64 0, .slice none 0 0, .slice none 0 0] 30 (0, 0))) := ⟨z19_6⟩; have n1_ : Aside0 (Below w.heap.size w w21) := ⟨z19_7⟩; clear BK548 HB hq_; have BK548 := n0_; have HB := n1_; clear n0_ n1_)); obtain ⟨hcz22_0, hfz22_0, hcz23_1, hfz23_1, hcz24_2, hfz24_2⟩ := cAZ3_ BK548))
   refine bodyPost_ret (results_ct rfl _ _ gb548 30 #[.int .i64 0, .slice none 0 0, .slice none 0 0] (0, 0) _ rfl (bZ BK548.out) Try.underlying30 rfl (by kernel_rfl)) rfl ?_; exact ⟨_, _, z19_5, z19_4, z19_4, z19_1⟩
 ·replace c5 := Bool.eq_false_iff.mpr c5
  subst c5; rw [if_neg (show ¬ (false = true) by decide)] at H; simp only [Option.some.injEq, Prod.mk.injEq] at H; obtain ⟨rfl, rfl, rfl, rfl⟩ := H; go_enter Try.func11, Try.ntmps11
  go_wp2_with (first | ((with_reducible refine gate_dst (N := 6) rfl ?_); (try (refine gate_guard (by rfl) ?_; dsimp only)); refine box_event ?hg (N := 6) ?hd (cs := #[.int .i64 0, .slice none 0 0, .slice none 0 0]) (t := 30) ?hr ?_; (case hd => rfl); (case hg => rfl); (case hr => first | (go_simp; done) | (go_simp; rfl)); intro gb548 hg w25 hbox hb; have BK548 := Aside0.mk (hbox); have GW548 := Aside0.mk ((by rw [hg]; exact (below_size z19_2) : w.heap.size ≤ gb548)); have GE548 := Aside0.mk ((by rw [hg]; exact (below_size z19_2) : w.heap.size ≤ gb548)); replace HB := Aside0.mk (below_step z19_2 hb); clear hb hbox hg) | ((with_reducible refine gate_callee (f := 26) rfl ?_); refine goesL_ (some 9) rfl rfl Try.func26 (by kernel_rfl) rfl #[.int .i64 a0] rfl z19_3 ?_; (with_reducible refine (spec_l4Kind.calls a0 false _ A4.out).mono ?_); rintro e w' ⟨rfl, ⟨nd, rfl⟩⟩; refine ⟨_, rfl, ?_⟩; (try (rw [drewN_self w25]; generalize hq_ : World.drewN w25 _ = w25; have n0_ : Aside0 (w25.heap[gb548]? = some (.cells #[.int .i64 0, .slice none 0 0, .slice none 0 0] 30 (0, 0))) := ⟨z19_6⟩; have n1_ : Aside0 (Below w.heap.size w w25) := ⟨z19_7⟩; clear BK548 HB hq_; have BK548 := n0_; have HB := n1_; clear n0_ n1_)); obtain ⟨hcz26_0, hfz26_0, hcz27_1, hfz27_1, hcz28_2, hfz28_2⟩ := cAZ3_ BK548))
  refine bodyPost_ret (results_ct rfl _ _ gb548 30 #[.int .i64 0, .slice none 0 0, .slice none 0 0] (0, 0) _ rfl (bZ BK548.out) Try.underlying30 rfl (by kernel_rfl)) rfl ?_; exact ⟨_, _, z19_5, z19_4, z19_4, z19_1⟩

/-! ### impl_kindOk: function 18 -/
def impl_kindOk.f (a0 : Int) : Option (Bool) := (impl_within.f a0 1 2).bind fun t559 => (some t559)
set_option maxHeartbeats 8000000 in
set_option maxRecDepth 100000 in
theorem impl_kindOk.calls (a0 : Int) (r : Bool) (w : World) (h : impl_kindOk.f a0 = some r) :
  Calls Try.prog 18 #[.int .i64 a0] w fun e w' => e = .returned (.bool r) ∧ Drawn0 w w' := by
 try unfold impl_kindOk.f at h
 have H := h
 clear h
 replace H := Option.bind_eq_some_iff.mp H
 obtain ⟨t559, A20, H⟩ := H
 have A2 := Aside0.mk A20
 clear A20
 obtain rfl := Option.some.inj H
 go_enter Try.func18, Try.ntmps18
 go_wp2_with (first | ((with_reducible refine gate_callee (f := 35) rfl ?_); refine goesL_ (some 4) rfl rfl Try.func35 (by kernel_rfl) rfl #[.int .i64 a0, .int .i64 1, .int .i64 2] rfl z19_3 ?_; (with_reducible refine (impl_within.calls a0 1 2 t559 _ A2.out).mono ?_); rintro e w' ⟨rfl, ⟨nd, rfl⟩⟩; refine ⟨_, rfl, ?_⟩))
 go_ret
 exact ⟨by first | rfl | (simp; done) | (simp [*]; done), by repeat (first | exact Drawn0.refl _ | apply Drawn0.step)⟩

-- NOT PRINTED: function 47 (slices_IndexFunc_int_int)

-- NOT PRINTED: function 36 (slices_DeleteFunc_int_int)

end Go.Proofs.Ytfgpffocieegdaa.PA
