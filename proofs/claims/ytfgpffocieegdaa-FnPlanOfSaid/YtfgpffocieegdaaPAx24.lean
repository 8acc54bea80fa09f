import Derived.Test.YtfgpffocieegdaaHd
import Derived.Test.YtfgpffocieegdaaPAx0
import Derived.Test.YtfgpffocieegdaaPAx10
import Derived.Test.YtfgpffocieegdaaPAx19
import Derived.Test.YtfgpffocieegdaaPAx21
import Derived.Test.YtfgpffocieegdaaPAx22
import Derived.Test.YtfgpffocieegdaaPAx23
import Derived.Test.YtfgpffocieegdaaGw
import Derived.Test.YtfgpffocieegdaaGm
import Derived.Test.YtfgpffocieegdaaGc
namespace Go.Proofs.Ytfgpffocieegdaa.PA
open Go.RowKit Go.Proofs.YtfgpffocieegdaaW.PrintWords Go.Proofs.YtfgpffocieegdaaW.PrintLast Go.Proofs.YtfgpffocieegdaaW.PrintMore
attribute [local go_sem] max2_int min2_int max_two min_two max_three min_three max_four min_four   -- for this text's walks alone
set_option linter.unusedVariables false
set_option linter.unusedSimpArgs false

/-! ### laws_FnPlanOf: function 7 -/
theorem zL24 {p q : Prop} (h : q) (t : q → p := by intro h_; (with_reducible repeat first|refine blk_drewN ?_ _|refine blk_drew ?_|refine blk_alloc ?_ _); exact h_) : p := t h
theorem z24_1 {p : Prop} (h : p := by repeat (first | (with_reducible first | exact HB.out | apply below_alloc | apply pw_below_drewN | apply below_drew1 | refine below_set ?_ GE622.out | refine below_set ?_ GE631.out) | exact HB.out)) : p := h
theorem z24_2 {p : Prop} (h : p := by repeat (first | (with_reducible first | exact HB.out | apply below_alloc | apply pw_below_drewN | apply below_drew1) | exact HB.out)) : p := h
theorem z24_3 {p : Prop} (h : p := by repeat (first | (with_reducible first | exact HB.out | apply below_alloc | apply pw_below_drewN | apply below_drew1 | refine below_set ?_ GE622.out) | exact HB.out)) : p := h
theorem z24_4 {p : Prop} (h : p := by (with_reducible repeat (first | apply Kd.R_alloc | apply Kd.R_drewN | apply Kd.R_drew)); exact (Kd.R_mono (Kd.R_far (p := ⟨gb622, 2, none⟩) (Kd.R_far (p := ⟨gb622, 1, none⟩) (Kd.R_far (p := ⟨gb622, 0, none⟩) (Kd.R_types HO617.out BK622.out (by decide)) (fun _ hk => hk.2) (.int .i64 t614)) (fun _ hk => hk.2) (.slice Ao12 t615.length co12)) (fun _ hk => hk.2) (.slice Ao14 t618.length co14)) (fun _ h_ => h_.1))) : p := h
theorem z24_5 {p : Prop} (h : p := by (with_reducible repeat (first | apply Kd.R_alloc | apply Kd.R_drewN | apply Kd.R_drew)); exact (Kd.R_mono (Kd.R_far (p := ⟨gb622, 2, none⟩) (Kd.R_far (p := ⟨gb622, 1, none⟩) (Kd.R_far (p := ⟨gb622, 0, none⟩) (Kd.R_types HO620.out BK622.out (by decide)) (fun _ hk => hk.2) (.int .i64 t614)) (fun _ hk => hk.2) (.slice Ao12 t615.length co12)) (fun _ hk => hk.2) (.slice Ao14 t618.length co14)) (fun _ h_ => h_.1))) : p := h
theorem z24_6 {p : Prop} (h : p := by first | (with_reducible assumption) | assumption) : p := h
theorem z24_7 {p : Prop} (h : p := by (try simp only [List.map_toArray, List.map_cons, List.map_nil]); first | done | rfl | (simp only [List.length_drop, List.length_take]; rfl)) : p := h
theorem z24_8 {p : Prop} (h : p := by first | rfl | (simp [errW_none, errW_some] <;> rfl) | (simp [*, errW_none, errW_some] <;> rfl)) : p := h
theorem z24_9 {p : Prop} (h : p := by (with_reducible repeat (first | apply Kd.R_alloc | apply Kd.R_drewN | apply Kd.R_drew)); exact ae.out) : p := h
theorem z24_10 {p : Prop} (h : p := by (with_reducible repeat (first | apply Kd.R_alloc | apply Kd.R_drewN | apply Kd.R_drew)); exact af.out) : p := h
theorem z24_11 {p : Prop} (h : p := by (with_reducible repeat (first | apply Kd.R_alloc | apply Kd.R_drewN | apply Kd.R_drew)); exact aa.out) : p := h
theorem z24_12 {p : Prop} (h : p := by (with_reducible repeat (first | apply Kd.R_alloc | apply Kd.R_drewN | apply Kd.R_drew)); exact ac.out) : p := h
theorem z24_13 {p : Prop} (h : p := by (with_reducible repeat (first | apply Kd.R_alloc | apply Kd.R_drewN | apply Kd.R_drew)); exact (Kd.R_mono (Kd.R_far (p := ⟨gb631, 2, none⟩) (Kd.R_far (p := ⟨gb631, 1, none⟩) (Kd.R_far (p := ⟨gb631, 0, none⟩) (Kd.R_types HO626.out BK631.out (by decide)) (fun _ hk => hk.2) (.int .i64 t623)) (fun _ hk => hk.2) (.slice Ao20 t624.length t624.length)) (fun _ hk => hk.2) (.slice Ao22 t627.length co22)) (fun _ h_ => h_.1))) : p := h
theorem z24_14 {p : Prop} (h : p := by (with_reducible repeat (first | apply Kd.R_alloc | apply Kd.R_drewN | apply Kd.R_drew)); exact (Kd.R_mono (Kd.R_far (p := ⟨gb631, 2, none⟩) (Kd.R_far (p := ⟨gb631, 1, none⟩) (Kd.R_far (p := ⟨gb631, 0, none⟩) (Kd.R_types HO629.out BK631.out (by decide)) (fun _ hk => hk.2) (.int .i64 t623)) (fun _ hk => hk.2) (.slice Ao20 t624.length t624.length)) (fun _ hk => hk.2) (.slice Ao22 t627.length co22)) (fun _ h_ => h_.1))) : p := h
theorem z24_15 {p : Prop} (h : p := by (with_reducible repeat (first | apply Kd.R_alloc | apply Kd.R_drewN | apply Kd.R_drew)); exact (Kd.R_mono (Kd.R_far (p := ⟨gb631, 2, none⟩) (Kd.R_far (p := ⟨gb631, 1, none⟩) (Kd.R_far (p := ⟨gb631, 0, none⟩) (Kd.R_types HO617.out BK631.out (by decide)) (fun _ hk => hk.2) (.int .i64 t623)) (fun _ hk => hk.2) (.slice Ao20 t624.length t624.length)) (fun _ hk => hk.2) (.slice Ao22 t627.length co22)) (fun _ h_ => h_.1))) : p := h
theorem z24_16 {p : Prop} (h : p := by (with_reducible repeat (first | apply Kd.R_alloc | apply Kd.R_drewN | apply Kd.R_drew)); exact (Kd.R_mono (Kd.R_far (p := ⟨gb631, 2, none⟩) (Kd.R_far (p := ⟨gb631, 1, none⟩) (Kd.R_far (p := ⟨gb631, 0, none⟩) (Kd.R_types HO620.out BK631.out (by decide)) (fun _ hk => hk.2) (.int .i64 t623)) (fun _ hk => hk.2) (.slice Ao20 t624.length t624.length)) (fun _ hk => hk.2) (.slice Ao22 t627.length co22)) (fun _ h_ => h_.1))) : p := h
theorem z24_17 {p : Prop} (h : p := by (with_reducible repeat (first | apply Kd.Q_alloc | apply Kd.Q_drewN | apply Kd.Q_drew)); exact HO_5.out) : p := h
theorem z24_18 {p : Prop} (h : p := by (with_reducible repeat (first | apply Kd.Q_alloc | apply Kd.Q_drewN | apply Kd.Q_drew)); exact (Kd.Q_mono (Kd.Q_far (p := ⟨gb622, 2, none⟩) (Kd.Q_far (p := ⟨gb622, 1, none⟩) (Kd.Q_far (p := ⟨gb622, 0, none⟩) (Kd.Q_types HO613.out BK622.out (by decide)) (fun _ hk => hk.2) (.int .i64 t614)) (fun _ hk => hk.2) (.slice Ao12 t615.length co12)) (fun _ hk => hk.2) (.slice Ao14 t618.length co14)) (fun _ h_ => h_.1))) : p := h
theorem z24_19 {p : Prop} (h : p := by (with_reducible repeat (first | apply Kd.Q_alloc | apply Kd.Q_drewN | apply Kd.Q_drew)); exact HO613.out) : p := h
theorem z24_20 {p : Prop} (h : p := by first | rfl | (simp; done) | (simp [*]; done)) : p := h
mutual
def laws_FnPlanOf.j0 : Nat → Int → Int → List Bool → Bool → Bool → Int → List Int → List Int → Option (Bool)
  | 0, _, _, _, _, _, _, _, _ => none
  | k + 1, x3, x4, x5, x9, x42, x632000, x632001, x632002 => if x42 = true then (some false) else (if x9 = true then (laws_FnPlanOf.l0 k x3 x4 x5 0 x632000 x632001 x632002) else (some true))
def laws_FnPlanOf.l0 : Nat → Int → Int → List Bool → Int → Int → List Int → List Int → Option (Bool)
  | 0, _, _, _, _, _, _, _ => none
  | k + 1, x3, x4, x5, x10, x632000, x632001, x632002 => if x10 < (x632001.length : Int) then (if 0 ≤ x10 then (if 0 ≤ (rd x632001 x10) then (if (rd x632001 x10) < (x5.length : Int) then (if (rdOf false x5 (rd x632001 x10) = true) then (if (rd x632001 x10) = x4 then (some false) else (laws_FnPlanOf.l0 k x3 x4 x5 (wrap64 (x10 + 1)) x632000 x632001 x632002)) else (some false)) else (none)) else (none)) else (none)) else ((impl_PlanOk.f k x3 x632000 x632001 x632002).bind fun t636 => (if t636 = true then (if x632000 = x4 then (some (decide ((x632001.length : Int) ≤ 4))) else (some false)) else (some false)))
end
def laws_FnPlanOf.f (k : Nat) (l0 : List Int) : Option (Bool) := if (l0.length : Int) > 1048576 then (some true) else ((spec_DrawPlanOf.f k l0).bind fun bt609 => ((spec_PlanOf.f k bt609.1 bt609.2.1 bt609.2.2).bind fun bt614 => ((impl_PlanOf.f k bt609.1 bt609.2.1 bt609.2.2).bind fun bt623 => (if (bt623.2.2.2 != bt614.2.2.2) = true then (laws_FnPlanOf.j0 k bt609.1 bt609.2.1 bt609.2.2 bt623.2.2.2 true bt623.1 bt623.2.1 bt623.2.2.1) else ((laws_lkPlan.f k bt623.1 bt623.2.1 bt623.2.2.1 bt614.1 bt614.2.1 bt614.2.2.1).bind fun t632 => (laws_FnPlanOf.j0 k bt609.1 bt609.2.1 bt609.2.2 bt623.2.2.2 (!t632) bt623.1 bt623.2.1 bt623.2.2.1))))))
theorem bA24 {W : World} {g : Nat} {cs : Array Value} {ty : TypeId} {j : Nat} {v : Value} (h : Aside0 (W.heap[g]? = some (.cells cs ty (0, 0)))) (e : cs[j]? = some v) : W.cell? ⟨g, j, none⟩ = some v := (blk_cell h.out j).trans e
set_option maxHeartbeats 8000000 in
set_option maxRecDepth 100000 in
theorem laws_FnPlanOf.calls (k : Nat) (A0 : Option Addr) (c0 : Nat) (l0 : List Int) (r : Bool) (w : World) (hr0 : Kd.C (Kd.int .u8) w A0 l0.length l0) (hc0 : l0.length ≤ c0) (h : laws_FnPlanOf.f k l0 = some r) :
  Calls Try.prog 7 #[.slice A0 l0.length c0] w fun e w' => e = .returned (.bool r) ∧ Below w.heap.size w w' := by
 have hu30 := Try.underlying30
 have HR0 := Aside0.mk hr0
 have HC0 := Aside0.mk hc0
 clear hr0 hc0
 have HB := Aside0.mk (Below.refl w.heap.size w)
 unfold laws_FnPlanOf.f at h
 have H := h
 clear h
 by_cases c2 : (l0.length : Int) > 1048576
 ·rw [if_pos c2] at H
  have c2b0 : decide (1048576 < (l0.length : Int)) = true := decide_eq_true c2; have c2b1 : decide (1048576 < l0.length) = true := decide_eq_true (by omega); clear c2
  obtain rfl := Option.some.inj H
  go_enter Try.func7, Try.ntmps7
  go_wp2
  go_ret; exact ⟨z24_8, z24_2⟩
 ·rw [if_neg c2] at H
  have c2b0 : decide (1048576 < (l0.length : Int)) = false := decide_eq_false c2; have c2b1 : decide (1048576 < l0.length) = false := decide_eq_false (by omega); clear c2
  replace H := Option.bind_eq_some_iff.mp H
  obtain ⟨⟨t609, t610, t611⟩, A30, H⟩ := H
  dsimp only at H
  have A3 := Aside0.mk A30
  clear A30
  replace H := Option.bind_eq_some_iff.mp H
  obtain ⟨⟨t614, t615, t618, t621⟩, A40, H⟩ := H
  dsimp only at H
  have A4 := Aside0.mk A40
  clear A40
  replace H := Option.bind_eq_some_iff.mp H
  obtain ⟨⟨t623, t624, t627, t630⟩, A50, H⟩ := H
  dsimp only at H
  have A5 := Aside0.mk A50
  clear A50
  have HC6 := Aside0.mk H
  clear H; go_enter Try.func7, Try.ntmps7
  go_upto_region 6 with (first | ((with_reducible refine gate_callee (f := 10) rfl ?_); refine goesL_ (some 16) rfl rfl Try.func10 (by kernel_rfl) rfl #[.slice A0 l0.length c0] rfl z24_7 ?_; (with_reducible refine (spec_DrawPlanOf.calls k _ _ l0 t609 t610 t611 _ ?side1 ?side2 A3.out).mono ?_); (case side1 => exact cZ (HR0.out)); (case side2 => exact HC0.out); rintro e w7 ⟨v612, rfl, ho0, hb⟩; refine ⟨_, rfl, ?_⟩; have HO613 := Aside0.mk (Kd.Q_lower ho0 (below_size z24_2)); replace HB := Aside0.mk (below_step z24_2 hb); (try clear hb); (try clear ho0); obtain ⟨Ao8, co8, eo8, _⟩ := Kd.Q_slice HO613.out; subst eo8; (try simp only [clip_slice])) | ((with_reducible refine gate_callee (f := 11) rfl ?_); refine goesL_ (some 24) rfl rfl Try.func11 (by kernel_rfl) rfl #[.int .i64 t609, .int .i64 t610, .slice Ao8 t611.length co8] rfl z24_7 ?_; (with_reducible refine (spec_PlanOf.calls k t609 t610 _ _ t611 t614 t615 t618 t621 _ ?side1 ?side2 A4.out).mono ?_); (case side1 => exact cZ ((Kd.Q_reads' HO613.out).2.2)); (case side2 => first | exact (Kd.Q_reads' HO613.out).2.1 | exact Nat.le_refl _); rintro e w9 ⟨v616, v619, rfl, ho0, ho1, hb⟩; refine ⟨_, rfl, ?_⟩; replace HO613 := Aside0.mk (Kd.Q_below z24_19 hb); have HO617 := Aside0.mk (Kd.R_lower ho0 (below_size z24_2)); have HO620 := Aside0.mk (Kd.R_lower ho1 (below_size z24_2)); replace HB := Aside0.mk (below_step z24_2 hb); (try clear hb); (try clear ho0); (try clear ho1)) | ((with_reducible refine gate_dst (N := 6) rfl ?_); (try (refine gate_guard (by rfl) ?_; dsimp only)); refine box_event ?hg (N := 6) ?hd (cs := #[.int .i64 0, .slice none 0 0, .slice none 0 0]) (t := 30) ?hr ?_; (case hd => rfl); (case hg => rfl); (case hr => first | (go_simp; done) | (go_simp; rfl)); intro gb622 hg w10 hbox hb; replace HO613 := Aside0.mk (Kd.Q_below z24_19 hb); replace HO617 := Aside0.mk (Kd.R_below (by (with_reducible repeat (first | apply Kd.R_alloc | apply Kd.R_drewN | apply Kd.R_drew)); exact HO617.out) hb); replace HO620 := Aside0.mk (Kd.R_below (by (with_reducible repeat (first | apply Kd.R_alloc | apply Kd.R_drewN | apply Kd.R_drew)); exact HO620.out) hb); have BK622 := Aside0.mk (hbox); have GW622 := Aside0.mk ((by rw [hg]; exact (below_size z24_2) : w.heap.size ≤ gb622)); have GE622 := Aside0.mk ((by rw [hg]; exact (below_size z24_2) : w.heap.size ≤ gb622)); replace HB := Aside0.mk (below_step z24_2 hb); clear hb hbox hg; have ag : w10.cell? ⟨gb622, 0, none⟩ = some (.int .i64 0) := bA24 BK622 rfl; have ah := blk_frozen BK622.out 0; obtain ⟨Ao12, co12, eo12⟩ := Kd.R_slice HO617.out; subst eo12; (try simp only [clip_slice]); have ai : w10.cell? ⟨gb622, 1, none⟩ = some (.slice none 0 0) := bA24 BK622 rfl; have aj := blk_frozen BK622.out 1; obtain ⟨Ao14, co14, eo14⟩ := Kd.R_slice HO620.out; subst eo14; (try simp only [clip_slice]); have ak : w10.cell? ⟨gb622, 2, none⟩ = some (.slice none 0 0) := bA24 BK622 rfl; have al := blk_frozen BK622.out 2) | ((with_reducible refine gate_callee (f := 12) rfl ?_); refine goesL_ (some 31) rfl rfl Try.func12 (by kernel_rfl) rfl #[.int .i64 t609, .int .i64 t610, .slice Ao8 t611.length co8] rfl z24_7 ?_; (with_reducible refine (impl_PlanOf.calls k t609 t610 _ _ t611 t623 t624 t627 t630 _ ?side1 ?side2 A5.out).mono ?_); (case side1 => refine (Kd.Q_reads' (e := 4) (base := w.heap.size) (ok := fun k_ => True) (n := t611.length) (c := co8) ?_).2.2; exact z24_18); (case side2 => first | exact (Kd.Q_reads' HO613.out).2.1 | exact Nat.le_refl _); rintro e w16 ⟨v625, v628, rfl, ho0, ho1, hb⟩; refine ⟨_, rfl, ?_⟩; replace HO613 := Aside0.mk (Kd.Q_below z24_18 hb); have HO626 := Aside0.mk (Kd.R_lower (Kd.R_new' (Kd.R_new' ho0 (Kd.R_lt z24_4)) (Kd.R_lt z24_5)) (below_size z24_3)); have HO629 := Aside0.mk (Kd.R_lower (Kd.R_new' (Kd.R_new' ho1 (Kd.R_lt z24_4)) (Kd.R_lt z24_5)) (below_size z24_3)); replace HO617 := Aside0.mk (Kd.R_mono (Kd.R_told (Kd.R_told (Kd.R_old z24_4 hb) (Kd.R_base ho0)) (Kd.R_base ho1)) (fun _ h_ => h_.1)); replace HO620 := Aside0.mk (Kd.R_mono (Kd.R_told (Kd.R_told (Kd.R_old z24_5 hb) (Kd.R_base ho0)) (Kd.R_base ho1)) (fun _ h_ => h_.1)); replace BK622 := Aside0.mk (blk_below (g := gb622) (o := .cells #[.int .i64 t614, .slice Ao12 t615.length co12, .slice Ao14 t618.length co14] 30 (0, 0)) (bZ BK622.out) hb); replace HB := Aside0.mk (below_step z24_3 hb); (try clear hb); (try clear ho0); (try clear ho1)) | ((with_reducible refine gate_dst (N := 8) rfl ?_); (try (refine gate_guard (by rfl) ?_; dsimp only)); refine box_event ?hg (N := 8) ?hd (cs := #[.int .i64 0, .slice none 0 0, .slice none 0 0]) (t := 30) ?hr ?_; (case hd => rfl); (case hg => rfl); (case hr => first | (go_simp; done) | (go_simp; rfl)); intro gb631 hg w17 hbox hb; replace HO613 := Aside0.mk (Kd.Q_below z24_19 hb); replace HO617 := Aside0.mk (Kd.R_below (by (with_reducible repeat (first | apply Kd.R_alloc | apply Kd.R_drewN | apply Kd.R_drew)); exact HO617.out) hb); replace HO620 := Aside0.mk (Kd.R_below (by (with_reducible repeat (first | apply Kd.R_alloc | apply Kd.R_drewN | apply Kd.R_drew)); exact HO620.out) hb); replace HO626 := Aside0.mk (Kd.R_below (by (with_reducible repeat (first | apply Kd.R_alloc | apply Kd.R_drewN | apply Kd.R_drew)); exact HO626.out) hb); replace HO629 := Aside0.mk (Kd.R_below (by (with_reducible repeat (first | apply Kd.R_alloc | apply Kd.R_drewN | apply Kd.R_drew)); exact HO629.out) hb); have BK631 := Aside0.mk (hbox); have GW631 := Aside0.mk ((by rw [hg]; exact (below_size z24_3) : w.heap.size ≤ gb631)); have GE631 := Aside0.mk ((by rw [hg]; exact (below_size z24_3) : w.heap.size ≤ gb631)); replace HB := Aside0.mk (below_step z24_3 hb); have ab := Aside0.mk ((by rw [hg]; exact bLZ_ BK622 : gb622 ≠ gb631)); have ad := Aside0.mk ((by rw [hg]; exact bGZ_ BK622 : gb631 ≠ gb622)); replace BK622 := bBZ_ BK622 hb; clear hb hbox hg; have hnb18 := ad.out; have hnc18 := ab.out; have am : w17.cell? ⟨gb631, 0, none⟩ = some (.int .i64 0) := bA24 BK631 rfl; have an := blk_frozen BK631.out 0; obtain ⟨Ao20, co20, eo20⟩ := Kd.R_slice HO626.out; subst eo20; (try simp only [clip_slice]); have ao : w17.cell? ⟨gb631, 1, none⟩ = some (.slice none 0 0) := bA24 BK631 rfl; have ap := blk_frozen BK631.out 1; obtain ⟨Ao22, co22, eo22⟩ := Kd.R_slice HO629.out; subst eo22; (try simp only [clip_slice]); have aq : w17.cell? ⟨gb631, 2, none⟩ = some (.slice none 0 0) := bA24 BK631 rfl; have ar := blk_frozen BK631.out 2))
  (try simp only [Act.put, List.setIfInBounds_toArray, List.set_cons_zero, List.set_cons_succ])
  go_cut [42] (fun v42 wc => ∃ (kq : Nat) (x42_5 : Bool), v42 = .bool x42_5 ∧ Aside0 (laws_FnPlanOf.j0 kq t609 t610 t611 t630 x42_5 t623 t624 t627 = some r) ∧ Aside0 (kq ≤ k) ∧ Aside0 (Kd.Q Kd.bool 4 wc w.heap.size (fun _ => True) (.slice Ao8 t611.length co8) t611) ∧ Aside0 (Kd.R (Kd.int .i64) 3 wc w.heap.size (fun k_ => some k_ ≠ ((.slice Ao14 t618.length co14) : Value).ownBlock ∧ some k_ ≠ ((.slice Ao20 t624.length co20) : Value).ownBlock ∧ some k_ ≠ ((.slice Ao22 t627.length co22) : Value).ownBlock) (.slice Ao12 t615.length co12) t615) ∧ Aside0 (Kd.R (Kd.int .i64) 3 wc w.heap.size (fun k_ => some k_ ≠ ((.slice Ao12 t615.length co12) : Value).ownBlock ∧ some k_ ≠ ((.slice Ao20 t624.length co20) : Value).ownBlock ∧ some k_ ≠ ((.slice Ao22 t627.length co22) : Value).ownBlock) (.slice Ao14 t618.length co14) t618) ∧ Aside0 (Kd.R (Kd.int .i64) 3 wc w.heap.size (fun k_ => some k_ ≠ ((.slice Ao12 t615.length co12) : Value).ownBlock ∧ some k_ ≠ ((.slice Ao14 t618.length co14) : Value).ownBlock ∧ some k_ ≠ ((.slice Ao22 t627.length co22) : Value).ownBlock) (.slice Ao20 t624.length co20) t624) ∧ Aside0 (Kd.R (Kd.int .i64) 3 wc w.heap.size (fun k_ => some k_ ≠ ((.slice Ao12 t615.length co12) : Value).ownBlock ∧ some k_ ≠ ((.slice Ao14 t618.length co14) : Value).ownBlock ∧ some k_ ≠ ((.slice Ao20 t624.length co20) : Value).ownBlock) (.slice Ao22 t627.length co22) t627) ∧ Aside0 (wc.heap[gb622]? = some (.cells #[.int .i64 t614, (.slice Ao12 t615.length co12), (.slice Ao14 t618.length co14)] 30 (0, 0))) ∧ Aside0 (wc.heap[gb631]? = some (.cells #[.int .i64 t623, (.slice Ao20 t624.length t624.length), (.slice Ao22 t627.length co22)] 30 (0, 0))) ∧ Aside0 (Below w.heap.size w wc))
  case first =>
   have H := HC6.out
   clear HC6
   by_cases c24 : (t630 != t621) = true
   ·rw [if_pos c24] at H
    have c24b0 : (t630 != t621) = true := c24
    (try (have c24b1 : decide (t630 = t621) = false := by simpa using c24)); (try (have c24b2 : (t630 == t621) = false := by simpa using c24)); (try (have c24b3 : ¬ (t630 = t621) := by simpa using c24)); clear c24; (first | rw [c24b0] | (simp only [i64_w, i32_w]; rw [c24b0]) | skip)
    have H' := Aside0.mk H
    clear H
    go_wp2
    go_meet
    case rel => exact ⟨_, (true), z24_20, H', ⟨by first | omega | exact Nat.le_refl _⟩, ⟨by (with_reducible repeat (first | apply Kd.Q_alloc | apply Kd.Q_drewN | apply Kd.Q_drew)); exact Kd.Q_mono (Kd.Q_far (p := ⟨gb631, 2, none⟩) (Kd.Q_far (p := ⟨gb631, 1, none⟩) (Kd.Q_far (p := ⟨gb631, 0, none⟩) (Kd.Q_types HO613.out BK631.out (by decide)) (fun _ hk => hk.2) (.int .i64 t623)) (fun _ hk => hk.2) (.slice Ao20 t624.length t624.length)) (fun _ hk => hk.2) (.slice Ao22 t627.length co22)) (fun _ hk => trivial)⟩, ⟨by (with_reducible repeat (first | apply Kd.R_alloc | apply Kd.R_drewN | apply Kd.R_drew)); exact Kd.R_mono (Kd.R_far (p := ⟨gb631, 2, none⟩) (Kd.R_far (p := ⟨gb631, 1, none⟩) (Kd.R_far (p := ⟨gb631, 0, none⟩) (Kd.R_types HO617.out BK631.out (by decide)) (fun _ hk => hk.2) (.int .i64 t623)) (fun _ hk => hk.2) (.slice Ao20 t624.length t624.length)) (fun _ hk => hk.2) (.slice Ao22 t627.length co22)) (fun _ hk => ⟨hk.1.1.1, ⟨hk.1.1.2, hk.1.2⟩⟩)⟩, ⟨by (with_reducible repeat (first | apply Kd.R_alloc | apply Kd.R_drewN | apply Kd.R_drew)); exact Kd.R_mono (Kd.R_far (p := ⟨gb631, 2, none⟩) (Kd.R_far (p := ⟨gb631, 1, none⟩) (Kd.R_far (p := ⟨gb631, 0, none⟩) (Kd.R_types HO620.out BK631.out (by decide)) (fun _ hk => hk.2) (.int .i64 t623)) (fun _ hk => hk.2) (.slice Ao20 t624.length t624.length)) (fun _ hk => hk.2) (.slice Ao22 t627.length co22)) (fun _ hk => ⟨hk.1.1.1, ⟨hk.1.1.2, hk.1.2⟩⟩)⟩, ⟨by (with_reducible repeat (first | apply Kd.R_alloc | apply Kd.R_drewN | apply Kd.R_drew)); exact Kd.R_mono (Kd.R_far (p := ⟨gb631, 2, none⟩) (Kd.R_far (p := ⟨gb631, 1, none⟩) (Kd.R_far (p := ⟨gb631, 0, none⟩) (Kd.R_types HO626.out BK631.out (by decide)) (fun _ hk => hk.2) (.int .i64 t623)) (fun _ hk => hk.2) (.slice Ao20 t624.length t624.length)) (fun _ hk => hk.2) (.slice Ao22 t627.length co22)) (fun _ hk => ⟨hk.1.1.2, ⟨hk.1.2, hk.1.1.1⟩⟩)⟩, ⟨by (with_reducible repeat (first | apply Kd.R_alloc | apply Kd.R_drewN | apply Kd.R_drew)); exact Kd.R_mono (Kd.R_far (p := ⟨gb631, 2, none⟩) (Kd.R_far (p := ⟨gb631, 1, none⟩) (Kd.R_far (p := ⟨gb631, 0, none⟩) (Kd.R_types HO629.out BK631.out (by decide)) (fun _ hk => hk.2) (.int .i64 t623)) (fun _ hk => hk.2) (.slice Ao20 t624.length t624.length)) (fun _ hk => hk.2) (.slice Ao22 t627.length co22)) (fun _ hk => ⟨hk.1.1.2, ⟨hk.1.2, hk.1.1.1⟩⟩)⟩, ⟨gZ ab.out BK622.out⟩, ⟨bZ BK631.out⟩, ⟨z24_1⟩⟩
   ·rw [if_neg c24] at H
    have c24b0 : (t630 != t621) = false := by simpa using c24
    (try (have c24b1 : decide (t630 = t621) = true := by simpa using c24)); (try (have c24b2 : (t630 == t621) = true := by simpa using c24)); clear c24; (first | rw [c24b0] | (simp only [i64_w, i32_w]; rw [c24b0]) | skip)
    replace H := Option.bind_eq_some_iff.mp H
    obtain ⟨t632, A250, H⟩ := H
    have A25 := Aside0.mk A250
    clear A250
    have H' := Aside0.mk H
    clear H
    have hnb26 := ad.out
    have hnc26 := ab.out
    have au : w17.cell? ⟨gb631, 0, none⟩ = some (.int .i64 0) := bA24 BK631 rfl; have av : w17.cell? ⟨gb631, 1, none⟩ = some (.slice none 0 0) := bA24 BK631 rfl; have aw : w17.cell? ⟨gb631, 2, none⟩ = some (.slice none 0 0) := bA24 BK631 rfl
    have ax := blk_frozen BK631.out 0
    have ay := blk_frozen BK631.out 1
    have az := blk_frozen BK631.out 2
    have aA : w17.cell? ⟨gb622, 0, none⟩ = some (.int .i64 t614) := bA24 BK622 rfl; have aB : w17.cell? ⟨gb622, 1, none⟩ = some (.slice Ao12 t615.length co12) := bA24 BK622 rfl; have aC : w17.cell? ⟨gb622, 2, none⟩ = some (.slice Ao14 t618.length co14) := bA24 BK622 rfl
    have aD := blk_frozen BK622.out 0
    have aE := blk_frozen BK622.out 1
    have aF := blk_frozen BK622.out 2
    go_wp2_with (first | (go_at_call 13; (with_reducible refine (laws_lkPlan.calls k t623 _ _ t624 _ _ t627 t614 _ _ t615 _ _ t618 t632 _ ?side1 ?side2 ?side3 ?side4 ?side5 ?side6 ?side7 ?side8 A25.out).mono ?_); (case side1 => refine (Kd.R_reads' (e := 3) (base := w.heap.size) (ok := fun k_ => ((some k_ ≠ (.slice Ao22 t627.length co22 : Value).ownBlock ∧ some k_ ≠ (.slice Ao12 t615.length co12 : Value).ownBlock) ∧ some k_ ≠ (.slice Ao14 t618.length co14 : Value).ownBlock)) (n := t624.length) (c := co20) ?_).2.2; exact z24_13); (case side2 => first | exact (Kd.R_reads' HO626.out).2.1 | exact Nat.le_refl _); (case side3 => refine (Kd.R_reads' (e := 3) (base := w.heap.size) (ok := fun k_ => ((some k_ ≠ (.slice Ao20 t624.length co20 : Value).ownBlock ∧ some k_ ≠ (.slice Ao12 t615.length co12 : Value).ownBlock) ∧ some k_ ≠ (.slice Ao14 t618.length co14 : Value).ownBlock)) (n := t627.length) (c := co22) ?_).2.2; exact z24_14); (case side4 => first | exact (Kd.R_reads' HO629.out).2.1 | exact Nat.le_refl _); (case side5 => refine (Kd.R_reads' (e := 3) (base := w.heap.size) (ok := fun k_ => ((some k_ ≠ (.slice Ao14 t618.length co14 : Value).ownBlock ∧ some k_ ≠ (.slice Ao20 t624.length co20 : Value).ownBlock) ∧ some k_ ≠ (.slice Ao22 t627.length co22 : Value).ownBlock)) (n := t615.length) (c := co12) ?_).2.2; exact z24_15); (case side6 => first | exact (Kd.R_reads' HO617.out).2.1 | exact Nat.le_refl _); (case side7 => refine (Kd.R_reads' (e := 3) (base := w.heap.size) (ok := fun k_ => ((some k_ ≠ (.slice Ao12 t615.length co12 : Value).ownBlock ∧ some k_ ≠ (.slice Ao20 t624.length co20 : Value).ownBlock) ∧ some k_ ≠ (.slice Ao22 t627.length co22 : Value).ownBlock)) (n := t618.length) (c := co14) ?_).2.2; exact z24_16); (case side8 => first | exact (Kd.R_reads' HO620.out).2.1 | exact Nat.le_refl _); rintro e w29 ⟨rfl, hb⟩; replace HO613 := Aside0.mk (Kd.Q_below (by (with_reducible repeat (first | apply Kd.Q_alloc | apply Kd.Q_drewN | apply Kd.Q_drew)); exact (Kd.Q_mono (Kd.Q_far (p := ⟨gb631, 2, none⟩) (Kd.Q_far (p := ⟨gb631, 1, none⟩) (Kd.Q_far (p := ⟨gb631, 0, none⟩) (Kd.Q_types HO613.out BK631.out (by decide)) (fun _ hk => hk.2) (.int .i64 t623)) (fun _ hk => hk.2) (.slice Ao20 t624.length t624.length)) (fun _ hk => hk.2) (.slice Ao22 t627.length co22)) (fun _ h_ => h_.1))) hb); replace HO617 := Aside0.mk (Kd.R_below z24_15 hb); replace HO620 := Aside0.mk (Kd.R_below z24_16 hb); replace HO626 := Aside0.mk (Kd.R_below z24_13 hb); replace HO629 := Aside0.mk (Kd.R_below z24_14 hb); replace BK622 := Aside0.mk (blk_below (g := gb622) (o := .cells #[.int .i64 t614, .slice Ao12 t615.length co12, .slice Ao14 t618.length co14] 30 (0, 0)) (gZ ab.out BK622.out) hb); replace BK631 := Aside0.mk (blk_below (g := gb631) (o := .cells #[.int .i64 t623, .slice Ao20 t624.length t624.length, .slice Ao22 t627.length co22] 30 (0, 0)) (bZ BK631.out) hb); replace HB := Aside0.mk (below_step z24_1 hb); (try clear hb)))
    go_meet
    case rel => exact ⟨_, (!t632), z24_20, H', ⟨by first | omega | exact Nat.le_refl _⟩, ⟨z24_19⟩, ⟨by (with_reducible repeat (first | apply Kd.R_alloc | apply Kd.R_drewN | apply Kd.R_drew)); exact Kd.R_mono HO617.out (fun _ hk => ⟨hk.1.1, ⟨hk.1.2, hk.2⟩⟩)⟩, ⟨by (with_reducible repeat (first | apply Kd.R_alloc | apply Kd.R_drewN | apply Kd.R_drew)); exact Kd.R_mono HO620.out (fun _ hk => ⟨hk.1.1, ⟨hk.1.2, hk.2⟩⟩)⟩, ⟨by (with_reducible repeat (first | apply Kd.R_alloc | apply Kd.R_drewN | apply Kd.R_drew)); exact Kd.R_mono HO626.out (fun _ hk => ⟨hk.1.2, ⟨hk.2, hk.1.1⟩⟩)⟩, ⟨by (with_reducible repeat (first | apply Kd.R_alloc | apply Kd.R_drewN | apply Kd.R_drew)); exact Kd.R_mono HO629.out (fun _ hk => ⟨hk.1.2, ⟨hk.2, hk.1.1⟩⟩)⟩, ⟨zL24 BK622.out⟩, ⟨zL24 BK631.out⟩, ⟨z24_1⟩⟩
  case rest =>
   clear HC6
   try clear c2
   try clear c2b0
   try clear c2b1
   try clear ag
   try clear ai
   try clear ak
   try clear am
   try clear ao
   try clear aq
   try clear ah
   try clear aj
   try clear al
   try clear an
   try clear ap
   try clear ar
   obtain ⟨kq, x42_5, rfl, HA, HJ5, HO_5, ae, af, aa, ac, BK622, BK631, HB⟩ := hcut
   cases kq with
   | zero => exact absurd HA.out (by simp [laws_FnPlanOf.j0])
   | succ kj5 =>
    have H := HA.out
    clear HA; simp only [laws_FnPlanOf.j0] at H
    by_cases c30 : x42_5 = true
    ·subst c30
     rw [if_pos rfl] at H
     obtain rfl := Option.some.inj H
     go_wp2
     go_ret; exact ⟨z24_8, z24_1⟩
    ·replace c30 := Bool.eq_false_iff.mpr c30
     subst c30; rw [if_neg (show ¬ (false = true) by decide)] at H
     by_cases c31 : t630 = true
     ·subst c31
      rw [if_pos rfl] at H
      have H' := Aside0.mk H
      clear H
      go_wp2
      go_loopg [10] kj5 (fun kq v10 w' => ∃ (x10_2 : Int), v10 = .int .i64 x10_2 ∧ Aside0 (laws_FnPlanOf.l0 kq t609 t610 t611 x10_2 t623 t624 t627 = some r) ∧ Aside0 (kq ≤ kj5) ∧ Aside0 (Kd.Q Kd.bool 4 w' w.heap.size (fun _ => True) (.slice Ao8 t611.length co8) t611) ∧ Aside0 (Kd.R (Kd.int .i64) 3 w' w.heap.size (fun k_ => some k_ ≠ ((.slice Ao14 t618.length co14) : Value).ownBlock ∧ some k_ ≠ ((.slice Ao20 t624.length co20) : Value).ownBlock ∧ some k_ ≠ ((.slice Ao22 t627.length co22) : Value).ownBlock) (.slice Ao12 t615.length co12) t615) ∧ Aside0 (Kd.R (Kd.int .i64) 3 w' w.heap.size (fun k_ => some k_ ≠ ((.slice Ao12 t615.length co12) : Value).ownBlock ∧ some k_ ≠ ((.slice Ao20 t624.length co20) : Value).ownBlock ∧ some k_ ≠ ((.slice Ao22 t627.length co22) : Value).ownBlock) (.slice Ao14 t618.length co14) t618) ∧ Aside0 (Kd.R (Kd.int .i64) 3 w' w.heap.size (fun k_ => some k_ ≠ ((.slice Ao12 t615.length co12) : Value).ownBlock ∧ some k_ ≠ ((.slice Ao14 t618.length co14) : Value).ownBlock ∧ some k_ ≠ ((.slice Ao22 t627.length co22) : Value).ownBlock) (.slice Ao20 t624.length co20) t624) ∧ Aside0 (Kd.R (Kd.int .i64) 3 w' w.heap.size (fun k_ => some k_ ≠ ((.slice Ao12 t615.length co12) : Value).ownBlock ∧ some k_ ≠ ((.slice Ao14 t618.length co14) : Value).ownBlock ∧ some k_ ≠ ((.slice Ao20 t624.length co20) : Value).ownBlock) (.slice Ao22 t627.length co22) t627) ∧ Aside0 (w'.heap[gb622]? = some (.cells #[.int .i64 t614, (.slice Ao12 t615.length co12), (.slice Ao14 t618.length co14)] 30 (0, 0))) ∧ Aside0 (w'.heap[gb631]? = some (.cells #[.int .i64 t623, (.slice Ao20 t624.length t624.length), (.slice Ao22 t627.length co22)] 30 (0, 0))) ∧ Aside0 (Below w.heap.size w w'))
      case atStart => exact ⟨(0), z24_20, H', ⟨Nat.le_refl _⟩, ⟨z24_17⟩, ⟨z24_9⟩, ⟨z24_10⟩, ⟨z24_11⟩, ⟨z24_12⟩, ⟨zL24 BK622.out⟩, ⟨zL24 BK631.out⟩, ⟨z24_1⟩⟩
      case round =>
       clear H'
       try clear c2
       try clear c2b0
       try clear c2b1
       try clear c30
       try clear c31
       try clear ag
       try clear ai
       try clear ak
       try clear am
       try clear ao
       try clear aq
       try clear ah
       try clear aj
       try clear al
       try clear an
       try clear ap
       try clear ar
       obtain ⟨x10_2, rfl, HA, HK2, HO_5, ae, af, aa, ac, BK622, BK631, HB⟩ := hrel
       cases gk with
       | zero => exact absurd HA.out (by simp [laws_FnPlanOf.l0])
       | succ k2 =>
        have H := HA.out
        clear HA; simp only [laws_FnPlanOf.l0] at H
        by_cases c32 : x10_2 < (t624.length : Int)
        ·rw [if_pos c32] at H
         have c32b0 : decide (x10_2 < (t624.length : Int)) = true := decide_eq_true c32; clear c32; obtain ⟨c33, H⟩ := ifP H; have c33b0 : decide (0 ≤ x10_2) = true := decide_eq_true c33; clear c33; obtain ⟨c34, H⟩ := ifP H; have c34b0 : decide (0 ≤ (rd t624 x10_2)) = true := decide_eq_true c34; clear c34; obtain ⟨c35, H⟩ := ifP H; have c35b0 : decide ((rd t624 x10_2) < (t611.length : Int)) = true := decide_eq_true c35; clear c35
         obtain ⟨bq36, hbq36⟩ : ∃ b_ : Bool, b_ = (rdOf false t611 (rd t624 x10_2)) := ⟨_, rfl⟩
         replace H : (if (bq36 = true) then (if (rd t624 x10_2) = t610 then (some false) else (laws_FnPlanOf.l0 k2 t609 t610 t611 (wrap64 (x10_2 + 1)) t623 t624 t627)) else (some false)) = some r := by rw [← hbq36] at H; exact H
         have Nbq36 := Aside0.mk hbq36
         clear hbq36
         by_cases c37 : (bq36 = true)
         ·subst c37
          rw [if_pos rfl] at H
          by_cases c38 : (rd t624 x10_2) = t610
          ·rw [if_pos c38] at H
           have c38b0 : ((rd t624 x10_2) == t610) = true := beq_iff_eq.mpr c38
           have c38b1 : ((rd t624 x10_2) != t610) = false := bne_eq_false_iff_eq.mpr c38
           clear c38
           obtain rfl := Option.some.inj H
           have hnb39 := ad.out
           have hnc39 := ab.out
           have hcz40_1 : wr.cell? ⟨gb631, 1, none⟩ = some (.slice Ao20 t624.length t624.length) := bA24 BK631 rfl
           have hfz40_1 := blk_frozen BK631.out 1
           have p633 : 0 ≤ (x10_2 : Int) := of_decide_eq_true z24_6; have q633 : x10_2 < (t624.length : Int) := of_decide_eq_true z24_6; obtain ⟨ad633, e633, hx633_0⟩ := Kd.at_int (Kd.R_reads' aa.out).2.2 x10_2 p633 q633; cases e633
           replace p633 := eq_true p633
           replace q633 := eq_true q633
           have p634 : 0 ≤ ((rd t624 x10_2) : Int) := of_decide_eq_true z24_6
           have q634 : (rd t624 x10_2) < (t611.length : Int) := of_decide_eq_true z24_6
           obtain ⟨ad634, e634, hx634_0⟩ := Kd.at_bool (Kd.Q_reads' HO_5.out).2.2 (rd t624 x10_2) p634 q634; (try rw [← Nbq36.out] at hx634_0); cases e634
           replace p634 := eq_true p634
           replace q634 := eq_true q634
           have p635 : 0 ≤ (x10_2 : Int) := of_decide_eq_true z24_6; have q635 : x10_2 < (t624.length : Int) := of_decide_eq_true z24_6; obtain ⟨ad635, e635, hx635_0⟩ := Kd.at_int (Kd.R_reads' aa.out).2.2 x10_2 p635 q635
           obtain rfl : ad633 = ad635 := (by injection e635)
           replace p635 := eq_true p635
           replace q635 := eq_true q635
           go_wp2
           go_ret; exact ⟨z24_8, z24_1⟩
          ·rw [if_neg c38] at H
           have c38b0 : ((rd t624 x10_2) == t610) = false := beq_eq_false_iff_ne.mpr c38
           have c38b1 : ((rd t624 x10_2) != t610) = true := bne_iff_ne.mpr c38
           have H' := Aside0.mk H
           clear H
           have hnb43 := ad.out
           have hnc43 := ab.out
           have hcz44_1 : wr.cell? ⟨gb631, 1, none⟩ = some (.slice Ao20 t624.length t624.length) := bA24 BK631 rfl
           have hfz44_1 := blk_frozen BK631.out 1
           have p633 : 0 ≤ (x10_2 : Int) := of_decide_eq_true z24_6; have q633 : x10_2 < (t624.length : Int) := of_decide_eq_true z24_6; obtain ⟨ad633, e633, hx633_0⟩ := Kd.at_int (Kd.R_reads' aa.out).2.2 x10_2 p633 q633; cases e633
           replace p633 := eq_true p633
           replace q633 := eq_true q633
           have p634 : 0 ≤ ((rd t624 x10_2) : Int) := of_decide_eq_true z24_6
           have q634 : (rd t624 x10_2) < (t611.length : Int) := of_decide_eq_true z24_6
           obtain ⟨ad634, e634, hx634_0⟩ := Kd.at_bool (Kd.Q_reads' HO_5.out).2.2 (rd t624 x10_2) p634 q634; (try rw [← Nbq36.out] at hx634_0); cases e634
           replace p634 := eq_true p634
           replace q634 := eq_true q634
           have p635 : 0 ≤ (x10_2 : Int) := of_decide_eq_true z24_6; have q635 : x10_2 < (t624.length : Int) := of_decide_eq_true z24_6; obtain ⟨ad635, e635, hx635_0⟩ := Kd.at_int (Kd.R_reads' aa.out).2.2 x10_2 p635 q635
           obtain rfl : ad633 = ad635 := (by injection e635)
           replace p635 := eq_true p635
           replace q635 := eq_true q635
           go_wp2
           go_roundg k2
           case measure => have := HJ5.out; have := HK2.out; omega
           case rel => exact ⟨(wrap64 (x10_2 + 1)), z24_20, H', ⟨by have := HJ5.out; have := HK2.out; omega⟩, ⟨z24_17⟩, ⟨z24_9⟩, ⟨z24_10⟩, ⟨z24_11⟩, ⟨z24_12⟩, ⟨zL24 BK622.out⟩, ⟨zL24 BK631.out⟩, ⟨z24_1⟩⟩
         ·replace c37 := Bool.eq_false_iff.mpr c37
          subst c37; rw [if_neg (show ¬ (false = true) by decide)] at H
          obtain rfl := Option.some.inj H
          have hnb47 := ad.out
          have hnc47 := ab.out
          have hcz48_1 : wr.cell? ⟨gb631, 1, none⟩ = some (.slice Ao20 t624.length t624.length) := bA24 BK631 rfl
          have hfz48_1 := blk_frozen BK631.out 1
          have p633 : 0 ≤ (x10_2 : Int) := of_decide_eq_true z24_6; have q633 : x10_2 < (t624.length : Int) := of_decide_eq_true z24_6; obtain ⟨ad633, e633, hx633_0⟩ := Kd.at_int (Kd.R_reads' aa.out).2.2 x10_2 p633 q633; cases e633
          replace p633 := eq_true p633
          replace q633 := eq_true q633
          have p634 : 0 ≤ ((rd t624 x10_2) : Int) := of_decide_eq_true z24_6
          have q634 : (rd t624 x10_2) < (t611.length : Int) := of_decide_eq_true z24_6
          obtain ⟨ad634, e634, hx634_0⟩ := Kd.at_bool (Kd.Q_reads' HO_5.out).2.2 (rd t624 x10_2) p634 q634; (try rw [← Nbq36.out] at hx634_0); cases e634
          replace p634 := eq_true p634
          replace q634 := eq_true q634
          go_wp2
          go_ret; exact ⟨z24_8, z24_1⟩
        ·rw [if_neg c32] at H
         have c32b0 : decide (x10_2 < (t624.length : Int)) = false := decide_eq_false c32; clear c32
         replace H := Option.bind_eq_some_iff.mp H
         obtain ⟨t636, A500, H⟩ := H
         have A50 := Aside0.mk A500
         clear A500
         by_cases c51 : t636 = true
         ·subst c51
          rw [if_pos rfl] at H
          by_cases c52 : t623 = t610
          ·rw [if_pos c52] at H
           have c52b0 : (t623 == t610) = true := beq_iff_eq.mpr c52
           have c52b1 : (t623 != t610) = false := bne_eq_false_iff_eq.mpr c52
           clear c52
           obtain rfl := Option.some.inj H
           have hnb53 := ad.out
           have hnc53 := ab.out
           have hcz54_1 : wr.cell? ⟨gb631, 1, none⟩ = some (.slice Ao20 t624.length t624.length) := bA24 BK631 rfl
           have hfz54_1 := blk_frozen BK631.out 1
           have hcz55_0 : wr.cell? ⟨gb631, 0, none⟩ = some (.int .i64 t623) := bA24 BK631 rfl; have hcz55_2 : wr.cell? ⟨gb631, 2, none⟩ = some (.slice Ao22 t627.length co22) := bA24 BK631 rfl
           have hfz55_0 := blk_frozen BK631.out 0
           have hfz55_2 := blk_frozen BK631.out 2
           go_wp2_with (first | ((with_reducible refine gate_callee (f := 16) rfl ?_); refine goesL_ (some 72) rfl rfl Try.func16 (by kernel_rfl) rfl #[.int .i64 t609, .agg #[.int .i64 t623, .slice Ao20 t624.length t624.length, .slice Ao22 t627.length co22]] rfl z24_7 ?_; (with_reducible refine (impl_PlanOk.calls k2 t609 t623 _ _ t624 _ _ t627 true _ ?side1 ?side2 ?side3 ?side4 A50.out).mono ?_); (case side1 => exact cZ ((Kd.R_reads' aa.out).2.2)); (case side2 => first | exact (Kd.R_reads' aa.out).2.1 | exact Nat.le_refl _); (case side3 => exact cZ ((Kd.R_reads' ac.out).2.2)); (case side4 => first | exact (Kd.R_reads' ac.out).2.1 | exact Nat.le_refl _); rintro e w56 ⟨rfl, hb⟩; refine ⟨_, rfl, ?_⟩; replace HO_5 := Aside0.mk (Kd.Q_below z24_17 hb); replace ae := Aside0.mk (Kd.R_below z24_9 hb); replace af := Aside0.mk (Kd.R_below z24_10 hb); replace aa := Aside0.mk (Kd.R_below z24_11 hb); replace ac := Aside0.mk (Kd.R_below z24_12 hb); replace BK622 := bBZ_ BK622 hb; replace BK631 := bBZ_ BK631 hb; replace HB := Aside0.mk (below_step z24_1 hb); (try clear hb); obtain ⟨hcz57_0, hfz57_0, hcz58_1, hfz58_1⟩ := cAZ2_ BK631))
           go_ret; exact ⟨z24_8, z24_1⟩
          ·rw [if_neg c52] at H
           have c52b0 : (t623 == t610) = false := beq_eq_false_iff_ne.mpr c52
           have c52b1 : (t623 != t610) = true := bne_iff_ne.mpr c52
           obtain rfl := Option.some.inj H
           have hnb59 := ad.out
           have hnc59 := ab.out
           have hcz60_1 : wr.cell? ⟨gb631, 1, none⟩ = some (.slice Ao20 t624.length t624.length) := bA24 BK631 rfl
           have hfz60_1 := blk_frozen BK631.out 1
           have hcz61_0 : wr.cell? ⟨gb631, 0, none⟩ = some (.int .i64 t623) := bA24 BK631 rfl; have hcz61_2 : wr.cell? ⟨gb631, 2, none⟩ = some (.slice Ao22 t627.length co22) := bA24 BK631 rfl
           have hfz61_0 := blk_frozen BK631.out 0
           have hfz61_2 := blk_frozen BK631.out 2
           go_wp2_with (first | ((with_reducible refine gate_callee (f := 16) rfl ?_); refine goesL_ (some 72) rfl rfl Try.func16 (by kernel_rfl) rfl #[.int .i64 t609, .agg #[.int .i64 t623, .slice Ao20 t624.length t624.length, .slice Ao22 t627.length co22]] rfl z24_7 ?_; (with_reducible refine (impl_PlanOk.calls k2 t609 t623 _ _ t624 _ _ t627 true _ ?side1 ?side2 ?side3 ?side4 A50.out).mono ?_); (case side1 => exact cZ ((Kd.R_reads' aa.out).2.2)); (case side2 => first | exact (Kd.R_reads' aa.out).2.1 | exact Nat.le_refl _); (case side3 => exact cZ ((Kd.R_reads' ac.out).2.2)); (case side4 => first | exact (Kd.R_reads' ac.out).2.1 | exact Nat.le_refl _); rintro e w62 ⟨rfl, hb⟩; refine ⟨_, rfl, ?_⟩; replace HO_5 := Aside0.mk (Kd.Q_below z24_17 hb); replace ae := Aside0.mk (Kd.R_below z24_9 hb); replace af := Aside0.mk (Kd.R_below z24_10 hb); replace aa := Aside0.mk (Kd.R_below z24_11 hb); replace ac := Aside0.mk (Kd.R_below z24_12 hb); replace BK622 := bBZ_ BK622 hb; replace BK631 := bBZ_ BK631 hb; replace HB := Aside0.mk (below_step z24_1 hb); (try clear hb); have hcz63_0 : w62.cell? ⟨gb631, 0, none⟩ = some (.int .i64 t623) := bA24 BK631 rfl; have hfz63_0 := blk_frozen BK631.out 0))
           go_ret; exact ⟨z24_8, z24_1⟩
         ·replace c51 := Bool.eq_false_iff.mpr c51
          subst c51; rw [if_neg (show ¬ (false = true) by decide)] at H
          obtain rfl := Option.some.inj H
          have hnb64 := ad.out
          have hnc64 := ab.out
          have hcz65_1 : wr.cell? ⟨gb631, 1, none⟩ = some (.slice Ao20 t624.length t624.length) := bA24 BK631 rfl
          have hfz65_1 := blk_frozen BK631.out 1
          have hcz66_0 : wr.cell? ⟨gb631, 0, none⟩ = some (.int .i64 t623) := bA24 BK631 rfl; have hcz66_2 : wr.cell? ⟨gb631, 2, none⟩ = some (.slice Ao22 t627.length co22) := bA24 BK631 rfl
          have hfz66_0 := blk_frozen BK631.out 0
          have hfz66_2 := blk_frozen BK631.out 2
          go_wp2_with (first | ((with_reducible refine gate_callee (f := 16) rfl ?_); refine goesL_ (some 72) rfl rfl Try.func16 (by kernel_rfl) rfl #[.int .i64 t609, .agg #[.int .i64 t623, .slice Ao20 t624.length t624.length, .slice Ao22 t627.length co22]] rfl z24_7 ?_; (with_reducible refine (impl_PlanOk.calls k2 t609 t623 _ _ t624 _ _ t627 false _ ?side1 ?side2 ?side3 ?side4 A50.out).mono ?_); (case side1 => exact cZ ((Kd.R_reads' aa.out).2.2)); (case side2 => first | exact (Kd.R_reads' aa.out).2.1 | exact Nat.le_refl _); (case side3 => exact cZ ((Kd.R_reads' ac.out).2.2)); (case side4 => first | exact (Kd.R_reads' ac.out).2.1 | exact Nat.le_refl _); rintro e w67 ⟨rfl, hb⟩; refine ⟨_, rfl, ?_⟩; replace HO_5 := Aside0.mk (Kd.Q_below z24_17 hb); replace ae := Aside0.mk (Kd.R_below z24_9 hb); replace af := Aside0.mk (Kd.R_below z24_10 hb); replace aa := Aside0.mk (Kd.R_below z24_11 hb); replace ac := Aside0.mk (Kd.R_below z24_12 hb); replace BK622 := bBZ_ BK622 hb; replace BK631 := bBZ_ BK631 hb; replace HB := Aside0.mk (below_step z24_1 hb); (try clear hb)))
          go_ret; exact ⟨z24_8, z24_1⟩
     ·replace c31 := Bool.eq_false_iff.mpr c31
      subst c31; rw [if_neg (show ¬ (false = true) by decide)] at H
      obtain rfl := Option.some.inj H
      go_wp2
      go_ret; exact ⟨z24_8, z24_1⟩

/-- THE ONE PURE STATEMENT of laws_FnPlanOf: yours. -/
def laws_FnPlanOf.Pure : Prop := ∀ (l0 : List Int), l0.length ≤ maxLen → l0.length * 1 ≤ 140737488351232 → (∀ x ∈ l0, (Lit.int .u8 x).wf = true) → ∃ k, laws_FnPlanOf.f k l0 = some true
theorem laws_FnPlanOf.walk (P : laws_FnPlanOf.Pure) (a0 : Option Addr) (len0 cap0 : Nat) (z0 : List Int) (w : World) (w0 : (a0 = none ∧ len0 = 0 ∧ cap0 = 0 ∧ z0 = []) ∨ ∃ x, a0 = some x ∧ len0 ≤ cap0 ∧ cap0 ≤ maxLen ∧ z0.length = cap0 ∧ (∀ i, i < z0.length → w.cell? (x.add i) = some (.int .u8 (z0.getD i 0))) ∧ ∀ n ∈ z0, (Lit.int .u8 n).wf = true) (y0 : len0 * 1 ≤ 140737488351232) :
  Calls Try.prog 7 #[.slice a0 len0 cap0] w fun e w' => e = .returned (.bool true) ∧ Below w.heap.size w w' := by
 obtain ⟨l0, rfl, hr0, hm0, hw0, hc0⟩ := ReadsInt.ofRowC w0
 obtain ⟨k, h⟩ := P l0 hm0 y0 hw0
 refine (laws_FnPlanOf.calls k _ _ l0 true w (Kd.C_of_reads (d := (0 : Int)) (h1 := fun _ => rfl) hr0) hc0 h).mono ?_
 rintro e w' ⟨rfl, hd⟩
 exact ⟨rfl, hd⟩

end Go.Proofs.Ytfgpffocieegdaa.PA
