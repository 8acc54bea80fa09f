import Derived.Test.YtfgpffocieegdaaHd
import Derived.Test.YtfgpffocieegdaaPAx0
import Derived.Test.YtfgpffocieegdaaPAx17
import Derived.Test.YtfgpffocieegdaaPAx19
import Derived.Test.YtfgpffocieegdaaPAx20
import Derived.Test.YtfgpffocieegdaaPAx21
import Derived.Test.YtfgpffocieegdaaGw
import Derived.Test.YtfgpffocieegdaaGm
import Derived.Test.YtfgpffocieegdaaGc
namespace Go.Proofs.Ytfgpffocieegdaa.PA
open Go.RowKit Go.Proofs.YtfgpffocieegdaaW.PrintWords Go.Proofs.YtfgpffocieegdaaW.PrintLast Go.Proofs.YtfgpffocieegdaaW.PrintMore
attribute [local go_sem] max2_int min2_int max_two min_two max_three min_three max_four min_four   -- for this text's walks alone
set_option linter.unusedVariables false
set_option linter.unusedSimpArgs false

/-! ### laws_FnPlanNear: function 6 -/
theorem z22_0 {p : Prop} (h : p := by repeat (first | (with_reducible first | exact HB.out | apply below_alloc | apply pw_below_drewN | apply below_drew1) | exact HB.out)) : p := h
theorem z22_1 {p : Prop} (h : p := by (try simp only [List.map_toArray, List.map_cons, List.map_nil]); first | done | rfl | (simp only [List.length_drop, List.length_take]; rfl)) : p := h
theorem z22_2 {p : Prop} (h : p := by (with_reducible repeat (first | apply Kd.R_alloc | apply Kd.R_drewN | apply Kd.R_drew)); exact HO609.out) : p := h
theorem z22_3 {p : Prop} (h : p := by repeat (first | (with_reducible first | exact HB.out | apply below_alloc | apply pw_below_drewN | apply below_drew1 | refine below_set ?_ GE618.out) | exact HB.out)) : p := h
theorem z22_4 {p : Prop} (h : p := by first | rfl | (simp [errW_none, errW_some] <;> rfl) | (simp [*, errW_none, errW_some] <;> rfl)) : p := h
theorem z22_5 {p : Prop} (h : p := by (with_reducible repeat (first | apply Kd.R_alloc | apply Kd.R_drewN | apply Kd.R_drew)); exact HO613.out) : p := h
theorem z22_6 {p : Prop} (h : p := by (with_reducible repeat (first | apply Kd.R_alloc | apply Kd.R_drewN | apply Kd.R_drew)); exact HO616.out) : p := h
def laws_FnPlanNear.j0 : Nat → Int → Int → Int → Bool → Option (Bool)
  | 0, _, _, _, _ => none
  | k + 1, x3, x4, x5, x27 => if x27 = true then ((spec_PlanNear.f k x3 x4).bind fun t606 => (some (x5 == t606))) else ((laws_lkThere.f k 255).bind fun t607 => ((impl_PlanOf.f k x3 x4 t607).bind fun bt610 => (if bt610.2.2.2 = true then (if (bt610.2.1.length : Int) = x5 then (if x3 = 1 then (if x4 ≥ 6 then (if x3 = 2 then (some (x5 == 4)) else (some true)) else (if x5 = 2 then (if x3 = 2 then (some (x5 == 4)) else (some true)) else (some false))) else (if x3 = 2 then (some (x5 == 4)) else (some true))) else (some false)) else (some false))))
def laws_FnPlanNear.f (k : Nat) (l0 : List Int) : Option (Bool) := if (l0.length : Int) > 1048576 then (some true) else ((spec_DrawPlanNear.f k l0).bind fun bt602 => ((impl_PlanNear.f k bt602.1 bt602.2).bind fun t604 => ((spec_PlanNear.f k bt602.1 bt602.2).bind fun t605 => (if t604 = t605 then (laws_FnPlanNear.j0 k bt602.1 bt602.2 t604 (t604 == 0)) else (laws_FnPlanNear.j0 k bt602.1 bt602.2 t604 true)))))
theorem bA22 {W : World} {g : Nat} {cs : Array Value} {ty : TypeId} {j : Nat} {v : Value} (h : Aside0 (W.heap[g]? = some (.cells cs ty (0, 0)))) (e : cs[j]? = some v) : W.cell? ⟨g, j, none⟩ = some v := (blk_cell h.out j).trans e
set_option maxHeartbeats 8000000 in
set_option maxRecDepth 100000 in
theorem laws_FnPlanNear.calls (k : Nat) (A0 : Option Addr) (c0 : Nat) (l0 : List Int) (r : Bool) (w : World) (hr0 : Kd.C (Kd.int .u8) w A0 l0.length l0) (hc0 : l0.length ≤ c0) (h : laws_FnPlanNear.f k l0 = some r) :
  Calls Try.prog 6 #[.slice A0 l0.length c0] w fun e w' => e = .returned (.bool r) ∧ Below w.heap.size w w' := by
 have hu30 := Try.underlying30
 have HR0 := Aside0.mk hr0
 have HC0 := Aside0.mk hc0
 clear hr0 hc0
 have HB := Aside0.mk (Below.refl w.heap.size w)
 try unfold laws_FnPlanNear.f at h
 have H := h
 clear h
 by_cases c2 : (l0.length : Int) > 1048576
 ·rw [if_pos c2] at H
  have c2b0 : decide (1048576 < (l0.length : Int)) = true := decide_eq_true c2; have c2b1 : decide (1048576 < l0.length) = true := decide_eq_true (by omega); clear c2
  obtain rfl := Option.some.inj H
  go_enter Try.func6, Try.ntmps6
  go_wp2
  go_ret; exact ⟨z22_4, z22_0⟩
 ·rw [if_neg c2] at H
  have c2b0 : decide (1048576 < (l0.length : Int)) = false := decide_eq_false c2; have c2b1 : decide (1048576 < l0.length) = false := decide_eq_false (by omega); clear c2
  replace H := Option.bind_eq_some_iff.mp H
  obtain ⟨⟨t602, t603⟩, A30, H⟩ := H
  dsimp only at H
  have A3 := Aside0.mk A30
  clear A30
  replace H := Option.bind_eq_some_iff.mp H
  obtain ⟨t604, A40, H⟩ := H
  have A4 := Aside0.mk A40
  clear A40
  have HC5 := Aside0.mk H
  clear H; go_enter Try.func6, Try.ntmps6
  go_upto_region 5 with (first | ((with_reducible refine gate_callee (f := 14) rfl ?_); refine goesL_ (some 13) rfl rfl Try.func14 (by kernel_rfl) rfl #[.slice A0 l0.length c0] rfl z22_1 ?_; (with_reducible refine (spec_DrawPlanNear.calls k _ _ l0 t602 t603 _ ?side1 ?side2 A3.out).mono ?_); (case side1 => exact cZ (HR0.out)); (case side2 => exact HC0.out); rintro e w6 ⟨rfl, hb⟩; refine ⟨_, rfl, ?_⟩; replace HB := Aside0.mk (below_step z22_0 hb); (try clear hb)) | ((with_reducible refine gate_callee (f := 9) rfl ?_); refine goesL_ (some 18) rfl rfl Try.func9 (by kernel_rfl) rfl #[.int .i64 t602, .int .i64 t603] rfl z22_1 ?_; (with_reducible refine (impl_PlanNear.calls k t602 t603 t604 _ A4.out).mono ?_); rintro e w7 ⟨rfl, hb⟩; refine ⟨_, rfl, ?_⟩; replace HB := Aside0.mk (below_step z22_0 hb); (try clear hb)))
  (try simp only [Act.put, List.setIfInBounds_toArray, List.set_cons_zero, List.set_cons_succ])
  go_cut [27] (fun v27 wc => ∃ (kq : Nat) (x27_4 : Bool), v27 = .bool x27_4 ∧ Aside0 (laws_FnPlanNear.j0 kq t602 t603 t604 x27_4 = some r) ∧ Aside0 (kq ≤ k) ∧ Aside0 (Below w.heap.size w wc))
  case first =>
   have H := HC5.out
   clear HC5
   replace H := Option.bind_eq_some_iff.mp H
   obtain ⟨t605, A80, H⟩ := H
   have A8 := Aside0.mk A80
   clear A80
   by_cases c9 : t604 = t605
   ·rw [if_pos c9] at H
    have c9b0 : (t604 == t605) = true := beq_iff_eq.mpr c9
    have c9b1 : (t604 != t605) = false := bne_eq_false_iff_eq.mpr c9
    clear c9; (first | rw [c9b0] | (simp only [i64_w, i32_w]; rw [c9b0]) | skip)
    have H' := Aside0.mk H
    clear H
    go_wp2_with (first | ((with_reducible refine gate_callee (f := 8) rfl ?_); refine goesL_ (some 22) rfl rfl Try.func8 (by kernel_rfl) rfl #[.int .i64 t602, .int .i64 t603] rfl z22_1 ?_; (with_reducible refine (spec_PlanNear.calls k t602 t603 t605 _ A8.out).mono ?_); rintro e w10 ⟨rfl, hb⟩; refine ⟨_, rfl, ?_⟩; replace HB := Aside0.mk (below_step z22_0 hb); (try clear hb)))
    go_meet
    case rel => exact ⟨_, ((t604 == 0)), (by first | rfl | (simp; done) | (simp [*]; done)), H', ⟨by first | omega | exact Nat.le_refl _⟩, ⟨z22_0⟩⟩
   ·rw [if_neg c9] at H
    have c9b0 : (t604 == t605) = false := beq_eq_false_iff_ne.mpr c9
    have c9b1 : (t604 != t605) = true := bne_iff_ne.mpr c9
    (first | rw [c9b0] | (simp only [i64_w, i32_w]; rw [c9b0]) | skip)
    have H' := Aside0.mk H
    clear H
    go_wp2_with (first | ((with_reducible refine gate_callee (f := 8) rfl ?_); refine goesL_ (some 22) rfl rfl Try.func8 (by kernel_rfl) rfl #[.int .i64 t602, .int .i64 t603] rfl z22_1 ?_; (with_reducible refine (spec_PlanNear.calls k t602 t603 t605 _ A8.out).mono ?_); rintro e w11 ⟨rfl, hb⟩; refine ⟨_, rfl, ?_⟩; replace HB := Aside0.mk (below_step z22_0 hb); (try clear hb)))
    go_meet
    case rel => exact ⟨_, (true), (by first | rfl | (simp; done) | (simp [*]; done)), H', ⟨by first | omega | exact Nat.le_refl _⟩, ⟨z22_0⟩⟩
  case rest =>
   clear HC5
   try clear c2
   try clear c2b0
   try clear c2b1
   obtain ⟨kq, x27_4, rfl, HA, HJ4, HB⟩ := hcut
   cases kq with
   | zero => exact absurd HA.out (by simp [laws_FnPlanNear.j0])
   | succ kj4 =>
    have H := HA.out
    clear HA; simp only [laws_FnPlanNear.j0] at H
    by_cases c12 : x27_4 = true
    ·subst c12
     rw [if_pos rfl] at H
     replace H := Option.bind_eq_some_iff.mp H
     obtain ⟨t606, A130, H⟩ := H
     have A13 := Aside0.mk A130
     clear A130
     obtain rfl := Option.some.inj H
     go_wp2_with (first | ((with_reducible refine gate_callee (f := 8) rfl ?_); refine goesL_ (some 31) rfl rfl Try.func8 (by kernel_rfl) rfl #[.int .i64 t602, .int .i64 t603] rfl z22_1 ?_; (with_reducible refine (spec_PlanNear.calls kj4 t602 t603 t606 _ A13.out).mono ?_); rintro e w14 ⟨rfl, hb⟩; refine ⟨_, rfl, ?_⟩; replace HB := Aside0.mk (below_step z22_0 hb); (try clear hb)))
     go_ret; exact ⟨z22_4, z22_0⟩
    ·replace c12 := Bool.eq_false_iff.mpr c12
     subst c12; rw [if_neg (show ¬ (false = true) by decide)] at H
     replace H := Option.bind_eq_some_iff.mp H
     obtain ⟨t607, A150, H⟩ := H
     have A15 := Aside0.mk A150
     clear A150
     replace H := Option.bind_eq_some_iff.mp H
     obtain ⟨⟨t610, t611, t614, t617⟩, A160, H⟩ := H
     dsimp only at H
     have A16 := Aside0.mk A160
     clear A160
     by_cases c17 : t617 = true
     ·subst c17
      rw [if_pos rfl] at H
      by_cases c18 : (t611.length : Int) = t604
      ·rw [if_pos c18] at H
       have c18b0 : ((t611.length : Int) == t604) = true := beq_iff_eq.mpr c18
       have c18b1 : ((t611.length : Int) != t604) = false := bne_eq_false_iff_eq.mpr c18
       clear c18
       by_cases c19 : t602 = 1
       ·rw [if_pos c19] at H
        have c19b0 : (t602 == 1) = true := beq_iff_eq.mpr c19
        have c19b1 : (t602 != 1) = false := bne_eq_false_iff_eq.mpr c19
        clear c19
        by_cases c20 : t603 ≥ 6
        ·rw [if_pos c20] at H
         have c20b0 : decide (6 ≤ t603) = true := decide_eq_true c20; clear c20
         by_cases c21 : t602 = 2
         ·rw [if_pos c21] at H
          have c21b0 : (t602 == 2) = true := beq_iff_eq.mpr c21
          have c21b1 : (t602 != 2) = false := bne_eq_false_iff_eq.mpr c21
          clear c21
          obtain rfl := Option.some.inj H
          go_wp2_with (first | ((with_reducible refine gate_callee (f := 15) rfl ?_); refine goesL_ (some 36) rfl rfl Try.func15 (by kernel_rfl) rfl #[.int .i64 255] rfl z22_1 ?_; (with_reducible refine (laws_lkThere.calls kj4 255 t607 _ A15.out).mono ?_); rintro e w22 ⟨v608, rfl, ho0, hb⟩; refine ⟨_, rfl, ?_⟩; have HO609 := Aside0.mk (Kd.R_lower ho0 (below_size z22_0)); replace HB := Aside0.mk (below_step z22_0 hb); (try clear hb); (try clear ho0); obtain ⟨Ao23, co23, eo23⟩ := Kd.R_slice HO609.out; subst eo23; (try simp only [clip_slice])) | ((with_reducible refine gate_callee (f := 12) rfl ?_); refine goesL_ (some 37) rfl rfl Try.func12 (by kernel_rfl) rfl #[.int .i64 t602, .int .i64 t603, .slice Ao23 t607.length co23] rfl z22_1 ?_; (with_reducible refine (impl_PlanOf.calls kj4 t602 t603 _ _ t607 t610 t611 t614 true _ ?side1 ?side2 A16.out).mono ?_); (case side1 => exact cZ ((Kd.R_reads' HO609.out).2.2)); (case side2 => first | exact (Kd.R_reads' HO609.out).2.1 | exact Nat.le_refl _); rintro e w24 ⟨v612, v615, rfl, ho0, ho1, hb⟩; refine ⟨_, rfl, ?_⟩; replace HO609 := Aside0.mk (Kd.R_below z22_2 hb); have HO613 := Aside0.mk (Kd.R_lower ho0 (below_size z22_0)); have HO616 := Aside0.mk (Kd.R_lower ho1 (below_size z22_0)); replace HB := Aside0.mk (below_step z22_0 hb); (try clear hb); (try clear ho0); (try clear ho1)) | ((with_reducible refine gate_dst (N := 6) rfl ?_); (try (refine gate_guard (by rfl) ?_; dsimp only)); refine box_event ?hg (N := 6) ?hd (cs := #[.int .i64 0, .slice none 0 0, .slice none 0 0]) (t := 30) ?hr ?_; (case hd => rfl); (case hg => rfl); (case hr => first | (go_simp; done) | (go_simp; rfl)); intro gb618 hg w25 hbox hb; replace HO609 := Aside0.mk (Kd.R_below z22_2 hb); replace HO613 := Aside0.mk (Kd.R_below z22_5 hb); replace HO616 := Aside0.mk (Kd.R_below z22_6 hb); have BK618 := Aside0.mk (hbox); have GW618 := Aside0.mk ((by rw [hg]; exact (below_size z22_0) : w.heap.size ≤ gb618)); have GE618 := Aside0.mk ((by rw [hg]; exact (below_size z22_0) : w.heap.size ≤ gb618)); replace HB := Aside0.mk (below_step z22_0 hb); clear hb hbox hg; have hcz26_0 : w25.cell? ⟨gb618, 0, none⟩ = some (.int .i64 0) := bA22 BK618 rfl; have hfz26_0 := blk_frozen BK618.out 0; obtain ⟨Ao27, co27, eo27⟩ := Kd.R_slice HO613.out; subst eo27; (try simp only [clip_slice]); have hcz28_1 : w25.cell? ⟨gb618, 1, none⟩ = some (.slice none 0 0) := bA22 BK618 rfl; have hfz28_1 := blk_frozen BK618.out 1; obtain ⟨Ao29, co29, eo29⟩ := Kd.R_slice HO616.out; subst eo29; (try simp only [clip_slice]); have hcz30_2 : w25.cell? ⟨gb618, 2, none⟩ = some (.slice none 0 0) := bA22 BK618 rfl; have hfz30_2 := blk_frozen BK618.out 2))
          go_ret; exact ⟨z22_4, z22_3⟩
         ·rw [if_neg c21] at H
          have c21b0 : (t602 == 2) = false := beq_eq_false_iff_ne.mpr c21
          have c21b1 : (t602 != 2) = true := bne_iff_ne.mpr c21
          obtain rfl := Option.some.inj H
          go_wp2_with (first | ((with_reducible refine gate_callee (f := 15) rfl ?_); refine goesL_ (some 36) rfl rfl Try.func15 (by kernel_rfl) rfl #[.int .i64 255] rfl z22_1 ?_; (with_reducible refine (laws_lkThere.calls kj4 255 t607 _ A15.out).mono ?_); rintro e w32 ⟨v608, rfl, ho0, hb⟩; refine ⟨_, rfl, ?_⟩; have HO609 := Aside0.mk (Kd.R_lower ho0 (below_size z22_0)); replace HB := Aside0.mk (below_step z22_0 hb); (try clear hb); (try clear ho0); obtain ⟨Ao33, co33, eo33⟩ := Kd.R_slice HO609.out; subst eo33; (try simp only [clip_slice])) | ((with_reducible refine gate_callee (f := 12) rfl ?_); refine goesL_ (some 37) rfl rfl Try.func12 (by kernel_rfl) rfl #[.int .i64 t602, .int .i64 t603, .slice Ao33 t607.length co33] rfl z22_1 ?_; (with_reducible refine (impl_PlanOf.calls kj4 t602 t603 _ _ t607 t610 t611 t614 true _ ?side1 ?side2 A16.out).mono ?_); (case side1 => exact cZ ((Kd.R_reads' HO609.out).2.2)); (case side2 => first | exact (Kd.R_reads' HO609.out).2.1 | exact Nat.le_refl _); rintro e w34 ⟨v612, v615, rfl, ho0, ho1, hb⟩; refine ⟨_, rfl, ?_⟩; replace HO609 := Aside0.mk (Kd.R_below z22_2 hb); have HO613 := Aside0.mk (Kd.R_lower ho0 (below_size z22_0)); have HO616 := Aside0.mk (Kd.R_lower ho1 (below_size z22_0)); replace HB := Aside0.mk (below_step z22_0 hb); (try clear hb); (try clear ho0); (try clear ho1)) | ((with_reducible refine gate_dst (N := 6) rfl ?_); (try (refine gate_guard (by rfl) ?_; dsimp only)); refine box_event ?hg (N := 6) ?hd (cs := #[.int .i64 0, .slice none 0 0, .slice none 0 0]) (t := 30) ?hr ?_; (case hd => rfl); (case hg => rfl); (case hr => first | (go_simp; done) | (go_simp; rfl)); intro gb618 hg w35 hbox hb; replace HO609 := Aside0.mk (Kd.R_below z22_2 hb); replace HO613 := Aside0.mk (Kd.R_below z22_5 hb); replace HO616 := Aside0.mk (Kd.R_below z22_6 hb); have BK618 := Aside0.mk (hbox); have GW618 := Aside0.mk ((by rw [hg]; exact (below_size z22_0) : w.heap.size ≤ gb618)); have GE618 := Aside0.mk ((by rw [hg]; exact (below_size z22_0) : w.heap.size ≤ gb618)); replace HB := Aside0.mk (below_step z22_0 hb); clear hb hbox hg; have hcz36_0 : w35.cell? ⟨gb618, 0, none⟩ = some (.int .i64 0) := bA22 BK618 rfl; have hfz36_0 := blk_frozen BK618.out 0; obtain ⟨Ao37, co37, eo37⟩ := Kd.R_slice HO613.out; subst eo37; (try simp only [clip_slice]); have hcz38_1 : w35.cell? ⟨gb618, 1, none⟩ = some (.slice none 0 0) := bA22 BK618 rfl; have hfz38_1 := blk_frozen BK618.out 1; obtain ⟨Ao39, co39, eo39⟩ := Kd.R_slice HO616.out; subst eo39; (try simp only [clip_slice]); have hcz40_2 : w35.cell? ⟨gb618, 2, none⟩ = some (.slice none 0 0) := bA22 BK618 rfl; have hfz40_2 := blk_frozen BK618.out 2))
          go_ret; exact ⟨z22_4, z22_3⟩
        ·rw [if_neg c20] at H
         have c20b0 : decide (6 ≤ t603) = false := decide_eq_false c20; clear c20
         by_cases c42 : t604 = 2
         ·rw [if_pos c42] at H
          have c42b0 : (t604 == 2) = true := beq_iff_eq.mpr c42
          have c42b1 : (t604 != 2) = false := bne_eq_false_iff_eq.mpr c42
          clear c42
          by_cases c43 : t602 = 2
          ·rw [if_pos c43] at H
           have c43b0 : (t602 == 2) = true := beq_iff_eq.mpr c43
           have c43b1 : (t602 != 2) = false := bne_eq_false_iff_eq.mpr c43
           clear c43
           obtain rfl := Option.some.inj H
           go_wp2_with (first | ((with_reducible refine gate_callee (f := 15) rfl ?_); refine goesL_ (some 36) rfl rfl Try.func15 (by kernel_rfl) rfl #[.int .i64 255] rfl z22_1 ?_; (with_reducible refine (laws_lkThere.calls kj4 255 t607 _ A15.out).mono ?_); rintro e w44 ⟨v608, rfl, ho0, hb⟩; refine ⟨_, rfl, ?_⟩; have HO609 := Aside0.mk (Kd.R_lower ho0 (below_size z22_0)); replace HB := Aside0.mk (below_step z22_0 hb); (try clear hb); (try clear ho0); obtain ⟨Ao45, co45, eo45⟩ := Kd.R_slice HO609.out; subst eo45; (try simp only [clip_slice])) | ((with_reducible refine gate_callee (f := 12) rfl ?_); refine goesL_ (some 37) rfl rfl Try.func12 (by kernel_rfl) rfl #[.int .i64 t602, .int .i64 t603, .slice Ao45 t607.length co45] rfl z22_1 ?_; (with_reducible refine (impl_PlanOf.calls kj4 t602 t603 _ _ t607 t610 t611 t614 true _ ?side1 ?side2 A16.out).mono ?_); (case side1 => exact cZ ((Kd.R_reads' HO609.out).2.2)); (case side2 => first | exact (Kd.R_reads' HO609.out).2.1 | exact Nat.le_refl _); rintro e w46 ⟨v612, v615, rfl, ho0, ho1, hb⟩; refine ⟨_, rfl, ?_⟩; replace HO609 := Aside0.mk (Kd.R_below z22_2 hb); have HO613 := Aside0.mk (Kd.R_lower ho0 (below_size z22_0)); have HO616 := Aside0.mk (Kd.R_lower ho1 (below_size z22_0)); replace HB := Aside0.mk (below_step z22_0 hb); (try clear hb); (try clear ho0); (try clear ho1)) | ((with_reducible refine gate_dst (N := 6) rfl ?_); (try (refine gate_guard (by rfl) ?_; dsimp only)); refine box_event ?hg (N := 6) ?hd (cs := #[.int .i64 0, .slice none 0 0, .slice none 0 0]) (t := 30) ?hr ?_; (case hd => rfl); (case hg => rfl); (case hr => first | (go_simp; done) | (go_simp; rfl)); intro gb618 hg w47 hbox hb; replace HO609 := Aside0.mk (Kd.R_below z22_2 hb); replace HO613 := Aside0.mk (Kd.R_below z22_5 hb); replace HO616 := Aside0.mk (Kd.R_below z22_6 hb); have BK618 := Aside0.mk (hbox); have GW618 := Aside0.mk ((by rw [hg]; exact (below_size z22_0) : w.heap.size ≤ gb618)); have GE618 := Aside0.mk ((by rw [hg]; exact (below_size z22_0) : w.heap.size ≤ gb618)); replace HB := Aside0.mk (below_step z22_0 hb); clear hb hbox hg; have hcz48_0 : w47.cell? ⟨gb618, 0, none⟩ = some (.int .i64 0) := bA22 BK618 rfl; have hfz48_0 := blk_frozen BK618.out 0; obtain ⟨Ao49, co49, eo49⟩ := Kd.R_slice HO613.out; subst eo49; (try simp only [clip_slice]); have hcz50_1 : w47.cell? ⟨gb618, 1, none⟩ = some (.slice none 0 0) := bA22 BK618 rfl; have hfz50_1 := blk_frozen BK618.out 1; obtain ⟨Ao51, co51, eo51⟩ := Kd.R_slice HO616.out; subst eo51; (try simp only [clip_slice]); have hcz52_2 : w47.cell? ⟨gb618, 2, none⟩ = some (.slice none 0 0) := bA22 BK618 rfl; have hfz52_2 := blk_frozen BK618.out 2))
           go_ret; exact ⟨z22_4, z22_3⟩
          ·rw [if_neg c43] at H
           have c43b0 : (t602 == 2) = false := beq_eq_false_iff_ne.mpr c43
           have c43b1 : (t602 != 2) = true := bne_iff_ne.mpr c43
           obtain rfl := Option.some.inj H
           go_wp2_with (first | ((with_reducible refine gate_callee (f := 15) rfl ?_); refine goesL_ (some 36) rfl rfl Try.func15 (by kernel_rfl) rfl #[.int .i64 255] rfl z22_1 ?_; (with_reducible refine (laws_lkThere.calls kj4 255 t607 _ A15.out).mono ?_); rintro e w54 ⟨v608, rfl, ho0, hb⟩; refine ⟨_, rfl, ?_⟩; have HO609 := Aside0.mk (Kd.R_lower ho0 (below_size z22_0)); replace HB := Aside0.mk (below_step z22_0 hb); (try clear hb); (try clear ho0); obtain ⟨Ao55, co55, eo55⟩ := Kd.R_slice HO609.out; subst eo55; (try simp only [clip_slice])) | ((with_reducible refine gate_callee (f := 12) rfl ?_); refine goesL_ (some 37) rfl rfl Try.func12 (by kernel_rfl) rfl #[.int .i64 t602, .int .i64 t603, .slice Ao55 t607.length co55] rfl z22_1 ?_; (with_reducible refine (impl_PlanOf.calls kj4 t602 t603 _ _ t607 t610 t611 t614 true _ ?side1 ?side2 A16.out).mono ?_); (case side1 => exact cZ ((Kd.R_reads' HO609.out).2.2)); (case side2 => first | exact (Kd.R_reads' HO609.out).2.1 | exact Nat.le_refl _); rintro e w56 ⟨v612, v615, rfl, ho0, ho1, hb⟩; refine ⟨_, rfl, ?_⟩; replace HO609 := Aside0.mk (Kd.R_below z22_2 hb); have HO613 := Aside0.mk (Kd.R_lower ho0 (below_size z22_0)); have HO616 := Aside0.mk (Kd.R_lower ho1 (below_size z22_0)); replace HB := Aside0.mk (below_step z22_0 hb); (try clear hb); (try clear ho0); (try clear ho1)) | ((with_reducible refine gate_dst (N := 6) rfl ?_); (try (refine gate_guard (by rfl) ?_; dsimp only)); refine box_event ?hg (N := 6) ?hd (cs := #[.int .i64 0, .slice none 0 0, .slice none 0 0]) (t := 30) ?hr ?_; (case hd => rfl); (case hg => rfl); (case hr => first | (go_simp; done) | (go_simp; rfl)); intro gb618 hg w57 hbox hb; replace HO609 := Aside0.mk (Kd.R_below z22_2 hb); replace HO613 := Aside0.mk (Kd.R_below z22_5 hb); replace HO616 := Aside0.mk (Kd.R_below z22_6 hb); have BK618 := Aside0.mk (hbox); have GW618 := Aside0.mk ((by rw [hg]; exact (below_size z22_0) : w.heap.size ≤ gb618)); have GE618 := Aside0.mk ((by rw [hg]; exact (below_size z22_0) : w.heap.size ≤ gb618)); replace HB := Aside0.mk (below_step z22_0 hb); clear hb hbox hg; have hcz58_0 : w57.cell? ⟨gb618, 0, none⟩ = some (.int .i64 0) := bA22 BK618 rfl; have hfz58_0 := blk_frozen BK618.out 0; obtain ⟨Ao59, co59, eo59⟩ := Kd.R_slice HO613.out; subst eo59; (try simp only [clip_slice]); have hcz60_1 : w57.cell? ⟨gb618, 1, none⟩ = some (.slice none 0 0) := bA22 BK618 rfl; have hfz60_1 := blk_frozen BK618.out 1; obtain ⟨Ao61, co61, eo61⟩ := Kd.R_slice HO616.out; subst eo61; (try simp only [clip_slice]); have hcz62_2 : w57.cell? ⟨gb618, 2, none⟩ = some (.slice none 0 0) := bA22 BK618 rfl; have hfz62_2 := blk_frozen BK618.out 2))
           go_ret; exact ⟨z22_4, z22_3⟩
         ·rw [if_neg c42] at H
          have c42b0 : (t604 == 2) = false := beq_eq_false_iff_ne.mpr c42
          have c42b1 : (t604 != 2) = true := bne_iff_ne.mpr c42
          obtain rfl := Option.some.inj H
          go_wp2_with (first | ((with_reducible refine gate_callee (f := 15) rfl ?_); refine goesL_ (some 36) rfl rfl Try.func15 (by kernel_rfl) rfl #[.int .i64 255] rfl z22_1 ?_; (with_reducible refine (laws_lkThere.calls kj4 255 t607 _ A15.out).mono ?_); rintro e w64 ⟨v608, rfl, ho0, hb⟩; refine ⟨_, rfl, ?_⟩; have HO609 := Aside0.mk (Kd.R_lower ho0 (below_size z22_0)); replace HB := Aside0.mk (below_step z22_0 hb); (try clear hb); (try clear ho0); obtain ⟨Ao65, co65, eo65⟩ := Kd.R_slice HO609.out; subst eo65; (try simp only [clip_slice])) | ((with_reducible refine gate_callee (f := 12) rfl ?_); refine goesL_ (some 37) rfl rfl Try.func12 (by kernel_rfl) rfl #[.int .i64 t602, .int .i64 t603, .slice Ao65 t607.length co65] rfl z22_1 ?_; (with_reducible refine (impl_PlanOf.calls kj4 t602 t603 _ _ t607 t610 t611 t614 true _ ?side1 ?side2 A16.out).mono ?_); (case side1 => exact cZ ((Kd.R_reads' HO609.out).2.2)); (case side2 => first | exact (Kd.R_reads' HO609.out).2.1 | exact Nat.le_refl _); rintro e w66 ⟨v612, v615, rfl, ho0, ho1, hb⟩; refine ⟨_, rfl, ?_⟩; replace HO609 := Aside0.mk (Kd.R_below z22_2 hb); have HO613 := Aside0.mk (Kd.R_lower ho0 (below_size z22_0)); have HO616 := Aside0.mk (Kd.R_lower ho1 (below_size z22_0)); replace HB := Aside0.mk (below_step z22_0 hb); (try clear hb); (try clear ho0); (try clear ho1)) | ((with_reducible refine gate_dst (N := 6) rfl ?_); (try (refine gate_guard (by rfl) ?_; dsimp only)); refine box_event ?hg (N := 6) ?hd (cs := #[.int .i64 0, .slice none 0 0, .slice none 0 0]) (t := 30) ?hr ?_; (case hd => rfl); (case hg => rfl); (case hr => first | (go_simp; done) | (go_simp; rfl)); intro gb618 hg w67 hbox hb; replace HO609 := Aside0.mk (Kd.R_below z22_2 hb); replace HO613 := Aside0.mk (Kd.R_below z22_5 hb); replace HO616 := Aside0.mk (Kd.R_below z22_6 hb); have BK618 := Aside0.mk (hbox); have GW618 := Aside0.mk ((by rw [hg]; exact (below_size z22_0) : w.heap.size ≤ gb618)); have GE618 := Aside0.mk ((by rw [hg]; exact (below_size z22_0) : w.heap.size ≤ gb618)); replace HB := Aside0.mk (below_step z22_0 hb); clear hb hbox hg; have hcz68_0 : w67.cell? ⟨gb618, 0, none⟩ = some (.int .i64 0) := bA22 BK618 rfl; have hfz68_0 := blk_frozen BK618.out 0; obtain ⟨Ao69, co69, eo69⟩ := Kd.R_slice HO613.out; subst eo69; (try simp only [clip_slice]); have hcz70_1 : w67.cell? ⟨gb618, 1, none⟩ = some (.slice none 0 0) := bA22 BK618 rfl; have hfz70_1 := blk_frozen BK618.out 1; obtain ⟨Ao71, co71, eo71⟩ := Kd.R_slice HO616.out; subst eo71; (try simp only [clip_slice]); have hcz72_2 : w67.cell? ⟨gb618, 2, none⟩ = some (.slice none 0 0) := bA22 BK618 rfl; have hfz72_2 := blk_frozen BK618.out 2))
          go_ret; exact ⟨z22_4, z22_3⟩
       ·rw [if_neg c19] at H
        have c19b0 : (t602 == 1) = false := beq_eq_false_iff_ne.mpr c19
        have c19b1 : (t602 != 1) = true := bne_iff_ne.mpr c19
        by_cases c74 : t602 = 2
        ·rw [if_pos c74] at H
         have c74b0 : (t602 == 2) = true := beq_iff_eq.mpr c74
         have c74b1 : (t602 != 2) = false := bne_eq_false_iff_eq.mpr c74
         clear c74
         obtain rfl := Option.some.inj H
         go_wp2_with (first | ((with_reducible refine gate_callee (f := 15) rfl ?_); refine goesL_ (some 36) rfl rfl Try.func15 (by kernel_rfl) rfl #[.int .i64 255] rfl z22_1 ?_; (with_reducible refine (laws_lkThere.calls kj4 255 t607 _ A15.out).mono ?_); rintro e w75 ⟨v608, rfl, ho0, hb⟩; refine ⟨_, rfl, ?_⟩; have HO609 := Aside0.mk (Kd.R_lower ho0 (below_size z22_0)); replace HB := Aside0.mk (below_step z22_0 hb); (try clear hb); (try clear ho0); obtain ⟨Ao76, co76, eo76⟩ := Kd.R_slice HO609.out; subst eo76; (try simp only [clip_slice])) | ((with_reducible refine gate_callee (f := 12) rfl ?_); refine goesL_ (some 37) rfl rfl Try.func12 (by kernel_rfl) rfl #[.int .i64 t602, .int .i64 t603, .slice Ao76 t607.length co76] rfl z22_1 ?_; (with_reducible refine (impl_PlanOf.calls kj4 t602 t603 _ _ t607 t610 t611 t614 true _ ?side1 ?side2 A16.out).mono ?_); (case side1 => exact cZ ((Kd.R_reads' HO609.out).2.2)); (case side2 => first | exact (Kd.R_reads' HO609.out).2.1 | exact Nat.le_refl _); rintro e w77 ⟨v612, v615, rfl, ho0, ho1, hb⟩; refine ⟨_, rfl, ?_⟩; replace HO609 := Aside0.mk (Kd.R_below z22_2 hb); have HO613 := Aside0.mk (Kd.R_lower ho0 (below_size z22_0)); have HO616 := Aside0.mk (Kd.R_lower ho1 (below_size z22_0)); replace HB := Aside0.mk (below_step z22_0 hb); (try clear hb); (try clear ho0); (try clear ho1)) | ((with_reducible refine gate_dst (N := 6) rfl ?_); (try (refine gate_guard (by rfl) ?_; dsimp only)); refine box_event ?hg (N := 6) ?hd (cs := #[.int .i64 0, .slice none 0 0, .slice none 0 0]) (t := 30) ?hr ?_; (case hd => rfl); (case hg => rfl); (case hr => first | (go_simp; done) | (go_simp; rfl)); intro gb618 hg w78 hbox hb; replace HO609 := Aside0.mk (Kd.R_below z22_2 hb); replace HO613 := Aside0.mk (Kd.R_below z22_5 hb); replace HO616 := Aside0.mk (Kd.R_below z22_6 hb); have BK618 := Aside0.mk (hbox); have GW618 := Aside0.mk ((by rw [hg]; exact (below_size z22_0) : w.heap.size ≤ gb618)); have GE618 := Aside0.mk ((by rw [hg]; exact (below_size z22_0) : w.heap.size ≤ gb618)); replace HB := Aside0.mk (below_step z22_0 hb); clear hb hbox hg; have hcz79_0 : w78.cell? ⟨gb618, 0, none⟩ = some (.int .i64 0) := bA22 BK618 rfl; have hfz79_0 := blk_frozen BK618.out 0; obtain ⟨Ao80, co80, eo80⟩ := Kd.R_slice HO613.out; subst eo80; (try simp only [clip_slice]); have hcz81_1 : w78.cell? ⟨gb618, 1, none⟩ = some (.slice none 0 0) := bA22 BK618 rfl; have hfz81_1 := blk_frozen BK618.out 1; obtain ⟨Ao82, co82, eo82⟩ := Kd.R_slice HO616.out; subst eo82; (try simp only [clip_slice]); have hcz83_2 : w78.cell? ⟨gb618, 2, none⟩ = some (.slice none 0 0) := bA22 BK618 rfl; have hfz83_2 := blk_frozen BK618.out 2))
         go_ret; exact ⟨z22_4, z22_3⟩
        ·rw [if_neg c74] at H
         have c74b0 : (t602 == 2) = false := beq_eq_false_iff_ne.mpr c74
         have c74b1 : (t602 != 2) = true := bne_iff_ne.mpr c74
         obtain rfl := Option.some.inj H
         go_wp2_with (first | ((with_reducible refine gate_callee (f := 15) rfl ?_); refine goesL_ (some 36) rfl rfl Try.func15 (by kernel_rfl) rfl #[.int .i64 255] rfl z22_1 ?_; (with_reducible refine (laws_lkThere.calls kj4 255 t607 _ A15.out).mono ?_); rintro e w85 ⟨v608, rfl, ho0, hb⟩; refine ⟨_, rfl, ?_⟩; have HO609 := Aside0.mk (Kd.R_lower ho0 (below_size z22_0)); replace HB := Aside0.mk (below_step z22_0 hb); (try clear hb); (try clear ho0); obtain ⟨Ao86, co86, eo86⟩ := Kd.R_slice HO609.out; subst eo86; (try simp only [clip_slice])) | ((with_reducible refine gate_callee (f := 12) rfl ?_); refine goesL_ (some 37) rfl rfl Try.func12 (by kernel_rfl) rfl #[.int .i64 t602, .int .i64 t603, .slice Ao86 t607.length co86] rfl z22_1 ?_; (with_reducible refine (impl_PlanOf.calls kj4 t602 t603 _ _ t607 t610 t611 t614 true _ ?side1 ?side2 A16.out).mono ?_); (case side1 => exact cZ ((Kd.R_reads' HO609.out).2.2)); (case side2 => first | exact (Kd.R_reads' HO609.out).2.1 | exact Nat.le_refl _); rintro e w87 ⟨v612, v615, rfl, ho0, ho1, hb⟩; refine ⟨_, rfl, ?_⟩; replace HO609 := Aside0.mk (Kd.R_below z22_2 hb); have HO613 := Aside0.mk (Kd.R_lower ho0 (below_size z22_0)); have HO616 := Aside0.mk (Kd.R_lower ho1 (below_size z22_0)); replace HB := Aside0.mk (below_step z22_0 hb); (try clear hb); (try clear ho0); (try clear ho1)) | ((with_reducible refine gate_dst (N := 6) rfl ?_); (try (refine gate_guard (by rfl) ?_; dsimp only)); refine box_event ?hg (N := 6) ?hd (cs := #[.int .i64 0, .slice none 0 0, .slice none 0 0]) (t := 30) ?hr ?_; (case hd => rfl); (case hg => rfl); (case hr => first | (go_simp; done) | (go_simp; rfl)); intro gb618 hg w88 hbox hb; replace HO609 := Aside0.mk (Kd.R_below z22_2 hb); replace HO613 := Aside0.mk (Kd.R_below z22_5 hb); replace HO616 := Aside0.mk (Kd.R_below z22_6 hb); have BK618 := Aside0.mk (hbox); have GW618 := Aside0.mk ((by rw [hg]; exact (below_size z22_0) : w.heap.size ≤ gb618)); have GE618 := Aside0.mk ((by rw [hg]; exact (below_size z22_0) : w.heap.size ≤ gb618)); replace HB := Aside0.mk (below_step z22_0 hb); clear hb hbox hg; have hcz89_0 : w88.cell? ⟨gb618, 0, none⟩ = some (.int .i64 0) := bA22 BK618 rfl; have hfz89_0 := blk_frozen BK618.out 0; obtain ⟨Ao90, co90, eo90⟩ := Kd.R_slice HO613.out; subst eo90; (try simp only [clip_slice]); have hcz91_1 : w88.cell? ⟨gb618, 1, none⟩ = some (.slice none 0 0) := bA22 BK618 rfl; have hfz91_1 := blk_frozen BK618.out 1; obtain ⟨Ao92, co92, eo92⟩ := Kd.R_slice HO616.out; subst eo92; (try simp only [clip_slice]); have hcz93_2 : w88.cell? ⟨gb618, 2, none⟩ = some (.slice none 0 0) := bA22 BK618 rfl; have hfz93_2 := blk_frozen BK618.out 2))
         go_ret; exact ⟨z22_4, z22_3⟩
      ·rw [if_neg c18] at H
       have c18b0 : ((t611.length : Int) == t604) = false := beq_eq_false_iff_ne.mpr c18
       have c18b1 : ((t611.length : Int) != t604) = true := bne_iff_ne.mpr c18
       obtain rfl := Option.some.inj H
       go_wp2_with (first | ((with_reducible refine gate_callee (f := 15) rfl ?_); refine goesL_ (some 36) rfl rfl Try.func15 (by kernel_rfl) rfl #[.int .i64 255] rfl z22_1 ?_; (with_reducible refine (laws_lkThere.calls kj4 255 t607 _ A15.out).mono ?_); rintro e w95 ⟨v608, rfl, ho0, hb⟩; refine ⟨_, rfl, ?_⟩; have HO609 := Aside0.mk (Kd.R_lower ho0 (below_size z22_0)); replace HB := Aside0.mk (below_step z22_0 hb); (try clear hb); (try clear ho0); obtain ⟨Ao96, co96, eo96⟩ := Kd.R_slice HO609.out; subst eo96; (try simp only [clip_slice])) | ((with_reducible refine gate_callee (f := 12) rfl ?_); refine goesL_ (some 37) rfl rfl Try.func12 (by kernel_rfl) rfl #[.int .i64 t602, .int .i64 t603, .slice Ao96 t607.length co96] rfl z22_1 ?_; (with_reducible refine (impl_PlanOf.calls kj4 t602 t603 _ _ t607 t610 t611 t614 true _ ?side1 ?side2 A16.out).mono ?_); (case side1 => exact cZ ((Kd.R_reads' HO609.out).2.2)); (case side2 => first | exact (Kd.R_reads' HO609.out).2.1 | exact Nat.le_refl _); rintro e w97 ⟨v612, v615, rfl, ho0, ho1, hb⟩; refine ⟨_, rfl, ?_⟩; replace HO609 := Aside0.mk (Kd.R_below z22_2 hb); have HO613 := Aside0.mk (Kd.R_lower ho0 (below_size z22_0)); have HO616 := Aside0.mk (Kd.R_lower ho1 (below_size z22_0)); replace HB := Aside0.mk (below_step z22_0 hb); (try clear hb); (try clear ho0); (try clear ho1)) | ((with_reducible refine gate_dst (N := 6) rfl ?_); (try (refine gate_guard (by rfl) ?_; dsimp only)); refine box_event ?hg (N := 6) ?hd (cs := #[.int .i64 0, .slice none 0 0, .slice none 0 0]) (t := 30) ?hr ?_; (case hd => rfl); (case hg => rfl); (case hr => first | (go_simp; done) | (go_simp; rfl)); intro gb618 hg w98 hbox hb; replace HO609 := Aside0.mk (Kd.R_below z22_2 hb); replace HO613 := Aside0.mk (Kd.R_below z22_5 hb); replace HO616 := Aside0.mk (Kd.R_below z22_6 hb); have BK618 := Aside0.mk (hbox); have GW618 := Aside0.mk ((by rw [hg]; exact (below_size z22_0) : w.heap.size ≤ gb618)); have GE618 := Aside0.mk ((by rw [hg]; exact (below_size z22_0) : w.heap.size ≤ gb618)); replace HB := Aside0.mk (below_step z22_0 hb); clear hb hbox hg; have hcz99_0 : w98.cell? ⟨gb618, 0, none⟩ = some (.int .i64 0) := bA22 BK618 rfl; have hfz99_0 := blk_frozen BK618.out 0; obtain ⟨Ao100, co100, eo100⟩ := Kd.R_slice HO613.out; subst eo100; (try simp only [clip_slice]); have hcz101_1 : w98.cell? ⟨gb618, 1, none⟩ = some (.slice none 0 0) := bA22 BK618 rfl; have hfz101_1 := blk_frozen BK618.out 1; obtain ⟨Ao102, co102, eo102⟩ := Kd.R_slice HO616.out; subst eo102; (try simp only [clip_slice]); have hcz103_2 : w98.cell? ⟨gb618, 2, none⟩ = some (.slice none 0 0) := bA22 BK618 rfl; have hfz103_2 := blk_frozen BK618.out 2))
       go_ret; exact ⟨z22_4, z22_3⟩
     ·replace c17 := Bool.eq_false_iff.mpr c17
      subst c17; rw [if_neg (show ¬ (false = true) by decide)] at H
      obtain rfl := Option.some.inj H
      go_wp2_with (first | ((with_reducible refine gate_callee (f := 15) rfl ?_); refine goesL_ (some 36) rfl rfl Try.func15 (by kernel_rfl) rfl #[.int .i64 255] rfl z22_1 ?_; (with_reducible refine (laws_lkThere.calls kj4 255 t607 _ A15.out).mono ?_); rintro e w105 ⟨v608, rfl, ho0, hb⟩; refine ⟨_, rfl, ?_⟩; have HO609 := Aside0.mk (Kd.R_lower ho0 (below_size z22_0)); replace HB := Aside0.mk (below_step z22_0 hb); (try clear hb); (try clear ho0); obtain ⟨Ao106, co106, eo106⟩ := Kd.R_slice HO609.out; subst eo106; (try simp only [clip_slice])) | ((with_reducible refine gate_callee (f := 12) rfl ?_); refine goesL_ (some 37) rfl rfl Try.func12 (by kernel_rfl) rfl #[.int .i64 t602, .int .i64 t603, .slice Ao106 t607.length co106] rfl z22_1 ?_; (with_reducible refine (impl_PlanOf.calls kj4 t602 t603 _ _ t607 t610 t611 t614 false _ ?side1 ?side2 A16.out).mono ?_); (case side1 => exact cZ ((Kd.R_reads' HO609.out).2.2)); (case side2 => first | exact (Kd.R_reads' HO609.out).2.1 | exact Nat.le_refl _); rintro e w107 ⟨v612, v615, rfl, ho0, ho1, hb⟩; refine ⟨_, rfl, ?_⟩; replace HO609 := Aside0.mk (Kd.R_below z22_2 hb); have HO613 := Aside0.mk (Kd.R_lower ho0 (below_size z22_0)); have HO616 := Aside0.mk (Kd.R_lower ho1 (below_size z22_0)); replace HB := Aside0.mk (below_step z22_0 hb); (try clear hb); (try clear ho0); (try clear ho1)) | ((with_reducible refine gate_dst (N := 6) rfl ?_); (try (refine gate_guard (by rfl) ?_; dsimp only)); refine box_event ?hg (N := 6) ?hd (cs := #[.int .i64 0, .slice none 0 0, .slice none 0 0]) (t := 30) ?hr ?_; (case hd => rfl); (case hg => rfl); (case hr => first | (go_simp; done) | (go_simp; rfl)); intro gb618 hg w108 hbox hb; replace HO609 := Aside0.mk (Kd.R_below z22_2 hb); replace HO613 := Aside0.mk (Kd.R_below z22_5 hb); replace HO616 := Aside0.mk (Kd.R_below z22_6 hb); have BK618 := Aside0.mk (hbox); have GW618 := Aside0.mk ((by rw [hg]; exact (below_size z22_0) : w.heap.size ≤ gb618)); have GE618 := Aside0.mk ((by rw [hg]; exact (below_size z22_0) : w.heap.size ≤ gb618)); replace HB := Aside0.mk (below_step z22_0 hb); clear hb hbox hg; have hcz109_0 : w108.cell? ⟨gb618, 0, none⟩ = some (.int .i64 0) := bA22 BK618 rfl; have hfz109_0 := blk_frozen BK618.out 0; obtain ⟨Ao110, co110, eo110⟩ := Kd.R_slice HO613.out; subst eo110; (try simp only [clip_slice]); have hcz111_1 : w108.cell? ⟨gb618, 1, none⟩ = some (.slice none 0 0) := bA22 BK618 rfl; have hfz111_1 := blk_frozen BK618.out 1; obtain ⟨Ao112, co112, eo112⟩ := Kd.R_slice HO616.out; subst eo112; (try simp only [clip_slice]); have hcz113_2 : w108.cell? ⟨gb618, 2, none⟩ = some (.slice none 0 0) := bA22 BK618 rfl; have hfz113_2 := blk_frozen BK618.out 2))
      go_ret; exact ⟨z22_4, z22_3⟩

/-- THE ONE PURE STATEMENT of laws_FnPlanNear: yours. -/
def laws_FnPlanNear.Pure : Prop := ∀ (l0 : List Int), l0.length ≤ maxLen → l0.length * 1 ≤ 140737488351232 → (∀ x ∈ l0, (Lit.int .u8 x).wf = true) → ∃ k, laws_FnPlanNear.f k l0 = some true
theorem laws_FnPlanNear.walk (P : laws_FnPlanNear.Pure) (a0 : Option Addr) (len0 cap0 : Nat) (z0 : List Int) (w : World) (w0 : (a0 = none ∧ len0 = 0 ∧ cap0 = 0 ∧ z0 = []) ∨ ∃ x, a0 = some x ∧ len0 ≤ cap0 ∧ cap0 ≤ maxLen ∧ z0.length = cap0 ∧ (∀ i, i < z0.length → w.cell? (x.add i) = some (.int .u8 (z0.getD i 0))) ∧ ∀ n ∈ z0, (Lit.int .u8 n).wf = true) (y0 : len0 * 1 ≤ 140737488351232) :
  Calls Try.prog 6 #[.slice a0 len0 cap0] w fun e w' => e = .returned (.bool true) ∧ Below w.heap.size w w' := by
 obtain ⟨l0, rfl, hr0, hm0, hw0, hc0⟩ := ReadsInt.ofRowC w0
 obtain ⟨k, h⟩ := P l0 hm0 y0 hw0
 refine (laws_FnPlanNear.calls k _ _ l0 true w (Kd.C_of_reads (d := (0 : Int)) (h1 := fun _ => rfl) hr0) hc0 h).mono ?_
 rintro e w' ⟨rfl, hd⟩
 exact ⟨rfl, hd⟩

end Go.Proofs.Ytfgpffocieegdaa.PA
