import Derived.Test.YtfgpffocieegdaaPAx0
import Derived.Test.YtfgpffocieegdaaGw
import Derived.Test.YtfgpffocieegdaaGm
import Derived.Test.YtfgpffocieegdaaGc
namespace Go.Proofs.Ytfgpffocieegdaa.PA
open Go.RowKit Go.Proofs.YtfgpffocieegdaaW.PrintWords Go.Proofs.YtfgpffocieegdaaW.PrintLast Go.Proofs.YtfgpffocieegdaaW.PrintMore
attribute [local go_sem] max2_int min2_int max_two min_two max_three min_three max_four min_four   -- for this text's walks alone
set_option linter.unusedVariables false
set_option linter.unusedSimpArgs false

/-! ### impl_within: function 35 -/
theorem zL8 {p q : Prop} (h : q) (t : q → p := by intro h_; (with_reducible repeat first|refine blk_drewN ?_ _|refine blk_drew ?_|refine blk_alloc ?_ _); exact h_) : p := t h
theorem z8_1 {p : Prop} (h : p := by repeat (first | (with_reducible first | exact HB.out | apply below_alloc | apply pw_below_drewN | apply below_drew1 | refine below_set ?_ GE256.out) | exact HB.out)) : p := h
theorem z8_2 {p : Prop} (h : p := by (try simp only [List.map_toArray, List.map_cons, List.map_nil]); first | done | rfl | (simp only [List.length_drop, List.length_take]; rfl)) : p := h
theorem z8_3 {p : Prop} (h : p := by first | (with_reducible assumption) | assumption) : p := h
theorem z8_4 {p : Prop} (h : p := by first | rfl | (simp; done) | (simp [*]; done)) : p := h
theorem z8_5 {p : Prop} (h : p := by first | rfl | (simp [errW_none, errW_some] <;> rfl) | (simp [*, errW_none, errW_some] <;> rfl)) : p := h
theorem z8_6 {p : Prop} (h : p := by repeat (first | exact Drawn0.refl _ | apply Drawn0.step)) : p := h
theorem z8_7 {p : Prop} (h : p := by repeat (first | (with_reducible first | exact HB.out | apply below_alloc | apply pw_below_drewN | apply below_drew1) | exact HB.out)) : p := h
theorem z8_8 {p : Prop} (h : p := by first | rfl | (simp [errW_none, errW_some] <;> rfl) | (simp only [← hji25]; first | rfl | (simp [errW_none, errW_some] <;> rfl)) | (simp [*, errW_none, errW_some] <;> rfl)) : p := h
def impl_within.f (a0 : Int) (a1 : Int) (a2 : Int) : Option (Bool) := if a0 ≥ a1 then (some (decide (a0 ≤ a2))) else (some false)
set_option maxHeartbeats 8000000 in
set_option maxRecDepth 100000 in
theorem impl_within.calls (a0 : Int) (a1 : Int) (a2 : Int) (r : Bool) (w : World) (h : impl_within.f a0 a1 a2 = some r) :
  Calls Try.prog 35 #[.int .i64 a0, .int .i64 a1, .int .i64 a2] w fun e w' => e = .returned (.bool r) ∧ Drawn0 w w' := by
 try unfold impl_within.f at h
 have H := h
 clear h
 by_cases c4 : a0 ≥ a1
 ·rw [if_pos c4] at H
  have c4b0 : decide (a1 ≤ a0) = true := decide_eq_true c4; clear c4
  obtain rfl := Option.some.inj H
  go_enter Try.func35, Try.ntmps35
  go_wp2
  go_ret; exact ⟨z8_4, z8_6⟩
 ·rw [if_neg c4] at H
  have c4b0 : decide (a1 ≤ a0) = false := decide_eq_false c4; clear c4
  obtain rfl := Option.some.inj H
  go_enter Try.func35, Try.ntmps35
  go_wp2
  go_ret; exact ⟨z8_4, z8_6⟩

/-! ### impl_shardOk: function 19 -/
def impl_shardOk.f (a0 : Int) : Option (Bool) := (impl_within.f a0 0 7).bind fun t255 => (some t255)
set_option maxHeartbeats 8000000 in
set_option maxRecDepth 100000 in
theorem impl_shardOk.calls (a0 : Int) (r : Bool) (w : World) (h : impl_shardOk.f a0 = some r) :
  Calls Try.prog 19 #[.int .i64 a0] w fun e w' => e = .returned (.bool r) ∧ Drawn0 w w' := by
 try unfold impl_shardOk.f at h
 have H := h
 clear h
 replace H := Option.bind_eq_some_iff.mp H
 obtain ⟨t255, A20, H⟩ := H
 have A2 := Aside0.mk A20
 clear A20
 obtain rfl := Option.some.inj H
 go_enter Try.func19, Try.ntmps19
 go_wp2_with (first | ((with_reducible refine gate_callee (f := 35) rfl ?_); refine goesL_ (some 4) rfl rfl Try.func35 (by kernel_rfl) rfl #[.int .i64 a0, .int .i64 0, .int .i64 7] rfl z8_2 ?_; (with_reducible refine (impl_within.calls a0 0 7 t255 _ A2.out).mono ?_); rintro e w' ⟨rfl, ⟨nd, rfl⟩⟩; refine ⟨_, rfl, ?_⟩))
 go_ret
 exact ⟨z8_4, z8_6⟩

/-! ### impl_Plan_formed: function 31 -/
mutual
def impl_Plan_formed.j0 : Nat → Bool → Int → List Int → List Int → Option (Bool)
  | 0, _, _, _, _ => none
  | k + 1, x24, x257000, x257001, x257002 => if x24 = true then (some false) else (impl_Plan_formed.l0 k x257001 (x257001.length : Int) 0 x257000 x257001 x257002)
def impl_Plan_formed.l0 : Nat → List Int → Int → Int → Int → List Int → List Int → Option (Bool)
  | 0, _, _, _, _, _, _ => none
  | k + 1, x26, x27, x28, x257000, x257001, x257002 => if x28 < x27 then (if 0 ≤ x28 then (if x28 < (x26.length : Int) then ((impl_shardOk.f (rd x26 x28)).bind fun t260 => (if t260 = true then (if (rd x26 x28) = x257000 then (some false) else (if x28 > 0 then (if 0 ≤ (wrap64 (x28 - 1)) then (if (wrap64 (x28 - 1)) < (x257001.length : Int) then (if (rd x257001 (wrap64 (x28 - 1))) ≥ (rd x26 x28) then (some false) else (if x28 < (x257002.length : Int) then ((impl_within.f (rd x257002 x28) 1 30).bind fun t263 => (if t263 = true then (impl_Plan_formed.l0 k x26 x27 (wrap64 (x28 + 1)) x257000 x257001 x257002) else (some false))) else (none))) else (none)) else (none)) else (if x28 < (x257002.length : Int) then ((impl_within.f (rd x257002 x28) 1 30).bind fun t265 => (if t265 = true then (impl_Plan_formed.l0 k x26 x27 (wrap64 (x28 + 1)) x257000 x257001 x257002) else (some false))) else (none)))) else (some false))) else (none)) else (none)) else (some true)
end
def impl_Plan_formed.f (k : Nat) (a0_0 : Int) (l0_1 : List Int) (l0_2 : List Int) : Option (Bool) := (impl_shardOk.f a0_0).bind fun t257 => (if t257 = true then ((impl_within.f (l0_1.length : Int) 1 4).bind fun t258 => (if t258 = true then (impl_Plan_formed.j0 k ((l0_2.length : Int) != (l0_1.length : Int)) a0_0 l0_1 l0_2) else (impl_Plan_formed.j0 k true a0_0 l0_1 l0_2))) else (impl_Plan_formed.j0 k true a0_0 l0_1 l0_2))
set_option maxHeartbeats 8000000 in
set_option maxRecDepth 100000 in
theorem impl_Plan_formed.calls (k : Nat) (a0_0 : Int) (A0_1 : Option Addr) (c0_1 : Nat) (l0_1 : List Int) (A0_2 : Option Addr) (c0_2 : Nat) (l0_2 : List Int) (r : Bool) (w : World) (hr0_1 : Kd.C (Kd.int .i64) w A0_1 l0_1.length l0_1) (hc0_1 : l0_1.length ≤ c0_1) (hr0_2 : Kd.C (Kd.int .i64) w A0_2 l0_2.length l0_2) (hc0_2 : l0_2.length ≤ c0_2) (h : impl_Plan_formed.f k a0_0 l0_1 l0_2 = some r) :
  Calls Try.prog 31 #[.agg #[.int .i64 a0_0, .slice A0_1 l0_1.length c0_1, .slice A0_2 l0_2.length c0_2]] w fun e w' => e = .returned (.bool r) ∧ Below w.heap.size w w' := by
 have hu30 := Try.underlying30
 have HR0_1 := Aside0.mk hr0_1
 have HC0_1 := Aside0.mk hc0_1
 clear hr0_1 hc0_1
 have HR0_2 := Aside0.mk hr0_2
 have HC0_2 := Aside0.mk hc0_2
 clear hr0_2 hc0_2
 have HB := Aside0.mk (Below.refl w.heap.size w)
 try unfold impl_Plan_formed.f at h
 have H := h
 clear h
 have HC2 := Aside0.mk H
 clear H
 go_enter Try.func31, Try.ntmps31
 go_upto_region 1 with (first | ((with_reducible refine gate_dst (N := 1) rfl ?_); (try (refine gate_guard (by rfl) ?_; dsimp only)); refine box_event ?hg (N := 1) ?hd (cs := #[.int .i64 a0_0, .slice A0_1 l0_1.length c0_1, .slice A0_2 l0_2.length c0_2]) (t := 30) ?hr ?_; (case hd => rfl); (case hg => rfl); (case hr => first | (go_simp; done) | (go_simp; rfl)); intro gb256 hg w3 hbox hb; have BK256 := Aside0.mk (hbox); have GW256 := Aside0.mk ((by rw [hg]; exact (below_size z8_7) : w.heap.size ≤ gb256)); have GE256 := Aside0.mk ((by rw [hg]; exact (below_size z8_7) : w.heap.size ≤ gb256)); replace HB := Aside0.mk (below_step z8_7 hb); clear hb hbox hg))
 (try simp only [Act.put, List.setIfInBounds_toArray, List.set_cons_zero, List.set_cons_succ])
 go_cut [24] (fun v24 wc => ∃ (kq : Nat) (x24_1 : Bool), v24 = .bool x24_1 ∧ Aside0 (impl_Plan_formed.j0 kq x24_1 a0_0 l0_1 l0_2 = some r) ∧ Aside0 (kq ≤ k) ∧ Aside0 (wc.heap[gb256]? = some (.cells #[.int .i64 a0_0, (.slice A0_1 l0_1.length c0_1), (.slice A0_2 l0_2.length c0_2)] 30 (0, 0))) ∧ Aside0 (Below w.heap.size w wc))
 case first =>
  have H := HC2.out
  clear HC2
  replace H := Option.bind_eq_some_iff.mp H
  obtain ⟨t257, A40, H⟩ := H
  have A4 := Aside0.mk A40
  clear A40
  by_cases c5 : t257 = true
  ·subst c5
   rw [if_pos rfl] at H
   replace H := Option.bind_eq_some_iff.mp H
   obtain ⟨t258, A60, H⟩ := H
   have A6 := Aside0.mk A60
   clear A60
   by_cases c7 : t258 = true
   ·subst c7
    rw [if_pos rfl] at H
    have H' := Aside0.mk H
    clear H; have ai : w3.cell? ⟨gb256, 0, none⟩ = some (.int .i64 a0_0) := (blk_cell BK256.out 0).trans rfl
    have aj := blk_frozen BK256.out 0
    go_wp2_with (first | ((with_reducible refine gate_callee (f := 19) rfl ?_); refine goesL_ (some 7) rfl rfl Try.func19 (by kernel_rfl) rfl #[.int .i64 a0_0] rfl z8_2 ?_; (with_reducible refine (impl_shardOk.calls a0_0 true _ A4.out).mono ?_); rintro e w' ⟨rfl, ⟨nd, rfl⟩⟩; refine ⟨_, rfl, ?_⟩; have ak : w3.cell? ⟨gb256, 1, none⟩ = some (.slice A0_1 l0_1.length c0_1) := (blk_cell BK256.out 1).trans rfl; have al := blk_frozen BK256.out 1) | (go_at_call 35; (with_reducible refine (impl_within.calls (l0_1.length : Int) 1 4 true _ A6.out).mono ?_); rintro e w' ⟨rfl, ⟨nd, rfl⟩⟩; have aa : w3.cell? ⟨gb256, 2, none⟩ = some (.slice A0_2 l0_2.length c0_2) := (blk_cell BK256.out 2).trans rfl; have ab := blk_frozen BK256.out 2))
    go_meet
    case rel => exact ⟨_, (((l0_2.length : Int) != (l0_1.length : Int))), z8_4, H', ⟨by first | omega | exact Nat.le_refl _⟩, ⟨zL8 BK256.out⟩, ⟨z8_1⟩⟩
   ·replace c7 := Bool.eq_false_iff.mpr c7
    subst c7; rw [if_neg (show ¬ (false = true) by decide)] at H
    have H' := Aside0.mk H
    clear H; have ac : w3.cell? ⟨gb256, 0, none⟩ = some (.int .i64 a0_0) := (blk_cell BK256.out 0).trans rfl
    have ad := blk_frozen BK256.out 0
    go_wp2_with (first | ((with_reducible refine gate_callee (f := 19) rfl ?_); refine goesL_ (some 7) rfl rfl Try.func19 (by kernel_rfl) rfl #[.int .i64 a0_0] rfl z8_2 ?_; (with_reducible refine (impl_shardOk.calls a0_0 true _ A4.out).mono ?_); rintro e w' ⟨rfl, ⟨nd, rfl⟩⟩; refine ⟨_, rfl, ?_⟩; have ae : w3.cell? ⟨gb256, 1, none⟩ = some (.slice A0_1 l0_1.length c0_1) := (blk_cell BK256.out 1).trans rfl; have af := blk_frozen BK256.out 1) | (go_at_call 35; (with_reducible refine (impl_within.calls (l0_1.length : Int) 1 4 false _ A6.out).mono ?_); rintro e w' ⟨rfl, ⟨nd, rfl⟩⟩))
    go_meet
    case rel => exact ⟨_, (true), z8_4, H', ⟨by first | omega | exact Nat.le_refl _⟩, ⟨zL8 BK256.out⟩, ⟨z8_1⟩⟩
  ·replace c5 := Bool.eq_false_iff.mpr c5
   subst c5; rw [if_neg (show ¬ (false = true) by decide)] at H
   have H' := Aside0.mk H
   clear H; have ag : w3.cell? ⟨gb256, 0, none⟩ = some (.int .i64 a0_0) := (blk_cell BK256.out 0).trans rfl
   have ah := blk_frozen BK256.out 0
   go_wp2_with (first | ((with_reducible refine gate_callee (f := 19) rfl ?_); refine goesL_ (some 7) rfl rfl Try.func19 (by kernel_rfl) rfl #[.int .i64 a0_0] rfl z8_2 ?_; (with_reducible refine (impl_shardOk.calls a0_0 false _ A4.out).mono ?_); rintro e w' ⟨rfl, ⟨nd, rfl⟩⟩; refine ⟨_, rfl, ?_⟩))
   go_meet
   case rel => exact ⟨_, (true), z8_4, H', ⟨by first | omega | exact Nat.le_refl _⟩, ⟨zL8 BK256.out⟩, ⟨z8_1⟩⟩
 case rest =>
  clear HC2; obtain ⟨kq, x24_1, rfl, HA, HJ1, BK256, HB⟩ := hcut
  cases kq with
  | zero => exact absurd HA.out (by simp [impl_Plan_formed.j0])
  | succ kj1 =>
   have H := HA.out
   clear HA; simp only [impl_Plan_formed.j0] at H
   by_cases c15 : x24_1 = true
   ·subst c15
    rw [if_pos rfl] at H
    obtain rfl := Option.some.inj H
    go_wp2
    go_ret; exact ⟨z8_5, z8_1⟩
   ·replace c15 := Bool.eq_false_iff.mpr c15
    subst c15; rw [if_neg (show ¬ (false = true) by decide)] at H
    have H' := Aside0.mk H
    clear H; have hcz16_1 : wc.cell? ⟨gb256, 1, none⟩ = some (.slice A0_1 l0_1.length c0_1) := (blk_cell BK256.out 1).trans rfl
    have hfz16_1 := blk_frozen BK256.out 1
    go_wp2
    go_loopg [28] kj1 (fun kq v28 w' => ∃ (x28_2 : Int), v28 = .int .i64 x28_2 ∧ Aside0 (impl_Plan_formed.l0 kq l0_1 (l0_1.length : Int) x28_2 a0_0 l0_1 l0_2 = some r) ∧ Aside0 (kq ≤ kj1) ∧ Aside0 (w'.heap[gb256]? = some (.cells #[.int .i64 a0_0, (.slice A0_1 l0_1.length c0_1), (.slice A0_2 l0_2.length c0_2)] 30 (0, 0))) ∧ Aside0 (Below w.heap.size w w'))
    case atStart => exact ⟨(0), z8_4, H', ⟨Nat.le_refl _⟩, ⟨zL8 BK256.out⟩, ⟨z8_1⟩⟩
    case round =>
     clear H'
     try clear c15
     try clear hcz16_1
     try clear hfz16_1
     obtain ⟨x28_2, rfl, HA, HK2, BK256, HB⟩ := hrel
     cases gk with
     | zero => exact absurd HA.out (by simp [impl_Plan_formed.l0])
     | succ k2 =>
      have H := HA.out
      clear HA; simp only [impl_Plan_formed.l0] at H
      by_cases c17 : x28_2 < (l0_1.length : Int)
      ·rw [if_pos c17] at H
       have c17b0 : decide (x28_2 < (l0_1.length : Int)) = true := decide_eq_true c17; clear c17; obtain ⟨c18, H⟩ := ifP H; have c18b0 : decide (0 ≤ x28_2) = true := decide_eq_true c18; clear c18; obtain ⟨c19, H⟩ := ifP H; have c19b0 : decide (x28_2 < (l0_1.length : Int)) = true := decide_eq_true c19; clear c19
       replace H := Option.bind_eq_some_iff.mp H
       obtain ⟨t260, A200, H⟩ := H
       have A20 := Aside0.mk A200
       clear A200
       by_cases c21 : t260 = true
       ·subst c21
        rw [if_pos rfl] at H
        by_cases c22 : (rd l0_1 x28_2) = a0_0
        ·rw [if_pos c22] at H
         have c22b0 : ((rd l0_1 x28_2) == a0_0) = true := beq_iff_eq.mpr c22
         have c22b1 : ((rd l0_1 x28_2) != a0_0) = false := bne_eq_false_iff_eq.mpr c22
         clear c22
         obtain rfl := Option.some.inj H
         have p259 : 0 ≤ (x28_2 : Int) := of_decide_eq_true z8_3; have q259 : x28_2 < (l0_1.length : Int) := of_decide_eq_true z8_3; obtain ⟨ad259, e259, hx259_0⟩ := Kd.at_int HR0_1.out x28_2 p259 q259; cases e259
         replace hx259_0 := (HB.out.cell (World.block_lt_of_cell? w _ hx259_0)).trans hx259_0
         replace p259 := eq_true p259
         replace q259 := eq_true q259
         go_wp2_with (first | ((with_reducible refine gate_callee (f := 19) rfl ?_); refine goesL_ (some 34) rfl rfl Try.func19 (by kernel_rfl) rfl #[.int .i64 (rd l0_1 x28_2)] rfl z8_2 ?_; (with_reducible refine (impl_shardOk.calls (rd l0_1 x28_2) true _ A20.out).mono ?_); rintro e w' ⟨rfl, ⟨nd, rfl⟩⟩; refine ⟨_, rfl, ?_⟩; have hcz23_0 : wr.cell? ⟨gb256, 0, none⟩ = some (.int .i64 a0_0) := (blk_cell BK256.out 0).trans rfl; have hfz23_0 := blk_frozen BK256.out 0))
         go_ret; exact ⟨z8_5, z8_1⟩
        ·rw [if_neg c22] at H
         have c22b0 : ((rd l0_1 x28_2) == a0_0) = false := beq_eq_false_iff_ne.mpr c22
         have c22b1 : ((rd l0_1 x28_2) != a0_0) = true := bne_iff_ne.mpr c22
         by_cases c24 : x28_2 > 0
         ·rw [if_pos c24] at H
          have c24b0 : decide (0 < x28_2) = true := decide_eq_true c24; clear c24
          obtain ⟨ji25, hji25⟩ : ∃ j_ : Int, (wrap64 (x28_2 - 1)) = j_ := ⟨_, rfl⟩
          replace H : (if 0 ≤ (ji25) then (if (ji25) < (l0_1.length : Int) then (if (rd l0_1 (ji25)) ≥ (rd l0_1 x28_2) then (some false) else (if x28_2 < (l0_2.length : Int) then ((impl_within.f (rd l0_2 x28_2) 1 30).bind fun t263 => (if t263 = true then (impl_Plan_formed.l0 k2 l0_1 (l0_1.length : Int) (wrap64 (x28_2 + 1)) a0_0 l0_1 l0_2) else (some false))) else (none))) else (none)) else (none)) = some r := by first | (rw [hji25] at H; exact H) | (simp only [hji25] at H ⊢; exact H)
          (try rw [hji25] at A20)
          have hji25w : (IntKind.i64.wrap (x28_2 - 1)) = ji25 := (i64_w _).trans hji25
          obtain ⟨c26, H⟩ := ifP H; have c26b0 : decide (0 ≤ (ji25)) = true := decide_eq_true c26; clear c26; obtain ⟨c27, H⟩ := ifP H; have c27b0 : decide ((ji25) < (l0_1.length : Int)) = true := decide_eq_true c27; clear c27
          by_cases c28 : (rd l0_1 (ji25)) ≥ (rd l0_1 x28_2)
          ·rw [if_pos c28] at H
           have c28b0 : decide ((rd l0_1 x28_2) ≤ (rd l0_1 (ji25))) = true := decide_eq_true c28; clear c28
           obtain rfl := Option.some.inj H
           have p259 : 0 ≤ (x28_2 : Int) := of_decide_eq_true z8_3; have q259 : x28_2 < (l0_1.length : Int) := of_decide_eq_true z8_3; obtain ⟨ad259, e259, hx259_0⟩ := Kd.at_int HR0_1.out x28_2 p259 q259; cases e259
           replace hx259_0 := (HB.out.cell (World.block_lt_of_cell? w _ hx259_0)).trans hx259_0
           replace p259 := eq_true p259
           replace q259 := eq_true q259
           go_wp2_with (first | ((with_reducible refine gate_callee (f := 19) rfl ?_); refine goesL_ (some 34) rfl rfl Try.func19 (by kernel_rfl) rfl #[.int .i64 (rd l0_1 x28_2)] rfl z8_2 ?_; (with_reducible refine (impl_shardOk.calls (rd l0_1 x28_2) true _ A20.out).mono ?_); rintro e w' ⟨rfl, ⟨nd, rfl⟩⟩; refine ⟨_, rfl, ?_⟩; obtain ⟨hcz29_0, hfz29_0, hcz30_1, hfz30_1⟩ := cAZ2_ BK256; have p261 : 0 ≤ ((ji25) : Int) := of_decide_eq_true z8_3; have q261 : (ji25) < (l0_1.length : Int) := of_decide_eq_true z8_3; obtain ⟨ad261, e261, hx261_0⟩ := Kd.at_int HR0_1.out (ji25) p261 q261; obtain rfl : ad259 = ad261 := (by injection e261); replace hx261_0 := (HB.out.cell (World.block_lt_of_cell? w _ hx261_0)).trans hx261_0; replace p261 := eq_true p261; replace q261 := eq_true q261))
           go_ret; exact ⟨z8_8, z8_1⟩
          ·rw [if_neg c28] at H
           have c28b0 : decide ((rd l0_1 x28_2) ≤ (rd l0_1 (ji25))) = false := decide_eq_false c28; clear c28; obtain ⟨c31, H⟩ := ifP H; have c31b0 : decide (x28_2 < (l0_2.length : Int)) = true := decide_eq_true c31; clear c31
           replace H := Option.bind_eq_some_iff.mp H
           obtain ⟨t263, A320, H⟩ := H
           have A32 := Aside0.mk A320
           clear A320
           by_cases c33 : t263 = true
           ·subst c33
            rw [if_pos rfl] at H
            have H' := Aside0.mk H
            clear H; have p259 : 0 ≤ (x28_2 : Int) := of_decide_eq_true z8_3; have q259 : x28_2 < (l0_1.length : Int) := of_decide_eq_true z8_3; obtain ⟨ad259, e259, hx259_0⟩ := Kd.at_int HR0_1.out x28_2 p259 q259; cases e259
            replace hx259_0 := (HB.out.cell (World.block_lt_of_cell? w _ hx259_0)).trans hx259_0
            replace p259 := eq_true p259
            replace q259 := eq_true q259
            go_wp2_with (first | ((with_reducible refine gate_callee (f := 19) rfl ?_); refine goesL_ (some 34) rfl rfl Try.func19 (by kernel_rfl) rfl #[.int .i64 (rd l0_1 x28_2)] rfl z8_2 ?_; (with_reducible refine (impl_shardOk.calls (rd l0_1 x28_2) true _ A20.out).mono ?_); rintro e w' ⟨rfl, ⟨nd, rfl⟩⟩; refine ⟨_, rfl, ?_⟩; obtain ⟨hcz34_0, hfz34_0, hcz35_1, hfz35_1⟩ := cAZ2_ BK256; have p261 : 0 ≤ ((ji25) : Int) := of_decide_eq_true z8_3; have q261 : (ji25) < (l0_1.length : Int) := of_decide_eq_true z8_3; obtain ⟨ad261, e261, hx261_0⟩ := Kd.at_int HR0_1.out (ji25) p261 q261; obtain rfl : ad259 = ad261 := (by injection e261); replace hx261_0 := (HB.out.cell (World.block_lt_of_cell? w _ hx261_0)).trans hx261_0; replace p261 := eq_true p261; replace q261 := eq_true q261; have hcz36_2 : wr.cell? ⟨gb256, 2, none⟩ = some (.slice A0_2 l0_2.length c0_2) := (blk_cell BK256.out 2).trans rfl; have hfz36_2 := blk_frozen BK256.out 2; have p262 : 0 ≤ (x28_2 : Int) := of_decide_eq_true z8_3; have q262 : x28_2 < (l0_2.length : Int) := of_decide_eq_true z8_3; obtain ⟨ad262, e262, hx262_0⟩ := Kd.at_int HR0_2.out x28_2 p262 q262; cases e262; replace hx262_0 := (HB.out.cell (World.block_lt_of_cell? w _ hx262_0)).trans hx262_0; replace p262 := eq_true p262; replace q262 := eq_true q262) | (go_at_call 35; (with_reducible refine (impl_within.calls (rd l0_2 x28_2) 1 30 true _ A32.out).mono ?_); rintro e w' ⟨rfl, ⟨nd, rfl⟩⟩))
            go_roundg k2
            case measure => have := HJ1.out; have := HK2.out; omega
            case rel => exact ⟨(wrap64 (x28_2 + 1)), z8_4, H', ⟨by have := HJ1.out; have := HK2.out; omega⟩, ⟨zL8 BK256.out⟩, ⟨z8_1⟩⟩
           ·replace c33 := Bool.eq_false_iff.mpr c33
            subst c33; rw [if_neg (show ¬ (false = true) by decide)] at H
            obtain rfl := Option.some.inj H
            have p259 : 0 ≤ (x28_2 : Int) := of_decide_eq_true z8_3; have q259 : x28_2 < (l0_1.length : Int) := of_decide_eq_true z8_3; obtain ⟨ad259, e259, hx259_0⟩ := Kd.at_int HR0_1.out x28_2 p259 q259; cases e259
            replace hx259_0 := (HB.out.cell (World.block_lt_of_cell? w _ hx259_0)).trans hx259_0
            replace p259 := eq_true p259
            replace q259 := eq_true q259
            go_wp2_with (first | ((with_reducible refine gate_callee (f := 19) rfl ?_); refine goesL_ (some 34) rfl rfl Try.func19 (by kernel_rfl) rfl #[.int .i64 (rd l0_1 x28_2)] rfl z8_2 ?_; (with_reducible refine (impl_shardOk.calls (rd l0_1 x28_2) true _ A20.out).mono ?_); rintro e w' ⟨rfl, ⟨nd, rfl⟩⟩; refine ⟨_, rfl, ?_⟩; obtain ⟨hcz37_0, hfz37_0, hcz38_1, hfz38_1⟩ := cAZ2_ BK256; have p261 : 0 ≤ ((ji25) : Int) := of_decide_eq_true z8_3; have q261 : (ji25) < (l0_1.length : Int) := of_decide_eq_true z8_3; obtain ⟨ad261, e261, hx261_0⟩ := Kd.at_int HR0_1.out (ji25) p261 q261; obtain rfl : ad259 = ad261 := (by injection e261); replace hx261_0 := (HB.out.cell (World.block_lt_of_cell? w _ hx261_0)).trans hx261_0; replace p261 := eq_true p261; replace q261 := eq_true q261; have hcz39_2 : wr.cell? ⟨gb256, 2, none⟩ = some (.slice A0_2 l0_2.length c0_2) := (blk_cell BK256.out 2).trans rfl; have hfz39_2 := blk_frozen BK256.out 2; have p262 : 0 ≤ (x28_2 : Int) := of_decide_eq_true z8_3; have q262 : x28_2 < (l0_2.length : Int) := of_decide_eq_true z8_3; obtain ⟨ad262, e262, hx262_0⟩ := Kd.at_int HR0_2.out x28_2 p262 q262; cases e262; replace hx262_0 := (HB.out.cell (World.block_lt_of_cell? w _ hx262_0)).trans hx262_0; replace p262 := eq_true p262; replace q262 := eq_true q262) | (go_at_call 35; (with_reducible refine (impl_within.calls (rd l0_2 x28_2) 1 30 false _ A32.out).mono ?_); rintro e w' ⟨rfl, ⟨nd, rfl⟩⟩))
            go_ret; exact ⟨z8_8, z8_1⟩
         ·rw [if_neg c24] at H
          have c24b0 : decide (0 < x28_2) = false := decide_eq_false c24; clear c24; obtain ⟨c40, H⟩ := ifP H; have c40b0 : decide (x28_2 < (l0_2.length : Int)) = true := decide_eq_true c40; clear c40
          replace H := Option.bind_eq_some_iff.mp H
          obtain ⟨t265, A410, H⟩ := H
          have A41 := Aside0.mk A410
          clear A410
          by_cases c42 : t265 = true
          ·subst c42
           rw [if_pos rfl] at H
           have H' := Aside0.mk H
           clear H; have p259 : 0 ≤ (x28_2 : Int) := of_decide_eq_true z8_3; have q259 : x28_2 < (l0_1.length : Int) := of_decide_eq_true z8_3; obtain ⟨ad259, e259, hx259_0⟩ := Kd.at_int HR0_1.out x28_2 p259 q259; cases e259
           replace hx259_0 := (HB.out.cell (World.block_lt_of_cell? w _ hx259_0)).trans hx259_0
           replace p259 := eq_true p259
           replace q259 := eq_true q259
           go_wp2_with (first | ((with_reducible refine gate_callee (f := 19) rfl ?_); refine goesL_ (some 34) rfl rfl Try.func19 (by kernel_rfl) rfl #[.int .i64 (rd l0_1 x28_2)] rfl z8_2 ?_; (with_reducible refine (impl_shardOk.calls (rd l0_1 x28_2) true _ A20.out).mono ?_); rintro e w' ⟨rfl, ⟨nd, rfl⟩⟩; refine ⟨_, rfl, ?_⟩; have hcz43_0 : wr.cell? ⟨gb256, 0, none⟩ = some (.int .i64 a0_0) := (blk_cell BK256.out 0).trans rfl; have hfz43_0 := blk_frozen BK256.out 0; have hcz44_2 : wr.cell? ⟨gb256, 2, none⟩ = some (.slice A0_2 l0_2.length c0_2) := (blk_cell BK256.out 2).trans rfl; have hfz44_2 := blk_frozen BK256.out 2; have p264 : 0 ≤ (x28_2 : Int) := of_decide_eq_true z8_3; have q264 : x28_2 < (l0_2.length : Int) := of_decide_eq_true z8_3; obtain ⟨ad264, e264, hx264_0⟩ := Kd.at_int HR0_2.out x28_2 p264 q264; cases e264; replace hx264_0 := (HB.out.cell (World.block_lt_of_cell? w _ hx264_0)).trans hx264_0; replace p264 := eq_true p264; replace q264 := eq_true q264) | (go_at_call 35; (with_reducible refine (impl_within.calls (rd l0_2 x28_2) 1 30 true _ A41.out).mono ?_); rintro e w' ⟨rfl, ⟨nd, rfl⟩⟩))
           go_roundg k2
           case measure => have := HJ1.out; have := HK2.out; omega
           case rel => exact ⟨(wrap64 (x28_2 + 1)), z8_4, H', ⟨by have := HJ1.out; have := HK2.out; omega⟩, ⟨zL8 BK256.out⟩, ⟨z8_1⟩⟩
          ·replace c42 := Bool.eq_false_iff.mpr c42
           subst c42; rw [if_neg (show ¬ (false = true) by decide)] at H
           obtain rfl := Option.some.inj H
           have p259 : 0 ≤ (x28_2 : Int) := of_decide_eq_true z8_3; have q259 : x28_2 < (l0_1.length : Int) := of_decide_eq_true z8_3; obtain ⟨ad259, e259, hx259_0⟩ := Kd.at_int HR0_1.out x28_2 p259 q259; cases e259
           replace hx259_0 := (HB.out.cell (World.block_lt_of_cell? w _ hx259_0)).trans hx259_0
           replace p259 := eq_true p259
           replace q259 := eq_true q259
           go_wp2_with (first | ((with_reducible refine gate_callee (f := 19) rfl ?_); refine goesL_ (some 34) rfl rfl Try.func19 (by kernel_rfl) rfl #[.int .i64 (rd l0_1 x28_2)] rfl z8_2 ?_; (with_reducible refine (impl_shardOk.calls (rd l0_1 x28_2) true _ A20.out).mono ?_); rintro e w' ⟨rfl, ⟨nd, rfl⟩⟩; refine ⟨_, rfl, ?_⟩; have hcz45_0 : wr.cell? ⟨gb256, 0, none⟩ = some (.int .i64 a0_0) := (blk_cell BK256.out 0).trans rfl; have hfz45_0 := blk_frozen BK256.out 0; have hcz46_2 : wr.cell? ⟨gb256, 2, none⟩ = some (.slice A0_2 l0_2.length c0_2) := (blk_cell BK256.out 2).trans rfl; have hfz46_2 := blk_frozen BK256.out 2; have p264 : 0 ≤ (x28_2 : Int) := of_decide_eq_true z8_3; have q264 : x28_2 < (l0_2.length : Int) := of_decide_eq_true z8_3; obtain ⟨ad264, e264, hx264_0⟩ := Kd.at_int HR0_2.out x28_2 p264 q264; cases e264; replace hx264_0 := (HB.out.cell (World.block_lt_of_cell? w _ hx264_0)).trans hx264_0; replace p264 := eq_true p264; replace q264 := eq_true q264) | (go_at_call 35; (with_reducible refine (impl_within.calls (rd l0_2 x28_2) 1 30 false _ A41.out).mono ?_); rintro e w' ⟨rfl, ⟨nd, rfl⟩⟩))
           go_ret; exact ⟨z8_5, z8_1⟩
       ·replace c21 := Bool.eq_false_iff.mpr c21
        subst c21; rw [if_neg (show ¬ (false = true) by decide)] at H
        obtain rfl := Option.some.inj H
        have p259 : 0 ≤ (x28_2 : Int) := of_decide_eq_true z8_3; have q259 : x28_2 < (l0_1.length : Int) := of_decide_eq_true z8_3; obtain ⟨ad259, e259, hx259_0⟩ := Kd.at_int HR0_1.out x28_2 p259 q259; cases e259
        replace hx259_0 := (HB.out.cell (World.block_lt_of_cell? w _ hx259_0)).trans hx259_0
        replace p259 := eq_true p259
        replace q259 := eq_true q259
        go_wp2_with (first | ((with_reducible refine gate_callee (f := 19) rfl ?_); refine goesL_ (some 34) rfl rfl Try.func19 (by kernel_rfl) rfl #[.int .i64 (rd l0_1 x28_2)] rfl z8_2 ?_; (with_reducible refine (impl_shardOk.calls (rd l0_1 x28_2) false _ A20.out).mono ?_); rintro e w' ⟨rfl, ⟨nd, rfl⟩⟩; refine ⟨_, rfl, ?_⟩))
        go_ret; exact ⟨z8_5, z8_1⟩
      ·rw [if_neg c17] at H
       have c17b0 : decide (x28_2 < (l0_1.length : Int)) = false := decide_eq_false c17; clear c17
       obtain rfl := Option.some.inj H
       go_wp2
       go_ret; exact ⟨z8_5, z8_1⟩

/-! ### spec_l6In: function 27 -/
def spec_l6In.f (a0 : Int) (a1 : Int) (a2 : Int) : Option (Bool) := if a0 ≥ a1 then (some (decide (a0 ≤ a2))) else (some false)
set_option maxHeartbeats 8000000 in
set_option maxRecDepth 100000 in
theorem spec_l6In.calls (a0 : Int) (a1 : Int) (a2 : Int) (r : Bool) (w : World) (h : spec_l6In.f a0 a1 a2 = some r) :
  Calls Try.prog 27 #[.int .i64 a0, .int .i64 a1, .int .i64 a2] w fun e w' => e = .returned (.bool r) ∧ Drawn0 w w' := by
 try unfold spec_l6In.f at h
 have H := h
 clear h
 by_cases c4 : a0 ≥ a1
 ·rw [if_pos c4] at H
  have c4b0 : decide (a1 ≤ a0) = true := decide_eq_true c4; clear c4
  obtain rfl := Option.some.inj H
  go_enter Try.func27, Try.ntmps27
  go_wp2
  go_ret; exact ⟨z8_4, z8_6⟩
 ·rw [if_neg c4] at H
  have c4b0 : decide (a1 ≤ a0) = false := decide_eq_false c4; clear c4
  obtain rfl := Option.some.inj H
  go_enter Try.func27, Try.ntmps27
  go_wp2
  go_ret; exact ⟨z8_4, z8_6⟩

/-! ### spec_l4Kind: function 26 -/
def spec_l4Kind.f (a0 : Int) : Option (Bool) := (spec_l6In.f a0 1 2).bind fun t266 => (some t266)
set_option maxHeartbeats 8000000 in
set_option maxRecDepth 100000 in
theorem spec_l4Kind.calls (a0 : Int) (r : Bool) (w : World) (h : spec_l4Kind.f a0 = some r) :
  Calls Try.prog 26 #[.int .i64 a0] w fun e w' => e = .returned (.bool r) ∧ Drawn0 w w' := by
 try unfold spec_l4Kind.f at h
 have H := h
 clear h
 replace H := Option.bind_eq_some_iff.mp H
 obtain ⟨t266, A20, H⟩ := H
 have A2 := Aside0.mk A20
 clear A20
 obtain rfl := Option.some.inj H
 go_enter Try.func26, Try.ntmps26
 go_wp2_with (first | ((with_reducible refine gate_callee (f := 27) rfl ?_); refine goesL_ (some 4) rfl rfl Try.func27 (by kernel_rfl) rfl #[.int .i64 a0, .int .i64 1, .int .i64 2] rfl z8_2 ?_; (with_reducible refine (spec_l6In.calls a0 1 2 t266 _ A2.out).mono ?_); rintro e w' ⟨rfl, ⟨nd, rfl⟩⟩; refine ⟨_, rfl, ?_⟩))
 go_ret
 exact ⟨z8_4, z8_6⟩

end Go.Proofs.Ytfgpffocieegdaa.PA
