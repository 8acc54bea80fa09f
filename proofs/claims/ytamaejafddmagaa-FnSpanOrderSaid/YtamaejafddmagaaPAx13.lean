-- Written by a program of this session (after the manner of the kit's print, several laws in one text).
import Derived.Test.YtamaejafddmagaaPAx0
import Derived.Test.YtamaejafddmagaaPAx1
import Derived.Test.YtamaejafddmagaaPAx3
import Derived.Test.YtamaejafddmagaaGw
import Derived.Test.YtamaejafddmagaaGm
namespace Go.Proofs.Ytamaejafddmagaa.PA
open Go.RowKit Go.Proofs.YtamaejafddmagaaW.PrintWords Go.Proofs.YtamaejafddmagaaW.PrintLast Go.Proofs.YtamaejafddmagaaW.PrintMore
attribute [local go_sem] max2_int min2_int max_two min_two max_three min_three max_four min_four   -- for this text's walks alone
set_option linter.unusedVariables false
set_option linter.unusedSimpArgs false

/-! ### spec_SpanOk: function 19 -/
theorem z13_0 {p : Prop} (h : p := by repeat (first | (with_reducible first | exact HB.out | apply below_alloc | apply pw_below_drewN | apply below_drew1) | exact HB.out | (with_reducible exact Below.refl _ _))) : p := h
theorem z13_1 {p : Prop} (h : p := by (try simp only [List.map_toArray, List.map_cons, List.map_nil]); first | done | rfl | (simp only [List.length_drop, List.length_take]; rfl)) : p := h
theorem z13_2 {p : Prop} (h : p := by repeat (first | exact Drawn0.refl _ | apply Drawn0.step)) : p := h
theorem z13_3 {p : Prop} (h : p := by first | (with_reducible assumption) | assumption) : p := h
theorem z13_4 {p : Prop} (h : p := by first | rfl | (simp; done) | (simp [*]; done)) : p := h
theorem z13_5 {p : Prop} (h : p := by first | exact ((HB.out.cell (World.block_lt_of_cell? w _ hw390_0)).trans hw390_0) | (have h_ := (HB.out.cell (World.block_lt_of_cell? w _ hw390_0)).trans hw390_0; simpa using h_) | simpa using hw390_0) : p := h
theorem z13_6 {p : Prop} (h : p := by first | exact ((HB.out.cell (World.block_lt_of_cell? w _ hw391_0)).trans hw391_0) | (have h_ := (HB.out.cell (World.block_lt_of_cell? w _ hw391_0)).trans hw391_0; simpa using h_) | simpa using hw391_0) : p := h
def spec_SpanOk.l0 : Nat → List (List Int) → Int → Option (Bool)
  | 0, _, _ => none
  | k + 1, x0, x3 => if x3 < (x0.length : Int) then (if 0 ≤ x3 then ((spec_VecOk.f k (rd_L2 x0 x3)).bind fun t387 => (if t387 = true then (spec_SpanOk.l0 k x0 (wrap64 (x3 + 1))) else (some false))) else (none)) else (some (decide ((x0.length : Int) ≤ 8)))
def spec_SpanOk.f (k : Nat) (l0 : List (List Int)) : Option (Bool) := spec_SpanOk.l0 k l0 0
set_option maxHeartbeats 8000000 in
set_option maxRecDepth 100000 in
theorem spec_SpanOk.calls (k : Nat) (A0 : Option Addr) (c0 : Nat) (l0 : List (List Int)) (r : Bool) (w : World) (hr0 : Kd.C (Kd.slice 3 (Kd.int .i64)) w A0 l0.length l0) (hc0 : l0.length ≤ c0) (h : spec_SpanOk.f k l0 = some r) :
  Calls Try.prog 19 #[.slice A0 l0.length c0] w fun e w' => e = .returned (.bool r) ∧ Drawn0 w w' := by
 have HR0 := Aside0.mk hr0
 have HC0 := Aside0.mk hc0
 clear hr0 hc0
 have H : (spec_SpanOk.l0 k l0 0) = some r := h
 clear h
 have H' := Aside0.mk H
 clear H
 go_enter Try.func19, Try.ntmps19
 go_wp2
 go_loopg [3] k (fun kq v3 w' => ∃ (x3_1 : Int), v3 = .int .i64 x3_1 ∧ Aside0 (spec_SpanOk.l0 kq l0 x3_1 = some r) ∧ Aside0 (kq ≤ k) ∧ Drawn0 w w')
 case atStart => exact ⟨(0), z13_4, H', ⟨Nat.le_refl _⟩, z13_2⟩
 case round =>
  clear H'
  obtain ⟨x3_1, rfl, HA, HK1, ⟨m1, rfl⟩⟩ := hrel
  cases gk with
  | zero => exact absurd HA.out (by simp [spec_SpanOk.l0])
  | succ k1 =>
   have H := HA.out
   clear HA
   simp only [spec_SpanOk.l0] at H
   by_cases c2 : x3_1 < (l0.length : Int)
   ·rw [if_pos c2] at H
    have c2b0 : decide (x3_1 < (l0.length : Int)) = true := decide_eq_true c2
    clear c2
    obtain ⟨c3, H⟩ := ifP H
    have c3b0 : decide (0 ≤ x3_1) = true := decide_eq_true c3
    clear c3
    replace H := Option.bind_eq_some_iff.mp H
    obtain ⟨t387, A40, H⟩ := H
    replace H : (if t387 = true then (spec_SpanOk.l0 k1 l0 (wrap64 (x3_1 + 1))) else (some false)) = some r := H
    have A4 := Aside0.mk A40
    clear A40
    by_cases c5 : t387 = true
    ·subst c5
     have H1 : (spec_SpanOk.l0 k1 l0 (wrap64 (x3_1 + 1))) = some r := by rw [if_pos rfl] at H; exact H
     clear H
     have H := H1
     clear H1
     have H' := Aside0.mk H
     clear H
     have p386 : 0 ≤ (x3_1 : Int) := of_decide_eq_true z13_3
     have q386 : x3_1 < (l0.length : Int) := of_decide_eq_true z13_3
     obtain ⟨ad386, A386_0, c386_0, e386, hx386_0, hl386_0, hi386_0⟩ := at_L2 HR0.out x3_1 p386 q386
     cases e386
     have HR386_0 := Aside0.mk hi386_0
     have HC386_0 := Aside0.mk hl386_0
     clear hi386_0 hl386_0
     replace p386 := eq_true p386
     replace q386 := eq_true q386
     go_wp2_with (first | ((with_reducible refine gate_callee (f := 58) rfl ?_); refine goesL_ (some 14) rfl rfl Try.func58 (by kernel_rfl) rfl #[.slice A386_0 (rd_L2 l0 x3_1).length c386_0] rfl z13_1 ?_; (with_reducible refine (spec_VecOk.calls k1 _ _ (rd_L2 l0 x3_1) true _ ?side1 ?side2 A4.out).mono ?_); (case side1 => exact cZ (HR386_0.out)); (case side2 => exact HC386_0.out); rintro e w' ⟨rfl, ⟨nd, rfl⟩⟩; refine ⟨_, rfl, ?_⟩))
     go_roundg k1
     case measure => have := HK1.out; omega
     case rel => exact ⟨(wrap64 (x3_1 + 1)), z13_4, H', ⟨by have := HK1.out; omega⟩, z13_2⟩
    ·replace c5 := Bool.eq_false_iff.mpr c5
     subst c5
     have H1 : (some false) = some r := by rw [if_neg (show ¬ (false = true) by decide)] at H; exact H
     clear H
     have H := H1
     clear H1
     obtain rfl := Option.some.inj H
     have p386 : 0 ≤ (x3_1 : Int) := of_decide_eq_true z13_3
     have q386 : x3_1 < (l0.length : Int) := of_decide_eq_true z13_3
     obtain ⟨ad386, A386_0, c386_0, e386, hx386_0, hl386_0, hi386_0⟩ := at_L2 HR0.out x3_1 p386 q386
     cases e386
     have HR386_0 := Aside0.mk hi386_0
     have HC386_0 := Aside0.mk hl386_0
     clear hi386_0 hl386_0
     replace p386 := eq_true p386
     replace q386 := eq_true q386
     go_wp2_with (first | ((with_reducible refine gate_callee (f := 58) rfl ?_); refine goesL_ (some 14) rfl rfl Try.func58 (by kernel_rfl) rfl #[.slice A386_0 (rd_L2 l0 x3_1).length c386_0] rfl z13_1 ?_; (with_reducible refine (spec_VecOk.calls k1 _ _ (rd_L2 l0 x3_1) false _ ?side1 ?side2 A4.out).mono ?_); (case side1 => exact cZ (HR386_0.out)); (case side2 => exact HC386_0.out); rintro e w' ⟨rfl, ⟨nd, rfl⟩⟩; refine ⟨_, rfl, ?_⟩))
     go_ret
     exact ⟨z13_4, z13_2⟩
   ·rw [if_neg c2] at H
    have c2b0 : decide (x3_1 < (l0.length : Int)) = false := decide_eq_false c2
    clear c2
    obtain rfl := Option.some.inj H
    go_wp2
    go_ret
    exact ⟨z13_4, z13_2⟩

/-! ### spec_l2Lead: function 123 -/
def spec_l2Lead.l0 : Nat → List Int → Int → Option (Int)
  | 0, _, _ => none
  | k + 1, x0, x3 => if x3 < (x0.length : Int) then (if 0 ≤ x3 then (if (rd x0 x3) = 0 then (spec_l2Lead.l0 k x0 (wrap64 (x3 + 1))) else (some x3)) else (none)) else (some (-1))
def spec_l2Lead.f (k : Nat) (l0 : List Int) : Option (Int) := spec_l2Lead.l0 k l0 0
set_option maxHeartbeats 8000000 in
set_option maxRecDepth 100000 in
theorem spec_l2Lead.calls (k : Nat) (A0 : Option Addr) (c0 : Nat) (l0 : List Int) (r : Int) (w : World) (hr0 : Kd.C (Kd.int .i64) w A0 l0.length l0) (hc0 : l0.length ≤ c0) (h : spec_l2Lead.f k l0 = some r) :
  Calls Try.prog 123 #[.slice A0 l0.length c0] w fun e w' => e = .returned (.int .i64 r) ∧ Drawn0 w w' := by
 have HR0 := Aside0.mk hr0
 have HC0 := Aside0.mk hc0
 clear hr0 hc0
 have H : (spec_l2Lead.l0 k l0 0) = some r := h
 clear h
 have H' := Aside0.mk H
 clear H
 go_enter Try.func123, Try.ntmps123
 go_wp2
 go_loopg [3] k (fun kq v3 w' => ∃ (x3_1 : Int), v3 = .int .i64 x3_1 ∧ Aside0 (spec_l2Lead.l0 kq l0 x3_1 = some r) ∧ Aside0 (kq ≤ k) ∧ Drawn0 w w')
 case atStart => exact ⟨(0), z13_4, H', ⟨Nat.le_refl _⟩, z13_2⟩
 case round =>
  clear H'
  obtain ⟨x3_1, rfl, HA, HK1, ⟨m1, rfl⟩⟩ := hrel
  cases gk with
  | zero => exact absurd HA.out (by simp [spec_l2Lead.l0])
  | succ k1 =>
   have H := HA.out
   clear HA
   simp only [spec_l2Lead.l0] at H
   by_cases c2 : x3_1 < (l0.length : Int)
   ·rw [if_pos c2] at H
    have c2b0 : decide (x3_1 < (l0.length : Int)) = true := decide_eq_true c2
    clear c2
    obtain ⟨c3, H⟩ := ifP H
    have c3b0 : decide (0 ≤ x3_1) = true := decide_eq_true c3
    clear c3
    by_cases c4 : (rd l0 x3_1) = 0
    ·rw [if_pos c4] at H
     have c4b0 : ((rd l0 x3_1) == 0) = true := beq_iff_eq.mpr c4
     have c4b1 : ((rd l0 x3_1) != 0) = false := bne_eq_false_iff_eq.mpr c4
     clear c4
     have H' := Aside0.mk H
     clear H
     have p388 : 0 ≤ (x3_1 : Int) := of_decide_eq_true z13_3
     have q388 : x3_1 < (l0.length : Int) := of_decide_eq_true z13_3
     obtain ⟨ad388, e388, hx388_0⟩ := Kd.at_int HR0.out x3_1 p388 q388
     cases e388
     replace p388 := eq_true p388
     replace q388 := eq_true q388
     go_wp2
     go_roundg k1
     case measure => have := HK1.out; omega
     case rel => exact ⟨(wrap64 (x3_1 + 1)), z13_4, H', ⟨by have := HK1.out; omega⟩, z13_2⟩
    ·rw [if_neg c4] at H
     have c4b0 : ((rd l0 x3_1) == 0) = false := beq_eq_false_iff_ne.mpr c4
     have c4b1 : ((rd l0 x3_1) != 0) = true := bne_iff_ne.mpr c4
     obtain rfl := Option.some.inj H
     have p388 : 0 ≤ (x3_1 : Int) := of_decide_eq_true z13_3
     have q388 : x3_1 < (l0.length : Int) := of_decide_eq_true z13_3
     obtain ⟨ad388, e388, hx388_0⟩ := Kd.at_int HR0.out x3_1 p388 q388
     cases e388
     replace p388 := eq_true p388
     replace q388 := eq_true q388
     go_wp2
     go_ret
     exact ⟨z13_4, z13_2⟩
   ·rw [if_neg c2] at H
    have c2b0 : decide (x3_1 < (l0.length : Int)) = false := decide_eq_false c2
    clear c2
    obtain rfl := Option.some.inj H
    go_wp2
    go_ret
    exact ⟨z13_4, z13_2⟩

/-! ### spec_l1Inv: function 124 -/
def spec_l1Inv.l0 : Nat → Int → Int → Option (Int)
  | 0, _, _ => none
  | k + 1, x0, x3 => if x3 < 31 then (if (Int.tmod (wrap64 (x0 * x3)) 31) = 1 then (some x3) else (spec_l1Inv.l0 k x0 (wrap64 (x3 + 1)))) else (some 0)
def spec_l1Inv.f (k : Nat) (a0 : Int) : Option (Int) := spec_l1Inv.l0 k a0 1
theorem spec_l1Inv.mono_l : ∀ k, (∀ y0 y1, LeO (spec_l1Inv.l0 k y0 y1) (spec_l1Inv.l0 (k + 1) y0 y1))
  | 0 => fun _ _ r h => by simp [spec_l1Inv.l0] at h
  | k + 1 => by
    have ih0 := spec_l1Inv.mono_l k
    · intro y0 y1
      unfold spec_l1Inv.l0
      repeat' first
      | (with_reducible exact ih0 _ _)
      | (with_reducible exact LeO.refl _)
      | (with_reducible exact LeO.none _)
      | (with_reducible refine LeO.ite ?_ ?_)
      | (with_reducible refine LeO.bind ?_ (fun _ => ?_))
      | exact ih0 _ _
      | exact LeO.none _
      | refine LeO.ite ?_ ?_
      | refine LeO.bind ?_ (fun _ => ?_)
theorem spec_l1Inv.mono : ∀ a0 k, LeO (spec_l1Inv.f k a0) (spec_l1Inv.f (k + 1) a0) := by
  intro a0 k
  have ih0 := spec_l1Inv.mono_l k
  unfold spec_l1Inv.f
  repeat' first
      | (with_reducible exact ih0 _ _)
      | (with_reducible exact LeO.refl _)
      | (with_reducible exact LeO.none _)
      | (with_reducible refine LeO.ite ?_ ?_)
      | (with_reducible refine LeO.bind ?_ (fun _ => ?_))
      | exact ih0 _ _
      | exact LeO.none _
      | refine LeO.ite ?_ ?_
      | refine LeO.bind ?_ (fun _ => ?_)
set_option maxHeartbeats 8000000 in
set_option maxRecDepth 100000 in
theorem spec_l1Inv.calls (k : Nat) (a0 : Int) (r : Int) (w : World) (h : spec_l1Inv.f k a0 = some r) :
  Calls Try.prog 124 #[.int .i64 a0] w fun e w' => e = .returned (.int .i64 r) ∧ Drawn0 w w' := by
 have H : (spec_l1Inv.l0 k a0 1) = some r := h
 clear h
 have H' := Aside0.mk H
 clear H
 go_enter Try.func124, Try.ntmps124
 go_wp2
 go_loopg [3] k (fun kq v3 w' => ∃ (x3_1 : Int), v3 = .int .i64 x3_1 ∧ Aside0 (spec_l1Inv.l0 kq a0 x3_1 = some r) ∧ Aside0 (kq ≤ k) ∧ Drawn0 w w')
 case atStart => exact ⟨(1), z13_4, H', ⟨Nat.le_refl _⟩, z13_2⟩
 case round =>
  clear H'
  obtain ⟨x3_1, rfl, HA, HK1, ⟨m1, rfl⟩⟩ := hrel
  cases gk with
  | zero => exact absurd HA.out (by simp [spec_l1Inv.l0])
  | succ k1 =>
   have H := HA.out
   clear HA
   simp only [spec_l1Inv.l0] at H
   by_cases c2 : x3_1 < 31
   ·rw [if_pos c2] at H
    have c2b0 : decide (x3_1 < 31) = true := decide_eq_true c2
    clear c2
    by_cases c3 : (Int.tmod (wrap64 (a0 * x3_1)) 31) = 1
    ·rw [if_pos c3] at H
     have c3b0 : ((Int.tmod (wrap64 (a0 * x3_1)) 31) == 1) = true := beq_iff_eq.mpr c3
     have c3b1 : ((Int.tmod (wrap64 (a0 * x3_1)) 31) != 1) = false := bne_eq_false_iff_eq.mpr c3
     clear c3
     obtain rfl := Option.some.inj H
     go_wp2
     go_ret
     exact ⟨z13_4, z13_2⟩
    ·rw [if_neg c3] at H
     have c3b0 : ((Int.tmod (wrap64 (a0 * x3_1)) 31) == 1) = false := beq_eq_false_iff_ne.mpr c3
     have c3b1 : ((Int.tmod (wrap64 (a0 * x3_1)) 31) != 1) = true := bne_iff_ne.mpr c3
     have H' := Aside0.mk H
     clear H
     go_wp2
     go_roundg k1
     case measure => have := HK1.out; omega
     case rel => exact ⟨(wrap64 (x3_1 + 1)), z13_4, H', ⟨by have := HK1.out; omega⟩, z13_2⟩
   ·rw [if_neg c2] at H
    have c2b0 : decide (x3_1 < 31) = false := decide_eq_false c2
    clear c2
    obtain rfl := Option.some.inj H
    go_wp2
    go_ret
    exact ⟨z13_4, z13_2⟩

/-! ### spec_l3Less: function 122 -/
def spec_l3Less.f (k : Nat) (l0 : List Int) (l1 : List Int) : Option (List Int) := (spec_l2Lead.f k l1).bind fun t389 => (if 0 ≤ t389 then (if t389 < (l0.length : Int) then (if t389 < (l1.length : Int) then ((spec_l1Inv.f k (rd l1 t389)).bind fun t392 => ((spec_l2Scale.f k l1 (Int.tmod (wrap64 (31 - (Int.tmod (wrap64 ((rd l0 t389) * t392)) 31))) 31)).bind fun t393 => ((spec_l2Sum.f k l0 t393).bind fun t396 => (some t396)))) else (none)) else (none)) else (none))
def spec_l3Less.T2 : Bool × List (List Nat × List Nat) := (true, [([], []), ([], []), ([], []), ([], []), ([2, 3], [2, 3]), ([4], [4]), ([], []), ([], []), ([6, 7], [6, 7]), ([8], [8]), ([9], [9]), ([5, 10], [5, 10]), ([11], [11]), ([12], [12]), ([13], [13]), ([1, 14, 10], [1, 14]), ([0, 15, 15], [0, 15]), ([16, 16, 0, 1, 2, 3, 4, 5, 6, 7, 8, 9, 10, 11, 12, 13, 14, 15, 16], [16])])
def spec_l3Less.B2 : List Nat := [0, 0, 0, 0, 12, 28, 0, 0, 192, 448, 960, 2044, 4092, 8188, 16380, 32766, 65535, 131071]
theorem spec_l3Less.tab2 : rtab .any (opsOf Try.f122 2) = spec_l3Less.T2 := by kernel_rfl
theorem spec_l3Less.bits2 : waitsOk spec_l3Less.T2.2 spec_l3Less.B2 = true := by kernel_rfl
set_option maxHeartbeats 8000000 in
set_option maxRecDepth 100000 in
theorem spec_l3Less.calls (k : Nat) (A0 : Option Addr) (c0 : Nat) (l0 : List Int) (A1 : Option Addr) (c1 : Nat) (l1 : List Int) (r : List Int) (w : World) (hr0 : Kd.C (Kd.int .i64) w A0 l0.length l0) (hc0 : l0.length ≤ c0) (hr1 : Kd.C (Kd.int .i64) w A1 l1.length l1) (hc1 : l1.length ≤ c1) (h : spec_l3Less.f k l0 l1 = some r) :
  Calls Try.prog 122 #[.slice A0 l0.length c0, .slice A1 l1.length c1] w fun e w' => ∃ v0_ : Value, e = .returned (v0_) ∧ Kd.R (Kd.int .i64) 3 w' w.heap.size (fun _ => True) v0_ r ∧ Below w.heap.size w w' := by
 have HR0 := Aside0.mk hr0
 have HC0 := Aside0.mk hc0
 clear hr0 hc0
 have HR1 := Aside0.mk hr1
 have HC1 := Aside0.mk hc1
 clear hr1 hc1
 have HB := Aside0.mk (Below.refl w.heap.size w)
 have H : ((spec_l2Lead.f k l1).bind fun t389 => (if 0 ≤ t389 then (if t389 < (l0.length : Int) then (if t389 < (l1.length : Int) then ((spec_l1Inv.f k (rd l1 t389)).bind fun t392 => ((spec_l2Scale.f k l1 (Int.tmod (wrap64 (31 - (Int.tmod (wrap64 ((rd l0 t389) * t392)) 31))) 31)).bind fun t393 => ((spec_l2Sum.f k l0 t393).bind fun t396 => (some t396)))) else (none)) else (none)) else (none))) = some r := h
 clear h
 replace H := Option.bind_eq_some_iff.mp H
 obtain ⟨t389, A30, H⟩ := H
 replace H : (if 0 ≤ t389 then (if t389 < (l0.length : Int) then (if t389 < (l1.length : Int) then ((spec_l1Inv.f k (rd l1 t389)).bind fun t392 => ((spec_l2Scale.f k l1 (Int.tmod (wrap64 (31 - (Int.tmod (wrap64 ((rd l0 t389) * t392)) 31))) 31)).bind fun t393 => ((spec_l2Sum.f k l0 t393).bind fun t396 => (some t396)))) else (none)) else (none)) else (none)) = some r := H
 have A3 := Aside0.mk A30
 clear A30
 obtain ⟨c4, H⟩ := ifP H
 have c4b0 : decide (0 ≤ t389) = true := decide_eq_true c4
 clear c4
 obtain ⟨c5, H⟩ := ifP H
 have c5b0 : decide (t389 < (l0.length : Int)) = true := decide_eq_true c5
 clear c5
 obtain ⟨c6, H⟩ := ifP H
 have c6b0 : decide (t389 < (l1.length : Int)) = true := decide_eq_true c6
 clear c6
 replace H := Option.bind_eq_some_iff.mp H
 obtain ⟨t392, A70, H⟩ := H
 replace H : ((spec_l2Scale.f k l1 (Int.tmod (wrap64 (31 - (Int.tmod (wrap64 ((rd l0 t389) * t392)) 31))) 31)).bind fun t393 => ((spec_l2Sum.f k l0 t393).bind fun t396 => (some t396))) = some r := H
 have A7 := Aside0.mk A70
 clear A70
 replace H := Option.bind_eq_some_iff.mp H
 obtain ⟨t393, A80, H⟩ := H
 replace H : ((spec_l2Sum.f k l0 t393).bind fun t396 => (some t396)) = some r := H
 have A8 := Aside0.mk A80
 clear A80
 replace H := Option.bind_eq_some_iff.mp H
 obtain ⟨t396, A90, H⟩ := H
 replace H : (some t396) = some r := H
 have A9 := Aside0.mk A90
 clear A90
 obtain rfl := Option.some.inj H
 go_enter Try.func122, Try.ntmps122
 try go_wp2_with (first | ((with_reducible refine gate_callee (f := 123) rfl ?_); refine goesL_ (some 7) rfl rfl Try.func123 (by kernel_rfl) rfl #[.slice A1 l1.length c1] rfl z13_1 ?_; (with_reducible refine (spec_l2Lead.calls k _ _ l1 t389 _ ?side1 ?side2 A3.out).mono ?_); (case side1 => exact cZ (HR1.out)); (case side2 => exact HC1.out); rintro e w' ⟨rfl, ⟨nd, rfl⟩⟩; refine ⟨_, rfl, ?_⟩))
 replace HB := Aside0.mk (below_drew1 HB.out)
 have p390 : 0 ≤ (t389 : Int) := of_decide_eq_true z13_3
 have q390 : t389 < (l0.length : Int) := of_decide_eq_true z13_3
 obtain ⟨ad390, e390, hx390_0⟩ := Kd.at_int HR0.out t389 p390 q390
 have hw390_0 := hx390_0
 cases e390
 replace hx390_0 := (HB.out.cell (World.block_lt_of_cell? w _ hx390_0)).trans hx390_0
 replace p390 := eq_true p390
 replace q390 := eq_true q390
 have p391 : 0 ≤ (t389 : Int) := of_decide_eq_true z13_3
 have q391 : t389 < (l1.length : Int) := of_decide_eq_true z13_3
 obtain ⟨ad391, e391, hx391_0⟩ := Kd.at_int HR1.out t389 p391 q391
 have hw391_0 := hx391_0
 cases e391
 replace hx391_0 := (HB.out.cell (World.block_lt_of_cell? w _ hx391_0)).trans hx391_0
 replace p391 := eq_true p391
 replace q391 := eq_true q391
 refine start_ (n := 18) (S := fun w' => w'.cell? (ad390.add (t389).toNat) = some (.int .i64 (rd l0 t389)) ∧ w'.cell? (ad391.add (t389).toNat) = some (.int .i64 (rd l1 t389))) (ds := []) #[false, false, false, false, false, false, false, false, false, false, false, false, false, false, false, false, false, false] (by kernel_rfl) rfl rfl ⟨((HB.out.cell (World.block_lt_of_cell? w _ hw390_0)).trans hw390_0), ((HB.out.cell (World.block_lt_of_cell? w _ hw391_0)).trans hw391_0)⟩ (fun hHeld => ?_); refine with_tabW spec_l3Less.tab2 spec_l3Less.bits2 (fun HT_ HW_ => ?_)
 generalize w.drew = w10 at HB hx390_0 hx391_0 hHeld ⊢
 refine pZ 0 HT_ ?_
 refine pZ 1 HT_ ?_
 refine pZ 2 HT_ ?_
 refine pZ 3 HT_ ?_
 refine pZ 4 HT_ ?_
 refine pZ 6 HT_ ?_
 refine pZ 7 HT_ ?_
 refine pZ 8 HT_ ?_
 refine tZ 5 hHeld HT_ HW_ ?_
 refine tZ 9 hHeld HT_ HW_ ?_
 refine oZ 10 HT_ (fun K hK => ?_)
 refine goes_ Try.func124 (by kernel_rfl) rfl #[.int .i64 (rd l1 t389)] (by rfl) rfl rfl z13_1 ?_
 with_reducible refine (spec_l1Inv.calls k (rd l1 t389) t392 _ A7.out).mono ?_
 rintro e w' ⟨rfl, ⟨nd, rfl⟩⟩
 refine ⟨_, rfl, ?_⟩
 refine hK.out _ _ ⟨z13_5, z13_6⟩ (fun hHeld => ?_)
 clear hK K
 refine nZ ?_
 refine pZ 11 HT_ ?_
 refine pZ 12 HT_ ?_
 refine pZ 13 HT_ ?_
 refine pZ 14 HT_ ?_
 refine oZ 15 HT_ (fun K hK => ?_)
 refine goes_ Try.func91 (by kernel_rfl) rfl #[.slice (some ad391) l1.length c1, .int .i64 (Int.tmod (wrap64 (31 - (Int.tmod (wrap64 ((rd l0 t389) * t392)) 31))) 31)] (by rfl) rfl rfl z13_1 ?_
 with_reducible refine (spec_l2Scale.calls k _ _ l1 (Int.tmod (wrap64 (31 - (Int.tmod (wrap64 ((rd l0 t389) * t392)) 31))) 31) t393 _ ?side1 ?side2 A8.out).mono ?_
 (case side1 => repeat (first | exact (Kd.C_below HR1.out z13_0) | (with_reducible refine Kd.C_alloc ?_ _) | (with_reducible refine Kd.C_drewN ?_ _) | (with_reducible refine Kd.C_drew ?_)))
 (case side2 => exact HC1.out)
 rintro e w11 ⟨v394, rfl, ho0, hb⟩
 refine ⟨_, rfl, ?_⟩
 have HO395 := Aside0.mk (Kd.R_lower ho0 (below_size z13_0))
 replace HB := Aside0.mk (below_step z13_0 hb)
 (try clear hb)
 (try clear hb2)
 (try clear hk)
 (try clear hi)
 (try clear ho0)
 obtain ⟨Ao12, co12, eo12⟩ := Kd.R_slice HO395.out
 (first | subst eo12 | (injection eo12 with f1_ f2_ f3_; have f4_ := f1_.symm; have f5_ := f3_.symm; clear f1_ f2_ f3_; subst f4_; subst f5_))
 refine hK.out _ _ ⟨z13_5, z13_6⟩ (fun hHeld => ?_)
 clear hK K
 refine nZ ?_
 refine oZ 16 HT_ (fun K hK => ?_)
 refine goes_ Try.func90 (by kernel_rfl) rfl #[.slice (some ad390) l0.length c0, .slice Ao12 t393.length co12] (by rfl) rfl rfl z13_1 ?_
 with_reducible refine (spec_l2Sum.calls k _ _ l0 _ _ t393 t396 _ ?side1 ?side2 ?side3 ?side4 A9.out).mono ?_
 (case side1 => exact cZ ((Kd.C_below HR0.out HB.out)))
 (case side2 => exact HC0.out)
 (case side3 => exact cZ ((Kd.R_reads' HO395.out).2.2))
 (case side4 => exact (Kd.R_reads' HO395.out).2.1)
 rintro e w13 ⟨v397, rfl, ho0, hb⟩
 refine ⟨_, rfl, ?_⟩
 have HO398 := Aside0.mk (Kd.R_lower (Kd.R_new' ho0 (Kd.R_lt (by (with_reducible repeat (first | apply Kd.R_alloc | apply Kd.R_drewN | apply Kd.R_drew)); exact HO395.out))) (below_size z13_0))
 replace HO395 := Aside0.mk (Kd.R_elder' (by (with_reducible repeat (first | apply Kd.R_alloc | apply Kd.R_drewN | apply Kd.R_drew)); exact HO395.out) (Kd.R_base ho0) hb)
 replace HB := Aside0.mk (below_step z13_0 hb)
 (try clear hb)
 (try clear hb2)
 (try clear hk)
 (try clear hi)
 (try clear ho0)
 refine hK.out _ _ ⟨z13_5, z13_6⟩ (fun hHeld => ?_)
 clear hK K
 refine nZ ?_
 refine pZ 17 HT_ ?_
 refine done_ (done_of HT_.out (by kernel_rfl)) ?_
 try go_wp2
 go_ret
 exact ⟨_, by first | rfl | (simp [errW_none, errW_some] <;> rfl) | (simp [*, errW_none, errW_some] <;> rfl), by (with_reducible repeat (first | apply Kd.R_alloc | apply Kd.R_drewN | apply Kd.R_drew)); exact Kd.R_mono HO398.out (fun _ hk => trivial), z13_0⟩

-- NOT PRINTED: function 96 (spec_l3Add)

end Go.Proofs.Ytamaejafddmagaa.PA
