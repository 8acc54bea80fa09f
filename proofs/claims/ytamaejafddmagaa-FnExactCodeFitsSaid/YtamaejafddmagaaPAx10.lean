-- Written by a program of this session (after the manner of the kit's print, several laws in one text).
import Derived.Test.YtamaejafddmagaaPAx0
import Derived.Test.YtamaejafddmagaaPAx9
import Derived.Test.YtamaejafddmagaaGw
import Derived.Test.YtamaejafddmagaaGm
import Derived.Test.YtamaejafddmagaaGc
namespace Go.Proofs.Ytamaejafddmagaa.PA
open Go.RowKit Go.Proofs.YtamaejafddmagaaW.PrintWords Go.Proofs.YtamaejafddmagaaW.PrintLast Go.Proofs.YtamaejafddmagaaW.PrintMore
attribute [local go_sem] max2_int min2_int max_two min_two max_three min_three max_four min_four   -- for this text's walks alone
set_option linter.unusedVariables false
set_option linter.unusedSimpArgs false

/-! ### spec_l4Vals: function 85 -/
theorem z10_0 {p : Prop} (h : p := by repeat (first | (with_reducible first | exact HB.out | apply below_alloc | apply pw_below_drewN | apply below_drew1) | exact HB.out)) : p := h
theorem z10_1 {p : Prop} (h : p := by (with_reducible repeat (first | apply Kd.R_alloc | apply Kd.R_drewN | apply Kd.R_drew)); exact HO340.out) : p := h
theorem z10_2 {p : Prop} (h : p := by (with_reducible repeat (first | apply Kd.R_alloc | apply Kd.R_drewN | apply Kd.R_drew)); exact HO343.out) : p := h
theorem z10_3 {p : Prop} (h : p := by (with_reducible repeat (first | apply Kd.R_alloc | apply Kd.R_drewN | apply Kd.R_drew)); exact HO346.out) : p := h
theorem z10_4 {p : Prop} (h : p := by (with_reducible repeat (first | apply Kd.R_alloc | apply Kd.R_drewN | apply Kd.R_drew)); exact HO349.out) : p := h
theorem z10_5 {p : Prop} (h : p := by (with_reducible repeat (first | apply Kd.R_alloc | apply Kd.R_drewN | apply Kd.R_drew)); exact HO352.out) : p := h
theorem z10_6 {p : Prop} (h : p := by first | (with_reducible assumption) | assumption) : p := h
theorem z10_7 {p : Prop} (h : p := by (with_reducible repeat (first | apply Kd.R_alloc | apply Kd.R_drewN | apply Kd.R_drew)); exact HO355.out) : p := h
theorem z10_8 {p : Prop} (h : p := by first | rfl | (simp; done) | (simp [*]; done)) : p := h
theorem z10_9 {p : Prop} (h : p := by repeat (first | exact Drawn0.refl _ | apply Drawn0.step)) : p := h
theorem z10_10 {p : Prop} (h : p := by first | rfl | (simp [errW_none, errW_some] <;> rfl) | (simp [*, errW_none, errW_some] <;> rfl)) : p := h
theorem z10_11 {p : Prop} (h : p := by (try simp only [List.map_toArray, List.map_cons, List.map_nil]); first | done | rfl | (simp only [List.length_drop, List.length_take]; rfl)) : p := h
def spec_l4Vals.l0 : Nat → List Int → List Bool → Int → Option (Bool)
  | 0, _, _, _ => none
  | k + 1, x0, x1, x5 => if x5 < (x0.length : Int) then (if 0 ≤ x5 then ((spec_FieldOk.f (rd x0 x5)).bind fun t337 => (if t337 = true then (spec_l4Vals.l0 k x0 x1 (wrap64 (x5 + 1))) else (some false))) else (none)) else (if (x0.length : Int) = 8 then (some ((x1.length : Int) == 8)) else (some false))
def spec_l4Vals.f (k : Nat) (l0 : List Int) (l1 : List Bool) : Option (Bool) := spec_l4Vals.l0 k l0 l1 0
set_option maxHeartbeats 8000000 in
set_option maxRecDepth 100000 in
theorem spec_l4Vals.calls (k : Nat) (A0 : Option Addr) (c0 : Nat) (l0 : List Int) (A1 : Option Addr) (c1 : Nat) (l1 : List Bool) (r : Bool) (w : World) (hr0 : Kd.C (Kd.int .i64) w A0 l0.length l0) (hc0 : l0.length ≤ c0) (hr1 : Kd.C Kd.bool w A1 l1.length l1) (hc1 : l1.length ≤ c1) (h : spec_l4Vals.f k l0 l1 = some r) :
  Calls Try.prog 85 #[.slice A0 l0.length c0, .slice A1 l1.length c1] w fun e w' => e = .returned (.bool r) ∧ Drawn0 w w' := by
 have HR0 := Aside0.mk hr0
 have HC0 := Aside0.mk hc0
 clear hr0 hc0
 have HR1 := Aside0.mk hr1
 have HC1 := Aside0.mk hc1
 clear hr1 hc1
 have H : (spec_l4Vals.l0 k l0 l1 0) = some r := h
 clear h
 have H' := Aside0.mk H
 clear H
 go_enter Try.func85, Try.ntmps85
 go_wp2
 go_loopg [5] k (fun kq v5 w' => ∃ (x5_1 : Int), v5 = .int .i64 x5_1 ∧ Aside0 (spec_l4Vals.l0 kq l0 l1 x5_1 = some r) ∧ Aside0 (kq ≤ k) ∧ Drawn0 w w')
 case atStart => exact ⟨(0), z10_8, H', ⟨Nat.le_refl _⟩, z10_9⟩
 case round =>
  clear H'
  try clear c1
  obtain ⟨x5_1, rfl, HA, HK1, ⟨m1, rfl⟩⟩ := hrel
  cases gk with
  | zero => exact absurd HA.out (by simp [spec_l4Vals.l0])
  | succ k1 =>
   have H := HA.out
   clear HA
   simp only [spec_l4Vals.l0] at H
   by_cases c3 : x5_1 < (l0.length : Int)
   ·rw [if_pos c3] at H
    have c3b0 : decide (x5_1 < (l0.length : Int)) = true := decide_eq_true c3
    clear c3
    obtain ⟨c4, H⟩ := ifP H
    have c4b0 : decide (0 ≤ x5_1) = true := decide_eq_true c4
    clear c4
    replace H := Option.bind_eq_some_iff.mp H
    obtain ⟨t337, A50, H⟩ := H
    replace H : (if t337 = true then (spec_l4Vals.l0 k1 l0 l1 (wrap64 (x5_1 + 1))) else (some false)) = some r := H
    have A5 := Aside0.mk A50
    clear A50
    by_cases c6 : t337 = true
    ·subst c6
     have H1 : (spec_l4Vals.l0 k1 l0 l1 (wrap64 (x5_1 + 1))) = some r := by rw [if_pos rfl] at H; exact H
     clear H
     have H := H1
     clear H1
     have H' := Aside0.mk H
     clear H
     have p336 : 0 ≤ (x5_1 : Int) := of_decide_eq_true z10_6
     have q336 : x5_1 < (l0.length : Int) := of_decide_eq_true z10_6
     obtain ⟨ad336, e336, hx336_0⟩ := Kd.at_int HR0.out x5_1 p336 q336
     cases e336
     replace p336 := eq_true p336
     replace q336 := eq_true q336
     go_wp2_with (first | ((with_reducible refine gate_callee (f := 97) rfl ?_); refine goesL_ (some 16) rfl rfl Try.func97 (by kernel_rfl) rfl #[.int .i64 (rd l0 x5_1)] rfl z10_11 ?_; (with_reducible refine (spec_FieldOk.calls (rd l0 x5_1) true _ A5.out).mono ?_); rintro e w' ⟨rfl, ⟨nd, rfl⟩⟩; refine ⟨_, rfl, ?_⟩))
     go_roundg k1
     case measure => have := HK1.out; omega
     case rel => exact ⟨(wrap64 (x5_1 + 1)), z10_8, H', ⟨by have := HK1.out; omega⟩, z10_9⟩
    ·replace c6 := Bool.eq_false_iff.mpr c6
     subst c6
     have H1 : (some false) = some r := by rw [if_neg (show ¬ (false = true) by decide)] at H; exact H
     clear H
     have H := H1
     clear H1
     obtain rfl := Option.some.inj H
     have p336 : 0 ≤ (x5_1 : Int) := of_decide_eq_true z10_6
     have q336 : x5_1 < (l0.length : Int) := of_decide_eq_true z10_6
     obtain ⟨ad336, e336, hx336_0⟩ := Kd.at_int HR0.out x5_1 p336 q336
     cases e336
     replace p336 := eq_true p336
     replace q336 := eq_true q336
     go_wp2_with (first | ((with_reducible refine gate_callee (f := 97) rfl ?_); refine goesL_ (some 16) rfl rfl Try.func97 (by kernel_rfl) rfl #[.int .i64 (rd l0 x5_1)] rfl z10_11 ?_; (with_reducible refine (spec_FieldOk.calls (rd l0 x5_1) false _ A5.out).mono ?_); rintro e w' ⟨rfl, ⟨nd, rfl⟩⟩; refine ⟨_, rfl, ?_⟩))
     go_ret
     exact ⟨z10_8, z10_9⟩
   ·rw [if_neg c3] at H
    have c3b0 : decide (x5_1 < (l0.length : Int)) = false := decide_eq_false c3
    clear c3
    by_cases c7 : (l0.length : Int) = 8
    ·rw [if_pos c7] at H
     have c7b0 : ((l0.length : Int) == 8) = true := beq_iff_eq.mpr c7
     have c7b1 : ((l0.length : Int) != 8) = false := bne_eq_false_iff_eq.mpr c7
     clear c7
     obtain rfl := Option.some.inj H
     go_wp2
     go_ret
     exact ⟨z10_8, z10_9⟩
    ·rw [if_neg c7] at H
     have c7b0 : ((l0.length : Int) == 8) = false := beq_eq_false_iff_ne.mpr c7
     have c7b1 : ((l0.length : Int) != 8) = true := bne_iff_ne.mpr c7
     obtain rfl := Option.some.inj H
     go_wp2
     go_ret
     exact ⟨z10_8, z10_9⟩

/-! ### spec_l4Row: function 106 -/
def spec_l4Row.f (a0 : Int) (a1 : Int) : Option (List Int) := if a0 = 1 then ((some (([(([1, 0, 0, 0] : List Int)), (([0, 1, 0, 0] : List Int)), (([0, 0, 1, 0] : List Int)), (([0, 0, 0, 1] : List Int)), (([1, 1, 0, 0] : List Int)), (([0, 0, 1, 1] : List Int)), (([1, 2, 4, 8] : List Int)), (([1, 3, 9, 27] : List Int))] : List (List Int)) : List (List Int))).bind fun y362 => (if 0 ≤ a1 then (if a1 < (y362.length : Int) then (some (rd_L2 y362 a1)) else (none)) else (none))) else (some (([1, wrap64 (a1 + 1), Int.tmod (wrap64 ((wrap64 (a1 + 1)) * (wrap64 (a1 + 1)))) 31, Int.tmod (wrap64 ((wrap64 ((wrap64 (a1 + 1)) * (wrap64 (a1 + 1)))) * (wrap64 (a1 + 1)))) 31] : List Int)))
set_option maxHeartbeats 8000000 in
set_option maxRecDepth 100000 in
theorem spec_l4Row.calls (a0 : Int) (a1 : Int) (r : List Int) (w : World) (h : spec_l4Row.f a0 a1 = some r) :
  Calls Try.prog 106 #[.int .i64 a0, .int .i64 a1] w fun e w' => ∃ v0_ : Value, e = .returned (v0_) ∧ Kd.V (Kd.int .i64) 3 w' w.heap.size (fun k_ => (w.heap.size ≤ k_)) v0_ r ∧ Below w.heap.size w w' := by
 have HB := Aside0.mk (Below.refl w.heap.size w)
 have H : (if a0 = 1 then ((some (([(([1, 0, 0, 0] : List Int)), (([0, 1, 0, 0] : List Int)), (([0, 0, 1, 0] : List Int)), (([0, 0, 0, 1] : List Int)), (([1, 1, 0, 0] : List Int)), (([0, 0, 1, 1] : List Int)), (([1, 2, 4, 8] : List Int)), (([1, 3, 9, 27] : List Int))] : List (List Int)) : List (List Int))).bind fun y362 => (if 0 ≤ a1 then (if a1 < (y362.length : Int) then (some (rd_L2 y362 a1)) else (none)) else (none))) else (some (([1, wrap64 (a1 + 1), Int.tmod (wrap64 ((wrap64 (a1 + 1)) * (wrap64 (a1 + 1)))) 31, Int.tmod (wrap64 ((wrap64 ((wrap64 (a1 + 1)) * (wrap64 (a1 + 1)))) * (wrap64 (a1 + 1)))) 31] : List Int)))) = some r := h
 clear h
 by_cases c3 : a0 = 1
 ·rw [if_pos c3] at H
  have c3b0 : (a0 == 1) = true := beq_iff_eq.mpr c3
  have c3b1 : (a0 != 1) = false := bne_eq_false_iff_eq.mpr c3
  clear c3
  obtain ⟨y338, hy338⟩ : ∃ y_ : List Int, y_ = (([1, 0, 0, 0] : List Int)) := ⟨_, rfl⟩
  replace H : ((some (([y338, (([0, 1, 0, 0] : List Int)), (([0, 0, 1, 0] : List Int)), (([0, 0, 0, 1] : List Int)), (([1, 1, 0, 0] : List Int)), (([0, 0, 1, 1] : List Int)), (([1, 2, 4, 8] : List Int)), (([1, 3, 9, 27] : List Int))] : List (List Int)) : List (List Int))).bind fun y362 => (if 0 ≤ a1 then (if a1 < (y362.length : Int) then (some (rd_L2 y362 a1)) else (none)) else (none))) = some r := by first | (rw [hy338]; with_reducible exact H) | (have H2_ := (Option.bind_some _ _).symm.trans H; rw [hy338]; with_reducible exact H2_) | (have H2_ := (Option.bind_some _ _).symm.trans H; with_reducible exact H2_) | with_reducible exact H | (rw [hy338]; exact H) | exact H
  have Ny338 := Aside0.mk hy338
  clear hy338
  obtain ⟨y341, hy341⟩ : ∃ y_ : List Int, y_ = (([0, 1, 0, 0] : List Int)) := ⟨_, rfl⟩
  replace H : ((some (([y338, y341, (([0, 0, 1, 0] : List Int)), (([0, 0, 0, 1] : List Int)), (([1, 1, 0, 0] : List Int)), (([0, 0, 1, 1] : List Int)), (([1, 2, 4, 8] : List Int)), (([1, 3, 9, 27] : List Int))] : List (List Int)) : List (List Int))).bind fun y362 => (if 0 ≤ a1 then (if a1 < (y362.length : Int) then (some (rd_L2 y362 a1)) else (none)) else (none))) = some r := by first | (rw [hy341]; with_reducible exact H) | (have H2_ := (Option.bind_some _ _).symm.trans H; rw [hy341]; with_reducible exact H2_) | (have H2_ := (Option.bind_some _ _).symm.trans H; with_reducible exact H2_) | with_reducible exact H | (rw [hy341]; exact H) | exact H
  have Ny341 := Aside0.mk hy341
  clear hy341
  obtain ⟨y344, hy344⟩ : ∃ y_ : List Int, y_ = (([0, 0, 1, 0] : List Int)) := ⟨_, rfl⟩
  replace H : ((some (([y338, y341, y344, (([0, 0, 0, 1] : List Int)), (([1, 1, 0, 0] : List Int)), (([0, 0, 1, 1] : List Int)), (([1, 2, 4, 8] : List Int)), (([1, 3, 9, 27] : List Int))] : List (List Int)) : List (List Int))).bind fun y362 => (if 0 ≤ a1 then (if a1 < (y362.length : Int) then (some (rd_L2 y362 a1)) else (none)) else (none))) = some r := by first | (rw [hy344]; with_reducible exact H) | (have H2_ := (Option.bind_some _ _).symm.trans H; rw [hy344]; with_reducible exact H2_) | (have H2_ := (Option.bind_some _ _).symm.trans H; with_reducible exact H2_) | with_reducible exact H | (rw [hy344]; exact H) | exact H
  have Ny344 := Aside0.mk hy344
  clear hy344
  obtain ⟨y347, hy347⟩ : ∃ y_ : List Int, y_ = (([0, 0, 0, 1] : List Int)) := ⟨_, rfl⟩
  replace H : ((some (([y338, y341, y344, y347, (([1, 1, 0, 0] : List Int)), (([0, 0, 1, 1] : List Int)), (([1, 2, 4, 8] : List Int)), (([1, 3, 9, 27] : List Int))] : List (List Int)) : List (List Int))).bind fun y362 => (if 0 ≤ a1 then (if a1 < (y362.length : Int) then (some (rd_L2 y362 a1)) else (none)) else (none))) = some r := by first | (rw [hy347]; with_reducible exact H) | (have H2_ := (Option.bind_some _ _).symm.trans H; rw [hy347]; with_reducible exact H2_) | (have H2_ := (Option.bind_some _ _).symm.trans H; with_reducible exact H2_) | with_reducible exact H | (rw [hy347]; exact H) | exact H
  have Ny347 := Aside0.mk hy347
  clear hy347
  obtain ⟨y350, hy350⟩ : ∃ y_ : List Int, y_ = (([1, 1, 0, 0] : List Int)) := ⟨_, rfl⟩
  replace H : ((some (([y338, y341, y344, y347, y350, (([0, 0, 1, 1] : List Int)), (([1, 2, 4, 8] : List Int)), (([1, 3, 9, 27] : List Int))] : List (List Int)) : List (List Int))).bind fun y362 => (if 0 ≤ a1 then (if a1 < (y362.length : Int) then (some (rd_L2 y362 a1)) else (none)) else (none))) = some r := by first | (rw [hy350]; with_reducible exact H) | (have H2_ := (Option.bind_some _ _).symm.trans H; rw [hy350]; with_reducible exact H2_) | (have H2_ := (Option.bind_some _ _).symm.trans H; with_reducible exact H2_) | with_reducible exact H | (rw [hy350]; exact H) | exact H
  have Ny350 := Aside0.mk hy350
  clear hy350
  obtain ⟨y353, hy353⟩ : ∃ y_ : List Int, y_ = (([0, 0, 1, 1] : List Int)) := ⟨_, rfl⟩
  replace H : ((some (([y338, y341, y344, y347, y350, y353, (([1, 2, 4, 8] : List Int)), (([1, 3, 9, 27] : List Int))] : List (List Int)) : List (List Int))).bind fun y362 => (if 0 ≤ a1 then (if a1 < (y362.length : Int) then (some (rd_L2 y362 a1)) else (none)) else (none))) = some r := by first | (rw [hy353]; with_reducible exact H) | (have H2_ := (Option.bind_some _ _).symm.trans H; rw [hy353]; with_reducible exact H2_) | (have H2_ := (Option.bind_some _ _).symm.trans H; with_reducible exact H2_) | with_reducible exact H | (rw [hy353]; exact H) | exact H
  have Ny353 := Aside0.mk hy353
  clear hy353
  obtain ⟨y356, hy356⟩ : ∃ y_ : List Int, y_ = (([1, 2, 4, 8] : List Int)) := ⟨_, rfl⟩
  replace H : ((some (([y338, y341, y344, y347, y350, y353, y356, (([1, 3, 9, 27] : List Int))] : List (List Int)) : List (List Int))).bind fun y362 => (if 0 ≤ a1 then (if a1 < (y362.length : Int) then (some (rd_L2 y362 a1)) else (none)) else (none))) = some r := by first | (rw [hy356]; with_reducible exact H) | (have H2_ := (Option.bind_some _ _).symm.trans H; rw [hy356]; with_reducible exact H2_) | (have H2_ := (Option.bind_some _ _).symm.trans H; with_reducible exact H2_) | with_reducible exact H | (rw [hy356]; exact H) | exact H
  have Ny356 := Aside0.mk hy356
  clear hy356
  obtain ⟨y359, hy359⟩ : ∃ y_ : List Int, y_ = (([1, 3, 9, 27] : List Int)) := ⟨_, rfl⟩
  replace H : ((some (([y338, y341, y344, y347, y350, y353, y356, y359] : List (List Int)) : List (List Int))).bind fun y362 => (if 0 ≤ a1 then (if a1 < (y362.length : Int) then (some (rd_L2 y362 a1)) else (none)) else (none))) = some r := by first | (rw [hy359]; with_reducible exact H) | (have H2_ := (Option.bind_some _ _).symm.trans H; rw [hy359]; with_reducible exact H2_) | (have H2_ := (Option.bind_some _ _).symm.trans H; with_reducible exact H2_) | with_reducible exact H | (rw [hy359]; exact H) | exact H
  have Ny359 := Aside0.mk hy359
  clear hy359
  obtain ⟨y362, hy362⟩ : ∃ y_ : List (List Int), y_ = (([y338, y341, y344, y347, y350, y353, y356, y359] : List (List Int))) := ⟨_, rfl⟩
  replace H : (if 0 ≤ a1 then (if a1 < (y362.length : Int) then (some (rd_L2 y362 a1)) else (none)) else (none)) = some r := by first | (rw [hy362]; with_reducible exact H) | (have H2_ := (Option.bind_some _ _).symm.trans H; rw [hy362]; with_reducible exact H2_) | (have H2_ := (Option.bind_some _ _).symm.trans H; with_reducible exact H2_) | with_reducible exact H | (rw [hy362]; exact H) | exact H
  have Ny362 := Aside0.mk hy362
  clear hy362
  obtain ⟨c4, H⟩ := ifP H
  have c4b0 : decide (0 ≤ a1) = true := decide_eq_true c4
  clear c4
  obtain ⟨c5, H⟩ := ifP H
  have c5b0 : decide (a1 < (y362.length : Int)) = true := decide_eq_true c5
  clear c5
  obtain rfl := Option.some.inj H
  go_enter Try.func106, Try.ntmps106
  go_wp2_with (first | ((with_reducible refine gate_dst (N := 8) rfl ?_); refine Kd.R_lit (Kd.int .i64) _ 3 ?hg (N := 8) ?hd (xs := ([1, 0, 0, 0] : List Int)) (inner := [.int .i64 1, .int .i64 0, .int .i64 0, .int .i64 0]) (ok := fun _ => True) (okp := fun _ => True) ?hr ?hp (fun _ hk => hk) trivial (Below.refl _ _) (Nat.le_refl _) (by simp) ?_; (case hd => rfl); (case hg => rfl); (case hr => first | (go_simp; done) | (go_simp; rfl)); (case hp => exact (Reps.one (show Kd.M (Kd.int .i64) _ _ _ 1 [.int .i64 1] from rfl) (Reps.one (show Kd.M (Kd.int .i64) _ _ _ 0 [.int .i64 0] from rfl) (Reps.one (show Kd.M (Kd.int .i64) _ _ _ 0 [.int .i64 0] from rfl) (Reps.one (show Kd.M (Kd.int .i64) _ _ _ 0 [.int .i64 0] from rfl) (Reps.none _ _)))))); intro v339 w6 ho7 hb hg_ hnew_; clear hg_ hnew_; (first | rw [← Ny338.out] at ho7 | (simp only [Int.reduceToNat] at ho7; rw [← Ny338.out] at ho7)); have HO340 := Aside0.mk (Kd.R_lower (Kd.R_newM (M := fun k_ => (w.heap.size ≤ k_)) ho7 (below_size z10_0) (fun k_ h_ => h_)) (below_size z10_0)); replace HB := Aside0.mk (below_step z10_0 hb); clear hb ho7) | ((with_reducible refine gate_dst (N := 9) rfl ?_); refine Kd.R_lit (Kd.int .i64) _ 3 ?hg (N := 9) ?hd (xs := ([0, 1, 0, 0] : List Int)) (inner := [.int .i64 0, .int .i64 1, .int .i64 0, .int .i64 0]) (ok := fun _ => True) (okp := fun _ => True) ?hr ?hp (fun _ hk => hk) trivial (Below.refl _ _) (Nat.le_refl _) (by simp) ?_; (case hd => rfl); (case hg => rfl); (case hr => first | (go_simp; done) | (go_simp; rfl)); (case hp => exact (Reps.one (show Kd.M (Kd.int .i64) _ _ _ 0 [.int .i64 0] from rfl) (Reps.one (show Kd.M (Kd.int .i64) _ _ _ 1 [.int .i64 1] from rfl) (Reps.one (show Kd.M (Kd.int .i64) _ _ _ 0 [.int .i64 0] from rfl) (Reps.one (show Kd.M (Kd.int .i64) _ _ _ 0 [.int .i64 0] from rfl) (Reps.none _ _)))))); intro v342 w8 ho9 hb hg_ hnew_; clear hg_ hnew_; (first | rw [← Ny341.out] at ho9 | (simp only [Int.reduceToNat] at ho9; rw [← Ny341.out] at ho9)); have HO343 := Aside0.mk (Kd.R_lower (Kd.R_new' (Kd.R_newM (M := fun k_ => (w.heap.size ≤ k_)) ho9 (below_size z10_0) (fun k_ h_ => h_)) (Kd.R_lt z10_1)) (below_size z10_0)); replace HO340 := Aside0.mk (Kd.R_elder' z10_1 (Kd.R_base ho9) hb); replace HB := Aside0.mk (below_step z10_0 hb); clear hb ho9) | ((with_reducible refine gate_dst (N := 10) rfl ?_); refine Kd.R_lit (Kd.int .i64) _ 3 ?hg (N := 10) ?hd (xs := ([0, 0, 1, 0] : List Int)) (inner := [.int .i64 0, .int .i64 0, .int .i64 1, .int .i64 0]) (ok := fun _ => True) (okp := fun _ => True) ?hr ?hp (fun _ hk => hk) trivial (Below.refl _ _) (Nat.le_refl _) (by simp) ?_; (case hd => rfl); (case hg => rfl); (case hr => first | (go_simp; done) | (go_simp; rfl)); (case hp => exact (Reps.one (show Kd.M (Kd.int .i64) _ _ _ 0 [.int .i64 0] from rfl) (Reps.one (show Kd.M (Kd.int .i64) _ _ _ 0 [.int .i64 0] from rfl) (Reps.one (show Kd.M (Kd.int .i64) _ _ _ 1 [.int .i64 1] from rfl) (Reps.one (show Kd.M (Kd.int .i64) _ _ _ 0 [.int .i64 0] from rfl) (Reps.none _ _)))))); intro v345 w10 ho11 hb hg_ hnew_; clear hg_ hnew_; (first | rw [← Ny344.out] at ho11 | (simp only [Int.reduceToNat] at ho11; rw [← Ny344.out] at ho11)); have HO346 := Aside0.mk (Kd.R_lower (Kd.R_new' (Kd.R_new' (Kd.R_newM (M := fun k_ => (w.heap.size ≤ k_)) ho11 (below_size z10_0) (fun k_ h_ => h_)) (Kd.R_lt z10_1)) (Kd.R_lt z10_2)) (below_size z10_0)); replace HO340 := Aside0.mk (Kd.R_elder' z10_1 (Kd.R_base ho11) hb); replace HO343 := Aside0.mk (Kd.R_elder' z10_2 (Kd.R_base ho11) hb); replace HB := Aside0.mk (below_step z10_0 hb); clear hb ho11) | ((with_reducible refine gate_dst (N := 11) rfl ?_); refine Kd.R_lit (Kd.int .i64) _ 3 ?hg (N := 11) ?hd (xs := ([0, 0, 0, 1] : List Int)) (inner := [.int .i64 0, .int .i64 0, .int .i64 0, .int .i64 1]) (ok := fun _ => True) (okp := fun _ => True) ?hr ?hp (fun _ hk => hk) trivial (Below.refl _ _) (Nat.le_refl _) (by simp) ?_; (case hd => rfl); (case hg => rfl); (case hr => first | (go_simp; done) | (go_simp; rfl)); (case hp => exact (Reps.one (show Kd.M (Kd.int .i64) _ _ _ 0 [.int .i64 0] from rfl) (Reps.one (show Kd.M (Kd.int .i64) _ _ _ 0 [.int .i64 0] from rfl) (Reps.one (show Kd.M (Kd.int .i64) _ _ _ 0 [.int .i64 0] from rfl) (Reps.one (show Kd.M (Kd.int .i64) _ _ _ 1 [.int .i64 1] from rfl) (Reps.none _ _)))))); intro v348 w12 ho13 hb hg_ hnew_; clear hg_ hnew_; (first | rw [← Ny347.out] at ho13 | (simp only [Int.reduceToNat] at ho13; rw [← Ny347.out] at ho13)); have HO349 := Aside0.mk (Kd.R_lower (Kd.R_new' (Kd.R_new' (Kd.R_new' (Kd.R_newM (M := fun k_ => (w.heap.size ≤ k_)) ho13 (below_size z10_0) (fun k_ h_ => h_)) (Kd.R_lt z10_1)) (Kd.R_lt z10_2)) (Kd.R_lt z10_3)) (below_size z10_0)); replace HO340 := Aside0.mk (Kd.R_elder' z10_1 (Kd.R_base ho13) hb); replace HO343 := Aside0.mk (Kd.R_elder' z10_2 (Kd.R_base ho13) hb); replace HO346 := Aside0.mk (Kd.R_elder' z10_3 (Kd.R_base ho13) hb); replace HB := Aside0.mk (below_step z10_0 hb); clear hb ho13) | ((with_reducible refine gate_dst (N := 12) rfl ?_); refine Kd.R_lit (Kd.int .i64) _ 3 ?hg (N := 12) ?hd (xs := ([1, 1, 0, 0] : List Int)) (inner := [.int .i64 1, .int .i64 1, .int .i64 0, .int .i64 0]) (ok := fun _ => True) (okp := fun _ => True) ?hr ?hp (fun _ hk => hk) trivial (Below.refl _ _) (Nat.le_refl _) (by simp) ?_; (case hd => rfl); (case hg => rfl); (case hr => first | (go_simp; done) | (go_simp; rfl)); (case hp => exact (Reps.one (show Kd.M (Kd.int .i64) _ _ _ 1 [.int .i64 1] from rfl) (Reps.one (show Kd.M (Kd.int .i64) _ _ _ 1 [.int .i64 1] from rfl) (Reps.one (show Kd.M (Kd.int .i64) _ _ _ 0 [.int .i64 0] from rfl) (Reps.one (show Kd.M (Kd.int .i64) _ _ _ 0 [.int .i64 0] from rfl) (Reps.none _ _)))))); intro v351 w14 ho15 hb hg_ hnew_; clear hg_ hnew_; (first | rw [← Ny350.out] at ho15 | (simp only [Int.reduceToNat] at ho15; rw [← Ny350.out] at ho15)); have HO352 := Aside0.mk (Kd.R_lower (Kd.R_new' (Kd.R_new' (Kd.R_new' (Kd.R_new' (Kd.R_newM (M := fun k_ => (w.heap.size ≤ k_)) ho15 (below_size z10_0) (fun k_ h_ => h_)) (Kd.R_lt z10_1)) (Kd.R_lt z10_2)) (Kd.R_lt z10_3)) (Kd.R_lt z10_4)) (below_size z10_0)); replace HO340 := Aside0.mk (Kd.R_elder' z10_1 (Kd.R_base ho15) hb); replace HO343 := Aside0.mk (Kd.R_elder' z10_2 (Kd.R_base ho15) hb); replace HO346 := Aside0.mk (Kd.R_elder' z10_3 (Kd.R_base ho15) hb); replace HO349 := Aside0.mk (Kd.R_elder' z10_4 (Kd.R_base ho15) hb); replace HB := Aside0.mk (below_step z10_0 hb); clear hb ho15) | ((with_reducible refine gate_dst (N := 13) rfl ?_); refine Kd.R_lit (Kd.int .i64) _ 3 ?hg (N := 13) ?hd (xs := ([0, 0, 1, 1] : List Int)) (inner := [.int .i64 0, .int .i64 0, .int .i64 1, .int .i64 1]) (ok := fun _ => True) (okp := fun _ => True) ?hr ?hp (fun _ hk => hk) trivial (Below.refl _ _) (Nat.le_refl _) (by simp) ?_; (case hd => rfl); (case hg => rfl); (case hr => first | (go_simp; done) | (go_simp; rfl)); (case hp => exact (Reps.one (show Kd.M (Kd.int .i64) _ _ _ 0 [.int .i64 0] from rfl) (Reps.one (show Kd.M (Kd.int .i64) _ _ _ 0 [.int .i64 0] from rfl) (Reps.one (show Kd.M (Kd.int .i64) _ _ _ 1 [.int .i64 1] from rfl) (Reps.one (show Kd.M (Kd.int .i64) _ _ _ 1 [.int .i64 1] from rfl) (Reps.none _ _)))))); intro v354 w16 ho17 hb hg_ hnew_; clear hg_ hnew_; (first | rw [← Ny353.out] at ho17 | (simp only [Int.reduceToNat] at ho17; rw [← Ny353.out] at ho17)); have HO355 := Aside0.mk (Kd.R_lower (Kd.R_new' (Kd.R_new' (Kd.R_new' (Kd.R_new' (Kd.R_new' (Kd.R_newM (M := fun k_ => (w.heap.size ≤ k_)) ho17 (below_size z10_0) (fun k_ h_ => h_)) (Kd.R_lt z10_1)) (Kd.R_lt z10_2)) (Kd.R_lt z10_3)) (Kd.R_lt z10_4)) (Kd.R_lt z10_5)) (below_size z10_0)); replace HO340 := Aside0.mk (Kd.R_elder' z10_1 (Kd.R_base ho17) hb); replace HO343 := Aside0.mk (Kd.R_elder' z10_2 (Kd.R_base ho17) hb); replace HO346 := Aside0.mk (Kd.R_elder' z10_3 (Kd.R_base ho17) hb); replace HO349 := Aside0.mk (Kd.R_elder' z10_4 (Kd.R_base ho17) hb); replace HO352 := Aside0.mk (Kd.R_elder' z10_5 (Kd.R_base ho17) hb); replace HB := Aside0.mk (below_step z10_0 hb); clear hb ho17) | ((with_reducible refine gate_dst (N := 14) rfl ?_); refine Kd.R_lit (Kd.int .i64) _ 3 ?hg (N := 14) ?hd (xs := ([1, 2, 4, 8] : List Int)) (inner := [.int .i64 1, .int .i64 2, .int .i64 4, .int .i64 8]) (ok := fun _ => True) (okp := fun _ => True) ?hr ?hp (fun _ hk => hk) trivial (Below.refl _ _) (Nat.le_refl _) (by simp) ?_; (case hd => rfl); (case hg => rfl); (case hr => first | (go_simp; done) | (go_simp; rfl)); (case hp => exact (Reps.one (show Kd.M (Kd.int .i64) _ _ _ 1 [.int .i64 1] from rfl) (Reps.one (show Kd.M (Kd.int .i64) _ _ _ 2 [.int .i64 2] from rfl) (Reps.one (show Kd.M (Kd.int .i64) _ _ _ 4 [.int .i64 4] from rfl) (Reps.one (show Kd.M (Kd.int .i64) _ _ _ 8 [.int .i64 8] from rfl) (Reps.none _ _)))))); intro v357 w18 ho19 hb hg_ hnew_; clear hg_ hnew_; (first | rw [← Ny356.out] at ho19 | (simp only [Int.reduceToNat] at ho19; rw [← Ny356.out] at ho19)); have HO358 := Aside0.mk (Kd.R_lower (Kd.R_new' (Kd.R_new' (Kd.R_new' (Kd.R_new' (Kd.R_new' (Kd.R_new' (Kd.R_newM (M := fun k_ => (w.heap.size ≤ k_)) ho19 (below_size z10_0) (fun k_ h_ => h_)) (Kd.R_lt z10_1)) (Kd.R_lt z10_2)) (Kd.R_lt z10_3)) (Kd.R_lt z10_4)) (Kd.R_lt z10_5)) (Kd.R_lt z10_7)) (below_size z10_0)); replace HO340 := Aside0.mk (Kd.R_elder' z10_1 (Kd.R_base ho19) hb); replace HO343 := Aside0.mk (Kd.R_elder' z10_2 (Kd.R_base ho19) hb); replace HO346 := Aside0.mk (Kd.R_elder' z10_3 (Kd.R_base ho19) hb); replace HO349 := Aside0.mk (Kd.R_elder' z10_4 (Kd.R_base ho19) hb); replace HO352 := Aside0.mk (Kd.R_elder' z10_5 (Kd.R_base ho19) hb); replace HO355 := Aside0.mk (Kd.R_elder' z10_7 (Kd.R_base ho19) hb); replace HB := Aside0.mk (below_step z10_0 hb); clear hb ho19) | ((with_reducible refine gate_dst (N := 15) rfl ?_); refine Kd.R_lit (Kd.int .i64) _ 3 ?hg (N := 15) ?hd (xs := ([1, 3, 9, 27] : List Int)) (inner := [.int .i64 1, .int .i64 3, .int .i64 9, .int .i64 27]) (ok := fun _ => True) (okp := fun _ => True) ?hr ?hp (fun _ hk => hk) trivial (Below.refl _ _) (Nat.le_refl _) (by simp) ?_; (case hd => rfl); (case hg => rfl); (case hr => first | (go_simp; done) | (go_simp; rfl)); (case hp => exact (Reps.one (show Kd.M (Kd.int .i64) _ _ _ 1 [.int .i64 1] from rfl) (Reps.one (show Kd.M (Kd.int .i64) _ _ _ 3 [.int .i64 3] from rfl) (Reps.one (show Kd.M (Kd.int .i64) _ _ _ 9 [.int .i64 9] from rfl) (Reps.one (show Kd.M (Kd.int .i64) _ _ _ 27 [.int .i64 27] from rfl) (Reps.none _ _)))))); intro v360 w20 ho21 hb hg_ hnew_; clear hg_ hnew_; (first | rw [← Ny359.out] at ho21 | (simp only [Int.reduceToNat] at ho21; rw [← Ny359.out] at ho21)); have HO361 := Aside0.mk (Kd.R_lower (Kd.R_new' (Kd.R_new' (Kd.R_new' (Kd.R_new' (Kd.R_new' (Kd.R_new' (Kd.R_new' (Kd.R_newM (M := fun k_ => (w.heap.size ≤ k_)) ho21 (below_size z10_0) (fun k_ h_ => h_)) (Kd.R_lt z10_1)) (Kd.R_lt z10_2)) (Kd.R_lt z10_3)) (Kd.R_lt z10_4)) (Kd.R_lt z10_5)) (Kd.R_lt z10_7)) (Kd.R_lt (by (with_reducible repeat (first | apply Kd.R_alloc | apply Kd.R_drewN | apply Kd.R_drew)); exact HO358.out))) (below_size z10_0)); replace HO340 := Aside0.mk (Kd.R_elder' z10_1 (Kd.R_base ho21) hb); replace HO343 := Aside0.mk (Kd.R_elder' z10_2 (Kd.R_base ho21) hb); replace HO346 := Aside0.mk (Kd.R_elder' z10_3 (Kd.R_base ho21) hb); replace HO349 := Aside0.mk (Kd.R_elder' z10_4 (Kd.R_base ho21) hb); replace HO352 := Aside0.mk (Kd.R_elder' z10_5 (Kd.R_base ho21) hb); replace HO355 := Aside0.mk (Kd.R_elder' z10_7 (Kd.R_base ho21) hb); replace HO358 := Aside0.mk (Kd.R_elder' (by (with_reducible repeat (first | apply Kd.R_alloc | apply Kd.R_drewN | apply Kd.R_drew)); exact HO358.out) (Kd.R_base ho21) hb); replace HB := Aside0.mk (below_step z10_0 hb); clear hb ho21; obtain ⟨Ao22, co22, eo22⟩ := Kd.R_slice HO340.out; subst eo22; obtain ⟨Ao23, co23, eo23⟩ := Kd.R_slice HO343.out; subst eo23; obtain ⟨Ao24, co24, eo24⟩ := Kd.R_slice HO346.out; subst eo24; obtain ⟨Ao25, co25, eo25⟩ := Kd.R_slice HO349.out; subst eo25; obtain ⟨Ao26, co26, eo26⟩ := Kd.R_slice HO352.out; subst eo26; obtain ⟨Ao27, co27, eo27⟩ := Kd.R_slice HO355.out; subst eo27; obtain ⟨Ao28, co28, eo28⟩ := Kd.R_slice HO358.out; subst eo28; obtain ⟨Ao29, co29, eo29⟩ := Kd.R_slice HO361.out; subst eo29) | ((with_reducible refine gate_dst (N := 16) rfl ?_); refine Kd.N_lit (Kd.slice 3 (Kd.int .i64)) _ 28 ?hg (N' := 16) ?hd (xs := ([y338, y341, y344, y347, y350, y353, y356, y359] : List (List Int))) (inner := [.slice Ao22 y338.length co22, .slice Ao23 y341.length co23, .slice Ao24 y344.length co24, .slice Ao25 y347.length co25, .slice Ao26 y350.length co26, .slice Ao27 y353.length co27, .slice Ao28 y356.length co28, .slice Ao29 y359.length co29]) (ok := (fun k_ => (w.heap.size ≤ k_))) (okp := (fun k_ => (w.heap.size ≤ k_))) ?hr ?hp (fun _ hk => hk) ((show ∀ k_, w20.heap.size ≤ k_ → (fun k_ => (w.heap.size ≤ k_)) k_ from fun k_ hk => (Nat.le_trans (below_size z10_0) hk)) _ (Nat.le_refl _)) (Below.refl _ _) (Nat.le_refl _) (by simp) ?_; (case hd => rfl); (case hg => rfl); (case hr => first | (go_simp; done) | (go_simp; rfl)); (case hp => exact (Reps.one (show Kd.FK (Kd.slice 3 (Kd.int .i64)) _ _ y338 [.slice Ao22 y338.length co22] from (Kd.FK_slice_mk (Kd.R_reads' (Kd.R_mono (ok' := (fun k_ => (w.heap.size ≤ k_))) (HO340.out) (fun k_ hk => hk.1.1.1.1.1.1.1.1))).2.1 (Kd.R_F (Kd.R_mono (ok' := (fun k_ => (w.heap.size ≤ k_))) (HO340.out) (fun k_ hk => hk.1.1.1.1.1.1.1.1))))) (Reps.one (show Kd.FK (Kd.slice 3 (Kd.int .i64)) _ _ y341 [.slice Ao23 y341.length co23] from (Kd.FK_slice_mk (Kd.R_reads' (Kd.R_mono (ok' := (fun k_ => (w.heap.size ≤ k_))) (HO343.out) (fun k_ hk => hk.1.1.1.1.1.1.1.1))).2.1 (Kd.R_F (Kd.R_mono (ok' := (fun k_ => (w.heap.size ≤ k_))) (HO343.out) (fun k_ hk => hk.1.1.1.1.1.1.1.1))))) (Reps.one (show Kd.FK (Kd.slice 3 (Kd.int .i64)) _ _ y344 [.slice Ao24 y344.length co24] from (Kd.FK_slice_mk (Kd.R_reads' (Kd.R_mono (ok' := (fun k_ => (w.heap.size ≤ k_))) (HO346.out) (fun k_ hk => hk.1.1.1.1.1.1.1.1))).2.1 (Kd.R_F (Kd.R_mono (ok' := (fun k_ => (w.heap.size ≤ k_))) (HO346.out) (fun k_ hk => hk.1.1.1.1.1.1.1.1))))) (Reps.one (show Kd.FK (Kd.slice 3 (Kd.int .i64)) _ _ y347 [.slice Ao25 y347.length co25] from (Kd.FK_slice_mk (Kd.R_reads' (Kd.R_mono (ok' := (fun k_ => (w.heap.size ≤ k_))) (HO349.out) (fun k_ hk => hk.1.1.1.1.1.1.1.1))).2.1 (Kd.R_F (Kd.R_mono (ok' := (fun k_ => (w.heap.size ≤ k_))) (HO349.out) (fun k_ hk => hk.1.1.1.1.1.1.1.1))))) (Reps.one (show Kd.FK (Kd.slice 3 (Kd.int .i64)) _ _ y350 [.slice Ao26 y350.length co26] from (Kd.FK_slice_mk (Kd.R_reads' (Kd.R_mono (ok' := (fun k_ => (w.heap.size ≤ k_))) (HO352.out) (fun k_ hk => hk.1.1.1.1.1.1.1.1))).2.1 (Kd.R_F (Kd.R_mono (ok' := (fun k_ => (w.heap.size ≤ k_))) (HO352.out) (fun k_ hk => hk.1.1.1.1.1.1.1.1))))) (Reps.one (show Kd.FK (Kd.slice 3 (Kd.int .i64)) _ _ y353 [.slice Ao27 y353.length co27] from (Kd.FK_slice_mk (Kd.R_reads' (Kd.R_mono (ok' := (fun k_ => (w.heap.size ≤ k_))) (HO355.out) (fun k_ hk => hk.1.1.1.1.1.1.1.1))).2.1 (Kd.R_F (Kd.R_mono (ok' := (fun k_ => (w.heap.size ≤ k_))) (HO355.out) (fun k_ hk => hk.1.1.1.1.1.1.1.1))))) (Reps.one (show Kd.FK (Kd.slice 3 (Kd.int .i64)) _ _ y356 [.slice Ao28 y356.length co28] from (Kd.FK_slice_mk (Kd.R_reads' (Kd.R_mono (ok' := (fun k_ => (w.heap.size ≤ k_))) (HO358.out) (fun k_ hk => hk.1.1.1.1.1.1.1.1))).2.1 (Kd.R_F (Kd.R_mono (ok' := (fun k_ => (w.heap.size ≤ k_))) (HO358.out) (fun k_ hk => hk.1.1.1.1.1.1.1.1))))) (Reps.one (show Kd.FK (Kd.slice 3 (Kd.int .i64)) _ _ y359 [.slice Ao29 y359.length co29] from (Kd.FK_slice_mk (Kd.R_reads' (Kd.R_mono (ok' := (fun k_ => (w.heap.size ≤ k_))) (HO361.out) (fun k_ hk => hk.1.1.1.1.1.1.1.1))).2.1 (Kd.R_F (Kd.R_mono (ok' := (fun k_ => (w.heap.size ≤ k_))) (HO361.out) (fun k_ hk => hk.1.1.1.1.1.1.1.1))))) (Reps.none _ _)))))))))); intro v363 w30 ho31 hb hg_ hnew_; clear hg_ hnew_; (first | rw [← Ny362.out] at ho31 | (simp only [Int.reduceToNat] at ho31; rw [← Ny362.out] at ho31)); have n0_ := Aside0.mk (Kd.N_lower ho31 (below_size z10_0)); have n1_ := Aside0.mk (below_step z10_0 hb); clear HB; clear HO340; clear HO343; clear HO346; clear HO349; clear HO352; clear HO355; clear HO358; clear HO361; have HO364 := n0_; have HB := n1_; clear n0_ n1_; clear hb ho31; obtain ⟨Ao32, co32, eo32⟩ := Kd.N_slice HO364.out; subst eo32; have p365 : 0 ≤ (a1 : Int) := of_decide_eq_true z10_6; have q365 : a1 < (y362.length : Int) := of_decide_eq_true z10_6; obtain ⟨ad365, A365_0, c365_0, e365, hx365_0, hl365_0, hi365_0⟩ := at_L2 (Kd.N_reads' HO364.out).2.2 a1 p365 q365; cases e365; obtain ⟨ce365, hce365, hMe365, hcc365⟩ := Kd.N_get HO364.out [] a1 p365 (by first | exact q365 | exact of_decide_eq_true z10_6 | (have e_ := (Kd.N_reads' HO364.out).1; omega)); obtain ⟨ua365_0, uc365_0, rfl, ul365_0, ge365_0⟩ := Kd.FK_slice_open hMe365; have hv365_0 := hcc365 0 _ rfl; rw [Nat.add_zero, show ((Kd.slice 3 (Kd.int .i64))).sz = 1 from rfl, Nat.mul_one] at hv365_0; replace hv365_0 := Option.some.inj (hv365_0.symm.trans hx365_0); injection hv365_0 with hva_ hvn_ hvc_; rw [hva_] at ge365_0; rw [hvc_] at ul365_0; have HL365_0 := Aside0.mk (show Kd.V (Kd.int .i64) 3 _ w.heap.size _ _ (rd_L2 y362 a1) from Kd.V_mk ul365_0 ge365_0); clear hva_ hvn_ hvc_ ge365_0 ul365_0; clear hcc365 hce365; have HR365_0 := Aside0.mk hi365_0; have HC365_0 := Aside0.mk hl365_0; clear hi365_0 hl365_0; replace p365 := eq_true p365; replace q365 := eq_true q365))
  go_ret
  exact ⟨_, z10_10, by (with_reducible repeat (first | apply Kd.V_alloc | apply Kd.V_drewN | apply Kd.V_drew)); exact Kd.V_mono HL365_0.out (fun _ hk => hk.1), z10_0⟩
 ·rw [if_neg c3] at H
  have c3b0 : (a0 == 1) = false := beq_eq_false_iff_ne.mpr c3
  have c3b1 : (a0 != 1) = true := bne_iff_ne.mpr c3
  obtain ⟨y366, hy366⟩ : ∃ y_ : List Int, y_ = (([1, wrap64 (a1 + 1), Int.tmod (wrap64 ((wrap64 (a1 + 1)) * (wrap64 (a1 + 1)))) 31, Int.tmod (wrap64 ((wrap64 ((wrap64 (a1 + 1)) * (wrap64 (a1 + 1)))) * (wrap64 (a1 + 1)))) 31] : List Int)) := ⟨_, rfl⟩
  replace H : (some y366) = some r := by first | (rw [hy366]; with_reducible exact H) | (have H2_ := (Option.bind_some _ _).symm.trans H; rw [hy366]; with_reducible exact H2_) | (have H2_ := (Option.bind_some _ _).symm.trans H; with_reducible exact H2_) | with_reducible exact H | (rw [hy366]; exact H) | exact H
  have Ny366 := Aside0.mk hy366
  clear hy366
  obtain rfl := Option.some.inj H
  go_enter Try.func106, Try.ntmps106
  go_wp2_with (first | ((with_reducible refine gate_dst (N := 33) rfl ?_); refine Kd.R_lit (Kd.int .i64) _ 3 ?hg (N := 33) ?hd (xs := ([1, wrap64 (a1 + 1), Int.tmod (wrap64 ((wrap64 (a1 + 1)) * (wrap64 (a1 + 1)))) 31, Int.tmod (wrap64 ((wrap64 ((wrap64 (a1 + 1)) * (wrap64 (a1 + 1)))) * (wrap64 (a1 + 1)))) 31] : List Int)) (inner := [.int .i64 1, .int .i64 (wrap64 (a1 + 1)), .int .i64 (Int.tmod (wrap64 ((wrap64 (a1 + 1)) * (wrap64 (a1 + 1)))) 31), .int .i64 (Int.tmod (wrap64 ((wrap64 ((wrap64 (a1 + 1)) * (wrap64 (a1 + 1)))) * (wrap64 (a1 + 1)))) 31)]) (ok := fun _ => True) (okp := fun _ => True) ?hr ?hp (fun _ hk => hk) trivial (Below.refl _ _) (Nat.le_refl _) (by simp) ?_; (case hd => rfl); (case hg => rfl); (case hr => first | (go_simp; done) | (go_simp; rfl)); (case hp => exact (Reps.one (show Kd.M (Kd.int .i64) _ _ _ 1 [.int .i64 1] from rfl) (Reps.one (show Kd.M (Kd.int .i64) _ _ _ (wrap64 (a1 + 1)) [.int .i64 (wrap64 (a1 + 1))] from rfl) (Reps.one (show Kd.M (Kd.int .i64) _ _ _ (Int.tmod (wrap64 ((wrap64 (a1 + 1)) * (wrap64 (a1 + 1)))) 31) [.int .i64 (Int.tmod (wrap64 ((wrap64 (a1 + 1)) * (wrap64 (a1 + 1)))) 31)] from rfl) (Reps.one (show Kd.M (Kd.int .i64) _ _ _ (Int.tmod (wrap64 ((wrap64 ((wrap64 (a1 + 1)) * (wrap64 (a1 + 1)))) * (wrap64 (a1 + 1)))) 31) [.int .i64 (Int.tmod (wrap64 ((wrap64 ((wrap64 (a1 + 1)) * (wrap64 (a1 + 1)))) * (wrap64 (a1 + 1)))) 31)] from rfl) (Reps.none _ _)))))); intro v367 w33 ho34 hb hg_ hnew_; clear hg_ hnew_; (first | rw [← Ny366.out] at ho34 | (simp only [Int.reduceToNat] at ho34; rw [← Ny366.out] at ho34)); have HO368 := Aside0.mk (Kd.R_lower (Kd.R_newM (M := fun k_ => (w.heap.size ≤ k_)) ho34 (below_size z10_0) (fun k_ h_ => h_)) (below_size z10_0)); replace HB := Aside0.mk (below_step z10_0 hb); clear hb ho34))
  go_ret
  exact ⟨_, z10_10, Kd.R_V (by (with_reducible repeat (first | apply Kd.R_alloc | apply Kd.R_drewN | apply Kd.R_drew)); exact Kd.R_mono HO368.out (fun _ hk => hk.1)), z10_0⟩

/-! ### spec_l2Scale: function 91 -/
def spec_l2Scale.l0 : Nat → List Int → Int → List Int → Int → Option (List Int)
  | 0, _, _, _, _ => none
  | k + 1, x0, x1, x5, x6 => if x6 < (x0.length : Int) then (if 0 ≤ x6 then (if x5.length < 17592186044416 then (spec_l2Scale.l0 k x0 x1 (x5 ++ [Int.tmod (wrap64 ((rd x0 x6) * x1)) 31]) (wrap64 (x6 + 1))) else (none)) else (none)) else (some x5)
def spec_l2Scale.f (k : Nat) (l0 : List Int) (a1 : Int) : Option (List Int) := spec_l2Scale.l0 k l0 a1 (([] : List Int)) 0
set_option maxHeartbeats 8000000 in
set_option maxRecDepth 100000 in
theorem spec_l2Scale.calls (k : Nat) (A0 : Option Addr) (c0 : Nat) (l0 : List Int) (a1 : Int) (r : List Int) (w : World) (hr0 : Kd.C (Kd.int .i64) w A0 l0.length l0) (hc0 : l0.length ≤ c0) (h : spec_l2Scale.f k l0 a1 = some r) :
  Calls Try.prog 91 #[.slice A0 l0.length c0, .int .i64 a1] w fun e w' => ∃ v0_ : Value, e = .returned (v0_) ∧ Kd.R (Kd.int .i64) 3 w' w.heap.size (fun _ => True) v0_ r ∧ Below w.heap.size w w' := by
 have HR0 := Aside0.mk hr0
 have HC0 := Aside0.mk hc0
 clear hr0 hc0
 have HB := Aside0.mk (Below.refl w.heap.size w)
 have H : (spec_l2Scale.l0 k l0 a1 (([] : List Int)) 0) = some r := h
 clear h
 obtain ⟨y369, hy369⟩ : ∃ y_ : List Int, y_ = (([] : List Int)) := ⟨_, rfl⟩
 replace H : (spec_l2Scale.l0 k l0 a1 y369 0) = some r := by first | (rw [hy369]; with_reducible exact H) | (have H2_ := (Option.bind_some _ _).symm.trans H; rw [hy369]; with_reducible exact H2_) | (have H2_ := (Option.bind_some _ _).symm.trans H; with_reducible exact H2_) | with_reducible exact H | (rw [hy369]; exact H) | exact H
 have Ny369 := Aside0.mk hy369
 clear hy369
 have H' := Aside0.mk H
 clear H
 go_enter Try.func91, Try.ntmps91
 go_wp2_with (first | ((with_reducible refine gate_dst (N := 7) rfl ?_); refine Kd.R_lit (Kd.int .i64) _ 3 ?hg (N := 7) ?hd (xs := ([] : List Int)) (inner := []) (ok := fun _ => True) (okp := fun _ => True) ?hr ?hp (fun _ hk => hk) trivial (Below.refl _ _) (Nat.le_refl _) (by simp) ?_; (case hd => rfl); (case hg => rfl); (case hr => first | (go_simp; done) | (go_simp; rfl)); (case hp => exact (Reps.none _ _)); intro v370 w3 ho4 hb hg_ hnew_; clear hg_ hnew_; (first | rw [← Ny369.out] at ho4 | (simp only [Int.reduceToNat] at ho4; rw [← Ny369.out] at ho4)); have HO371 := Aside0.mk (Kd.R_lower ho4 (below_size z10_0)); replace HB := Aside0.mk (below_step z10_0 hb); clear hb ho4))
 go_loopg [5, 6] k (fun kq v5 v6 w' => ∃ (x5_1 : List Int) (x6_1 : Int), v6 = .int .i64 x6_1 ∧ Aside0 (spec_l2Scale.l0 kq l0 a1 x5_1 x6_1 = some r) ∧ Aside0 (kq ≤ k) ∧ Aside0 (Kd.R (Kd.int .i64) 3 w' w.heap.size (fun _ => True) v5 x5_1) ∧ Aside0 (Below w.heap.size w w'))
 case atStart => exact ⟨(y369), (0), z10_8, H', ⟨Nat.le_refl _⟩, ⟨by (with_reducible repeat (first | apply Kd.R_alloc | apply Kd.R_drewN | apply Kd.R_drew)); exact HO371.out⟩, ⟨z10_0⟩⟩
 case round =>
  clear H'
  obtain ⟨x5_1, x6_1, rfl, HA, HK1, HO_5, HB⟩ := hrel
  cases gk with
  | zero => exact absurd HA.out (by simp [spec_l2Scale.l0])
  | succ k1 =>
   have H := HA.out
   clear HA
   simp only [spec_l2Scale.l0] at H
   by_cases c5 : x6_1 < (l0.length : Int)
   ·rw [if_pos c5] at H
    have c5b0 : decide (x6_1 < (l0.length : Int)) = true := decide_eq_true c5
    clear c5
    obtain ⟨c6, H⟩ := ifP H
    have c6b0 : decide (0 ≤ x6_1) = true := decide_eq_true c6
    clear c6
    obtain ⟨c7, H⟩ := ifP H
    have LMc7 := Aside0.mk c7
    clear c7
    obtain ⟨y373, hy373⟩ : ∃ y_ : List Int, y_ = (x5_1 ++ [Int.tmod (wrap64 ((rd l0 x6_1) * a1)) 31]) := ⟨_, rfl⟩
    replace H : (spec_l2Scale.l0 k1 l0 a1 y373 (wrap64 (x6_1 + 1))) = some r := by first | (rw [hy373]; with_reducible exact H) | (have H2_ := (Option.bind_some _ _).symm.trans H; rw [hy373]; with_reducible exact H2_) | (have H2_ := (Option.bind_some _ _).symm.trans H; with_reducible exact H2_) | with_reducible exact H | (rw [hy373]; exact H) | exact H
    have Ny373 := Aside0.mk hy373
    clear hy373
    have H' := Aside0.mk H
    clear H
    have p372 : 0 ≤ (x6_1 : Int) := of_decide_eq_true z10_6
    have q372 : x6_1 < (l0.length : Int) := of_decide_eq_true z10_6
    obtain ⟨ad372, e372, hx372_0⟩ := Kd.at_int HR0.out x6_1 p372 q372
    cases e372
    replace hx372_0 := (HB.out.cell (World.block_lt_of_cell? w _ hx372_0)).trans hx372_0
    replace p372 := eq_true p372
    replace q372 := eq_true q372
    go_wp2_with (first | ((with_reducible refine gate_builtin (b := .append) (xs := #[.tmp 14, .tmp 22]) rfl ?_); at_builtin; refine Kd.R_append (Kd.int .i64) (w0 := w) w.heap.size rfl (.tmp 14) (.tmp 22) 28 3 (.int .i64 0) 8 rfl Try.underlying28 info3 rfl (by decide) (by omega) u5 x5_1 (Int.tmod (wrap64 ((rd l0 x6_1) * a1)) 31) [.int .i64 (Int.tmod (wrap64 ((rd l0 x6_1) * a1)) 31)] (fun _ => True) (fun _ => False) rfl rfl ?aP (fun _ hk => hk.elim) ?aF ?aO ?aB ?aS ?aL ?_; (case aP => exact rfl); (case aB => exact z10_0); (case aF => exact (fun _ _ => trivial)); (case aO => exact (by (with_reducible repeat (first | apply Kd.R_alloc | apply Kd.R_drewN | apply Kd.R_drew)); exact HO_5.out)); (case aS => exact (below_size z10_0)); (case aL => have := LMc7.out; omega); intro v374 w8 ho hb hg hat; rw [← Ny373.out] at ho; have n0_ := Aside0.mk (hb); have n1_ := Aside0.mk (ho); clear HB; clear HO_5; have HB := n0_; have HO375 := n1_; clear n0_ n1_; clear ho hb hg hat))
    go_roundg k1
    case measure => have := HK1.out; omega
    case rel => exact ⟨(y373), (wrap64 (x6_1 + 1)), z10_8, H', ⟨by have := HK1.out; omega⟩, ⟨by (with_reducible repeat (first | apply Kd.R_alloc | apply Kd.R_drewN | apply Kd.R_drew)); exact HO375.out⟩, ⟨z10_0⟩⟩
   ·rw [if_neg c5] at H
    have c5b0 : decide (x6_1 < (l0.length : Int)) = false := decide_eq_false c5
    clear c5
    obtain rfl := Option.some.inj H
    go_wp2
    go_ret
    exact ⟨_, z10_10, by (with_reducible repeat (first | apply Kd.R_alloc | apply Kd.R_drewN | apply Kd.R_drew)); exact HO_5.out, z10_0⟩

end Go.Proofs.Ytamaejafddmagaa.PA
