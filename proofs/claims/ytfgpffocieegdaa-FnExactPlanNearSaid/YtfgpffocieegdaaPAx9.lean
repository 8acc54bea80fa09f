import Derived.Test.YtfgpffocieegdaaPAx0
import Derived.Test.YtfgpffocieegdaaGw
import Derived.Test.YtfgpffocieegdaaGm
import Derived.Test.YtfgpffocieegdaaGc
namespace Go.Proofs.Ytfgpffocieegdaa.PA
open Go.RowKit Go.Proofs.YtfgpffocieegdaaW.PrintWords Go.Proofs.YtfgpffocieegdaaW.PrintLast Go.Proofs.YtfgpffocieegdaaW.PrintMore
attribute [local go_sem] max2_int min2_int max_two min_two max_three min_three max_four min_four   -- for this text's walks alone
set_option linter.unusedVariables false
set_option linter.unusedSimpArgs false

/-! ### spec_l4Row: function 58 -/
theorem z9_0 {p : Prop} (h : p := by repeat (first | (with_reducible first | exact HB.out | apply below_alloc | apply pw_below_drewN | apply below_drew1) | exact HB.out)) : p := h
theorem z9_1 {p : Prop} (h : p := by (with_reducible repeat (first | apply Kd.R_alloc | apply Kd.R_drewN | apply Kd.R_drew)); exact HO269.out) : p := h
theorem z9_2 {p : Prop} (h : p := by (with_reducible repeat (first | apply Kd.R_alloc | apply Kd.R_drewN | apply Kd.R_drew)); exact HO272.out) : p := h
theorem z9_3 {p : Prop} (h : p := by (with_reducible repeat (first | apply Kd.R_alloc | apply Kd.R_drewN | apply Kd.R_drew)); exact HO275.out) : p := h
theorem z9_4 {p : Prop} (h : p := by (with_reducible repeat (first | apply Kd.R_alloc | apply Kd.R_drewN | apply Kd.R_drew)); exact HO278.out) : p := h
theorem z9_5 {p : Prop} (h : p := by (with_reducible repeat (first | apply Kd.R_alloc | apply Kd.R_drewN | apply Kd.R_drew)); exact HO281.out) : p := h
theorem z9_6 {p : Prop} (h : p := by first | (with_reducible assumption) | assumption) : p := h
theorem z9_7 {p : Prop} (h : p := by (with_reducible repeat (first | apply Kd.R_alloc | apply Kd.R_drewN | apply Kd.R_drew)); exact HO284.out) : p := h
theorem z9_8 {p : Prop} (h : p := by first | rfl | (simp; done) | (simp [*]; done)) : p := h
theorem z9_9 {p : Prop} (h : p := by first | rfl | (simp [errW_none, errW_some] <;> rfl) | (simp [*, errW_none, errW_some] <;> rfl)) : p := h
theorem z9_10 {p : Prop} (h : p := by repeat (first | exact Drawn0.refl _ | apply Drawn0.step)) : p := h
def spec_l4Row.f (a0 : Int) (a1 : Int) : Option (List Int) := if a0 = 1 then ((some (([(([1, 0, 0, 0] : List Int)), (([0, 1, 0, 0] : List Int)), (([0, 0, 1, 0] : List Int)), (([0, 0, 0, 1] : List Int)), (([1, 1, 0, 0] : List Int)), (([0, 0, 1, 1] : List Int)), (([1, 2, 4, 8] : List Int)), (([1, 3, 9, 27] : List Int))] : List (List Int)) : List (List Int))).bind fun y291 => (if 0 ≤ a1 then (if a1 < (y291.length : Int) then (some (rd_L4 y291 a1)) else (none)) else (none))) else (some (([1, wrap64 (a1 + 1), Int.tmod (wrap64 ((wrap64 (a1 + 1)) * (wrap64 (a1 + 1)))) 31, Int.tmod (wrap64 ((wrap64 ((wrap64 (a1 + 1)) * (wrap64 (a1 + 1)))) * (wrap64 (a1 + 1)))) 31] : List Int)))
set_option maxHeartbeats 8000000 in
set_option maxRecDepth 100000 in
theorem spec_l4Row.calls (a0 : Int) (a1 : Int) (r : List Int) (w : World) (h : spec_l4Row.f a0 a1 = some r) :
  Calls Try.prog 58 #[.int .i64 a0, .int .i64 a1] w fun e w' => ∃ v0_ : Value, e = .returned (v0_) ∧ Kd.V (Kd.int .i64) 3 w' w.heap.size (fun k_ => (w.heap.size ≤ k_)) v0_ r ∧ Below w.heap.size w w' := by
 have HB := Aside0.mk (Below.refl w.heap.size w)
 try unfold spec_l4Row.f at h
 have H := h
 clear h
 by_cases c3 : a0 = 1
 ·rw [if_pos c3] at H
  have c3b0 : (a0 == 1) = true := beq_iff_eq.mpr c3
  have c3b1 : (a0 != 1) = false := bne_eq_false_iff_eq.mpr c3
  clear c3
  obtain ⟨y267, hy267⟩ : ∃ y_ : List Int, y_ = (([1, 0, 0, 0] : List Int)) := ⟨_, rfl⟩
  replace H : ((some (([y267, (([0, 1, 0, 0] : List Int)), (([0, 0, 1, 0] : List Int)), (([0, 0, 0, 1] : List Int)), (([1, 1, 0, 0] : List Int)), (([0, 0, 1, 1] : List Int)), (([1, 2, 4, 8] : List Int)), (([1, 3, 9, 27] : List Int))] : List (List Int)) : List (List Int))).bind fun y291 => (if 0 ≤ a1 then (if a1 < (y291.length : Int) then (some (rd_L4 y291 a1)) else (none)) else (none))) = some r := yZZ_ hy267 H
  have Ny267 := Aside0.mk hy267
  clear hy267
  obtain ⟨y270, hy270⟩ : ∃ y_ : List Int, y_ = (([0, 1, 0, 0] : List Int)) := ⟨_, rfl⟩
  replace H : ((some (([y267, y270, (([0, 0, 1, 0] : List Int)), (([0, 0, 0, 1] : List Int)), (([1, 1, 0, 0] : List Int)), (([0, 0, 1, 1] : List Int)), (([1, 2, 4, 8] : List Int)), (([1, 3, 9, 27] : List Int))] : List (List Int)) : List (List Int))).bind fun y291 => (if 0 ≤ a1 then (if a1 < (y291.length : Int) then (some (rd_L4 y291 a1)) else (none)) else (none))) = some r := yZZ_ hy270 H
  have Ny270 := Aside0.mk hy270
  clear hy270
  obtain ⟨y273, hy273⟩ : ∃ y_ : List Int, y_ = (([0, 0, 1, 0] : List Int)) := ⟨_, rfl⟩
  replace H : ((some (([y267, y270, y273, (([0, 0, 0, 1] : List Int)), (([1, 1, 0, 0] : List Int)), (([0, 0, 1, 1] : List Int)), (([1, 2, 4, 8] : List Int)), (([1, 3, 9, 27] : List Int))] : List (List Int)) : List (List Int))).bind fun y291 => (if 0 ≤ a1 then (if a1 < (y291.length : Int) then (some (rd_L4 y291 a1)) else (none)) else (none))) = some r := yZZ_ hy273 H
  have Ny273 := Aside0.mk hy273
  clear hy273
  obtain ⟨y276, hy276⟩ : ∃ y_ : List Int, y_ = (([0, 0, 0, 1] : List Int)) := ⟨_, rfl⟩
  replace H : ((some (([y267, y270, y273, y276, (([1, 1, 0, 0] : List Int)), (([0, 0, 1, 1] : List Int)), (([1, 2, 4, 8] : List Int)), (([1, 3, 9, 27] : List Int))] : List (List Int)) : List (List Int))).bind fun y291 => (if 0 ≤ a1 then (if a1 < (y291.length : Int) then (some (rd_L4 y291 a1)) else (none)) else (none))) = some r := yZZ_ hy276 H
  have Ny276 := Aside0.mk hy276
  clear hy276
  obtain ⟨y279, hy279⟩ : ∃ y_ : List Int, y_ = (([1, 1, 0, 0] : List Int)) := ⟨_, rfl⟩
  replace H : ((some (([y267, y270, y273, y276, y279, (([0, 0, 1, 1] : List Int)), (([1, 2, 4, 8] : List Int)), (([1, 3, 9, 27] : List Int))] : List (List Int)) : List (List Int))).bind fun y291 => (if 0 ≤ a1 then (if a1 < (y291.length : Int) then (some (rd_L4 y291 a1)) else (none)) else (none))) = some r := yZZ_ hy279 H
  have Ny279 := Aside0.mk hy279
  clear hy279
  obtain ⟨y282, hy282⟩ : ∃ y_ : List Int, y_ = (([0, 0, 1, 1] : List Int)) := ⟨_, rfl⟩
  replace H : ((some (([y267, y270, y273, y276, y279, y282, (([1, 2, 4, 8] : List Int)), (([1, 3, 9, 27] : List Int))] : List (List Int)) : List (List Int))).bind fun y291 => (if 0 ≤ a1 then (if a1 < (y291.length : Int) then (some (rd_L4 y291 a1)) else (none)) else (none))) = some r := yZZ_ hy282 H
  have Ny282 := Aside0.mk hy282
  clear hy282
  obtain ⟨y285, hy285⟩ : ∃ y_ : List Int, y_ = (([1, 2, 4, 8] : List Int)) := ⟨_, rfl⟩
  replace H : ((some (([y267, y270, y273, y276, y279, y282, y285, (([1, 3, 9, 27] : List Int))] : List (List Int)) : List (List Int))).bind fun y291 => (if 0 ≤ a1 then (if a1 < (y291.length : Int) then (some (rd_L4 y291 a1)) else (none)) else (none))) = some r := yZZ_ hy285 H
  have Ny285 := Aside0.mk hy285
  clear hy285
  obtain ⟨y288, hy288⟩ : ∃ y_ : List Int, y_ = (([1, 3, 9, 27] : List Int)) := ⟨_, rfl⟩
  replace H : ((some (([y267, y270, y273, y276, y279, y282, y285, y288] : List (List Int)) : List (List Int))).bind fun y291 => (if 0 ≤ a1 then (if a1 < (y291.length : Int) then (some (rd_L4 y291 a1)) else (none)) else (none))) = some r := yZZ_ hy288 H
  have Ny288 := Aside0.mk hy288
  clear hy288
  obtain ⟨y291, hy291⟩ : ∃ y_ : List (List Int), y_ = (([y267, y270, y273, y276, y279, y282, y285, y288] : List (List Int))) := ⟨_, rfl⟩
  replace H : (if 0 ≤ a1 then (if a1 < (y291.length : Int) then (some (rd_L4 y291 a1)) else (none)) else (none)) = some r := yZZ_ hy291 H
  have Ny291 := Aside0.mk hy291
  clear hy291; obtain ⟨c4, H⟩ := ifP H; have c4b0 : decide (0 ≤ a1) = true := decide_eq_true c4; clear c4; obtain ⟨c5, H⟩ := ifP H; have c5b0 : decide (a1 < (y291.length : Int)) = true := decide_eq_true c5; clear c5
  obtain rfl := Option.some.inj H
  go_enter Try.func58, Try.ntmps58
  go_wp2_with (first | ((with_reducible refine gate_dst (N := 8) rfl ?_); refine Kd.R_lit (Kd.int .i64) _ 3 ?hg (N := 8) ?hd (xs := ([1, 0, 0, 0] : List Int)) (inner := [.int .i64 1, .int .i64 0, .int .i64 0, .int .i64 0]) (ok := fun _ => True) (okp := fun _ => True) ?hr ?hp (fun _ hk => hk) trivial (Below.refl _ _) (Nat.le_refl _) (by simp) ?_; (case hd => rfl); (case hg => rfl); (case hr => first | (go_simp; done) | (go_simp; rfl)); (case hp => exact (Reps.one (show Kd.M (Kd.int .i64) _ _ _ 1 [.int .i64 1] from rfl) (Reps.one (show Kd.M (Kd.int .i64) _ _ _ 0 [.int .i64 0] from rfl) (Reps.one (show Kd.M (Kd.int .i64) _ _ _ 0 [.int .i64 0] from rfl) (Reps.one (show Kd.M (Kd.int .i64) _ _ _ 0 [.int .i64 0] from rfl) (Reps.none _ _)))))); intro v268 w6 ho7 hb hg_ hnew_; clear hg_ hnew_; (first | rw [← Ny267.out] at ho7 | (simp only [Int.reduceToNat] at ho7; rw [← Ny267.out] at ho7)); have HO269 := Aside0.mk (Kd.R_lower (Kd.R_newM (M := fun k_ => (w.heap.size ≤ k_)) ho7 (below_size z9_0) (fun k_ h_ => h_)) (below_size z9_0)); replace HB := Aside0.mk (below_step z9_0 hb); clear hb ho7) | ((with_reducible refine gate_dst (N := 9) rfl ?_); refine Kd.R_lit (Kd.int .i64) _ 3 ?hg (N := 9) ?hd (xs := ([0, 1, 0, 0] : List Int)) (inner := [.int .i64 0, .int .i64 1, .int .i64 0, .int .i64 0]) (ok := fun _ => True) (okp := fun _ => True) ?hr ?hp (fun _ hk => hk) trivial (Below.refl _ _) (Nat.le_refl _) (by simp) ?_; (case hd => rfl); (case hg => rfl); (case hr => first | (go_simp; done) | (go_simp; rfl)); (case hp => exact (Reps.one (show Kd.M (Kd.int .i64) _ _ _ 0 [.int .i64 0] from rfl) (Reps.one (show Kd.M (Kd.int .i64) _ _ _ 1 [.int .i64 1] from rfl) (Reps.one (show Kd.M (Kd.int .i64) _ _ _ 0 [.int .i64 0] from rfl) (Reps.one (show Kd.M (Kd.int .i64) _ _ _ 0 [.int .i64 0] from rfl) (Reps.none _ _)))))); intro v271 w8 ho9 hb hg_ hnew_; clear hg_ hnew_; (first | rw [← Ny270.out] at ho9 | (simp only [Int.reduceToNat] at ho9; rw [← Ny270.out] at ho9)); have HO272 := Aside0.mk (Kd.R_lower (Kd.R_new' (Kd.R_newM (M := fun k_ => (w.heap.size ≤ k_)) ho9 (below_size z9_0) (fun k_ h_ => h_)) (Kd.R_lt z9_1)) (below_size z9_0)); replace HO269 := Aside0.mk (Kd.R_elder' z9_1 (Kd.R_base ho9) hb); replace HB := Aside0.mk (below_step z9_0 hb); clear hb ho9) | ((with_reducible refine gate_dst (N := 10) rfl ?_); refine Kd.R_lit (Kd.int .i64) _ 3 ?hg (N := 10) ?hd (xs := ([0, 0, 1, 0] : List Int)) (inner := [.int .i64 0, .int .i64 0, .int .i64 1, .int .i64 0]) (ok := fun _ => True) (okp := fun _ => True) ?hr ?hp (fun _ hk => hk) trivial (Below.refl _ _) (Nat.le_refl _) (by simp) ?_; (case hd => rfl); (case hg => rfl); (case hr => first | (go_simp; done) | (go_simp; rfl)); (case hp => exact (Reps.one (show Kd.M (Kd.int .i64) _ _ _ 0 [.int .i64 0] from rfl) (Reps.one (show Kd.M (Kd.int .i64) _ _ _ 0 [.int .i64 0] from rfl) (Reps.one (show Kd.M (Kd.int .i64) _ _ _ 1 [.int .i64 1] from rfl) (Reps.one (show Kd.M (Kd.int .i64) _ _ _ 0 [.int .i64 0] from rfl) (Reps.none _ _)))))); intro v274 w10 ho11 hb hg_ hnew_; clear hg_ hnew_; (first | rw [← Ny273.out] at ho11 | (simp only [Int.reduceToNat] at ho11; rw [← Ny273.out] at ho11)); have HO275 := Aside0.mk (Kd.R_lower (Kd.R_new' (Kd.R_new' (Kd.R_newM (M := fun k_ => (w.heap.size ≤ k_)) ho11 (below_size z9_0) (fun k_ h_ => h_)) (Kd.R_lt z9_1)) (Kd.R_lt z9_2)) (below_size z9_0)); replace HO269 := Aside0.mk (Kd.R_elder' z9_1 (Kd.R_base ho11) hb); replace HO272 := Aside0.mk (Kd.R_elder' z9_2 (Kd.R_base ho11) hb); replace HB := Aside0.mk (below_step z9_0 hb); clear hb ho11) | ((with_reducible refine gate_dst (N := 11) rfl ?_); refine Kd.R_lit (Kd.int .i64) _ 3 ?hg (N := 11) ?hd (xs := ([0, 0, 0, 1] : List Int)) (inner := [.int .i64 0, .int .i64 0, .int .i64 0, .int .i64 1]) (ok := fun _ => True) (okp := fun _ => True) ?hr ?hp (fun _ hk => hk) trivial (Below.refl _ _) (Nat.le_refl _) (by simp) ?_; (case hd => rfl); (case hg => rfl); (case hr => first | (go_simp; done) | (go_simp; rfl)); (case hp => exact (Reps.one (show Kd.M (Kd.int .i64) _ _ _ 0 [.int .i64 0] from rfl) (Reps.one (show Kd.M (Kd.int .i64) _ _ _ 0 [.int .i64 0] from rfl) (Reps.one (show Kd.M (Kd.int .i64) _ _ _ 0 [.int .i64 0] from rfl) (Reps.one (show Kd.M (Kd.int .i64) _ _ _ 1 [.int .i64 1] from rfl) (Reps.none _ _)))))); intro v277 w12 ho13 hb hg_ hnew_; clear hg_ hnew_; (first | rw [← Ny276.out] at ho13 | (simp only [Int.reduceToNat] at ho13; rw [← Ny276.out] at ho13)); have HO278 := Aside0.mk (Kd.R_lower (Kd.R_new' (Kd.R_new' (Kd.R_new' (Kd.R_newM (M := fun k_ => (w.heap.size ≤ k_)) ho13 (below_size z9_0) (fun k_ h_ => h_)) (Kd.R_lt z9_1)) (Kd.R_lt z9_2)) (Kd.R_lt z9_3)) (below_size z9_0)); replace HO269 := Aside0.mk (Kd.R_elder' z9_1 (Kd.R_base ho13) hb); replace HO272 := Aside0.mk (Kd.R_elder' z9_2 (Kd.R_base ho13) hb); replace HO275 := Aside0.mk (Kd.R_elder' z9_3 (Kd.R_base ho13) hb); replace HB := Aside0.mk (below_step z9_0 hb); clear hb ho13) | ((with_reducible refine gate_dst (N := 12) rfl ?_); refine Kd.R_lit (Kd.int .i64) _ 3 ?hg (N := 12) ?hd (xs := ([1, 1, 0, 0] : List Int)) (inner := [.int .i64 1, .int .i64 1, .int .i64 0, .int .i64 0]) (ok := fun _ => True) (okp := fun _ => True) ?hr ?hp (fun _ hk => hk) trivial (Below.refl _ _) (Nat.le_refl _) (by simp) ?_; (case hd => rfl); (case hg => rfl); (case hr => first | (go_simp; done) | (go_simp; rfl)); (case hp => exact (Reps.one (show Kd.M (Kd.int .i64) _ _ _ 1 [.int .i64 1] from rfl) (Reps.one (show Kd.M (Kd.int .i64) _ _ _ 1 [.int .i64 1] from rfl) (Reps.one (show Kd.M (Kd.int .i64) _ _ _ 0 [.int .i64 0] from rfl) (Reps.one (show Kd.M (Kd.int .i64) _ _ _ 0 [.int .i64 0] from rfl) (Reps.none _ _)))))); intro v280 w14 ho15 hb hg_ hnew_; clear hg_ hnew_; (first | rw [← Ny279.out] at ho15 | (simp only [Int.reduceToNat] at ho15; rw [← Ny279.out] at ho15)); have HO281 := Aside0.mk (Kd.R_lower (Kd.R_new' (Kd.R_new' (Kd.R_new' (Kd.R_new' (Kd.R_newM (M := fun k_ => (w.heap.size ≤ k_)) ho15 (below_size z9_0) (fun k_ h_ => h_)) (Kd.R_lt z9_1)) (Kd.R_lt z9_2)) (Kd.R_lt z9_3)) (Kd.R_lt z9_4)) (below_size z9_0)); replace HO269 := Aside0.mk (Kd.R_elder' z9_1 (Kd.R_base ho15) hb); replace HO272 := Aside0.mk (Kd.R_elder' z9_2 (Kd.R_base ho15) hb); replace HO275 := Aside0.mk (Kd.R_elder' z9_3 (Kd.R_base ho15) hb); replace HO278 := Aside0.mk (Kd.R_elder' z9_4 (Kd.R_base ho15) hb); replace HB := Aside0.mk (below_step z9_0 hb); clear hb ho15) | ((with_reducible refine gate_dst (N := 13) rfl ?_); refine Kd.R_lit (Kd.int .i64) _ 3 ?hg (N := 13) ?hd (xs := ([0, 0, 1, 1] : List Int)) (inner := [.int .i64 0, .int .i64 0, .int .i64 1, .int .i64 1]) (ok := fun _ => True) (okp := fun _ => True) ?hr ?hp (fun _ hk => hk) trivial (Below.refl _ _) (Nat.le_refl _) (by simp) ?_; (case hd => rfl); (case hg => rfl); (case hr => first | (go_simp; done) | (go_simp; rfl)); (case hp => exact (Reps.one (show Kd.M (Kd.int .i64) _ _ _ 0 [.int .i64 0] from rfl) (Reps.one (show Kd.M (Kd.int .i64) _ _ _ 0 [.int .i64 0] from rfl) (Reps.one (show Kd.M (Kd.int .i64) _ _ _ 1 [.int .i64 1] from rfl) (Reps.one (show Kd.M (Kd.int .i64) _ _ _ 1 [.int .i64 1] from rfl) (Reps.none _ _)))))); intro v283 w16 ho17 hb hg_ hnew_; clear hg_ hnew_; (first | rw [← Ny282.out] at ho17 | (simp only [Int.reduceToNat] at ho17; rw [← Ny282.out] at ho17)); have HO284 := Aside0.mk (Kd.R_lower (Kd.R_new' (Kd.R_new' (Kd.R_new' (Kd.R_new' (Kd.R_new' (Kd.R_newM (M := fun k_ => (w.heap.size ≤ k_)) ho17 (below_size z9_0) (fun k_ h_ => h_)) (Kd.R_lt z9_1)) (Kd.R_lt z9_2)) (Kd.R_lt z9_3)) (Kd.R_lt z9_4)) (Kd.R_lt z9_5)) (below_size z9_0)); replace HO269 := Aside0.mk (Kd.R_elder' z9_1 (Kd.R_base ho17) hb); replace HO272 := Aside0.mk (Kd.R_elder' z9_2 (Kd.R_base ho17) hb); replace HO275 := Aside0.mk (Kd.R_elder' z9_3 (Kd.R_base ho17) hb); replace HO278 := Aside0.mk (Kd.R_elder' z9_4 (Kd.R_base ho17) hb); replace HO281 := Aside0.mk (Kd.R_elder' z9_5 (Kd.R_base ho17) hb); replace HB := Aside0.mk (below_step z9_0 hb); clear hb ho17) | ((with_reducible refine gate_dst (N := 14) rfl ?_); refine Kd.R_lit (Kd.int .i64) _ 3 ?hg (N := 14) ?hd (xs := ([1, 2, 4, 8] : List Int)) (inner := [.int .i64 1, .int .i64 2, .int .i64 4, .int .i64 8]) (ok := fun _ => True) (okp := fun _ => True) ?hr ?hp (fun _ hk => hk) trivial (Below.refl _ _) (Nat.le_refl _) (by simp) ?_; (case hd => rfl); (case hg => rfl); (case hr => first | (go_simp; done) | (go_simp; rfl)); (case hp => exact (Reps.one (show Kd.M (Kd.int .i64) _ _ _ 1 [.int .i64 1] from rfl) (Reps.one (show Kd.M (Kd.int .i64) _ _ _ 2 [.int .i64 2] from rfl) (Reps.one (show Kd.M (Kd.int .i64) _ _ _ 4 [.int .i64 4] from rfl) (Reps.one (show Kd.M (Kd.int .i64) _ _ _ 8 [.int .i64 8] from rfl) (Reps.none _ _)))))); intro v286 w18 ho19 hb hg_ hnew_; clear hg_ hnew_; (first | rw [← Ny285.out] at ho19 | (simp only [Int.reduceToNat] at ho19; rw [← Ny285.out] at ho19)); have HO287 := Aside0.mk (Kd.R_lower (Kd.R_new' (Kd.R_new' (Kd.R_new' (Kd.R_new' (Kd.R_new' (Kd.R_new' (Kd.R_newM (M := fun k_ => (w.heap.size ≤ k_)) ho19 (below_size z9_0) (fun k_ h_ => h_)) (Kd.R_lt z9_1)) (Kd.R_lt z9_2)) (Kd.R_lt z9_3)) (Kd.R_lt z9_4)) (Kd.R_lt z9_5)) (Kd.R_lt z9_7)) (below_size z9_0)); replace HO269 := Aside0.mk (Kd.R_elder' z9_1 (Kd.R_base ho19) hb); replace HO272 := Aside0.mk (Kd.R_elder' z9_2 (Kd.R_base ho19) hb); replace HO275 := Aside0.mk (Kd.R_elder' z9_3 (Kd.R_base ho19) hb); replace HO278 := Aside0.mk (Kd.R_elder' z9_4 (Kd.R_base ho19) hb); replace HO281 := Aside0.mk (Kd.R_elder' z9_5 (Kd.R_base ho19) hb); replace HO284 := Aside0.mk (Kd.R_elder' z9_7 (Kd.R_base ho19) hb); replace HB := Aside0.mk (below_step z9_0 hb); clear hb ho19) | ((with_reducible refine gate_dst (N := 15) rfl ?_); refine Kd.R_lit (Kd.int .i64) _ 3 ?hg (N := 15) ?hd (xs := ([1, 3, 9, 27] : List Int)) (inner := [.int .i64 1, .int .i64 3, .int .i64 9, .int .i64 27]) (ok := fun _ => True) (okp := fun _ => True) ?hr ?hp (fun _ hk => hk) trivial (Below.refl _ _) (Nat.le_refl _) (by simp) ?_; (case hd => rfl); (case hg => rfl); (case hr => first | (go_simp; done) | (go_simp; rfl)); (case hp => exact (Reps.one (show Kd.M (Kd.int .i64) _ _ _ 1 [.int .i64 1] from rfl) (Reps.one (show Kd.M (Kd.int .i64) _ _ _ 3 [.int .i64 3] from rfl) (Reps.one (show Kd.M (Kd.int .i64) _ _ _ 9 [.int .i64 9] from rfl) (Reps.one (show Kd.M (Kd.int .i64) _ _ _ 27 [.int .i64 27] from rfl) (Reps.none _ _)))))); intro v289 w20 ho21 hb hg_ hnew_; clear hg_ hnew_; (first | rw [← Ny288.out] at ho21 | (simp only [Int.reduceToNat] at ho21; rw [← Ny288.out] at ho21)); have HO290 := Aside0.mk (Kd.R_lower (Kd.R_new' (Kd.R_new' (Kd.R_new' (Kd.R_new' (Kd.R_new' (Kd.R_new' (Kd.R_new' (Kd.R_newM (M := fun k_ => (w.heap.size ≤ k_)) ho21 (below_size z9_0) (fun k_ h_ => h_)) (Kd.R_lt z9_1)) (Kd.R_lt z9_2)) (Kd.R_lt z9_3)) (Kd.R_lt z9_4)) (Kd.R_lt z9_5)) (Kd.R_lt z9_7)) (Kd.R_lt (by (with_reducible repeat (first | apply Kd.R_alloc | apply Kd.R_drewN | apply Kd.R_drew)); exact HO287.out))) (below_size z9_0)); replace HO269 := Aside0.mk (Kd.R_elder' z9_1 (Kd.R_base ho21) hb); replace HO272 := Aside0.mk (Kd.R_elder' z9_2 (Kd.R_base ho21) hb); replace HO275 := Aside0.mk (Kd.R_elder' z9_3 (Kd.R_base ho21) hb); replace HO278 := Aside0.mk (Kd.R_elder' z9_4 (Kd.R_base ho21) hb); replace HO281 := Aside0.mk (Kd.R_elder' z9_5 (Kd.R_base ho21) hb); replace HO284 := Aside0.mk (Kd.R_elder' z9_7 (Kd.R_base ho21) hb); replace HO287 := Aside0.mk (Kd.R_elder' (by (with_reducible repeat (first | apply Kd.R_alloc | apply Kd.R_drewN | apply Kd.R_drew)); exact HO287.out) (Kd.R_base ho21) hb); replace HB := Aside0.mk (below_step z9_0 hb); clear hb ho21; obtain ⟨Ao22, co22, eo22⟩ := Kd.R_slice HO269.out; subst eo22; obtain ⟨Ao23, co23, eo23⟩ := Kd.R_slice HO272.out; subst eo23; obtain ⟨Ao24, co24, eo24⟩ := Kd.R_slice HO275.out; subst eo24; obtain ⟨Ao25, co25, eo25⟩ := Kd.R_slice HO278.out; subst eo25; obtain ⟨Ao26, co26, eo26⟩ := Kd.R_slice HO281.out; subst eo26; obtain ⟨Ao27, co27, eo27⟩ := Kd.R_slice HO284.out; subst eo27; obtain ⟨Ao28, co28, eo28⟩ := Kd.R_slice HO287.out; subst eo28; obtain ⟨Ao29, co29, eo29⟩ := Kd.R_slice HO290.out; subst eo29) | ((with_reducible refine gate_dst (N := 16) rfl ?_); refine Kd.N_lit (Kd.slice 3 (Kd.int .i64)) _ 28 ?hg (N' := 16) ?hd (xs := ([y267, y270, y273, y276, y279, y282, y285, y288] : List (List Int))) (inner := [.slice Ao22 y267.length co22, .slice Ao23 y270.length co23, .slice Ao24 y273.length co24, .slice Ao25 y276.length co25, .slice Ao26 y279.length co26, .slice Ao27 y282.length co27, .slice Ao28 y285.length co28, .slice Ao29 y288.length co29]) (ok := (fun k_ => (w.heap.size ≤ k_))) (okp := (fun k_ => (w.heap.size ≤ k_))) ?hr ?hp (fun _ hk => hk) ((show ∀ k_, w20.heap.size ≤ k_ → (fun k_ => (w.heap.size ≤ k_)) k_ from fun k_ hk => (Nat.le_trans (below_size z9_0) hk)) _ (Nat.le_refl _)) (Below.refl _ _) (Nat.le_refl _) (by simp) ?_; (case hd => rfl); (case hg => rfl); (case hr => first | (go_simp; done) | (go_simp; rfl)); (case hp => exact (Reps.one (show Kd.FK (Kd.slice 3 (Kd.int .i64)) _ _ y267 [.slice Ao22 y267.length co22] from (Kd.FK_slice_mk (Kd.R_reads' (Kd.R_mono (ok' := (fun k_ => (w.heap.size ≤ k_))) (HO269.out) (fun k_ hk => hk.1.1.1.1.1.1.1.1))).2.1 (Kd.R_F (Kd.R_mono (ok' := (fun k_ => (w.heap.size ≤ k_))) (HO269.out) (fun k_ hk => hk.1.1.1.1.1.1.1.1))))) (Reps.one (show Kd.FK (Kd.slice 3 (Kd.int .i64)) _ _ y270 [.slice Ao23 y270.length co23] from (Kd.FK_slice_mk (Kd.R_reads' (Kd.R_mono (ok' := (fun k_ => (w.heap.size ≤ k_))) (HO272.out) (fun k_ hk => hk.1.1.1.1.1.1.1.1))).2.1 (Kd.R_F (Kd.R_mono (ok' := (fun k_ => (w.heap.size ≤ k_))) (HO272.out) (fun k_ hk => hk.1.1.1.1.1.1.1.1))))) (Reps.one (show Kd.FK (Kd.slice 3 (Kd.int .i64)) _ _ y273 [.slice Ao24 y273.length co24] from (Kd.FK_slice_mk (Kd.R_reads' (Kd.R_mono (ok' := (fun k_ => (w.heap.size ≤ k_))) (HO275.out) (fun k_ hk => hk.1.1.1.1.1.1.1.1))).2.1 (Kd.R_F (Kd.R_mono (ok' := (fun k_ => (w.heap.size ≤ k_))) (HO275.out) (fun k_ hk => hk.1.1.1.1.1.1.1.1))))) (Reps.one (show Kd.FK (Kd.slice 3 (Kd.int .i64)) _ _ y276 [.slice Ao25 y276.length co25] from (Kd.FK_slice_mk (Kd.R_reads' (Kd.R_mono (ok' := (fun k_ => (w.heap.size ≤ k_))) (HO278.out) (fun k_ hk => hk.1.1.1.1.1.1.1.1))).2.1 (Kd.R_F (Kd.R_mono (ok' := (fun k_ => (w.heap.size ≤ k_))) (HO278.out) (fun k_ hk => hk.1.1.1.1.1.1.1.1))))) (Reps.one (show Kd.FK (Kd.slice 3 (Kd.int .i64)) _ _ y279 [.slice Ao26 y279.length co26] from (Kd.FK_slice_mk (Kd.R_reads' (Kd.R_mono (ok' := (fun k_ => (w.heap.size ≤ k_))) (HO281.out) (fun k_ hk => hk.1.1.1.1.1.1.1.1))).2.1 (Kd.R_F (Kd.R_mono (ok' := (fun k_ => (w.heap.size ≤ k_))) (HO281.out) (fun k_ hk => hk.1.1.1.1.1.1.1.1))))) (Reps.one (show Kd.FK (Kd.slice 3 (Kd.int .i64)) _ _ y282 [.slice Ao27 y282.length co27] from (Kd.FK_slice_mk (Kd.R_reads' (Kd.R_mono (ok' := (fun k_ => (w.heap.size ≤ k_))) (HO284.out) (fun k_ hk => hk.1.1.1.1.1.1.1.1))).2.1 (Kd.R_F (Kd.R_mono (ok' := (fun k_ => (w.heap.size ≤ k_))) (HO284.out) (fun k_ hk => hk.1.1.1.1.1.1.1.1))))) (Reps.one (show Kd.FK (Kd.slice 3 (Kd.int .i64)) _ _ y285 [.slice Ao28 y285.length co28] from (Kd.FK_slice_mk (Kd.R_reads' (Kd.R_mono (ok' := (fun k_ => (w.heap.size ≤ k_))) (HO287.out) (fun k_ hk => hk.1.1.1.1.1.1.1.1))).2.1 (Kd.R_F (Kd.R_mono (ok' := (fun k_ => (w.heap.size ≤ k_))) (HO287.out) (fun k_ hk => hk.1.1.1.1.1.1.1.1))))) (Reps.one (show Kd.FK (Kd.slice 3 (Kd.int .i64)) _ _ y288 [.slice Ao29 y288.length co29] from (Kd.FK_slice_mk (Kd.R_reads' (Kd.R_mono (ok' := (fun k_ => (w.heap.size ≤ k_))) (HO290.out) (fun k_ hk => hk.1.1.1.1.1.1.1.1))).2.1 (Kd.R_F (Kd.R_mono (ok' := (fun k_ => (w.heap.size ≤ k_))) (HO290.out) (fun k_ hk => hk.1.1.1.1.1.1.1.1))))) (Reps.none _ _)))))))))); intro v292 w30 ho31 hb hg_ hnew_; clear hg_ hnew_; (first | rw [← Ny291.out] at ho31 | (simp only [Int.reduceToNat] at ho31; rw [← Ny291.out] at ho31)); have n0_ := Aside0.mk (Kd.N_lower ho31 (below_size z9_0)); have n1_ := Aside0.mk (below_step z9_0 hb); clear HB; clear HO269; clear HO272; clear HO275; clear HO278; clear HO281; clear HO284; clear HO287; clear HO290; have HO293 := n0_; have HB := n1_; clear n0_ n1_; clear hb ho31; obtain ⟨Ao32, co32, eo32⟩ := Kd.N_slice HO293.out; subst eo32; have p294 : 0 ≤ (a1 : Int) := of_decide_eq_true z9_6; have q294 : a1 < (y291.length : Int) := of_decide_eq_true z9_6; obtain ⟨ad294, A294_0, c294_0, e294, hx294_0, hl294_0, hi294_0⟩ := at_L4 (Kd.N_reads' HO293.out).2.2 a1 p294 q294; cases e294; obtain ⟨ce294, hce294, hMe294, hcc294⟩ := Kd.N_get HO293.out [] a1 p294 (by first | exact q294 | exact of_decide_eq_true z9_6 | (have e_ := (Kd.N_reads' HO293.out).1; omega)); obtain ⟨ua294_0, uc294_0, rfl, ul294_0, ge294_0⟩ := Kd.FK_slice_open hMe294; have hv294_0 := hcc294 0 _ rfl; rw [Nat.add_zero, show ((Kd.slice 3 (Kd.int .i64))).sz = 1 from rfl, Nat.mul_one] at hv294_0; replace hv294_0 := Option.some.inj (hv294_0.symm.trans hx294_0); injection hv294_0 with hva_ hvn_ hvc_; rw [hva_] at ge294_0; rw [hvc_] at ul294_0; have HL294_0 := Aside0.mk (show Kd.V (Kd.int .i64) 3 _ w.heap.size _ _ (rd_L4 y291 a1) from Kd.V_mk ul294_0 ge294_0); clear hva_ hvn_ hvc_ ge294_0 ul294_0; clear hcc294 hce294; have HR294_0 := Aside0.mk hi294_0; have HC294_0 := Aside0.mk hl294_0; clear hi294_0 hl294_0; replace p294 := eq_true p294; replace q294 := eq_true q294))
  go_ret; exact ⟨_, z9_9, by (with_reducible repeat (first | apply Kd.V_alloc | apply Kd.V_drewN | apply Kd.V_drew)); exact Kd.V_mono HL294_0.out (fun _ hk => hk.1), z9_0⟩
 ·rw [if_neg c3] at H
  have c3b0 : (a0 == 1) = false := beq_eq_false_iff_ne.mpr c3
  have c3b1 : (a0 != 1) = true := bne_iff_ne.mpr c3
  obtain ⟨y295, hy295⟩ : ∃ y_ : List Int, y_ = (([1, wrap64 (a1 + 1), Int.tmod (wrap64 ((wrap64 (a1 + 1)) * (wrap64 (a1 + 1)))) 31, Int.tmod (wrap64 ((wrap64 ((wrap64 (a1 + 1)) * (wrap64 (a1 + 1)))) * (wrap64 (a1 + 1)))) 31] : List Int)) := ⟨_, rfl⟩
  replace H : (some y295) = some r := yZZ_ hy295 H
  have Ny295 := Aside0.mk hy295
  clear hy295
  obtain rfl := Option.some.inj H
  go_enter Try.func58, Try.ntmps58
  go_wp2_with (first | ((with_reducible refine gate_dst (N := 33) rfl ?_); refine Kd.R_lit (Kd.int .i64) _ 3 ?hg (N := 33) ?hd (xs := ([1, wrap64 (a1 + 1), Int.tmod (wrap64 ((wrap64 (a1 + 1)) * (wrap64 (a1 + 1)))) 31, Int.tmod (wrap64 ((wrap64 ((wrap64 (a1 + 1)) * (wrap64 (a1 + 1)))) * (wrap64 (a1 + 1)))) 31] : List Int)) (inner := [.int .i64 1, .int .i64 (wrap64 (a1 + 1)), .int .i64 (Int.tmod (wrap64 ((wrap64 (a1 + 1)) * (wrap64 (a1 + 1)))) 31), .int .i64 (Int.tmod (wrap64 ((wrap64 ((wrap64 (a1 + 1)) * (wrap64 (a1 + 1)))) * (wrap64 (a1 + 1)))) 31)]) (ok := fun _ => True) (okp := fun _ => True) ?hr ?hp (fun _ hk => hk) trivial (Below.refl _ _) (Nat.le_refl _) (by simp) ?_; (case hd => rfl); (case hg => rfl); (case hr => first | (go_simp; done) | (go_simp; rfl)); (case hp => exact (Reps.one (show Kd.M (Kd.int .i64) _ _ _ 1 [.int .i64 1] from rfl) (Reps.one (show Kd.M (Kd.int .i64) _ _ _ (wrap64 (a1 + 1)) [.int .i64 (wrap64 (a1 + 1))] from rfl) (Reps.one (show Kd.M (Kd.int .i64) _ _ _ (Int.tmod (wrap64 ((wrap64 (a1 + 1)) * (wrap64 (a1 + 1)))) 31) [.int .i64 (Int.tmod (wrap64 ((wrap64 (a1 + 1)) * (wrap64 (a1 + 1)))) 31)] from rfl) (Reps.one (show Kd.M (Kd.int .i64) _ _ _ (Int.tmod (wrap64 ((wrap64 ((wrap64 (a1 + 1)) * (wrap64 (a1 + 1)))) * (wrap64 (a1 + 1)))) 31) [.int .i64 (Int.tmod (wrap64 ((wrap64 ((wrap64 (a1 + 1)) * (wrap64 (a1 + 1)))) * (wrap64 (a1 + 1)))) 31)] from rfl) (Reps.none _ _)))))); intro v296 w33 ho34 hb hg_ hnew_; clear hg_ hnew_; (first | rw [← Ny295.out] at ho34 | (simp only [Int.reduceToNat] at ho34; rw [← Ny295.out] at ho34)); have HO297 := Aside0.mk (Kd.R_lower (Kd.R_newM (M := fun k_ => (w.heap.size ≤ k_)) ho34 (below_size z9_0) (fun k_ h_ => h_)) (below_size z9_0)); replace HB := Aside0.mk (below_step z9_0 hb); clear hb ho34))
  go_ret; exact ⟨_, z9_9, Kd.R_V (by (with_reducible repeat (first | apply Kd.R_alloc | apply Kd.R_drewN | apply Kd.R_drew)); exact Kd.R_mono HO297.out (fun _ hk => hk.1)), z9_0⟩

/-! ### spec_l2Lead: function 66 -/
def spec_l2Lead.l0 : Nat → List Int → Int → Option (Int)
  | 0, _, _ => none
  | k + 1, x0, x3 => if x3 < (x0.length : Int) then (if 0 ≤ x3 then (if (rd x0 x3) = 0 then (spec_l2Lead.l0 k x0 (wrap64 (x3 + 1))) else (some x3)) else (none)) else (some (-1))
def spec_l2Lead.f (k : Nat) (l0 : List Int) : Option (Int) := spec_l2Lead.l0 k l0 0
set_option maxHeartbeats 8000000 in
set_option maxRecDepth 100000 in
theorem spec_l2Lead.calls (k : Nat) (A0 : Option Addr) (c0 : Nat) (l0 : List Int) (r : Int) (w : World) (hr0 : Kd.C (Kd.int .i64) w A0 l0.length l0) (hc0 : l0.length ≤ c0) (h : spec_l2Lead.f k l0 = some r) :
  Calls Try.prog 66 #[.slice A0 l0.length c0] w fun e w' => e = .returned (.int .i64 r) ∧ Drawn0 w w' := by
 have HR0 := Aside0.mk hr0
 have HC0 := Aside0.mk hc0
 clear hr0 hc0
 try unfold spec_l2Lead.f at h
 have H := h
 clear h
 have H' := Aside0.mk H
 clear H
 go_enter Try.func66, Try.ntmps66
 go_wp2
 go_loopg [3] k (fun kq v3 w' => ∃ (x3_1 : Int), v3 = .int .i64 x3_1 ∧ Aside0 (spec_l2Lead.l0 kq l0 x3_1 = some r) ∧ Aside0 (kq ≤ k) ∧ Drawn0 w w')
 case atStart => exact ⟨(0), z9_8, H', ⟨Nat.le_refl _⟩, z9_10⟩
 case round =>
  clear H'; obtain ⟨x3_1, rfl, HA, HK1, ⟨m1, rfl⟩⟩ := hrel
  cases gk with
  | zero => exact absurd HA.out (by simp [spec_l2Lead.l0])
  | succ k1 =>
   have H := HA.out
   clear HA; simp only [spec_l2Lead.l0] at H
   by_cases c2 : x3_1 < (l0.length : Int)
   ·rw [if_pos c2] at H
    have c2b0 : decide (x3_1 < (l0.length : Int)) = true := decide_eq_true c2; clear c2; obtain ⟨c3, H⟩ := ifP H; have c3b0 : decide (0 ≤ x3_1) = true := decide_eq_true c3; clear c3
    by_cases c4 : (rd l0 x3_1) = 0
    ·rw [if_pos c4] at H
     have c4b0 : ((rd l0 x3_1) == 0) = true := beq_iff_eq.mpr c4
     have c4b1 : ((rd l0 x3_1) != 0) = false := bne_eq_false_iff_eq.mpr c4
     clear c4
     have H' := Aside0.mk H
     clear H; have p298 : 0 ≤ (x3_1 : Int) := of_decide_eq_true z9_6; have q298 : x3_1 < (l0.length : Int) := of_decide_eq_true z9_6; obtain ⟨ad298, e298, hx298_0⟩ := Kd.at_int HR0.out x3_1 p298 q298; cases e298
     replace p298 := eq_true p298
     replace q298 := eq_true q298
     go_wp2
     go_roundg k1
     case measure => have := HK1.out; omega
     case rel => exact ⟨(wrap64 (x3_1 + 1)), z9_8, H', ⟨by have := HK1.out; omega⟩, z9_10⟩
    ·rw [if_neg c4] at H
     have c4b0 : ((rd l0 x3_1) == 0) = false := beq_eq_false_iff_ne.mpr c4
     have c4b1 : ((rd l0 x3_1) != 0) = true := bne_iff_ne.mpr c4
     obtain rfl := Option.some.inj H
     have p298 : 0 ≤ (x3_1 : Int) := of_decide_eq_true z9_6; have q298 : x3_1 < (l0.length : Int) := of_decide_eq_true z9_6; obtain ⟨ad298, e298, hx298_0⟩ := Kd.at_int HR0.out x3_1 p298 q298; cases e298
     replace p298 := eq_true p298
     replace q298 := eq_true q298
     go_wp2
     go_ret; exact ⟨z9_8, z9_10⟩
   ·rw [if_neg c2] at H
    have c2b0 : decide (x3_1 < (l0.length : Int)) = false := decide_eq_false c2; clear c2
    obtain rfl := Option.some.inj H
    go_wp2
    go_ret; exact ⟨z9_8, z9_10⟩

/-! ### spec_l2Scale: function 68 -/
def spec_l2Scale.l0 : Nat → List Int → Int → List Int → Int → Option (List Int)
  | 0, _, _, _, _ => none
  | k + 1, x0, x1, x5, x6 => if x6 < (x0.length : Int) then (if 0 ≤ x6 then (if x5.length < 17592186044416 then (spec_l2Scale.l0 k x0 x1 (x5 ++ [Int.tmod (wrap64 ((rd x0 x6) * x1)) 31]) (wrap64 (x6 + 1))) else (none)) else (none)) else (some x5)
def spec_l2Scale.f (k : Nat) (l0 : List Int) (a1 : Int) : Option (List Int) := spec_l2Scale.l0 k l0 a1 (([] : List Int)) 0
set_option maxHeartbeats 8000000 in
set_option maxRecDepth 100000 in
theorem spec_l2Scale.calls (k : Nat) (A0 : Option Addr) (c0 : Nat) (l0 : List Int) (a1 : Int) (r : List Int) (w : World) (hr0 : Kd.C (Kd.int .i64) w A0 l0.length l0) (hc0 : l0.length ≤ c0) (h : spec_l2Scale.f k l0 a1 = some r) :
  Calls Try.prog 68 #[.slice A0 l0.length c0, .int .i64 a1] w fun e w' => ∃ v0_ : Value, e = .returned (v0_) ∧ Kd.R (Kd.int .i64) 3 w' w.heap.size (fun _ => True) v0_ r ∧ Below w.heap.size w w' := by
 have HR0 := Aside0.mk hr0
 have HC0 := Aside0.mk hc0
 clear hr0 hc0
 have HB := Aside0.mk (Below.refl w.heap.size w)
 try unfold spec_l2Scale.f at h
 have H := h
 clear h
 obtain ⟨y299, hy299⟩ : ∃ y_ : List Int, y_ = (([] : List Int)) := ⟨_, rfl⟩
 replace H : (spec_l2Scale.l0 k l0 a1 y299 0) = some r := yZZ_ hy299 H
 have Ny299 := Aside0.mk hy299
 clear hy299
 have H' := Aside0.mk H
 clear H
 go_enter Try.func68, Try.ntmps68
 go_wp2_with (first | ((with_reducible refine gate_dst (N := 7) rfl ?_); refine Kd.R_lit (Kd.int .i64) _ 3 ?hg (N := 7) ?hd (xs := ([] : List Int)) (inner := []) (ok := fun _ => True) (okp := fun _ => True) ?hr ?hp (fun _ hk => hk) trivial (Below.refl _ _) (Nat.le_refl _) (by simp) ?_; (case hd => rfl); (case hg => rfl); (case hr => first | (go_simp; done) | (go_simp; rfl)); (case hp => exact (Reps.none _ _)); intro v300 w3 ho4 hb hg_ hnew_; clear hg_ hnew_; (first | rw [← Ny299.out] at ho4 | (simp only [Int.reduceToNat] at ho4; rw [← Ny299.out] at ho4)); have HO301 := Aside0.mk (Kd.R_lower ho4 (below_size z9_0)); replace HB := Aside0.mk (below_step z9_0 hb); clear hb ho4))
 go_loopg [5, 6] k (fun kq v5 v6 w' => ∃ (x5_1 : List Int) (x6_1 : Int), v6 = .int .i64 x6_1 ∧ Aside0 (spec_l2Scale.l0 kq l0 a1 x5_1 x6_1 = some r) ∧ Aside0 (kq ≤ k) ∧ Aside0 (Kd.R (Kd.int .i64) 3 w' w.heap.size (fun _ => True) v5 x5_1) ∧ Aside0 (Below w.heap.size w w'))
 case atStart => exact ⟨(y299), (0), z9_8, H', ⟨Nat.le_refl _⟩, ⟨by (with_reducible repeat (first | apply Kd.R_alloc | apply Kd.R_drewN | apply Kd.R_drew)); exact HO301.out⟩, ⟨z9_0⟩⟩
 case round =>
  clear H'; obtain ⟨x5_1, x6_1, rfl, HA, HK1, HO_5, HB⟩ := hrel
  cases gk with
  | zero => exact absurd HA.out (by simp [spec_l2Scale.l0])
  | succ k1 =>
   have H := HA.out
   clear HA; simp only [spec_l2Scale.l0] at H
   by_cases c5 : x6_1 < (l0.length : Int)
   ·rw [if_pos c5] at H
    have c5b0 : decide (x6_1 < (l0.length : Int)) = true := decide_eq_true c5; clear c5; obtain ⟨c6, H⟩ := ifP H; have c6b0 : decide (0 ≤ x6_1) = true := decide_eq_true c6; clear c6; obtain ⟨c7, H⟩ := ifP H
    have LMc7 := Aside0.mk c7
    clear c7
    obtain ⟨y303, hy303⟩ : ∃ y_ : List Int, y_ = (x5_1 ++ [Int.tmod (wrap64 ((rd l0 x6_1) * a1)) 31]) := ⟨_, rfl⟩
    replace H : (spec_l2Scale.l0 k1 l0 a1 y303 (wrap64 (x6_1 + 1))) = some r := yZZ_ hy303 H
    have Ny303 := Aside0.mk hy303
    clear hy303
    have H' := Aside0.mk H
    clear H; have p302 : 0 ≤ (x6_1 : Int) := of_decide_eq_true z9_6; have q302 : x6_1 < (l0.length : Int) := of_decide_eq_true z9_6; obtain ⟨ad302, e302, hx302_0⟩ := Kd.at_int HR0.out x6_1 p302 q302; cases e302
    replace hx302_0 := (HB.out.cell (World.block_lt_of_cell? w _ hx302_0)).trans hx302_0
    replace p302 := eq_true p302
    replace q302 := eq_true q302
    go_wp2_with (first | ((with_reducible refine gate_builtin (b := .append) (xs := #[.tmp 14, .tmp 22]) rfl ?_); at_builtin; refine Kd.R_append (Kd.int .i64) (w0 := w) w.heap.size rfl (.tmp 14) (.tmp 22) 28 3 (.int .i64 0) 8 rfl Try.underlying28 info3 rfl (by decide) (by omega) u5 x5_1 (Int.tmod (wrap64 ((rd l0 x6_1) * a1)) 31) [.int .i64 (Int.tmod (wrap64 ((rd l0 x6_1) * a1)) 31)] (fun _ => True) (fun _ => False) rfl rfl ?aP (fun _ hk => hk.elim) ?aF ?aO ?aB ?aS ?aL ?_; (case aP => exact rfl); (case aB => exact z9_0); (case aF => exact (fun _ _ => trivial)); (case aO => exact (by (with_reducible repeat (first | apply Kd.R_alloc | apply Kd.R_drewN | apply Kd.R_drew)); exact HO_5.out)); (case aS => exact (below_size z9_0)); (case aL => have := LMc7.out; omega); intro v304 w8 ho hb hg hat; rw [← Ny303.out] at ho; have n0_ := Aside0.mk (hb); have n1_ := Aside0.mk (ho); clear HB; clear HO_5; have HB := n0_; have HO305 := n1_; clear n0_ n1_; clear ho hb hg hat))
    go_roundg k1
    case measure => have := HK1.out; omega
    case rel => exact ⟨(y303), (wrap64 (x6_1 + 1)), z9_8, H', ⟨by have := HK1.out; omega⟩, ⟨by (with_reducible repeat (first | apply Kd.R_alloc | apply Kd.R_drewN | apply Kd.R_drew)); exact HO305.out⟩, ⟨z9_0⟩⟩
   ·rw [if_neg c5] at H
    have c5b0 : decide (x6_1 < (l0.length : Int)) = false := decide_eq_false c5; clear c5
    obtain rfl := Option.some.inj H
    go_wp2
    go_ret; exact ⟨_, z9_9, by (with_reducible repeat (first | apply Kd.R_alloc | apply Kd.R_drewN | apply Kd.R_drew)); exact HO_5.out, z9_0⟩

end Go.Proofs.Ytfgpffocieegdaa.PA
