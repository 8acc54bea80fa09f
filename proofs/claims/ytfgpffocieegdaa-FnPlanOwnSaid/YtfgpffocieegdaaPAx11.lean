import Derived.Test.YtfgpffocieegdaaPAx0
import Derived.Test.YtfgpffocieegdaaGw
import Derived.Test.YtfgpffocieegdaaGm
import Derived.Test.YtfgpffocieegdaaGc
namespace Go.Proofs.Ytfgpffocieegdaa.PA
open Go.RowKit Go.Proofs.YtfgpffocieegdaaW.PrintWords Go.Proofs.YtfgpffocieegdaaW.PrintLast Go.Proofs.YtfgpffocieegdaaW.PrintMore
attribute [local go_sem] max2_int min2_int max_two min_two max_three min_three max_four min_four   -- for this text's walks alone
set_option linter.unusedVariables false
set_option linter.unusedSimpArgs false

/-! ### spec_l4Row: function 58 -/
theorem z11_0 {p : Prop} (h : p := by repeat (first | (with_reducible first | exact HB.out | apply below_alloc | apply pw_below_drewN | apply below_drew1) | exact HB.out)) : p := h
theorem z11_1 {p : Prop} (h : p := by (with_reducible repeat (first | apply Kd.R_alloc | apply Kd.R_drewN | apply Kd.R_drew)); exact HO315.out) : p := h
theorem z11_2 {p : Prop} (h : p := by (with_reducible repeat (first | apply Kd.R_alloc | apply Kd.R_drewN | apply Kd.R_drew)); exact HO318.out) : p := h
theorem z11_3 {p : Prop} (h : p := by (with_reducible repeat (first | apply Kd.R_alloc | apply Kd.R_drewN | apply Kd.R_drew)); exact HO321.out) : p := h
theorem z11_4 {p : Prop} (h : p := by (with_reducible repeat (first | apply Kd.R_alloc | apply Kd.R_drewN | apply Kd.R_drew)); exact HO324.out) : p := h
theorem z11_5 {p : Prop} (h : p := by (with_reducible repeat (first | apply Kd.R_alloc | apply Kd.R_drewN | apply Kd.R_drew)); exact HO327.out) : p := h
theorem z11_6 {p : Prop} (h : p := by first | (with_reducible assumption) | assumption) : p := h
theorem z11_7 {p : Prop} (h : p := by (with_reducible repeat (first | apply Kd.R_alloc | apply Kd.R_drewN | apply Kd.R_drew)); exact HO330.out) : p := h
theorem z11_8 {p : Prop} (h : p := by first | rfl | (simp; done) | (simp [*]; done)) : p := h
theorem z11_9 {p : Prop} (h : p := by first | rfl | (simp [errW_none, errW_some] <;> rfl) | (simp [*, errW_none, errW_some] <;> rfl)) : p := h
theorem z11_10 {p : Prop} (h : p := by repeat (first | exact Drawn0.refl _ | apply Drawn0.step)) : p := h
def spec_l4Row.f (a0 : Int) (a1 : Int) : Option (List Int) := if a0 = 1 then ((some (([(([1, 0, 0, 0] : List Int)), (([0, 1, 0, 0] : List Int)), (([0, 0, 1, 0] : List Int)), (([0, 0, 0, 1] : List Int)), (([1, 1, 0, 0] : List Int)), (([0, 0, 1, 1] : List Int)), (([1, 2, 4, 8] : List Int)), (([1, 3, 9, 27] : List Int))] : List (List Int)) : List (List Int))).bind fun y337 => (if 0 ≤ a1 then (if a1 < (y337.length : Int) then (some (rd_L6 y337 a1)) else (none)) else (none))) else (some (([1, wrap64 (a1 + 1), Int.tmod (wrap64 ((wrap64 (a1 + 1)) * (wrap64 (a1 + 1)))) 31, Int.tmod (wrap64 ((wrap64 ((wrap64 (a1 + 1)) * (wrap64 (a1 + 1)))) * (wrap64 (a1 + 1)))) 31] : List Int)))
set_option maxHeartbeats 8000000 in
set_option maxRecDepth 100000 in
theorem spec_l4Row.calls (a0 : Int) (a1 : Int) (r : List Int) (w : World) (h : spec_l4Row.f a0 a1 = some r) :
  Calls Try.prog 58 #[.int .i64 a0, .int .i64 a1] w fun e w' => ∃ v0_ : Value, e = .returned (v0_) ∧ Kd.V (Kd.int .i64) 3 w' w.heap.size (fun k_ => (w.heap.size ≤ k_)) v0_ r ∧ Below w.heap.size w w' := by
 have HB := Aside0.mk (Below.refl w.heap.size w)
 try unfold spec_l4Row.f at h
 have H := h
 clear h
 by_cases c3 : a0 = 1
 ·rw [if_pos c3] at H
  have c3b0 : (a0 == 1) = true := beq_iff_eq.mpr c3
  have c3b1 : (a0 != 1) = false := bne_eq_false_iff_eq.mpr c3
  clear c3
  obtain ⟨y313, hy313⟩ : ∃ y_ : List Int, y_ = (([1, 0, 0, 0] : List Int)) := ⟨_, rfl⟩
  replace H : ((some (([y313, (([0, 1, 0, 0] : List Int)), (([0, 0, 1, 0] : List Int)), (([0, 0, 0, 1] : List Int)), (([1, 1, 0, 0] : List Int)), (([0, 0, 1, 1] : List Int)), (([1, 2, 4, 8] : List Int)), (([1, 3, 9, 27] : List Int))] : List (List Int)) : List (List Int))).bind fun y337 => (if 0 ≤ a1 then (if a1 < (y337.length : Int) then (some (rd_L6 y337 a1)) else (none)) else (none))) = some r := yZZ_ hy313 H
  have Ny313 := Aside0.mk hy313
  clear hy313
  obtain ⟨y316, hy316⟩ : ∃ y_ : List Int, y_ = (([0, 1, 0, 0] : List Int)) := ⟨_, rfl⟩
  replace H : ((some (([y313, y316, (([0, 0, 1, 0] : List Int)), (([0, 0, 0, 1] : List Int)), (([1, 1, 0, 0] : List Int)), (([0, 0, 1, 1] : List Int)), (([1, 2, 4, 8] : List Int)), (([1, 3, 9, 27] : List Int))] : List (List Int)) : List (List Int))).bind fun y337 => (if 0 ≤ a1 then (if a1 < (y337.length : Int) then (some (rd_L6 y337 a1)) else (none)) else (none))) = some r := yZZ_ hy316 H
  have Ny316 := Aside0.mk hy316
  clear hy316
  obtain ⟨y319, hy319⟩ : ∃ y_ : List Int, y_ = (([0, 0, 1, 0] : List Int)) := ⟨_, rfl⟩
  replace H : ((some (([y313, y316, y319, (([0, 0, 0, 1] : List Int)), (([1, 1, 0, 0] : List Int)), (([0, 0, 1, 1] : List Int)), (([1, 2, 4, 8] : List Int)), (([1, 3, 9, 27] : List Int))] : List (List Int)) : List (List Int))).bind fun y337 => (if 0 ≤ a1 then (if a1 < (y337.length : Int) then (some (rd_L6 y337 a1)) else (none)) else (none))) = some r := yZZ_ hy319 H
  have Ny319 := Aside0.mk hy319
  clear hy319
  obtain ⟨y322, hy322⟩ : ∃ y_ : List Int, y_ = (([0, 0, 0, 1] : List Int)) := ⟨_, rfl⟩
  replace H : ((some (([y313, y316, y319, y322, (([1, 1, 0, 0] : List Int)), (([0, 0, 1, 1] : List Int)), (([1, 2, 4, 8] : List Int)), (([1, 3, 9, 27] : List Int))] : List (List Int)) : List (List Int))).bind fun y337 => (if 0 ≤ a1 then (if a1 < (y337.length : Int) then (some (rd_L6 y337 a1)) else (none)) else (none))) = some r := yZZ_ hy322 H
  have Ny322 := Aside0.mk hy322
  clear hy322
  obtain ⟨y325, hy325⟩ : ∃ y_ : List Int, y_ = (([1, 1, 0, 0] : List Int)) := ⟨_, rfl⟩
  replace H : ((some (([y313, y316, y319, y322, y325, (([0, 0, 1, 1] : List Int)), (([1, 2, 4, 8] : List Int)), (([1, 3, 9, 27] : List Int))] : List (List Int)) : List (List Int))).bind fun y337 => (if 0 ≤ a1 then (if a1 < (y337.length : Int) then (some (rd_L6 y337 a1)) else (none)) else (none))) = some r := yZZ_ hy325 H
  have Ny325 := Aside0.mk hy325
  clear hy325
  obtain ⟨y328, hy328⟩ : ∃ y_ : List Int, y_ = (([0, 0, 1, 1] : List Int)) := ⟨_, rfl⟩
  replace H : ((some (([y313, y316, y319, y322, y325, y328, (([1, 2, 4, 8] : List Int)), (([1, 3, 9, 27] : List Int))] : List (List Int)) : List (List Int))).bind fun y337 => (if 0 ≤ a1 then (if a1 < (y337.length : Int) then (some (rd_L6 y337 a1)) else (none)) else (none))) = some r := yZZ_ hy328 H
  have Ny328 := Aside0.mk hy328
  clear hy328
  obtain ⟨y331, hy331⟩ : ∃ y_ : List Int, y_ = (([1, 2, 4, 8] : List Int)) := ⟨_, rfl⟩
  replace H : ((some (([y313, y316, y319, y322, y325, y328, y331, (([1, 3, 9, 27] : List Int))] : List (List Int)) : List (List Int))).bind fun y337 => (if 0 ≤ a1 then (if a1 < (y337.length : Int) then (some (rd_L6 y337 a1)) else (none)) else (none))) = some r := yZZ_ hy331 H
  have Ny331 := Aside0.mk hy331
  clear hy331
  obtain ⟨y334, hy334⟩ : ∃ y_ : List Int, y_ = (([1, 3, 9, 27] : List Int)) := ⟨_, rfl⟩
  replace H : ((some (([y313, y316, y319, y322, y325, y328, y331, y334] : List (List Int)) : List (List Int))).bind fun y337 => (if 0 ≤ a1 then (if a1 < (y337.length : Int) then (some (rd_L6 y337 a1)) else (none)) else (none))) = some r := yZZ_ hy334 H
  have Ny334 := Aside0.mk hy334
  clear hy334
  obtain ⟨y337, hy337⟩ : ∃ y_ : List (List Int), y_ = (([y313, y316, y319, y322, y325, y328, y331, y334] : List (List Int))) := ⟨_, rfl⟩
  replace H : (if 0 ≤ a1 then (if a1 < (y337.length : Int) then (some (rd_L6 y337 a1)) else (none)) else (none)) = some r := yZZ_ hy337 H
  have Ny337 := Aside0.mk hy337
  clear hy337; obtain ⟨c4, H⟩ := ifP H; have c4b0 : decide (0 ≤ a1) = true := decide_eq_true c4; clear c4; obtain ⟨c5, H⟩ := ifP H; have c5b0 : decide (a1 < (y337.length : Int)) = true := decide_eq_true c5; clear c5
  obtain rfl := Option.some.inj H
  go_enter Try.func58, Try.ntmps58
  go_wp2_with (first | ((with_reducible refine gate_dst (N := 8) rfl ?_); refine Kd.R_lit (Kd.int .i64) _ 3 ?hg (N := 8) ?hd (xs := ([1, 0, 0, 0] : List Int)) (inner := [.int .i64 1, .int .i64 0, .int .i64 0, .int .i64 0]) (ok := fun _ => True) (okp := fun _ => True) ?hr ?hp (fun _ hk => hk) trivial (Below.refl _ _) (Nat.le_refl _) (by simp) ?_; (case hd => rfl); (case hg => rfl); (case hr => first | (go_simp; done) | (go_simp; rfl)); (case hp => exact (Reps.one (show Kd.M (Kd.int .i64) _ _ _ 1 [.int .i64 1] from rfl) (Reps.one (show Kd.M (Kd.int .i64) _ _ _ 0 [.int .i64 0] from rfl) (Reps.one (show Kd.M (Kd.int .i64) _ _ _ 0 [.int .i64 0] from rfl) (Reps.one (show Kd.M (Kd.int .i64) _ _ _ 0 [.int .i64 0] from rfl) (Reps.none _ _)))))); intro v314 w6 ho7 hb hg_ hnew_; clear hg_ hnew_; (first | rw [← Ny313.out] at ho7 | (simp only [Int.reduceToNat] at ho7; rw [← Ny313.out] at ho7)); have HO315 := Aside0.mk (Kd.R_lower (Kd.R_newM (M := fun k_ => (w.heap.size ≤ k_)) ho7 (below_size z11_0) (fun k_ h_ => h_)) (below_size z11_0)); replace HB := Aside0.mk (below_step z11_0 hb); clear hb ho7) | ((with_reducible refine gate_dst (N := 9) rfl ?_); refine Kd.R_lit (Kd.int .i64) _ 3 ?hg (N := 9) ?hd (xs := ([0, 1, 0, 0] : List Int)) (inner := [.int .i64 0, .int .i64 1, .int .i64 0, .int .i64 0]) (ok := fun _ => True) (okp := fun _ => True) ?hr ?hp (fun _ hk => hk) trivial (Below.refl _ _) (Nat.le_refl _) (by simp) ?_; (case hd => rfl); (case hg => rfl); (case hr => first | (go_simp; done) | (go_simp; rfl)); (case hp => exact (Reps.one (show Kd.M (Kd.int .i64) _ _ _ 0 [.int .i64 0] from rfl) (Reps.one (show Kd.M (Kd.int .i64) _ _ _ 1 [.int .i64 1] from rfl) (Reps.one (show Kd.M (Kd.int .i64) _ _ _ 0 [.int .i64 0] from rfl) (Reps.one (show Kd.M (Kd.int .i64) _ _ _ 0 [.int .i64 0] from rfl) (Reps.none _ _)))))); intro v317 w8 ho9 hb hg_ hnew_; clear hg_ hnew_; (first | rw [← Ny316.out] at ho9 | (simp only [Int.reduceToNat] at ho9; rw [← Ny316.out] at ho9)); have HO318 := Aside0.mk (Kd.R_lower (Kd.R_new' (Kd.R_newM (M := fun k_ => (w.heap.size ≤ k_)) ho9 (below_size z11_0) (fun k_ h_ => h_)) (Kd.R_lt z11_1)) (below_size z11_0)); replace HO315 := Aside0.mk (Kd.R_elder' z11_1 (Kd.R_base ho9) hb); replace HB := Aside0.mk (below_step z11_0 hb); clear hb ho9) | ((with_reducible refine gate_dst (N := 10) rfl ?_); refine Kd.R_lit (Kd.int .i64) _ 3 ?hg (N := 10) ?hd (xs := ([0, 0, 1, 0] : List Int)) (inner := [.int .i64 0, .int .i64 0, .int .i64 1, .int .i64 0]) (ok := fun _ => True) (okp := fun _ => True) ?hr ?hp (fun _ hk => hk) trivial (Below.refl _ _) (Nat.le_refl _) (by simp) ?_; (case hd => rfl); (case hg => rfl); (case hr => first | (go_simp; done) | (go_simp; rfl)); (case hp => exact (Reps.one (show Kd.M (Kd.int .i64) _ _ _ 0 [.int .i64 0] from rfl) (Reps.one (show Kd.M (Kd.int .i64) _ _ _ 0 [.int .i64 0] from rfl) (Reps.one (show Kd.M (Kd.int .i64) _ _ _ 1 [.int .i64 1] from rfl) (Reps.one (show Kd.M (Kd.int .i64) _ _ _ 0 [.int .i64 0] from rfl) (Reps.none _ _)))))); intro v320 w10 ho11 hb hg_ hnew_; clear hg_ hnew_; (first | rw [← Ny319.out] at ho11 | (simp only [Int.reduceToNat] at ho11; rw [← Ny319.out] at ho11)); have HO321 := Aside0.mk (Kd.R_lower (Kd.R_new' (Kd.R_new' (Kd.R_newM (M := fun k_ => (w.heap.size ≤ k_)) ho11 (below_size z11_0) (fun k_ h_ => h_)) (Kd.R_lt z11_1)) (Kd.R_lt z11_2)) (below_size z11_0)); replace HO315 := Aside0.mk (Kd.R_elder' z11_1 (Kd.R_base ho11) hb); replace HO318 := Aside0.mk (Kd.R_elder' z11_2 (Kd.R_base ho11) hb); replace HB := Aside0.mk (below_step z11_0 hb); clear hb ho11) | ((with_reducible refine gate_dst (N := 11) rfl ?_); refine Kd.R_lit (Kd.int .i64) _ 3 ?hg (N := 11) ?hd (xs := ([0, 0, 0, 1] : List Int)) (inner := [.int .i64 0, .int .i64 0, .int .i64 0, .int .i64 1]) (ok := fun _ => True) (okp := fun _ => True) ?hr ?hp (fun _ hk => hk) trivial (Below.refl _ _) (Nat.le_refl _) (by simp) ?_; (case hd => rfl); (case hg => rfl); (case hr => first | (go_simp; done) | (go_simp; rfl)); (case hp => exact (Reps.one (show Kd.M (Kd.int .i64) _ _ _ 0 [.int .i64 0] from rfl) (Reps.one (show Kd.M (Kd.int .i64) _ _ _ 0 [.int .i64 0] from rfl) (Reps.one (show Kd.M (Kd.int .i64) _ _ _ 0 [.int .i64 0] from rfl) (Reps.one (show Kd.M (Kd.int .i64) _ _ _ 1 [.int .i64 1] from rfl) (Reps.none _ _)))))); intro v323 w12 ho13 hb hg_ hnew_; clear hg_ hnew_; (first | rw [← Ny322.out] at ho13 | (simp only [Int.reduceToNat] at ho13; rw [← Ny322.out] at ho13)); have HO324 := Aside0.mk (Kd.R_lower (Kd.R_new' (Kd.R_new' (Kd.R_new' (Kd.R_newM (M := fun k_ => (w.heap.size ≤ k_)) ho13 (below_size z11_0) (fun k_ h_ => h_)) (Kd.R_lt z11_1)) (Kd.R_lt z11_2)) (Kd.R_lt z11_3)) (below_size z11_0)); replace HO315 := Aside0.mk (Kd.R_elder' z11_1 (Kd.R_base ho13) hb); replace HO318 := Aside0.mk (Kd.R_elder' z11_2 (Kd.R_base ho13) hb); replace HO321 := Aside0.mk (Kd.R_elder' z11_3 (Kd.R_base ho13) hb); replace HB := Aside0.mk (below_step z11_0 hb); clear hb ho13) | ((with_reducible refine gate_dst (N := 12) rfl ?_); refine Kd.R_lit (Kd.int .i64) _ 3 ?hg (N := 12) ?hd (xs := ([1, 1, 0, 0] : List Int)) (inner := [.int .i64 1, .int .i64 1, .int .i64 0, .int .i64 0]) (ok := fun _ => True) (okp := fun _ => True) ?hr ?hp (fun _ hk => hk) trivial (Below.refl _ _) (Nat.le_refl _) (by simp) ?_; (case hd => rfl); (case hg => rfl); (case hr => first | (go_simp; done) | (go_simp; rfl)); (case hp => exact (Reps.one (show Kd.M (Kd.int .i64) _ _ _ 1 [.int .i64 1] from rfl) (Reps.one (show Kd.M (Kd.int .i64) _ _ _ 1 [.int .i64 1] from rfl) (Reps.one (show Kd.M (Kd.int .i64) _ _ _ 0 [.int .i64 0] from rfl) (Reps.one (show Kd.M (Kd.int .i64) _ _ _ 0 [.int .i64 0] from rfl) (Reps.none _ _)))))); intro v326 w14 ho15 hb hg_ hnew_; clear hg_ hnew_; (first | rw [← Ny325.out] at ho15 | (simp only [Int.reduceToNat] at ho15; rw [← Ny325.out] at ho15)); have HO327 := Aside0.mk (Kd.R_lower (Kd.R_new' (Kd.R_new' (Kd.R_new' (Kd.R_new' (Kd.R_newM (M := fun k_ => (w.heap.size ≤ k_)) ho15 (below_size z11_0) (fun k_ h_ => h_)) (Kd.R_lt z11_1)) (Kd.R_lt z11_2)) (Kd.R_lt z11_3)) (Kd.R_lt z11_4)) (below_size z11_0)); replace HO315 := Aside0.mk (Kd.R_elder' z11_1 (Kd.R_base ho15) hb); replace HO318 := Aside0.mk (Kd.R_elder' z11_2 (Kd.R_base ho15) hb); replace HO321 := Aside0.mk (Kd.R_elder' z11_3 (Kd.R_base ho15) hb); replace HO324 := Aside0.mk (Kd.R_elder' z11_4 (Kd.R_base ho15) hb); replace HB := Aside0.mk (below_step z11_0 hb); clear hb ho15) | ((with_reducible refine gate_dst (N := 13) rfl ?_); refine Kd.R_lit (Kd.int .i64) _ 3 ?hg (N := 13) ?hd (xs := ([0, 0, 1, 1] : List Int)) (inner := [.int .i64 0, .int .i64 0, .int .i64 1, .int .i64 1]) (ok := fun _ => True) (okp := fun _ => True) ?hr ?hp (fun _ hk => hk) trivial (Below.refl _ _) (Nat.le_refl _) (by simp) ?_; (case hd => rfl); (case hg => rfl); (case hr => first | (go_simp; done) | (go_simp; rfl)); (case hp => exact (Reps.one (show Kd.M (Kd.int .i64) _ _ _ 0 [.int .i64 0] from rfl) (Reps.one (show Kd.M (Kd.int .i64) _ _ _ 0 [.int .i64 0] from rfl) (Reps.one (show Kd.M (Kd.int .i64) _ _ _ 1 [.int .i64 1] from rfl) (Reps.one (show Kd.M (Kd.int .i64) _ _ _ 1 [.int .i64 1] from rfl) (Reps.none _ _)))))); intro v329 w16 ho17 hb hg_ hnew_; clear hg_ hnew_; (first | rw [← Ny328.out] at ho17 | (simp only [Int.reduceToNat] at ho17; rw [← Ny328.out] at ho17)); have HO330 := Aside0.mk (Kd.R_lower (Kd.R_new' (Kd.R_new' (Kd.R_new' (Kd.R_new' (Kd.R_new' (Kd.R_newM (M := fun k_ => (w.heap.size ≤ k_)) ho17 (below_size z11_0) (fun k_ h_ => h_)) (Kd.R_lt z11_1)) (Kd.R_lt z11_2)) (Kd.R_lt z11_3)) (Kd.R_lt z11_4)) (Kd.R_lt z11_5)) (below_size z11_0)); replace HO315 := Aside0.mk (Kd.R_elder' z11_1 (Kd.R_base ho17) hb); replace HO318 := Aside0.mk (Kd.R_elder' z11_2 (Kd.R_base ho17) hb); replace HO321 := Aside0.mk (Kd.R_elder' z11_3 (Kd.R_base ho17) hb); replace HO324 := Aside0.mk (Kd.R_elder' z11_4 (Kd.R_base ho17) hb); replace HO327 := Aside0.mk (Kd.R_elder' z11_5 (Kd.R_base ho17) hb); replace HB := Aside0.mk (below_step z11_0 hb); clear hb ho17) | ((with_reducible refine gate_dst (N := 14) rfl ?_); refine Kd.R_lit (Kd.int .i64) _ 3 ?hg (N := 14) ?hd (xs := ([1, 2, 4, 8] : List Int)) (inner := [.int .i64 1, .int .i64 2, .int .i64 4, .int .i64 8]) (ok := fun _ => True) (okp := fun _ => True) ?hr ?hp (fun _ hk => hk) trivial (Below.refl _ _) (Nat.le_refl _) (by simp) ?_; (case hd => rfl); (case hg => rfl); (case hr => first | (go_simp; done) | (go_simp; rfl)); (case hp => exact (Reps.one (show Kd.M (Kd.int .i64) _ _ _ 1 [.int .i64 1] from rfl) (Reps.one (show Kd.M (Kd.int .i64) _ _ _ 2 [.int .i64 2] from rfl) (Reps.one (show Kd.M (Kd.int .i64) _ _ _ 4 [.int .i64 4] from rfl) (Reps.one (show Kd.M (Kd.int .i64) _ _ _ 8 [.int .i64 8] from rfl) (Reps.none _ _)))))); intro v332 w18 ho19 hb hg_ hnew_; clear hg_ hnew_; (first | rw [← Ny331.out] at ho19 | (simp only [Int.reduceToNat] at ho19; rw [← Ny331.out] at ho19)); have HO333 := Aside0.mk (Kd.R_lower (Kd.R_new' (Kd.R_new' (Kd.R_new' (Kd.R_new' (Kd.R_new' (Kd.R_new' (Kd.R_newM (M := fun k_ => (w.heap.size ≤ k_)) ho19 (below_size z11_0) (fun k_ h_ => h_)) (Kd.R_lt z11_1)) (Kd.R_lt z11_2)) (Kd.R_lt z11_3)) (Kd.R_lt z11_4)) (Kd.R_lt z11_5)) (Kd.R_lt z11_7)) (below_size z11_0)); replace HO315 := Aside0.mk (Kd.R_elder' z11_1 (Kd.R_base ho19) hb); replace HO318 := Aside0.mk (Kd.R_elder' z11_2 (Kd.R_base ho19) hb); replace HO321 := Aside0.mk (Kd.R_elder' z11_3 (Kd.R_base ho19) hb); replace HO324 := Aside0.mk (Kd.R_elder' z11_4 (Kd.R_base ho19) hb); replace HO327 := Aside0.mk (Kd.R_elder' z11_5 (Kd.R_base ho19) hb); replace HO330 := Aside0.mk (Kd.R_elder' z11_7 (Kd.R_base ho19) hb); replace HB := Aside0.mk (below_step z11_0 hb); clear hb ho19) | ((with_reducible refine gate_dst (N := 15) rfl ?_); refine Kd.R_lit (Kd.int .i64) _ 3 ?hg (N := 15) ?hd (xs := ([1, 3, 9, 27] : List Int)) (inner := [.int .i64 1, .int .i64 3, .int .i64 9, .int .i64 27]) (ok := fun _ => True) (okp := fun _ => True) ?hr ?hp (fun _ hk => hk) trivial (Below.refl _ _) (Nat.le_refl _) (by simp) ?_; (case hd => rfl); (case hg => rfl); (case hr => first | (go_simp; done) | (go_simp; rfl)); (case hp => exact (Reps.one (show Kd.M (Kd.int .i64) _ _ _ 1 [.int .i64 1] from rfl) (Reps.one (show Kd.M (Kd.int .i64) _ _ _ 3 [.int .i64 3] from rfl) (Reps.one (show Kd.M (Kd.int .i64) _ _ _ 9 [.int .i64 9] from rfl) (Reps.one (show Kd.M (Kd.int .i64) _ _ _ 27 [.int .i64 27] from rfl) (Reps.none _ _)))))); intro v335 w20 ho21 hb hg_ hnew_; clear hg_ hnew_; (first | rw [← Ny334.out] at ho21 | (simp only [Int.reduceToNat] at ho21; rw [← Ny334.out] at ho21)); have HO336 := Aside0.mk (Kd.R_lower (Kd.R_new' (Kd.R_new' (Kd.R_new' (Kd.R_new' (Kd.R_new' (Kd.R_new' (Kd.R_new' (Kd.R_newM (M := fun k_ => (w.heap.size ≤ k_)) ho21 (below_size z11_0) (fun k_ h_ => h_)) (Kd.R_lt z11_1)) (Kd.R_lt z11_2)) (Kd.R_lt z11_3)) (Kd.R_lt z11_4)) (Kd.R_lt z11_5)) (Kd.R_lt z11_7)) (Kd.R_lt (by (with_reducible repeat (first | apply Kd.R_alloc | apply Kd.R_drewN | apply Kd.R_drew)); exact HO333.out))) (below_size z11_0)); replace HO315 := Aside0.mk (Kd.R_elder' z11_1 (Kd.R_base ho21) hb); replace HO318 := Aside0.mk (Kd.R_elder' z11_2 (Kd.R_base ho21) hb); replace HO321 := Aside0.mk (Kd.R_elder' z11_3 (Kd.R_base ho21) hb); replace HO324 := Aside0.mk (Kd.R_elder' z11_4 (Kd.R_base ho21) hb); replace HO327 := Aside0.mk (Kd.R_elder' z11_5 (Kd.R_base ho21) hb); replace HO330 := Aside0.mk (Kd.R_elder' z11_7 (Kd.R_base ho21) hb); replace HO333 := Aside0.mk (Kd.R_elder' (by (with_reducible repeat (first | apply Kd.R_alloc | apply Kd.R_drewN | apply Kd.R_drew)); exact HO333.out) (Kd.R_base ho21) hb); replace HB := Aside0.mk (below_step z11_0 hb); clear hb ho21; obtain ⟨Ao22, co22, eo22⟩ := Kd.R_slice HO315.out; subst eo22; obtain ⟨Ao23, co23, eo23⟩ := Kd.R_slice HO318.out; subst eo23; obtain ⟨Ao24, co24, eo24⟩ := Kd.R_slice HO321.out; subst eo24; obtain ⟨Ao25, co25, eo25⟩ := Kd.R_slice HO324.out; subst eo25; obtain ⟨Ao26, co26, eo26⟩ := Kd.R_slice HO327.out; subst eo26; obtain ⟨Ao27, co27, eo27⟩ := Kd.R_slice HO330.out; subst eo27; obtain ⟨Ao28, co28, eo28⟩ := Kd.R_slice HO333.out; subst eo28; obtain ⟨Ao29, co29, eo29⟩ := Kd.R_slice HO336.out; subst eo29) | ((with_reducible refine gate_dst (N := 16) rfl ?_); refine Kd.N_lit (Kd.slice 3 (Kd.int .i64)) _ 28 ?hg (N' := 16) ?hd (xs := ([y313, y316, y319, y322, y325, y328, y331, y334] : List (List Int))) (inner := [.slice Ao22 y313.length co22, .slice Ao23 y316.length co23, .slice Ao24 y319.length co24, .slice Ao25 y322.length co25, .slice Ao26 y325.length co26, .slice Ao27 y328.length co27, .slice Ao28 y331.length co28, .slice Ao29 y334.length co29]) (ok := (fun k_ => (w.heap.size ≤ k_))) (okp := (fun k_ => (w.heap.size ≤ k_))) ?hr ?hp (fun _ hk => hk) ((show ∀ k_, w20.heap.size ≤ k_ → (fun k_ => (w.heap.size ≤ k_)) k_ from fun k_ hk => (Nat.le_trans (below_size z11_0) hk)) _ (Nat.le_refl _)) (Below.refl _ _) (Nat.le_refl _) (by simp) ?_; (case hd => rfl); (case hg => rfl); (case hr => first | (go_simp; done) | (go_simp; rfl)); (case hp => exact (Reps.one (show Kd.FK (Kd.slice 3 (Kd.int .i64)) _ _ y313 [.slice Ao22 y313.length co22] from (Kd.FK_slice_mk (Kd.R_reads' (Kd.R_mono (ok' := (fun k_ => (w.heap.size ≤ k_))) (HO315.out) (fun k_ hk => hk.1.1.1.1.1.1.1.1))).2.1 (Kd.R_F (Kd.R_mono (ok' := (fun k_ => (w.heap.size ≤ k_))) (HO315.out) (fun k_ hk => hk.1.1.1.1.1.1.1.1))))) (Reps.one (show Kd.FK (Kd.slice 3 (Kd.int .i64)) _ _ y316 [.slice Ao23 y316.length co23] from (Kd.FK_slice_mk (Kd.R_reads' (Kd.R_mono (ok' := (fun k_ => (w.heap.size ≤ k_))) (HO318.out) (fun k_ hk => hk.1.1.1.1.1.1.1.1))).2.1 (Kd.R_F (Kd.R_mono (ok' := (fun k_ => (w.heap.size ≤ k_))) (HO318.out) (fun k_ hk => hk.1.1.1.1.1.1.1.1))))) (Reps.one (show Kd.FK (Kd.slice 3 (Kd.int .i64)) _ _ y319 [.slice Ao24 y319.length co24] from (Kd.FK_slice_mk (Kd.R_reads' (Kd.R_mono (ok' := (fun k_ => (w.heap.size ≤ k_))) (HO321.out) (fun k_ hk => hk.1.1.1.1.1.1.1.1))).2.1 (Kd.R_F (Kd.R_mono (ok' := (fun k_ => (w.heap.size ≤ k_))) (HO321.out) (fun k_ hk => hk.1.1.1.1.1.1.1.1))))) (Reps.one (show Kd.FK (Kd.slice 3 (Kd.int .i64)) _ _ y322 [.slice Ao25 y322.length co25] from (Kd.FK_slice_mk (Kd.R_reads' (Kd.R_mono (ok' := (fun k_ => (w.heap.size ≤ k_))) (HO324.out) (fun k_ hk => hk.1.1.1.1.1.1.1.1))).2.1 (Kd.R_F (Kd.R_mono (ok' := (fun k_ => (w.heap.size ≤ k_))) (HO324.out) (fun k_ hk => hk.1.1.1.1.1.1.1.1))))) (Reps.one (show Kd.FK (Kd.slice 3 (Kd.int .i64)) _ _ y325 [.slice Ao26 y325.length co26] from (Kd.FK_slice_mk (Kd.R_reads' (Kd.R_mono (ok' := (fun k_ => (w.heap.size ≤ k_))) (HO327.out) (fun k_ hk => hk.1.1.1.1.1.1.1.1))).2.1 (Kd.R_F (Kd.R_mono (ok' := (fun k_ => (w.heap.size ≤ k_))) (HO327.out) (fun k_ hk => hk.1.1.1.1.1.1.1.1))))) (Reps.one (show Kd.FK (Kd.slice 3 (Kd.int .i64)) _ _ y328 [.slice Ao27 y328.length co27] from (Kd.FK_slice_mk (Kd.R_reads' (Kd.R_mono (ok' := (fun k_ => (w.heap.size ≤ k_))) (HO330.out) (fun k_ hk => hk.1.1.1.1.1.1.1.1))).2.1 (Kd.R_F (Kd.R_mono (ok' := (fun k_ => (w.heap.size ≤ k_))) (HO330.out) (fun k_ hk => hk.1.1.1.1.1.1.1.1))))) (Reps.one (show Kd.FK (Kd.slice 3 (Kd.int .i64)) _ _ y331 [.slice Ao28 y331.length co28] from (Kd.FK_slice_mk (Kd.R_reads' (Kd.R_mono (ok' := (fun k_ => (w.heap.size ≤ k_))) (HO333.out) (fun k_ hk => hk.1.1.1.1.1.1.1.1))).2.1 (Kd.R_F (Kd.R_mono (ok' := (fun k_ => (w.heap.size ≤ k_))) (HO333.out) (fun k_ hk => hk.1.1.1.1.1.1.1.1))))) (Reps.one (show Kd.FK (Kd.slice 3 (Kd.int .i64)) _ _ y334 [.slice Ao29 y334.length co29] from (Kd.FK_slice_mk (Kd.R_reads' (Kd.R_mono (ok' := (fun k_ => (w.heap.size ≤ k_))) (HO336.out) (fun k_ hk => hk.1.1.1.1.1.1.1.1))).2.1 (Kd.R_F (Kd.R_mono (ok' := (fun k_ => (w.heap.size ≤ k_))) (HO336.out) (fun k_ hk => hk.1.1.1.1.1.1.1.1))))) (Reps.none _ _)))))))))); intro v338 w30 ho31 hb hg_ hnew_; clear hg_ hnew_; (first | rw [← Ny337.out] at ho31 | (simp only [Int.reduceToNat] at ho31; rw [← Ny337.out] at ho31)); have n0_ := Aside0.mk (Kd.N_lower ho31 (below_size z11_0)); have n1_ := Aside0.mk (below_step z11_0 hb); clear HB; clear HO315; clear HO318; clear HO321; clear HO324; clear HO327; clear HO330; clear HO333; clear HO336; have HO339 := n0_; have HB := n1_; clear n0_ n1_; clear hb ho31; obtain ⟨Ao32, co32, eo32⟩ := Kd.N_slice HO339.out; subst eo32; have p340 : 0 ≤ (a1 : Int) := of_decide_eq_true z11_6; have q340 : a1 < (y337.length : Int) := of_decide_eq_true z11_6; obtain ⟨ad340, A340_0, c340_0, e340, hx340_0, hl340_0, hi340_0⟩ := at_L6 (Kd.N_reads' HO339.out).2.2 a1 p340 q340; cases e340; obtain ⟨ce340, hce340, hMe340, hcc340⟩ := Kd.N_get HO339.out [] a1 p340 (by first | exact q340 | exact of_decide_eq_true z11_6 | (have e_ := (Kd.N_reads' HO339.out).1; omega)); obtain ⟨ua340_0, uc340_0, rfl, ul340_0, ge340_0⟩ := Kd.FK_slice_open hMe340; have hv340_0 := hcc340 0 _ rfl; rw [Nat.add_zero, show ((Kd.slice 3 (Kd.int .i64))).sz = 1 from rfl, Nat.mul_one] at hv340_0; replace hv340_0 := Option.some.inj (hv340_0.symm.trans hx340_0); injection hv340_0 with hva_ hvn_ hvc_; rw [hva_] at ge340_0; rw [hvc_] at ul340_0; have HL340_0 := Aside0.mk (show Kd.V (Kd.int .i64) 3 _ w.heap.size _ _ (rd_L6 y337 a1) from Kd.V_mk ul340_0 ge340_0); clear hva_ hvn_ hvc_ ge340_0 ul340_0; clear hcc340 hce340; have HR340_0 := Aside0.mk hi340_0; have HC340_0 := Aside0.mk hl340_0; clear hi340_0 hl340_0; replace p340 := eq_true p340; replace q340 := eq_true q340))
  go_ret; exact ⟨_, z11_9, by (with_reducible repeat (first | apply Kd.V_alloc | apply Kd.V_drewN | apply Kd.V_drew)); exact Kd.V_mono HL340_0.out (fun _ hk => hk.1), z11_0⟩
 ·rw [if_neg c3] at H
  have c3b0 : (a0 == 1) = false := beq_eq_false_iff_ne.mpr c3
  have c3b1 : (a0 != 1) = true := bne_iff_ne.mpr c3
  obtain ⟨y341, hy341⟩ : ∃ y_ : List Int, y_ = (([1, wrap64 (a1 + 1), Int.tmod (wrap64 ((wrap64 (a1 + 1)) * (wrap64 (a1 + 1)))) 31, Int.tmod (wrap64 ((wrap64 ((wrap64 (a1 + 1)) * (wrap64 (a1 + 1)))) * (wrap64 (a1 + 1)))) 31] : List Int)) := ⟨_, rfl⟩
  replace H : (some y341) = some r := yZZ_ hy341 H
  have Ny341 := Aside0.mk hy341
  clear hy341
  obtain rfl := Option.some.inj H
  go_enter Try.func58, Try.ntmps58
  go_wp2_with (first | ((with_reducible refine gate_dst (N := 33) rfl ?_); refine Kd.R_lit (Kd.int .i64) _ 3 ?hg (N := 33) ?hd (xs := ([1, wrap64 (a1 + 1), Int.tmod (wrap64 ((wrap64 (a1 + 1)) * (wrap64 (a1 + 1)))) 31, Int.tmod (wrap64 ((wrap64 ((wrap64 (a1 + 1)) * (wrap64 (a1 + 1)))) * (wrap64 (a1 + 1)))) 31] : List Int)) (inner := [.int .i64 1, .int .i64 (wrap64 (a1 + 1)), .int .i64 (Int.tmod (wrap64 ((wrap64 (a1 + 1)) * (wrap64 (a1 + 1)))) 31), .int .i64 (Int.tmod (wrap64 ((wrap64 ((wrap64 (a1 + 1)) * (wrap64 (a1 + 1)))) * (wrap64 (a1 + 1)))) 31)]) (ok := fun _ => True) (okp := fun _ => True) ?hr ?hp (fun _ hk => hk) trivial (Below.refl _ _) (Nat.le_refl _) (by simp) ?_; (case hd => rfl); (case hg => rfl); (case hr => first | (go_simp; done) | (go_simp; rfl)); (case hp => exact (Reps.one (show Kd.M (Kd.int .i64) _ _ _ 1 [.int .i64 1] from rfl) (Reps.one (show Kd.M (Kd.int .i64) _ _ _ (wrap64 (a1 + 1)) [.int .i64 (wrap64 (a1 + 1))] from rfl) (Reps.one (show Kd.M (Kd.int .i64) _ _ _ (Int.tmod (wrap64 ((wrap64 (a1 + 1)) * (wrap64 (a1 + 1)))) 31) [.int .i64 (Int.tmod (wrap64 ((wrap64 (a1 + 1)) * (wrap64 (a1 + 1)))) 31)] from rfl) (Reps.one (show Kd.M (Kd.int .i64) _ _ _ (Int.tmod (wrap64 ((wrap64 ((wrap64 (a1 + 1)) * (wrap64 (a1 + 1)))) * (wrap64 (a1 + 1)))) 31) [.int .i64 (Int.tmod (wrap64 ((wrap64 ((wrap64 (a1 + 1)) * (wrap64 (a1 + 1)))) * (wrap64 (a1 + 1)))) 31)] from rfl) (Reps.none _ _)))))); intro v342 w33 ho34 hb hg_ hnew_; clear hg_ hnew_; (first | rw [← Ny341.out] at ho34 | (simp only [Int.reduceToNat] at ho34; rw [← Ny341.out] at ho34)); have HO343 := Aside0.mk (Kd.R_lower (Kd.R_newM (M := fun k_ => (w.heap.size ≤ k_)) ho34 (below_size z11_0) (fun k_ h_ => h_)) (below_size z11_0)); replace HB := Aside0.mk (below_step z11_0 hb); clear hb ho34))
  go_ret; exact ⟨_, z11_9, Kd.R_V (by (with_reducible repeat (first | apply Kd.R_alloc | apply Kd.R_drewN | apply Kd.R_drew)); exact Kd.R_mono HO343.out (fun _ hk => hk.1)), z11_0⟩

/-! ### spec_l2Lead: function 66 -/
def spec_l2Lead.l0 : Nat → List Int → Int → Option (Int)
  | 0, _, _ => none
  | k + 1, x0, x3 => if x3 < (x0.length : Int) then (if 0 ≤ x3 then (if (rd x0 x3) = 0 then (spec_l2Lead.l0 k x0 (wrap64 (x3 + 1))) else (some x3)) else (none)) else (some (-1))
def spec_l2Lead.f (k : Nat) (l0 : List Int) : Option (Int) := spec_l2Lead.l0 k l0 0
set_option maxHeartbeats 8000000 in
set_option maxRecDepth 100000 in
theorem spec_l2Lead.calls (k : Nat) (A0 : Option Addr) (c0 : Nat) (l0 : List Int) (r : Int) (w : World) (hr0 : Kd.C (Kd.int .i64) w A0 l0.length l0) (hc0 : l0.length ≤ c0) (h : spec_l2Lead.f k l0 = some r) :
  Calls Try.prog 66 #[.slice A0 l0.length c0] w fun e w' => e = .returned (.int .i64 r) ∧ Drawn0 w w' := by
 have HR0 := Aside0.mk hr0
 have HC0 := Aside0.mk hc0
 clear hr0 hc0
 try unfold spec_l2Lead.f at h
 have H := h
 clear h
 have H' := Aside0.mk H
 clear H
 go_enter Try.func66, Try.ntmps66
 go_wp2
 go_loopg [3] k (fun kq v3 w' => ∃ (x3_1 : Int), v3 = .int .i64 x3_1 ∧ Aside0 (spec_l2Lead.l0 kq l0 x3_1 = some r) ∧ Aside0 (kq ≤ k) ∧ Drawn0 w w')
 case atStart => exact ⟨(0), z11_8, H', ⟨Nat.le_refl _⟩, z11_10⟩
 case round =>
  clear H'; obtain ⟨x3_1, rfl, HA, HK1, ⟨m1, rfl⟩⟩ := hrel
  cases gk with
  | zero => exact absurd HA.out (by simp [spec_l2Lead.l0])
  | succ k1 =>
   have H := HA.out
   clear HA; simp only [spec_l2Lead.l0] at H
   by_cases c2 : x3_1 < (l0.length : Int)
   ·rw [if_pos c2] at H
    have c2b0 : decide (x3_1 < (l0.length : Int)) = true := decide_eq_true c2; clear c2; obtain ⟨c3, H⟩ := ifP H; have c3b0 : decide (0 ≤ x3_1) = true := decide_eq_true c3; clear c3
    by_cases c4 : (rd l0 x3_1) = 0
    ·rw [if_pos c4] at H
     have c4b0 : ((rd l0 x3_1) == 0) = true := beq_iff_eq.mpr c4
     have c4b1 : ((rd l0 x3_1) != 0) = false := bne_eq_false_iff_eq.mpr c4
     clear c4
     have H' := Aside0.mk H
     clear H; have p344 : 0 ≤ (x3_1 : Int) := of_decide_eq_true z11_6; have q344 : x3_1 < (l0.length : Int) := of_decide_eq_true z11_6; obtain ⟨ad344, e344, hx344_0⟩ := Kd.at_int HR0.out x3_1 p344 q344; cases e344
     replace p344 := eq_true p344
     replace q344 := eq_true q344
     go_wp2
     go_roundg k1
     case measure => have := HK1.out; omega
     case rel => exact ⟨(wrap64 (x3_1 + 1)), z11_8, H', ⟨by have := HK1.out; omega⟩, z11_10⟩
    ·rw [if_neg c4] at H
     have c4b0 : ((rd l0 x3_1) == 0) = false := beq_eq_false_iff_ne.mpr c4
     have c4b1 : ((rd l0 x3_1) != 0) = true := bne_iff_ne.mpr c4
     obtain rfl := Option.some.inj H
     have p344 : 0 ≤ (x3_1 : Int) := of_decide_eq_true z11_6; have q344 : x3_1 < (l0.length : Int) := of_decide_eq_true z11_6; obtain ⟨ad344, e344, hx344_0⟩ := Kd.at_int HR0.out x3_1 p344 q344; cases e344
     replace p344 := eq_true p344
     replace q344 := eq_true q344
     go_wp2
     go_ret; exact ⟨z11_8, z11_10⟩
   ·rw [if_neg c2] at H
    have c2b0 : decide (x3_1 < (l0.length : Int)) = false := decide_eq_false c2; clear c2
    obtain rfl := Option.some.inj H
    go_wp2
    go_ret; exact ⟨z11_8, z11_10⟩

/-! ### spec_l2Scale: function 68 -/
def spec_l2Scale.l0 : Nat → List Int → Int → List Int → Int → Option (List Int)
  | 0, _, _, _, _ => none
  | k + 1, x0, x1, x5, x6 => if x6 < (x0.length : Int) then (if 0 ≤ x6 then (if x5.length < 17592186044416 then (spec_l2Scale.l0 k x0 x1 (x5 ++ [Int.tmod (wrap64 ((rd x0 x6) * x1)) 31]) (wrap64 (x6 + 1))) else (none)) else (none)) else (some x5)
def spec_l2Scale.f (k : Nat) (l0 : List Int) (a1 : Int) : Option (List Int) := spec_l2Scale.l0 k l0 a1 (([] : List Int)) 0
set_option maxHeartbeats 8000000 in
set_option maxRecDepth 100000 in
theorem spec_l2Scale.calls (k : Nat) (A0 : Option Addr) (c0 : Nat) (l0 : List Int) (a1 : Int) (r : List Int) (w : World) (hr0 : Kd.C (Kd.int .i64) w A0 l0.length l0) (hc0 : l0.length ≤ c0) (h : spec_l2Scale.f k l0 a1 = some r) :
  Calls Try.prog 68 #[.slice A0 l0.length c0, .int .i64 a1] w fun e w' => ∃ v0_ : Value, e = .returned (v0_) ∧ Kd.R (Kd.int .i64) 3 w' w.heap.size (fun _ => True) v0_ r ∧ Below w.heap.size w w' := by
 have HR0 := Aside0.mk hr0
 have HC0 := Aside0.mk hc0
 clear hr0 hc0
 have HB := Aside0.mk (Below.refl w.heap.size w)
 try unfold spec_l2Scale.f at h
 have H := h
 clear h
 obtain ⟨y345, hy345⟩ : ∃ y_ : List Int, y_ = (([] : List Int)) := ⟨_, rfl⟩
 replace H : (spec_l2Scale.l0 k l0 a1 y345 0) = some r := yZZ_ hy345 H
 have Ny345 := Aside0.mk hy345
 clear hy345
 have H' := Aside0.mk H
 clear H
 go_enter Try.func68, Try.ntmps68
 go_wp2_with (first | ((with_reducible refine gate_dst (N := 7) rfl ?_); refine Kd.R_lit (Kd.int .i64) _ 3 ?hg (N := 7) ?hd (xs := ([] : List Int)) (inner := []) (ok := fun _ => True) (okp := fun _ => True) ?hr ?hp (fun _ hk => hk) trivial (Below.refl _ _) (Nat.le_refl _) (by simp) ?_; (case hd => rfl); (case hg => rfl); (case hr => first | (go_simp; done) | (go_simp; rfl)); (case hp => exact (Reps.none _ _)); intro v346 w3 ho4 hb hg_ hnew_; clear hg_ hnew_; (first | rw [← Ny345.out] at ho4 | (simp only [Int.reduceToNat] at ho4; rw [← Ny345.out] at ho4)); have HO347 := Aside0.mk (Kd.R_lower ho4 (below_size z11_0)); replace HB := Aside0.mk (below_step z11_0 hb); clear hb ho4))
 go_loopg [5, 6] k (fun kq v5 v6 w' => ∃ (x5_1 : List Int) (x6_1 : Int), v6 = .int .i64 x6_1 ∧ Aside0 (spec_l2Scale.l0 kq l0 a1 x5_1 x6_1 = some r) ∧ Aside0 (kq ≤ k) ∧ Aside0 (Kd.R (Kd.int .i64) 3 w' w.heap.size (fun _ => True) v5 x5_1) ∧ Aside0 (Below w.heap.size w w'))
 case atStart => exact ⟨(y345), (0), z11_8, H', ⟨Nat.le_refl _⟩, ⟨by (with_reducible repeat (first | apply Kd.R_alloc | apply Kd.R_drewN | apply Kd.R_drew)); exact HO347.out⟩, ⟨z11_0⟩⟩
 case round =>
  clear H'; obtain ⟨x5_1, x6_1, rfl, HA, HK1, HO_5, HB⟩ := hrel
  cases gk with
  | zero => exact absurd HA.out (by simp [spec_l2Scale.l0])
  | succ k1 =>
   have H := HA.out
   clear HA; simp only [spec_l2Scale.l0] at H
   by_cases c5 : x6_1 < (l0.length : Int)
   ·rw [if_pos c5] at H
    have c5b0 : decide (x6_1 < (l0.length : Int)) = true := decide_eq_true c5; clear c5; obtain ⟨c6, H⟩ := ifP H; have c6b0 : decide (0 ≤ x6_1) = true := decide_eq_true c6; clear c6; obtain ⟨c7, H⟩ := ifP H
    have LMc7 := Aside0.mk c7
    clear c7
    obtain ⟨y349, hy349⟩ : ∃ y_ : List Int, y_ = (x5_1 ++ [Int.tmod (wrap64 ((rd l0 x6_1) * a1)) 31]) := ⟨_, rfl⟩
    replace H : (spec_l2Scale.l0 k1 l0 a1 y349 (wrap64 (x6_1 + 1))) = some r := yZZ_ hy349 H
    have Ny349 := Aside0.mk hy349
    clear hy349
    have H' := Aside0.mk H
    clear H; have p348 : 0 ≤ (x6_1 : Int) := of_decide_eq_true z11_6; have q348 : x6_1 < (l0.length : Int) := of_decide_eq_true z11_6; obtain ⟨ad348, e348, hx348_0⟩ := Kd.at_int HR0.out x6_1 p348 q348; cases e348
    replace hx348_0 := (HB.out.cell (World.block_lt_of_cell? w _ hx348_0)).trans hx348_0
    replace p348 := eq_true p348
    replace q348 := eq_true q348
    go_wp2_with (first | ((with_reducible refine gate_builtin (b := .append) (xs := #[.tmp 14, .tmp 22]) rfl ?_); at_builtin; refine Kd.R_append (Kd.int .i64) (w0 := w) w.heap.size rfl (.tmp 14) (.tmp 22) 28 3 (.int .i64 0) 8 rfl Try.underlying28 info3 rfl (by decide) (by omega) u5 x5_1 (Int.tmod (wrap64 ((rd l0 x6_1) * a1)) 31) [.int .i64 (Int.tmod (wrap64 ((rd l0 x6_1) * a1)) 31)] (fun _ => True) (fun _ => False) rfl rfl ?aP (fun _ hk => hk.elim) ?aF ?aO ?aB ?aS ?aL ?_; (case aP => exact rfl); (case aB => exact z11_0); (case aF => exact (fun _ _ => trivial)); (case aO => exact (by (with_reducible repeat (first | apply Kd.R_alloc | apply Kd.R_drewN | apply Kd.R_drew)); exact HO_5.out)); (case aS => exact (below_size z11_0)); (case aL => have := LMc7.out; omega); intro v350 w8 ho hb hg hat; rw [← Ny349.out] at ho; have n0_ := Aside0.mk (hb); have n1_ := Aside0.mk (ho); clear HB; clear HO_5; have HB := n0_; have HO351 := n1_; clear n0_ n1_; clear ho hb hg hat))
    go_roundg k1
    case measure => have := HK1.out; omega
    case rel => exact ⟨(y349), (wrap64 (x6_1 + 1)), z11_8, H', ⟨by have := HK1.out; omega⟩, ⟨by (with_reducible repeat (first | apply Kd.R_alloc | apply Kd.R_drewN | apply Kd.R_drew)); exact HO351.out⟩, ⟨z11_0⟩⟩
   ·rw [if_neg c5] at H
    have c5b0 : decide (x6_1 < (l0.length : Int)) = false := decide_eq_false c5; clear c5
    obtain rfl := Option.some.inj H
    go_wp2
    go_ret; exact ⟨_, z11_9, by (with_reducible repeat (first | apply Kd.R_alloc | apply Kd.R_drewN | apply Kd.R_drew)); exact HO_5.out, z11_0⟩

end Go.Proofs.Ytfgpffocieegdaa.PA
