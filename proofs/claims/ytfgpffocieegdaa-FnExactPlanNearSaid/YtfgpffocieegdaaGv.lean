/- The contracts of the program's own functions over vectors (arrays of four field elements), each for every argument that its plain function takes. -/
import Derived.Test.YtfgpffocieegdaaPAx0
import Derived.Test.YtfgpffocieegdaaMa
import Derived.StillTailTactics
import Derived.Deep.QuietTactic
import Derived.BigQuiet
set_option linter.unusedVariables false
set_option linter.unusedSimpArgs false
namespace Go.Proofs.Ytfgpffocieegdaa.PA
open Go.RowKit Go.Proofs.YtfgpffocieegdaaW.PrintWords Go.Proofs.YtfgpffocieegdaaW.PrintLast Go.Proofs.YtfgpffocieegdaaW.PrintMore

/-! ### single elements -/
theorem g_tmod31 {x : Int} (h : 0 ≤ x) : Int.tmod x 31 = x % 31 := Int.tmod_eq_emod_of_nonneg h
theorem g_tmod31_bounds (x : Int) : -30 ≤ Int.tmod x 31 ∧ Int.tmod x 31 ≤ 30 ∧ Int.tmod x 31 % 31 = x % 31 := by
  rcases Int.le_total 0 x with h | h
  · rw [g_tmod31 h]; omega
  · have e : Int.tmod x 31 = -(Int.tmod (-x) 31) := by rw [Int.neg_tmod, Int.neg_neg]
    rw [e, g_tmod31 (by omega)]; omega
theorem g_elementOf (x : Int) (w : World) : Calls Try.prog 54 #[.int .i64 x] w fun e w' => e = .returned (.int .i64 (x % 31)) ∧ w = w' := by
  obtain ⟨b1, b2, b3⟩ := g_tmod31_bounds x
  have e : (Int.tmod x 31 + 31) % 31 = x % 31 := by omega
  have H := Aside0.mk e
  clear e b3; go_enter Try.func54, Try.ntmps54
  go_wp2
  go_ret; exact ⟨by rw [H.out]; rfl, rfl⟩
theorem g_eplus (a b : Int) (ha : 0 ≤ a ∧ a < 31) (hb : 0 ≤ b ∧ b < 31) (w : World) : Calls Try.prog 43 #[.int .i64 a, .int .i64 b] w fun e w' => e = .returned (.int .i64 ((a + b) % 31)) ∧ w = w' := by
  obtain ⟨a0, a1⟩ := ha; obtain ⟨b0, b1⟩ := hb; go_enter Try.func43, Try.ntmps43
  go_wp2_with (go_at_call 54; refine (g_elementOf _ _).mono ?_; rintro e w' ⟨rfl, rfl⟩)
  go_ret; exact ⟨rfl, rfl⟩
theorem g_etimes (a b : Int) (ha : 0 ≤ a ∧ a < 31) (hb : 0 ≤ b ∧ b < 31) (w : World) : Calls Try.prog 46 #[.int .i64 a, .int .i64 b] w fun e w' => e = .returned (.int .i64 (a * b % 31)) ∧ w = w' := by
  have hm : 0 ≤ a * b ∧ a * b ≤ 900 := by
    constructor
    · exact Int.mul_nonneg ha.1 hb.1
    · have h1 : a * b ≤ a * 30 := Int.mul_le_mul_of_nonneg_left (by omega) ha.1
      omega
  obtain ⟨m0, m1⟩ := hm; go_enter Try.func46, Try.ntmps46
  go_wp2_with (go_at_call 54; refine (g_elementOf _ _).mono ?_; rintro e w' ⟨rfl, rfl⟩)
  go_ret; exact ⟨rfl, rfl⟩
theorem emod_range (x : Int) : 0 ≤ x % 31 ∧ x % 31 < 31 := by omega

/-! ### vectors -/
def impl_vector_plus.f (a0_0 : Int) (a0_1 : Int) (a0_2 : Int) (a0_3 : Int) (a1_0 : Int) (a1_1 : Int) (a1_2 : Int) (a1_3 : Int) : Option (Int × Int × Int × Int) :=
  if ((0 ≤ a0_0 ∧ a0_0 < 31) ∧ (0 ≤ a0_1 ∧ a0_1 < 31) ∧ (0 ≤ a0_2 ∧ a0_2 < 31) ∧ (0 ≤ a0_3 ∧ a0_3 < 31)) ∧ (0 ≤ a1_0 ∧ a1_0 < 31) ∧ (0 ≤ a1_1 ∧ a1_1 < 31) ∧ (0 ≤ a1_2 ∧ a1_2 < 31) ∧ (0 ≤ a1_3 ∧ a1_3 < 31) then
    some ((a0_0 + a1_0) % 31, (a0_1 + a1_1) % 31, (a0_2 + a1_2) % 31, (a0_3 + a1_3) % 31) else none
def impl_vector_times.f (a0_0 : Int) (a0_1 : Int) (a0_2 : Int) (a0_3 : Int) (a1 : Int) : Option (Int × Int × Int × Int) :=
  if ((0 ≤ a0_0 ∧ a0_0 < 31) ∧ (0 ≤ a0_1 ∧ a0_1 < 31) ∧ (0 ≤ a0_2 ∧ a0_2 < 31) ∧ (0 ≤ a0_3 ∧ a0_3 < 31)) ∧ (0 ≤ a1 ∧ a1 < 31) then
    some (a0_0 * a1 % 31, a0_1 * a1 % 31, a0_2 * a1 % 31, a0_3 * a1 % 31) else none
def impl_vector_lead.f (a0_0 : Int) (a0_1 : Int) (a0_2 : Int) (a0_3 : Int) : Option (Int) := some (Lin.llead [a0_0, a0_1, a0_2, a0_3])
def impl_unit.f (a0 : Int) : Option (Int × Int × Int × Int) :=
  if 0 ≤ a0 ∧ a0 < 4 then some (if a0 = 0 then 1 else 0, if a0 = 1 then 1 else 0, if a0 = 2 then 1 else 0, if a0 = 3 then 1 else 0) else none
theorem still_tail {P : Program} {id : Nat} {Q : Exit → Act → World → Prop} {a : Act} {w : World} {l : List Oper} (n : Nat) (hm : P.follows .mixedOrders = true) (hB : Region.lexTailB .any l.toArray n = true)
    (h : wpStill P l.toArray w.drew (fun a' => wpList P l.toArray Q (l.drop n) a' w.drew) (l.take n) a) : (Code.region id l.toArray true).wp P Q a w := wp_region_still_tail n hm hB h
set_option maxHeartbeats 2000000 in
set_option maxRecDepth 20000 in
theorem impl_vector_times.calls (a0_0 : Int) (a0_1 : Int) (a0_2 : Int) (a0_3 : Int) (a1 : Int) (r1 : Int) (r2 : Int) (r3 : Int) (r4 : Int) (w : World) (h : impl_vector_times.f a0_0 a0_1 a0_2 a0_3 a1 = some (r1, r2, r3, r4)) :
    Calls Try.prog 34 #[.agg #[.int .i64 a0_0, .int .i64 a0_1, .int .i64 a0_2, .int .i64 a0_3], .int .i64 a1] w fun e w' => e = .returned (.agg #[.int .i64 r1, .int .i64 r2, .int .i64 r3, .int .i64 r4]) ∧ Below w.heap.size w w' := by
  unfold impl_vector_times.f at h
  split at h
  · rename_i hh
    obtain ⟨⟨h0, h1, h2, h3⟩, hc⟩ := hh; simp only [Option.some.injEq, Prod.mk.injEq] at h; obtain ⟨rfl, rfl, rfl, rfl⟩ := h; go_enter Try.func34, Try.ntmps34
    go_wp2_with fail
    refine wp_loop_rounds 5 ?_
    iterate 5 (rw [rounds_succ]; go_wp2_with (go_at_call 46; refine (g_etimes _ _ (by assumption) (by assumption) _).mono ?_; rintro e w' ⟨rfl, rfl⟩))
    refine bodyPost_ret (v := .agg #[.int .i64 (a0_0 * a1 % 31), .int .i64 (a0_1 * a1 % 31), .int .i64 (a0_2 * a1 % 31), .int .i64 (a0_3 * a1 % 31)]) (by simp [results, Try.results34, go_sem]) rfl ⟨rfl, ?_⟩
    repeat (first | (with_reducible exact Below.refl _ _) | (with_reducible apply pw_below_drewN) | (with_reducible apply below_drew1) | ((with_reducible refine Below.setCell ?_ ?hs _); (case hs => first | (simp; done) | (simp; omega))) | ((with_reducible refine Below.alloc ?_ ?hs _); (case hs => first | (simp; done) | (simp; omega))))
  · cases h
set_option maxHeartbeats 2000000 in
set_option maxRecDepth 20000 in
theorem impl_vector_plus.calls (a0_0 : Int) (a0_1 : Int) (a0_2 : Int) (a0_3 : Int) (a1_0 : Int) (a1_1 : Int) (a1_2 : Int) (a1_3 : Int) (r1 : Int) (r2 : Int) (r3 : Int) (r4 : Int) (w : World) (h : impl_vector_plus.f a0_0 a0_1 a0_2 a0_3 a1_0 a1_1 a1_2 a1_3 = some (r1, r2, r3, r4)) :
    Calls Try.prog 32 #[.agg #[.int .i64 a0_0, .int .i64 a0_1, .int .i64 a0_2, .int .i64 a0_3], .agg #[.int .i64 a1_0, .int .i64 a1_1, .int .i64 a1_2, .int .i64 a1_3]] w fun e w' => e = .returned (.agg #[.int .i64 r1, .int .i64 r2, .int .i64 r3, .int .i64 r4]) ∧ Below w.heap.size w w' := by
  unfold impl_vector_plus.f at h
  split at h
  · rename_i hh
    obtain ⟨⟨h0, h1, h2, h3⟩, k0, k1, k2, k3⟩ := hh; simp only [Option.some.injEq, Prod.mk.injEq] at h; obtain ⟨rfl, rfl, rfl, rfl⟩ := h; go_enter Try.func32, Try.ntmps32
    go_wp2_with fail
    refine wp_loop_rounds 5 ?_
    iterate 4
      rw [rounds_succ]
      go_wp2_with fail
      refine still_tail 8 (by kernel_rfl) (by kernel_rfl) ?_; simp only [List.take_succ_cons, List.take_zero, List.drop_succ_cons, List.drop_zero]
      iterate 7 still_step
      refine wpStill_step (fun K hK => ?_)
      go_simp
      refine ⟨_, (g_eplus _ _ (by assumption) (by assumption) _).mono (fun _ _ h => ⟨h.1, h.2.symm⟩), hK _ ?_⟩; clear hK K; refine wpStill_nil ?_
      go_wp2_with fail
    rw [rounds_succ]
    go_wp2_with fail
    refine bodyPost_ret (v := .agg #[.int .i64 ((a0_0 + a1_0) % 31), .int .i64 ((a0_1 + a1_1) % 31), .int .i64 ((a0_2 + a1_2) % 31), .int .i64 ((a0_3 + a1_3) % 31)]) (by simp [results, Try.results32, go_sem]) rfl ⟨rfl, ?_⟩
    repeat (first | (with_reducible exact Below.refl _ _) | (with_reducible apply pw_below_drewN) | (with_reducible apply below_drew1) | ((with_reducible refine Below.setCell ?_ ?hs _); (case hs => first | (simp; done) | (simp; omega))) | ((with_reducible refine Below.alloc ?_ ?hs _); (case hs => first | (simp; done) | (simp; omega))))
  · cases h
set_option maxHeartbeats 1000000 in
theorem impl_unit.calls (a0 : Int) (r1 : Int) (r2 : Int) (r3 : Int) (r4 : Int) (w : World) (h : impl_unit.f a0 = some (r1, r2, r3, r4)) :
    Calls Try.prog 45 #[.int .i64 a0] w fun e w' => e = .returned (.agg #[.int .i64 r1, .int .i64 r2, .int .i64 r3, .int .i64 r4]) ∧ Below w.heap.size w w' := by
  unfold impl_unit.f at h
  split at h
  · rename_i hh
    simp only [Option.some.injEq, Prod.mk.injEq] at h; obtain ⟨rfl, rfl, rfl, rfl⟩ := h
    have hc : a0 = 0 ∨ a0 = 1 ∨ a0 = 2 ∨ a0 = 3 := by omega
    clear hh
    rcases hc with rfl | rfl | rfl | rfl
    all_goals
      go_enter Try.func45, Try.ntmps45
      go_wp2
      first
      | refine bodyPost_ret (v := .agg #[.int .i64 1, .int .i64 0, .int .i64 0, .int .i64 0]) (by simp [results, Try.results45, go_sem]; done) rfl ⟨rfl, ?_⟩
      | refine bodyPost_ret (v := .agg #[.int .i64 0, .int .i64 1, .int .i64 0, .int .i64 0]) (by simp [results, Try.results45, go_sem]; done) rfl ⟨rfl, ?_⟩
      | refine bodyPost_ret (v := .agg #[.int .i64 0, .int .i64 0, .int .i64 1, .int .i64 0]) (by simp [results, Try.results45, go_sem]; done) rfl ⟨rfl, ?_⟩
      | refine bodyPost_ret (v := .agg #[.int .i64 0, .int .i64 0, .int .i64 0, .int .i64 1]) (by simp [results, Try.results45, go_sem]; done) rfl ⟨rfl, ?_⟩
      repeat (first | (with_reducible exact Below.refl _ _) | (with_reducible apply pw_below_drewN) | (with_reducible apply below_drew1) | ((with_reducible refine Below.setCell ?_ ?hs _); (case hs => first | (simp; done) | (simp; omega))) | ((with_reducible refine Below.alloc ?_ ?hs _); (case hs => first | (simp; done) | (simp; omega))))
  · cases h

end Go.Proofs.Ytfgpffocieegdaa.PA
