/- The contract of the powers of a number, for every field element. -/
import Derived.Test.YtfgpffocieegdaaGw
set_option linter.unusedVariables false
set_option linter.unusedSimpArgs false
namespace Go.Proofs.Ytfgpffocieegdaa.PA
open Go.RowKit Go.Proofs.YtfgpffocieegdaaW.PrintWords Go.Proofs.YtfgpffocieegdaaW.PrintLast Go.Proofs.YtfgpffocieegdaaW.PrintMore

def impl_powers.f (a0 : Int) : Option (Int × Int × Int × Int) :=
  if 0 ≤ a0 ∧ a0 < 31 then some (1, 1 * a0 % 31, 1 * a0 % 31 * a0 % 31, 1 * a0 % 31 * a0 % 31 * a0 % 31) else none
set_option maxHeartbeats 2000000 in
set_option maxRecDepth 20000 in
theorem impl_powers.calls (a0 : Int) (r1 : Int) (r2 : Int) (r3 : Int) (r4 : Int) (w : World) (h : impl_powers.f a0 = some (r1, r2, r3, r4)) :
    Calls Try.prog 44 #[.int .i64 a0] w fun e w' => e = .returned (.agg #[.int .i64 r1, .int .i64 r2, .int .i64 r3, .int .i64 r4]) ∧ Below w.heap.size w w' := by
  unfold impl_powers.f at h
  split at h
  · rename_i hh
    simp only [Option.some.injEq, Prod.mk.injEq] at h; obtain ⟨rfl, rfl, rfl, rfl⟩ := h
    have z1 : (0 : Int) ≤ 1 ∧ (1 : Int) < 31 := by decide
    go_enter Try.func44, Try.ntmps44
    go_wp2_with fail
    refine wp_loop_rounds 4 ?_
    iterate 4 (rw [rounds_succ]; go_wp2_with (go_at_call 46; refine (g_etimes _ _ (by first | assumption | exact emod_range _) (by assumption) _).mono ?_; rintro e w' ⟨rfl, rfl⟩))
    refine bodyPost_ret (v := .agg #[.int .i64 1, .int .i64 (1 * a0 % 31), .int .i64 (1 * a0 % 31 * a0 % 31), .int .i64 (1 * a0 % 31 * a0 % 31 * a0 % 31)]) (by simp [results, Try.results44, go_sem]) rfl ⟨rfl, ?_⟩
    repeat (first | (with_reducible exact Below.refl _ _) | (with_reducible apply pw_below_drewN) | (with_reducible apply below_drew1) | ((with_reducible refine Below.setCell ?_ ?hs _); (case hs => first | (simp; done) | (simp; omega))) | ((with_reducible refine Below.alloc ?_ ?hs _); (case hs => first | (simp; done) | (simp; omega))))
  · cases h
end Go.Proofs.Ytfgpffocieegdaa.PA
