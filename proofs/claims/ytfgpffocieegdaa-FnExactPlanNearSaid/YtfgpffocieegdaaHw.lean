import Derived.Test.YtfgpffocieegdaaPAx0
import Derived.Test.YtfgpffocieegdaaHv
import Derived.Test.YtfgpffocieegdaaLm
/- impl.planOf: what it computes, and its contract. -/
set_option linter.unusedVariables false
set_option linter.unusedSimpArgs false
namespace Go.Proofs.Ytfgpffocieegdaa.PA
open Go.RowKit Go.Proofs.Ytfgpffocieegdaa.PA Go.Proofs.YtfgpffocieegdaaW.PrintWords Go.Proofs.YtfgpffocieegdaaW.PrintLast Go.Proofs.YtfgpffocieegdaaW.PrintMore

/-- the first plan, of fewest -/
def impl_planOf.f (a0 a1 : Int) (l2 : List Int) : Option (Int × List Int × List Int × Bool) :=
  if (Lin.lkind a0 && Lin.lshard a1 && l2.all Lin.lshard && decide (l2.length ≤ 8)) = true then some (Pure.planRes a0 a1 (planS (Pure.pOk a0 a1) (Sd.others a1 l2) 4 1)) else none
theorem impl_planOf.calls (a0 : Int) (a1 : Int) (A2 : Option Addr) (c2 : Nat) (l2 : List Int) (r1 : Int) (r2 : List Int) (r3 : List Int) (r4 : Bool) (w : World) (hr2 : Kd.C (Kd.int .i64) w A2 l2.length l2) (hc2 : l2.length ≤ c2) (h : impl_planOf.f a0 a1 l2 = some (r1, r2, r3, r4)) :
  Calls Try.prog 20 #[.int .i64 a0, .int .i64 a1, .slice A2 l2.length c2] w fun e w' => ∃ v1_ v2_ : Value, e = .returned (.tuple #[.agg #[.int .i64 r1, clip v1_, v2_], .bool r4]) ∧ Kd.R (Kd.int .i64) 3 w' w.heap.size (fun k_ => some k_ ≠ (v2_ : Value).ownBlock) v1_ r2 ∧ Kd.R (Kd.int .i64) 3 w' w.heap.size (fun k_ => some k_ ≠ (v1_ : Value).ownBlock) v2_ r3 ∧ Below w.heap.size w w' := by
 unfold impl_planOf.f at h
 split at h
 ·rename_i hh
  simp only [Bool.and_eq_true, List.all_eq_true, decide_eq_true_eq] at hh; obtain ⟨⟨⟨hk, hl⟩, hx⟩, h8⟩ := hh
  have hP : ∀ xs : List Int, xs.length ≤ 4 → (∀ x ∈ xs, x ∈ Sd.others a1 l2) → PlanTells a0 a1 xs (Pure.pBy a0 a1 xs) (Pure.pOk a0 a1 xs) := fun xs h4 hm A c w' hC hc => by
   obtain ⟨k, hk'⟩ := Pure.Evp.rounds (Pure.planBy_ev hk hl (fun x hm' => hx x (List.mem_filter.1 (hm x hm')).1) (by omega : xs.length ≤ 8)); exact impl_planBy.calls k a0 a1 A c xs _ _ w' hC hc hk'
  refine (impl_planOf.callsG a0 a1 A2 c2 l2 (Pure.pOk a0 a1) (Pure.pBy a0 a1) hP (by omega) w hr2 hc2 _ rfl).mono ?_; intro e w' hp; unfold PlanPost at hp
  cases hs : planS (Pure.pOk a0 a1) (Sd.others a1 l2) 4 1 with
  | none =>
   rw [hs] at hp h; obtain ⟨rfl, hb⟩ := hp; simp only [Pure.planRes, Option.some.injEq, Prod.mk.injEq] at h; obtain ⟨rfl, rfl, rfl, rfl⟩ := h; exact ⟨.slice none 0 0, .slice none 0 0, rfl, Kd.R_nil _ _ _ _ _, Kd.R_nil _ _ _ _ _, hb⟩
  | some ys =>
   rw [hs] at hp h; obtain ⟨v1, v2, rfl, h1, h2, hb⟩ := hp; simp only [Pure.planRes, Option.some.injEq, Prod.mk.injEq] at h; obtain ⟨rfl, rfl, rfl, rfl⟩ := h; exact ⟨v1, v2, rfl, h1, h2, hb⟩
 ·cases h
end Go.Proofs.Ytfgpffocieegdaa.PA
