import Derived.Test.YtfgpffocieegdaaMa
/- Plain mathematics: the rows of the two codes. -/
set_option linter.unusedVariables false
set_option linter.unusedSimpArgs false
namespace Go.Proofs.Ytfgpffocieegdaa.Lin
def lkind (k : Int) : Bool := decide (1 ≤ k) && decide (k ≤ 2)
def lshard (a : Int) : Bool := decide (0 ≤ a) && decide (a ≤ 7)
def lrow (kind at_ : Int) : List Int :=
  if kind = 1 then ([[1, 0, 0, 0], [0, 1, 0, 0], [0, 0, 1, 0], [0, 0, 0, 1], [1, 1, 0, 0], [0, 0, 1, 1], [1, 2, 4, 8], [1, 3, 9, 27]] : List (List Int)).getD at_.toNat []
  else [1, at_ + 1, (at_ + 1) * (at_ + 1) % 31, (at_ + 1) * (at_ + 1) * (at_ + 1) % 31]
theorem lkind_cases {k : Int} (h : lkind k = true) : k = 1 ∨ k = 2 := by
  unfold lkind at h; simp only [Bool.and_eq_true, decide_eq_true_eq] at h; omega
theorem lshard_fin {a : Int} (h : lshard a = true) : ∃ x : Fin 8, (x.val : Int) = a := by
  unfold lshard at h; simp only [Bool.and_eq_true, decide_eq_true_eq] at h
  exact ⟨⟨a.toNat, by omega⟩, by simp only; omega⟩
theorem lrow_ok {k a : Int} (hk : lkind k = true) (ha : lshard a = true) : vok (lrow k a) = true := by
  have k1 : ∀ a : Fin 8, vok (lrow 1 (a.val : Int)) = true := by decide +kernel
  have k2 : ∀ a : Fin 8, vok (lrow 2 (a.val : Int)) = true := by decide +kernel
  obtain ⟨x, rfl⟩ := lshard_fin ha
  rcases lkind_cases hk with rfl | rfl
  · exact k1 x
  · exact k2 x
end Go.Proofs.Ytfgpffocieegdaa.Lin
