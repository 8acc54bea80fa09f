import Derived.Test.YtamaejafddmagaaMa
/- Plain mathematics: the rows of the two codes. -/
set_option linter.unusedVariables false
set_option linter.unusedSimpArgs false
namespace Go.Proofs.Ytamaejafddmagaa.Lin
def lkind (k : Int) : Bool := decide (1 ≤ k) && decide (k ≤ 2)
def lshard (a : Int) : Bool := decide (0 ≤ a) && decide (a ≤ 7)
def lrow (kind at_ : Int) : List Int :=
  if kind = 1 then ([[1, 0, 0, 0], [0, 1, 0, 0], [0, 0, 1, 0], [0, 0, 0, 1], [1, 1, 0, 0], [0, 0, 1, 1], [1, 2, 4, 8], [1, 3, 9, 27]] : List (List Int)).getD at_.toNat []
  else [1, at_ + 1, (at_ + 1) * (at_ + 1) % 31, (at_ + 1) * (at_ + 1) * (at_ + 1) % 31]
def lall (kind : Int) (d : List Int) : List Int := (List.range 8).map fun (i : Nat) => ldot (lrow kind (i : Int)) d
theorem lkind_cases {k : Int} (h : lkind k = true) : k = 1 ∨ k = 2 := by
  unfold lkind at h; simp only [Bool.and_eq_true, decide_eq_true_eq] at h; omega
theorem lshard_fin {a : Int} (h : lshard a = true) : ∃ x : Fin 8, (x.val : Int) = a := by
  unfold lshard at h; simp only [Bool.and_eq_true, decide_eq_true_eq] at h
  exact ⟨⟨a.toNat, by omega⟩, by simp only; omega⟩
theorem lshard_nat {i : Nat} (h : i < 8) : lshard (i : Int) = true := by unfold lshard; simp; omega
theorem lrow_ok {k a : Int} (hk : lkind k = true) (ha : lshard a = true) : vok (lrow k a) = true := by
  have k1 : ∀ a : Fin 8, vok (lrow 1 (a.val : Int)) = true := by decide +kernel
  have k2 : ∀ a : Fin 8, vok (lrow 2 (a.val : Int)) = true := by decide +kernel
  obtain ⟨x, rfl⟩ := lshard_fin ha
  rcases lkind_cases hk with rfl | rfl
  · exact k1 x
  · exact k2 x
theorem lall_len (k : Int) (d : List Int) : (lall k d).length = 8 := by simp [lall]
end Go.Proofs.Ytamaejafddmagaa.Lin
