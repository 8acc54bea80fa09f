import Derived.Test.YtamaejafddmagaaMa
/- Plain mathematics: of more rows as many tidy rows, or more. -/
set_option linter.unusedVariables false
set_option linter.unusedSimpArgs false
namespace Go.Proofs.Ytamaejafddmagaa.Lin

theorem asc_len : ∀ (a b : List Nat), a.Pairwise (· < ·) → (∀ x ∈ a, x ∈ b) → a.length ≤ b.length := by
  intro a
  induction a with
  | nil => intro b _ _; simp
  | cons x a ih =>
    intro b ha hs
    have hx : x ∈ b := hs x (by simp)
    rw [List.pairwise_cons] at ha
    have h1 := ih (b.erase x) ha.2 (fun y hy => (List.mem_erase_of_ne (by have := ha.1 y hy; omega)).2 (hs y (by simp [hy])))
    have h2 := List.length_erase_of_mem hx
    have h3 : 0 < b.length := List.length_pos_of_mem hx
    simp only [List.length_cons]; omega
theorem rref_mono {R R' : List W} (h : Rref R) (h' : Rref R') (hs : ∀ r ∈ R, In R' r) : R.length ≤ R'.length := by
  have := asc_len (R.map ld) (R'.map ld) h.asc (fun x hx => by
    obtain ⟨r, hr, rfl⟩ := List.mem_map.1 hx
    obtain ⟨s, hs2, e⟩ := h'.begins (hs r hr) (h.one r hr).1
    rw [← e]; exact List.mem_map_of_mem hs2)
  simpa using this
theorem ltidy_mono {m m' : List (List Int)} (hm : ∀ r ∈ m, vok r = true) (hm' : ∀ r ∈ m', vok r = true) (h : ∀ r ∈ m, In (m'.map toW) (toW r)) : (ltidy m).length ≤ (ltidy m').length := by
  have := rref_mono (ltidy_rref hm) (ltidy_rref hm') (fun r hr => (ltidy_in hm' r).2 (In.sub (fun s hs => by
    obtain ⟨x, hx, rfl⟩ := List.mem_map.1 hs
    exact h x hx) ((ltidy_in hm r).1 (In.mem hr))))
  simpa using this
end Go.Proofs.Ytamaejafddmagaa.Lin
