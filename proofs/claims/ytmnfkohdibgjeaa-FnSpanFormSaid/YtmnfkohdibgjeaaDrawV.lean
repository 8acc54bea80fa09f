import Derived.Test.YtmnfkohdibgjeaaPCx0
import Derived.Test.YtmnfkohdibgjeaaPCx3
import Derived.Test.YtmnfkohdibgjeaaVec
/- That the functions that draw rows answer, and within which bounds. -/
set_option linter.unusedVariables false
set_option linter.unusedSimpArgs false
namespace Go.Proofs.Ytmnfkohdibgjeaa.Sc
open Go.RowKit Go.Proofs.Ytmnfkohdibgjeaa.PC Go.Proofs.YtmnfkohdibgjeaaW.PrintWords Go.Proofs.YtmnfkohdibgjeaaW.PrintLast Go.Proofs.YtmnfkohdibgjeaaW.PrintMore Go.Proofs.Ytmnfkohdibgjeaa.Lin

/-- what is drawn for a row -/
def Dr (l : List Int) : Prop := 3 ≤ l.length ∧ l.length ≤ 4 ∧ ∀ x ∈ l, -1 ≤ x ∧ x ≤ 31
theorem l91Vec_ev {l : List Int} (hs : St l) {p : Int} (hp : 0 ≤ p ∧ p ≤ 90000) : Evp (fun k => spec_l91Vec.f k l p) (fun r => Dr r.1 ∧ p ≤ r.2 ∧ r.2 ≤ p + 20) := by
  have key : ∀ d i (v : List Int) (q : Int), i + d = 4 → v.length = i → (∀ x ∈ v, -1 ≤ x ∧ x ≤ 31) → p ≤ q → q ≤ p + 4 * i → Evp (fun k => spec_l91Vec.l0 k v (i : Int) l q) (fun r => Dr r.1 ∧ p ≤ r.2 ∧ r.2 ≤ p + 20) := by
    intro d
    induction d with
    | zero =>
      intro i v q hi hv hx h1 h2
      refine Evp.step (fun k => by rw [spec_l91Vec.l0]) (Evp.neg (by omega) ?_)
      refine Evp.bind (pick_ev hs (n := 40) (by omega) (by omega)) fun r hr => ?_
      obtain ⟨a, q1⟩ := r
      simp only at hr ⊢
      refine Evp.ite (fun _ => ?_) fun _ => Evp.ite (fun _ => ?_) fun _ => ?_
      · refine Evp.pos (by omega) (Evp.some' ⟨⟨?_, ?_, fun x hx2 => hx x (List.mem_of_mem_drop hx2)⟩, ?_, ?_⟩)
        · show 3 ≤ (v.drop (Int.toNat 1)).length; rw [List.length_drop]; simp; omega
        · show (v.drop (Int.toNat 1)).length ≤ 4; rw [List.length_drop]; omega
        · show p ≤ q1; omega
        · show q1 ≤ p + 20; omega
      · refine Evp.bind (pick_ev hs (n := (v.length : Int)) (by omega) (by omega)) fun r2 hr2 => ?_
        obtain ⟨b, q2⟩ := r2
        simp only [Option.bind_some] at hr2 ⊢
        refine Evp.bind (pick_ev hs (n := 2) (by omega) (by omega)) fun r3 hr3 => ?_
        obtain ⟨c, q3⟩ := r3
        simp only at hr3 ⊢
        refine Evp.pos (by omega) (Evp.pos (by simp; omega) (Evp.pos (by omega) (Evp.pos (by omega) (Evp.some' ⟨⟨?_, ?_, fun x hx2 => ?_⟩, ?_, ?_⟩))))
        · show 3 ≤ (v.set b.toNat _).length; rw [List.length_set]; omega
        · show (v.set b.toNat _).length ≤ 4; rw [List.length_set]; omega
        · rcases List.mem_or_eq_of_mem_set hx2 with h | h
          · exact hx x h
          · have hc : c = 0 ∨ c = 1 := by omega
            rw [h]; rcases hc with rfl | rfl <;> decide
        · show p ≤ q3; omega
        · show q3 ≤ p + 20; omega
      · exact Evp.some' ⟨⟨by show 3 ≤ v.length; omega, by show v.length ≤ 4; omega, hx⟩, by show p ≤ q1; omega, by show q1 ≤ p + 20; omega⟩
    | succ d ih =>
      intro i v q hi hv hx h1 h2
      refine Evp.step (fun k => by rw [spec_l91Vec.l0]) (Evp.pos (by omega) ?_)
      refine Evp.bind (pick_ev hs (n := 4) (by omega) (by omega)) fun r hr => ?_
      obtain ⟨a, q1⟩ := r
      simp only at hr ⊢
      refine Evp.bind (pick_ev hs (n := 31) (by omega) (by omega)) fun r2 hr2 => ?_
      obtain ⟨b, q2⟩ := r2
      simp only at hr2 ⊢
      refine Evp.bind (pick_ev hs (n := 31) (by omega) (by omega)) fun r3 hr3 => ?_
      obtain ⟨c, q3⟩ := r3
      simp only [Option.bind_some] at hr3 ⊢
      refine Evp.bind (pick_ev hs (n := 4) (by omega) (by omega)) fun r4 hr4 => ?_
      obtain ⟨e, q4⟩ := r4
      simp only at hr4 ⊢
      rw [wrap_succ (by omega)]
      refine Evp.pos (by omega) (Evp.pos (by simp; omega) (Evp.pos (by omega) (ih (i + 1) _ q4 (by omega) (by simp; omega) (fun x hx2 => ?_) (by omega) (by omega))))
      rcases List.mem_append.1 hx2 with h | h
      · exact hx x h
      · have he : e = 0 ∨ e = 1 ∨ e = 2 ∨ e = 3 := by omega
        simp at h; rw [h]
        rcases he with rfl | rfl | rfl | rfl <;> simp [rd] <;> omega
  exact key 4 0 [] p rfl rfl (by simp) (by omega) (by omega)
end Go.Proofs.Ytmnfkohdibgjeaa.Sc
