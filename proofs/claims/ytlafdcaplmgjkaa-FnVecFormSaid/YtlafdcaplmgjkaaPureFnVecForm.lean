import Derived.Test.YtlafdcaplmgjkaaDrawV
import Derived.OpenShut
import Derived.Test.YtlafdcaplmgjkaaPAx8
/- What is left of the law FnVecForm once its walk is told: a statement over lists of numbers alone, proved; no condition. -/
set_option linter.unusedVariables false
set_option linter.unusedSimpArgs false
namespace Go.Proofs.Ytlafdcaplmgjkaa.Pure
open Go.RowKit Go.Proofs.Ytlafdcaplmgjkaa.PA Go.Proofs.YtlafdcaplmgjkaaW.PrintWords Go.Proofs.YtlafdcaplmgjkaaW.PrintLast Go.Proofs.YtlafdcaplmgjkaaW.PrintMore Go.Proofs.Ytlafdcaplmgjkaa.Lin Go.Proofs.Ytlafdcaplmgjkaa.Sc

theorem u8_all {l : List Int} (h : ∀ x ∈ l, (Lit.int .u8 x).wf = true) : ∀ x ∈ l, 0 ≤ x ∧ x ≤ 255 := fun x hx => bounds_u8 (h x hx)
theorem FnVecForm : laws_FnVecForm.Pure := by
  intro l l1 hm hl hw hm1 hl1 hw1
  refine Evp.rounds ?_
  have key1 : ∀ (v : List Int) (t c : Bool), v.length ≤ 10 → t = vok v → (c = false → vok v = true) → Evp (fun k => laws_FnVecForm.j1 k l1 v t c) (· = true) := fun v t c hv ht hc => by
    refine Evp.step (fun k => by rw [laws_FnVecForm.j1]) ?_
    refine Evp.ite (fun h => ?_) fun h => ?_
    · refine Evp.bind (spec_VecOk_ev (by omega)) fun r hr => ?_
      subst hr; subst ht
      exact Evp.some' (by simp)
    · have hvv := hc (by simpa using h)
      obtain ⟨a, b, cc, d, rfl, ha, hb, hcc, hd⟩ := vok_four hvv
      have h5 : vok [b, cc, d] = false := by unfold vok; simp
      have h6 : vok [a, b, cc, d, 0] = false := by unfold vok; simp
      have h7 : vok ([a, b, cc, d].set ((l1.length : Int) % 4).toNat 31) = false := by
        have hk : ok 31 = false := by decide
        have hp : ((l1.length : Int) % 4).toNat < 4 := by omega
        generalize ((l1.length : Int) % 4).toNat = p at *
        have : p = 0 ∨ p = 1 ∨ p = 2 ∨ p = 3 := by omega
        rcases this with rfl | rfl | rfl | rfl <;> (unfold vok; simp [hk])
      simp only [impl_VecOk_eq, Option.bind_some, List.nil_append, List.length_nil, List.length_cons, List.cons_append, List.drop_succ_cons, List.drop_zero]
      refine Evp.pos (by decide) (Evp.neg (by decide) (Evp.pos (by omega) (Evp.pos (by omega) (Evp.pos (by decide) (Evp.pos (by decide) ?_)))))
      rw [h5]
      refine Evp.neg (by decide) (Evp.pos (by decide) (Evp.pos (by decide) ?_))
      rw [h6]
      refine Evp.neg (by decide) (Evp.some' ?_)
      show (!vok ([a, b, cc, d].set ((l1.length : Int) % 4).toNat 31)) = true
      rw [h7]; rfl
  have key0 : ∀ c : Bool, Evp (fun k => laws_FnVecForm.j0 k l l1 c) (· = true) := fun c => by
    refine Evp.step (fun k => by rw [laws_FnVecForm.j0]) ?_
    refine Evp.ite (fun _ => Evp.some' rfl) fun _ => ?_
    refine Evp.bind (drawVecOk_ev (u8_all hw)) fun v hv => ?_
    simp only [impl_VecOk_eq, Option.bind_some]
    refine Evp.bind (spec_VecOk_ev (by omega)) fun t ht => ?_
    subst ht
    refine Evp.ite (fun _ => key1 v _ true hv rfl (by simp)) fun _ => key1 v _ _ hv rfl (by simp)
  unfold laws_FnVecForm.f
  exact Evp.ite (fun _ => key0 _) fun _ => key0 _
end Go.Proofs.Ytlafdcaplmgjkaa.Pure
