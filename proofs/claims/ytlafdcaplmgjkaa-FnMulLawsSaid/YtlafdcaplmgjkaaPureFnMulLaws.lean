import Derived.Test.YtlafdcaplmgjkaaDrawV
import Derived.OpenShut
import Derived.Test.YtlafdcaplmgjkaaPAx9
/- What is left of the law FnMulLaws once its walk is told: a statement over lists of numbers alone, proved; no condition. -/
set_option linter.unusedVariables false
set_option linter.unusedSimpArgs false
namespace Go.Proofs.Ytlafdcaplmgjkaa.Pure
open Go.RowKit Go.Proofs.Ytlafdcaplmgjkaa.PA Go.Proofs.YtlafdcaplmgjkaaW.PrintWords Go.Proofs.YtlafdcaplmgjkaaW.PrintLast Go.Proofs.YtlafdcaplmgjkaaW.PrintMore Go.Proofs.Ytlafdcaplmgjkaa.Lin Go.Proofs.Ytlafdcaplmgjkaa.Sc

theorem u8_all {l : List Int} (h : ∀ x ∈ l, (Lit.int .u8 x).wf = true) : ∀ x ∈ l, 0 ≤ x ∧ x ≤ 255 := fun x hx => bounds_u8 (h x hx)
theorem FnMulLaws : laws_FnMulLaws.Pure := by
  intro l l1 hm hl hw hm1 hl1 hw1
  refine Evp.rounds ?_
  have key1 : ∀ (a b : Int) (c : Bool), (c = false → ok a = true ∧ ok b = true) → Evp (fun k => laws_FnMulLaws.j1 k l1 a b (fmul a b) c) (· = true) := fun a b c hc => by
    refine Evp.step (fun k => by rw [laws_FnMulLaws.j1]) ?_
    refine Evp.ite (fun h => ?_) fun h => ?_
    · exact Evp.eq rfl (fun _ => by rw [spec_FieldMul_eq]; simp)
    · obtain ⟨ha, hb⟩ := hc (by simpa using h)
      have hcc : ok ((l1.length : Int) % 31) = true := mod_ok _
      simp only [lkNum_eq (Int.natCast_nonneg _), impl_FieldMul_eq, impl_FieldSum_eq, Option.bind_some]
      generalize (l1.length : Int) % 31 = c1 at *
      have h1 : fmul b a = fmul a b := by rw [fmul_ok ha hb, fmul_ok hb ha, mul_comm_mod]
      have h2 : fmul (fmul a b) c1 = fmul a (fmul b c1) := by
        rw [fmul_ok (fmul_range a b) hcc, fmul_ok ha (fmul_range b c1), fmul_ok ha hb, fmul_ok hb hcc, mul_assoc_mod]
      have h3 : fmul a 1 = a := by rw [fmul_ok ha (by decide)]; rw [ok_iff] at ha; omega
      have h4 : fmul a (fsum b c1) = fsum (fmul a b) (fmul a c1) := by
        rw [fmul_ok ha (fsum_range b c1), fsum_ok hb hcc, fsum_ok (fmul_range a b) (fmul_range a c1), fmul_ok ha hb, fmul_ok ha hcc, mul_add_mod]
      refine Evp.pos h1 (Evp.pos h2 (Evp.pos h3 (Evp.some' ?_)))
      rw [h4]; simp
  have key0 : ∀ c : Bool, Evp (fun k => laws_FnMulLaws.j0 k l l1 c) (· = true) := fun c => by
    refine Evp.step (fun k => by rw [laws_FnMulLaws.j0]) ?_
    refine Evp.ite (fun _ => Evp.some' rfl) fun _ => ?_
    have hd : Evp (fun k => spec_DrawFieldMul.f k l) (fun _ => True) := by
      unfold spec_DrawFieldMul.f; exact Evp.bind (drawSum_ev (u8_all hw)) fun r _ => Evp.some' trivial
    refine Evp.bind hd fun r _ => ?_
    obtain ⟨a, b⟩ := r
    simp only [impl_FieldMul_eq, spec_FieldMul_eq, spec_FieldOk_eq, Option.bind_some, if_true]
    refine Evp.ite (fun ha => ?_) fun _ => key1 a b true (by simp)
    exact key1 a b (!ok b) (fun h => ⟨ha, by simpa using h⟩)
  unfold laws_FnMulLaws.f
  exact Evp.ite (fun _ => key0 _) fun _ => key0 _
end Go.Proofs.Ytlafdcaplmgjkaa.Pure
