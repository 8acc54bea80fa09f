import Derived.Test.YtophhcgecekenaaDraw
import Derived.OpenShut
/- The laws over single numbers: what is left of each, proved. -/
set_option linter.unusedVariables false
set_option linter.unusedSimpArgs false
namespace Go.Proofs.Ytophhcgecekenaa.Pure
open Go.RowKit Go.Proofs.Ytophhcgecekenaa.PS Go.Proofs.YtophhcgecekenaaW.PrintWords Go.Proofs.YtophhcgecekenaaW.PrintLast Go.Proofs.YtophhcgecekenaaW.PrintMore Go.Proofs.Ytophhcgecekenaa.Lin Go.Proofs.Ytophhcgecekenaa.Sc

theorem u8_all {l : List Int} (h : ∀ x ∈ l, (Lit.int .u8 x).wf = true) : ∀ x ∈ l, 0 ≤ x ∧ x ≤ 255 := fun x hx => bounds_u8 (h x hx)
theorem len_mod {l : List Int} : ok ((l.length : Int) % 31) = true := mod_ok _
theorem FnExactConstants : laws_FnExactConstants.Pure := rfl
theorem FnExactFieldOk : laws_FnExactFieldOk.Pure := by
  intro a _
  unfold laws_FnExactFieldOk.f
  rw [spec_FieldOk_eq, impl_FieldOk_eq]; simp
theorem FnExactFieldDif : laws_FnExactFieldDif.Pure := by
  intro a b _ _
  unfold laws_FnExactFieldDif.f
  rw [spec_FieldDif_eq, impl_FieldDif_eq]; simp
theorem FnExactFieldMul : laws_FnExactFieldMul.Pure := by
  intro a b _ _
  unfold laws_FnExactFieldMul.f
  rw [spec_FieldMul_eq, impl_FieldMul_eq]; simp
theorem FnExactFieldSum : laws_FnExactFieldSum.Pure := by
  intro a b _ _
  unfold laws_FnExactFieldSum.f
  rw [spec_FieldSum_eq, impl_FieldSum_eq]; simp
theorem FnFieldOk : laws_FnFieldOk.Pure := by
  intro l hm hl hw
  refine Evp.rounds ?_
  unfold laws_FnFieldOk.f
  refine Evp.ite (fun _ => Evp.some' rfl) fun _ => ?_
  have hd : Evp (fun k => spec_DrawFieldOk.f k l) (fun _ => True) := by
    unfold spec_DrawFieldOk.f
    obtain ⟨l', e, hs⟩ := open_eq l (u8_all hw)
    rw [e]; simp only [Option.bind_some]
    exact Evp.bind (pick_ev hs (p := 0) (n := 41) (by omega) (by omega)) fun r _ => Evp.some' trivial
  refine Evp.bind hd fun a _ => ?_
  simp only [spec_FieldOk_eq, impl_FieldOk_eq, Option.bind_some, bne_self_eq_false, Bool.false_eq_true, if_false]
  refine Evp.ite (fun h => Evp.some' ?_) fun h => Evp.some' ?_
  · simp [ok, h]
  · simp [ok, h]
theorem FnExactFieldInv : laws_FnExactFieldInv.Pure := by
  intro a _
  refine Evp.rounds ?_
  unfold laws_FnExactFieldInv.f
  refine Evp.bind (spec_FieldInv_ev a) fun r hr => Evp.bind (impl_FieldInv_ev a) fun s hs => ?_
  subst hr; subst hs
  exact Evp.eq rfl (fun _ => by simp)
theorem FnMulNone : laws_FnMulNone.Pure := by
  intro l hm hl hw
  refine Evp.rounds ?_
  unfold laws_FnMulNone.f
  refine Evp.ite (fun _ => Evp.some' rfl) fun _ => ?_
  have hd : Evp (fun k => spec_DrawFieldMul.f k l) (fun _ => True) := by
    unfold spec_DrawFieldMul.f; exact Evp.bind (drawSum_ev (u8_all hw)) fun r _ => Evp.some' trivial
  refine Evp.bind hd fun r _ => ?_
  obtain ⟨a, b⟩ := r
  have key : ∀ c : Bool, (c = false → ok a = true ∧ ok b = true) → Evp (fun k => laws_FnMulNone.j0 k a b (fmul a b) c) (· = true) := fun c hc => by
    refine Evp.step (fun k => by rw [laws_FnMulNone.j0]) ?_
    refine Evp.ite (fun h => ?_) fun h => ?_
    · exact Evp.eq rfl (fun _ => by rw [spec_FieldMul_eq]; simp)
    · obtain ⟨ha, hb⟩ := hc (by simpa using h)
      have hz := fmul_zero_iff ha hb
      have hr := fmul_range a b
      rw [fmul_ok ha hb] at hr ⊢
      simp only [impl_FieldOk_eq, hr, Option.bind_some]
      refine Evp.ite (fun h0 => ?_) fun h0 => ?_
      · rw [if_pos (by simp [hz, h0])]; exact Evp.some' rfl
      · rw [if_pos (by rw [beq_iff_eq, Bool.eq_iff_iff, beq_iff_eq, beq_iff_eq, hz]; simp [h0])]; exact Evp.some' rfl
  simp only [impl_FieldMul_eq, spec_FieldMul_eq, spec_FieldOk_eq, Option.bind_some, if_true]
  refine Evp.ite (fun ha => ?_) fun _ => key true (by simp)
  exact key (!ok b) (fun h => ⟨ha, by simpa using h⟩)
theorem FnSumLaws : laws_FnSumLaws.Pure := by
  intro l l1 hm hl hw hm1 hl1 hw1
  refine Evp.rounds ?_
  have key1 : ∀ (a b : Int) (c : Bool), (c = false → ok a = true ∧ ok b = true) → Evp (fun k => laws_FnSumLaws.j1 k l1 a b (fsum a b) c) (· = true) := fun a b c hc => by
    refine Evp.step (fun k => by rw [laws_FnSumLaws.j1]) ?_
    refine Evp.ite (fun h => ?_) fun h => ?_
    · exact Evp.eq rfl (fun _ => by rw [spec_FieldSum_eq]; simp)
    · obtain ⟨ha, hb⟩ := hc (by simpa using h)
      have hcc : ok ((l1.length : Int) % 31) = true := mod_ok _
      simp only [lkNum_eq (Int.natCast_nonneg _), impl_FieldSum_eq, impl_FieldOk_eq, Option.bind_some]
      generalize (l1.length : Int) % 31 = c1 at *
      have h1 : fsum b a = fsum a b := by rw [fsum_ok ha hb, fsum_ok hb ha]; omega
      have h2 : fsum (fsum a b) c1 = fsum a (fsum b c1) := by
        rw [fsum_ok (fsum_range a b) hcc, fsum_ok ha (fsum_range b c1), fsum_ok ha hb, fsum_ok hb hcc]; omega
      have h3 : fsum a 0 = a := by rw [fsum_ok ha (by decide)]; rw [ok_iff] at ha; omega
      rw [if_pos h1, if_pos h2, if_pos h3, fsum_range]; exact Evp.some' rfl
  have key0 : ∀ c : Bool, Evp (fun k => laws_FnSumLaws.j0 k l l1 c) (· = true) := fun c => by
    refine Evp.step (fun k => by rw [laws_FnSumLaws.j0]) ?_
    refine Evp.ite (fun _ => Evp.some' rfl) fun _ => ?_
    refine Evp.bind (drawSum_ev (u8_all hw)) fun r _ => ?_
    obtain ⟨a, b⟩ := r
    simp only [impl_FieldSum_eq, spec_FieldSum_eq, spec_FieldOk_eq, Option.bind_some, if_true]
    refine Evp.ite (fun ha => ?_) fun _ => key1 a b true (by simp)
    exact key1 a b (!ok b) (fun h => ⟨ha, by simpa using h⟩)
  unfold laws_FnSumLaws.f
  exact Evp.ite (fun _ => key0 _) fun _ => key0 _
theorem FnSumDif : laws_FnSumDif.Pure := by
  intro l hm hl hw
  refine Evp.rounds ?_
  unfold laws_FnSumDif.f
  refine Evp.ite (fun _ => Evp.some' rfl) fun _ => ?_
  have hd : Evp (fun k => spec_DrawFieldDif.f k l) (fun _ => True) := by
    unfold spec_DrawFieldDif.f; exact Evp.bind (drawSum_ev (u8_all hw)) fun r _ => Evp.some' trivial
  refine Evp.bind hd fun r _ => ?_
  obtain ⟨a, b⟩ := r
  have key : ∀ c : Bool, (c = false → ok a = true ∧ ok b = true) → Evp (fun k => laws_FnSumDif.j0 k a b (fdif a b) c) (· = true) := fun c hc => by
    refine Evp.step (fun k => by rw [laws_FnSumDif.j0]) ?_
    refine Evp.ite (fun h => ?_) fun h => ?_
    · exact Evp.eq rfl (fun _ => by rw [spec_FieldDif_eq]; simp)
    · obtain ⟨ha, hb⟩ := hc (by simpa using h)
      simp only [impl_FieldSum_eq, impl_FieldDif_eq, Option.bind_some]
      have h1 : fsum (fdif a b) b = a := by rw [fsum_ok (fdif_range a b) hb, fdif_ok ha hb]; rw [ok_iff] at ha; omega
      have h2 : fdif (fsum a b) b = a := by rw [fdif_ok (fsum_range a b) hb, fsum_ok ha hb]; rw [ok_iff] at ha; omega
      have h3 : fdif a a = 0 := by rw [fdif_ok ha ha]; omega
      rw [if_pos h1, if_pos h2, h3]; exact Evp.some' rfl
  simp only [impl_FieldDif_eq, spec_FieldDif_eq, spec_FieldOk_eq, Option.bind_some, if_true]
  refine Evp.ite (fun ha => ?_) fun _ => key true (by simp)
  exact key (!ok b) (fun h => ⟨ha, by simpa using h⟩)
end Go.Proofs.Ytophhcgecekenaa.Pure
