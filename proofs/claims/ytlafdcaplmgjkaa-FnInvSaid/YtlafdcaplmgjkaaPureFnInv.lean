import Derived.Test.YtlafdcaplmgjkaaDrawV
import Derived.OpenShut
import Derived.Test.YtlafdcaplmgjkaaPAx11
/- What is left of the law FnInv once its walk is told: a statement over lists of numbers alone, proved; no condition. -/
set_option linter.unusedVariables false
set_option linter.unusedSimpArgs false
namespace Go.Proofs.Ytlafdcaplmgjkaa.Pure
open Go.RowKit Go.Proofs.Ytlafdcaplmgjkaa.PA Go.Proofs.YtlafdcaplmgjkaaW.PrintWords Go.Proofs.YtlafdcaplmgjkaaW.PrintLast Go.Proofs.YtlafdcaplmgjkaaW.PrintMore Go.Proofs.Ytlafdcaplmgjkaa.Lin Go.Proofs.Ytlafdcaplmgjkaa.Sc

theorem u8_all {l : List Int} (h : ∀ x ∈ l, (Lit.int .u8 x).wf = true) : ∀ x ∈ l, 0 ≤ x ∧ x ≤ 255 := fun x hx => bounds_u8 (h x hx)
theorem inv_mul {a b : Int} (ha : ok a = true) (hb : ok b = true) (ha0 : a ≠ 0) (hb0 : b ≠ 0) : inv (a * b % 31) = inv a * inv b % 31 := by
  have key : ∀ x y : Fin 31, x ≠ 0 → y ≠ 0 → inv ((x.val : Int) * (y.val : Int) % 31) = inv (x.val : Int) * inv (y.val : Int) % 31 := by decide +kernel
  obtain ⟨x, rfl⟩ := fin_of ha
  obtain ⟨y, rfl⟩ := fin_of hb
  exact key x y (fun e => ha0 (by rw [e]; rfl)) (fun e => hb0 (by rw [e]; rfl))
theorem FnInv : laws_FnInv.Pure := by
  intro l l1 hm hl hw hm1 hl1 hw1
  refine Evp.rounds ?_
  have key1 : ∀ (a : Int) (c : Bool), (c = false → ok a = true) → Evp (fun k => laws_FnInv.j1 k l1 a (finvp a).1 (finvp a).2 (finvp a).1 (finvp a).2 c) (· = true) := fun a c hc => by
    refine Evp.step (fun k => by rw [laws_FnInv.j1]) ?_
    refine Evp.ite (fun h => ?_) fun h => ?_
    · exact Evp.pos (by simp) (Evp.some' (by simp))
    · have ha := hc (by simpa using h)
      refine Evp.ite (fun h0 => ?_) fun h0 => ?_
      · subst h0
        exact Evp.neg (by decide) (Evp.some' (by decide))
      · have hb : ok (1 + (l1.length : Int) % 30) = true := by rw [ok_iff]; omega
        have hb0 : 1 + (l1.length : Int) % 30 ≠ 0 := by omega
        generalize 1 + (l1.length : Int) % 30 = b at *
        have e : finvp a = (inv a, true) := by unfold finvp; simp [ha, h0]
        have eb : finvp b = (inv b, true) := by unfold finvp; simp [hb, hb0]
        obtain ⟨i1, i2, i3, i4⟩ := inv_ok ha h0
        have hia : ok (inv a) = true := by rw [ok_iff]; omega
        have hib : ok (inv b) = true := by have := inv_range b; rw [ok_iff]; omega
        have hz : fmul a b ≠ 0 := by rw [fmul_ok ha hb, Ne, fmul_zero_iff ha hb]; simp [h0, hb0]
        have em : finvp (fmul a b) = (inv (fmul a b), true) := by unfold finvp; simp [fmul_range, hz]
        have ei : finvp (inv a) = (a, true) := by unfold finvp; rw [i4]; simp [hia, show inv a ≠ 0 by omega]
        rw [e]
        refine Evp.bind (impl_FieldInv_ev b) fun r hr => ?_
        subst hr
        simp only [impl_FieldMul_eq, Option.bind_some]
        refine Evp.bind (impl_FieldInv_ev (fmul a b)) fun r hr => ?_
        subst hr
        refine Evp.bind (impl_FieldInv_ev (inv a)) fun r hr => ?_
        subst hr
        rw [eb, em, ei]
        refine Evp.pos (by first | rfl | trivial) (Evp.pos ?_ (Evp.pos (by first | rfl | trivial) (Evp.pos (by first | rfl | trivial) (Evp.some' ?_))))
        · rw [fmul_ok ha hia]; exact i1
        · rw [fmul_ok hia hib, fmul_ok ha hb]
          simp only [beq_iff_eq]
          exact inv_mul ha hb h0 hb0
  have key0 : ∀ c : Bool, Evp (fun k => laws_FnInv.j0 k l l1 c) (· = true) := fun c => by
    refine Evp.step (fun k => by rw [laws_FnInv.j0]) ?_
    refine Evp.ite (fun _ => Evp.some' rfl) fun _ => ?_
    have hd : Evp (fun k => spec_DrawFieldInv.f k l) (fun _ => True) := by
      unfold spec_DrawFieldInv.f
      obtain ⟨l', e, hs⟩ := open_eq l (u8_all hw)
      rw [e]; simp only [Option.bind_some]
      exact Evp.bind (num_ev hs (p := 0) (by omega)) fun r _ => Evp.some' trivial
    refine Evp.bind hd fun a _ => ?_
    refine Evp.bind (spec_FieldInv_ev a) fun r hr => ?_
    subst hr
    refine Evp.bind (impl_FieldInv_ev a) fun r hr => ?_
    subst hr
    refine Evp.neg (by simp) (Evp.pos (by first | rfl | trivial) ?_)
    simp only [spec_FieldOk_eq, Option.bind_some]
    exact key1 a (!ok a) (fun h => by simpa using h)
  unfold laws_FnInv.f
  exact Evp.ite (fun _ => key0 _) fun _ => key0 _
end Go.Proofs.Ytlafdcaplmgjkaa.Pure
