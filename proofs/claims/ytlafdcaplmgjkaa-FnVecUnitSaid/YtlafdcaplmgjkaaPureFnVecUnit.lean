import Derived.Test.YtlafdcaplmgjkaaDrawV
import Derived.OpenShut
import Derived.Test.YtlafdcaplmgjkaaPAx15
/- What is left of the law FnVecUnit once its walk is told: a statement over lists of numbers alone, proved; no condition. -/
set_option linter.unusedVariables false
set_option linter.unusedSimpArgs false
namespace Go.Proofs.Ytlafdcaplmgjkaa.Pure
open Go.RowKit Go.Proofs.Ytlafdcaplmgjkaa.PA Go.Proofs.YtlafdcaplmgjkaaW.PrintWords Go.Proofs.YtlafdcaplmgjkaaW.PrintLast Go.Proofs.YtlafdcaplmgjkaaW.PrintMore Go.Proofs.Ytlafdcaplmgjkaa.Lin Go.Proofs.Ytlafdcaplmgjkaa.Sc

theorem u8_all {l : List Int} (h : ∀ x ∈ l, (Lit.int .u8 x).wf = true) : ∀ x ∈ l, 0 ≤ x ∧ x ≤ 255 := fun x hx => bounds_u8 (h x hx)
theorem lkInts_self {a : List Int} (ha : a.length ≤ 1000000000000) : Evp (fun k => laws_lkInts.f k a a) (· = true) := (lkInts_ev ha).mono fun r hr => by rw [hr]; simp
theorem vunit_len (a : Int) : (vunit a).1.length ≤ 4 := by unfold vunit; split <;> simp
theorem vunit_told (a : Int) : (vunit a).2 = (decide (0 ≤ a) && decide (a ≤ 3)) := by
  unfold vunit; split
  · rename_i h; rw [h]
  · rename_i h; simpa using h
theorem FnVecUnit : laws_FnVecUnit.Pure := by
  intro l hm hl hw
  refine Evp.rounds ?_
  unfold laws_FnVecUnit.f
  refine Evp.ite (fun _ => Evp.some' rfl) fun h => ?_
  refine Evp.bind (drawVecUnit_ev (u8_all hw)) fun a ha => ?_
  have hv := vunit_len a
  have ht := vunit_told a
  simp only [spec_VecUnit_eq, impl_VecUnit_eq, Option.bind_some, bne_self_eq_false]
  refine Evp.neg (by simp) ?_
  refine Evp.bind (lkInts_self (by omega)) fun t h1 => ?_
  subst h1
  refine Evp.pos rfl ?_
  refine Evp.step (fun k => by rw [laws_FnVecUnit.j0]) ?_
  refine Evp.ite (fun h2 => ?_) fun h2 => ?_
  · refine Evp.pos (by simp) ?_
    refine Evp.bind (lkInts_self (by omega)) fun t h1 => ?_
    subst h1
    refine Evp.pos rfl ?_
    have h3 : (vunit a).2 = false := by simpa using h2
    rw [h3] at ht ⊢
    refine Evp.ite (fun h4 => Evp.some' ?_) fun _ => Evp.some' rfl
    have : ¬ (a < 4) := fun h5 => by simp [show (0 ≤ a) from h4, show a ≤ 3 by omega] at ht
    simp [this]
  · have h3 : (vunit a).2 = true := by simpa using h2
    rw [ht] at h3
    simp only [Bool.and_eq_true, decide_eq_true_eq] at h3
    have h4 : a = 0 ∨ a = 1 ∨ a = 2 ∨ a = 3 := by omega
    simp only [impl_VecLead_eq, impl_VecDot_eq, impl_VecOk_eq, Option.bind_some]
    rcases h4 with rfl | rfl | rfl | rfl <;> exact Evp.eq rfl fun _ => by decide +kernel
end Go.Proofs.Ytlafdcaplmgjkaa.Pure
