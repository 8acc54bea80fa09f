import Derived.Test.YtlafdcaplmgjkaaDrawV
import Derived.OpenShut
import Derived.Test.YtlafdcaplmgjkaaPAx7
/- What is left of the law FnExactVecUnit once its walk is told: a statement over lists of numbers alone, proved; no condition. -/
set_option linter.unusedVariables false
set_option linter.unusedSimpArgs false
namespace Go.Proofs.Ytlafdcaplmgjkaa.Pure
open Go.RowKit Go.Proofs.Ytlafdcaplmgjkaa.PA Go.Proofs.YtlafdcaplmgjkaaW.PrintWords Go.Proofs.YtlafdcaplmgjkaaW.PrintLast Go.Proofs.YtlafdcaplmgjkaaW.PrintMore Go.Proofs.Ytlafdcaplmgjkaa.Lin Go.Proofs.Ytlafdcaplmgjkaa.Sc

theorem eqIntS_self {a : List Int} (ha : a.length ≤ 1000000000000) : Evp (fun k => laws_eqIntS.f k a a) (· = true) := (eqIntS_ev ha).mono fun r hr => by rw [hr]; simp
theorem vunit_len (a : Int) : (vunit a).1.length ≤ 4 := by unfold vunit; split <;> simp
theorem FnExactVecUnit : laws_FnExactVecUnit.Pure := by
  intro a ha
  refine Evp.rounds ?_
  have hv := vunit_len a
  unfold laws_FnExactVecUnit.f
  simp only [spec_VecUnit_eq, impl_VecUnit_eq, Option.bind_some, bne_self_eq_false]
  refine Evp.bind (eqIntS_self (by omega)) fun t ht => ?_
  subst ht
  refine Evp.pos (by first | rfl | trivial) ?_
  refine Evp.step (fun k => by rw [laws_FnExactVecUnit.j0]) (Evp.neg (by simp) ?_)
  refine Evp.bind (markIntS_ev (by omega) (by omega)) fun r hr => ?_
  subst hr
  refine Evp.bind (heldIntS_ev (by omega) (by omega)) fun r hr => ?_
  subst hr
  refine Evp.neg (by omega) (Evp.pos (by first | rfl | trivial) ?_)
  simp only [impl_VecUnit_eq, Option.bind_some, bne_self_eq_false]
  refine Evp.bind (eqIntS_self (by omega)) fun t ht => ?_
  subst ht
  refine Evp.pos (by first | rfl | trivial) ?_
  refine Evp.step (fun k => by rw [laws_FnExactVecUnit.j1]) (Evp.neg (by simp) ?_)
  refine Evp.bind (heldIntS_ev (by omega) (by omega)) fun r hr => ?_
  subst hr
  exact Evp.neg (by omega) (Evp.pos (by first | rfl | trivial) (Evp.some' rfl))
end Go.Proofs.Ytlafdcaplmgjkaa.Pure
