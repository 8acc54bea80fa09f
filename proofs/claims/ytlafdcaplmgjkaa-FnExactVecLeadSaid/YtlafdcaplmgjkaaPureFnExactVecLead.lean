import Derived.Test.YtlafdcaplmgjkaaDrawV
import Derived.OpenShut
import Derived.Test.YtlafdcaplmgjkaaPAx10
/- What is left of the law FnExactVecLead once its walk is told: a statement over lists of numbers alone, proved; no condition. -/
set_option linter.unusedVariables false
set_option linter.unusedSimpArgs false
namespace Go.Proofs.Ytlafdcaplmgjkaa.Pure
open Go.RowKit Go.Proofs.Ytlafdcaplmgjkaa.PA Go.Proofs.YtlafdcaplmgjkaaW.PrintWords Go.Proofs.YtlafdcaplmgjkaaW.PrintLast Go.Proofs.YtlafdcaplmgjkaaW.PrintMore Go.Proofs.Ytlafdcaplmgjkaa.Lin Go.Proofs.Ytlafdcaplmgjkaa.Sc

theorem eqIntS_self {a : List Int} (ha : a.length ≤ 1000000000000) : Evp (fun k => laws_eqIntS.f k a a) (· = true) := (eqIntS_ev ha).mono fun r hr => by rw [hr]; simp
theorem FnExactVecLead : laws_FnExactVecLead.Pure := by
  intro l hm hl hw
  refine Evp.rounds ?_
  unfold laws_FnExactVecLead.f
  refine Evp.ite (fun _ => Evp.some' rfl) fun h => ?_
  have hn : l.length ≤ 1048576 := by omega
  refine Evp.bind (toIntS_ev hn) fun r hr => ?_
  subst hr
  refine Evp.bind (spec_VecLead_ev (by omega)) fun t ht => ?_
  subst ht
  refine Evp.bind (toIntS_ev hn) fun r2 hr => ?_
  subst hr
  simp only [impl_VecLead_eq, Option.bind_some]
  refine Evp.pos (by first | rfl | trivial) ?_
  refine Evp.bind (toIntS_ev hn) fun r3 hr => ?_
  subst hr
  refine Evp.bind (eqIntS_self (by omega)) fun t ht => ?_
  subst ht; exact Evp.pos (by first | rfl | trivial) (Evp.some' rfl)
end Go.Proofs.Ytlafdcaplmgjkaa.Pure
