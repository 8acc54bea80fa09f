import Derived.Test.YtlafdcaplmgjkaaDrawV
import Derived.OpenShut
import Derived.Test.YtlafdcaplmgjkaaPAx12
/- What is left of the law FnExactVecDot once its walk is told: a statement over lists of numbers alone, proved; no condition. -/
set_option linter.unusedVariables false
set_option linter.unusedSimpArgs false
namespace Go.Proofs.Ytlafdcaplmgjkaa.Pure
open Go.RowKit Go.Proofs.Ytlafdcaplmgjkaa.PA Go.Proofs.YtlafdcaplmgjkaaW.PrintWords Go.Proofs.YtlafdcaplmgjkaaW.PrintLast Go.Proofs.YtlafdcaplmgjkaaW.PrintMore Go.Proofs.Ytlafdcaplmgjkaa.Lin Go.Proofs.Ytlafdcaplmgjkaa.Sc

theorem eqIntS_self {a : List Int} (ha : a.length ≤ 1000000000000) : Evp (fun k => laws_eqIntS.f k a a) (· = true) := (eqIntS_ev ha).mono fun r hr => by rw [hr]; simp
theorem FnExactVecDot : laws_FnExactVecDot.Pure := by
  intro l l1 hm hl hw hm1 hl1 hw1
  refine Evp.rounds ?_
  unfold laws_FnExactVecDot.f
  refine Evp.ite (fun _ => Evp.some' rfl) fun h => Evp.ite (fun _ => Evp.some' rfl) fun h1 => ?_
  have hn : l.length ≤ 1048576 := by omega
  have hn1 : l1.length ≤ 1048576 := by omega
  refine Evp.bind (toIntS_ev hn) fun r hr => ?_
  subst hr
  refine Evp.bind (toIntS_ev hn1) fun r1 hr => ?_
  subst hr
  refine Evp.bind (spec_VecDot_ev (by omega) (by omega)) fun t ht => ?_
  subst ht
  refine Evp.bind (toIntS_ev hn) fun r2 hr => ?_
  subst hr
  refine Evp.bind (toIntS_ev hn1) fun r3 hr => ?_
  subst hr
  simp only [impl_VecDot_eq, Option.bind_some]
  refine Evp.pos (by first | rfl | trivial) ?_
  refine Evp.bind (toIntS_ev hn) fun r4 hr => ?_
  subst hr
  refine Evp.bind (eqIntS_self (by omega)) fun t ht => ?_
  subst ht
  refine Evp.pos (by first | rfl | trivial) ?_
  refine Evp.bind (toIntS_ev hn1) fun r5 hr => ?_
  subst hr
  refine Evp.bind (eqIntS_self (by omega)) fun t ht => ?_
  subst ht; exact Evp.pos (by first | rfl | trivial) (Evp.some' rfl)
end Go.Proofs.Ytlafdcaplmgjkaa.Pure
