import Derived.Test.YtmnfkohdibgjeaaPAx0
import Derived.Test.YtmnfkohdibgjeaaPAx18
import Derived.Test.YtmnfkohdibgjeaaPAx8
import Derived.Test.YtmnfkohdibgjeaaCode
import Derived.Test.YtmnfkohdibgjeaaDrawV
import Derived.OpenShut
import Derived.Test.YtmnfkohdibgjeaaPAx18
/- What is left of the law FnExactCodeAll once its walk is told: a statement over lists of numbers alone, proved; no condition. -/
set_option linter.unusedVariables false
set_option linter.unusedSimpArgs false
namespace Go.Proofs.Ytmnfkohdibgjeaa.Pure
open Go.RowKit Go.Proofs.Ytmnfkohdibgjeaa.PA Go.Proofs.YtmnfkohdibgjeaaW.PrintWords Go.Proofs.YtmnfkohdibgjeaaW.PrintLast Go.Proofs.YtmnfkohdibgjeaaW.PrintMore Go.Proofs.Ytmnfkohdibgjeaa.Lin Go.Proofs.Ytmnfkohdibgjeaa.Sc

theorem eqIntS_self {a : List Int} (ha : a.length ≤ 1000000000000) : Evp (fun k => laws_eqIntS.f k a a) (· = true) := (eqIntS_ev ha).mono fun r hr => by rw [hr]; simp
theorem FnExactCodeAll : laws_FnExactCodeAll.Pure := by
  intro a l ha hm hl hw
  refine Evp.rounds ?_
  have hv := codeAll_len a l
  unfold laws_FnExactCodeAll.f
  refine Evp.ite (fun _ => Evp.some' rfl) fun h => ?_
  have hn : l.length ≤ 1048576 := by omega
  refine Evp.bind (toIntS_ev hn) fun r hr => ?_
  subst hr
  refine Evp.bind (spec_CodeAll_ev (by omega)) fun t ht => ?_
  subst ht
  refine Evp.bind (toIntS_ev hn) fun r2 hr => ?_
  subst hr
  refine Evp.bind (impl_CodeAll_ev _ _) fun t ht => ?_
  subst ht
  refine Evp.bind (eqIntS_self (by omega)) fun t ht => ?_
  subst ht
  refine Evp.pos (by first | rfl | trivial) ?_
  refine Evp.bind (toIntS_ev hn) fun r3 hr => ?_
  subst hr
  refine Evp.bind (eqIntS_self (by omega)) fun t ht => ?_
  subst ht
  refine Evp.pos (by first | rfl | trivial) ?_
  refine Evp.bind (markIntS_ev (by omega) (by omega)) fun r4 hr => ?_
  subst hr
  refine Evp.neg (by simp only; omega) ?_
  refine Evp.bind (eqIntS_self (by omega)) fun t ht => ?_
  subst ht
  refine Evp.step (fun k => by rw [laws_FnExactCodeAll.j0]) (Evp.neg (by simp) ?_)
  refine Evp.bind (markIntS_ev (by omega) (by omega)) fun r4 hr => ?_
  subst hr
  refine Evp.bind (heldIntS_ev (by omega) (by omega)) fun r5 hr => ?_
  subst hr
  refine Evp.neg (by omega) (Evp.pos (by first | rfl | trivial) ?_)
  refine Evp.bind (toIntS_ev hn) fun r6 hr => ?_
  subst hr
  refine Evp.bind (impl_CodeAll_ev _ _) fun t ht => ?_
  subst ht
  refine Evp.bind (eqIntS_self (by omega)) fun t ht => ?_
  subst ht
  refine Evp.pos (by first | rfl | trivial) ?_
  refine Evp.bind (heldIntS_ev (by omega) (by omega)) fun r7 hr => ?_
  subst hr
  exact Evp.neg (by omega) (Evp.pos (by first | rfl | trivial) (Evp.some' rfl))
end Go.Proofs.Ytmnfkohdibgjeaa.Pure
