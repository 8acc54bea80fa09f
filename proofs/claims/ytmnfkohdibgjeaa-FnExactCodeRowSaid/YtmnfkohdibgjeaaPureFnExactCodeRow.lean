import Derived.Test.YtmnfkohdibgjeaaPAx0
import Derived.Test.YtmnfkohdibgjeaaPAx16
import Derived.Test.YtmnfkohdibgjeaaPAx8
import Derived.Test.YtmnfkohdibgjeaaCode
import Derived.Test.YtmnfkohdibgjeaaDrawV
import Derived.OpenShut
import Derived.Test.YtmnfkohdibgjeaaPAx16
/- What is left of the law FnExactCodeRow once its walk is told: a statement over lists of numbers alone, proved; no condition. -/
set_option linter.unusedVariables false
set_option linter.unusedSimpArgs false
namespace Go.Proofs.Ytmnfkohdibgjeaa.Pure
open Go.RowKit Go.Proofs.Ytmnfkohdibgjeaa.PA Go.Proofs.YtmnfkohdibgjeaaW.PrintWords Go.Proofs.YtmnfkohdibgjeaaW.PrintLast Go.Proofs.YtmnfkohdibgjeaaW.PrintMore Go.Proofs.Ytmnfkohdibgjeaa.Lin Go.Proofs.Ytmnfkohdibgjeaa.Sc

theorem eqIntS_self {a : List Int} (ha : a.length ≤ 1000000000000) : Evp (fun k => laws_eqIntS.f k a a) (· = true) := (eqIntS_ev ha).mono fun r hr => by rw [hr]; simp
theorem FnExactCodeRow : laws_FnExactCodeRow.Pure := by
  intro a b ha hb
  refine Evp.rounds ?_
  have hv := codeRow_len a b
  unfold laws_FnExactCodeRow.f
  simp only [spec_CodeRow_eq, Option.bind_some]
  refine Evp.bind (impl_CodeRow_ev _ _) fun t ht => ?_
  subst ht
  refine Evp.bind (eqIntS_self (by omega)) fun t ht => ?_
  subst ht
  refine Evp.pos (by first | rfl | trivial) ?_
  refine Evp.step (fun k => by rw [laws_FnExactCodeRow.j0]) (Evp.neg (by simp) ?_)
  refine Evp.bind (markIntS_ev (by omega) (by omega)) fun r hr => ?_
  subst hr
  refine Evp.bind (heldIntS_ev (by omega) (by omega)) fun r hr => ?_
  subst hr
  refine Evp.neg (by omega) (Evp.pos (by first | rfl | trivial) ?_)
  refine Evp.bind (impl_CodeRow_ev _ _) fun t ht => ?_
  subst ht
  refine Evp.bind (eqIntS_self (by omega)) fun t ht => ?_
  subst ht
  refine Evp.pos (by first | rfl | trivial) ?_
  refine Evp.step (fun k => by rw [laws_FnExactCodeRow.j1]) (Evp.neg (by simp) ?_)
  refine Evp.bind (heldIntS_ev (by omega) (by omega)) fun r hr => ?_
  subst hr
  exact Evp.neg (by omega) (Evp.pos (by first | rfl | trivial) (Evp.some' rfl))
end Go.Proofs.Ytmnfkohdibgjeaa.Pure
