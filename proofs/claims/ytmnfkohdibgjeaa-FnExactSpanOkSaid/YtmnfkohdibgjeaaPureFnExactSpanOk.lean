import Derived.Test.YtmnfkohdibgjeaaPCx0
import Derived.Test.YtmnfkohdibgjeaaPCx7
import Derived.Test.YtmnfkohdibgjeaaMatEv
import Derived.OpenShut
import Derived.Test.YtmnfkohdibgjeaaPCx7
/- What is left of the law FnExactSpanOk once its walk is told: a statement over lists of numbers alone, proved; no condition. -/
set_option linter.unusedVariables false
set_option linter.unusedSimpArgs false
namespace Go.Proofs.Ytmnfkohdibgjeaa.Pure
open Go.RowKit Go.Proofs.Ytmnfkohdibgjeaa.PC Go.Proofs.YtmnfkohdibgjeaaW.PrintWords Go.Proofs.YtmnfkohdibgjeaaW.PrintLast Go.Proofs.YtmnfkohdibgjeaaW.PrintMore Go.Proofs.Ytmnfkohdibgjeaa.Lin Go.Proofs.Ytmnfkohdibgjeaa.Sc

theorem FnExactSpanOk (m : List (List Int)) (hm : m.length ≤ maxLen) (hr : ∀ r ∈ m, r.length ≤ maxLen) : ∃ k, laws_FnExactSpanOk.f k m = some true := by
  refine Evp.rounds ?_
  unfold laws_FnExactSpanOk.f
  refine Evp.bind (szIntSS_ev hm hr) fun t ht => ?_
  refine Evp.ite (fun _ => Evp.some' rfl) fun h0 => ?_
  obtain ⟨h1, h2⟩ := ht.resolve_left h0
  refine Evp.bind (toIntSS_ev h1 h2) fun t ht => ?_
  subst ht
  refine Evp.bind (spec_SpanOk_ev h1 h2) fun t ht => ?_
  subst ht
  refine Evp.bind (toIntSS_ev h1 h2) fun t ht => ?_
  subst ht
  refine Evp.bind (impl_SpanOk_ev h1) fun t ht => ?_
  subst ht
  refine Evp.neg (by simp) ?_
  refine Evp.bind (toIntSS_ev h1 h2) fun t ht => ?_
  subst ht
  refine Evp.bind (eqIntSS_self h1 h2) fun t ht => ?_
  subst ht
  exact Evp.pos (by first | rfl | trivial) (Evp.some' rfl)
end Go.Proofs.Ytmnfkohdibgjeaa.Pure
