import Derived.Test.YtlafdcaplmgjkaaDrawV
import Derived.OpenShut
import Derived.Test.YtlafdcaplmgjkaaPAx13
/- What is left of the law FnExactVecScale once its walk is told: a statement over lists of numbers alone, proved; no condition. -/
set_option linter.unusedVariables false
set_option linter.unusedSimpArgs false
namespace Go.Proofs.Ytlafdcaplmgjkaa.Pure
open Go.RowKit Go.Proofs.Ytlafdcaplmgjkaa.PA Go.Proofs.YtlafdcaplmgjkaaW.PrintWords Go.Proofs.YtlafdcaplmgjkaaW.PrintLast Go.Proofs.YtlafdcaplmgjkaaW.PrintMore Go.Proofs.Ytlafdcaplmgjkaa.Lin Go.Proofs.Ytlafdcaplmgjkaa.Sc

theorem eqIntS_self {a : List Int} (ha : a.length ≤ 1000000000000) : Evp (fun k => laws_eqIntS.f k a a) (· = true) := (eqIntS_ev ha).mono fun r hr => by rw [hr]; simp
theorem vscale_len (a : List Int) (c : Int) : (vscale a c).length ≤ 4 := by
  unfold vscale
  split
  · rename_i h
    simp only [Bool.and_eq_true] at h
    have h1 := (vok_iff.1 h.1).1
    rw [lscale_len]; omega
  · simp
theorem FnExactVecScale : laws_FnExactVecScale.Pure := by
  intro l c hm hl hw hc
  refine Evp.rounds ?_
  have hv := vscale_len l c
  unfold laws_FnExactVecScale.f
  refine Evp.ite (fun _ => Evp.some' rfl) fun h => ?_
  have hn : l.length ≤ 1048576 := by omega
  refine Evp.bind (toIntS_ev hn) fun r hr => ?_
  subst hr
  refine Evp.bind (spec_VecScale_ev (by omega)) fun t ht => ?_
  subst ht
  refine Evp.bind (toIntS_ev hn) fun r2 hr => ?_
  subst hr
  refine Evp.bind (impl_VecScale_ev _ _) fun t ht => ?_
  subst ht
  refine Evp.bind (eqIntS_self (by omega)) fun t ht => ?_
  subst ht
  refine Evp.pos (by first | rfl | trivial) ?_
  refine Evp.bind (toIntS_ev hn) fun r3 hr => ?_
  subst hr
  refine Evp.bind (eqIntS_self (by omega)) fun t ht => ?_
  subst ht
  refine Evp.pos (by first | rfl | trivial) ?_
  refine Evp.bind (markIntS_ev (by omega) (by omega)) fun r4 hr => ?_
  subst hr
  refine Evp.neg (by simp only; omega) ?_
  refine Evp.bind (eqIntS_self (by omega)) fun t ht => ?_
  subst ht
  refine Evp.step (fun k => by rw [laws_FnExactVecScale.j0]) (Evp.neg (by simp) ?_)
  refine Evp.bind (markIntS_ev (by omega) (by omega)) fun r4 hr => ?_
  subst hr
  refine Evp.bind (heldIntS_ev (by omega) (by omega)) fun r5 hr => ?_
  subst hr
  refine Evp.neg (by omega) (Evp.pos (by first | rfl | trivial) ?_)
  refine Evp.bind (toIntS_ev hn) fun r6 hr => ?_
  subst hr
  refine Evp.bind (impl_VecScale_ev _ _) fun t ht => ?_
  subst ht
  refine Evp.bind (eqIntS_self (by omega)) fun t ht => ?_
  subst ht
  refine Evp.pos (by first | rfl | trivial) ?_
  refine Evp.bind (heldIntS_ev (by omega) (by omega)) fun r7 hr => ?_
  subst hr
  exact Evp.neg (by omega) (Evp.pos (by first | rfl | trivial) (Evp.some' rfl))
end Go.Proofs.Ytlafdcaplmgjkaa.Pure
