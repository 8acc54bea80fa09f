import Derived.Test.YtlafdcaplmgjkaaDrawV
import Derived.OpenShut
import Derived.Test.YtlafdcaplmgjkaaPAx14
/- What is left of the law FnExactVecSum once its walk is told: a statement over lists of numbers alone, proved; no condition. -/
set_option linter.unusedVariables false
set_option linter.unusedSimpArgs false
namespace Go.Proofs.Ytlafdcaplmgjkaa.Pure
open Go.RowKit Go.Proofs.Ytlafdcaplmgjkaa.PA Go.Proofs.YtlafdcaplmgjkaaW.PrintWords Go.Proofs.YtlafdcaplmgjkaaW.PrintLast Go.Proofs.YtlafdcaplmgjkaaW.PrintMore Go.Proofs.Ytlafdcaplmgjkaa.Lin Go.Proofs.Ytlafdcaplmgjkaa.Sc

theorem eqIntS_self {a : List Int} (ha : a.length ≤ 1000000000000) : Evp (fun k => laws_eqIntS.f k a a) (· = true) := (eqIntS_ev ha).mono fun r hr => by rw [hr]; simp
theorem vsum_len (a b : List Int) : (vsum a b).length ≤ 4 := by
  unfold vsum
  split
  · rename_i h
    simp only [Bool.and_eq_true] at h
    have h1 := (vok_iff.1 h.1).1; have h2 := (vok_iff.1 h.2).1
    rw [lsum_len (by omega)]; omega
  · simp
theorem FnExactVecSum : laws_FnExactVecSum.Pure := by
  intro l l1 hm hl hw hm1 hl1 hw1
  refine Evp.rounds ?_
  have hv := vsum_len l l1
  unfold laws_FnExactVecSum.f
  refine Evp.ite (fun _ => Evp.some' rfl) fun h => Evp.ite (fun _ => Evp.some' rfl) fun h1 => ?_
  have hn : l.length ≤ 1048576 := by omega
  have hn1 : l1.length ≤ 1048576 := by omega
  refine Evp.bind (toIntS_ev hn) fun r hr => ?_
  subst hr
  refine Evp.bind (toIntS_ev hn1) fun r1 hr => ?_
  subst hr
  refine Evp.bind (spec_VecSum_ev (by omega) (by omega)) fun t ht => ?_
  subst ht
  refine Evp.bind (toIntS_ev hn) fun r2 hr => ?_
  subst hr
  refine Evp.bind (toIntS_ev hn1) fun r3 hr => ?_
  subst hr
  refine Evp.bind (impl_VecSum_ev _ _) fun t ht => ?_
  subst ht
  refine Evp.bind (eqIntS_self (by omega)) fun t ht => ?_
  subst ht
  refine Evp.pos (by first | rfl | trivial) ?_
  refine Evp.bind (toIntS_ev hn) fun r4 hr => ?_
  subst hr
  refine Evp.bind (eqIntS_self (by omega)) fun t ht => ?_
  subst ht
  refine Evp.pos (by first | rfl | trivial) ?_
  refine Evp.bind (toIntS_ev hn1) fun r5 hr => ?_
  subst hr
  refine Evp.bind (eqIntS_self (by omega)) fun t ht => ?_
  subst ht
  refine Evp.pos (by first | rfl | trivial) ?_
  refine Evp.bind (markIntS_ev (by omega) (by omega)) fun r6 hr => ?_
  subst hr
  refine Evp.bind (markIntS_ev (by omega) (by simp only; omega)) fun r7 hr => ?_
  subst hr
  refine Evp.neg (by simp only; omega) ?_
  refine Evp.bind (eqIntS_self (by omega)) fun t ht => ?_
  subst ht
  refine Evp.step (fun k => by rw [laws_FnExactVecSum.j0]) (Evp.neg (by simp) ?_)
  refine Evp.bind (markIntS_ev (by omega) (by omega)) fun r8 hr => ?_
  subst hr
  refine Evp.bind (heldIntS_ev (by omega) (by omega)) fun r9 hr => ?_
  subst hr
  refine Evp.neg (by omega) (Evp.pos (by first | rfl | trivial) ?_)
  refine Evp.bind (toIntS_ev hn) fun r10 hr => ?_
  subst hr
  refine Evp.bind (toIntS_ev hn1) fun r11 hr => ?_
  subst hr
  refine Evp.bind (impl_VecSum_ev _ _) fun t ht => ?_
  subst ht
  refine Evp.bind (eqIntS_self (by omega)) fun t ht => ?_
  subst ht
  refine Evp.pos (by first | rfl | trivial) ?_
  refine Evp.bind (heldIntS_ev (by omega) (by omega)) fun r12 hr => ?_
  subst hr
  exact Evp.neg (by omega) (Evp.pos (by first | rfl | trivial) (Evp.some' rfl))
end Go.Proofs.Ytlafdcaplmgjkaa.Pure
