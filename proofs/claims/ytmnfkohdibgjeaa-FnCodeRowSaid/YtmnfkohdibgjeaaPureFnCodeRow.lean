import Derived.Test.YtmnfkohdibgjeaaPAx0
import Derived.Test.YtmnfkohdibgjeaaPAx17
import Derived.Test.YtmnfkohdibgjeaaPAx6
import Derived.Test.YtmnfkohdibgjeaaCode
import Derived.Test.YtmnfkohdibgjeaaDrawV
import Derived.OpenShut
import Derived.Test.YtmnfkohdibgjeaaPAx17
/- What is left of the law FnCodeRow once its walk is told: a statement over lists of numbers alone, proved; no condition. -/
set_option linter.unusedVariables false
set_option linter.unusedSimpArgs false
namespace Go.Proofs.Ytmnfkohdibgjeaa.Pure
open Go.RowKit Go.Proofs.Ytmnfkohdibgjeaa.PA Go.Proofs.YtmnfkohdibgjeaaW.PrintWords Go.Proofs.YtmnfkohdibgjeaaW.PrintLast Go.Proofs.YtmnfkohdibgjeaaW.PrintMore Go.Proofs.Ytmnfkohdibgjeaa.Lin Go.Proofs.Ytmnfkohdibgjeaa.Sc

theorem codeRow_told (k a : Int) : (codeRow k a).2 = (lkind k && lshard a) := by unfold codeRow; split <;> simp_all
theorem u8_all {l : List Int} (h : ∀ x ∈ l, (Lit.int .u8 x).wf = true) : ∀ x ∈ l, 0 ≤ x ∧ x ≤ 255 := fun x hx => bounds_u8 (h x hx)
theorem lkInts_self {a : List Int} (ha : a.length ≤ 1000000000000) : Evp (fun k => laws_lkInts.f k a a) (· = true) := (lkInts_ev ha).mono fun r hr => by rw [hr]; simp
theorem FnCodeRow : laws_FnCodeRow.Pure := by
  intro l hm hl hw
  refine Evp.rounds ?_
  unfold laws_FnCodeRow.f
  refine Evp.ite (fun _ => Evp.some' rfl) fun h => ?_
  refine Evp.bind (drawCodeRow_ev (u8_all hw)) fun r _ => ?_
  obtain ⟨x, a⟩ := r
  have hv := codeRow_len x a
  have ht := codeRow_told x a
  simp only [spec_CodeRow_eq, Option.bind_some]
  refine Evp.bind (impl_CodeRow_ev _ _) fun t ht => ?_
  subst ht
  refine Evp.neg (by simp) ?_
  refine Evp.bind (lkInts_self (by omega)) fun t h1 => ?_
  subst h1
  refine Evp.pos (by first | rfl | trivial) ?_
  refine Evp.step (fun k => by rw [laws_FnCodeRow.j0]) ?_
  refine Evp.ite (fun h2 => ?_) fun h2 => ?_
  · refine Evp.pos (by simp) ?_
    refine Evp.bind (lkInts_self (by omega)) fun t h1 => ?_
    subst h1
    refine Evp.pos (by first | rfl | trivial) ?_
    have hs : ∀ a : Int, 0 ≤ a → lshard a = decide (a < 8) := fun a h => by unfold lshard; simp [h, show (a ≤ 7) = (a < 8) by rw [eq_iff_iff]; omega]
    have hs2 : ∀ a : Int, ¬ 0 ≤ a → lshard a = false := fun a h => by unfold lshard; simp [h]
    have hk : ∀ k : Int, ¬ k = 1 → ¬ k = 2 → lkind k = false := fun k h1 h2 => by unfold lkind; simp; omega
    rw [ht]
    refine Evp.ite (fun e1 => Evp.ite (fun e2 => Evp.some' ?_) fun e2 => Evp.some' ?_) fun e1 => Evp.ite (fun e3 => Evp.ite (fun e2 => Evp.some' ?_) fun e2 => Evp.some' ?_) fun e3 => Evp.some' ?_
    · rw [e1, hs a e2]; simp [show lkind 1 = true by decide]
    · rw [hs2 a e2]; simp
    · rw [e3, hs a e2]; simp [show lkind 2 = true by decide]
    · rw [hs2 a e2]; simp
    · rw [hk x e1 e3]; simp
  · have h3 : (codeRow x a).2 = true := by simpa using h2
    rw [ht] at h3
    have hb : lkind x = true ∧ lshard a = true := by simpa using h3
    have e : (codeRow x a).1 = lrow x a := by unfold codeRow; rw [hb.1, hb.2]; rfl
    have hok := lrow_ok hb.1 hb.2
    have v1 : ∀ a : Fin 8, vlead (lrow 1 (a.val : Int)) ≥ 0 := by decide +kernel
    have v2 : ∀ a : Fin 8, vlead (lrow 2 (a.val : Int)) ≥ 0 := by decide +kernel
    have u1 : ∀ a : Fin 8, (vunit (a.val : Int)).2 = true → (vunit (a.val : Int)).1 = lrow 1 (a.val : Int) := by decide +kernel
    simp only [impl_VecUnit_eq, impl_VecOk_eq, impl_VecLead_eq, Option.bind_some, e]
    obtain ⟨y, rfl⟩ := lshard_fin hb.2
    refine Evp.pos hok (Evp.pos ?_ (Evp.ite (fun e1 => Evp.ite (fun e2 => ?_) fun _ => Evp.some' rfl) fun _ => Evp.some' rfl))
    · rcases lkind_cases hb.1 with rfl | rfl
      · exact v1 y
      · exact v2 y
    · rw [u1 y e2, e1]
      exact Evp.bind (lkInts_self (by have := (vok_iff.1 (lrow_ok (show lkind 1 = true by decide) hb.2)).1; omega)) fun t h1 => Evp.some' h1
end Go.Proofs.Ytmnfkohdibgjeaa.Pure
