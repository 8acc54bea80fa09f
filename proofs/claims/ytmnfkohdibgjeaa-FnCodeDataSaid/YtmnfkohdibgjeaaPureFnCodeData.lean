import Derived.Test.YtmnfkohdibgjeaaPAx0
import Derived.Test.YtmnfkohdibgjeaaPAx20
import Derived.Test.YtmnfkohdibgjeaaPAx6
import Derived.Test.YtmnfkohdibgjeaaCode
import Derived.Test.YtmnfkohdibgjeaaDrawV
import Derived.OpenShut
import Derived.Test.YtmnfkohdibgjeaaPAx20
/- What is left of the law FnCodeData once its walk is told: a statement over lists of numbers alone, proved; no condition. -/
set_option linter.unusedVariables false
set_option linter.unusedSimpArgs false
namespace Go.Proofs.Ytmnfkohdibgjeaa.Pure
open Go.RowKit Go.Proofs.Ytmnfkohdibgjeaa.PA Go.Proofs.YtmnfkohdibgjeaaW.PrintWords Go.Proofs.YtmnfkohdibgjeaaW.PrintLast Go.Proofs.YtmnfkohdibgjeaaW.PrintMore Go.Proofs.Ytmnfkohdibgjeaa.Lin Go.Proofs.Ytmnfkohdibgjeaa.Sc

theorem codeAll_some {k : Int} {d : List Int} (h : (codeAll k d).length ≠ 0) : vok d = true ∧ lkind k = true ∧ codeAll k d = lall k d := by
  unfold codeAll at h ⊢
  split at h
  · rename_i hh
    rw [if_pos hh]
    simp only [Bool.and_eq_true] at hh
    exact ⟨hh.1, hh.2, rfl⟩
  · simp at h
theorem lall_local {d0 d1 d2 d3 : Int} (h : vok [d0, d1, d2, d3] = true) : lall 1 [d0, d1, d2, d3] = [d0, d1, d2, d3, fsum d0 d1, fsum d2 d3, (1 * d0 + 2 * d1 + 4 * d2 + 8 * d3) % 31, (1 * d0 + 3 * d1 + 9 * d2 + 27 * d3) % 31] := by
  have c := (vok_iff.1 h).2
  have h0 : ok d0 = true := c d0 (by simp)
  have h1 : ok d1 = true := c d1 (by simp)
  have h2 : ok d2 = true := c d2 (by simp)
  have h3 : ok d3 = true := c d3 (by simp)
  have e : lall 1 [d0, d1, d2, d3] = [ldot [1, 0, 0, 0] [d0, d1, d2, d3], ldot [0, 1, 0, 0] [d0, d1, d2, d3], ldot [0, 0, 1, 0] [d0, d1, d2, d3], ldot [0, 0, 0, 1] [d0, d1, d2, d3], ldot [1, 1, 0, 0] [d0, d1, d2, d3], ldot [0, 0, 1, 1] [d0, d1, d2, d3], ldot [1, 2, 4, 8] [d0, d1, d2, d3], ldot [1, 3, 9, 27] [d0, d1, d2, d3]] := rfl
  rw [e, fsum_ok h0 h1, fsum_ok h2 h3]
  rw [ok_iff] at h0 h1 h2 h3
  simp only [ldot_four, List.cons.injEq, and_true]
  refine ⟨?_, ?_, ?_, ?_, ?_, ?_⟩ <;> omega
theorem u8_all {l : List Int} (h : ∀ x ∈ l, (Lit.int .u8 x).wf = true) : ∀ x ∈ l, 0 ≤ x ∧ x ≤ 255 := fun x hx => bounds_u8 (h x hx)
theorem lkInts_self {a : List Int} (ha : a.length ≤ 1000000000000) : Evp (fun k => laws_lkInts.f k a a) (· = true) := (lkInts_ev ha).mono fun r hr => by rw [hr]; simp
theorem FnCodeData : laws_FnCodeData.Pure := by
  intro l hm hl hw
  refine Evp.rounds ?_
  unfold laws_FnCodeData.f
  refine Evp.ite (fun _ => Evp.some' rfl) fun h => ?_
  refine Evp.bind (drawCodeAll_ev (u8_all hw)) fun r hr => ?_
  obtain ⟨x, d⟩ := r
  simp only at hr ⊢
  have hv := codeAll_len x d
  have key : ∀ c : Bool, (c = false → x = 1 ∧ (codeAll x d).length ≠ 0) → Evp (fun k => laws_FnCodeData.j0 k x d (codeAll x d) c) (· = true) := fun c hc => by
    refine Evp.step (fun k => by rw [laws_FnCodeData.j0]) ?_
    refine Evp.ite (fun _ => ?_) fun h => ?_
    · refine Evp.bind (spec_CodeAll_ev (by omega)) fun t ht => ?_
      subst ht
      exact Evp.bind (lkInts_self (by omega)) fun t ht => Evp.some' ht
    · obtain ⟨rfl, h2⟩ := hc (by simpa using h)
      obtain ⟨hd, hk, e⟩ := codeAll_some h2
      obtain ⟨d0, d1, d2, d3, rfl, _⟩ := vok_four hd
      rw [e, lall_local hd]
      refine Evp.pos (by simp) ?_
      refine Evp.bind (lkInts_self (a := [d0, d1, d2, d3]) (by simp)) fun t ht => ?_
      subst ht
      simp only [impl_FieldSum_eq, Option.bind_some]
      refine Evp.pos (by first | rfl | trivial) (Evp.pos (by simp) (Evp.pos (by simp) (Evp.pos (by simp) (Evp.pos rfl (Evp.pos (by simp) (Evp.pos (by simp) (Evp.pos (by simp) (Evp.some' ?_))))))))
      show (fsum d2 d3 == fsum d2 d3) = true
      simp
  refine Evp.bind (impl_CodeAll_ev _ _) fun t ht => ?_
  subst ht
  refine Evp.bind (spec_CodeAll_ev (by omega)) fun t ht => ?_
  subst ht
  refine Evp.bind (lkInts_self (by omega)) fun t ht => ?_
  subst ht
  refine Evp.pos (by first | rfl | trivial) (Evp.ite (fun h1 => key _ fun h2 => ⟨h1, ?_⟩) fun _ => key true (by simp))
  intro h3
  simp [h3] at h2
end Go.Proofs.Ytmnfkohdibgjeaa.Pure
