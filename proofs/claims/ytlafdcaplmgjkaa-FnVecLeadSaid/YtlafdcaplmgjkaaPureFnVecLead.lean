import Derived.Test.YtlafdcaplmgjkaaDrawV
import Derived.OpenShut
import Derived.Test.YtlafdcaplmgjkaaPAx16
/- What is left of the law FnVecLead once its walk is told: a statement over lists of numbers alone, proved; no condition. -/
set_option linter.unusedVariables false
set_option linter.unusedSimpArgs false
namespace Go.Proofs.Ytlafdcaplmgjkaa.Pure
open Go.RowKit Go.Proofs.Ytlafdcaplmgjkaa.PA Go.Proofs.YtlafdcaplmgjkaaW.PrintWords Go.Proofs.YtlafdcaplmgjkaaW.PrintLast Go.Proofs.YtlafdcaplmgjkaaW.PrintMore Go.Proofs.Ytlafdcaplmgjkaa.Lin Go.Proofs.Ytlafdcaplmgjkaa.Sc

theorem u8_all {l : List Int} (h : ∀ x ∈ l, (Lit.int .u8 x).wf = true) : ∀ x ∈ l, 0 ≤ x ∧ x ≤ 255 := fun x hx => bounds_u8 (h x hx)
theorem wl1 {l1 : List Int} : 1 ≤ 1 + (l1.length : Int) % 30 ∧ 1 + (l1.length : Int) % 30 ≤ 30 := by omega
theorem lead_scale {v : List Int} (hv : vok v = true) {c : Int} (hc : 1 ≤ c ∧ c ≤ 30) : vlead (vscale v c) = vlead v := by
  have hcc : ok c = true := by rw [ok_iff]; omega
  rw [vlead_of (vok_vscale hv hcc), vlead_of hv, vscale_of hv hcc]
  obtain ⟨a, b, x, d, rfl, h1, h2, h3, h4⟩ := vok_four hv
  have z : ∀ a, ok a = true → (a * c % 31 = 0 ↔ a = 0) := fun a ha => by
    rw [fmul_zero_iff ha hcc]; omega
  rw [lscale_four]
  have e1 := z a h1; have e2 := z b h2; have e3 := z x h3; have e4 := z d h4
  simp only [llead, List.findIdx?_cons, List.findIdx?_nil]
  by_cases q1 : a = 0 <;> by_cases q2 : b = 0 <;> by_cases q3 : x = 0 <;> by_cases q4 : d = 0 <;> simp [e1, e2, e3, e4, q1, q2, q3, q4]
theorem FnVecLead : laws_FnVecLead.Pure := by
  intro l l1 hm hl hw hm1 hl1 hw1
  refine Evp.rounds ?_
  have key2 : ∀ d i (v : List Int), i + d = v.length → v.length ≤ 10 → vok v = true → (∀ j, j < i → v.getD j 0 = 0) → Evp (fun k => laws_FnVecLead.l0 k l1 v (vlead v) (i : Int)) (· = true) := fun d => by
    induction d with
    | zero =>
      intro i v hi hn hv hz
      refine Evp.step (fun k => by rw [laws_FnVecLead.l0]) (Evp.neg (by omega) (Evp.some' ?_))
      rw [vlead_of hv, llead_none (fun j hj => hz j (by omega))]; rfl
    | succ d ih =>
      intro i v hi hn hv hz
      refine Evp.step (fun k => by rw [laws_FnVecLead.l0]) (Evp.pos (by omega) (Evp.pos (by omega) ?_))
      rw [rd_nat]
      refine Evp.ite (fun h0 => ?_) fun h0 => ?_
      · rw [wrap_succ (by omega)]
        refine ih (i + 1) v (by omega) hn hv fun j hj => ?_
        rcases Nat.lt_or_ge j i with h | h
        · exact hz j h
        · rw [show j = i by omega]; exact h0
      · refine Evp.pos (by rw [vlead_of hv]; exact llead_drop hz (by omega) h0) ?_
        refine Evp.bind (impl_VecScale_ev _ _) fun t ht => ?_
        subst ht
        simp only [impl_VecLead_eq, Option.bind_some]
        refine Evp.some' ?_
        rw [lead_scale hv wl1]; simp
  have key1 : ∀ (v : List Int) (c : Bool), v.length ≤ 10 → (c = false → vok v = true) → Evp (fun k => laws_FnVecLead.j1 k l1 v (vlead v) c) (· = true) := fun v c hv hc => by
    refine Evp.step (fun k => by rw [laws_FnVecLead.j1]) ?_
    refine Evp.ite (fun h => ?_) fun h => ?_
    · refine Evp.bind (spec_VecLead_ev (by omega)) fun r hr => ?_
      subst hr
      exact Evp.some' (by simp)
    · exact key2 v.length 0 v (by omega) hv (hc (by simpa using h)) (fun j hj => by omega)
  have key0 : ∀ c : Bool, Evp (fun k => laws_FnVecLead.j0 k l l1 c) (· = true) := fun c => by
    refine Evp.step (fun k => by rw [laws_FnVecLead.j0]) ?_
    refine Evp.ite (fun _ => Evp.some' rfl) fun _ => ?_
    refine Evp.bind (drawVecLead_ev (u8_all hw)) fun v hv => ?_
    simp only [impl_VecLead_eq, Option.bind_some]
    refine Evp.bind (spec_VecLead_ev (by omega)) fun t ht => ?_
    subst ht
    refine Evp.pos rfl ?_
    refine Evp.bind (spec_VecOk_ev (by omega)) fun t ht => ?_
    subst ht
    exact key1 v _ hv (by simp)
  unfold laws_FnVecLead.f
  exact Evp.ite (fun _ => key0 _) fun _ => key0 _
end Go.Proofs.Ytlafdcaplmgjkaa.Pure
