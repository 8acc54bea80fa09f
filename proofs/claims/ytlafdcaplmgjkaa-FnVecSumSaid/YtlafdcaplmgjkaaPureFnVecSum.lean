import Derived.Test.YtlafdcaplmgjkaaDrawV
import Derived.OpenShut
import Derived.Test.YtlafdcaplmgjkaaPAx17
/- What is left of the law FnVecSum once its walk is told: a statement over lists of numbers alone, proved; no condition. -/
set_option linter.unusedVariables false
set_option linter.unusedSimpArgs false
namespace Go.Proofs.Ytlafdcaplmgjkaa.Pure
open Go.RowKit Go.Proofs.Ytlafdcaplmgjkaa.PA Go.Proofs.YtlafdcaplmgjkaaW.PrintWords Go.Proofs.YtlafdcaplmgjkaaW.PrintLast Go.Proofs.YtlafdcaplmgjkaaW.PrintMore Go.Proofs.Ytlafdcaplmgjkaa.Lin Go.Proofs.Ytlafdcaplmgjkaa.Sc

theorem u8_all {l : List Int} (h : ∀ x ∈ l, (Lit.int .u8 x).wf = true) : ∀ x ∈ l, 0 ≤ x ∧ x ≤ 255 := fun x hx => bounds_u8 (h x hx)
theorem lkInts_self {a : List Int} (ha : a.length ≤ 1000000000000) : Evp (fun k => laws_lkInts.f k a a) (· = true) := (lkInts_ev ha).mono fun r hr => by rw [hr]; simp
theorem vsum_len (a b : List Int) : (vsum a b).length ≤ 4 := by
  unfold vsum
  split
  · rename_i h
    simp only [Bool.and_eq_true] at h
    have h1 := (vok_iff.1 h.1).1; have h2 := (vok_iff.1 h.2).1
    rw [lsum_len (by omega)]; omega
  · simp
theorem vsum_comm (a b : List Int) : vsum a b = vsum b a := by
  unfold vsum
  by_cases ha : vok a = true <;> by_cases hb : vok b = true <;> simp [ha, hb]
  obtain ⟨a0, a1, a2, a3, rfl, _⟩ := vok_four ha
  obtain ⟨b0, b1, b2, b3, rfl, _⟩ := vok_four hb
  simp only [lsum_four, Int.add_comm]
theorem vsum_assoc {a b c : List Int} (ha : vok a = true) (hb : vok b = true) (hc : vok c = true) : vsum (vsum a b) c = vsum a (vsum b c) := by
  rw [vsum_of (vok_vsum ha hb) hc, vsum_of ha (vok_vsum hb hc), vsum_of ha hb, vsum_of hb hc]
  obtain ⟨a0, a1, a2, a3, rfl, _⟩ := vok_four ha
  obtain ⟨b0, b1, b2, b3, rfl, _⟩ := vok_four hb
  obtain ⟨c0, c1, c2, c3, rfl, _⟩ := vok_four hc
  simp only [lsum_four, List.cons.injEq, and_true]
  refine ⟨?_, ?_, ?_, ?_⟩ <;> omega
theorem FnVecSum : laws_FnVecSum.Pure := by
  intro l l1 hm hl hw hm1 hl1 hw1
  refine Evp.rounds ?_
  have key2 : l1.length ≤ 1048576 → ∀ d i (a b : List Int), i + d = (vsum a b).length → vok a = true → vok b = true → Evp (fun k => laws_FnVecSum.l0 k l1 a b (vsum a b) (i : Int)) (· = true) := fun hn d => by
    induction d with
    | zero =>
      intro i a b hi ha hb
      refine Evp.step (fun k => by rw [laws_FnVecSum.l0]) (Evp.neg (by omega) ?_)
      simp only [lkVec_eq (show 0 ≤ (l1.length : Int) ∧ (l1.length : Int) ≤ 1048576 by omega), impl_VecOk_eq, Option.bind_some]
      have hc := vok_lkvec (l1.length : Int)
      generalize lkvec (l1.length : Int) = c at *
      refine Evp.bind (impl_VecSum_ev _ _) fun t ht => ?_
      subst ht
      rw [vsum_comm b a]
      refine Evp.bind (lkInts_self (by have := vsum_len a b; omega)) fun t ht => ?_
      subst ht
      refine Evp.pos rfl ?_
      refine Evp.bind (impl_VecSum_ev _ _) fun t ht => ?_
      subst ht
      refine Evp.bind (impl_VecSum_ev _ _) fun t ht => ?_
      subst ht
      refine Evp.bind (impl_VecSum_ev _ _) fun t ht => ?_
      subst ht
      rw [vsum_assoc ha hb hc]
      refine Evp.bind (lkInts_self (by have := vsum_len a (vsum b c); omega)) fun t ht => ?_
      subst ht
      exact Evp.pos rfl (Evp.some' (vok_vsum ha hb))
    | succ d ih =>
      intro i a b hi ha hb
      have e := vsum_of ha hb
      obtain ⟨a0, a1, a2, a3, ea, q0, q1, q2, q3⟩ := vok_four ha
      obtain ⟨b0, b1, b2, b3, eb, p0, p1, p2, p3⟩ := vok_four hb
      have hs : vsum a b = [(a0 + b0) % 31, (a1 + b1) % 31, (a2 + b2) % 31, (a3 + b3) % 31] := by rw [e, ea, eb]; rfl
      have hla : a.length = 4 := by rw [ea]; rfl
      have hlb : b.length = 4 := by rw [eb]; rfl
      have hls : (vsum a b).length = 4 := by rw [hs]; rfl
      refine Evp.step (fun k => by rw [laws_FnVecSum.l0]) (Evp.pos (by omega) (Evp.pos (by omega) (Evp.pos (by omega) (Evp.pos (by omega) ?_))))
      simp only [impl_FieldSum_eq, Option.bind_some]
      refine Evp.pos ?_ ?_
      · have hi4 : i = 0 ∨ i = 1 ∨ i = 2 ∨ i = 3 := by omega
        rw [hs, ea, eb, rd_nat, rd_nat, rd_nat]
        rcases hi4 with rfl | rfl | rfl | rfl
        · exact (fsum_ok q0 p0).symm
        · exact (fsum_ok q1 p1).symm
        · exact (fsum_ok q2 p2).symm
        · exact (fsum_ok q3 p3).symm
      · rw [wrap_succ (by omega)]
        exact ih (i + 1) a b (by omega) ha hb
  have key1 : l1.length ≤ 1048576 → ∀ (a b : List Int) (c : Bool), a.length ≤ 10 → b.length ≤ 10 → (c = false → vok a = true ∧ vok b = true) → Evp (fun k => laws_FnVecSum.j1 k l1 a b (vsum a b) c) (· = true) := fun hn a b c ha hb hc => by
    refine Evp.step (fun k => by rw [laws_FnVecSum.j1]) ?_
    refine Evp.ite (fun h => ?_) fun h => ?_
    · refine Evp.bind (spec_VecSum_ev (by omega) (by omega)) fun r hr => ?_
      subst hr
      refine Evp.bind (lkInts_self (by have := vsum_len a b; omega)) fun t ht => ?_
      subst ht
      exact Evp.some' rfl
    · have := hc (by simpa using h)
      exact key2 hn (vsum a b).length 0 a b (Nat.zero_add _) this.1 this.2
  have key0 : ∀ c : Bool, (c = false → l1.length ≤ 1048576) → Evp (fun k => laws_FnVecSum.j0 k l l1 c) (· = true) := fun c hc => by
    refine Evp.step (fun k => by rw [laws_FnVecSum.j0]) ?_
    refine Evp.ite (fun _ => Evp.some' rfl) fun h => ?_
    have hn := hc (by simpa using h)
    refine Evp.bind (drawVecSum_ev (u8_all hw)) fun r hr => ?_
    obtain ⟨a, b⟩ := r
    simp only at hr ⊢
    refine Evp.bind (impl_VecSum_ev _ _) fun t ht => ?_
    subst ht
    refine Evp.bind (spec_VecSum_ev (by omega) (by omega)) fun t ht => ?_
    subst ht
    refine Evp.bind (lkInts_self (by have := vsum_len a b; omega)) fun t ht => ?_
    subst ht
    refine Evp.pos rfl ?_
    refine Evp.bind (spec_VecOk_ev (by omega)) fun t ht => ?_
    subst ht
    refine Evp.ite (fun h1 => ?_) fun _ => key1 hn a b true hr.1 hr.2 (by simp)
    refine Evp.bind (spec_VecOk_ev (by omega)) fun t ht => ?_
    subst ht
    exact key1 hn a b _ hr.1 hr.2 (fun h2 => ⟨h1, by simpa using h2⟩)
  unfold laws_FnVecSum.f
  refine Evp.ite (fun _ => key0 _ (by simp)) fun h => key0 _ (fun h2 => ?_)
  have h3 : ¬ (l1.length : Int) > 1048576 := by simpa using h2
  omega
end Go.Proofs.Ytlafdcaplmgjkaa.Pure
