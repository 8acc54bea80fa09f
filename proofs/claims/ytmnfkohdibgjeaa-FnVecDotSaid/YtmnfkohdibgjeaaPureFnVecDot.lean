import Derived.Test.YtmnfkohdibgjeaaPAx0
import Derived.Test.YtmnfkohdibgjeaaPAx14
import Derived.Test.YtmnfkohdibgjeaaCode
import Derived.Test.YtmnfkohdibgjeaaDrawV
import Derived.OpenShut
import Derived.Test.YtmnfkohdibgjeaaPAx14
/- What is left of the law FnVecDot once its walk is told: a statement over lists of numbers alone, proved; no condition. -/
set_option linter.unusedVariables false
set_option linter.unusedSimpArgs false
namespace Go.Proofs.Ytmnfkohdibgjeaa.Pure
open Go.RowKit Go.Proofs.Ytmnfkohdibgjeaa.PA Go.Proofs.YtmnfkohdibgjeaaW.PrintWords Go.Proofs.YtmnfkohdibgjeaaW.PrintLast Go.Proofs.YtmnfkohdibgjeaaW.PrintMore Go.Proofs.Ytmnfkohdibgjeaa.Lin Go.Proofs.Ytmnfkohdibgjeaa.Sc

theorem ma31 (a x y : Int) : a * ((x + y) % 31) % 31 = (a * x + a * y) % 31 := by
  rw [Int.mul_emod, Int.emod_emod, ← Int.mul_emod, Int.mul_add]
theorem ldot_lsum {r d e : List Int} (hr : vok r = true) (hd : vok d = true) (he : vok e = true) : ldot r (lsum d e) = (ldot r d + ldot r e) % 31 := by
  obtain ⟨r0, r1, r2, r3, rfl, _⟩ := vok_four hr
  obtain ⟨d0, d1, d2, d3, rfl, _⟩ := vok_four hd
  obtain ⟨e0, e1, e2, e3, rfl, _⟩ := vok_four he
  rw [lsum_four, ldot_four, ldot_four, ldot_four]
  have h0 := ma31 r0 d0 e0; have h1 := ma31 r1 d1 e1; have h2 := ma31 r2 d2 e2; have h3 := ma31 r3 d3 e3
  omega
theorem ldot_comm (a b : List Int) : ldot a b = ldot b a := by
  unfold ldot
  rw [List.zipWith_comm]
  congr 1
  congr 1
  funext x y
  exact Int.mul_comm _ _
theorem vdot_comm (a b : List Int) : vdot a b = vdot b a := by
  unfold vdot
  rw [ldot_comm]
  by_cases ha : vok a = true <;> by_cases hb : vok b = true <;> simp [ha, hb]
theorem vdot_vsum {a b c : List Int} (ha : vok a = true) (hb : vok b = true) (hc : vok c = true) : vdot a (vsum b c) = fsum (vdot a b) (vdot a c) := by
  rw [vdot_of ha (vok_vsum hb hc), vsum_of hb hc, vdot_of ha hb, vdot_of ha hc, ldot_lsum ha hb hc, fsum_ok (ok_iff.2 (ldot_range a b)) (ok_iff.2 (ldot_range a c))]
theorem vdot_unit {a : List Int} (ha : vok a = true) {i : Nat} (hi : i < 4) : (vunit (i : Int)).2 = true ∧ vdot a (vunit (i : Int)).1 = a.getD i 0 := by
  obtain ⟨a0, a1, a2, a3, rfl, h0, h1, h2, h3⟩ := vok_four ha
  rw [ok_iff] at h0 h1 h2 h3
  have : i = 0 ∨ i = 1 ∨ i = 2 ∨ i = 3 := by omega
  rcases this with rfl | rfl | rfl | rfl
  · refine ⟨by decide, ?_⟩
    rw [show (vunit ((0 : Nat) : Int)).1 = [1, 0, 0, 0] from rfl, vdot_of ha (by decide), ldot_four]
    show _ = a0; omega
  · refine ⟨by decide, ?_⟩
    rw [show (vunit ((1 : Nat) : Int)).1 = [0, 1, 0, 0] from rfl, vdot_of ha (by decide), ldot_four]
    show _ = a1; omega
  · refine ⟨by decide, ?_⟩
    rw [show (vunit ((2 : Nat) : Int)).1 = [0, 0, 1, 0] from rfl, vdot_of ha (by decide), ldot_four]
    show _ = a2; omega
  · refine ⟨by decide, ?_⟩
    rw [show (vunit ((3 : Nat) : Int)).1 = [0, 0, 0, 1] from rfl, vdot_of ha (by decide), ldot_four]
    show _ = a3; omega
theorem u8_all {l : List Int} (h : ∀ x ∈ l, (Lit.int .u8 x).wf = true) : ∀ x ∈ l, 0 ≤ x ∧ x ≤ 255 := fun x hx => bounds_u8 (h x hx)
theorem FnVecDot : laws_FnVecDot.Pure := by
  intro l l1 hm hl hw hm1 hl1 hw1
  refine Evp.rounds ?_
  have key2 : l1.length ≤ 1048576 → ∀ d i (a b : List Int) (s : Int), i + d = 4 → vok a = true → vok b = true → s = ldot (a.take i) (b.take i) → Evp (fun k => laws_FnVecDot.l0 k l1 a b (vdot a b) s (i : Int)) (· = true) := fun hn d => by
    induction d with
    | zero =>
      intro i a b s hi ha hb hs
      have hla := (vok_iff.1 ha).1; have hlb := (vok_iff.1 hb).1
      refine Evp.step (fun k => by rw [laws_FnVecDot.l0]) (Evp.neg (by omega) ?_)
      simp only [lkVec_eq (show 0 ≤ (l1.length : Int) ∧ (l1.length : Int) ≤ 1048576 by omega), impl_VecDot_eq, impl_FieldSum_eq, Option.bind_some]
      have hc := vok_lkvec (l1.length : Int)
      generalize lkvec (l1.length : Int) = c at *
      refine Evp.pos ?_ (Evp.pos (vdot_comm b a) ?_)
      · rw [hs, vdot_of ha hb, List.take_of_length_le (by omega), List.take_of_length_le (by omega)]
      · refine Evp.bind (impl_VecSum_ev _ _) fun t ht => ?_
        subst ht
        exact Evp.some' (by rw [vdot_vsum ha hb hc]; simp)
    | succ d ih =>
      intro i a b s hi ha hb hs
      have hla := (vok_iff.1 ha).1; have hlb := (vok_iff.1 hb).1
      obtain ⟨u1, u2⟩ := vdot_unit ha (show i < 4 by omega)
      refine Evp.step (fun k => by rw [laws_FnVecDot.l0]) (Evp.pos (by omega) (Evp.pos (by omega) (Evp.pos (by omega) ?_)))
      simp only [impl_FieldMul_eq, impl_FieldSum_eq, impl_VecUnit_eq, impl_VecDot_eq, Option.bind_some]
      refine Evp.pos u1 (Evp.pos (by rw [u2, rd_nat]) ?_)
      rw [wrap_succ (by omega)]
      refine ih (i + 1) a b _ (by omega) ha hb ?_
      have o1 := can_get (vok_iff.1 ha).2 i; have o2 := can_get (vok_iff.1 hb).2 i
      rw [rd_nat, rd_nat, fsum_ok (by rw [hs]; exact ok_iff.2 (ldot_range _ _)) (fmul_range _ _), fmul_ok o1 o2]
      unfold ldot
      rw [zip_take (fun x y => x * y) (by omega) (by omega), List.foldl_append, List.foldl_cons, List.foldl_nil]
      have : s = List.foldl (fun n x => (n + x) % 31) 0 (List.zipWith (fun x y => x * y) (a.take i) (b.take i)) := hs
      rw [← this]
      omega
  have key1 : l1.length ≤ 1048576 → ∀ (a b : List Int) (c : Bool), a.length ≤ 10 → b.length ≤ 10 → (c = false → vok a = true ∧ vok b = true) → Evp (fun k => laws_FnVecDot.j1 k l1 a b (vdot a b) c) (· = true) := fun hn a b c ha hb hc => by
    refine Evp.step (fun k => by rw [laws_FnVecDot.j1]) ?_
    refine Evp.ite (fun h => ?_) fun h => ?_
    · refine Evp.bind (spec_VecDot_ev (by omega) (by omega)) fun r hr => ?_
      subst hr
      exact Evp.some' (by simp)
    · have := hc (by simpa using h)
      exact key2 hn 4 0 a b 0 rfl this.1 this.2 (by simp [ldot])
  have key0 : ∀ c : Bool, (c = false → l1.length ≤ 1048576) → Evp (fun k => laws_FnVecDot.j0 k l l1 c) (· = true) := fun c hc => by
    refine Evp.step (fun k => by rw [laws_FnVecDot.j0]) ?_
    refine Evp.ite (fun _ => Evp.some' rfl) fun h => ?_
    have hn := hc (by simpa using h)
    refine Evp.bind (drawVecDot_ev (u8_all hw)) fun r hr => ?_
    obtain ⟨a, b⟩ := r
    simp only [impl_VecDot_eq, Option.bind_some] at hr ⊢
    refine Evp.bind (spec_VecDot_ev (by omega) (by omega)) fun t ht => ?_
    subst ht
    refine Evp.pos rfl ?_
    refine Evp.bind (spec_VecOk_ev (by omega)) fun t ht => ?_
    subst ht
    refine Evp.ite (fun h1 => ?_) fun _ => key1 hn a b true hr.1 hr.2 (by simp)
    refine Evp.bind (spec_VecOk_ev (by omega)) fun t ht => ?_
    subst ht
    exact key1 hn a b _ hr.1 hr.2 (fun h2 => ⟨h1, by simpa using h2⟩)
  unfold laws_FnVecDot.f
  refine Evp.ite (fun _ => key0 _ (by simp)) fun h => key0 _ (fun h2 => ?_)
  have h3 : ¬ (l1.length : Int) > 1048576 := by simpa using h2
  omega
end Go.Proofs.Ytmnfkohdibgjeaa.Pure
