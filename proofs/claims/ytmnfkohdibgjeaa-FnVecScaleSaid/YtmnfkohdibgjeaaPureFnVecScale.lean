import Derived.Test.YtmnfkohdibgjeaaPAx0
import Derived.Test.YtmnfkohdibgjeaaPAx15
import Derived.Test.YtmnfkohdibgjeaaPAx6
import Derived.Test.YtmnfkohdibgjeaaCode
import Derived.Test.YtmnfkohdibgjeaaDrawV
import Derived.OpenShut
import Derived.Test.YtmnfkohdibgjeaaPAx15
/- What is left of the law FnVecScale once its walk is told: a statement over lists of numbers alone, proved; no condition. -/
set_option linter.unusedVariables false
set_option linter.unusedSimpArgs false
namespace Go.Proofs.Ytmnfkohdibgjeaa.Pure
open Go.RowKit Go.Proofs.Ytmnfkohdibgjeaa.PA Go.Proofs.YtmnfkohdibgjeaaW.PrintWords Go.Proofs.YtmnfkohdibgjeaaW.PrintLast Go.Proofs.YtmnfkohdibgjeaaW.PrintMore Go.Proofs.Ytmnfkohdibgjeaa.Lin Go.Proofs.Ytmnfkohdibgjeaa.Sc

theorem ma31 (a x y : Int) : a * ((x + y) % 31) % 31 = (a * x + a * y) % 31 := by
  rw [Int.mul_emod, Int.emod_emod, ← Int.mul_emod, Int.mul_add]
theorem ms31 (a x c : Int) : a * (x * c % 31) % 31 = a * x * c % 31 := by
  rw [Int.mul_emod, Int.emod_emod, ← Int.mul_emod, Int.mul_assoc]
theorem sm31 (a c : Int) : a % 31 * c % 31 = a * c % 31 := by
  rw [Int.mul_emod, Int.emod_emod, ← Int.mul_emod]
theorem vscale_one {v : List Int} (hv : vok v = true) : vscale v 1 = v := by
  rw [vscale_of hv (by decide)]
  obtain ⟨a, b, c, d, rfl, h0, h1, h2, h3⟩ := vok_four hv
  rw [ok_iff] at h0 h1 h2 h3
  rw [lscale_four]
  simp only [List.cons.injEq, and_true]
  refine ⟨?_, ?_, ?_, ?_⟩ <;> omega
theorem vscale_zero {v : List Int} (hv : vok v = true) : vlead (vscale v 0) = -1 := by
  rw [vscale_of hv (by decide)]
  obtain ⟨a, b, c, d, rfl, _⟩ := vok_four hv
  rw [lscale_four]
  simp only [Int.mul_zero]
  decide
theorem mulc (a c e : Int) : a * c % 31 * e % 31 = a * (c * e % 31) % 31 := by rw [sm31, ms31]
theorem vscale_twice {v : List Int} (hv : vok v = true) {c e : Int} (hc : ok c = true) (he : ok e = true) : vscale (vscale v c) e = vscale v (fmul c e) := by
  rw [vscale_of (vok_vscale hv hc) he, vscale_of hv hc, vscale_of hv (fmul_range c e), fmul_ok hc he]
  obtain ⟨a, b, x, d, rfl, _⟩ := vok_four hv
  simp only [lscale_four, mulc]
theorem vscale_plus {v : List Int} (hv : vok v = true) {c e : Int} (hc : ok c = true) (he : ok e = true) : vscale v (fsum c e) = vsum (vscale v c) (vscale v e) := by
  rw [vsum_of (vok_vscale hv hc) (vok_vscale hv he), vscale_of hv hc, vscale_of hv he, vscale_of hv (fsum_range c e), fsum_ok hc he]
  obtain ⟨a, b, x, d, rfl, _⟩ := vok_four hv
  simp only [lscale_four, lsum_four, ma31, List.cons.injEq, and_true]
  refine ⟨?_, ?_, ?_, ?_⟩ <;> omega
theorem vscale_get {v : List Int} (hv : vok v = true) {c : Int} (hc : ok c = true) {i : Nat} (hi : i < 4) : (vscale v c).getD i 0 = fmul (v.getD i 0) c := by
  rw [fmul_ok (can_get (vok_iff.1 hv).2 i) hc, vscale_of hv hc]
  obtain ⟨a, b, x, d, rfl, _⟩ := vok_four hv
  have : i = 0 ∨ i = 1 ∨ i = 2 ∨ i = 3 := by omega
  rcases this with rfl | rfl | rfl | rfl <;> rfl
theorem u8_all {l : List Int} (h : ∀ x ∈ l, (Lit.int .u8 x).wf = true) : ∀ x ∈ l, 0 ≤ x ∧ x ≤ 255 := fun x hx => bounds_u8 (h x hx)
theorem lkInts_self {a : List Int} (ha : a.length ≤ 1000000000000) : Evp (fun k => laws_lkInts.f k a a) (· = true) := (lkInts_ev ha).mono fun r hr => by rw [hr]; simp
theorem vsum_len (a b : List Int) : (vsum a b).length ≤ 4 := by
  unfold vsum
  split
  · rename_i h
    simp only [Bool.and_eq_true] at h
    have h1 := (vok_iff.1 h.1).1; have h2 := (vok_iff.1 h.2).1
    rw [lsum_len (by omega)]; omega
  · simp
theorem vscale_len (a : List Int) (c : Int) : (vscale a c).length ≤ 4 := by
  unfold vscale
  split
  · rename_i h
    simp only [Bool.and_eq_true] at h
    have h1 := (vok_iff.1 h.1).1
    rw [lscale_len]; omega
  · simp
theorem FnVecScale : laws_FnVecScale.Pure := by
  intro l l1 hm hl hw hm1 hl1 hw1
  refine Evp.rounds ?_
  have key2 : ∀ (d i : Nat) (v : List Int) (c : Int), i + d = 4 → vok v = true → ok c = true → Evp (fun k => laws_FnVecScale.l0 k l1 v c (vscale v c) (i : Int)) (· = true) := fun d => by
    induction d with
    | zero =>
      intro i v c hi hv hc
      have hl := (vok_iff.1 hv).1; have hls := (vok_iff.1 (vok_vscale hv hc)).1
      have hz : ok ((l1.length : Int) % 31) = true := mod_ok _
      refine Evp.step (fun k => by rw [laws_FnVecScale.l0]) (Evp.neg (by omega) ?_)
      simp only [lkNum_eq (Int.natCast_nonneg _), impl_VecLead_eq, impl_FieldMul_eq, impl_FieldSum_eq, Option.bind_some]
      generalize (l1.length : Int) % 31 = e at *
      refine Evp.bind (impl_VecScale_ev _ _) fun t ht => ?_
      subst ht
      rw [vscale_one hv]
      refine Evp.bind (lkInts_self (by omega)) fun t ht => ?_
      subst ht
      refine Evp.pos rfl ?_
      refine Evp.bind (impl_VecScale_ev _ _) fun t ht => ?_
      subst ht
      refine Evp.pos (vscale_zero hv) ?_
      refine Evp.bind (impl_VecScale_ev _ _) fun t ht => ?_
      subst ht
      refine Evp.bind (impl_VecScale_ev _ _) fun t ht => ?_
      subst ht
      rw [vscale_twice hv hc hz]
      refine Evp.bind (lkInts_self (by have := vscale_len v (fmul c e); omega)) fun t ht => ?_
      subst ht
      refine Evp.pos rfl ?_
      refine Evp.bind (impl_VecScale_ev _ _) fun t ht => ?_
      subst ht
      refine Evp.bind (impl_VecScale_ev _ _) fun t ht => ?_
      subst ht
      refine Evp.bind (impl_VecSum_ev _ _) fun t ht => ?_
      subst ht
      rw [vscale_plus hv hc hz]
      refine Evp.bind (lkInts_self (by have := vsum_len (vscale v c) (vscale v e); omega)) fun t ht => ?_
      subst ht
      exact Evp.some' rfl
    | succ d ih =>
      intro i v c hi hv hc
      have hl := (vok_iff.1 hv).1; have hls := (vok_iff.1 (vok_vscale hv hc)).1
      refine Evp.step (fun k => by rw [laws_FnVecScale.l0]) (Evp.pos (by omega) (Evp.pos (by omega) (Evp.pos (by omega) ?_)))
      simp only [impl_FieldMul_eq, Option.bind_some]
      refine Evp.pos (by rw [rd_nat, rd_nat]; exact vscale_get hv hc (by omega)) ?_
      rw [wrap_succ (by omega)]
      exact ih (i + 1) v c (by omega) hv hc
  have key1 : ∀ (v : List Int) (c : Int) (b : Bool), v.length ≤ 10 → (b = false → vok v = true ∧ ok c = true) → Evp (fun k => laws_FnVecScale.j1 k l1 v c (vscale v c) b) (· = true) := fun v c b hv hc => by
    refine Evp.step (fun k => by rw [laws_FnVecScale.j1]) ?_
    refine Evp.ite (fun h => ?_) fun h => ?_
    · refine Evp.bind (spec_VecScale_ev (by omega)) fun r hr => ?_
      subst hr
      refine Evp.bind (lkInts_self (by have := vscale_len v c; omega)) fun t ht => ?_
      subst ht
      exact Evp.some' rfl
    · have := hc (by simpa using h)
      exact key2 4 0 v c rfl this.1 this.2
  have key0 : ∀ c : Bool, Evp (fun k => laws_FnVecScale.j0 k l l1 c) (· = true) := fun c => by
    refine Evp.step (fun k => by rw [laws_FnVecScale.j0]) ?_
    refine Evp.ite (fun _ => Evp.some' rfl) fun h => ?_
    refine Evp.bind (drawVecScale_ev (u8_all hw)) fun r hr => ?_
    obtain ⟨v, c⟩ := r
    simp only [spec_FieldOk_eq, Option.bind_some] at hr ⊢
    refine Evp.bind (impl_VecScale_ev _ _) fun t ht => ?_
    subst ht
    refine Evp.bind (spec_VecScale_ev (by omega)) fun t ht => ?_
    subst ht
    refine Evp.bind (lkInts_self (by have := vscale_len v c; omega)) fun t ht => ?_
    subst ht
    refine Evp.pos rfl ?_
    refine Evp.bind (spec_VecOk_ev (by omega)) fun t ht => ?_
    subst ht
    refine Evp.ite (fun h1 => ?_) fun _ => key1 v c true hr (by simp)
    exact key1 v c _ hr (fun h2 => ⟨h1, by simpa using h2⟩)
  unfold laws_FnVecScale.f
  exact Evp.ite (fun _ => key0 _) fun _ => key0 _
end Go.Proofs.Ytmnfkohdibgjeaa.Pure
