import Derived.Test.YtmnfkohdibgjeaaPAx0
import Derived.Test.YtmnfkohdibgjeaaPAx21
import Derived.Test.YtmnfkohdibgjeaaPAx6
import Derived.Test.YtmnfkohdibgjeaaCode
import Derived.Test.YtmnfkohdibgjeaaDrawV
import Derived.OpenShut
import Derived.Test.YtmnfkohdibgjeaaPAx21
/- What is left of the law FnCodeScale once its walk is told: a statement over lists of numbers alone, proved; no condition. -/
set_option linter.unusedVariables false
set_option linter.unusedSimpArgs false
namespace Go.Proofs.Ytmnfkohdibgjeaa.Pure
open Go.RowKit Go.Proofs.Ytmnfkohdibgjeaa.PA Go.Proofs.YtmnfkohdibgjeaaW.PrintWords Go.Proofs.YtmnfkohdibgjeaaW.PrintLast Go.Proofs.YtmnfkohdibgjeaaW.PrintMore Go.Proofs.Ytmnfkohdibgjeaa.Lin Go.Proofs.Ytmnfkohdibgjeaa.Sc

theorem ms31 (a x c : Int) : a * (x * c % 31) % 31 = a * x * c % 31 := by
  rw [Int.mul_emod, Int.emod_emod, ← Int.mul_emod, Int.mul_assoc]
theorem sm31 (a c : Int) : a % 31 * c % 31 = a * c % 31 := by
  rw [Int.mul_emod, Int.emod_emod, ← Int.mul_emod]
theorem ldot_lscale {r d : List Int} (hr : vok r = true) (hd : vok d = true) (c : Int) : ldot r (lscale d c) = ldot r d * c % 31 := by
  obtain ⟨r0, r1, r2, r3, rfl, _⟩ := vok_four hr
  obtain ⟨d0, d1, d2, d3, rfl, _⟩ := vok_four hd
  rw [lscale_four, ldot_four, ldot_four, sm31, Int.add_mul, Int.add_mul, Int.add_mul]
  have h0 := ms31 r0 d0 c; have h1 := ms31 r1 d1 c; have h2 := ms31 r2 d2 c; have h3 := ms31 r3 d3 c
  omega
theorem codeAll_some {k : Int} {d : List Int} (h : (codeAll k d).length ≠ 0) : vok d = true ∧ lkind k = true ∧ codeAll k d = lall k d := by
  unfold codeAll at h ⊢
  split at h
  · rename_i hh
    rw [if_pos hh]
    simp only [Bool.and_eq_true] at hh
    exact ⟨hh.1, hh.2, rfl⟩
  · simp at h
theorem codeAll_of {k : Int} {d : List Int} (hd : vok d = true) (hk : lkind k = true) : codeAll k d = lall k d := by unfold codeAll; rw [hd, hk]; rfl
theorem u8_all {l : List Int} (h : ∀ x ∈ l, (Lit.int .u8 x).wf = true) : ∀ x ∈ l, 0 ≤ x ∧ x ≤ 255 := fun x hx => bounds_u8 (h x hx)
theorem lkInts_self {a : List Int} (ha : a.length ≤ 1000000000000) : Evp (fun k => laws_lkInts.f k a a) (· = true) := (lkInts_ev ha).mono fun r hr => by rw [hr]; simp
theorem FnCodeScale : laws_FnCodeScale.Pure := by
  intro l l1 hm hl hw hm1 hl1 hw1
  refine Evp.rounds ?_
  have key2 : ∀ (m i : Nat) (x : Int) (d : List Int) (c : Int), i + m = 8 → vok d = true → lkind x = true → ok c = true → Evp (fun k => laws_FnCodeScale.l0 k (lall x d) c (lall x (vscale d c)) (i : Int)) (· = true) := fun m => by
    induction m with
    | zero =>
      intro i x d c hi hd hx hc
      have h1 := lall_len x d; have h2 := lall_len x (vscale d c)
      refine Evp.step (fun k => by rw [laws_FnCodeScale.l0]) (Evp.neg (by omega) (Evp.some' ?_))
      rw [h2]; rfl
    | succ m ih =>
      intro i x d c hi hd hx hc
      have h1 := lall_len x d; have h2 := lall_len x (vscale d c)
      refine Evp.step (fun k => by rw [laws_FnCodeScale.l0]) (Evp.pos (by omega) (Evp.pos (by omega) (Evp.pos (by omega) ?_)))
      simp only [impl_FieldMul_eq, Option.bind_some]
      refine Evp.pos ?_ ?_
      · rw [rd_nat, rd_nat, lall_get x _ (show i < 8 by omega), lall_get x _ (show i < 8 by omega), vscale_of hd hc, ldot_lscale (lrow_ok hx (lshard_nat (by omega))) hd, fmul_ok (ok_iff.2 (ldot_range _ _)) hc]
      · rw [wrap_succ (by omega)]
        exact ih (i + 1) x d c (by omega) hd hx hc
  have key1 : ∀ (x : Int) (d : List Int) (c : Bool), d.length ≤ 10 → (c = false → (codeAll x d).length ≠ 0) → Evp (fun k => laws_FnCodeScale.j1 k l1 x d (codeAll x d) c) (· = true) := fun x d c hd hc => by
    have hv := codeAll_len x d
    refine Evp.step (fun k => by rw [laws_FnCodeScale.j1]) ?_
    refine Evp.ite (fun _ => ?_) fun h => ?_
    · refine Evp.bind (spec_CodeAll_ev (by omega)) fun t ht => ?_
      subst ht
      exact Evp.bind (lkInts_self (by omega)) fun t ht => Evp.some' ht
    · obtain ⟨hd, hk, e⟩ := codeAll_some (hc (by simpa using h))
      have hz : ok ((l1.length : Int) % 31) = true := mod_ok _
      simp only [lkNum_eq (Int.natCast_nonneg _), Option.bind_some]
      generalize (l1.length : Int) % 31 = c1 at *
      refine Evp.bind (impl_VecScale_ev _ _) fun t ht => ?_
      subst ht
      refine Evp.bind (impl_CodeAll_ev _ _) fun t ht => ?_
      subst ht
      rw [e, codeAll_of (vok_vscale hd hz) hk]
      exact key2 8 0 x d c1 rfl hd hk hz
  have key0 : ∀ c : Bool, Evp (fun k => laws_FnCodeScale.j0 k l l1 c) (· = true) := fun c => by
    refine Evp.step (fun k => by rw [laws_FnCodeScale.j0]) ?_
    refine Evp.ite (fun _ => Evp.some' rfl) fun h => ?_
    refine Evp.bind (drawCodeAll_ev (u8_all hw)) fun r hr => ?_
    obtain ⟨x, d⟩ := r
    simp only at hr ⊢
    have hv := codeAll_len x d
    refine Evp.bind (impl_CodeAll_ev _ _) fun t ht => ?_
    subst ht
    refine Evp.bind (spec_CodeAll_ev (by omega)) fun t ht => ?_
    subst ht
    refine Evp.bind (lkInts_self (by omega)) fun t ht => ?_
    subst ht
    refine Evp.pos (by first | rfl | trivial) (key1 x d _ hr fun h2 h3 => ?_)
    simp [h3] at h2
  unfold laws_FnCodeScale.f
  exact Evp.ite (fun _ => key0 _) fun _ => key0 _
end Go.Proofs.Ytmnfkohdibgjeaa.Pure
