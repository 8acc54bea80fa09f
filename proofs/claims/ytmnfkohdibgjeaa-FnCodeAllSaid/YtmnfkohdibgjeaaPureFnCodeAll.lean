import Derived.Test.YtmnfkohdibgjeaaPAx0
import Derived.Test.YtmnfkohdibgjeaaPAx22
import Derived.Test.YtmnfkohdibgjeaaPAx6
import Derived.Test.YtmnfkohdibgjeaaCode
import Derived.Test.YtmnfkohdibgjeaaDrawV
import Derived.OpenShut
import Derived.Test.YtmnfkohdibgjeaaPAx22
/- What is left of the law FnCodeAll once its walk is told: a statement over lists of numbers alone, proved; no condition. -/
set_option linter.unusedVariables false
set_option linter.unusedSimpArgs false
namespace Go.Proofs.Ytmnfkohdibgjeaa.Pure
open Go.RowKit Go.Proofs.Ytmnfkohdibgjeaa.PA Go.Proofs.YtmnfkohdibgjeaaW.PrintWords Go.Proofs.YtmnfkohdibgjeaaW.PrintLast Go.Proofs.YtmnfkohdibgjeaaW.PrintMore Go.Proofs.Ytmnfkohdibgjeaa.Lin Go.Proofs.Ytmnfkohdibgjeaa.Sc

theorem ma31 (a x y : Int) : a * ((x + y) % 31) % 31 = (a * x + a * y) % 31 := by
  rw [Int.mul_emod, Int.emod_emod, ← Int.mul_emod, Int.mul_add]
theorem ldot_lsum {r d e : List Int} (hr : vok r = true) (hd : vok d = true) (he : vok e = true) : ldot r (lsum d e) = (ldot r d + ldot r e) % 31 := by
  obtain ⟨r0, r1, r2, r3, rfl, _⟩ := vok_four hr
  obtain ⟨d0, d1, d2, d3, rfl, _⟩ := vok_four hd
  obtain ⟨e0, e1, e2, e3, rfl, _⟩ := vok_four he
  rw [lsum_four, ldot_four, ldot_four, ldot_four]
  have h0 := ma31 r0 d0 e0; have h1 := ma31 r1 d1 e1; have h2 := ma31 r2 d2 e2; have h3 := ma31 r3 d3 e3
  omega
theorem codeAll_some {k : Int} {d : List Int} (h : (codeAll k d).length ≠ 0) : vok d = true ∧ lkind k = true ∧ codeAll k d = lall k d := by
  unfold codeAll at h ⊢
  split at h
  · rename_i hh
    rw [if_pos hh]
    simp only [Bool.and_eq_true] at hh
    exact ⟨hh.1, hh.2, rfl⟩
  · simp at h
theorem codeAll_of {k : Int} {d : List Int} (hd : vok d = true) (hk : lkind k = true) : codeAll k d = lall k d := by unfold codeAll; rw [hd, hk]; rfl
theorem u8_all {l : List Int} (h : ∀ x ∈ l, (Lit.int .u8 x).wf = true) : ∀ x ∈ l, 0 ≤ x ∧ x ≤ 255 := fun x hx => bounds_u8 (h x hx)
theorem lkInts_self {a : List Int} (ha : a.length ≤ 1000000000000) : Evp (fun k => laws_lkInts.f k a a) (· = true) := (lkInts_ev ha).mono fun r hr => by rw [hr]; simp
theorem FnCodeAll : laws_FnCodeAll.Pure := by
  intro l l1 hm hl hw hm1 hl1 hw1
  refine Evp.rounds ?_
  have key2 : ∀ (m i : Nat) (x : Int) (d e : List Int), i + m = 8 → vok d = true → vok e = true → lkind x = true → Evp (fun k => laws_FnCodeAll.l0 k x d (lall x d) (lall x e) (lall x (vsum d e)) (i : Int)) (· = true) := fun m => by
    induction m with
    | zero =>
      intro i x d e hi hd he hx
      have h1 := lall_len x d
      refine Evp.step (fun k => by rw [laws_FnCodeAll.l0]) (Evp.neg (by omega) (Evp.some' ?_))
      rw [h1]; rfl
    | succ m ih =>
      intro i x d e hi hd he hx
      have h1 := lall_len x d; have h2 := lall_len x e; have h3 := lall_len x (vsum d e)
      have hr := lrow_ok hx (lshard_nat (show i < 8 by omega))
      refine Evp.step (fun k => by rw [laws_FnCodeAll.l0]) (Evp.pos (by omega) ?_)
      refine Evp.bind (impl_CodeRow_ev _ _) fun t ht => ?_
      subst ht
      have er : (codeRow x (i : Int)).1 = lrow x (i : Int) := by unfold codeRow; rw [hx, lshard_nat (show i < 8 by omega)]; rfl
      rw [er]
      simp only [impl_VecDot_eq, impl_FieldSum_eq, Option.bind_some]
      refine Evp.pos (by omega) (Evp.pos ?_ (Evp.pos (by omega) (Evp.pos (by omega) (Evp.pos ?_ ?_))))
      · rw [rd_nat, lall_get x _ (show i < 8 by omega), vdot_of hr hd]
      · rw [rd_nat, rd_nat, rd_nat, lall_get x _ (show i < 8 by omega), lall_get x _ (show i < 8 by omega), lall_get x _ (show i < 8 by omega), vsum_of hd he, ldot_lsum hr hd he, fsum_ok (ok_iff.2 (ldot_range _ _)) (ok_iff.2 (ldot_range _ _))]
      · rw [wrap_succ (by omega)]
        exact ih (i + 1) x d e (by omega) hd he hx
  have key1 : l1.length ≤ 1048576 → ∀ (x : Int) (d : List Int) (c : Bool), d.length ≤ 10 → (c = false → (codeAll x d).length ≠ 0) → Evp (fun k => laws_FnCodeAll.j1 k l1 x d (codeAll x d) c) (· = true) := fun hn x d c hd hc => by
    have hv := codeAll_len x d
    refine Evp.step (fun k => by rw [laws_FnCodeAll.j1]) ?_
    refine Evp.ite (fun _ => ?_) fun h => ?_
    · refine Evp.bind (spec_CodeAll_ev (by omega)) fun t ht => ?_
      subst ht
      exact Evp.bind (lkInts_self (by omega)) fun t ht => Evp.some' ht
    · obtain ⟨hd, hk, e⟩ := codeAll_some (hc (by simpa using h))
      simp only [lkVec_eq (show 0 ≤ (l1.length : Int) ∧ (l1.length : Int) ≤ 1048576 by omega), Option.bind_some]
      have he := vok_lkvec (l1.length : Int)
      generalize lkvec (l1.length : Int) = e1 at *
      refine Evp.bind (impl_CodeAll_ev _ _) fun t ht => ?_
      subst ht
      refine Evp.bind (impl_VecSum_ev _ _) fun t ht => ?_
      subst ht
      refine Evp.bind (impl_CodeAll_ev _ _) fun t ht => ?_
      subst ht
      rw [e, codeAll_of he hk, codeAll_of (vok_vsum hd he) hk]
      exact key2 8 0 x d e1 rfl hd he hk
  have key0 : ∀ c : Bool, (c = false → l1.length ≤ 1048576) → Evp (fun k => laws_FnCodeAll.j0 k l l1 c) (· = true) := fun c hc => by
    refine Evp.step (fun k => by rw [laws_FnCodeAll.j0]) ?_
    refine Evp.ite (fun _ => Evp.some' rfl) fun h => ?_
    refine Evp.bind (drawCodeAll_ev (u8_all hw)) fun r hr => ?_
    obtain ⟨x, d⟩ := r
    simp only at hr ⊢
    have hv := codeAll_len x d
    refine Evp.bind (impl_CodeAll_ev _ _) fun t ht => ?_
    subst ht
    refine Evp.bind (spec_CodeAll_ev (by omega)) fun t ht => ?_
    subst ht
    refine Evp.bind (lkInts_self (by omega)) fun t ht => ?_
    subst ht
    refine Evp.pos (by first | rfl | trivial) (key1 (hc (by simpa using h)) x d _ hr fun h2 h3 => ?_)
    simp [h3] at h2
  unfold laws_FnCodeAll.f
  refine Evp.ite (fun _ => key0 _ (by simp)) fun h => key0 _ (fun h2 => ?_)
  have h3 : ¬ (l1.length : Int) > 1048576 := by simpa using h2
  omega
end Go.Proofs.Ytmnfkohdibgjeaa.Pure
