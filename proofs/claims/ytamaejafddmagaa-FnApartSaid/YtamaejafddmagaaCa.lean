import Derived.Test.YtamaejafddmagaaPAx0
import Derived.Test.YtamaejafddmagaaPAx13
import Derived.Test.YtamaejafddmagaaPAx5
import Derived.Test.YtamaejafddmagaaPAx6
import Derived.Test.YtamaejafddmagaaMa
import Derived.Test.YtamaejafddmagaaCodeLin
import Derived.Test.YtamaejafddmagaaHa
/- Of the printed functions over single rows: what a walk by hand wants of them. -/
set_option linter.unusedVariables false
set_option linter.unusedSimpArgs false
namespace Go.Proofs.Ytamaejafddmagaa.Lc
open Go.RowKit Go.Proofs.Ytamaejafddmagaa.PA Go.Proofs.YtamaejafddmagaaW.PrintWords Go.Proofs.YtamaejafddmagaaW.PrintLast Go.Proofs.YtamaejafddmagaaW.PrintMore Go.Proofs.Ytamaejafddmagaa.Lin

def Evp {α : Type} (g : Nat → Option α) (Q : α → Prop) : Prop := ∃ r, Q r ∧ ∃ K, ∀ k, K ≤ k → g k = some r
theorem Evp.some' {α : Type} {r : α} {Q : α → Prop} (h : Q r) : Evp (fun _ => some r) Q := ⟨r, h, 0, fun _ _ => rfl⟩
theorem Evp.eq {α : Type} {g : Nat → Option α} {r : α} {Q : α → Prop} (h : Q r) (e : ∀ k, g k = some r) : Evp g Q := ⟨r, h, 0, fun k _ => e k⟩
theorem Evp.bind {α β : Type} {g : Nat → Option α} {f : Nat → α → Option β} {Q : α → Prop} {T : β → Prop} (h : Evp g Q) (k : ∀ r, Q r → Evp (fun n => f n r) T) : Evp (fun n => (g n).bind (f n)) T := by
  obtain ⟨r, hq, K, h⟩ := h
  obtain ⟨s, ht, K', k⟩ := k r hq
  refine ⟨s, ht, max K K', fun n hn => ?_⟩
  have h1 := h n (by omega)
  have h2 := k n (by omega)
  simp only [h1, Option.bind_some]
  exact h2
theorem Evp.step {α : Type} {g f : Nat → Option α} {Q : α → Prop} (h : ∀ k, g (k + 1) = f k) (k : Evp f Q) : Evp g Q := by
  obtain ⟨r, hq, K, k⟩ := k
  refine ⟨r, hq, K + 1, fun n hn => ?_⟩
  obtain ⟨m, rfl⟩ : ∃ m, n = m + 1 := ⟨n - 1, by omega⟩
  rw [h]
  exact k m (by omega)
theorem Evp.mono {α : Type} {g : Nat → Option α} {Q T : α → Prop} (h : Evp g Q) (k : ∀ r, Q r → T r) : Evp g T := by
  obtain ⟨r, hq, K, h⟩ := h
  exact ⟨r, k r hq, K, h⟩
theorem Evp.rounds {α : Type} {g : Nat → Option α} {r : α} (h : Evp g (· = r)) : ∃ k, g k = some r := by
  obtain ⟨s, rfl, K, h⟩ := h
  exact ⟨K, h K (Nat.le_refl _)⟩
theorem Evp.ite {α : Type} {c : Prop} [Decidable c] {g f : Nat → Option α} {Q : α → Prop} (h : c → Evp g Q) (k : ¬ c → Evp f Q) : Evp (fun n => if c then g n else f n) Q := by
  by_cases hc : c
  · simp only [if_pos hc]; exact h hc
  · simp only [if_neg hc]; exact k hc
theorem Evp.pos {α : Type} {c : Prop} [Decidable c] {g f : Nat → Option α} {Q : α → Prop} (hc : c) (h : Evp g Q) : Evp (fun n => if c then g n else f n) Q := by
  simp only [if_pos hc]; exact h
theorem Evp.neg {α : Type} {c : Prop} [Decidable c] {g f : Nat → Option α} {Q : α → Prop} (hc : ¬ c) (h : Evp f Q) : Evp (fun n => if c then g n else f n) Q := by
  simp only [if_neg hc]; exact h
theorem wrap_small {x : Int} (h : -9223372036854775808 ≤ x ∧ x ≤ 9223372036854775807) : wrap64 x = x := by unfold wrap64; omega
theorem rd_nat (l : List Int) (i : Nat) : rd l (i : Int) = l.getD i 0 := by unfold rd; rw [Int.toNat_natCast]
theorem wrap_succ {i : Nat} (h : i ≤ 1000000000000000) : wrap64 ((i : Int) + 1) = ((i + 1 : Nat) : Int) := by rw [wrap_small (by omega)]; omega
theorem impl_vectorOf_ok {a b c d : Int} (h : vok [a, b, c, d] = true) : impl_vectorOf.f [a, b, c, d] = some (a, b, c, d, true) := by
  unfold impl_vectorOf.f; rw [if_pos h]; rfl
theorem impl_vectorOf_no {l : List Int} (h : vok l = false) : impl_vectorOf.f l = some (0, 0, 0, 0, false) := by
  unfold impl_vectorOf.f; rw [if_neg (by simp [h])]
theorem impl_kindOk_eq (k : Int) : impl_kindOk.f k = some (lkind k) := by
  unfold impl_kindOk.f impl_within.f lkind
  by_cases h : k ≥ 1
  · rw [if_pos h]; simp [show (1 ≤ k) from h]
  · rw [if_neg h]; simp [show ¬ (1 ≤ k) from h]
theorem impl_rowOf_eq {k a : Int} (hk : lkind k = true) (ha : lshard a = true) : ∃ r0 r1 r2 r3, lrow k a = [r0, r1, r2, r3] ∧ impl_rowOf.f k a = some (r0, r1, r2, r3) := by
  have e : ∀ k : Int, k = 1 ∨ k = 2 → ∀ a : Fin 8, impl_rowOf.f k (a.val : Int) = some ((lrow k (a.val : Int)).getD 0 0, (lrow k (a.val : Int)).getD 1 0, (lrow k (a.val : Int)).getD 2 0, (lrow k (a.val : Int)).getD 3 0) := by
    intro k h
    rcases h with rfl | rfl
    · decide +kernel
    · decide +kernel
  obtain ⟨r0, r1, r2, r3, h, _⟩ := vok_four (lrow_ok hk ha)
  refine ⟨r0, r1, r2, r3, h, ?_⟩
  obtain ⟨x, rfl⟩ := lshard_fin ha
  rw [e k (lkind_cases hk) x, h]; rfl
theorem impl_vector_dot_eq {a0 a1 a2 a3 b0 b1 b2 b3 : Int} (ha : vok [a0, a1, a2, a3] = true) (hb : vok [b0, b1, b2, b3] = true) : impl_vector_dot.f a0 a1 a2 a3 b0 b1 b2 b3 = some (ldot [a0, a1, a2, a3] [b0, b1, b2, b3]) := by
  have ca := (vok_iff.1 ha).2; have cb := (vok_iff.1 hb).2
  have r : ∀ (l : List Int), (∀ x ∈ l, ok x = true) → ∀ x ∈ l, 0 ≤ x ∧ x < 31 := fun l h x hx => ok_iff.1 (h x hx)
  have qa := r _ ca; have qb := r _ cb
  unfold impl_vector_dot.f
  rw [if_pos ⟨⟨qa a0 (by simp), qa a1 (by simp), qa a2 (by simp), qa a3 (by simp)⟩, qb b0 (by simp), qb b1 (by simp), qb b2 (by simp), qb b3 (by simp)⟩, ldot_four]
  congr 1; omega
theorem impl_encode_ev {k : Int} (hk : lkind k = true) {d0 d1 d2 d3 : Int} (hd : vok [d0, d1, d2, d3] = true) : Evp (fun n => impl_encode.f n k d0 d1 d2 d3) (· = lall k [d0, d1, d2, d3]) := by
  have key : ∀ m i (out : List Int), i + m = 8 → out = (List.range i).map (fun (j : Nat) => ldot (lrow k (j : Int)) [d0, d1, d2, d3]) → Evp (fun n => impl_encode.l0 n k out (i : Int) d0 d1 d2 d3) (· = lall k [d0, d1, d2, d3]) := by
    intro m
    induction m with
    | zero =>
      intro i out hi ho
      refine Evp.step (fun n => by rw [impl_encode.l0]) (Evp.neg (by omega) (Evp.some' ?_))
      rw [ho, show i = 8 by omega]; rfl
    | succ m ih =>
      intro i out hi ho
      have hl : out.length = i := by rw [ho]; simp
      obtain ⟨r0, r1, r2, r3, e, er⟩ := impl_rowOf_eq hk (lshard_nat (show i < 8 by omega))
      have hr := lrow_ok hk (lshard_nat (show i < 8 by omega))
      rw [e] at hr
      refine Evp.step (fun n => by rw [impl_encode.l0]) (Evp.pos (by omega) ?_)
      rw [er]
      simp only [Option.bind_some, impl_vector_dot_eq hr hd]
      rw [wrap_succ (by omega)]
      refine Evp.pos (by omega) (ih (i + 1) _ (by omega) ?_)
      rw [ho, List.range_succ, List.map_append, ← e]; rfl
  unfold impl_encode.f
  exact Evp.pos (by decide) (key 8 0 [] rfl rfl)
theorem impl_CodeAll_ev (k : Int) (d : List Int) : Evp (fun n => impl_CodeAll.f n k d) (· = codeAll k d) := by
  unfold impl_CodeAll.f codeAll
  cases hd : vok d
  · rw [impl_vectorOf_no hd]
    exact Evp.eq rfl fun _ => by simp
  · obtain ⟨a, b, c, e, rfl, _⟩ := vok_four hd
    rw [impl_vectorOf_ok hd]
    simp only [Option.bind_some, impl_kindOk_eq, Bool.true_and]
    refine Evp.pos (by first | rfl | trivial) (Evp.ite (fun hk => ?_) fun hk => Evp.some' ?_)
    · rw [if_pos hk]
      exact Evp.bind (impl_encode_ev hk hd) fun t ht => Evp.some' ht
    · rw [if_neg hk]
def lcountFrom (x y : List Int) (i : Nat) : Nat := ((List.range' i (x.length - i)).filter fun j => decide (x.getD j 0 ≠ y.getD j 0)).length
def lapart (kind : Int) (a b : List Int) : Int := if (codeAll kind a).length = 0 ∨ (codeAll kind b).length = 0 then -1 else (lcountFrom (codeAll kind a) (codeAll kind b) 0 : Int)
theorem lcount_succ {x y : List Int} {i : Nat} (h : i < x.length) : lcountFrom x y i = (if x.getD i 0 = y.getD i 0 then 0 else 1) + lcountFrom x y (i + 1) := by
  unfold lcountFrom
  rw [show x.length - i = (x.length - (i + 1)) + 1 by omega, List.range'_succ, List.filter_cons]
  by_cases e : x.getD i 0 = y.getD i 0
  · simp only [e, ne_eq, not_true_eq_false, decide_false, Bool.false_eq_true, if_false, if_true]; omega
  · simp only [e, ne_eq, not_false_eq_true, decide_true, if_true, if_false, List.length_cons]; omega
theorem lcount_end {x y : List Int} {i : Nat} (h : x.length ≤ i) : lcountFrom x y i = 0 := by
  unfold lcountFrom; rw [show x.length - i = 0 by omega]; rfl
theorem apartF_ev {x y : List Int} (hl : x.length = y.length) (hn : x.length ≤ 1000) : Evp (fun k => apartF.l0 k x y 0 0) (· = (lcountFrom x y 0 : Int)) := by
  have key : ∀ (d i : Nat), i + d = x.length → ∀ m : Nat, m ≤ i → Evp (fun k => apartF.l0 k x y (m : Int) (i : Int)) (· = ((m + lcountFrom x y i : Nat) : Int)) := by
    intro d
    induction d with
    | zero =>
      intro i hi m hm
      refine Evp.step (fun k => by rw [apartF.l0]) (Evp.neg (by omega) (Evp.some' ?_))
      rw [lcount_end (by omega)]; rfl
    | succ d ih =>
      intro i hi m hm
      refine Evp.step (fun k => by rw [apartF.l0]) (Evp.pos (by omega) (Evp.pos (by omega) (Evp.pos (by omega) ?_)))
      rw [rd_nat, rd_nat, wrap_succ (by omega), wrap_succ (by omega), lcount_succ (by omega)]
      refine Evp.ite (fun h => ?_) fun h => ?_
      · rw [if_pos h]
        exact (ih (i + 1) (by omega) m (by omega)).mono fun r hr => by rw [hr]; omega
      · rw [if_neg h]
        exact (ih (i + 1) (by omega) (m + 1) (by omega)).mono fun r hr => by rw [hr]; omega
  have := key x.length 0 (by omega) 0 (by omega)
  simpa using this
theorem codeAll_two (kind : Int) (a : List Int) : (codeAll kind a).length = 0 ∨ (codeAll kind a).length = 8 := by
  unfold codeAll; split
  · exact .inr (lall_len _ _)
  · exact .inl rfl
theorem codeAll_ne (kind : Int) (l : List Int) : ∀ a b c d, impl_vectorOf.f l = some (a, b, c, d, true) → impl_kindOk.f kind = some true → codeAll kind l ≠ [] := by
  intro a b c d h1 h2 h3
  have hv : vok l = true := by
    by_cases hv : vok l = true
    · exact hv
    · rw [impl_vectorOf_no (Bool.eq_false_iff.2 hv)] at h1; simp at h1
  rw [impl_kindOk_eq] at h2
  have hk : lkind kind = true := by simpa using h2
  have := congrArg List.length h3
  unfold codeAll at this
  rw [hv, hk] at this
  simp [lall_len] at this
end Go.Proofs.Ytamaejafddmagaa.Lc
