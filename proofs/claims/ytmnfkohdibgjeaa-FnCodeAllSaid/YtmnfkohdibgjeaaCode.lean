import Derived.Test.YtmnfkohdibgjeaaPAx0
import Derived.Test.YtmnfkohdibgjeaaPAx10
import Derived.Test.YtmnfkohdibgjeaaPAx11
import Derived.Test.YtmnfkohdibgjeaaPAx3
import Derived.Test.YtmnfkohdibgjeaaPAx4
import Derived.Test.YtmnfkohdibgjeaaPAx6
import Derived.Test.YtmnfkohdibgjeaaPAx7
import Derived.Test.YtmnfkohdibgjeaaPAx8
import Derived.Test.YtmnfkohdibgjeaaPAx9
import Derived.Test.YtmnfkohdibgjeaaDrawV
/- What the printed functions over codes come to. -/
set_option linter.unusedVariables false
set_option linter.unusedSimpArgs false
namespace Go.Proofs.Ytmnfkohdibgjeaa.Lin
def lkind (k : Int) : Bool := decide (1 ≤ k) && decide (k ≤ 2)
def lshard (a : Int) : Bool := decide (0 ≤ a) && decide (a ≤ 7)
def lrow (kind at_ : Int) : List Int :=
  if kind = 1 then ([[1, 0, 0, 0], [0, 1, 0, 0], [0, 0, 1, 0], [0, 0, 0, 1], [1, 1, 0, 0], [0, 0, 1, 1], [1, 2, 4, 8], [1, 3, 9, 27]] : List (List Int)).getD at_.toNat []
  else [1, at_ + 1, (at_ + 1) * (at_ + 1) % 31, (at_ + 1) * (at_ + 1) * (at_ + 1) % 31]
def lall (kind : Int) (d : List Int) : List Int := (List.range 8).map fun (i : Nat) => ldot (lrow kind (i : Int)) d
def codeRow (kind at_ : Int) : List Int × Bool := if lkind kind && lshard at_ then (lrow kind at_, true) else ([], false)
def codeAll (kind : Int) (d : List Int) : List Int := if vok d && lkind kind then lall kind d else []
theorem lkind_cases {k : Int} (h : lkind k = true) : k = 1 ∨ k = 2 := by
  unfold lkind at h; simp only [Bool.and_eq_true, decide_eq_true_eq] at h; omega
theorem lshard_fin {a : Int} (h : lshard a = true) : ∃ x : Fin 8, (x.val : Int) = a := by
  unfold lshard at h; simp only [Bool.and_eq_true, decide_eq_true_eq] at h
  exact ⟨⟨a.toNat, by omega⟩, by simp only; omega⟩
theorem lshard_nat {i : Nat} (h : i < 8) : lshard (i : Int) = true := by unfold lshard; simp; omega
theorem lrow_ok {k a : Int} (hk : lkind k = true) (ha : lshard a = true) : vok (lrow k a) = true := by
  have k1 : ∀ a : Fin 8, vok (lrow 1 (a.val : Int)) = true := by decide +kernel
  have k2 : ∀ a : Fin 8, vok (lrow 2 (a.val : Int)) = true := by decide +kernel
  obtain ⟨x, rfl⟩ := lshard_fin ha
  rcases lkind_cases hk with rfl | rfl
  · exact k1 x
  · exact k2 x
theorem lall_len (k : Int) (d : List Int) : (lall k d).length = 8 := by simp [lall]
theorem codeAll_len (k : Int) (d : List Int) : (codeAll k d).length ≤ 8 := by unfold codeAll; split <;> simp [lall_len]
theorem codeRow_len (k a : Int) : (codeRow k a).1.length ≤ 4 := by
  unfold codeRow; split
  · rename_i h
    simp only [Bool.and_eq_true] at h
    exact Nat.le_of_eq (vok_iff.1 (lrow_ok h.1 h.2)).1
  · simp
theorem lall_get (k : Int) (d : List Int) {i : Nat} (h : i < 8) : (lall k d).getD i 0 = ldot (lrow k (i : Int)) d := by
  have : i < (lall k d).length := by rw [lall_len]; exact h
  rw [List.getD_eq_getElem?_getD, List.getElem?_eq_getElem this]
  simp [lall]
end Go.Proofs.Ytmnfkohdibgjeaa.Lin
namespace Go.Proofs.Ytmnfkohdibgjeaa.Sc
open Go.RowKit Go.Proofs.Ytmnfkohdibgjeaa.PA Go.Proofs.YtmnfkohdibgjeaaW.PrintWords Go.Proofs.YtmnfkohdibgjeaaW.PrintLast Go.Proofs.YtmnfkohdibgjeaaW.PrintMore Go.Proofs.Ytmnfkohdibgjeaa.Lin

theorem impl_kindOk_eq (k : Int) : impl_kindOk.f k = some (lkind k) := by
  unfold impl_kindOk.f impl_within.f lkind
  by_cases h : k ≥ 1
  · rw [if_pos h]; simp [show (1 ≤ k) from h]
  · rw [if_neg h]; simp [show ¬ (1 ≤ k) from h]
theorem impl_shardOk_eq (k : Int) : impl_shardOk.f k = some (lshard k) := by
  unfold impl_shardOk.f impl_within.f lshard
  by_cases h : k ≥ 0
  · rw [if_pos h]; simp [show (0 ≤ k) from h]
  · rw [if_neg h]; simp [show ¬ (0 ≤ k) from h]
theorem spec_l4Kind_eq (k : Int) : spec_l4Kind.f k = some (lkind k) := by
  unfold spec_l4Kind.f spec_l6In.f lkind
  by_cases h : k ≥ 1
  · rw [if_pos h]; simp [show (1 ≤ k) from h]
  · rw [if_neg h]; simp [show ¬ (1 ≤ k) from h]
theorem spec_l6In_shard (k : Int) : spec_l6In.f k 0 7 = some (lshard k) := by
  unfold spec_l6In.f lshard
  by_cases h : k ≥ 0
  · rw [if_pos h]; simp [show (0 ≤ k) from h]
  · rw [if_neg h]; simp [show ¬ (0 ≤ k) from h]
theorem spec_l4Row_eq {k a : Int} (hk : lkind k = true) (ha : lshard a = true) : spec_l4Row.f k a = some (lrow k a) := by
  have k1 : ∀ a : Fin 8, spec_l4Row.f 1 (a.val : Int) = some (lrow 1 (a.val : Int)) := by decide +kernel
  have k2 : ∀ a : Fin 8, spec_l4Row.f 2 (a.val : Int) = some (lrow 2 (a.val : Int)) := by decide +kernel
  obtain ⟨x, rfl⟩ := lshard_fin ha
  rcases lkind_cases hk with rfl | rfl
  · exact k1 x
  · exact k2 x
theorem impl_rowOf_eq {k a : Int} (hk : lkind k = true) (ha : lshard a = true) : ∃ r0 r1 r2 r3, lrow k a = [r0, r1, r2, r3] ∧ impl_rowOf.f k a = some (r0, r1, r2, r3) := by
  have e : ∀ k : Int, k = 1 ∨ k = 2 → ∀ a : Fin 8, impl_rowOf.f k (a.val : Int) = some ((lrow k (a.val : Int)).getD 0 0, (lrow k (a.val : Int)).getD 1 0, (lrow k (a.val : Int)).getD 2 0, (lrow k (a.val : Int)).getD 3 0) := by
    intro k h
    rcases h with rfl | rfl
    · decide +kernel
    · decide +kernel
  obtain ⟨r0, r1, r2, r3, h, _⟩ := vok_four (lrow_ok hk ha)
  refine ⟨r0, r1, r2, r3, h, ?_⟩
  obtain ⟨x, rfl⟩ := lshard_fin ha
  rw [e k (lkind_cases hk) x, h]; rfl
theorem spec_CodeRow_eq (k a : Int) : spec_CodeRow.f k a = some (codeRow k a) := by
  unfold spec_CodeRow.f codeRow
  rw [spec_l4Kind_eq, spec_l6In_shard]
  cases hk : lkind k
  · simp
  · cases ha : lshard a
    · simp
    · simp [spec_l4Row_eq hk ha]
theorem impl_CodeRow_ev (k a : Int) : Evp (fun n => impl_CodeRow.f n k a) (· = codeRow k a) := by
  unfold impl_CodeRow.f codeRow
  simp only [impl_kindOk_eq, impl_shardOk_eq, Option.bind_some]
  have key : ∀ c : Bool, c = !(lkind k && lshard a) → Evp (fun n => impl_CodeRow.j0 n k a c) (· = if (lkind k && lshard a) = true then (lrow k a, true) else ([], false)) := fun c hc => by
    subst hc
    refine Evp.step (fun n => by rw [impl_CodeRow.j0]) ?_
    refine Evp.ite (fun h => ?_) fun h => ?_
    · have h2 : ¬ (lkind k && lshard a) = true := by simpa only [Bool.not_eq_true', Bool.not_eq_true] using h
      rw [if_neg h2]; exact Evp.some' rfl
    · have hb : lkind k = true ∧ lshard a = true := by simpa using h
      obtain ⟨r0, r1, r2, r3, e, er⟩ := impl_rowOf_eq hb.1 hb.2
      rw [er]
      simp only [Option.bind_some, impl_vector_list.f]
      exact Evp.some' (by rw [hb.1, hb.2, e]; rfl)
  refine Evp.ite (fun h => ?_) fun h => ?_
  · exact key _ (by rw [h]; simp)
  · exact key _ (by simp [h])
theorem impl_vector_dot_eq {a0 a1 a2 a3 b0 b1 b2 b3 : Int} (ha : vok [a0, a1, a2, a3] = true) (hb : vok [b0, b1, b2, b3] = true) : impl_vector_dot.f a0 a1 a2 a3 b0 b1 b2 b3 = some (ldot [a0, a1, a2, a3] [b0, b1, b2, b3]) := by
  have ca := (vok_iff.1 ha).2; have cb := (vok_iff.1 hb).2
  have r : ∀ (l : List Int), (∀ x ∈ l, ok x = true) → ∀ x ∈ l, 0 ≤ x ∧ x < 31 := fun l h x hx => ok_iff.1 (h x hx)
  have qa := r _ ca; have qb := r _ cb
  unfold impl_vector_dot.f
  rw [if_pos ⟨⟨qa a0 (by simp), qa a1 (by simp), qa a2 (by simp), qa a3 (by simp)⟩, qb b0 (by simp), qb b1 (by simp), qb b2 (by simp), qb b3 (by simp)⟩, ldot_four]
  congr 1; omega
theorem impl_encode_ev {k : Int} (hk : lkind k = true) {d0 d1 d2 d3 : Int} (hd : vok [d0, d1, d2, d3] = true) : Evp (fun n => impl_encode.f n k d0 d1 d2 d3) (· = lall k [d0, d1, d2, d3]) := by
  have key : ∀ m i (out : List Int), i + m = 8 → out = (List.range i).map (fun (j : Nat) => ldot (lrow k (j : Int)) [d0, d1, d2, d3]) → Evp (fun n => impl_encode.l0 n k out (i : Int) d0 d1 d2 d3) (· = lall k [d0, d1, d2, d3]) := by
    intro m
    induction m with
    | zero =>
      intro i out hi ho
      refine Evp.step (fun n => by rw [impl_encode.l0]) (Evp.neg (by omega) (Evp.some' ?_))
      rw [ho, show i = 8 by omega]; rfl
    | succ m ih =>
      intro i out hi ho
      have hl : out.length = i := by rw [ho]; simp
      obtain ⟨r0, r1, r2, r3, e, er⟩ := impl_rowOf_eq hk (lshard_nat (show i < 8 by omega))
      have hr := lrow_ok hk (lshard_nat (show i < 8 by omega))
      rw [e] at hr
      refine Evp.step (fun n => by rw [impl_encode.l0]) (Evp.pos (by omega) ?_)
      rw [er]
      simp only [Option.bind_some, impl_vector_dot_eq hr hd]
      rw [wrap_succ (by omega)]
      refine Evp.pos (by omega) (ih (i + 1) _ (by omega) ?_)
      rw [ho, List.range_succ, List.map_append, ← e]; rfl
  unfold impl_encode.f
  exact Evp.pos (by decide) (key 8 0 [] rfl rfl)
theorem impl_CodeAll_ev (k : Int) (d : List Int) : Evp (fun n => impl_CodeAll.f n k d) (· = codeAll k d) := by
  unfold impl_CodeAll.f codeAll
  cases hd : vok d
  · rw [impl_vectorOf_no hd]
    exact Evp.eq rfl fun _ => by simp
  · obtain ⟨a, b, c, e, rfl, _⟩ := vok_four hd
    rw [impl_vectorOf_ok hd]
    simp only [Option.bind_some, impl_kindOk_eq, Bool.true_and]
    refine Evp.pos (by first | rfl | trivial) (Evp.ite (fun hk => ?_) fun hk => Evp.some' ?_)
    · rw [if_pos hk]
      exact Evp.bind (impl_encode_ev hk hd) fun t ht => Evp.some' ht
    · rw [if_neg hk]
theorem spec_l4All_ev {k : Int} (hk : lkind k = true) {d : List Int} (hd : vok d = true) : Evp (fun n => spec_l4All.f n k d) (· = lall k d) := by
  have hdl := (vok_iff.1 hd).1
  have key : ∀ m i (out : List Int), i + m = 8 → out = (List.range i).map (fun (j : Nat) => ldot (lrow k (j : Int)) d) → Evp (fun n => spec_l4All.l0 n k d out (i : Int)) (· = lall k d) := by
    intro m
    induction m with
    | zero =>
      intro i out hi ho
      refine Evp.step (fun n => by rw [spec_l4All.l0]) (Evp.neg (by omega) (Evp.some' ?_))
      rw [ho, show i = 8 by omega]; rfl
    | succ m ih =>
      intro i out hi ho
      have hl : out.length = i := by rw [ho]; simp
      have hr := lrow_ok hk (lshard_nat (show i < 8 by omega))
      have hrl := (vok_iff.1 hr).1
      refine Evp.step (fun n => by rw [spec_l4All.l0]) (Evp.pos (by omega) ?_)
      rw [spec_l4Row_eq hk (lshard_nat (show i < 8 by omega))]
      simp only [Option.bind_some]
      refine Evp.bind (l2Dot_ev (vok_iff.1 hr).2 (vok_iff.1 hd).2 (by omega) (by omega)) fun t ht => ?_
      subst ht
      rw [wrap_succ (by omega)]
      refine Evp.pos (by omega) (ih (i + 1) _ (by omega) ?_)
      rw [ho, List.range_succ, List.map_append]; rfl
  unfold spec_l4All.f
  exact key 8 0 [] rfl rfl
theorem spec_CodeAll_ev {k : Int} {d : List Int} (hn : d.length ≤ 1000000000000) : Evp (fun n => spec_CodeAll.f n k d) (· = codeAll k d) := by
  unfold spec_CodeAll.f codeAll
  simp only [spec_l4Kind_eq, Option.bind_some]
  refine Evp.ite (fun hk => ?_) fun hk => Evp.some' (by simp [hk])
  refine Evp.bind (spec_VecOk_ev hn) fun t ht => ?_
  subst ht
  refine Evp.ite (fun hd => ?_) fun hd => Evp.some' (by simp [hd])
  refine Evp.bind (spec_l4All_ev hk hd) fun t ht => Evp.some' ?_
  rw [ht, hk, hd]; rfl

/-! ### draws -/
theorem l91Kind_ev {l : List Int} (hs : St l) {p : Int} (hp : 0 ≤ p ∧ p ≤ 90000) : Evp (fun k => spec_l91Kind.f k l p) (fun r => 0 ≤ r.1 ∧ r.1 ≤ 3 ∧ r.2 = p + 2) := by
  unfold spec_l91Kind.f
  refine Evp.bind (pick_ev hs (n := 40) (by omega) (by omega)) fun r hr => ?_
  refine Evp.ite (fun _ => ?_) fun _ => ?_
  · simp only [Option.bind_some]
    refine Evp.bind (pick_ev hs (n := 2) (by omega) (by omega)) fun r2 hr2 => ?_
    refine Evp.pos (by omega) (Evp.pos (by simp; omega) (Evp.some' ?_))
    have : r2.1 = 0 ∨ r2.1 = 1 := by omega
    refine ⟨?_, ?_, by show r2.2 = p + 2; omega⟩
    · show 0 ≤ rd [0, 3] r2.1
      rcases this with h | h <;> rw [h] <;> decide
    · show rd [0, 3] r2.1 ≤ 3
      rcases this with h | h <;> rw [h] <;> decide
  · refine Evp.bind (pick_ev hs (n := 2) (by omega) (by omega)) fun r2 hr2 => Evp.some' ?_
    rw [wrap_small (by omega)]
    refine ⟨?_, ?_, by show r2.2 = p + 2; omega⟩
    · show 0 ≤ 1 + r2.1; omega
    · show 1 + r2.1 ≤ 3; omega
theorem drawCodeRow_ev {l : List Int} (h : ∀ x ∈ l, 0 ≤ x ∧ x ≤ 255) : Evp (fun k => spec_DrawCodeRow.f k l) (fun r => True) := by
  unfold spec_DrawCodeRow.f
  obtain ⟨l', e, hs⟩ := open_eq l h
  rw [e]; simp only [Option.bind_some]
  refine Evp.bind (l91Kind_ev hs (p := 0) (by omega)) fun r hr => ?_
  exact Evp.bind (pick_ev hs (n := 10) (by omega) (by omega)) fun r2 hr2 => Evp.some' trivial
theorem drawCodeAll_ev {l : List Int} (h : ∀ x ∈ l, 0 ≤ x ∧ x ≤ 255) : Evp (fun k => spec_DrawCodeAll.f k l) (fun r => r.2.length ≤ 10) := by
  unfold spec_DrawCodeAll.f
  obtain ⟨l', e, hs⟩ := open_eq l h
  rw [e]; simp only [Option.bind_some]
  refine Evp.bind (l91Kind_ev hs (p := 0) (by omega)) fun r hr => ?_
  refine Evp.bind (l91Vec_ev hs (by omega)) fun r2 hr2 => Evp.some' ?_
  have := hr2.1.2.1; show r2.1.length ≤ 10; omega
end Go.Proofs.Ytmnfkohdibgjeaa.Sc
