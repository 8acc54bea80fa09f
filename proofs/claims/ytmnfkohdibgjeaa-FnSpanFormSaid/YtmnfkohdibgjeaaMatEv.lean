import Derived.Test.YtmnfkohdibgjeaaPCx0
import Derived.Test.YtmnfkohdibgjeaaPCx0
import Derived.Test.YtmnfkohdibgjeaaPCx1
import Derived.Test.YtmnfkohdibgjeaaPCx5
import Derived.Test.YtmnfkohdibgjeaaPCx6
import Derived.Test.YtmnfkohdibgjeaaPCx7
import Derived.Test.YtmnfkohdibgjeaaDrawV
/- What the printed functions over rows of rows come to. -/
set_option linter.unusedVariables false
set_option linter.unusedSimpArgs false
namespace Go.Proofs.Ytmnfkohdibgjeaa.Sc
open Go.RowKit Go.Proofs.Ytmnfkohdibgjeaa.PC Go.Proofs.YtmnfkohdibgjeaaW.PrintWords Go.Proofs.YtmnfkohdibgjeaaW.PrintLast Go.Proofs.YtmnfkohdibgjeaaW.PrintMore Go.Proofs.Ytmnfkohdibgjeaa.Lin

theorem rdL1_nat (m : List (List Int)) (i : Nat) : rd_L1 m (i : Int) = m.getD i [] := by unfold rd_L1; rw [Int.toNat_natCast]
theorem getDL_get {m : List (List Int)} {i : Nat} (h : i < m.length) : m.getD i [] = m[i] := by rw [List.getD_eq_getElem?_getD, List.getElem?_eq_getElem h]; rfl
theorem maxLen_big : maxLen ≤ 9223372036854775807 := by decide
/-- the budget that a law spends on its rows -/
theorem szIntSS_ev {m : List (List Int)} (hm : m.length ≤ maxLen) (hr : ∀ r ∈ m, r.length ≤ maxLen) : Evp (fun k => laws_szIntSS.f k m 1048576) (fun t => t < 0 ∨ (m.length ≤ 1048576 ∧ ∀ r ∈ m, r.length ≤ 1048576)) := by
  have hb := maxLen_big
  unfold laws_szIntSS.f
  rw [wrap_small (by omega)]
  refine Evp.ite (fun _ => Evp.some' (.inl (by decide))) fun h0 => ?_
  have hm2 : m.length ≤ 1048576 := by omega
  have key : ∀ d i (b : Int), i + d = m.length → 0 ≤ b ∧ b ≤ 1048576 → (∀ j, j < i → (m.getD j []).length ≤ 1048576) → Evp (fun k => laws_szIntSS.l0 k m b (i : Int)) (fun t => t < 0 ∨ (m.length ≤ 1048576 ∧ ∀ r ∈ m, r.length ≤ 1048576)) := by
    intro d
    induction d with
    | zero =>
      intro i b hi hb2 hp
      refine Evp.step (fun k => by rw [laws_szIntSS.l0]) (Evp.neg (by omega) (Evp.some' (.inr ⟨hm2, fun r h => ?_⟩)))
      obtain ⟨j, hj, rfl⟩ := List.mem_iff_getElem.1 h
      have := hp j (by omega)
      rwa [getDL_get hj] at this
    | succ d ih =>
      intro i b hi hb2 hp
      have hl : (m.getD i []).length ≤ maxLen := by rw [getDL_get (by omega)]; exact hr _ (List.getElem_mem _)
      refine Evp.step (fun k => by rw [laws_szIntSS.l0]) (Evp.pos (by omega) (Evp.pos (by omega) ?_))
      rw [rdL1_nat, wrap_succ (by omega)]
      have e : laws_szIntS.f (m.getD i []) b = some (if b - ((m.getD i []).length : Int) < 0 then -1 else b - ((m.getD i []).length : Int)) := by
        unfold laws_szIntS.f
        rw [wrap_small (by omega)]
        split <;> rfl
      rw [e]; simp only [Option.bind_some]
      by_cases h1 : b - ((m.getD i []).length : Int) < 0
      · rw [if_pos h1]
        exact Evp.pos (by decide) (Evp.some' (.inl (by decide)))
      · rw [if_neg h1]
        refine Evp.neg h1 (ih (i + 1) _ (by omega) (by omega) fun j hj => ?_)
        rcases Nat.lt_or_ge j i with c | c
        · exact hp j c
        · rw [show j = i by omega]; omega
  exact key m.length 0 _ (by omega) (by omega) (fun j hj => absurd hj (Nat.not_lt_zero j))
theorem toIntSS_ev {m : List (List Int)} (hm : m.length ≤ 1048576) (hr : ∀ r ∈ m, r.length ≤ 1048576) : Evp (fun k => laws_toIntSS.f k m) (· = m) := by
  have key : ∀ d i, i + d = m.length → Evp (fun k => laws_toIntSS.l0 k m (m.take i ++ List.replicate d []) (i : Int)) (· = m) := by
    intro d
    induction d with
    | zero =>
      intro i hi
      refine Evp.step (fun k => by rw [laws_toIntSS.l0]) ?_
      refine Evp.neg (by omega) ?_
      refine Evp.some' ?_
      simp [List.take_of_length_le (show m.length ≤ i by omega)]
    | succ d ih =>
      intro i hi
      refine Evp.step (fun k => by rw [laws_toIntSS.l0]) ?_
      refine Evp.pos (by omega) (Evp.pos (by omega) ?_)
      rw [rdL1_nat, getDL_get (show i < m.length by omega)]
      refine Evp.bind (toIntS_ev (hr _ (List.getElem_mem _))) fun t ht => ?_
      subst ht
      refine Evp.pos (by simp; omega) ?_
      rw [wrap_succ (by omega), Int.toNat_natCast]
      have e : (m.take i ++ List.replicate (d + 1) []).set i m[i] = m.take (i + 1) ++ List.replicate d [] := by
        rw [List.set_append, if_neg (by simp; omega), List.length_take, Nat.min_eq_left (by omega), Nat.sub_self, List.replicate_succ, List.set_cons_zero, List.take_succ_eq_append_getElem (show i < m.length by omega), List.append_assoc]; rfl
      rw [e]
      exact ih (i + 1) (by omega)
  unfold laws_toIntSS.f
  refine Evp.pos (by omega) (Evp.pos (by omega) ?_)
  rw [Int.toNat_natCast]
  have := key m.length 0 (by omega)
  rwa [List.take_zero, List.nil_append] at this
theorem eqIntSS_self {m : List (List Int)} (hm : m.length ≤ 1048576) (hr : ∀ r ∈ m, r.length ≤ 1048576) : Evp (fun k => laws_eqIntSS.f k m m) (· = true) := by
  have key : ∀ d i, i + d = m.length → Evp (fun k => laws_eqIntSS.l0 k m m (i : Int)) (· = true) := by
    intro d
    induction d with
    | zero =>
      intro i hi
      exact Evp.step (fun k => by rw [laws_eqIntSS.l0]) (Evp.neg (by omega) (Evp.some' rfl))
    | succ d ih =>
      intro i hi
      refine Evp.step (fun k => by rw [laws_eqIntSS.l0]) (Evp.pos (by omega) (Evp.pos (by omega) (Evp.pos (by omega) ?_)))
      rw [rdL1_nat, getDL_get (show i < m.length by omega)]
      refine Evp.bind (eqIntS_ev (by have := hr _ (List.getElem_mem (l := m) (n := i) (by omega)); omega)) fun t ht => ?_
      subst ht
      refine Evp.pos (by simp) ?_
      rw [wrap_succ (by omega)]
      exact ih (i + 1) (by omega)
  unfold laws_eqIntSS.f
  exact Evp.pos rfl (key m.length 0 (by omega))
theorem spec_SpanOk_ev {m : List (List Int)} (hm : m.length ≤ 1048576) (hr : ∀ r ∈ m, r.length ≤ 1048576) : Evp (fun k => spec_SpanOk.f k m) (· = mok m) := by
  have key : ∀ d i, i + d = m.length → (m.take i).all vok = true → Evp (fun k => spec_SpanOk.l0 k m (i : Int)) (· = mok m) := by
    intro d
    induction d with
    | zero =>
      intro i hi hp
      refine Evp.step (fun k => by rw [spec_SpanOk.l0]) (Evp.neg (by omega) (Evp.some' ?_))
      rw [List.take_of_length_le (by omega)] at hp
      unfold mok
      rw [hp, Bool.and_true]
      congr 1
      rw [eq_iff_iff]; omega
    | succ d ih =>
      intro i hi hp
      refine Evp.step (fun k => by rw [spec_SpanOk.l0]) (Evp.pos (by omega) (Evp.pos (by omega) ?_))
      rw [rdL1_nat, getDL_get (show i < m.length by omega)]
      refine Evp.bind (spec_VecOk_ev (by have := hr _ (List.getElem_mem (l := m) (n := i) (by omega)); omega)) fun t ht => ?_
      subst ht
      refine Evp.ite (fun h => ?_) fun h => Evp.some' ?_
      · rw [wrap_succ (by omega)]
        refine ih (i + 1) (by omega) ?_
        rw [List.take_succ_eq_append_getElem (show i < m.length by omega), List.all_append, hp, List.all_cons, h]; rfl
      · have : mok m = false := by
          rw [Bool.eq_false_iff]
          intro hc
          exact h ((mok_iff.1 hc).2 _ (List.getElem_mem _))
        rw [this]
  unfold spec_SpanOk.f
  exact key m.length 0 (by omega) rfl
/-- a row as the program's own vector -/
def toS (r : List Int) : S70 := ⟨r.getD 0 0, r.getD 1 0, r.getD 2 0, r.getD 3 0⟩
theorem impl_matrixOf_ev {m : List (List Int)} (hm : m.length ≤ 1048576) : Evp (fun k => impl_matrixOf.f k m) (· = if m.all vok = true then (m.map toS, decide (m.length ≤ 8)) else ([], false)) := by
  have key : ∀ d i, i + d = m.length → (m.take i).all vok = true → Evp (fun k => impl_matrixOf.l0 k m ((m.take i).map toS) m (m.length : Int) (i : Int)) (· = if m.all vok = true then (m.map toS, decide (m.length ≤ 8)) else ([], false)) := by
    intro d
    induction d with
    | zero =>
      intro i hi hp
      refine Evp.step (fun k => by rw [impl_matrixOf.l0]) (Evp.neg (by omega) (Evp.some' ?_))
      rw [List.take_of_length_le (by omega)] at hp ⊢
      rw [if_pos hp]
      congr 2
      rw [eq_iff_iff]; omega
    | succ d ih =>
      intro i hi hp
      refine Evp.step (fun k => by rw [impl_matrixOf.l0]) (Evp.pos (by omega) (Evp.pos (by omega) (Evp.pos (by omega) ?_)))
      rw [rdL1_nat, getDL_get (show i < m.length by omega)]
      by_cases hv : vok m[i] = true
      · obtain ⟨a, b, c, e, he, _⟩ := vok_four hv
        rw [he] at hv
        rw [he, impl_vectorOf_ok hv]; simp only [Option.bind_some]
        refine Evp.pos (by first | rfl | trivial) (Evp.pos (by simp; omega) ?_)
        rw [wrap_succ (by omega)]
        have := ih (i + 1) (by omega) (by rw [List.take_succ_eq_append_getElem (show i < m.length by omega), List.all_append, hp, List.all_cons, he, hv]; rfl)
        rw [List.take_succ_eq_append_getElem (show i < m.length by omega), List.map_append, he] at this
        exact this
      · rw [impl_vectorOf_no (Bool.eq_false_iff.2 hv)]; simp only [Option.bind_some]
        refine Evp.neg (by simp) (Evp.some' ?_)
        rw [if_neg]
        intro hc
        exact hv (List.all_eq_true.1 hc _ (List.getElem_mem _))
  unfold impl_matrixOf.f
  exact Evp.pos (by omega) (Evp.pos (by omega) (key m.length 0 (by omega) rfl))
theorem impl_SpanOk_ev {m : List (List Int)} (hm : m.length ≤ 1048576) : Evp (fun k => impl_SpanOk.f k m) (· = mok m) := by
  unfold impl_SpanOk.f
  refine Evp.bind (impl_matrixOf_ev hm) fun t ht => Evp.some' ?_
  subst ht
  unfold mok
  by_cases h : m.all vok = true
  · rw [if_pos h, h, Bool.and_true]
  · rw [if_neg h, Bool.eq_false_iff.2 h, Bool.and_false]

/-! ### draws of rows -/
/-- what is drawn for rows -/
def Dm (m : List (List Int)) : Prop := m.length ≤ 12 ∧ ∀ r ∈ m, r.length ≤ 10
theorem Dm.snoc {m : List (List Int)} {n : Nat} (hn : m.length ≤ n) (hm : ∀ r ∈ m, r.length ≤ 10) {v : List Int} (hv : v.length ≤ 10) : (m ++ [v]).length ≤ n + 1 ∧ ∀ r ∈ m ++ [v], r.length ≤ 10 := by
  refine ⟨by simp; omega, fun r hr => ?_⟩
  rcases List.mem_append.1 hr with h | h
  · exact hm r h
  · simp at h; rw [h]; exact hv
theorem l91Rows_ev {l : List Int} (hs : St l) {p : Int} (hp : 0 ≤ p ∧ p ≤ 80000) : Evp (fun k => spec_l91Rows.f k l p) (fun r => (r.1.length ≤ 9 ∧ ∀ x ∈ r.1, x.length ≤ 10) ∧ p ≤ r.2 ∧ r.2 ≤ p + 200) := by
  have key1 : ∀ d (m : List (List Int)) (q : Int), m.length + d = 9 → (∀ r ∈ m, r.length ≤ 10) → p ≤ q ∧ q ≤ p + 200 → Evp (fun k => spec_l91Rows.l1 k m l q) (fun r => (r.1.length ≤ 9 ∧ ∀ x ∈ r.1, x.length ≤ 10) ∧ p ≤ r.2 ∧ r.2 ≤ p + 200) := by
    intro d
    induction d with
    | zero =>
      intro m q hm hr hq
      exact Evp.step (fun k => by rw [spec_l91Rows.l1]) (Evp.neg (by omega) (Evp.some' ⟨⟨by show m.length ≤ 9; omega, hr⟩, hq⟩))
    | succ d ih =>
      intro m q hm hr hq
      refine Evp.step (fun k => by rw [spec_l91Rows.l1]) (Evp.pos (by omega) (Evp.pos (by omega) ?_))
      have := Dm.snoc (n := m.length) (Nat.le_refl _) hr (v := [1, 2, 3, 4]) (by decide)
      exact ih _ q (by simp; omega) this.2 hq
  have key0 : ∀ d (m : List (List Int)) (q : Int), m.length + d ≤ 5 → (∀ r ∈ m, r.length ≤ 10) → p ≤ q ∧ q ≤ p + 150 - 24 * d → Evp (fun k => spec_l91Rows.l0 k m (d : Int) l q) (fun r => (r.1.length ≤ 9 ∧ ∀ x ∈ r.1, x.length ≤ 10) ∧ p ≤ r.2 ∧ r.2 ≤ p + 200) := by
    intro d
    induction d with
    | zero =>
      intro m q hm hr hq
      refine Evp.step (fun k => by rw [spec_l91Rows.l0]) (Evp.neg (by omega) ?_)
      refine Evp.bind (pick_ev hs (n := 40) (by omega) (by omega)) fun r h => ?_
      refine Evp.ite (fun _ => ?_) fun _ => Evp.some' ⟨⟨by show m.length ≤ 9; omega, hr⟩, by show p ≤ r.2; omega, by show r.2 ≤ p + 200; omega⟩
      exact key1 (9 - m.length) m _ (by omega) hr (by omega)
    | succ d ih =>
      intro m q hm hr hq
      have hj : ∀ (v : List Int) (c : Bool) (q2 : Int), v.length ≤ 10 → q ≤ q2 ∧ q2 ≤ q + 21 → (c = true → 2 ≤ m.length ∧ vok (m.getD 0 []) = true ∧ vok (m.getD 1 []) = true) → Evp (fun k => spec_l91Rows.j1 k m ((d + 1 : Nat) : Int) v c l q2) (fun r => (r.1.length ≤ 9 ∧ ∀ x ∈ r.1, x.length ≤ 10) ∧ p ≤ r.2 ∧ r.2 ≤ p + 200) := by
        intro v c q2 hv hq2 hc
        refine Evp.step (fun k => by rw [spec_l91Rows.j1]) ?_
        refine Evp.ite (fun h => ?_) fun h => ?_
        · obtain ⟨h2, v0, v1⟩ := hc h
          have l0 := (vok_iff.1 v0).1; have l1 := (vok_iff.1 v1).1
          refine Evp.pos (by omega) ?_
          refine Evp.bind (pick_ev hs (n := 31) (by omega) (by omega)) fun r1 hr1 => ?_
          rw [show rd_L1 m 0 = m.getD 0 [] from rfl, show rd_L1 m 1 = m.getD 1 [] from rfl]
          refine Evp.bind (l2Scale_ev (vok_iff.1 v0).2 (ok_iff.2 ⟨hr1.1, hr1.2.1⟩) (by omega)) fun t0 ht0 => ?_
          subst ht0
          refine Evp.pos (by omega) ?_
          refine Evp.bind (pick_ev hs (n := 31) (by omega) (by omega)) fun r2 hr2 => ?_
          refine Evp.bind (l2Scale_ev (vok_iff.1 v1).2 (ok_iff.2 ⟨hr2.1, hr2.2.1⟩) (by omega)) fun t1 ht1 => ?_
          subst ht1
          refine Evp.bind (l2Sum_ev (can_lscale _ _) (can_lscale _ _) (by rw [lscale_len, lscale_len]; omega) (by rw [lscale_len]; omega)) fun t2 ht2 => ?_
          subst ht2
          refine Evp.pos (by omega) ?_
          rw [wrap_small (by omega), show (((d + 1 : Nat) : Int) - 1) = (d : Int) by omega]
          have := Dm.snoc (n := m.length) (Nat.le_refl _) hr (v := lsum (lscale (m.getD 0 []) r1.1) (lscale (m.getD 1 []) r2.1)) (by rw [lsum_len (by rw [lscale_len, lscale_len]; omega), lscale_len]; omega)
          exact ih _ _ (by simp; omega) this.2 (by omega)
        · refine Evp.pos (by omega) ?_
          rw [wrap_small (by omega), show (((d + 1 : Nat) : Int) - 1) = (d : Int) by omega]
          have := Dm.snoc (n := m.length) (Nat.le_refl _) hr hv
          exact ih _ _ (by simp; omega) this.2 (by omega)
      refine Evp.step (fun k => by rw [spec_l91Rows.l0]) (Evp.pos (by omega) ?_)
      refine Evp.bind (l91Vec_ev hs (by omega)) fun r1 hr1 => ?_
      have hv : r1.1.length ≤ 10 := by have := hr1.1.2.1; omega
      refine Evp.ite (fun h2 => ?_) fun _ => hj _ _ _ hv (by omega) (by simp)
      refine Evp.bind (pick_ev hs (n := 3) (by omega) (by omega)) fun r2 hr2 => ?_
      refine Evp.ite (fun _ => ?_) fun _ => hj _ _ _ hv (by omega) (by simp)
      refine Evp.pos (by omega) ?_
      rw [show rd_L1 m 0 = m.getD 0 [] from rfl, show rd_L1 m 1 = m.getD 1 [] from rfl]
      have q0 : (m.getD 0 []).length ≤ 10 := by rw [getDL_get (by omega)]; exact hr _ (List.getElem_mem _)
      have q1 : (m.getD 1 []).length ≤ 10 := by rw [getDL_get (by omega)]; exact hr _ (List.getElem_mem _)
      refine Evp.bind (spec_VecOk_ev (by omega)) fun t ht => ?_
      subst ht
      refine Evp.ite (fun c0 => ?_) fun _ => hj _ _ _ hv (by omega) (by simp)
      refine Evp.pos (by omega) ?_
      refine Evp.bind (spec_VecOk_ev (by omega)) fun t ht => ?_
      subst ht
      exact hj _ _ _ hv (by omega) (fun c1 => ⟨by omega, c0, c1⟩)
  unfold spec_l91Rows.f
  refine Evp.bind (pick_ev hs (n := 6) (by omega) (by omega)) fun r hr => ?_
  obtain ⟨d, hd⟩ : ∃ d : Nat, r.1 = (d : Int) := ⟨r.1.toNat, by omega⟩
  rw [hd]
  exact key0 d [] _ (by simp; omega) (by simp) (by omega)
theorem drawSpanOk_ev {l : List Int} (h : ∀ x ∈ l, 0 ≤ x ∧ x ≤ 255) : Evp (fun k => spec_DrawSpanOk.f k l) Dm := by
  unfold spec_DrawSpanOk.f
  obtain ⟨l', e, hs⟩ := open_eq l h
  rw [e]; simp only [Option.bind_some]
  refine Evp.bind (l91Rows_ev hs (p := 0) (by omega)) fun r hr => ?_
  refine Evp.bind (pick_ev hs (n := 5) (by omega) (by omega)) fun r2 hr2 => ?_
  refine Evp.ite (fun _ => Evp.pos (by omega) (Evp.some' ?_)) fun _ => Evp.some' ⟨by omega, hr.1.2⟩
  have := Dm.snoc hr.1.1 hr.1.2 (v := [1, 2]) (by decide)
  exact ⟨by omega, this.2⟩
end Go.Proofs.Ytmnfkohdibgjeaa.Sc
