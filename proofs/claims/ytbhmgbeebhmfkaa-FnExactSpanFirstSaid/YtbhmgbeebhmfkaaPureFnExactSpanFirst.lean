import Derived.Test.YtbhmgbeebhmfkaaPAx0
import Derived.Test.YtbhmgbeebhmfkaaPAx1
import Derived.Test.YtbhmgbeebhmfkaaPAx11
import Derived.Test.YtbhmgbeebhmfkaaPAx12
import Derived.Test.YtbhmgbeebhmfkaaPAx2
import Derived.Test.YtbhmgbeebhmfkaaPAx5
import Derived.Test.YtbhmgbeebhmfkaaLf
import Derived.Test.YtbhmgbeebhmfkaaMa
import Derived.Laws.BitsAllLaws
import Derived.Laws.BitsLemmas
import Derived.OpenShut
/- Of the printed functions over single rows: what a walk by hand wants of them. -/
set_option linter.unusedVariables false
set_option linter.unusedSimpArgs false
namespace Go.Proofs.Ytbhmgbeebhmfkaa.Pure
open Go.RowKit Go.Proofs.Ytbhmgbeebhmfkaa.PA Go.Proofs.YtbhmgbeebhmfkaaW.PrintWords Go.Proofs.YtbhmgbeebhmfkaaW.PrintLast Go.Proofs.YtbhmgbeebhmfkaaW.PrintMore Go.Proofs.Ytbhmgbeebhmfkaa.Lin

theorem Evp.ite {α : Type} {c : Prop} [Decidable c] {g f : Nat → Option α} {Q : α → Prop} (h : c → Evp g Q) (k : ¬ c → Evp f Q) : Evp (fun n => if c then g n else f n) Q := by
  by_cases hc : c
  · simp only [if_pos hc]; exact h hc
  · simp only [if_neg hc]; exact k hc
theorem spec_FieldOk_eq (a : Int) : spec_FieldOk.f a = some (ok a) := by
  unfold spec_FieldOk.f spec_l6In.f ok
  by_cases h : a ≥ 0
  · rw [if_pos h]; simp [show (a ≤ 30) = (a < 31) by rw [eq_iff_iff]; omega, h]
  · rw [if_neg h]; simp [h]
theorem rd_nat (l : List Int) (i : Nat) : rd l (i : Int) = l.getD i 0 := by unfold rd; rw [Int.toNat_natCast]
theorem getD_get {l : List Int} {i : Nat} (h : i < l.length) : l.getD i 0 = l[i] := by rw [List.getD_eq_getElem?_getD, List.getElem?_eq_getElem h]; rfl
theorem spec_VecOk_ev {l : List Int} (hl : l.length ≤ 1000000000000) : Evp (fun k => spec_VecOk.f k l) (· = vok l) := by
  have key : ∀ d i, i + d = l.length → Evp (fun k => spec_VecOk.l0 k l (i : Int)) (· = ((l.drop i).all ok && (l.length == 4))) := by
    intro d
    induction d with
    | zero =>
      intro i hi
      refine Evp.step (fun k => by rw [spec_VecOk.l0]) ?_
      refine Evp.neg (by omega) ?_
      refine Evp.some' ?_
      rw [List.drop_eq_nil_of_le (by omega), Bool.eq_iff_iff, beq_iff_eq]; simp; omega
    | succ d ih =>
      intro i hi
      refine Evp.step (fun k => by rw [spec_VecOk.l0]) ?_
      refine Evp.pos (by omega) (Evp.pos (by omega) ?_)
      simp only [spec_FieldOk_eq, Option.bind_some, rd_nat, getD_get (show i < l.length by omega)]
      rw [List.drop_eq_getElem_cons (show i < l.length by omega), List.all_cons]
      refine Evp.ite (fun h => ?_) fun h => ?_
      · rw [wrap_succ (by omega), h]
        exact ih (i + 1) (by omega)
      · exact Evp.some' (by simp [h])
  have := key l.length 0 (by omega)
  unfold spec_VecOk.f
  refine this.mono fun r hr => ?_
  rw [hr, List.drop_zero, Bool.and_comm]; rfl
theorem eq_loop {F : Nat → List Int → List Int → Int → Option Bool}
    (hF : ∀ k a b i, F (k + 1) a b i = if i < (a.length : Int) then (if 0 ≤ i then (if i < (b.length : Int) then (if (rd a i) = (rd b i) then (F k a b (wrap64 (i + 1))) else (some false)) else (none)) else (none)) else (some true))
    {a b : List Int} (hl : a.length = b.length) (ha : a.length ≤ 1000000000000) : Evp (fun k => F k a b 0) (· = decide (a = b)) := by
  have key : ∀ d i, i + d = a.length → (∀ j, j < i → a.getD j 0 = b.getD j 0) → Evp (fun k => F k a b (i : Int)) (· = decide (a = b)) := by
    intro d
    induction d with
    | zero =>
      intro i hi hp
      refine Evp.step (fun k => hF k a b i) ?_
      refine Evp.neg (by omega) ?_
      refine Evp.some' ?_
      have : a = b := List.ext_getElem hl fun j h1 h2 => by have := hp j (by omega); rwa [getD_get h1, getD_get h2] at this
      simp [this]
    | succ d ih =>
      intro i hi hp
      refine Evp.step (fun k => hF k a b i) ?_
      refine Evp.pos (by omega) (Evp.pos (by omega) (Evp.pos (by omega) ?_))
      rw [rd_nat, rd_nat, wrap_succ (by omega)]
      refine Evp.ite (fun h => ih (i + 1) (by omega) fun j hj => ?_) fun h => Evp.some' ?_
      · rcases Nat.lt_or_ge j i with c | c
        · exact hp j c
        · have : j = i := by omega
          subst this; exact h
      · have : a ≠ b := fun e => h (by rw [e])
        simp [this]
  exact key a.length 0 (by omega) (fun j hj => absurd hj (Nat.not_lt_zero j))
theorem eqIntS_ev {a b : List Int} (ha : a.length ≤ 1000000000000) : Evp (fun k => laws_eqIntS.f k a b) (· = decide (a = b)) := by
  unfold laws_eqIntS.f
  refine Evp.ite (fun h => eq_loop (fun k a b i => by rw [laws_eqIntS.l0]) (by omega) ha) fun h => Evp.some' ?_
  have : a ≠ b := fun e => h (by rw [e])
  simp [this]
theorem toIntS_ev {l : List Int} (hl : l.length ≤ 1048576) : Evp (fun k => laws_toIntS.f k l) (· = l) := by
  have key : ∀ d i, i + d = l.length → Evp (fun k => laws_toIntS.l0 k l (l.take i ++ List.replicate d 0) (i : Int)) (· = l) := by
    intro d
    induction d with
    | zero =>
      intro i hi
      refine Evp.step (fun k => by rw [laws_toIntS.l0]) ?_
      refine Evp.neg (by omega) ?_
      refine Evp.some' ?_
      simp [List.take_of_length_le (show l.length ≤ i by omega)]
    | succ d ih =>
      intro i hi
      refine Evp.step (fun k => by rw [laws_toIntS.l0]) ?_
      refine Evp.pos (by omega) (Evp.pos (by omega) (Evp.pos (by simp; omega) ?_))
      rw [wrap_succ (by omega), Int.toNat_natCast, rd_nat, getD_get (show i < l.length by omega)]
      have e : (l.take i ++ List.replicate (d + 1) 0).set i l[i] = l.take (i + 1) ++ List.replicate d 0 := by
        rw [List.set_append, if_neg (by simp; omega), List.length_take, Nat.min_eq_left (by omega), Nat.sub_self, List.replicate_succ, List.set_cons_zero, List.take_succ_eq_append_getElem (show i < l.length by omega), List.append_assoc]; rfl
      rw [e]
      exact ih (i + 1) (by omega)
  unfold laws_toIntS.f
  refine Evp.pos (by omega) (Evp.pos (by omega) ?_)
  rw [Int.toNat_natCast]
  have := key l.length 0 (by omega)
  rwa [List.take_zero, List.nil_append] at this
theorem eqIntS_self {a : List Int} (ha : a.length ≤ 1000000000000) : Evp (fun k => laws_eqIntS.f k a a) (· = true) := (eqIntS_ev ha).mono fun r hr => by rw [hr]; simp
theorem marks_get (m : Int) {n i : Nat} (h : i < n) : (marks m n).getD i 0 = m + (i : Int) := by
  unfold marks; simp [List.getD_eq_getElem?_getD, h]
theorem heldIntS_ev {n : Nat} {m : Int} (hn : n ≤ 1048576) (hm : 0 ≤ m ∧ m ≤ 1000000000000000) : Evp (fun k => laws_heldIntS.f k (marks m n) m) (· = m + n) := by
  have key : ∀ d i, i + d = n → Evp (fun k => laws_heldIntS.l0 k (marks m n) (m + (i : Int)) (i : Int)) (· = m + n) := by
    intro d
    induction d with
    | zero =>
      intro i hi
      refine Evp.step (fun k => by rw [laws_heldIntS.l0]) ?_
      rw [marks_len]
      exact Evp.neg (by omega) (Evp.some' (by omega))
    | succ d ih =>
      intro i hi
      refine Evp.step (fun k => by rw [laws_heldIntS.l0]) ?_
      rw [marks_len, rd_nat, marks_get m (by omega), wrap_succ (by omega), wrap_small (x := m + (i : Int) + 1) (by omega)]
      refine Evp.pos (by omega) (Evp.pos (by omega) (Evp.pos rfl ?_))
      rw [show m + (i : Int) + 1 = m + ((i + 1 : Nat) : Int) by omega]
      exact ih (i + 1) (by omega)
  have := key n 0 (by omega)
  unfold laws_heldIntS.f
  simpa using this
theorem maxLen_big : maxLen ≤ 9223372036854775807 := by decide
/-- the budget that a law spends on its rows -/
theorem szIntSS_evL {m : List (List Int)} {b0 : Int} (hb0 : 0 ≤ b0 ∧ b0 ≤ 1048576) (hm : m.length ≤ maxLen) (hr : ∀ r ∈ m, r.length ≤ maxLen) : Evp (fun k => laws_szIntSS.f k m b0) (fun t => t < 0 ∨ ((0 ≤ t ∧ t ≤ 1048576) ∧ m.length ≤ 1048576 ∧ ∀ r ∈ m, r.length ≤ 1048576)) := by
  have hb := maxLen_big
  unfold laws_szIntSS.f
  rw [wrap_small (by omega)]
  refine Evp.ite (fun _ => Evp.some' (.inl (by decide))) fun h0 => ?_
  have hm2 : m.length ≤ 1048576 := by omega
  have key : ∀ d i (b : Int), i + d = m.length → 0 ≤ b ∧ b ≤ 1048576 → (∀ j, j < i → (m.getD j []).length ≤ 1048576) → Evp (fun k => laws_szIntSS.l0 k m b (i : Int)) (fun t => t < 0 ∨ ((0 ≤ t ∧ t ≤ 1048576) ∧ m.length ≤ 1048576 ∧ ∀ r ∈ m, r.length ≤ 1048576)) := by
    intro d
    induction d with
    | zero =>
      intro i b hi hb2 hp
      refine Evp.step (fun k => by rw [laws_szIntSS.l0]) (Evp.neg (by omega) (Evp.some' (.inr ⟨hb2, hm2, fun r h => ?_⟩)))
      obtain ⟨j, hj, rfl⟩ := List.mem_iff_getElem.1 h
      have := hp j (by omega)
      rwa [getDL_get hj] at this
    | succ d ih =>
      intro i b hi hb2 hp
      have hl : (m.getD i []).length ≤ maxLen := by rw [getDL_get (by omega)]; exact hr _ (List.getElem_mem _)
      refine Evp.step (fun k => by rw [laws_szIntSS.l0]) (Evp.pos (by omega) (Evp.pos (by omega) ?_))
      rw [rdL1_nat, wrap_succ (by omega)]
      have e : laws_szIntS.f (m.getD i []) b = some (if b - ((m.getD i []).length : Int) < 0 then -1 else b - ((m.getD i []).length : Int)) := by
        unfold laws_szIntS.f
        rw [wrap_small (by omega)]
        split <;> rfl
      rw [e]; simp only [Option.bind_some]
      by_cases h1 : b - ((m.getD i []).length : Int) < 0
      · rw [if_pos h1]
        exact Evp.pos (by decide) (Evp.some' (.inl (by decide)))
      · rw [if_neg h1]
        refine Evp.neg h1 (ih (i + 1) _ (by omega) (by omega) fun j hj => ?_)
        rcases Nat.lt_or_ge j i with c | c
        · exact hp j c
        · rw [show j = i by omega]; omega
  exact key m.length 0 _ (by omega) (by omega) (fun j hj => absurd hj (Nat.not_lt_zero j))
theorem toIntSS_ev {m : List (List Int)} (hm : m.length ≤ 1048576) (hr : ∀ r ∈ m, r.length ≤ 1048576) : Evp (fun k => laws_toIntSS.f k m) (· = m) := by
  have key : ∀ d i, i + d = m.length → Evp (fun k => laws_toIntSS.l0 k m (m.take i ++ List.replicate d []) (i : Int)) (· = m) := by
    intro d
    induction d with
    | zero =>
      intro i hi
      refine Evp.step (fun k => by rw [laws_toIntSS.l0]) ?_
      refine Evp.neg (by omega) ?_
      refine Evp.some' ?_
      simp [List.take_of_length_le (show m.length ≤ i by omega)]
    | succ d ih =>
      intro i hi
      refine Evp.step (fun k => by rw [laws_toIntSS.l0]) ?_
      refine Evp.pos (by omega) (Evp.pos (by omega) ?_)
      rw [rdL1_nat, getDL_get (show i < m.length by omega)]
      refine Evp.bind (toIntS_ev (hr _ (List.getElem_mem _))) fun t ht => ?_
      subst ht
      refine Evp.pos (by simp; omega) ?_
      rw [wrap_succ (by omega), Int.toNat_natCast]
      have e : (m.take i ++ List.replicate (d + 1) []).set i m[i] = m.take (i + 1) ++ List.replicate d [] := by
        rw [List.set_append, if_neg (by simp; omega), List.length_take, Nat.min_eq_left (by omega), Nat.sub_self, List.replicate_succ, List.set_cons_zero, List.take_succ_eq_append_getElem (show i < m.length by omega), List.append_assoc]; rfl
      rw [e]
      exact ih (i + 1) (by omega)
  unfold laws_toIntSS.f
  refine Evp.pos (by omega) (Evp.pos (by omega) ?_)
  rw [Int.toNat_natCast]
  have := key m.length 0 (by omega)
  rwa [List.take_zero, List.nil_append] at this
theorem eqIntSS_self {m : List (List Int)} (hm : m.length ≤ 1048576) (hr : ∀ r ∈ m, r.length ≤ 1048576) : Evp (fun k => laws_eqIntSS.f k m m) (· = true) := by
  have key : ∀ d i, i + d = m.length → Evp (fun k => laws_eqIntSS.l0 k m m (i : Int)) (· = true) := by
    intro d
    induction d with
    | zero =>
      intro i hi
      exact Evp.step (fun k => by rw [laws_eqIntSS.l0]) (Evp.neg (by omega) (Evp.some' rfl))
    | succ d ih =>
      intro i hi
      refine Evp.step (fun k => by rw [laws_eqIntSS.l0]) (Evp.pos (by omega) (Evp.pos (by omega) (Evp.pos (by omega) ?_)))
      rw [rdL1_nat, getDL_get (show i < m.length by omega)]
      refine Evp.bind (eqIntS_ev (by have := hr _ (List.getElem_mem (l := m) (n := i) (by omega)); omega)) fun t ht => ?_
      subst ht
      refine Evp.pos (by simp) ?_
      rw [wrap_succ (by omega)]
      exact ih (i + 1) (by omega)
  unfold laws_eqIntSS.f
  exact Evp.pos rfl (key m.length 0 (by omega))
theorem spec_SpanOk_ev {m : List (List Int)} (hm : m.length ≤ 1048576) (hr : ∀ r ∈ m, r.length ≤ 1048576) : Evp (fun k => spec_SpanOk.f k m) (· = mok m) := by
  have key : ∀ d i, i + d = m.length → (m.take i).all vok = true → Evp (fun k => spec_SpanOk.l0 k m (i : Int)) (· = mok m) := by
    intro d
    induction d with
    | zero =>
      intro i hi hp
      refine Evp.step (fun k => by rw [spec_SpanOk.l0]) (Evp.neg (by omega) (Evp.some' ?_))
      rw [List.take_of_length_le (by omega)] at hp
      unfold mok
      rw [hp, Bool.and_true]
      congr 1
      rw [eq_iff_iff]; omega
    | succ d ih =>
      intro i hi hp
      refine Evp.step (fun k => by rw [spec_SpanOk.l0]) (Evp.pos (by omega) (Evp.pos (by omega) ?_))
      rw [rdL1_nat, getDL_get (show i < m.length by omega)]
      refine Evp.bind (spec_VecOk_ev (by have := hr _ (List.getElem_mem (l := m) (n := i) (by omega)); omega)) fun t ht => ?_
      subst ht
      refine Evp.ite (fun h => ?_) fun h => Evp.some' ?_
      · rw [wrap_succ (by omega)]
        refine ih (i + 1) (by omega) ?_
        rw [List.take_succ_eq_append_getElem (show i < m.length by omega), List.all_append, hp, List.all_cons, h]; rfl
      · have : mok m = false := by
          rw [Bool.eq_false_iff]
          intro hc
          exact h ((mok_iff.1 hc).2 _ (List.getElem_mem _))
        rw [this]
  unfold spec_SpanOk.f
  exact key m.length 0 (by omega) rfl
theorem l3Has_eq {m : List (List Int)} (h : mok m = true) {v : List Int} (hv : vok v = true) : spec_l3Has.f m v = some (lhas m v) := by
  obtain ⟨h8, hr⟩ := mok_iff.1 h
  unfold spec_l3Has.f
  rw [if_pos ⟨⟨by omega, by simpa using hr⟩, hv⟩]
theorem lfirst_len (m : List (List Int)) : (lfirst m).length ≤ m.length := by
  unfold lfirst; exact Nat.le_trans (List.length_filter_le _ _) (by rw [List.length_range]; exact Nat.le_refl _)
def firsts (m : List (List Int)) : List Int := if mok m = true then (lfirst m).map (fun (j : Nat) => (j : Int)) else []
theorem firsts_len (m : List (List Int)) : (firsts m).length ≤ m.length := by
  unfold firsts; split
  · rw [List.length_map]; exact lfirst_len m
  · simp
theorem mok_take' {m : List (List Int)} (h : mok m = true) (n : Nat) : mok (m.take n) = true := by
  obtain ⟨h8, hm⟩ := mok_iff.1 h
  exact mok_iff.2 ⟨by rw [List.length_take]; omega, fun r hr => hm r (List.mem_of_mem_take hr)⟩
theorem l3First_ev {m : List (List Int)} (ho : mok m = true) : Evp (fun k => spec_l3First.f k m) (· = firsts m) := by
  obtain ⟨h8, hm⟩ := mok_iff.1 ho
  have key : ∀ (d i : Nat), i + d = m.length → Evp (fun k => spec_l3First.l0 k m (((List.range i).filter fun i => !lhas (m.take i) (m.getD i [])).map (fun (j : Nat) => (j : Int))) (i : Int)) (· = firsts m) := by
    intro d
    induction d with
    | zero =>
      intro i hi
      obtain rfl : i = m.length := by omega
      exact Evp.step (fun k => by rw [spec_l3First.l0]) (Evp.neg (by omega) (Evp.some' (by unfold firsts; rw [if_pos ho]; rfl)))
    | succ d ih =>
      intro i hi
      refine Evp.step (fun k => by rw [spec_l3First.l0]) (Evp.pos (by omega) (Evp.pos (by omega) (Evp.pos (by omega) ?_)))
      rw [rdL1_nat, Int.toNat_natCast, l3Has_eq (mok_take' ho i) (vok_getD hm (by omega)), wrap_succ (by omega)]
      simp only [Option.bind_some]
      have hi1 := ih (i + 1) (by omega)
      rw [List.range_succ, List.filter_append, List.map_append] at hi1
      refine Evp.ite (fun h => ?_) fun h => ?_
      · rw [show List.filter (fun i => !lhas (m.take i) (m.getD i [])) [i] = [] by simp only [List.filter_cons, h]; rfl, List.map_nil, List.append_nil] at hi1
        exact hi1
      · rw [show List.filter (fun i => !lhas (m.take i) (m.getD i [])) [i] = [i] by simp only [List.filter_cons, Bool.eq_false_iff.2 h]; rfl] at hi1
        refine Evp.pos ?_ hi1
        rw [List.length_map]
        have := List.length_filter_le (fun i => !lhas (m.take i) (m.getD i [])) (List.range i)
        rw [List.length_range] at this
        omega
  unfold spec_l3First.f
  exact key m.length 0 (by omega)
theorem spec_SpanFirst_ev {m : List (List Int)} (hm : m.length ≤ 1048576) (hr : ∀ r ∈ m, r.length ≤ 1048576) : Evp (fun k => spec_SpanFirst.f k m) (· = firsts m) := by
  unfold spec_SpanFirst.f
  refine Evp.bind (spec_SpanOk_ev hm hr) fun t ht => ?_
  subst ht
  refine Evp.ite (fun h => ?_) fun h => Evp.some' (by unfold firsts; rw [if_neg h])
  refine Evp.bind (l3First_ev h) fun t ht => ?_
  subst ht
  exact Evp.some' rfl
theorem impl_SpanFirst_eq {m : List (List Int)} (hm : m.length ≤ 1048576) : impl_SpanFirst.f m = some (firsts m) := by unfold impl_SpanFirst.f firsts; rw [if_pos hm]
theorem FnExactSpanFirst (m : List (List Int)) (hm : m.length ≤ maxLen) (hr : ∀ r ∈ m, r.length ≤ maxLen) : ∃ k, laws_FnExactSpanFirst.f k m = some true := by
  refine Evp.rounds ?_
  unfold laws_FnExactSpanFirst.f
  refine Evp.bind (szIntSS_evL (by decide) hm hr) fun t ht => ?_
  refine Evp.ite (fun _ => Evp.some' rfl) fun h0 => ?_
  obtain ⟨hb, h1, h2⟩ := ht.resolve_left h0
  have hfl := firsts_len m
  have hfm : (firsts m).length ≤ 1048576 := by omega
  refine Evp.bind (toIntSS_ev h1 h2) fun t ht => ?_
  subst ht
  refine Evp.bind (spec_SpanFirst_ev h1 h2) fun t ht => ?_
  subst ht
  refine Evp.bind (toIntSS_ev h1 h2) fun t ht => ?_
  subst ht
  rw [impl_SpanFirst_eq h1]
  simp only [Option.bind_some]
  refine Evp.bind (eqIntS_self (by omega)) fun t ht => ?_
  subst ht
  refine Evp.pos rfl ?_
  refine Evp.bind (toIntSS_ev h1 h2) fun t ht => ?_
  subst ht
  refine Evp.bind (eqIntSS_self h1 h2) fun t ht => ?_
  subst ht
  refine Evp.pos rfl ?_
  have hq0 := total_le _ h2
  rw [markIntSS_f h1 h2 (by omega)]
  simp only [Option.bind_some]
  refine Evp.neg (by omega) ?_
  refine Evp.bind (eqIntS_self (by omega)) fun t ht => ?_
  subst ht
  refine Evp.step (fun k => by rw [laws_FnExactSpanFirst.j0]) (Evp.neg (by simp) ?_)
  refine Evp.bind (markIntS_ev hfm (by omega)) fun r8 hr => ?_
  subst hr
  refine Evp.bind (heldIntS_ev hfm (by omega)) fun r9 hr => ?_
  subst hr
  refine Evp.neg (by omega) (Evp.pos (by first | rfl | trivial) ?_)
  refine Evp.bind (toIntSS_ev h1 h2) fun t ht => ?_
  subst ht
  rw [impl_SpanFirst_eq h1]
  simp only [Option.bind_some]
  refine Evp.bind (eqIntS_self (by omega)) fun t ht => ?_
  subst ht
  refine Evp.pos (by first | rfl | trivial) ?_
  refine Evp.bind (heldIntS_ev hfm (by omega)) fun r12 hr => ?_
  subst hr
  exact Evp.neg (by omega) (Evp.pos (by first | rfl | trivial) (Evp.some' rfl))
end Go.Proofs.Ytbhmgbeebhmfkaa.Pure
