import Derived.Test.YtbhmgbeebhmfkaaPAx0
import Derived.Test.YtbhmgbeebhmfkaaPAx14
import Derived.Test.YtbhmgbeebhmfkaaPAx15
import Derived.Test.YtbhmgbeebhmfkaaPAx16
import Derived.Test.YtbhmgbeebhmfkaaPAx2
import Derived.Test.YtbhmgbeebhmfkaaPAx3
import Derived.Test.YtbhmgbeebhmfkaaPAx4
import Derived.Test.YtbhmgbeebhmfkaaPAx5
import Derived.Test.YtbhmgbeebhmfkaaPAx7
import Derived.Test.YtbhmgbeebhmfkaaPAx8
import Derived.Test.YtbhmgbeebhmfkaaPAx9
import Derived.Test.YtbhmgbeebhmfkaaLf
import Derived.Test.YtbhmgbeebhmfkaaMa
import Derived.OpenShut
/- Of the printed functions over single rows: what a walk by hand wants of them. -/
set_option linter.unusedVariables false
set_option linter.unusedSimpArgs false
namespace Go.Proofs.Ytbhmgbeebhmfkaa.Pure
open Go.RowKit Go.Proofs.Ytbhmgbeebhmfkaa.PA Go.Proofs.YtbhmgbeebhmfkaaW.PrintWords Go.Proofs.YtbhmgbeebhmfkaaW.PrintLast Go.Proofs.YtbhmgbeebhmfkaaW.PrintMore Go.Proofs.Ytbhmgbeebhmfkaa.Lin

theorem Evp.ite {α : Type} {c : Prop} [Decidable c] {g f : Nat → Option α} {Q : α → Prop} (h : c → Evp g Q) (k : ¬ c → Evp f Q) : Evp (fun n => if c then g n else f n) Q := by
  by_cases hc : c
  · simp only [if_pos hc]; exact h hc
  · simp only [if_neg hc]; exact k hc
theorem spec_FieldOk_eq (a : Int) : spec_FieldOk.f a = some (ok a) := by
  unfold spec_FieldOk.f spec_l6In.f ok
  by_cases h : a ≥ 0
  · rw [if_pos h]; simp [show (a ≤ 30) = (a < 31) by rw [eq_iff_iff]; omega, h]
  · rw [if_neg h]; simp [h]
theorem l1Inv_all : ∀ a : Fin 31, spec_l1Inv.f 40 (a.val : Int) = some (inv (a.val : Int)) := by decide +kernel
theorem l1Inv_at {a : Int} (h : ok a = true) : spec_l1Inv.f 40 a = some (inv a) := by
  obtain ⟨x, rfl⟩ := fin_of h
  exact l1Inv_all x
theorem spec_l1Inv_ev {a : Int} (h : ok a = true) : Evp (fun k => spec_l1Inv.f k a) (· = inv a) := ev_of (spec_l1Inv.mono a) (l1Inv_at h)
theorem rd_nat (l : List Int) (i : Nat) : rd l (i : Int) = l.getD i 0 := by unfold rd; rw [Int.toNat_natCast]
theorem getD_get {l : List Int} {i : Nat} (h : i < l.length) : l.getD i 0 = l[i] := by rw [List.getD_eq_getElem?_getD, List.getElem?_eq_getElem h]; rfl
theorem spec_VecOk_ev {l : List Int} (hl : l.length ≤ 1000000000000) : Evp (fun k => spec_VecOk.f k l) (· = vok l) := by
  have key : ∀ d i, i + d = l.length → Evp (fun k => spec_VecOk.l0 k l (i : Int)) (· = ((l.drop i).all ok && (l.length == 4))) := by
    intro d
    induction d with
    | zero =>
      intro i hi
      refine Evp.step (fun k => by rw [spec_VecOk.l0]) ?_
      refine Evp.neg (by omega) ?_
      refine Evp.some' ?_
      rw [List.drop_eq_nil_of_le (by omega), Bool.eq_iff_iff, beq_iff_eq]; simp; omega
    | succ d ih =>
      intro i hi
      refine Evp.step (fun k => by rw [spec_VecOk.l0]) ?_
      refine Evp.pos (by omega) (Evp.pos (by omega) ?_)
      simp only [spec_FieldOk_eq, Option.bind_some, rd_nat, getD_get (show i < l.length by omega)]
      rw [List.drop_eq_getElem_cons (show i < l.length by omega), List.all_cons]
      refine Evp.ite (fun h => ?_) fun h => ?_
      · rw [wrap_succ (by omega), h]
        exact ih (i + 1) (by omega)
      · exact Evp.some' (by simp [h])
  have := key l.length 0 (by omega)
  unfold spec_VecOk.f
  refine this.mono fun r hr => ?_
  rw [hr, List.drop_zero, Bool.and_comm]; rfl
theorem eq_loop {F : Nat → List Int → List Int → Int → Option Bool}
    (hF : ∀ k a b i, F (k + 1) a b i = if i < (a.length : Int) then (if 0 ≤ i then (if i < (b.length : Int) then (if (rd a i) = (rd b i) then (F k a b (wrap64 (i + 1))) else (some false)) else (none)) else (none)) else (some true))
    {a b : List Int} (hl : a.length = b.length) (ha : a.length ≤ 1000000000000) : Evp (fun k => F k a b 0) (· = decide (a = b)) := by
  have key : ∀ d i, i + d = a.length → (∀ j, j < i → a.getD j 0 = b.getD j 0) → Evp (fun k => F k a b (i : Int)) (· = decide (a = b)) := by
    intro d
    induction d with
    | zero =>
      intro i hi hp
      refine Evp.step (fun k => hF k a b i) ?_
      refine Evp.neg (by omega) ?_
      refine Evp.some' ?_
      have : a = b := List.ext_getElem hl fun j h1 h2 => by have := hp j (by omega); rwa [getD_get h1, getD_get h2] at this
      simp [this]
    | succ d ih =>
      intro i hi hp
      refine Evp.step (fun k => hF k a b i) ?_
      refine Evp.pos (by omega) (Evp.pos (by omega) (Evp.pos (by omega) ?_))
      rw [rd_nat, rd_nat, wrap_succ (by omega)]
      refine Evp.ite (fun h => ih (i + 1) (by omega) fun j hj => ?_) fun h => Evp.some' ?_
      · rcases Nat.lt_or_ge j i with c | c
        · exact hp j c
        · have : j = i := by omega
          subst this; exact h
      · have : a ≠ b := fun e => h (by rw [e])
        simp [this]
  exact key a.length 0 (by omega) (fun j hj => absurd hj (Nat.not_lt_zero j))
theorem eqIntS_ev {a b : List Int} (ha : a.length ≤ 1000000000000) : Evp (fun k => laws_eqIntS.f k a b) (· = decide (a = b)) := by
  unfold laws_eqIntS.f
  refine Evp.ite (fun h => eq_loop (fun k a b i => by rw [laws_eqIntS.l0]) (by omega) ha) fun h => Evp.some' ?_
  have : a ≠ b := fun e => h (by rw [e])
  simp [this]
theorem toIntS_ev {l : List Int} (hl : l.length ≤ 1048576) : Evp (fun k => laws_toIntS.f k l) (· = l) := by
  have key : ∀ d i, i + d = l.length → Evp (fun k => laws_toIntS.l0 k l (l.take i ++ List.replicate d 0) (i : Int)) (· = l) := by
    intro d
    induction d with
    | zero =>
      intro i hi
      refine Evp.step (fun k => by rw [laws_toIntS.l0]) ?_
      refine Evp.neg (by omega) ?_
      refine Evp.some' ?_
      simp [List.take_of_length_le (show l.length ≤ i by omega)]
    | succ d ih =>
      intro i hi
      refine Evp.step (fun k => by rw [laws_toIntS.l0]) ?_
      refine Evp.pos (by omega) (Evp.pos (by omega) (Evp.pos (by simp; omega) ?_))
      rw [wrap_succ (by omega), Int.toNat_natCast, rd_nat, getD_get (show i < l.length by omega)]
      have e : (l.take i ++ List.replicate (d + 1) 0).set i l[i] = l.take (i + 1) ++ List.replicate d 0 := by
        rw [List.set_append, if_neg (by simp; omega), List.length_take, Nat.min_eq_left (by omega), Nat.sub_self, List.replicate_succ, List.set_cons_zero, List.take_succ_eq_append_getElem (show i < l.length by omega), List.append_assoc]; rfl
      rw [e]
      exact ih (i + 1) (by omega)
  unfold laws_toIntS.f
  refine Evp.pos (by omega) (Evp.pos (by omega) ?_)
  rw [Int.toNat_natCast]
  have := key l.length 0 (by omega)
  rwa [List.take_zero, List.nil_append] at this
theorem eqIntS_self {a : List Int} (ha : a.length ≤ 1000000000000) : Evp (fun k => laws_eqIntS.f k a a) (· = true) := (eqIntS_ev ha).mono fun r hr => by rw [hr]; simp
theorem marks_get (m : Int) {n i : Nat} (h : i < n) : (marks m n).getD i 0 = m + (i : Int) := by
  unfold marks; simp [List.getD_eq_getElem?_getD, h]
theorem heldIntS_ev {n : Nat} {m : Int} (hn : n ≤ 1048576) (hm : 0 ≤ m ∧ m ≤ 1000000000000000) : Evp (fun k => laws_heldIntS.f k (marks m n) m) (· = m + n) := by
  have key : ∀ d i, i + d = n → Evp (fun k => laws_heldIntS.l0 k (marks m n) (m + (i : Int)) (i : Int)) (· = m + n) := by
    intro d
    induction d with
    | zero =>
      intro i hi
      refine Evp.step (fun k => by rw [laws_heldIntS.l0]) ?_
      rw [marks_len]
      exact Evp.neg (by omega) (Evp.some' (by omega))
    | succ d ih =>
      intro i hi
      refine Evp.step (fun k => by rw [laws_heldIntS.l0]) ?_
      rw [marks_len, rd_nat, marks_get m (by omega), wrap_succ (by omega), wrap_small (x := m + (i : Int) + 1) (by omega)]
      refine Evp.pos (by omega) (Evp.pos (by omega) (Evp.pos rfl ?_))
      rw [show m + (i : Int) + 1 = m + ((i + 1 : Nat) : Int) by omega]
      exact ih (i + 1) (by omega)
  have := key n 0 (by omega)
  unfold laws_heldIntS.f
  simpa using this
theorem llead_drop {l : List Int} {i : Nat} (h : ∀ j, j < i → l.getD j 0 = 0) (hi : i < l.length) (hne : l.getD i 0 ≠ 0) : llead l = (i : Int) := by
  rcases llead_cases l with ⟨_, hz⟩ | ⟨j, hj, e, hn, hb⟩
  · exact absurd (hz i) hne
  · rcases Nat.lt_trichotomy i j with c | c | c
    · exact absurd (hb i c) hne
    · rw [e, c]
    · exact absurd (h j c) hn
theorem llead_none {l : List Int} (h : ∀ j, j < l.length → l.getD j 0 = 0) : llead l = -1 := by
  rcases llead_cases l with ⟨e, _⟩ | ⟨j, hj, e, hn, hb⟩
  · exact e
  · exact absurd (h j hj) hn
theorem l2Lead_ev {l : List Int} (hl : l.length ≤ 1000000000000) : Evp (fun k => spec_l2Lead.f k l) (· = llead l) := by
  have key : ∀ d i, i + d = l.length → (∀ j, j < i → l.getD j 0 = 0) → Evp (fun k => spec_l2Lead.l0 k l (i : Int)) (· = llead l) := by
    intro d
    induction d with
    | zero =>
      intro i hi hp
      refine Evp.step (fun k => by rw [spec_l2Lead.l0]) ?_
      refine Evp.neg (by omega) ?_
      exact Evp.some' (llead_none (fun j hj => hp j (by omega))).symm
    | succ d ih =>
      intro i hi hp
      refine Evp.step (fun k => by rw [spec_l2Lead.l0]) ?_
      refine Evp.pos (by omega) (Evp.pos (by omega) ?_)
      rw [rd_nat, wrap_succ (by omega)]
      refine Evp.ite (fun h => ih (i + 1) (by omega) fun j hj => ?_) fun h => Evp.some' (llead_drop hp (by omega) h).symm
      rcases Nat.lt_or_ge j i with c | c
      · exact hp j c
      · have : j = i := by omega
        subst this; exact h
  exact key l.length 0 (by omega) (fun j hj => absurd hj (Nat.not_lt_zero j))
theorem can_small {l : List Int} (h : can l) (i : Nat) : 0 ≤ l.getD i 0 ∧ l.getD i 0 < 31 := ok_iff.1 (can_get h i)
theorem zip_take {α : Type} (f : Int → Int → α) {a b : List Int} {i : Nat} (h1 : i < a.length) (h2 : i < b.length) : List.zipWith f (a.take (i + 1)) (b.take (i + 1)) = List.zipWith f (a.take i) (b.take i) ++ [f (a.getD i 0) (b.getD i 0)] := by
  rw [List.take_succ_eq_append_getElem h1, List.take_succ_eq_append_getElem h2, List.zipWith_append (by simp; omega), getD_get h1, getD_get h2]; rfl
theorem l2Scale_ev {a : List Int} (ha : can a) {c : Int} (hc : ok c = true) (hn : a.length ≤ 1000000000000) : Evp (fun k => spec_l2Scale.f k a c) (· = lscale a c) := by
  have key : ∀ d i, i + d = a.length → Evp (fun k => spec_l2Scale.l0 k a c (lscale (a.take i) c) (i : Int)) (· = lscale a c) := by
    intro d
    induction d with
    | zero =>
      intro i hi
      refine Evp.step (fun k => by rw [spec_l2Scale.l0]) ?_
      refine Evp.neg (by omega) ?_
      rw [List.take_of_length_le (by omega)]
      exact Evp.some' rfl
    | succ d ih =>
      intro i hi
      refine Evp.step (fun k => by rw [spec_l2Scale.l0]) ?_
      have hm := mul_small (ok_iff.2 (can_small ha i)) hc
      refine Evp.pos (by omega) (Evp.pos (by omega) (Evp.pos (by rw [lscale_len, List.length_take]; omega) ?_))
      rw [rd_nat, wrap_succ (by omega), wrap_small (by omega), tmod31 hm.1]
      have e : lscale (a.take (i + 1)) c = lscale (a.take i) c ++ [a.getD i 0 * c % 31] := by
        unfold lscale; rw [List.take_succ_eq_append_getElem (by omega), List.map_append, getD_get (by omega)]; rfl
      rw [← e]
      exact ih (i + 1) (by omega)
  have := key a.length 0 (by omega)
  unfold spec_l2Scale.f
  simpa [lscale] using this
theorem l2Sum_ev {a b : List Int} (ha : can a) (hb : can b) (hl : a.length = b.length) (hn : a.length ≤ 1000000000000) : Evp (fun k => spec_l2Sum.f k a b) (· = lsum a b) := by
  have key : ∀ d i, i + d = a.length → Evp (fun k => spec_l2Sum.l0 k a b (lsum (a.take i) (b.take i)) (i : Int)) (· = lsum a b) := by
    intro d
    induction d with
    | zero =>
      intro i hi
      refine Evp.step (fun k => by rw [spec_l2Sum.l0]) ?_
      refine Evp.neg (by omega) ?_
      rw [List.take_of_length_le (by omega), List.take_of_length_le (by omega)]
      exact Evp.some' rfl
    | succ d ih =>
      intro i hi
      refine Evp.step (fun k => by rw [spec_l2Sum.l0]) ?_
      have h1 := can_small ha i
      have h2 := can_small hb i
      refine Evp.pos (by omega) (Evp.pos (by omega) (Evp.pos (by omega) (Evp.pos (by rw [lsum_len (by simp; omega), List.length_take]; omega) ?_)))
      rw [rd_nat, rd_nat, wrap_succ (by omega), wrap_small (by omega), tmod31 (by omega)]
      have e : lsum (a.take (i + 1)) (b.take (i + 1)) = lsum (a.take i) (b.take i) ++ [(a.getD i 0 + b.getD i 0) % 31] := by
        unfold lsum; rw [zip_take _ (by omega) (by omega)]
      rw [← e]
      exact ih (i + 1) (by omega)
  have := key a.length 0 (by omega)
  unfold spec_l2Sum.f
  simpa [lsum] using this

theorem maxLen_big : maxLen ≤ 9223372036854775807 := by decide
/-- the budget that a law spends on its rows -/
theorem szIntSS_evL {m : List (List Int)} {b0 : Int} (hb0 : 0 ≤ b0 ∧ b0 ≤ 1048576) (hm : m.length ≤ maxLen) (hr : ∀ r ∈ m, r.length ≤ maxLen) : Evp (fun k => laws_szIntSS.f k m b0) (fun t => t < 0 ∨ ((0 ≤ t ∧ t ≤ 1048576) ∧ m.length ≤ 1048576 ∧ ∀ r ∈ m, r.length ≤ 1048576)) := by
  have hb := maxLen_big
  unfold laws_szIntSS.f
  rw [wrap_small (by omega)]
  refine Evp.ite (fun _ => Evp.some' (.inl (by decide))) fun h0 => ?_
  have hm2 : m.length ≤ 1048576 := by omega
  have key : ∀ d i (b : Int), i + d = m.length → 0 ≤ b ∧ b ≤ 1048576 → (∀ j, j < i → (m.getD j []).length ≤ 1048576) → Evp (fun k => laws_szIntSS.l0 k m b (i : Int)) (fun t => t < 0 ∨ ((0 ≤ t ∧ t ≤ 1048576) ∧ m.length ≤ 1048576 ∧ ∀ r ∈ m, r.length ≤ 1048576)) := by
    intro d
    induction d with
    | zero =>
      intro i b hi hb2 hp
      refine Evp.step (fun k => by rw [laws_szIntSS.l0]) (Evp.neg (by omega) (Evp.some' (.inr ⟨hb2, hm2, fun r h => ?_⟩)))
      obtain ⟨j, hj, rfl⟩ := List.mem_iff_getElem.1 h
      have := hp j (by omega)
      rwa [getDL_get hj] at this
    | succ d ih =>
      intro i b hi hb2 hp
      have hl : (m.getD i []).length ≤ maxLen := by rw [getDL_get (by omega)]; exact hr _ (List.getElem_mem _)
      refine Evp.step (fun k => by rw [laws_szIntSS.l0]) (Evp.pos (by omega) (Evp.pos (by omega) ?_))
      rw [rdL1_nat, wrap_succ (by omega)]
      have e : laws_szIntS.f (m.getD i []) b = some (if b - ((m.getD i []).length : Int) < 0 then -1 else b - ((m.getD i []).length : Int)) := by
        unfold laws_szIntS.f
        rw [wrap_small (by omega)]
        split <;> rfl
      rw [e]; simp only [Option.bind_some]
      by_cases h1 : b - ((m.getD i []).length : Int) < 0
      · rw [if_pos h1]
        exact Evp.pos (by decide) (Evp.some' (.inl (by decide)))
      · rw [if_neg h1]
        refine Evp.neg h1 (ih (i + 1) _ (by omega) (by omega) fun j hj => ?_)
        rcases Nat.lt_or_ge j i with c | c
        · exact hp j c
        · rw [show j = i by omega]; omega
  exact key m.length 0 _ (by omega) (by omega) (fun j hj => absurd hj (Nat.not_lt_zero j))
theorem toIntSS_ev {m : List (List Int)} (hm : m.length ≤ 1048576) (hr : ∀ r ∈ m, r.length ≤ 1048576) : Evp (fun k => laws_toIntSS.f k m) (· = m) := by
  have key : ∀ d i, i + d = m.length → Evp (fun k => laws_toIntSS.l0 k m (m.take i ++ List.replicate d []) (i : Int)) (· = m) := by
    intro d
    induction d with
    | zero =>
      intro i hi
      refine Evp.step (fun k => by rw [laws_toIntSS.l0]) ?_
      refine Evp.neg (by omega) ?_
      refine Evp.some' ?_
      simp [List.take_of_length_le (show m.length ≤ i by omega)]
    | succ d ih =>
      intro i hi
      refine Evp.step (fun k => by rw [laws_toIntSS.l0]) ?_
      refine Evp.pos (by omega) (Evp.pos (by omega) ?_)
      rw [rdL1_nat, getDL_get (show i < m.length by omega)]
      refine Evp.bind (toIntS_ev (hr _ (List.getElem_mem _))) fun t ht => ?_
      subst ht
      refine Evp.pos (by simp; omega) ?_
      rw [wrap_succ (by omega), Int.toNat_natCast]
      have e : (m.take i ++ List.replicate (d + 1) []).set i m[i] = m.take (i + 1) ++ List.replicate d [] := by
        rw [List.set_append, if_neg (by simp; omega), List.length_take, Nat.min_eq_left (by omega), Nat.sub_self, List.replicate_succ, List.set_cons_zero, List.take_succ_eq_append_getElem (show i < m.length by omega), List.append_assoc]; rfl
      rw [e]
      exact ih (i + 1) (by omega)
  unfold laws_toIntSS.f
  refine Evp.pos (by omega) (Evp.pos (by omega) ?_)
  rw [Int.toNat_natCast]
  have := key m.length 0 (by omega)
  rwa [List.take_zero, List.nil_append] at this
theorem eqIntSS_self {m : List (List Int)} (hm : m.length ≤ 1048576) (hr : ∀ r ∈ m, r.length ≤ 1048576) : Evp (fun k => laws_eqIntSS.f k m m) (· = true) := by
  have key : ∀ d i, i + d = m.length → Evp (fun k => laws_eqIntSS.l0 k m m (i : Int)) (· = true) := by
    intro d
    induction d with
    | zero =>
      intro i hi
      exact Evp.step (fun k => by rw [laws_eqIntSS.l0]) (Evp.neg (by omega) (Evp.some' rfl))
    | succ d ih =>
      intro i hi
      refine Evp.step (fun k => by rw [laws_eqIntSS.l0]) (Evp.pos (by omega) (Evp.pos (by omega) (Evp.pos (by omega) ?_)))
      rw [rdL1_nat, getDL_get (show i < m.length by omega)]
      refine Evp.bind (eqIntS_ev (by have := hr _ (List.getElem_mem (l := m) (n := i) (by omega)); omega)) fun t ht => ?_
      subst ht
      refine Evp.pos (by simp) ?_
      rw [wrap_succ (by omega)]
      exact ih (i + 1) (by omega)
  unfold laws_eqIntSS.f
  exact Evp.pos rfl (key m.length 0 (by omega))
theorem spec_SpanOk_ev {m : List (List Int)} (hm : m.length ≤ 1048576) (hr : ∀ r ∈ m, r.length ≤ 1048576) : Evp (fun k => spec_SpanOk.f k m) (· = mok m) := by
  have key : ∀ d i, i + d = m.length → (m.take i).all vok = true → Evp (fun k => spec_SpanOk.l0 k m (i : Int)) (· = mok m) := by
    intro d
    induction d with
    | zero =>
      intro i hi hp
      refine Evp.step (fun k => by rw [spec_SpanOk.l0]) (Evp.neg (by omega) (Evp.some' ?_))
      rw [List.take_of_length_le (by omega)] at hp
      unfold mok
      rw [hp, Bool.and_true]
      congr 1
      rw [eq_iff_iff]; omega
    | succ d ih =>
      intro i hi hp
      refine Evp.step (fun k => by rw [spec_SpanOk.l0]) (Evp.pos (by omega) (Evp.pos (by omega) ?_))
      rw [rdL1_nat, getDL_get (show i < m.length by omega)]
      refine Evp.bind (spec_VecOk_ev (by have := hr _ (List.getElem_mem (l := m) (n := i) (by omega)); omega)) fun t ht => ?_
      subst ht
      refine Evp.ite (fun h => ?_) fun h => Evp.some' ?_
      · rw [wrap_succ (by omega)]
        refine ih (i + 1) (by omega) ?_
        rw [List.take_succ_eq_append_getElem (show i < m.length by omega), List.all_append, hp, List.all_cons, h]; rfl
      · have : mok m = false := by
          rw [Bool.eq_false_iff]
          intro hc
          exact h ((mok_iff.1 hc).2 _ (List.getElem_mem _))
        rw [this]
  unfold spec_SpanOk.f
  exact key m.length 0 (by omega) rfl
theorem l3Has_eq {m : List (List Int)} (h : mok m = true) {v : List Int} (hv : vok v = true) : spec_l3Has.f m v = some (lhas m v) := by
  obtain ⟨h8, hr⟩ := mok_iff.1 h
  unfold spec_l3Has.f
  rw [if_pos ⟨⟨by omega, by simpa using hr⟩, hv⟩]
theorem by_l0_ev {z0 z1 z2 z3 z4 z5 z6 z7 z8 z9 z10 z11 : Int} (hz4 : ok z4 = true) (hz5 : ok z5 = true) (hz6 : ok z6 = true) (hz7 : ok z7 = true) (hz8 : ok z8 = true) (hz9 : ok z9 = true) (hz10 : ok z10 = true) (hz11 : ok z11 = true) : Evp (fun k => impl_span_by.l0 k 0 z0 z1 z2 z3 z4 z5 z6 z7 z8 z9 z10 z11) (· = (((-z4) % 31), ((-z5) % 31), ((-z6) % 31), ((-z7) % 31), ((-z8) % 31), ((-z9) % 31), ((-z10) % 31), ((-z11) % 31), (z0 == 0 && (z1 == 0 && (z2 == 0 && (z3 == 0)))))) := by
  rw [ok_iff] at hz4 hz5 hz6 hz7 hz8 hz9 hz10 hz11
  refine Evp.step (f := fun k => impl_span_by.l0 k 1 z0 z1 z2 z3 ((-z4) % 31) z5 z6 z7 z8 z9 z10 z11) (fun k => by rw [impl_span_by.l0, if_pos (by decide), if_pos rfl, Go.Proofs.Ytbhmgbeebhmfkaa.Pure.wrap_small (x := -z4) (by omega), elementOf_eq (by omega), Option.bind_some, (by unfold wrap64; omega : wrap64 ((0 : Int) + 1) = 1)]) ?_
  refine Evp.step (f := fun k => impl_span_by.l0 k 2 z0 z1 z2 z3 ((-z4) % 31) ((-z5) % 31) z6 z7 z8 z9 z10 z11) (fun k => by rw [impl_span_by.l0, if_pos (by decide), if_neg (by decide), if_pos rfl, Go.Proofs.Ytbhmgbeebhmfkaa.Pure.wrap_small (x := -z5) (by omega), elementOf_eq (by omega), Option.bind_some, (by unfold wrap64; omega : wrap64 ((1 : Int) + 1) = 2)]) ?_
  refine Evp.step (f := fun k => impl_span_by.l0 k 3 z0 z1 z2 z3 ((-z4) % 31) ((-z5) % 31) ((-z6) % 31) z7 z8 z9 z10 z11) (fun k => by rw [impl_span_by.l0, if_pos (by decide), if_neg (by decide), if_neg (by decide), if_pos rfl, Go.Proofs.Ytbhmgbeebhmfkaa.Pure.wrap_small (x := -z6) (by omega), elementOf_eq (by omega), Option.bind_some, (by unfold wrap64; omega : wrap64 ((2 : Int) + 1) = 3)]) ?_
  refine Evp.step (f := fun k => impl_span_by.l0 k 4 z0 z1 z2 z3 ((-z4) % 31) ((-z5) % 31) ((-z6) % 31) ((-z7) % 31) z8 z9 z10 z11) (fun k => by rw [impl_span_by.l0, if_pos (by decide), if_neg (by decide), if_neg (by decide), if_neg (by decide), if_pos rfl, Go.Proofs.Ytbhmgbeebhmfkaa.Pure.wrap_small (x := -z7) (by omega), elementOf_eq (by omega), Option.bind_some, (by unfold wrap64; omega : wrap64 ((3 : Int) + 1) = 4)]) ?_
  refine Evp.step (f := fun k => impl_span_by.l0 k 5 z0 z1 z2 z3 ((-z4) % 31) ((-z5) % 31) ((-z6) % 31) ((-z7) % 31) ((-z8) % 31) z9 z10 z11) (fun k => by rw [impl_span_by.l0, if_pos (by decide), if_neg (by decide), if_neg (by decide), if_neg (by decide), if_neg (by decide), if_pos rfl, Go.Proofs.Ytbhmgbeebhmfkaa.Pure.wrap_small (x := -z8) (by omega), elementOf_eq (by omega), Option.bind_some, (by unfold wrap64; omega : wrap64 ((4 : Int) + 1) = 5)]) ?_
  refine Evp.step (f := fun k => impl_span_by.l0 k 6 z0 z1 z2 z3 ((-z4) % 31) ((-z5) % 31) ((-z6) % 31) ((-z7) % 31) ((-z8) % 31) ((-z9) % 31) z10 z11) (fun k => by rw [impl_span_by.l0, if_pos (by decide), if_neg (by decide), if_neg (by decide), if_neg (by decide), if_neg (by decide), if_neg (by decide), if_pos rfl, Go.Proofs.Ytbhmgbeebhmfkaa.Pure.wrap_small (x := -z9) (by omega), elementOf_eq (by omega), Option.bind_some, (by unfold wrap64; omega : wrap64 ((5 : Int) + 1) = 6)]) ?_
  refine Evp.step (f := fun k => impl_span_by.l0 k 7 z0 z1 z2 z3 ((-z4) % 31) ((-z5) % 31) ((-z6) % 31) ((-z7) % 31) ((-z8) % 31) ((-z9) % 31) ((-z10) % 31) z11) (fun k => by rw [impl_span_by.l0, if_pos (by decide), if_neg (by decide), if_neg (by decide), if_neg (by decide), if_neg (by decide), if_neg (by decide), if_neg (by decide), if_pos rfl, Go.Proofs.Ytbhmgbeebhmfkaa.Pure.wrap_small (x := -z10) (by omega), elementOf_eq (by omega), Option.bind_some, (by unfold wrap64; omega : wrap64 ((6 : Int) + 1) = 7)]) ?_
  refine Evp.step (f := fun k => impl_span_by.l0 k 8 z0 z1 z2 z3 ((-z4) % 31) ((-z5) % 31) ((-z6) % 31) ((-z7) % 31) ((-z8) % 31) ((-z9) % 31) ((-z10) % 31) ((-z11) % 31)) (fun k => by rw [impl_span_by.l0, if_pos (by decide), if_neg (by decide), if_neg (by decide), if_neg (by decide), if_neg (by decide), if_neg (by decide), if_neg (by decide), if_neg (by decide), if_pos rfl, Go.Proofs.Ytbhmgbeebhmfkaa.Pure.wrap_small (x := -z11) (by omega), elementOf_eq (by omega), Option.bind_some, (by unfold wrap64; omega : wrap64 ((7 : Int) + 1) = 8)]) ?_
  exact Evp.step (f := fun k => some _) (fun k => by rw [impl_span_by.l0, if_neg (by decide)]) (Evp.some' rfl)
/-- how often each, as the program tells it -/
def coefs (m : List (List Int)) (v : List Int) : List Int := (List.range m.length).map fun j => (-(kred (kspan m m.length).1 (v ++ [0, 0, 0, 0, 0, 0, 0, 0])).getD (4 + j) 0) % 31
def lby (m : List (List Int)) (v : List Int) : List Int × Bool := if mok m && vok v && lhas m v then (coefs m v, true) else ([], false)
theorem impl_by_ev {L : List (List Int)} (hL : ∀ r ∈ L, Good r) (hn : L.length ≤ 1000000) (P : List Int) {v : List Int} (hv : vok v = true) {z : List Int} (hz : kred L (v ++ [0, 0, 0, 0, 0, 0, 0, 0]) = z) :
    Evp (fun k => impl_span_by.f k (L.map m12) P (v.getD 0 0) (v.getD 1 0) (v.getD 2 0) (v.getD 3 0)) (· = ((-(z.getD 4 0)) % 31, (-(z.getD 5 0)) % 31, (-(z.getD 6 0)) % 31, (-(z.getD 7 0)) % 31, (-(z.getD 8 0)) % 31, (-(z.getD 9 0)) % 31, (-(z.getD 10 0)) % 31, (-(z.getD 11 0)) % 31, (z.getD 0 0 == 0 && (z.getD 1 0 == 0 && (z.getD 2 0 == 0 && (z.getD 3 0 == 0)))))) := by
  obtain ⟨a, b, c, d, rfl, ha, hb, hc, hd⟩ := vok_four hv
  have h12 : ([a, b, c, d] ++ [0, 0, 0, 0, 0, 0, 0, 0] : List Int).length = 12 := rfl
  have hcan : can ([a, b, c, d] ++ [0, 0, 0, 0, 0, 0, 0, 0]) := fun x hx => by
    simp only [List.cons_append, List.nil_append, List.mem_cons, List.not_mem_nil, or_false] at hx
    rcases hx with rfl | rfl | rfl | rfl | rfl | rfl | rfl | rfl | rfl | rfl | rfl | rfl <;> first | assumption | decide
  have hcz : can z := hz ▸ can_kred hcan
  unfold impl_span_by.f
  refine Evp.bind (Q := (· = T12 z)) ?_ fun t ht => ?_
  · have := less_ev (goods_m12 hL) (by simp; omega) P h12 hcan
    rw [map_l12_m12 hL, hz] at this
    exact this
  subst ht
  exact by_l0_ev (can_get hcz 4) (can_get hcz 5) (can_get hcz 6) (can_get hcz 7) (can_get hcz 8) (can_get hcz 9) (can_get hcz 10) (can_get hcz 11)
theorem spanBy_l0_ev {n : Nat} (hn : n ≤ 8) {b0 b1 b2 b3 b4 b5 b6 b7 : Int} : ∀ (d i : Nat), i + d = n → ∀ out : List Int, out.length = i →
    Evp (fun k => impl_SpanBy.l0 k out (n : Int) (i : Int) b0 b1 b2 b3 b4 b5 b6 b7) (· = (out ++ (([b0, b1, b2, b3, b4, b5, b6, b7] : List Int).take n).drop i, true)) := by
  intro d
  induction d with
  | zero =>
    intro i hi out ho
    refine Evp.step (fun k => by rw [impl_SpanBy.l0]) (Evp.neg (by omega) (Evp.some' ?_))
    rw [List.drop_eq_nil_of_le (by rw [List.length_take]; omega), List.append_nil]
  | succ d ih =>
    intro i hi out ho
    refine Evp.step (fun k => by rw [impl_SpanBy.l0]) (Evp.pos (by omega) ?_)
    refine Evp.congr (fun k => pick8 (p := i) (by omega) (fun j => if out.length < 17592186044416 then impl_SpanBy.l0 k (out ++ [([b0, b1, b2, b3, b4, b5, b6, b7] : List Int).getD j 0]) (n : Int) (wrap64 ((i : Int) + 1)) b0 b1 b2 b3 b4 b5 b6 b7 else none) none) ?_
    refine Evp.pos (by omega) ?_
    rw [wrap_succ (by omega)]
    have := ih (i + 1) (by omega) (out ++ [([b0, b1, b2, b3, b4, b5, b6, b7] : List Int).getD i 0]) (by simp [ho])
    rw [List.append_assoc] at this
    have e : [([b0, b1, b2, b3, b4, b5, b6, b7] : List Int).getD i 0] ++ (([b0, b1, b2, b3, b4, b5, b6, b7] : List Int).take n).drop (i + 1) = (([b0, b1, b2, b3, b4, b5, b6, b7] : List Int).take n).drop i := by
      have h1 : i < (([b0, b1, b2, b3, b4, b5, b6, b7] : List Int).take n).length := by rw [List.length_take]; simp; omega
      rw [List.drop_eq_getElem_cons h1, List.getElem_take, List.singleton_append, List.getD_eq_getElem?_getD, List.getElem?_eq_getElem (by simp; omega)]; rfl
    rw [e] at this
    exact this
theorem range_take (f : Nat → Int) {n : Nat} (hn : n ≤ 8) : ([f 0, f 1, f 2, f 3, f 4, f 5, f 6, f 7] : List Int).take n = (List.range n).map f := by
  match n, hn with
  | 0, _ => rfl
  | 1, _ => rfl
  | 2, _ => rfl
  | 3, _ => rfl
  | 4, _ => rfl
  | 5, _ => rfl
  | 6, _ => rfl
  | 7, _ => rfl
  | 8, _ => rfl
theorem toW_zeros {v : List Int} (hv : vok v = true) : toW (v ++ [0, 0, 0, 0, 0, 0, 0, 0]) = toW v := by
  obtain ⟨a, b, c, d, rfl, _⟩ := vok_four hv
  funext j
  show toF _ = toF _
  congr 1
  rcases Nat.lt_or_ge j 12 with hj | hj
  · match j, hj with
    | 0, _ => rfl
    | 1, _ => rfl
    | 2, _ => rfl
    | 3, _ => rfl
    | 4, _ => rfl
    | 5, _ => rfl
    | 6, _ => rfl
    | 7, _ => rfl
    | 8, _ => rfl
    | 9, _ => rfl
    | 10, _ => rfl
    | 11, _ => rfl
  · rw [List.getD_eq_getElem?_getD, List.getElem?_eq_none (by simp; omega), List.getD_eq_getElem?_getD, List.getElem?_eq_none (by simp; omega)]
/-- what is left of a row is 0 just if it is made of the rows -/
theorem left_zero {m : List (List Int)} (hm : ∀ r ∈ m, vok r = true) (h8 : m.length ≤ 8) {v : List Int} (hv : vok v = true) {z : List Int} (hz : kred (kspan m m.length).1 (v ++ [0, 0, 0, 0, 0, 0, 0, 0]) = z) :
    (z.getD 0 0 == 0 && (z.getD 1 0 == 0 && (z.getD 2 0 == 0 && (z.getD 3 0 == 0)))) = lhas m v ∧ toW z = red (kept (m.map toW) m.length) (toW v) ∧ can z := by
  obtain ⟨h1, h2, h3, h4, h5⟩ := kspan_inv hm h8 m.length (Nat.le_refl _)
  have h12 : (v ++ [0, 0, 0, 0, 0, 0, 0, 0]).length = 12 := by rw [List.length_append, (vok_iff.1 hv).1]; rfl
  have hcan : can (v ++ [0, 0, 0, 0, 0, 0, 0, 0]) := fun x hx => by
    rcases List.mem_append.1 hx with h | h
    · exact (vok_iff.1 hv).2 x h
    · simp at h; subst h; decide
  have ew : toW z = red (kept (m.map toW) m.length) (toW v) := by rw [← hz, toW_kred h1 h12, h2, toW_zeros hv]
  have hc : can z := hz ▸ can_kred hcan
  refine ⟨?_, ew, hc⟩
  have hb := (by_kept (toW_fours hm) (toW_four (vok_iff.1 hv).1)).1
  rw [List.length_map, ← ew] at hb
  rw [Bool.eq_iff_iff, lhas_iff hm hv, ← hb, ld_four_iff]
  simp only [Bool.and_eq_true, beq_iff_eq]
  constructor
  · rintro ⟨e0, e1, e2, e3⟩ i hi
    match i, hi with
    | 0, _ => exact (toW_zero_iff hc 0).2 e0
    | 1, _ => exact (toW_zero_iff hc 1).2 e1
    | 2, _ => exact (toW_zero_iff hc 2).2 e2
    | 3, _ => exact (toW_zero_iff hc 3).2 e3
  · intro h
    exact ⟨(toW_zero_iff hc 0).1 (h 0 (by omega)), (toW_zero_iff hc 1).1 (h 1 (by omega)), (toW_zero_iff hc 2).1 (h 2 (by omega)), (toW_zero_iff hc 3).1 (h 3 (by omega))⟩
theorem impl_SpanBy_ev {m : List (List Int)} (hm : m.length ≤ 1048576) (v : List Int) : Evp (fun k => impl_SpanBy.f k m v) (· = lby m v) := by
  unfold impl_SpanBy.f
  refine Evp.bind (impl_matrixOf_ev hm) fun t ht => ?_
  subst ht
  have no : ∀ (x6 : _) a b c d, Evp (fun k => impl_SpanBy.j0 k m x6 true a b c d) (· = ([], false)) := fun x6 a b c d => Evp.step (fun k => by rw [impl_SpanBy.j0]) (Evp.pos rfl (Evp.some' rfl))
  by_cases hv : vok v = true
  · obtain ⟨a, b, c, d, rfl, _⟩ := vok_four hv
    simp only [impl_vectorOf_ok hv, Option.bind_some]
    by_cases hk : mok m = true
    · obtain ⟨h8, hr⟩ := mok_iff.1 hk
      have ha : m.all vok = true := by simpa using hr
      rw [if_pos ha]
      refine Evp.pos (by simp; omega) ?_
      refine Evp.step (fun k => by rw [impl_SpanBy.j0]) (Evp.neg (by simp) ?_)
      refine Evp.bind (spanOf_ev hr h8) fun t ht => ?_
      subst ht
      obtain ⟨h1, h2, h3, h4, h5⟩ := kspan_inv hr h8 m.length (Nat.le_refl _)
      refine Evp.bind (impl_by_ev h1 (by omega) (kspan m m.length).2 hv rfl) fun t ht => ?_
      subst ht
      obtain ⟨e1, e2, e3⟩ := left_zero hr h8 hv rfl
      generalize hz : kred (kspan m m.length).1 ([a, b, c, d] ++ [0, 0, 0, 0, 0, 0, 0, 0]) = z at e1 e2 e3
      simp only [e1]
      unfold lby
      rw [hk, hv]
      refine Evp.ite (fun hh => ?_) fun hh => Evp.some' (by simp [hh])
      refine Evp.pos (by omega) (Evp.pos (by omega) ?_)
      refine (spanBy_l0_ev h8 m.length 0 (by omega) [] rfl).mono fun r hrr => ?_
      rw [hrr, hh, List.drop_zero, List.nil_append, range_take (fun j => (-(z.getD (4 + j) 0)) % 31) h8]
      simp only [Bool.and_self, if_true, coefs, hz]
    · have e : lby m [a, b, c, d] = ([], false) := by unfold lby; rw [Bool.eq_false_iff.2 hk]; rfl
      rw [e]
      by_cases ha : m.all vok = true
      · rw [if_pos ha]
        refine Evp.neg ?_ (no _ _ _ _ _)
        intro h; apply hk; exact mok_iff.2 ⟨by simpa using h, by simpa using ha⟩
      · rw [if_neg ha]
        exact Evp.neg (by simp) (no _ _ _ _ _)
  · have hv' := Bool.eq_false_iff.2 hv
    simp only [impl_vectorOf_no hv', Option.bind_some]
    have e : lby m v = ([], false) := by unfold lby; rw [hv', Bool.and_false]; rfl
    rw [e]
    exact Evp.ite (fun _ => no _ _ _ _ _) fun _ => no _ _ _ _ _
theorem lsome_len (m : List (List Int)) : (lsome m).length = (lfirst m).length := by unfold lsome; rw [List.length_map]
theorem lfirst_len (m : List (List Int)) : (lfirst m).length ≤ m.length := by
  unfold lfirst; exact Nat.le_trans (List.length_filter_le _ _) (by rw [List.length_range]; exact Nat.le_refl _)
theorem coefs_isBy {m : List (List Int)} (hm : ∀ r ∈ m, vok r = true) (h8 : m.length ≤ 8) {v : List Int} (hv : vok v = true) (hin : In (m.map toW) (toW v)) : IsBy m v (coefs m v) := by
  obtain ⟨_, e2, e3⟩ := left_zero hm h8 hv rfl
  have hl : (coefs m v).length = m.length := by unfold coefs; rw [List.length_map, List.length_range]
  refine isBy_kept hm hv hin ⟨hl, fun x hx => ?_⟩ fun j hj => ?_
  · unfold coefs at hx
    obtain ⟨i, _, rfl⟩ := List.mem_map.1 hx
    exact ok_iff.2 ⟨by omega, by omega⟩
  · rw [← e2]
    have eg : (coefs m v).getD j 0 = (-(kred (kspan m m.length).1 (v ++ [0, 0, 0, 0, 0, 0, 0, 0])).getD (4 + j) 0) % 31 := by
      unfold coefs; rw [List.getD_eq_getElem?_getD, List.getElem?_map, List.getElem?_range hj]; rfl
    show toF ((coefs m v).getD j 0) = -(toF ((kred (kspan m m.length).1 (v ++ [0, 0, 0, 0, 0, 0, 0, 0])).getD (4 + j) 0))
    rw [eg, ← neg_coef]
    congr 1; omega
def firsts (m : List (List Int)) : List Int := if mok m = true then (lfirst m).map (fun (j : Nat) => (j : Int)) else []
theorem mok_take' {m : List (List Int)} (h : mok m = true) (n : Nat) : mok (m.take n) = true := by
  obtain ⟨h8, hm⟩ := mok_iff.1 h
  exact mok_iff.2 ⟨by rw [List.length_take]; omega, fun r hr => hm r (List.mem_of_mem_take hr)⟩
theorem l3First_ev {m : List (List Int)} (ho : mok m = true) : Evp (fun k => spec_l3First.f k m) (· = firsts m) := by
  obtain ⟨h8, hm⟩ := mok_iff.1 ho
  have key : ∀ (d i : Nat), i + d = m.length → Evp (fun k => spec_l3First.l0 k m (((List.range i).filter fun i => !lhas (m.take i) (m.getD i [])).map (fun (j : Nat) => (j : Int))) (i : Int)) (· = firsts m) := by
    intro d
    induction d with
    | zero =>
      intro i hi
      obtain rfl : i = m.length := by omega
      exact Evp.step (fun k => by rw [spec_l3First.l0]) (Evp.neg (by omega) (Evp.some' (by unfold firsts; rw [if_pos ho]; rfl)))
    | succ d ih =>
      intro i hi
      refine Evp.step (fun k => by rw [spec_l3First.l0]) (Evp.pos (by omega) (Evp.pos (by omega) (Evp.pos (by omega) ?_)))
      rw [rdL1_nat, Int.toNat_natCast, l3Has_eq (mok_take' ho i) (vok_getD hm (by omega)), wrap_succ (by omega)]
      simp only [Option.bind_some]
      have hi1 := ih (i + 1) (by omega)
      rw [List.range_succ, List.filter_append, List.map_append] at hi1
      refine Evp.ite (fun h => ?_) fun h => ?_
      · rw [show List.filter (fun i => !lhas (m.take i) (m.getD i [])) [i] = [] by simp only [List.filter_cons, h]; rfl, List.map_nil, List.append_nil] at hi1
        exact hi1
      · rw [show List.filter (fun i => !lhas (m.take i) (m.getD i [])) [i] = [i] by simp only [List.filter_cons, Bool.eq_false_iff.2 h]; rfl] at hi1
        refine Evp.pos ?_ hi1
        rw [List.length_map]
        have := List.length_filter_le (fun i => !lhas (m.take i) (m.getD i [])) (List.range i)
        rw [List.length_range] at this
        omega
  unfold spec_l3First.f
  exact key m.length 0 (by omega)
theorem l3Less_evG {a b : List Int} (ca : can a) (cb : can b) (hl : a.length = b.length) (hn : b.length ≤ 1000000) (h0 : 0 ≤ llead b) : Evp (fun k => spec_l3Less.f k a b) (· = lless a b) := by
  obtain ⟨i, hi, e⟩ : ∃ i : Nat, i < b.length ∧ llead b = (i : Int) := by
    rcases llead_cases b with ⟨h, _⟩ | ⟨i, h1, h2, _⟩
    · rw [h] at h0; exact absurd h0 (by decide)
    · exact ⟨i, by omega, h2⟩
  have oa := ok_iff.1 (can_get ca i); have ob := can_get cb i
  have oi := inv_range (b.getD i 0)
  unfold spec_l3Less.f
  refine Evp.bind (l2Lead_ev (by omega)) fun t ht => ?_
  subst ht
  rw [e]
  refine Evp.pos (by omega) (Evp.pos (by omega) (Evp.pos (by omega) ?_))
  rw [rd_nat, rd_nat]
  refine Evp.bind (spec_l1Inv_ev ob) fun t ht => ?_
  subst ht
  have hm := mul_small (a := a.getD i 0) (b := inv (b.getD i 0)) (ok_iff.2 oa) (ok_iff.2 ⟨by omega, by omega⟩)
  have e2 : Int.tmod (wrap64 (31 - Int.tmod (wrap64 (a.getD i 0 * inv (b.getD i 0))) 31)) 31 = (31 - a.getD i 0 * inv (b.getD i 0) % 31) % 31 := by
    generalize a.getD i 0 * inv (b.getD i 0) = y at *
    rw [wrap_small (x := y) (by omega), tmod31 (x := y) (by omega), wrap_small (by omega), tmod31 (by omega)]
  rw [e2]
  refine Evp.bind (l2Scale_ev cb (mod_ok _) (by omega)) fun t ht => ?_
  subst ht
  refine Evp.bind (l2Sum_ev ca (can_lscale _ _) (by rw [lscale_len]; omega) (by omega)) fun t ht => Evp.some' ?_
  rw [ht]
  unfold lless
  rw [e, gt_nat, gt_nat]
theorem can_lless (a b : List Int) : can (lless a b) := can_lsum _ _
theorem lless_len {a b : List Int} (hl : a.length = b.length) : (lless a b).length = a.length := by
  unfold lless; exact lsum_len (by rw [lscale_len]; exact hl)
/-- a step's rows, the one that leads at hand -/
def bstep (p i : Nat) (R : List (List Int)) : List (List Int) := R.mapIdx fun k r => if k ≠ i ∧ gt r p ≠ 0 then lless r (R.getD i []) else r
theorem bstep_len (p i : Nat) (R : List (List Int)) : (bstep p i R).length = R.length := by simp [bstep]
theorem bstep_get (p i : Nat) (R : List (List Int)) (j : Nat) (hj : j < R.length) : (bstep p i R)[j]'(by rw [bstep_len]; exact hj) = if j ≠ i ∧ gt R[j] p ≠ 0 then lless R[j] (R.getD i []) else R[j] := by
  simp [bstep]
theorem cl_getD {n : Nat} {R : List (List Int)} (hR : ∀ r ∈ R, Cl n r) {i : Nat} (hi : i < R.length) : Cl n (R.getD i []) := by
  rw [List.getD_eq_getElem?_getD, List.getElem?_eq_getElem hi]; exact hR _ (List.getElem_mem hi)
theorem cl_lless {n : Nat} {a b : List Int} (ha : Cl n a) (hb : Cl n b) : Cl n (lless a b) := ⟨by rw [lless_len (by rw [ha.1, hb.1]), ha.1], can_lless _ _⟩
theorem cl_bstep {n : Nat} {R : List (List Int)} (hR : ∀ r ∈ R, Cl n r) {p i : Nat} (hi : i < R.length) : ∀ r ∈ bstep p i R, Cl n r := fun r hr => by
  obtain ⟨j, hj, rfl⟩ := List.getElem_of_mem hr
  rw [bstep_len] at hj
  rw [bstep_get p i R j hj]
  split
  · exact cl_lless (hR _ (List.getElem_mem hj)) (cl_getD hR hi)
  · exact hR _ (List.getElem_mem hj)
def bmid (p i : Nat) (R : List (List Int)) (j : Nat) : List (List Int) := (bstep p i R).take j ++ R.drop j
theorem bmid_len (p i : Nat) (R : List (List Int)) {j : Nat} (hj : j ≤ R.length) : (bmid p i R j).length = R.length := by
  unfold bmid; rw [List.length_append, List.length_take, List.length_drop, bstep_len]; omega
theorem bmid_at (p i : Nat) (R : List (List Int)) {j : Nat} (hj : j < R.length) : (bmid p i R j).getD j [] = R.getD j [] := by
  unfold bmid
  rw [List.getD_eq_getElem?_getD, List.getElem?_append_right (by rw [List.length_take, bstep_len]; omega), List.length_take, bstep_len, List.getElem?_drop, show j + (j - min j R.length) = j by omega]; rfl
theorem bmid_i (p i : Nat) (R : List (List Int)) {j : Nat} (hj : j ≤ R.length) (hi : i < R.length) : (bmid p i R j).getD i [] = R.getD i [] := by
  by_cases h : i < j
  · unfold bmid
    rw [List.getD_eq_getElem?_getD, List.getElem?_append_left (by rw [List.length_take, bstep_len]; omega), List.getElem?_take_of_lt h, List.getElem?_eq_getElem (by rw [bstep_len]; exact hi), bstep_get p i R i hi, if_neg (fun h => h.1 rfl), List.getD_eq_getElem?_getD, List.getElem?_eq_getElem hi]
  · unfold bmid
    rw [List.getD_eq_getElem?_getD, List.getElem?_append_right (by rw [List.length_take, bstep_len]; omega), List.length_take, bstep_len, List.getElem?_drop, show j + (i - min j R.length) = i by omega]; rfl
theorem bmid_same (p i : Nat) (R : List (List Int)) {j : Nat} (hj : j < R.length) (h : ¬ (j ≠ i ∧ gt R[j] p ≠ 0)) : bmid p i R (j + 1) = bmid p i R j := by
  unfold bmid
  rw [List.take_succ_eq_append_getElem (by rw [bstep_len]; exact hj), bstep_get p i R j hj, if_neg h, List.drop_eq_getElem_cons hj, List.append_assoc]; rfl
theorem bmid_set (p i : Nat) (R : List (List Int)) {j : Nat} (hj : j < R.length) (h : j ≠ i ∧ gt R[j] p ≠ 0) : (bmid p i R j).set j (lless (R.getD j []) (R.getD i [])) = bmid p i R (j + 1) := by
  unfold bmid
  have hl : ((bstep p i R).take j).length = j := by rw [List.length_take, bstep_len]; omega
  rw [List.set_append_right _ _ (by omega), hl, Nat.sub_self, List.drop_eq_getElem_cons hj, List.set_cons_zero, List.take_succ_eq_append_getElem (by rw [bstep_len]; exact hj), bstep_get p i R j hj, if_pos h, List.append_assoc, List.getD_eq_getElem?_getD, List.getElem?_eq_getElem hj]; rfl
theorem vok_row {m : List (List Int)} (hm : ∀ r ∈ m, vok r = true) {i : Nat} (hi : i < m.length) : vok (m.getD i []) = true := by
  rw [List.getD_eq_getElem?_getD, List.getElem?_eq_getElem hi]; exact hm _ (List.getElem_mem hi)
theorem by_l3_ev {n : Nat} (hn : n ≤ 1000) {R : List (List Int)} (hR : ∀ r ∈ R, Cl (4 + n) r) (hl : R.length ≤ 1000000) {x : List Int} (hx : Cl (4 + n) x) {p i : Nat} (hp : p < 4) (hi : i < R.length) (hlead : llead (R.getD i []) = (p : Int)) {Q : _ → Prop}
    (h : Evp (fun k => spec_l3By.l1 k (bstep p i R) (lless x (R.getD i [])) ((p + 1 : Nat) : Int)) Q) : ∀ (d j : Nat), j + d = R.length →
    Evp (fun k => spec_l3By.l3 k (bmid p i R j) x (p : Int) (i : Int) (j : Int)) Q := by
  have ci := cl_getD hR hi
  intro d
  induction d with
  | zero =>
    intro j hj
    have hb := bmid_len p i R (j := j) (by omega)
    refine Evp.step (fun k => by rw [spec_l3By.l3]) (Evp.neg (by omega) (Evp.pos (by omega) (Evp.pos (by omega) ?_)))
    rw [rdL1_nat, bmid_i p i R (by omega) hi]
    refine Evp.bind (l3Less_evG hx.2 ci.2 (by rw [hx.1, ci.1]) (by rw [ci.1]; omega) (by omega)) fun t ht => ?_
    subst ht
    have e : bmid p i R j = bstep p i R := by
      unfold bmid
      rw [List.take_of_length_le (by rw [bstep_len]; omega), List.drop_eq_nil_of_le (by omega), List.append_nil]
    rw [e, wrap_succ (by omega)]
    exact h
  | succ d ih =>
    intro j hj
    have hj1 : j < R.length := by omega
    have hb := bmid_len p i R (j := j) (by omega)
    have cj := cl_getD hR hj1
    have eR : R[j] = R.getD j [] := by rw [List.getD_eq_getElem?_getD, List.getElem?_eq_getElem hj1]; rfl
    refine Evp.step (fun k => by rw [spec_l3By.l3]) (Evp.pos (by omega) (Evp.ite (fun hc => ?_) fun hc => ?_))
    · rw [wrap_succ (by omega), ← bmid_same p i R hj1 (fun h => h.1 (by omega))]
      exact ih (j + 1) (by omega)
    · refine Evp.pos (by omega) (Evp.pos (by omega) ?_)
      rw [rdL1_nat, bmid_at p i R hj1, rdL1_nat, bmid_i p i R (by omega) hi]
      refine Evp.pos (by rw [cj.1]; omega) ?_
      rw [rd_nat]
      refine Evp.ite (fun hz => ?_) fun hz => ?_
      · rw [wrap_succ (by omega), ← bmid_same p i R hj1 (fun h => h.2 (by rw [eR, gt_nat]; exact hz))]
        exact ih (j + 1) (by omega)
      · refine Evp.pos (by omega) (Evp.pos (by omega) ?_)
        refine Evp.bind (l3Less_evG cj.2 ci.2 (by rw [cj.1, ci.1]) (by rw [ci.1]; omega) (by omega)) fun t ht => ?_
        subst ht
        rw [Int.toNat_natCast, wrap_succ (by omega), bmid_set p i R hj1 ⟨by omega, by rw [eR, gt_nat]; exact hz⟩]
        exact ih (j + 1) (by omega)
theorem by_l2_ev {n : Nat} (hn : n ≤ 1000) {R : List (List Int)} (hR : ∀ r ∈ R, Cl (4 + n) r) (hl : R.length ≤ 1000000) {x : List Int} (hx : Cl (4 + n) x) {p : Nat} (hp : p < 4) {Q : _ → Prop}
    (h : Evp (fun k => spec_l3By.l1 k (Lin.lstep (R, x) p).1 (Lin.lstep (R, x) p).2 ((p + 1 : Nat) : Int)) Q) : ∀ (d i : Nat), i + d = R.length → (∀ q, q < i → llead (R.getD q []) ≠ (p : Int)) →
    Evp (fun k => spec_l3By.l2 k R x (p : Int) (i : Int)) Q := by
  intro d
  induction d with
  | zero =>
    intro i hi hq
    have e : R.findIdx? (fun r => llead r == (p : Int)) = none := by
      rw [List.findIdx?_eq_none_iff]
      intro r hr
      obtain ⟨q, hq1, rfl⟩ := List.getElem_of_mem hr
      have := hq q (by omega)
      rw [List.getD_eq_getElem?_getD, List.getElem?_eq_getElem hq1] at this
      simpa using this
    refine Evp.step (fun k => by rw [spec_l3By.l2]) (Evp.neg (by omega) ?_)
    rw [wrap_succ (by omega)]
    simpa only [Lin.lstep, e] using h
  | succ d ih =>
    intro i hi hq
    have hi1 : i < R.length := by omega
    have ci := cl_getD hR hi1
    refine Evp.step (fun k => by rw [spec_l3By.l2]) (Evp.pos (by omega) (Evp.pos (by omega) ?_))
    rw [rdL1_nat]
    refine Evp.bind (l2Lead_ev (by rw [ci.1]; omega)) fun t ht => ?_
    subst ht
    refine Evp.ite (fun hc => ?_) fun hc => ?_
    · have e : R.findIdx? (fun r => llead r == (p : Int)) = some i := by
        rw [List.findIdx?_eq_some_iff_getElem]
        refine ⟨hi1, ?_, fun q hq1 => ?_⟩
        · rw [List.getD_eq_getElem?_getD, List.getElem?_eq_getElem hi1] at hc
          simpa using hc
        · have := hq q hq1
          rw [List.getD_eq_getElem?_getD, List.getElem?_eq_getElem (by omega)] at this
          simpa using this
      have h2 : Evp (fun k => spec_l3By.l1 k (bstep p i R) (lless x (R.getD i [])) ((p + 1 : Nat) : Int)) Q := by
        have h1 := h
        simp only [Lin.lstep, e] at h1
        exact h1
      exact by_l3_ev hn hR hl hx hp hi1 hc h2 R.length 0 (by omega)
    · rw [wrap_succ (by omega)]
      refine ih (i + 1) (by omega) fun q hq1 => ?_
      rcases Nat.lt_or_ge q i with c | c
      · exact hq q c
      · rw [show q = i by omega]; exact hc
theorem lstep_cl {n : Nat} {s : List (List Int) × List Int} (hR : ∀ r ∈ s.1, Cl (4 + n) r) (hx : Cl (4 + n) s.2) (p : Nat) : (∀ r ∈ (Lin.lstep s p).1, Cl (4 + n) r) ∧ Cl (4 + n) (Lin.lstep s p).2 ∧ (Lin.lstep s p).1.length = s.1.length := by
  unfold Lin.lstep
  split
  · exact ⟨hR, hx, rfl⟩
  · rename_i i e
    have hi : i < s.1.length := by
      obtain ⟨h, _⟩ := List.findIdx?_eq_some_iff_getElem.1 e
      exact h
    exact ⟨cl_bstep (p := p) hR hi, cl_lless hx (cl_getD hR hi), bstep_len p i s.1⟩
theorem by_l1_ev {n : Nat} (hn : n ≤ 1000) {s : List (List Int) × List Int} (hR : ∀ r ∈ s.1, Cl (4 + n) r) (hl : s.1.length ≤ 1000000) (hx : Cl (4 + n) s.2) {p : Nat} (hp : p < 4) {Q : _ → Prop}
    (h : Evp (fun k => spec_l3By.l1 k (Lin.lstep s p).1 (Lin.lstep s p).2 ((p + 1 : Nat) : Int)) Q) : Evp (fun k => spec_l3By.l1 k s.1 s.2 (p : Int)) Q := by
  refine Evp.step (fun k => by rw [spec_l3By.l1]) (Evp.pos (by omega) ?_)
  exact by_l2_ev hn hR hl hx hp h s.1.length 0 (by omega) (fun q hq => absurd hq (Nat.not_lt_zero q))
theorem spec_l6In_eq (a b c : Int) : spec_l6In.f a b c = some (decide (b ≤ a) && decide (a ≤ c)) := by
  unfold spec_l6In.f
  by_cases h : b ≤ a
  · simp [h]
  · simp [h]
def byOf : Option (List Int) → List Int × Bool
  | some l => (l, true)
  | none => ([], false)
theorem spec_l3By_ev {m : List (List Int)} (hm : ∀ r ∈ m, vok r = true) (hn : m.length ≤ 1000) {v : List Int} (hv : vok v = true) : Evp (fun k => spec_l3By.f k m v) (· = byOf (Lin.lby m v)) := by
  obtain ⟨v4, vc⟩ := vok_iff.1 hv
  unfold spec_l3By.f
  have hx : Cl (4 + m.length) (v ++ List.replicate m.length 0) := ⟨by rw [List.length_append, List.length_replicate, v4], can_append vc (can_replicate _)⟩
  have hR : ∀ r ∈ (List.range m.length).map (laug m), Cl (4 + m.length) r := fun r hr => by
    obtain ⟨i, hi, rfl⟩ := List.mem_map.1 hr
    exact laug_cl hm (List.mem_range.1 hi)
  have fin : Evp (fun k => spec_l3By.l1 k ((List.range m.length).map (laug m)) (v ++ List.replicate m.length 0) 0) (· = byOf (Lin.lby m v)) := by
    generalize hs : (((List.range m.length).map (laug m), v ++ List.replicate m.length 0) : List (List Int) × List Int) = s0
    have a0 : (∀ r ∈ s0.1, Cl (4 + m.length) r) ∧ Cl (4 + m.length) s0.2 ∧ s0.1.length = m.length := by subst hs; exact ⟨hR, hx, by simp⟩
    have a1 := lstep_cl a0.1 a0.2.1 0
    have a2 := lstep_cl a1.1 a1.2.1 1
    have a3 := lstep_cl a2.1 a2.2.1 2
    have a4 := lstep_cl a3.1 a3.2.1 3
    have es : Lin.lsteps m v = Lin.lstep (Lin.lstep (Lin.lstep (Lin.lstep s0 0) 1) 2) 3 := by unfold Lin.lsteps; rw [hs]; rfl
    have goal : Evp (fun k => spec_l3By.l1 k s0.1 s0.2 ((0 : Nat) : Int)) (· = byOf (Lin.lby m v)) := by
      refine by_l1_ev hn a0.1 (by omega) a0.2.1 (by decide) ?_
      refine by_l1_ev hn a1.1 (by omega) a1.2.1 (by decide) ?_
      refine by_l1_ev hn a2.1 (by omega) a2.2.1 (by decide) ?_
      refine by_l1_ev hn a3.1 (by omega) a3.2.1 (by decide) ?_
      refine Evp.step (fun k => by rw [spec_l3By.l1]) (Evp.neg (by decide) ?_)
      unfold Lin.lby
      rw [es]
      generalize Lin.lstep (Lin.lstep (Lin.lstep (Lin.lstep s0 0) 1) 2) 3 = s at a4 ⊢
      refine Evp.bind (l2Lead_ev (by rw [a4.2.1.1]; omega)) fun t ht => ?_
      subst ht
      rw [spec_l6In_eq]
      simp only [Option.bind_some]
      refine Evp.ite (fun hc => Evp.some' ?_) fun hc => ?_
      · rw [if_pos (by simpa using hc)]; rfl
      · rw [if_neg (by simpa using hc)]
        refine Evp.pos (by rw [a4.2.1.1]; omega) ?_
        refine Evp.bind (l2Scale_ev (fun y hy => a4.2.1.2 y (List.mem_of_mem_drop hy)) (by decide) (by rw [List.length_drop, a4.2.1.1]; omega)) fun t ht => Evp.some' ?_
        rw [ht]; rfl
    rw [← hs] at goal
    exact goal
  have key : ∀ d i, i + d = m.length → Evp (fun k => spec_l3By.l0 k m v ((List.range i).map (laug m)) (i : Int)) (· = byOf (Lin.lby m v)) := by
    intro d
    induction d with
    | zero =>
      intro i hi
      refine Evp.step (fun k => by rw [spec_l3By.l0]) (Evp.neg (by omega) ?_)
      simp only [Option.bind_some, List.nil_append, List.length_nil, Int.toNat_natCast]
      refine Evp.pos (by omega) (Evp.pos (by omega) (Evp.pos (by omega) ?_))
      rw [show i = m.length by omega]
      exact fin
    | succ d ih =>
      intro i hi
      have hi1 : i < m.length := by omega
      have l4 := (vok_iff.1 (vok_row hm hi1)).1
      refine Evp.step (fun k => by rw [spec_l3By.l0]) (Evp.pos (by omega) (Evp.pos (by omega) ?_))
      simp only [Option.bind_some, List.nil_append, List.length_nil, Int.toNat_natCast, List.length_replicate, List.length_set, rdL1_nat, List.length_map, List.length_range]
      refine Evp.pos (by omega) (Evp.pos (by omega) (Evp.pos (by omega) (Evp.pos (by omega) (Evp.pos (by omega) (Evp.pos (by omega) ?_)))))
      have := ih (i + 1) (by omega)
      rw [List.range_succ, List.map_append] at this
      rw [wrap_succ (by omega)]
      exact this
  exact key m.length 0 (by omega)
theorem rd_firsts {m : List (List Int)} (ho : mok m = true) {i : Nat} (hi : i < (lfirst m).length) : rd (firsts m) (i : Int) = ((lfirst m)[i] : Int) := by
  unfold firsts
  rw [if_pos ho, rd_nat, List.getD_eq_getElem?_getD, List.getElem?_map, List.getElem?_eq_getElem hi]; rfl
theorem firsts_length {m : List (List Int)} (ho : mok m = true) : (firsts m).length = (lfirst m).length := by
  unfold firsts; rw [if_pos ho, List.length_map]
def distTo (n : Nat) (first : List Nat) (b : List Int) (k : Nat) : List Int := (List.range k).foldl (fun out i => out.set (first.getD i 0) (b.getD i 0)) (List.replicate n 0)
theorem distTo_len (n : Nat) (first : List Nat) (b : List Int) (k : Nat) : (distTo n first b k).length = n := by
  induction k with
  | zero => simp [distTo]
  | succ k ih => unfold distTo at *; rw [List.range_succ, List.foldl_append]; simp only [List.foldl_cons, List.foldl_nil, List.length_set]; exact ih
theorem spec_SpanBy_ev {m : List (List Int)} (hm : m.length ≤ 1048576) (hr : ∀ r ∈ m, r.length ≤ 1048576) {v : List Int} (hv : v.length ≤ 1000000000000) : Evp (fun k => spec_SpanBy.f k m v) (· = lby m v) := by
  have bad : (mok m && vok v) = false → Evp (fun k => spec_SpanBy.j0 k m v true) (· = lby m v) := fun h =>
    Evp.step (fun k => by rw [spec_SpanBy.j0]) (Evp.pos rfl (Evp.some' (by unfold lby; rw [h]; rfl)))
  unfold spec_SpanBy.f
  refine Evp.bind (spec_SpanOk_ev hm hr) fun t ht => ?_
  subst ht
  refine Evp.ite (fun ho => ?_) fun h => bad (by simp [h])
  refine Evp.bind (spec_VecOk_ev hv) fun t ht => ?_
  subst ht
  by_cases hk : vok v = true
  · rw [hk]
    obtain ⟨h8, hmv⟩ := mok_iff.1 ho
    refine Evp.step (fun k => by rw [spec_SpanBy.j0]) (Evp.neg (by simp) ?_)
    refine Evp.bind (l3First_ev ho) fun t ht => ?_
    subst ht
    have hf := firsts_length ho
    have hlf := lfirst_len m
    have hls := lsome_len m
    have hsv := vok_lsome hmv
    have fin : Evp (fun k => (spec_l3By.f k (lsome m) v).bind fun bt => (if bt.2 = true then (if 0 ≤ (m.length : Int) then (if ((m.length : Int) : Int).toNat ≤ 35184372088832 then (spec_SpanBy.l1 k (firsts m) bt.1 (List.replicate ((m.length : Int) : Int).toNat 0) 0) else (none)) else (none)) else (some ((([] : List Int)), false)))) (· = lby m v) := by
      refine Evp.bind (spec_l3By_ev (m := lsome m) hsv (by omega) hk) fun t ht => ?_
      subst ht
      cases hb : Lin.lby (lsome m) v with
      | none =>
        refine Evp.neg (by simp [byOf]) (Evp.some' ?_)
        have hn : ¬ In (m.map toW) (toW v) := (spanBy_none hmv hk).1 (by unfold lspanBy; rw [hb]; rfl)
        have hh : lhas m v = false := by
          rw [Bool.eq_false_iff]; exact fun h => hn ((lhas_iff hmv hk).1 h)
        unfold lby
        rw [ho, hk, hh]; rfl
      | some b =>
        have hsb : lspanBy m v = some (ldist m.length (lfirst m) b) := by unfold lspanBy; rw [hb]; rfl
        have hin : In (m.map toW) (toW v) := isBy_in (spanBy_some hmv hk hsb)
        have hbl := (lby_some hsv hk hb).1
        refine Evp.pos rfl (Evp.pos (by omega) (Evp.pos (by omega) ?_))
        rw [Int.toNat_natCast]
        have key : ∀ d i, i + d = (lfirst m).length → Evp (fun k => spec_SpanBy.l1 k (firsts m) b (distTo m.length (lfirst m) b i) (i : Int)) (· = lby m v) := by
          intro d
          induction d with
          | zero =>
            intro i hi
            refine Evp.step (fun k => by rw [spec_SpanBy.l1]) (Evp.neg (by omega) (Evp.some' ?_))
            have e : distTo m.length (lfirst m) b i = ldist m.length (lfirst m) b := by unfold ldist; rw [show i = (lfirst m).length by omega]; rfl
            have e2 := spanBy_of hmv hk (coefs_isBy hmv h8 hk hin)
            rw [hsb] at e2
            unfold lby
            rw [ho, hk, (lhas_iff hmv hk).2 hin, e, Option.some.inj e2]; rfl
          | succ d ih =>
            intro i hi
            have hi1 : i < (lfirst m).length := by omega
            have hlt := lfirst_lt (m := m) _ (List.getElem_mem hi1)
            refine Evp.step (fun k => by rw [spec_SpanBy.l1]) (Evp.pos (by omega) (Evp.pos (by omega) (Evp.pos (by rw [hbl.1]; omega) ?_)))
            rw [rd_firsts ho hi1, rd_nat, wrap_succ (by omega), Int.toNat_natCast]
            refine Evp.pos (by omega) (Evp.pos (by rw [distTo_len]; omega) ?_)
            have := ih (i + 1) (by omega)
            have e : distTo m.length (lfirst m) b (i + 1) = (distTo m.length (lfirst m) b i).set (lfirst m)[i] (b.getD i 0) := by
              unfold distTo
              rw [List.range_succ, List.foldl_append]
              simp only [List.foldl_cons, List.foldl_nil, List.getD_eq_getElem?_getD, List.getElem?_eq_getElem hi1, Option.getD_some]
            rw [e] at this
            exact this
        exact key (lfirst m).length 0 (by omega)
    have key : ∀ d i, i + d = (lfirst m).length → Evp (fun k => spec_SpanBy.l0 k m v (firsts m) ((lsome m).take i) (i : Int)) (· = lby m v) := by
      intro d
      induction d with
      | zero =>
        intro i hi
        refine Evp.step (fun k => by rw [spec_SpanBy.l0]) (Evp.neg (by omega) ?_)
        rw [List.take_of_length_le (show (lsome m).length ≤ i by omega)]
        exact fin
      | succ d ih =>
        intro i hi
        have hi1 : i < (lfirst m).length := by omega
        have hlt := lfirst_lt (m := m) _ (List.getElem_mem hi1)
        refine Evp.step (fun k => by rw [spec_SpanBy.l0]) (Evp.pos (by omega) (Evp.pos (by omega) ?_))
        rw [rd_firsts ho hi1, wrap_succ (by omega)]
        refine Evp.pos (by omega) (Evp.pos (by omega) (Evp.pos (by rw [List.length_take]; omega) ?_))
        have et : (lsome m).take i ++ [rd_L1 m ((lfirst m)[i] : Int)] = (lsome m).take (i + 1) := by
          rw [List.take_succ_eq_append_getElem (show i < (lsome m).length by omega), rdL1_nat]
          congr 2
          unfold lsome; rw [List.getElem_map]
        rw [et]
        exact ih (i + 1) (by omega)
    exact key (lfirst m).length 0 (by omega)
  · rw [Bool.eq_false_iff.2 hk]
    exact bad (by simp [hk])
theorem FnExactSpanBy (m : List (List Int)) (hm : m.length ≤ maxLen) (hr : ∀ r ∈ m, r.length ≤ maxLen) (v : List Int) (hv : v.length ≤ maxLen) (hvw : ∀ n ∈ v, (Lit.int .i64 n).wf = true) : ∃ k, laws_FnExactSpanBy.f k m v = some true := by
  refine Evp.rounds ?_
  unfold laws_FnExactSpanBy.f
  refine Evp.ite (fun _ => Evp.some' rfl) fun hv0 => ?_
  have hvl : v.length ≤ 1048576 := by omega
  refine Evp.bind (szIntSS_evL (by decide) hm hr) fun t ht => ?_
  refine Evp.ite (fun _ => Evp.some' rfl) fun h0 => ?_
  obtain ⟨hb, h1, h2⟩ := ht.resolve_left h0
  have hll : (lby m v).1.length ≤ 12 := by
    unfold lby
    split
    · rename_i h
      simp only [Bool.and_eq_true] at h
      have := (mok_iff.1 h.1.1).1
      unfold coefs; rw [List.length_map, List.length_range]; omega
    · simp
  refine Evp.bind (toIntSS_ev h1 h2) fun t ht => ?_
  subst ht
  refine Evp.bind (toIntS_ev hvl) fun t ht => ?_
  subst ht
  refine Evp.bind (spec_SpanBy_ev h1 h2 (by omega)) fun t ht => ?_
  subst ht
  refine Evp.bind (toIntSS_ev h1 h2) fun t ht => ?_
  subst ht
  refine Evp.bind (toIntS_ev hvl) fun t ht => ?_
  subst ht
  refine Evp.bind (impl_SpanBy_ev h1 _) fun t ht => ?_
  subst ht
  have hq0 := total_le _ h2
  refine Evp.bind (eqIntS_self (by omega)) fun t ht => ?_
  subst ht
  refine Evp.pos rfl ?_
  refine Evp.step (fun k => by rw [laws_FnExactSpanBy.j0]) (Evp.neg (by simp) ?_)
  refine Evp.bind (toIntSS_ev h1 h2) fun t ht => ?_
  subst ht
  refine Evp.bind (eqIntSS_self h1 h2) fun t ht => ?_
  subst ht
  refine Evp.pos rfl ?_
  refine Evp.bind (toIntS_ev hvl) fun t ht => ?_
  subst ht
  refine Evp.bind (eqIntS_self (by omega)) fun t ht => ?_
  subst ht
  refine Evp.pos rfl ?_
  rw [markIntSS_f h1 h2 (by omega)]
  simp only [Option.bind_some]
  refine Evp.bind (markIntS_ev hvl (by omega)) fun r6 hr => ?_
  subst hr
  refine Evp.neg (by simp only; omega) ?_
  refine Evp.bind (eqIntS_self (by omega)) fun t ht => ?_
  subst ht
  refine Evp.pos rfl ?_
  refine Evp.step (fun k => by rw [laws_FnExactSpanBy.j1]) (Evp.neg (by simp) ?_)
  refine Evp.bind (markIntS_ev (by omega) (by omega)) fun r8 hr => ?_
  subst hr
  refine Evp.bind (heldIntS_ev (by omega) (by omega)) fun r9 hr => ?_
  subst hr
  refine Evp.neg (by omega) (Evp.pos (by first | rfl | trivial) ?_)
  refine Evp.bind (toIntSS_ev h1 h2) fun t ht => ?_
  subst ht
  refine Evp.bind (toIntS_ev hvl) fun t ht => ?_
  subst ht
  refine Evp.bind (impl_SpanBy_ev h1 _) fun t ht => ?_
  subst ht
  refine Evp.bind (eqIntS_self (by omega)) fun t ht => ?_
  subst ht
  refine Evp.pos (by first | rfl | trivial) ?_
  refine Evp.step (fun k => by rw [laws_FnExactSpanBy.j2]) (Evp.neg (by simp) ?_)
  refine Evp.bind (heldIntS_ev (by omega) (by omega)) fun r12 hr => ?_
  subst hr
  exact Evp.neg (by omega) (Evp.pos (by first | rfl | trivial) (Evp.some' rfl))
end Go.Proofs.Ytbhmgbeebhmfkaa.Pure
