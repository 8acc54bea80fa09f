import Derived.Test.YtmnfkohdibgjeaaPCx0
import Derived.Test.YtmnfkohdibgjeaaPCx1
import Derived.Test.YtmnfkohdibgjeaaPCx4
import Derived.Test.YtmnfkohdibgjeaaPCx6
import Derived.Test.YtmnfkohdibgjeaaPCx7
import Derived.Test.YtmnfkohdibgjeaaDraw
import Derived.Test.YtmnfkohdibgjeaaVecLin
/- What the printed functions over rows of numbers come to. -/
set_option linter.unusedVariables false
set_option linter.unusedSimpArgs false
namespace Go.Proofs.Ytmnfkohdibgjeaa.Sc
open Go.RowKit Go.Proofs.Ytmnfkohdibgjeaa.PC Go.Proofs.YtmnfkohdibgjeaaW.PrintWords Go.Proofs.YtmnfkohdibgjeaaW.PrintLast Go.Proofs.YtmnfkohdibgjeaaW.PrintMore Go.Proofs.Ytmnfkohdibgjeaa.Lin

theorem rd_nat (l : List Int) (i : Nat) : rd l (i : Int) = l.getD i 0 := by unfold rd; rw [Int.toNat_natCast]
theorem getD_get {l : List Int} {i : Nat} (h : i < l.length) : l.getD i 0 = l[i] := by rw [List.getD_eq_getElem?_getD, List.getElem?_eq_getElem h]; rfl
theorem wrap_succ {i : Nat} (h : i ≤ 1000000000000000) : wrap64 ((i : Int) + 1) = ((i + 1 : Nat) : Int) := by rw [wrap_small (by omega)]; omega
theorem impl_elementsOk_eq (l : List Int) (n : Int) : impl_elementsOk.f l n = some (decide ((l.length : Int) = n) && l.all ok) := rfl
theorem vok_alt (l : List Int) : (decide ((l.length : Int) = 4) && l.all ok) = vok l := by
  unfold vok
  congr 1
  rw [Bool.eq_iff_iff, beq_iff_eq, decide_eq_true_iff]; omega

theorem spec_VecOk_ev {l : List Int} (hl : l.length ≤ 1000000000000) : Evp (fun k => spec_VecOk.f k l) (· = vok l) := by
  have key : ∀ d i, i + d = l.length → Evp (fun k => spec_VecOk.l0 k l (i : Int)) (· = ((l.drop i).all ok && (l.length == 4))) := by
    intro d
    induction d with
    | zero =>
      intro i hi
      refine Evp.step (fun k => by rw [spec_VecOk.l0]) ?_
      refine Evp.neg (by omega) ?_
      refine Evp.some' ?_
      rw [List.drop_eq_nil_of_le (by omega), Bool.eq_iff_iff, beq_iff_eq]; simp; omega
    | succ d ih =>
      intro i hi
      refine Evp.step (fun k => by rw [spec_VecOk.l0]) ?_
      refine Evp.pos (by omega) (Evp.pos (by omega) ?_)
      simp only [spec_FieldOk_eq, Option.bind_some, rd_nat, getD_get (show i < l.length by omega)]
      rw [List.drop_eq_getElem_cons (show i < l.length by omega), List.all_cons]
      refine Evp.ite (fun h => ?_) fun h => ?_
      · rw [wrap_succ (by omega), h]
        exact ih (i + 1) (by omega)
      · exact Evp.some' (by simp [h])
  have := key l.length 0 (by omega)
  unfold spec_VecOk.f
  refine this.mono fun r hr => ?_
  rw [hr, List.drop_zero, Bool.and_comm]; rfl
theorem eq_loop {F : Nat → List Int → List Int → Int → Option Bool}
    (hF : ∀ k a b i, F (k + 1) a b i = if i < (a.length : Int) then (if 0 ≤ i then (if i < (b.length : Int) then (if (rd a i) = (rd b i) then (F k a b (wrap64 (i + 1))) else (some false)) else (none)) else (none)) else (some true))
    {a b : List Int} (hl : a.length = b.length) (ha : a.length ≤ 1000000000000) : Evp (fun k => F k a b 0) (· = decide (a = b)) := by
  have key : ∀ d i, i + d = a.length → (∀ j, j < i → a.getD j 0 = b.getD j 0) → Evp (fun k => F k a b (i : Int)) (· = decide (a = b)) := by
    intro d
    induction d with
    | zero =>
      intro i hi hp
      refine Evp.step (fun k => hF k a b i) ?_
      refine Evp.neg (by omega) ?_
      refine Evp.some' ?_
      have : a = b := List.ext_getElem hl fun j h1 h2 => by have := hp j (by omega); rwa [getD_get h1, getD_get h2] at this
      simp [this]
    | succ d ih =>
      intro i hi hp
      refine Evp.step (fun k => hF k a b i) ?_
      refine Evp.pos (by omega) (Evp.pos (by omega) (Evp.pos (by omega) ?_))
      rw [rd_nat, rd_nat, wrap_succ (by omega)]
      refine Evp.ite (fun h => ih (i + 1) (by omega) fun j hj => ?_) fun h => Evp.some' ?_
      · rcases Nat.lt_or_ge j i with c | c
        · exact hp j c
        · have : j = i := by omega
          subst this; exact h
      · have : a ≠ b := fun e => h (by rw [e])
        simp [this]
  exact key a.length 0 (by omega) (fun j hj => absurd hj (Nat.not_lt_zero j))
theorem eqIntS_ev {a b : List Int} (ha : a.length ≤ 1000000000000) : Evp (fun k => laws_eqIntS.f k a b) (· = decide (a = b)) := by
  unfold laws_eqIntS.f
  refine Evp.ite (fun h => eq_loop (fun k a b i => by rw [laws_eqIntS.l0]) (by omega) ha) fun h => Evp.some' ?_
  have : a ≠ b := fun e => h (by rw [e])
  simp [this]
theorem toIntS_ev {l : List Int} (hl : l.length ≤ 1048576) : Evp (fun k => laws_toIntS.f k l) (· = l) := by
  have key : ∀ d i, i + d = l.length → Evp (fun k => laws_toIntS.l0 k l (l.take i ++ List.replicate d 0) (i : Int)) (· = l) := by
    intro d
    induction d with
    | zero =>
      intro i hi
      refine Evp.step (fun k => by rw [laws_toIntS.l0]) ?_
      refine Evp.neg (by omega) ?_
      refine Evp.some' ?_
      simp [List.take_of_length_le (show l.length ≤ i by omega)]
    | succ d ih =>
      intro i hi
      refine Evp.step (fun k => by rw [laws_toIntS.l0]) ?_
      refine Evp.pos (by omega) (Evp.pos (by omega) (Evp.pos (by simp; omega) ?_))
      rw [wrap_succ (by omega), Int.toNat_natCast, rd_nat, getD_get (show i < l.length by omega)]
      have e : (l.take i ++ List.replicate (d + 1) 0).set i l[i] = l.take (i + 1) ++ List.replicate d 0 := by
        rw [List.set_append, if_neg (by simp; omega), List.length_take, Nat.min_eq_left (by omega), Nat.sub_self, List.replicate_succ, List.set_cons_zero, List.take_succ_eq_append_getElem (show i < l.length by omega), List.append_assoc]; rfl
      rw [e]
      exact ih (i + 1) (by omega)
  unfold laws_toIntS.f
  refine Evp.pos (by omega) (Evp.pos (by omega) ?_)
  rw [Int.toNat_natCast]
  have := key l.length 0 (by omega)
  rwa [List.take_zero, List.nil_append] at this
/-- the marks of a row -/
def marks (m : Int) (n : Nat) : List Int := (List.range n).map fun (i : Nat) => m + (i : Int)
theorem marks_len (m : Int) (n : Nat) : (marks m n).length = n := by simp [marks]
theorem marks_get (m : Int) {n i : Nat} (h : i < n) : (marks m n).getD i 0 = m + (i : Int) := by
  unfold marks; simp [List.getD_eq_getElem?_getD, h]
theorem llead_drop {l : List Int} {i : Nat} (h : ∀ j, j < i → l.getD j 0 = 0) (hi : i < l.length) (hne : l.getD i 0 ≠ 0) : llead l = (i : Int) := by
  rcases llead_cases l with ⟨_, hz⟩ | ⟨j, hj, e, hn, hb⟩
  · exact absurd (hz i) hne
  · rcases Nat.lt_trichotomy i j with c | c | c
    · exact absurd (hb i c) hne
    · rw [e, c]
    · exact absurd (h j c) hn
theorem llead_none {l : List Int} (h : ∀ j, j < l.length → l.getD j 0 = 0) : llead l = -1 := by
  rcases llead_cases l with ⟨e, _⟩ | ⟨j, hj, e, hn, hb⟩
  · exact e
  · exact absurd (h j hj) hn
theorem can_small {l : List Int} (h : can l) (i : Nat) : 0 ≤ l.getD i 0 ∧ l.getD i 0 < 31 := ok_iff.1 (can_get h i)
theorem zip_take {α : Type} (f : Int → Int → α) {a b : List Int} {i : Nat} (h1 : i < a.length) (h2 : i < b.length) : List.zipWith f (a.take (i + 1)) (b.take (i + 1)) = List.zipWith f (a.take i) (b.take i) ++ [f (a.getD i 0) (b.getD i 0)] := by
  rw [List.take_succ_eq_append_getElem h1, List.take_succ_eq_append_getElem h2, List.zipWith_append (by simp; omega), getD_get h1, getD_get h2]; rfl
theorem l2Scale_ev {a : List Int} (ha : can a) {c : Int} (hc : ok c = true) (hn : a.length ≤ 1000000000000) : Evp (fun k => spec_l2Scale.f k a c) (· = lscale a c) := by
  have key : ∀ d i, i + d = a.length → Evp (fun k => spec_l2Scale.l0 k a c (lscale (a.take i) c) (i : Int)) (· = lscale a c) := by
    intro d
    induction d with
    | zero =>
      intro i hi
      refine Evp.step (fun k => by rw [spec_l2Scale.l0]) ?_
      refine Evp.neg (by omega) ?_
      rw [List.take_of_length_le (by omega)]
      exact Evp.some' rfl
    | succ d ih =>
      intro i hi
      refine Evp.step (fun k => by rw [spec_l2Scale.l0]) ?_
      have hm := mul_small (ok_iff.2 (can_small ha i)) hc
      refine Evp.pos (by omega) (Evp.pos (by omega) (Evp.pos (by rw [lscale_len, List.length_take]; omega) ?_))
      rw [rd_nat, wrap_succ (by omega), wrap_small (by omega), tmod31 hm.1]
      have e : lscale (a.take (i + 1)) c = lscale (a.take i) c ++ [a.getD i 0 * c % 31] := by
        unfold lscale; rw [List.take_succ_eq_append_getElem (by omega), List.map_append, getD_get (by omega)]; rfl
      rw [← e]
      exact ih (i + 1) (by omega)
  have := key a.length 0 (by omega)
  unfold spec_l2Scale.f
  simpa [lscale] using this
theorem l2Sum_ev {a b : List Int} (ha : can a) (hb : can b) (hl : a.length = b.length) (hn : a.length ≤ 1000000000000) : Evp (fun k => spec_l2Sum.f k a b) (· = lsum a b) := by
  have key : ∀ d i, i + d = a.length → Evp (fun k => spec_l2Sum.l0 k a b (lsum (a.take i) (b.take i)) (i : Int)) (· = lsum a b) := by
    intro d
    induction d with
    | zero =>
      intro i hi
      refine Evp.step (fun k => by rw [spec_l2Sum.l0]) ?_
      refine Evp.neg (by omega) ?_
      rw [List.take_of_length_le (by omega), List.take_of_length_le (by omega)]
      exact Evp.some' rfl
    | succ d ih =>
      intro i hi
      refine Evp.step (fun k => by rw [spec_l2Sum.l0]) ?_
      have h1 := can_small ha i
      have h2 := can_small hb i
      refine Evp.pos (by omega) (Evp.pos (by omega) (Evp.pos (by omega) (Evp.pos (by rw [lsum_len (by simp; omega), List.length_take]; omega) ?_)))
      rw [rd_nat, rd_nat, wrap_succ (by omega), wrap_small (by omega), tmod31 (by omega)]
      have e : lsum (a.take (i + 1)) (b.take (i + 1)) = lsum (a.take i) (b.take i) ++ [(a.getD i 0 + b.getD i 0) % 31] := by
        unfold lsum; rw [zip_take _ (by omega) (by omega)]
      rw [← e]
      exact ih (i + 1) (by omega)
  have := key a.length 0 (by omega)
  unfold spec_l2Sum.f
  simpa [lsum] using this

/-! ### rows of four -/
theorem impl_vectorOf_ok {a b c d : Int} (h : vok [a, b, c, d] = true) : impl_vectorOf.f [a, b, c, d] = some (a, b, c, d, true) := by
  unfold impl_vectorOf.f; rw [if_pos h]; rfl
theorem impl_vectorOf_no {l : List Int} (h : vok l = false) : impl_vectorOf.f l = some (0, 0, 0, 0, false) := by
  unfold impl_vectorOf.f; rw [if_neg (by simp [h])]
end Go.Proofs.Ytmnfkohdibgjeaa.Sc
