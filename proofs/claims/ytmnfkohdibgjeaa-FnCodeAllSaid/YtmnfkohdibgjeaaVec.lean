import Derived.Test.YtmnfkohdibgjeaaPAx0
import Derived.Test.YtmnfkohdibgjeaaPAx10
import Derived.Test.YtmnfkohdibgjeaaPAx3
import Derived.Test.YtmnfkohdibgjeaaPAx4
import Derived.Test.YtmnfkohdibgjeaaPAx5
import Derived.Test.YtmnfkohdibgjeaaPAx6
import Derived.Test.YtmnfkohdibgjeaaPAx8
import Derived.Test.YtmnfkohdibgjeaaPAx9
import Derived.Test.YtmnfkohdibgjeaaDraw
import Derived.Test.YtmnfkohdibgjeaaVecLin
/- What the printed functions over rows of numbers come to. -/
set_option linter.unusedVariables false
set_option linter.unusedSimpArgs false
namespace Go.Proofs.Ytmnfkohdibgjeaa.Sc
open Go.RowKit Go.Proofs.Ytmnfkohdibgjeaa.PA Go.Proofs.YtmnfkohdibgjeaaW.PrintWords Go.Proofs.YtmnfkohdibgjeaaW.PrintLast Go.Proofs.YtmnfkohdibgjeaaW.PrintMore Go.Proofs.Ytmnfkohdibgjeaa.Lin

theorem rd_nat (l : List Int) (i : Nat) : rd l (i : Int) = l.getD i 0 := by unfold rd; rw [Int.toNat_natCast]
theorem getD_get {l : List Int} {i : Nat} (h : i < l.length) : l.getD i 0 = l[i] := by rw [List.getD_eq_getElem?_getD, List.getElem?_eq_getElem h]; rfl
theorem wrap_succ {i : Nat} (h : i ≤ 1000000000000000) : wrap64 ((i : Int) + 1) = ((i + 1 : Nat) : Int) := by rw [wrap_small (by omega)]; omega
theorem impl_elementsOk_eq (l : List Int) (n : Int) : impl_elementsOk.f l n = some (decide ((l.length : Int) = n) && l.all ok) := rfl
theorem vok_alt (l : List Int) : (decide ((l.length : Int) = 4) && l.all ok) = vok l := by
  unfold vok
  congr 1
  rw [Bool.eq_iff_iff, beq_iff_eq, decide_eq_true_iff]; omega

theorem spec_VecOk_ev {l : List Int} (hl : l.length ≤ 1000000000000) : Evp (fun k => spec_VecOk.f k l) (· = vok l) := by
  have key : ∀ d i, i + d = l.length → Evp (fun k => spec_VecOk.l0 k l (i : Int)) (· = ((l.drop i).all ok && (l.length == 4))) := by
    intro d
    induction d with
    | zero =>
      intro i hi
      refine Evp.step (fun k => by rw [spec_VecOk.l0]) ?_
      refine Evp.neg (by omega) ?_
      refine Evp.some' ?_
      rw [List.drop_eq_nil_of_le (by omega), Bool.eq_iff_iff, beq_iff_eq]; simp; omega
    | succ d ih =>
      intro i hi
      refine Evp.step (fun k => by rw [spec_VecOk.l0]) ?_
      refine Evp.pos (by omega) (Evp.pos (by omega) ?_)
      simp only [spec_FieldOk_eq, Option.bind_some, rd_nat, getD_get (show i < l.length by omega)]
      rw [List.drop_eq_getElem_cons (show i < l.length by omega), List.all_cons]
      refine Evp.ite (fun h => ?_) fun h => ?_
      · rw [wrap_succ (by omega), h]
        exact ih (i + 1) (by omega)
      · exact Evp.some' (by simp [h])
  have := key l.length 0 (by omega)
  unfold spec_VecOk.f
  refine this.mono fun r hr => ?_
  rw [hr, List.drop_zero, Bool.and_comm]; rfl
theorem eq_loop {F : Nat → List Int → List Int → Int → Option Bool}
    (hF : ∀ k a b i, F (k + 1) a b i = if i < (a.length : Int) then (if 0 ≤ i then (if i < (b.length : Int) then (if (rd a i) = (rd b i) then (F k a b (wrap64 (i + 1))) else (some false)) else (none)) else (none)) else (some true))
    {a b : List Int} (hl : a.length = b.length) (ha : a.length ≤ 1000000000000) : Evp (fun k => F k a b 0) (· = decide (a = b)) := by
  have key : ∀ d i, i + d = a.length → (∀ j, j < i → a.getD j 0 = b.getD j 0) → Evp (fun k => F k a b (i : Int)) (· = decide (a = b)) := by
    intro d
    induction d with
    | zero =>
      intro i hi hp
      refine Evp.step (fun k => hF k a b i) ?_
      refine Evp.neg (by omega) ?_
      refine Evp.some' ?_
      have : a = b := List.ext_getElem hl fun j h1 h2 => by have := hp j (by omega); rwa [getD_get h1, getD_get h2] at this
      simp [this]
    | succ d ih =>
      intro i hi hp
      refine Evp.step (fun k => hF k a b i) ?_
      refine Evp.pos (by omega) (Evp.pos (by omega) (Evp.pos (by omega) ?_))
      rw [rd_nat, rd_nat, wrap_succ (by omega)]
      refine Evp.ite (fun h => ih (i + 1) (by omega) fun j hj => ?_) fun h => Evp.some' ?_
      · rcases Nat.lt_or_ge j i with c | c
        · exact hp j c
        · have : j = i := by omega
          subst this; exact h
      · have : a ≠ b := fun e => h (by rw [e])
        simp [this]
  exact key a.length 0 (by omega) (fun j hj => absurd hj (Nat.not_lt_zero j))
theorem eqIntS_ev {a b : List Int} (ha : a.length ≤ 1000000000000) : Evp (fun k => laws_eqIntS.f k a b) (· = decide (a = b)) := by
  unfold laws_eqIntS.f
  refine Evp.ite (fun h => eq_loop (fun k a b i => by rw [laws_eqIntS.l0]) (by omega) ha) fun h => Evp.some' ?_
  have : a ≠ b := fun e => h (by rw [e])
  simp [this]
theorem lkInts_ev {a b : List Int} (ha : a.length ≤ 1000000000000) : Evp (fun k => laws_lkInts.f k a b) (· = decide (a = b)) := by
  unfold laws_lkInts.f
  refine Evp.ite (fun h => eq_loop (fun k a b i => by rw [laws_lkInts.l0]) (by omega) ha) fun h => Evp.some' ?_
  have : a ≠ b := fun e => h (by rw [e])
  simp [this]
theorem toIntS_ev {l : List Int} (hl : l.length ≤ 1048576) : Evp (fun k => laws_toIntS.f k l) (· = l) := by
  have key : ∀ d i, i + d = l.length → Evp (fun k => laws_toIntS.l0 k l (l.take i ++ List.replicate d 0) (i : Int)) (· = l) := by
    intro d
    induction d with
    | zero =>
      intro i hi
      refine Evp.step (fun k => by rw [laws_toIntS.l0]) ?_
      refine Evp.neg (by omega) ?_
      refine Evp.some' ?_
      simp [List.take_of_length_le (show l.length ≤ i by omega)]
    | succ d ih =>
      intro i hi
      refine Evp.step (fun k => by rw [laws_toIntS.l0]) ?_
      refine Evp.pos (by omega) (Evp.pos (by omega) (Evp.pos (by simp; omega) ?_))
      rw [wrap_succ (by omega), Int.toNat_natCast, rd_nat, getD_get (show i < l.length by omega)]
      have e : (l.take i ++ List.replicate (d + 1) 0).set i l[i] = l.take (i + 1) ++ List.replicate d 0 := by
        rw [List.set_append, if_neg (by simp; omega), List.length_take, Nat.min_eq_left (by omega), Nat.sub_self, List.replicate_succ, List.set_cons_zero, List.take_succ_eq_append_getElem (show i < l.length by omega), List.append_assoc]; rfl
      rw [e]
      exact ih (i + 1) (by omega)
  unfold laws_toIntS.f
  refine Evp.pos (by omega) (Evp.pos (by omega) ?_)
  rw [Int.toNat_natCast]
  have := key l.length 0 (by omega)
  rwa [List.take_zero, List.nil_append] at this
/-- the marks of a row -/
def marks (m : Int) (n : Nat) : List Int := (List.range n).map fun (i : Nat) => m + (i : Int)
theorem marks_len (m : Int) (n : Nat) : (marks m n).length = n := by simp [marks]
theorem marks_get (m : Int) {n i : Nat} (h : i < n) : (marks m n).getD i 0 = m + (i : Int) := by
  unfold marks; simp [List.getD_eq_getElem?_getD, h]
theorem markIntS_ev {l : List Int} {m : Int} (hl : l.length ≤ 1048576) (hm : 0 ≤ m ∧ m ≤ 1000000000) : Evp (fun k => laws_markIntS.f k l m) (· = (m + l.length, marks m l.length)) := by
  have key : ∀ d i, i + d = l.length → Evp (fun k => laws_markIntS.l0 k (marks m i ++ l.drop i) (m + (i : Int)) (i : Int)) (· = (m + l.length, marks m l.length)) := by
    intro d
    induction d with
    | zero =>
      intro i hi
      refine Evp.step (fun k => by rw [laws_markIntS.l0]) ?_
      refine Evp.neg (by simp [marks_len]; omega) ?_
      refine Evp.some' ?_
      rw [List.drop_eq_nil_of_le (by omega), List.append_nil, show i = l.length by omega]
    | succ d ih =>
      intro i hi
      refine Evp.step (fun k => by rw [laws_markIntS.l0]) ?_
      refine Evp.pos (by simp [marks_len]; omega) (Evp.pos (by omega) ?_)
      rw [wrap_succ (by omega), wrap_small (x := m + (i : Int) + 1) (by omega), Int.toNat_natCast]
      have e : (marks m i ++ l.drop i).set i (m + (i : Int)) = marks m (i + 1) ++ l.drop (i + 1) := by
        rw [List.set_append, if_neg (by simp [marks_len]), marks_len, Nat.sub_self, List.drop_eq_getElem_cons (show i < l.length by omega), List.set_cons_zero]
        unfold marks; rw [List.range_succ]; simp
      rw [e, show m + (i : Int) + 1 = m + ((i + 1 : Nat) : Int) by omega]
      exact ih (i + 1) (by omega)
  have := key l.length 0 (by omega)
  unfold laws_markIntS.f
  simpa [marks] using this
theorem heldIntS_ev {n : Nat} {m : Int} (hn : n ≤ 1048576) (hm : 0 ≤ m ∧ m ≤ 1000000000) : Evp (fun k => laws_heldIntS.f k (marks m n) m) (· = m + n) := by
  have key : ∀ d i, i + d = n → Evp (fun k => laws_heldIntS.l0 k (marks m n) (m + (i : Int)) (i : Int)) (· = m + n) := by
    intro d
    induction d with
    | zero =>
      intro i hi
      refine Evp.step (fun k => by rw [laws_heldIntS.l0]) ?_
      rw [marks_len]
      exact Evp.neg (by omega) (Evp.some' (by omega))
    | succ d ih =>
      intro i hi
      refine Evp.step (fun k => by rw [laws_heldIntS.l0]) ?_
      rw [marks_len, rd_nat, marks_get m (by omega), wrap_succ (by omega), wrap_small (x := m + (i : Int) + 1) (by omega)]
      refine Evp.pos (by omega) (Evp.pos (by omega) (Evp.pos rfl ?_))
      rw [show m + (i : Int) + 1 = m + ((i + 1 : Nat) : Int) by omega]
      exact ih (i + 1) (by omega)
  have := key n 0 (by omega)
  unfold laws_heldIntS.f
  simpa using this
theorem llead_drop {l : List Int} {i : Nat} (h : ∀ j, j < i → l.getD j 0 = 0) (hi : i < l.length) (hne : l.getD i 0 ≠ 0) : llead l = (i : Int) := by
  rcases llead_cases l with ⟨_, hz⟩ | ⟨j, hj, e, hn, hb⟩
  · exact absurd (hz i) hne
  · rcases Nat.lt_trichotomy i j with c | c | c
    · exact absurd (hb i c) hne
    · rw [e, c]
    · exact absurd (h j c) hn
theorem llead_none {l : List Int} (h : ∀ j, j < l.length → l.getD j 0 = 0) : llead l = -1 := by
  rcases llead_cases l with ⟨e, _⟩ | ⟨j, hj, e, hn, hb⟩
  · exact e
  · exact absurd (h j hj) hn
theorem can_small {l : List Int} (h : can l) (i : Nat) : 0 ≤ l.getD i 0 ∧ l.getD i 0 < 31 := ok_iff.1 (can_get h i)
theorem zip_take {α : Type} (f : Int → Int → α) {a b : List Int} {i : Nat} (h1 : i < a.length) (h2 : i < b.length) : List.zipWith f (a.take (i + 1)) (b.take (i + 1)) = List.zipWith f (a.take i) (b.take i) ++ [f (a.getD i 0) (b.getD i 0)] := by
  rw [List.take_succ_eq_append_getElem h1, List.take_succ_eq_append_getElem h2, List.zipWith_append (by simp; omega), getD_get h1, getD_get h2]; rfl
theorem l2Dot_ev {a b : List Int} (ha : can a) (hb : can b) (hl : a.length = b.length) (hn : a.length ≤ 1000000000000) : Evp (fun k => spec_l2Dot.f k a b) (· = ldot a b) := by
  have key : ∀ d i, i + d = a.length → Evp (fun k => spec_l2Dot.l0 k a b (ldot (a.take i) (b.take i)) (i : Int)) (· = ldot a b) := by
    intro d
    induction d with
    | zero =>
      intro i hi
      refine Evp.step (fun k => by rw [spec_l2Dot.l0]) ?_
      refine Evp.neg (by omega) ?_
      rw [List.take_of_length_le (by omega), List.take_of_length_le (by omega)]
      exact Evp.some' rfl
    | succ d ih =>
      intro i hi
      refine Evp.step (fun k => by rw [spec_l2Dot.l0]) ?_
      refine Evp.pos (by omega) (Evp.pos (by omega) (Evp.pos (by omega) ?_))
      rw [rd_nat, rd_nat, wrap_succ (by omega)]
      have hm := mul_small (ok_iff.2 (can_small ha i)) (ok_iff.2 (can_small hb i))
      have hr := ldot_range (a.take i) (b.take i)
      rw [wrap_small (x := a.getD i 0 * b.getD i 0) (by omega), wrap_small (x := ldot (a.take i) (b.take i) + a.getD i 0 * b.getD i 0) (by omega), tmod31 (by omega)]
      have e : ldot (a.take (i + 1)) (b.take (i + 1)) = (ldot (a.take i) (b.take i) + a.getD i 0 * b.getD i 0) % 31 := by
        unfold ldot; rw [zip_take _ (by omega) (by omega), List.foldl_append]; rfl
      rw [← e]
      exact ih (i + 1) (by omega)
  have := key a.length 0 (by omega)
  unfold spec_l2Dot.f
  simpa [ldot] using this
theorem l2Scale_ev {a : List Int} (ha : can a) {c : Int} (hc : ok c = true) (hn : a.length ≤ 1000000000000) : Evp (fun k => spec_l2Scale.f k a c) (· = lscale a c) := by
  have key : ∀ d i, i + d = a.length → Evp (fun k => spec_l2Scale.l0 k a c (lscale (a.take i) c) (i : Int)) (· = lscale a c) := by
    intro d
    induction d with
    | zero =>
      intro i hi
      refine Evp.step (fun k => by rw [spec_l2Scale.l0]) ?_
      refine Evp.neg (by omega) ?_
      rw [List.take_of_length_le (by omega)]
      exact Evp.some' rfl
    | succ d ih =>
      intro i hi
      refine Evp.step (fun k => by rw [spec_l2Scale.l0]) ?_
      have hm := mul_small (ok_iff.2 (can_small ha i)) hc
      refine Evp.pos (by omega) (Evp.pos (by omega) (Evp.pos (by rw [lscale_len, List.length_take]; omega) ?_))
      rw [rd_nat, wrap_succ (by omega), wrap_small (by omega), tmod31 hm.1]
      have e : lscale (a.take (i + 1)) c = lscale (a.take i) c ++ [a.getD i 0 * c % 31] := by
        unfold lscale; rw [List.take_succ_eq_append_getElem (by omega), List.map_append, getD_get (by omega)]; rfl
      rw [← e]
      exact ih (i + 1) (by omega)
  have := key a.length 0 (by omega)
  unfold spec_l2Scale.f
  simpa [lscale] using this
/-! ### rows of four -/
theorem impl_vectorOf_ok {a b c d : Int} (h : vok [a, b, c, d] = true) : impl_vectorOf.f [a, b, c, d] = some (a, b, c, d, true) := by
  unfold impl_vectorOf.f; rw [if_pos h]; rfl
theorem impl_vectorOf_no {l : List Int} (h : vok l = false) : impl_vectorOf.f l = some (0, 0, 0, 0, false) := by
  unfold impl_vectorOf.f; rw [if_neg (by simp [h])]
theorem impl_VecOk_eq (l : List Int) : impl_VecOk.f l = some (vok l) := by
  unfold impl_VecOk.f; rw [impl_elementsOk_eq, vok_alt]; rfl
theorem impl_VecLead_eq (l : List Int) : impl_VecLead.f l = some (vlead l) := by
  unfold impl_VecLead.f vlead
  cases h : vok l
  · rw [impl_vectorOf_no h]; rfl
  · obtain ⟨a, b, c, d, rfl, _⟩ := vok_four h
    rw [impl_vectorOf_ok h]; rfl
theorem impl_VecDot_eq (a b : List Int) : impl_VecDot.f a b = some (vdot a b) := by
  unfold impl_VecDot.f vdot
  cases ha : vok a
  · rw [impl_vectorOf_no ha]
    cases hb : vok b
    · rw [impl_vectorOf_no hb]; rfl
    · obtain ⟨b0, b1, b2, b3, rfl, _⟩ := vok_four hb
      rw [impl_vectorOf_ok hb]; rfl
  · obtain ⟨a0, a1, a2, a3, rfl, h0, h1, h2, h3⟩ := vok_four ha
    rw [impl_vectorOf_ok ha]
    cases hb : vok b
    · rw [impl_vectorOf_no hb]; rfl
    · obtain ⟨b0, b1, b2, b3, rfl, k0, k1, k2, k3⟩ := vok_four hb
      rw [impl_vectorOf_ok hb]
      simp only [Option.bind_some, if_true, Bool.and_self, ldot_four]
      unfold impl_vector_dot.f
      rw [if_pos ⟨⟨ok_iff.1 h0, ok_iff.1 h1, ok_iff.1 h2, ok_iff.1 h3⟩, ok_iff.1 k0, ok_iff.1 k1, ok_iff.1 k2, ok_iff.1 k3⟩]
      simp only [Option.bind_some]
      congr 1; omega
theorem spec_VecDot_ev {a b : List Int} (hn : a.length ≤ 1000000000000) (hm : b.length ≤ 1000000000000) : Evp (fun k => spec_VecDot.f k a b) (· = vdot a b) := by
  unfold spec_VecDot.f vdot
  refine Evp.bind (spec_VecOk_ev hn) fun r hr => ?_
  subst hr
  cases ha : vok a
  · exact Evp.some' rfl
  · simp only [if_true]
    refine Evp.bind (spec_VecOk_ev hm) fun r hr => ?_
    subst hr
    cases hb : vok b
    · exact Evp.some' rfl
    · simp only [if_true]
      obtain ⟨h1, h2⟩ := vok_iff.1 ha; obtain ⟨k1, k2⟩ := vok_iff.1 hb
      refine Evp.bind (l2Dot_ev h2 k2 (by omega) hn) fun r hr => ?_
      subst hr; exact Evp.some' rfl
theorem impl_VecScale_ev (v : List Int) (c : Int) : Evp (fun k => impl_VecScale.f k v c) (· = vscale v c) := by
  unfold impl_VecScale.f vscale
  cases hv : vok v
  · simp only [impl_vectorOf_no hv, Option.bind_some, Bool.false_eq_true, if_false, Bool.false_and]
    refine Evp.step (fun k => by rw [impl_VecScale.j0]) (Evp.pos rfl (Evp.some' rfl))
  · obtain ⟨a0, a1, a2, a3, rfl, h0, h1, h2, h3⟩ := vok_four hv
    simp only [impl_vectorOf_ok hv, Option.bind_some, if_true, impl_FieldOk_eq]
    refine Evp.step (fun k => by rw [impl_VecScale.j0]) ?_
    cases hc : ok c
    · exact Evp.pos rfl (Evp.some' rfl)
    · refine Evp.neg (by simp) ?_
      have e : impl_vector_times.f a0 a1 a2 a3 c = some (a0 * c % 31, a1 * c % 31, a2 * c % 31, a3 * c % 31) := by
        unfold impl_vector_times.f; rw [if_pos ⟨⟨ok_iff.1 h0, ok_iff.1 h1, ok_iff.1 h2, ok_iff.1 h3⟩, ok_iff.1 hc⟩]
      rw [e]; exact Evp.some' rfl
theorem spec_VecScale_ev {v : List Int} {c : Int} (hn : v.length ≤ 1000000000000) : Evp (fun k => spec_VecScale.f k v c) (· = vscale v c) := by
  unfold spec_VecScale.f vscale
  refine Evp.bind (spec_VecOk_ev hn) fun r hr => ?_
  subst hr
  cases hv : vok v
  · exact Evp.some' rfl
  · simp only [if_true, spec_FieldOk_eq, Option.bind_some]
    cases hc : ok c
    · exact Evp.some' rfl
    · simp only [if_true]
      refine Evp.bind (l2Scale_ev (vok_iff.1 hv).2 hc hn) fun r hr => ?_
      subst hr; exact Evp.some' rfl
theorem impl_VecSum_ev (a b : List Int) : Evp (fun k => impl_VecSum.f k a b) (· = vsum a b) := by
  unfold impl_VecSum.f vsum
  cases ha : vok a
  · simp only [impl_vectorOf_no ha, Option.bind_some, Bool.false_eq_true, if_false, Bool.false_and]
    cases hb : vok b
    · simp only [impl_vectorOf_no hb, Option.bind_some]
      exact Evp.step (fun k => by rw [impl_VecSum.j0]) (Evp.pos rfl (Evp.some' rfl))
    · obtain ⟨b0, b1, b2, b3, rfl, _⟩ := vok_four hb
      simp only [impl_vectorOf_ok hb, Option.bind_some]
      exact Evp.step (fun k => by rw [impl_VecSum.j0]) (Evp.pos rfl (Evp.some' rfl))
  · obtain ⟨a0, a1, a2, a3, rfl, h0, h1, h2, h3⟩ := vok_four ha
    simp only [impl_vectorOf_ok ha, Option.bind_some, if_true]
    cases hb : vok b
    · simp only [impl_vectorOf_no hb, Option.bind_some]
      refine Evp.step (fun k => by rw [impl_VecSum.j0]) ?_
      exact Evp.pos (by simp) (Evp.some' (by simp))
    · obtain ⟨b0, b1, b2, b3, rfl, k0, k1, k2, k3⟩ := vok_four hb
      simp only [impl_vectorOf_ok hb, Option.bind_some]
      refine Evp.step (fun k => by rw [impl_VecSum.j0]) (Evp.neg (by simp) ?_)
      have e : impl_vector_plus.f a0 a1 a2 a3 b0 b1 b2 b3 = some ((a0 + b0) % 31, (a1 + b1) % 31, (a2 + b2) % 31, (a3 + b3) % 31) := by
        unfold impl_vector_plus.f; rw [if_pos ⟨⟨ok_iff.1 h0, ok_iff.1 h1, ok_iff.1 h2, ok_iff.1 h3⟩, ok_iff.1 k0, ok_iff.1 k1, ok_iff.1 k2, ok_iff.1 k3⟩]
      rw [e]; exact Evp.some' rfl
theorem impl_VecUnit_eq (a : Int) : impl_VecUnit.f a = some (vunit a) := by
  unfold impl_VecUnit.f vunit impl_within.f
  by_cases h0 : a ≥ 0
  · rw [if_pos h0]
    by_cases h3 : a ≤ 3
    · simp only [Option.bind_some, decide_eq_true h3, if_true, decide_eq_true (show 0 ≤ a from h0), Bool.and_self]
      have hc : a = 0 ∨ a = 1 ∨ a = 2 ∨ a = 3 := by omega
      rcases hc with rfl | rfl | rfl | rfl <;> rfl
    · simp [h0, h3]
  · rw [if_neg h0]; simp; omega
theorem lkVec_eq {n : Int} (h : 0 ≤ n ∧ n ≤ 1048576) : laws_lkVec.f n = some (lkvec n) := by
  have hm : 0 ≤ n * n ∧ n * n ≤ 1099511627776 := by
    constructor
    · exact Int.mul_nonneg h.1 h.1
    · have h1 : n * n ≤ n * 1048576 := Int.mul_le_mul_of_nonneg_left h.2 h.1
      omega
  unfold laws_lkVec.f lkvec
  rw [wrap_small (x := n * 3) (by omega), wrap_small (x := n * n) (by omega), wrap_small (x := n * n + 1) (by omega), wrap_small (x := n + 7) (by omega)]
  rw [lkNum_eq h.1, lkNum_eq (n := n * 3) (by omega), lkNum_eq (n := n * n + 1) (by omega), lkNum_eq (n := n + 7) (by omega)]
  rfl
end Go.Proofs.Ytmnfkohdibgjeaa.Sc
