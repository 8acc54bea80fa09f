import Derived.Test.YtbhmgbeebhmfkaaPAx0
import Derived.Test.YtbhmgbeebhmfkaaPAx10
import Derived.Test.YtbhmgbeebhmfkaaPAx13
import Derived.Test.YtbhmgbeebhmfkaaPAx14
import Derived.Test.YtbhmgbeebhmfkaaPAx15
import Derived.Test.YtbhmgbeebhmfkaaPAx16
import Derived.Test.YtbhmgbeebhmfkaaPAx2
import Derived.Test.YtbhmgbeebhmfkaaPAx22
import Derived.Test.YtbhmgbeebhmfkaaPAx23
import Derived.Test.YtbhmgbeebhmfkaaPAx24
import Derived.Test.YtbhmgbeebhmfkaaPAx25
import Derived.Test.YtbhmgbeebhmfkaaPAx26
import Derived.Test.YtbhmgbeebhmfkaaPAx27
import Derived.Test.YtbhmgbeebhmfkaaPAx28
import Derived.Test.YtbhmgbeebhmfkaaPAx3
import Derived.Test.YtbhmgbeebhmfkaaPAx37
import Derived.Test.YtbhmgbeebhmfkaaPAx6
import Derived.Test.YtbhmgbeebhmfkaaPAx7
import Derived.Test.YtbhmgbeebhmfkaaPAx8d
import Derived.Test.YtbhmgbeebhmfkaaPAx9
import Derived.Test.YtbhmgbeebhmfkaaMa
import Derived.Laws.BitsAllLaws
import Derived.Laws.BitsLemmas
import Derived.Test.YtbhmgbeebhmfkaaXor
import Derived.OpenShut
/- Of the printed functions over single rows: what a walk by hand wants of them. -/
set_option linter.unusedVariables false
set_option linter.unusedSimpArgs false
namespace Go.Proofs.Ytbhmgbeebhmfkaa.Pure
open Go.RowKit Go.Proofs.Ytbhmgbeebhmfkaa.PA Go.Proofs.YtbhmgbeebhmfkaaW.PrintWords Go.Proofs.YtbhmgbeebhmfkaaW.PrintLast Go.Proofs.YtbhmgbeebhmfkaaW.PrintMore Go.Proofs.Ytbhmgbeebhmfkaa.Lin

def Evp {α : Type} (g : Nat → Option α) (Q : α → Prop) : Prop := ∃ r, Q r ∧ ∃ K, ∀ k, K ≤ k → g k = some r
theorem Evp.some' {α : Type} {r : α} {Q : α → Prop} (h : Q r) : Evp (fun _ => some r) Q := ⟨r, h, 0, fun _ _ => rfl⟩
theorem Evp.bind {α β : Type} {g : Nat → Option α} {f : Nat → α → Option β} {Q : α → Prop} {T : β → Prop} (h : Evp g Q) (k : ∀ r, Q r → Evp (fun n => f n r) T) : Evp (fun n => (g n).bind (f n)) T := by
  obtain ⟨r, hq, K, h⟩ := h
  obtain ⟨s, ht, K', k⟩ := k r hq
  refine ⟨s, ht, max K K', fun n hn => ?_⟩
  have h1 := h n (by omega)
  have h2 := k n (by omega)
  simp only [h1, Option.bind_some]
  exact h2
theorem Evp.step {α : Type} {g f : Nat → Option α} {Q : α → Prop} (h : ∀ k, g (k + 1) = f k) (k : Evp f Q) : Evp g Q := by
  obtain ⟨r, hq, K, k⟩ := k
  refine ⟨r, hq, K + 1, fun n hn => ?_⟩
  obtain ⟨m, rfl⟩ : ∃ m, n = m + 1 := ⟨n - 1, by omega⟩
  rw [h]
  exact k m (by omega)
theorem Evp.congr {α : Type} {g f : Nat → Option α} {Q : α → Prop} (h : ∀ k, g k = f k) (k : Evp f Q) : Evp g Q := by
  obtain ⟨r, hq, K, k⟩ := k
  exact ⟨r, hq, K, fun n hn => (h n).trans (k n hn)⟩
theorem Evp.mono {α : Type} {g : Nat → Option α} {Q T : α → Prop} (h : Evp g Q) (k : ∀ r, Q r → T r) : Evp g T := by
  obtain ⟨r, hq, K, h⟩ := h
  exact ⟨r, k r hq, K, h⟩
theorem Evp.rounds {α : Type} {g : Nat → Option α} {r : α} (h : Evp g (· = r)) : ∃ k, g k = some r := by
  obtain ⟨s, rfl, K, h⟩ := h
  exact ⟨K, h K (Nat.le_refl _)⟩
theorem Evp.ite {α : Type} {c : Prop} [Decidable c] {g f : Nat → Option α} {Q : α → Prop} (h : c → Evp g Q) (k : ¬ c → Evp f Q) : Evp (fun n => if c then g n else f n) Q := by
  by_cases hc : c
  · simp only [if_pos hc]; exact h hc
  · simp only [if_neg hc]; exact k hc
theorem Evp.pos {α : Type} {c : Prop} [Decidable c] {g f : Nat → Option α} {Q : α → Prop} (hc : c) (h : Evp g Q) : Evp (fun n => if c then g n else f n) Q := by
  simp only [if_pos hc]; exact h
theorem Evp.neg {α : Type} {c : Prop} [Decidable c] {g f : Nat → Option α} {Q : α → Prop} (hc : ¬ c) (h : Evp f Q) : Evp (fun n => if c then g n else f n) Q := by
  simp only [if_neg hc]; exact h
theorem wrap_small {x : Int} (h : -9223372036854775808 ≤ x ∧ x ≤ 9223372036854775807) : wrap64 x = x := by unfold wrap64; omega
theorem tmod31 {x : Int} (h : 0 ≤ x) : Int.tmod x 31 = x % 31 := Int.tmod_eq_emod_of_nonneg h
theorem tmod_pos {x n : Int} (h : 0 ≤ x) : Int.tmod x n = x % n := Int.tmod_eq_emod_of_nonneg h
theorem tmod31_bounds (x : Int) : -30 ≤ Int.tmod x 31 ∧ Int.tmod x 31 ≤ 30 ∧ Int.tmod x 31 % 31 = x % 31 := by
  rcases Int.le_total 0 x with h | h
  · rw [tmod31 h]; omega
  · have e : Int.tmod x 31 = -(Int.tmod (-x) 31) := by rw [Int.neg_tmod, Int.neg_neg]
    rw [e, tmod31 (by omega)]; omega

theorem spec_FieldOk_eq (a : Int) : spec_FieldOk.f a = some (ok a) := by
  unfold spec_FieldOk.f spec_l6In.f ok
  by_cases h : a ≥ 0
  · rw [if_pos h]; simp [show (a ≤ 30) = (a < 31) by rw [eq_iff_iff]; omega, h]
  · rw [if_neg h]; simp [h]
theorem impl_FieldOk_eq (a : Int) : impl_FieldOk.f a = some (ok a) := by
  unfold impl_FieldOk.f impl_within.f ok
  by_cases h : a ≥ 0
  · rw [if_pos h]; simp [show (a ≤ 30) = (a < 31) by rw [eq_iff_iff]; omega, h]
  · rw [if_neg h]; simp [h]
theorem elementOf_eq {x : Int} (h : -1000000000 ≤ x ∧ x ≤ 1000000000) : impl_elementOf.f x = some (x % 31) := by
  unfold impl_elementOf.f
  have := tmod31_bounds x
  rw [wrap_small (by omega), tmod31 (by omega)]
  congr 1; omega
theorem mul_small {a b : Int} (ha : ok a = true) (hb : ok b = true) : 0 ≤ a * b ∧ a * b ≤ 900 := by
  rw [ok_iff] at ha hb
  constructor
  · exact Int.mul_nonneg ha.1 hb.1
  · have h1 : a * b ≤ a * 30 := Int.mul_le_mul_of_nonneg_left (by omega) ha.1
    omega
theorem impl_minus_eq {a b : Int} (ha : ok a = true) (hb : ok b = true) : impl_element_minus.f a b = some ((a - b) % 31) := by
  unfold impl_element_minus.f
  rw [ok_iff] at ha hb
  rw [wrap_small (by omega), elementOf_eq (by omega)]; rfl
theorem impl_times_eq {a b : Int} (ha : ok a = true) (hb : ok b = true) : impl_element_times.f a b = some (a * b % 31) := by
  unfold impl_element_times.f
  have := mul_small ha hb
  rw [wrap_small (by omega), elementOf_eq (by omega)]; rfl
theorem inverse_all : ∀ a : Fin 31, a ≠ 0 → impl_element_inverse.f 12 (a.val : Int) = some (inv (a.val : Int)) := by decide +kernel
theorem fin_of {a : Int} (h : ok a = true) : ∃ x : Fin 31, (x.val : Int) = a := by
  rw [ok_iff] at h
  exact ⟨⟨a.toNat, by omega⟩, by simp only; omega⟩
theorem inverse_at {a : Int} (h : ok a = true) (h0 : a ≠ 0) : impl_element_inverse.f 12 a = some (inv a) := by
  obtain ⟨x, rfl⟩ := fin_of h
  exact inverse_all x (fun e => h0 (by rw [e]; rfl))
theorem ev_of {α : Type} {g : Nat → Option α} {r : α} (hg : ∀ k, LeO (g k) (g (k + 1))) {k : Nat} (h : g k = some r) : Evp g (· = r) := ⟨r, rfl, k, fun n hn => at_rounds hg hn h⟩
theorem impl_inverse_ev {a : Int} (h : ok a = true) (h0 : a ≠ 0) : Evp (fun k => impl_element_inverse.f k a) (· = inv a) := ev_of (impl_element_inverse.mono a) (inverse_at h h0)
theorem ofInt_i64 (a : Nat) (ha : a < 9223372036854775808) : (BitVec.ofInt 64 (a : Int)).toNat = a := by
  rw [BitVec.ofInt_natCast, BitVec.toNat_ofNat]; exact Nat.mod_eq_of_lt (by omega)
theorem xor_nonneg {a b : Int} (ha : 0 ≤ a ∧ a < 1000000000000) (hb : 0 ≤ b ∧ b < 1000000000000) : 0 ≤ Go.bits .xor .i64 a b := by
  obtain ⟨x, rfl⟩ := Int.eq_ofNat_of_zero_le ha.1
  obtain ⟨y, rfl⟩ := Int.eq_ofNat_of_zero_le hb.1
  have hx : x ^^^ y < 2 ^ 63 := Nat.xor_lt_two_pow (by omega) (by omega)
  have e : Go.bits .xor .i64 (x : Int) (y : Int) = ((x ^^^ y : Nat) : Int) := by
    show IntKind.i64.wrap ((BitVec.ofInt 64 (x : Int) ^^^ BitVec.ofInt 64 (y : Int)).toNat : Int) = _
    rw [BitVec.toNat_xor, ofInt_i64 x (by omega), ofInt_i64 y (by omega), IntKind.wrap_i64]
    omega
  rw [e]; omega
theorem rd_nat (l : List Int) (i : Nat) : rd l (i : Int) = l.getD i 0 := by unfold rd; rw [Int.toNat_natCast]
theorem getD_get {l : List Int} {i : Nat} (h : i < l.length) : l.getD i 0 = l[i] := by rw [List.getD_eq_getElem?_getD, List.getElem?_eq_getElem h]; rfl
theorem wrap_succ {i : Nat} (h : i ≤ 1000000000000000) : wrap64 ((i : Int) + 1) = ((i + 1 : Nat) : Int) := by rw [wrap_small (by omega)]; omega
theorem spec_VecOk_ev {l : List Int} (hl : l.length ≤ 1000000000000) : Evp (fun k => spec_VecOk.f k l) (· = vok l) := by
  have key : ∀ d i, i + d = l.length → Evp (fun k => spec_VecOk.l0 k l (i : Int)) (· = ((l.drop i).all ok && (l.length == 4))) := by
    intro d
    induction d with
    | zero =>
      intro i hi
      refine Evp.step (fun k => by rw [spec_VecOk.l0]) ?_
      refine Evp.neg (by omega) ?_
      refine Evp.some' ?_
      rw [List.drop_eq_nil_of_le (by omega), Bool.eq_iff_iff, beq_iff_eq]; simp; omega
    | succ d ih =>
      intro i hi
      refine Evp.step (fun k => by rw [spec_VecOk.l0]) ?_
      refine Evp.pos (by omega) (Evp.pos (by omega) ?_)
      simp only [spec_FieldOk_eq, Option.bind_some, rd_nat, getD_get (show i < l.length by omega)]
      rw [List.drop_eq_getElem_cons (show i < l.length by omega), List.all_cons]
      refine Evp.ite (fun h => ?_) fun h => ?_
      · rw [wrap_succ (by omega), h]
        exact ih (i + 1) (by omega)
      · exact Evp.some' (by simp [h])
  have := key l.length 0 (by omega)
  unfold spec_VecOk.f
  refine this.mono fun r hr => ?_
  rw [hr, List.drop_zero, Bool.and_comm]; rfl
theorem can_small {l : List Int} (h : can l) (i : Nat) : 0 ≤ l.getD i 0 ∧ l.getD i 0 < 31 := ok_iff.1 (can_get h i)
theorem zip_take {α : Type} (f : Int → Int → α) {a b : List Int} {i : Nat} (h1 : i < a.length) (h2 : i < b.length) : List.zipWith f (a.take (i + 1)) (b.take (i + 1)) = List.zipWith f (a.take i) (b.take i) ++ [f (a.getD i 0) (b.getD i 0)] := by
  rw [List.take_succ_eq_append_getElem h1, List.take_succ_eq_append_getElem h2, List.zipWith_append (by simp; omega), getD_get h1, getD_get h2]; rfl
theorem l2Scale_ev {a : List Int} (ha : can a) {c : Int} (hc : ok c = true) (hn : a.length ≤ 1000000000000) : Evp (fun k => spec_l2Scale.f k a c) (· = lscale a c) := by
  have key : ∀ d i, i + d = a.length → Evp (fun k => spec_l2Scale.l0 k a c (lscale (a.take i) c) (i : Int)) (· = lscale a c) := by
    intro d
    induction d with
    | zero =>
      intro i hi
      refine Evp.step (fun k => by rw [spec_l2Scale.l0]) ?_
      refine Evp.neg (by omega) ?_
      rw [List.take_of_length_le (by omega)]
      exact Evp.some' rfl
    | succ d ih =>
      intro i hi
      refine Evp.step (fun k => by rw [spec_l2Scale.l0]) ?_
      have hm := mul_small (ok_iff.2 (can_small ha i)) hc
      refine Evp.pos (by omega) (Evp.pos (by omega) (Evp.pos (by rw [lscale_len, List.length_take]; omega) ?_))
      rw [rd_nat, wrap_succ (by omega), wrap_small (by omega), tmod31 hm.1]
      have e : lscale (a.take (i + 1)) c = lscale (a.take i) c ++ [a.getD i 0 * c % 31] := by
        unfold lscale; rw [List.take_succ_eq_append_getElem (by omega), List.map_append, getD_get (by omega)]; rfl
      rw [← e]
      exact ih (i + 1) (by omega)
  have := key a.length 0 (by omega)
  unfold spec_l2Scale.f
  simpa [lscale] using this
theorem l2Sum_ev {a b : List Int} (ha : can a) (hb : can b) (hl : a.length = b.length) (hn : a.length ≤ 1000000000000) : Evp (fun k => spec_l2Sum.f k a b) (· = lsum a b) := by
  have key : ∀ d i, i + d = a.length → Evp (fun k => spec_l2Sum.l0 k a b (lsum (a.take i) (b.take i)) (i : Int)) (· = lsum a b) := by
    intro d
    induction d with
    | zero =>
      intro i hi
      refine Evp.step (fun k => by rw [spec_l2Sum.l0]) ?_
      refine Evp.neg (by omega) ?_
      rw [List.take_of_length_le (by omega), List.take_of_length_le (by omega)]
      exact Evp.some' rfl
    | succ d ih =>
      intro i hi
      refine Evp.step (fun k => by rw [spec_l2Sum.l0]) ?_
      have h1 := can_small ha i
      have h2 := can_small hb i
      refine Evp.pos (by omega) (Evp.pos (by omega) (Evp.pos (by omega) (Evp.pos (by rw [lsum_len (by simp; omega), List.length_take]; omega) ?_)))
      rw [rd_nat, rd_nat, wrap_succ (by omega), wrap_small (by omega), tmod31 (by omega)]
      have e : lsum (a.take (i + 1)) (b.take (i + 1)) = lsum (a.take i) (b.take i) ++ [(a.getD i 0 + b.getD i 0) % 31] := by
        unfold lsum; rw [zip_take _ (by omega) (by omega)]
      rw [← e]
      exact ih (i + 1) (by omega)
  have := key a.length 0 (by omega)
  unfold spec_l2Sum.f
  simpa [lsum] using this

theorem impl_vectorOf_ok {a b c d : Int} (h : vok [a, b, c, d] = true) : impl_vectorOf.f [a, b, c, d] = some (a, b, c, d, true) := by
  unfold impl_vectorOf.f; rw [if_pos h]; rfl
theorem impl_vectorOf_no {l : List Int} (h : vok l = false) : impl_vectorOf.f l = some (0, 0, 0, 0, false) := by
  unfold impl_vectorOf.f; rw [if_neg (by simp [h])]
theorem impl_VecScale_ev (v : List Int) (c : Int) : Evp (fun k => impl_VecScale.f k v c) (· = vscale v c) := by
  unfold impl_VecScale.f vscale
  cases hv : vok v
  · simp only [impl_vectorOf_no hv, Option.bind_some, Bool.false_eq_true, if_false, Bool.false_and]
    refine Evp.step (fun k => by rw [impl_VecScale.j0]) (Evp.pos rfl (Evp.some' rfl))
  · obtain ⟨a0, a1, a2, a3, rfl, h0, h1, h2, h3⟩ := vok_four hv
    simp only [impl_vectorOf_ok hv, Option.bind_some, if_true, impl_FieldOk_eq]
    refine Evp.step (fun k => by rw [impl_VecScale.j0]) ?_
    cases hc : ok c
    · exact Evp.pos rfl (Evp.some' rfl)
    · refine Evp.neg (by simp) ?_
      have e : impl_vector_times.f a0 a1 a2 a3 c = some (a0 * c % 31, a1 * c % 31, a2 * c % 31, a3 * c % 31) := by
        unfold impl_vector_times.f; rw [if_pos ⟨⟨ok_iff.1 h0, ok_iff.1 h1, ok_iff.1 h2, ok_iff.1 h3⟩, ok_iff.1 hc⟩]
      rw [e]; exact Evp.some' rfl
theorem impl_VecSum_ev (a b : List Int) : Evp (fun k => impl_VecSum.f k a b) (· = vsum a b) := by
  unfold impl_VecSum.f vsum
  cases ha : vok a
  · simp only [impl_vectorOf_no ha, Option.bind_some, Bool.false_eq_true, if_false, Bool.false_and]
    cases hb : vok b
    · simp only [impl_vectorOf_no hb, Option.bind_some]
      exact Evp.step (fun k => by rw [impl_VecSum.j0]) (Evp.pos rfl (Evp.some' rfl))
    · obtain ⟨b0, b1, b2, b3, rfl, _⟩ := vok_four hb
      simp only [impl_vectorOf_ok hb, Option.bind_some]
      exact Evp.step (fun k => by rw [impl_VecSum.j0]) (Evp.pos rfl (Evp.some' rfl))
  · obtain ⟨a0, a1, a2, a3, rfl, h0, h1, h2, h3⟩ := vok_four ha
    simp only [impl_vectorOf_ok ha, Option.bind_some, if_true]
    cases hb : vok b
    · simp only [impl_vectorOf_no hb, Option.bind_some]
      refine Evp.step (fun k => by rw [impl_VecSum.j0]) ?_
      exact Evp.pos (by simp) (Evp.some' (by simp))
    · obtain ⟨b0, b1, b2, b3, rfl, k0, k1, k2, k3⟩ := vok_four hb
      simp only [impl_vectorOf_ok hb, Option.bind_some]
      refine Evp.step (fun k => by rw [impl_VecSum.j0]) (Evp.neg (by simp) ?_)
      have e : impl_vector_plus.f a0 a1 a2 a3 b0 b1 b2 b3 = some ((a0 + b0) % 31, (a1 + b1) % 31, (a2 + b2) % 31, (a3 + b3) % 31) := by
        unfold impl_vector_plus.f; rw [if_pos ⟨⟨ok_iff.1 h0, ok_iff.1 h1, ok_iff.1 h2, ok_iff.1 h3⟩, ok_iff.1 k0, ok_iff.1 k1, ok_iff.1 k2, ok_iff.1 k3⟩]
      rw [e]; exact Evp.some' rfl
/-- what a reader holds -/
def St (l : List Int) : Prop := l.length ≤ 2000 ∧ ∀ x ∈ l, 0 ≤ x ∧ x ≤ 255
theorem rd_range {l : List Int} (h : St l) (i : Int) : 0 ≤ rd l i ∧ rd l i ≤ 255 := by
  unfold rd
  rw [List.getD_eq_getElem?_getD]
  rcases Nat.lt_or_ge i.toNat l.length with hi | hi
  · rw [List.getElem?_eq_getElem hi]; exact h.2 _ (List.getElem_mem hi)
  · rw [List.getElem?_eq_none hi]; decide
theorem open_eq (l : List Int) (h : ∀ x ∈ l, 0 ≤ x ∧ x ≤ 255) : ∃ l', spec_l6Open.f l = some (l', 0) ∧ St l' := by
  unfold spec_l6Open.f
  by_cases hl : (l.length : Int) > 2000
  · rw [if_pos hl, if_pos (by omega)]
    exact ⟨_, rfl, by simp; omega, fun x hx => h x (List.mem_of_mem_take hx)⟩
  · rw [if_neg hl]
    exact ⟨l, rfl, by omega, h⟩
theorem pick_ev {l : List Int} (hs : St l) {p n : Int} (hp : 0 ≤ p ∧ p ≤ 100000) (hn : 1 ≤ n ∧ n ≤ 1000000) :
    Evp (fun k => spec_l6Rd_pick.f k l p n) (fun r => 0 ≤ r.1 ∧ r.1 < n ∧ r.2 = p + 1) := by
  have hw : wrap64 (p + 1) = p + 1 := wrap_small (by omega)
  have hw1 : wrap64 (p + 1 - 1) = p := by rw [wrap_small (by omega)]; omega
  unfold spec_l6Rd_pick.f
  simp only [if_neg (show ¬ n < 1 by omega), hw]
  refine Evp.step (fun k => by rw [spec_l6Rd_pick.j0]) ?_
  by_cases hl : (l.length : Int) = 0
  · simp only [hl, beq_self_eq_true, if_true]
    exact Evp.some' ⟨Int.le_refl _, by show (0 : Int) < n; omega, rfl⟩
  · simp only [beq_eq_false_iff_ne.2 hl, Bool.false_eq_true, if_false, hw1]
    have hlp : 0 < (l.length : Int) := by omega
    have hl2 : (l.length : Int) ≤ 2000 := by have := hs.1; omega
    by_cases hlt : p < (l.length : Int)
    · have hr := rd_range hs p
      rw [if_pos hlt, if_pos hp.1, if_neg (by omega), wrap_small (by omega), tmod_pos hr.1]
      exact Evp.some' ⟨Int.emod_nonneg _ (by omega), Int.emod_lt_of_pos _ (by omega), rfl⟩
    · rw [if_neg hlt, if_neg hl]
      have e7 : wrap64 (p * 7) = p * 7 := wrap_small (by omega)
      have e8 : wrap64 (p * 7 + 3) = p * 7 + 3 := wrap_small (by omega)
      rw [e7, e8, tmod_pos (n := (l.length : Int)) hp.1, tmod_pos (x := p * 7 + 3) (n := (l.length : Int)) (by omega)]
      have a1 := Int.emod_nonneg p (show (l.length : Int) ≠ 0 by omega)
      have a2 := Int.emod_lt_of_pos p hlp
      have b1 := Int.emod_nonneg (p * 7 + 3) (show (l.length : Int) ≠ 0 by omega)
      have b2 := Int.emod_lt_of_pos (p * 7 + 3) hlp
      rw [if_pos a1, if_pos a2, if_pos b1, if_pos b2, if_neg (by omega)]
      have r1 := rd_range hs (p % (l.length : Int))
      have r2 := rd_range hs ((p * 7 + 3) % (l.length : Int))
      generalize rd l (p % (l.length : Int)) = u at *
      generalize rd l ((p * 7 + 3) % (l.length : Int)) = v at *
      have ed : Int.tdiv p (l.length : Int) = p / (l.length : Int) := Int.tdiv_eq_ediv_of_nonneg hp.1
      have d1 : 0 ≤ p / (l.length : Int) := Int.ediv_nonneg hp.1 (by omega)
      have d2 : p / (l.length : Int) ≤ p := Int.ediv_le_self _ hp.1
      rw [ed]
      generalize p / (l.length : Int) = q at *
      rw [wrap_small (x := u) (by omega), wrap_small (x := u * 131) (by omega), wrap_small (x := v) (by omega), wrap_small (x := v * 1117) (by omega), wrap_small (x := u * 131 + v * 1117) (by omega), wrap_small (x := p * 29) (by omega),
        wrap_small (x := u * 131 + v * 1117 + p * 29) (by omega), wrap_small (x := q) (by omega), wrap_small (x := q * 53) (by omega), wrap_small (x := u * 131 + v * 1117 + p * 29 + q * 53) (by omega)]
      generalize hz : u * 131 + v * 1117 + p * 29 + q * 53 = z
      have hz0 : 0 ≤ z ∧ z < 100000000 := by omega
      have e64 : Int.tdiv z 64 = z / 64 := Int.tdiv_eq_ediv_of_nonneg hz0.1
      rw [e64, wrap_small (x := z / 64) (by omega), tmod_pos (xor_nonneg (by omega) (by omega))]
      exact Evp.some' ⟨Int.emod_nonneg _ (by omega), Int.emod_lt_of_pos _ (by omega), rfl⟩
/-- what is drawn for a row -/
def Dr (l : List Int) : Prop := 3 ≤ l.length ∧ l.length ≤ 4 ∧ ∀ x ∈ l, -1 ≤ x ∧ x ≤ 31
theorem l91Vec_ev {l : List Int} (hs : St l) {p : Int} (hp : 0 ≤ p ∧ p ≤ 90000) : Evp (fun k => spec_l91Vec.f k l p) (fun r => Dr r.1 ∧ p ≤ r.2 ∧ r.2 ≤ p + 20) := by
  have key : ∀ d i (v : List Int) (q : Int), i + d = 4 → v.length = i → (∀ x ∈ v, -1 ≤ x ∧ x ≤ 31) → p ≤ q → q ≤ p + 4 * i → Evp (fun k => spec_l91Vec.l0 k v (i : Int) l q) (fun r => Dr r.1 ∧ p ≤ r.2 ∧ r.2 ≤ p + 20) := by
    intro d
    induction d with
    | zero =>
      intro i v q hi hv hx h1 h2
      refine Evp.step (fun k => by rw [spec_l91Vec.l0]) (Evp.neg (by omega) ?_)
      refine Evp.bind (pick_ev hs (n := 40) (by omega) (by omega)) fun r hr => ?_
      obtain ⟨a, q1⟩ := r
      simp only at hr ⊢
      refine Evp.ite (fun _ => ?_) fun _ => Evp.ite (fun _ => ?_) fun _ => ?_
      · refine Evp.pos (by omega) (Evp.some' ⟨⟨?_, ?_, fun x hx2 => hx x (List.mem_of_mem_drop hx2)⟩, ?_, ?_⟩)
        · show 3 ≤ (v.drop (Int.toNat 1)).length; rw [List.length_drop]; simp; omega
        · show (v.drop (Int.toNat 1)).length ≤ 4; rw [List.length_drop]; omega
        · show p ≤ q1; omega
        · show q1 ≤ p + 20; omega
      · refine Evp.bind (pick_ev hs (n := (v.length : Int)) (by omega) (by omega)) fun r2 hr2 => ?_
        obtain ⟨b, q2⟩ := r2
        simp only [Option.bind_some] at hr2 ⊢
        refine Evp.bind (pick_ev hs (n := 2) (by omega) (by omega)) fun r3 hr3 => ?_
        obtain ⟨c, q3⟩ := r3
        simp only at hr3 ⊢
        refine Evp.pos (by omega) (Evp.pos (by simp; omega) (Evp.pos (by omega) (Evp.pos (by omega) (Evp.some' ⟨⟨?_, ?_, fun x hx2 => ?_⟩, ?_, ?_⟩))))
        · show 3 ≤ (v.set b.toNat _).length; rw [List.length_set]; omega
        · show (v.set b.toNat _).length ≤ 4; rw [List.length_set]; omega
        · rcases List.mem_or_eq_of_mem_set hx2 with h | h
          · exact hx x h
          · have hc : c = 0 ∨ c = 1 := by omega
            rw [h]; rcases hc with rfl | rfl <;> decide
        · show p ≤ q3; omega
        · show q3 ≤ p + 20; omega
      · exact Evp.some' ⟨⟨by show 3 ≤ v.length; omega, by show v.length ≤ 4; omega, hx⟩, by show p ≤ q1; omega, by show q1 ≤ p + 20; omega⟩
    | succ d ih =>
      intro i v q hi hv hx h1 h2
      refine Evp.step (fun k => by rw [spec_l91Vec.l0]) (Evp.pos (by omega) ?_)
      refine Evp.bind (pick_ev hs (n := 4) (by omega) (by omega)) fun r hr => ?_
      obtain ⟨a, q1⟩ := r
      simp only at hr ⊢
      refine Evp.bind (pick_ev hs (n := 31) (by omega) (by omega)) fun r2 hr2 => ?_
      obtain ⟨b, q2⟩ := r2
      simp only at hr2 ⊢
      refine Evp.bind (pick_ev hs (n := 31) (by omega) (by omega)) fun r3 hr3 => ?_
      obtain ⟨c, q3⟩ := r3
      simp only [Option.bind_some] at hr3 ⊢
      refine Evp.bind (pick_ev hs (n := 4) (by omega) (by omega)) fun r4 hr4 => ?_
      obtain ⟨e, q4⟩ := r4
      simp only at hr4 ⊢
      rw [wrap_succ (by omega)]
      refine Evp.pos (by omega) (Evp.pos (by simp; omega) (Evp.pos (by omega) (ih (i + 1) _ q4 (by omega) (by simp; omega) (fun x hx2 => ?_) (by omega) (by omega))))
      rcases List.mem_append.1 hx2 with h | h
      · exact hx x h
      · have he : e = 0 ∨ e = 1 ∨ e = 2 ∨ e = 3 := by omega
        simp at h; rw [h]
        rcases he with rfl | rfl | rfl | rfl <;> simp [rd] <;> omega
  exact key 4 0 [] p rfl rfl (by simp) (by omega) (by omega)
theorem rdL1_nat (m : List (List Int)) (i : Nat) : rd_L1 m (i : Int) = m.getD i [] := by unfold rd_L1; rw [Int.toNat_natCast]
theorem getDL_get {m : List (List Int)} {i : Nat} (h : i < m.length) : m.getD i [] = m[i] := by rw [List.getD_eq_getElem?_getD, List.getElem?_eq_getElem h]; rfl
theorem spec_SpanOk_ev {m : List (List Int)} (hm : m.length ≤ 1048576) (hr : ∀ r ∈ m, r.length ≤ 1048576) : Evp (fun k => spec_SpanOk.f k m) (· = mok m) := by
  have key : ∀ d i, i + d = m.length → (m.take i).all vok = true → Evp (fun k => spec_SpanOk.l0 k m (i : Int)) (· = mok m) := by
    intro d
    induction d with
    | zero =>
      intro i hi hp
      refine Evp.step (fun k => by rw [spec_SpanOk.l0]) (Evp.neg (by omega) (Evp.some' ?_))
      rw [List.take_of_length_le (by omega)] at hp
      unfold mok
      rw [hp, Bool.and_true]
      congr 1
      rw [eq_iff_iff]; omega
    | succ d ih =>
      intro i hi hp
      refine Evp.step (fun k => by rw [spec_SpanOk.l0]) (Evp.pos (by omega) (Evp.pos (by omega) ?_))
      rw [rdL1_nat, getDL_get (show i < m.length by omega)]
      refine Evp.bind (spec_VecOk_ev (by have := hr _ (List.getElem_mem (l := m) (n := i) (by omega)); omega)) fun t ht => ?_
      subst ht
      refine Evp.ite (fun h => ?_) fun h => Evp.some' ?_
      · rw [wrap_succ (by omega)]
        refine ih (i + 1) (by omega) ?_
        rw [List.take_succ_eq_append_getElem (show i < m.length by omega), List.all_append, hp, List.all_cons, h]; rfl
      · have : mok m = false := by
          rw [Bool.eq_false_iff]
          intro hc
          exact h ((mok_iff.1 hc).2 _ (List.getElem_mem _))
        rw [this]
  unfold spec_SpanOk.f
  exact key m.length 0 (by omega) rfl
/-- a row as the program's own vector -/
def toS (r : List Int) : S59 := ⟨r.getD 0 0, r.getD 1 0, r.getD 2 0, r.getD 3 0⟩
theorem impl_matrixOf_ev {m : List (List Int)} (hm : m.length ≤ 1048576) : Evp (fun k => impl_matrixOf.f k m) (· = if m.all vok = true then (m.map toS, decide (m.length ≤ 8)) else ([], false)) := by
  have key : ∀ d i, i + d = m.length → (m.take i).all vok = true → Evp (fun k => impl_matrixOf.l0 k m ((m.take i).map toS) m (m.length : Int) (i : Int)) (· = if m.all vok = true then (m.map toS, decide (m.length ≤ 8)) else ([], false)) := by
    intro d
    induction d with
    | zero =>
      intro i hi hp
      refine Evp.step (fun k => by rw [impl_matrixOf.l0]) (Evp.neg (by omega) (Evp.some' ?_))
      rw [List.take_of_length_le (by omega)] at hp ⊢
      rw [if_pos hp]
      congr 2
      rw [eq_iff_iff]; omega
    | succ d ih =>
      intro i hi hp
      refine Evp.step (fun k => by rw [impl_matrixOf.l0]) (Evp.pos (by omega) (Evp.pos (by omega) (Evp.pos (by omega) ?_)))
      rw [rdL1_nat, getDL_get (show i < m.length by omega)]
      by_cases hv : vok m[i] = true
      · obtain ⟨a, b, c, e, he, _⟩ := vok_four hv
        rw [he] at hv
        rw [he, impl_vectorOf_ok hv]; simp only [Option.bind_some]
        refine Evp.pos (by first | rfl | trivial) (Evp.pos (by simp; omega) ?_)
        rw [wrap_succ (by omega)]
        have := ih (i + 1) (by omega) (by rw [List.take_succ_eq_append_getElem (show i < m.length by omega), List.all_append, hp, List.all_cons, he, hv]; rfl)
        rw [List.take_succ_eq_append_getElem (show i < m.length by omega), List.map_append, he] at this
        exact this
      · rw [impl_vectorOf_no (Bool.eq_false_iff.2 hv)]; simp only [Option.bind_some]
        refine Evp.neg (by simp) (Evp.some' ?_)
        rw [if_neg]
        intro hc
        exact hv (List.all_eq_true.1 hc _ (List.getElem_mem _))
  unfold impl_matrixOf.f
  exact Evp.pos (by omega) (Evp.pos (by omega) (key m.length 0 (by omega) rfl))
/-- what is drawn for rows -/
def Dm (m : List (List Int)) : Prop := m.length ≤ 12 ∧ ∀ r ∈ m, r.length ≤ 10
theorem Dm.snoc {m : List (List Int)} {n : Nat} (hn : m.length ≤ n) (hm : ∀ r ∈ m, r.length ≤ 10) {v : List Int} (hv : v.length ≤ 10) : (m ++ [v]).length ≤ n + 1 ∧ ∀ r ∈ m ++ [v], r.length ≤ 10 := by
  refine ⟨by simp; omega, fun r hr => ?_⟩
  rcases List.mem_append.1 hr with h | h
  · exact hm r h
  · simp at h; rw [h]; exact hv
theorem l91Rows_ev {l : List Int} (hs : St l) {p : Int} (hp : 0 ≤ p ∧ p ≤ 80000) : Evp (fun k => spec_l91Rows.f k l p) (fun r => (r.1.length ≤ 9 ∧ ∀ x ∈ r.1, x.length ≤ 10) ∧ p ≤ r.2 ∧ r.2 ≤ p + 200) := by
  have key1 : ∀ d (m : List (List Int)) (q : Int), m.length + d = 9 → (∀ r ∈ m, r.length ≤ 10) → p ≤ q ∧ q ≤ p + 200 → Evp (fun k => spec_l91Rows.l1 k m l q) (fun r => (r.1.length ≤ 9 ∧ ∀ x ∈ r.1, x.length ≤ 10) ∧ p ≤ r.2 ∧ r.2 ≤ p + 200) := by
    intro d
    induction d with
    | zero =>
      intro m q hm hr hq
      exact Evp.step (fun k => by rw [spec_l91Rows.l1]) (Evp.neg (by omega) (Evp.some' ⟨⟨by show m.length ≤ 9; omega, hr⟩, hq⟩))
    | succ d ih =>
      intro m q hm hr hq
      refine Evp.step (fun k => by rw [spec_l91Rows.l1]) (Evp.pos (by omega) (Evp.pos (by omega) ?_))
      have := Dm.snoc (n := m.length) (Nat.le_refl _) hr (v := [1, 2, 3, 4]) (by decide)
      exact ih _ q (by simp; omega) this.2 hq
  have key0 : ∀ d (m : List (List Int)) (q : Int), m.length + d ≤ 5 → (∀ r ∈ m, r.length ≤ 10) → p ≤ q ∧ q ≤ p + 150 - 24 * d → Evp (fun k => spec_l91Rows.l0 k m (d : Int) l q) (fun r => (r.1.length ≤ 9 ∧ ∀ x ∈ r.1, x.length ≤ 10) ∧ p ≤ r.2 ∧ r.2 ≤ p + 200) := by
    intro d
    induction d with
    | zero =>
      intro m q hm hr hq
      refine Evp.step (fun k => by rw [spec_l91Rows.l0]) (Evp.neg (by omega) ?_)
      refine Evp.bind (pick_ev hs (n := 40) (by omega) (by omega)) fun r h => ?_
      refine Evp.ite (fun _ => ?_) fun _ => Evp.some' ⟨⟨by show m.length ≤ 9; omega, hr⟩, by show p ≤ r.2; omega, by show r.2 ≤ p + 200; omega⟩
      exact key1 (9 - m.length) m _ (by omega) hr (by omega)
    | succ d ih =>
      intro m q hm hr hq
      have hj : ∀ (v : List Int) (c : Bool) (q2 : Int), v.length ≤ 10 → q ≤ q2 ∧ q2 ≤ q + 21 → (c = true → 2 ≤ m.length ∧ vok (m.getD 0 []) = true ∧ vok (m.getD 1 []) = true) → Evp (fun k => spec_l91Rows.j1 k m ((d + 1 : Nat) : Int) v c l q2) (fun r => (r.1.length ≤ 9 ∧ ∀ x ∈ r.1, x.length ≤ 10) ∧ p ≤ r.2 ∧ r.2 ≤ p + 200) := by
        intro v c q2 hv hq2 hc
        refine Evp.step (fun k => by rw [spec_l91Rows.j1]) ?_
        refine Evp.ite (fun h => ?_) fun h => ?_
        · obtain ⟨h2, v0, v1⟩ := hc h
          have l0 := (vok_iff.1 v0).1; have l1 := (vok_iff.1 v1).1
          refine Evp.pos (by omega) ?_
          refine Evp.bind (pick_ev hs (n := 31) (by omega) (by omega)) fun r1 hr1 => ?_
          rw [show rd_L1 m 0 = m.getD 0 [] from rfl, show rd_L1 m 1 = m.getD 1 [] from rfl]
          refine Evp.bind (l2Scale_ev (vok_iff.1 v0).2 (ok_iff.2 ⟨hr1.1, hr1.2.1⟩) (by omega)) fun t0 ht0 => ?_
          subst ht0
          refine Evp.pos (by omega) ?_
          refine Evp.bind (pick_ev hs (n := 31) (by omega) (by omega)) fun r2 hr2 => ?_
          refine Evp.bind (l2Scale_ev (vok_iff.1 v1).2 (ok_iff.2 ⟨hr2.1, hr2.2.1⟩) (by omega)) fun t1 ht1 => ?_
          subst ht1
          refine Evp.bind (l2Sum_ev (can_lscale _ _) (can_lscale _ _) (by rw [lscale_len, lscale_len]; omega) (by rw [lscale_len]; omega)) fun t2 ht2 => ?_
          subst ht2
          refine Evp.pos (by omega) ?_
          rw [wrap_small (by omega), show (((d + 1 : Nat) : Int) - 1) = (d : Int) by omega]
          have := Dm.snoc (n := m.length) (Nat.le_refl _) hr (v := lsum (lscale (m.getD 0 []) r1.1) (lscale (m.getD 1 []) r2.1)) (by rw [lsum_len (by rw [lscale_len, lscale_len]; omega), lscale_len]; omega)
          exact ih _ _ (by simp; omega) this.2 (by omega)
        · refine Evp.pos (by omega) ?_
          rw [wrap_small (by omega), show (((d + 1 : Nat) : Int) - 1) = (d : Int) by omega]
          have := Dm.snoc (n := m.length) (Nat.le_refl _) hr hv
          exact ih _ _ (by simp; omega) this.2 (by omega)
      refine Evp.step (fun k => by rw [spec_l91Rows.l0]) (Evp.pos (by omega) ?_)
      refine Evp.bind (l91Vec_ev hs (by omega)) fun r1 hr1 => ?_
      have hv : r1.1.length ≤ 10 := by have := hr1.1.2.1; omega
      refine Evp.ite (fun h2 => ?_) fun _ => hj _ _ _ hv (by omega) (by simp)
      refine Evp.bind (pick_ev hs (n := 3) (by omega) (by omega)) fun r2 hr2 => ?_
      refine Evp.ite (fun _ => ?_) fun _ => hj _ _ _ hv (by omega) (by simp)
      refine Evp.pos (by omega) ?_
      rw [show rd_L1 m 0 = m.getD 0 [] from rfl, show rd_L1 m 1 = m.getD 1 [] from rfl]
      have q0 : (m.getD 0 []).length ≤ 10 := by rw [getDL_get (by omega)]; exact hr _ (List.getElem_mem _)
      have q1 : (m.getD 1 []).length ≤ 10 := by rw [getDL_get (by omega)]; exact hr _ (List.getElem_mem _)
      refine Evp.bind (spec_VecOk_ev (by omega)) fun t ht => ?_
      subst ht
      refine Evp.ite (fun c0 => ?_) fun _ => hj _ _ _ hv (by omega) (by simp)
      refine Evp.pos (by omega) ?_
      refine Evp.bind (spec_VecOk_ev (by omega)) fun t ht => ?_
      subst ht
      exact hj _ _ _ hv (by omega) (fun c1 => ⟨by omega, c0, c1⟩)
  unfold spec_l91Rows.f
  refine Evp.bind (pick_ev hs (n := 6) (by omega) (by omega)) fun r hr => ?_
  obtain ⟨d, hd⟩ : ∃ d : Nat, r.1 = (d : Int) := ⟨r.1.toNat, by omega⟩
  rw [hd]
  exact key0 d [] _ (by simp; omega) (by simp) (by omega)
def l12 (x : S77) : List Int := [x.f0.f0, x.f0.f1, x.f0.f2, x.f0.f3, x.f1.f0, x.f1.f1, x.f1.f2, x.f1.f3, x.f1.f4, x.f1.f5, x.f1.f6, x.f1.f7]
def m12 (l : List Int) : S77 := ⟨⟨l.getD 0 0, l.getD 1 0, l.getD 2 0, l.getD 3 0⟩, ⟨l.getD 4 0, l.getD 5 0, l.getD 6 0, l.getD 7 0, l.getD 8 0, l.getD 9 0, l.getD 10 0, l.getD 11 0⟩⟩
def T12 (l : List Int) : Int × Int × Int × Int × Int × Int × Int × Int × Int × Int × Int × Int := (l.getD 0 0, l.getD 1 0, l.getD 2 0, l.getD 3 0, l.getD 4 0, l.getD 5 0, l.getD 6 0, l.getD 7 0, l.getD 8 0, l.getD 9 0, l.getD 10 0, l.getD 11 0)
/-- a kept row taken away -/
def kl (k r : List Int) : List Int := List.zipWith (fun x y => (x - y * gt k (llead (r.take 4)) % 31) % 31) k r
def kred (R : List (List Int)) (z : List Int) : List Int := R.foldl kl z
def Good (r : List Int) : Prop := r.length = 12 ∧ can r ∧ ld (toW r) < 4
theorem kl_len {k r : List Int} (hk : k.length = 12) (hr : r.length = 12) : (kl k r).length = 12 := by simp [kl, hk, hr]
theorem can_kl (k r : List Int) : can (kl k r) := fun x hx => by
  obtain ⟨i, hi, rfl⟩ := List.getElem_of_mem hx
  simp only [kl, List.getElem_zipWith]; exact mod_ok _
theorem kl_get {k r : List Int} (hk : k.length = 12) (hr : r.length = 12) {j : Nat} (hj : j < 12) : (kl k r).getD j 0 = (k.getD j 0 - r.getD j 0 * gt k (llead (r.take 4)) % 31) % 31 := by
  have h1 : j < (kl k r).length := by rw [kl_len hk hr]; exact hj
  rw [List.getD_eq_getElem?_getD, List.getElem?_eq_getElem h1, List.getD_eq_getElem?_getD, List.getElem?_eq_getElem (by omega), List.getD_eq_getElem?_getD, List.getElem?_eq_getElem (by omega)]
  simp only [kl, List.getElem_zipWith, Option.getD_some]
theorem l12_m12 {l : List Int} (h : l.length = 12) : l12 (m12 l) = l := by
  match l, h with
  | [a, b, c, d, e, f, g, i, j, k, m, n], _ => rfl
theorem toW_take4 (r : List Int) {i : Nat} (h : i < 4) : toW (r.take 4) i = toW r i := by
  unfold toW; rw [List.getD_eq_getElem?_getD, List.getD_eq_getElem?_getD, List.getElem?_take_of_lt h]
theorem ld_take4 (r : List Int) : ld (toW (r.take 4)) = ld (toW r) := ld_congr fun i hi => toW_take4 r hi
theorem can_take {r : List Int} (h : can r) (n : Nat) : can (r.take n) := fun x hx => h x (List.mem_of_mem_take hx)
theorem take4_four {l : List Int} (h : l.length = 12) : [l.getD 0 0, l.getD 1 0, l.getD 2 0, l.getD 3 0] = l.take 4 := by
  match l, h with
  | [a, b, c, d, e, f, g, i, j, k, m, n], _ => rfl
theorem good_lead {r : List Int} (h : Good r) : llead (r.take 4) = (ld (toW r) : Int) := by
  rw [llead_ld (can_take h.2.1 4) (by rw [ld_take4]; exact h.2.2), ld_take4]
theorem toW_kl {k r : List Int} (hk : k.length = 12) (hr : Good r) : toW (kl k r) = less (toW k) (toW r) := by
  funext j
  have e := good_lead hr
  show toF ((kl k r).getD j 0) = toF (k.getD j 0) + -(toF (k.getD (ld (toW r)) 0)) * toF (r.getD j 0)
  rcases Nat.lt_or_ge j 12 with hj | hj
  · rw [kl_get hk hr.1 hj, e, gt_nat, toF_mod, Int.sub_eq_add_neg, toF_add]
    have : toF (-(r.getD j 0 * k.getD (ld (toW r)) 0 % 31)) = -(toF (r.getD j 0 * k.getD (ld (toW r)) 0)) := by
      have h1 : toF (-(r.getD j 0 * k.getD (ld (toW r)) 0 % 31)) + toF (r.getD j 0 * k.getD (ld (toW r)) 0) = 0 := by
        rw [← toF_add, ← toF_zero, toF_eq]; omega
      grind
    rw [this, toF_mul]; grind
  · rw [List.getD_eq_getElem?_getD, List.getElem?_eq_none (by rw [kl_len hk hr.1]; exact hj), List.getD_eq_getElem?_getD (l := k), List.getElem?_eq_none (by omega), List.getD_eq_getElem?_getD (l := r), List.getElem?_eq_none (by have := hr.1; omega)]
    simp only [Option.getD_none, toF_zero]; grind
theorem kred_len {R : List (List Int)} (hR : ∀ r ∈ R, Good r) : ∀ {z : List Int}, z.length = 12 → (kred R z).length = 12 := by
  induction R with
  | nil => intro z h; exact h
  | cons r R ih => intro z h; exact ih (fun s hs => hR s (by simp [hs])) (kl_len h (hR r (by simp)).1)
theorem can_kred {R : List (List Int)} : ∀ {z : List Int}, can z → can (kred R z) := by
  induction R with
  | nil => intro z h; exact h
  | cons r R ih => intro z h; exact ih (can_kl z r)
theorem toW_kred {R : List (List Int)} (hR : ∀ r ∈ R, Good r) : ∀ {z : List Int}, z.length = 12 → toW (kred R z) = red (R.map toW) (toW z) := by
  induction R with
  | nil => intro z h; rfl
  | cons r R ih =>
    intro z h
    show toW (kred R (kl z r)) = red (R.map toW) (less (toW z) (toW r))
    rw [ih (fun s hs => hR s (by simp [hs])) (kl_len h (hR r (by simp)).1), toW_kl h (hR r (by simp))]
theorem pick4 {α : Type} {p : Nat} (hp : p < 4) (f : Nat → α) (e : α) : (if (p : Int) = 0 then f 0 else if (p : Int) = 1 then f 1 else if (p : Int) = 2 then f 2 else if (p : Int) = 3 then f 3 else e) = f p := by
  match p, hp with
  | 0, _ => rfl
  | 1, _ => rfl
  | 2, _ => rfl
  | 3, _ => rfl
theorem pick8 {α : Type} {p : Nat} (hp : p < 8) (f : Nat → α) (e : α) : (if (p : Int) = 0 then f 0 else if (p : Int) = 1 then f 1 else if (p : Int) = 2 then f 2 else if (p : Int) = 3 then f 3 else if (p : Int) = 4 then f 4 else if (p : Int) = 5 then f 5 else if (p : Int) = 6 then f 6 else if (p : Int) = 7 then f 7 else e) = f p := by
  match p, hp with
  | 0, _ => rfl
  | 1, _ => rfl
  | 2, _ => rfl
  | 3, _ => rfl
  | 4, _ => rfl
  | 5, _ => rfl
  | 6, _ => rfl
  | 7, _ => rfl
theorem vtimes_eq {a b c d x : Int} (ha : ok a = true) (hb : ok b = true) (hc : ok c = true) (hd : ok d = true) (hx : ok x = true) : impl_vector_times.f a b c d x = some (a * x % 31, b * x % 31, c * x % 31, d * x % 31) := by
  unfold impl_vector_times.f
  rw [if_pos ⟨⟨ok_iff.1 ha, ok_iff.1 hb, ok_iff.1 hc, ok_iff.1 hd⟩, ok_iff.1 hx⟩]
theorem vminus_eq {a b c d p q r s : Int} (ha : ok a = true) (hb : ok b = true) (hc : ok c = true) (hd : ok d = true) (hp : ok p = true) (hq : ok q = true) (hr : ok r = true) (hs : ok s = true) : impl_vector_minus.f a b c d p q r s = some ((a - p) % 31, (b - q) % 31, (c - r) % 31, (d - s) % 31) := by
  unfold impl_vector_minus.f
  rw [elementOf_eq (by omega), Option.bind_some, show (-1 : Int) % 31 = 30 by decide, vtimes_eq hp hq hr hs (by decide), Option.bind_some]
  unfold impl_vector_plus.f
  rw [ok_iff] at *
  rw [if_pos ⟨⟨ha, hb, hc, hd⟩, emod_range _, emod_range _, emod_range _, emod_range _⟩]
  simp only [Option.bind_some, Option.some.injEq, Prod.mk.injEq]
  refine ⟨by omega, by omega, by omega, by omega⟩
theorem less_l1_ev {L : List S77} {n i c a0 a1 a2 a3 a4 a5 a6 a7 a8 a9 a10 a11 r0 r1 r2 r3 r4 r5 r6 r7 r8 r9 r10 r11 : Int} (hc : ok c = true) (ha4 : ok a4 = true) (ha5 : ok a5 = true) (ha6 : ok a6 = true) (ha7 : ok a7 = true) (ha8 : ok a8 = true) (ha9 : ok a9 = true) (ha10 : ok a10 = true) (ha11 : ok a11 = true) (hr4 : ok r4 = true) (hr5 : ok r5 = true) (hr6 : ok r6 = true) (hr7 : ok r7 = true) (hr8 : ok r8 = true) (hr9 : ok r9 = true) (hr10 : ok r10 = true) (hr11 : ok r11 = true) {Q : _ → Prop} (h : Evp (fun k => impl_span_less.l0 k L n (wrap64 (i + 1)) a0 a1 a2 a3 ((a4 - r4 * c % 31) % 31) ((a5 - r5 * c % 31) % 31) ((a6 - r6 * c % 31) % 31) ((a7 - r7 * c % 31) % 31) ((a8 - r8 * c % 31) % 31) ((a9 - r9 * c % 31) % 31) ((a10 - r10 * c % 31) % 31) ((a11 - r11 * c % 31) % 31)) Q) : Evp (fun k => impl_span_less.l1 k c L n i 0 a0 a1 a2 a3 a4 a5 a6 a7 a8 a9 a10 a11 r0 r1 r2 r3 r4 r5 r6 r7 r8 r9 r10 r11) Q := by
  refine Evp.step (f := fun k => impl_span_less.l1 k c L n i 1 a0 a1 a2 a3 ((a4 - r4 * c % 31) % 31) a5 a6 a7 a8 a9 a10 a11 r0 r1 r2 r3 r4 r5 r6 r7 r8 r9 r10 r11) (fun k => by rw [impl_span_less.l1, if_pos (by decide), if_pos rfl, impl_times_eq hr4 hc, Option.bind_some, impl_minus_eq ha4 (mod_ok _), Option.bind_some, (by unfold wrap64; omega : wrap64 ((0 : Int) + 1) = 1)]) ?_
  refine Evp.step (f := fun k => impl_span_less.l1 k c L n i 2 a0 a1 a2 a3 ((a4 - r4 * c % 31) % 31) ((a5 - r5 * c % 31) % 31) a6 a7 a8 a9 a10 a11 r0 r1 r2 r3 r4 r5 r6 r7 r8 r9 r10 r11) (fun k => by rw [impl_span_less.l1, if_pos (by decide), if_neg (by decide), if_pos rfl, impl_times_eq hr5 hc, Option.bind_some, impl_minus_eq ha5 (mod_ok _), Option.bind_some, (by unfold wrap64; omega : wrap64 ((1 : Int) + 1) = 2)]) ?_
  refine Evp.step (f := fun k => impl_span_less.l1 k c L n i 3 a0 a1 a2 a3 ((a4 - r4 * c % 31) % 31) ((a5 - r5 * c % 31) % 31) ((a6 - r6 * c % 31) % 31) a7 a8 a9 a10 a11 r0 r1 r2 r3 r4 r5 r6 r7 r8 r9 r10 r11) (fun k => by rw [impl_span_less.l1, if_pos (by decide), if_neg (by decide), if_neg (by decide), if_pos rfl, impl_times_eq hr6 hc, Option.bind_some, impl_minus_eq ha6 (mod_ok _), Option.bind_some, (by unfold wrap64; omega : wrap64 ((2 : Int) + 1) = 3)]) ?_
  refine Evp.step (f := fun k => impl_span_less.l1 k c L n i 4 a0 a1 a2 a3 ((a4 - r4 * c % 31) % 31) ((a5 - r5 * c % 31) % 31) ((a6 - r6 * c % 31) % 31) ((a7 - r7 * c % 31) % 31) a8 a9 a10 a11 r0 r1 r2 r3 r4 r5 r6 r7 r8 r9 r10 r11) (fun k => by rw [impl_span_less.l1, if_pos (by decide), if_neg (by decide), if_neg (by decide), if_neg (by decide), if_pos rfl, impl_times_eq hr7 hc, Option.bind_some, impl_minus_eq ha7 (mod_ok _), Option.bind_some, (by unfold wrap64; omega : wrap64 ((3 : Int) + 1) = 4)]) ?_
  refine Evp.step (f := fun k => impl_span_less.l1 k c L n i 5 a0 a1 a2 a3 ((a4 - r4 * c % 31) % 31) ((a5 - r5 * c % 31) % 31) ((a6 - r6 * c % 31) % 31) ((a7 - r7 * c % 31) % 31) ((a8 - r8 * c % 31) % 31) a9 a10 a11 r0 r1 r2 r3 r4 r5 r6 r7 r8 r9 r10 r11) (fun k => by rw [impl_span_less.l1, if_pos (by decide), if_neg (by decide), if_neg (by decide), if_neg (by decide), if_neg (by decide), if_pos rfl, impl_times_eq hr8 hc, Option.bind_some, impl_minus_eq ha8 (mod_ok _), Option.bind_some, (by unfold wrap64; omega : wrap64 ((4 : Int) + 1) = 5)]) ?_
  refine Evp.step (f := fun k => impl_span_less.l1 k c L n i 6 a0 a1 a2 a3 ((a4 - r4 * c % 31) % 31) ((a5 - r5 * c % 31) % 31) ((a6 - r6 * c % 31) % 31) ((a7 - r7 * c % 31) % 31) ((a8 - r8 * c % 31) % 31) ((a9 - r9 * c % 31) % 31) a10 a11 r0 r1 r2 r3 r4 r5 r6 r7 r8 r9 r10 r11) (fun k => by rw [impl_span_less.l1, if_pos (by decide), if_neg (by decide), if_neg (by decide), if_neg (by decide), if_neg (by decide), if_neg (by decide), if_pos rfl, impl_times_eq hr9 hc, Option.bind_some, impl_minus_eq ha9 (mod_ok _), Option.bind_some, (by unfold wrap64; omega : wrap64 ((5 : Int) + 1) = 6)]) ?_
  refine Evp.step (f := fun k => impl_span_less.l1 k c L n i 7 a0 a1 a2 a3 ((a4 - r4 * c % 31) % 31) ((a5 - r5 * c % 31) % 31) ((a6 - r6 * c % 31) % 31) ((a7 - r7 * c % 31) % 31) ((a8 - r8 * c % 31) % 31) ((a9 - r9 * c % 31) % 31) ((a10 - r10 * c % 31) % 31) a11 r0 r1 r2 r3 r4 r5 r6 r7 r8 r9 r10 r11) (fun k => by rw [impl_span_less.l1, if_pos (by decide), if_neg (by decide), if_neg (by decide), if_neg (by decide), if_neg (by decide), if_neg (by decide), if_neg (by decide), if_pos rfl, impl_times_eq hr10 hc, Option.bind_some, impl_minus_eq ha10 (mod_ok _), Option.bind_some, (by unfold wrap64; omega : wrap64 ((6 : Int) + 1) = 7)]) ?_
  refine Evp.step (f := fun k => impl_span_less.l1 k c L n i 8 a0 a1 a2 a3 ((a4 - r4 * c % 31) % 31) ((a5 - r5 * c % 31) % 31) ((a6 - r6 * c % 31) % 31) ((a7 - r7 * c % 31) % 31) ((a8 - r8 * c % 31) % 31) ((a9 - r9 * c % 31) % 31) ((a10 - r10 * c % 31) % 31) ((a11 - r11 * c % 31) % 31) r0 r1 r2 r3 r4 r5 r6 r7 r8 r9 r10 r11) (fun k => by rw [impl_span_less.l1, if_pos (by decide), if_neg (by decide), if_neg (by decide), if_neg (by decide), if_neg (by decide), if_neg (by decide), if_neg (by decide), if_neg (by decide), if_pos rfl, impl_times_eq hr11 hc, Option.bind_some, impl_minus_eq ha11 (mod_ok _), Option.bind_some, (by unfold wrap64; omega : wrap64 ((7 : Int) + 1) = 8)]) ?_
  exact Evp.step (f := fun k => impl_span_less.l0 k L n (wrap64 (i + 1)) a0 a1 a2 a3 ((a4 - r4 * c % 31) % 31) ((a5 - r5 * c % 31) % 31) ((a6 - r6 * c % 31) % 31) ((a7 - r7 * c % 31) % 31) ((a8 - r8 * c % 31) % 31) ((a9 - r9 * c % 31) % 31) ((a10 - r10 * c % 31) % 31) ((a11 - r11 * c % 31) % 31)) (fun k => by rw [impl_span_less.l1, if_neg (by decide)]) h
theorem less_j1_ev {L : List S77} {n i c a0 a1 a2 a3 a4 a5 a6 a7 a8 a9 a10 a11 r0 r1 r2 r3 r4 r5 r6 r7 r8 r9 r10 r11 : Int} (hc : ok c = true) (ha0 : ok a0 = true) (ha1 : ok a1 = true) (ha2 : ok a2 = true) (ha3 : ok a3 = true) (ha4 : ok a4 = true) (ha5 : ok a5 = true) (ha6 : ok a6 = true) (ha7 : ok a7 = true) (ha8 : ok a8 = true) (ha9 : ok a9 = true) (ha10 : ok a10 = true) (ha11 : ok a11 = true) (hr0 : ok r0 = true) (hr1 : ok r1 = true) (hr2 : ok r2 = true) (hr3 : ok r3 = true) (hr4 : ok r4 = true) (hr5 : ok r5 = true) (hr6 : ok r6 = true) (hr7 : ok r7 = true) (hr8 : ok r8 = true) (hr9 : ok r9 = true) (hr10 : ok r10 = true) (hr11 : ok r11 = true) {Q : _ → Prop} (h : Evp (fun k => impl_span_less.l0 k L n (wrap64 (i + 1)) ((a0 - r0 * c % 31) % 31) ((a1 - r1 * c % 31) % 31) ((a2 - r2 * c % 31) % 31) ((a3 - r3 * c % 31) % 31) ((a4 - r4 * c % 31) % 31) ((a5 - r5 * c % 31) % 31) ((a6 - r6 * c % 31) % 31) ((a7 - r7 * c % 31) % 31) ((a8 - r8 * c % 31) % 31) ((a9 - r9 * c % 31) % 31) ((a10 - r10 * c % 31) % 31) ((a11 - r11 * c % 31) % 31)) Q) : Evp (fun k => impl_span_less.j1 k c L n i a0 a1 a2 a3 a4 a5 a6 a7 a8 a9 a10 a11 r0 r1 r2 r3 r4 r5 r6 r7 r8 r9 r10 r11) Q := by
  refine Evp.step (f := fun k => impl_span_less.l1 k c L n i 0 ((a0 - r0 * c % 31) % 31) ((a1 - r1 * c % 31) % 31) ((a2 - r2 * c % 31) % 31) ((a3 - r3 * c % 31) % 31) a4 a5 a6 a7 a8 a9 a10 a11 r0 r1 r2 r3 r4 r5 r6 r7 r8 r9 r10 r11) (fun k => by rw [impl_span_less.j1, vtimes_eq hr0 hr1 hr2 hr3 hc, Option.bind_some, vminus_eq ha0 ha1 ha2 ha3 (mod_ok _) (mod_ok _) (mod_ok _) (mod_ok _), Option.bind_some]) ?_
  exact less_l1_ev hc ha4 ha5 ha6 ha7 ha8 ha9 ha10 ha11 hr4 hr5 hr6 hr7 hr8 hr9 hr10 hr11 h
theorem rdK {L : List S77} {i : Nat} (h : i < L.length) : rd_T77 L (i : Int) = L[i] := by
  unfold rd_T77; rw [Int.toNat_natCast, List.getD_eq_getElem?_getD, List.getElem?_eq_getElem h]; rfl
theorem l12_ok {x : S77} (h : can (l12 x)) : ok x.f0.f0 = true ∧ ok x.f0.f1 = true ∧ ok x.f0.f2 = true ∧ ok x.f0.f3 = true ∧ ok x.f1.f0 = true ∧ ok x.f1.f1 = true ∧ ok x.f1.f2 = true ∧ ok x.f1.f3 = true ∧ ok x.f1.f4 = true ∧ ok x.f1.f5 = true ∧ ok x.f1.f6 = true ∧ ok x.f1.f7 = true := by
  refine ⟨?_, ?_, ?_, ?_, ?_, ?_, ?_, ?_, ?_, ?_, ?_, ?_⟩ <;> exact h _ (by simp [l12])
theorem less_l0_ev {L : List S77} (hL : ∀ x ∈ L, Good (l12 x)) (hn : L.length ≤ 1000000) : ∀ (d i : Nat), i + d = L.length → ∀ a : List Int, a.length = 12 → can a →
    Evp (fun k => impl_span_less.l0 k L (L.length : Int) (i : Int) (a.getD 0 0) (a.getD 1 0) (a.getD 2 0) (a.getD 3 0) (a.getD 4 0) (a.getD 5 0) (a.getD 6 0) (a.getD 7 0) (a.getD 8 0) (a.getD 9 0) (a.getD 10 0) (a.getD 11 0)) (· = T12 (kred ((L.drop i).map l12) a)) := by
  intro d
  induction d with
  | zero =>
    intro i hi a ha hc
    refine Evp.step (fun k => by rw [impl_span_less.l0]) (Evp.neg (by omega) (Evp.some' ?_))
    rw [List.drop_eq_nil_of_le (by omega)]; rfl
  | succ d ih =>
    intro i hi a ha hc
    have hi1 : i < L.length := by omega
    have hg := hL _ (List.getElem_mem hi1)
    have hl := good_lead hg
    obtain ⟨o0, o1, o2, o3, o4, o5, o6, o7, o8, o9, o10, o11⟩ := l12_ok hg.2.1
    refine Evp.step (fun k => by rw [impl_span_less.l0]) (Evp.pos (by omega) (Evp.pos (by omega) (Evp.pos (by omega) ?_)))
    rw [rdK hi1, List.drop_eq_getElem_cons hi1, List.map_cons]
    have hp := hg.2.2
    generalize hpp : ld (toW (l12 L[i])) = p at hl hp
    have e : impl_vector_lead.f L[i].f0.f0 L[i].f0.f1 L[i].f0.f2 L[i].f0.f3 = some (p : Int) := by rw [← hl]; rfl
    simp only [e, Option.bind_some]
    refine Evp.congr (fun k => pick4 hp (fun j => impl_span_less.j1 k (a.getD j 0) L (L.length : Int) (i : Int) (a.getD 0 0) (a.getD 1 0) (a.getD 2 0) (a.getD 3 0) (a.getD 4 0) (a.getD 5 0) (a.getD 6 0) (a.getD 7 0) (a.getD 8 0) (a.getD 9 0) (a.getD 10 0) (a.getD 11 0) L[i].f0.f0 L[i].f0.f1 L[i].f0.f2 L[i].f0.f3 L[i].f1.f0 L[i].f1.f1 L[i].f1.f2 L[i].f1.f3 L[i].f1.f4 L[i].f1.f5 L[i].f1.f6 L[i].f1.f7) none) ?_
    refine less_j1_ev (can_get hc p) (can_get hc 0) (can_get hc 1) (can_get hc 2) (can_get hc 3) (can_get hc 4) (can_get hc 5) (can_get hc 6) (can_get hc 7) (can_get hc 8) (can_get hc 9) (can_get hc 10) (can_get hc 11) o0 o1 o2 o3 o4 o5 o6 o7 o8 o9 o10 o11 ?_
    have hk := ih (i + 1) (by omega) (kl a (l12 L[i])) (kl_len ha hg.1) (can_kl _ _)
    rw [kl_get ha hg.1 (by omega : 0 < 12), kl_get ha hg.1 (by omega : 1 < 12), kl_get ha hg.1 (by omega : 2 < 12), kl_get ha hg.1 (by omega : 3 < 12), kl_get ha hg.1 (by omega : 4 < 12), kl_get ha hg.1 (by omega : 5 < 12), kl_get ha hg.1 (by omega : 6 < 12), kl_get ha hg.1 (by omega : 7 < 12), kl_get ha hg.1 (by omega : 8 < 12), kl_get ha hg.1 (by omega : 9 < 12), kl_get ha hg.1 (by omega : 10 < 12), kl_get ha hg.1 (by omega : 11 < 12), hl, gt_nat] at hk
    rw [wrap_succ (by omega)]
    exact hk
theorem less_ev {L : List S77} (hL : ∀ x ∈ L, Good (l12 x)) (hn : L.length ≤ 1000000) (P : List Int) {a : List Int} (ha : a.length = 12) (hc : can a) :
    Evp (fun k => impl_span_less.f k L P (a.getD 0 0) (a.getD 1 0) (a.getD 2 0) (a.getD 3 0) (a.getD 4 0) (a.getD 5 0) (a.getD 6 0) (a.getD 7 0) (a.getD 8 0) (a.getD 9 0) (a.getD 10 0) (a.getD 11 0)) (· = T12 (kred (L.map l12) a)) := by
  have := less_l0_ev hL hn L.length 0 (by omega) a ha hc
  rw [List.drop_zero] at this
  exact this
/-- a row, told so that it begins with 1 -/
def kunit (z : List Int) : List Int := z.map fun x => x * inv (gt z (llead (z.take 4))) % 31
theorem span_l1_ev {M : List S59} {L : List S77} {P : List Int} {n i q c z0 z1 z2 z3 z4 z5 z6 z7 z8 z9 z10 z11 : Int} (hL : L.length ≤ 1000000) (hP : P.length ≤ 1000000) (hc : ok c = true) (hz4 : ok z4 = true) (hz5 : ok z5 = true) (hz6 : ok z6 = true) (hz7 : ok z7 = true) (hz8 : ok z8 = true) (hz9 : ok z9 = true) (hz10 : ok z10 = true) (hz11 : ok z11 = true) {Q : _ → Prop} (h : Evp (fun k => impl_spanOf.l0 k M n (wrap64 (i + 1)) (L ++ [(⟨⟨z0, z1, z2, z3⟩, ⟨(z4 * c % 31), (z5 * c % 31), (z6 * c % 31), (z7 * c % 31), (z8 * c % 31), (z9 * c % 31), (z10 * c % 31), (z11 * c % 31)⟩⟩ : S77)]) (P ++ [q])) Q) : Evp (fun k => impl_spanOf.l1 k q c M n i 0 L P z0 z1 z2 z3 z4 z5 z6 z7 z8 z9 z10 z11) Q := by
  refine Evp.step (f := fun k => impl_spanOf.l1 k q c M n i 1 L P z0 z1 z2 z3 (z4 * c % 31) z5 z6 z7 z8 z9 z10 z11) (fun k => by rw [impl_spanOf.l1, if_pos (by decide), if_pos rfl, impl_times_eq hz4 hc, Option.bind_some, (by unfold wrap64; omega : wrap64 ((0 : Int) + 1) = 1)]) ?_
  refine Evp.step (f := fun k => impl_spanOf.l1 k q c M n i 2 L P z0 z1 z2 z3 (z4 * c % 31) (z5 * c % 31) z6 z7 z8 z9 z10 z11) (fun k => by rw [impl_spanOf.l1, if_pos (by decide), if_neg (by decide), if_pos rfl, impl_times_eq hz5 hc, Option.bind_some, (by unfold wrap64; omega : wrap64 ((1 : Int) + 1) = 2)]) ?_
  refine Evp.step (f := fun k => impl_spanOf.l1 k q c M n i 3 L P z0 z1 z2 z3 (z4 * c % 31) (z5 * c % 31) (z6 * c % 31) z7 z8 z9 z10 z11) (fun k => by rw [impl_spanOf.l1, if_pos (by decide), if_neg (by decide), if_neg (by decide), if_pos rfl, impl_times_eq hz6 hc, Option.bind_some, (by unfold wrap64; omega : wrap64 ((2 : Int) + 1) = 3)]) ?_
  refine Evp.step (f := fun k => impl_spanOf.l1 k q c M n i 4 L P z0 z1 z2 z3 (z4 * c % 31) (z5 * c % 31) (z6 * c % 31) (z7 * c % 31) z8 z9 z10 z11) (fun k => by rw [impl_spanOf.l1, if_pos (by decide), if_neg (by decide), if_neg (by decide), if_neg (by decide), if_pos rfl, impl_times_eq hz7 hc, Option.bind_some, (by unfold wrap64; omega : wrap64 ((3 : Int) + 1) = 4)]) ?_
  refine Evp.step (f := fun k => impl_spanOf.l1 k q c M n i 5 L P z0 z1 z2 z3 (z4 * c % 31) (z5 * c % 31) (z6 * c % 31) (z7 * c % 31) (z8 * c % 31) z9 z10 z11) (fun k => by rw [impl_spanOf.l1, if_pos (by decide), if_neg (by decide), if_neg (by decide), if_neg (by decide), if_neg (by decide), if_pos rfl, impl_times_eq hz8 hc, Option.bind_some, (by unfold wrap64; omega : wrap64 ((4 : Int) + 1) = 5)]) ?_
  refine Evp.step (f := fun k => impl_spanOf.l1 k q c M n i 6 L P z0 z1 z2 z3 (z4 * c % 31) (z5 * c % 31) (z6 * c % 31) (z7 * c % 31) (z8 * c % 31) (z9 * c % 31) z10 z11) (fun k => by rw [impl_spanOf.l1, if_pos (by decide), if_neg (by decide), if_neg (by decide), if_neg (by decide), if_neg (by decide), if_neg (by decide), if_pos rfl, impl_times_eq hz9 hc, Option.bind_some, (by unfold wrap64; omega : wrap64 ((5 : Int) + 1) = 6)]) ?_
  refine Evp.step (f := fun k => impl_spanOf.l1 k q c M n i 7 L P z0 z1 z2 z3 (z4 * c % 31) (z5 * c % 31) (z6 * c % 31) (z7 * c % 31) (z8 * c % 31) (z9 * c % 31) (z10 * c % 31) z11) (fun k => by rw [impl_spanOf.l1, if_pos (by decide), if_neg (by decide), if_neg (by decide), if_neg (by decide), if_neg (by decide), if_neg (by decide), if_neg (by decide), if_pos rfl, impl_times_eq hz10 hc, Option.bind_some, (by unfold wrap64; omega : wrap64 ((6 : Int) + 1) = 7)]) ?_
  refine Evp.step (f := fun k => impl_spanOf.l1 k q c M n i 8 L P z0 z1 z2 z3 (z4 * c % 31) (z5 * c % 31) (z6 * c % 31) (z7 * c % 31) (z8 * c % 31) (z9 * c % 31) (z10 * c % 31) (z11 * c % 31)) (fun k => by rw [impl_spanOf.l1, if_pos (by decide), if_neg (by decide), if_neg (by decide), if_neg (by decide), if_neg (by decide), if_neg (by decide), if_neg (by decide), if_neg (by decide), if_pos rfl, impl_times_eq hz11 hc, Option.bind_some, (by unfold wrap64; omega : wrap64 ((7 : Int) + 1) = 8)]) ?_
  exact Evp.step (f := fun k => impl_spanOf.l0 k M n (wrap64 (i + 1)) (L ++ [(⟨⟨z0, z1, z2, z3⟩, ⟨(z4 * c % 31), (z5 * c % 31), (z6 * c % 31), (z7 * c % 31), (z8 * c % 31), (z9 * c % 31), (z10 * c % 31), (z11 * c % 31)⟩⟩ : S77)]) (P ++ [q])) (fun k => by rw [impl_spanOf.l1, if_neg (by decide), if_pos (by omega), if_pos (by omega)]) h
theorem span_j2_ev {M : List S59} {L : List S77} {P : List Int} {n i q c z0 z1 z2 z3 z4 z5 z6 z7 z8 z9 z10 z11 : Int} (hL : L.length ≤ 1000000) (hP : P.length ≤ 1000000) (hc : ok c = true) (hz0 : ok z0 = true) (hz1 : ok z1 = true) (hz2 : ok z2 = true) (hz3 : ok z3 = true) (hz4 : ok z4 = true) (hz5 : ok z5 = true) (hz6 : ok z6 = true) (hz7 : ok z7 = true) (hz8 : ok z8 = true) (hz9 : ok z9 = true) (hz10 : ok z10 = true) (hz11 : ok z11 = true) {Q : _ → Prop} (h : Evp (fun k => impl_spanOf.l0 k M n (wrap64 (i + 1)) (L ++ [(⟨⟨(z0 * c % 31), (z1 * c % 31), (z2 * c % 31), (z3 * c % 31)⟩, ⟨(z4 * c % 31), (z5 * c % 31), (z6 * c % 31), (z7 * c % 31), (z8 * c % 31), (z9 * c % 31), (z10 * c % 31), (z11 * c % 31)⟩⟩ : S77)]) (P ++ [q])) Q) : Evp (fun k => impl_spanOf.j2 k q c M n i L P z0 z1 z2 z3 z4 z5 z6 z7 z8 z9 z10 z11) Q := by
  refine Evp.step (f := fun k => impl_spanOf.l1 k q c M n i 0 L P (z0 * c % 31) (z1 * c % 31) (z2 * c % 31) (z3 * c % 31) z4 z5 z6 z7 z8 z9 z10 z11) (fun k => by rw [impl_spanOf.j2, vtimes_eq hz0 hz1 hz2 hz3 hc, Option.bind_some]) ?_
  exact span_l1_ev hL hP hc hz4 hz5 hz6 hz7 hz8 hz9 hz10 hz11 h
/-- row n with its tail -/
def augl (m : List (List Int)) (n : Nat) : List Int := [(m.getD n []).getD 0 0, (m.getD n []).getD 1 0, (m.getD n []).getD 2 0, (m.getD n []).getD 3 0, if n = 0 then 1 else 0, if n = 1 then 1 else 0, if n = 2 then 1 else 0, if n = 3 then 1 else 0, if n = 4 then 1 else 0, if n = 5 then 1 else 0, if n = 6 then 1 else 0, if n = 7 then 1 else 0]
def kpush (s : List (List Int) × List Int) (n : Nat) (z : List Int) : List (List Int) × List Int :=
  if llead ((kred s.1 z).take 4) < 0 then s else (s.1 ++ [kunit (kred s.1 z)], s.2 ++ [(n : Int)])
/-- rows that are kept behind the first n, and their places -/
def kspan (m : List (List Int)) : Nat → List (List Int) × List Int
  | 0 => ([], [])
  | n + 1 => kpush (kspan m n) n (augl m n)
theorem augl_len (m : List (List Int)) (n : Nat) : (augl m n).length = 12 := rfl
theorem can_augl {m : List (List Int)} (hm : ∀ r ∈ m, vok r = true) {n : Nat} (hn : n < m.length) : can (augl m n) := by
  have hv : can (m.getD n []) := by
    rw [List.getD_eq_getElem?_getD, List.getElem?_eq_getElem hn]; exact (vok_iff.1 (hm _ (List.getElem_mem hn))).2
  intro x hx
  simp only [augl, List.mem_cons, List.not_mem_nil, or_false] at hx
  have key : ∀ (c : Prop) [Decidable c], ok (if c then 1 else 0) = true := fun c _ => by split <;> decide
  rcases hx with rfl | rfl | rfl | rfl | rfl | rfl | rfl | rfl | rfl | rfl | rfl | rfl <;> first | exact can_get hv _ | exact key _
theorem kunit_len {z : List Int} (h : z.length = 12) : (kunit z).length = 12 := by simp [kunit, h]
theorem can_kunit (z : List Int) : can (kunit z) := fun x hx => by
  simp only [kunit, List.mem_map] at hx
  obtain ⟨y, _, rfl⟩ := hx; exact mod_ok _
theorem lead_cases12 {z : List Int} (hz : z.length = 12) (hc : can z) : (llead (z.take 4) < 0 ∧ ld (toW z) = 4) ∨ (llead (z.take 4) = (ld (toW z) : Int) ∧ ld (toW z) < 4) := by
  have hv : vok (z.take 4) = true := vok_iff.2 ⟨by simp [hz], can_take hc 4⟩
  rcases Nat.lt_or_ge (ld (toW z)) 4 with h | h
  · exact .inr ⟨by rw [llead_ld (can_take hc 4) (by rw [ld_take4]; exact h), ld_take4], h⟩
  · have h4 : ld (toW z) = 4 := by have := ld_le (toW z); omega
    exact .inl ⟨(llead_neg hv).2 (by rw [ld_take4]; exact h4), h4⟩
theorem kunit_get (z : List Int) (j : Nat) : (kunit z).getD j 0 = z.getD j 0 * inv (gt z (llead (z.take 4))) % 31 := by
  unfold kunit
  rcases Nat.lt_or_ge j z.length with hj | hj
  · rw [List.getD_eq_getElem?_getD, List.getElem?_eq_getElem (by simpa using hj), List.getD_eq_getElem?_getD, List.getElem?_eq_getElem hj]; simp
  · rw [List.getD_eq_getElem?_getD, List.getElem?_eq_none (by simpa using hj), List.getD_eq_getElem?_getD, List.getElem?_eq_none hj]; simp
theorem toW_kunit {z : List Int} (hc : can z) (hl : ld (toW z) < 4) : toW (kunit z) = unitize (toW z) := by
  have e : llead (z.take 4) = (ld (toW z) : Int) := by rw [llead_ld (can_take hc 4) (by rw [ld_take4]; exact hl), ld_take4]
  funext j
  show toF ((kunit z).getD j 0) = finv (toF (z.getD (ld (toW z)) 0)) * toF (z.getD j 0)
  rw [finv_toF (can_get hc _), kunit_get, e, gt_nat, toF_mod, toF_mul]; grind
theorem getD_map {m : List (List Int)} {n : Nat} (hn : n < m.length) : (m.map toW).getD n zz = toW (m.getD n []) := by
  rw [List.getD_eq_getElem?_getD, List.getElem?_eq_getElem (by simpa using hn), List.getD_eq_getElem?_getD, List.getElem?_eq_getElem hn]; simp
theorem tail_at (n j : Nat) {x : F} : toF (if n = j then 1 else 0) = if 4 + j < 4 then x else if 4 + j = 4 + n then 1 else 0 := by
  by_cases h : n = j
  · subst h; rw [if_neg (by omega : ¬ 4 + n < 4), if_pos rfl, if_pos rfl]; rfl
  · rw [if_neg h, if_neg (by omega : ¬ 4 + j < 4), if_neg (by omega : ¬ 4 + j = 4 + n)]; rfl
theorem toW_augl {m : List (List Int)} {n : Nat} (h8 : n < 8) (hn : n < m.length) : toW (augl m n) = aug (m.map toW) n := by
  funext j
  unfold aug
  rw [getD_map hn]
  rcases Nat.lt_or_ge j 12 with hj | hj
  · match j, hj with
    | 0, _ => exact (if_pos (by omega)).symm
    | 1, _ => exact (if_pos (by omega)).symm
    | 2, _ => exact (if_pos (by omega)).symm
    | 3, _ => exact (if_pos (by omega)).symm
    | 4, _ => exact tail_at n 0
    | 5, _ => exact tail_at n 1
    | 6, _ => exact tail_at n 2
    | 7, _ => exact tail_at n 3
    | 8, _ => exact tail_at n 4
    | 9, _ => exact tail_at n 5
    | 10, _ => exact tail_at n 6
    | 11, _ => exact tail_at n 7
  · rw [if_neg (by omega), if_neg (by omega)]
    show toF ((augl m n).getD j 0) = 0
    rw [List.getD_eq_getElem?_getD, List.getElem?_eq_none (by rw [augl_len]; exact hj)]; rfl
/-- what is true of the kept rows -/
theorem kspan_inv {m : List (List Int)} (hm : ∀ r ∈ m, vok r = true) (h8 : m.length ≤ 8) : ∀ n, n ≤ m.length →
    (∀ r ∈ (kspan m n).1, Good r) ∧ (kspan m n).1.map toW = kept (m.map toW) n ∧ (kspan m n).2 = (piv (m.map toW) n).map (fun (j : Nat) => (j : Int)) ∧ (kspan m n).1.length ≤ n ∧ (kspan m n).2.length = (kspan m n).1.length := by
  intro n
  induction n with
  | zero => intro _; exact ⟨by simp [kspan], rfl, rfl, Nat.le_refl _, rfl⟩
  | succ n ih =>
    intro hn
    obtain ⟨h1, h2, h3, h4, h5⟩ := ih (by omega)
    have hz := kred_len h1 (augl_len m n)
    have hc : can (kred (kspan m n).1 (augl m n)) := can_kred (can_augl hm (by omega))
    have ew : toW (kred (kspan m n).1 (augl m n)) = red (kept (m.map toW) n) (aug (m.map toW) n) := by rw [toW_kred h1 (augl_len m n), h2, toW_augl (by omega) (by omega)]
    rw [kept_succ, piv_succ]
    show (∀ r ∈ (kpush (kspan m n) n (augl m n)).1, Good r) ∧ (kpush (kspan m n) n (augl m n)).1.map toW = _ ∧ (kpush (kspan m n) n (augl m n)).2 = _ ∧ (kpush (kspan m n) n (augl m n)).1.length ≤ n + 1 ∧ (kpush (kspan m n) n (augl m n)).2.length = (kpush (kspan m n) n (augl m n)).1.length
    unfold kpush push
    rw [← ew]
    rcases lead_cases12 hz hc with ⟨hl, hd⟩ | ⟨hl, hd⟩
    · rw [if_pos hl, if_pos hd, if_neg (by omega)]
      exact ⟨h1, h2, by simpa using h3, by omega, h5⟩
    · rw [if_neg (by omega), if_neg (by omega), if_pos hd]
      have hg : Good (kunit (kred (kspan m n).1 (augl m n))) := ⟨kunit_len hz, can_kunit _, by rw [toW_kunit hc hd, unitize_ld]; exact hd⟩
      refine ⟨fun r hr => ?_, by rw [List.map_append, h2, List.map_singleton, toW_kunit hc hd], by rw [h3]; simp, by simp; omega, by simp [h5]⟩
      rcases List.mem_append.1 hr with hr | hr
      · exact h1 r hr
      · simp at hr; subst hr; exact hg
theorem rdV {M : List S59} {i : Nat} (h : i < M.length) : rd_T59 M (i : Int) = M[i] := by
  unfold rd_T59; rw [Int.toNat_natCast, List.getD_eq_getElem?_getD, List.getElem?_eq_getElem h]; rfl
theorem map_l12_m12 {L : List (List Int)} (h : ∀ r ∈ L, Good r) : (L.map m12).map l12 = L := by
  rw [List.map_map]
  conv => rhs; rw [← List.map_id L]
  exact List.map_congr_left fun r hr => l12_m12 (h r hr).1
theorem goods_m12 {L : List (List Int)} (h : ∀ r ∈ L, Good r) : ∀ x ∈ L.map m12, Good (l12 x) := fun x hx => by
  obtain ⟨r, hr, rfl⟩ := List.mem_map.1 hx
  rw [l12_m12 (h r hr).1]; exact h r hr
theorem kunit_m12 {z : List Int} : m12 (kunit z) = (⟨⟨z.getD 0 0 * inv (gt z (llead (z.take 4))) % 31, z.getD 1 0 * inv (gt z (llead (z.take 4))) % 31, z.getD 2 0 * inv (gt z (llead (z.take 4))) % 31, z.getD 3 0 * inv (gt z (llead (z.take 4))) % 31⟩, ⟨z.getD 4 0 * inv (gt z (llead (z.take 4))) % 31, z.getD 5 0 * inv (gt z (llead (z.take 4))) % 31, z.getD 6 0 * inv (gt z (llead (z.take 4))) % 31, z.getD 7 0 * inv (gt z (llead (z.take 4))) % 31, z.getD 8 0 * inv (gt z (llead (z.take 4))) % 31, z.getD 9 0 * inv (gt z (llead (z.take 4))) % 31, z.getD 10 0 * inv (gt z (llead (z.take 4))) % 31, z.getD 11 0 * inv (gt z (llead (z.take 4))) % 31⟩⟩ : S77) := by
  unfold m12; rw [kunit_get z 0, kunit_get z 1, kunit_get z 2, kunit_get z 3, kunit_get z 4, kunit_get z 5, kunit_get z 6, kunit_get z 7, kunit_get z 8, kunit_get z 9, kunit_get z 10, kunit_get z 11]
theorem span_l0_ev {m : List (List Int)} (hm : ∀ r ∈ m, vok r = true) (h8 : m.length ≤ 8) : ∀ (d i : Nat), i + d = m.length →
    Evp (fun k => impl_spanOf.l0 k (m.map toS) (((m.map toS).length : Nat) : Int) (i : Int) ((kspan m i).1.map m12) (kspan m i).2) (· = ((kspan m m.length).1.map m12, (kspan m m.length).2)) := by
  intro d
  induction d with
  | zero =>
    intro i hi
    refine Evp.step (fun k => by rw [impl_spanOf.l0]) (Evp.neg (by simp; omega) (Evp.some' ?_))
    rw [show i = m.length by omega]
  | succ d ih =>
    intro i hi
    have hi1 : i < m.length := by omega
    obtain ⟨h1, h2, h3, h4, h5⟩ := kspan_inv hm h8 i (by omega)
    have hz := kred_len h1 (augl_len m i)
    have hc : can (kred (kspan m i).1 (augl m i)) := can_kred (can_augl hm hi1)
    have ih := ih (i + 1) (by omega)
    refine Evp.step (fun k => by rw [impl_spanOf.l0]) (Evp.pos (by simp; omega) (Evp.pos (by omega) (Evp.pos (by simp; omega) ?_)))
    rw [rdV (by simpa using hi1)]
    have em : (m.map toS)[i]'(by simpa using hi1) = toS (m.getD i []) := by rw [List.getElem_map, List.getD_eq_getElem?_getD, List.getElem?_eq_getElem hi1]; rfl
    rw [em]
    refine Evp.congr (fun k => pick8 (p := i) (by omega) (fun j => impl_spanOf.j1 k (i : Int) (m.map toS) (((m.map toS).length : Nat) : Int) (i : Int) ((kspan m i).1.map m12) (kspan m i).2 (toS (m.getD i [])).f0 (toS (m.getD i [])).f1 (toS (m.getD i [])).f2 (toS (m.getD i [])).f3 (if j = 0 then 1 else 0) (if j = 1 then 1 else 0) (if j = 2 then 1 else 0) (if j = 3 then 1 else 0) (if j = 4 then 1 else 0) (if j = 5 then 1 else 0) (if j = 6 then 1 else 0) (if j = 7 then 1 else 0)) none) ?_
    refine Evp.step (fun k => by rw [impl_spanOf.j1]) ?_
    refine Evp.bind (Q := (· = T12 (kred (kspan m i).1 (augl m i)))) ?_ fun t ht => ?_
    · have := less_ev (goods_m12 h1) (by simp; omega) (kspan m i).2 (augl_len m i) (can_augl hm hi1)
      rw [map_l12_m12 h1] at this
      exact this
    subst ht
    generalize hzz : kred (kspan m i).1 (augl m i) = z at hz hc
    have e : impl_vector_lead.f (T12 z).1 (T12 z).2.1 (T12 z).2.2.1 (T12 z).2.2.2.1 = some (llead (z.take 4)) := by
      rw [← take4_four hz]; rfl
    simp only [e, Option.bind_some]
    rw [show kspan m (i + 1) = kpush (kspan m i) i (augl m i) from rfl] at ih
    unfold kpush at ih
    rw [hzz, ← wrap_succ (by omega)] at ih
    rcases lead_cases12 hz hc with ⟨hl, hd⟩ | ⟨hl, hd⟩
    · rw [if_pos hl] at ih
      exact Evp.pos hl ih
    · rw [if_neg (by omega)] at ih
      refine Evp.neg (by omega) ?_
      rw [hl]
      refine Evp.congr (fun k => pick4 hd (fun j => (impl_element_inverse.f k (z.getD j 0)).bind fun t => impl_spanOf.j2 k (i : Int) t (m.map toS) (((m.map toS).length : Nat) : Int) (i : Int) ((kspan m i).1.map m12) (kspan m i).2 (z.getD 0 0) (z.getD 1 0) (z.getD 2 0) (z.getD 3 0) (z.getD 4 0) (z.getD 5 0) (z.getD 6 0) (z.getD 7 0) (z.getD 8 0) (z.getD 9 0) (z.getD 10 0) (z.getD 11 0)) none) ?_
      have hne : z.getD (ld (toW z)) 0 ≠ 0 := fun e0 => ld_at hd (by show toF (z.getD (ld (toW z)) 0) = 0; rw [e0]; rfl)
      refine Evp.bind (impl_inverse_ev (can_get hc _) hne) fun c hcc => ?_
      subst hcc
      refine span_j2_ev (by simp; omega) (by omega) (ok_iff.2 (inv_range _)) (can_get hc 0) (can_get hc 1) (can_get hc 2) (can_get hc 3) (can_get hc 4) (can_get hc 5) (can_get hc 6) (can_get hc 7) (can_get hc 8) (can_get hc 9) (can_get hc 10) (can_get hc 11) ?_
      rw [List.map_append, List.map_singleton, kunit_m12, hl, gt_nat] at ih
      exact ih
theorem spanOf_ev {m : List (List Int)} (hm : ∀ r ∈ m, vok r = true) (h8 : m.length ≤ 8) : Evp (fun k => impl_spanOf.f k (m.map toS)) (· = ((kspan m m.length).1.map m12, (kspan m m.length).2)) := span_l0_ev hm h8 m.length 0 (by omega)
theorem l3Has_eq {m : List (List Int)} (h : mok m = true) {v : List Int} (hv : vok v = true) : spec_l3Has.f m v = some (lhas m v) := by
  obtain ⟨h8, hr⟩ := mok_iff.1 h
  unfold spec_l3Has.f
  rw [if_pos ⟨⟨by omega, by simpa using hr⟩, hv⟩]
theorem spec_SpanHas_ev {m : List (List Int)} (hm : m.length ≤ 1048576) (hr : ∀ r ∈ m, r.length ≤ 1048576) {v : List Int} (hv : v.length ≤ 1000000000000) : Evp (fun k => spec_SpanHas.f k m v) (· = (mok m && vok v && lhas m v)) := by
  unfold spec_SpanHas.f
  refine Evp.bind (spec_SpanOk_ev hm hr) fun t ht => ?_
  subst ht
  refine Evp.ite (fun h => ?_) fun h => Evp.some' (by simp [h])
  refine Evp.bind (spec_VecOk_ev hv) fun t ht => ?_
  subst ht
  refine Evp.ite (fun h2 => ?_) fun h2 => Evp.some' (by simp [h2])
  rw [l3Has_eq h h2]
  exact Evp.some' (by rw [h, h2]; rfl)
theorem by_l0_ev {z0 z1 z2 z3 z4 z5 z6 z7 z8 z9 z10 z11 : Int} (hz4 : ok z4 = true) (hz5 : ok z5 = true) (hz6 : ok z6 = true) (hz7 : ok z7 = true) (hz8 : ok z8 = true) (hz9 : ok z9 = true) (hz10 : ok z10 = true) (hz11 : ok z11 = true) : Evp (fun k => impl_span_by.l0 k 0 z0 z1 z2 z3 z4 z5 z6 z7 z8 z9 z10 z11) (· = (((-z4) % 31), ((-z5) % 31), ((-z6) % 31), ((-z7) % 31), ((-z8) % 31), ((-z9) % 31), ((-z10) % 31), ((-z11) % 31), (z0 == 0 && (z1 == 0 && (z2 == 0 && (z3 == 0)))))) := by
  rw [ok_iff] at hz4 hz5 hz6 hz7 hz8 hz9 hz10 hz11
  refine Evp.step (f := fun k => impl_span_by.l0 k 1 z0 z1 z2 z3 ((-z4) % 31) z5 z6 z7 z8 z9 z10 z11) (fun k => by rw [impl_span_by.l0, if_pos (by decide), if_pos rfl, Go.Proofs.Ytbhmgbeebhmfkaa.Pure.wrap_small (x := -z4) (by omega), elementOf_eq (by omega), Option.bind_some, (by unfold wrap64; omega : wrap64 ((0 : Int) + 1) = 1)]) ?_
  refine Evp.step (f := fun k => impl_span_by.l0 k 2 z0 z1 z2 z3 ((-z4) % 31) ((-z5) % 31) z6 z7 z8 z9 z10 z11) (fun k => by rw [impl_span_by.l0, if_pos (by decide), if_neg (by decide), if_pos rfl, Go.Proofs.Ytbhmgbeebhmfkaa.Pure.wrap_small (x := -z5) (by omega), elementOf_eq (by omega), Option.bind_some, (by unfold wrap64; omega : wrap64 ((1 : Int) + 1) = 2)]) ?_
  refine Evp.step (f := fun k => impl_span_by.l0 k 3 z0 z1 z2 z3 ((-z4) % 31) ((-z5) % 31) ((-z6) % 31) z7 z8 z9 z10 z11) (fun k => by rw [impl_span_by.l0, if_pos (by decide), if_neg (by decide), if_neg (by decide), if_pos rfl, Go.Proofs.Ytbhmgbeebhmfkaa.Pure.wrap_small (x := -z6) (by omega), elementOf_eq (by omega), Option.bind_some, (by unfold wrap64; omega : wrap64 ((2 : Int) + 1) = 3)]) ?_
  refine Evp.step (f := fun k => impl_span_by.l0 k 4 z0 z1 z2 z3 ((-z4) % 31) ((-z5) % 31) ((-z6) % 31) ((-z7) % 31) z8 z9 z10 z11) (fun k => by rw [impl_span_by.l0, if_pos (by decide), if_neg (by decide), if_neg (by decide), if_neg (by decide), if_pos rfl, Go.Proofs.Ytbhmgbeebhmfkaa.Pure.wrap_small (x := -z7) (by omega), elementOf_eq (by omega), Option.bind_some, (by unfold wrap64; omega : wrap64 ((3 : Int) + 1) = 4)]) ?_
  refine Evp.step (f := fun k => impl_span_by.l0 k 5 z0 z1 z2 z3 ((-z4) % 31) ((-z5) % 31) ((-z6) % 31) ((-z7) % 31) ((-z8) % 31) z9 z10 z11) (fun k => by rw [impl_span_by.l0, if_pos (by decide), if_neg (by decide), if_neg (by decide), if_neg (by decide), if_neg (by decide), if_pos rfl, Go.Proofs.Ytbhmgbeebhmfkaa.Pure.wrap_small (x := -z8) (by omega), elementOf_eq (by omega), Option.bind_some, (by unfold wrap64; omega : wrap64 ((4 : Int) + 1) = 5)]) ?_
  refine Evp.step (f := fun k => impl_span_by.l0 k 6 z0 z1 z2 z3 ((-z4) % 31) ((-z5) % 31) ((-z6) % 31) ((-z7) % 31) ((-z8) % 31) ((-z9) % 31) z10 z11) (fun k => by rw [impl_span_by.l0, if_pos (by decide), if_neg (by decide), if_neg (by decide), if_neg (by decide), if_neg (by decide), if_neg (by decide), if_pos rfl, Go.Proofs.Ytbhmgbeebhmfkaa.Pure.wrap_small (x := -z9) (by omega), elementOf_eq (by omega), Option.bind_some, (by unfold wrap64; omega : wrap64 ((5 : Int) + 1) = 6)]) ?_
  refine Evp.step (f := fun k => impl_span_by.l0 k 7 z0 z1 z2 z3 ((-z4) % 31) ((-z5) % 31) ((-z6) % 31) ((-z7) % 31) ((-z8) % 31) ((-z9) % 31) ((-z10) % 31) z11) (fun k => by rw [impl_span_by.l0, if_pos (by decide), if_neg (by decide), if_neg (by decide), if_neg (by decide), if_neg (by decide), if_neg (by decide), if_neg (by decide), if_pos rfl, Go.Proofs.Ytbhmgbeebhmfkaa.Pure.wrap_small (x := -z10) (by omega), elementOf_eq (by omega), Option.bind_some, (by unfold wrap64; omega : wrap64 ((6 : Int) + 1) = 7)]) ?_
  refine Evp.step (f := fun k => impl_span_by.l0 k 8 z0 z1 z2 z3 ((-z4) % 31) ((-z5) % 31) ((-z6) % 31) ((-z7) % 31) ((-z8) % 31) ((-z9) % 31) ((-z10) % 31) ((-z11) % 31)) (fun k => by rw [impl_span_by.l0, if_pos (by decide), if_neg (by decide), if_neg (by decide), if_neg (by decide), if_neg (by decide), if_neg (by decide), if_neg (by decide), if_neg (by decide), if_pos rfl, Go.Proofs.Ytbhmgbeebhmfkaa.Pure.wrap_small (x := -z11) (by omega), elementOf_eq (by omega), Option.bind_some, (by unfold wrap64; omega : wrap64 ((7 : Int) + 1) = 8)]) ?_
  exact Evp.step (f := fun k => some _) (fun k => by rw [impl_span_by.l0, if_neg (by decide)]) (Evp.some' rfl)
/-- how often each, as the program tells it -/
def coefs (m : List (List Int)) (v : List Int) : List Int := (List.range m.length).map fun j => (-(kred (kspan m m.length).1 (v ++ [0, 0, 0, 0, 0, 0, 0, 0])).getD (4 + j) 0) % 31
def lby (m : List (List Int)) (v : List Int) : List Int × Bool := if mok m && vok v && lhas m v then (coefs m v, true) else ([], false)
theorem impl_by_ev {L : List (List Int)} (hL : ∀ r ∈ L, Good r) (hn : L.length ≤ 1000000) (P : List Int) {v : List Int} (hv : vok v = true) {z : List Int} (hz : kred L (v ++ [0, 0, 0, 0, 0, 0, 0, 0]) = z) :
    Evp (fun k => impl_span_by.f k (L.map m12) P (v.getD 0 0) (v.getD 1 0) (v.getD 2 0) (v.getD 3 0)) (· = ((-(z.getD 4 0)) % 31, (-(z.getD 5 0)) % 31, (-(z.getD 6 0)) % 31, (-(z.getD 7 0)) % 31, (-(z.getD 8 0)) % 31, (-(z.getD 9 0)) % 31, (-(z.getD 10 0)) % 31, (-(z.getD 11 0)) % 31, (z.getD 0 0 == 0 && (z.getD 1 0 == 0 && (z.getD 2 0 == 0 && (z.getD 3 0 == 0)))))) := by
  obtain ⟨a, b, c, d, rfl, ha, hb, hc, hd⟩ := vok_four hv
  have h12 : ([a, b, c, d] ++ [0, 0, 0, 0, 0, 0, 0, 0] : List Int).length = 12 := rfl
  have hcan : can ([a, b, c, d] ++ [0, 0, 0, 0, 0, 0, 0, 0]) := fun x hx => by
    simp only [List.cons_append, List.nil_append, List.mem_cons, List.not_mem_nil, or_false] at hx
    rcases hx with rfl | rfl | rfl | rfl | rfl | rfl | rfl | rfl | rfl | rfl | rfl | rfl <;> first | assumption | decide
  have hcz : can z := hz ▸ can_kred hcan
  unfold impl_span_by.f
  refine Evp.bind (Q := (· = T12 z)) ?_ fun t ht => ?_
  · have := less_ev (goods_m12 hL) (by simp; omega) P h12 hcan
    rw [map_l12_m12 hL, hz] at this
    exact this
  subst ht
  exact by_l0_ev (can_get hcz 4) (can_get hcz 5) (can_get hcz 6) (can_get hcz 7) (can_get hcz 8) (can_get hcz 9) (can_get hcz 10) (can_get hcz 11)
theorem spanBy_l0_ev {n : Nat} (hn : n ≤ 8) {b0 b1 b2 b3 b4 b5 b6 b7 : Int} : ∀ (d i : Nat), i + d = n → ∀ out : List Int, out.length = i →
    Evp (fun k => impl_SpanBy.l0 k out (n : Int) (i : Int) b0 b1 b2 b3 b4 b5 b6 b7) (· = (out ++ (([b0, b1, b2, b3, b4, b5, b6, b7] : List Int).take n).drop i, true)) := by
  intro d
  induction d with
  | zero =>
    intro i hi out ho
    refine Evp.step (fun k => by rw [impl_SpanBy.l0]) (Evp.neg (by omega) (Evp.some' ?_))
    rw [List.drop_eq_nil_of_le (by rw [List.length_take]; omega), List.append_nil]
  | succ d ih =>
    intro i hi out ho
    refine Evp.step (fun k => by rw [impl_SpanBy.l0]) (Evp.pos (by omega) ?_)
    refine Evp.congr (fun k => pick8 (p := i) (by omega) (fun j => if out.length < 17592186044416 then impl_SpanBy.l0 k (out ++ [([b0, b1, b2, b3, b4, b5, b6, b7] : List Int).getD j 0]) (n : Int) (wrap64 ((i : Int) + 1)) b0 b1 b2 b3 b4 b5 b6 b7 else none) none) ?_
    refine Evp.pos (by omega) ?_
    rw [wrap_succ (by omega)]
    have := ih (i + 1) (by omega) (out ++ [([b0, b1, b2, b3, b4, b5, b6, b7] : List Int).getD i 0]) (by simp [ho])
    rw [List.append_assoc] at this
    have e : [([b0, b1, b2, b3, b4, b5, b6, b7] : List Int).getD i 0] ++ (([b0, b1, b2, b3, b4, b5, b6, b7] : List Int).take n).drop (i + 1) = (([b0, b1, b2, b3, b4, b5, b6, b7] : List Int).take n).drop i := by
      have h1 : i < (([b0, b1, b2, b3, b4, b5, b6, b7] : List Int).take n).length := by rw [List.length_take]; simp; omega
      rw [List.drop_eq_getElem_cons h1, List.getElem_take, List.singleton_append, List.getD_eq_getElem?_getD, List.getElem?_eq_getElem (by simp; omega)]; rfl
    rw [e] at this
    exact this
theorem range_take (f : Nat → Int) {n : Nat} (hn : n ≤ 8) : ([f 0, f 1, f 2, f 3, f 4, f 5, f 6, f 7] : List Int).take n = (List.range n).map f := by
  match n, hn with
  | 0, _ => rfl
  | 1, _ => rfl
  | 2, _ => rfl
  | 3, _ => rfl
  | 4, _ => rfl
  | 5, _ => rfl
  | 6, _ => rfl
  | 7, _ => rfl
  | 8, _ => rfl
theorem toW_zeros {v : List Int} (hv : vok v = true) : toW (v ++ [0, 0, 0, 0, 0, 0, 0, 0]) = toW v := by
  obtain ⟨a, b, c, d, rfl, _⟩ := vok_four hv
  funext j
  show toF _ = toF _
  congr 1
  rcases Nat.lt_or_ge j 12 with hj | hj
  · match j, hj with
    | 0, _ => rfl
    | 1, _ => rfl
    | 2, _ => rfl
    | 3, _ => rfl
    | 4, _ => rfl
    | 5, _ => rfl
    | 6, _ => rfl
    | 7, _ => rfl
    | 8, _ => rfl
    | 9, _ => rfl
    | 10, _ => rfl
    | 11, _ => rfl
  · rw [List.getD_eq_getElem?_getD, List.getElem?_eq_none (by simp; omega), List.getD_eq_getElem?_getD, List.getElem?_eq_none (by simp; omega)]
/-- what is left of a row is 0 just if it is made of the rows -/
theorem left_zero {m : List (List Int)} (hm : ∀ r ∈ m, vok r = true) (h8 : m.length ≤ 8) {v : List Int} (hv : vok v = true) {z : List Int} (hz : kred (kspan m m.length).1 (v ++ [0, 0, 0, 0, 0, 0, 0, 0]) = z) :
    (z.getD 0 0 == 0 && (z.getD 1 0 == 0 && (z.getD 2 0 == 0 && (z.getD 3 0 == 0)))) = lhas m v ∧ toW z = red (kept (m.map toW) m.length) (toW v) ∧ can z := by
  obtain ⟨h1, h2, h3, h4, h5⟩ := kspan_inv hm h8 m.length (Nat.le_refl _)
  have h12 : (v ++ [0, 0, 0, 0, 0, 0, 0, 0]).length = 12 := by rw [List.length_append, (vok_iff.1 hv).1]; rfl
  have hcan : can (v ++ [0, 0, 0, 0, 0, 0, 0, 0]) := fun x hx => by
    rcases List.mem_append.1 hx with h | h
    · exact (vok_iff.1 hv).2 x h
    · simp at h; subst h; decide
  have ew : toW z = red (kept (m.map toW) m.length) (toW v) := by rw [← hz, toW_kred h1 h12, h2, toW_zeros hv]
  have hc : can z := hz ▸ can_kred hcan
  refine ⟨?_, ew, hc⟩
  have hb := (by_kept (toW_fours hm) (toW_four (vok_iff.1 hv).1)).1
  rw [List.length_map, ← ew] at hb
  rw [Bool.eq_iff_iff, lhas_iff hm hv, ← hb, ld_four_iff]
  simp only [Bool.and_eq_true, beq_iff_eq]
  constructor
  · rintro ⟨e0, e1, e2, e3⟩ i hi
    match i, hi with
    | 0, _ => exact (toW_zero_iff hc 0).2 e0
    | 1, _ => exact (toW_zero_iff hc 1).2 e1
    | 2, _ => exact (toW_zero_iff hc 2).2 e2
    | 3, _ => exact (toW_zero_iff hc 3).2 e3
  · intro h
    exact ⟨(toW_zero_iff hc 0).1 (h 0 (by omega)), (toW_zero_iff hc 1).1 (h 1 (by omega)), (toW_zero_iff hc 2).1 (h 2 (by omega)), (toW_zero_iff hc 3).1 (h 3 (by omega))⟩
theorem impl_SpanBy_ev {m : List (List Int)} (hm : m.length ≤ 1048576) (v : List Int) : Evp (fun k => impl_SpanBy.f k m v) (· = lby m v) := by
  unfold impl_SpanBy.f
  refine Evp.bind (impl_matrixOf_ev hm) fun t ht => ?_
  subst ht
  have no : ∀ (x6 : _) a b c d, Evp (fun k => impl_SpanBy.j0 k m x6 true a b c d) (· = ([], false)) := fun x6 a b c d => Evp.step (fun k => by rw [impl_SpanBy.j0]) (Evp.pos rfl (Evp.some' rfl))
  by_cases hv : vok v = true
  · obtain ⟨a, b, c, d, rfl, _⟩ := vok_four hv
    simp only [impl_vectorOf_ok hv, Option.bind_some]
    by_cases hk : mok m = true
    · obtain ⟨h8, hr⟩ := mok_iff.1 hk
      have ha : m.all vok = true := by simpa using hr
      rw [if_pos ha]
      refine Evp.pos (by simp; omega) ?_
      refine Evp.step (fun k => by rw [impl_SpanBy.j0]) (Evp.neg (by simp) ?_)
      refine Evp.bind (spanOf_ev hr h8) fun t ht => ?_
      subst ht
      obtain ⟨h1, h2, h3, h4, h5⟩ := kspan_inv hr h8 m.length (Nat.le_refl _)
      refine Evp.bind (impl_by_ev h1 (by omega) (kspan m m.length).2 hv rfl) fun t ht => ?_
      subst ht
      obtain ⟨e1, e2, e3⟩ := left_zero hr h8 hv rfl
      generalize hz : kred (kspan m m.length).1 ([a, b, c, d] ++ [0, 0, 0, 0, 0, 0, 0, 0]) = z at e1 e2 e3
      simp only [e1]
      unfold lby
      rw [hk, hv]
      refine Evp.ite (fun hh => ?_) fun hh => Evp.some' (by simp [hh])
      refine Evp.pos (by omega) (Evp.pos (by omega) ?_)
      refine (spanBy_l0_ev h8 m.length 0 (by omega) [] rfl).mono fun r hrr => ?_
      rw [hrr, hh, List.drop_zero, List.nil_append, range_take (fun j => (-(z.getD (4 + j) 0)) % 31) h8]
      simp only [Bool.and_self, if_true, coefs, hz]
    · have e : lby m [a, b, c, d] = ([], false) := by unfold lby; rw [Bool.eq_false_iff.2 hk]; rfl
      rw [e]
      by_cases ha : m.all vok = true
      · rw [if_pos ha]
        refine Evp.neg ?_ (no _ _ _ _ _)
        intro h; apply hk; exact mok_iff.2 ⟨by simpa using h, by simpa using ha⟩
      · rw [if_neg ha]
        exact Evp.neg (by simp) (no _ _ _ _ _)
  · have hv' := Bool.eq_false_iff.2 hv
    simp only [impl_vectorOf_no hv', Option.bind_some]
    have e : lby m v = ([], false) := by unfold lby; rw [hv', Bool.and_false]; rfl
    rw [e]
    exact Evp.ite (fun _ => no _ _ _ _ _) fun _ => no _ _ _ _ _
theorem impl_SpanHas_ev {m : List (List Int)} (hm : m.length ≤ 1048576) (v : List Int) : Evp (fun k => impl_SpanHas.f k m v) (· = (mok m && vok v && lhas m v)) := by
  unfold impl_SpanHas.f
  refine Evp.bind (impl_SpanBy_ev hm v) fun t ht => ?_
  subst ht
  refine Evp.some' ?_
  unfold lby
  cases (mok m && vok v && lhas m v) <;> rfl
def lmadeN (m : List (List Int)) (b : List Int) (n : Nat) : List Int := (List.range n).foldl (fun v i => lsum v (lscale (m.getD i []) (b.getD i 0))) [0, 0, 0, 0]
theorem lmadeN_succ (m : List (List Int)) (b : List Int) (n : Nat) : lmadeN m b (n + 1) = lsum (lmadeN m b n) (lscale (m.getD n []) (b.getD n 0)) := by simp [lmadeN, List.range_succ]
theorem lmadeN_vok {m : List (List Int)} (hm : ∀ r ∈ m, vok r = true) (b : List Int) : ∀ n, n ≤ m.length → vok (lmadeN m b n) = true := by
  intro n
  induction n with
  | zero => intro _; rfl
  | succ n ih =>
    intro hn
    have h1 := vok_iff.1 (ih (by omega))
    have h2 := vok_iff.1 (vok_getD hm (i := n) (by omega))
    rw [lmadeN_succ]
    exact vok_iff.2 ⟨by rw [lsum_len (by rw [lscale_len, h1.1, h2.1]), h1.1], can_lsum _ _⟩
theorem toW_lmadeN {m : List (List Int)} (hm : ∀ r ∈ m, vok r = true) (b : List Int) : ∀ n, n ≤ m.length → toW (lmadeN m b n) = comb (toW b) ((m.map toW).take n) := by
  intro n
  induction n with
  | zero => intro _; rw [List.take_zero]; exact funext fun i => toW_replicate 4 i
  | succ n ih =>
    intro hn
    have h1 := vok_iff.1 (lmadeN_vok hm b n (by omega))
    have h2 := vok_iff.1 (vok_getD hm (i := n) (by omega))
    rw [lmadeN_succ, take_snoc (m.map toW) (by rw [List.length_map]; omega), comb_snoc, ← ih (by omega), getD_map_toW]
    have hl : ((m.map toW).take n).length = n := by rw [List.length_take, List.length_map]; omega
    rw [hl]
    funext i
    rw [toW_lsum (by rw [lscale_len, h1.1, h2.1]), toW_lscale]
    show toW (lmadeN m b n) i + toW (m.getD n []) i * toF (b.getD n 0) = toW (lmadeN m b n) i + toF (b.getD n 0) * toW (m.getD n []) i
    grind
theorem toW_made {m : List (List Int)} (hm : ∀ r ∈ m, vok r = true) (b : List Int) : toW (lmadeN m b m.length) = comb (toW b) (m.map toW) := by
  rw [toW_lmadeN hm b _ (Nat.le_refl _), List.take_of_length_le (by rw [List.length_map]; exact Nat.le_refl _)]
theorem lhas_made {m : List (List Int)} (hm : ∀ r ∈ m, vok r = true) (b : List Int) : lhas m (lmadeN m b m.length) = true := by
  rw [lhas_iff hm (lmadeN_vok hm b _ (Nat.le_refl _)), toW_made hm]
  exact comb_in _ _
theorem lhas_zero {m : List (List Int)} (hm : ∀ r ∈ m, vok r = true) : lhas m [0, 0, 0, 0] = true := by
  rw [lhas_iff hm rfl, show toW [0, 0, 0, 0] = comb (toW []) ((m.map toW).take 0) from toW_lmadeN hm [] 0 (by omega)]
  exact In.le (fun s hs => List.mem_of_mem_take hs) (comb_in _ _)
theorem vscale_ok {v : List Int} {c : Int} (hv : vok v = true) (hc : ok c = true) : vscale v c = lscale v c := by unfold vscale; rw [hv, hc]; rfl
theorem vsum_ok {a b : List Int} (ha : vok a = true) (hb : vok b = true) : vsum a b = lsum a b := by unfold vsum; rw [ha, hb]; rfl
theorem lkMade_ev {m : List (List Int)} (ho : mok m = true) {b : List Int} (hb : can b) (hl : b.length = m.length) : Evp (fun k => laws_lkMade.f k m b) (· = lmadeN m b m.length) := by
  obtain ⟨h8, hm⟩ := mok_iff.1 ho
  have key : ∀ (d i : Nat), i + d = m.length → Evp (fun k => laws_lkMade.l0 k m b (lmadeN m b i) (i : Int)) (· = lmadeN m b m.length) := by
    intro d
    induction d with
    | zero =>
      intro i hi
      obtain rfl : i = m.length := by omega
      exact Evp.step (fun k => by rw [laws_lkMade.l0]) (Evp.neg (by omega) (Evp.step (fun k => by rw [laws_lkMade.j1]) (Evp.neg (by simp) (Evp.some' rfl))))
    | succ d ih =>
      intro i hi
      refine Evp.step (fun k => by rw [laws_lkMade.l0]) (Evp.pos (by omega) (Evp.step (fun k => by rw [laws_lkMade.j1]) (Evp.pos (by simp; omega) (Evp.pos (by omega) (Evp.pos (by omega) (Evp.pos (by omega) ?_))))))
      have hr := vok_getD hm (i := i) (by omega)
      have hc := can_get hb i
      have hs : vok (lscale (m.getD i []) (b.getD i 0)) = true := vok_iff.2 ⟨by rw [lscale_len, (vok_iff.1 hr).1], can_lscale _ _⟩
      rw [rdL1_nat, rd_nat, wrap_succ (by omega)]
      refine Evp.bind (impl_VecScale_ev _ _) fun t ht => ?_
      subst ht
      refine Evp.bind (impl_VecSum_ev _ _) fun t ht => ?_
      subst ht
      rw [vscale_ok hr hc, vsum_ok (lmadeN_vok hm b i (by omega)) hs, ← lmadeN_succ]
      exact ih (i + 1) (by omega)
  unfold laws_lkMade.f
  exact key m.length 0 (by omega)

def Dw (r : List (List Int) × List Int) : Prop := Dm r.1 ∧ r.2.length ≤ 10
theorem made_l0_ev {l : List Int} (hs : St l) {m : List (List Int)} (ho : mok m = true) : ∀ (d i : Nat), i + d = m.length → ∀ (v : List Int) (q : Int), vok v = true → 0 ≤ q ∧ q ≤ 90000 + 4 * i →
    Evp (fun k => spec_l91Made.l0 k m v (i : Int) l q) (fun r => r.1 = m ∧ r.2.1.length ≤ 10) := by
  intro d
  obtain ⟨h8, hm⟩ := mok_iff.1 ho
  induction d with
  | zero =>
    intro i hi v q hv hq
    exact Evp.step (fun k => by rw [spec_l91Made.l0]) (Evp.neg (by omega) (Evp.some' ⟨rfl, by show v.length ≤ 10; have := (vok_iff.1 hv).1; omega⟩))
  | succ d ih =>
    intro i hi v q hv hq
    have hr := vok_getD hm (i := i) (by omega)
    refine Evp.step (fun k => by rw [spec_l91Made.l0]) (Evp.pos (by omega) (Evp.pos (by omega) ?_))
    refine Evp.bind (pick_ev hs (n := 31) (by omega) (by omega)) fun r1 h1 => ?_
    refine Evp.bind (pick_ev hs (n := 2) (by omega) (by omega)) fun r2 h2 => ?_
    have hp : 0 ≤ r1.1 * r2.1 ∧ r1.1 * r2.1 < 31 := by
      rcases (by omega : r2.1 = 0 ∨ r2.1 = 1) with h | h <;> rw [h] <;> omega
    rw [rdL1_nat, wrap_small (by omega), wrap_succ (by omega)]
    refine Evp.bind (l2Scale_ev (vok_iff.1 hr).2 (ok_iff.2 ⟨hp.1, by omega⟩) (by have := (vok_iff.1 hr).1; omega)) fun t ht => ?_
    subst ht
    have hl : v.length = (lscale (m.getD i []) (r1.1 * r2.1)).length := by rw [lscale_len, (vok_iff.1 hv).1, (vok_iff.1 hr).1]
    refine Evp.bind (l2Sum_ev (vok_iff.1 hv).2 (can_lscale _ _) hl (by have := (vok_iff.1 hv).1; omega)) fun t ht => ?_
    subst ht
    exact ih (i + 1) (by omega) _ _ (vok_iff.2 ⟨by rw [lsum_len hl, (vok_iff.1 hv).1], can_lsum _ _⟩) (by omega)
theorem l91Made_ev {l : List Int} (hs : St l) : Evp (fun k => spec_l91Made.f k l 0) (fun r => Dm r.1 ∧ r.2.1.length ≤ 10) := by
  unfold spec_l91Made.f
  refine Evp.bind (l91Rows_ev hs (p := 0) (by omega)) fun r1 h1 => ?_
  refine Evp.bind (l91Vec_ev hs (by omega)) fun r2 h2 => ?_
  refine Evp.bind (spec_SpanOk_ev (by omega) (fun r hr => by have := h1.1.2 r hr; omega)) fun t ht => ?_
  subst ht
  have hd : Dm r1.1 := ⟨by omega, h1.1.2⟩
  have h10 : r2.1.length ≤ 10 := by have := h2.1.2.1; omega
  have no : ∀ q, Evp (fun k => spec_l91Made.j0 k r1.1 r2.1 false l q) (fun r => Dm r.1 ∧ r.2.1.length ≤ 10) := fun q =>
    Evp.step (fun k => by rw [spec_l91Made.j0]) (Evp.neg (by simp) (Evp.some' ⟨hd, h10⟩))
  refine Evp.ite (fun ho => ?_) fun _ => no _
  refine Evp.ite (fun _ => ?_) fun _ => no _
  refine Evp.bind (pick_ev hs (n := 3) (by omega) (by omega)) fun r3 h3 => ?_
  refine Evp.step (fun k => by rw [spec_l91Made.j0]) (Evp.ite (fun _ => Evp.pos (by omega) ?_) fun _ => Evp.some' ⟨hd, h10⟩)
  refine Evp.mono (made_l0_ev hs ho r1.1.length 0 (by omega) _ _ (by rfl) (by omega)) fun r hr => ?_
  exact ⟨by rw [hr.1]; exact hd, hr.2⟩
theorem drawSpanHas_ev {l : List Int} (h : ∀ x ∈ l, 0 ≤ x ∧ x ≤ 255) : Evp (fun k => spec_DrawSpanHas.f k l) Dw := by
  unfold spec_DrawSpanHas.f
  obtain ⟨l', e, hs⟩ := open_eq l h
  rw [e]; simp only [Option.bind_some]
  exact Evp.bind (l91Made_ev hs) fun r hr => Evp.some' hr
theorem FnSpanHas : laws_FnSpanHas.Pure := by
  intro l l1 hm hl hw hm1 hl1 hw1
  refine Evp.rounds ?_
  have key1 : ∀ (m : List (List Int)) (v : List Int) (c : Bool), l1.length ≤ 1048576 → Dw (m, v) → (c = false → mok m = true ∧ vok v = true) → Evp (fun k => laws_FnSpanHas.j1 k l1 m v (mok m && vok v && lhas m v) c) (· = true) := fun m v c hlen hd hc => by
    obtain ⟨⟨d1, dr⟩, dv⟩ := hd
    have d2 : ∀ r ∈ m, r.length ≤ 1048576 := fun r hr => by have := dr r hr; omega
    have d1 : m.length ≤ 12 := d1
    have dv : v.length ≤ 10 := dv
    refine Evp.step (fun k => by rw [laws_FnSpanHas.j1]) ?_
    refine Evp.ite (fun _ => ?_) fun h => ?_
    · refine Evp.bind (spec_SpanHas_ev (by omega) d2 (by omega)) fun t ht => ?_
      subst ht
      exact Evp.some' (by simp)
    · obtain ⟨ho, hv⟩ := hc (by simpa using h)
      obtain ⟨h8, hmv⟩ := mok_iff.1 ho
      refine Evp.bind (impl_SpanBy_ev (by omega) _) fun t ht => ?_
      subst ht
      have key : ∀ (d i : Nat), i + d = m.length → ∀ b : List Int, b.length = i → can b →
          Evp (fun k => laws_FnSpanHas.l0 k l1 m (mok m && vok v && lhas m v) (Go.Proofs.Ytbhmgbeebhmfkaa.Pure.lby m v).2 b (i : Int)) (· = true) := by
        intro d
        induction d with
        | zero =>
          intro i hi b hb hcb
          refine Evp.step (fun k => by rw [laws_FnSpanHas.l0]) (Evp.neg (by omega) (Evp.pos ?_ ?_))
          · unfold Go.Proofs.Ytbhmgbeebhmfkaa.Pure.lby; cases (mok m && vok v && lhas m v) <;> rfl
          · refine Evp.bind (lkMade_ev ho hcb (by omega)) fun t ht => ?_
            subst ht
            refine Evp.bind (impl_SpanHas_ev (by omega) _) fun t ht => ?_
            subst ht
            refine Evp.pos (by rw [ho, lmadeN_vok hmv b _ (Nat.le_refl _), lhas_made hmv]; rfl) ?_
            refine Evp.bind (impl_SpanHas_ev (by omega) _) fun t ht => ?_
            subst ht
            exact Evp.some' (by rw [ho, lhas_zero hmv]; rfl)
        | succ d ih =>
          intro i hi b hb hcb
          refine Evp.step (fun k => by rw [laws_FnSpanHas.l0]) (Evp.pos (by omega) ?_)
          have hp : 0 ≤ (l1.length : Int) * ((i : Int) + 2) ∧ (l1.length : Int) * ((i : Int) + 2) ≤ 1048576 * 20 := ⟨Int.mul_nonneg (by omega) (by omega), Int.mul_le_mul (by omega) (by omega) (by omega) (by omega)⟩
          unfold laws_lkNum.f
          rw [wrap_small (x := (i : Int) + 2) (by omega), wrap_small (by omega), wrap_succ (by omega)]
          simp only [Option.bind_some]
          refine Evp.pos (by omega) (ih (i + 1) (by omega) _ (by simp; omega) fun x hx => ?_)
          rcases List.mem_append.1 hx with hx | hx
          · exact hcb x hx
          · simp only [List.mem_singleton] at hx
            rw [hx, Int.tmod_eq_emod_of_nonneg hp.1]
            exact ok_iff.2 ⟨by omega, by omega⟩
      exact key m.length 0 (by omega) [] rfl (fun x hx => absurd hx (by simp))
  have key0 : ∀ c : Bool, (c = false → l1.length ≤ 1048576) → Evp (fun k => laws_FnSpanHas.j0 k l l1 c) (· = true) := fun c hc => by
    refine Evp.step (fun k => by rw [laws_FnSpanHas.j0]) ?_
    refine Evp.ite (fun _ => Evp.some' rfl) fun h => ?_
    have hlen := hc (by simpa using h)
    refine Evp.bind (drawSpanHas_ev (fun x hx => bounds_u8 (hw x hx))) fun r hd => ?_
    obtain ⟨m, v⟩ := r
    have d2 : ∀ r ∈ m, r.length ≤ 1048576 := fun r hr => by have := hd.1.2 r hr; omega
    have d1 : m.length ≤ 12 := hd.1.1
    have dv : v.length ≤ 10 := hd.2
    refine Evp.bind (impl_SpanHas_ev (show m.length ≤ _ by omega) _) fun t ht => ?_
    subst ht
    refine Evp.bind (spec_SpanHas_ev (show m.length ≤ _ by omega) d2 (show v.length ≤ _ by omega)) fun t ht => ?_
    subst ht
    refine Evp.neg (by simp) ?_
    refine Evp.bind (spec_SpanOk_ev (by show m.length ≤ _; omega) d2) fun t ht => ?_
    subst ht
    refine Evp.ite (fun ho => ?_) fun _ => key1 _ _ true hlen hd (by simp)
    refine Evp.bind (spec_VecOk_ev (show v.length ≤ _ by omega)) fun t ht => ?_
    subst ht
    exact key1 _ _ _ hlen hd fun h2 => ⟨ho, by simpa using h2⟩
  unfold laws_FnSpanHas.f
  exact Evp.ite (fun _ => key0 true (by simp)) fun h => key0 _ (fun h2 => by have := of_decide_eq_false h2; omega)
end Go.Proofs.Ytbhmgbeebhmfkaa.Pure
