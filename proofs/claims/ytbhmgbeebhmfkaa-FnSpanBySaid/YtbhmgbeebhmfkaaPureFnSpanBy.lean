import Derived.Test.YtbhmgbeebhmfkaaPAx0
import Derived.Test.YtbhmgbeebhmfkaaPAx10
import Derived.Test.YtbhmgbeebhmfkaaPAx11
import Derived.Test.YtbhmgbeebhmfkaaPAx12
import Derived.Test.YtbhmgbeebhmfkaaPAx13
import Derived.Test.YtbhmgbeebhmfkaaPAx14
import Derived.Test.YtbhmgbeebhmfkaaPAx15
import Derived.Test.YtbhmgbeebhmfkaaPAx16
import Derived.Test.YtbhmgbeebhmfkaaPAx17
import Derived.Test.YtbhmgbeebhmfkaaPAx18
import Derived.Test.YtbhmgbeebhmfkaaPAx19
import Derived.Test.YtbhmgbeebhmfkaaPAx20
import Derived.Test.YtbhmgbeebhmfkaaPAx21
import Derived.Test.YtbhmgbeebhmfkaaPAx6
import Derived.Test.YtbhmgbeebhmfkaaPAx7
import Derived.Test.YtbhmgbeebhmfkaaPAx9
import Derived.Test.YtbhmgbeebhmfkaaLf
import Derived.Test.YtbhmgbeebhmfkaaMa
import Derived.Laws.BitsAllLaws
import Derived.Laws.BitsLemmas
import Derived.Test.YtbhmgbeebhmfkaaXor
import Derived.OpenShut
/- Of the printed functions over single rows: what a walk by hand wants of them. -/
set_option linter.unusedVariables false
set_option linter.unusedSimpArgs false
namespace Go.Proofs.Ytbhmgbeebhmfkaa.Pure
open Go.RowKit Go.Proofs.Ytbhmgbeebhmfkaa.PA Go.Proofs.YtbhmgbeebhmfkaaW.PrintWords Go.Proofs.YtbhmgbeebhmfkaaW.PrintLast Go.Proofs.YtbhmgbeebhmfkaaW.PrintMore Go.Proofs.Ytbhmgbeebhmfkaa.Lin

theorem Evp.ite {α : Type} {c : Prop} [Decidable c] {g f : Nat → Option α} {Q : α → Prop} (h : c → Evp g Q) (k : ¬ c → Evp f Q) : Evp (fun n => if c then g n else f n) Q := by
  by_cases hc : c
  · simp only [if_pos hc]; exact h hc
  · simp only [if_neg hc]; exact k hc
theorem tmod_pos {x n : Int} (h : 0 ≤ x) : Int.tmod x n = x % n := Int.tmod_eq_emod_of_nonneg h
theorem spec_FieldOk_eq (a : Int) : spec_FieldOk.f a = some (ok a) := by
  unfold spec_FieldOk.f spec_l6In.f ok
  by_cases h : a ≥ 0
  · rw [if_pos h]; simp [show (a ≤ 30) = (a < 31) by rw [eq_iff_iff]; omega, h]
  · rw [if_neg h]; simp [h]
theorem impl_FieldOk_eq (a : Int) : impl_FieldOk.f a = some (ok a) := by
  unfold impl_FieldOk.f impl_within.f ok
  by_cases h : a ≥ 0
  · rw [if_pos h]; simp [show (a ≤ 30) = (a < 31) by rw [eq_iff_iff]; omega, h]
  · rw [if_neg h]; simp [h]
theorem l1Inv_all : ∀ a : Fin 31, spec_l1Inv.f 40 (a.val : Int) = some (inv (a.val : Int)) := by decide +kernel
theorem l1Inv_at {a : Int} (h : ok a = true) : spec_l1Inv.f 40 a = some (inv a) := by
  obtain ⟨x, rfl⟩ := fin_of h
  exact l1Inv_all x
theorem spec_l1Inv_ev {a : Int} (h : ok a = true) : Evp (fun k => spec_l1Inv.f k a) (· = inv a) := ev_of (spec_l1Inv.mono a) (l1Inv_at h)
theorem ofInt_i64 (a : Nat) (ha : a < 9223372036854775808) : (BitVec.ofInt 64 (a : Int)).toNat = a := by
  rw [BitVec.ofInt_natCast, BitVec.toNat_ofNat]; exact Nat.mod_eq_of_lt (by omega)
theorem xor_nonneg {a b : Int} (ha : 0 ≤ a ∧ a < 1000000000000) (hb : 0 ≤ b ∧ b < 1000000000000) : 0 ≤ Go.bits .xor .i64 a b := by
  obtain ⟨x, rfl⟩ := Int.eq_ofNat_of_zero_le ha.1
  obtain ⟨y, rfl⟩ := Int.eq_ofNat_of_zero_le hb.1
  have hx : x ^^^ y < 2 ^ 63 := Nat.xor_lt_two_pow (by omega) (by omega)
  have e : Go.bits .xor .i64 (x : Int) (y : Int) = ((x ^^^ y : Nat) : Int) := by
    show IntKind.i64.wrap ((BitVec.ofInt 64 (x : Int) ^^^ BitVec.ofInt 64 (y : Int)).toNat : Int) = _
    rw [BitVec.toNat_xor, ofInt_i64 x (by omega), ofInt_i64 y (by omega), IntKind.wrap_i64]
    omega
  rw [e]; omega
/-- what a reader holds -/
def St (l : List Int) : Prop := l.length ≤ 2000 ∧ ∀ x ∈ l, 0 ≤ x ∧ x ≤ 255
theorem rd_range {l : List Int} (h : St l) (i : Int) : 0 ≤ rd l i ∧ rd l i ≤ 255 := by
  unfold rd
  rw [List.getD_eq_getElem?_getD]
  rcases Nat.lt_or_ge i.toNat l.length with hi | hi
  · rw [List.getElem?_eq_getElem hi]; exact h.2 _ (List.getElem_mem hi)
  · rw [List.getElem?_eq_none hi]; decide
theorem open_eq (l : List Int) (h : ∀ x ∈ l, 0 ≤ x ∧ x ≤ 255) : ∃ l', spec_l6Open.f l = some (l', 0) ∧ St l' := by
  unfold spec_l6Open.f
  by_cases hl : (l.length : Int) > 2000
  · rw [if_pos hl, if_pos (by omega)]
    exact ⟨_, rfl, by simp; omega, fun x hx => h x (List.mem_of_mem_take hx)⟩
  · rw [if_neg hl]
    exact ⟨l, rfl, by omega, h⟩
theorem pick_ev {l : List Int} (hs : St l) {p n : Int} (hp : 0 ≤ p ∧ p ≤ 100000) (hn : 1 ≤ n ∧ n ≤ 1000000) :
    Evp (fun k => spec_l6Rd_pick.f k l p n) (fun r => 0 ≤ r.1 ∧ r.1 < n ∧ r.2 = p + 1) := by
  have hw : wrap64 (p + 1) = p + 1 := wrap_small (by omega)
  have hw1 : wrap64 (p + 1 - 1) = p := by rw [wrap_small (by omega)]; omega
  unfold spec_l6Rd_pick.f
  simp only [if_neg (show ¬ n < 1 by omega), hw]
  refine Evp.step (fun k => by rw [spec_l6Rd_pick.j0]) ?_
  by_cases hl : (l.length : Int) = 0
  · simp only [hl, beq_self_eq_true, if_true]
    exact Evp.some' ⟨Int.le_refl _, by show (0 : Int) < n; omega, rfl⟩
  · simp only [beq_eq_false_iff_ne.2 hl, Bool.false_eq_true, if_false, hw1]
    have hlp : 0 < (l.length : Int) := by omega
    have hl2 : (l.length : Int) ≤ 2000 := by have := hs.1; omega
    by_cases hlt : p < (l.length : Int)
    · have hr := rd_range hs p
      rw [if_pos hlt, if_pos hp.1, if_neg (by omega), wrap_small (by omega), tmod_pos hr.1]
      exact Evp.some' ⟨Int.emod_nonneg _ (by omega), Int.emod_lt_of_pos _ (by omega), rfl⟩
    · rw [if_neg hlt, if_neg hl]
      have e7 : wrap64 (p * 7) = p * 7 := wrap_small (by omega)
      have e8 : wrap64 (p * 7 + 3) = p * 7 + 3 := wrap_small (by omega)
      rw [e7, e8, tmod_pos (n := (l.length : Int)) hp.1, tmod_pos (x := p * 7 + 3) (n := (l.length : Int)) (by omega)]
      have a1 := Int.emod_nonneg p (show (l.length : Int) ≠ 0 by omega)
      have a2 := Int.emod_lt_of_pos p hlp
      have b1 := Int.emod_nonneg (p * 7 + 3) (show (l.length : Int) ≠ 0 by omega)
      have b2 := Int.emod_lt_of_pos (p * 7 + 3) hlp
      rw [if_pos a1, if_pos a2, if_pos b1, if_pos b2, if_neg (by omega)]
      have r1 := rd_range hs (p % (l.length : Int))
      have r2 := rd_range hs ((p * 7 + 3) % (l.length : Int))
      generalize rd l (p % (l.length : Int)) = u at *
      generalize rd l ((p * 7 + 3) % (l.length : Int)) = v at *
      have ed : Int.tdiv p (l.length : Int) = p / (l.length : Int) := Int.tdiv_eq_ediv_of_nonneg hp.1
      have d1 : 0 ≤ p / (l.length : Int) := Int.ediv_nonneg hp.1 (by omega)
      have d2 : p / (l.length : Int) ≤ p := Int.ediv_le_self _ hp.1
      rw [ed]
      generalize p / (l.length : Int) = q at *
      rw [wrap_small (x := u) (by omega), wrap_small (x := u * 131) (by omega), wrap_small (x := v) (by omega), wrap_small (x := v * 1117) (by omega), wrap_small (x := u * 131 + v * 1117) (by omega), wrap_small (x := p * 29) (by omega),
        wrap_small (x := u * 131 + v * 1117 + p * 29) (by omega), wrap_small (x := q) (by omega), wrap_small (x := q * 53) (by omega), wrap_small (x := u * 131 + v * 1117 + p * 29 + q * 53) (by omega)]
      generalize hz : u * 131 + v * 1117 + p * 29 + q * 53 = z
      have hz0 : 0 ≤ z ∧ z < 100000000 := by omega
      have e64 : Int.tdiv z 64 = z / 64 := Int.tdiv_eq_ediv_of_nonneg hz0.1
      rw [e64, wrap_small (x := z / 64) (by omega), tmod_pos (xor_nonneg (by omega) (by omega))]
      exact Evp.some' ⟨Int.emod_nonneg _ (by omega), Int.emod_lt_of_pos _ (by omega), rfl⟩
theorem rd_nat (l : List Int) (i : Nat) : rd l (i : Int) = l.getD i 0 := by unfold rd; rw [Int.toNat_natCast]
theorem getD_get {l : List Int} {i : Nat} (h : i < l.length) : l.getD i 0 = l[i] := by rw [List.getD_eq_getElem?_getD, List.getElem?_eq_getElem h]; rfl
theorem spec_VecOk_ev {l : List Int} (hl : l.length ≤ 1000000000000) : Evp (fun k => spec_VecOk.f k l) (· = vok l) := by
  have key : ∀ d i, i + d = l.length → Evp (fun k => spec_VecOk.l0 k l (i : Int)) (· = ((l.drop i).all ok && (l.length == 4))) := by
    intro d
    induction d with
    | zero =>
      intro i hi
      refine Evp.step (fun k => by rw [spec_VecOk.l0]) ?_
      refine Evp.neg (by omega) ?_
      refine Evp.some' ?_
      rw [List.drop_eq_nil_of_le (by omega), Bool.eq_iff_iff, beq_iff_eq]; simp; omega
    | succ d ih =>
      intro i hi
      refine Evp.step (fun k => by rw [spec_VecOk.l0]) ?_
      refine Evp.pos (by omega) (Evp.pos (by omega) ?_)
      simp only [spec_FieldOk_eq, Option.bind_some, rd_nat, getD_get (show i < l.length by omega)]
      rw [List.drop_eq_getElem_cons (show i < l.length by omega), List.all_cons]
      refine Evp.ite (fun h => ?_) fun h => ?_
      · rw [wrap_succ (by omega), h]
        exact ih (i + 1) (by omega)
      · exact Evp.some' (by simp [h])
  have := key l.length 0 (by omega)
  unfold spec_VecOk.f
  refine this.mono fun r hr => ?_
  rw [hr, List.drop_zero, Bool.and_comm]; rfl
theorem llead_drop {l : List Int} {i : Nat} (h : ∀ j, j < i → l.getD j 0 = 0) (hi : i < l.length) (hne : l.getD i 0 ≠ 0) : llead l = (i : Int) := by
  rcases llead_cases l with ⟨_, hz⟩ | ⟨j, hj, e, hn, hb⟩
  · exact absurd (hz i) hne
  · rcases Nat.lt_trichotomy i j with c | c | c
    · exact absurd (hb i c) hne
    · rw [e, c]
    · exact absurd (h j c) hn
theorem llead_none {l : List Int} (h : ∀ j, j < l.length → l.getD j 0 = 0) : llead l = -1 := by
  rcases llead_cases l with ⟨e, _⟩ | ⟨j, hj, e, hn, hb⟩
  · exact e
  · exact absurd (h j hj) hn
theorem l2Lead_ev {l : List Int} (hl : l.length ≤ 1000000000000) : Evp (fun k => spec_l2Lead.f k l) (· = llead l) := by
  have key : ∀ d i, i + d = l.length → (∀ j, j < i → l.getD j 0 = 0) → Evp (fun k => spec_l2Lead.l0 k l (i : Int)) (· = llead l) := by
    intro d
    induction d with
    | zero =>
      intro i hi hp
      refine Evp.step (fun k => by rw [spec_l2Lead.l0]) ?_
      refine Evp.neg (by omega) ?_
      exact Evp.some' (llead_none (fun j hj => hp j (by omega))).symm
    | succ d ih =>
      intro i hi hp
      refine Evp.step (fun k => by rw [spec_l2Lead.l0]) ?_
      refine Evp.pos (by omega) (Evp.pos (by omega) ?_)
      rw [rd_nat, wrap_succ (by omega)]
      refine Evp.ite (fun h => ih (i + 1) (by omega) fun j hj => ?_) fun h => Evp.some' (llead_drop hp (by omega) h).symm
      rcases Nat.lt_or_ge j i with c | c
      · exact hp j c
      · have : j = i := by omega
        subst this; exact h
  exact key l.length 0 (by omega) (fun j hj => absurd hj (Nat.not_lt_zero j))
theorem can_small {l : List Int} (h : can l) (i : Nat) : 0 ≤ l.getD i 0 ∧ l.getD i 0 < 31 := ok_iff.1 (can_get h i)
theorem zip_take {α : Type} (f : Int → Int → α) {a b : List Int} {i : Nat} (h1 : i < a.length) (h2 : i < b.length) : List.zipWith f (a.take (i + 1)) (b.take (i + 1)) = List.zipWith f (a.take i) (b.take i) ++ [f (a.getD i 0) (b.getD i 0)] := by
  rw [List.take_succ_eq_append_getElem h1, List.take_succ_eq_append_getElem h2, List.zipWith_append (by simp; omega), getD_get h1, getD_get h2]; rfl
theorem l2Scale_ev {a : List Int} (ha : can a) {c : Int} (hc : ok c = true) (hn : a.length ≤ 1000000000000) : Evp (fun k => spec_l2Scale.f k a c) (· = lscale a c) := by
  have key : ∀ d i, i + d = a.length → Evp (fun k => spec_l2Scale.l0 k a c (lscale (a.take i) c) (i : Int)) (· = lscale a c) := by
    intro d
    induction d with
    | zero =>
      intro i hi
      refine Evp.step (fun k => by rw [spec_l2Scale.l0]) ?_
      refine Evp.neg (by omega) ?_
      rw [List.take_of_length_le (by omega)]
      exact Evp.some' rfl
    | succ d ih =>
      intro i hi
      refine Evp.step (fun k => by rw [spec_l2Scale.l0]) ?_
      have hm := mul_small (ok_iff.2 (can_small ha i)) hc
      refine Evp.pos (by omega) (Evp.pos (by omega) (Evp.pos (by rw [lscale_len, List.length_take]; omega) ?_))
      rw [rd_nat, wrap_succ (by omega), wrap_small (by omega), tmod31 hm.1]
      have e : lscale (a.take (i + 1)) c = lscale (a.take i) c ++ [a.getD i 0 * c % 31] := by
        unfold lscale; rw [List.take_succ_eq_append_getElem (by omega), List.map_append, getD_get (by omega)]; rfl
      rw [← e]
      exact ih (i + 1) (by omega)
  have := key a.length 0 (by omega)
  unfold spec_l2Scale.f
  simpa [lscale] using this
theorem l2Sum_ev {a b : List Int} (ha : can a) (hb : can b) (hl : a.length = b.length) (hn : a.length ≤ 1000000000000) : Evp (fun k => spec_l2Sum.f k a b) (· = lsum a b) := by
  have key : ∀ d i, i + d = a.length → Evp (fun k => spec_l2Sum.l0 k a b (lsum (a.take i) (b.take i)) (i : Int)) (· = lsum a b) := by
    intro d
    induction d with
    | zero =>
      intro i hi
      refine Evp.step (fun k => by rw [spec_l2Sum.l0]) ?_
      refine Evp.neg (by omega) ?_
      rw [List.take_of_length_le (by omega), List.take_of_length_le (by omega)]
      exact Evp.some' rfl
    | succ d ih =>
      intro i hi
      refine Evp.step (fun k => by rw [spec_l2Sum.l0]) ?_
      have h1 := can_small ha i
      have h2 := can_small hb i
      refine Evp.pos (by omega) (Evp.pos (by omega) (Evp.pos (by omega) (Evp.pos (by rw [lsum_len (by simp; omega), List.length_take]; omega) ?_)))
      rw [rd_nat, rd_nat, wrap_succ (by omega), wrap_small (by omega), tmod31 (by omega)]
      have e : lsum (a.take (i + 1)) (b.take (i + 1)) = lsum (a.take i) (b.take i) ++ [(a.getD i 0 + b.getD i 0) % 31] := by
        unfold lsum; rw [zip_take _ (by omega) (by omega)]
      rw [← e]
      exact ih (i + 1) (by omega)
  have := key a.length 0 (by omega)
  unfold spec_l2Sum.f
  simpa [lsum] using this

theorem impl_VecScale_ev (v : List Int) (c : Int) : Evp (fun k => impl_VecScale.f k v c) (· = vscale v c) := by
  unfold impl_VecScale.f vscale
  cases hv : vok v
  · simp only [impl_vectorOf_no hv, Option.bind_some, Bool.false_eq_true, if_false, Bool.false_and]
    refine Evp.step (fun k => by rw [impl_VecScale.j0]) (Evp.pos rfl (Evp.some' rfl))
  · obtain ⟨a0, a1, a2, a3, rfl, h0, h1, h2, h3⟩ := vok_four hv
    simp only [impl_vectorOf_ok hv, Option.bind_some, if_true, impl_FieldOk_eq]
    refine Evp.step (fun k => by rw [impl_VecScale.j0]) ?_
    cases hc : ok c
    · exact Evp.pos rfl (Evp.some' rfl)
    · refine Evp.neg (by simp) ?_
      have e : impl_vector_times.f a0 a1 a2 a3 c = some (a0 * c % 31, a1 * c % 31, a2 * c % 31, a3 * c % 31) := by
        unfold impl_vector_times.f; rw [if_pos ⟨⟨ok_iff.1 h0, ok_iff.1 h1, ok_iff.1 h2, ok_iff.1 h3⟩, ok_iff.1 hc⟩]
      rw [e]; exact Evp.some' rfl
theorem impl_VecSum_ev (a b : List Int) : Evp (fun k => impl_VecSum.f k a b) (· = vsum a b) := by
  unfold impl_VecSum.f vsum
  cases ha : vok a
  · simp only [impl_vectorOf_no ha, Option.bind_some, Bool.false_eq_true, if_false, Bool.false_and]
    cases hb : vok b
    · simp only [impl_vectorOf_no hb, Option.bind_some]
      exact Evp.step (fun k => by rw [impl_VecSum.j0]) (Evp.pos rfl (Evp.some' rfl))
    · obtain ⟨b0, b1, b2, b3, rfl, _⟩ := vok_four hb
      simp only [impl_vectorOf_ok hb, Option.bind_some]
      exact Evp.step (fun k => by rw [impl_VecSum.j0]) (Evp.pos rfl (Evp.some' rfl))
  · obtain ⟨a0, a1, a2, a3, rfl, h0, h1, h2, h3⟩ := vok_four ha
    simp only [impl_vectorOf_ok ha, Option.bind_some, if_true]
    cases hb : vok b
    · simp only [impl_vectorOf_no hb, Option.bind_some]
      refine Evp.step (fun k => by rw [impl_VecSum.j0]) ?_
      exact Evp.pos (by simp) (Evp.some' (by simp))
    · obtain ⟨b0, b1, b2, b3, rfl, k0, k1, k2, k3⟩ := vok_four hb
      simp only [impl_vectorOf_ok hb, Option.bind_some]
      refine Evp.step (fun k => by rw [impl_VecSum.j0]) (Evp.neg (by simp) ?_)
      have e : impl_vector_plus.f a0 a1 a2 a3 b0 b1 b2 b3 = some ((a0 + b0) % 31, (a1 + b1) % 31, (a2 + b2) % 31, (a3 + b3) % 31) := by
        unfold impl_vector_plus.f; rw [if_pos ⟨⟨ok_iff.1 h0, ok_iff.1 h1, ok_iff.1 h2, ok_iff.1 h3⟩, ok_iff.1 k0, ok_iff.1 k1, ok_iff.1 k2, ok_iff.1 k3⟩]
      rw [e]; exact Evp.some' rfl
/-- what is drawn for a row -/
def Dr (l : List Int) : Prop := 3 ≤ l.length ∧ l.length ≤ 4 ∧ ∀ x ∈ l, -1 ≤ x ∧ x ≤ 31
theorem l91Vec_ev {l : List Int} (hs : St l) {p : Int} (hp : 0 ≤ p ∧ p ≤ 90000) : Evp (fun k => spec_l91Vec.f k l p) (fun r => Dr r.1 ∧ p ≤ r.2 ∧ r.2 ≤ p + 20) := by
  have key : ∀ d i (v : List Int) (q : Int), i + d = 4 → v.length = i → (∀ x ∈ v, -1 ≤ x ∧ x ≤ 31) → p ≤ q → q ≤ p + 4 * i → Evp (fun k => spec_l91Vec.l0 k v (i : Int) l q) (fun r => Dr r.1 ∧ p ≤ r.2 ∧ r.2 ≤ p + 20) := by
    intro d
    induction d with
    | zero =>
      intro i v q hi hv hx h1 h2
      refine Evp.step (fun k => by rw [spec_l91Vec.l0]) (Evp.neg (by omega) ?_)
      refine Evp.bind (pick_ev hs (n := 40) (by omega) (by omega)) fun r hr => ?_
      obtain ⟨a, q1⟩ := r
      simp only at hr ⊢
      refine Evp.ite (fun _ => ?_) fun _ => Evp.ite (fun _ => ?_) fun _ => ?_
      · refine Evp.pos (by omega) (Evp.some' ⟨⟨?_, ?_, fun x hx2 => hx x (List.mem_of_mem_drop hx2)⟩, ?_, ?_⟩)
        · show 3 ≤ (v.drop (Int.toNat 1)).length; rw [List.length_drop]; simp; omega
        · show (v.drop (Int.toNat 1)).length ≤ 4; rw [List.length_drop]; omega
        · show p ≤ q1; omega
        · show q1 ≤ p + 20; omega
      · refine Evp.bind (pick_ev hs (n := (v.length : Int)) (by omega) (by omega)) fun r2 hr2 => ?_
        obtain ⟨b, q2⟩ := r2
        simp only [Option.bind_some] at hr2 ⊢
        refine Evp.bind (pick_ev hs (n := 2) (by omega) (by omega)) fun r3 hr3 => ?_
        obtain ⟨c, q3⟩ := r3
        simp only at hr3 ⊢
        refine Evp.pos (by omega) (Evp.pos (by simp; omega) (Evp.pos (by omega) (Evp.pos (by omega) (Evp.some' ⟨⟨?_, ?_, fun x hx2 => ?_⟩, ?_, ?_⟩))))
        · show 3 ≤ (v.set b.toNat _).length; rw [List.length_set]; omega
        · show (v.set b.toNat _).length ≤ 4; rw [List.length_set]; omega
        · rcases List.mem_or_eq_of_mem_set hx2 with h | h
          · exact hx x h
          · have hc : c = 0 ∨ c = 1 := by omega
            rw [h]; rcases hc with rfl | rfl <;> decide
        · show p ≤ q3; omega
        · show q3 ≤ p + 20; omega
      · exact Evp.some' ⟨⟨by show 3 ≤ v.length; omega, by show v.length ≤ 4; omega, hx⟩, by show p ≤ q1; omega, by show q1 ≤ p + 20; omega⟩
    | succ d ih =>
      intro i v q hi hv hx h1 h2
      refine Evp.step (fun k => by rw [spec_l91Vec.l0]) (Evp.pos (by omega) ?_)
      refine Evp.bind (pick_ev hs (n := 4) (by omega) (by omega)) fun r hr => ?_
      obtain ⟨a, q1⟩ := r
      simp only at hr ⊢
      refine Evp.bind (pick_ev hs (n := 31) (by omega) (by omega)) fun r2 hr2 => ?_
      obtain ⟨b, q2⟩ := r2
      simp only at hr2 ⊢
      refine Evp.bind (pick_ev hs (n := 31) (by omega) (by omega)) fun r3 hr3 => ?_
      obtain ⟨c, q3⟩ := r3
      simp only [Option.bind_some] at hr3 ⊢
      refine Evp.bind (pick_ev hs (n := 4) (by omega) (by omega)) fun r4 hr4 => ?_
      obtain ⟨e, q4⟩ := r4
      simp only at hr4 ⊢
      rw [wrap_succ (by omega)]
      refine Evp.pos (by omega) (Evp.pos (by simp; omega) (Evp.pos (by omega) (ih (i + 1) _ q4 (by omega) (by simp; omega) (fun x hx2 => ?_) (by omega) (by omega))))
      rcases List.mem_append.1 hx2 with h | h
      · exact hx x h
      · have he : e = 0 ∨ e = 1 ∨ e = 2 ∨ e = 3 := by omega
        simp at h; rw [h]
        rcases he with rfl | rfl | rfl | rfl <;> simp [rd] <;> omega
  exact key 4 0 [] p rfl rfl (by simp) (by omega) (by omega)
theorem spec_SpanOk_ev {m : List (List Int)} (hm : m.length ≤ 1048576) (hr : ∀ r ∈ m, r.length ≤ 1048576) : Evp (fun k => spec_SpanOk.f k m) (· = mok m) := by
  have key : ∀ d i, i + d = m.length → (m.take i).all vok = true → Evp (fun k => spec_SpanOk.l0 k m (i : Int)) (· = mok m) := by
    intro d
    induction d with
    | zero =>
      intro i hi hp
      refine Evp.step (fun k => by rw [spec_SpanOk.l0]) (Evp.neg (by omega) (Evp.some' ?_))
      rw [List.take_of_length_le (by omega)] at hp
      unfold mok
      rw [hp, Bool.and_true]
      congr 1
      rw [eq_iff_iff]; omega
    | succ d ih =>
      intro i hi hp
      refine Evp.step (fun k => by rw [spec_SpanOk.l0]) (Evp.pos (by omega) (Evp.pos (by omega) ?_))
      rw [rdL1_nat, getDL_get (show i < m.length by omega)]
      refine Evp.bind (spec_VecOk_ev (by have := hr _ (List.getElem_mem (l := m) (n := i) (by omega)); omega)) fun t ht => ?_
      subst ht
      refine Evp.ite (fun h => ?_) fun h => Evp.some' ?_
      · rw [wrap_succ (by omega)]
        refine ih (i + 1) (by omega) ?_
        rw [List.take_succ_eq_append_getElem (show i < m.length by omega), List.all_append, hp, List.all_cons, h]; rfl
      · have : mok m = false := by
          rw [Bool.eq_false_iff]
          intro hc
          exact h ((mok_iff.1 hc).2 _ (List.getElem_mem _))
        rw [this]
  unfold spec_SpanOk.f
  exact key m.length 0 (by omega) rfl
/-- what is drawn for rows -/
def Dm (m : List (List Int)) : Prop := m.length ≤ 12 ∧ ∀ r ∈ m, r.length ≤ 10
theorem Dm.snoc {m : List (List Int)} {n : Nat} (hn : m.length ≤ n) (hm : ∀ r ∈ m, r.length ≤ 10) {v : List Int} (hv : v.length ≤ 10) : (m ++ [v]).length ≤ n + 1 ∧ ∀ r ∈ m ++ [v], r.length ≤ 10 := by
  refine ⟨by simp; omega, fun r hr => ?_⟩
  rcases List.mem_append.1 hr with h | h
  · exact hm r h
  · simp at h; rw [h]; exact hv
theorem l91Rows_ev {l : List Int} (hs : St l) {p : Int} (hp : 0 ≤ p ∧ p ≤ 80000) : Evp (fun k => spec_l91Rows.f k l p) (fun r => (r.1.length ≤ 9 ∧ ∀ x ∈ r.1, x.length ≤ 10) ∧ p ≤ r.2 ∧ r.2 ≤ p + 200) := by
  have key1 : ∀ d (m : List (List Int)) (q : Int), m.length + d = 9 → (∀ r ∈ m, r.length ≤ 10) → p ≤ q ∧ q ≤ p + 200 → Evp (fun k => spec_l91Rows.l1 k m l q) (fun r => (r.1.length ≤ 9 ∧ ∀ x ∈ r.1, x.length ≤ 10) ∧ p ≤ r.2 ∧ r.2 ≤ p + 200) := by
    intro d
    induction d with
    | zero =>
      intro m q hm hr hq
      exact Evp.step (fun k => by rw [spec_l91Rows.l1]) (Evp.neg (by omega) (Evp.some' ⟨⟨by show m.length ≤ 9; omega, hr⟩, hq⟩))
    | succ d ih =>
      intro m q hm hr hq
      refine Evp.step (fun k => by rw [spec_l91Rows.l1]) (Evp.pos (by omega) (Evp.pos (by omega) ?_))
      have := Dm.snoc (n := m.length) (Nat.le_refl _) hr (v := [1, 2, 3, 4]) (by decide)
      exact ih _ q (by simp; omega) this.2 hq
  have key0 : ∀ d (m : List (List Int)) (q : Int), m.length + d ≤ 5 → (∀ r ∈ m, r.length ≤ 10) → p ≤ q ∧ q ≤ p + 150 - 24 * d → Evp (fun k => spec_l91Rows.l0 k m (d : Int) l q) (fun r => (r.1.length ≤ 9 ∧ ∀ x ∈ r.1, x.length ≤ 10) ∧ p ≤ r.2 ∧ r.2 ≤ p + 200) := by
    intro d
    induction d with
    | zero =>
      intro m q hm hr hq
      refine Evp.step (fun k => by rw [spec_l91Rows.l0]) (Evp.neg (by omega) ?_)
      refine Evp.bind (pick_ev hs (n := 40) (by omega) (by omega)) fun r h => ?_
      refine Evp.ite (fun _ => ?_) fun _ => Evp.some' ⟨⟨by show m.length ≤ 9; omega, hr⟩, by show p ≤ r.2; omega, by show r.2 ≤ p + 200; omega⟩
      exact key1 (9 - m.length) m _ (by omega) hr (by omega)
    | succ d ih =>
      intro m q hm hr hq
      have hj : ∀ (v : List Int) (c : Bool) (q2 : Int), v.length ≤ 10 → q ≤ q2 ∧ q2 ≤ q + 21 → (c = true → 2 ≤ m.length ∧ vok (m.getD 0 []) = true ∧ vok (m.getD 1 []) = true) → Evp (fun k => spec_l91Rows.j1 k m ((d + 1 : Nat) : Int) v c l q2) (fun r => (r.1.length ≤ 9 ∧ ∀ x ∈ r.1, x.length ≤ 10) ∧ p ≤ r.2 ∧ r.2 ≤ p + 200) := by
        intro v c q2 hv hq2 hc
        refine Evp.step (fun k => by rw [spec_l91Rows.j1]) ?_
        refine Evp.ite (fun h => ?_) fun h => ?_
        · obtain ⟨h2, v0, v1⟩ := hc h
          have l0 := (vok_iff.1 v0).1; have l1 := (vok_iff.1 v1).1
          refine Evp.pos (by omega) ?_
          refine Evp.bind (pick_ev hs (n := 31) (by omega) (by omega)) fun r1 hr1 => ?_
          rw [show rd_L1 m 0 = m.getD 0 [] from rfl, show rd_L1 m 1 = m.getD 1 [] from rfl]
          refine Evp.bind (l2Scale_ev (vok_iff.1 v0).2 (ok_iff.2 ⟨hr1.1, hr1.2.1⟩) (by omega)) fun t0 ht0 => ?_
          subst ht0
          refine Evp.pos (by omega) ?_
          refine Evp.bind (pick_ev hs (n := 31) (by omega) (by omega)) fun r2 hr2 => ?_
          refine Evp.bind (l2Scale_ev (vok_iff.1 v1).2 (ok_iff.2 ⟨hr2.1, hr2.2.1⟩) (by omega)) fun t1 ht1 => ?_
          subst ht1
          refine Evp.bind (l2Sum_ev (can_lscale _ _) (can_lscale _ _) (by rw [lscale_len, lscale_len]; omega) (by rw [lscale_len]; omega)) fun t2 ht2 => ?_
          subst ht2
          refine Evp.pos (by omega) ?_
          rw [wrap_small (by omega), show (((d + 1 : Nat) : Int) - 1) = (d : Int) by omega]
          have := Dm.snoc (n := m.length) (Nat.le_refl _) hr (v := lsum (lscale (m.getD 0 []) r1.1) (lscale (m.getD 1 []) r2.1)) (by rw [lsum_len (by rw [lscale_len, lscale_len]; omega), lscale_len]; omega)
          exact ih _ _ (by simp; omega) this.2 (by omega)
        · refine Evp.pos (by omega) ?_
          rw [wrap_small (by omega), show (((d + 1 : Nat) : Int) - 1) = (d : Int) by omega]
          have := Dm.snoc (n := m.length) (Nat.le_refl _) hr hv
          exact ih _ _ (by simp; omega) this.2 (by omega)
      refine Evp.step (fun k => by rw [spec_l91Rows.l0]) (Evp.pos (by omega) ?_)
      refine Evp.bind (l91Vec_ev hs (by omega)) fun r1 hr1 => ?_
      have hv : r1.1.length ≤ 10 := by have := hr1.1.2.1; omega
      refine Evp.ite (fun h2 => ?_) fun _ => hj _ _ _ hv (by omega) (by simp)
      refine Evp.bind (pick_ev hs (n := 3) (by omega) (by omega)) fun r2 hr2 => ?_
      refine Evp.ite (fun _ => ?_) fun _ => hj _ _ _ hv (by omega) (by simp)
      refine Evp.pos (by omega) ?_
      rw [show rd_L1 m 0 = m.getD 0 [] from rfl, show rd_L1 m 1 = m.getD 1 [] from rfl]
      have q0 : (m.getD 0 []).length ≤ 10 := by rw [getDL_get (by omega)]; exact hr _ (List.getElem_mem _)
      have q1 : (m.getD 1 []).length ≤ 10 := by rw [getDL_get (by omega)]; exact hr _ (List.getElem_mem _)
      refine Evp.bind (spec_VecOk_ev (by omega)) fun t ht => ?_
      subst ht
      refine Evp.ite (fun c0 => ?_) fun _ => hj _ _ _ hv (by omega) (by simp)
      refine Evp.pos (by omega) ?_
      refine Evp.bind (spec_VecOk_ev (by omega)) fun t ht => ?_
      subst ht
      exact hj _ _ _ hv (by omega) (fun c1 => ⟨by omega, c0, c1⟩)
  unfold spec_l91Rows.f
  refine Evp.bind (pick_ev hs (n := 6) (by omega) (by omega)) fun r hr => ?_
  obtain ⟨d, hd⟩ : ∃ d : Nat, r.1 = (d : Int) := ⟨r.1.toNat, by omega⟩
  rw [hd]
  exact key0 d [] _ (by simp; omega) (by simp) (by omega)
theorem l3Has_eq {m : List (List Int)} (h : mok m = true) {v : List Int} (hv : vok v = true) : spec_l3Has.f m v = some (lhas m v) := by
  obtain ⟨h8, hr⟩ := mok_iff.1 h
  unfold spec_l3Has.f
  rw [if_pos ⟨⟨by omega, by simpa using hr⟩, hv⟩]
theorem by_l0_ev {z0 z1 z2 z3 z4 z5 z6 z7 z8 z9 z10 z11 : Int} (hz4 : ok z4 = true) (hz5 : ok z5 = true) (hz6 : ok z6 = true) (hz7 : ok z7 = true) (hz8 : ok z8 = true) (hz9 : ok z9 = true) (hz10 : ok z10 = true) (hz11 : ok z11 = true) : Evp (fun k => impl_span_by.l0 k 0 z0 z1 z2 z3 z4 z5 z6 z7 z8 z9 z10 z11) (· = (((-z4) % 31), ((-z5) % 31), ((-z6) % 31), ((-z7) % 31), ((-z8) % 31), ((-z9) % 31), ((-z10) % 31), ((-z11) % 31), (z0 == 0 && (z1 == 0 && (z2 == 0 && (z3 == 0)))))) := by
  rw [ok_iff] at hz4 hz5 hz6 hz7 hz8 hz9 hz10 hz11
  refine Evp.step (f := fun k => impl_span_by.l0 k 1 z0 z1 z2 z3 ((-z4) % 31) z5 z6 z7 z8 z9 z10 z11) (fun k => by rw [impl_span_by.l0, if_pos (by decide), if_pos rfl, Go.Proofs.Ytbhmgbeebhmfkaa.Pure.wrap_small (x := -z4) (by omega), elementOf_eq (by omega), Option.bind_some, (by unfold wrap64; omega : wrap64 ((0 : Int) + 1) = 1)]) ?_
  refine Evp.step (f := fun k => impl_span_by.l0 k 2 z0 z1 z2 z3 ((-z4) % 31) ((-z5) % 31) z6 z7 z8 z9 z10 z11) (fun k => by rw [impl_span_by.l0, if_pos (by decide), if_neg (by decide), if_pos rfl, Go.Proofs.Ytbhmgbeebhmfkaa.Pure.wrap_small (x := -z5) (by omega), elementOf_eq (by omega), Option.bind_some, (by unfold wrap64; omega : wrap64 ((1 : Int) + 1) = 2)]) ?_
  refine Evp.step (f := fun k => impl_span_by.l0 k 3 z0 z1 z2 z3 ((-z4) % 31) ((-z5) % 31) ((-z6) % 31) z7 z8 z9 z10 z11) (fun k => by rw [impl_span_by.l0, if_pos (by decide), if_neg (by decide), if_neg (by decide), if_pos rfl, Go.Proofs.Ytbhmgbeebhmfkaa.Pure.wrap_small (x := -z6) (by omega), elementOf_eq (by omega), Option.bind_some, (by unfold wrap64; omega : wrap64 ((2 : Int) + 1) = 3)]) ?_
  refine Evp.step (f := fun k => impl_span_by.l0 k 4 z0 z1 z2 z3 ((-z4) % 31) ((-z5) % 31) ((-z6) % 31) ((-z7) % 31) z8 z9 z10 z11) (fun k => by rw [impl_span_by.l0, if_pos (by decide), if_neg (by decide), if_neg (by decide), if_neg (by decide), if_pos rfl, Go.Proofs.Ytbhmgbeebhmfkaa.Pure.wrap_small (x := -z7) (by omega), elementOf_eq (by omega), Option.bind_some, (by unfold wrap64; omega : wrap64 ((3 : Int) + 1) = 4)]) ?_
  refine Evp.step (f := fun k => impl_span_by.l0 k 5 z0 z1 z2 z3 ((-z4) % 31) ((-z5) % 31) ((-z6) % 31) ((-z7) % 31) ((-z8) % 31) z9 z10 z11) (fun k => by rw [impl_span_by.l0, if_pos (by decide), if_neg (by decide), if_neg (by decide), if_neg (by decide), if_neg (by decide), if_pos rfl, Go.Proofs.Ytbhmgbeebhmfkaa.Pure.wrap_small (x := -z8) (by omega), elementOf_eq (by omega), Option.bind_some, (by unfold wrap64; omega : wrap64 ((4 : Int) + 1) = 5)]) ?_
  refine Evp.step (f := fun k => impl_span_by.l0 k 6 z0 z1 z2 z3 ((-z4) % 31) ((-z5) % 31) ((-z6) % 31) ((-z7) % 31) ((-z8) % 31) ((-z9) % 31) z10 z11) (fun k => by rw [impl_span_by.l0, if_pos (by decide), if_neg (by decide), if_neg (by decide), if_neg (by decide), if_neg (by decide), if_neg (by decide), if_pos rfl, Go.Proofs.Ytbhmgbeebhmfkaa.Pure.wrap_small (x := -z9) (by omega), elementOf_eq (by omega), Option.bind_some, (by unfold wrap64; omega : wrap64 ((5 : Int) + 1) = 6)]) ?_
  refine Evp.step (f := fun k => impl_span_by.l0 k 7 z0 z1 z2 z3 ((-z4) % 31) ((-z5) % 31) ((-z6) % 31) ((-z7) % 31) ((-z8) % 31) ((-z9) % 31) ((-z10) % 31) z11) (fun k => by rw [impl_span_by.l0, if_pos (by decide), if_neg (by decide), if_neg (by decide), if_neg (by decide), if_neg (by decide), if_neg (by decide), if_neg (by decide), if_pos rfl, Go.Proofs.Ytbhmgbeebhmfkaa.Pure.wrap_small (x := -z10) (by omega), elementOf_eq (by omega), Option.bind_some, (by unfold wrap64; omega : wrap64 ((6 : Int) + 1) = 7)]) ?_
  refine Evp.step (f := fun k => impl_span_by.l0 k 8 z0 z1 z2 z3 ((-z4) % 31) ((-z5) % 31) ((-z6) % 31) ((-z7) % 31) ((-z8) % 31) ((-z9) % 31) ((-z10) % 31) ((-z11) % 31)) (fun k => by rw [impl_span_by.l0, if_pos (by decide), if_neg (by decide), if_neg (by decide), if_neg (by decide), if_neg (by decide), if_neg (by decide), if_neg (by decide), if_neg (by decide), if_pos rfl, Go.Proofs.Ytbhmgbeebhmfkaa.Pure.wrap_small (x := -z11) (by omega), elementOf_eq (by omega), Option.bind_some, (by unfold wrap64; omega : wrap64 ((7 : Int) + 1) = 8)]) ?_
  exact Evp.step (f := fun k => some _) (fun k => by rw [impl_span_by.l0, if_neg (by decide)]) (Evp.some' rfl)
/-- how often each, as the program tells it -/
def coefs (m : List (List Int)) (v : List Int) : List Int := (List.range m.length).map fun j => (-(kred (kspan m m.length).1 (v ++ [0, 0, 0, 0, 0, 0, 0, 0])).getD (4 + j) 0) % 31
def lby (m : List (List Int)) (v : List Int) : List Int × Bool := if mok m && vok v && lhas m v then (coefs m v, true) else ([], false)
theorem impl_by_ev {L : List (List Int)} (hL : ∀ r ∈ L, Good r) (hn : L.length ≤ 1000000) (P : List Int) {v : List Int} (hv : vok v = true) {z : List Int} (hz : kred L (v ++ [0, 0, 0, 0, 0, 0, 0, 0]) = z) :
    Evp (fun k => impl_span_by.f k (L.map m12) P (v.getD 0 0) (v.getD 1 0) (v.getD 2 0) (v.getD 3 0)) (· = ((-(z.getD 4 0)) % 31, (-(z.getD 5 0)) % 31, (-(z.getD 6 0)) % 31, (-(z.getD 7 0)) % 31, (-(z.getD 8 0)) % 31, (-(z.getD 9 0)) % 31, (-(z.getD 10 0)) % 31, (-(z.getD 11 0)) % 31, (z.getD 0 0 == 0 && (z.getD 1 0 == 0 && (z.getD 2 0 == 0 && (z.getD 3 0 == 0)))))) := by
  obtain ⟨a, b, c, d, rfl, ha, hb, hc, hd⟩ := vok_four hv
  have h12 : ([a, b, c, d] ++ [0, 0, 0, 0, 0, 0, 0, 0] : List Int).length = 12 := rfl
  have hcan : can ([a, b, c, d] ++ [0, 0, 0, 0, 0, 0, 0, 0]) := fun x hx => by
    simp only [List.cons_append, List.nil_append, List.mem_cons, List.not_mem_nil, or_false] at hx
    rcases hx with rfl | rfl | rfl | rfl | rfl | rfl | rfl | rfl | rfl | rfl | rfl | rfl <;> first | assumption | decide
  have hcz : can z := hz ▸ can_kred hcan
  unfold impl_span_by.f
  refine Evp.bind (Q := (· = T12 z)) ?_ fun t ht => ?_
  · have := less_ev (goods_m12 hL) (by simp; omega) P h12 hcan
    rw [map_l12_m12 hL, hz] at this
    exact this
  subst ht
  exact by_l0_ev (can_get hcz 4) (can_get hcz 5) (can_get hcz 6) (can_get hcz 7) (can_get hcz 8) (can_get hcz 9) (can_get hcz 10) (can_get hcz 11)
theorem spanBy_l0_ev {n : Nat} (hn : n ≤ 8) {b0 b1 b2 b3 b4 b5 b6 b7 : Int} : ∀ (d i : Nat), i + d = n → ∀ out : List Int, out.length = i →
    Evp (fun k => impl_SpanBy.l0 k out (n : Int) (i : Int) b0 b1 b2 b3 b4 b5 b6 b7) (· = (out ++ (([b0, b1, b2, b3, b4, b5, b6, b7] : List Int).take n).drop i, true)) := by
  intro d
  induction d with
  | zero =>
    intro i hi out ho
    refine Evp.step (fun k => by rw [impl_SpanBy.l0]) (Evp.neg (by omega) (Evp.some' ?_))
    rw [List.drop_eq_nil_of_le (by rw [List.length_take]; omega), List.append_nil]
  | succ d ih =>
    intro i hi out ho
    refine Evp.step (fun k => by rw [impl_SpanBy.l0]) (Evp.pos (by omega) ?_)
    refine Evp.congr (fun k => pick8 (p := i) (by omega) (fun j => if out.length < 17592186044416 then impl_SpanBy.l0 k (out ++ [([b0, b1, b2, b3, b4, b5, b6, b7] : List Int).getD j 0]) (n : Int) (wrap64 ((i : Int) + 1)) b0 b1 b2 b3 b4 b5 b6 b7 else none) none) ?_
    refine Evp.pos (by omega) ?_
    rw [wrap_succ (by omega)]
    have := ih (i + 1) (by omega) (out ++ [([b0, b1, b2, b3, b4, b5, b6, b7] : List Int).getD i 0]) (by simp [ho])
    rw [List.append_assoc] at this
    have e : [([b0, b1, b2, b3, b4, b5, b6, b7] : List Int).getD i 0] ++ (([b0, b1, b2, b3, b4, b5, b6, b7] : List Int).take n).drop (i + 1) = (([b0, b1, b2, b3, b4, b5, b6, b7] : List Int).take n).drop i := by
      have h1 : i < (([b0, b1, b2, b3, b4, b5, b6, b7] : List Int).take n).length := by rw [List.length_take]; simp; omega
      rw [List.drop_eq_getElem_cons h1, List.getElem_take, List.singleton_append, List.getD_eq_getElem?_getD, List.getElem?_eq_getElem (by simp; omega)]; rfl
    rw [e] at this
    exact this
theorem range_take (f : Nat → Int) {n : Nat} (hn : n ≤ 8) : ([f 0, f 1, f 2, f 3, f 4, f 5, f 6, f 7] : List Int).take n = (List.range n).map f := by
  match n, hn with
  | 0, _ => rfl
  | 1, _ => rfl
  | 2, _ => rfl
  | 3, _ => rfl
  | 4, _ => rfl
  | 5, _ => rfl
  | 6, _ => rfl
  | 7, _ => rfl
  | 8, _ => rfl
theorem toW_zeros {v : List Int} (hv : vok v = true) : toW (v ++ [0, 0, 0, 0, 0, 0, 0, 0]) = toW v := by
  obtain ⟨a, b, c, d, rfl, _⟩ := vok_four hv
  funext j
  show toF _ = toF _
  congr 1
  rcases Nat.lt_or_ge j 12 with hj | hj
  · match j, hj with
    | 0, _ => rfl
    | 1, _ => rfl
    | 2, _ => rfl
    | 3, _ => rfl
    | 4, _ => rfl
    | 5, _ => rfl
    | 6, _ => rfl
    | 7, _ => rfl
    | 8, _ => rfl
    | 9, _ => rfl
    | 10, _ => rfl
    | 11, _ => rfl
  · rw [List.getD_eq_getElem?_getD, List.getElem?_eq_none (by simp; omega), List.getD_eq_getElem?_getD, List.getElem?_eq_none (by simp; omega)]
/-- what is left of a row is 0 just if it is made of the rows -/
theorem left_zero {m : List (List Int)} (hm : ∀ r ∈ m, vok r = true) (h8 : m.length ≤ 8) {v : List Int} (hv : vok v = true) {z : List Int} (hz : kred (kspan m m.length).1 (v ++ [0, 0, 0, 0, 0, 0, 0, 0]) = z) :
    (z.getD 0 0 == 0 && (z.getD 1 0 == 0 && (z.getD 2 0 == 0 && (z.getD 3 0 == 0)))) = lhas m v ∧ toW z = red (kept (m.map toW) m.length) (toW v) ∧ can z := by
  obtain ⟨h1, h2, h3, h4, h5⟩ := kspan_inv hm h8 m.length (Nat.le_refl _)
  have h12 : (v ++ [0, 0, 0, 0, 0, 0, 0, 0]).length = 12 := by rw [List.length_append, (vok_iff.1 hv).1]; rfl
  have hcan : can (v ++ [0, 0, 0, 0, 0, 0, 0, 0]) := fun x hx => by
    rcases List.mem_append.1 hx with h | h
    · exact (vok_iff.1 hv).2 x h
    · simp at h; subst h; decide
  have ew : toW z = red (kept (m.map toW) m.length) (toW v) := by rw [← hz, toW_kred h1 h12, h2, toW_zeros hv]
  have hc : can z := hz ▸ can_kred hcan
  refine ⟨?_, ew, hc⟩
  have hb := (by_kept (toW_fours hm) (toW_four (vok_iff.1 hv).1)).1
  rw [List.length_map, ← ew] at hb
  rw [Bool.eq_iff_iff, lhas_iff hm hv, ← hb, ld_four_iff]
  simp only [Bool.and_eq_true, beq_iff_eq]
  constructor
  · rintro ⟨e0, e1, e2, e3⟩ i hi
    match i, hi with
    | 0, _ => exact (toW_zero_iff hc 0).2 e0
    | 1, _ => exact (toW_zero_iff hc 1).2 e1
    | 2, _ => exact (toW_zero_iff hc 2).2 e2
    | 3, _ => exact (toW_zero_iff hc 3).2 e3
  · intro h
    exact ⟨(toW_zero_iff hc 0).1 (h 0 (by omega)), (toW_zero_iff hc 1).1 (h 1 (by omega)), (toW_zero_iff hc 2).1 (h 2 (by omega)), (toW_zero_iff hc 3).1 (h 3 (by omega))⟩
theorem impl_SpanBy_ev {m : List (List Int)} (hm : m.length ≤ 1048576) (v : List Int) : Evp (fun k => impl_SpanBy.f k m v) (· = lby m v) := by
  unfold impl_SpanBy.f
  refine Evp.bind (impl_matrixOf_ev hm) fun t ht => ?_
  subst ht
  have no : ∀ (x6 : _) a b c d, Evp (fun k => impl_SpanBy.j0 k m x6 true a b c d) (· = ([], false)) := fun x6 a b c d => Evp.step (fun k => by rw [impl_SpanBy.j0]) (Evp.pos rfl (Evp.some' rfl))
  by_cases hv : vok v = true
  · obtain ⟨a, b, c, d, rfl, _⟩ := vok_four hv
    simp only [impl_vectorOf_ok hv, Option.bind_some]
    by_cases hk : mok m = true
    · obtain ⟨h8, hr⟩ := mok_iff.1 hk
      have ha : m.all vok = true := by simpa using hr
      rw [if_pos ha]
      refine Evp.pos (by simp; omega) ?_
      refine Evp.step (fun k => by rw [impl_SpanBy.j0]) (Evp.neg (by simp) ?_)
      refine Evp.bind (spanOf_ev hr h8) fun t ht => ?_
      subst ht
      obtain ⟨h1, h2, h3, h4, h5⟩ := kspan_inv hr h8 m.length (Nat.le_refl _)
      refine Evp.bind (impl_by_ev h1 (by omega) (kspan m m.length).2 hv rfl) fun t ht => ?_
      subst ht
      obtain ⟨e1, e2, e3⟩ := left_zero hr h8 hv rfl
      generalize hz : kred (kspan m m.length).1 ([a, b, c, d] ++ [0, 0, 0, 0, 0, 0, 0, 0]) = z at e1 e2 e3
      simp only [e1]
      unfold lby
      rw [hk, hv]
      refine Evp.ite (fun hh => ?_) fun hh => Evp.some' (by simp [hh])
      refine Evp.pos (by omega) (Evp.pos (by omega) ?_)
      refine (spanBy_l0_ev h8 m.length 0 (by omega) [] rfl).mono fun r hrr => ?_
      rw [hrr, hh, List.drop_zero, List.nil_append, range_take (fun j => (-(z.getD (4 + j) 0)) % 31) h8]
      simp only [Bool.and_self, if_true, coefs, hz]
    · have e : lby m [a, b, c, d] = ([], false) := by unfold lby; rw [Bool.eq_false_iff.2 hk]; rfl
      rw [e]
      by_cases ha : m.all vok = true
      · rw [if_pos ha]
        refine Evp.neg ?_ (no _ _ _ _ _)
        intro h; apply hk; exact mok_iff.2 ⟨by simpa using h, by simpa using ha⟩
      · rw [if_neg ha]
        exact Evp.neg (by simp) (no _ _ _ _ _)
  · have hv' := Bool.eq_false_iff.2 hv
    simp only [impl_vectorOf_no hv', Option.bind_some]
    have e : lby m v = ([], false) := by unfold lby; rw [hv', Bool.and_false]; rfl
    rw [e]
    exact Evp.ite (fun _ => no _ _ _ _ _) fun _ => no _ _ _ _ _
def lmadeN (m : List (List Int)) (b : List Int) (n : Nat) : List Int := (List.range n).foldl (fun v i => lsum v (lscale (m.getD i []) (b.getD i 0))) [0, 0, 0, 0]
theorem lmadeN_succ (m : List (List Int)) (b : List Int) (n : Nat) : lmadeN m b (n + 1) = lsum (lmadeN m b n) (lscale (m.getD n []) (b.getD n 0)) := by simp [lmadeN, List.range_succ]
theorem lmadeN_vok {m : List (List Int)} (hm : ∀ r ∈ m, vok r = true) (b : List Int) : ∀ n, n ≤ m.length → vok (lmadeN m b n) = true := by
  intro n
  induction n with
  | zero => intro _; rfl
  | succ n ih =>
    intro hn
    have h1 := vok_iff.1 (ih (by omega))
    have h2 := vok_iff.1 (vok_getD hm (i := n) (by omega))
    rw [lmadeN_succ]
    exact vok_iff.2 ⟨by rw [lsum_len (by rw [lscale_len, h1.1, h2.1]), h1.1], can_lsum _ _⟩
theorem toW_lmadeN {m : List (List Int)} (hm : ∀ r ∈ m, vok r = true) (b : List Int) : ∀ n, n ≤ m.length → toW (lmadeN m b n) = comb (toW b) ((m.map toW).take n) := by
  intro n
  induction n with
  | zero => intro _; rw [List.take_zero]; exact funext fun i => toW_replicate 4 i
  | succ n ih =>
    intro hn
    have h1 := vok_iff.1 (lmadeN_vok hm b n (by omega))
    have h2 := vok_iff.1 (vok_getD hm (i := n) (by omega))
    rw [lmadeN_succ, take_snoc (m.map toW) (by rw [List.length_map]; omega), comb_snoc, ← ih (by omega), getD_map_toW]
    have hl : ((m.map toW).take n).length = n := by rw [List.length_take, List.length_map]; omega
    rw [hl]
    funext i
    rw [toW_lsum (by rw [lscale_len, h1.1, h2.1]), toW_lscale]
    show toW (lmadeN m b n) i + toW (m.getD n []) i * toF (b.getD n 0) = toW (lmadeN m b n) i + toF (b.getD n 0) * toW (m.getD n []) i
    grind
theorem toW_made {m : List (List Int)} (hm : ∀ r ∈ m, vok r = true) (b : List Int) : toW (lmadeN m b m.length) = comb (toW b) (m.map toW) := by
  rw [toW_lmadeN hm b _ (Nat.le_refl _), List.take_of_length_le (by rw [List.length_map]; exact Nat.le_refl _)]
theorem vscale_ok {v : List Int} {c : Int} (hv : vok v = true) (hc : ok c = true) : vscale v c = lscale v c := by unfold vscale; rw [hv, hc]; rfl
theorem vsum_ok {a b : List Int} (ha : vok a = true) (hb : vok b = true) : vsum a b = lsum a b := by unfold vsum; rw [ha, hb]; rfl
theorem lkMade_ev {m : List (List Int)} (ho : mok m = true) {b : List Int} (hb : can b) (hl : b.length = m.length) : Evp (fun k => laws_lkMade.f k m b) (· = lmadeN m b m.length) := by
  obtain ⟨h8, hm⟩ := mok_iff.1 ho
  have key : ∀ (d i : Nat), i + d = m.length → Evp (fun k => laws_lkMade.l0 k m b (lmadeN m b i) (i : Int)) (· = lmadeN m b m.length) := by
    intro d
    induction d with
    | zero =>
      intro i hi
      obtain rfl : i = m.length := by omega
      exact Evp.step (fun k => by rw [laws_lkMade.l0]) (Evp.neg (by omega) (Evp.step (fun k => by rw [laws_lkMade.j1]) (Evp.neg (by simp) (Evp.some' rfl))))
    | succ d ih =>
      intro i hi
      refine Evp.step (fun k => by rw [laws_lkMade.l0]) (Evp.pos (by omega) (Evp.step (fun k => by rw [laws_lkMade.j1]) (Evp.pos (by simp; omega) (Evp.pos (by omega) (Evp.pos (by omega) (Evp.pos (by omega) ?_))))))
      have hr := vok_getD hm (i := i) (by omega)
      have hc := can_get hb i
      have hs : vok (lscale (m.getD i []) (b.getD i 0)) = true := vok_iff.2 ⟨by rw [lscale_len, (vok_iff.1 hr).1], can_lscale _ _⟩
      rw [rdL1_nat, rd_nat, wrap_succ (by omega)]
      refine Evp.bind (impl_VecScale_ev _ _) fun t ht => ?_
      subst ht
      refine Evp.bind (impl_VecSum_ev _ _) fun t ht => ?_
      subst ht
      rw [vscale_ok hr hc, vsum_ok (lmadeN_vok hm b i (by omega)) hs, ← lmadeN_succ]
      exact ih (i + 1) (by omega)
  unfold laws_lkMade.f
  exact key m.length 0 (by omega)

def Dw (r : List (List Int) × List Int) : Prop := Dm r.1 ∧ r.2.length ≤ 10
theorem made_l0_ev {l : List Int} (hs : St l) {m : List (List Int)} (ho : mok m = true) : ∀ (d i : Nat), i + d = m.length → ∀ (v : List Int) (q : Int), vok v = true → 0 ≤ q ∧ q ≤ 90000 + 4 * i →
    Evp (fun k => spec_l91Made.l0 k m v (i : Int) l q) (fun r => r.1 = m ∧ r.2.1.length ≤ 10) := by
  intro d
  obtain ⟨h8, hm⟩ := mok_iff.1 ho
  induction d with
  | zero =>
    intro i hi v q hv hq
    exact Evp.step (fun k => by rw [spec_l91Made.l0]) (Evp.neg (by omega) (Evp.some' ⟨rfl, by show v.length ≤ 10; have := (vok_iff.1 hv).1; omega⟩))
  | succ d ih =>
    intro i hi v q hv hq
    have hr := vok_getD hm (i := i) (by omega)
    refine Evp.step (fun k => by rw [spec_l91Made.l0]) (Evp.pos (by omega) (Evp.pos (by omega) ?_))
    refine Evp.bind (pick_ev hs (n := 31) (by omega) (by omega)) fun r1 h1 => ?_
    refine Evp.bind (pick_ev hs (n := 2) (by omega) (by omega)) fun r2 h2 => ?_
    have hp : 0 ≤ r1.1 * r2.1 ∧ r1.1 * r2.1 < 31 := by
      rcases (by omega : r2.1 = 0 ∨ r2.1 = 1) with h | h <;> rw [h] <;> omega
    rw [rdL1_nat, wrap_small (by omega), wrap_succ (by omega)]
    refine Evp.bind (l2Scale_ev (vok_iff.1 hr).2 (ok_iff.2 ⟨hp.1, by omega⟩) (by have := (vok_iff.1 hr).1; omega)) fun t ht => ?_
    subst ht
    have hl : v.length = (lscale (m.getD i []) (r1.1 * r2.1)).length := by rw [lscale_len, (vok_iff.1 hv).1, (vok_iff.1 hr).1]
    refine Evp.bind (l2Sum_ev (vok_iff.1 hv).2 (can_lscale _ _) hl (by have := (vok_iff.1 hv).1; omega)) fun t ht => ?_
    subst ht
    exact ih (i + 1) (by omega) _ _ (vok_iff.2 ⟨by rw [lsum_len hl, (vok_iff.1 hv).1], can_lsum _ _⟩) (by omega)
theorem l91Made_ev {l : List Int} (hs : St l) : Evp (fun k => spec_l91Made.f k l 0) (fun r => Dm r.1 ∧ r.2.1.length ≤ 10) := by
  unfold spec_l91Made.f
  refine Evp.bind (l91Rows_ev hs (p := 0) (by omega)) fun r1 h1 => ?_
  refine Evp.bind (l91Vec_ev hs (by omega)) fun r2 h2 => ?_
  refine Evp.bind (spec_SpanOk_ev (by omega) (fun r hr => by have := h1.1.2 r hr; omega)) fun t ht => ?_
  subst ht
  have hd : Dm r1.1 := ⟨by omega, h1.1.2⟩
  have h10 : r2.1.length ≤ 10 := by have := h2.1.2.1; omega
  have no : ∀ q, Evp (fun k => spec_l91Made.j0 k r1.1 r2.1 false l q) (fun r => Dm r.1 ∧ r.2.1.length ≤ 10) := fun q =>
    Evp.step (fun k => by rw [spec_l91Made.j0]) (Evp.neg (by simp) (Evp.some' ⟨hd, h10⟩))
  refine Evp.ite (fun ho => ?_) fun _ => no _
  refine Evp.ite (fun _ => ?_) fun _ => no _
  refine Evp.bind (pick_ev hs (n := 3) (by omega) (by omega)) fun r3 h3 => ?_
  refine Evp.step (fun k => by rw [spec_l91Made.j0]) (Evp.ite (fun _ => Evp.pos (by omega) ?_) fun _ => Evp.some' ⟨hd, h10⟩)
  refine Evp.mono (made_l0_ev hs ho r1.1.length 0 (by omega) _ _ (by rfl) (by omega)) fun r hr => ?_
  exact ⟨by rw [hr.1]; exact hd, hr.2⟩
theorem drawSpanBy_ev {l : List Int} (h : ∀ x ∈ l, 0 ≤ x ∧ x ≤ 255) : Evp (fun k => spec_DrawSpanBy.f k l) Dw := by
  unfold spec_DrawSpanBy.f
  obtain ⟨l', e, hs⟩ := open_eq l h
  rw [e]; simp only [Option.bind_some]
  exact Evp.bind (l91Made_ev hs) fun r hr => Evp.some' hr
theorem lsome_len (m : List (List Int)) : (lsome m).length = (lfirst m).length := by unfold lsome; rw [List.length_map]
theorem lfirst_len (m : List (List Int)) : (lfirst m).length ≤ m.length := by
  unfold lfirst; exact Nat.le_trans (List.length_filter_le _ _) (by rw [List.length_range]; exact Nat.le_refl _)
theorem coefs_isBy {m : List (List Int)} (hm : ∀ r ∈ m, vok r = true) (h8 : m.length ≤ 8) {v : List Int} (hv : vok v = true) (hin : In (m.map toW) (toW v)) : IsBy m v (coefs m v) := by
  obtain ⟨_, e2, e3⟩ := left_zero hm h8 hv rfl
  have hl : (coefs m v).length = m.length := by unfold coefs; rw [List.length_map, List.length_range]
  refine isBy_kept hm hv hin ⟨hl, fun x hx => ?_⟩ fun j hj => ?_
  · unfold coefs at hx
    obtain ⟨i, _, rfl⟩ := List.mem_map.1 hx
    exact ok_iff.2 ⟨by omega, by omega⟩
  · rw [← e2]
    have eg : (coefs m v).getD j 0 = (-(kred (kspan m m.length).1 (v ++ [0, 0, 0, 0, 0, 0, 0, 0])).getD (4 + j) 0) % 31 := by
      unfold coefs; rw [List.getD_eq_getElem?_getD, List.getElem?_map, List.getElem?_range hj]; rfl
    show toF ((coefs m v).getD j 0) = -(toF ((kred (kspan m m.length).1 (v ++ [0, 0, 0, 0, 0, 0, 0, 0])).getD (4 + j) 0))
    rw [eg, ← neg_coef]
    congr 1; omega
def firsts (m : List (List Int)) : List Int := if mok m = true then (lfirst m).map (fun (j : Nat) => (j : Int)) else []
theorem mok_take' {m : List (List Int)} (h : mok m = true) (n : Nat) : mok (m.take n) = true := by
  obtain ⟨h8, hm⟩ := mok_iff.1 h
  exact mok_iff.2 ⟨by rw [List.length_take]; omega, fun r hr => hm r (List.mem_of_mem_take hr)⟩
theorem l3First_ev {m : List (List Int)} (ho : mok m = true) : Evp (fun k => spec_l3First.f k m) (· = firsts m) := by
  obtain ⟨h8, hm⟩ := mok_iff.1 ho
  have key : ∀ (d i : Nat), i + d = m.length → Evp (fun k => spec_l3First.l0 k m (((List.range i).filter fun i => !lhas (m.take i) (m.getD i [])).map (fun (j : Nat) => (j : Int))) (i : Int)) (· = firsts m) := by
    intro d
    induction d with
    | zero =>
      intro i hi
      obtain rfl : i = m.length := by omega
      exact Evp.step (fun k => by rw [spec_l3First.l0]) (Evp.neg (by omega) (Evp.some' (by unfold firsts; rw [if_pos ho]; rfl)))
    | succ d ih =>
      intro i hi
      refine Evp.step (fun k => by rw [spec_l3First.l0]) (Evp.pos (by omega) (Evp.pos (by omega) (Evp.pos (by omega) ?_)))
      rw [rdL1_nat, Int.toNat_natCast, l3Has_eq (mok_take' ho i) (vok_getD hm (by omega)), wrap_succ (by omega)]
      simp only [Option.bind_some]
      have hi1 := ih (i + 1) (by omega)
      rw [List.range_succ, List.filter_append, List.map_append] at hi1
      refine Evp.ite (fun h => ?_) fun h => ?_
      · rw [show List.filter (fun i => !lhas (m.take i) (m.getD i [])) [i] = [] by simp only [List.filter_cons, h]; rfl, List.map_nil, List.append_nil] at hi1
        exact hi1
      · rw [show List.filter (fun i => !lhas (m.take i) (m.getD i [])) [i] = [i] by simp only [List.filter_cons, Bool.eq_false_iff.2 h]; rfl] at hi1
        refine Evp.pos ?_ hi1
        rw [List.length_map]
        have := List.length_filter_le (fun i => !lhas (m.take i) (m.getD i [])) (List.range i)
        rw [List.length_range] at this
        omega
  unfold spec_l3First.f
  exact key m.length 0 (by omega)
theorem impl_SpanFirst_eq {m : List (List Int)} (hm : m.length ≤ 1048576) : impl_SpanFirst.f m = some (firsts m) := by unfold impl_SpanFirst.f firsts; rw [if_pos hm]
theorem lkInts_self {a : List Int} (ha : a.length ≤ 1000000000000) : Evp (fun k => laws_lkInts.f k a a) (· = true) := by
  have key : ∀ (d i : Nat), i + d = a.length → Evp (fun k => laws_lkInts.l0 k a a (i : Int)) (· = true) := by
    intro d
    induction d with
    | zero => intro i hi; exact Evp.step (fun k => by rw [laws_lkInts.l0]) (Evp.neg (by omega) (Evp.some' rfl))
    | succ d ih =>
      intro i hi
      refine Evp.step (fun k => by rw [laws_lkInts.l0]) (Evp.pos (by omega) (Evp.pos (by omega) (Evp.pos (by omega) (Evp.pos rfl ?_))))
      rw [wrap_succ (by omega)]
      exact ih (i + 1) (by omega)
  unfold laws_lkInts.f
  exact Evp.pos rfl (key a.length 0 (by omega))
theorem l3Less_evG {a b : List Int} (ca : can a) (cb : can b) (hl : a.length = b.length) (hn : b.length ≤ 1000000) (h0 : 0 ≤ llead b) : Evp (fun k => spec_l3Less.f k a b) (· = lless a b) := by
  obtain ⟨i, hi, e⟩ : ∃ i : Nat, i < b.length ∧ llead b = (i : Int) := by
    rcases llead_cases b with ⟨h, _⟩ | ⟨i, h1, h2, _⟩
    · rw [h] at h0; exact absurd h0 (by decide)
    · exact ⟨i, by omega, h2⟩
  have oa := ok_iff.1 (can_get ca i); have ob := can_get cb i
  have oi := inv_range (b.getD i 0)
  unfold spec_l3Less.f
  refine Evp.bind (l2Lead_ev (by omega)) fun t ht => ?_
  subst ht
  rw [e]
  refine Evp.pos (by omega) (Evp.pos (by omega) (Evp.pos (by omega) ?_))
  rw [rd_nat, rd_nat]
  refine Evp.bind (spec_l1Inv_ev ob) fun t ht => ?_
  subst ht
  have hm := mul_small (a := a.getD i 0) (b := inv (b.getD i 0)) (ok_iff.2 oa) (ok_iff.2 ⟨by omega, by omega⟩)
  have e2 : Int.tmod (wrap64 (31 - Int.tmod (wrap64 (a.getD i 0 * inv (b.getD i 0))) 31)) 31 = (31 - a.getD i 0 * inv (b.getD i 0) % 31) % 31 := by
    generalize a.getD i 0 * inv (b.getD i 0) = y at *
    rw [wrap_small (x := y) (by omega), tmod31 (x := y) (by omega), wrap_small (by omega), tmod31 (by omega)]
  rw [e2]
  refine Evp.bind (l2Scale_ev cb (mod_ok _) (by omega)) fun t ht => ?_
  subst ht
  refine Evp.bind (l2Sum_ev ca (can_lscale _ _) (by rw [lscale_len]; omega) (by omega)) fun t ht => Evp.some' ?_
  rw [ht]
  unfold lless
  rw [e, gt_nat, gt_nat]
theorem can_lless (a b : List Int) : can (lless a b) := can_lsum _ _
theorem lless_len {a b : List Int} (hl : a.length = b.length) : (lless a b).length = a.length := by
  unfold lless; exact lsum_len (by rw [lscale_len]; exact hl)
/-- a step's rows, the one that leads at hand -/
def bstep (p i : Nat) (R : List (List Int)) : List (List Int) := R.mapIdx fun k r => if k ≠ i ∧ gt r p ≠ 0 then lless r (R.getD i []) else r
theorem bstep_len (p i : Nat) (R : List (List Int)) : (bstep p i R).length = R.length := by simp [bstep]
theorem bstep_get (p i : Nat) (R : List (List Int)) (j : Nat) (hj : j < R.length) : (bstep p i R)[j]'(by rw [bstep_len]; exact hj) = if j ≠ i ∧ gt R[j] p ≠ 0 then lless R[j] (R.getD i []) else R[j] := by
  simp [bstep]
theorem cl_getD {n : Nat} {R : List (List Int)} (hR : ∀ r ∈ R, Cl n r) {i : Nat} (hi : i < R.length) : Cl n (R.getD i []) := by
  rw [List.getD_eq_getElem?_getD, List.getElem?_eq_getElem hi]; exact hR _ (List.getElem_mem hi)
theorem cl_lless {n : Nat} {a b : List Int} (ha : Cl n a) (hb : Cl n b) : Cl n (lless a b) := ⟨by rw [lless_len (by rw [ha.1, hb.1]), ha.1], can_lless _ _⟩
theorem cl_bstep {n : Nat} {R : List (List Int)} (hR : ∀ r ∈ R, Cl n r) {p i : Nat} (hi : i < R.length) : ∀ r ∈ bstep p i R, Cl n r := fun r hr => by
  obtain ⟨j, hj, rfl⟩ := List.getElem_of_mem hr
  rw [bstep_len] at hj
  rw [bstep_get p i R j hj]
  split
  · exact cl_lless (hR _ (List.getElem_mem hj)) (cl_getD hR hi)
  · exact hR _ (List.getElem_mem hj)
def bmid (p i : Nat) (R : List (List Int)) (j : Nat) : List (List Int) := (bstep p i R).take j ++ R.drop j
theorem bmid_len (p i : Nat) (R : List (List Int)) {j : Nat} (hj : j ≤ R.length) : (bmid p i R j).length = R.length := by
  unfold bmid; rw [List.length_append, List.length_take, List.length_drop, bstep_len]; omega
theorem bmid_at (p i : Nat) (R : List (List Int)) {j : Nat} (hj : j < R.length) : (bmid p i R j).getD j [] = R.getD j [] := by
  unfold bmid
  rw [List.getD_eq_getElem?_getD, List.getElem?_append_right (by rw [List.length_take, bstep_len]; omega), List.length_take, bstep_len, List.getElem?_drop, show j + (j - min j R.length) = j by omega]; rfl
theorem bmid_i (p i : Nat) (R : List (List Int)) {j : Nat} (hj : j ≤ R.length) (hi : i < R.length) : (bmid p i R j).getD i [] = R.getD i [] := by
  by_cases h : i < j
  · unfold bmid
    rw [List.getD_eq_getElem?_getD, List.getElem?_append_left (by rw [List.length_take, bstep_len]; omega), List.getElem?_take_of_lt h, List.getElem?_eq_getElem (by rw [bstep_len]; exact hi), bstep_get p i R i hi, if_neg (fun h => h.1 rfl), List.getD_eq_getElem?_getD, List.getElem?_eq_getElem hi]
  · unfold bmid
    rw [List.getD_eq_getElem?_getD, List.getElem?_append_right (by rw [List.length_take, bstep_len]; omega), List.length_take, bstep_len, List.getElem?_drop, show j + (i - min j R.length) = i by omega]; rfl
theorem bmid_same (p i : Nat) (R : List (List Int)) {j : Nat} (hj : j < R.length) (h : ¬ (j ≠ i ∧ gt R[j] p ≠ 0)) : bmid p i R (j + 1) = bmid p i R j := by
  unfold bmid
  rw [List.take_succ_eq_append_getElem (by rw [bstep_len]; exact hj), bstep_get p i R j hj, if_neg h, List.drop_eq_getElem_cons hj, List.append_assoc]; rfl
theorem bmid_set (p i : Nat) (R : List (List Int)) {j : Nat} (hj : j < R.length) (h : j ≠ i ∧ gt R[j] p ≠ 0) : (bmid p i R j).set j (lless (R.getD j []) (R.getD i [])) = bmid p i R (j + 1) := by
  unfold bmid
  have hl : ((bstep p i R).take j).length = j := by rw [List.length_take, bstep_len]; omega
  rw [List.set_append_right _ _ (by omega), hl, Nat.sub_self, List.drop_eq_getElem_cons hj, List.set_cons_zero, List.take_succ_eq_append_getElem (by rw [bstep_len]; exact hj), bstep_get p i R j hj, if_pos h, List.append_assoc, List.getD_eq_getElem?_getD, List.getElem?_eq_getElem hj]; rfl
theorem vok_row {m : List (List Int)} (hm : ∀ r ∈ m, vok r = true) {i : Nat} (hi : i < m.length) : vok (m.getD i []) = true := by
  rw [List.getD_eq_getElem?_getD, List.getElem?_eq_getElem hi]; exact hm _ (List.getElem_mem hi)
theorem by_l3_ev {n : Nat} (hn : n ≤ 1000) {R : List (List Int)} (hR : ∀ r ∈ R, Cl (4 + n) r) (hl : R.length ≤ 1000000) {x : List Int} (hx : Cl (4 + n) x) {p i : Nat} (hp : p < 4) (hi : i < R.length) (hlead : llead (R.getD i []) = (p : Int)) {Q : _ → Prop}
    (h : Evp (fun k => spec_l3By.l1 k (bstep p i R) (lless x (R.getD i [])) ((p + 1 : Nat) : Int)) Q) : ∀ (d j : Nat), j + d = R.length →
    Evp (fun k => spec_l3By.l3 k (bmid p i R j) x (p : Int) (i : Int) (j : Int)) Q := by
  have ci := cl_getD hR hi
  intro d
  induction d with
  | zero =>
    intro j hj
    have hb := bmid_len p i R (j := j) (by omega)
    refine Evp.step (fun k => by rw [spec_l3By.l3]) (Evp.neg (by omega) (Evp.pos (by omega) (Evp.pos (by omega) ?_)))
    rw [rdL1_nat, bmid_i p i R (by omega) hi]
    refine Evp.bind (l3Less_evG hx.2 ci.2 (by rw [hx.1, ci.1]) (by rw [ci.1]; omega) (by omega)) fun t ht => ?_
    subst ht
    have e : bmid p i R j = bstep p i R := by
      unfold bmid
      rw [List.take_of_length_le (by rw [bstep_len]; omega), List.drop_eq_nil_of_le (by omega), List.append_nil]
    rw [e, wrap_succ (by omega)]
    exact h
  | succ d ih =>
    intro j hj
    have hj1 : j < R.length := by omega
    have hb := bmid_len p i R (j := j) (by omega)
    have cj := cl_getD hR hj1
    have eR : R[j] = R.getD j [] := by rw [List.getD_eq_getElem?_getD, List.getElem?_eq_getElem hj1]; rfl
    refine Evp.step (fun k => by rw [spec_l3By.l3]) (Evp.pos (by omega) (Evp.ite (fun hc => ?_) fun hc => ?_))
    · rw [wrap_succ (by omega), ← bmid_same p i R hj1 (fun h => h.1 (by omega))]
      exact ih (j + 1) (by omega)
    · refine Evp.pos (by omega) (Evp.pos (by omega) ?_)
      rw [rdL1_nat, bmid_at p i R hj1, rdL1_nat, bmid_i p i R (by omega) hi]
      refine Evp.pos (by rw [cj.1]; omega) ?_
      rw [rd_nat]
      refine Evp.ite (fun hz => ?_) fun hz => ?_
      · rw [wrap_succ (by omega), ← bmid_same p i R hj1 (fun h => h.2 (by rw [eR, gt_nat]; exact hz))]
        exact ih (j + 1) (by omega)
      · refine Evp.pos (by omega) (Evp.pos (by omega) ?_)
        refine Evp.bind (l3Less_evG cj.2 ci.2 (by rw [cj.1, ci.1]) (by rw [ci.1]; omega) (by omega)) fun t ht => ?_
        subst ht
        rw [Int.toNat_natCast, wrap_succ (by omega), bmid_set p i R hj1 ⟨by omega, by rw [eR, gt_nat]; exact hz⟩]
        exact ih (j + 1) (by omega)
theorem by_l2_ev {n : Nat} (hn : n ≤ 1000) {R : List (List Int)} (hR : ∀ r ∈ R, Cl (4 + n) r) (hl : R.length ≤ 1000000) {x : List Int} (hx : Cl (4 + n) x) {p : Nat} (hp : p < 4) {Q : _ → Prop}
    (h : Evp (fun k => spec_l3By.l1 k (Lin.lstep (R, x) p).1 (Lin.lstep (R, x) p).2 ((p + 1 : Nat) : Int)) Q) : ∀ (d i : Nat), i + d = R.length → (∀ q, q < i → llead (R.getD q []) ≠ (p : Int)) →
    Evp (fun k => spec_l3By.l2 k R x (p : Int) (i : Int)) Q := by
  intro d
  induction d with
  | zero =>
    intro i hi hq
    have e : R.findIdx? (fun r => llead r == (p : Int)) = none := by
      rw [List.findIdx?_eq_none_iff]
      intro r hr
      obtain ⟨q, hq1, rfl⟩ := List.getElem_of_mem hr
      have := hq q (by omega)
      rw [List.getD_eq_getElem?_getD, List.getElem?_eq_getElem hq1] at this
      simpa using this
    refine Evp.step (fun k => by rw [spec_l3By.l2]) (Evp.neg (by omega) ?_)
    rw [wrap_succ (by omega)]
    simpa only [Lin.lstep, e] using h
  | succ d ih =>
    intro i hi hq
    have hi1 : i < R.length := by omega
    have ci := cl_getD hR hi1
    refine Evp.step (fun k => by rw [spec_l3By.l2]) (Evp.pos (by omega) (Evp.pos (by omega) ?_))
    rw [rdL1_nat]
    refine Evp.bind (l2Lead_ev (by rw [ci.1]; omega)) fun t ht => ?_
    subst ht
    refine Evp.ite (fun hc => ?_) fun hc => ?_
    · have e : R.findIdx? (fun r => llead r == (p : Int)) = some i := by
        rw [List.findIdx?_eq_some_iff_getElem]
        refine ⟨hi1, ?_, fun q hq1 => ?_⟩
        · rw [List.getD_eq_getElem?_getD, List.getElem?_eq_getElem hi1] at hc
          simpa using hc
        · have := hq q hq1
          rw [List.getD_eq_getElem?_getD, List.getElem?_eq_getElem (by omega)] at this
          simpa using this
      have h2 : Evp (fun k => spec_l3By.l1 k (bstep p i R) (lless x (R.getD i [])) ((p + 1 : Nat) : Int)) Q := by
        have h1 := h
        simp only [Lin.lstep, e] at h1
        exact h1
      exact by_l3_ev hn hR hl hx hp hi1 hc h2 R.length 0 (by omega)
    · rw [wrap_succ (by omega)]
      refine ih (i + 1) (by omega) fun q hq1 => ?_
      rcases Nat.lt_or_ge q i with c | c
      · exact hq q c
      · rw [show q = i by omega]; exact hc
theorem lstep_cl {n : Nat} {s : List (List Int) × List Int} (hR : ∀ r ∈ s.1, Cl (4 + n) r) (hx : Cl (4 + n) s.2) (p : Nat) : (∀ r ∈ (Lin.lstep s p).1, Cl (4 + n) r) ∧ Cl (4 + n) (Lin.lstep s p).2 ∧ (Lin.lstep s p).1.length = s.1.length := by
  unfold Lin.lstep
  split
  · exact ⟨hR, hx, rfl⟩
  · rename_i i e
    have hi : i < s.1.length := by
      obtain ⟨h, _⟩ := List.findIdx?_eq_some_iff_getElem.1 e
      exact h
    exact ⟨cl_bstep (p := p) hR hi, cl_lless hx (cl_getD hR hi), bstep_len p i s.1⟩
theorem by_l1_ev {n : Nat} (hn : n ≤ 1000) {s : List (List Int) × List Int} (hR : ∀ r ∈ s.1, Cl (4 + n) r) (hl : s.1.length ≤ 1000000) (hx : Cl (4 + n) s.2) {p : Nat} (hp : p < 4) {Q : _ → Prop}
    (h : Evp (fun k => spec_l3By.l1 k (Lin.lstep s p).1 (Lin.lstep s p).2 ((p + 1 : Nat) : Int)) Q) : Evp (fun k => spec_l3By.l1 k s.1 s.2 (p : Int)) Q := by
  refine Evp.step (fun k => by rw [spec_l3By.l1]) (Evp.pos (by omega) ?_)
  exact by_l2_ev hn hR hl hx hp h s.1.length 0 (by omega) (fun q hq => absurd hq (Nat.not_lt_zero q))
theorem spec_l6In_eq (a b c : Int) : spec_l6In.f a b c = some (decide (b ≤ a) && decide (a ≤ c)) := by
  unfold spec_l6In.f
  by_cases h : b ≤ a
  · simp [h]
  · simp [h]
def byOf : Option (List Int) → List Int × Bool
  | some l => (l, true)
  | none => ([], false)
theorem spec_l3By_ev {m : List (List Int)} (hm : ∀ r ∈ m, vok r = true) (hn : m.length ≤ 1000) {v : List Int} (hv : vok v = true) : Evp (fun k => spec_l3By.f k m v) (· = byOf (Lin.lby m v)) := by
  obtain ⟨v4, vc⟩ := vok_iff.1 hv
  unfold spec_l3By.f
  have hx : Cl (4 + m.length) (v ++ List.replicate m.length 0) := ⟨by rw [List.length_append, List.length_replicate, v4], can_append vc (can_replicate _)⟩
  have hR : ∀ r ∈ (List.range m.length).map (laug m), Cl (4 + m.length) r := fun r hr => by
    obtain ⟨i, hi, rfl⟩ := List.mem_map.1 hr
    exact laug_cl hm (List.mem_range.1 hi)
  have fin : Evp (fun k => spec_l3By.l1 k ((List.range m.length).map (laug m)) (v ++ List.replicate m.length 0) 0) (· = byOf (Lin.lby m v)) := by
    generalize hs : (((List.range m.length).map (laug m), v ++ List.replicate m.length 0) : List (List Int) × List Int) = s0
    have a0 : (∀ r ∈ s0.1, Cl (4 + m.length) r) ∧ Cl (4 + m.length) s0.2 ∧ s0.1.length = m.length := by subst hs; exact ⟨hR, hx, by simp⟩
    have a1 := lstep_cl a0.1 a0.2.1 0
    have a2 := lstep_cl a1.1 a1.2.1 1
    have a3 := lstep_cl a2.1 a2.2.1 2
    have a4 := lstep_cl a3.1 a3.2.1 3
    have es : Lin.lsteps m v = Lin.lstep (Lin.lstep (Lin.lstep (Lin.lstep s0 0) 1) 2) 3 := by unfold Lin.lsteps; rw [hs]; rfl
    have goal : Evp (fun k => spec_l3By.l1 k s0.1 s0.2 ((0 : Nat) : Int)) (· = byOf (Lin.lby m v)) := by
      refine by_l1_ev hn a0.1 (by omega) a0.2.1 (by decide) ?_
      refine by_l1_ev hn a1.1 (by omega) a1.2.1 (by decide) ?_
      refine by_l1_ev hn a2.1 (by omega) a2.2.1 (by decide) ?_
      refine by_l1_ev hn a3.1 (by omega) a3.2.1 (by decide) ?_
      refine Evp.step (fun k => by rw [spec_l3By.l1]) (Evp.neg (by decide) ?_)
      unfold Lin.lby
      rw [es]
      generalize Lin.lstep (Lin.lstep (Lin.lstep (Lin.lstep s0 0) 1) 2) 3 = s at a4 ⊢
      refine Evp.bind (l2Lead_ev (by rw [a4.2.1.1]; omega)) fun t ht => ?_
      subst ht
      rw [spec_l6In_eq]
      simp only [Option.bind_some]
      refine Evp.ite (fun hc => Evp.some' ?_) fun hc => ?_
      · rw [if_pos (by simpa using hc)]; rfl
      · rw [if_neg (by simpa using hc)]
        refine Evp.pos (by rw [a4.2.1.1]; omega) ?_
        refine Evp.bind (l2Scale_ev (fun y hy => a4.2.1.2 y (List.mem_of_mem_drop hy)) (by decide) (by rw [List.length_drop, a4.2.1.1]; omega)) fun t ht => Evp.some' ?_
        rw [ht]; rfl
    rw [← hs] at goal
    exact goal
  have key : ∀ d i, i + d = m.length → Evp (fun k => spec_l3By.l0 k m v ((List.range i).map (laug m)) (i : Int)) (· = byOf (Lin.lby m v)) := by
    intro d
    induction d with
    | zero =>
      intro i hi
      refine Evp.step (fun k => by rw [spec_l3By.l0]) (Evp.neg (by omega) ?_)
      simp only [Option.bind_some, List.nil_append, List.length_nil, Int.toNat_natCast]
      refine Evp.pos (by omega) (Evp.pos (by omega) (Evp.pos (by omega) ?_))
      rw [show i = m.length by omega]
      exact fin
    | succ d ih =>
      intro i hi
      have hi1 : i < m.length := by omega
      have l4 := (vok_iff.1 (vok_row hm hi1)).1
      refine Evp.step (fun k => by rw [spec_l3By.l0]) (Evp.pos (by omega) (Evp.pos (by omega) ?_))
      simp only [Option.bind_some, List.nil_append, List.length_nil, Int.toNat_natCast, List.length_replicate, List.length_set, rdL1_nat, List.length_map, List.length_range]
      refine Evp.pos (by omega) (Evp.pos (by omega) (Evp.pos (by omega) (Evp.pos (by omega) (Evp.pos (by omega) (Evp.pos (by omega) ?_)))))
      have := ih (i + 1) (by omega)
      rw [List.range_succ, List.map_append] at this
      rw [wrap_succ (by omega)]
      exact this
  exact key m.length 0 (by omega)
theorem rd_firsts {m : List (List Int)} (ho : mok m = true) {i : Nat} (hi : i < (lfirst m).length) : rd (firsts m) (i : Int) = ((lfirst m)[i] : Int) := by
  unfold firsts
  rw [if_pos ho, rd_nat, List.getD_eq_getElem?_getD, List.getElem?_map, List.getElem?_eq_getElem hi]; rfl
theorem firsts_length {m : List (List Int)} (ho : mok m = true) : (firsts m).length = (lfirst m).length := by
  unfold firsts; rw [if_pos ho, List.length_map]
def distTo (n : Nat) (first : List Nat) (b : List Int) (k : Nat) : List Int := (List.range k).foldl (fun out i => out.set (first.getD i 0) (b.getD i 0)) (List.replicate n 0)
theorem distTo_len (n : Nat) (first : List Nat) (b : List Int) (k : Nat) : (distTo n first b k).length = n := by
  induction k with
  | zero => simp [distTo]
  | succ k ih => unfold distTo at *; rw [List.range_succ, List.foldl_append]; simp only [List.foldl_cons, List.foldl_nil, List.length_set]; exact ih
theorem spec_SpanBy_ev {m : List (List Int)} (hm : m.length ≤ 1048576) (hr : ∀ r ∈ m, r.length ≤ 1048576) {v : List Int} (hv : v.length ≤ 1000000000000) : Evp (fun k => spec_SpanBy.f k m v) (· = lby m v) := by
  have bad : (mok m && vok v) = false → Evp (fun k => spec_SpanBy.j0 k m v true) (· = lby m v) := fun h =>
    Evp.step (fun k => by rw [spec_SpanBy.j0]) (Evp.pos rfl (Evp.some' (by unfold lby; rw [h]; rfl)))
  unfold spec_SpanBy.f
  refine Evp.bind (spec_SpanOk_ev hm hr) fun t ht => ?_
  subst ht
  refine Evp.ite (fun ho => ?_) fun h => bad (by simp [h])
  refine Evp.bind (spec_VecOk_ev hv) fun t ht => ?_
  subst ht
  by_cases hk : vok v = true
  · rw [hk]
    obtain ⟨h8, hmv⟩ := mok_iff.1 ho
    refine Evp.step (fun k => by rw [spec_SpanBy.j0]) (Evp.neg (by simp) ?_)
    refine Evp.bind (l3First_ev ho) fun t ht => ?_
    subst ht
    have hf := firsts_length ho
    have hlf := lfirst_len m
    have hls := lsome_len m
    have hsv := vok_lsome hmv
    have fin : Evp (fun k => (spec_l3By.f k (lsome m) v).bind fun bt => (if bt.2 = true then (if 0 ≤ (m.length : Int) then (if ((m.length : Int) : Int).toNat ≤ 35184372088832 then (spec_SpanBy.l1 k (firsts m) bt.1 (List.replicate ((m.length : Int) : Int).toNat 0) 0) else (none)) else (none)) else (some ((([] : List Int)), false)))) (· = lby m v) := by
      refine Evp.bind (spec_l3By_ev (m := lsome m) hsv (by omega) hk) fun t ht => ?_
      subst ht
      cases hb : Lin.lby (lsome m) v with
      | none =>
        refine Evp.neg (by simp [byOf]) (Evp.some' ?_)
        have hn : ¬ In (m.map toW) (toW v) := (spanBy_none hmv hk).1 (by unfold lspanBy; rw [hb]; rfl)
        have hh : lhas m v = false := by
          rw [Bool.eq_false_iff]; exact fun h => hn ((lhas_iff hmv hk).1 h)
        unfold lby
        rw [ho, hk, hh]; rfl
      | some b =>
        have hsb : lspanBy m v = some (ldist m.length (lfirst m) b) := by unfold lspanBy; rw [hb]; rfl
        have hin : In (m.map toW) (toW v) := isBy_in (spanBy_some hmv hk hsb)
        have hbl := (lby_some hsv hk hb).1
        refine Evp.pos rfl (Evp.pos (by omega) (Evp.pos (by omega) ?_))
        rw [Int.toNat_natCast]
        have key : ∀ d i, i + d = (lfirst m).length → Evp (fun k => spec_SpanBy.l1 k (firsts m) b (distTo m.length (lfirst m) b i) (i : Int)) (· = lby m v) := by
          intro d
          induction d with
          | zero =>
            intro i hi
            refine Evp.step (fun k => by rw [spec_SpanBy.l1]) (Evp.neg (by omega) (Evp.some' ?_))
            have e : distTo m.length (lfirst m) b i = ldist m.length (lfirst m) b := by unfold ldist; rw [show i = (lfirst m).length by omega]; rfl
            have e2 := spanBy_of hmv hk (coefs_isBy hmv h8 hk hin)
            rw [hsb] at e2
            unfold lby
            rw [ho, hk, (lhas_iff hmv hk).2 hin, e, Option.some.inj e2]; rfl
          | succ d ih =>
            intro i hi
            have hi1 : i < (lfirst m).length := by omega
            have hlt := lfirst_lt (m := m) _ (List.getElem_mem hi1)
            refine Evp.step (fun k => by rw [spec_SpanBy.l1]) (Evp.pos (by omega) (Evp.pos (by omega) (Evp.pos (by rw [hbl.1]; omega) ?_)))
            rw [rd_firsts ho hi1, rd_nat, wrap_succ (by omega), Int.toNat_natCast]
            refine Evp.pos (by omega) (Evp.pos (by rw [distTo_len]; omega) ?_)
            have := ih (i + 1) (by omega)
            have e : distTo m.length (lfirst m) b (i + 1) = (distTo m.length (lfirst m) b i).set (lfirst m)[i] (b.getD i 0) := by
              unfold distTo
              rw [List.range_succ, List.foldl_append]
              simp only [List.foldl_cons, List.foldl_nil, List.getD_eq_getElem?_getD, List.getElem?_eq_getElem hi1, Option.getD_some]
            rw [e] at this
            exact this
        exact key (lfirst m).length 0 (by omega)
    have key : ∀ d i, i + d = (lfirst m).length → Evp (fun k => spec_SpanBy.l0 k m v (firsts m) ((lsome m).take i) (i : Int)) (· = lby m v) := by
      intro d
      induction d with
      | zero =>
        intro i hi
        refine Evp.step (fun k => by rw [spec_SpanBy.l0]) (Evp.neg (by omega) ?_)
        rw [List.take_of_length_le (show (lsome m).length ≤ i by omega)]
        exact fin
      | succ d ih =>
        intro i hi
        have hi1 : i < (lfirst m).length := by omega
        have hlt := lfirst_lt (m := m) _ (List.getElem_mem hi1)
        refine Evp.step (fun k => by rw [spec_SpanBy.l0]) (Evp.pos (by omega) (Evp.pos (by omega) ?_))
        rw [rd_firsts ho hi1, wrap_succ (by omega)]
        refine Evp.pos (by omega) (Evp.pos (by omega) (Evp.pos (by rw [List.length_take]; omega) ?_))
        have et : (lsome m).take i ++ [rd_L1 m ((lfirst m)[i] : Int)] = (lsome m).take (i + 1) := by
          rw [List.take_succ_eq_append_getElem (show i < (lsome m).length by omega), rdL1_nat]
          congr 2
          unfold lsome; rw [List.getElem_map]
        rw [et]
        exact ih (i + 1) (by omega)
    exact key (lfirst m).length 0 (by omega)
  · rw [Bool.eq_false_iff.2 hk]
    exact bad (by simp [hk])
/-- the first ones ahead of a place -/
def fq (m : List (List Int)) (i : Nat) : Nat := ((List.range i).filter fun i => !lhas (m.take i) (m.getD i [])).length
theorem fq_succ (m : List (List Int)) (i : Nat) : fq m (i + 1) = fq m i + if lhas (m.take i) (m.getD i []) = true then 0 else 1 := by
  unfold fq
  rw [List.range_succ, List.filter_append, List.length_append]
  congr 1
  by_cases h : lhas (m.take i) (m.getD i []) = true
  · simp only [List.filter_cons, List.filter_nil, h]; rfl
  · rw [if_neg h]
    simp only [List.filter_cons, List.filter_nil, Bool.eq_false_iff.2 h]; rfl
theorem fq_split {p : Nat → Bool} {n i : Nat} (hi : i < n) : (List.range n).filter p = (List.range i).filter p ++ ((List.range' i (n - i)).filter p) := by
  have h := List.range'_append_1 (s := 0) (m := i) (n := n - i)
  rw [Nat.zero_add, show i + (n - i) = n by omega] at h
  rw [← List.filter_append, List.range_eq_range', List.range_eq_range', h]
theorem fq_at {m : List (List Int)} {i : Nat} (hi : i < m.length) (h : lhas (m.take i) (m.getD i []) = false) : (lfirst m)[fq m i]? = some i := by
  unfold lfirst fq
  rw [fq_split hi, List.getElem?_append_right (Nat.le_refl _), Nat.sub_self, show m.length - i = (m.length - i - 1) + 1 by omega, List.range'_succ]
  simp only [List.filter_cons, h]; rfl
theorem fq_not {m : List (List Int)} {i : Nat} (hi : i < m.length) (h : lhas (m.take i) (m.getD i []) = true) : (lfirst m)[fq m i]? ≠ some i := by
  intro e
  have := List.mem_of_getElem? e
  unfold lfirst at this
  have := (List.mem_filter.1 this).2
  rw [h] at this
  cases this
theorem fq_le (m : List (List Int)) {i : Nat} (hi : i ≤ m.length) : fq m i ≤ (lfirst m).length := by
  unfold lfirst fq
  rcases Nat.lt_or_ge i m.length with h | h
  · rw [fq_split h, List.length_append]; omega
  · rw [show i = m.length by omega]; exact Nat.le_refl _
theorem FnSpanBy : laws_FnSpanBy.Pure := by
  intro l hm hl hw
  refine Evp.rounds ?_
  unfold laws_FnSpanBy.f
  refine Evp.ite (fun _ => Evp.some' rfl) fun _ => ?_
  refine Evp.bind (drawSpanBy_ev (fun x hx => bounds_u8 (hw x hx))) fun d hd => ?_
  obtain ⟨m, v⟩ := d
  obtain ⟨hd, hvl⟩ := hd
  simp only at hd hvl ⊢
  have d1 := hd.1
  have d2 : ∀ r ∈ m, r.length ≤ 1048576 := fun r hr => by have := hd.2 r hr; omega
  refine Evp.bind (spec_SpanBy_ev (by omega) d2 (v := v) (by omega)) fun t ht => ?_
  subst ht
  refine Evp.bind (impl_SpanBy_ev (by omega) v) fun t ht => ?_
  subst ht
  refine Evp.neg (by simp) ?_
  have hll : (lby m v).1.length ≤ 12 := by
    unfold lby
    split
    · unfold coefs; rw [List.length_map, List.length_range]; omega
    · simp
  refine Evp.bind (lkInts_self (by omega)) fun t ht => ?_
  subst ht
  refine Evp.pos rfl ?_
  by_cases hk : (lby m v).2 = true
  · have hall : (mok m && vok v && lhas m v) = true := by
      unfold lby at hk
      split at hk
      · assumption
      · cases hk
    simp only [Bool.and_eq_true] at hall
    obtain ⟨⟨ho, hv⟩, hh⟩ := hall
    obtain ⟨h8, hmv⟩ := mok_iff.1 ho
    have hb := coefs_isBy hmv h8 hv ((lhas_iff hmv hv).1 hh)
    have e : lby m v = (coefs m v, true) := by unfold lby; rw [ho, hv, hh]; rfl
    rw [e]
    generalize coefs m v = b at hb
    refine Evp.step (fun k => by rw [laws_FnSpanBy.j0]) (Evp.neg (by simp) ?_)
    rw [impl_SpanFirst_eq (by omega)]
    simp only [Option.bind_some]
    have hfl := firsts_length ho
    have hlf := lfirst_len m
    have key : ∀ d i, i + d = m.length → Evp (fun k => laws_FnSpanBy.l0 k m v b (firsts m) (fq m i : Int) (i : Int)) (· = true) := by
      intro d
      induction d with
      | zero =>
        intro i hi
        refine Evp.step (fun k => by rw [laws_FnSpanBy.l0]) (Evp.neg (by omega) ?_)
        refine Evp.bind (lkMade_ev ho hb.cl.2 hb.cl.1) fun t ht => ?_
        have et : t = v := by
          rw [ht]
          refine toW_inj (vok_iff.1 (lmadeN_vok hmv b _ (Nat.le_refl _))).2 (vok_iff.1 hv).2 ?_ fun j _ => ?_
          · rw [(vok_iff.1 (lmadeN_vok hmv b _ (Nat.le_refl _))).1, (vok_iff.1 hv).1]
          · rw [toW_made hmv, hb.made]
        rw [et]
        refine Evp.bind (lkInts_self (by omega)) fun t ht => ?_
        subst ht
        exact Evp.pos rfl (Evp.some' (by rw [hb.cl.1]; simp))
      | succ d ih =>
        intro i hi
        have hi1 : i < m.length := by omega
        have hq := fq_le m (Nat.le_of_lt hi1)
        have hs := fq_succ m i
        have step : ∀ c : Bool, c = !lhas (m.take i) (m.getD i []) → Evp (fun k => laws_FnSpanBy.j2 k m v b (firsts m) (fq m i : Int) (i : Int) c) (· = true) := fun c hc => by
          refine Evp.step (fun k => by rw [laws_FnSpanBy.j2]) ?_
          by_cases h : lhas (m.take i) (m.getD i []) = true
          · rw [if_pos h] at hs
            refine Evp.neg (by rw [hc, h]; simp) (Evp.pos (by omega) (Evp.pos (by rw [hb.cl.1]; omega) ?_))
            rw [rd_nat, wrap_succ (by omega)]
            have hn : ¬ IsPiv (m.map toW) i := fun hp => by
              have := (lhas_take hmv hi1).2 hp
              rw [h] at this; cases this
            refine Evp.pos ((toW_zero_iff hb.cl.2 i).1 (hb.supp i hi1 hn)) ?_
            have := ih (i + 1) (by omega)
            rw [hs] at this
            exact this
          · rw [if_neg h] at hs
            refine Evp.pos (by rw [hc]; simpa using h) ?_
            rw [wrap_succ (by omega), wrap_succ (by omega)]
            have := ih (i + 1) (by omega)
            rw [hs] at this
            exact this
        refine Evp.step (fun k => by rw [laws_FnSpanBy.l0]) (Evp.pos (by omega) (Evp.ite (fun hc => ?_) fun hc => step false ?_))
        · have hlt : fq m i < (lfirst m).length := by omega
          refine Evp.pos (by omega) (step _ ?_)
          rw [rd_firsts ho hlt]
          by_cases h : lhas (m.take i) (m.getD i []) = true
          · have := fq_not hi1 h
            rw [List.getElem?_eq_getElem hlt] at this
            rw [h]
            simp only [Bool.not_true, beq_eq_false_iff_ne, ne_eq]
            exact fun h2 => this (by rw [show (lfirst m)[fq m i] = i by omega])
          · have := fq_at hi1 (Bool.eq_false_iff.2 h)
            rw [List.getElem?_eq_getElem hlt] at this
            rw [Bool.eq_false_iff.2 h, Option.some.inj this]; simp
        · by_cases h : lhas (m.take i) (m.getD i []) = true
          · rw [h]; rfl
          · have := fq_at hi1 (Bool.eq_false_iff.2 h)
            rw [List.getElem?_eq_none (by omega)] at this
            cases this
    exact key m.length 0 (by omega)
  · refine Evp.step (fun k => by rw [laws_FnSpanBy.j0]) (Evp.pos (by simpa using hk) (Evp.pos (by simp) ?_))
    refine Evp.bind (lkInts_self (by omega)) fun t ht => ?_
    subst ht
    exact Evp.some' rfl
end Go.Proofs.Ytbhmgbeebhmfkaa.Pure
