import Derived.Test.YtbhmgbeebhmfkaaPAx0
import Derived.Test.YtbhmgbeebhmfkaaPAx11
import Derived.Test.YtbhmgbeebhmfkaaPAx13
import Derived.Test.YtbhmgbeebhmfkaaPAx14
import Derived.Test.YtbhmgbeebhmfkaaPAx15
import Derived.Test.YtbhmgbeebhmfkaaPAx16
import Derived.Test.YtbhmgbeebhmfkaaPAx17
import Derived.Test.YtbhmgbeebhmfkaaPAx18
import Derived.Test.YtbhmgbeebhmfkaaPAx2
import Derived.Test.YtbhmgbeebhmfkaaPAx6
import Derived.Test.YtbhmgbeebhmfkaaPAx7
import Derived.Test.YtbhmgbeebhmfkaaPAx8
import Derived.Test.YtbhmgbeebhmfkaaLf
import Derived.Test.YtbhmgbeebhmfkaaMa
import Derived.Laws.BitsAllLaws
import Derived.Laws.BitsLemmas
import Derived.Test.YtbhmgbeebhmfkaaXor
import Derived.OpenShut
/- Of the printed functions over single rows: what a walk by hand wants of them. -/
set_option linter.unusedVariables false
set_option linter.unusedSimpArgs false
namespace Go.Proofs.Ytbhmgbeebhmfkaa.Pure
open Go.RowKit Go.Proofs.Ytbhmgbeebhmfkaa.PA Go.Proofs.YtbhmgbeebhmfkaaW.PrintWords Go.Proofs.YtbhmgbeebhmfkaaW.PrintLast Go.Proofs.YtbhmgbeebhmfkaaW.PrintMore Go.Proofs.Ytbhmgbeebhmfkaa.Lin

theorem Evp.ite {α : Type} {c : Prop} [Decidable c] {g f : Nat → Option α} {Q : α → Prop} (h : c → Evp g Q) (k : ¬ c → Evp f Q) : Evp (fun n => if c then g n else f n) Q := by
  by_cases hc : c
  · simp only [if_pos hc]; exact h hc
  · simp only [if_neg hc]; exact k hc
theorem tmod_pos {x n : Int} (h : 0 ≤ x) : Int.tmod x n = x % n := Int.tmod_eq_emod_of_nonneg h
theorem spec_FieldOk_eq (a : Int) : spec_FieldOk.f a = some (ok a) := by
  unfold spec_FieldOk.f spec_l6In.f ok
  by_cases h : a ≥ 0
  · rw [if_pos h]; simp [show (a ≤ 30) = (a < 31) by rw [eq_iff_iff]; omega, h]
  · rw [if_neg h]; simp [h]
theorem ofInt_i64 (a : Nat) (ha : a < 9223372036854775808) : (BitVec.ofInt 64 (a : Int)).toNat = a := by
  rw [BitVec.ofInt_natCast, BitVec.toNat_ofNat]; exact Nat.mod_eq_of_lt (by omega)
theorem xor_nonneg {a b : Int} (ha : 0 ≤ a ∧ a < 1000000000000) (hb : 0 ≤ b ∧ b < 1000000000000) : 0 ≤ Go.bits .xor .i64 a b := by
  obtain ⟨x, rfl⟩ := Int.eq_ofNat_of_zero_le ha.1
  obtain ⟨y, rfl⟩ := Int.eq_ofNat_of_zero_le hb.1
  have hx : x ^^^ y < 2 ^ 63 := Nat.xor_lt_two_pow (by omega) (by omega)
  have e : Go.bits .xor .i64 (x : Int) (y : Int) = ((x ^^^ y : Nat) : Int) := by
    show IntKind.i64.wrap ((BitVec.ofInt 64 (x : Int) ^^^ BitVec.ofInt 64 (y : Int)).toNat : Int) = _
    rw [BitVec.toNat_xor, ofInt_i64 x (by omega), ofInt_i64 y (by omega), IntKind.wrap_i64]
    omega
  rw [e]; omega
/-- what a reader holds -/
def St (l : List Int) : Prop := l.length ≤ 2000 ∧ ∀ x ∈ l, 0 ≤ x ∧ x ≤ 255
theorem rd_range {l : List Int} (h : St l) (i : Int) : 0 ≤ rd l i ∧ rd l i ≤ 255 := by
  unfold rd
  rw [List.getD_eq_getElem?_getD]
  rcases Nat.lt_or_ge i.toNat l.length with hi | hi
  · rw [List.getElem?_eq_getElem hi]; exact h.2 _ (List.getElem_mem hi)
  · rw [List.getElem?_eq_none hi]; decide
theorem open_eq (l : List Int) (h : ∀ x ∈ l, 0 ≤ x ∧ x ≤ 255) : ∃ l', spec_l6Open.f l = some (l', 0) ∧ St l' := by
  unfold spec_l6Open.f
  by_cases hl : (l.length : Int) > 2000
  · rw [if_pos hl, if_pos (by omega)]
    exact ⟨_, rfl, by simp; omega, fun x hx => h x (List.mem_of_mem_take hx)⟩
  · rw [if_neg hl]
    exact ⟨l, rfl, by omega, h⟩
theorem pick_ev {l : List Int} (hs : St l) {p n : Int} (hp : 0 ≤ p ∧ p ≤ 100000) (hn : 1 ≤ n ∧ n ≤ 1000000) :
    Evp (fun k => spec_l6Rd_pick.f k l p n) (fun r => 0 ≤ r.1 ∧ r.1 < n ∧ r.2 = p + 1) := by
  have hw : wrap64 (p + 1) = p + 1 := wrap_small (by omega)
  have hw1 : wrap64 (p + 1 - 1) = p := by rw [wrap_small (by omega)]; omega
  unfold spec_l6Rd_pick.f
  simp only [if_neg (show ¬ n < 1 by omega), hw]
  refine Evp.step (fun k => by rw [spec_l6Rd_pick.j0]) ?_
  by_cases hl : (l.length : Int) = 0
  · simp only [hl, beq_self_eq_true, if_true]
    exact Evp.some' ⟨Int.le_refl _, by show (0 : Int) < n; omega, rfl⟩
  · simp only [beq_eq_false_iff_ne.2 hl, Bool.false_eq_true, if_false, hw1]
    have hlp : 0 < (l.length : Int) := by omega
    have hl2 : (l.length : Int) ≤ 2000 := by have := hs.1; omega
    by_cases hlt : p < (l.length : Int)
    · have hr := rd_range hs p
      rw [if_pos hlt, if_pos hp.1, if_neg (by omega), wrap_small (by omega), tmod_pos hr.1]
      exact Evp.some' ⟨Int.emod_nonneg _ (by omega), Int.emod_lt_of_pos _ (by omega), rfl⟩
    · rw [if_neg hlt, if_neg hl]
      have e7 : wrap64 (p * 7) = p * 7 := wrap_small (by omega)
      have e8 : wrap64 (p * 7 + 3) = p * 7 + 3 := wrap_small (by omega)
      rw [e7, e8, tmod_pos (n := (l.length : Int)) hp.1, tmod_pos (x := p * 7 + 3) (n := (l.length : Int)) (by omega)]
      have a1 := Int.emod_nonneg p (show (l.length : Int) ≠ 0 by omega)
      have a2 := Int.emod_lt_of_pos p hlp
      have b1 := Int.emod_nonneg (p * 7 + 3) (show (l.length : Int) ≠ 0 by omega)
      have b2 := Int.emod_lt_of_pos (p * 7 + 3) hlp
      rw [if_pos a1, if_pos a2, if_pos b1, if_pos b2, if_neg (by omega)]
      have r1 := rd_range hs (p % (l.length : Int))
      have r2 := rd_range hs ((p * 7 + 3) % (l.length : Int))
      generalize rd l (p % (l.length : Int)) = u at *
      generalize rd l ((p * 7 + 3) % (l.length : Int)) = v at *
      have ed : Int.tdiv p (l.length : Int) = p / (l.length : Int) := Int.tdiv_eq_ediv_of_nonneg hp.1
      have d1 : 0 ≤ p / (l.length : Int) := Int.ediv_nonneg hp.1 (by omega)
      have d2 : p / (l.length : Int) ≤ p := Int.ediv_le_self _ hp.1
      rw [ed]
      generalize p / (l.length : Int) = q at *
      rw [wrap_small (x := u) (by omega), wrap_small (x := u * 131) (by omega), wrap_small (x := v) (by omega), wrap_small (x := v * 1117) (by omega), wrap_small (x := u * 131 + v * 1117) (by omega), wrap_small (x := p * 29) (by omega),
        wrap_small (x := u * 131 + v * 1117 + p * 29) (by omega), wrap_small (x := q) (by omega), wrap_small (x := q * 53) (by omega), wrap_small (x := u * 131 + v * 1117 + p * 29 + q * 53) (by omega)]
      generalize hz : u * 131 + v * 1117 + p * 29 + q * 53 = z
      have hz0 : 0 ≤ z ∧ z < 100000000 := by omega
      have e64 : Int.tdiv z 64 = z / 64 := Int.tdiv_eq_ediv_of_nonneg hz0.1
      rw [e64, wrap_small (x := z / 64) (by omega), tmod_pos (xor_nonneg (by omega) (by omega))]
      exact Evp.some' ⟨Int.emod_nonneg _ (by omega), Int.emod_lt_of_pos _ (by omega), rfl⟩
theorem rd_nat (l : List Int) (i : Nat) : rd l (i : Int) = l.getD i 0 := by unfold rd; rw [Int.toNat_natCast]
theorem getD_get {l : List Int} {i : Nat} (h : i < l.length) : l.getD i 0 = l[i] := by rw [List.getD_eq_getElem?_getD, List.getElem?_eq_getElem h]; rfl
theorem spec_VecOk_ev {l : List Int} (hl : l.length ≤ 1000000000000) : Evp (fun k => spec_VecOk.f k l) (· = vok l) := by
  have key : ∀ d i, i + d = l.length → Evp (fun k => spec_VecOk.l0 k l (i : Int)) (· = ((l.drop i).all ok && (l.length == 4))) := by
    intro d
    induction d with
    | zero =>
      intro i hi
      refine Evp.step (fun k => by rw [spec_VecOk.l0]) ?_
      refine Evp.neg (by omega) ?_
      refine Evp.some' ?_
      rw [List.drop_eq_nil_of_le (by omega), Bool.eq_iff_iff, beq_iff_eq]; simp; omega
    | succ d ih =>
      intro i hi
      refine Evp.step (fun k => by rw [spec_VecOk.l0]) ?_
      refine Evp.pos (by omega) (Evp.pos (by omega) ?_)
      simp only [spec_FieldOk_eq, Option.bind_some, rd_nat, getD_get (show i < l.length by omega)]
      rw [List.drop_eq_getElem_cons (show i < l.length by omega), List.all_cons]
      refine Evp.ite (fun h => ?_) fun h => ?_
      · rw [wrap_succ (by omega), h]
        exact ih (i + 1) (by omega)
      · exact Evp.some' (by simp [h])
  have := key l.length 0 (by omega)
  unfold spec_VecOk.f
  refine this.mono fun r hr => ?_
  rw [hr, List.drop_zero, Bool.and_comm]; rfl
theorem can_small {l : List Int} (h : can l) (i : Nat) : 0 ≤ l.getD i 0 ∧ l.getD i 0 < 31 := ok_iff.1 (can_get h i)
theorem zip_take {α : Type} (f : Int → Int → α) {a b : List Int} {i : Nat} (h1 : i < a.length) (h2 : i < b.length) : List.zipWith f (a.take (i + 1)) (b.take (i + 1)) = List.zipWith f (a.take i) (b.take i) ++ [f (a.getD i 0) (b.getD i 0)] := by
  rw [List.take_succ_eq_append_getElem h1, List.take_succ_eq_append_getElem h2, List.zipWith_append (by simp; omega), getD_get h1, getD_get h2]; rfl
theorem l2Scale_ev {a : List Int} (ha : can a) {c : Int} (hc : ok c = true) (hn : a.length ≤ 1000000000000) : Evp (fun k => spec_l2Scale.f k a c) (· = lscale a c) := by
  have key : ∀ d i, i + d = a.length → Evp (fun k => spec_l2Scale.l0 k a c (lscale (a.take i) c) (i : Int)) (· = lscale a c) := by
    intro d
    induction d with
    | zero =>
      intro i hi
      refine Evp.step (fun k => by rw [spec_l2Scale.l0]) ?_
      refine Evp.neg (by omega) ?_
      rw [List.take_of_length_le (by omega)]
      exact Evp.some' rfl
    | succ d ih =>
      intro i hi
      refine Evp.step (fun k => by rw [spec_l2Scale.l0]) ?_
      have hm := mul_small (ok_iff.2 (can_small ha i)) hc
      refine Evp.pos (by omega) (Evp.pos (by omega) (Evp.pos (by rw [lscale_len, List.length_take]; omega) ?_))
      rw [rd_nat, wrap_succ (by omega), wrap_small (by omega), tmod31 hm.1]
      have e : lscale (a.take (i + 1)) c = lscale (a.take i) c ++ [a.getD i 0 * c % 31] := by
        unfold lscale; rw [List.take_succ_eq_append_getElem (by omega), List.map_append, getD_get (by omega)]; rfl
      rw [← e]
      exact ih (i + 1) (by omega)
  have := key a.length 0 (by omega)
  unfold spec_l2Scale.f
  simpa [lscale] using this
theorem l2Sum_ev {a b : List Int} (ha : can a) (hb : can b) (hl : a.length = b.length) (hn : a.length ≤ 1000000000000) : Evp (fun k => spec_l2Sum.f k a b) (· = lsum a b) := by
  have key : ∀ d i, i + d = a.length → Evp (fun k => spec_l2Sum.l0 k a b (lsum (a.take i) (b.take i)) (i : Int)) (· = lsum a b) := by
    intro d
    induction d with
    | zero =>
      intro i hi
      refine Evp.step (fun k => by rw [spec_l2Sum.l0]) ?_
      refine Evp.neg (by omega) ?_
      rw [List.take_of_length_le (by omega), List.take_of_length_le (by omega)]
      exact Evp.some' rfl
    | succ d ih =>
      intro i hi
      refine Evp.step (fun k => by rw [spec_l2Sum.l0]) ?_
      have h1 := can_small ha i
      have h2 := can_small hb i
      refine Evp.pos (by omega) (Evp.pos (by omega) (Evp.pos (by omega) (Evp.pos (by rw [lsum_len (by simp; omega), List.length_take]; omega) ?_)))
      rw [rd_nat, rd_nat, wrap_succ (by omega), wrap_small (by omega), tmod31 (by omega)]
      have e : lsum (a.take (i + 1)) (b.take (i + 1)) = lsum (a.take i) (b.take i) ++ [(a.getD i 0 + b.getD i 0) % 31] := by
        unfold lsum; rw [zip_take _ (by omega) (by omega)]
      rw [← e]
      exact ih (i + 1) (by omega)
  have := key a.length 0 (by omega)
  unfold spec_l2Sum.f
  simpa [lsum] using this

/-- what is drawn for a row -/
def Dr (l : List Int) : Prop := 3 ≤ l.length ∧ l.length ≤ 4 ∧ ∀ x ∈ l, -1 ≤ x ∧ x ≤ 31
theorem l91Vec_ev {l : List Int} (hs : St l) {p : Int} (hp : 0 ≤ p ∧ p ≤ 90000) : Evp (fun k => spec_l91Vec.f k l p) (fun r => Dr r.1 ∧ p ≤ r.2 ∧ r.2 ≤ p + 20) := by
  have key : ∀ d i (v : List Int) (q : Int), i + d = 4 → v.length = i → (∀ x ∈ v, -1 ≤ x ∧ x ≤ 31) → p ≤ q → q ≤ p + 4 * i → Evp (fun k => spec_l91Vec.l0 k v (i : Int) l q) (fun r => Dr r.1 ∧ p ≤ r.2 ∧ r.2 ≤ p + 20) := by
    intro d
    induction d with
    | zero =>
      intro i v q hi hv hx h1 h2
      refine Evp.step (fun k => by rw [spec_l91Vec.l0]) (Evp.neg (by omega) ?_)
      refine Evp.bind (pick_ev hs (n := 40) (by omega) (by omega)) fun r hr => ?_
      obtain ⟨a, q1⟩ := r
      simp only at hr ⊢
      refine Evp.ite (fun _ => ?_) fun _ => Evp.ite (fun _ => ?_) fun _ => ?_
      · refine Evp.pos (by omega) (Evp.some' ⟨⟨?_, ?_, fun x hx2 => hx x (List.mem_of_mem_drop hx2)⟩, ?_, ?_⟩)
        · show 3 ≤ (v.drop (Int.toNat 1)).length; rw [List.length_drop]; simp; omega
        · show (v.drop (Int.toNat 1)).length ≤ 4; rw [List.length_drop]; omega
        · show p ≤ q1; omega
        · show q1 ≤ p + 20; omega
      · refine Evp.bind (pick_ev hs (n := (v.length : Int)) (by omega) (by omega)) fun r2 hr2 => ?_
        obtain ⟨b, q2⟩ := r2
        simp only [Option.bind_some] at hr2 ⊢
        refine Evp.bind (pick_ev hs (n := 2) (by omega) (by omega)) fun r3 hr3 => ?_
        obtain ⟨c, q3⟩ := r3
        simp only at hr3 ⊢
        refine Evp.pos (by omega) (Evp.pos (by simp; omega) (Evp.pos (by omega) (Evp.pos (by omega) (Evp.some' ⟨⟨?_, ?_, fun x hx2 => ?_⟩, ?_, ?_⟩))))
        · show 3 ≤ (v.set b.toNat _).length; rw [List.length_set]; omega
        · show (v.set b.toNat _).length ≤ 4; rw [List.length_set]; omega
        · rcases List.mem_or_eq_of_mem_set hx2 with h | h
          · exact hx x h
          · have hc : c = 0 ∨ c = 1 := by omega
            rw [h]; rcases hc with rfl | rfl <;> decide
        · show p ≤ q3; omega
        · show q3 ≤ p + 20; omega
      · exact Evp.some' ⟨⟨by show 3 ≤ v.length; omega, by show v.length ≤ 4; omega, hx⟩, by show p ≤ q1; omega, by show q1 ≤ p + 20; omega⟩
    | succ d ih =>
      intro i v q hi hv hx h1 h2
      refine Evp.step (fun k => by rw [spec_l91Vec.l0]) (Evp.pos (by omega) ?_)
      refine Evp.bind (pick_ev hs (n := 4) (by omega) (by omega)) fun r hr => ?_
      obtain ⟨a, q1⟩ := r
      simp only at hr ⊢
      refine Evp.bind (pick_ev hs (n := 31) (by omega) (by omega)) fun r2 hr2 => ?_
      obtain ⟨b, q2⟩ := r2
      simp only at hr2 ⊢
      refine Evp.bind (pick_ev hs (n := 31) (by omega) (by omega)) fun r3 hr3 => ?_
      obtain ⟨c, q3⟩ := r3
      simp only [Option.bind_some] at hr3 ⊢
      refine Evp.bind (pick_ev hs (n := 4) (by omega) (by omega)) fun r4 hr4 => ?_
      obtain ⟨e, q4⟩ := r4
      simp only at hr4 ⊢
      rw [wrap_succ (by omega)]
      refine Evp.pos (by omega) (Evp.pos (by simp; omega) (Evp.pos (by omega) (ih (i + 1) _ q4 (by omega) (by simp; omega) (fun x hx2 => ?_) (by omega) (by omega))))
      rcases List.mem_append.1 hx2 with h | h
      · exact hx x h
      · have he : e = 0 ∨ e = 1 ∨ e = 2 ∨ e = 3 := by omega
        simp at h; rw [h]
        rcases he with rfl | rfl | rfl | rfl <;> simp [rd] <;> omega
  exact key 4 0 [] p rfl rfl (by simp) (by omega) (by omega)
theorem spec_SpanOk_ev {m : List (List Int)} (hm : m.length ≤ 1048576) (hr : ∀ r ∈ m, r.length ≤ 1048576) : Evp (fun k => spec_SpanOk.f k m) (· = mok m) := by
  have key : ∀ d i, i + d = m.length → (m.take i).all vok = true → Evp (fun k => spec_SpanOk.l0 k m (i : Int)) (· = mok m) := by
    intro d
    induction d with
    | zero =>
      intro i hi hp
      refine Evp.step (fun k => by rw [spec_SpanOk.l0]) (Evp.neg (by omega) (Evp.some' ?_))
      rw [List.take_of_length_le (by omega)] at hp
      unfold mok
      rw [hp, Bool.and_true]
      congr 1
      rw [eq_iff_iff]; omega
    | succ d ih =>
      intro i hi hp
      refine Evp.step (fun k => by rw [spec_SpanOk.l0]) (Evp.pos (by omega) (Evp.pos (by omega) ?_))
      rw [rdL1_nat, getDL_get (show i < m.length by omega)]
      refine Evp.bind (spec_VecOk_ev (by have := hr _ (List.getElem_mem (l := m) (n := i) (by omega)); omega)) fun t ht => ?_
      subst ht
      refine Evp.ite (fun h => ?_) fun h => Evp.some' ?_
      · rw [wrap_succ (by omega)]
        refine ih (i + 1) (by omega) ?_
        rw [List.take_succ_eq_append_getElem (show i < m.length by omega), List.all_append, hp, List.all_cons, h]; rfl
      · have : mok m = false := by
          rw [Bool.eq_false_iff]
          intro hc
          exact h ((mok_iff.1 hc).2 _ (List.getElem_mem _))
        rw [this]
  unfold spec_SpanOk.f
  exact key m.length 0 (by omega) rfl
/-- what is drawn for rows -/
def Dm (m : List (List Int)) : Prop := m.length ≤ 12 ∧ ∀ r ∈ m, r.length ≤ 10
theorem Dm.snoc {m : List (List Int)} {n : Nat} (hn : m.length ≤ n) (hm : ∀ r ∈ m, r.length ≤ 10) {v : List Int} (hv : v.length ≤ 10) : (m ++ [v]).length ≤ n + 1 ∧ ∀ r ∈ m ++ [v], r.length ≤ 10 := by
  refine ⟨by simp; omega, fun r hr => ?_⟩
  rcases List.mem_append.1 hr with h | h
  · exact hm r h
  · simp at h; rw [h]; exact hv
theorem l91Rows_ev {l : List Int} (hs : St l) {p : Int} (hp : 0 ≤ p ∧ p ≤ 80000) : Evp (fun k => spec_l91Rows.f k l p) (fun r => (r.1.length ≤ 9 ∧ ∀ x ∈ r.1, x.length ≤ 10) ∧ p ≤ r.2 ∧ r.2 ≤ p + 200) := by
  have key1 : ∀ d (m : List (List Int)) (q : Int), m.length + d = 9 → (∀ r ∈ m, r.length ≤ 10) → p ≤ q ∧ q ≤ p + 200 → Evp (fun k => spec_l91Rows.l1 k m l q) (fun r => (r.1.length ≤ 9 ∧ ∀ x ∈ r.1, x.length ≤ 10) ∧ p ≤ r.2 ∧ r.2 ≤ p + 200) := by
    intro d
    induction d with
    | zero =>
      intro m q hm hr hq
      exact Evp.step (fun k => by rw [spec_l91Rows.l1]) (Evp.neg (by omega) (Evp.some' ⟨⟨by show m.length ≤ 9; omega, hr⟩, hq⟩))
    | succ d ih =>
      intro m q hm hr hq
      refine Evp.step (fun k => by rw [spec_l91Rows.l1]) (Evp.pos (by omega) (Evp.pos (by omega) ?_))
      have := Dm.snoc (n := m.length) (Nat.le_refl _) hr (v := [1, 2, 3, 4]) (by decide)
      exact ih _ q (by simp; omega) this.2 hq
  have key0 : ∀ d (m : List (List Int)) (q : Int), m.length + d ≤ 5 → (∀ r ∈ m, r.length ≤ 10) → p ≤ q ∧ q ≤ p + 150 - 24 * d → Evp (fun k => spec_l91Rows.l0 k m (d : Int) l q) (fun r => (r.1.length ≤ 9 ∧ ∀ x ∈ r.1, x.length ≤ 10) ∧ p ≤ r.2 ∧ r.2 ≤ p + 200) := by
    intro d
    induction d with
    | zero =>
      intro m q hm hr hq
      refine Evp.step (fun k => by rw [spec_l91Rows.l0]) (Evp.neg (by omega) ?_)
      refine Evp.bind (pick_ev hs (n := 40) (by omega) (by omega)) fun r h => ?_
      refine Evp.ite (fun _ => ?_) fun _ => Evp.some' ⟨⟨by show m.length ≤ 9; omega, hr⟩, by show p ≤ r.2; omega, by show r.2 ≤ p + 200; omega⟩
      exact key1 (9 - m.length) m _ (by omega) hr (by omega)
    | succ d ih =>
      intro m q hm hr hq
      have hj : ∀ (v : List Int) (c : Bool) (q2 : Int), v.length ≤ 10 → q ≤ q2 ∧ q2 ≤ q + 21 → (c = true → 2 ≤ m.length ∧ vok (m.getD 0 []) = true ∧ vok (m.getD 1 []) = true) → Evp (fun k => spec_l91Rows.j1 k m ((d + 1 : Nat) : Int) v c l q2) (fun r => (r.1.length ≤ 9 ∧ ∀ x ∈ r.1, x.length ≤ 10) ∧ p ≤ r.2 ∧ r.2 ≤ p + 200) := by
        intro v c q2 hv hq2 hc
        refine Evp.step (fun k => by rw [spec_l91Rows.j1]) ?_
        refine Evp.ite (fun h => ?_) fun h => ?_
        · obtain ⟨h2, v0, v1⟩ := hc h
          have l0 := (vok_iff.1 v0).1; have l1 := (vok_iff.1 v1).1
          refine Evp.pos (by omega) ?_
          refine Evp.bind (pick_ev hs (n := 31) (by omega) (by omega)) fun r1 hr1 => ?_
          rw [show rd_L1 m 0 = m.getD 0 [] from rfl, show rd_L1 m 1 = m.getD 1 [] from rfl]
          refine Evp.bind (l2Scale_ev (vok_iff.1 v0).2 (ok_iff.2 ⟨hr1.1, hr1.2.1⟩) (by omega)) fun t0 ht0 => ?_
          subst ht0
          refine Evp.pos (by omega) ?_
          refine Evp.bind (pick_ev hs (n := 31) (by omega) (by omega)) fun r2 hr2 => ?_
          refine Evp.bind (l2Scale_ev (vok_iff.1 v1).2 (ok_iff.2 ⟨hr2.1, hr2.2.1⟩) (by omega)) fun t1 ht1 => ?_
          subst ht1
          refine Evp.bind (l2Sum_ev (can_lscale _ _) (can_lscale _ _) (by rw [lscale_len, lscale_len]; omega) (by rw [lscale_len]; omega)) fun t2 ht2 => ?_
          subst ht2
          refine Evp.pos (by omega) ?_
          rw [wrap_small (by omega), show (((d + 1 : Nat) : Int) - 1) = (d : Int) by omega]
          have := Dm.snoc (n := m.length) (Nat.le_refl _) hr (v := lsum (lscale (m.getD 0 []) r1.1) (lscale (m.getD 1 []) r2.1)) (by rw [lsum_len (by rw [lscale_len, lscale_len]; omega), lscale_len]; omega)
          exact ih _ _ (by simp; omega) this.2 (by omega)
        · refine Evp.pos (by omega) ?_
          rw [wrap_small (by omega), show (((d + 1 : Nat) : Int) - 1) = (d : Int) by omega]
          have := Dm.snoc (n := m.length) (Nat.le_refl _) hr hv
          exact ih _ _ (by simp; omega) this.2 (by omega)
      refine Evp.step (fun k => by rw [spec_l91Rows.l0]) (Evp.pos (by omega) ?_)
      refine Evp.bind (l91Vec_ev hs (by omega)) fun r1 hr1 => ?_
      have hv : r1.1.length ≤ 10 := by have := hr1.1.2.1; omega
      refine Evp.ite (fun h2 => ?_) fun _ => hj _ _ _ hv (by omega) (by simp)
      refine Evp.bind (pick_ev hs (n := 3) (by omega) (by omega)) fun r2 hr2 => ?_
      refine Evp.ite (fun _ => ?_) fun _ => hj _ _ _ hv (by omega) (by simp)
      refine Evp.pos (by omega) ?_
      rw [show rd_L1 m 0 = m.getD 0 [] from rfl, show rd_L1 m 1 = m.getD 1 [] from rfl]
      have q0 : (m.getD 0 []).length ≤ 10 := by rw [getDL_get (by omega)]; exact hr _ (List.getElem_mem _)
      have q1 : (m.getD 1 []).length ≤ 10 := by rw [getDL_get (by omega)]; exact hr _ (List.getElem_mem _)
      refine Evp.bind (spec_VecOk_ev (by omega)) fun t ht => ?_
      subst ht
      refine Evp.ite (fun c0 => ?_) fun _ => hj _ _ _ hv (by omega) (by simp)
      refine Evp.pos (by omega) ?_
      refine Evp.bind (spec_VecOk_ev (by omega)) fun t ht => ?_
      subst ht
      exact hj _ _ _ hv (by omega) (fun c1 => ⟨by omega, c0, c1⟩)
  unfold spec_l91Rows.f
  refine Evp.bind (pick_ev hs (n := 6) (by omega) (by omega)) fun r hr => ?_
  obtain ⟨d, hd⟩ : ∃ d : Nat, r.1 = (d : Int) := ⟨r.1.toNat, by omega⟩
  rw [hd]
  exact key0 d [] _ (by simp; omega) (by simp) (by omega)
theorem l3Has_eq {m : List (List Int)} (h : mok m = true) {v : List Int} (hv : vok v = true) : spec_l3Has.f m v = some (lhas m v) := by
  obtain ⟨h8, hr⟩ := mok_iff.1 h
  unfold spec_l3Has.f
  rw [if_pos ⟨⟨by omega, by simpa using hr⟩, hv⟩]
theorem by_l0_ev {z0 z1 z2 z3 z4 z5 z6 z7 z8 z9 z10 z11 : Int} (hz4 : ok z4 = true) (hz5 : ok z5 = true) (hz6 : ok z6 = true) (hz7 : ok z7 = true) (hz8 : ok z8 = true) (hz9 : ok z9 = true) (hz10 : ok z10 = true) (hz11 : ok z11 = true) : Evp (fun k => impl_span_by.l0 k 0 z0 z1 z2 z3 z4 z5 z6 z7 z8 z9 z10 z11) (· = (((-z4) % 31), ((-z5) % 31), ((-z6) % 31), ((-z7) % 31), ((-z8) % 31), ((-z9) % 31), ((-z10) % 31), ((-z11) % 31), (z0 == 0 && (z1 == 0 && (z2 == 0 && (z3 == 0)))))) := by
  rw [ok_iff] at hz4 hz5 hz6 hz7 hz8 hz9 hz10 hz11
  refine Evp.step (f := fun k => impl_span_by.l0 k 1 z0 z1 z2 z3 ((-z4) % 31) z5 z6 z7 z8 z9 z10 z11) (fun k => by rw [impl_span_by.l0, if_pos (by decide), if_pos rfl, Go.Proofs.Ytbhmgbeebhmfkaa.Pure.wrap_small (x := -z4) (by omega), elementOf_eq (by omega), Option.bind_some, (by unfold wrap64; omega : wrap64 ((0 : Int) + 1) = 1)]) ?_
  refine Evp.step (f := fun k => impl_span_by.l0 k 2 z0 z1 z2 z3 ((-z4) % 31) ((-z5) % 31) z6 z7 z8 z9 z10 z11) (fun k => by rw [impl_span_by.l0, if_pos (by decide), if_neg (by decide), if_pos rfl, Go.Proofs.Ytbhmgbeebhmfkaa.Pure.wrap_small (x := -z5) (by omega), elementOf_eq (by omega), Option.bind_some, (by unfold wrap64; omega : wrap64 ((1 : Int) + 1) = 2)]) ?_
  refine Evp.step (f := fun k => impl_span_by.l0 k 3 z0 z1 z2 z3 ((-z4) % 31) ((-z5) % 31) ((-z6) % 31) z7 z8 z9 z10 z11) (fun k => by rw [impl_span_by.l0, if_pos (by decide), if_neg (by decide), if_neg (by decide), if_pos rfl, Go.Proofs.Ytbhmgbeebhmfkaa.Pure.wrap_small (x := -z6) (by omega), elementOf_eq (by omega), Option.bind_some, (by unfold wrap64; omega : wrap64 ((2 : Int) + 1) = 3)]) ?_
  refine Evp.step (f := fun k => impl_span_by.l0 k 4 z0 z1 z2 z3 ((-z4) % 31) ((-z5) % 31) ((-z6) % 31) ((-z7) % 31) z8 z9 z10 z11) (fun k => by rw [impl_span_by.l0, if_pos (by decide), if_neg (by decide), if_neg (by decide), if_neg (by decide), if_pos rfl, Go.Proofs.Ytbhmgbeebhmfkaa.Pure.wrap_small (x := -z7) (by omega), elementOf_eq (by omega), Option.bind_some, (by unfold wrap64; omega : wrap64 ((3 : Int) + 1) = 4)]) ?_
  refine Evp.step (f := fun k => impl_span_by.l0 k 5 z0 z1 z2 z3 ((-z4) % 31) ((-z5) % 31) ((-z6) % 31) ((-z7) % 31) ((-z8) % 31) z9 z10 z11) (fun k => by rw [impl_span_by.l0, if_pos (by decide), if_neg (by decide), if_neg (by decide), if_neg (by decide), if_neg (by decide), if_pos rfl, Go.Proofs.Ytbhmgbeebhmfkaa.Pure.wrap_small (x := -z8) (by omega), elementOf_eq (by omega), Option.bind_some, (by unfold wrap64; omega : wrap64 ((4 : Int) + 1) = 5)]) ?_
  refine Evp.step (f := fun k => impl_span_by.l0 k 6 z0 z1 z2 z3 ((-z4) % 31) ((-z5) % 31) ((-z6) % 31) ((-z7) % 31) ((-z8) % 31) ((-z9) % 31) z10 z11) (fun k => by rw [impl_span_by.l0, if_pos (by decide), if_neg (by decide), if_neg (by decide), if_neg (by decide), if_neg (by decide), if_neg (by decide), if_pos rfl, Go.Proofs.Ytbhmgbeebhmfkaa.Pure.wrap_small (x := -z9) (by omega), elementOf_eq (by omega), Option.bind_some, (by unfold wrap64; omega : wrap64 ((5 : Int) + 1) = 6)]) ?_
  refine Evp.step (f := fun k => impl_span_by.l0 k 7 z0 z1 z2 z3 ((-z4) % 31) ((-z5) % 31) ((-z6) % 31) ((-z7) % 31) ((-z8) % 31) ((-z9) % 31) ((-z10) % 31) z11) (fun k => by rw [impl_span_by.l0, if_pos (by decide), if_neg (by decide), if_neg (by decide), if_neg (by decide), if_neg (by decide), if_neg (by decide), if_neg (by decide), if_pos rfl, Go.Proofs.Ytbhmgbeebhmfkaa.Pure.wrap_small (x := -z10) (by omega), elementOf_eq (by omega), Option.bind_some, (by unfold wrap64; omega : wrap64 ((6 : Int) + 1) = 7)]) ?_
  refine Evp.step (f := fun k => impl_span_by.l0 k 8 z0 z1 z2 z3 ((-z4) % 31) ((-z5) % 31) ((-z6) % 31) ((-z7) % 31) ((-z8) % 31) ((-z9) % 31) ((-z10) % 31) ((-z11) % 31)) (fun k => by rw [impl_span_by.l0, if_pos (by decide), if_neg (by decide), if_neg (by decide), if_neg (by decide), if_neg (by decide), if_neg (by decide), if_neg (by decide), if_neg (by decide), if_pos rfl, Go.Proofs.Ytbhmgbeebhmfkaa.Pure.wrap_small (x := -z11) (by omega), elementOf_eq (by omega), Option.bind_some, (by unfold wrap64; omega : wrap64 ((7 : Int) + 1) = 8)]) ?_
  exact Evp.step (f := fun k => some _) (fun k => by rw [impl_span_by.l0, if_neg (by decide)]) (Evp.some' rfl)
/-- how often each, as the program tells it -/
def coefs (m : List (List Int)) (v : List Int) : List Int := (List.range m.length).map fun j => (-(kred (kspan m m.length).1 (v ++ [0, 0, 0, 0, 0, 0, 0, 0])).getD (4 + j) 0) % 31
def lby (m : List (List Int)) (v : List Int) : List Int × Bool := if mok m && vok v && lhas m v then (coefs m v, true) else ([], false)
theorem impl_by_ev {L : List (List Int)} (hL : ∀ r ∈ L, Good r) (hn : L.length ≤ 1000000) (P : List Int) {v : List Int} (hv : vok v = true) {z : List Int} (hz : kred L (v ++ [0, 0, 0, 0, 0, 0, 0, 0]) = z) :
    Evp (fun k => impl_span_by.f k (L.map m12) P (v.getD 0 0) (v.getD 1 0) (v.getD 2 0) (v.getD 3 0)) (· = ((-(z.getD 4 0)) % 31, (-(z.getD 5 0)) % 31, (-(z.getD 6 0)) % 31, (-(z.getD 7 0)) % 31, (-(z.getD 8 0)) % 31, (-(z.getD 9 0)) % 31, (-(z.getD 10 0)) % 31, (-(z.getD 11 0)) % 31, (z.getD 0 0 == 0 && (z.getD 1 0 == 0 && (z.getD 2 0 == 0 && (z.getD 3 0 == 0)))))) := by
  obtain ⟨a, b, c, d, rfl, ha, hb, hc, hd⟩ := vok_four hv
  have h12 : ([a, b, c, d] ++ [0, 0, 0, 0, 0, 0, 0, 0] : List Int).length = 12 := rfl
  have hcan : can ([a, b, c, d] ++ [0, 0, 0, 0, 0, 0, 0, 0]) := fun x hx => by
    simp only [List.cons_append, List.nil_append, List.mem_cons, List.not_mem_nil, or_false] at hx
    rcases hx with rfl | rfl | rfl | rfl | rfl | rfl | rfl | rfl | rfl | rfl | rfl | rfl <;> first | assumption | decide
  have hcz : can z := hz ▸ can_kred hcan
  unfold impl_span_by.f
  refine Evp.bind (Q := (· = T12 z)) ?_ fun t ht => ?_
  · have := less_ev (goods_m12 hL) (by simp; omega) P h12 hcan
    rw [map_l12_m12 hL, hz] at this
    exact this
  subst ht
  exact by_l0_ev (can_get hcz 4) (can_get hcz 5) (can_get hcz 6) (can_get hcz 7) (can_get hcz 8) (can_get hcz 9) (can_get hcz 10) (can_get hcz 11)
theorem spanBy_l0_ev {n : Nat} (hn : n ≤ 8) {b0 b1 b2 b3 b4 b5 b6 b7 : Int} : ∀ (d i : Nat), i + d = n → ∀ out : List Int, out.length = i →
    Evp (fun k => impl_SpanBy.l0 k out (n : Int) (i : Int) b0 b1 b2 b3 b4 b5 b6 b7) (· = (out ++ (([b0, b1, b2, b3, b4, b5, b6, b7] : List Int).take n).drop i, true)) := by
  intro d
  induction d with
  | zero =>
    intro i hi out ho
    refine Evp.step (fun k => by rw [impl_SpanBy.l0]) (Evp.neg (by omega) (Evp.some' ?_))
    rw [List.drop_eq_nil_of_le (by rw [List.length_take]; omega), List.append_nil]
  | succ d ih =>
    intro i hi out ho
    refine Evp.step (fun k => by rw [impl_SpanBy.l0]) (Evp.pos (by omega) ?_)
    refine Evp.congr (fun k => pick8 (p := i) (by omega) (fun j => if out.length < 17592186044416 then impl_SpanBy.l0 k (out ++ [([b0, b1, b2, b3, b4, b5, b6, b7] : List Int).getD j 0]) (n : Int) (wrap64 ((i : Int) + 1)) b0 b1 b2 b3 b4 b5 b6 b7 else none) none) ?_
    refine Evp.pos (by omega) ?_
    rw [wrap_succ (by omega)]
    have := ih (i + 1) (by omega) (out ++ [([b0, b1, b2, b3, b4, b5, b6, b7] : List Int).getD i 0]) (by simp [ho])
    rw [List.append_assoc] at this
    have e : [([b0, b1, b2, b3, b4, b5, b6, b7] : List Int).getD i 0] ++ (([b0, b1, b2, b3, b4, b5, b6, b7] : List Int).take n).drop (i + 1) = (([b0, b1, b2, b3, b4, b5, b6, b7] : List Int).take n).drop i := by
      have h1 : i < (([b0, b1, b2, b3, b4, b5, b6, b7] : List Int).take n).length := by rw [List.length_take]; simp; omega
      rw [List.drop_eq_getElem_cons h1, List.getElem_take, List.singleton_append, List.getD_eq_getElem?_getD, List.getElem?_eq_getElem (by simp; omega)]; rfl
    rw [e] at this
    exact this
theorem range_take (f : Nat → Int) {n : Nat} (hn : n ≤ 8) : ([f 0, f 1, f 2, f 3, f 4, f 5, f 6, f 7] : List Int).take n = (List.range n).map f := by
  match n, hn with
  | 0, _ => rfl
  | 1, _ => rfl
  | 2, _ => rfl
  | 3, _ => rfl
  | 4, _ => rfl
  | 5, _ => rfl
  | 6, _ => rfl
  | 7, _ => rfl
  | 8, _ => rfl
theorem toW_zeros {v : List Int} (hv : vok v = true) : toW (v ++ [0, 0, 0, 0, 0, 0, 0, 0]) = toW v := by
  obtain ⟨a, b, c, d, rfl, _⟩ := vok_four hv
  funext j
  show toF _ = toF _
  congr 1
  rcases Nat.lt_or_ge j 12 with hj | hj
  · match j, hj with
    | 0, _ => rfl
    | 1, _ => rfl
    | 2, _ => rfl
    | 3, _ => rfl
    | 4, _ => rfl
    | 5, _ => rfl
    | 6, _ => rfl
    | 7, _ => rfl
    | 8, _ => rfl
    | 9, _ => rfl
    | 10, _ => rfl
    | 11, _ => rfl
  · rw [List.getD_eq_getElem?_getD, List.getElem?_eq_none (by simp; omega), List.getD_eq_getElem?_getD, List.getElem?_eq_none (by simp; omega)]
/-- what is left of a row is 0 just if it is made of the rows -/
theorem left_zero {m : List (List Int)} (hm : ∀ r ∈ m, vok r = true) (h8 : m.length ≤ 8) {v : List Int} (hv : vok v = true) {z : List Int} (hz : kred (kspan m m.length).1 (v ++ [0, 0, 0, 0, 0, 0, 0, 0]) = z) :
    (z.getD 0 0 == 0 && (z.getD 1 0 == 0 && (z.getD 2 0 == 0 && (z.getD 3 0 == 0)))) = lhas m v ∧ toW z = red (kept (m.map toW) m.length) (toW v) ∧ can z := by
  obtain ⟨h1, h2, h3, h4, h5⟩ := kspan_inv hm h8 m.length (Nat.le_refl _)
  have h12 : (v ++ [0, 0, 0, 0, 0, 0, 0, 0]).length = 12 := by rw [List.length_append, (vok_iff.1 hv).1]; rfl
  have hcan : can (v ++ [0, 0, 0, 0, 0, 0, 0, 0]) := fun x hx => by
    rcases List.mem_append.1 hx with h | h
    · exact (vok_iff.1 hv).2 x h
    · simp at h; subst h; decide
  have ew : toW z = red (kept (m.map toW) m.length) (toW v) := by rw [← hz, toW_kred h1 h12, h2, toW_zeros hv]
  have hc : can z := hz ▸ can_kred hcan
  refine ⟨?_, ew, hc⟩
  have hb := (by_kept (toW_fours hm) (toW_four (vok_iff.1 hv).1)).1
  rw [List.length_map, ← ew] at hb
  rw [Bool.eq_iff_iff, lhas_iff hm hv, ← hb, ld_four_iff]
  simp only [Bool.and_eq_true, beq_iff_eq]
  constructor
  · rintro ⟨e0, e1, e2, e3⟩ i hi
    match i, hi with
    | 0, _ => exact (toW_zero_iff hc 0).2 e0
    | 1, _ => exact (toW_zero_iff hc 1).2 e1
    | 2, _ => exact (toW_zero_iff hc 2).2 e2
    | 3, _ => exact (toW_zero_iff hc 3).2 e3
  · intro h
    exact ⟨(toW_zero_iff hc 0).1 (h 0 (by omega)), (toW_zero_iff hc 1).1 (h 1 (by omega)), (toW_zero_iff hc 2).1 (h 2 (by omega)), (toW_zero_iff hc 3).1 (h 3 (by omega))⟩
theorem impl_SpanBy_ev {m : List (List Int)} (hm : m.length ≤ 1048576) (v : List Int) : Evp (fun k => impl_SpanBy.f k m v) (· = lby m v) := by
  unfold impl_SpanBy.f
  refine Evp.bind (impl_matrixOf_ev hm) fun t ht => ?_
  subst ht
  have no : ∀ (x6 : _) a b c d, Evp (fun k => impl_SpanBy.j0 k m x6 true a b c d) (· = ([], false)) := fun x6 a b c d => Evp.step (fun k => by rw [impl_SpanBy.j0]) (Evp.pos rfl (Evp.some' rfl))
  by_cases hv : vok v = true
  · obtain ⟨a, b, c, d, rfl, _⟩ := vok_four hv
    simp only [impl_vectorOf_ok hv, Option.bind_some]
    by_cases hk : mok m = true
    · obtain ⟨h8, hr⟩ := mok_iff.1 hk
      have ha : m.all vok = true := by simpa using hr
      rw [if_pos ha]
      refine Evp.pos (by simp; omega) ?_
      refine Evp.step (fun k => by rw [impl_SpanBy.j0]) (Evp.neg (by simp) ?_)
      refine Evp.bind (spanOf_ev hr h8) fun t ht => ?_
      subst ht
      obtain ⟨h1, h2, h3, h4, h5⟩ := kspan_inv hr h8 m.length (Nat.le_refl _)
      refine Evp.bind (impl_by_ev h1 (by omega) (kspan m m.length).2 hv rfl) fun t ht => ?_
      subst ht
      obtain ⟨e1, e2, e3⟩ := left_zero hr h8 hv rfl
      generalize hz : kred (kspan m m.length).1 ([a, b, c, d] ++ [0, 0, 0, 0, 0, 0, 0, 0]) = z at e1 e2 e3
      simp only [e1]
      unfold lby
      rw [hk, hv]
      refine Evp.ite (fun hh => ?_) fun hh => Evp.some' (by simp [hh])
      refine Evp.pos (by omega) (Evp.pos (by omega) ?_)
      refine (spanBy_l0_ev h8 m.length 0 (by omega) [] rfl).mono fun r hrr => ?_
      rw [hrr, hh, List.drop_zero, List.nil_append, range_take (fun j => (-(z.getD (4 + j) 0)) % 31) h8]
      simp only [Bool.and_self, if_true, coefs, hz]
    · have e : lby m [a, b, c, d] = ([], false) := by unfold lby; rw [Bool.eq_false_iff.2 hk]; rfl
      rw [e]
      by_cases ha : m.all vok = true
      · rw [if_pos ha]
        refine Evp.neg ?_ (no _ _ _ _ _)
        intro h; apply hk; exact mok_iff.2 ⟨by simpa using h, by simpa using ha⟩
      · rw [if_neg ha]
        exact Evp.neg (by simp) (no _ _ _ _ _)
  · have hv' := Bool.eq_false_iff.2 hv
    simp only [impl_vectorOf_no hv', Option.bind_some]
    have e : lby m v = ([], false) := by unfold lby; rw [hv', Bool.and_false]; rfl
    rw [e]
    exact Evp.ite (fun _ => no _ _ _ _ _) fun _ => no _ _ _ _ _
theorem impl_SpanHas_ev {m : List (List Int)} (hm : m.length ≤ 1048576) (v : List Int) : Evp (fun k => impl_SpanHas.f k m v) (· = (mok m && vok v && lhas m v)) := by
  unfold impl_SpanHas.f
  refine Evp.bind (impl_SpanBy_ev hm v) fun t ht => ?_
  subst ht
  refine Evp.some' ?_
  unfold lby
  cases (mok m && vok v && lhas m v) <;> rfl
theorem lsome_len (m : List (List Int)) : (lsome m).length = (lfirst m).length := by unfold lsome; rw [List.length_map]
theorem lfirst_len (m : List (List Int)) : (lfirst m).length ≤ m.length := by
  unfold lfirst; exact Nat.le_trans (List.length_filter_le _ _) (by rw [List.length_range]; exact Nat.le_refl _)
theorem mok_lsome {m : List (List Int)} (ho : mok m = true) : mok (lsome m) = true := by
  obtain ⟨h8, hm⟩ := mok_iff.1 ho
  exact mok_iff.2 ⟨by rw [lsome_len]; have := lfirst_len m; omega, vok_lsome hm⟩
def firsts (m : List (List Int)) : List Int := if mok m = true then (lfirst m).map (fun (j : Nat) => (j : Int)) else []
theorem firsts_len (m : List (List Int)) : (firsts m).length ≤ m.length := by
  unfold firsts; split
  · rw [List.length_map]; exact lfirst_len m
  · simp
theorem mok_take' {m : List (List Int)} (h : mok m = true) (n : Nat) : mok (m.take n) = true := by
  obtain ⟨h8, hm⟩ := mok_iff.1 h
  exact mok_iff.2 ⟨by rw [List.length_take]; omega, fun r hr => hm r (List.mem_of_mem_take hr)⟩
theorem l3First_ev {m : List (List Int)} (ho : mok m = true) : Evp (fun k => spec_l3First.f k m) (· = firsts m) := by
  obtain ⟨h8, hm⟩ := mok_iff.1 ho
  have key : ∀ (d i : Nat), i + d = m.length → Evp (fun k => spec_l3First.l0 k m (((List.range i).filter fun i => !lhas (m.take i) (m.getD i [])).map (fun (j : Nat) => (j : Int))) (i : Int)) (· = firsts m) := by
    intro d
    induction d with
    | zero =>
      intro i hi
      obtain rfl : i = m.length := by omega
      exact Evp.step (fun k => by rw [spec_l3First.l0]) (Evp.neg (by omega) (Evp.some' (by unfold firsts; rw [if_pos ho]; rfl)))
    | succ d ih =>
      intro i hi
      refine Evp.step (fun k => by rw [spec_l3First.l0]) (Evp.pos (by omega) (Evp.pos (by omega) (Evp.pos (by omega) ?_)))
      rw [rdL1_nat, Int.toNat_natCast, l3Has_eq (mok_take' ho i) (vok_getD hm (by omega)), wrap_succ (by omega)]
      simp only [Option.bind_some]
      have hi1 := ih (i + 1) (by omega)
      rw [List.range_succ, List.filter_append, List.map_append] at hi1
      refine Evp.ite (fun h => ?_) fun h => ?_
      · rw [show List.filter (fun i => !lhas (m.take i) (m.getD i [])) [i] = [] by simp only [List.filter_cons, h]; rfl, List.map_nil, List.append_nil] at hi1
        exact hi1
      · rw [show List.filter (fun i => !lhas (m.take i) (m.getD i [])) [i] = [i] by simp only [List.filter_cons, Bool.eq_false_iff.2 h]; rfl] at hi1
        refine Evp.pos ?_ hi1
        rw [List.length_map]
        have := List.length_filter_le (fun i => !lhas (m.take i) (m.getD i [])) (List.range i)
        rw [List.length_range] at this
        omega
  unfold spec_l3First.f
  exact key m.length 0 (by omega)
theorem spec_SpanFirst_ev {m : List (List Int)} (hm : m.length ≤ 1048576) (hr : ∀ r ∈ m, r.length ≤ 1048576) : Evp (fun k => spec_SpanFirst.f k m) (· = firsts m) := by
  unfold spec_SpanFirst.f
  refine Evp.bind (spec_SpanOk_ev hm hr) fun t ht => ?_
  subst ht
  refine Evp.ite (fun h => ?_) fun h => Evp.some' (by unfold firsts; rw [if_neg h])
  refine Evp.bind (l3First_ev h) fun t ht => ?_
  subst ht
  exact Evp.some' rfl
theorem impl_SpanFirst_eq {m : List (List Int)} (hm : m.length ≤ 1048576) : impl_SpanFirst.f m = some (firsts m) := by unfold impl_SpanFirst.f firsts; rw [if_pos hm]
theorem lkInts_self {a : List Int} (ha : a.length ≤ 1000000000000) : Evp (fun k => laws_lkInts.f k a a) (· = true) := by
  have key : ∀ (d i : Nat), i + d = a.length → Evp (fun k => laws_lkInts.l0 k a a (i : Int)) (· = true) := by
    intro d
    induction d with
    | zero => intro i hi; exact Evp.step (fun k => by rw [laws_lkInts.l0]) (Evp.neg (by omega) (Evp.some' rfl))
    | succ d ih =>
      intro i hi
      refine Evp.step (fun k => by rw [laws_lkInts.l0]) (Evp.pos (by omega) (Evp.pos (by omega) (Evp.pos (by omega) (Evp.pos rfl ?_))))
      rw [wrap_succ (by omega)]
      exact ih (i + 1) (by omega)
  unfold laws_lkInts.f
  exact Evp.pos rfl (key a.length 0 (by omega))
theorem drawSpanFirst_ev {l : List Int} (h : ∀ x ∈ l, 0 ≤ x ∧ x ≤ 255) : Evp (fun k => spec_DrawSpanFirst.f k l) Dm := by
  unfold spec_DrawSpanFirst.f
  obtain ⟨l', e, hs⟩ := open_eq l h
  rw [e]; simp only [Option.bind_some]
  refine Evp.bind (l91Rows_ev hs (p := 0) (by omega)) fun r hr => Evp.some' ⟨by have := hr.1.1; omega, hr.1.2⟩
def l4 (x : S59) : List Int := [x.f0, x.f1, x.f2, x.f3]
theorem l4_toS {r : List Int} (h : r.length = 4) : l4 (toS r) = r := by
  match r, h with
  | [a, b, c, d], _ => rfl
theorem toS_l4 (x : S59) : toS (l4 x) = x := rfl
theorem map_l4_toS {L : List (List Int)} (h : ∀ r ∈ L, vok r = true) : (L.map toS).map l4 = L := by
  rw [List.map_map]
  conv => rhs; rw [← List.map_id L]
  exact List.map_congr_left fun r hr => l4_toS (vok_iff.1 (h r hr)).1
theorem map_toS_l4 (L : List S59) : (L.map l4).map toS = L := by
  rw [List.map_map]
  conv => rhs; rw [← List.map_id L]
  exact List.map_congr_left fun r hr => toS_l4 r
/-- a row taken away -/
def el (r s : List Int) : List Int := List.zipWith (fun x y => (x - y * gt r (llead s) % 31) % 31) r s
theorem el_len {r s : List Int} (hr : r.length = 4) (hs : s.length = 4) : (el r s).length = 4 := by simp [el, hr, hs]
theorem vok_el {r s : List Int} (hr : vok r = true) (hs : vok s = true) : vok (el r s) = true := by
  refine vok_iff.2 ⟨el_len (vok_iff.1 hr).1 (vok_iff.1 hs).1, fun x hx => ?_⟩
  obtain ⟨i, hi, rfl⟩ := List.getElem_of_mem hx
  simp only [el, List.getElem_zipWith]; exact mod_ok _
theorem el_get {r s : List Int} (hr : r.length = 4) (hs : s.length = 4) {j : Nat} (hj : j < 4) : (el r s).getD j 0 = (r.getD j 0 - s.getD j 0 * gt r (llead s) % 31) % 31 := by
  have h1 : j < (el r s).length := by rw [el_len hr hs]; exact hj
  rw [List.getD_eq_getElem?_getD, List.getElem?_eq_getElem h1, List.getD_eq_getElem?_getD, List.getElem?_eq_getElem (by omega), List.getD_eq_getElem?_getD, List.getElem?_eq_getElem (by omega)]
  simp only [el, List.getElem_zipWith, Option.getD_some]
theorem toW_el {r s : List Int} (hr : vok r = true) (hs : vok s = true) (hp : ld (toW s) < 4) : toW (el r s) = less (toW r) (toW s) := by
  have e := llead_ld (vok_iff.1 hs).2 hp
  have h1 := (vok_iff.1 hr).1
  have h2 := (vok_iff.1 hs).1
  funext j
  show toF ((el r s).getD j 0) = toF (r.getD j 0) + -(toF (r.getD (ld (toW s)) 0)) * toF (s.getD j 0)
  rcases Nat.lt_or_ge j 4 with hj | hj
  · rw [el_get h1 h2 hj, e, gt_nat, toF_mod, Int.sub_eq_add_neg, toF_add]
    have : toF (-(s.getD j 0 * r.getD (ld (toW s)) 0 % 31)) = -(toF (s.getD j 0 * r.getD (ld (toW s)) 0)) := by
      have h1 : toF (-(s.getD j 0 * r.getD (ld (toW s)) 0 % 31)) + toF (s.getD j 0 * r.getD (ld (toW s)) 0) = 0 := by
        rw [← toF_add, ← toF_zero, toF_eq]; omega
      grind
    rw [this, toF_mul]; grind
  · rw [List.getD_eq_getElem?_getD, List.getElem?_eq_none (by rw [el_len h1 h2]; exact hj), List.getD_eq_getElem?_getD (l := r), List.getElem?_eq_none (by omega), List.getD_eq_getElem?_getD (l := s), List.getElem?_eq_none (by omega)]
    simp only [Option.getD_none, toF_zero]; grind
theorem tidy_l0_ev {K : List (List Int)} (hK : ∀ r ∈ K, Good r) (hn : K.length ≤ 1000000) {Q : _ → Prop} (h : Evp (fun k => impl_tidy.l1 k (K.map toS) (K.length : Int) 0) Q) : ∀ (d i : Nat), i + d = K.length →
    Evp (fun k => impl_tidy.l0 k ((K.take i).map toS) (K.map m12) (K.length : Int) (i : Int)) Q := by
  intro d
  induction d with
  | zero =>
    intro i hi
    refine Evp.step (fun k => by rw [impl_tidy.l0]) (Evp.neg (by omega) ?_)
    rw [List.take_of_length_le (by omega), List.length_map]
    exact h
  | succ d ih =>
    intro i hi
    have hi1 : i < K.length := by omega
    refine Evp.step (fun k => by rw [impl_tidy.l0]) (Evp.pos (by omega) (Evp.pos (by omega) (Evp.pos (by rw [List.length_map]; omega) (Evp.pos (by rw [List.length_map, List.length_take]; omega) ?_))))
    rw [rdK (by rw [List.length_map]; exact hi1), wrap_succ (by omega)]
    have := ih (i + 1) (by omega)
    rw [List.take_succ_eq_append_getElem hi1, List.map_append] at this
    simpa [toS, m12] using this
def tstep (i : Nat) (L : List (List Int)) : List (List Int) := L.mapIdx fun j r => if j = i then r else el r (L.getD i [])
theorem tstep_len (i : Nat) (L : List (List Int)) : (tstep i L).length = L.length := by simp [tstep]
theorem tstep_get (i : Nat) (L : List (List Int)) (j : Nat) (hj : j < L.length) : (tstep i L)[j]'(by rw [tstep_len]; exact hj) = if j = i then L[j] else el L[j] (L.getD i []) := by
  simp [tstep]
theorem vok_tstep {L : List (List Int)} (hL : ∀ r ∈ L, vok r = true) {i : Nat} (hi : i < L.length) : ∀ r ∈ tstep i L, vok r = true := fun r hr => by
  obtain ⟨j, hj, rfl⟩ := List.getElem_of_mem hr
  rw [tstep_len] at hj
  rw [tstep_get i L j hj]
  split
  · exact hL _ (List.getElem_mem hj)
  · exact vok_el (hL _ (List.getElem_mem hj)) (vok_getD hL hi)
theorem toW_tstep {L : List (List Int)} (hL : ∀ r ∈ L, vok r = true) {i : Nat} (hi : i < L.length) (hp : ld (toW (L.getD i [])) < 4) : (tstep i L).map toW = elim i (L.map toW) := by
  apply List.ext_getElem (by simp [tstep_len, elim_len])
  intro j h1 h2
  rw [List.length_map, tstep_len] at h1
  rw [List.getElem_map, tstep_get i L j h1, elim_get i (L.map toW) j (by rw [List.length_map]; exact h1), List.getElem_map]
  split
  · rfl
  · rw [toW_el (hL _ (List.getElem_mem h1)) (vok_getD hL hi) hp, getD_map hi]
theorem rdT {L : List (List Int)} {i : Nat} (h : i < L.length) : rd_T59 (L.map toS) (i : Int) = toS (L.getD i []) := by
  rw [rdV (by rw [List.length_map]; exact h), List.getElem_map, List.getD_eq_getElem?_getD, List.getElem?_eq_getElem h]; rfl
theorem oks4 {r : List Int} (h : vok r = true) : ok (toS r).f0 = true ∧ ok (toS r).f1 = true ∧ ok (toS r).f2 = true ∧ ok (toS r).f3 = true := by
  have c := (vok_iff.1 h).2
  exact ⟨can_get c 0, can_get c 1, can_get c 2, can_get c 3⟩
/-- the rows when the first j of them have been gone through -/
def lmid (i : Nat) (L : List (List Int)) (j : Nat) : List (List Int) := (tstep i L).take j ++ L.drop j
theorem lmid_len (i : Nat) (L : List (List Int)) {j : Nat} (hj : j ≤ L.length) : (lmid i L j).length = L.length := by
  unfold lmid; rw [List.length_append, List.length_take, List.length_drop, tstep_len]; omega
theorem lmid_get (i : Nat) (L : List (List Int)) {j q : Nat} (hj : j ≤ L.length) (hq : q < L.length) : (lmid i L j).getD q [] = if q < j then (if q = i then L.getD q [] else el (L.getD q []) (L.getD i [])) else L.getD q [] := by
  unfold lmid
  rw [List.getD_eq_getElem?_getD]
  by_cases h : q < j
  · rw [if_pos h, List.getElem?_append_left (by rw [List.length_take, tstep_len]; omega), List.getElem?_take_of_lt h, List.getElem?_eq_getElem (by rw [tstep_len]; exact hq), tstep_get i L q hq]
    simp only [List.getD_eq_getElem?_getD, List.getElem?_eq_getElem hq, Option.getD_some]
  · rw [if_neg h, List.getElem?_append_right (by rw [List.length_take, tstep_len]; omega), List.length_take, tstep_len, List.getElem?_drop, show j + (q - min j L.length) = q by omega]; rfl
theorem lmid_skip (i : Nat) (L : List (List Int)) (hi : i < L.length) : lmid i L (i + 1) = lmid i L i := by
  unfold lmid
  rw [List.take_succ_eq_append_getElem (by rw [tstep_len]; exact hi), tstep_get i L i hi, if_pos rfl, List.drop_eq_getElem_cons hi, List.append_assoc]; rfl
theorem lmid_set (i : Nat) (L : List (List Int)) {j : Nat} (hj : j < L.length) (hne : j ≠ i) : (lmid i L j).set j (el (L.getD j []) (L.getD i [])) = lmid i L (j + 1) := by
  unfold lmid
  have hl : ((tstep i L).take j).length = j := by rw [List.length_take, tstep_len]; omega
  rw [List.set_append_right _ _ (by omega), hl, Nat.sub_self, List.drop_eq_getElem_cons hj, List.set_cons_zero, List.take_succ_eq_append_getElem (by rw [tstep_len]; exact hj), tstep_get i L j hj, if_neg hne, List.append_assoc, List.getD_eq_getElem?_getD, List.getElem?_eq_getElem hj]; rfl
theorem tidy_l2_ev {L : List (List Int)} (hL : ∀ r ∈ L, vok r = true) (hn : L.length ≤ 1000000) {i : Nat} (hi : i < L.length) {p : Nat} (hp : p < 4) (hl : llead (L.getD i []) = (p : Int)) {Q : _ → Prop}
    (h : Evp (fun k => impl_tidy.l1 k ((tstep i L).map toS) (L.length : Int) ((i + 1 : Nat) : Int)) Q) : ∀ (d j : Nat), j + d = L.length →
    Evp (fun k => impl_tidy.l2 k ((lmid i L j).map toS) (i : Int) (p : Int) (L.length : Int) (i : Int) (L.length : Int) (j : Int)) Q := by
  intro d
  induction d with
  | zero =>
    intro j hj
    refine Evp.step (fun k => by rw [impl_tidy.l2]) (Evp.neg (by omega) ?_)
    have e : lmid i L j = tstep i L := by
      unfold lmid
      rw [List.take_of_length_le (by rw [tstep_len]; omega), List.drop_eq_nil_of_le (by omega), List.append_nil]
    rw [e, wrap_succ (by omega)]
    exact h
  | succ d ih =>
    intro j hj
    have hj1 : j < L.length := by omega
    have hm : ((lmid i L j).map toS).length = L.length := by rw [List.length_map, lmid_len i L (by omega)]
    refine Evp.step (fun k => by rw [impl_tidy.l2]) (Evp.pos (by omega) (Evp.ite (fun hc => ?_) fun hc => ?_))
    · have e : j = i := by omega
      subst e
      rw [wrap_succ (by omega), ← lmid_skip j L hj1]
      exact ih (j + 1) (by omega)
    · have hne : j ≠ i := by omega
      refine Evp.pos (by omega) (Evp.pos (by omega) (Evp.pos (by omega) (Evp.pos (by omega) ?_)))
      have ej : (lmid i L j).getD j [] = L.getD j [] := by rw [lmid_get i L (by omega) hj1, if_neg (by omega)]
      have ei : (lmid i L j).getD i [] = L.getD i [] := by
        rw [lmid_get i L (by omega) hi]
        split <;> simp
      rw [rdT (by rw [lmid_len i L (by omega)]; exact hi), rdT (by rw [lmid_len i L (by omega)]; exact hj1), ei, ej]
      have vj := vok_getD hL hj1
      have vi := vok_getD hL hi
      obtain ⟨a0, a1, a2, a3⟩ := oks4 vj
      obtain ⟨b0, b1, b2, b3⟩ := oks4 vi
      have key : ∀ c : Int, c = (L.getD j []).getD p 0 → Evp (fun k => (impl_vector_times.f (toS (L.getD i [])).f0 (toS (L.getD i [])).f1 (toS (L.getD i [])).f2 (toS (L.getD i [])).f3 c).bind fun bt => (impl_vector_minus.f (toS (L.getD j [])).f0 (toS (L.getD j [])).f1 (toS (L.getD j [])).f2 (toS (L.getD j [])).f3 bt.1 bt.2.1 bt.2.2.1 bt.2.2.2).bind fun bu => impl_tidy.l2 k (((lmid i L j).map toS).set ((j : Int)).toNat (⟨bu.1, bu.2.1, bu.2.2.1, bu.2.2.2⟩ : S59)) (i : Int) (p : Int) (L.length : Int) (i : Int) (L.length : Int) (wrap64 ((j : Int) + 1))) Q := by
        intro c hc
        have oc : ok c = true := hc ▸ can_get (vok_iff.1 vj).2 p
        have hk := ih (j + 1) (by omega)
        rw [← lmid_set i L hj1 hne, List.map_set] at hk
        refine Evp.congr (f := fun k => impl_tidy.l2 k (((lmid i L j).map toS).set j (toS (el (L.getD j []) (L.getD i [])))) (i : Int) (p : Int) (L.length : Int) (i : Int) (L.length : Int) ((j + 1 : Nat) : Int)) (fun k => ?_) hk
        rw [vtimes_eq b0 b1 b2 b3 oc, Option.bind_some, vminus_eq a0 a1 a2 a3 (mod_ok _) (mod_ok _) (mod_ok _) (mod_ok _), Option.bind_some, Int.toNat_natCast, wrap_succ (by omega)]
        have g : ∀ q, q < 4 → (el (L.getD j []) (L.getD i [])).getD q 0 = ((L.getD j []).getD q 0 - (L.getD i []).getD q 0 * c % 31) % 31 := fun q hq => by
          rw [el_get (vok_iff.1 vj).1 (vok_iff.1 vi).1 hq, hl, gt_nat, ← hc]
        unfold toS
        rw [g 0 (by omega), g 1 (by omega), g 2 (by omega), g 3 (by omega)]
      match p, hp, key with
      | 0, _, key => exact Evp.pos (by decide) (key _ rfl)
      | 1, _, key => exact Evp.neg (by decide) (Evp.pos (by decide) (key _ rfl))
      | 2, _, key => exact Evp.neg (by decide) (Evp.neg (by decide) (Evp.pos (by decide) (key _ rfl)))
      | 3, _, key => exact Evp.neg (by decide) (Evp.neg (by decide) (Evp.neg (by decide) (Evp.pos (by decide) (key _ rfl))))
def lels (n : Nat) (L : List (List Int)) : List (List Int) := (List.range n).foldl (fun R i => tstep i R) L
theorem lels_succ (n : Nat) (L : List (List Int)) : lels (n + 1) L = tstep n (lels n L) := by simp [lels, List.range_succ]
theorem lels_inv {L : List (List Int)} (hL : ∀ r ∈ L, vok r = true) (he : Ech (L.map toW)) (hf : ∀ r ∈ L.map toW, four r) : ∀ n, n ≤ L.length → (∀ r ∈ lels n L, vok r = true) ∧ (lels n L).length = L.length ∧ (lels n L).map toW = elims n (L.map toW) ∧ ∀ i, i < L.length → ld (toW ((lels n L).getD i [])) < 4 := by
  intro n
  induction n with
  | zero =>
    intro _
    refine ⟨hL, rfl, rfl, fun i hi => ?_⟩
    show ld (toW (L.getD i [])) < 4
    rw [List.getD_eq_getElem?_getD, List.getElem?_eq_getElem hi]
    exact (he.one _ (List.mem_map_of_mem (List.getElem_mem hi))).1
  | succ n ih =>
    intro hn
    obtain ⟨h1, h2, h3, h4⟩ := ih (by omega)
    have h5 : n < (lels n L).length := by omega
    have h6 : (lels (n + 1) L).map toW = elims (n + 1) (L.map toW) := by
      rw [lels_succ, toW_tstep h1 h5 (h4 n (by omega)), h3, elims_succ]
    refine ⟨?_, ?_, h6, fun i hi => ?_⟩
    · rw [lels_succ]; exact vok_tstep h1 h5
    · rw [lels_succ, tstep_len, h2]
    · have hb := elims_back he hf (n + 1) (by rw [List.length_map]; exact hn)
      have hl : i < (elims (n + 1) (L.map toW)).length := by rw [hb.len, List.length_map]; exact hi
      have := hb.lead i hl
      have e : (elims (n + 1) (L.map toW))[i] = toW ((lels (n + 1) L).getD i []) := by
        have : i < (lels (n + 1) L).length := by rw [lels_succ, tstep_len, h2]; exact hi
        simp only [← h6, List.getElem_map, List.getD_eq_getElem?_getD, List.getElem?_eq_getElem this, Option.getD_some]
      rw [e] at this
      rw [this, getD_map_toW, List.getD_eq_getElem?_getD, List.getElem?_eq_getElem hi]
      exact (he.one _ (List.mem_map_of_mem (List.getElem_mem hi))).1
theorem tidy_l1_ev {L : List (List Int)} (hL : ∀ r ∈ L, vok r = true) (hn : L.length ≤ 12) (he : Ech (L.map toW)) (hf : ∀ r ∈ L.map toW, four r) : ∀ (d i : Nat), i + d = L.length →
    Evp (fun k => impl_tidy.l1 k ((lels i L).map toS) (L.length : Int) (i : Int)) (· = So.vsort ((lels L.length L).map toS)) := by
  intro d
  induction d with
  | zero =>
    intro i hi
    have e : i = L.length := by omega
    subst e
    have h2 := (lels_inv hL he hf L.length (Nat.le_refl _)).2.1
    refine Evp.step (fun k => by rw [impl_tidy.l1]) (Evp.neg (by omega) ?_)
    unfold So.srt
    rw [if_pos (by rw [List.length_map]; omega)]
    exact Evp.some' rfl
  | succ d ih =>
    intro i hi
    obtain ⟨h1, h2, h3, h4⟩ := lels_inv hL he hf i (by omega)
    have hi1 : i < (lels i L).length := by omega
    have e := llead_ld (vok_iff.1 (vok_getD h1 hi1)).2 (h4 i (by omega))
    refine Evp.step (fun k => by rw [impl_tidy.l1]) (Evp.pos (by omega) (Evp.pos (by omega) (Evp.pos (by rw [List.length_map]; omega) ?_)))
    rw [rdT hi1]
    have e2 : impl_vector_lead.f (toS ((lels i L).getD i [])).f0 (toS ((lels i L).getD i [])).f1 (toS ((lels i L).getD i [])).f2 (toS ((lels i L).getD i [])).f3 = some ((ld (toW ((lels i L).getD i [])) : Nat) : Int) := by
      rw [← e]
      exact congrArg (fun z => some (llead z)) (l4_toS (vok_iff.1 (vok_getD h1 hi1)).1)
    simp only [e2, Option.bind_some]
    have := ih (i + 1) (by omega)
    rw [lels_succ, ← h2] at this
    have := tidy_l2_ev h1 (by omega) hi1 (h4 i (by omega)) e this (lels i L).length 0 (by omega)
    rw [h2] at this
    have e0 : lmid i (lels i L) 0 = lels i L := rfl
    rw [e0] at this
    simpa [h2] using this
theorem impl_tidy_ev {m : List (List Int)} (hm : ∀ r ∈ m, vok r = true) (h8 : m.length ≤ 8) : Evp (fun k => impl_tidy.f k (m.map toS)) (· = (ltidy m).map toS) := by
  obtain ⟨g1, g2, _, g4, _⟩ := kspan_inv hm h8 m.length (Nat.le_refl _)
  have hf : ∀ r ∈ m.map toW, four r := fun r hr => by
    obtain ⟨s, hs, rfl⟩ := List.mem_map.1 hr
    exact toW_four (vok_iff.1 (hm s hs)).1
  unfold impl_tidy.f
  refine Evp.bind (spanOf_ev hm h8) fun t ht => ?_
  subst ht
  generalize hK : (kspan m m.length).1 = K at g1 g2 g4
  have hL : ∀ r ∈ K.map (List.take 4), vok r = true := fun r hr => by
    obtain ⟨s, hs, rfl⟩ := List.mem_map.1 hr
    exact vok_iff.2 ⟨by rw [List.length_take, (g1 s hs).1]; rfl, can_take (g1 s hs).2.1 4⟩
  have hW : (K.map (List.take 4)).map toW = fwd (m.map toW) := by
    have := kept_res4 hf m.length (by rw [List.length_map]; exact Nat.le_refl _)
    rw [← g2, List.take_of_length_le (by rw [List.length_map]; exact Nat.le_refl _), List.map_map] at this
    rw [← this, List.map_map]
    refine List.map_congr_left fun r hr => ?_
    show toW (r.take 4) = res4 (toW r)
    funext i
    show _ = if i < 4 then toW r i else 0
    split
    · rename_i h; exact toW_take4 r h
    · rename_i h
      show toF ((r.take 4).getD i 0) = 0
      rw [List.getD_eq_getElem?_getD, List.getElem?_eq_none (by rw [List.length_take]; omega)]; exact toF_zero
  have hT : (K.map (List.take 4)).map toS = K.map toS := by
    rw [List.map_map]
    refine List.map_congr_left fun r hr => ?_
    have := (g1 r hr).1
    match r, this with
    | [a, b, c, d, e, f, g, i, j, k, m, n], _ => rfl
  have he := fwd_ech hf
  have h4 := fwd_four hf
  rw [← hW] at he h4
  have hlen : (K.map (List.take 4)).length = K.length := List.length_map _
  have fin : So.vsort ((lels (K.map (List.take 4)).length (K.map (List.take 4))).map toS) = (ltidy m).map toS := by
    obtain ⟨k1, k2, k3, k5⟩ := lels_inv hL he h4 _ (Nat.le_refl _)
    generalize hE : lels (K.map (List.take 4)).length (K.map (List.take 4)) = E at k1 k2 k3 k5
    obtain ⟨s1, s2⟩ := So.vsort_spec (E.map toS)
    generalize So.vsort (E.map toS) = V at s1 s2
    have p1 : (V.map l4).Perm E := by have := s1.map l4; rwa [map_l4_toS k1] at this
    have vk : ∀ r ∈ V.map l4, vok r = true := fun r hr => k1 r (p1.mem_iff.1 hr)
    have hld : ∀ r ∈ E, ld (toW r) < 4 := fun r hr => by
      obtain ⟨i, hi, rfl⟩ := List.getElem_of_mem hr
      have := k5 i (by omega)
      rwa [List.getD_eq_getElem?_getD, List.getElem?_eq_getElem hi] at this
    have p2 : ((V.map l4).map toW).Perm (elims (fwd (m.map toW)).length (fwd (m.map toW))) := by
      have := p1.map toW
      rw [k3, hW] at this
      have e5 : (fwd (m.map toW)).length = (K.map (List.take 4)).length := by rw [← hW, List.length_map]
      rw [e5]; exact this
    have p3 : (((V.map l4).map toW).map ld).Pairwise (· ≤ ·) := by
      rw [List.map_map, List.map_map, List.pairwise_map]
      refine List.Pairwise.imp_of_mem (fun {a b} ha hb hab => ?_) s2
      have la := hld (l4 a) (p1.mem_iff.1 (List.mem_map_of_mem ha))
      have lb := hld (l4 b) (p1.mem_iff.1 (List.mem_map_of_mem hb))
      have ea := llead_ld (vok_iff.1 (vk _ (List.mem_map_of_mem ha))).2 la
      have eb := llead_ld (vok_iff.1 (vk _ (List.mem_map_of_mem hb))).2 lb
      have hab : llead (l4 a) ≤ llead (l4 b) := hab
      rw [ea, eb] at hab
      show ld (toW (l4 a)) ≤ ld (toW (l4 b))
      omega
    have := back_tidy hf p2 p3
    rw [← (ltidy_toW hm).1] at this
    have := rows_inj vk (ltidy_toW hm).2 this
    rw [← this, map_toS_l4]
  rw [← fin]
  have := tidy_l0_ev g1 (by omega) (tidy_l1_ev hL (by omega) he h4 _ 0 (Nat.zero_add _) |> fun h => by rw [hlen] at h; have e0 : lels 0 (K.map (List.take 4)) = K.map (List.take 4) := rfl; rw [e0, hT] at h; exact h) K.length 0 (Nat.zero_add _)
  simpa [hlen] using this
theorem rows_drop {a b : List (List Int)} (hl : a.length = b.length) {i : Nat} (hi : i < a.length) : a.drop i = b.drop i ↔ a.getD i [] = b.getD i [] ∧ a.drop (i + 1) = b.drop (i + 1) := by
  have hj : i < b.length := hl ▸ hi
  rw [List.drop_eq_getElem_cons hi, List.drop_eq_getElem_cons hj, List.cons.injEq, List.getD_eq_getElem?_getD, List.getD_eq_getElem?_getD, List.getElem?_eq_getElem hi, List.getElem?_eq_getElem hj]
  simp only [Option.getD_some]
theorem four_eq_iff {r s : List Int} (hr : r.length = 4) (hs : s.length = 4) : r = s ↔ r.getD 0 0 = s.getD 0 0 ∧ r.getD 1 0 = s.getD 1 0 ∧ r.getD 2 0 = s.getD 2 0 ∧ r.getD 3 0 = s.getD 3 0 := by
  match r, hr, s, hs with
  | [a, b, c, d], _, [e, f, g, h], _ => simp
theorem vecEq_ev {a b : List (List Int)} (ha : ∀ r ∈ a, vok r = true) (hb : ∀ r ∈ b, vok r = true) (hn : a.length ≤ 1000000) : Evp (fun k => impl_vector_59.f k (a.map toS) (b.map toS)) (· = decide (a = b)) := by
  unfold impl_vector_59.f
  refine Evp.ite (fun h => ?_) fun h => Evp.some' (by rw [decide_eq_false]; rintro rfl; exact h rfl)
  have hl : a.length = b.length := by rw [List.length_map, List.length_map] at h; omega
  rw [List.length_map]
  have key : ∀ d i, i + d = a.length → Evp (fun k => impl_vector_59.l0 k (a.map toS) (b.map toS) (a.length : Int) (i : Int)) (· = decide (a.drop i = b.drop i)) := by
    intro d
    induction d with
    | zero =>
      intro i hi
      refine Evp.step (fun k => by rw [impl_vector_59.l0]) (Evp.neg (by omega) (Evp.some' ?_))
      rw [List.drop_eq_nil_of_le (by omega), List.drop_eq_nil_of_le (by omega)]; rfl
    | succ d ih =>
      intro i hi
      have hi1 : i < a.length := by omega
      have la := (vok_iff.1 (vok_getD ha hi1)).1
      have lb := (vok_iff.1 (vok_getD hb (by omega : i < b.length))).1
      refine Evp.step (fun k => by rw [impl_vector_59.l0]) (Evp.pos (by omega) (Evp.pos (by omega) (Evp.pos (by rw [List.length_map]; omega) (Evp.pos (by rw [List.length_map]; omega) ?_))))
      rw [rdT hi1, rdT (by omega), wrap_succ (by omega)]
      have e := four_eq_iff la lb
      refine Evp.ite (fun hc => Evp.some' ?_) fun hc => ?_
      · rw [decide_eq_false]
        rw [rows_drop hl hi1]
        intro hh
        rw [hh.1] at hc
        simp at hc
      · refine (ih (i + 1) (by omega)).mono fun r hr => ?_
        rw [hr, decide_eq_decide, rows_drop hl hi1]
        refine ⟨fun h => ⟨e.2 ?_, h⟩, fun h => h.2⟩
        simp [toS] at hc
        exact ⟨hc.1, hc.2.1, hc.2.2.1, hc.2.2.2⟩
  have := key a.length 0 (by omega)
  rw [List.drop_zero, List.drop_zero] at this
  exact this
def lsame (a b : List (List Int)) : Bool := mok a && (mok b && decide (ltidy a = ltidy b))
theorem impl_SpanSame_ev {a b : List (List Int)} (hm : a.length ≤ 1048576) (hm2 : b.length ≤ 1048576) : Evp (fun k => impl_SpanSame.f k a b) (· = lsame a b) := by
  unfold impl_SpanSame.f lsame
  refine Evp.bind (impl_matrixOf_ev hm) fun t ht => ?_
  subst ht
  refine Evp.bind (impl_matrixOf_ev hm2) fun t ht => ?_
  subst ht
  have no : ∀ {m : List (List Int)}, ¬ (if m.all vok = true then (m.map toS, decide (m.length ≤ 8)) else ([], false)).2 = true → mok m = false := fun {m} h => by
    by_cases hk : mok m = true
    · obtain ⟨h8, hv⟩ := mok_iff.1 hk
      rw [if_pos (by simpa using hv)] at h
      exact absurd (by simpa using h8) h
    · simpa using hk
  have yes : ∀ {m : List (List Int)}, (if m.all vok = true then (m.map toS, decide (m.length ≤ 8)) else ([], false)).2 = true → mok m = true := fun {m} h => by
    by_cases hk : m.all vok = true
    · rw [if_pos hk] at h
      exact mok_iff.2 ⟨by simpa using h, by simpa using hk⟩
    · rw [if_neg hk] at h; cases h
  refine Evp.ite (fun h => ?_) fun h => Evp.some' (by simp [no h])
  refine Evp.ite (fun h2 => ?_) fun h2 => Evp.some' (by simp [no h2])
  have k1 := yes h
  have k2 := yes h2
  obtain ⟨e1, v1⟩ := mok_iff.1 k1
  obtain ⟨e2, v2⟩ := mok_iff.1 k2
  rw [if_pos (by simpa using v1), if_pos (by simpa using v2)]
  refine Evp.bind (impl_tidy_ev v1 e1) fun t ht => ?_
  subst ht
  refine Evp.bind (impl_tidy_ev v2 e2) fun t ht => ?_
  subst ht
  refine Evp.bind (vecEq_ev (ltidy_toW v1).2 (ltidy_toW v2).2 (by have := ltidy_four v1; omega)) fun t ht => Evp.some' ?_
  rw [ht, k1, k2]; rfl
theorem rd_firsts {m : List (List Int)} (ho : mok m = true) {i : Nat} (hi : i < (lfirst m).length) : rd (firsts m) (i : Int) = ((lfirst m)[i] : Int) := by
  unfold firsts
  rw [if_pos ho, rd_nat, List.getD_eq_getElem?_getD, List.getElem?_map, List.getElem?_eq_getElem hi]; rfl
theorem firsts_length {m : List (List Int)} (ho : mok m = true) : (firsts m).length = (lfirst m).length := by
  unfold firsts; rw [if_pos ho, List.length_map]
/-- the first ones ahead of a place -/
def fq (m : List (List Int)) (i : Nat) : Nat := ((List.range i).filter fun i => !lhas (m.take i) (m.getD i [])).length
theorem fq_succ (m : List (List Int)) (i : Nat) : fq m (i + 1) = fq m i + if lhas (m.take i) (m.getD i []) = true then 0 else 1 := by
  unfold fq
  rw [List.range_succ, List.filter_append, List.length_append]
  congr 1
  by_cases h : lhas (m.take i) (m.getD i []) = true
  · simp only [List.filter_cons, List.filter_nil, h]; rfl
  · rw [if_neg h]
    simp only [List.filter_cons, List.filter_nil, Bool.eq_false_iff.2 h]; rfl
theorem fq_split {p : Nat → Bool} {n i : Nat} (hi : i < n) : (List.range n).filter p = (List.range i).filter p ++ ((List.range' i (n - i)).filter p) := by
  have h := List.range'_append_1 (s := 0) (m := i) (n := n - i)
  rw [Nat.zero_add, show i + (n - i) = n by omega] at h
  rw [← List.filter_append, List.range_eq_range', List.range_eq_range', h]
theorem fq_at {m : List (List Int)} {i : Nat} (hi : i < m.length) (h : lhas (m.take i) (m.getD i []) = false) : (lfirst m)[fq m i]? = some i := by
  unfold lfirst fq
  rw [fq_split hi, List.getElem?_append_right (Nat.le_refl _), Nat.sub_self, show m.length - i = (m.length - i - 1) + 1 by omega, List.range'_succ]
  simp only [List.filter_cons, h]; rfl
theorem fq_not {m : List (List Int)} {i : Nat} (hi : i < m.length) (h : lhas (m.take i) (m.getD i []) = true) : (lfirst m)[fq m i]? ≠ some i := by
  intro e
  have := List.mem_of_getElem? e
  unfold lfirst at this
  have := (List.mem_filter.1 this).2
  rw [h] at this
  cases this
theorem fq_le (m : List (List Int)) {i : Nat} (hi : i ≤ m.length) : fq m i ≤ (lfirst m).length := by
  unfold lfirst fq
  rcases Nat.lt_or_ge i m.length with h | h
  · rw [fq_split h, List.length_append]; omega
  · rw [show i = m.length by omega]; exact Nat.le_refl _
theorem fq_len (m : List (List Int)) : fq m m.length = (lfirst m).length := rfl
theorem FnSpanFirst : laws_FnSpanFirst.Pure := by
  intro l hm hl hw
  refine Evp.rounds ?_
  have key : ∀ (m : List (List Int)) (c : Bool), Dm m → (c = false → mok m = true) → Evp (fun k => laws_FnSpanFirst.j0 k m (firsts m) c) (· = true) := fun m c hd hc => by
    have d1 := hd.1
    have d2 : ∀ r ∈ m, r.length ≤ 1048576 := fun r hr => by have := hd.2 r hr; omega
    have hfl := firsts_len m
    refine Evp.step (fun k => by rw [laws_FnSpanFirst.j0]) ?_
    refine Evp.ite (fun _ => ?_) fun h => ?_
    · refine Evp.bind (spec_SpanFirst_ev (by omega) d2) fun t ht => ?_
      subst ht
      refine Evp.bind (lkInts_self (by omega)) fun t ht => ?_
      subst ht
      exact Evp.some' rfl
    · have ho := hc (by simpa using h)
      obtain ⟨h8, hmv⟩ := mok_iff.1 ho
      have hfn := firsts_length ho
      have hlf := lfirst_len m
      have hls := lsome_len m
      have hsame : lsame (lsome m) m = true := by
        unfold lsame
        rw [mok_lsome ho, ho]
        simp only [Bool.true_and, decide_eq_true_eq]
        exact (ltidy_eq_iff (vok_lsome hmv) hmv).2 (lsome_in hmv)
      have k0 : ∀ d i, i + d = m.length → Evp (fun k => laws_FnSpanFirst.l0 k m (firsts m) ((lsome m).take (fq m i)) (fq m i : Int) (i : Int)) (· = true) := by
        intro d
        induction d with
        | zero =>
          intro i hi
          have ei : i = m.length := by omega
          refine Evp.step (fun k => by rw [laws_FnSpanFirst.l0]) (Evp.neg (by omega) (Evp.pos (by rw [ei, fq_len, hfn]) ?_))
          rw [ei, fq_len, List.take_of_length_le (show (lsome m).length ≤ (lfirst m).length by omega)]
          refine Evp.bind (impl_SpanSame_ev (a := lsome m) (b := m) (by omega) (by omega)) fun q hq => Evp.some' ?_
          rw [hq, hsame]
        | succ d ih =>
          intro i hi
          have hi1 : i < m.length := by omega
          have hq := fq_le m (Nat.le_of_lt hi1)
          have hs := fq_succ m i
          have hv := vok_getD hmv hi1
          have hot : mok (m.take i) = true := mok_take' ho i
          have htl : (m.take i).length ≤ 1048576 := by rw [List.length_take]; omega
          have step : ∀ c : Bool, c = !lhas (m.take i) (m.getD i []) → Evp (fun k => laws_FnSpanFirst.j2 k m (firsts m) ((lsome m).take (fq m i)) (fq m i : Int) (i : Int) c) (· = true) := fun c hc => by
            refine Evp.step (fun k => by rw [laws_FnSpanFirst.j2]) ?_
            by_cases h : lhas (m.take i) (m.getD i []) = true
            · rw [if_pos h] at hs
              have ec : c = false := by rw [hc, h]; rfl
              subst ec
              refine Evp.neg (by simp) (Evp.pos (by omega) (Evp.pos (by omega) (Evp.pos (by omega) ?_)))
              rw [Int.toNat_natCast, rdL1_nat, wrap_succ (by omega)]
              refine Evp.bind (impl_SpanHas_ev htl _) fun q hq => ?_
              rw [hq, hot, hv, h]
              refine Evp.neg (by simp) ?_
              have := ih (i + 1) (by omega)
              rw [hs] at this
              exact this
            · rw [if_neg h] at hs
              have ec : c = true := by rw [hc, Bool.eq_false_iff.2 h]; rfl
              subst ec
              have hat := fq_at hi1 (Bool.eq_false_iff.2 h)
              have hlt : fq m i < (lfirst m).length := by
                rcases Nat.lt_or_ge (fq m i) (lfirst m).length with k | k
                · exact k
                · rw [List.getElem?_eq_none k] at hat; cases hat
              refine Evp.pos rfl (Evp.pos (by omega) (Evp.pos (by omega) (Evp.pos (by rw [List.length_take]; omega) (Evp.pos (by omega) ?_))))
              rw [Int.toNat_natCast, rdL1_nat, wrap_succ (by omega), wrap_succ (by omega)]
              refine Evp.bind (impl_SpanHas_ev htl _) fun q hq => ?_
              rw [hq, hot, hv, Bool.eq_false_iff.2 h]
              refine Evp.neg (by simp) ?_
              have := ih (i + 1) (by omega)
              rw [hs, List.take_succ_eq_append_getElem (show fq m i < (lsome m).length by omega)] at this
              have e : (lsome m)[fq m i]'(by omega) = m.getD i [] := by
                rw [List.getElem?_eq_getElem hlt] at hat
                unfold lsome
                rw [List.getElem_map, Option.some.inj hat]
              rw [e] at this
              exact this
          refine Evp.step (fun k => by rw [laws_FnSpanFirst.l0]) (Evp.pos (by omega) (Evp.ite (fun hc => ?_) fun hc => step false ?_))
          · have hlt : fq m i < (lfirst m).length := by omega
            refine Evp.pos (by omega) (step _ ?_)
            rw [rd_firsts ho hlt]
            by_cases h : lhas (m.take i) (m.getD i []) = true
            · have := fq_not hi1 h
              rw [List.getElem?_eq_getElem hlt] at this
              rw [h]
              simp only [Bool.not_true, beq_eq_false_iff_ne, ne_eq]
              exact fun h2 => this (by rw [show (lfirst m)[fq m i] = i by omega])
            · have := fq_at hi1 (Bool.eq_false_iff.2 h)
              rw [List.getElem?_eq_getElem hlt] at this
              rw [Bool.eq_false_iff.2 h, Option.some.inj this]; simp
          · by_cases h : lhas (m.take i) (m.getD i []) = true
            · rw [h]; rfl
            · have := fq_at hi1 (Bool.eq_false_iff.2 h)
              rw [List.getElem?_eq_none (by omega)] at this
              cases this
      have := k0 m.length 0 (by omega)
      exact this
  unfold laws_FnSpanFirst.f
  refine Evp.ite (fun _ => Evp.some' rfl) fun _ => ?_
  refine Evp.bind (drawSpanFirst_ev (fun x hx => bounds_u8 (hw x hx))) fun m hd => ?_
  have d1 := hd.1
  have d2 : ∀ r ∈ m, r.length ≤ 1048576 := fun r hr => by have := hd.2 r hr; omega
  have hfl := firsts_len m
  rw [impl_SpanFirst_eq (by omega)]
  simp only [Option.bind_some]
  refine Evp.bind (spec_SpanFirst_ev (by omega) d2) fun t ht => ?_
  subst ht
  refine Evp.bind (lkInts_self (by omega)) fun t ht => ?_
  subst ht
  refine Evp.pos rfl ?_
  refine Evp.bind (spec_SpanOk_ev (by omega) d2) fun t ht => ?_
  subst ht
  exact key m _ hd (by simp)
end Go.Proofs.Ytbhmgbeebhmfkaa.Pure
