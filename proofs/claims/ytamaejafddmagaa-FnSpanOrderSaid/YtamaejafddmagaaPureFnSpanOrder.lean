import Derived.Test.YtamaejafddmagaaPAx0
import Derived.Test.YtamaejafddmagaaPAx1
import Derived.Test.YtamaejafddmagaaPAx11
import Derived.Test.YtamaejafddmagaaPAx12
import Derived.Test.YtamaejafddmagaaPAx13
import Derived.Test.YtamaejafddmagaaPAx14
import Derived.Test.YtamaejafddmagaaPAx15
import Derived.Test.YtamaejafddmagaaPAx2
import Derived.Test.YtamaejafddmagaaPAx3
import Derived.Test.YtamaejafddmagaaPAx4
import Derived.Test.YtamaejafddmagaaPAx5
import Derived.Test.YtamaejafddmagaaPAx6
import Derived.Test.YtamaejafddmagaaLf
import Derived.Test.YtamaejafddmagaaMa
import Derived.Laws.BitsAllLaws
import Derived.Laws.BitsLemmas
import Derived.Test.YtamaejafddmagaaXor
import Derived.OpenShut
/- Of the printed functions over single rows: what a walk by hand wants of them. -/
set_option linter.unusedVariables false
set_option linter.unusedSimpArgs false
namespace Go.Proofs.Ytamaejafddmagaa.Pure
open Go.RowKit Go.Proofs.Ytamaejafddmagaa.PA Go.Proofs.YtamaejafddmagaaW.PrintWords Go.Proofs.YtamaejafddmagaaW.PrintLast Go.Proofs.YtamaejafddmagaaW.PrintMore Go.Proofs.Ytamaejafddmagaa.Lin

theorem Evp.ite {α : Type} {c : Prop} [Decidable c] {g f : Nat → Option α} {Q : α → Prop} (h : c → Evp g Q) (k : ¬ c → Evp f Q) : Evp (fun n => if c then g n else f n) Q := by
  by_cases hc : c
  · simp only [if_pos hc]; exact h hc
  · simp only [if_neg hc]; exact k hc
theorem tmod_pos {x n : Int} (h : 0 ≤ x) : Int.tmod x n = x % n := Int.tmod_eq_emod_of_nonneg h
theorem spec_FieldOk_eq (a : Int) : spec_FieldOk.f a = some (ok a) := by
  unfold spec_FieldOk.f spec_l6In.f ok
  by_cases h : a ≥ 0
  · rw [if_pos h]; simp [show (a ≤ 30) = (a < 31) by rw [eq_iff_iff]; omega, h]
  · rw [if_neg h]; simp [h]
theorem ofInt_i64 (a : Nat) (ha : a < 9223372036854775808) : (BitVec.ofInt 64 (a : Int)).toNat = a := by
  rw [BitVec.ofInt_natCast, BitVec.toNat_ofNat]; exact Nat.mod_eq_of_lt (by omega)
theorem xor_nonneg {a b : Int} (ha : 0 ≤ a ∧ a < 1000000000000) (hb : 0 ≤ b ∧ b < 1000000000000) : 0 ≤ Go.bits .xor .i64 a b := by
  obtain ⟨x, rfl⟩ := Int.eq_ofNat_of_zero_le ha.1
  obtain ⟨y, rfl⟩ := Int.eq_ofNat_of_zero_le hb.1
  have hx : x ^^^ y < 2 ^ 63 := Nat.xor_lt_two_pow (by omega) (by omega)
  have e : Go.bits .xor .i64 (x : Int) (y : Int) = ((x ^^^ y : Nat) : Int) := by
    show IntKind.i64.wrap ((BitVec.ofInt 64 (x : Int) ^^^ BitVec.ofInt 64 (y : Int)).toNat : Int) = _
    rw [BitVec.toNat_xor, ofInt_i64 x (by omega), ofInt_i64 y (by omega), IntKind.wrap_i64]
    omega
  rw [e]; omega
/-- what a reader holds -/
def St (l : List Int) : Prop := l.length ≤ 2000 ∧ ∀ x ∈ l, 0 ≤ x ∧ x ≤ 255
theorem rd_range {l : List Int} (h : St l) (i : Int) : 0 ≤ rd l i ∧ rd l i ≤ 255 := by
  unfold rd
  rw [List.getD_eq_getElem?_getD]
  rcases Nat.lt_or_ge i.toNat l.length with hi | hi
  · rw [List.getElem?_eq_getElem hi]; exact h.2 _ (List.getElem_mem hi)
  · rw [List.getElem?_eq_none hi]; decide
theorem open_eq (l : List Int) (h : ∀ x ∈ l, 0 ≤ x ∧ x ≤ 255) : ∃ l', spec_l6Open.f l = some (l', 0) ∧ St l' := by
  unfold spec_l6Open.f
  by_cases hl : (l.length : Int) > 2000
  · rw [if_pos hl, if_pos (by omega)]
    exact ⟨_, rfl, by simp; omega, fun x hx => h x (List.mem_of_mem_take hx)⟩
  · rw [if_neg hl]
    exact ⟨l, rfl, by omega, h⟩
theorem pick_ev {l : List Int} (hs : St l) {p n : Int} (hp : 0 ≤ p ∧ p ≤ 100000) (hn : 1 ≤ n ∧ n ≤ 1000000) :
    Evp (fun k => spec_l6Rd_pick.f k l p n) (fun r => 0 ≤ r.1 ∧ r.1 < n ∧ r.2 = p + 1) := by
  have hw : wrap64 (p + 1) = p + 1 := wrap_small (by omega)
  have hw1 : wrap64 (p + 1 - 1) = p := by rw [wrap_small (by omega)]; omega
  unfold spec_l6Rd_pick.f
  simp only [if_neg (show ¬ n < 1 by omega), hw]
  refine Evp.step (fun k => by rw [spec_l6Rd_pick.j0]) ?_
  by_cases hl : (l.length : Int) = 0
  · simp only [hl, beq_self_eq_true, if_true]
    exact Evp.some' ⟨Int.le_refl _, by show (0 : Int) < n; omega, rfl⟩
  · simp only [beq_eq_false_iff_ne.2 hl, Bool.false_eq_true, if_false, hw1]
    have hlp : 0 < (l.length : Int) := by omega
    have hl2 : (l.length : Int) ≤ 2000 := by have := hs.1; omega
    by_cases hlt : p < (l.length : Int)
    · have hr := rd_range hs p
      rw [if_pos hlt, if_pos hp.1, if_neg (by omega), wrap_small (by omega), tmod_pos hr.1]
      exact Evp.some' ⟨Int.emod_nonneg _ (by omega), Int.emod_lt_of_pos _ (by omega), rfl⟩
    · rw [if_neg hlt, if_neg hl]
      have e7 : wrap64 (p * 7) = p * 7 := wrap_small (by omega)
      have e8 : wrap64 (p * 7 + 3) = p * 7 + 3 := wrap_small (by omega)
      rw [e7, e8, tmod_pos (n := (l.length : Int)) hp.1, tmod_pos (x := p * 7 + 3) (n := (l.length : Int)) (by omega)]
      have a1 := Int.emod_nonneg p (show (l.length : Int) ≠ 0 by omega)
      have a2 := Int.emod_lt_of_pos p hlp
      have b1 := Int.emod_nonneg (p * 7 + 3) (show (l.length : Int) ≠ 0 by omega)
      have b2 := Int.emod_lt_of_pos (p * 7 + 3) hlp
      rw [if_pos a1, if_pos a2, if_pos b1, if_pos b2, if_neg (by omega)]
      have r1 := rd_range hs (p % (l.length : Int))
      have r2 := rd_range hs ((p * 7 + 3) % (l.length : Int))
      generalize rd l (p % (l.length : Int)) = u at *
      generalize rd l ((p * 7 + 3) % (l.length : Int)) = v at *
      have ed : Int.tdiv p (l.length : Int) = p / (l.length : Int) := Int.tdiv_eq_ediv_of_nonneg hp.1
      have d1 : 0 ≤ p / (l.length : Int) := Int.ediv_nonneg hp.1 (by omega)
      have d2 : p / (l.length : Int) ≤ p := Int.ediv_le_self _ hp.1
      rw [ed]
      generalize p / (l.length : Int) = q at *
      rw [wrap_small (x := u) (by omega), wrap_small (x := u * 131) (by omega), wrap_small (x := v) (by omega), wrap_small (x := v * 1117) (by omega), wrap_small (x := u * 131 + v * 1117) (by omega), wrap_small (x := p * 29) (by omega),
        wrap_small (x := u * 131 + v * 1117 + p * 29) (by omega), wrap_small (x := q) (by omega), wrap_small (x := q * 53) (by omega), wrap_small (x := u * 131 + v * 1117 + p * 29 + q * 53) (by omega)]
      generalize hz : u * 131 + v * 1117 + p * 29 + q * 53 = z
      have hz0 : 0 ≤ z ∧ z < 100000000 := by omega
      have e64 : Int.tdiv z 64 = z / 64 := Int.tdiv_eq_ediv_of_nonneg hz0.1
      rw [e64, wrap_small (x := z / 64) (by omega), tmod_pos (xor_nonneg (by omega) (by omega))]
      exact Evp.some' ⟨Int.emod_nonneg _ (by omega), Int.emod_lt_of_pos _ (by omega), rfl⟩
theorem rd_nat (l : List Int) (i : Nat) : rd l (i : Int) = l.getD i 0 := by unfold rd; rw [Int.toNat_natCast]
theorem getD_get {l : List Int} {i : Nat} (h : i < l.length) : l.getD i 0 = l[i] := by rw [List.getD_eq_getElem?_getD, List.getElem?_eq_getElem h]; rfl
theorem spec_VecOk_ev {l : List Int} (hl : l.length ≤ 1000000000000) : Evp (fun k => spec_VecOk.f k l) (· = vok l) := by
  have key : ∀ d i, i + d = l.length → Evp (fun k => spec_VecOk.l0 k l (i : Int)) (· = ((l.drop i).all ok && (l.length == 4))) := by
    intro d
    induction d with
    | zero =>
      intro i hi
      refine Evp.step (fun k => by rw [spec_VecOk.l0]) ?_
      refine Evp.neg (by omega) ?_
      refine Evp.some' ?_
      rw [List.drop_eq_nil_of_le (by omega), Bool.eq_iff_iff, beq_iff_eq]; simp; omega
    | succ d ih =>
      intro i hi
      refine Evp.step (fun k => by rw [spec_VecOk.l0]) ?_
      refine Evp.pos (by omega) (Evp.pos (by omega) ?_)
      simp only [spec_FieldOk_eq, Option.bind_some, rd_nat, getD_get (show i < l.length by omega)]
      rw [List.drop_eq_getElem_cons (show i < l.length by omega), List.all_cons]
      refine Evp.ite (fun h => ?_) fun h => ?_
      · rw [wrap_succ (by omega), h]
        exact ih (i + 1) (by omega)
      · exact Evp.some' (by simp [h])
  have := key l.length 0 (by omega)
  unfold spec_VecOk.f
  refine this.mono fun r hr => ?_
  rw [hr, List.drop_zero, Bool.and_comm]; rfl
theorem eq_loop {F : Nat → List Int → List Int → Int → Option Bool}
    (hF : ∀ k a b i, F (k + 1) a b i = if i < (a.length : Int) then (if 0 ≤ i then (if i < (b.length : Int) then (if (rd a i) = (rd b i) then (F k a b (wrap64 (i + 1))) else (some false)) else (none)) else (none)) else (some true))
    {a b : List Int} (hl : a.length = b.length) (ha : a.length ≤ 1000000000000) : Evp (fun k => F k a b 0) (· = decide (a = b)) := by
  have key : ∀ d i, i + d = a.length → (∀ j, j < i → a.getD j 0 = b.getD j 0) → Evp (fun k => F k a b (i : Int)) (· = decide (a = b)) := by
    intro d
    induction d with
    | zero =>
      intro i hi hp
      refine Evp.step (fun k => hF k a b i) ?_
      refine Evp.neg (by omega) ?_
      refine Evp.some' ?_
      have : a = b := List.ext_getElem hl fun j h1 h2 => by have := hp j (by omega); rwa [getD_get h1, getD_get h2] at this
      simp [this]
    | succ d ih =>
      intro i hi hp
      refine Evp.step (fun k => hF k a b i) ?_
      refine Evp.pos (by omega) (Evp.pos (by omega) (Evp.pos (by omega) ?_))
      rw [rd_nat, rd_nat, wrap_succ (by omega)]
      refine Evp.ite (fun h => ih (i + 1) (by omega) fun j hj => ?_) fun h => Evp.some' ?_
      · rcases Nat.lt_or_ge j i with c | c
        · exact hp j c
        · have : j = i := by omega
          subst this; exact h
      · have : a ≠ b := fun e => h (by rw [e])
        simp [this]
  exact key a.length 0 (by omega) (fun j hj => absurd hj (Nat.not_lt_zero j))
theorem lkInts_ev {a b : List Int} (ha : a.length ≤ 1000000000000) : Evp (fun k => laws_lkInts.f k a b) (· = decide (a = b)) := by
  unfold laws_lkInts.f
  refine Evp.ite (fun h => eq_loop (fun k a b i => by rw [laws_lkInts.l0]) (by omega) ha) fun h => Evp.some' ?_
  have : a ≠ b := fun e => h (by rw [e])
  simp [this]
theorem can_small {l : List Int} (h : can l) (i : Nat) : 0 ≤ l.getD i 0 ∧ l.getD i 0 < 31 := ok_iff.1 (can_get h i)
theorem zip_take {α : Type} (f : Int → Int → α) {a b : List Int} {i : Nat} (h1 : i < a.length) (h2 : i < b.length) : List.zipWith f (a.take (i + 1)) (b.take (i + 1)) = List.zipWith f (a.take i) (b.take i) ++ [f (a.getD i 0) (b.getD i 0)] := by
  rw [List.take_succ_eq_append_getElem h1, List.take_succ_eq_append_getElem h2, List.zipWith_append (by simp; omega), getD_get h1, getD_get h2]; rfl
theorem l2Scale_ev {a : List Int} (ha : can a) {c : Int} (hc : ok c = true) (hn : a.length ≤ 1000000000000) : Evp (fun k => spec_l2Scale.f k a c) (· = lscale a c) := by
  have key : ∀ d i, i + d = a.length → Evp (fun k => spec_l2Scale.l0 k a c (lscale (a.take i) c) (i : Int)) (· = lscale a c) := by
    intro d
    induction d with
    | zero =>
      intro i hi
      refine Evp.step (fun k => by rw [spec_l2Scale.l0]) ?_
      refine Evp.neg (by omega) ?_
      rw [List.take_of_length_le (by omega)]
      exact Evp.some' rfl
    | succ d ih =>
      intro i hi
      refine Evp.step (fun k => by rw [spec_l2Scale.l0]) ?_
      have hm := mul_small (ok_iff.2 (can_small ha i)) hc
      refine Evp.pos (by omega) (Evp.pos (by omega) (Evp.pos (by rw [lscale_len, List.length_take]; omega) ?_))
      rw [rd_nat, wrap_succ (by omega), wrap_small (by omega), tmod31 hm.1]
      have e : lscale (a.take (i + 1)) c = lscale (a.take i) c ++ [a.getD i 0 * c % 31] := by
        unfold lscale; rw [List.take_succ_eq_append_getElem (by omega), List.map_append, getD_get (by omega)]; rfl
      rw [← e]
      exact ih (i + 1) (by omega)
  have := key a.length 0 (by omega)
  unfold spec_l2Scale.f
  simpa [lscale] using this
theorem l2Sum_ev {a b : List Int} (ha : can a) (hb : can b) (hl : a.length = b.length) (hn : a.length ≤ 1000000000000) : Evp (fun k => spec_l2Sum.f k a b) (· = lsum a b) := by
  have key : ∀ d i, i + d = a.length → Evp (fun k => spec_l2Sum.l0 k a b (lsum (a.take i) (b.take i)) (i : Int)) (· = lsum a b) := by
    intro d
    induction d with
    | zero =>
      intro i hi
      refine Evp.step (fun k => by rw [spec_l2Sum.l0]) ?_
      refine Evp.neg (by omega) ?_
      rw [List.take_of_length_le (by omega), List.take_of_length_le (by omega)]
      exact Evp.some' rfl
    | succ d ih =>
      intro i hi
      refine Evp.step (fun k => by rw [spec_l2Sum.l0]) ?_
      have h1 := can_small ha i
      have h2 := can_small hb i
      refine Evp.pos (by omega) (Evp.pos (by omega) (Evp.pos (by omega) (Evp.pos (by rw [lsum_len (by simp; omega), List.length_take]; omega) ?_)))
      rw [rd_nat, rd_nat, wrap_succ (by omega), wrap_small (by omega), tmod31 (by omega)]
      have e : lsum (a.take (i + 1)) (b.take (i + 1)) = lsum (a.take i) (b.take i) ++ [(a.getD i 0 + b.getD i 0) % 31] := by
        unfold lsum; rw [zip_take _ (by omega) (by omega)]
      rw [← e]
      exact ih (i + 1) (by omega)
  have := key a.length 0 (by omega)
  unfold spec_l2Sum.f
  simpa [lsum] using this

/-- what is drawn for a row -/
def Dr (l : List Int) : Prop := 3 ≤ l.length ∧ l.length ≤ 4 ∧ ∀ x ∈ l, -1 ≤ x ∧ x ≤ 31
theorem l91Vec_ev {l : List Int} (hs : St l) {p : Int} (hp : 0 ≤ p ∧ p ≤ 90000) : Evp (fun k => spec_l91Vec.f k l p) (fun r => Dr r.1 ∧ p ≤ r.2 ∧ r.2 ≤ p + 20) := by
  have key : ∀ d i (v : List Int) (q : Int), i + d = 4 → v.length = i → (∀ x ∈ v, -1 ≤ x ∧ x ≤ 31) → p ≤ q → q ≤ p + 4 * i → Evp (fun k => spec_l91Vec.l0 k v (i : Int) l q) (fun r => Dr r.1 ∧ p ≤ r.2 ∧ r.2 ≤ p + 20) := by
    intro d
    induction d with
    | zero =>
      intro i v q hi hv hx h1 h2
      refine Evp.step (fun k => by rw [spec_l91Vec.l0]) (Evp.neg (by omega) ?_)
      refine Evp.bind (pick_ev hs (n := 40) (by omega) (by omega)) fun r hr => ?_
      obtain ⟨a, q1⟩ := r
      simp only at hr ⊢
      refine Evp.ite (fun _ => ?_) fun _ => Evp.ite (fun _ => ?_) fun _ => ?_
      · refine Evp.pos (by omega) (Evp.some' ⟨⟨?_, ?_, fun x hx2 => hx x (List.mem_of_mem_drop hx2)⟩, ?_, ?_⟩)
        · show 3 ≤ (v.drop (Int.toNat 1)).length; rw [List.length_drop]; simp; omega
        · show (v.drop (Int.toNat 1)).length ≤ 4; rw [List.length_drop]; omega
        · show p ≤ q1; omega
        · show q1 ≤ p + 20; omega
      · refine Evp.bind (pick_ev hs (n := (v.length : Int)) (by omega) (by omega)) fun r2 hr2 => ?_
        obtain ⟨b, q2⟩ := r2
        simp only [Option.bind_some] at hr2 ⊢
        refine Evp.bind (pick_ev hs (n := 2) (by omega) (by omega)) fun r3 hr3 => ?_
        obtain ⟨c, q3⟩ := r3
        simp only at hr3 ⊢
        refine Evp.pos (by omega) (Evp.pos (by simp; omega) (Evp.pos (by omega) (Evp.pos (by omega) (Evp.some' ⟨⟨?_, ?_, fun x hx2 => ?_⟩, ?_, ?_⟩))))
        · show 3 ≤ (v.set b.toNat _).length; rw [List.length_set]; omega
        · show (v.set b.toNat _).length ≤ 4; rw [List.length_set]; omega
        · rcases List.mem_or_eq_of_mem_set hx2 with h | h
          · exact hx x h
          · have hc : c = 0 ∨ c = 1 := by omega
            rw [h]; rcases hc with rfl | rfl <;> decide
        · show p ≤ q3; omega
        · show q3 ≤ p + 20; omega
      · exact Evp.some' ⟨⟨by show 3 ≤ v.length; omega, by show v.length ≤ 4; omega, hx⟩, by show p ≤ q1; omega, by show q1 ≤ p + 20; omega⟩
    | succ d ih =>
      intro i v q hi hv hx h1 h2
      refine Evp.step (fun k => by rw [spec_l91Vec.l0]) (Evp.pos (by omega) ?_)
      refine Evp.bind (pick_ev hs (n := 4) (by omega) (by omega)) fun r hr => ?_
      obtain ⟨a, q1⟩ := r
      simp only at hr ⊢
      refine Evp.bind (pick_ev hs (n := 31) (by omega) (by omega)) fun r2 hr2 => ?_
      obtain ⟨b, q2⟩ := r2
      simp only at hr2 ⊢
      refine Evp.bind (pick_ev hs (n := 31) (by omega) (by omega)) fun r3 hr3 => ?_
      obtain ⟨c, q3⟩ := r3
      simp only [Option.bind_some] at hr3 ⊢
      refine Evp.bind (pick_ev hs (n := 4) (by omega) (by omega)) fun r4 hr4 => ?_
      obtain ⟨e, q4⟩ := r4
      simp only at hr4 ⊢
      rw [wrap_succ (by omega)]
      refine Evp.pos (by omega) (Evp.pos (by simp; omega) (Evp.pos (by omega) (ih (i + 1) _ q4 (by omega) (by simp; omega) (fun x hx2 => ?_) (by omega) (by omega))))
      rcases List.mem_append.1 hx2 with h | h
      · exact hx x h
      · have he : e = 0 ∨ e = 1 ∨ e = 2 ∨ e = 3 := by omega
        simp at h; rw [h]
        rcases he with rfl | rfl | rfl | rfl <;> simp [rd] <;> omega
  exact key 4 0 [] p rfl rfl (by simp) (by omega) (by omega)
theorem spec_SpanOk_ev {m : List (List Int)} (hm : m.length ≤ 1048576) (hr : ∀ r ∈ m, r.length ≤ 1048576) : Evp (fun k => spec_SpanOk.f k m) (· = mok m) := by
  have key : ∀ d i, i + d = m.length → (m.take i).all vok = true → Evp (fun k => spec_SpanOk.l0 k m (i : Int)) (· = mok m) := by
    intro d
    induction d with
    | zero =>
      intro i hi hp
      refine Evp.step (fun k => by rw [spec_SpanOk.l0]) (Evp.neg (by omega) (Evp.some' ?_))
      rw [List.take_of_length_le (by omega)] at hp
      unfold mok
      rw [hp, Bool.and_true]
      congr 1
      rw [eq_iff_iff]; omega
    | succ d ih =>
      intro i hi hp
      refine Evp.step (fun k => by rw [spec_SpanOk.l0]) (Evp.pos (by omega) (Evp.pos (by omega) ?_))
      rw [rdL1_nat, getDL_get (show i < m.length by omega)]
      refine Evp.bind (spec_VecOk_ev (by have := hr _ (List.getElem_mem (l := m) (n := i) (by omega)); omega)) fun t ht => ?_
      subst ht
      refine Evp.ite (fun h => ?_) fun h => Evp.some' ?_
      · rw [wrap_succ (by omega)]
        refine ih (i + 1) (by omega) ?_
        rw [List.take_succ_eq_append_getElem (show i < m.length by omega), List.all_append, hp, List.all_cons, h]; rfl
      · have : mok m = false := by
          rw [Bool.eq_false_iff]
          intro hc
          exact h ((mok_iff.1 hc).2 _ (List.getElem_mem _))
        rw [this]
  unfold spec_SpanOk.f
  exact key m.length 0 (by omega) rfl
theorem l3Tidy_eq {m : List (List Int)} (h : mok m = true) : spec_l3Tidy.f m = some (ltidy m) := by
  obtain ⟨h8, hr⟩ := mok_iff.1 h
  unfold spec_l3Tidy.f
  rw [if_pos ⟨by omega, by simpa using hr⟩]
def l4 (x : S70) : List Int := [x.f0, x.f1, x.f2, x.f3]
theorem l4_toS {r : List Int} (h : r.length = 4) : l4 (toS r) = r := by
  match r, h with
  | [a, b, c, d], _ => rfl
theorem toS_l4 (x : S70) : toS (l4 x) = x := rfl
theorem map_l4_toS {L : List (List Int)} (h : ∀ r ∈ L, vok r = true) : (L.map toS).map l4 = L := by
  rw [List.map_map]
  conv => rhs; rw [← List.map_id L]
  exact List.map_congr_left fun r hr => l4_toS (vok_iff.1 (h r hr)).1
theorem map_toS_l4 (L : List S70) : (L.map l4).map toS = L := by
  rw [List.map_map]
  conv => rhs; rw [← List.map_id L]
  exact List.map_congr_left fun r hr => toS_l4 r
/-- a row taken away -/
def el (r s : List Int) : List Int := List.zipWith (fun x y => (x - y * gt r (llead s) % 31) % 31) r s
theorem el_len {r s : List Int} (hr : r.length = 4) (hs : s.length = 4) : (el r s).length = 4 := by simp [el, hr, hs]
theorem vok_el {r s : List Int} (hr : vok r = true) (hs : vok s = true) : vok (el r s) = true := by
  refine vok_iff.2 ⟨el_len (vok_iff.1 hr).1 (vok_iff.1 hs).1, fun x hx => ?_⟩
  obtain ⟨i, hi, rfl⟩ := List.getElem_of_mem hx
  simp only [el, List.getElem_zipWith]; exact mod_ok _
theorem el_get {r s : List Int} (hr : r.length = 4) (hs : s.length = 4) {j : Nat} (hj : j < 4) : (el r s).getD j 0 = (r.getD j 0 - s.getD j 0 * gt r (llead s) % 31) % 31 := by
  have h1 : j < (el r s).length := by rw [el_len hr hs]; exact hj
  rw [List.getD_eq_getElem?_getD, List.getElem?_eq_getElem h1, List.getD_eq_getElem?_getD, List.getElem?_eq_getElem (by omega), List.getD_eq_getElem?_getD, List.getElem?_eq_getElem (by omega)]
  simp only [el, List.getElem_zipWith, Option.getD_some]
theorem toW_el {r s : List Int} (hr : vok r = true) (hs : vok s = true) (hp : ld (toW s) < 4) : toW (el r s) = less (toW r) (toW s) := by
  have e := llead_ld (vok_iff.1 hs).2 hp
  have h1 := (vok_iff.1 hr).1
  have h2 := (vok_iff.1 hs).1
  funext j
  show toF ((el r s).getD j 0) = toF (r.getD j 0) + -(toF (r.getD (ld (toW s)) 0)) * toF (s.getD j 0)
  rcases Nat.lt_or_ge j 4 with hj | hj
  · rw [el_get h1 h2 hj, e, gt_nat, toF_mod, Int.sub_eq_add_neg, toF_add]
    have : toF (-(s.getD j 0 * r.getD (ld (toW s)) 0 % 31)) = -(toF (s.getD j 0 * r.getD (ld (toW s)) 0)) := by
      have h1 : toF (-(s.getD j 0 * r.getD (ld (toW s)) 0 % 31)) + toF (s.getD j 0 * r.getD (ld (toW s)) 0) = 0 := by
        rw [← toF_add, ← toF_zero, toF_eq]; omega
      grind
    rw [this, toF_mul]; grind
  · rw [List.getD_eq_getElem?_getD, List.getElem?_eq_none (by rw [el_len h1 h2]; exact hj), List.getD_eq_getElem?_getD (l := r), List.getElem?_eq_none (by omega), List.getD_eq_getElem?_getD (l := s), List.getElem?_eq_none (by omega)]
    simp only [Option.getD_none, toF_zero]; grind
theorem tidy_l0_ev {K : List (List Int)} (hK : ∀ r ∈ K, Good r) (hn : K.length ≤ 1000000) {Q : _ → Prop} (h : Evp (fun k => impl_tidy.l1 k (K.map toS) (K.length : Int) 0) Q) : ∀ (d i : Nat), i + d = K.length →
    Evp (fun k => impl_tidy.l0 k ((K.take i).map toS) (K.map m12) (K.length : Int) (i : Int)) Q := by
  intro d
  induction d with
  | zero =>
    intro i hi
    refine Evp.step (fun k => by rw [impl_tidy.l0]) (Evp.neg (by omega) ?_)
    rw [List.take_of_length_le (by omega), List.length_map]
    exact h
  | succ d ih =>
    intro i hi
    have hi1 : i < K.length := by omega
    refine Evp.step (fun k => by rw [impl_tidy.l0]) (Evp.pos (by omega) (Evp.pos (by omega) (Evp.pos (by rw [List.length_map]; omega) (Evp.pos (by rw [List.length_map, List.length_take]; omega) ?_))))
    rw [rdK (by rw [List.length_map]; exact hi1), wrap_succ (by omega)]
    have := ih (i + 1) (by omega)
    rw [List.take_succ_eq_append_getElem hi1, List.map_append] at this
    simpa [toS, m12] using this
def tstep (i : Nat) (L : List (List Int)) : List (List Int) := L.mapIdx fun j r => if j = i then r else el r (L.getD i [])
theorem tstep_len (i : Nat) (L : List (List Int)) : (tstep i L).length = L.length := by simp [tstep]
theorem tstep_get (i : Nat) (L : List (List Int)) (j : Nat) (hj : j < L.length) : (tstep i L)[j]'(by rw [tstep_len]; exact hj) = if j = i then L[j] else el L[j] (L.getD i []) := by
  simp [tstep]
theorem vok_tstep {L : List (List Int)} (hL : ∀ r ∈ L, vok r = true) {i : Nat} (hi : i < L.length) : ∀ r ∈ tstep i L, vok r = true := fun r hr => by
  obtain ⟨j, hj, rfl⟩ := List.getElem_of_mem hr
  rw [tstep_len] at hj
  rw [tstep_get i L j hj]
  split
  · exact hL _ (List.getElem_mem hj)
  · exact vok_el (hL _ (List.getElem_mem hj)) (vok_getD hL hi)
theorem toW_tstep {L : List (List Int)} (hL : ∀ r ∈ L, vok r = true) {i : Nat} (hi : i < L.length) (hp : ld (toW (L.getD i [])) < 4) : (tstep i L).map toW = elim i (L.map toW) := by
  apply List.ext_getElem (by simp [tstep_len, elim_len])
  intro j h1 h2
  rw [List.length_map, tstep_len] at h1
  rw [List.getElem_map, tstep_get i L j h1, elim_get i (L.map toW) j (by rw [List.length_map]; exact h1), List.getElem_map]
  split
  · rfl
  · rw [toW_el (hL _ (List.getElem_mem h1)) (vok_getD hL hi) hp, getD_map hi]
theorem rdT {L : List (List Int)} {i : Nat} (h : i < L.length) : rd_T70 (L.map toS) (i : Int) = toS (L.getD i []) := by
  rw [rdV (by rw [List.length_map]; exact h), List.getElem_map, List.getD_eq_getElem?_getD, List.getElem?_eq_getElem h]; rfl
theorem oks4 {r : List Int} (h : vok r = true) : ok (toS r).f0 = true ∧ ok (toS r).f1 = true ∧ ok (toS r).f2 = true ∧ ok (toS r).f3 = true := by
  have c := (vok_iff.1 h).2
  exact ⟨can_get c 0, can_get c 1, can_get c 2, can_get c 3⟩
/-- the rows when the first j of them have been gone through -/
def lmid (i : Nat) (L : List (List Int)) (j : Nat) : List (List Int) := (tstep i L).take j ++ L.drop j
theorem lmid_len (i : Nat) (L : List (List Int)) {j : Nat} (hj : j ≤ L.length) : (lmid i L j).length = L.length := by
  unfold lmid; rw [List.length_append, List.length_take, List.length_drop, tstep_len]; omega
theorem lmid_get (i : Nat) (L : List (List Int)) {j q : Nat} (hj : j ≤ L.length) (hq : q < L.length) : (lmid i L j).getD q [] = if q < j then (if q = i then L.getD q [] else el (L.getD q []) (L.getD i [])) else L.getD q [] := by
  unfold lmid
  rw [List.getD_eq_getElem?_getD]
  by_cases h : q < j
  · rw [if_pos h, List.getElem?_append_left (by rw [List.length_take, tstep_len]; omega), List.getElem?_take_of_lt h, List.getElem?_eq_getElem (by rw [tstep_len]; exact hq), tstep_get i L q hq]
    simp only [List.getD_eq_getElem?_getD, List.getElem?_eq_getElem hq, Option.getD_some]
  · rw [if_neg h, List.getElem?_append_right (by rw [List.length_take, tstep_len]; omega), List.length_take, tstep_len, List.getElem?_drop, show j + (q - min j L.length) = q by omega]; rfl
theorem lmid_skip (i : Nat) (L : List (List Int)) (hi : i < L.length) : lmid i L (i + 1) = lmid i L i := by
  unfold lmid
  rw [List.take_succ_eq_append_getElem (by rw [tstep_len]; exact hi), tstep_get i L i hi, if_pos rfl, List.drop_eq_getElem_cons hi, List.append_assoc]; rfl
theorem lmid_set (i : Nat) (L : List (List Int)) {j : Nat} (hj : j < L.length) (hne : j ≠ i) : (lmid i L j).set j (el (L.getD j []) (L.getD i [])) = lmid i L (j + 1) := by
  unfold lmid
  have hl : ((tstep i L).take j).length = j := by rw [List.length_take, tstep_len]; omega
  rw [List.set_append_right _ _ (by omega), hl, Nat.sub_self, List.drop_eq_getElem_cons hj, List.set_cons_zero, List.take_succ_eq_append_getElem (by rw [tstep_len]; exact hj), tstep_get i L j hj, if_neg hne, List.append_assoc, List.getD_eq_getElem?_getD, List.getElem?_eq_getElem hj]; rfl
theorem tidy_l2_ev {L : List (List Int)} (hL : ∀ r ∈ L, vok r = true) (hn : L.length ≤ 1000000) {i : Nat} (hi : i < L.length) {p : Nat} (hp : p < 4) (hl : llead (L.getD i []) = (p : Int)) {Q : _ → Prop}
    (h : Evp (fun k => impl_tidy.l1 k ((tstep i L).map toS) (L.length : Int) ((i + 1 : Nat) : Int)) Q) : ∀ (d j : Nat), j + d = L.length →
    Evp (fun k => impl_tidy.l2 k ((lmid i L j).map toS) (i : Int) (p : Int) (L.length : Int) (i : Int) (L.length : Int) (j : Int)) Q := by
  intro d
  induction d with
  | zero =>
    intro j hj
    refine Evp.step (fun k => by rw [impl_tidy.l2]) (Evp.neg (by omega) ?_)
    have e : lmid i L j = tstep i L := by
      unfold lmid
      rw [List.take_of_length_le (by rw [tstep_len]; omega), List.drop_eq_nil_of_le (by omega), List.append_nil]
    rw [e, wrap_succ (by omega)]
    exact h
  | succ d ih =>
    intro j hj
    have hj1 : j < L.length := by omega
    have hm : ((lmid i L j).map toS).length = L.length := by rw [List.length_map, lmid_len i L (by omega)]
    refine Evp.step (fun k => by rw [impl_tidy.l2]) (Evp.pos (by omega) (Evp.ite (fun hc => ?_) fun hc => ?_))
    · have e : j = i := by omega
      subst e
      rw [wrap_succ (by omega), ← lmid_skip j L hj1]
      exact ih (j + 1) (by omega)
    · have hne : j ≠ i := by omega
      refine Evp.pos (by omega) (Evp.pos (by omega) (Evp.pos (by omega) (Evp.pos (by omega) ?_)))
      have ej : (lmid i L j).getD j [] = L.getD j [] := by rw [lmid_get i L (by omega) hj1, if_neg (by omega)]
      have ei : (lmid i L j).getD i [] = L.getD i [] := by
        rw [lmid_get i L (by omega) hi]
        split <;> simp
      rw [rdT (by rw [lmid_len i L (by omega)]; exact hi), rdT (by rw [lmid_len i L (by omega)]; exact hj1), ei, ej]
      have vj := vok_getD hL hj1
      have vi := vok_getD hL hi
      obtain ⟨a0, a1, a2, a3⟩ := oks4 vj
      obtain ⟨b0, b1, b2, b3⟩ := oks4 vi
      have key : ∀ c : Int, c = (L.getD j []).getD p 0 → Evp (fun k => (impl_vector_times.f (toS (L.getD i [])).f0 (toS (L.getD i [])).f1 (toS (L.getD i [])).f2 (toS (L.getD i [])).f3 c).bind fun bt => (impl_vector_minus.f (toS (L.getD j [])).f0 (toS (L.getD j [])).f1 (toS (L.getD j [])).f2 (toS (L.getD j [])).f3 bt.1 bt.2.1 bt.2.2.1 bt.2.2.2).bind fun bu => impl_tidy.l2 k (((lmid i L j).map toS).set ((j : Int)).toNat (⟨bu.1, bu.2.1, bu.2.2.1, bu.2.2.2⟩ : S70)) (i : Int) (p : Int) (L.length : Int) (i : Int) (L.length : Int) (wrap64 ((j : Int) + 1))) Q := by
        intro c hc
        have oc : ok c = true := hc ▸ can_get (vok_iff.1 vj).2 p
        have hk := ih (j + 1) (by omega)
        rw [← lmid_set i L hj1 hne, List.map_set] at hk
        refine Evp.congr (f := fun k => impl_tidy.l2 k (((lmid i L j).map toS).set j (toS (el (L.getD j []) (L.getD i [])))) (i : Int) (p : Int) (L.length : Int) (i : Int) (L.length : Int) ((j + 1 : Nat) : Int)) (fun k => ?_) hk
        rw [vtimes_eq b0 b1 b2 b3 oc, Option.bind_some, vminus_eq a0 a1 a2 a3 (mod_ok _) (mod_ok _) (mod_ok _) (mod_ok _), Option.bind_some, Int.toNat_natCast, wrap_succ (by omega)]
        have g : ∀ q, q < 4 → (el (L.getD j []) (L.getD i [])).getD q 0 = ((L.getD j []).getD q 0 - (L.getD i []).getD q 0 * c % 31) % 31 := fun q hq => by
          rw [el_get (vok_iff.1 vj).1 (vok_iff.1 vi).1 hq, hl, gt_nat, ← hc]
        unfold toS
        rw [g 0 (by omega), g 1 (by omega), g 2 (by omega), g 3 (by omega)]
      match p, hp, key with
      | 0, _, key => exact Evp.pos (by decide) (key _ rfl)
      | 1, _, key => exact Evp.neg (by decide) (Evp.pos (by decide) (key _ rfl))
      | 2, _, key => exact Evp.neg (by decide) (Evp.neg (by decide) (Evp.pos (by decide) (key _ rfl)))
      | 3, _, key => exact Evp.neg (by decide) (Evp.neg (by decide) (Evp.neg (by decide) (Evp.pos (by decide) (key _ rfl))))
def lels (n : Nat) (L : List (List Int)) : List (List Int) := (List.range n).foldl (fun R i => tstep i R) L
theorem lels_succ (n : Nat) (L : List (List Int)) : lels (n + 1) L = tstep n (lels n L) := by simp [lels, List.range_succ]
theorem lels_inv {L : List (List Int)} (hL : ∀ r ∈ L, vok r = true) (he : Ech (L.map toW)) (hf : ∀ r ∈ L.map toW, four r) : ∀ n, n ≤ L.length → (∀ r ∈ lels n L, vok r = true) ∧ (lels n L).length = L.length ∧ (lels n L).map toW = elims n (L.map toW) ∧ ∀ i, i < L.length → ld (toW ((lels n L).getD i [])) < 4 := by
  intro n
  induction n with
  | zero =>
    intro _
    refine ⟨hL, rfl, rfl, fun i hi => ?_⟩
    show ld (toW (L.getD i [])) < 4
    rw [List.getD_eq_getElem?_getD, List.getElem?_eq_getElem hi]
    exact (he.one _ (List.mem_map_of_mem (List.getElem_mem hi))).1
  | succ n ih =>
    intro hn
    obtain ⟨h1, h2, h3, h4⟩ := ih (by omega)
    have h5 : n < (lels n L).length := by omega
    have h6 : (lels (n + 1) L).map toW = elims (n + 1) (L.map toW) := by
      rw [lels_succ, toW_tstep h1 h5 (h4 n (by omega)), h3, elims_succ]
    refine ⟨?_, ?_, h6, fun i hi => ?_⟩
    · rw [lels_succ]; exact vok_tstep h1 h5
    · rw [lels_succ, tstep_len, h2]
    · have hb := elims_back he hf (n + 1) (by rw [List.length_map]; exact hn)
      have hl : i < (elims (n + 1) (L.map toW)).length := by rw [hb.len, List.length_map]; exact hi
      have := hb.lead i hl
      have e : (elims (n + 1) (L.map toW))[i] = toW ((lels (n + 1) L).getD i []) := by
        have : i < (lels (n + 1) L).length := by rw [lels_succ, tstep_len, h2]; exact hi
        simp only [← h6, List.getElem_map, List.getD_eq_getElem?_getD, List.getElem?_eq_getElem this, Option.getD_some]
      rw [e] at this
      rw [this, getD_map_toW, List.getD_eq_getElem?_getD, List.getElem?_eq_getElem hi]
      exact (he.one _ (List.mem_map_of_mem (List.getElem_mem hi))).1
theorem tidy_l1_ev {L : List (List Int)} (hL : ∀ r ∈ L, vok r = true) (hn : L.length ≤ 12) (he : Ech (L.map toW)) (hf : ∀ r ∈ L.map toW, four r) : ∀ (d i : Nat), i + d = L.length →
    Evp (fun k => impl_tidy.l1 k ((lels i L).map toS) (L.length : Int) (i : Int)) (· = So.vsort ((lels L.length L).map toS)) := by
  intro d
  induction d with
  | zero =>
    intro i hi
    have e : i = L.length := by omega
    subst e
    have h2 := (lels_inv hL he hf L.length (Nat.le_refl _)).2.1
    refine Evp.step (fun k => by rw [impl_tidy.l1]) (Evp.neg (by omega) ?_)
    unfold So.srt
    rw [if_pos (by rw [List.length_map]; omega)]
    exact Evp.some' rfl
  | succ d ih =>
    intro i hi
    obtain ⟨h1, h2, h3, h4⟩ := lels_inv hL he hf i (by omega)
    have hi1 : i < (lels i L).length := by omega
    have e := llead_ld (vok_iff.1 (vok_getD h1 hi1)).2 (h4 i (by omega))
    refine Evp.step (fun k => by rw [impl_tidy.l1]) (Evp.pos (by omega) (Evp.pos (by omega) (Evp.pos (by rw [List.length_map]; omega) ?_)))
    rw [rdT hi1]
    have e2 : impl_vector_lead.f (toS ((lels i L).getD i [])).f0 (toS ((lels i L).getD i [])).f1 (toS ((lels i L).getD i [])).f2 (toS ((lels i L).getD i [])).f3 = some ((ld (toW ((lels i L).getD i [])) : Nat) : Int) := by
      rw [← e]
      exact congrArg (fun z => some (llead z)) (l4_toS (vok_iff.1 (vok_getD h1 hi1)).1)
    simp only [e2, Option.bind_some]
    have := ih (i + 1) (by omega)
    rw [lels_succ, ← h2] at this
    have := tidy_l2_ev h1 (by omega) hi1 (h4 i (by omega)) e this (lels i L).length 0 (by omega)
    rw [h2] at this
    have e0 : lmid i (lels i L) 0 = lels i L := rfl
    rw [e0] at this
    simpa [h2] using this
theorem impl_tidy_ev {m : List (List Int)} (hm : ∀ r ∈ m, vok r = true) (h8 : m.length ≤ 8) : Evp (fun k => impl_tidy.f k (m.map toS)) (· = (ltidy m).map toS) := by
  obtain ⟨g1, g2, _, g4, _⟩ := kspan_inv hm h8 m.length (Nat.le_refl _)
  have hf : ∀ r ∈ m.map toW, four r := fun r hr => by
    obtain ⟨s, hs, rfl⟩ := List.mem_map.1 hr
    exact toW_four (vok_iff.1 (hm s hs)).1
  unfold impl_tidy.f
  refine Evp.bind (spanOf_ev hm h8) fun t ht => ?_
  subst ht
  generalize hK : (kspan m m.length).1 = K at g1 g2 g4
  have hL : ∀ r ∈ K.map (List.take 4), vok r = true := fun r hr => by
    obtain ⟨s, hs, rfl⟩ := List.mem_map.1 hr
    exact vok_iff.2 ⟨by rw [List.length_take, (g1 s hs).1]; rfl, can_take (g1 s hs).2.1 4⟩
  have hW : (K.map (List.take 4)).map toW = fwd (m.map toW) := by
    have := kept_res4 hf m.length (by rw [List.length_map]; exact Nat.le_refl _)
    rw [← g2, List.take_of_length_le (by rw [List.length_map]; exact Nat.le_refl _), List.map_map] at this
    rw [← this, List.map_map]
    refine List.map_congr_left fun r hr => ?_
    show toW (r.take 4) = res4 (toW r)
    funext i
    show _ = if i < 4 then toW r i else 0
    split
    · rename_i h; exact toW_take4 r h
    · rename_i h
      show toF ((r.take 4).getD i 0) = 0
      rw [List.getD_eq_getElem?_getD, List.getElem?_eq_none (by rw [List.length_take]; omega)]; exact toF_zero
  have hT : (K.map (List.take 4)).map toS = K.map toS := by
    rw [List.map_map]
    refine List.map_congr_left fun r hr => ?_
    have := (g1 r hr).1
    match r, this with
    | [a, b, c, d, e, f, g, i, j, k, m, n], _ => rfl
  have he := fwd_ech hf
  have h4 := fwd_four hf
  rw [← hW] at he h4
  have hlen : (K.map (List.take 4)).length = K.length := List.length_map _
  have fin : So.vsort ((lels (K.map (List.take 4)).length (K.map (List.take 4))).map toS) = (ltidy m).map toS := by
    obtain ⟨k1, k2, k3, k5⟩ := lels_inv hL he h4 _ (Nat.le_refl _)
    generalize hE : lels (K.map (List.take 4)).length (K.map (List.take 4)) = E at k1 k2 k3 k5
    obtain ⟨s1, s2⟩ := So.vsort_spec (E.map toS)
    generalize So.vsort (E.map toS) = V at s1 s2
    have p1 : (V.map l4).Perm E := by have := s1.map l4; rwa [map_l4_toS k1] at this
    have vk : ∀ r ∈ V.map l4, vok r = true := fun r hr => k1 r (p1.mem_iff.1 hr)
    have hld : ∀ r ∈ E, ld (toW r) < 4 := fun r hr => by
      obtain ⟨i, hi, rfl⟩ := List.getElem_of_mem hr
      have := k5 i (by omega)
      rwa [List.getD_eq_getElem?_getD, List.getElem?_eq_getElem hi] at this
    have p2 : ((V.map l4).map toW).Perm (elims (fwd (m.map toW)).length (fwd (m.map toW))) := by
      have := p1.map toW
      rw [k3, hW] at this
      have e5 : (fwd (m.map toW)).length = (K.map (List.take 4)).length := by rw [← hW, List.length_map]
      rw [e5]; exact this
    have p3 : (((V.map l4).map toW).map ld).Pairwise (· ≤ ·) := by
      rw [List.map_map, List.map_map, List.pairwise_map]
      refine List.Pairwise.imp_of_mem (fun {a b} ha hb hab => ?_) s2
      have la := hld (l4 a) (p1.mem_iff.1 (List.mem_map_of_mem ha))
      have lb := hld (l4 b) (p1.mem_iff.1 (List.mem_map_of_mem hb))
      have ea := llead_ld (vok_iff.1 (vk _ (List.mem_map_of_mem ha))).2 la
      have eb := llead_ld (vok_iff.1 (vk _ (List.mem_map_of_mem hb))).2 lb
      have hab : llead (l4 a) ≤ llead (l4 b) := hab
      rw [ea, eb] at hab
      show ld (toW (l4 a)) ≤ ld (toW (l4 b))
      omega
    have := back_tidy hf p2 p3
    rw [← (ltidy_toW hm).1] at this
    have := rows_inj vk (ltidy_toW hm).2 this
    rw [← this, map_toS_l4]
  rw [← fin]
  have := tidy_l0_ev g1 (by omega) (tidy_l1_ev hL (by omega) he h4 _ 0 (Nat.zero_add _) |> fun h => by rw [hlen] at h; have e0 : lels 0 (K.map (List.take 4)) = K.map (List.take 4) := rfl; rw [e0, hT] at h; exact h) K.length 0 (Nat.zero_add _)
  simpa [hlen] using this
/-- what is drawn for rows -/
def Dm (m : List (List Int)) : Prop := m.length ≤ 12 ∧ ∀ r ∈ m, r.length ≤ 10
theorem Dm.snoc {m : List (List Int)} {n : Nat} (hn : m.length ≤ n) (hm : ∀ r ∈ m, r.length ≤ 10) {v : List Int} (hv : v.length ≤ 10) : (m ++ [v]).length ≤ n + 1 ∧ ∀ r ∈ m ++ [v], r.length ≤ 10 := by
  refine ⟨by simp; omega, fun r hr => ?_⟩
  rcases List.mem_append.1 hr with h | h
  · exact hm r h
  · simp at h; rw [h]; exact hv
theorem l91Rows_ev {l : List Int} (hs : St l) {p : Int} (hp : 0 ≤ p ∧ p ≤ 80000) : Evp (fun k => spec_l91Rows.f k l p) (fun r => (r.1.length ≤ 9 ∧ ∀ x ∈ r.1, x.length ≤ 10) ∧ p ≤ r.2 ∧ r.2 ≤ p + 200) := by
  have key1 : ∀ d (m : List (List Int)) (q : Int), m.length + d = 9 → (∀ r ∈ m, r.length ≤ 10) → p ≤ q ∧ q ≤ p + 200 → Evp (fun k => spec_l91Rows.l1 k m l q) (fun r => (r.1.length ≤ 9 ∧ ∀ x ∈ r.1, x.length ≤ 10) ∧ p ≤ r.2 ∧ r.2 ≤ p + 200) := by
    intro d
    induction d with
    | zero =>
      intro m q hm hr hq
      exact Evp.step (fun k => by rw [spec_l91Rows.l1]) (Evp.neg (by omega) (Evp.some' ⟨⟨by show m.length ≤ 9; omega, hr⟩, hq⟩))
    | succ d ih =>
      intro m q hm hr hq
      refine Evp.step (fun k => by rw [spec_l91Rows.l1]) (Evp.pos (by omega) (Evp.pos (by omega) ?_))
      have := Dm.snoc (n := m.length) (Nat.le_refl _) hr (v := [1, 2, 3, 4]) (by decide)
      exact ih _ q (by simp; omega) this.2 hq
  have key0 : ∀ d (m : List (List Int)) (q : Int), m.length + d ≤ 5 → (∀ r ∈ m, r.length ≤ 10) → p ≤ q ∧ q ≤ p + 150 - 24 * d → Evp (fun k => spec_l91Rows.l0 k m (d : Int) l q) (fun r => (r.1.length ≤ 9 ∧ ∀ x ∈ r.1, x.length ≤ 10) ∧ p ≤ r.2 ∧ r.2 ≤ p + 200) := by
    intro d
    induction d with
    | zero =>
      intro m q hm hr hq
      refine Evp.step (fun k => by rw [spec_l91Rows.l0]) (Evp.neg (by omega) ?_)
      refine Evp.bind (pick_ev hs (n := 40) (by omega) (by omega)) fun r h => ?_
      refine Evp.ite (fun _ => ?_) fun _ => Evp.some' ⟨⟨by show m.length ≤ 9; omega, hr⟩, by show p ≤ r.2; omega, by show r.2 ≤ p + 200; omega⟩
      exact key1 (9 - m.length) m _ (by omega) hr (by omega)
    | succ d ih =>
      intro m q hm hr hq
      have hj : ∀ (v : List Int) (c : Bool) (q2 : Int), v.length ≤ 10 → q ≤ q2 ∧ q2 ≤ q + 21 → (c = true → 2 ≤ m.length ∧ vok (m.getD 0 []) = true ∧ vok (m.getD 1 []) = true) → Evp (fun k => spec_l91Rows.j1 k m ((d + 1 : Nat) : Int) v c l q2) (fun r => (r.1.length ≤ 9 ∧ ∀ x ∈ r.1, x.length ≤ 10) ∧ p ≤ r.2 ∧ r.2 ≤ p + 200) := by
        intro v c q2 hv hq2 hc
        refine Evp.step (fun k => by rw [spec_l91Rows.j1]) ?_
        refine Evp.ite (fun h => ?_) fun h => ?_
        · obtain ⟨h2, v0, v1⟩ := hc h
          have l0 := (vok_iff.1 v0).1; have l1 := (vok_iff.1 v1).1
          refine Evp.pos (by omega) ?_
          refine Evp.bind (pick_ev hs (n := 31) (by omega) (by omega)) fun r1 hr1 => ?_
          rw [show rd_L2 m 0 = m.getD 0 [] from rfl, show rd_L2 m 1 = m.getD 1 [] from rfl]
          refine Evp.bind (l2Scale_ev (vok_iff.1 v0).2 (ok_iff.2 ⟨hr1.1, hr1.2.1⟩) (by omega)) fun t0 ht0 => ?_
          subst ht0
          refine Evp.pos (by omega) ?_
          refine Evp.bind (pick_ev hs (n := 31) (by omega) (by omega)) fun r2 hr2 => ?_
          refine Evp.bind (l2Scale_ev (vok_iff.1 v1).2 (ok_iff.2 ⟨hr2.1, hr2.2.1⟩) (by omega)) fun t1 ht1 => ?_
          subst ht1
          refine Evp.bind (l2Sum_ev (can_lscale _ _) (can_lscale _ _) (by rw [lscale_len, lscale_len]; omega) (by rw [lscale_len]; omega)) fun t2 ht2 => ?_
          subst ht2
          refine Evp.pos (by omega) ?_
          rw [wrap_small (by omega), show (((d + 1 : Nat) : Int) - 1) = (d : Int) by omega]
          have := Dm.snoc (n := m.length) (Nat.le_refl _) hr (v := lsum (lscale (m.getD 0 []) r1.1) (lscale (m.getD 1 []) r2.1)) (by rw [lsum_len (by rw [lscale_len, lscale_len]; omega), lscale_len]; omega)
          exact ih _ _ (by simp; omega) this.2 (by omega)
        · refine Evp.pos (by omega) ?_
          rw [wrap_small (by omega), show (((d + 1 : Nat) : Int) - 1) = (d : Int) by omega]
          have := Dm.snoc (n := m.length) (Nat.le_refl _) hr hv
          exact ih _ _ (by simp; omega) this.2 (by omega)
      refine Evp.step (fun k => by rw [spec_l91Rows.l0]) (Evp.pos (by omega) ?_)
      refine Evp.bind (l91Vec_ev hs (by omega)) fun r1 hr1 => ?_
      have hv : r1.1.length ≤ 10 := by have := hr1.1.2.1; omega
      refine Evp.ite (fun h2 => ?_) fun _ => hj _ _ _ hv (by omega) (by simp)
      refine Evp.bind (pick_ev hs (n := 3) (by omega) (by omega)) fun r2 hr2 => ?_
      refine Evp.ite (fun _ => ?_) fun _ => hj _ _ _ hv (by omega) (by simp)
      refine Evp.pos (by omega) ?_
      rw [show rd_L2 m 0 = m.getD 0 [] from rfl, show rd_L2 m 1 = m.getD 1 [] from rfl]
      have q0 : (m.getD 0 []).length ≤ 10 := by rw [getDL_get (by omega)]; exact hr _ (List.getElem_mem _)
      have q1 : (m.getD 1 []).length ≤ 10 := by rw [getDL_get (by omega)]; exact hr _ (List.getElem_mem _)
      refine Evp.bind (spec_VecOk_ev (by omega)) fun t ht => ?_
      subst ht
      refine Evp.ite (fun c0 => ?_) fun _ => hj _ _ _ hv (by omega) (by simp)
      refine Evp.pos (by omega) ?_
      refine Evp.bind (spec_VecOk_ev (by omega)) fun t ht => ?_
      subst ht
      exact hj _ _ _ hv (by omega) (fun c1 => ⟨by omega, c0, c1⟩)
  unfold spec_l91Rows.f
  refine Evp.bind (pick_ev hs (n := 6) (by omega) (by omega)) fun r hr => ?_
  obtain ⟨d, hd⟩ : ∃ d : Nat, r.1 = (d : Int) := ⟨r.1.toNat, by omega⟩
  rw [hd]
  exact key0 d [] _ (by simp; omega) (by simp) (by omega)
def ltid (m : List (List Int)) : List (List Int) := if mok m = true then ltidy m else []
theorem ltid_ok {m : List (List Int)} (h : mok m = true) : ltid m = ltidy m := by unfold ltid; rw [if_pos h]
theorem ltid_vok (m : List (List Int)) : ∀ r ∈ ltid m, vok r = true := by
  unfold ltid
  split
  · rename_i h; exact (ltidy_toW (mok_iff.1 h).2).2
  · simp
theorem ltid_four (m : List (List Int)) : (ltid m).length ≤ 4 := by
  unfold ltid
  split
  · rename_i h; exact ltidy_four (mok_iff.1 h).2
  · simp
theorem spec_SpanTidy_ev {m : List (List Int)} (hm : m.length ≤ 1048576) (hr : ∀ r ∈ m, r.length ≤ 1048576) : Evp (fun k => spec_SpanTidy.f k m) (· = ltid m) := by
  unfold spec_SpanTidy.f ltid
  refine Evp.bind (spec_SpanOk_ev hm hr) fun t ht => ?_
  subst ht
  refine Evp.ite (fun h => ?_) fun h => Evp.some' (by rw [if_neg h])
  rw [l3Tidy_eq h, if_pos h]
  exact Evp.some' rfl
theorem impl_SpanTidy_ev {m : List (List Int)} (hm : m.length ≤ 1048576) : Evp (fun k => impl_SpanTidy.f k m) (· = ltid m) := by
  unfold impl_SpanTidy.f
  refine Evp.bind (impl_matrixOf_ev hm) fun t ht => ?_
  subst ht
  by_cases ho : mok m = true
  · obtain ⟨h8, hv⟩ := mok_iff.1 ho
    rw [ltid_ok ho]
    simp only [if_pos (show m.all vok = true by simpa using hv)]
    refine Evp.pos (by simpa using h8) (Evp.pos (by omega) (Evp.pos (by omega) ?_))
    refine Evp.bind (impl_tidy_ev hv h8) fun t ht => ?_
    subst ht
    have ht := (ltidy_toW hv).2
    have h4 := ltidy_four hv
    generalize ltidy m = t at ht h4 ⊢
    have key : ∀ d i, i + d = t.length → Evp (fun k => impl_SpanTidy.l0 k (t.take i) (t.map toS) (t.length : Int) (i : Int)) (· = t) := by
      intro d
      induction d with
      | zero =>
        intro i hi
        refine Evp.step (fun k => by rw [impl_SpanTidy.l0]) (Evp.neg (by omega) (Evp.some' ?_))
        rw [List.take_of_length_le (by omega)]
      | succ d ih =>
        intro i hi
        have hi1 : i < t.length := by omega
        refine Evp.step (fun k => by rw [impl_SpanTidy.l0]) (Evp.pos (by omega) (Evp.pos (by omega) (Evp.pos (by rw [List.length_map]; omega) ?_)))
        rw [rdT hi1, wrap_succ (by omega)]
        have e : impl_vector_list.f (toS (t.getD i [])).f0 (toS (t.getD i [])).f1 (toS (t.getD i [])).f2 (toS (t.getD i [])).f3 = some (t.getD i []) :=
          congrArg some (l4_toS (vok_iff.1 (vok_getD ht hi1)).1)
        simp only [e, Option.bind_some]
        refine Evp.pos (by rw [List.length_take]; omega) ?_
        have := ih (i + 1) (by omega)
        rw [List.take_succ_eq_append_getElem hi1] at this
        rw [List.getD_eq_getElem?_getD, List.getElem?_eq_getElem hi1]
        exact this
    have := key t.length 0 (by omega)
    simpa using this
  · have e : ltid m = [] := by unfold ltid; rw [if_neg ho]
    rw [e]
    by_cases ha : m.all vok = true
    · simp only [if_pos ha]
      exact Evp.neg (by simpa using fun h8 => ho (mok_iff.2 ⟨h8, by simpa using ha⟩)) (Evp.some' rfl)
    · simp only [if_neg ha]
      exact Evp.neg (by simp) (Evp.some' rfl)
theorem lkRows_ev {a b : List (List Int)} (hn : a.length ≤ 1000000) (hl : ∀ r ∈ a, r.length ≤ 1000000) : Evp (fun k => laws_lkRows.f k a b) (· = decide (a = b)) := by
  unfold laws_lkRows.f
  refine Evp.ite (fun h => ?_) fun h => Evp.some' (by rw [decide_eq_false]; rintro rfl; exact h rfl)
  have hab : a.length = b.length := by omega
  have key : ∀ d i, i + d = a.length → Evp (fun k => laws_lkRows.l0 k a b (i : Int)) (· = decide (a.drop i = b.drop i)) := by
    intro d
    induction d with
    | zero =>
      intro i hi
      refine Evp.step (fun k => by rw [laws_lkRows.l0]) (Evp.neg (by omega) (Evp.some' ?_))
      rw [List.drop_eq_nil_of_le (by omega), List.drop_eq_nil_of_le (by omega)]; rfl
    | succ d ih =>
      intro i hi
      have hi1 : i < a.length := by omega
      have hj1 : i < b.length := by omega
      refine Evp.step (fun k => by rw [laws_lkRows.l0]) (Evp.pos (by omega) (Evp.pos (by omega) (Evp.pos (by omega) ?_)))
      rw [rdL1_nat, rdL1_nat, wrap_succ (by omega)]
      have e : a.drop i = b.drop i ↔ a.getD i [] = b.getD i [] ∧ a.drop (i + 1) = b.drop (i + 1) := by
        rw [List.drop_eq_getElem_cons hi1, List.drop_eq_getElem_cons hj1, List.cons.injEq, List.getD_eq_getElem?_getD, List.getD_eq_getElem?_getD, List.getElem?_eq_getElem hi1, List.getElem?_eq_getElem hj1]
        simp only [Option.getD_some]
      refine Evp.bind (lkInts_ev (by rw [getDL_get hi1]; have := hl _ (List.getElem_mem hi1); omega)) fun t ht => ?_
      subst ht
      refine Evp.ite (fun hc => ?_) fun hc => Evp.some' ?_
      · refine (ih (i + 1) (by omega)).mono fun r hr => ?_
        rw [hr, decide_eq_decide, e]
        exact ⟨fun h => ⟨by simpa using hc, h⟩, fun h => h.2⟩
      · rw [decide_eq_false]
        rw [e]
        exact fun h => hc (by simpa using h.1)
  have := key a.length 0 (by omega)
  rw [List.drop_zero, List.drop_zero] at this
  exact this
theorem lkRows_self {a : List (List Int)} (hn : a.length ≤ 1000000) (hl : ∀ r ∈ a, r.length ≤ 1000000) : Evp (fun k => laws_lkRows.f k a a) (· = true) := (lkRows_ev hn hl).mono fun r hr => by rw [hr]; simp
theorem ltid_small (m : List (List Int)) : (ltid m).length ≤ 1000000 ∧ ∀ r ∈ ltid m, r.length ≤ 1000000 := ⟨by have := ltid_four m; omega, fun r hr => by have := (vok_iff.1 (ltid_vok m r hr)).1; omega⟩
theorem drawSpanTidy_ev {l : List Int} (h : ∀ x ∈ l, 0 ≤ x ∧ x ≤ 255) : Evp (fun k => spec_DrawSpanTidy.f k l) Dm := by
  unfold spec_DrawSpanTidy.f
  obtain ⟨l', e, hs⟩ := open_eq l h
  rw [e]; simp only [Option.bind_some]
  refine Evp.bind (l91Rows_ev hs (p := 0) (by omega)) fun r hr => Evp.some' ⟨by have := hr.1.1; omega, hr.1.2⟩
theorem ltid_same {a b : List (List Int)} (ha : mok a = true) (hb : mok b = true) (h : ∀ r, r ∈ a ↔ r ∈ b) : ltid a = ltid b := by
  rw [ltid_ok ha, ltid_ok hb]
  refine (ltidy_eq_iff (mok_iff.1 ha).2 (mok_iff.1 hb).2).2 fun x => ⟨In.le fun r hr => ?_, In.le fun r hr => ?_⟩
  · obtain ⟨s, hs, rfl⟩ := List.mem_map.1 hr
    exact List.mem_map_of_mem ((h s).1 hs)
  · obtain ⟨s, hs, rfl⟩ := List.mem_map.1 hr
    exact List.mem_map_of_mem ((h s).2 hs)
theorem FnSpanOrder : laws_FnSpanOrder.Pure := by
  intro l more hm hmm hw hm2 hmm2 hw2
  refine Evp.rounds ?_
  have hb : ∀ x ∈ l, 0 ≤ x ∧ x ≤ 255 := fun x hx => bounds_u8 (hw x hx)
  have loop : ∀ (m : List (List Int)), mok m = true → m.length ≠ 0 → m.length ≠ 8 → ∀ j : Nat, j ≤ m.length → Evp (fun k => laws_FnSpanOrder.l0 k more m (ltid m) ((m.drop j).reverse) ((j : Int) - 1)) (· = true) := by
    intro m ho h0 hn8
    obtain ⟨h8, hmv⟩ := mok_iff.1 ho
    obtain ⟨s1, s2⟩ := ltid_small m
    intro j
    induction j with
    | zero =>
      intro _
      have hp := Int.emod_nonneg (more.length : Int) (show (m.length : Int) ≠ 0 by omega)
      have hq := Int.emod_lt_of_pos (more.length : Int) (show (0 : Int) < (m.length : Int) by omega)
      have hi : ∃ i : Nat, (more.length : Int) % (m.length : Int) = (i : Int) := ⟨((more.length : Int) % (m.length : Int)).toNat, by omega⟩
      obtain ⟨i, hi⟩ := hi
      refine Evp.step (fun k => by rw [laws_FnSpanOrder.l0]) (Evp.neg (by omega) (Evp.neg (by omega) (Evp.pos hp (Evp.pos hq ?_))))
      simp only [Option.bind_some, List.nil_append]
      rw [hi] at hq ⊢
      have him : i < m.length := by omega
      refine Evp.pos (by simp only [List.length_nil]; omega) (Evp.pos (by omega) ?_)
      have ob : mok ((m.drop 0).reverse) = true := mok_iff.2 ⟨by simpa using h8, fun r hr => hmv r (by simpa using hr)⟩
      refine Evp.bind (impl_SpanTidy_ev (m := (m.drop 0).reverse) (by have := (mok_iff.1 ob).1; omega)) fun t ht => ?_
      rw [ht, ltid_same ob ho (fun r => by simp)]
      refine Evp.bind (lkRows_self s1 s2) fun t ht => ?_
      refine Evp.pos ht ?_
      rw [rdL1_nat]
      have hg : m.getD i [] ∈ m := by rw [List.getD_eq_getElem?_getD, List.getElem?_eq_getElem him]; exact List.getElem_mem him
      have ot : mok (m ++ [m.getD i []]) = true := mok_iff.2 ⟨by simp; omega, fun r hr => by
        rcases List.mem_append.1 hr with h | h
        · exact hmv r h
        · rw [List.mem_singleton.1 h]; exact hmv _ hg⟩
      refine Evp.bind (impl_SpanTidy_ev (m := m ++ [m.getD i []]) (by have := (mok_iff.1 ot).1; omega)) fun t ht => ?_
      rw [ht, ltid_same ot ho (fun r => by
        constructor
        · intro hr
          rcases List.mem_append.1 hr with h | h
          · exact h
          · rw [List.mem_singleton.1 h]; exact hg
        · intro hr; exact List.mem_append_left _ hr)]
      exact Evp.bind (lkRows_self s1 s2) fun t ht => Evp.some' ht
    | succ j ih =>
      intro hj
      have e1 : ((j + 1 : Nat) : Int) - 1 = (j : Int) := by omega
      rw [e1]
      refine Evp.step (fun k => by rw [laws_FnSpanOrder.l0]) (Evp.pos (by omega) (Evp.pos (by omega) (Evp.pos (by omega) (Evp.pos (by simp; omega) ?_))))
      have e2 : (m.drop (j + 1)).reverse ++ [m.getD j []] = (m.drop j).reverse := by
        rw [List.getD_eq_getElem?_getD, List.getElem?_eq_getElem (show j < m.length by omega), ← List.getElem_cons_drop (show j < m.length by omega), List.reverse_cons]; rfl
      rw [rdL1_nat, e2, wrap_small (by omega)]
      exact ih (by omega)
  have step1 : ∀ (m : List (List Int)) (c : Bool), Dm m → (c = false → mok m = true ∧ m.length ≠ 0 ∧ m.length ≠ 8) → Evp (fun k => laws_FnSpanOrder.j1 k more m (ltid m) c) (· = true) := fun m c hd hc => by
    have d1 := hd.1
    have d2 : ∀ r ∈ m, r.length ≤ 1048576 := fun r hr => by have := hd.2 r hr; omega
    obtain ⟨s1, s2⟩ := ltid_small m
    refine Evp.step (fun k => by rw [laws_FnSpanOrder.j1]) ?_
    refine Evp.ite (fun _ => ?_) fun h => ?_
    · refine Evp.bind (spec_SpanTidy_ev (by omega) d2) fun t ht => ?_
      subst ht
      exact Evp.bind (lkRows_self s1 s2) fun t ht => Evp.some' ht
    · obtain ⟨ho, h0, h8⟩ := hc (by simpa using h)
      have := loop m ho h0 h8 m.length (Nat.le_refl _)
      rw [List.drop_length, List.reverse_nil] at this
      rw [wrap_small (by omega)]
      exact this
  have step0 : ∀ c : Bool, Evp (fun k => laws_FnSpanOrder.j0 k l more c) (· = true) := fun c => by
    refine Evp.step (fun k => by rw [laws_FnSpanOrder.j0]) ?_
    refine Evp.ite (fun _ => Evp.some' rfl) fun h => ?_
    refine Evp.bind (drawSpanTidy_ev hb) fun m hd => ?_
    have d1 := hd.1
    have d2 : ∀ r ∈ m, r.length ≤ 1048576 := fun r hr => by have := hd.2 r hr; omega
    obtain ⟨s1, s2⟩ := ltid_small m
    refine Evp.bind (impl_SpanTidy_ev (by omega)) fun t ht => ?_
    subst ht
    refine Evp.bind (spec_SpanTidy_ev (by omega) d2) fun t ht => ?_
    subst ht
    refine Evp.bind (lkRows_self s1 s2) fun t ht => ?_
    refine Evp.pos ht ?_
    refine Evp.bind (spec_SpanOk_ev (by omega) d2) fun t ht => ?_
    subst ht
    refine Evp.ite (fun ho => ?_) fun ho => step1 m true hd (by simp)
    refine Evp.ite (fun h0 => step1 m true hd (by simp)) fun h0 => step1 m _ hd fun h8 => ⟨ho, by omega, fun e => ?_⟩
    rw [e] at h8
    exact absurd h8 (by decide)
  unfold laws_FnSpanOrder.f
  exact Evp.ite (fun _ => step0 true) fun _ => step0 _
end Go.Proofs.Ytamaejafddmagaa.Pure
