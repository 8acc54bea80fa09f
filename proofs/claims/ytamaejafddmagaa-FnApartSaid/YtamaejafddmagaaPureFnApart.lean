import Derived.Test.YtamaejafddmagaaPAx0
import Derived.Test.YtamaejafddmagaaPAx10
import Derived.Test.YtamaejafddmagaaPAx11
import Derived.Test.YtamaejafddmagaaPAx14
import Derived.Test.YtamaejafddmagaaPAx7
import Derived.Test.YtamaejafddmagaaPAx8
import Derived.Test.YtamaejafddmagaaPAx9
import Derived.Test.YtamaejafddmagaaMa
import Derived.Laws.BitsAllLaws
import Derived.Laws.BitsLemmas
import Derived.Test.YtamaejafddmagaaXor
import Derived.Test.YtamaejafddmagaaCodeLin
import Derived.Test.YtamaejafddmagaaBears
import Derived.Test.YtamaejafddmagaaCa
import Derived.OpenShut
/- Of the printed functions over single rows: what a walk by hand wants of them. -/
set_option linter.unusedVariables false
set_option linter.unusedSimpArgs false
namespace Go.Proofs.Ytamaejafddmagaa.Pure
open Go.RowKit Go.Proofs.Ytamaejafddmagaa.PA Go.Proofs.YtamaejafddmagaaW.PrintWords Go.Proofs.YtamaejafddmagaaW.PrintLast Go.Proofs.YtamaejafddmagaaW.PrintMore Go.Proofs.Ytamaejafddmagaa.Lin

def Evp {α : Type} (g : Nat → Option α) (Q : α → Prop) : Prop := ∃ r, Q r ∧ ∃ K, ∀ k, K ≤ k → g k = some r
theorem Evp.some' {α : Type} {r : α} {Q : α → Prop} (h : Q r) : Evp (fun _ => some r) Q := ⟨r, h, 0, fun _ _ => rfl⟩
theorem Evp.bind {α β : Type} {g : Nat → Option α} {f : Nat → α → Option β} {Q : α → Prop} {T : β → Prop} (h : Evp g Q) (k : ∀ r, Q r → Evp (fun n => f n r) T) : Evp (fun n => (g n).bind (f n)) T := by
  obtain ⟨r, hq, K, h⟩ := h
  obtain ⟨s, ht, K', k⟩ := k r hq
  refine ⟨s, ht, max K K', fun n hn => ?_⟩
  have h1 := h n (by omega)
  have h2 := k n (by omega)
  simp only [h1, Option.bind_some]
  exact h2
theorem Evp.step {α : Type} {g f : Nat → Option α} {Q : α → Prop} (h : ∀ k, g (k + 1) = f k) (k : Evp f Q) : Evp g Q := by
  obtain ⟨r, hq, K, k⟩ := k
  refine ⟨r, hq, K + 1, fun n hn => ?_⟩
  obtain ⟨m, rfl⟩ : ∃ m, n = m + 1 := ⟨n - 1, by omega⟩
  rw [h]
  exact k m (by omega)
theorem Evp.mono {α : Type} {g : Nat → Option α} {Q T : α → Prop} (h : Evp g Q) (k : ∀ r, Q r → T r) : Evp g T := by
  obtain ⟨r, hq, K, h⟩ := h
  exact ⟨r, k r hq, K, h⟩
theorem Evp.rounds {α : Type} {g : Nat → Option α} {r : α} (h : Evp g (· = r)) : ∃ k, g k = some r := by
  obtain ⟨s, rfl, K, h⟩ := h
  exact ⟨K, h K (Nat.le_refl _)⟩
theorem Evp.ite {α : Type} {c : Prop} [Decidable c] {g f : Nat → Option α} {Q : α → Prop} (h : c → Evp g Q) (k : ¬ c → Evp f Q) : Evp (fun n => if c then g n else f n) Q := by
  by_cases hc : c
  · simp only [if_pos hc]; exact h hc
  · simp only [if_neg hc]; exact k hc
theorem Evp.pos {α : Type} {c : Prop} [Decidable c] {g f : Nat → Option α} {Q : α → Prop} (hc : c) (h : Evp g Q) : Evp (fun n => if c then g n else f n) Q := by
  simp only [if_pos hc]; exact h
theorem Evp.neg {α : Type} {c : Prop} [Decidable c] {g f : Nat → Option α} {Q : α → Prop} (hc : ¬ c) (h : Evp f Q) : Evp (fun n => if c then g n else f n) Q := by
  simp only [if_neg hc]; exact h
theorem wrap_small {x : Int} (h : -9223372036854775808 ≤ x ∧ x ≤ 9223372036854775807) : wrap64 x = x := by unfold wrap64; omega
theorem tmod31 {x : Int} (h : 0 ≤ x) : Int.tmod x 31 = x % 31 := Int.tmod_eq_emod_of_nonneg h
theorem tmod_pos {x n : Int} (h : 0 ≤ x) : Int.tmod x n = x % n := Int.tmod_eq_emod_of_nonneg h
theorem spec_FieldOk_eq (a : Int) : spec_FieldOk.f a = some (ok a) := by
  unfold spec_FieldOk.f spec_l6In.f ok
  by_cases h : a ≥ 0
  · rw [if_pos h]; simp [show (a ≤ 30) = (a < 31) by rw [eq_iff_iff]; omega, h]
  · rw [if_neg h]; simp [h]
theorem mul_small {a b : Int} (ha : ok a = true) (hb : ok b = true) : 0 ≤ a * b ∧ a * b ≤ 900 := by
  rw [ok_iff] at ha hb
  constructor
  · exact Int.mul_nonneg ha.1 hb.1
  · have h1 : a * b ≤ a * 30 := Int.mul_le_mul_of_nonneg_left (by omega) ha.1
    omega
theorem ofInt_i64 (a : Nat) (ha : a < 9223372036854775808) : (BitVec.ofInt 64 (a : Int)).toNat = a := by
  rw [BitVec.ofInt_natCast, BitVec.toNat_ofNat]; exact Nat.mod_eq_of_lt (by omega)
theorem xor_nonneg {a b : Int} (ha : 0 ≤ a ∧ a < 1000000000000) (hb : 0 ≤ b ∧ b < 1000000000000) : 0 ≤ Go.bits .xor .i64 a b := by
  obtain ⟨x, rfl⟩ := Int.eq_ofNat_of_zero_le ha.1
  obtain ⟨y, rfl⟩ := Int.eq_ofNat_of_zero_le hb.1
  have hx : x ^^^ y < 2 ^ 63 := Nat.xor_lt_two_pow (by omega) (by omega)
  have e : Go.bits .xor .i64 (x : Int) (y : Int) = ((x ^^^ y : Nat) : Int) := by
    show IntKind.i64.wrap ((BitVec.ofInt 64 (x : Int) ^^^ BitVec.ofInt 64 (y : Int)).toNat : Int) = _
    rw [BitVec.toNat_xor, ofInt_i64 x (by omega), ofInt_i64 y (by omega), IntKind.wrap_i64]
    omega
  rw [e]; omega
/-- what a reader holds -/
def St (l : List Int) : Prop := l.length ≤ 2000 ∧ ∀ x ∈ l, 0 ≤ x ∧ x ≤ 255
theorem rd_range {l : List Int} (h : St l) (i : Int) : 0 ≤ rd l i ∧ rd l i ≤ 255 := by
  unfold rd
  rw [List.getD_eq_getElem?_getD]
  rcases Nat.lt_or_ge i.toNat l.length with hi | hi
  · rw [List.getElem?_eq_getElem hi]; exact h.2 _ (List.getElem_mem hi)
  · rw [List.getElem?_eq_none hi]; decide
theorem open_eq (l : List Int) (h : ∀ x ∈ l, 0 ≤ x ∧ x ≤ 255) : ∃ l', spec_l6Open.f l = some (l', 0) ∧ St l' := by
  unfold spec_l6Open.f
  by_cases hl : (l.length : Int) > 2000
  · rw [if_pos hl, if_pos (by omega)]
    exact ⟨_, rfl, by simp; omega, fun x hx => h x (List.mem_of_mem_take hx)⟩
  · rw [if_neg hl]
    exact ⟨l, rfl, by omega, h⟩
theorem pick_ev {l : List Int} (hs : St l) {p n : Int} (hp : 0 ≤ p ∧ p ≤ 100000) (hn : 1 ≤ n ∧ n ≤ 1000000) :
    Evp (fun k => spec_l6Rd_pick.f k l p n) (fun r => 0 ≤ r.1 ∧ r.1 < n ∧ r.2 = p + 1) := by
  have hw : wrap64 (p + 1) = p + 1 := wrap_small (by omega)
  have hw1 : wrap64 (p + 1 - 1) = p := by rw [wrap_small (by omega)]; omega
  unfold spec_l6Rd_pick.f
  simp only [if_neg (show ¬ n < 1 by omega), hw]
  refine Evp.step (fun k => by rw [spec_l6Rd_pick.j0]) ?_
  by_cases hl : (l.length : Int) = 0
  · simp only [hl, beq_self_eq_true, if_true]
    exact Evp.some' ⟨Int.le_refl _, by show (0 : Int) < n; omega, rfl⟩
  · simp only [beq_eq_false_iff_ne.2 hl, Bool.false_eq_true, if_false, hw1]
    have hlp : 0 < (l.length : Int) := by omega
    have hl2 : (l.length : Int) ≤ 2000 := by have := hs.1; omega
    by_cases hlt : p < (l.length : Int)
    · have hr := rd_range hs p
      rw [if_pos hlt, if_pos hp.1, if_neg (by omega), wrap_small (by omega), tmod_pos hr.1]
      exact Evp.some' ⟨Int.emod_nonneg _ (by omega), Int.emod_lt_of_pos _ (by omega), rfl⟩
    · rw [if_neg hlt, if_neg hl]
      have e7 : wrap64 (p * 7) = p * 7 := wrap_small (by omega)
      have e8 : wrap64 (p * 7 + 3) = p * 7 + 3 := wrap_small (by omega)
      rw [e7, e8, tmod_pos (n := (l.length : Int)) hp.1, tmod_pos (x := p * 7 + 3) (n := (l.length : Int)) (by omega)]
      have a1 := Int.emod_nonneg p (show (l.length : Int) ≠ 0 by omega)
      have a2 := Int.emod_lt_of_pos p hlp
      have b1 := Int.emod_nonneg (p * 7 + 3) (show (l.length : Int) ≠ 0 by omega)
      have b2 := Int.emod_lt_of_pos (p * 7 + 3) hlp
      rw [if_pos a1, if_pos a2, if_pos b1, if_pos b2, if_neg (by omega)]
      have r1 := rd_range hs (p % (l.length : Int))
      have r2 := rd_range hs ((p * 7 + 3) % (l.length : Int))
      generalize rd l (p % (l.length : Int)) = u at *
      generalize rd l ((p * 7 + 3) % (l.length : Int)) = v at *
      have ed : Int.tdiv p (l.length : Int) = p / (l.length : Int) := Int.tdiv_eq_ediv_of_nonneg hp.1
      have d1 : 0 ≤ p / (l.length : Int) := Int.ediv_nonneg hp.1 (by omega)
      have d2 : p / (l.length : Int) ≤ p := Int.ediv_le_self _ hp.1
      rw [ed]
      generalize p / (l.length : Int) = q at *
      rw [wrap_small (x := u) (by omega), wrap_small (x := u * 131) (by omega), wrap_small (x := v) (by omega), wrap_small (x := v * 1117) (by omega), wrap_small (x := u * 131 + v * 1117) (by omega), wrap_small (x := p * 29) (by omega),
        wrap_small (x := u * 131 + v * 1117 + p * 29) (by omega), wrap_small (x := q) (by omega), wrap_small (x := q * 53) (by omega), wrap_small (x := u * 131 + v * 1117 + p * 29 + q * 53) (by omega)]
      generalize hz : u * 131 + v * 1117 + p * 29 + q * 53 = z
      have hz0 : 0 ≤ z ∧ z < 100000000 := by omega
      have e64 : Int.tdiv z 64 = z / 64 := Int.tdiv_eq_ediv_of_nonneg hz0.1
      rw [e64, wrap_small (x := z / 64) (by omega), tmod_pos (xor_nonneg (by omega) (by omega))]
      exact Evp.some' ⟨Int.emod_nonneg _ (by omega), Int.emod_lt_of_pos _ (by omega), rfl⟩
theorem rd_nat (l : List Int) (i : Nat) : rd l (i : Int) = l.getD i 0 := by unfold rd; rw [Int.toNat_natCast]
theorem getD_get {l : List Int} {i : Nat} (h : i < l.length) : l.getD i 0 = l[i] := by rw [List.getD_eq_getElem?_getD, List.getElem?_eq_getElem h]; rfl
theorem wrap_succ {i : Nat} (h : i ≤ 1000000000000000) : wrap64 ((i : Int) + 1) = ((i + 1 : Nat) : Int) := by rw [wrap_small (by omega)]; omega
theorem spec_VecOk_ev {l : List Int} (hl : l.length ≤ 1000000000000) : Evp (fun k => spec_VecOk.f k l) (· = vok l) := by
  have key : ∀ d i, i + d = l.length → Evp (fun k => spec_VecOk.l0 k l (i : Int)) (· = ((l.drop i).all ok && (l.length == 4))) := by
    intro d
    induction d with
    | zero =>
      intro i hi
      refine Evp.step (fun k => by rw [spec_VecOk.l0]) ?_
      refine Evp.neg (by omega) ?_
      refine Evp.some' ?_
      rw [List.drop_eq_nil_of_le (by omega), Bool.eq_iff_iff, beq_iff_eq]; simp; omega
    | succ d ih =>
      intro i hi
      refine Evp.step (fun k => by rw [spec_VecOk.l0]) ?_
      refine Evp.pos (by omega) (Evp.pos (by omega) ?_)
      simp only [spec_FieldOk_eq, Option.bind_some, rd_nat, getD_get (show i < l.length by omega)]
      rw [List.drop_eq_getElem_cons (show i < l.length by omega), List.all_cons]
      refine Evp.ite (fun h => ?_) fun h => ?_
      · rw [wrap_succ (by omega), h]
        exact ih (i + 1) (by omega)
      · exact Evp.some' (by simp [h])
  have := key l.length 0 (by omega)
  unfold spec_VecOk.f
  refine this.mono fun r hr => ?_
  rw [hr, List.drop_zero, Bool.and_comm]; rfl
theorem eq_loop {F : Nat → List Int → List Int → Int → Option Bool}
    (hF : ∀ k a b i, F (k + 1) a b i = if i < (a.length : Int) then (if 0 ≤ i then (if i < (b.length : Int) then (if (rd a i) = (rd b i) then (F k a b (wrap64 (i + 1))) else (some false)) else (none)) else (none)) else (some true))
    {a b : List Int} (hl : a.length = b.length) (ha : a.length ≤ 1000000000000) : Evp (fun k => F k a b 0) (· = decide (a = b)) := by
  have key : ∀ d i, i + d = a.length → (∀ j, j < i → a.getD j 0 = b.getD j 0) → Evp (fun k => F k a b (i : Int)) (· = decide (a = b)) := by
    intro d
    induction d with
    | zero =>
      intro i hi hp
      refine Evp.step (fun k => hF k a b i) ?_
      refine Evp.neg (by omega) ?_
      refine Evp.some' ?_
      have : a = b := List.ext_getElem hl fun j h1 h2 => by have := hp j (by omega); rwa [getD_get h1, getD_get h2] at this
      simp [this]
    | succ d ih =>
      intro i hi hp
      refine Evp.step (fun k => hF k a b i) ?_
      refine Evp.pos (by omega) (Evp.pos (by omega) (Evp.pos (by omega) ?_))
      rw [rd_nat, rd_nat, wrap_succ (by omega)]
      refine Evp.ite (fun h => ih (i + 1) (by omega) fun j hj => ?_) fun h => Evp.some' ?_
      · rcases Nat.lt_or_ge j i with c | c
        · exact hp j c
        · have : j = i := by omega
          subst this; exact h
      · have : a ≠ b := fun e => h (by rw [e])
        simp [this]
  exact key a.length 0 (by omega) (fun j hj => absurd hj (Nat.not_lt_zero j))
theorem lkInts_ev {a b : List Int} (ha : a.length ≤ 1000000000000) : Evp (fun k => laws_lkInts.f k a b) (· = decide (a = b)) := by
  unfold laws_lkInts.f
  refine Evp.ite (fun h => eq_loop (fun k a b i => by rw [laws_lkInts.l0]) (by omega) ha) fun h => Evp.some' ?_
  have : a ≠ b := fun e => h (by rw [e])
  simp [this]
theorem can_small {l : List Int} (h : can l) (i : Nat) : 0 ≤ l.getD i 0 ∧ l.getD i 0 < 31 := ok_iff.1 (can_get h i)
theorem zip_take {α : Type} (f : Int → Int → α) {a b : List Int} {i : Nat} (h1 : i < a.length) (h2 : i < b.length) : List.zipWith f (a.take (i + 1)) (b.take (i + 1)) = List.zipWith f (a.take i) (b.take i) ++ [f (a.getD i 0) (b.getD i 0)] := by
  rw [List.take_succ_eq_append_getElem h1, List.take_succ_eq_append_getElem h2, List.zipWith_append (by simp; omega), getD_get h1, getD_get h2]; rfl
theorem l2Dot_ev {a b : List Int} (ha : can a) (hb : can b) (hl : a.length = b.length) (hn : a.length ≤ 1000000000000) : Evp (fun k => spec_l2Dot.f k a b) (· = ldot a b) := by
  have key : ∀ d i, i + d = a.length → Evp (fun k => spec_l2Dot.l0 k a b (ldot (a.take i) (b.take i)) (i : Int)) (· = ldot a b) := by
    intro d
    induction d with
    | zero =>
      intro i hi
      refine Evp.step (fun k => by rw [spec_l2Dot.l0]) ?_
      refine Evp.neg (by omega) ?_
      rw [List.take_of_length_le (by omega), List.take_of_length_le (by omega)]
      exact Evp.some' rfl
    | succ d ih =>
      intro i hi
      refine Evp.step (fun k => by rw [spec_l2Dot.l0]) ?_
      refine Evp.pos (by omega) (Evp.pos (by omega) (Evp.pos (by omega) ?_))
      rw [rd_nat, rd_nat, wrap_succ (by omega)]
      have hm := mul_small (ok_iff.2 (can_small ha i)) (ok_iff.2 (can_small hb i))
      have hr := ldot_range (a.take i) (b.take i)
      rw [wrap_small (x := a.getD i 0 * b.getD i 0) (by omega), wrap_small (x := ldot (a.take i) (b.take i) + a.getD i 0 * b.getD i 0) (by omega), tmod31 (by omega)]
      have e : ldot (a.take (i + 1)) (b.take (i + 1)) = (ldot (a.take i) (b.take i) + a.getD i 0 * b.getD i 0) % 31 := by
        unfold ldot; rw [zip_take _ (by omega) (by omega), List.foldl_append]; rfl
      rw [← e]
      exact ih (i + 1) (by omega)
  have := key a.length 0 (by omega)
  unfold spec_l2Dot.f
  simpa [ldot] using this
/-- what is drawn for a row -/
def Dr (l : List Int) : Prop := 3 ≤ l.length ∧ l.length ≤ 4 ∧ ∀ x ∈ l, -1 ≤ x ∧ x ≤ 31
theorem l91Vec_ev {l : List Int} (hs : St l) {p : Int} (hp : 0 ≤ p ∧ p ≤ 90000) : Evp (fun k => spec_l91Vec.f k l p) (fun r => Dr r.1 ∧ p ≤ r.2 ∧ r.2 ≤ p + 20) := by
  have key : ∀ d i (v : List Int) (q : Int), i + d = 4 → v.length = i → (∀ x ∈ v, -1 ≤ x ∧ x ≤ 31) → p ≤ q → q ≤ p + 4 * i → Evp (fun k => spec_l91Vec.l0 k v (i : Int) l q) (fun r => Dr r.1 ∧ p ≤ r.2 ∧ r.2 ≤ p + 20) := by
    intro d
    induction d with
    | zero =>
      intro i v q hi hv hx h1 h2
      refine Evp.step (fun k => by rw [spec_l91Vec.l0]) (Evp.neg (by omega) ?_)
      refine Evp.bind (pick_ev hs (n := 40) (by omega) (by omega)) fun r hr => ?_
      obtain ⟨a, q1⟩ := r
      simp only at hr ⊢
      refine Evp.ite (fun _ => ?_) fun _ => Evp.ite (fun _ => ?_) fun _ => ?_
      · refine Evp.pos (by omega) (Evp.some' ⟨⟨?_, ?_, fun x hx2 => hx x (List.mem_of_mem_drop hx2)⟩, ?_, ?_⟩)
        · show 3 ≤ (v.drop (Int.toNat 1)).length; rw [List.length_drop]; simp; omega
        · show (v.drop (Int.toNat 1)).length ≤ 4; rw [List.length_drop]; omega
        · show p ≤ q1; omega
        · show q1 ≤ p + 20; omega
      · refine Evp.bind (pick_ev hs (n := (v.length : Int)) (by omega) (by omega)) fun r2 hr2 => ?_
        obtain ⟨b, q2⟩ := r2
        simp only [Option.bind_some] at hr2 ⊢
        refine Evp.bind (pick_ev hs (n := 2) (by omega) (by omega)) fun r3 hr3 => ?_
        obtain ⟨c, q3⟩ := r3
        simp only at hr3 ⊢
        refine Evp.pos (by omega) (Evp.pos (by simp; omega) (Evp.pos (by omega) (Evp.pos (by omega) (Evp.some' ⟨⟨?_, ?_, fun x hx2 => ?_⟩, ?_, ?_⟩))))
        · show 3 ≤ (v.set b.toNat _).length; rw [List.length_set]; omega
        · show (v.set b.toNat _).length ≤ 4; rw [List.length_set]; omega
        · rcases List.mem_or_eq_of_mem_set hx2 with h | h
          · exact hx x h
          · have hc : c = 0 ∨ c = 1 := by omega
            rw [h]; rcases hc with rfl | rfl <;> decide
        · show p ≤ q3; omega
        · show q3 ≤ p + 20; omega
      · exact Evp.some' ⟨⟨by show 3 ≤ v.length; omega, by show v.length ≤ 4; omega, hx⟩, by show p ≤ q1; omega, by show q1 ≤ p + 20; omega⟩
    | succ d ih =>
      intro i v q hi hv hx h1 h2
      refine Evp.step (fun k => by rw [spec_l91Vec.l0]) (Evp.pos (by omega) ?_)
      refine Evp.bind (pick_ev hs (n := 4) (by omega) (by omega)) fun r hr => ?_
      obtain ⟨a, q1⟩ := r
      simp only at hr ⊢
      refine Evp.bind (pick_ev hs (n := 31) (by omega) (by omega)) fun r2 hr2 => ?_
      obtain ⟨b, q2⟩ := r2
      simp only at hr2 ⊢
      refine Evp.bind (pick_ev hs (n := 31) (by omega) (by omega)) fun r3 hr3 => ?_
      obtain ⟨c, q3⟩ := r3
      simp only [Option.bind_some] at hr3 ⊢
      refine Evp.bind (pick_ev hs (n := 4) (by omega) (by omega)) fun r4 hr4 => ?_
      obtain ⟨e, q4⟩ := r4
      simp only at hr4 ⊢
      rw [wrap_succ (by omega)]
      refine Evp.pos (by omega) (Evp.pos (by simp; omega) (Evp.pos (by omega) (ih (i + 1) _ q4 (by omega) (by simp; omega) (fun x hx2 => ?_) (by omega) (by omega))))
      rcases List.mem_append.1 hx2 with h | h
      · exact hx x h
      · have he : e = 0 ∨ e = 1 ∨ e = 2 ∨ e = 3 := by omega
        simp at h; rw [h]
        rcases he with rfl | rfl | rfl | rfl <;> simp [rd] <;> omega
  exact key 4 0 [] p rfl rfl (by simp) (by omega) (by omega)
theorem spec_l4Kind_eq (k : Int) : spec_l4Kind.f k = some (lkind k) := by
  unfold spec_l4Kind.f spec_l6In.f lkind
  by_cases h : k ≥ 1
  · rw [if_pos h]; simp [show (1 ≤ k) from h]
  · rw [if_neg h]; simp [show ¬ (1 ≤ k) from h]
theorem spec_l4Row_eq {k a : Int} (hk : lkind k = true) (ha : lshard a = true) : spec_l4Row.f k a = some (lrow k a) := by
  have k1 : ∀ a : Fin 8, spec_l4Row.f 1 (a.val : Int) = some (lrow 1 (a.val : Int)) := by decide +kernel
  have k2 : ∀ a : Fin 8, spec_l4Row.f 2 (a.val : Int) = some (lrow 2 (a.val : Int)) := by decide +kernel
  obtain ⟨x, rfl⟩ := lshard_fin ha
  rcases lkind_cases hk with rfl | rfl
  · exact k1 x
  · exact k2 x
theorem spec_l4All_ev {k : Int} (hk : lkind k = true) {d : List Int} (hd : vok d = true) : Evp (fun n => spec_l4All.f n k d) (· = lall k d) := by
  have hdl := (vok_iff.1 hd).1
  have key : ∀ m i (out : List Int), i + m = 8 → out = (List.range i).map (fun (j : Nat) => ldot (lrow k (j : Int)) d) → Evp (fun n => spec_l4All.l0 n k d out (i : Int)) (· = lall k d) := by
    intro m
    induction m with
    | zero =>
      intro i out hi ho
      refine Evp.step (fun n => by rw [spec_l4All.l0]) (Evp.neg (by omega) (Evp.some' ?_))
      rw [ho, show i = 8 by omega]; rfl
    | succ m ih =>
      intro i out hi ho
      have hl : out.length = i := by rw [ho]; simp
      have hr := lrow_ok hk (lshard_nat (show i < 8 by omega))
      have hrl := (vok_iff.1 hr).1
      refine Evp.step (fun n => by rw [spec_l4All.l0]) (Evp.pos (by omega) ?_)
      rw [spec_l4Row_eq hk (lshard_nat (show i < 8 by omega))]
      simp only [Option.bind_some]
      refine Evp.bind (l2Dot_ev (vok_iff.1 hr).2 (vok_iff.1 hd).2 (by omega) (by omega)) fun t ht => ?_
      subst ht
      rw [wrap_succ (by omega)]
      refine Evp.pos (by omega) (ih (i + 1) _ (by omega) ?_)
      rw [ho, List.range_succ, List.map_append]; rfl
  unfold spec_l4All.f
  exact key 8 0 [] rfl rfl
theorem l91Kind_ev {l : List Int} (hs : St l) {p : Int} (hp : 0 ≤ p ∧ p ≤ 90000) : Evp (fun k => spec_l91Kind.f k l p) (fun r => 0 ≤ r.1 ∧ r.1 ≤ 3 ∧ r.2 = p + 2) := by
  unfold spec_l91Kind.f
  refine Evp.bind (pick_ev hs (n := 40) (by omega) (by omega)) fun r hr => ?_
  refine Evp.ite (fun _ => ?_) fun _ => ?_
  · simp only [Option.bind_some]
    refine Evp.bind (pick_ev hs (n := 2) (by omega) (by omega)) fun r2 hr2 => ?_
    refine Evp.pos (by omega) (Evp.pos (by simp; omega) (Evp.some' ?_))
    have : r2.1 = 0 ∨ r2.1 = 1 := by omega
    refine ⟨?_, ?_, by show r2.2 = p + 2; omega⟩
    · show 0 ≤ rd [0, 3] r2.1
      rcases this with h | h <;> rw [h] <;> decide
    · show rd [0, 3] r2.1 ≤ 3
      rcases this with h | h <;> rw [h] <;> decide
  · refine Evp.bind (pick_ev hs (n := 2) (by omega) (by omega)) fun r2 hr2 => Evp.some' ?_
    rw [wrap_small (by omega)]
    refine ⟨?_, ?_, by show r2.2 = p + 2; omega⟩
    · show 0 ≤ 1 + r2.1; omega
    · show 1 + r2.1 ≤ 3; omega
/-- places of shards that are there, from i on -/
def shardsFrom (there : List Bool) (i : Nat) : List Int := ((List.range' i (there.length - i)).filter fun j => there.getD j false).map fun (j : Nat) => (j : Int)
def lshards (there : List Bool) : List Int := shardsFrom there 0
def lrows (kind : Int) (there : List Bool) : List (List Int) := (lshards there).map (lrow kind)
def lbears (kind : Int) (there : List Bool) : Bool := lkind kind && decide (there.length = 8) && decide ((ltidy (lrows kind there)).length = 4)
theorem shardsFrom_succ {there : List Bool} {i : Nat} (h : i < there.length) : shardsFrom there i = (if there.getD i false = true then [(i : Int)] else []) ++ shardsFrom there (i + 1) := by
  unfold shardsFrom
  rw [show there.length - i = (there.length - (i + 1)) + 1 by omega, List.range'_succ, List.filter_cons]
  split <;> simp
theorem shardsFrom_end {there : List Bool} {i : Nat} (h : there.length ≤ i) : shardsFrom there i = [] := by
  unfold shardsFrom; rw [show there.length - i = 0 by omega]; rfl
theorem mem_shards {there : List Bool} {x : Int} (h : x ∈ lshards there) : ∃ j : Nat, j < there.length ∧ x = (j : Int) ∧ there.getD j false = true := by
  unfold lshards shardsFrom at h
  obtain ⟨j, hj, rfl⟩ := List.mem_map.1 h
  obtain ⟨h1, h2⟩ := List.mem_filter.1 hj
  rw [List.mem_range'_1] at h1
  exact ⟨j, by omega, rfl, h2⟩
theorem lshards_len (there : List Bool) : (lshards there).length ≤ there.length := by
  unfold lshards shardsFrom
  rw [List.length_map]
  refine Nat.le_trans (List.length_filter_le _ _) ?_
  simp
theorem lrows_ok {kind : Int} (hk : lkind kind = true) {there : List Bool} (h8 : there.length = 8) : mok (lrows kind there) = true := by
  refine mok_iff.2 ⟨by unfold lrows; rw [List.length_map]; have := lshards_len there; omega, fun r hr => ?_⟩
  obtain ⟨x, hx, rfl⟩ := List.mem_map.1 hr
  obtain ⟨j, hj, rfl, _⟩ := mem_shards hx
  exact lrow_ok hk (lshard_nat (by omega))
theorem bools8 {P : List Bool → Prop} (h : ∀ a b c d e f g i : Bool, P [a, b, c, d, e, f, g, i]) {l : List Bool} (hl : l.length = 8) : P l := by
  match l, hl with
  | [a, b, c, d, e, f, g, i], _ => exact h a b c d e f g i
def mostOf (kind : Int) : Int := if kind = 1 then 3 else 4
theorem any_1 : ∀ a b c d e f g i : Bool, (8 - ((lshards [a, b, c, d, e, f, g, i]).length : Int) ≤ 3 → lbears 1 [a, b, c, d, e, f, g, i] = true) := by decide +kernel
theorem any_2 : ∀ a b c d e f g i : Bool, (lbears 2 [a, b, c, d, e, f, g, i] = decide (((lshards [a, b, c, d, e, f, g, i]).length : Int) ≥ 4)) := by decide +kernel
theorem wide_any {there : List Bool} (h8 : there.length = 8) : lbears 2 there = decide (((lshards there).length : Int) ≥ 4) := bools8 (P := fun t => lbears 2 t = decide (((lshards t).length : Int) ≥ 4)) any_2 h8
theorem most_any {kind : Int} (hk : lkind kind = true) {there : List Bool} (h8 : there.length = 8) (h : 8 - ((lshards there).length : Int) ≤ mostOf kind) : lbears kind there = true := by
  rcases lkind_cases hk with rfl | rfl
  · exact bools8 (P := fun t => (8 - ((lshards t).length : Int) ≤ 3 → lbears 1 t = true)) any_1 h8 h
  · rw [wide_any h8]
    have : 8 - ((lshards there).length : Int) ≤ 4 := h
    exact decide_eq_true (by omega)
/-- two rows, one times the other -/
def dotW (x z : W) : F := x 0 * z 0 + x 1 * z 1 + x 2 * z 2 + x 3 * z 3
theorem dotW_zz (z : W) : dotW zz z = 0 := by simp only [dotW, zz]; grind
theorem dotW_ax (z x : W) (c : F) (y : W) : dotW (ax x c y) z = dotW x z + c * dotW y z := by simp only [dotW, ax]; grind
theorem toF_ldot {a b : List Int} (ha : vok a = true) (hb : vok b = true) : toF (ldot a b) = dotW (toW a) (toW b) := by
  obtain ⟨a0, a1, a2, a3, rfl, _⟩ := vok_four ha
  obtain ⟨b0, b1, b2, b3, rfl, _⟩ := vok_four hb
  rw [ldot_four, toF_mod, toF_add, toF_add, toF_add, toF_mul, toF_mul, toF_mul, toF_mul]
  rfl
theorem ldot_eq_iff {r a b : List Int} (hr : vok r = true) (ha : vok a = true) (hb : vok b = true) : ldot r a = ldot r b ↔ dotW (toW r) (toW a) = dotW (toW r) (toW b) := by
  rw [← toF_ldot hr ha, ← toF_ldot hr hb]
  exact ⟨fun h => by rw [h], fun h => toF_inj (ldot_range _ _) (ldot_range _ _) h⟩
/-- what is made of rows of which two numbers' products are the same: there they are the same too -/
theorem dotW_same {R : List W} {x y : W} (h : ∀ r ∈ R, dotW r x = dotW r y) {v : W} (hv : In R v) : dotW v x = dotW v y := by
  have h1 : dotW v x - dotW v y = 0 := Sp.lin (p := fun u => dotW u x - dotW u y) (by simp only [dotW_zz]; grind) (fun u c w => by simp only [dotW_ax]; grind) (fun r hr => by simp only [h r hr]; grind) hv
  grind
theorem full_in {m : List (List Int)} (hm : ∀ r ∈ m, vok r = true) (h4 : (ltidy m).length = 4) {v : List Int} (hv : vok v = true) : In (m.map toW) (toW v) := by
  refine (lhas_iff hm hv).1 ?_
  have hm2 : ∀ r ∈ m ++ [v], vok r = true := fun r hr => by
    rcases List.mem_append.1 hr with h | h
    · exact hm r h
    · rw [List.mem_singleton.1 h]; exact hv
  have e : ltidy (m ++ [v]) = ladd (ltidy m) v := by simp [ltidy]
  have h5 := ltidy_four hm2
  have h6 := ltidy_mono hm hm2 (fun r hr => In.mem (List.mem_map_of_mem (List.mem_append_left _ hr)))
  rw [e] at h5 h6
  unfold lhas
  rw [beq_iff_eq]
  omega
theorem full_same {m : List (List Int)} (hm : ∀ r ∈ m, vok r = true) (h4 : (ltidy m).length = 4) {a b : List Int} (ha : vok a = true) (hb : vok b = true) (h : ∀ r ∈ m, ldot r a = ldot r b) : a = b := by
  have hR : ∀ r ∈ m.map toW, dotW r (toW a) = dotW r (toW b) := fun r hr => by
    obtain ⟨q, hq, rfl⟩ := List.mem_map.1 hr
    exact (ldot_eq_iff (hm q hq) ha hb).1 (h q hq)
  have hu : ∀ u : List Int, vok u = true → dotW (toW u) (toW a) = dotW (toW u) (toW b) := fun u hu => dotW_same hR (full_in hm h4 hu)
  have h0 := hu [1, 0, 0, 0] (by decide)
  have h1 := hu [0, 1, 0, 0] (by decide)
  have h2 := hu [0, 0, 1, 0] (by decide)
  have h3 := hu [0, 0, 0, 1] (by decide)
  have z : toF 0 = 0 := rfl
  have o : toF 1 = 1 := rfl
  simp only [dotW, toW, List.getD_cons_zero, List.getD_cons_succ, z, o] at h0 h1 h2 h3
  refine toW_inj (vok_iff.1 ha).2 (vok_iff.1 hb).2 (by rw [(vok_iff.1 ha).1, (vok_iff.1 hb).1]) fun i hi => ?_
  rw [(vok_iff.1 ha).1] at hi
  simp only [toW]
  match i, hi with
  | 0, _ => grind
  | 1, _ => grind
  | 2, _ => grind
  | 3, _ => grind
theorem bears_same {kind : Int} (hk : lkind kind = true) {there : List Bool} (h8 : there.length = 8) (hb : lbears kind there = true) {a b : List Int} (ha : vok a = true) (hc : vok b = true) (h : ∀ j : Nat, j < 8 → there.getD j false = true → ldot (lrow kind (j : Int)) a = ldot (lrow kind (j : Int)) b) : a = b := by
  have hm := (mok_iff.1 (lrows_ok hk h8)).2
  refine full_same hm (by unfold lbears at hb; simp at hb; exact hb.2) ha hc fun r hr => ?_
  obtain ⟨x, hx, rfl⟩ := List.mem_map.1 hr
  obtain ⟨j, hj, rfl, ht⟩ := mem_shards hx
  exact h j (by omega) ht
theorem apart_count {x y : List Int} {there : List Bool} (hx : x.length = 8) (h8 : there.length = 8) (h : ∀ j, j < 8 → there.getD j false = decide (x.getD j 0 = y.getD j 0)) : ∀ (d i : Nat), i + d = 8 → Lc.lcountFrom x y i + (shardsFrom there i).length = d := by
  intro d
  induction d with
  | zero =>
    intro i hi
    rw [Lc.lcount_end (by omega), shardsFrom_end (by omega)]; rfl
  | succ d ih =>
    intro i hi
    rw [Lc.lcount_succ (by omega), shardsFrom_succ (by omega), h i (by omega)]
    have := ih (i + 1) (by omega)
    by_cases e : x.getD i 0 = y.getD i 0
    · rw [if_pos e, decide_eq_true e, if_pos rfl, List.length_append, List.length_singleton]; omega
    · rw [if_neg e, decide_eq_false e, if_neg (by decide), List.nil_append]; omega
theorem apart_far {kind : Int} (hk : lkind kind = true) {a b : List Int} (ha : vok a = true) (hb : vok b = true) (hne : a ≠ b) : mostOf kind < (Lc.lcountFrom (lall kind a) (lall kind b) 0 : Int) ∧ (Lc.lcountFrom (lall kind a) (lall kind b) 0 : Int) ≤ 8 := by
  have ht : ∃ there : List Bool, there.length = 8 ∧ ∀ j, j < 8 → there.getD j false = decide ((lall kind a).getD j 0 = (lall kind b).getD j 0) := by
    refine ⟨(List.range 8).map fun j => decide ((lall kind a).getD j 0 = (lall kind b).getD j 0), by simp, fun j hj => ?_⟩
    rw [List.getD_eq_getElem?_getD, List.getElem?_map, List.getElem?_range hj]; rfl
  obtain ⟨there, h8, h⟩ := ht
  have hc := apart_count (lall_len kind a) h8 h 8 0 (by omega)
  have hl : (lshards there).length = (shardsFrom there 0).length := rfl
  refine ⟨?_, by omega⟩
  rcases Int.lt_or_le (mostOf kind) (Lc.lcountFrom (lall kind a) (lall kind b) 0 : Int) with hlt | hle
  · exact hlt
  · exfalso
    have hbb := most_any hk h8 (by omega)
    refine hne (bears_same hk h8 hbb ha hb fun j hj htj => ?_)
    have := h j hj
    rw [htj] at this
    have e := of_decide_eq_true this.symm
    rwa [lall_get kind a hj, lall_get kind b hj] at e
theorem lcount_self (x : List Int) : ∀ (d i : Nat), i + d = x.length → Lc.lcountFrom x x i = 0 := by
  intro d
  induction d with
  | zero => intro i hi; exact Lc.lcount_end (by omega)
  | succ d ih => intro i hi; rw [Lc.lcount_succ (by omega), if_pos rfl, ih (i + 1) (by omega)]
theorem lcount_sym {x y : List Int} (h : x.length = y.length) : ∀ (d i : Nat), i + d = x.length → Lc.lcountFrom x y i = Lc.lcountFrom y x i := by
  intro d
  induction d with
  | zero => intro i hi; rw [Lc.lcount_end (by omega), Lc.lcount_end (by omega)]
  | succ d ih =>
    intro i hi
    rw [Lc.lcount_succ (x := x) (y := y) (i := i) (by omega), Lc.lcount_succ (x := y) (y := x) (i := i) (by omega), ih (i + 1) (by omega)]
    by_cases e : x.getD i 0 = y.getD i 0
    · rw [if_pos e, if_pos e.symm]
    · rw [if_neg e, if_neg (fun h => e h.symm)]
theorem lapart_neg {kind : Int} {a b : List Int} (h : ¬ Lc.lapart kind a b < 0) : lkind kind = true ∧ vok a = true ∧ vok b = true ∧ Lc.lapart kind a b = (Lc.lcountFrom (lall kind a) (lall kind b) 0 : Int) := by
  unfold Lc.lapart codeAll at h ⊢
  cases hk : lkind kind <;> cases ha : vok a <;> cases hb : vok b <;> simp_all [lall_len]
theorem lapart_sym (kind : Int) (a b : List Int) : Lc.lapart kind a b = Lc.lapart kind b a := by
  unfold Lc.lapart
  by_cases h1 : (codeAll kind a).length = 0
  · rw [if_pos (.inl h1), if_pos (.inr h1)]
  · by_cases h2 : (codeAll kind b).length = 0
    · rw [if_pos (.inr h2), if_pos (.inl h2)]
    · rw [if_neg (by omega), if_neg (by omega)]
      have e1 := (Lc.codeAll_two kind a).resolve_left h1
      have e2 := (Lc.codeAll_two kind b).resolve_left h2
      rw [lcount_sym (by omega) 8 0 (by omega)]
theorem spec_CodeApart_ev (kind : Int) {a b : List Int} (ha : a.length ≤ 1000000000000) (hb : b.length ≤ 1000000000000) : Evp (fun k => spec_CodeApart.f k kind a b) (· = Lc.lapart kind a b) := by
  have no : Lc.lapart kind a b = -1 → Evp (fun k => spec_CodeApart.j0 k kind a b true) (· = Lc.lapart kind a b) := fun e => Evp.step (fun k => by rw [spec_CodeApart.j0]) (Evp.pos rfl (Evp.some' e.symm))
  unfold spec_CodeApart.f
  rw [spec_l4Kind_eq]
  simp only [Option.bind_some]
  refine Evp.ite (fun hk => ?_) fun hk => no (by unfold Lc.lapart codeAll; rw [Bool.eq_false_iff.2 hk]; simp)
  refine Evp.bind (spec_VecOk_ev ha) fun t ht => ?_
  subst ht
  refine Evp.ite (fun hv => ?_) fun hv => no (by unfold Lc.lapart codeAll; rw [Bool.eq_false_iff.2 hv]; simp)
  refine Evp.bind (spec_VecOk_ev hb) fun t ht => ?_
  subst ht
  by_cases hu : vok b = true
  · rw [hu]
    refine Evp.step (fun k => by rw [spec_CodeApart.j0]) (Evp.neg (by simp) ?_)
    refine Evp.bind (spec_l4All_ev hk hv) fun t ht => ?_
    subst ht
    refine Evp.bind (spec_l4All_ev hk hu) fun t ht => ?_
    subst ht
    have ea : codeAll kind a = lall kind a := by unfold codeAll; rw [hv, hk]; rfl
    have eb : codeAll kind b = lall kind b := by unfold codeAll; rw [hu, hk]; rfl
    have e : Lc.lapart kind a b = (Lc.lcountFrom (lall kind a) (lall kind b) 0 : Int) := by
      unfold Lc.lapart; rw [ea, eb, if_neg (by rw [lall_len, lall_len]; omega)]
    rw [e]
    generalize hx : lall kind a = x
    generalize hy : lall kind b = y
    have lx : x.length = 8 := by rw [← hx]; exact lall_len _ _
    have ly : y.length = 8 := by rw [← hy]; exact lall_len _ _
    have key : ∀ (d i : Nat), i + d = x.length → ∀ m : Nat, m ≤ i → Evp (fun k => spec_CodeApart.l0 k (m : Int) x y (i : Int)) (· = ((m + Lc.lcountFrom x y i : Nat) : Int)) := by
      intro d
      induction d with
      | zero =>
        intro i hi m hm
        refine Evp.step (fun k => by rw [spec_CodeApart.l0]) (Evp.neg (by omega) (Evp.some' ?_))
        rw [Lc.lcount_end (by omega)]; rfl
      | succ d ih =>
        intro i hi m hm
        refine Evp.step (fun k => by rw [spec_CodeApart.l0]) (Evp.pos (by omega) (Evp.pos (by omega) (Evp.pos (by omega) ?_)))
        rw [rd_nat, rd_nat, wrap_succ (by omega), wrap_succ (by omega), Lc.lcount_succ (by omega)]
        refine Evp.ite (fun h => ?_) fun h => ?_
        · rw [if_pos h]
          exact (ih (i + 1) (by omega) m (by omega)).mono fun r hr => by rw [hr]; omega
        · rw [if_neg h]
          exact (ih (i + 1) (by omega) (m + 1) (by omega)).mono fun r hr => by rw [hr]; omega
    have := key x.length 0 (by omega) 0 (by omega)
    simpa using this
  · rw [Bool.eq_false_iff.2 hu]
    exact no (by unfold Lc.lapart codeAll; rw [Bool.eq_false_iff.2 hu]; simp)
theorem drawCodeApart_ev {l : List Int} (h : ∀ x ∈ l, 0 ≤ x ∧ x ≤ 255) : Evp (fun k => spec_DrawCodeApart.f k l) (fun r => r.2.1.length ≤ 10 ∧ r.2.2.length ≤ 10) := by
  unfold spec_DrawCodeApart.f
  obtain ⟨l', e, hs⟩ := open_eq l h
  rw [e]; simp only [Option.bind_some]
  refine Evp.bind (l91Vec_ev hs (p := 0) (by omega)) fun v hv => ?_
  obtain ⟨⟨h3, h4, _⟩, hp0, hp1⟩ := hv
  simp only [List.nil_append, List.length_nil, Nat.zero_add]
  refine Evp.pos (by omega) ?_
  refine Evp.bind (pick_ev hs (n := 3) (by omega) (by omega)) fun r1 hr1 => ?_
  refine Evp.ite (fun _ => ?_) fun _ => ?_
  · refine Evp.bind (l91Kind_ev hs (by omega)) fun r2 hr2 => ?_
    refine Evp.bind (l91Vec_ev hs (by omega)) fun u hu => Evp.some' ⟨?_, ?_⟩
    · show v.1.length ≤ 10; omega
    · have := hu.1.2.1; show u.1.length ≤ 10; omega
  · refine Evp.bind (pick_ev hs (n := (v.1.length : Int)) (by omega) (by omega)) fun r2 hr2 => ?_
    refine Evp.bind (pick_ev hs (n := 31) (by omega) (by omega)) fun r3 hr3 => ?_
    refine Evp.pos (by omega) (Evp.pos (by omega) ?_)
    refine Evp.bind (l91Kind_ev hs (by omega)) fun r4 hr4 => Evp.some' ⟨?_, ?_⟩
    · show v.1.length ≤ 10; omega
    · show (v.1.set r2.1.toNat r3.1).length ≤ 10; rw [List.length_set]; omega
theorem FnApart : laws_FnApart.Pure := by
  intro l hm hl hw
  refine Evp.rounds ?_
  have key : ∀ (kind : Int) (a b : List Int) (c : Bool), a.length ≤ 10 → b.length ≤ 10 → (c = false → ¬ Lc.lapart kind a b < 0) → Evp (fun k => laws_FnApart.j0 k kind a b (Lc.lapart kind a b) c) (· = true) := fun kind a b c ha hb hc => by
    refine Evp.step (fun k => by rw [laws_FnApart.j0]) ?_
    refine Evp.ite (fun _ => ?_) fun h => ?_
    · refine Evp.bind (spec_CodeApart_ev kind (by omega) (by omega)) fun t ht => ?_
      subst ht
      exact Evp.some' (by simp)
    · obtain ⟨hk, va, vb, he⟩ := lapart_neg (hc (by simpa using h))
      refine Evp.bind (lkInts_ev (by omega)) fun t ht => ?_
      subst ht
      by_cases hab : a = b
      · refine Evp.pos (decide_eq_true hab) (Evp.some' ?_)
        rw [he, hab, lcount_self _ 8 0 (by rw [lall_len])]; rfl
      · refine Evp.neg (by simpa using hab) ?_
        obtain ⟨f1, f2⟩ := apart_far hk va vb hab
        have hmo : impl_CodeMost.f kind = some (mostOf kind) := by
          unfold impl_CodeMost.f mostOf
          rcases lkind_cases hk with rfl | rfl <;> rfl
        rw [hmo]
        simp only [Option.bind_some]
        refine Evp.pos (by omega) (Evp.pos (by omega) ?_)
        refine Evp.bind (Q := (· = Lc.lapart kind b a)) (Evp.some' rfl) fun t ht => ?_
        subst ht
        exact Evp.some' (by rw [lapart_sym]; simp)
  unfold laws_FnApart.f
  refine Evp.ite (fun _ => Evp.some' rfl) fun h => ?_
  refine Evp.bind (drawCodeApart_ev (fun x hx => bounds_u8 (hw x hx))) fun m hd => ?_
  refine Evp.bind (Q := (· = Lc.lapart m.1 m.2.1 m.2.2)) (Evp.some' rfl) fun t ht => ?_
  subst ht
  refine Evp.bind (spec_CodeApart_ev _ (by omega) (by omega)) fun t ht => ?_
  subst ht
  exact Evp.pos rfl (key _ _ _ _ hd.1 hd.2 fun h0 => of_decide_eq_false h0)
end Go.Proofs.Ytamaejafddmagaa.Pure
