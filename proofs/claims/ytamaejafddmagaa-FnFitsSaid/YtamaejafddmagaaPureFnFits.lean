import Derived.Test.YtamaejafddmagaaPAx0
import Derived.Test.YtamaejafddmagaaPAx1
import Derived.Test.YtamaejafddmagaaPAx8
import Derived.Test.YtamaejafddmagaaPAx13
import Derived.Test.YtamaejafddmagaaPAx16
import Derived.Test.YtamaejafddmagaaPAx20
import Derived.Test.YtamaejafddmagaaPAx4
import Derived.Test.YtamaejafddmagaaPAx6
import Derived.Test.YtamaejafddmagaaMa
import Derived.Laws.BitsAllLaws
import Derived.Laws.BitsLemmas
import Derived.Test.YtamaejafddmagaaXor
import Derived.Test.YtamaejafddmagaaCodeLin
import Derived.Test.YtamaejafddmagaaBears
import Derived.OpenShut
/- Of the printed functions over single rows: what a walk by hand wants of them. -/
set_option linter.unusedVariables false
set_option linter.unusedSimpArgs false
namespace Go.Proofs.Ytamaejafddmagaa.Pure
open Go.RowKit Go.Proofs.Ytamaejafddmagaa.PA Go.Proofs.YtamaejafddmagaaW.PrintWords Go.Proofs.YtamaejafddmagaaW.PrintLast Go.Proofs.YtamaejafddmagaaW.PrintMore Go.Proofs.Ytamaejafddmagaa.Lin

def Evp {α : Type} (g : Nat → Option α) (Q : α → Prop) : Prop := ∃ r, Q r ∧ ∃ K, ∀ k, K ≤ k → g k = some r
theorem Evp.some' {α : Type} {r : α} {Q : α → Prop} (h : Q r) : Evp (fun _ => some r) Q := ⟨r, h, 0, fun _ _ => rfl⟩
theorem Evp.bind {α β : Type} {g : Nat → Option α} {f : Nat → α → Option β} {Q : α → Prop} {T : β → Prop} (h : Evp g Q) (k : ∀ r, Q r → Evp (fun n => f n r) T) : Evp (fun n => (g n).bind (f n)) T := by
  obtain ⟨r, hq, K, h⟩ := h; obtain ⟨s, ht, K', k⟩ := k r hq; refine ⟨s, ht, max K K', fun n hn => ?_⟩
  have h1 := h n (by omega)
  have h2 := k n (by omega)
  simp only [h1, Option.bind_some]; exact h2
theorem Evp.step {α : Type} {g f : Nat → Option α} {Q : α → Prop} (h : ∀ k, g (k + 1) = f k) (k : Evp f Q) : Evp g Q := by
  obtain ⟨r, hq, K, k⟩ := k; refine ⟨r, hq, K + 1, fun n hn => ?_⟩
  obtain ⟨m, rfl⟩ : ∃ m, n = m + 1 := ⟨n - 1, by omega⟩
  rw [h]; exact k m (by omega)
theorem Evp.congr {α : Type} {g f : Nat → Option α} {Q : α → Prop} (h : ∀ k, g k = f k) (k : Evp f Q) : Evp g Q := by
  obtain ⟨r, hq, K, k⟩ := k; exact ⟨r, hq, K, fun n hn => (h n).trans (k n hn)⟩
theorem Evp.mono {α : Type} {g : Nat → Option α} {Q T : α → Prop} (h : Evp g Q) (k : ∀ r, Q r → T r) : Evp g T := by
  obtain ⟨r, hq, K, h⟩ := h; exact ⟨r, k r hq, K, h⟩
theorem Evp.rounds {α : Type} {g : Nat → Option α} {r : α} (h : Evp g (· = r)) : ∃ k, g k = some r := by
  obtain ⟨s, rfl, K, h⟩ := h; exact ⟨K, h K (Nat.le_refl _)⟩
theorem Evp.ite {α : Type} {c : Prop} [Decidable c] {g f : Nat → Option α} {Q : α → Prop} (h : c → Evp g Q) (k : ¬ c → Evp f Q) : Evp (fun n => if c then g n else f n) Q := by
  by_cases hc : c
  · simp only [if_pos hc]; exact h hc
  · simp only [if_neg hc]; exact k hc
theorem Evp.pos {α : Type} {c : Prop} [Decidable c] {g f : Nat → Option α} {Q : α → Prop} (hc : c) (h : Evp g Q) : Evp (fun n => if c then g n else f n) Q := by
  simp only [if_pos hc]; exact h
theorem Evp.neg {α : Type} {c : Prop} [Decidable c] {g f : Nat → Option α} {Q : α → Prop} (hc : ¬ c) (h : Evp f Q) : Evp (fun n => if c then g n else f n) Q := by
  simp only [if_neg hc]; exact h
theorem wrap_small {x : Int} (h : -9223372036854775808 ≤ x ∧ x ≤ 9223372036854775807) : wrap64 x = x := by unfold wrap64; omega
theorem tmod31 {x : Int} (h : 0 ≤ x) : Int.tmod x 31 = x % 31 := Int.tmod_eq_emod_of_nonneg h
theorem tmod_pos {x n : Int} (h : 0 ≤ x) : Int.tmod x n = x % n := Int.tmod_eq_emod_of_nonneg h
theorem tmod31_bounds (x : Int) : -30 ≤ Int.tmod x 31 ∧ Int.tmod x 31 ≤ 30 ∧ Int.tmod x 31 % 31 = x % 31 := by
  rcases Int.le_total 0 x with h | h
  · rw [tmod31 h]; omega
  · have e : Int.tmod x 31 = -(Int.tmod (-x) 31) := by rw [Int.neg_tmod, Int.neg_neg]
    rw [e, tmod31 (by omega)]; omega

theorem spec_FieldOk_eq (a : Int) : spec_FieldOk.f a = some (ok a) := by
  unfold spec_FieldOk.f spec_l6In.f ok
  by_cases h : a ≥ 0
  · rw [if_pos h]; simp [show (a ≤ 30) = (a < 31) by rw [eq_iff_iff]; omega, h]
  · rw [if_neg h]; simp [h]
theorem impl_FieldOk_eq (a : Int) : impl_FieldOk.f a = some (ok a) := by
  unfold impl_FieldOk.f impl_within.f ok
  by_cases h : a ≥ 0
  · rw [if_pos h]; simp [show (a ≤ 30) = (a < 31) by rw [eq_iff_iff]; omega, h]
  · rw [if_neg h]; simp [h]
theorem elementOf_eq {x : Int} (h : -1000000000 ≤ x ∧ x ≤ 1000000000) : impl_elementOf.f x = some (x % 31) := by
  unfold impl_elementOf.f
  have := tmod31_bounds x
  rw [wrap_small (by omega), tmod31 (by omega)]
  congr 1; omega
theorem mul_small {a b : Int} (ha : ok a = true) (hb : ok b = true) : 0 ≤ a * b ∧ a * b ≤ 900 := by
  rw [ok_iff] at ha hb
  constructor
  · exact Int.mul_nonneg ha.1 hb.1
  · have h1 : a * b ≤ a * 30 := Int.mul_le_mul_of_nonneg_left (by omega) ha.1
    omega
theorem impl_plus_eq {a b : Int} (ha : ok a = true) (hb : ok b = true) : impl_element_plus.f a b = some ((a + b) % 31) := by
  unfold impl_element_plus.f; rw [ok_iff] at ha hb; rw [wrap_small (by omega), elementOf_eq (by omega)]; rfl
theorem impl_minus_eq {a b : Int} (ha : ok a = true) (hb : ok b = true) : impl_element_minus.f a b = some ((a - b) % 31) := by
  unfold impl_element_minus.f; rw [ok_iff] at ha hb; rw [wrap_small (by omega), elementOf_eq (by omega)]; rfl
theorem impl_times_eq {a b : Int} (ha : ok a = true) (hb : ok b = true) : impl_element_times.f a b = some (a * b % 31) := by
  unfold impl_element_times.f
  have := mul_small ha hb
  rw [wrap_small (by omega), elementOf_eq (by omega)]; rfl
theorem impl_FieldSum_eq (a b : Int) : impl_FieldSum.f a b = some (fsum a b) := by
  unfold impl_FieldSum.f fsum; rw [impl_FieldOk_eq, impl_FieldOk_eq]
  cases ha : ok a
  · simp
  · cases hb : ok b
    · simp
    · simp [impl_plus_eq ha hb]
theorem inverse_all : ∀ a : Fin 31, a ≠ 0 → impl_element_inverse.f 12 (a.val : Int) = some (inv (a.val : Int)) := by decide +kernel
theorem l1Inv_all : ∀ a : Fin 31, spec_l1Inv.f 40 (a.val : Int) = some (inv (a.val : Int)) := by decide +kernel
theorem fin_of {a : Int} (h : ok a = true) : ∃ x : Fin 31, (x.val : Int) = a := by
  rw [ok_iff] at h; exact ⟨⟨a.toNat, by omega⟩, by simp only; omega⟩
theorem inverse_at {a : Int} (h : ok a = true) (h0 : a ≠ 0) : impl_element_inverse.f 12 a = some (inv a) := by
  obtain ⟨x, rfl⟩ := fin_of h; exact inverse_all x (fun e => h0 (by rw [e]; rfl))
theorem l1Inv_at {a : Int} (h : ok a = true) : spec_l1Inv.f 40 a = some (inv a) := by
  obtain ⟨x, rfl⟩ := fin_of h; exact l1Inv_all x
theorem ev_of {α : Type} {g : Nat → Option α} {r : α} (hg : ∀ k, LeO (g k) (g (k + 1))) {k : Nat} (h : g k = some r) : Evp g (· = r) := ⟨r, rfl, k, fun n hn => at_rounds hg hn h⟩
theorem impl_inverse_ev {a : Int} (h : ok a = true) (h0 : a ≠ 0) : Evp (fun k => impl_element_inverse.f k a) (· = inv a) := ev_of (impl_element_inverse.mono a) (inverse_at h h0)
theorem spec_l1Inv_ev {a : Int} (h : ok a = true) : Evp (fun k => spec_l1Inv.f k a) (· = inv a) := ev_of (spec_l1Inv.mono a) (l1Inv_at h)
theorem ofInt_i64 (a : Nat) (ha : a < 9223372036854775808) : (BitVec.ofInt 64 (a : Int)).toNat = a := by
  rw [BitVec.ofInt_natCast, BitVec.toNat_ofNat]; exact Nat.mod_eq_of_lt (by omega)
theorem xor_nonneg {a b : Int} (ha : 0 ≤ a ∧ a < 1000000000000) (hb : 0 ≤ b ∧ b < 1000000000000) : 0 ≤ Go.bits .xor .i64 a b := by
  obtain ⟨x, rfl⟩ := Int.eq_ofNat_of_zero_le ha.1; obtain ⟨y, rfl⟩ := Int.eq_ofNat_of_zero_le hb.1; have hx : x ^^^ y < 2 ^ 63 := Nat.xor_lt_two_pow (by omega) (by omega)
  have e : Go.bits .xor .i64 (x : Int) (y : Int) = ((x ^^^ y : Nat) : Int) := by
    show IntKind.i64.wrap ((BitVec.ofInt 64 (x : Int) ^^^ BitVec.ofInt 64 (y : Int)).toNat : Int) = _
    rw [BitVec.toNat_xor, ofInt_i64 x (by omega), ofInt_i64 y (by omega), IntKind.wrap_i64]
    omega
  rw [e]; omega
/-- what a reader holds -/
def St (l : List Int) : Prop := l.length ≤ 2000 ∧ ∀ x ∈ l, 0 ≤ x ∧ x ≤ 255
theorem rd_range {l : List Int} (h : St l) (i : Int) : 0 ≤ rd l i ∧ rd l i ≤ 255 := by
  unfold rd; rw [List.getD_eq_getElem?_getD]
  rcases Nat.lt_or_ge i.toNat l.length with hi | hi
  · rw [List.getElem?_eq_getElem hi]; exact h.2 _ (List.getElem_mem hi)
  · rw [List.getElem?_eq_none hi]; decide
theorem open_eq (l : List Int) (h : ∀ x ∈ l, 0 ≤ x ∧ x ≤ 255) : ∃ l', spec_l6Open.f l = some (l', 0) ∧ St l' := by
  unfold spec_l6Open.f
  by_cases hl : (l.length : Int) > 2000
  · rw [if_pos hl, if_pos (by omega)]
    exact ⟨_, rfl, by simp; omega, fun x hx => h x (List.mem_of_mem_take hx)⟩
  · rw [if_neg hl]
    exact ⟨l, rfl, by omega, h⟩
theorem pick_ev {l : List Int} (hs : St l) {p n : Int} (hp : 0 ≤ p ∧ p ≤ 100000) (hn : 1 ≤ n ∧ n ≤ 1000000) :
    Evp (fun k => spec_l6Rd_pick.f k l p n) (fun r => 0 ≤ r.1 ∧ r.1 < n ∧ r.2 = p + 1) := by
  have hw : wrap64 (p + 1) = p + 1 := wrap_small (by omega)
  have hw1 : wrap64 (p + 1 - 1) = p := by rw [wrap_small (by omega)]; omega
  unfold spec_l6Rd_pick.f; simp only [if_neg (show ¬ n < 1 by omega), hw]; refine Evp.step (fun k => by rw [spec_l6Rd_pick.j0]) ?_
  by_cases hl : (l.length : Int) = 0
  · simp only [hl, beq_self_eq_true, if_true]
    exact Evp.some' ⟨Int.le_refl _, by show (0 : Int) < n; omega, rfl⟩
  · simp only [beq_eq_false_iff_ne.2 hl, Bool.false_eq_true, if_false, hw1]
    have hlp : 0 < (l.length : Int) := by omega
    have hl2 : (l.length : Int) ≤ 2000 := by have := hs.1; omega
    by_cases hlt : p < (l.length : Int)
    · have hr := rd_range hs p
      rw [if_pos hlt, if_pos hp.1, if_neg (by omega), wrap_small (by omega), tmod_pos hr.1]; exact Evp.some' ⟨Int.emod_nonneg _ (by omega), Int.emod_lt_of_pos _ (by omega), rfl⟩
    · rw [if_neg hlt, if_neg hl]
      have e7 : wrap64 (p * 7) = p * 7 := wrap_small (by omega); have e8 : wrap64 (p * 7 + 3) = p * 7 + 3 := wrap_small (by omega); rw [e7, e8, tmod_pos (n := (l.length : Int)) hp.1, tmod_pos (x := p * 7 + 3) (n := (l.length : Int)) (by omega)]
      have a1 := Int.emod_nonneg p (show (l.length : Int) ≠ 0 by omega)
      have a2 := Int.emod_lt_of_pos p hlp
      have b1 := Int.emod_nonneg (p * 7 + 3) (show (l.length : Int) ≠ 0 by omega)
      have b2 := Int.emod_lt_of_pos (p * 7 + 3) hlp
      rw [if_pos a1, if_pos a2, if_pos b1, if_pos b2, if_neg (by omega)]
      have r1 := rd_range hs (p % (l.length : Int))
      have r2 := rd_range hs ((p * 7 + 3) % (l.length : Int))
      generalize rd l (p % (l.length : Int)) = u at *; generalize rd l ((p * 7 + 3) % (l.length : Int)) = v at *; have ed : Int.tdiv p (l.length : Int) = p / (l.length : Int) := Int.tdiv_eq_ediv_of_nonneg hp.1; have d1 : 0 ≤ p / (l.length : Int) := Int.ediv_nonneg hp.1 (by omega); have d2 : p / (l.length : Int) ≤ p := Int.ediv_le_self _ hp.1; rw [ed]; generalize p / (l.length : Int) = q at *
      rw [wrap_small (x := u) (by omega), wrap_small (x := u * 131) (by omega), wrap_small (x := v) (by omega), wrap_small (x := v * 1117) (by omega), wrap_small (x := u * 131 + v * 1117) (by omega), wrap_small (x := p * 29) (by omega),
        wrap_small (x := u * 131 + v * 1117 + p * 29) (by omega), wrap_small (x := q) (by omega), wrap_small (x := q * 53) (by omega), wrap_small (x := u * 131 + v * 1117 + p * 29 + q * 53) (by omega)]
      generalize hz : u * 131 + v * 1117 + p * 29 + q * 53 = z
      have hz0 : 0 ≤ z ∧ z < 100000000 := by omega
      have e64 : Int.tdiv z 64 = z / 64 := Int.tdiv_eq_ediv_of_nonneg hz0.1; rw [e64, wrap_small (x := z / 64) (by omega), tmod_pos (xor_nonneg (by omega) (by omega))]; exact Evp.some' ⟨Int.emod_nonneg _ (by omega), Int.emod_lt_of_pos _ (by omega), rfl⟩
theorem rd_nat (l : List Int) (i : Nat) : rd l (i : Int) = l.getD i 0 := by unfold rd; rw [Int.toNat_natCast]
theorem getD_get {l : List Int} {i : Nat} (h : i < l.length) : l.getD i 0 = l[i] := by rw [List.getD_eq_getElem?_getD, List.getElem?_eq_getElem h]; rfl
theorem wrap_succ {i : Nat} (h : i ≤ 1000000000000000) : wrap64 ((i : Int) + 1) = ((i + 1 : Nat) : Int) := by rw [wrap_small (by omega)]; omega
theorem llead_drop {l : List Int} {i : Nat} (h : ∀ j, j < i → l.getD j 0 = 0) (hi : i < l.length) (hne : l.getD i 0 ≠ 0) : llead l = (i : Int) := by
  rcases llead_cases l with ⟨_, hz⟩ | ⟨j, hj, e, hn, hb⟩
  · exact absurd (hz i) hne
  · rcases Nat.lt_trichotomy i j with c | c | c
    · exact absurd (hb i c) hne
    · rw [e, c]
    · exact absurd (h j c) hn
theorem llead_none {l : List Int} (h : ∀ j, j < l.length → l.getD j 0 = 0) : llead l = -1 := by
  rcases llead_cases l with ⟨e, _⟩ | ⟨j, hj, e, hn, hb⟩
  · exact e
  · exact absurd (h j hj) hn
theorem l2Lead_ev {l : List Int} (hl : l.length ≤ 1000000000000) : Evp (fun k => spec_l2Lead.f k l) (· = llead l) := by
  have key : ∀ d i, i + d = l.length → (∀ j, j < i → l.getD j 0 = 0) → Evp (fun k => spec_l2Lead.l0 k l (i : Int)) (· = llead l) := by
    intro d
    induction d with
    | zero =>
      intro i hi hp; refine Evp.step (fun k => by rw [spec_l2Lead.l0]) ?_; refine Evp.neg (by omega) ?_; exact Evp.some' (llead_none (fun j hj => hp j (by omega))).symm
    | succ d ih =>
      intro i hi hp; refine Evp.step (fun k => by rw [spec_l2Lead.l0]) ?_; refine Evp.pos (by omega) (Evp.pos (by omega) ?_); rw [rd_nat, wrap_succ (by omega)]
      refine Evp.ite (fun h => ih (i + 1) (by omega) fun j hj => ?_) fun h => Evp.some' (llead_drop hp (by omega) h).symm
      rcases Nat.lt_or_ge j i with c | c
      · exact hp j c
      · have : j = i := by omega
        subst this; exact h
  exact key l.length 0 (by omega) (fun j hj => absurd hj (Nat.not_lt_zero j))
theorem can_small {l : List Int} (h : can l) (i : Nat) : 0 ≤ l.getD i 0 ∧ l.getD i 0 < 31 := ok_iff.1 (can_get h i)
theorem zip_take {α : Type} (f : Int → Int → α) {a b : List Int} {i : Nat} (h1 : i < a.length) (h2 : i < b.length) : List.zipWith f (a.take (i + 1)) (b.take (i + 1)) = List.zipWith f (a.take i) (b.take i) ++ [f (a.getD i 0) (b.getD i 0)] := by
  rw [List.take_succ_eq_append_getElem h1, List.take_succ_eq_append_getElem h2, List.zipWith_append (by simp; omega), getD_get h1, getD_get h2]; rfl
theorem l2Dot_ev {a b : List Int} (ha : can a) (hb : can b) (hl : a.length = b.length) (hn : a.length ≤ 1000000000000) : Evp (fun k => spec_l2Dot.f k a b) (· = ldot a b) := by
  have key : ∀ d i, i + d = a.length → Evp (fun k => spec_l2Dot.l0 k a b (ldot (a.take i) (b.take i)) (i : Int)) (· = ldot a b) := by
    intro d
    induction d with
    | zero =>
      intro i hi; refine Evp.step (fun k => by rw [spec_l2Dot.l0]) ?_; refine Evp.neg (by omega) ?_; rw [List.take_of_length_le (by omega), List.take_of_length_le (by omega)]; exact Evp.some' rfl
    | succ d ih =>
      intro i hi; refine Evp.step (fun k => by rw [spec_l2Dot.l0]) ?_; refine Evp.pos (by omega) (Evp.pos (by omega) (Evp.pos (by omega) ?_)); rw [rd_nat, rd_nat, wrap_succ (by omega)]
      have hm := mul_small (ok_iff.2 (can_small ha i)) (ok_iff.2 (can_small hb i))
      have hr := ldot_range (a.take i) (b.take i)
      rw [wrap_small (x := a.getD i 0 * b.getD i 0) (by omega), wrap_small (x := ldot (a.take i) (b.take i) + a.getD i 0 * b.getD i 0) (by omega), tmod31 (by omega)]
      have e : ldot (a.take (i + 1)) (b.take (i + 1)) = (ldot (a.take i) (b.take i) + a.getD i 0 * b.getD i 0) % 31 := by
        unfold ldot; rw [zip_take _ (by omega) (by omega), List.foldl_append]; rfl
      rw [← e]; exact ih (i + 1) (by omega)
  have := key a.length 0 (by omega)
  unfold spec_l2Dot.f
  simpa [ldot] using this
theorem l2Scale_ev {a : List Int} (ha : can a) {c : Int} (hc : ok c = true) (hn : a.length ≤ 1000000000000) : Evp (fun k => spec_l2Scale.f k a c) (· = lscale a c) := by
  have key : ∀ d i, i + d = a.length → Evp (fun k => spec_l2Scale.l0 k a c (lscale (a.take i) c) (i : Int)) (· = lscale a c) := by
    intro d
    induction d with
    | zero =>
      intro i hi; refine Evp.step (fun k => by rw [spec_l2Scale.l0]) ?_; refine Evp.neg (by omega) ?_; rw [List.take_of_length_le (by omega)]; exact Evp.some' rfl
    | succ d ih =>
      intro i hi; refine Evp.step (fun k => by rw [spec_l2Scale.l0]) ?_
      have hm := mul_small (ok_iff.2 (can_small ha i)) hc
      refine Evp.pos (by omega) (Evp.pos (by omega) (Evp.pos (by rw [lscale_len, List.length_take]; omega) ?_)); rw [rd_nat, wrap_succ (by omega), wrap_small (by omega), tmod31 hm.1]
      have e : lscale (a.take (i + 1)) c = lscale (a.take i) c ++ [a.getD i 0 * c % 31] := by
        unfold lscale; rw [List.take_succ_eq_append_getElem (by omega), List.map_append, getD_get (by omega)]; rfl
      rw [← e]; exact ih (i + 1) (by omega)
  have := key a.length 0 (by omega)
  unfold spec_l2Scale.f
  simpa [lscale] using this
theorem l2Sum_ev {a b : List Int} (ha : can a) (hb : can b) (hl : a.length = b.length) (hn : a.length ≤ 1000000000000) : Evp (fun k => spec_l2Sum.f k a b) (· = lsum a b) := by
  have key : ∀ d i, i + d = a.length → Evp (fun k => spec_l2Sum.l0 k a b (lsum (a.take i) (b.take i)) (i : Int)) (· = lsum a b) := by
    intro d
    induction d with
    | zero =>
      intro i hi; refine Evp.step (fun k => by rw [spec_l2Sum.l0]) ?_; refine Evp.neg (by omega) ?_; rw [List.take_of_length_le (by omega), List.take_of_length_le (by omega)]; exact Evp.some' rfl
    | succ d ih =>
      intro i hi; refine Evp.step (fun k => by rw [spec_l2Sum.l0]) ?_
      have h1 := can_small ha i
      have h2 := can_small hb i
      refine Evp.pos (by omega) (Evp.pos (by omega) (Evp.pos (by omega) (Evp.pos (by rw [lsum_len (by simp; omega), List.length_take]; omega) ?_))); rw [rd_nat, rd_nat, wrap_succ (by omega), wrap_small (by omega), tmod31 (by omega)]
      have e : lsum (a.take (i + 1)) (b.take (i + 1)) = lsum (a.take i) (b.take i) ++ [(a.getD i 0 + b.getD i 0) % 31] := by
        unfold lsum; rw [zip_take _ (by omega) (by omega)]
      rw [← e]; exact ih (i + 1) (by omega)
  have := key a.length 0 (by omega)
  unfold spec_l2Sum.f
  simpa [lsum] using this

theorem rdL1_nat (m : List (List Int)) (i : Nat) : rd_L5 m (i : Int) = m.getD i [] := by unfold rd_L5; rw [Int.toNat_natCast]
/-- a row as the program's own vector -/
def toS (r : List Int) : S70 := ⟨r.getD 0 0, r.getD 1 0, r.getD 2 0, r.getD 3 0⟩
def l12 (x : S102) : List Int := [x.f0.f0, x.f0.f1, x.f0.f2, x.f0.f3, x.f1.f0, x.f1.f1, x.f1.f2, x.f1.f3, x.f1.f4, x.f1.f5, x.f1.f6, x.f1.f7]
def m12 (l : List Int) : S102 := ⟨⟨l.getD 0 0, l.getD 1 0, l.getD 2 0, l.getD 3 0⟩, ⟨l.getD 4 0, l.getD 5 0, l.getD 6 0, l.getD 7 0, l.getD 8 0, l.getD 9 0, l.getD 10 0, l.getD 11 0⟩⟩
def T12 (l : List Int) : Int × Int × Int × Int × Int × Int × Int × Int × Int × Int × Int × Int := (l.getD 0 0, l.getD 1 0, l.getD 2 0, l.getD 3 0, l.getD 4 0, l.getD 5 0, l.getD 6 0, l.getD 7 0, l.getD 8 0, l.getD 9 0, l.getD 10 0, l.getD 11 0)
/-- a kept row taken away -/
def kl (k r : List Int) : List Int := List.zipWith (fun x y => (x - y * gt k (llead (r.take 4)) % 31) % 31) k r
def kred (R : List (List Int)) (z : List Int) : List Int := R.foldl kl z
def Good (r : List Int) : Prop := r.length = 12 ∧ can r ∧ ld (toW r) < 4
theorem kl_len {k r : List Int} (hk : k.length = 12) (hr : r.length = 12) : (kl k r).length = 12 := by simp [kl, hk, hr]
theorem can_kl (k r : List Int) : can (kl k r) := fun x hx => by
  obtain ⟨i, hi, rfl⟩ := List.getElem_of_mem hx; simp only [kl, List.getElem_zipWith]; exact mod_ok _
theorem kl_get {k r : List Int} (hk : k.length = 12) (hr : r.length = 12) {j : Nat} (hj : j < 12) : (kl k r).getD j 0 = (k.getD j 0 - r.getD j 0 * gt k (llead (r.take 4)) % 31) % 31 := by
  have h1 : j < (kl k r).length := by rw [kl_len hk hr]; exact hj
  rw [List.getD_eq_getElem?_getD, List.getElem?_eq_getElem h1, List.getD_eq_getElem?_getD, List.getElem?_eq_getElem (by omega), List.getD_eq_getElem?_getD, List.getElem?_eq_getElem (by omega)]; simp only [kl, List.getElem_zipWith, Option.getD_some]
theorem l12_m12 {l : List Int} (h : l.length = 12) : l12 (m12 l) = l := by
  match l, h with
  | [a, b, c, d, e, f, g, i, j, k, m, n], _ => rfl
theorem toW_take4 (r : List Int) {i : Nat} (h : i < 4) : toW (r.take 4) i = toW r i := by
  unfold toW; rw [List.getD_eq_getElem?_getD, List.getD_eq_getElem?_getD, List.getElem?_take_of_lt h]
theorem ld_take4 (r : List Int) : ld (toW (r.take 4)) = ld (toW r) := ld_congr fun i hi => toW_take4 r hi
theorem can_take {r : List Int} (h : can r) (n : Nat) : can (r.take n) := fun x hx => h x (List.mem_of_mem_take hx)
theorem take4_four {l : List Int} (h : l.length = 12) : [l.getD 0 0, l.getD 1 0, l.getD 2 0, l.getD 3 0] = l.take 4 := by
  match l, h with
  | [a, b, c, d, e, f, g, i, j, k, m, n], _ => rfl
theorem good_lead {r : List Int} (h : Good r) : llead (r.take 4) = (ld (toW r) : Int) := by
  rw [llead_ld (can_take h.2.1 4) (by rw [ld_take4]; exact h.2.2), ld_take4]
theorem toW_kl {k r : List Int} (hk : k.length = 12) (hr : Good r) : toW (kl k r) = less (toW k) (toW r) := by
  funext j
  have e := good_lead hr
  show toF ((kl k r).getD j 0) = toF (k.getD j 0) + -(toF (k.getD (ld (toW r)) 0)) * toF (r.getD j 0)
  rcases Nat.lt_or_ge j 12 with hj | hj
  · rw [kl_get hk hr.1 hj, e, gt_nat, toF_mod, Int.sub_eq_add_neg, toF_add]
    have : toF (-(r.getD j 0 * k.getD (ld (toW r)) 0 % 31)) = -(toF (r.getD j 0 * k.getD (ld (toW r)) 0)) := by
      have h1 : toF (-(r.getD j 0 * k.getD (ld (toW r)) 0 % 31)) + toF (r.getD j 0 * k.getD (ld (toW r)) 0) = 0 := by
        rw [← toF_add, ← toF_zero, toF_eq]; omega
      grind
    rw [this, toF_mul]; grind
  · rw [List.getD_eq_getElem?_getD, List.getElem?_eq_none (by rw [kl_len hk hr.1]; exact hj), List.getD_eq_getElem?_getD (l := k), List.getElem?_eq_none (by omega), List.getD_eq_getElem?_getD (l := r), List.getElem?_eq_none (by have := hr.1; omega)]
    simp only [Option.getD_none, toF_zero]; grind
theorem kred_len {R : List (List Int)} (hR : ∀ r ∈ R, Good r) : ∀ {z : List Int}, z.length = 12 → (kred R z).length = 12 := by
  induction R with
  | nil => intro z h; exact h
  | cons r R ih => intro z h; exact ih (fun s hs => hR s (by simp [hs])) (kl_len h (hR r (by simp)).1)
theorem can_kred {R : List (List Int)} : ∀ {z : List Int}, can z → can (kred R z) := by
  induction R with
  | nil => intro z h; exact h
  | cons r R ih => intro z h; exact ih (can_kl z r)
theorem toW_kred {R : List (List Int)} (hR : ∀ r ∈ R, Good r) : ∀ {z : List Int}, z.length = 12 → toW (kred R z) = red (R.map toW) (toW z) := by
  induction R with
  | nil => intro z h; rfl
  | cons r R ih =>
    intro z h
    show toW (kred R (kl z r)) = red (R.map toW) (less (toW z) (toW r))
    rw [ih (fun s hs => hR s (by simp [hs])) (kl_len h (hR r (by simp)).1), toW_kl h (hR r (by simp))]
theorem pick4 {α : Type} {p : Nat} (hp : p < 4) (f : Nat → α) (e : α) : (if (p : Int) = 0 then f 0 else if (p : Int) = 1 then f 1 else if (p : Int) = 2 then f 2 else if (p : Int) = 3 then f 3 else e) = f p := by
  match p, hp with
  | 0, _ => rfl
  | 1, _ => rfl
  | 2, _ => rfl
  | 3, _ => rfl
theorem pick8 {α : Type} {p : Nat} (hp : p < 8) (f : Nat → α) (e : α) : (if (p : Int) = 0 then f 0 else if (p : Int) = 1 then f 1 else if (p : Int) = 2 then f 2 else if (p : Int) = 3 then f 3 else if (p : Int) = 4 then f 4 else if (p : Int) = 5 then f 5 else if (p : Int) = 6 then f 6 else if (p : Int) = 7 then f 7 else e) = f p := by
  match p, hp with
  | 0, _ => rfl
  | 1, _ => rfl
  | 2, _ => rfl
  | 3, _ => rfl
  | 4, _ => rfl
  | 5, _ => rfl
  | 6, _ => rfl
  | 7, _ => rfl
theorem vtimes_eq {a b c d x : Int} (ha : ok a = true) (hb : ok b = true) (hc : ok c = true) (hd : ok d = true) (hx : ok x = true) : impl_vector_times.f a b c d x = some (a * x % 31, b * x % 31, c * x % 31, d * x % 31) := by
  unfold impl_vector_times.f; rw [if_pos ⟨⟨ok_iff.1 ha, ok_iff.1 hb, ok_iff.1 hc, ok_iff.1 hd⟩, ok_iff.1 hx⟩]
theorem vminus_eq {a b c d p q r s : Int} (ha : ok a = true) (hb : ok b = true) (hc : ok c = true) (hd : ok d = true) (hp : ok p = true) (hq : ok q = true) (hr : ok r = true) (hs : ok s = true) : impl_vector_minus.f a b c d p q r s = some ((a - p) % 31, (b - q) % 31, (c - r) % 31, (d - s) % 31) := by
  unfold impl_vector_minus.f; rw [elementOf_eq (by omega), Option.bind_some, show (-1 : Int) % 31 = 30 by decide, vtimes_eq hp hq hr hs (by decide), Option.bind_some]; unfold impl_vector_plus.f; rw [ok_iff] at *; rw [if_pos ⟨⟨ha, hb, hc, hd⟩, emod_range _, emod_range _, emod_range _, emod_range _⟩]; simp only [Option.bind_some, Option.some.injEq, Prod.mk.injEq]; refine ⟨by omega, by omega, by omega, by omega⟩
theorem less_l1_ev {L : List S102} {n i c a0 a1 a2 a3 a4 a5 a6 a7 a8 a9 a10 a11 r0 r1 r2 r3 r4 r5 r6 r7 r8 r9 r10 r11 : Int} (hc : ok c = true) (ha4 : ok a4 = true) (ha5 : ok a5 = true) (ha6 : ok a6 = true) (ha7 : ok a7 = true) (ha8 : ok a8 = true) (ha9 : ok a9 = true) (ha10 : ok a10 = true) (ha11 : ok a11 = true) (hr4 : ok r4 = true) (hr5 : ok r5 = true) (hr6 : ok r6 = true) (hr7 : ok r7 = true) (hr8 : ok r8 = true) (hr9 : ok r9 = true) (hr10 : ok r10 = true) (hr11 : ok r11 = true) {Q : _ → Prop} (h : Evp (fun k => impl_span_less.l0 k L n (wrap64 (i + 1)) a0 a1 a2 a3 ((a4 - r4 * c % 31) % 31) ((a5 - r5 * c % 31) % 31) ((a6 - r6 * c % 31) % 31) ((a7 - r7 * c % 31) % 31) ((a8 - r8 * c % 31) % 31) ((a9 - r9 * c % 31) % 31) ((a10 - r10 * c % 31) % 31) ((a11 - r11 * c % 31) % 31)) Q) : Evp (fun k => impl_span_less.l1 k c L n i 0 a0 a1 a2 a3 a4 a5 a6 a7 a8 a9 a10 a11 r0 r1 r2 r3 r4 r5 r6 r7 r8 r9 r10 r11) Q := by
  refine Evp.step (f := fun k => impl_span_less.l1 k c L n i 1 a0 a1 a2 a3 ((a4 - r4 * c % 31) % 31) a5 a6 a7 a8 a9 a10 a11 r0 r1 r2 r3 r4 r5 r6 r7 r8 r9 r10 r11) (fun k => by rw [impl_span_less.l1, if_pos (by decide), if_pos rfl, impl_times_eq hr4 hc, Option.bind_some, impl_minus_eq ha4 (mod_ok _), Option.bind_some, (by unfold wrap64; omega : wrap64 ((0 : Int) + 1) = 1)]) ?_; refine Evp.step (f := fun k => impl_span_less.l1 k c L n i 2 a0 a1 a2 a3 ((a4 - r4 * c % 31) % 31) ((a5 - r5 * c % 31) % 31) a6 a7 a8 a9 a10 a11 r0 r1 r2 r3 r4 r5 r6 r7 r8 r9 r10 r11) (fun k => by rw [impl_span_less.l1, if_pos (by decide), if_neg (by decide), if_pos rfl, impl_times_eq hr5 hc, Option.bind_some, impl_minus_eq ha5 (mod_ok _), Option.bind_some, (by unfold wrap64; omega : wrap64 ((1 : Int) + 1) = 2)]) ?_; refine Evp.step (f := fun k => impl_span_less.l1 k c L n i 3 a0 a1 a2 a3 ((a4 - r4 * c % 31) % 31) ((a5 - r5 * c % 31) % 31) ((a6 - r6 * c % 31) % 31) a7 a8 a9 a10 a11 r0 r1 r2 r3 r4 r5 r6 r7 r8 r9 r10 r11) (fun k => by rw [impl_span_less.l1, if_pos (by decide), if_neg (by decide), if_neg (by decide), if_pos rfl, impl_times_eq hr6 hc, Option.bind_some, impl_minus_eq ha6 (mod_ok _), Option.bind_some, (by unfold wrap64; omega : wrap64 ((2 : Int) + 1) = 3)]) ?_; refine Evp.step (f := fun k => impl_span_less.l1 k c L n i 4 a0 a1 a2 a3 ((a4 - r4 * c % 31) % 31) ((a5 - r5 * c % 31) % 31) ((a6 - r6 * c % 31) % 31) ((a7 - r7 * c % 31) % 31) a8 a9 a10 a11 r0 r1 r2 r3 r4 r5 r6 r7 r8 r9 r10 r11) (fun k => by rw [impl_span_less.l1, if_pos (by decide), if_neg (by decide), if_neg (by decide), if_neg (by decide), if_pos rfl, impl_times_eq hr7 hc, Option.bind_some, impl_minus_eq ha7 (mod_ok _), Option.bind_some, (by unfold wrap64; omega : wrap64 ((3 : Int) + 1) = 4)]) ?_; refine Evp.step (f := fun k => impl_span_less.l1 k c L n i 5 a0 a1 a2 a3 ((a4 - r4 * c % 31) % 31) ((a5 - r5 * c % 31) % 31) ((a6 - r6 * c % 31) % 31) ((a7 - r7 * c % 31) % 31) ((a8 - r8 * c % 31) % 31) a9 a10 a11 r0 r1 r2 r3 r4 r5 r6 r7 r8 r9 r10 r11) (fun k => by rw [impl_span_less.l1, if_pos (by decide), if_neg (by decide), if_neg (by decide), if_neg (by decide), if_neg (by decide), if_pos rfl, impl_times_eq hr8 hc, Option.bind_some, impl_minus_eq ha8 (mod_ok _), Option.bind_some, (by unfold wrap64; omega : wrap64 ((4 : Int) + 1) = 5)]) ?_; refine Evp.step (f := fun k => impl_span_less.l1 k c L n i 6 a0 a1 a2 a3 ((a4 - r4 * c % 31) % 31) ((a5 - r5 * c % 31) % 31) ((a6 - r6 * c % 31) % 31) ((a7 - r7 * c % 31) % 31) ((a8 - r8 * c % 31) % 31) ((a9 - r9 * c % 31) % 31) a10 a11 r0 r1 r2 r3 r4 r5 r6 r7 r8 r9 r10 r11) (fun k => by rw [impl_span_less.l1, if_pos (by decide), if_neg (by decide), if_neg (by decide), if_neg (by decide), if_neg (by decide), if_neg (by decide), if_pos rfl, impl_times_eq hr9 hc, Option.bind_some, impl_minus_eq ha9 (mod_ok _), Option.bind_some, (by unfold wrap64; omega : wrap64 ((5 : Int) + 1) = 6)]) ?_; refine Evp.step (f := fun k => impl_span_less.l1 k c L n i 7 a0 a1 a2 a3 ((a4 - r4 * c % 31) % 31) ((a5 - r5 * c % 31) % 31) ((a6 - r6 * c % 31) % 31) ((a7 - r7 * c % 31) % 31) ((a8 - r8 * c % 31) % 31) ((a9 - r9 * c % 31) % 31) ((a10 - r10 * c % 31) % 31) a11 r0 r1 r2 r3 r4 r5 r6 r7 r8 r9 r10 r11) (fun k => by rw [impl_span_less.l1, if_pos (by decide), if_neg (by decide), if_neg (by decide), if_neg (by decide), if_neg (by decide), if_neg (by decide), if_neg (by decide), if_pos rfl, impl_times_eq hr10 hc, Option.bind_some, impl_minus_eq ha10 (mod_ok _), Option.bind_some, (by unfold wrap64; omega : wrap64 ((6 : Int) + 1) = 7)]) ?_; refine Evp.step (f := fun k => impl_span_less.l1 k c L n i 8 a0 a1 a2 a3 ((a4 - r4 * c % 31) % 31) ((a5 - r5 * c % 31) % 31) ((a6 - r6 * c % 31) % 31) ((a7 - r7 * c % 31) % 31) ((a8 - r8 * c % 31) % 31) ((a9 - r9 * c % 31) % 31) ((a10 - r10 * c % 31) % 31) ((a11 - r11 * c % 31) % 31) r0 r1 r2 r3 r4 r5 r6 r7 r8 r9 r10 r11) (fun k => by rw [impl_span_less.l1, if_pos (by decide), if_neg (by decide), if_neg (by decide), if_neg (by decide), if_neg (by decide), if_neg (by decide), if_neg (by decide), if_neg (by decide), if_pos rfl, impl_times_eq hr11 hc, Option.bind_some, impl_minus_eq ha11 (mod_ok _), Option.bind_some, (by unfold wrap64; omega : wrap64 ((7 : Int) + 1) = 8)]) ?_; exact Evp.step (f := fun k => impl_span_less.l0 k L n (wrap64 (i + 1)) a0 a1 a2 a3 ((a4 - r4 * c % 31) % 31) ((a5 - r5 * c % 31) % 31) ((a6 - r6 * c % 31) % 31) ((a7 - r7 * c % 31) % 31) ((a8 - r8 * c % 31) % 31) ((a9 - r9 * c % 31) % 31) ((a10 - r10 * c % 31) % 31) ((a11 - r11 * c % 31) % 31)) (fun k => by rw [impl_span_less.l1, if_neg (by decide)]) h
theorem less_j1_ev {L : List S102} {n i c a0 a1 a2 a3 a4 a5 a6 a7 a8 a9 a10 a11 r0 r1 r2 r3 r4 r5 r6 r7 r8 r9 r10 r11 : Int} (hc : ok c = true) (ha0 : ok a0 = true) (ha1 : ok a1 = true) (ha2 : ok a2 = true) (ha3 : ok a3 = true) (ha4 : ok a4 = true) (ha5 : ok a5 = true) (ha6 : ok a6 = true) (ha7 : ok a7 = true) (ha8 : ok a8 = true) (ha9 : ok a9 = true) (ha10 : ok a10 = true) (ha11 : ok a11 = true) (hr0 : ok r0 = true) (hr1 : ok r1 = true) (hr2 : ok r2 = true) (hr3 : ok r3 = true) (hr4 : ok r4 = true) (hr5 : ok r5 = true) (hr6 : ok r6 = true) (hr7 : ok r7 = true) (hr8 : ok r8 = true) (hr9 : ok r9 = true) (hr10 : ok r10 = true) (hr11 : ok r11 = true) {Q : _ → Prop} (h : Evp (fun k => impl_span_less.l0 k L n (wrap64 (i + 1)) ((a0 - r0 * c % 31) % 31) ((a1 - r1 * c % 31) % 31) ((a2 - r2 * c % 31) % 31) ((a3 - r3 * c % 31) % 31) ((a4 - r4 * c % 31) % 31) ((a5 - r5 * c % 31) % 31) ((a6 - r6 * c % 31) % 31) ((a7 - r7 * c % 31) % 31) ((a8 - r8 * c % 31) % 31) ((a9 - r9 * c % 31) % 31) ((a10 - r10 * c % 31) % 31) ((a11 - r11 * c % 31) % 31)) Q) : Evp (fun k => impl_span_less.j1 k c L n i a0 a1 a2 a3 a4 a5 a6 a7 a8 a9 a10 a11 r0 r1 r2 r3 r4 r5 r6 r7 r8 r9 r10 r11) Q := by
  refine Evp.step (f := fun k => impl_span_less.l1 k c L n i 0 ((a0 - r0 * c % 31) % 31) ((a1 - r1 * c % 31) % 31) ((a2 - r2 * c % 31) % 31) ((a3 - r3 * c % 31) % 31) a4 a5 a6 a7 a8 a9 a10 a11 r0 r1 r2 r3 r4 r5 r6 r7 r8 r9 r10 r11) (fun k => by rw [impl_span_less.j1, vtimes_eq hr0 hr1 hr2 hr3 hc, Option.bind_some, vminus_eq ha0 ha1 ha2 ha3 (mod_ok _) (mod_ok _) (mod_ok _) (mod_ok _), Option.bind_some]) ?_; exact less_l1_ev hc ha4 ha5 ha6 ha7 ha8 ha9 ha10 ha11 hr4 hr5 hr6 hr7 hr8 hr9 hr10 hr11 h
theorem rdK {L : List S102} {i : Nat} (h : i < L.length) : rd_T102 L (i : Int) = L[i] := by
  unfold rd_T102; rw [Int.toNat_natCast, List.getD_eq_getElem?_getD, List.getElem?_eq_getElem h]; rfl
theorem l12_ok {x : S102} (h : can (l12 x)) : ok x.f0.f0 = true ∧ ok x.f0.f1 = true ∧ ok x.f0.f2 = true ∧ ok x.f0.f3 = true ∧ ok x.f1.f0 = true ∧ ok x.f1.f1 = true ∧ ok x.f1.f2 = true ∧ ok x.f1.f3 = true ∧ ok x.f1.f4 = true ∧ ok x.f1.f5 = true ∧ ok x.f1.f6 = true ∧ ok x.f1.f7 = true := by
  refine ⟨?_, ?_, ?_, ?_, ?_, ?_, ?_, ?_, ?_, ?_, ?_, ?_⟩ <;> exact h _ (by simp [l12])
theorem less_l0_ev {L : List S102} (hL : ∀ x ∈ L, Good (l12 x)) (hn : L.length ≤ 1000000) : ∀ (d i : Nat), i + d = L.length → ∀ a : List Int, a.length = 12 → can a →
    Evp (fun k => impl_span_less.l0 k L (L.length : Int) (i : Int) (a.getD 0 0) (a.getD 1 0) (a.getD 2 0) (a.getD 3 0) (a.getD 4 0) (a.getD 5 0) (a.getD 6 0) (a.getD 7 0) (a.getD 8 0) (a.getD 9 0) (a.getD 10 0) (a.getD 11 0)) (· = T12 (kred ((L.drop i).map l12) a)) := by
  intro d
  induction d with
  | zero =>
    intro i hi a ha hc; refine Evp.step (fun k => by rw [impl_span_less.l0]) (Evp.neg (by omega) (Evp.some' ?_)); rw [List.drop_eq_nil_of_le (by omega)]; rfl
  | succ d ih =>
    intro i hi a ha hc
    have hi1 : i < L.length := by omega
    have hg := hL _ (List.getElem_mem hi1)
    have hl := good_lead hg
    obtain ⟨o0, o1, o2, o3, o4, o5, o6, o7, o8, o9, o10, o11⟩ := l12_ok hg.2.1; refine Evp.step (fun k => by rw [impl_span_less.l0]) (Evp.pos (by omega) (Evp.pos (by omega) (Evp.pos (by omega) ?_))); rw [rdK hi1, List.drop_eq_getElem_cons hi1, List.map_cons]
    have hp := hg.2.2
    generalize hpp : ld (toW (l12 L[i])) = p at hl hp
    have e : impl_vector_lead.f L[i].f0.f0 L[i].f0.f1 L[i].f0.f2 L[i].f0.f3 = some (p : Int) := by rw [← hl]; rfl
    simp only [e, Option.bind_some]; refine Evp.congr (fun k => pick4 hp (fun j => impl_span_less.j1 k (a.getD j 0) L (L.length : Int) (i : Int) (a.getD 0 0) (a.getD 1 0) (a.getD 2 0) (a.getD 3 0) (a.getD 4 0) (a.getD 5 0) (a.getD 6 0) (a.getD 7 0) (a.getD 8 0) (a.getD 9 0) (a.getD 10 0) (a.getD 11 0) L[i].f0.f0 L[i].f0.f1 L[i].f0.f2 L[i].f0.f3 L[i].f1.f0 L[i].f1.f1 L[i].f1.f2 L[i].f1.f3 L[i].f1.f4 L[i].f1.f5 L[i].f1.f6 L[i].f1.f7) none) ?_; refine less_j1_ev (can_get hc p) (can_get hc 0) (can_get hc 1) (can_get hc 2) (can_get hc 3) (can_get hc 4) (can_get hc 5) (can_get hc 6) (can_get hc 7) (can_get hc 8) (can_get hc 9) (can_get hc 10) (can_get hc 11) o0 o1 o2 o3 o4 o5 o6 o7 o8 o9 o10 o11 ?_
    have hk := ih (i + 1) (by omega) (kl a (l12 L[i])) (kl_len ha hg.1) (can_kl _ _)
    rw [kl_get ha hg.1 (by omega : 0 < 12), kl_get ha hg.1 (by omega : 1 < 12), kl_get ha hg.1 (by omega : 2 < 12), kl_get ha hg.1 (by omega : 3 < 12), kl_get ha hg.1 (by omega : 4 < 12), kl_get ha hg.1 (by omega : 5 < 12), kl_get ha hg.1 (by omega : 6 < 12), kl_get ha hg.1 (by omega : 7 < 12), kl_get ha hg.1 (by omega : 8 < 12), kl_get ha hg.1 (by omega : 9 < 12), kl_get ha hg.1 (by omega : 10 < 12), kl_get ha hg.1 (by omega : 11 < 12), hl, gt_nat] at hk; rw [wrap_succ (by omega)]; exact hk
theorem less_ev {L : List S102} (hL : ∀ x ∈ L, Good (l12 x)) (hn : L.length ≤ 1000000) (P : List Int) {a : List Int} (ha : a.length = 12) (hc : can a) :
    Evp (fun k => impl_span_less.f k L P (a.getD 0 0) (a.getD 1 0) (a.getD 2 0) (a.getD 3 0) (a.getD 4 0) (a.getD 5 0) (a.getD 6 0) (a.getD 7 0) (a.getD 8 0) (a.getD 9 0) (a.getD 10 0) (a.getD 11 0)) (· = T12 (kred (L.map l12) a)) := by
  have := less_l0_ev hL hn L.length 0 (by omega) a ha hc
  rw [List.drop_zero] at this; exact this
/-- a row, told so that it begins with 1 -/
def kunit (z : List Int) : List Int := z.map fun x => x * inv (gt z (llead (z.take 4))) % 31
theorem span_l1_ev {M : List S70} {L : List S102} {P : List Int} {n i q c z0 z1 z2 z3 z4 z5 z6 z7 z8 z9 z10 z11 : Int} (hL : L.length ≤ 1000000) (hP : P.length ≤ 1000000) (hc : ok c = true) (hz4 : ok z4 = true) (hz5 : ok z5 = true) (hz6 : ok z6 = true) (hz7 : ok z7 = true) (hz8 : ok z8 = true) (hz9 : ok z9 = true) (hz10 : ok z10 = true) (hz11 : ok z11 = true) {Q : _ → Prop} (h : Evp (fun k => impl_spanOf.l0 k M n (wrap64 (i + 1)) (L ++ [(⟨⟨z0, z1, z2, z3⟩, ⟨(z4 * c % 31), (z5 * c % 31), (z6 * c % 31), (z7 * c % 31), (z8 * c % 31), (z9 * c % 31), (z10 * c % 31), (z11 * c % 31)⟩⟩ : S102)]) (P ++ [q])) Q) : Evp (fun k => impl_spanOf.l1 k q c M n i 0 L P z0 z1 z2 z3 z4 z5 z6 z7 z8 z9 z10 z11) Q := by
  refine Evp.step (f := fun k => impl_spanOf.l1 k q c M n i 1 L P z0 z1 z2 z3 (z4 * c % 31) z5 z6 z7 z8 z9 z10 z11) (fun k => by rw [impl_spanOf.l1, if_pos (by decide), if_pos rfl, impl_times_eq hz4 hc, Option.bind_some, (by unfold wrap64; omega : wrap64 ((0 : Int) + 1) = 1)]) ?_; refine Evp.step (f := fun k => impl_spanOf.l1 k q c M n i 2 L P z0 z1 z2 z3 (z4 * c % 31) (z5 * c % 31) z6 z7 z8 z9 z10 z11) (fun k => by rw [impl_spanOf.l1, if_pos (by decide), if_neg (by decide), if_pos rfl, impl_times_eq hz5 hc, Option.bind_some, (by unfold wrap64; omega : wrap64 ((1 : Int) + 1) = 2)]) ?_; refine Evp.step (f := fun k => impl_spanOf.l1 k q c M n i 3 L P z0 z1 z2 z3 (z4 * c % 31) (z5 * c % 31) (z6 * c % 31) z7 z8 z9 z10 z11) (fun k => by rw [impl_spanOf.l1, if_pos (by decide), if_neg (by decide), if_neg (by decide), if_pos rfl, impl_times_eq hz6 hc, Option.bind_some, (by unfold wrap64; omega : wrap64 ((2 : Int) + 1) = 3)]) ?_; refine Evp.step (f := fun k => impl_spanOf.l1 k q c M n i 4 L P z0 z1 z2 z3 (z4 * c % 31) (z5 * c % 31) (z6 * c % 31) (z7 * c % 31) z8 z9 z10 z11) (fun k => by rw [impl_spanOf.l1, if_pos (by decide), if_neg (by decide), if_neg (by decide), if_neg (by decide), if_pos rfl, impl_times_eq hz7 hc, Option.bind_some, (by unfold wrap64; omega : wrap64 ((3 : Int) + 1) = 4)]) ?_; refine Evp.step (f := fun k => impl_spanOf.l1 k q c M n i 5 L P z0 z1 z2 z3 (z4 * c % 31) (z5 * c % 31) (z6 * c % 31) (z7 * c % 31) (z8 * c % 31) z9 z10 z11) (fun k => by rw [impl_spanOf.l1, if_pos (by decide), if_neg (by decide), if_neg (by decide), if_neg (by decide), if_neg (by decide), if_pos rfl, impl_times_eq hz8 hc, Option.bind_some, (by unfold wrap64; omega : wrap64 ((4 : Int) + 1) = 5)]) ?_; refine Evp.step (f := fun k => impl_spanOf.l1 k q c M n i 6 L P z0 z1 z2 z3 (z4 * c % 31) (z5 * c % 31) (z6 * c % 31) (z7 * c % 31) (z8 * c % 31) (z9 * c % 31) z10 z11) (fun k => by rw [impl_spanOf.l1, if_pos (by decide), if_neg (by decide), if_neg (by decide), if_neg (by decide), if_neg (by decide), if_neg (by decide), if_pos rfl, impl_times_eq hz9 hc, Option.bind_some, (by unfold wrap64; omega : wrap64 ((5 : Int) + 1) = 6)]) ?_; refine Evp.step (f := fun k => impl_spanOf.l1 k q c M n i 7 L P z0 z1 z2 z3 (z4 * c % 31) (z5 * c % 31) (z6 * c % 31) (z7 * c % 31) (z8 * c % 31) (z9 * c % 31) (z10 * c % 31) z11) (fun k => by rw [impl_spanOf.l1, if_pos (by decide), if_neg (by decide), if_neg (by decide), if_neg (by decide), if_neg (by decide), if_neg (by decide), if_neg (by decide), if_pos rfl, impl_times_eq hz10 hc, Option.bind_some, (by unfold wrap64; omega : wrap64 ((6 : Int) + 1) = 7)]) ?_; refine Evp.step (f := fun k => impl_spanOf.l1 k q c M n i 8 L P z0 z1 z2 z3 (z4 * c % 31) (z5 * c % 31) (z6 * c % 31) (z7 * c % 31) (z8 * c % 31) (z9 * c % 31) (z10 * c % 31) (z11 * c % 31)) (fun k => by rw [impl_spanOf.l1, if_pos (by decide), if_neg (by decide), if_neg (by decide), if_neg (by decide), if_neg (by decide), if_neg (by decide), if_neg (by decide), if_neg (by decide), if_pos rfl, impl_times_eq hz11 hc, Option.bind_some, (by unfold wrap64; omega : wrap64 ((7 : Int) + 1) = 8)]) ?_; exact Evp.step (f := fun k => impl_spanOf.l0 k M n (wrap64 (i + 1)) (L ++ [(⟨⟨z0, z1, z2, z3⟩, ⟨(z4 * c % 31), (z5 * c % 31), (z6 * c % 31), (z7 * c % 31), (z8 * c % 31), (z9 * c % 31), (z10 * c % 31), (z11 * c % 31)⟩⟩ : S102)]) (P ++ [q])) (fun k => by rw [impl_spanOf.l1, if_neg (by decide), if_pos (by omega), if_pos (by omega)]) h
theorem span_j2_ev {M : List S70} {L : List S102} {P : List Int} {n i q c z0 z1 z2 z3 z4 z5 z6 z7 z8 z9 z10 z11 : Int} (hL : L.length ≤ 1000000) (hP : P.length ≤ 1000000) (hc : ok c = true) (hz0 : ok z0 = true) (hz1 : ok z1 = true) (hz2 : ok z2 = true) (hz3 : ok z3 = true) (hz4 : ok z4 = true) (hz5 : ok z5 = true) (hz6 : ok z6 = true) (hz7 : ok z7 = true) (hz8 : ok z8 = true) (hz9 : ok z9 = true) (hz10 : ok z10 = true) (hz11 : ok z11 = true) {Q : _ → Prop} (h : Evp (fun k => impl_spanOf.l0 k M n (wrap64 (i + 1)) (L ++ [(⟨⟨(z0 * c % 31), (z1 * c % 31), (z2 * c % 31), (z3 * c % 31)⟩, ⟨(z4 * c % 31), (z5 * c % 31), (z6 * c % 31), (z7 * c % 31), (z8 * c % 31), (z9 * c % 31), (z10 * c % 31), (z11 * c % 31)⟩⟩ : S102)]) (P ++ [q])) Q) : Evp (fun k => impl_spanOf.j2 k q c M n i L P z0 z1 z2 z3 z4 z5 z6 z7 z8 z9 z10 z11) Q := by
  refine Evp.step (f := fun k => impl_spanOf.l1 k q c M n i 0 L P (z0 * c % 31) (z1 * c % 31) (z2 * c % 31) (z3 * c % 31) z4 z5 z6 z7 z8 z9 z10 z11) (fun k => by rw [impl_spanOf.j2, vtimes_eq hz0 hz1 hz2 hz3 hc, Option.bind_some]) ?_; exact span_l1_ev hL hP hc hz4 hz5 hz6 hz7 hz8 hz9 hz10 hz11 h
/-- row n with its tail -/
def augl (m : List (List Int)) (n : Nat) : List Int := [(m.getD n []).getD 0 0, (m.getD n []).getD 1 0, (m.getD n []).getD 2 0, (m.getD n []).getD 3 0, if n = 0 then 1 else 0, if n = 1 then 1 else 0, if n = 2 then 1 else 0, if n = 3 then 1 else 0, if n = 4 then 1 else 0, if n = 5 then 1 else 0, if n = 6 then 1 else 0, if n = 7 then 1 else 0]
def kpush (s : List (List Int) × List Int) (n : Nat) (z : List Int) : List (List Int) × List Int :=
  if llead ((kred s.1 z).take 4) < 0 then s else (s.1 ++ [kunit (kred s.1 z)], s.2 ++ [(n : Int)])
/-- rows that are kept behind the first n, and their places -/
def kspan (m : List (List Int)) : Nat → List (List Int) × List Int
  | 0 => ([], [])
  | n + 1 => kpush (kspan m n) n (augl m n)
theorem augl_len (m : List (List Int)) (n : Nat) : (augl m n).length = 12 := rfl
theorem can_augl {m : List (List Int)} (hm : ∀ r ∈ m, vok r = true) {n : Nat} (hn : n < m.length) : can (augl m n) := by
  have hv : can (m.getD n []) := by
    rw [List.getD_eq_getElem?_getD, List.getElem?_eq_getElem hn]; exact (vok_iff.1 (hm _ (List.getElem_mem hn))).2
  intro x hx; simp only [augl, List.mem_cons, List.not_mem_nil, or_false] at hx
  have key : ∀ (c : Prop) [Decidable c], ok (if c then 1 else 0) = true := fun c _ => by split <;> decide
  rcases hx with rfl | rfl | rfl | rfl | rfl | rfl | rfl | rfl | rfl | rfl | rfl | rfl <;> first | exact can_get hv _ | exact key _
theorem kunit_len {z : List Int} (h : z.length = 12) : (kunit z).length = 12 := by simp [kunit, h]
theorem can_kunit (z : List Int) : can (kunit z) := fun x hx => by
  simp only [kunit, List.mem_map] at hx; obtain ⟨y, _, rfl⟩ := hx; exact mod_ok _
theorem lead_cases12 {z : List Int} (hz : z.length = 12) (hc : can z) : (llead (z.take 4) < 0 ∧ ld (toW z) = 4) ∨ (llead (z.take 4) = (ld (toW z) : Int) ∧ ld (toW z) < 4) := by
  have hv : vok (z.take 4) = true := vok_iff.2 ⟨by simp [hz], can_take hc 4⟩
  rcases Nat.lt_or_ge (ld (toW z)) 4 with h | h
  · exact .inr ⟨by rw [llead_ld (can_take hc 4) (by rw [ld_take4]; exact h), ld_take4], h⟩
  · have h4 : ld (toW z) = 4 := by have := ld_le (toW z); omega
    exact .inl ⟨(llead_neg hv).2 (by rw [ld_take4]; exact h4), h4⟩
theorem kunit_get (z : List Int) (j : Nat) : (kunit z).getD j 0 = z.getD j 0 * inv (gt z (llead (z.take 4))) % 31 := by
  unfold kunit
  rcases Nat.lt_or_ge j z.length with hj | hj
  · rw [List.getD_eq_getElem?_getD, List.getElem?_eq_getElem (by simpa using hj), List.getD_eq_getElem?_getD, List.getElem?_eq_getElem hj]; simp
  · rw [List.getD_eq_getElem?_getD, List.getElem?_eq_none (by simpa using hj), List.getD_eq_getElem?_getD, List.getElem?_eq_none hj]; simp
theorem toW_kunit {z : List Int} (hc : can z) (hl : ld (toW z) < 4) : toW (kunit z) = unitize (toW z) := by
  have e : llead (z.take 4) = (ld (toW z) : Int) := by rw [llead_ld (can_take hc 4) (by rw [ld_take4]; exact hl), ld_take4]
  funext j
  show toF ((kunit z).getD j 0) = finv (toF (z.getD (ld (toW z)) 0)) * toF (z.getD j 0)
  rw [finv_toF (can_get hc _), kunit_get, e, gt_nat, toF_mod, toF_mul]; grind
theorem getD_map {m : List (List Int)} {n : Nat} (hn : n < m.length) : (m.map toW).getD n zz = toW (m.getD n []) := by
  rw [List.getD_eq_getElem?_getD, List.getElem?_eq_getElem (by simpa using hn), List.getD_eq_getElem?_getD, List.getElem?_eq_getElem hn]; simp
theorem tail_at (n j : Nat) {x : F} : toF (if n = j then 1 else 0) = if 4 + j < 4 then x else if 4 + j = 4 + n then 1 else 0 := by
  by_cases h : n = j
  · subst h; rw [if_neg (by omega : ¬ 4 + n < 4), if_pos rfl, if_pos rfl]; rfl
  · rw [if_neg h, if_neg (by omega : ¬ 4 + j < 4), if_neg (by omega : ¬ 4 + j = 4 + n)]; rfl
theorem toW_augl {m : List (List Int)} {n : Nat} (h8 : n < 8) (hn : n < m.length) : toW (augl m n) = aug (m.map toW) n := by
  funext j
  unfold aug; rw [getD_map hn]
  rcases Nat.lt_or_ge j 12 with hj | hj
  · match j, hj with
    | 0, _ => exact (if_pos (by omega)).symm
    | 1, _ => exact (if_pos (by omega)).symm
    | 2, _ => exact (if_pos (by omega)).symm
    | 3, _ => exact (if_pos (by omega)).symm
    | 4, _ => exact tail_at n 0
    | 5, _ => exact tail_at n 1
    | 6, _ => exact tail_at n 2
    | 7, _ => exact tail_at n 3
    | 8, _ => exact tail_at n 4
    | 9, _ => exact tail_at n 5
    | 10, _ => exact tail_at n 6
    | 11, _ => exact tail_at n 7
  · rw [if_neg (by omega), if_neg (by omega)]
    show toF ((augl m n).getD j 0) = 0
    rw [List.getD_eq_getElem?_getD, List.getElem?_eq_none (by rw [augl_len]; exact hj)]; rfl
/-- what is true of the kept rows -/
theorem kspan_inv {m : List (List Int)} (hm : ∀ r ∈ m, vok r = true) (h8 : m.length ≤ 8) : ∀ n, n ≤ m.length →
    (∀ r ∈ (kspan m n).1, Good r) ∧ (kspan m n).1.map toW = kept (m.map toW) n ∧ (kspan m n).2 = (piv (m.map toW) n).map (fun (j : Nat) => (j : Int)) ∧ (kspan m n).1.length ≤ n ∧ (kspan m n).2.length = (kspan m n).1.length := by
  intro n
  induction n with
  | zero => intro _; exact ⟨by simp [kspan], rfl, rfl, Nat.le_refl _, rfl⟩
  | succ n ih =>
    intro hn; obtain ⟨h1, h2, h3, h4, h5⟩ := ih (by omega)
    have hz := kred_len h1 (augl_len m n)
    have hc : can (kred (kspan m n).1 (augl m n)) := can_kred (can_augl hm (by omega))
    have ew : toW (kred (kspan m n).1 (augl m n)) = red (kept (m.map toW) n) (aug (m.map toW) n) := by rw [toW_kred h1 (augl_len m n), h2, toW_augl (by omega) (by omega)]
    rw [kept_succ, piv_succ]
    show (∀ r ∈ (kpush (kspan m n) n (augl m n)).1, Good r) ∧ (kpush (kspan m n) n (augl m n)).1.map toW = _ ∧ (kpush (kspan m n) n (augl m n)).2 = _ ∧ (kpush (kspan m n) n (augl m n)).1.length ≤ n + 1 ∧ (kpush (kspan m n) n (augl m n)).2.length = (kpush (kspan m n) n (augl m n)).1.length
    unfold kpush push; rw [← ew]
    rcases lead_cases12 hz hc with ⟨hl, hd⟩ | ⟨hl, hd⟩
    · rw [if_pos hl, if_pos hd, if_neg (by omega)]
      exact ⟨h1, h2, by simpa using h3, by omega, h5⟩
    · rw [if_neg (by omega), if_neg (by omega), if_pos hd]
      have hg : Good (kunit (kred (kspan m n).1 (augl m n))) := ⟨kunit_len hz, can_kunit _, by rw [toW_kunit hc hd, unitize_ld]; exact hd⟩; refine ⟨fun r hr => ?_, by rw [List.map_append, h2, List.map_singleton, toW_kunit hc hd], by rw [h3]; simp, by simp; omega, by simp [h5]⟩
      rcases List.mem_append.1 hr with hr | hr
      · exact h1 r hr
      · simp at hr; subst hr; exact hg
theorem rdV {M : List S70} {i : Nat} (h : i < M.length) : rd_T70 M (i : Int) = M[i] := by
  unfold rd_T70; rw [Int.toNat_natCast, List.getD_eq_getElem?_getD, List.getElem?_eq_getElem h]; rfl
theorem map_l12_m12 {L : List (List Int)} (h : ∀ r ∈ L, Good r) : (L.map m12).map l12 = L := by
  rw [List.map_map]
  conv => rhs; rw [← List.map_id L]
  exact List.map_congr_left fun r hr => l12_m12 (h r hr).1
theorem goods_m12 {L : List (List Int)} (h : ∀ r ∈ L, Good r) : ∀ x ∈ L.map m12, Good (l12 x) := fun x hx => by
  obtain ⟨r, hr, rfl⟩ := List.mem_map.1 hx; rw [l12_m12 (h r hr).1]; exact h r hr
theorem kunit_m12 {z : List Int} : m12 (kunit z) = (⟨⟨z.getD 0 0 * inv (gt z (llead (z.take 4))) % 31, z.getD 1 0 * inv (gt z (llead (z.take 4))) % 31, z.getD 2 0 * inv (gt z (llead (z.take 4))) % 31, z.getD 3 0 * inv (gt z (llead (z.take 4))) % 31⟩, ⟨z.getD 4 0 * inv (gt z (llead (z.take 4))) % 31, z.getD 5 0 * inv (gt z (llead (z.take 4))) % 31, z.getD 6 0 * inv (gt z (llead (z.take 4))) % 31, z.getD 7 0 * inv (gt z (llead (z.take 4))) % 31, z.getD 8 0 * inv (gt z (llead (z.take 4))) % 31, z.getD 9 0 * inv (gt z (llead (z.take 4))) % 31, z.getD 10 0 * inv (gt z (llead (z.take 4))) % 31, z.getD 11 0 * inv (gt z (llead (z.take 4))) % 31⟩⟩ : S102) := by
  unfold m12; rw [kunit_get z 0, kunit_get z 1, kunit_get z 2, kunit_get z 3, kunit_get z 4, kunit_get z 5, kunit_get z 6, kunit_get z 7, kunit_get z 8, kunit_get z 9, kunit_get z 10, kunit_get z 11]
theorem span_l0_ev {m : List (List Int)} (hm : ∀ r ∈ m, vok r = true) (h8 : m.length ≤ 8) : ∀ (d i : Nat), i + d = m.length →
    Evp (fun k => impl_spanOf.l0 k (m.map toS) (((m.map toS).length : Nat) : Int) (i : Int) ((kspan m i).1.map m12) (kspan m i).2) (· = ((kspan m m.length).1.map m12, (kspan m m.length).2)) := by
  intro d
  induction d with
  | zero =>
    intro i hi; refine Evp.step (fun k => by rw [impl_spanOf.l0]) (Evp.neg (by simp; omega) (Evp.some' ?_)); rw [show i = m.length by omega]
  | succ d ih =>
    intro i hi
    have hi1 : i < m.length := by omega
    obtain ⟨h1, h2, h3, h4, h5⟩ := kspan_inv hm h8 i (by omega)
    have hz := kred_len h1 (augl_len m i)
    have hc : can (kred (kspan m i).1 (augl m i)) := can_kred (can_augl hm hi1)
    have ih := ih (i + 1) (by omega)
    refine Evp.step (fun k => by rw [impl_spanOf.l0]) (Evp.pos (by simp; omega) (Evp.pos (by omega) (Evp.pos (by simp; omega) ?_))); rw [rdV (by simpa using hi1)]
    have em : (m.map toS)[i]'(by simpa using hi1) = toS (m.getD i []) := by rw [List.getElem_map, List.getD_eq_getElem?_getD, List.getElem?_eq_getElem hi1]; rfl
    rw [em]; refine Evp.congr (fun k => pick8 (p := i) (by omega) (fun j => impl_spanOf.j1 k (i : Int) (m.map toS) (((m.map toS).length : Nat) : Int) (i : Int) ((kspan m i).1.map m12) (kspan m i).2 (toS (m.getD i [])).f0 (toS (m.getD i [])).f1 (toS (m.getD i [])).f2 (toS (m.getD i [])).f3 (if j = 0 then 1 else 0) (if j = 1 then 1 else 0) (if j = 2 then 1 else 0) (if j = 3 then 1 else 0) (if j = 4 then 1 else 0) (if j = 5 then 1 else 0) (if j = 6 then 1 else 0) (if j = 7 then 1 else 0)) none) ?_; refine Evp.step (fun k => by rw [impl_spanOf.j1]) ?_
    refine Evp.bind (Q := (· = T12 (kred (kspan m i).1 (augl m i)))) ?_ fun t ht => ?_
    · have := less_ev (goods_m12 h1) (by simp; omega) (kspan m i).2 (augl_len m i) (can_augl hm hi1)
      rw [map_l12_m12 h1] at this; exact this
    subst ht; generalize hzz : kred (kspan m i).1 (augl m i) = z at hz hc
    have e : impl_vector_lead.f (T12 z).1 (T12 z).2.1 (T12 z).2.2.1 (T12 z).2.2.2.1 = some (llead (z.take 4)) := by
      rw [← take4_four hz]; rfl
    simp only [e, Option.bind_some]; rw [show kspan m (i + 1) = kpush (kspan m i) i (augl m i) from rfl] at ih; unfold kpush at ih; rw [hzz, ← wrap_succ (by omega)] at ih
    rcases lead_cases12 hz hc with ⟨hl, hd⟩ | ⟨hl, hd⟩
    · rw [if_pos hl] at ih
      exact Evp.pos hl ih
    · rw [if_neg (by omega)] at ih
      refine Evp.neg (by omega) ?_; rw [hl]; refine Evp.congr (fun k => pick4 hd (fun j => (impl_element_inverse.f k (z.getD j 0)).bind fun t => impl_spanOf.j2 k (i : Int) t (m.map toS) (((m.map toS).length : Nat) : Int) (i : Int) ((kspan m i).1.map m12) (kspan m i).2 (z.getD 0 0) (z.getD 1 0) (z.getD 2 0) (z.getD 3 0) (z.getD 4 0) (z.getD 5 0) (z.getD 6 0) (z.getD 7 0) (z.getD 8 0) (z.getD 9 0) (z.getD 10 0) (z.getD 11 0)) none) ?_
      have hne : z.getD (ld (toW z)) 0 ≠ 0 := fun e0 => ld_at hd (by show toF (z.getD (ld (toW z)) 0) = 0; rw [e0]; rfl)
      refine Evp.bind (impl_inverse_ev (can_get hc _) hne) fun c hcc => ?_
      subst hcc; refine span_j2_ev (by simp; omega) (by omega) (ok_iff.2 (inv_range _)) (can_get hc 0) (can_get hc 1) (can_get hc 2) (can_get hc 3) (can_get hc 4) (can_get hc 5) (can_get hc 6) (can_get hc 7) (can_get hc 8) (can_get hc 9) (can_get hc 10) (can_get hc 11) ?_; rw [List.map_append, List.map_singleton, kunit_m12, hl, gt_nat] at ih; exact ih
theorem spanOf_ev {m : List (List Int)} (hm : ∀ r ∈ m, vok r = true) (h8 : m.length ≤ 8) : Evp (fun k => impl_spanOf.f k (m.map toS)) (· = ((kspan m m.length).1.map m12, (kspan m m.length).2)) := span_l0_ev hm h8 m.length 0 (by omega)
theorem kspan_rank {m : List (List Int)} (hm : ∀ r ∈ m, vok r = true) (h8 : m.length ≤ 8) : (kspan m m.length).2.length = (ltidy m).length := by
  obtain ⟨h1, h2, h3, h4, h5⟩ := kspan_inv hm h8 m.length (Nat.le_refl _)
  have e := kept_res4 (toW_fours hm) m.length (by simp)
  rw [← List.length_map (f := toW) , List.take_of_length_le (by simp)] at e
  have e1 := congrArg List.length h2
  have e2 := congrArg List.length e
  have e3 := congrArg List.length (ltidy_toW hm).1
  have e4 := tidy_len (toW_fours hm)
  simp only [List.length_map] at e1 e2 e3 e4
  omega
theorem l3Has_eq {m : List (List Int)} (h : mok m = true) {v : List Int} (hv : vok v = true) : spec_l3Has.f m v = some (lhas m v) := by
  obtain ⟨h8, hr⟩ := mok_iff.1 h; unfold spec_l3Has.f; rw [if_pos ⟨⟨by omega, by simpa using hr⟩, hv⟩]
theorem impl_rank_ev {m : List (List Int)} (hr : ∀ r ∈ m, vok r = true) (h8 : m.length ≤ 8) : Evp (fun k => impl_rank.f k (m.map toS)) (· = ((ltidy m).length : Int)) := by
  unfold impl_rank.f
  refine Evp.bind (spanOf_ev hr h8) fun t ht => ?_
  subst ht; exact Evp.some' (by rw [kspan_rank hr h8])
def l4 (x : S70) : List Int := [x.f0, x.f1, x.f2, x.f3]
/-- a row taken away -/
def el (r s : List Int) : List Int := List.zipWith (fun x y => (x - y * gt r (llead s) % 31) % 31) r s
def tstep (i : Nat) (L : List (List Int)) : List (List Int) := L.mapIdx fun j r => if j = i then r else el r (L.getD i [])
theorem tstep_len (i : Nat) (L : List (List Int)) : (tstep i L).length = L.length := by simp [tstep]
theorem tstep_get (i : Nat) (L : List (List Int)) (j : Nat) (hj : j < L.length) : (tstep i L)[j]'(by rw [tstep_len]; exact hj) = if j = i then L[j] else el L[j] (L.getD i []) := by
  simp [tstep]
/-- the rows when the first j of them have been gone through -/
def lmid (i : Nat) (L : List (List Int)) (j : Nat) : List (List Int) := (tstep i L).take j ++ L.drop j
theorem lmid_len (i : Nat) (L : List (List Int)) {j : Nat} (hj : j ≤ L.length) : (lmid i L j).length = L.length := by
  unfold lmid; rw [List.length_append, List.length_take, List.length_drop, tstep_len]; omega
theorem lmid_get (i : Nat) (L : List (List Int)) {j q : Nat} (hj : j ≤ L.length) (hq : q < L.length) : (lmid i L j).getD q [] = if q < j then (if q = i then L.getD q [] else el (L.getD q []) (L.getD i [])) else L.getD q [] := by
  unfold lmid; rw [List.getD_eq_getElem?_getD]
  by_cases h : q < j
  · rw [if_pos h, List.getElem?_append_left (by rw [List.length_take, tstep_len]; omega), List.getElem?_take_of_lt h, List.getElem?_eq_getElem (by rw [tstep_len]; exact hq), tstep_get i L q hq]
    simp only [List.getD_eq_getElem?_getD, List.getElem?_eq_getElem hq, Option.getD_some]
  · rw [if_neg h, List.getElem?_append_right (by rw [List.length_take, tstep_len]; omega), List.length_take, tstep_len, List.getElem?_drop, show j + (q - min j L.length) = q by omega]; rfl
theorem lmid_skip (i : Nat) (L : List (List Int)) (hi : i < L.length) : lmid i L (i + 1) = lmid i L i := by
  unfold lmid; rw [List.take_succ_eq_append_getElem (by rw [tstep_len]; exact hi), tstep_get i L i hi, if_pos rfl, List.drop_eq_getElem_cons hi, List.append_assoc]; rfl
theorem lmid_set (i : Nat) (L : List (List Int)) {j : Nat} (hj : j < L.length) (hne : j ≠ i) : (lmid i L j).set j (el (L.getD j []) (L.getD i [])) = lmid i L (j + 1) := by
  unfold lmid
  have hl : ((tstep i L).take j).length = j := by rw [List.length_take, tstep_len]; omega
  rw [List.set_append_right _ _ (by omega), hl, Nat.sub_self, List.drop_eq_getElem_cons hj, List.set_cons_zero, List.take_succ_eq_append_getElem (by rw [tstep_len]; exact hj), tstep_get i L j hj, if_neg hne, List.append_assoc, List.getD_eq_getElem?_getD, List.getElem?_eq_getElem hj]; rfl
def lels (n : Nat) (L : List (List Int)) : List (List Int) := (List.range n).foldl (fun R i => tstep i R) L
theorem lels_succ (n : Nat) (L : List (List Int)) : lels (n + 1) L = tstep n (lels n L) := by simp [lels, List.range_succ]
theorem impl_kindOk_eq (k : Int) : impl_kindOk.f k = some (lkind k) := by
  unfold impl_kindOk.f impl_within.f lkind
  by_cases h : k ≥ 1
  · rw [if_pos h]; simp [show (1 ≤ k) from h]
  · rw [if_neg h]; simp [show ¬ (1 ≤ k) from h]
theorem spec_l4Kind_eq (k : Int) : spec_l4Kind.f k = some (lkind k) := by
  unfold spec_l4Kind.f spec_l6In.f lkind
  by_cases h : k ≥ 1
  · rw [if_pos h]; simp [show (1 ≤ k) from h]
  · rw [if_neg h]; simp [show ¬ (1 ≤ k) from h]
theorem spec_l4Row_eq {k a : Int} (hk : lkind k = true) (ha : lshard a = true) : spec_l4Row.f k a = some (lrow k a) := by
  have k1 : ∀ a : Fin 8, spec_l4Row.f 1 (a.val : Int) = some (lrow 1 (a.val : Int)) := by decide +kernel
  have k2 : ∀ a : Fin 8, spec_l4Row.f 2 (a.val : Int) = some (lrow 2 (a.val : Int)) := by decide +kernel
  obtain ⟨x, rfl⟩ := lshard_fin ha
  rcases lkind_cases hk with rfl | rfl
  · exact k1 x
  · exact k2 x
theorem impl_rowOf_eq {k a : Int} (hk : lkind k = true) (ha : lshard a = true) : ∃ r0 r1 r2 r3, lrow k a = [r0, r1, r2, r3] ∧ impl_rowOf.f k a = some (r0, r1, r2, r3) := by
  have e : ∀ k : Int, k = 1 ∨ k = 2 → ∀ a : Fin 8, impl_rowOf.f k (a.val : Int) = some ((lrow k (a.val : Int)).getD 0 0, (lrow k (a.val : Int)).getD 1 0, (lrow k (a.val : Int)).getD 2 0, (lrow k (a.val : Int)).getD 3 0) := by
    intro k h
    rcases h with rfl | rfl
    · decide +kernel
    · decide +kernel
  obtain ⟨r0, r1, r2, r3, h, _⟩ := vok_four (lrow_ok hk ha); refine ⟨r0, r1, r2, r3, h, ?_⟩; obtain ⟨x, rfl⟩ := lshard_fin ha; rw [e k (lkind_cases hk) x, h]; rfl
theorem impl_vector_dot_eq {a0 a1 a2 a3 b0 b1 b2 b3 : Int} (ha : vok [a0, a1, a2, a3] = true) (hb : vok [b0, b1, b2, b3] = true) : impl_vector_dot.f a0 a1 a2 a3 b0 b1 b2 b3 = some (ldot [a0, a1, a2, a3] [b0, b1, b2, b3]) := by
  have ca := (vok_iff.1 ha).2; have cb := (vok_iff.1 hb).2
  have r : ∀ (l : List Int), (∀ x ∈ l, ok x = true) → ∀ x ∈ l, 0 ≤ x ∧ x < 31 := fun l h x hx => ok_iff.1 (h x hx)
  have qa := r _ ca; have qb := r _ cb
  unfold impl_vector_dot.f; rw [if_pos ⟨⟨qa a0 (by simp), qa a1 (by simp), qa a2 (by simp), qa a3 (by simp)⟩, qb b0 (by simp), qb b1 (by simp), qb b2 (by simp), qb b3 (by simp)⟩, ldot_four]
  congr 1; omega
theorem spec_l4All_ev {k : Int} (hk : lkind k = true) {d : List Int} (hd : vok d = true) : Evp (fun n => spec_l4All.f n k d) (· = lall k d) := by
  have hdl := (vok_iff.1 hd).1
  have key : ∀ m i (out : List Int), i + m = 8 → out = (List.range i).map (fun (j : Nat) => ldot (lrow k (j : Int)) d) → Evp (fun n => spec_l4All.l0 n k d out (i : Int)) (· = lall k d) := by
    intro m
    induction m with
    | zero =>
      intro i out hi ho; refine Evp.step (fun n => by rw [spec_l4All.l0]) (Evp.neg (by omega) (Evp.some' ?_)); rw [ho, show i = 8 by omega]; rfl
    | succ m ih =>
      intro i out hi ho
      have hl : out.length = i := by rw [ho]; simp
      have hr := lrow_ok hk (lshard_nat (show i < 8 by omega))
      have hrl := (vok_iff.1 hr).1
      refine Evp.step (fun n => by rw [spec_l4All.l0]) (Evp.pos (by omega) ?_); rw [spec_l4Row_eq hk (lshard_nat (show i < 8 by omega))]; simp only [Option.bind_some]
      refine Evp.bind (l2Dot_ev (vok_iff.1 hr).2 (vok_iff.1 hd).2 (by omega) (by omega)) fun t ht => ?_
      subst ht; rw [wrap_succ (by omega)]; refine Evp.pos (by omega) (ih (i + 1) _ (by omega) ?_); rw [ho, List.range_succ, List.map_append]; rfl
  unfold spec_l4All.f; exact key 8 0 [] rfl rfl
theorem l91Kind_ev {l : List Int} (hs : St l) {p : Int} (hp : 0 ≤ p ∧ p ≤ 90000) : Evp (fun k => spec_l91Kind.f k l p) (fun r => 0 ≤ r.1 ∧ r.1 ≤ 3 ∧ r.2 = p + 2) := by
  unfold spec_l91Kind.f
  refine Evp.bind (pick_ev hs (n := 40) (by omega) (by omega)) fun r hr => ?_
  refine Evp.ite (fun _ => ?_) fun _ => ?_
  · simp only [Option.bind_some]
    refine Evp.bind (pick_ev hs (n := 2) (by omega) (by omega)) fun r2 hr2 => ?_
    refine Evp.pos (by omega) (Evp.pos (by simp; omega) (Evp.some' ?_))
    have : r2.1 = 0 ∨ r2.1 = 1 := by omega
    refine ⟨?_, ?_, by show r2.2 = p + 2; omega⟩
    · show 0 ≤ rd [0, 3] r2.1
      rcases this with h | h <;> rw [h] <;> decide
    · show rd [0, 3] r2.1 ≤ 3
      rcases this with h | h <;> rw [h] <;> decide
  · refine Evp.bind (pick_ev hs (n := 2) (by omega) (by omega)) fun r2 hr2 => Evp.some' ?_
    rw [wrap_small (by omega)]; refine ⟨?_, ?_, by show r2.2 = p + 2; omega⟩
    · show 0 ≤ 1 + r2.1; omega
    · show 1 + r2.1 ≤ 3; omega
theorem rdOf_nat (l : List Bool) (i : Nat) : rdOf false l (i : Int) = l.getD i false := by unfold rdOf; rw [Int.toNat_natCast]
/-- places of shards that are there, from i on -/
def shardsFrom (there : List Bool) (i : Nat) : List Int := ((List.range' i (there.length - i)).filter fun j => there.getD j false).map fun (j : Nat) => (j : Int)
def lshards (there : List Bool) : List Int := shardsFrom there 0
def lrows (kind : Int) (there : List Bool) : List (List Int) := (lshards there).map (lrow kind)
def lbears (kind : Int) (there : List Bool) : Bool := lkind kind && decide (there.length = 8) && decide ((ltidy (lrows kind there)).length = 4)
theorem shardsFrom_succ {there : List Bool} {i : Nat} (h : i < there.length) : shardsFrom there i = (if there.getD i false = true then [(i : Int)] else []) ++ shardsFrom there (i + 1) := by
  unfold shardsFrom; rw [show there.length - i = (there.length - (i + 1)) + 1 by omega, List.range'_succ, List.filter_cons]
  split <;> simp
theorem shardsFrom_end {there : List Bool} {i : Nat} (h : there.length ≤ i) : shardsFrom there i = [] := by
  unfold shardsFrom; rw [show there.length - i = 0 by omega]; rfl
theorem mem_shards {there : List Bool} {x : Int} (h : x ∈ lshards there) : ∃ j : Nat, j < there.length ∧ x = (j : Int) ∧ there.getD j false = true := by
  unfold lshards shardsFrom at h; obtain ⟨j, hj, rfl⟩ := List.mem_map.1 h; obtain ⟨h1, h2⟩ := List.mem_filter.1 hj; rw [List.mem_range'_1] at h1; exact ⟨j, by omega, rfl, h2⟩
theorem shards_mem {there : List Bool} {j : Nat} (h : j < there.length) (h2 : there.getD j false = true) : (j : Int) ∈ lshards there := by
  unfold lshards shardsFrom; exact List.mem_map_of_mem (List.mem_filter.2 ⟨by rw [List.mem_range'_1]; omega, h2⟩)
theorem lshards_len (there : List Bool) : (lshards there).length ≤ there.length := by
  unfold lshards shardsFrom; rw [List.length_map]; refine Nat.le_trans (List.length_filter_le _ _) ?_
  simp
theorem lrows_ok {kind : Int} (hk : lkind kind = true) {there : List Bool} (h8 : there.length = 8) : mok (lrows kind there) = true := by
  refine mok_iff.2 ⟨by unfold lrows; rw [List.length_map]; have := lshards_len there; omega, fun r hr => ?_⟩; obtain ⟨x, hx, rfl⟩ := List.mem_map.1 hr; obtain ⟨j, hj, rfl, _⟩ := mem_shards hx; exact lrow_ok hk (lshard_nat (by omega))
theorem impl_flagged_ev {there : List Bool} (h8 : there.length ≤ 1000000) : Evp (fun k => impl_flagged.f k there) (· = lshards there) := by
  have key : ∀ (d i : Nat), i + d = there.length → ∀ out : List Int, out.length ≤ i → Evp (fun k => impl_flagged.l0 k out there (there.length : Int) (i : Int)) (· = out ++ shardsFrom there i) := by
    intro d
    induction d with
    | zero =>
      intro i hi out ho; refine Evp.step (fun k => by rw [impl_flagged.l0]) (Evp.neg (by omega) (Evp.some' ?_)); rw [shardsFrom_end (by omega), List.append_nil]
    | succ d ih =>
      intro i hi out ho; refine Evp.step (fun k => by rw [impl_flagged.l0]) (Evp.pos (by omega) (Evp.pos (by omega) (Evp.pos (by omega) ?_))); rw [rdOf_nat, shardsFrom_succ (by omega), wrap_succ (by omega)]
      refine Evp.ite (fun h => ?_) fun h => ?_
      · rw [if_pos h]
        refine Evp.pos (by omega) ?_
        exact ((ih (i + 1) (by omega) (out ++ [(i : Int)]) (by simp; omega))).mono fun r hr => by rw [hr]; simp
      · rw [if_neg h]
        exact (ih (i + 1) (by omega) out (by omega)).mono fun r hr => by rw [hr]; simp
  unfold impl_flagged.f; refine Evp.pos (by decide) ?_
  exact (key there.length 0 (by omega) [] (by simp)).mono fun r hr => hr
theorem impl_rowsOf_ev {kind : Int} (hk : lkind kind = true) {l : List Int} (hl : ∀ x ∈ l, lshard x = true) (hn : l.length ≤ 1000000) : Evp (fun k => impl_rowsOf.f k kind l) (· = (l.map (lrow kind)).map toS) := by
  have key : ∀ (d i : Nat), i + d = l.length → ∀ out, out.length ≤ i → Evp (fun k => impl_rowsOf.l0 k kind out l (l.length : Int) (i : Int)) (· = out ++ ((l.drop i).map (lrow kind)).map toS) := by
    intro d
    induction d with
    | zero =>
      intro i hi out ho; refine Evp.step (fun k => by rw [impl_rowsOf.l0]) (Evp.neg (by omega) (Evp.some' ?_)); rw [List.drop_eq_nil_of_le (by omega)]; simp
    | succ d ih =>
      intro i hi out ho
      have hi1 : i < l.length := by omega
      refine Evp.step (fun k => by rw [impl_rowsOf.l0]) (Evp.pos (by omega) (Evp.pos (by omega) (Evp.pos (by omega) ?_))); obtain ⟨r0, r1, r2, r3, e1, e2⟩ := impl_rowOf_eq hk (hl _ (List.getElem_mem hi1)); rw [rd_nat, getD_get hi1, e2, wrap_succ (by omega), List.drop_eq_getElem_cons hi1]; simp only [Option.bind_some]; refine Evp.pos (by omega) ?_
      refine (ih (i + 1) (by omega) _ (by simp; omega)).mono fun r hr => ?_
      rw [hr, List.map_cons, List.map_cons, e1]; simp [toS]
  unfold impl_rowsOf.f; refine Evp.pos (by omega) (Evp.pos (by omega) ?_)
  exact (key l.length 0 (by omega) [] (by simp)).mono fun r hr => hr
theorem impl_bears_ev {kind : Int} (hk : lkind kind = true) {there : List Bool} (h8 : there.length = 8) : Evp (fun k => impl_bears.f k kind (lshards there)) (· = decide ((ltidy (lrows kind there)).length = 4)) := by
  obtain ⟨h1, h2⟩ := mok_iff.1 (lrows_ok hk h8); unfold impl_bears.f
  refine Evp.bind (impl_rowsOf_ev hk (fun x hx => by obtain ⟨j, hj, rfl, _⟩ := mem_shards hx; exact lshard_nat (by omega)) (by have := lshards_len there; omega)) fun t ht => ?_
  subst ht
  refine Evp.bind (impl_rank_ev h2 h1) fun t ht => ?_
  subst ht; refine Evp.some' ?_
  show ((((ltidy (lrows kind there)).length : Nat) : Int) == 4) = _
  rw [Bool.eq_iff_iff]; simp; omega
theorem impl_CodeBears_ev {kind : Int} {there : List Bool} : Evp (fun k => impl_CodeBears.f k kind there) (· = lbears kind there) := by
  unfold impl_CodeBears.f lbears; rw [impl_kindOk_eq]; simp only [Option.bind_some]
  refine Evp.ite (fun hk => ?_) fun hk => Evp.some' (by simp [hk])
  refine Evp.ite (fun h8 => ?_) fun h8 => Evp.some' (by simp; intro _ h; omega)
  have h8' : there.length = 8 := by omega
  refine Evp.bind (impl_flagged_ev (by omega)) fun t ht => ?_
  subst ht
  refine Evp.bind (impl_bears_ev hk h8') fun t ht => ?_
  subst ht; exact Evp.some' (by simp [hk, h8'])
theorem l4Set_len {n : Int} : Evp (fun k => spec_l4Set.f k n) (fun r => r.length = 8) := by
  have key : ∀ (d i : Nat), i + d = 8 → ∀ (n : Int) (out : List Bool), out.length = 8 → Evp (fun k => spec_l4Set.l0 k n out (i : Int)) (fun r => r.length = 8) := by
    intro d
    induction d with
    | zero =>
      intro i hi n out ho; exact Evp.step (fun k => by rw [spec_l4Set.l0]) (Evp.neg (by omega) (Evp.some' ho))
    | succ d ih =>
      intro i hi n out ho; refine Evp.step (fun k => by rw [spec_l4Set.l0]) (Evp.pos (by omega) (Evp.pos (by omega) ?_)); rw [wrap_succ (by omega)]; exact ih (i + 1) (by omega) _ _ (by simp [ho])
  unfold spec_l4Set.f; exact Evp.pos (by decide) (key 8 0 (by omega) n _ (by simp))
/-- two rows, one times the other -/
def dotW (x z : W) : F := x 0 * z 0 + x 1 * z 1 + x 2 * z 2 + x 3 * z 3
theorem dotW_zz (z : W) : dotW zz z = 0 := by simp only [dotW, zz]; grind
theorem dotW_ax (z x : W) (c : F) (y : W) : dotW (ax x c y) z = dotW x z + c * dotW y z := by simp only [dotW, ax]; grind
theorem toF_ldot {a b : List Int} (ha : vok a = true) (hb : vok b = true) : toF (ldot a b) = dotW (toW a) (toW b) := by
  obtain ⟨a0, a1, a2, a3, rfl, _⟩ := vok_four ha; obtain ⟨b0, b1, b2, b3, rfl, _⟩ := vok_four hb; rw [ldot_four, toF_mod, toF_add, toF_add, toF_add, toF_mul, toF_mul, toF_mul, toF_mul]
  rfl
theorem ldot_eq_iff {r a b : List Int} (hr : vok r = true) (ha : vok a = true) (hb : vok b = true) : ldot r a = ldot r b ↔ dotW (toW r) (toW a) = dotW (toW r) (toW b) := by
  rw [← toF_ldot hr ha, ← toF_ldot hr hb]; exact ⟨fun h => by rw [h], fun h => toF_inj (ldot_range _ _) (ldot_range _ _) h⟩
/-- what is made of rows of which two numbers' products are the same: there they are the same too -/
theorem dotW_same {R : List W} {x y : W} (h : ∀ r ∈ R, dotW r x = dotW r y) {v : W} (hv : In R v) : dotW v x = dotW v y := by
  have h1 : dotW v x - dotW v y = 0 := Sp.lin (p := fun u => dotW u x - dotW u y) (by simp only [dotW_zz]; grind) (fun u c w => by simp only [dotW_ax]; grind) (fun r hr => by simp only [h r hr]; grind) hv
  grind
theorem full_in {m : List (List Int)} (hm : ∀ r ∈ m, vok r = true) (h4 : (ltidy m).length = 4) {v : List Int} (hv : vok v = true) : In (m.map toW) (toW v) := by
  refine (lhas_iff hm hv).1 ?_
  have hm2 : ∀ r ∈ m ++ [v], vok r = true := fun r hr => by
    rcases List.mem_append.1 hr with h | h
    · exact hm r h
    · rw [List.mem_singleton.1 h]; exact hv
  have e : ltidy (m ++ [v]) = ladd (ltidy m) v := by simp [ltidy]
  have h5 := ltidy_four hm2
  have h6 := ltidy_mono hm hm2 (fun r hr => In.mem (List.mem_map_of_mem (List.mem_append_left _ hr)))
  rw [e] at h5 h6; unfold lhas; rw [beq_iff_eq]
  omega
theorem full_same {m : List (List Int)} (hm : ∀ r ∈ m, vok r = true) (h4 : (ltidy m).length = 4) {a b : List Int} (ha : vok a = true) (hb : vok b = true) (h : ∀ r ∈ m, ldot r a = ldot r b) : a = b := by
  have hR : ∀ r ∈ m.map toW, dotW r (toW a) = dotW r (toW b) := fun r hr => by
    obtain ⟨q, hq, rfl⟩ := List.mem_map.1 hr; exact (ldot_eq_iff (hm q hq) ha hb).1 (h q hq)
  have hu : ∀ u : List Int, vok u = true → dotW (toW u) (toW a) = dotW (toW u) (toW b) := fun u hu => dotW_same hR (full_in hm h4 hu)
  have h0 := hu [1, 0, 0, 0] (by decide)
  have h1 := hu [0, 1, 0, 0] (by decide)
  have h2 := hu [0, 0, 1, 0] (by decide)
  have h3 := hu [0, 0, 0, 1] (by decide)
  have z : toF 0 = 0 := rfl; have o : toF 1 = 1 := rfl; simp only [dotW, toW, List.getD_cons_zero, List.getD_cons_succ, z, o] at h0 h1 h2 h3
  refine toW_inj (vok_iff.1 ha).2 (vok_iff.1 hb).2 (by rw [(vok_iff.1 ha).1, (vok_iff.1 hb).1]) fun i hi => ?_
  rw [(vok_iff.1 ha).1] at hi; simp only [toW]
  match i, hi with
  | 0, _ => grind
  | 1, _ => grind
  | 2, _ => grind
  | 3, _ => grind
theorem bears_same {kind : Int} (hk : lkind kind = true) {there : List Bool} (h8 : there.length = 8) (hb : lbears kind there = true) {a b : List Int} (ha : vok a = true) (hc : vok b = true) (h : ∀ j : Nat, j < 8 → there.getD j false = true → ldot (lrow kind (j : Int)) a = ldot (lrow kind (j : Int)) b) : a = b := by
  have hm := (mok_iff.1 (lrows_ok hk h8)).2
  refine full_same hm (by unfold lbears at hb; simp at hb; exact hb.2) ha hc fun r hr => ?_
  obtain ⟨x, hx, rfl⟩ := List.mem_map.1 hr; obtain ⟨j, hj, rfl, ht⟩ := mem_shards hx; exact h j (by omega) ht
def sumF (f : Nat → F) : Nat → F
  | 0 => 0
  | n + 1 => sumF f n + f n
theorem sumF_congr {f g : Nat → F} : ∀ {n : Nat}, (∀ j, j < n → f j = g j) → sumF f n = sumF g n
  | 0, _ => rfl
  | n + 1, h => by rw [sumF, sumF, sumF_congr (fun j hj => h j (by omega)), h n (by omega)]
theorem sumF_shift (f : Nat → F) : ∀ n, sumF f (n + 1) = f 0 + sumF (fun j => f (j + 1)) n
  | 0 => by simp only [sumF]; grind
  | n + 1 => by rw [sumF, sumF_shift f n, sumF]; grind
theorem sumF_lin (f g : Nat → F) (c : F) : ∀ n, sumF (fun j => f j + c * g j) n = sumF f n + c * sumF g n
  | 0 => by simp only [sumF]; grind
  | n + 1 => by rw [sumF, sumF_lin f g c n, sumF, sumF]; grind
theorem sumF_one {g : Nat → F} {j : Nat} : ∀ {n : Nat}, j < n → sumF (fun i => (if i = j then 1 else 0) * g i) n = g j
  | 0, h => by omega
  | n + 1, h => by
    rw [sumF]
    by_cases e : n = j
    · subst e
      rw [if_pos rfl]
      have : sumF (fun i => (if i = n then (1 : F) else 0) * g i) n = sumF (fun _ => 0) n := sumF_congr (fun i hi => by rw [if_neg (by omega)]; grind)
      have z : ∀ m, sumF (fun _ => (0 : F)) m = 0 := fun m => by
        induction m with
        | zero => rfl
        | succ m ih => rw [sumF, ih]; grind
      rw [this, z]; grind
    · rw [if_neg e, sumF_one (by omega)]; grind
theorem dotW_comb (d : W) : ∀ (m : List W) (c : Nat → F), dotW (comb c m) d = sumF (fun j => c j * dotW (m.getD j zz) d) m.length
  | [], c => dotW_zz d
  | r :: m, c => by
    rw [comb, dotW_ax, dotW_comb d m, List.length_cons, sumF_shift]; simp only [List.getD_cons_zero, List.getD_cons_succ]; grind
/-- what a full row's tail makes of values -/
def tv (g : Nat → F) (n : Nat) (z : W) : F := sumF (fun j => tail z j * g j) n
theorem tv_ax (g : Nat → F) (n : Nat) (x : W) (c : F) (y : W) : tv g n (ax x c y) = tv g n x + c * tv g n y := by
  unfold tv; rw [← sumF_lin]
  exact sumF_congr fun j _ => by simp only [tail, ax]; grind
theorem tv_zz (g : Nat → F) (n : Nat) : tv g n zz = 0 := by
  have h := tv_ax g n zz 1 zz
  have e : ax zz 1 zz = zz := by funext i; simp only [ax, zz]; grind
  rw [e] at h; grind
def SolW (m : List W) (g : Nat → F) (d : W) : Prop := ∀ j, j < m.length → dotW (m.getD j zz) d = g j
theorem dotW_res4 (z d : W) : dotW (res4 z) d = dotW z d := by
  unfold dotW; rw [res4_at (by omega), res4_at (by omega), res4_at (by omega), res4_at (by omega)]
theorem sol_cons {m : List W} {g : Nat → F} {d : W} (h : SolW m g d) {z : W} (hz : Cons m z) : dotW z d = tv g m.length z := by
  rw [← dotW_res4, hz, dotW_comb]
  exact sumF_congr fun j hj => by rw [h j hj]
structure Redu (R : List W) : Prop where
  lt : ∀ i, i < R.length → ld (R.getD i zz) < 4
  one : ∀ i, i < R.length → (R.getD i zz) (ld (R.getD i zz)) = 1
  off : ∀ i j, i < R.length → j < R.length → i ≠ j → (R.getD i zz) (ld (R.getD j zz)) = 0
structure DD (R : List W) (v : Nat → F) (n : Nat) (d : W) : Prop where
  at_ : ∀ q, q < n → d (ld (R.getD q zz)) = v q
  off : ∀ p, p < 4 → (∀ q, q < n → ld (R.getD q zz) ≠ p) → d p = 0
theorem DD_dot {R : List W} {v : Nat → F} {d : W} (hR : Redu R) (h : DD R v R.length d) {q : Nat} (hq : q < R.length) : dotW (R.getD q zz) d = v q := by
  have h4 := hR.lt q hq
  have h1 := hR.one q hq
  have hv := h.at_ q hq
  have other : ∀ p, p < 4 → p ≠ ld (R.getD q zz) → (R.getD q zz) p * d p = 0 := fun p hp hne => by
    by_cases e : ∃ i, i < R.length ∧ ld (R.getD i zz) = p
    · obtain ⟨i, hi, rfl⟩ := e
      have := hR.off q i hq hi (fun e => hne (by rw [e]))
      rw [this]; grind
    · have := h.off p hp (fun i hi e2 => e ⟨i, hi, e2⟩)
      rw [this]; grind
  generalize ha : ld (R.getD q zz) = a at *; generalize R.getD q zz = r at *; unfold dotW
  match a, h4 with
  | 0, _ => have o1 := other 1 (by omega) (by omega); have o2 := other 2 (by omega) (by omega); have o3 := other 3 (by omega) (by omega); grind
  | 1, _ => have o1 := other 0 (by omega) (by omega); have o2 := other 2 (by omega) (by omega); have o3 := other 3 (by omega) (by omega); grind
  | 2, _ => have o1 := other 0 (by omega) (by omega); have o2 := other 1 (by omega) (by omega); have o3 := other 3 (by omega) (by omega); grind
  | 3, _ => have o1 := other 0 (by omega) (by omega); have o2 := other 1 (by omega) (by omega); have o3 := other 2 (by omega) (by omega); grind
theorem elim_res4 (i : Nat) (R : List W) : (elim i R).map res4 = elim i (R.map res4) := by
  apply List.ext_getElem (by simp [elim_len])
  intro j h1 h2; rw [List.length_map, elim_len] at h1; rw [List.getElem_map, elim_get i R j h1, elim_get i (R.map res4) j (by rw [List.length_map]; exact h1), List.getElem_map]
  split
  · rfl
  · rw [res4_less]
    congr 1
    rw [List.getD_eq_getElem?_getD, List.getD_eq_getElem?_getD, List.getElem?_map]
    cases R[i]? with
    | none => exact (res4_self (fun _ _ => rfl))
    | some x => rfl
theorem elims_res4 (R : List W) : ∀ n, (elims n R).map res4 = elims n (R.map res4)
  | 0 => rfl
  | n + 1 => by rw [elims_succ, elims_succ, elim_res4, elims_res4 R n]
theorem elims_len (R : List W) : ∀ n, (elims n R).length = R.length
  | 0 => rfl
  | n + 1 => by rw [elims_succ, elim_len, elims_len R n]
theorem mem_elim {i : Nat} {R : List W} {r : W} (h : r ∈ elim i R) : ∃ j, ∃ hj : j < R.length, r = if j = i then R[j] else less R[j] (R.getD i zz) := by
  obtain ⟨j, hj, rfl⟩ := List.getElem_of_mem h; rw [elim_len] at hj; exact ⟨j, hj, elim_get i R j hj⟩
theorem getD_memW {R : List W} {i : Nat} (hi : i < R.length) : R.getD i zz ∈ R := by
  rw [List.getD_eq_getElem?_getD, List.getElem?_eq_getElem hi]; exact List.getElem_mem hi
theorem elims_cons {m R : List W} (hR : ∀ r ∈ R, Cons m r) : ∀ n, n ≤ R.length → ∀ r ∈ elims n R, Cons m r
  | 0, _ => hR
  | n + 1, hn => fun r hr => by
    have ih := elims_cons hR n (by omega)
    rw [elims_succ] at hr; obtain ⟨j, hj, rfl⟩ := mem_elim hr
    split
    · exact ih _ (List.getElem_mem hj)
    · exact (ih _ (List.getElem_mem hj)).less (ih _ (getD_memW (by rw [elims_len]; omega)))
theorem elims_in {R : List W} : ∀ n, n ≤ R.length → ∀ r ∈ R, In (elims n R) r
  | 0, _ => fun r hr => In.mem hr
  | n + 1, hn => fun r hr => by
    refine In.sub (fun s hs => ?_) (elims_in n (by omega) r hr); rw [elims_succ]
    have hn' : n < (elims n R).length := by rw [elims_len]; omega
    have hi : (elims n R).getD n zz ∈ elim n (elims n R) := by
      have := List.getElem_mem (l := elim n (elims n R)) (n := n) (by rw [elim_len]; exact hn')
      rw [elim_get n _ n hn', if_pos rfl] at this
      rwa [List.getD_eq_getElem?_getD, List.getElem?_eq_getElem hn']
    obtain ⟨j, hj, rfl⟩ := List.getElem_of_mem hs
    have hm := List.getElem_mem (l := elim n (elims n R)) (n := j) (by rw [elim_len]; exact hj)
    rw [elim_get n _ j hj] at hm
    by_cases e : j = n
    · rw [if_pos e] at hm; exact In.mem hm
    · rw [if_neg e] at hm
      have e2 : (elims n R)[j] = ax (less (elims n R)[j] ((elims n R).getD n zz)) ((elims n R)[j] (ld ((elims n R).getD n zz))) ((elims n R).getD n zz) := by
        funext i; simp only [less, ax]; grind
      rw [e2]; exact Sp.axpy (In.mem hm) (In.mem hi) _
/-- the full rows of a matrix, gone through -/
def fullR (m : List W) : List W := elims (kept m m.length).length (kept m m.length)
theorem fullR_res4 {m : List W} (hm : ∀ r ∈ m, four r) : (fullR m).map res4 = elims (fwd m).length (fwd m) := by
  have h := kept_res4 hm m.length (Nat.le_refl _)
  rw [List.take_of_length_le (Nat.le_refl _)] at h; unfold fullR; rw [elims_res4, h, ← h, List.length_map]
theorem fullR_back {m : List W} (hm : ∀ r ∈ m, four r) : Back (fwd m) ((fullR m).map res4) (fwd m).length := by
  rw [fullR_res4 hm]; exact elims_back (fwd_ech hm) (fwd_four hm) _ (Nat.le_refl _)
theorem fullR_len {m : List W} (hm : ∀ r ∈ m, four r) : (fullR m).length = (fwd m).length := by
  have := (fullR_back hm).len
  rwa [List.length_map] at this
theorem fullR_redu {m : List W} (hm : ∀ r ∈ m, four r) : Redu (fullR m) := by
  have b := fullR_back hm
  have hl := fullR_len hm
  have he := fwd_ech hm
  have g : ∀ i (hi : i < (fullR m).length), ((fullR m).map res4)[i]'(by rw [List.length_map]; exact hi) = res4 ((fullR m).getD i zz) := fun i hi => by
    rw [List.getElem_map, List.getD_eq_getElem?_getD, List.getElem?_eq_getElem hi]; rfl
  have lt : ∀ i, i < (fullR m).length → ld ((fullR m).getD i zz) < 4 := fun i hi => by
    have h1 := b.lead i (by rw [List.length_map]; exact hi)
    rw [g i hi, res4_ld] at h1; rw [h1, List.getD_eq_getElem?_getD, List.getElem?_eq_getElem (by omega)]; exact (he.one _ (List.getElem_mem _)).1
  refine ⟨lt, fun i hi => ?_, fun i j hi hj hne => ?_⟩
  · have h1 := b.one i (by rw [List.length_map]; exact hi)
    rw [g i hi, res4_ld, res4_at (lt i hi)] at h1; exact h1
  · have h1 := b.off j i (by rw [List.length_map]; exact hj) (by rw [List.length_map]; exact hi) (by omega) (fun e => hne e)
    rw [g i hi, g j hj, res4_ld, res4_at (lt j hj)] at h1; exact h1
theorem fullR_span {m : List W} (hm : ∀ r ∈ m, four r) (x : W) : In ((fullR m).map res4) x ↔ In m x := ((fullR_back hm).span x).trans (fwd_in hm x)
theorem fullR_cons {m : List W} (hm : ∀ r ∈ m, four r) : ∀ r ∈ fullR m, Cons m r := elims_cons (fun r hr => (kept_cons hm m.length (Nat.le_refl _) r hr).1) _ (Nat.le_refl _)
/-- numbers told by the full rows: they have the values, if some have -/
theorem told_sol {m : List W} (hm : ∀ r ∈ m, four r) {g : Nat → F} {d : W} (hd : DD (fullR m) (fun q => tv g m.length ((fullR m).getD q zz)) (fullR m).length d) (hs : ∃ d', SolW m g d') : SolW m g d := by
  obtain ⟨d', h'⟩ := hs; intro j hj; rw [← h' j hj]; refine dotW_same (R := (fullR m).map res4) (fun r hr => ?_) ((fullR_span hm _).2 (In.mem (getD_memW hj))); obtain ⟨z, hz, rfl⟩ := List.mem_map.1 hr; obtain ⟨q, hq, rfl⟩ := List.getElem_of_mem hz; rw [dotW_res4, dotW_res4, sol_cons h' (fullR_cons hm _ (List.getElem_mem hq))]
  have := DD_dot (fullR_redu hm) hd hq
  rwa [List.getD_eq_getElem?_getD, List.getElem?_eq_getElem hq] at this
theorem push_in (R : List W) {v : W} (hl : ld (red R v) < 4) : In (push R v) v ∧ ∀ r ∈ R, r ∈ push R v := by
  have hle := ld_le (red R v)
  unfold push; rw [if_neg (by omega)]; refine ⟨?_, fun r hr => List.mem_append_left _ hr⟩; have h1 : In (R ++ [unitize (red R v)]) (unitize (red R v)) := In.mem (by simp); exact red_back (fun r hr => In.mem (List.mem_append_left _ hr)) (unitize_back hl h1)
theorem kept_aug {m : List W} (hm : ∀ r ∈ m, four r) (hp : ∀ j, j < m.length → IsPiv m j) : ∀ n, n ≤ m.length → ∀ j, j < n → In (kept m n) (aug m j)
  | 0, _ => fun j hj => by omega
  | n + 1, hn => fun j hj => by
    have hl := (piv_iff hm (by omega)).2 (hp n (by omega))
    obtain ⟨h1, h2⟩ := push_in (kept m n) hl; rw [kept_succ]
    by_cases e : j = n
    · subst e; exact h1
    · exact In.le h2 (kept_aug hm hp n (by omega) j (by omega))
theorem tv_aug {m : List W} {g : Nat → F} {j : Nat} (hj : j < m.length) : tv g m.length (aug m j) = g j := by
  unfold tv; rw [← sumF_one (g := g) hj]
  exact sumF_congr fun i hi => by
    have : tail (aug m j) i = if i = j then 1 else 0 := by
      simp only [tail, aug]; rw [if_neg (by omega)]
      by_cases e : i = j
      · rw [if_pos (by omega), if_pos e]
      · rw [if_neg (by omega), if_neg e]
    rw [this]
theorem told_all {m : List W} (hm : ∀ r ∈ m, four r) (hp : ∀ j, j < m.length → IsPiv m j) {g : Nat → F} {d : W} (hd : DD (fullR m) (fun q => tv g m.length ((fullR m).getD q zz)) (fullR m).length d) : SolW m g d := by
  intro j hj; have hin : In (fullR m) (aug m j) := In.sub (fun r hr => elims_in _ (Nat.le_refl _) r hr) (kept_aug hm hp m.length (Nat.le_refl _) j hj)
  have h0 : dotW (aug m j) d - tv g m.length (aug m j) = 0 := Sp.lin (p := fun z => dotW z d - tv g m.length z) (by simp only [dotW_zz, tv_zz]; grind) (fun x c y => by simp only [dotW_ax, tv_ax]; grind) (fun r hr => by
    obtain ⟨q, hq, rfl⟩ := List.getElem_of_mem hr
    have := DD_dot (fullR_redu hm) hd hq
    rw [List.getD_eq_getElem?_getD, List.getElem?_eq_getElem hq] at this; simp only [Option.getD_some] at this
    rw [this]; grind) hin
  have e : dotW (aug m j) d = dotW (m.getD j zz) d := by rw [← dotW_res4, aug_res4 hm hj]
  rw [← e]; rw [tv_aug hj] at h0
  grind
/-- numbers told by rows' beginnings -/
noncomputable def dOf (R : List W) (v : Nat → F) : W := fun p => if h : ∃ q, q < R.length ∧ ld (R.getD q zz) = p then v h.choose else 0
theorem dOf_dd {R : List W} (hR : Redu R) (v : Nat → F) : DD R v R.length (dOf R v) := by
  refine ⟨fun q hq => ?_, fun p hp h => ?_⟩
  · have h : ∃ i, i < R.length ∧ ld (R.getD i zz) = ld (R.getD q zz) := ⟨q, hq, rfl⟩
    unfold dOf; rw [dif_pos h]
    have hc := h.choose_spec
    have e : h.choose = q := by
      rcases Nat.lt_or_ge 0 1 with _ | hx
      · by_cases e : h.choose = q
        · exact e
        · have h0 := hR.off q h.choose hq hc.1 (fun e2 => e e2.symm)
          rw [hc.2, hR.one q hq] at h0; exact absurd h0 (by decide)
      · omega
    rw [e]
  · unfold dOf
    rw [dif_neg (fun ⟨q, hq, e⟩ => h q hq e)]
/-- rows none of which is made of others have whatever values -/
theorem indep_sol {m : List W} (hm : ∀ r ∈ m, four r) (hp : ∀ j, j < m.length → IsPiv m j) (g : Nat → F) : ∃ d, SolW m g d := ⟨_, told_all hm hp (dOf_dd (fullR_redu hm) _)⟩
/-- numbers of the field as a row -/
def ofW (d : W) : List Int := (List.range 4).map fun i => ((d i).val : Int)
theorem ofW_vok (d : W) : vok (ofW d) = true := by
  refine vok_iff.2 ⟨by simp [ofW], fun x hx => ?_⟩; obtain ⟨i, _, rfl⟩ := List.mem_map.1 hx; exact ok_iff.2 ⟨by omega, by have := (d i).isLt; omega⟩
theorem toW_ofW (d : W) {i : Nat} (hi : i < 4) : toW (ofW d) i = d i := by
  show toF ((ofW d).getD i 0) = d i
  unfold ofW; rw [List.getD_eq_getElem?_getD, List.getElem?_map, List.getElem?_range hi]
  show toF ((d i).val : Int) = d i
  apply Fin.ext
  have := toF_val ((d i).val : Int)
  have h2 := (d i).isLt
  omega
theorem dotW_ofW (x d : W) : dotW x (toW (ofW d)) = dotW x d := by
  unfold dotW; rw [toW_ofW d (by omega), toW_ofW d (by omega), toW_ofW d (by omega), toW_ofW d (by omega)]
def toS5 (r : List Int) : S131 := ⟨⟨r.getD 0 0, r.getD 1 0, r.getD 2 0, r.getD 3 0⟩, r.getD 4 0⟩
theorem rdT5 {L : List (List Int)} {i : Nat} (h : i < L.length) : rd_T131 (L.map toS5) (i : Int) = toS5 (L.getD i []) := by
  unfold rd_T131; rw [Int.toNat_natCast, List.getD_eq_getElem?_getD, List.getElem?_map, List.getD_eq_getElem?_getD, List.getElem?_eq_getElem h]; rfl
/-- a shard's value -/
def gv (vals sh : List Int) (j : Nat) : Int := vals.getD (sh.getD j 0).toNat 0
/-- what the rows that make a kept row make of the values -/
def valS (r vals sh : List Int) : Nat → Int
  | 0 => 0
  | j + 1 => (valS r vals sh j + r.getD (4 + j) 0 * gv vals sh j % 31) % 31
theorem valS_ok (r vals sh : List Int) : ∀ j, ok (valS r vals sh j) = true
  | 0 => (by decide : ok 0 = true)
  | j + 1 => mod_ok _
theorem valS_toF (r vals sh : List Int) : ∀ j, toF (valS r vals sh j) = tv (fun i => toF (gv vals sh i)) j (toW r)
  | 0 => rfl
  | j + 1 => by
    rw [valS, toF_mod, toF_add, toF_mod, toF_mul, valS_toF r vals sh j]
    rfl
theorem gv_rd {vals sh : List Int} (hs : ∀ x ∈ sh, lshard x = true) {j : Nat} (hj : j < sh.length) : rd vals (rd sh (j : Int)) = gv vals sh j ∧ 0 ≤ rd sh (j : Int) ∧ rd sh (j : Int) ≤ 7 := by
  have h := hs (sh.getD j 0) (by rw [List.getD_eq_getElem?_getD, List.getElem?_eq_getElem hj]; exact List.getElem_mem hj)
  unfold lshard at h
  simp at h
  rw [rd_nat]; refine ⟨rfl, h.1, h.2⟩
theorem solve_l1_ev {vals sh : List Int} (hv : vals.length = 8) (cv : can vals) (hs : ∀ x ∈ sh, lshard x = true) (hn : sh.length ≤ 8) {r : List Int} (hr : Good r) {T : List S131} (hT : T.length ≤ 100) {KS : List S102} {nK i0 : Int} {Q : _ → Prop}
    (h : Evp (fun k => impl_solve.l0 k vals sh (T ++ [⟨⟨r.getD 0 0, r.getD 1 0, r.getD 2 0, r.getD 3 0⟩, valS r vals sh sh.length⟩]) KS nK (wrap64 (i0 + 1)) 0 0 0 0) Q) : ∀ (d j : Nat), j + d = sh.length → Evp (fun k => impl_solve.l1 k vals sh T (valS r vals sh j) KS nK i0 sh (sh.length : Int) ((j : Int)) 0 0 0 0 (r.getD 0 0) (r.getD 1 0) (r.getD 2 0) (r.getD 3 0) (r.getD 4 0) (r.getD 5 0) (r.getD 6 0) (r.getD 7 0) (r.getD 8 0) (r.getD 9 0) (r.getD 10 0) (r.getD 11 0)) Q := by
  intro d
  induction d with
  | zero =>
    intro j hj; refine Evp.step (fun k => by rw [impl_solve.l1]) (Evp.neg (by omega) (Evp.pos (by omega) ?_))
    have e : j = sh.length := by omega
    rw [e]; exact h
  | succ d ih =>
    intro j hj
    have hj1 : j < sh.length := by omega
    have hj8 : j < 8 := by omega
    obtain ⟨g1, g2, g3⟩ := gv_rd (vals := vals) hs hj1; refine Evp.step (fun k => by rw [impl_solve.l1]) (Evp.pos (by omega) (Evp.pos (by omega) (Evp.pos (by omega) ?_)))
    have hi := ih (j + 1) (by omega)
    have key : ∀ c : Int, c = r.getD (4 + j) 0 → Evp (fun k => if 0 ≤ rd sh (j : Int) then (if rd sh (j : Int) < (vals.length : Int) then ((impl_element_times.f c (rd vals (rd sh (j : Int)))).bind fun t => ((impl_element_plus.f (valS r vals sh j) t).bind fun t2 => impl_solve.l1 k vals sh T t2 KS nK i0 sh (sh.length : Int) (wrap64 ((j : Int) + 1)) 0 0 0 0 (r.getD 0 0) (r.getD 1 0) (r.getD 2 0) (r.getD 3 0) (r.getD 4 0) (r.getD 5 0) (r.getD 6 0) (r.getD 7 0) (r.getD 8 0) (r.getD 9 0) (r.getD 10 0) (r.getD 11 0))) else none) else none) Q := by
      intro c hc; subst hc; refine Evp.pos g2 (Evp.pos (by omega) ?_); have ov : ok (gv vals sh j) = true := can_get cv _; rw [g1, wrap_succ (by omega)]; refine Evp.congr (f := fun k => impl_solve.l1 k vals sh T (valS r vals sh (j + 1)) KS nK i0 sh (sh.length : Int) (((j + 1 : Nat) : Int)) 0 0 0 0 (r.getD 0 0) (r.getD 1 0) (r.getD 2 0) (r.getD 3 0) (r.getD 4 0) (r.getD 5 0) (r.getD 6 0) (r.getD 7 0) (r.getD 8 0) (r.getD 9 0) (r.getD 10 0) (r.getD 11 0)) (fun k => ?_) hi; rw [impl_times_eq (can_get hr.2.1 _) ov, Option.bind_some, impl_plus_eq (valS_ok r vals sh j) (mod_ok _), Option.bind_some]; rfl
    clear hi g1 g2 g3 ih
    match j, hj8, key with
      | 0, _, key => exact Evp.pos (by decide) (key _ rfl)
      | 1, _, key => exact Evp.neg (by decide) (Evp.pos (by decide) (key _ rfl))
      | 2, _, key => exact Evp.neg (by decide) (Evp.neg (by decide) (Evp.pos (by decide) (key _ rfl)))
      | 3, _, key => exact Evp.neg (by decide) (Evp.neg (by decide) (Evp.neg (by decide) (Evp.pos (by decide) (key _ rfl))))
      | 4, _, key => exact Evp.neg (by decide) (Evp.neg (by decide) (Evp.neg (by decide) (Evp.neg (by decide) (Evp.pos (by decide) (key _ rfl)))))
      | 5, _, key => exact Evp.neg (by decide) (Evp.neg (by decide) (Evp.neg (by decide) (Evp.neg (by decide) (Evp.neg (by decide) (Evp.pos (by decide) (key _ rfl))))))
      | 6, _, key => exact Evp.neg (by decide) (Evp.neg (by decide) (Evp.neg (by decide) (Evp.neg (by decide) (Evp.neg (by decide) (Evp.neg (by decide) (Evp.pos (by decide) (key _ rfl)))))))
      | 7, _, key => exact Evp.neg (by decide) (Evp.neg (by decide) (Evp.neg (by decide) (Evp.neg (by decide) (Evp.neg (by decide) (Evp.neg (by decide) (Evp.neg (by decide) (Evp.pos (by decide) (key _ rfl))))))))
/-- a told row -/
def t5 (vals sh r : List Int) : List Int := [r.getD 0 0, r.getD 1 0, r.getD 2 0, r.getD 3 0, valS r vals sh sh.length]
theorem solve_l0_ev {vals sh : List Int} (hv : vals.length = 8) (cv : can vals) (hs : ∀ x ∈ sh, lshard x = true) (hn : sh.length ≤ 8) {K : List (List Int)} (hK : ∀ r ∈ K, Good r) (hk8 : K.length ≤ 8) {Q : _ → Prop}
    (h : Evp (fun k => impl_solve.l2 k ((K.map (t5 vals sh)).map toS5) (K.length : Int) 0 0 0 0 0) Q) : ∀ (d i : Nat), i + d = K.length → Evp (fun k => impl_solve.l0 k vals sh (((K.take i).map (t5 vals sh)).map toS5) (K.map m12) (K.length : Int) (i : Int) 0 0 0 0) Q := by
  intro d
  induction d with
  | zero =>
    intro i hi; refine Evp.step (fun k => by rw [impl_solve.l0]) (Evp.neg (by omega) ?_); rw [List.take_of_length_le (by omega)]
    simpa using h
  | succ d ih =>
    intro i hi
    have hi1 : i < K.length := by omega
    refine Evp.step (fun k => by rw [impl_solve.l0]) (Evp.pos (by omega) (Evp.pos (by omega) (Evp.pos (by rw [List.length_map]; omega) ?_))); rw [rdK (by rw [List.length_map]; exact hi1), List.getElem_map]
    have hi2 := ih (i + 1) (by omega)
    rw [List.take_succ_eq_append_getElem hi1, List.map_append, List.map_append] at hi2; refine solve_l1_ev hv cv hs hn (hK _ (List.getElem_mem hi1)) (by simp; omega) ?_ sh.length 0 (by omega); rw [wrap_succ (by omega)]; exact hi2
def C5 (r : List Int) : Prop := r.length = 5 ∧ can r
theorem el5_len {r s : List Int} (hr : r.length = 5) (hs : s.length = 5) : (el r s).length = 5 := by simp [el, hr, hs]
theorem el5_get {r s : List Int} (hr : r.length = 5) (hs : s.length = 5) {j : Nat} (hj : j < 5) : (el r s).getD j 0 = (r.getD j 0 - s.getD j 0 * gt r (llead s) % 31) % 31 := by
  have h1 : j < (el r s).length := by rw [el5_len hr hs]; exact hj
  rw [List.getD_eq_getElem?_getD, List.getElem?_eq_getElem h1, List.getD_eq_getElem?_getD, List.getElem?_eq_getElem (by omega), List.getD_eq_getElem?_getD, List.getElem?_eq_getElem (by omega)]; simp only [el, List.getElem_zipWith, Option.getD_some]
theorem c5_el {r s : List Int} (hr : C5 r) (hs : C5 s) : C5 (el r s) := by
  refine ⟨el5_len hr.1 hs.1, fun x hx => ?_⟩; obtain ⟨i, hi, rfl⟩ := List.getElem_of_mem hx; simp only [el, List.getElem_zipWith]; exact mod_ok _
theorem toW_el5 {r s : List Int} (hr : C5 r) (hs : C5 s) (hp : ld (toW s) < 4) : toW (el r s) = less (toW r) (toW s) := by
  have e := llead_ld hs.2 hp
  funext j
  show toF ((el r s).getD j 0) = toF (r.getD j 0) + -(toF (r.getD (ld (toW s)) 0)) * toF (s.getD j 0)
  rcases Nat.lt_or_ge j 5 with hj | hj
  · rw [el5_get hr.1 hs.1 hj, e, gt_nat, toF_mod, Int.sub_eq_add_neg, toF_add]
    have : toF (-(s.getD j 0 * r.getD (ld (toW s)) 0 % 31)) = -(toF (s.getD j 0 * r.getD (ld (toW s)) 0)) := by
      have h1 : toF (-(s.getD j 0 * r.getD (ld (toW s)) 0 % 31)) + toF (s.getD j 0 * r.getD (ld (toW s)) 0) = 0 := by
        rw [← toF_add, ← toF_zero, toF_eq]; omega
      grind
    rw [this, toF_mul]; grind
  · rw [List.getD_eq_getElem?_getD, List.getElem?_eq_none (by rw [el5_len hr.1 hs.1]; exact hj), List.getD_eq_getElem?_getD (l := r), List.getElem?_eq_none (by rw [hr.1]; omega), List.getD_eq_getElem?_getD (l := s), List.getElem?_eq_none (by rw [hs.1]; omega)]
    simp only [Option.getD_none, toF_zero]; grind
theorem el5_zero {r s : List Int} (hr : C5 r) (hs : C5 s) (h0 : gt r (llead s) = 0) : el r s = r := by
  refine List.ext_getElem (by rw [el5_len hr.1 hs.1, hr.1]) fun j h1 h2 => ?_
  have := el5_get hr.1 hs.1 (j := j) (by rw [hr.1] at h2; exact h2)
  rw [List.getD_eq_getElem?_getD, List.getElem?_eq_getElem h1, List.getD_eq_getElem?_getD, List.getElem?_eq_getElem h2, h0] at this; simp only [Option.getD_some] at this
  have ho := ok_iff.1 (hr.2 _ (List.getElem_mem h2))
  rw [this]; omega
theorem c5_getD {L : List (List Int)} (hL : ∀ r ∈ L, C5 r) {i : Nat} (hi : i < L.length) : C5 (L.getD i []) := by
  rw [List.getD_eq_getElem?_getD, List.getElem?_eq_getElem hi]; exact hL _ (List.getElem_mem hi)
theorem c5_tstep {L : List (List Int)} (hL : ∀ r ∈ L, C5 r) {i : Nat} (hi : i < L.length) : ∀ r ∈ tstep i L, C5 r := fun r hr => by
  obtain ⟨j, hj, rfl⟩ := List.getElem_of_mem hr; rw [tstep_len] at hj; rw [tstep_get i L j hj]
  split
  · exact hL _ (List.getElem_mem hj)
  · exact c5_el (hL _ (List.getElem_mem hj)) (c5_getD hL hi)
theorem toW_tstep5 {L : List (List Int)} (hL : ∀ r ∈ L, C5 r) {i : Nat} (hi : i < L.length) (hp : ld (toW (L.getD i [])) < 4) : (tstep i L).map toW = elim i (L.map toW) := by
  apply List.ext_getElem (by simp [tstep_len, elim_len])
  intro j h1 h2; rw [List.length_map, tstep_len] at h1; rw [List.getElem_map, tstep_get i L j h1, elim_get i (L.map toW) j (by rw [List.length_map]; exact h1), List.getElem_map]
  split
  · rfl
  · rw [toW_el5 (hL _ (List.getElem_mem h1)) (c5_getD hL hi) hp, getD_map hi]
theorem lmid_zero (i : Nat) (L : List (List Int)) {j : Nat} (hj : j < L.length) (hne : j ≠ i) (h : el (L.getD j []) (L.getD i []) = L.getD j []) : lmid i L (j + 1) = lmid i L j := by
  rw [← lmid_set i L hj hne, h]
  refine List.ext_getElem (by simp) fun q h1 h2 => ?_
  rw [List.getElem_set]
  split
  · rename_i e
    subst e
    have e2 := lmid_get i L (j := j) (q := j) (by omega) hj
    rw [if_neg (by omega), List.getD_eq_getElem?_getD, List.getElem?_eq_getElem h2] at e2; exact e2.symm
  · rfl
theorem solve_l3_ev {L : List (List Int)} (hL : ∀ r ∈ L, C5 r) (hn : L.length ≤ 100) {i : Nat} (hi : i < L.length) {p : Nat} (hp : p < 4) (hl : llead (L.getD i []) = (p : Int)) {Q : _ → Prop}
    (h : Evp (fun k => impl_solve.l2 k ((tstep i L).map toS5) (L.length : Int) ((i + 1 : Nat) : Int) 0 0 0 0) Q) : ∀ (d j : Nat), j + d = L.length →
    Evp (fun k => impl_solve.l3 k ((lmid i L j).map toS5) (i : Int) (p : Int) (L.length : Int) (i : Int) (L.length : Int) (j : Int) 0 0 0 0) Q := by
  intro d
  induction d with
  | zero =>
    intro j hj; refine Evp.step (fun k => by rw [impl_solve.l3]) (Evp.neg (by omega) ?_)
    have e : lmid i L j = tstep i L := by
      unfold lmid; rw [List.take_of_length_le (by rw [tstep_len]; omega), List.drop_eq_nil_of_le (by omega), List.append_nil]
    rw [e, wrap_succ (by omega)]; exact h
  | succ d ih =>
    intro j hj
    have hj1 : j < L.length := by omega
    have hm : ((lmid i L j).map toS5).length = L.length := by rw [List.length_map, lmid_len i L (by omega)]
    have ej : (lmid i L j).getD j [] = L.getD j [] := by rw [lmid_get i L (by omega) hj1, if_neg (by omega)]
    have ei : (lmid i L j).getD i [] = L.getD i [] := by
      rw [lmid_get i L (by omega) hi]
      split <;> simp
    have vj := c5_getD hL hj1
    have vi := c5_getD hL hi
    have hnext := ih (j + 1) (by omega)
    refine Evp.step (fun k => by rw [impl_solve.l3]) (Evp.pos (by omega) (Evp.pos (by omega) (Evp.pos (by omega) ?_))); rw [rdT5 (by rw [lmid_len i L (by omega)]; exact hj1), ej]
    have key : ∀ c : Int, c = (L.getD j []).getD p 0 → Evp (fun k => impl_solve.j4 k ((lmid i L j).map toS5) (i : Int) (p : Int) (j : Int) c (L.length : Int) (i : Int) (L.length : Int) (j : Int) 0 0 0 0) Q := by
      intro c hc; have oc : ok c = true := hc ▸ can_get vj.2 p
      have gc : gt (L.getD j []) (llead (L.getD i [])) = c := by rw [hl, gt_nat, hc]
      have skip : lmid i L (j + 1) = lmid i L j → Evp (fun k => impl_solve.j5 k ((lmid i L j).map toS5) (i : Int) (p : Int) (j : Int) c (L.length : Int) (i : Int) (L.length : Int) (j : Int) false 0 0 0 0) Q := fun e => by
        refine Evp.step (fun k => by rw [impl_solve.j5]) (Evp.neg (by decide) ?_); rw [wrap_succ (by omega), ← e]; exact hnext
      refine Evp.step (fun k => by rw [impl_solve.j4]) (Evp.ite (fun hc2 => ?_) fun hc2 => ?_)
      · have e : j = i := by omega
        exact skip (by subst e; exact lmid_skip j L hj1)
      · have hne : j ≠ i := by omega
        by_cases h0 : c = 0
        · have e : (c != 0) = false := by rw [h0]; rfl
          rw [e]; exact skip (lmid_zero i L hj1 hne (el5_zero vj vi (by rw [gc, h0])))
        · have e : (c != 0) = true := by simpa using h0
          rw [e]; refine Evp.step (fun k => by rw [impl_solve.j5]) (Evp.pos rfl (Evp.pos (by omega) (Evp.pos (by omega) (Evp.pos (by omega) (Evp.pos (by omega) ?_))))); rw [← lmid_set i L hj1 hne, List.map_set] at hnext; refine Evp.congr (f := fun k => impl_solve.l3 k (((lmid i L j).map toS5).set j (toS5 (el (L.getD j []) (L.getD i [])))) (i : Int) (p : Int) (L.length : Int) (i : Int) (L.length : Int) ((j + 1 : Nat) : Int) 0 0 0 0) (fun k => ?_) hnext
          have g : ∀ q, q < 5 → (el (L.getD j []) (L.getD i [])).getD q 0 = ((L.getD j []).getD q 0 - (L.getD i []).getD q 0 * c % 31) % 31 := fun q hq => by
            rw [el5_get vj.1 vi.1 hq, gc]
          have oj : ∀ q, ok ((L.getD j []).getD q 0) = true := fun q => can_get vj.2 q
          have oi : ∀ q, ok ((L.getD i []).getD q 0) = true := fun q => can_get vi.2 q
          have hli : i < (lmid i L j).length := by rw [lmid_len i L (by omega)]; exact hi
          have hlj : j < (lmid i L j).length := by rw [lmid_len i L (by omega)]; exact hj1
          rw [rdT5 hli, rdT5 hlj, ei, ej]; simp only [toS5]; rw [vtimes_eq (oi 0) (oi 1) (oi 2) (oi 3) oc, Option.bind_some, vminus_eq (oj 0) (oj 1) (oj 2) (oj 3) (mod_ok _) (mod_ok _) (mod_ok _) (mod_ok _), Option.bind_some, Option.bind_some, Int.toNat_natCast]
          have hlen : ((lmid i L j).map toS5).length = L.length := hm
          have r1 : ∀ y : S131, rd_T131 (((lmid i L j).map toS5).set j y) (i : Int) = toS5 (L.getD i []) := fun y => by
            unfold rd_T131; rw [Int.toNat_natCast, List.getD_eq_getElem?_getD, List.getElem?_set_ne (by omega), ← List.getD_eq_getElem?_getD]
            have := rdT5 hli
            unfold rd_T131 at this; rw [Int.toNat_natCast, ei] at this; exact this
          have r2 : ∀ y : S131, rd_T131 (((lmid i L j).map toS5).set j y) (j : Int) = y := fun y => by
            unfold rd_T131; rw [Int.toNat_natCast, List.getD_eq_getElem?_getD, List.getElem?_set_self (by omega)]; rfl
          simp only [toS5] at r1 r2; rw [r1, r2]; simp only; rw [impl_times_eq (oi 4) oc, Option.bind_some, impl_minus_eq (oj 4) (mod_ok _), Option.bind_some, wrap_succ (by omega), List.set_set, g 0 (by omega), g 1 (by omega), g 2 (by omega), g 3 (by omega), g 4 (by omega)]
    clear hnext ih ei ej
    match p, hp, key with
      | 0, _, key => exact Evp.pos (by decide) (key _ rfl)
      | 1, _, key => exact Evp.neg (by decide) (Evp.pos (by decide) (key _ rfl))
      | 2, _, key => exact Evp.neg (by decide) (Evp.neg (by decide) (Evp.pos (by decide) (key _ rfl)))
      | 3, _, key => exact Evp.neg (by decide) (Evp.neg (by decide) (Evp.neg (by decide) (Evp.pos (by decide) (key _ rfl))))
/-- a full row, and what its tail makes of the values -/
def five (g : Nat → F) (n : Nat) (z : W) : W := fun i => if i < 4 then z i else if i = 4 then tv g n z else 0
theorem five_lt (g : Nat → F) (n : Nat) (z : W) {i : Nat} (h : i < 4) : five g n z i = z i := if_pos h
theorem five_at (g : Nat → F) (n : Nat) (z : W) : five g n z 4 = tv g n z := by unfold five; rw [if_neg (by omega), if_pos rfl]
theorem five_ld (g : Nat → F) (n : Nat) (z : W) : ld (five g n z) = ld z := ld_congr fun i hi => five_lt g n z hi
theorem five_less (g : Nat → F) (n : Nat) (x r : W) (h : ld r < 4) : five g n (less x r) = less (five g n x) (five g n r) := by
  funext i
  simp only [less, five_ld]; rw [five_lt g n x h]; simp only [ax, five]
  split
  · rfl
  · split
    · have := tv_ax g n x (-(x (ld r))) r
      first | exact this | (simp only [ax] at this; exact this) | simpa [ax] using this
    · grind
theorem five_elim (g : Nat → F) (n i : Nat) (R : List W) (h : ld (R.getD i zz) < 4) (hi : i < R.length) : (elim i R).map (five g n) = elim i (R.map (five g n)) := by
  apply List.ext_getElem (by simp [elim_len])
  intro j h1 h2; rw [List.length_map, elim_len] at h1
  have e : (R.map (five g n)).getD i zz = five g n (R.getD i zz) := by
    rw [List.getD_eq_getElem?_getD, List.getD_eq_getElem?_getD, List.getElem?_map, List.getElem?_eq_getElem hi]; rfl
  rw [List.getElem_map, elim_get i R j h1, elim_get i (R.map (five g n)) j (by rw [List.length_map]; exact h1), List.getElem_map, e]
  split
  · rfl
  · exact five_less g n _ _ h
theorem kelims_ld {m : List W} (hm : ∀ r ∈ m, four r) {k i : Nat} (hk : k ≤ (kept m m.length).length) (hi : i < (kept m m.length).length) : ld ((elims k (kept m m.length)).getD i zz) < 4 := by
  have h := kept_res4 hm m.length (Nat.le_refl _)
  rw [List.take_of_length_le (Nat.le_refl _)] at h
  have hl : (kept m m.length).length = (fwd m).length := by rw [← h, List.length_map]
  have b := elims_back (fwd_ech hm) (fwd_four hm) k (by omega)
  have e : elims k (fwd m) = (elims k (kept m m.length)).map res4 := by rw [elims_res4, h]
  have hi2 : i < (elims k (fwd m)).length := by rw [elims_len]; omega
  have h1 := b.lead i hi2
  have e2 : (elims k (fwd m))[i] = res4 ((elims k (kept m m.length)).getD i zz) := by
    simp only [e, List.getElem_map]; rw [List.getD_eq_getElem?_getD, List.getElem?_eq_getElem (by rw [elims_len]; exact hi)]; rfl
  rw [e2, res4_ld] at h1; rw [h1, List.getD_eq_getElem?_getD, List.getElem?_eq_getElem (by omega)]; exact ((fwd_ech hm).one _ (List.getElem_mem _)).1
theorem toW_t5 (vals sh r : List Int) : toW (t5 vals sh r) = five (fun i => toF (gv vals sh i)) sh.length (toW r) := by
  funext i
  match i with
  | 0 => rfl
  | 1 => rfl
  | 2 => rfl
  | 3 => rfl
  | 4 => rw [five_at, ← valS_toF]; rfl
  | i + 5 =>
    unfold five; rw [if_neg (by omega), if_neg (by omega)]; rfl
theorem c5_t5 (vals sh : List Int) {r : List Int} (hr : Good r) : C5 (t5 vals sh r) := by
  refine ⟨rfl, fun x hx => ?_⟩; simp only [t5, List.mem_cons, List.not_mem_nil, or_false] at hx
  rcases hx with rfl | rfl | rfl | rfl | rfl
  · exact can_get hr.2.1 0
  · exact can_get hr.2.1 1
  · exact can_get hr.2.1 2
  · exact can_get hr.2.1 3
  · exact valS_ok r vals sh _
theorem map_getD_five {L : List (List Int)} {R : List W} {g : Nat → F} {n : Nat} (h : L.map toW = R.map (five g n)) {i : Nat} (hi : i < L.length) : toW (L.getD i []) = five g n (R.getD i zz) := by
  have hl : L.length = R.length := by have := congrArg List.length h; simpa using this
  have h1 : (L.map toW)[i]'(by rw [List.length_map]; exact hi) = (R.map (five g n))[i]'(by rw [List.length_map]; omega) := by simp only [h]
  rw [List.getElem_map, List.getElem_map] at h1; rw [List.getD_eq_getElem?_getD, List.getElem?_eq_getElem hi, List.getD_eq_getElem?_getD, List.getElem?_eq_getElem (by omega)]; exact h1
theorem lels5_inv {m : List W} (hm : ∀ r ∈ m, four r) {g : Nat → F} {n : Nat} {L : List (List Int)} (hL : ∀ r ∈ L, C5 r) (hW : L.map toW = (kept m m.length).map (five g n)) : ∀ k, k ≤ L.length → (∀ r ∈ lels k L, C5 r) ∧ (lels k L).length = L.length ∧ (lels k L).map toW = (elims k (kept m m.length)).map (five g n) := by
  have hl : L.length = (kept m m.length).length := by have := congrArg List.length hW; simpa using this
  intro k
  induction k with
  | zero => intro _; exact ⟨hL, rfl, hW⟩
  | succ k ih =>
    intro hk; obtain ⟨h1, h2, h3⟩ := ih (by omega)
    have hk2 : k < (lels k L).length := by omega
    have hld := kelims_ld hm (k := k) (i := k) (by omega) (by omega)
    have hld2 : ld (toW ((lels k L).getD k [])) < 4 := by rw [map_getD_five h3 hk2, five_ld]; exact hld
    rw [lels_succ]; refine ⟨c5_tstep h1 hk2, by rw [tstep_len, h2], ?_⟩; rw [toW_tstep5 h1 hk2 hld2, h3, elims_succ, five_elim g n k _ hld (by rw [elims_len]; omega)]
theorem lead5 {r : List Int} (hr : C5 r) (hp : ld (toW r) < 4) : impl_vector_lead.f (toS5 r).f0.f0 (toS5 r).f0.f1 (toS5 r).f0.f2 (toS5 r).f0.f3 = some ((ld (toW r) : Nat) : Int) ∧ llead r = ((ld (toW r) : Nat) : Int) := by
  have e : ld (toW [r.getD 0 0, r.getD 1 0, r.getD 2 0, r.getD 3 0]) = ld (toW r) := ld_congr fun i hi => by
    match i, hi with
    | 0, _ => rfl
    | 1, _ => rfl
    | 2, _ => rfl
    | 3, _ => rfl
  have c : can [r.getD 0 0, r.getD 1 0, r.getD 2 0, r.getD 3 0] := fun x hx => by
    simp only [List.mem_cons, List.not_mem_nil, or_false] at hx
    rcases hx with rfl | rfl | rfl | rfl <;> exact can_get hr.2 _
  have h := llead_ld c (by rw [e]; exact hp)
  rw [e] at h; exact ⟨congrArg some h, llead_ld hr.2 hp⟩
theorem solve_l2_ev {m : List W} (hm : ∀ r ∈ m, four r) {g : Nat → F} {n : Nat} {L : List (List Int)} (hL : ∀ r ∈ L, C5 r) (hn : L.length ≤ 100) (hW : L.map toW = (kept m m.length).map (five g n)) {Q : _ → Prop}
    (h : Evp (fun k => impl_solve.l4 k ((lels L.length L).map toS5) (L.length : Int) 0 0 0 0 0) Q) : ∀ (d i : Nat), i + d = L.length → Evp (fun k => impl_solve.l2 k ((lels i L).map toS5) (L.length : Int) (i : Int) 0 0 0 0) Q := by
  have hl : L.length = (kept m m.length).length := by have := congrArg List.length hW; simpa using this
  intro d
  induction d with
  | zero =>
    intro i hi
    have e : i = L.length := by omega
    subst e
    have h2 := (lels5_inv hm hL hW L.length (Nat.le_refl _)).2.1
    refine Evp.step (fun k => by rw [impl_solve.l2]) (Evp.neg (by omega) ?_); rw [List.length_map, h2]; exact h
  | succ d ih =>
    intro i hi; obtain ⟨h1, h2, h3⟩ := lels5_inv hm hL hW i (by omega)
    have hi1 : i < (lels i L).length := by omega
    have hld : ld (toW ((lels i L).getD i [])) < 4 := by rw [map_getD_five h3 hi1, five_ld]; exact kelims_ld hm (by omega) (by omega)
    obtain ⟨e1, e2⟩ := lead5 (c5_getD h1 hi1) hld; refine Evp.step (fun k => by rw [impl_solve.l2]) (Evp.pos (by omega) (Evp.pos (by omega) (Evp.pos (by rw [List.length_map]; omega) ?_))); rw [rdT5 hi1]; simp only [e1, Option.bind_some]
    have hi3 := ih (i + 1) (by omega)
    rw [lels_succ, ← h2] at hi3
    have := solve_l3_ev h1 (by omega) hi1 hld e2 hi3 (lels i L).length 0 (by omega)
    have e0 : lmid i (lels i L) 0 = lels i L := rfl; rw [e0] at this
    simpa [h2] using this
/-- numbers, as the rows' beginnings tell them -/
def dset (L : List (List Int)) : Nat → List Int
  | 0 => [0, 0, 0, 0]
  | i + 1 => (dset L i).set (ld (toW (L.getD i []))) ((L.getD i []).getD 4 0)
theorem dset_len (L : List (List Int)) : ∀ i, (dset L i).length = 4
  | 0 => rfl
  | i + 1 => by rw [dset, List.length_set, dset_len L i]
theorem dset_can {L : List (List Int)} (hL : ∀ r ∈ L, C5 r) : ∀ i, i ≤ L.length → can (dset L i)
  | 0, _ => fun x hx => by simp [dset] at hx; rw [hx]; decide
  | i + 1, hi => by
    rw [dset]; exact can_set (dset_can hL i (by omega)) _ (can_get (c5_getD hL (by omega)).2 4)
theorem solve_l4_ev {L : List (List Int)} (hL : ∀ r ∈ L, C5 r) (hn : L.length ≤ 100) (hld : ∀ i, i < L.length → ld (toW (L.getD i [])) < 4) : ∀ (d i : Nat), i + d = L.length →
    Evp (fun k => impl_solve.l4 k (L.map toS5) (L.length : Int) (i : Int) ((dset L i).getD 0 0) ((dset L i).getD 1 0) ((dset L i).getD 2 0) ((dset L i).getD 3 0)) (fun r => [r.1, r.2.1, r.2.2.1, r.2.2.2] = dset L L.length) := by
  intro d
  induction d with
  | zero =>
    intro i hi
    have e : i = L.length := by omega
    subst e; refine Evp.step (fun k => by rw [impl_solve.l4]) (Evp.neg (by omega) (Evp.some' ?_))
    have := dset_len L L.length
    match dset L L.length, this with
    | [a, b, c, d], _ => rfl
  | succ d ih =>
    intro i hi
    have hi1 : i < L.length := by omega
    have hp := hld i hi1
    have c5 := c5_getD hL hi1
    obtain ⟨e1, e2⟩ := lead5 c5 hp; refine Evp.step (fun k => by rw [impl_solve.l4]) (Evp.pos (by omega) (Evp.pos (by omega) (Evp.pos (by rw [List.length_map]; exact_mod_cast hi1) ?_))); rw [rdT5 hi1]; simp only [e1, Option.bind_some]
    have hnext := ih (i + 1) (by omega)
    rw [wrap_succ (by omega)]
    have h4 := dset_len L i
    have es : dset L (i + 1) = (dset L i).set (ld (toW (L.getD i []))) ((L.getD i []).getD 4 0) := rfl; rw [es] at hnext; generalize ld (toW (L.getD i [])) = p at hp hnext; generalize dset L i = D at h4 hnext
    match D, h4, p, hp, hnext with
    | [a, b, c, d], _, 0, _, hnext => exact Evp.pos (by decide) hnext
    | [a, b, c, d], _, 1, _, hnext => exact Evp.neg (by decide) (Evp.pos (by decide) hnext)
    | [a, b, c, d], _, 2, _, hnext => exact Evp.neg (by decide) (Evp.neg (by decide) (Evp.pos (by decide) hnext))
    | [a, b, c, d], _, 3, _, hnext => exact Evp.neg (by decide) (Evp.neg (by decide) (Evp.neg (by decide) (Evp.pos (by decide) hnext)))
theorem dset_dd {R : List W} (hR : Redu R) {g : Nat → F} {n : Nat} {L : List (List Int)} (hW : L.map toW = R.map (five g n)) : ∀ i, i ≤ L.length → DD R (fun q => tv g n (R.getD q zz)) i (toW (dset L i)) := by
  have hl : L.length = R.length := by have := congrArg List.length hW; simpa using this
  have hlead : ∀ i, i < L.length → ld (toW (L.getD i [])) = ld (R.getD i zz) := fun i hi => by rw [map_getD_five hW hi, five_ld]
  intro i
  induction i with
  | zero =>
    intro _; refine ⟨fun q hq => by omega, fun p hp _ => ?_⟩
    show toF (([0, 0, 0, 0] : List Int).getD p 0) = 0
    match p, hp with
    | 0, _ => rfl
    | 1, _ => rfl
    | 2, _ => rfl
    | 3, _ => rfl
  | succ i ih =>
    intro hi
    have ih := ih (by omega)
    have hi1 : i < L.length := by omega
    have h4 := hR.lt i (by omega)
    have get : ∀ p, toW (dset L (i + 1)) p = if p = ld (R.getD i zz) then tv g n (R.getD i zz) else toW (dset L i) p := fun p => by
      show toF (((dset L i).set (ld (toW (L.getD i []))) ((L.getD i []).getD 4 0)).getD p 0) = _
      rw [hlead i hi1, List.getD_eq_getElem?_getD, List.getElem?_set]
      by_cases e : ld (R.getD i zz) = p
      · rw [if_pos e, if_pos e.symm, if_pos (by rw [dset_len]; omega)]
        have := congrFun (map_getD_five hW hi1) 4
        rw [five_at] at this; exact this
      · rw [if_neg e, if_neg (fun h => e h.symm), ← List.getD_eq_getElem?_getD]; rfl
    refine ⟨fun q hq => ?_, fun p hp h => ?_⟩
    · rw [get]
      by_cases e : q = i
      · subst e; rw [if_pos rfl]
      · rw [if_neg, ih.at_ q (by omega)]
        intro e2
        have h0 := hR.off q i (by omega) (by omega) e
        rw [← e2, hR.one q (by omega)] at h0; exact absurd h0 (by decide)
    · rw [get, if_neg (fun e => h i (by omega) e.symm)]
      exact ih.off p hp fun q hq => h q (by omega)
/-- that numbers have the values of shards -/
def Sol (kind : Int) (vals sh : List Int) (d : List Int) : Prop := vok d = true ∧ ∀ j, j < sh.length → ldot (lrow kind (sh.getD j 0)) d = gv vals sh j
def shW (kind : Int) (sh : List Int) : List W := (sh.map (lrow kind)).map toW
theorem shW_four {kind : Int} (hk : lkind kind = true) {sh : List Int} (hs : ∀ x ∈ sh, lshard x = true) : ∀ r ∈ shW kind sh, four r := fun r hr => by
  obtain ⟨q, hq, rfl⟩ := List.mem_map.1 hr; obtain ⟨x, hx, rfl⟩ := List.mem_map.1 hq; exact toW_four (vok_iff.1 (lrow_ok hk (hs x hx))).1
theorem shW_len (kind : Int) (sh : List Int) : (shW kind sh).length = sh.length := by simp [shW]
theorem shW_get {kind : Int} {sh : List Int} {j : Nat} (hj : j < sh.length) : (shW kind sh).getD j zz = toW (lrow kind (sh.getD j 0)) := by
  unfold shW; rw [List.getD_eq_getElem?_getD, List.getElem?_map, List.getElem?_map, List.getElem?_eq_getElem hj, List.getD_eq_getElem?_getD, List.getElem?_eq_getElem hj]; rfl
theorem sh_ok {sh : List Int} (hs : ∀ x ∈ sh, lshard x = true) {j : Nat} (hj : j < sh.length) : lshard (sh.getD j 0) = true := hs _ (by rw [List.getD_eq_getElem?_getD, List.getElem?_eq_getElem hj]; exact List.getElem_mem hj)
theorem sol_iff {kind : Int} (hk : lkind kind = true) {vals sh : List Int} (hs : ∀ x ∈ sh, lshard x = true) (cv : can vals) {d : List Int} (hd : vok d = true) : Sol kind vals sh d ↔ SolW (shW kind sh) (fun j => toF (gv vals sh j)) (toW d) := by
  have e : ∀ j, j < sh.length → (ldot (lrow kind (sh.getD j 0)) d = gv vals sh j ↔ dotW ((shW kind sh).getD j zz) (toW d) = toF (gv vals sh j)) := fun j hj => by
    rw [shW_get hj, ← toF_ldot (lrow_ok hk (sh_ok hs hj)) hd]; exact ⟨fun h => by rw [h], fun h => toF_inj (ldot_range _ _) (ok_iff.1 (can_get cv _)) h⟩
  constructor
  · exact fun h j hj => by rw [shW_len] at hj; exact (e j hj).1 (h.2 j hj)
  · exact fun h => ⟨hd, fun j hj => (e j hj).2 (h j (by rw [shW_len]; exact hj))⟩
theorem solve_ev {kind : Int} (hk : lkind kind = true) {vals sh : List Int} (hv : vals.length = 8) (cv : can vals) (hs : ∀ x ∈ sh, lshard x = true) (hn : sh.length ≤ 8) :
    Evp (fun k => impl_solve.f k kind vals sh) (fun r => vok [r.1, r.2.1, r.2.2.1, r.2.2.2] = true ∧ ((∃ d, Sol kind vals sh d) → Sol kind vals sh [r.1, r.2.1, r.2.2.1, r.2.2.2])) := by
  have hm := shW_four hk hs
  have hr : ∀ r ∈ sh.map (lrow kind), vok r = true := fun r hr => by
    obtain ⟨x, hx, rfl⟩ := List.mem_map.1 hr; exact lrow_ok hk (hs x hx)
  have h8 : (sh.map (lrow kind)).length ≤ 8 := by rw [List.length_map]; exact hn
  unfold impl_solve.f
  refine Evp.bind (impl_rowsOf_ev hk hs (by omega)) fun t ht => ?_
  subst ht
  refine Evp.bind (spanOf_ev hr h8) fun t ht => ?_
  subst ht; obtain ⟨k1, k2, _, k4, _⟩ := kspan_inv hr h8 _ (Nat.le_refl _)
  have kW : (kspan (sh.map (lrow kind)) (sh.map (lrow kind)).length).1.map toW = kept (shW kind sh) (shW kind sh).length := by
    rw [k2]; unfold shW; simp only [List.length_map]
  generalize (kspan (sh.map (lrow kind)) (sh.map (lrow kind)).length).1 = K at k1 k4 kW
  have hL : ∀ r ∈ K.map (t5 vals sh), C5 r := fun r hr => by
    obtain ⟨q, hq, rfl⟩ := List.mem_map.1 hr; exact c5_t5 vals sh (k1 q hq)
  have hW : (K.map (t5 vals sh)).map toW = (kept (shW kind sh) (shW kind sh).length).map (five (fun i => toF (gv vals sh i)) sh.length) := by
    rw [← kW, List.map_map, List.map_map]
    exact List.map_congr_left fun r _ => toW_t5 vals sh r
  have hlen : (K.map (t5 vals sh)).length = K.length := List.length_map _
  have kl : K.length ≤ 8 := by rw [List.length_map] at k4; omega
  generalize hLL : K.map (t5 vals sh) = L at hL hW hlen; obtain ⟨i1, i2, i3⟩ := lels5_inv hm hL hW L.length (Nat.le_refl _)
  have hfull : (lels L.length L).map toW = (fullR (shW kind sh)).map (five (fun i => toF (gv vals sh i)) sh.length) := by
    have hl2 : L.length = (kept (shW kind sh) (shW kind sh).length).length := by have := congrArg List.length hW; simpa using this
    rw [i3, hl2]; rfl
  have hredu := fullR_redu hm
  have hfl : (lels L.length L).length = (fullR (shW kind sh)).length := by have := congrArg List.length hfull; simpa using this
  have hld : ∀ i, i < (lels L.length L).length → ld (toW ((lels L.length L).getD i [])) < 4 := fun i hi => by
    rw [map_getD_five hfull hi, five_ld]; exact hredu.lt i (by omega)
  have l4 := solve_l4_ev i1 (by omega) hld (lels L.length L).length 0 (by omega)
  have l4' := l4.mono (T := fun r => vok [r.1, r.2.1, r.2.2.1, r.2.2.2] = true ∧ ((∃ d, Sol kind vals sh d) → Sol kind vals sh [r.1, r.2.1, r.2.2.1, r.2.2.2])) fun r hr => by
    rw [hr]; have hvok : vok (dset (lels L.length L) (lels L.length L).length) = true := vok_iff.2 ⟨dset_len _ _, dset_can i1 _ (Nat.le_refl _)⟩; refine ⟨hvok, fun ⟨d, hd⟩ => (sol_iff hk hs cv hvok).2 (told_sol hm ?_ ⟨toW d, (sol_iff hk hs cv hd.1).1 hd⟩)⟩
    have := dset_dd hredu hfull _ (Nat.le_refl _)
    rw [hfl] at this; rw [shW_len, hfl]; exact this
  have l2 := solve_l2_ev hm hL (by omega) hW (by rw [i2] at l4'; exact l4') L.length 0 (by omega)
  have := solve_l0_ev hv cv hs hn k1 kl (by rw [hLL, ← hlen]; exact l2) K.length 0 (by omega)
  simpa using this
theorem fits_ev {kind : Int} (hk : lkind kind = true) {vals sh : List Int} (hv : vals.length = 8) (cv : can vals) (hs : ∀ x ∈ sh, lshard x = true) (hn : sh.length ≤ 8) : Evp (fun k => impl_fits.f k kind vals sh) (fun r => r = true ↔ ∃ d, Sol kind vals sh d) := by
  unfold impl_fits.f
  refine Evp.bind (solve_ev hk hv cv hs hn) fun d hd => ?_
  obtain ⟨hd1, hd2⟩ := hd
  have key : ∀ (e j : Nat), j + e = sh.length → Evp (fun k => impl_fits.l0 k kind vals sh (sh.length : Int) (j : Int) d.1 d.2.1 d.2.2.1 d.2.2.2) (fun r => r = true ↔ ∀ i, j ≤ i → i < sh.length → ldot (lrow kind (sh.getD i 0)) [d.1, d.2.1, d.2.2.1, d.2.2.2] = gv vals sh i) := by
    intro e
    induction e with
    | zero =>
      intro j hj; refine Evp.step (fun k => by rw [impl_fits.l0]) (Evp.neg (by omega) (Evp.some' ?_)); exact ⟨fun _ i h1 h2 => by omega, fun _ => rfl⟩
    | succ e ih =>
      intro j hj
      have hj1 : j < sh.length := by omega
      obtain ⟨g1, g2, g3⟩ := gv_rd (vals := vals) hs hj1; have er : rd sh (j : Int) = sh.getD j 0 := rd_nat _ _; obtain ⟨r0, r1, r2, r3, e1, e2⟩ := impl_rowOf_eq hk (sh_ok hs hj1)
      have hrow := lrow_ok hk (sh_ok hs hj1)
      refine Evp.step (fun k => by rw [impl_fits.l0]) (Evp.pos (by omega) (Evp.pos (by omega) (Evp.pos (by omega) ?_))); rw [er, e2]; simp only [Option.bind_some]; rw [e1] at hrow; rw [impl_vector_dot_eq hrow hd1, ← e1]; simp only [Option.bind_some]; rw [er] at g1 g2 g3; refine Evp.pos g2 (Evp.pos (by omega) ?_); rw [g1]
      refine Evp.ite (fun hc => ?_) fun hc => Evp.some' ?_
      · rw [wrap_succ (by omega)]
        refine (ih (j + 1) (by omega)).mono fun r hr => hr.trans ⟨fun h i h1 h2 => ?_, fun h i h1 h2 => h i (by omega) h2⟩
        by_cases e3 : i = j
        · subst e3; exact hc
        · exact h i (by omega) h2
      · exact ⟨fun h => (by cases h), fun h => absurd (h j (Nat.le_refl _) hj1) hc⟩
  refine (key sh.length 0 (by omega)).mono fun r hr => hr.trans ⟨fun h => ⟨_, hd1, fun j hj => h j (by omega) hj⟩, fun h i _ hi => (hd2 h).2 i hi⟩
theorem l3Less_evG {a b : List Int} (ca : can a) (cb : can b) (hl : a.length = b.length) (hn : b.length ≤ 1000000) (h0 : 0 ≤ llead b) : Evp (fun k => spec_l3Less.f k a b) (· = lless a b) := by
  obtain ⟨i, hi, e⟩ : ∃ i : Nat, i < b.length ∧ llead b = (i : Int) := by
    rcases llead_cases b with ⟨h, _⟩ | ⟨i, h1, h2, _⟩
    · rw [h] at h0; exact absurd h0 (by decide)
    · exact ⟨i, by omega, h2⟩
  have oa := ok_iff.1 (can_get ca i); have ob := can_get cb i
  have oi := inv_range (b.getD i 0)
  unfold spec_l3Less.f
  refine Evp.bind (l2Lead_ev (by omega)) fun t ht => ?_
  subst ht; rw [e]; refine Evp.pos (by omega) (Evp.pos (by omega) (Evp.pos (by omega) ?_)); rw [rd_nat, rd_nat]
  refine Evp.bind (spec_l1Inv_ev ob) fun t ht => ?_
  subst ht
  have hm := mul_small (a := a.getD i 0) (b := inv (b.getD i 0)) (ok_iff.2 oa) (ok_iff.2 ⟨by omega, by omega⟩)
  have e2 : Int.tmod (wrap64 (31 - Int.tmod (wrap64 (a.getD i 0 * inv (b.getD i 0))) 31)) 31 = (31 - a.getD i 0 * inv (b.getD i 0) % 31) % 31 := by
    generalize a.getD i 0 * inv (b.getD i 0) = y at *; rw [wrap_small (x := y) (by omega), tmod31 (x := y) (by omega), wrap_small (by omega), tmod31 (by omega)]
  rw [e2]
  refine Evp.bind (l2Scale_ev cb (mod_ok _) (by omega)) fun t ht => ?_
  subst ht
  refine Evp.bind (l2Sum_ev ca (can_lscale _ _) (by rw [lscale_len]; omega) (by omega)) fun t ht => Evp.some' ?_
  rw [ht]; unfold lless; rw [e, gt_nat, gt_nat]
theorem can_lless (a b : List Int) : can (lless a b) := can_lsum _ _
theorem lless_len {a b : List Int} (hl : a.length = b.length) : (lless a b).length = a.length := by
  unfold lless; exact lsum_len (by rw [lscale_len]; exact hl)
/-- a step's rows, the one that leads at hand -/
def bstep (p i : Nat) (R : List (List Int)) : List (List Int) := R.mapIdx fun k r => if k ≠ i ∧ gt r p ≠ 0 then lless r (R.getD i []) else r
theorem bstep_len (p i : Nat) (R : List (List Int)) : (bstep p i R).length = R.length := by simp [bstep]
theorem bstep_get (p i : Nat) (R : List (List Int)) (j : Nat) (hj : j < R.length) : (bstep p i R)[j]'(by rw [bstep_len]; exact hj) = if j ≠ i ∧ gt R[j] p ≠ 0 then lless R[j] (R.getD i []) else R[j] := by
  simp [bstep]
theorem cl_getD {n : Nat} {R : List (List Int)} (hR : ∀ r ∈ R, Cl n r) {i : Nat} (hi : i < R.length) : Cl n (R.getD i []) := by
  rw [List.getD_eq_getElem?_getD, List.getElem?_eq_getElem hi]; exact hR _ (List.getElem_mem hi)
theorem cl_lless {n : Nat} {a b : List Int} (ha : Cl n a) (hb : Cl n b) : Cl n (lless a b) := ⟨by rw [lless_len (by rw [ha.1, hb.1]), ha.1], can_lless _ _⟩
theorem cl_bstep {n : Nat} {R : List (List Int)} (hR : ∀ r ∈ R, Cl n r) {p i : Nat} (hi : i < R.length) : ∀ r ∈ bstep p i R, Cl n r := fun r hr => by
  obtain ⟨j, hj, rfl⟩ := List.getElem_of_mem hr; rw [bstep_len] at hj; rw [bstep_get p i R j hj]
  split
  · exact cl_lless (hR _ (List.getElem_mem hj)) (cl_getD hR hi)
  · exact hR _ (List.getElem_mem hj)
def bmid (p i : Nat) (R : List (List Int)) (j : Nat) : List (List Int) := (bstep p i R).take j ++ R.drop j
theorem bmid_len (p i : Nat) (R : List (List Int)) {j : Nat} (hj : j ≤ R.length) : (bmid p i R j).length = R.length := by
  unfold bmid; rw [List.length_append, List.length_take, List.length_drop, bstep_len]; omega
theorem bmid_at (p i : Nat) (R : List (List Int)) {j : Nat} (hj : j < R.length) : (bmid p i R j).getD j [] = R.getD j [] := by
  unfold bmid; rw [List.getD_eq_getElem?_getD, List.getElem?_append_right (by rw [List.length_take, bstep_len]; omega), List.length_take, bstep_len, List.getElem?_drop, show j + (j - min j R.length) = j by omega]; rfl
theorem bmid_i (p i : Nat) (R : List (List Int)) {j : Nat} (hj : j ≤ R.length) (hi : i < R.length) : (bmid p i R j).getD i [] = R.getD i [] := by
  by_cases h : i < j
  · unfold bmid
    rw [List.getD_eq_getElem?_getD, List.getElem?_append_left (by rw [List.length_take, bstep_len]; omega), List.getElem?_take_of_lt h, List.getElem?_eq_getElem (by rw [bstep_len]; exact hi), bstep_get p i R i hi, if_neg (fun h => h.1 rfl), List.getD_eq_getElem?_getD, List.getElem?_eq_getElem hi]
  · unfold bmid
    rw [List.getD_eq_getElem?_getD, List.getElem?_append_right (by rw [List.length_take, bstep_len]; omega), List.length_take, bstep_len, List.getElem?_drop, show j + (i - min j R.length) = i by omega]; rfl
theorem bmid_same (p i : Nat) (R : List (List Int)) {j : Nat} (hj : j < R.length) (h : ¬ (j ≠ i ∧ gt R[j] p ≠ 0)) : bmid p i R (j + 1) = bmid p i R j := by
  unfold bmid; rw [List.take_succ_eq_append_getElem (by rw [bstep_len]; exact hj), bstep_get p i R j hj, if_neg h, List.drop_eq_getElem_cons hj, List.append_assoc]; rfl
theorem bmid_set (p i : Nat) (R : List (List Int)) {j : Nat} (hj : j < R.length) (h : j ≠ i ∧ gt R[j] p ≠ 0) : (bmid p i R j).set j (lless (R.getD j []) (R.getD i [])) = bmid p i R (j + 1) := by
  unfold bmid
  have hl : ((bstep p i R).take j).length = j := by rw [List.length_take, bstep_len]; omega
  rw [List.set_append_right _ _ (by omega), hl, Nat.sub_self, List.drop_eq_getElem_cons hj, List.set_cons_zero, List.take_succ_eq_append_getElem (by rw [bstep_len]; exact hj), bstep_get p i R j hj, if_pos h, List.append_assoc, List.getD_eq_getElem?_getD, List.getElem?_eq_getElem hj]; rfl
theorem vok_row {m : List (List Int)} (hm : ∀ r ∈ m, vok r = true) {i : Nat} (hi : i < m.length) : vok (m.getD i []) = true := by
  rw [List.getD_eq_getElem?_getD, List.getElem?_eq_getElem hi]; exact hm _ (List.getElem_mem hi)
theorem by_l3_ev {n : Nat} (hn : n ≤ 1000) {R : List (List Int)} (hR : ∀ r ∈ R, Cl (4 + n) r) (hl : R.length ≤ 1000000) {x : List Int} (hx : Cl (4 + n) x) {p i : Nat} (hp : p < 4) (hi : i < R.length) (hlead : llead (R.getD i []) = (p : Int)) {Q : _ → Prop}
    (h : Evp (fun k => spec_l3By.l1 k (bstep p i R) (lless x (R.getD i [])) ((p + 1 : Nat) : Int)) Q) : ∀ (d j : Nat), j + d = R.length →
    Evp (fun k => spec_l3By.l3 k (bmid p i R j) x (p : Int) (i : Int) (j : Int)) Q := by
  have ci := cl_getD hR hi
  intro d
  induction d with
  | zero =>
    intro j hj
    have hb := bmid_len p i R (j := j) (by omega)
    refine Evp.step (fun k => by rw [spec_l3By.l3]) (Evp.neg (by omega) (Evp.pos (by omega) (Evp.pos (by omega) ?_))); rw [rdL1_nat, bmid_i p i R (by omega) hi]
    refine Evp.bind (l3Less_evG hx.2 ci.2 (by rw [hx.1, ci.1]) (by rw [ci.1]; omega) (by omega)) fun t ht => ?_
    subst ht
    have e : bmid p i R j = bstep p i R := by
      unfold bmid; rw [List.take_of_length_le (by rw [bstep_len]; omega), List.drop_eq_nil_of_le (by omega), List.append_nil]
    rw [e, wrap_succ (by omega)]; exact h
  | succ d ih =>
    intro j hj
    have hj1 : j < R.length := by omega
    have hb := bmid_len p i R (j := j) (by omega)
    have cj := cl_getD hR hj1
    have eR : R[j] = R.getD j [] := by rw [List.getD_eq_getElem?_getD, List.getElem?_eq_getElem hj1]; rfl
    refine Evp.step (fun k => by rw [spec_l3By.l3]) (Evp.pos (by omega) (Evp.ite (fun hc => ?_) fun hc => ?_))
    · rw [wrap_succ (by omega), ← bmid_same p i R hj1 (fun h => h.1 (by omega))]
      exact ih (j + 1) (by omega)
    · refine Evp.pos (by omega) (Evp.pos (by omega) ?_)
      rw [rdL1_nat, bmid_at p i R hj1, rdL1_nat, bmid_i p i R (by omega) hi]; refine Evp.pos (by rw [cj.1]; omega) ?_; rw [rd_nat]
      refine Evp.ite (fun hz => ?_) fun hz => ?_
      · rw [wrap_succ (by omega), ← bmid_same p i R hj1 (fun h => h.2 (by rw [eR, gt_nat]; exact hz))]
        exact ih (j + 1) (by omega)
      · refine Evp.pos (by omega) (Evp.pos (by omega) ?_)
        refine Evp.bind (l3Less_evG cj.2 ci.2 (by rw [cj.1, ci.1]) (by rw [ci.1]; omega) (by omega)) fun t ht => ?_
        subst ht; rw [Int.toNat_natCast, wrap_succ (by omega), bmid_set p i R hj1 ⟨by omega, by rw [eR, gt_nat]; exact hz⟩]; exact ih (j + 1) (by omega)
theorem by_l2_ev {n : Nat} (hn : n ≤ 1000) {R : List (List Int)} (hR : ∀ r ∈ R, Cl (4 + n) r) (hl : R.length ≤ 1000000) {x : List Int} (hx : Cl (4 + n) x) {p : Nat} (hp : p < 4) {Q : _ → Prop}
    (h : Evp (fun k => spec_l3By.l1 k (Lin.lstep (R, x) p).1 (Lin.lstep (R, x) p).2 ((p + 1 : Nat) : Int)) Q) : ∀ (d i : Nat), i + d = R.length → (∀ q, q < i → llead (R.getD q []) ≠ (p : Int)) →
    Evp (fun k => spec_l3By.l2 k R x (p : Int) (i : Int)) Q := by
  intro d
  induction d with
  | zero =>
    intro i hi hq
    have e : R.findIdx? (fun r => llead r == (p : Int)) = none := by
      rw [List.findIdx?_eq_none_iff]; intro r hr; obtain ⟨q, hq1, rfl⟩ := List.getElem_of_mem hr
      have := hq q (by omega)
      rw [List.getD_eq_getElem?_getD, List.getElem?_eq_getElem hq1] at this
      simpa using this
    refine Evp.step (fun k => by rw [spec_l3By.l2]) (Evp.neg (by omega) ?_); rw [wrap_succ (by omega)]
    simpa only [Lin.lstep, e] using h
  | succ d ih =>
    intro i hi hq
    have hi1 : i < R.length := by omega
    have ci := cl_getD hR hi1
    refine Evp.step (fun k => by rw [spec_l3By.l2]) (Evp.pos (by omega) (Evp.pos (by omega) ?_)); rw [rdL1_nat]
    refine Evp.bind (l2Lead_ev (by rw [ci.1]; omega)) fun t ht => ?_
    subst ht
    refine Evp.ite (fun hc => ?_) fun hc => ?_
    · have e : R.findIdx? (fun r => llead r == (p : Int)) = some i := by
        rw [List.findIdx?_eq_some_iff_getElem]; refine ⟨hi1, ?_, fun q hq1 => ?_⟩
        · rw [List.getD_eq_getElem?_getD, List.getElem?_eq_getElem hi1] at hc
          simpa using hc
        · have := hq q hq1
          rw [List.getD_eq_getElem?_getD, List.getElem?_eq_getElem (by omega)] at this
          simpa using this
      have h2 : Evp (fun k => spec_l3By.l1 k (bstep p i R) (lless x (R.getD i [])) ((p + 1 : Nat) : Int)) Q := by
        have h1 := h
        simp only [Lin.lstep, e] at h1; exact h1
      exact by_l3_ev hn hR hl hx hp hi1 hc h2 R.length 0 (by omega)
    · rw [wrap_succ (by omega)]
      refine ih (i + 1) (by omega) fun q hq1 => ?_
      rcases Nat.lt_or_ge q i with c | c
      · exact hq q c
      · rw [show q = i by omega]; exact hc
theorem lstep_cl {n : Nat} {s : List (List Int) × List Int} (hR : ∀ r ∈ s.1, Cl (4 + n) r) (hx : Cl (4 + n) s.2) (p : Nat) : (∀ r ∈ (Lin.lstep s p).1, Cl (4 + n) r) ∧ Cl (4 + n) (Lin.lstep s p).2 ∧ (Lin.lstep s p).1.length = s.1.length := by
  unfold Lin.lstep
  split
  · exact ⟨hR, hx, rfl⟩
  · rename_i i e
    have hi : i < s.1.length := by
      obtain ⟨h, _⟩ := List.findIdx?_eq_some_iff_getElem.1 e; exact h
    exact ⟨cl_bstep (p := p) hR hi, cl_lless hx (cl_getD hR hi), bstep_len p i s.1⟩
theorem by_l1_ev {n : Nat} (hn : n ≤ 1000) {s : List (List Int) × List Int} (hR : ∀ r ∈ s.1, Cl (4 + n) r) (hl : s.1.length ≤ 1000000) (hx : Cl (4 + n) s.2) {p : Nat} (hp : p < 4) {Q : _ → Prop}
    (h : Evp (fun k => spec_l3By.l1 k (Lin.lstep s p).1 (Lin.lstep s p).2 ((p + 1 : Nat) : Int)) Q) : Evp (fun k => spec_l3By.l1 k s.1 s.2 (p : Int)) Q := by
  refine Evp.step (fun k => by rw [spec_l3By.l1]) (Evp.pos (by omega) ?_); exact by_l2_ev hn hR hl hx hp h s.1.length 0 (by omega) (fun q hq => absurd hq (Nat.not_lt_zero q))
theorem spec_l6In_eq (a b c : Int) : spec_l6In.f a b c = some (decide (b ≤ a) && decide (a ≤ c)) := by
  unfold spec_l6In.f
  by_cases h : b ≤ a
  · simp [h]
  · simp [h]
def byOf : Option (List Int) → List Int × Bool
  | some l => (l, true)
  | none => ([], false)
theorem spec_l3By_ev {m : List (List Int)} (hm : ∀ r ∈ m, vok r = true) (hn : m.length ≤ 1000) {v : List Int} (hv : vok v = true) : Evp (fun k => spec_l3By.f k m v) (· = byOf (Lin.lby m v)) := by
  obtain ⟨v4, vc⟩ := vok_iff.1 hv; unfold spec_l3By.f; have hx : Cl (4 + m.length) (v ++ List.replicate m.length 0) := ⟨by rw [List.length_append, List.length_replicate, v4], can_append vc (can_replicate _)⟩
  have hR : ∀ r ∈ (List.range m.length).map (laug m), Cl (4 + m.length) r := fun r hr => by
    obtain ⟨i, hi, rfl⟩ := List.mem_map.1 hr; exact laug_cl hm (List.mem_range.1 hi)
  have fin : Evp (fun k => spec_l3By.l1 k ((List.range m.length).map (laug m)) (v ++ List.replicate m.length 0) 0) (· = byOf (Lin.lby m v)) := by
    generalize hs : (((List.range m.length).map (laug m), v ++ List.replicate m.length 0) : List (List Int) × List Int) = s0
    have a0 : (∀ r ∈ s0.1, Cl (4 + m.length) r) ∧ Cl (4 + m.length) s0.2 ∧ s0.1.length = m.length := by subst hs; exact ⟨hR, hx, by simp⟩
    have a1 := lstep_cl a0.1 a0.2.1 0
    have a2 := lstep_cl a1.1 a1.2.1 1
    have a3 := lstep_cl a2.1 a2.2.1 2
    have a4 := lstep_cl a3.1 a3.2.1 3
    have es : Lin.lsteps m v = Lin.lstep (Lin.lstep (Lin.lstep (Lin.lstep s0 0) 1) 2) 3 := by unfold Lin.lsteps; rw [hs]; rfl
    have goal : Evp (fun k => spec_l3By.l1 k s0.1 s0.2 ((0 : Nat) : Int)) (· = byOf (Lin.lby m v)) := by
      refine by_l1_ev hn a0.1 (by omega) a0.2.1 (by decide) ?_; refine by_l1_ev hn a1.1 (by omega) a1.2.1 (by decide) ?_; refine by_l1_ev hn a2.1 (by omega) a2.2.1 (by decide) ?_; refine by_l1_ev hn a3.1 (by omega) a3.2.1 (by decide) ?_; refine Evp.step (fun k => by rw [spec_l3By.l1]) (Evp.neg (by decide) ?_); unfold Lin.lby; rw [es]; generalize Lin.lstep (Lin.lstep (Lin.lstep (Lin.lstep s0 0) 1) 2) 3 = s at a4 ⊢
      refine Evp.bind (l2Lead_ev (by rw [a4.2.1.1]; omega)) fun t ht => ?_
      subst ht; rw [spec_l6In_eq]; simp only [Option.bind_some]
      refine Evp.ite (fun hc => Evp.some' ?_) fun hc => ?_
      · rw [if_pos (by simpa using hc)]; rfl
      · rw [if_neg (by simpa using hc)]
        refine Evp.pos (by rw [a4.2.1.1]; omega) ?_
        refine Evp.bind (l2Scale_ev (fun y hy => a4.2.1.2 y (List.mem_of_mem_drop hy)) (by decide) (by rw [List.length_drop, a4.2.1.1]; omega)) fun t ht => Evp.some' ?_
        rw [ht]; rfl
    rw [← hs] at goal; exact goal
  have key : ∀ d i, i + d = m.length → Evp (fun k => spec_l3By.l0 k m v ((List.range i).map (laug m)) (i : Int)) (· = byOf (Lin.lby m v)) := by
    intro d
    induction d with
    | zero =>
      intro i hi; refine Evp.step (fun k => by rw [spec_l3By.l0]) (Evp.neg (by omega) ?_); simp only [Option.bind_some, List.nil_append, List.length_nil, Int.toNat_natCast]; refine Evp.pos (by omega) (Evp.pos (by omega) (Evp.pos (by omega) ?_)); rw [show i = m.length by omega]; exact fin
    | succ d ih =>
      intro i hi
      have hi1 : i < m.length := by omega
      have l4 := (vok_iff.1 (vok_row hm hi1)).1
      refine Evp.step (fun k => by rw [spec_l3By.l0]) (Evp.pos (by omega) (Evp.pos (by omega) ?_)); simp only [Option.bind_some, List.nil_append, List.length_nil, Int.toNat_natCast, List.length_replicate, List.length_set, rdL1_nat, List.length_map, List.length_range]; refine Evp.pos (by omega) (Evp.pos (by omega) (Evp.pos (by omega) (Evp.pos (by omega) (Evp.pos (by omega) (Evp.pos (by omega) ?_)))))
      have := ih (i + 1) (by omega)
      rw [List.range_succ, List.map_append] at this; rw [wrap_succ (by omega)]; exact this
  exact key m.length 0 (by omega)
/-- numbers have the values of the shards that are there, ahead of a place -/
def SolT (kind : Int) (vals : List Int) (there : List Bool) (i : Nat) (d : List Int) : Prop := vok d = true ∧ ∀ j, j < i → there.getD j false = true → ldot (lrow kind (j : Int)) d = vals.getD j 0
theorem sol_there {kind : Int} {vals : List Int} {there : List Bool} (h8 : there.length = 8) {d : List Int} : Sol kind vals (lshards there) d ↔ SolT kind vals there 8 d := by
  constructor
  · refine fun h => ⟨h.1, fun j hj ht => ?_⟩
    obtain ⟨q, hq, e⟩ := List.getElem_of_mem (shards_mem (by omega) ht)
    have := h.2 q hq
    unfold gv at this; rw [List.getD_eq_getElem?_getD, List.getElem?_eq_getElem hq] at this; simp only [Option.getD_some] at this; rw [e, Int.toNat_natCast] at this; exact this
  · refine fun h => ⟨h.1, fun q hq => ?_⟩
    have hm : (lshards there).getD q 0 ∈ lshards there := by rw [List.getD_eq_getElem?_getD, List.getElem?_eq_getElem hq]; exact List.getElem_mem hq
    obtain ⟨j, hj, e, ht⟩ := mem_shards hm; unfold gv; rw [e, Int.toNat_natCast]; exact h.2 j (by omega) ht
structure SI (kind : Int) (vals : List Int) (there : List Bool) (i : Nat) (rows : List (List Int)) (got : List Int) : Prop where
  len : rows.length = got.length
  le : rows.length ≤ i
  vk : ∀ r ∈ rows, vok r = true
  cn : can got
  pv : ∀ j, j < rows.length → IsPiv (rows.map toW) j
  eq : ∀ d, vok d = true → ((∀ q, q < rows.length → ldot (rows.getD q []) d = got.getD q 0) ↔ ∀ j, j < i → there.getD j false = true → ldot (lrow kind (j : Int)) d = vals.getD j 0)
theorem rows_getD {m : List (List Int)} {q : Nat} (hq : q < m.length) : (m.map toW).getD q zz = toW (m.getD q []) := getD_map_toW m q
theorem SI_sol {kind : Int} {vals : List Int} {there : List Bool} {i : Nat} {rows : List (List Int)} {got : List Int} (h : SI kind vals there i rows got) : ∃ d, SolT kind vals there i d := by
  obtain ⟨d, hd⟩ := indep_sol (toW_fours h.vk) (fun j hj => h.pv j (by simpa using hj)) (fun q => toF (got.getD q 0))
  have hv := ofW_vok d
  refine ⟨ofW d, hv, (h.eq _ hv).1 fun q hq => ?_⟩
  have h1 := hd q (by rw [List.length_map]; exact hq)
  rw [rows_getD hq, ← dotW_ofW] at h1; have hr : vok (rows.getD q []) = true := vok_getD h.vk hq; rw [← toF_ldot hr hv] at h1; exact toF_inj (ldot_range _ _) (ok_iff.1 (can_get h.cn q)) h1
/-- how often each, times what was got -/
def accS (l got : List Int) : Nat → Int
  | 0 => 0
  | q + 1 => (accS l got q + l.getD q 0 * got.getD q 0) % 31
theorem accS_range (l got : List Int) : ∀ q, 0 ≤ accS l got q ∧ accS l got q < 31
  | 0 => (by decide : (0 : Int) ≤ 0 ∧ (0 : Int) < 31)
  | q + 1 => by unfold accS; omega
theorem accS_toF (l got : List Int) : ∀ q, toF (accS l got q) = sumF (fun j => toW l j * toF (got.getD j 0)) q
  | 0 => rfl
  | q + 1 => by rw [accS, toF_mod, toF_add, toF_mul, accS_toF l got q]; rfl
theorem SI_made {kind : Int} {vals : List Int} {there : List Bool} {i : Nat} {rows : List (List Int)} {got : List Int} (h : SI kind vals there i rows got) {row l : List Int} (hr : vok row = true) (hl : comb (toW l) (rows.map toW) = toW row) {d : List Int} (hd : vok d = true) (hg : ∀ q, q < rows.length → ldot (rows.getD q []) d = got.getD q 0) : ldot row d = accS l got rows.length := by
  refine toF_inj (ldot_range _ _) (accS_range l got _) ?_; rw [toF_ldot hr hd, ← hl, dotW_comb, accS_toF, List.length_map]
  refine sumF_congr fun q hq => ?_
  rw [rows_getD hq, ← toF_ldot (vok_getD h.vk hq) hd, hg q hq]
theorem l4Fits_ev {kind : Int} (hk : lkind kind = true) {vals : List Int} (hv : vals.length = 8) (cv : can vals) {there : List Bool} (h8 : there.length = 8) : Evp (fun k => spec_l4Fits.f k kind vals there) (fun r => r = true ↔ ∃ d, SolT kind vals there 8 d) := by
  have key : ∀ (e i : Nat) (rows : List (List Int)) (got : List Int), i + e = 8 → SI kind vals there i rows got → Evp (fun k => spec_l4Fits.l0 k kind vals there rows got (i : Int)) (fun r => r = true ↔ ∃ d, SolT kind vals there 8 d) := by
    intro e
    induction e with
    | zero =>
      intro i rows got hi hs
      have e : i = 8 := by omega
      subst e; refine Evp.step (fun k => by rw [spec_l4Fits.l0]) (Evp.neg (by omega) (Evp.some' ?_)); exact ⟨fun _ => SI_sol hs, fun _ => rfl⟩
    | succ e ih =>
      intro i rows got hi hs
      have hle := hs.le
      have hlen := hs.len
      refine Evp.step (fun k => by rw [spec_l4Fits.l0]) (Evp.pos (by omega) (Evp.pos (by omega) (Evp.pos (by omega) ?_))); rw [rdOf_nat]
      refine Evp.ite (fun ht => ?_) fun ht => ?_
      · have hrow := lrow_ok hk (lshard_nat (i := i) (by omega))
        have hmok : mok rows = true := mok_iff.2 ⟨by omega, hs.vk⟩; rw [spec_l4Row_eq hk (lshard_nat (i := i) (by omega))]; simp only [Option.bind_some]; rw [l3Has_eq hmok hrow]; simp only [Option.bind_some]
        refine Evp.ite (fun hh => ?_) fun hh => ?_
        · have hin := (lhas_iff hs.vk hrow).1 hh
          refine Evp.bind (spec_l3By_ev hs.vk (by omega) hrow) fun b hb => ?_
          cases hlb : lby rows (lrow kind (i : Int)) with
          | none => exact absurd hin ((lby_none hs.vk hrow).1 hlb)
          | some l =>
            obtain ⟨hcl, hcomb⟩ := lby_some hs.vk hrow hlb; rw [hlb] at hb; subst hb
            show Evp (fun k => spec_l4Fits.l1 k kind vals there rows got (i : Int) l 0 0) _
            have cl := hcl.2
            have ll : l.length = rows.length := hcl.1
            have loop : ∀ (e q : Nat), q + e = l.length → Evp (fun k => spec_l4Fits.l1 k kind vals there rows got (i : Int) l (accS l got q) (q : Int)) (fun r => r = true ↔ ∃ d, SolT kind vals there 8 d) := by
              intro e
              induction e with
              | zero =>
                intro q hq
                have e : q = rows.length := by omega
                subst e; refine Evp.step (fun k => by rw [spec_l4Fits.l1]) (Evp.neg (by omega) (Evp.pos (by omega) (Evp.pos (by omega) ?_))); rw [rd_nat, wrap_succ (by omega)]
                refine Evp.ite (fun hc => ih (i + 1) rows got (by omega) ⟨hlen, by omega, hs.vk, hs.cn, hs.pv, fun d hd => ⟨fun hg j hj htj => ?_, fun hp => (hs.eq d hd).2 fun j hj htj => hp j (by omega) htj⟩⟩) fun hc => Evp.some' ?_
                · by_cases e2 : j = i
                  · subst e2; rw [SI_made hs hrow hcomb hd hg, hc]
                  · exact (hs.eq d hd).1 hg j (by omega) htj
                · refine ⟨fun h => (by cases h), fun ⟨d, hd, hp⟩ => ?_⟩
                  have hg := (hs.eq d hd).2 fun j hj htj => hp j (by omega) htj
                  have := SI_made hs hrow hcomb hd hg
                  rw [hp i (by omega) ht] at this; exact absurd this.symm hc
              | succ e ihq =>
                intro q hq
                have ra := accS_range l got q
                have a1 := ok_iff.1 (can_get cl q)
                have a2 := ok_iff.1 (can_get hs.cn q)
                have hb : 0 ≤ l.getD q 0 * got.getD q 0 ∧ l.getD q 0 * got.getD q 0 ≤ 900 := by
                  refine ⟨Int.mul_nonneg a1.1 a2.1, ?_⟩
                  calc l.getD q 0 * got.getD q 0 ≤ 30 * got.getD q 0 := Int.mul_le_mul_of_nonneg_right (by omega) a2.1
                    _ ≤ 900 := by omega
                refine Evp.step (fun k => by rw [spec_l4Fits.l1]) (Evp.pos (by omega) (Evp.pos (by omega) (Evp.pos (by omega) ?_))); rw [rd_nat, rd_nat, wrap_succ (by omega), Go.Proofs.Ytamaejafddmagaa.Pure.wrap_small (x := l.getD q 0 * got.getD q 0) (by omega), Go.Proofs.Ytamaejafddmagaa.Pure.wrap_small (x := accS l got q + l.getD q 0 * got.getD q 0) (by omega), tmod31 (by omega)]; exact ihq (q + 1) (by omega)
            exact loop l.length 0 (by omega)
        · have hnot : ¬ In (rows.map toW) (toW (lrow kind (i : Int))) := fun h => hh ((lhas_iff hs.vk hrow).2 h)
          refine Evp.pos (by omega) (Evp.pos (by omega) (Evp.pos (by omega) ?_)); rw [rd_nat, wrap_succ (by omega)]
          have get1 : ∀ q, q < rows.length → (rows ++ [lrow kind (i : Int)]).getD q [] = rows.getD q [] := fun q hq => by
            rw [List.getD_eq_getElem?_getD, List.getElem?_append_left hq, ← List.getD_eq_getElem?_getD]
          have get2 : (rows ++ [lrow kind (i : Int)]).getD rows.length [] = lrow kind (i : Int) := by
            rw [List.getD_eq_getElem?_getD, List.getElem?_append_right (Nat.le_refl _), Nat.sub_self]; rfl
          have got1 : ∀ q, q < rows.length → (got ++ [vals.getD i 0]).getD q 0 = got.getD q 0 := fun q hq => by
            rw [List.getD_eq_getElem?_getD, List.getElem?_append_left (by omega), ← List.getD_eq_getElem?_getD]
          have got2 : (got ++ [vals.getD i 0]).getD rows.length 0 = vals.getD i 0 := by
            rw [List.getD_eq_getElem?_getD, hlen, List.getElem?_append_right (Nat.le_refl _), Nat.sub_self]; rfl
          refine ih (i + 1) _ _ (by omega) ⟨by simp [hlen], by simp; omega, fun r hr => ?_, can_append hs.cn (fun x hx => ?_), fun j hj => ?_, fun d hd => ⟨fun hg j hj htj => ?_, fun hp q hq => ?_⟩⟩
          · rcases List.mem_append.1 hr with h | h
            · exact hs.vk r h
            · rw [List.mem_singleton.1 h]; exact hrow
          · rw [List.mem_singleton.1 hx]; exact can_get cv i
          · rw [List.length_append, List.length_singleton] at hj
            refine ⟨by simp; omega, ?_⟩
            by_cases e2 : j = rows.length
            · subst e2
              have eg : ((rows ++ [lrow kind (i : Int)]).map toW).getD rows.length zz = toW (lrow kind (i : Int)) := by rw [rows_getD (by simp), get2]
              rw [eg, List.map_append, List.take_left' (by rw [List.length_map])]; exact hnot
            · obtain ⟨_, h2⟩ := hs.pv j (by omega)
              rw [List.map_append, List.take_append_of_le_length (by rw [List.length_map]; omega)]
              have : (List.map toW rows ++ List.map toW [lrow kind (i : Int)]).getD j zz = (rows.map toW).getD j zz := by
                rw [List.getD_eq_getElem?_getD, List.getElem?_append_left (by rw [List.length_map]; omega), ← List.getD_eq_getElem?_getD]
              rw [this]; exact h2
          · by_cases e2 : j = i
            · subst e2
              have := hg rows.length (by simp)
              rwa [get2, got2] at this
            · refine (hs.eq d hd).1 (fun q hq => ?_) j (by omega) htj
              have := hg q (by simp; omega)
              rwa [get1 q hq, got1 q hq] at this
          · rw [List.length_append, List.length_singleton] at hq
            by_cases e2 : q = rows.length
            · subst e2; rw [get2, got2]; exact hp i (by omega) ht
            · rw [get1 q (by omega), got1 q (by omega)]
              exact (hs.eq d hd).2 (fun j hj htj => hp j (by omega) htj) q (by omega)
      · rw [wrap_succ (by omega)]
        refine ih (i + 1) rows got (by omega) ⟨hlen, by omega, hs.vk, hs.cn, hs.pv, fun d hd => (hs.eq d hd).trans ⟨fun h j hj htj => ?_, fun h j hj htj => h j (by omega) htj⟩⟩
        by_cases e2 : j = i
        · subst e2; exact absurd htj ht
        · exact h j (by omega) htj
  unfold spec_l4Fits.f; exact key 8 0 [] [] (by omega) ⟨rfl, Nat.le_refl _, fun r hr => by simp at hr, fun x hx => by simp at hx, fun j hj => by simp at hj, fun d hd => ⟨fun _ j hj => by omega, fun _ q hq => by simp at hq⟩⟩
theorem l4Vals_ev {vals : List Int} {there : List Bool} (hn : vals.length ≤ 1000000000000) : Evp (fun k => spec_l4Vals.f k vals there) (· = (vals.all ok && decide (vals.length = 8) && decide (there.length = 8))) := by
  have key : ∀ (d i : Nat), i + d = vals.length → (∀ x ∈ vals.take i, ok x = true) → Evp (fun k => spec_l4Vals.l0 k vals there (i : Int)) (· = (vals.all ok && decide (vals.length = 8) && decide (there.length = 8))) := by
    intro d
    induction d with
    | zero =>
      intro i hi hx; rw [List.take_of_length_le (by omega)] at hx; have ha : vals.all ok = true := List.all_eq_true.2 hx; refine Evp.step (fun k => by rw [spec_l4Vals.l0]) (Evp.neg (by omega) ?_); rw [ha]
      refine Evp.ite (fun h => Evp.some' ?_) fun h => Evp.some' ?_
      · rw [decide_eq_true (show vals.length = 8 by omega), Bool.eq_iff_iff]; simp; omega
      · rw [decide_eq_false (show ¬ vals.length = 8 by omega)]; rfl
    | succ d ih =>
      intro i hi hx
      have hi1 : i < vals.length := by omega
      refine Evp.step (fun k => by rw [spec_l4Vals.l0]) (Evp.pos (by omega) (Evp.pos (by omega) ?_)); rw [spec_FieldOk_eq]; simp only [Option.bind_some]; rw [rd_nat, wrap_succ (by omega)]
      have eg : vals.getD i 0 = vals[i] := by rw [List.getD_eq_getElem?_getD, List.getElem?_eq_getElem hi1]; rfl
      refine Evp.ite (fun h => ih (i + 1) (by omega) fun x hm => ?_) fun h => Evp.some' ?_
      · rw [List.take_succ_eq_append_getElem hi1] at hm
        rcases List.mem_append.1 hm with h1 | h1
        · exact hx x h1
        · rw [List.mem_singleton.1 h1, ← eg]; exact h
      · have : vals.all ok = false := by
          rw [List.all_eq_false]; exact ⟨vals[i], List.getElem_mem hi1, by rw [← eg]; exact h⟩
        rw [this]; rfl
  unfold spec_l4Vals.f; exact key vals.length 0 (by omega) (by simp)
/-- whether values fit -/
noncomputable def lfits (kind : Int) (vals : List Int) (there : List Bool) : Bool := lkind kind && (vals.all ok && decide (vals.length = 8) && decide (there.length = 8)) && @decide (∃ d, SolT kind vals there 8 d) (Classical.propDecidable _)
theorem spec_CodeFits_ev {kind : Int} {vals : List Int} {there : List Bool} (hn : vals.length ≤ 1000000000000) : Evp (fun k => spec_CodeFits.f k kind vals there) (· = lfits kind vals there) := by
  unfold spec_CodeFits.f lfits; rw [spec_l4Kind_eq]; simp only [Option.bind_some]
  refine Evp.ite (fun hk => ?_) fun hk => Evp.some' (by simp [hk])
  refine Evp.bind (l4Vals_ev (there := there) hn) fun t ht => ?_
  subst ht
  refine Evp.ite (fun h => ?_) fun h => Evp.some' (by rw [Bool.eq_false_iff.2 h]; simp)
  have h' := h
  simp only [Bool.and_eq_true, decide_eq_true_eq] at h'
  refine Evp.bind (l4Fits_ev hk h'.1.2 (fun x hx => List.all_eq_true.1 h'.1.1 x hx) h'.2) fun t ht => Evp.some' ?_
  rw [hk, h, Bool.eq_iff_iff, ht]; simp
theorem impl_CodeFits_ev {kind : Int} {vals : List Int} {there : List Bool} : Evp (fun k => impl_CodeFits.f k kind vals there) (· = lfits kind vals there) := by
  unfold impl_CodeFits.f lfits; rw [impl_kindOk_eq]; simp only [Option.bind_some]
  refine Evp.ite (fun hk => ?_) fun hk => Evp.some' (by simp [hk])
  unfold impl_valsOk.f impl_elementsOk.f; simp only [Option.bind_some]
  refine Evp.ite (fun h => ?_) fun h => Evp.some' ?_
  · have h' := h
    simp only [Bool.and_eq_true, decide_eq_true_eq] at h'
    have hv : vals.length = 8 := by omega
    have cv : can vals := fun x hx => List.all_eq_true.1 h'.2 x hx
    refine Evp.ite (fun h8 => ?_) fun h8 => Evp.some' ?_
    · have h8' : there.length = 8 := by omega
      refine Evp.bind (impl_flagged_ev (by omega)) fun t ht => ?_
      subst ht
      refine Evp.bind (fits_ev hk hv cv (fun x hx => by obtain ⟨j, hj, rfl, _⟩ := mem_shards hx; exact lshard_nat (by omega)) (by have := lshards_len there; omega)) fun t ht => Evp.some' ?_
      rw [hk, h'.2, decide_eq_true hv, decide_eq_true h8', Bool.eq_iff_iff, ht]; simp only [Bool.and_true, Bool.true_and, decide_eq_true_eq]; exact ⟨fun ⟨d, hd⟩ => ⟨d, (sol_there h8').1 hd⟩, fun ⟨d, hd⟩ => ⟨d, (sol_there h8').2 hd⟩⟩
    · rw [decide_eq_false (show ¬ there.length = 8 by omega)]; simp
  · have : (vals.all ok && decide (vals.length = 8)) = false := by
      rw [Bool.eq_false_iff]; intro h2
      apply h
      simp only [Bool.and_eq_true, decide_eq_true_eq] at h2 ⊢; exact ⟨by omega, h2.1⟩
    rw [this]; simp
theorem lfits_of {kind : Int} (hk : lkind kind = true) {vals : List Int} (hv : vals.length = 8) (cv : can vals) {there : List Bool} (h8 : there.length = 8) {d : List Int} (hd : SolT kind vals there 8 d) : lfits kind vals there = true := by
  unfold lfits; rw [hk, List.all_eq_true.2 cv, decide_eq_true hv, decide_eq_true h8, @decide_eq_true (∃ d, SolT kind vals there 8 d) (Classical.propDecidable _) ⟨d, hd⟩]; rfl
theorem lfits_to {kind : Int} {vals : List Int} {there : List Bool} (h : lfits kind vals there = true) : lkind kind = true ∧ vals.length = 8 ∧ can vals ∧ there.length = 8 ∧ ∃ d, SolT kind vals there 8 d := by
  unfold lfits at h; simp only [Bool.and_eq_true, decide_eq_true_eq] at h; exact ⟨h.1.1, h.1.2.1.2, fun x hx => List.all_eq_true.1 h.1.2.1.1 x hx, h.1.2.2, h.2⟩
theorem l91There_ev2 {l : List Int} (hs : St l) {p : Int} (hp : 0 ≤ p ∧ p ≤ 80000) : Evp (fun k => spec_l91There.f k l p) (fun r => r.1.length ≤ 8 ∧ 0 ≤ r.2 ∧ r.2 ≤ p + 100) := by
  have key : ∀ (d : Nat) (out : List Bool) (q : Int), out.length = 8 → 0 ≤ q ∧ q ≤ p + 50 - d → d ≤ 10 → Evp (fun k => spec_l91There.l0 k out (d : Int) l q) (fun r => r.1.length ≤ 8 ∧ 0 ≤ r.2 ∧ r.2 ≤ p + 100) := by
    intro d
    induction d with
    | zero =>
      intro out q ho hq _; refine Evp.step (fun k => by rw [spec_l91There.l0]) (Evp.neg (by omega) ?_)
      refine Evp.bind (pick_ev hs (n := 40) (by omega) (by omega)) fun r hr => ?_
      refine Evp.ite (fun _ => Evp.pos (by omega) (Evp.some' ⟨?_, ?_, ?_⟩)) fun _ => Evp.some' ⟨?_, ?_, ?_⟩
      · show (out.drop (1 : Int).toNat).length ≤ 8
        rw [List.length_drop]; omega
      · show 0 ≤ r.2; omega
      · show r.2 ≤ p + 100; omega
      · show out.length ≤ 8; omega
      · show 0 ≤ r.2; omega
      · show r.2 ≤ p + 100; omega
    | succ d ih =>
      intro out q ho hq hd; refine Evp.step (fun k => by rw [spec_l91There.l0]) (Evp.pos (by omega) ?_)
      refine Evp.bind (pick_ev hs (n := (out.length : Int)) (by omega) (by omega)) fun r hr => ?_
      refine Evp.pos hr.1 (Evp.pos hr.2.1 ?_); rw [Go.Proofs.Ytamaejafddmagaa.Pure.wrap_small (x := ((d + 1 : Nat) : Int) - 1) (by omega), show ((d + 1 : Nat) : Int) - 1 = (d : Int) by omega]; exact ih _ _ (by simp [ho]) (by have := hr.2.2; omega) (by omega)
  unfold spec_l91There.f
  refine Evp.bind l4Set_len fun t ht => ?_
  refine Evp.bind (pick_ev hs (n := 6) (by omega) (by omega)) fun r hr => ?_
  have := key r.1.toNat t r.2 ht (by have := hr.2; omega) (by omega)
  rw [show ((r.1.toNat : Nat) : Int) = r.1 by omega] at this; exact this
theorem l91Num_ev {l : List Int} (hs : St l) {p : Int} (hp : 0 ≤ p ∧ p ≤ 90000) : Evp (fun k => spec_l91Num.f k l p) (fun _ => True) := by
  unfold spec_l91Num.f
  refine Evp.bind (pick_ev hs (n := 10) (by omega) (by omega)) fun r hr => ?_
  refine Evp.ite (fun _ => Evp.some' trivial) fun _ => ?_
  refine Evp.ite (fun _ => ?_) fun _ => ?_
  · simp only [Option.bind_some]
    refine Evp.bind (pick_ev hs (n := 2) (by omega) (by omega)) fun r2 hr2 => ?_
    exact Evp.pos hr2.1 (Evp.pos (by simp; omega) (Evp.some' trivial))
  · refine Evp.ite (fun _ => ?_) fun _ => ?_
    · refine Evp.bind (pick_ev hs (n := 5) (by omega) (by omega)) fun r2 hr2 => ?_
      refine Evp.ite (fun _ => ?_) fun _ => ?_
      · simp only [Option.bind_some]
        refine Evp.bind (pick_ev hs (n := 2) (by omega) (by omega)) fun r3 hr3 => ?_
        exact Evp.pos hr3.1 (Evp.pos (by simp; omega) (Evp.some' trivial))
      · exact Evp.bind (pick_ev hs (n := 31) (by omega) (by omega)) fun r3 hr3 => Evp.some' trivial
    · exact Evp.bind (pick_ev hs (n := 31) (by omega) (by omega)) fun r3 hr3 => Evp.some' trivial
theorem drawCodeFits_ev {l : List Int} (h : ∀ x ∈ l, 0 ≤ x ∧ x ≤ 255) : Evp (fun k => spec_DrawCodeFits.f k l) (fun r => r.2.1.length ≤ 10 ∧ r.2.2.length ≤ 8) := by
  unfold spec_DrawCodeFits.f; obtain ⟨l', e, hs⟩ := open_eq l h; rw [e]; simp only [Option.bind_some]
  refine Evp.bind (Q := fun r => r.2.1.length ≤ 10 ∧ r.2.2.1.length ≤ 8) ?_ fun r hr => Evp.some' hr
  unfold spec_l91Vals.f
  refine Evp.bind (pick_ev hs (p := 0) (n := 2) (by omega) (by omega)) fun r1 h1 => ?_
  refine Evp.bind (pick_ev hs (n := 31) (by omega) (by omega)) fun r2 h2 => ?_
  refine Evp.bind (pick_ev hs (n := 5) (by omega) (by omega)) fun r3 h3 => ?_
  refine Evp.bind (pick_ev hs (n := 31) (by omega) (by omega)) fun r4 h4 => ?_
  refine Evp.bind (pick_ev hs (n := 3) (by omega) (by omega)) fun r5 h5 => ?_
  rw [Go.Proofs.Ytamaejafddmagaa.Pure.wrap_small (x := 1 + r1.1) (by omega)]
  refine Evp.bind (spec_l4All_ev (by unfold lkind; simp; omega) (vok_mk (ok_iff.2 (by omega)) (ok_iff.2 (by omega)) (ok_iff.2 (by omega)) (ok_iff.2 (by omega)))) fun t ht => ?_
  subst ht
  refine Evp.bind (l91There_ev2 hs (by omega)) fun r6 h6 => ?_
  refine Evp.bind (pick_ev hs (n := 6) (by omega) (by omega)) fun r7 h7 => ?_
  have hl : (lall (1 + r1.1) [r2.1, r3.1, r4.1, r5.1]).length = 8 := lall_len _ _
  refine Evp.ite (fun _ => ?_) fun _ => ?_
  · refine Evp.bind (pick_ev hs (n := ((lall (1 + r1.1) [r2.1, r3.1, r4.1, r5.1]).length : Int)) (by omega) (by omega)) fun r8 h8 => ?_
    refine Evp.bind (l91Num_ev hs (by omega)) fun r9 h9 => ?_
    refine Evp.pos (by omega) (Evp.pos (by omega) (Evp.some' ⟨?_, h6.1⟩))
    show ((lall (1 + r1.1) [r2.1, r3.1, r4.1, r5.1]).set r8.1.toNat r9.1).length ≤ 10
    rw [List.length_set]; omega
  · refine Evp.ite (fun _ => ?_) fun _ => Evp.some' ⟨by show (lall (1 + r1.1) [r2.1, r3.1, r4.1, r5.1]).length ≤ 10; omega, h6.1⟩
    refine Evp.bind (pick_ev hs (n := 3) (by omega) (by omega)) fun r8 h8 => ?_
    refine Evp.ite (fun _ => ?_) fun _ => Evp.some' ⟨by show (lall (1 + r1.1) [r2.1, r3.1, r4.1, r5.1]).length ≤ 10; omega, h6.1⟩
    exact Evp.bind (l91Kind_ev hs (by omega)) fun r9 h9 => Evp.some' ⟨by show (lall (1 + r1.1) [r2.1, r3.1, r4.1, r5.1]).length ≤ 10; omega, h6.1⟩
theorem set_getD {α : Type} (l : List α) (z : α) (i j : Nat) (x : α) (hi : i < l.length) : (l.set i x).getD j z = if i = j then x else l.getD j z := by
  rw [List.getD_eq_getElem?_getD, List.getElem?_set]
  by_cases h : i = j
  · rw [if_pos h, if_pos h, if_pos hi]; rfl
  · rw [if_neg h, if_neg h, ← List.getD_eq_getElem?_getD]
theorem FnFits : laws_FnFits.Pure := by
  intro l l1 hm hl hw hm1 hl1 hw1; refine Evp.rounds ?_
  have hk8 : 0 ≤ (l1.length : Int) % 8 ∧ (l1.length : Int) % 8 < 8 := by omega
  obtain ⟨q, hq, hq8⟩ : ∃ q : Nat, (l1.length : Int) % 8 = (q : Int) ∧ q < 8 := ⟨((l1.length : Int) % 8).toNat, by omega, by omega⟩
  have hc30 : 0 ≤ (l1.length : Int) % 30 ∧ (l1.length : Int) % 30 < 30 := by omega
  have key2 : ∀ (kind : Int) (vals : List Int) (there : List Bool) (c : Bool), lfits kind vals there = true → (c = false → there.getD q false = true ∧ lbears kind (there.set q false) = true) → Evp (fun k => laws_FnFits.j2 k l1 kind vals there ((l1.length : Int) % 8) (there.set q false) c) (· = true) := fun kind vals there c hf hc => by
    obtain ⟨hk, hv, cv, h8, d, hd⟩ := lfits_to hf
    have sub : ∀ j, j < 8 → (there.set q false).getD j false = true → there.getD j false = true ∧ j ≠ q := fun j hj ht => by
      rw [set_getD _ _ _ _ _ (by omega)] at ht
      by_cases e : q = j
      · rw [if_pos e] at ht; cases ht
      · rw [if_neg e] at ht; exact ⟨ht, fun h => e h.symm⟩
    have h8l : (there.set q false).length = 8 := by rw [List.length_set]; exact h8
    have hdl : SolT kind vals (there.set q false) 8 d := ⟨hd.1, fun j hj ht => hd.2 j hj (sub j hj ht).1⟩; refine Evp.step (fun k => by rw [laws_FnFits.j2]) ?_
    refine Evp.ite (fun _ => ?_) fun h => ?_
    · refine Evp.bind impl_CodeFits_ev fun t ht => Evp.some' ?_
      rw [ht]; exact lfits_of hk hv cv h8l hdl
    · obtain ⟨htq, hb⟩ := hc (by simpa using h)
      simp only [Option.bind_some, List.nil_append, List.length_nil, Nat.zero_add]; rw [hq, rd_nat]; refine Evp.pos (by omega) (Evp.pos (by omega) (Evp.pos (by omega) ?_)); rw [impl_FieldSum_eq]; simp only [Option.bind_some]; refine Evp.pos (by omega) ?_; rw [Int.toNat_natCast]
      have ovq := can_get cv q
      have oc : ok (1 + (l1.length : Int) % 30) = true := ok_iff.2 (by omega); have hbad : fsum (vals.getD q 0) (1 + (l1.length : Int) % 30) = (vals.getD q 0 + (1 + (l1.length : Int) % 30)) % 31 := fsum_ok ovq oc; have cb : can (vals.set q (fsum (vals.getD q 0) (1 + (l1.length : Int) % 30))) := can_set cv q (fsum_range _ _)
      have hvb : (vals.set q (fsum (vals.getD q 0) (1 + (l1.length : Int) % 30))).length = 8 := by rw [List.length_set]; exact hv
      refine Evp.bind impl_CodeFits_ev fun t ht => ?_
      have hnot : t = false := by
        rw [ht, Bool.eq_false_iff]; intro hx; obtain ⟨_, _, _, _, e, he⟩ := lfits_to hx
        have same : e = d := bears_same hk h8l hb he.1 hd.1 fun j hj htj => by
          obtain ⟨h1, h2⟩ := sub j hj htj; rw [he.2 j hj h1, hd.2 j hj h1, set_getD _ _ _ _ _ (by omega), if_neg (fun h => h2 h.symm)]
        have h1 := he.2 q hq8 htq
        rw [same, hd.2 q hq8 htq, set_getD _ _ _ _ _ (by omega), if_pos rfl, hbad] at h1
        have := ok_iff.1 ovq
        omega
      refine Evp.neg (by rw [hnot]; decide) ?_
      refine Evp.bind impl_CodeFits_ev fun t2 ht2 => Evp.some' ?_
      rw [ht2]; refine lfits_of hk hvb cb h8l ⟨hd.1, fun j hj htj => ?_⟩; obtain ⟨h1, h2⟩ := sub j hj htj; rw [set_getD _ _ _ _ _ (by omega), if_neg (fun h => h2 h.symm)]; exact hd.2 j hj h1
  have key1 : ∀ (kind : Int) (vals : List Int) (there : List Bool) (c : Bool), vals.length ≤ 10 → there.length ≤ 8 → (c = false → lfits kind vals there = true) → Evp (fun k => laws_FnFits.j1 k l1 kind vals there (lfits kind vals there) c) (· = true) := fun kind vals there c hlv hlt hc => by
    refine Evp.step (fun k => by rw [laws_FnFits.j1]) ?_
    refine Evp.ite (fun _ => ?_) fun h => ?_
    · refine Evp.bind (spec_CodeFits_ev (by omega)) fun t ht => Evp.some' ?_
      rw [ht]; simp
    · have hf := hc (by simpa using h)
      obtain ⟨hk, hv, cv, h8, _⟩ := lfits_to hf; simp only [Option.bind_some, List.nil_append, List.length_nil, Nat.zero_add]; refine Evp.pos (by omega) (Evp.pos hk8.1 (Evp.pos (by omega) (Evp.pos (by omega) ?_)))
      have e1 : ((l1.length : Int) % 8).toNat = q := by omega
      rw [e1]
      refine Evp.ite (fun ht => ?_) fun ht => key2 _ _ _ true hf (by simp)
      rw [hq, rdOf_nat] at ht
      refine Evp.bind impl_CodeBears_ev fun t hb => ?_
      subst hb
      exact key2 _ _ _ _ hf fun h => ⟨ht, by simpa using h⟩
  have key0 : ∀ c : Bool, Evp (fun k => laws_FnFits.j0 k l l1 c) (· = true) := fun c => by
    refine Evp.step (fun k => by rw [laws_FnFits.j0]) ?_
    refine Evp.ite (fun _ => Evp.some' rfl) fun h => ?_
    refine Evp.bind (drawCodeFits_ev (fun x hx => bounds_u8 (hw x hx))) fun m hd => ?_
    refine Evp.bind impl_CodeFits_ev fun t ht => ?_
    subst ht
    refine Evp.bind (spec_CodeFits_ev (by omega)) fun t ht => ?_
    subst ht; exact Evp.neg (by simp) (key1 _ _ _ _ hd.1 hd.2 fun h => by simpa using h)
  unfold laws_FnFits.f
  exact Evp.ite (fun _ => key0 _) fun _ => key0 _
end Go.Proofs.Ytamaejafddmagaa.Pure
