import Derived.Test.YtlplmafncbgngaaPAx0
import Derived.Test.YtlplmafncbgngaaPAx10
import Derived.Test.YtlplmafncbgngaaPAx11
import Derived.Test.YtlplmafncbgngaaPAx12
import Derived.Test.YtlplmafncbgngaaPAx13
import Derived.Test.YtlplmafncbgngaaPAx14
import Derived.Test.YtlplmafncbgngaaPAx15
import Derived.Test.YtlplmafncbgngaaPAx16
import Derived.Test.YtlplmafncbgngaaPAx18
import Derived.Test.YtlplmafncbgngaaPAx19
import Derived.Test.YtlplmafncbgngaaPAx2
import Derived.Test.YtlplmafncbgngaaPAx20
import Derived.Test.YtlplmafncbgngaaPAx3
import Derived.Test.YtlplmafncbgngaaPAx6
import Derived.Test.YtlplmafncbgngaaPAx7
import Derived.Test.YtlplmafncbgngaaMa
import Derived.Test.YtlplmafncbgngaaCodeLin
import Derived.OpenShut
/- Of the printed functions over single rows: what a walk by hand wants of them. -/
set_option linter.unusedVariables false
set_option linter.unusedSimpArgs false
namespace Go.Proofs.Ytlplmafncbgngaa.Pure
open Go.RowKit Go.Proofs.Ytlplmafncbgngaa.PA Go.Proofs.YtlplmafncbgngaaW.PrintWords Go.Proofs.YtlplmafncbgngaaW.PrintLast Go.Proofs.YtlplmafncbgngaaW.PrintMore Go.Proofs.Ytlplmafncbgngaa.Lin

def Evp {α : Type} (g : Nat → Option α) (Q : α → Prop) : Prop := ∃ r, Q r ∧ ∃ K, ∀ k, K ≤ k → g k = some r
theorem Evp.some' {α : Type} {r : α} {Q : α → Prop} (h : Q r) : Evp (fun _ => some r) Q := ⟨r, h, 0, fun _ _ => rfl⟩
theorem Evp.bind {α β : Type} {g : Nat → Option α} {f : Nat → α → Option β} {Q : α → Prop} {T : β → Prop} (h : Evp g Q) (k : ∀ r, Q r → Evp (fun n => f n r) T) : Evp (fun n => (g n).bind (f n)) T := by
  obtain ⟨r, hq, K, h⟩ := h
  obtain ⟨s, ht, K', k⟩ := k r hq
  refine ⟨s, ht, max K K', fun n hn => ?_⟩
  have h1 := h n (by omega)
  have h2 := k n (by omega)
  simp only [h1, Option.bind_some]
  exact h2
theorem Evp.step {α : Type} {g f : Nat → Option α} {Q : α → Prop} (h : ∀ k, g (k + 1) = f k) (k : Evp f Q) : Evp g Q := by
  obtain ⟨r, hq, K, k⟩ := k
  refine ⟨r, hq, K + 1, fun n hn => ?_⟩
  obtain ⟨m, rfl⟩ : ∃ m, n = m + 1 := ⟨n - 1, by omega⟩
  rw [h]
  exact k m (by omega)
theorem Evp.mono {α : Type} {g : Nat → Option α} {Q T : α → Prop} (h : Evp g Q) (k : ∀ r, Q r → T r) : Evp g T := by
  obtain ⟨r, hq, K, h⟩ := h
  exact ⟨r, k r hq, K, h⟩
theorem Evp.rounds {α : Type} {g : Nat → Option α} {r : α} (h : Evp g (· = r)) : ∃ k, g k = some r := by
  obtain ⟨s, rfl, K, h⟩ := h
  exact ⟨K, h K (Nat.le_refl _)⟩
theorem Evp.ite {α : Type} {c : Prop} [Decidable c] {g f : Nat → Option α} {Q : α → Prop} (h : c → Evp g Q) (k : ¬ c → Evp f Q) : Evp (fun n => if c then g n else f n) Q := by
  by_cases hc : c
  · simp only [if_pos hc]; exact h hc
  · simp only [if_neg hc]; exact k hc
theorem Evp.pos {α : Type} {c : Prop} [Decidable c] {g f : Nat → Option α} {Q : α → Prop} (hc : c) (h : Evp g Q) : Evp (fun n => if c then g n else f n) Q := by
  simp only [if_pos hc]; exact h
theorem Evp.neg {α : Type} {c : Prop} [Decidable c] {g f : Nat → Option α} {Q : α → Prop} (hc : ¬ c) (h : Evp f Q) : Evp (fun n => if c then g n else f n) Q := by
  simp only [if_neg hc]; exact h
theorem wrap_small {x : Int} (h : -9223372036854775808 ≤ x ∧ x ≤ 9223372036854775807) : wrap64 x = x := by unfold wrap64; omega
theorem tmod31 {x : Int} (h : 0 ≤ x) : Int.tmod x 31 = x % 31 := Int.tmod_eq_emod_of_nonneg h
theorem mul_small {a b : Int} (ha : ok a = true) (hb : ok b = true) : 0 ≤ a * b ∧ a * b ≤ 900 := by
  rw [ok_iff] at ha hb
  constructor
  · exact Int.mul_nonneg ha.1 hb.1
  · have h1 : a * b ≤ a * 30 := Int.mul_le_mul_of_nonneg_left (by omega) ha.1
    omega
theorem rd_nat (l : List Int) (i : Nat) : rd l (i : Int) = l.getD i 0 := by unfold rd; rw [Int.toNat_natCast]
theorem getD_get {l : List Int} {i : Nat} (h : i < l.length) : l.getD i 0 = l[i] := by rw [List.getD_eq_getElem?_getD, List.getElem?_eq_getElem h]; rfl
theorem wrap_succ {i : Nat} (h : i ≤ 1000000000000000) : wrap64 ((i : Int) + 1) = ((i + 1 : Nat) : Int) := by rw [wrap_small (by omega)]; omega
theorem eq_loop {F : Nat → List Int → List Int → Int → Option Bool}
    (hF : ∀ k a b i, F (k + 1) a b i = if i < (a.length : Int) then (if 0 ≤ i then (if i < (b.length : Int) then (if (rd a i) = (rd b i) then (F k a b (wrap64 (i + 1))) else (some false)) else (none)) else (none)) else (some true))
    {a b : List Int} (hl : a.length = b.length) (ha : a.length ≤ 1000000000000) : Evp (fun k => F k a b 0) (· = decide (a = b)) := by
  have key : ∀ d i, i + d = a.length → (∀ j, j < i → a.getD j 0 = b.getD j 0) → Evp (fun k => F k a b (i : Int)) (· = decide (a = b)) := by
    intro d
    induction d with
    | zero =>
      intro i hi hp
      refine Evp.step (fun k => hF k a b i) ?_
      refine Evp.neg (by omega) ?_
      refine Evp.some' ?_
      have : a = b := List.ext_getElem hl fun j h1 h2 => by have := hp j (by omega); rwa [getD_get h1, getD_get h2] at this
      simp [this]
    | succ d ih =>
      intro i hi hp
      refine Evp.step (fun k => hF k a b i) ?_
      refine Evp.pos (by omega) (Evp.pos (by omega) (Evp.pos (by omega) ?_))
      rw [rd_nat, rd_nat, wrap_succ (by omega)]
      refine Evp.ite (fun h => ih (i + 1) (by omega) fun j hj => ?_) fun h => Evp.some' ?_
      · rcases Nat.lt_or_ge j i with c | c
        · exact hp j c
        · have : j = i := by omega
          subst this; exact h
      · have : a ≠ b := fun e => h (by rw [e])
        simp [this]
  exact key a.length 0 (by omega) (fun j hj => absurd hj (Nat.not_lt_zero j))
theorem eqIntS_ev {a b : List Int} (ha : a.length ≤ 1000000000000) : Evp (fun k => laws_eqIntS.f k a b) (· = decide (a = b)) := by
  unfold laws_eqIntS.f
  refine Evp.ite (fun h => eq_loop (fun k a b i => by rw [laws_eqIntS.l0]) (by omega) ha) fun h => Evp.some' ?_
  have : a ≠ b := fun e => h (by rw [e])
  simp [this]
theorem toIntS_ev {l : List Int} (hl : l.length ≤ 1048576) : Evp (fun k => laws_toIntS.f k l) (· = l) := by
  have key : ∀ d i, i + d = l.length → Evp (fun k => laws_toIntS.l0 k l (l.take i ++ List.replicate d 0) (i : Int)) (· = l) := by
    intro d
    induction d with
    | zero =>
      intro i hi
      refine Evp.step (fun k => by rw [laws_toIntS.l0]) ?_
      refine Evp.neg (by omega) ?_
      refine Evp.some' ?_
      simp [List.take_of_length_le (show l.length ≤ i by omega)]
    | succ d ih =>
      intro i hi
      refine Evp.step (fun k => by rw [laws_toIntS.l0]) ?_
      refine Evp.pos (by omega) (Evp.pos (by omega) (Evp.pos (by simp; omega) ?_))
      rw [wrap_succ (by omega), Int.toNat_natCast, rd_nat, getD_get (show i < l.length by omega)]
      have e : (l.take i ++ List.replicate (d + 1) 0).set i l[i] = l.take (i + 1) ++ List.replicate d 0 := by
        rw [List.set_append, if_neg (by simp; omega), List.length_take, Nat.min_eq_left (by omega), Nat.sub_self, List.replicate_succ, List.set_cons_zero, List.take_succ_eq_append_getElem (show i < l.length by omega), List.append_assoc]; rfl
      rw [e]
      exact ih (i + 1) (by omega)
  unfold laws_toIntS.f
  refine Evp.pos (by omega) (Evp.pos (by omega) ?_)
  rw [Int.toNat_natCast]
  have := key l.length 0 (by omega)
  rwa [List.take_zero, List.nil_append] at this
theorem can_small {l : List Int} (h : can l) (i : Nat) : 0 ≤ l.getD i 0 ∧ l.getD i 0 < 31 := ok_iff.1 (can_get h i)
theorem zip_take {α : Type} (f : Int → Int → α) {a b : List Int} {i : Nat} (h1 : i < a.length) (h2 : i < b.length) : List.zipWith f (a.take (i + 1)) (b.take (i + 1)) = List.zipWith f (a.take i) (b.take i) ++ [f (a.getD i 0) (b.getD i 0)] := by
  rw [List.take_succ_eq_append_getElem h1, List.take_succ_eq_append_getElem h2, List.zipWith_append (by simp; omega), getD_get h1, getD_get h2]; rfl
theorem l2Scale_ev {a : List Int} (ha : can a) {c : Int} (hc : ok c = true) (hn : a.length ≤ 1000000000000) : Evp (fun k => spec_l2Scale.f k a c) (· = lscale a c) := by
  have key : ∀ d i, i + d = a.length → Evp (fun k => spec_l2Scale.l0 k a c (lscale (a.take i) c) (i : Int)) (· = lscale a c) := by
    intro d
    induction d with
    | zero =>
      intro i hi
      refine Evp.step (fun k => by rw [spec_l2Scale.l0]) ?_
      refine Evp.neg (by omega) ?_
      rw [List.take_of_length_le (by omega)]
      exact Evp.some' rfl
    | succ d ih =>
      intro i hi
      refine Evp.step (fun k => by rw [spec_l2Scale.l0]) ?_
      have hm := mul_small (ok_iff.2 (can_small ha i)) hc
      refine Evp.pos (by omega) (Evp.pos (by omega) (Evp.pos (by rw [lscale_len, List.length_take]; omega) ?_))
      rw [rd_nat, wrap_succ (by omega), wrap_small (by omega), tmod31 hm.1]
      have e : lscale (a.take (i + 1)) c = lscale (a.take i) c ++ [a.getD i 0 * c % 31] := by
        unfold lscale; rw [List.take_succ_eq_append_getElem (by omega), List.map_append, getD_get (by omega)]; rfl
      rw [← e]
      exact ih (i + 1) (by omega)
  have := key a.length 0 (by omega)
  unfold spec_l2Scale.f
  simpa [lscale] using this
theorem l2Sum_ev {a b : List Int} (ha : can a) (hb : can b) (hl : a.length = b.length) (hn : a.length ≤ 1000000000000) : Evp (fun k => spec_l2Sum.f k a b) (· = lsum a b) := by
  have key : ∀ d i, i + d = a.length → Evp (fun k => spec_l2Sum.l0 k a b (lsum (a.take i) (b.take i)) (i : Int)) (· = lsum a b) := by
    intro d
    induction d with
    | zero =>
      intro i hi
      refine Evp.step (fun k => by rw [spec_l2Sum.l0]) ?_
      refine Evp.neg (by omega) ?_
      rw [List.take_of_length_le (by omega), List.take_of_length_le (by omega)]
      exact Evp.some' rfl
    | succ d ih =>
      intro i hi
      refine Evp.step (fun k => by rw [spec_l2Sum.l0]) ?_
      have h1 := can_small ha i
      have h2 := can_small hb i
      refine Evp.pos (by omega) (Evp.pos (by omega) (Evp.pos (by omega) (Evp.pos (by rw [lsum_len (by simp; omega), List.length_take]; omega) ?_)))
      rw [rd_nat, rd_nat, wrap_succ (by omega), wrap_small (by omega), tmod31 (by omega)]
      have e : lsum (a.take (i + 1)) (b.take (i + 1)) = lsum (a.take i) (b.take i) ++ [(a.getD i 0 + b.getD i 0) % 31] := by
        unfold lsum; rw [zip_take _ (by omega) (by omega)]
      rw [← e]
      exact ih (i + 1) (by omega)
  have := key a.length 0 (by omega)
  unfold spec_l2Sum.f
  simpa [lsum] using this

theorem impl_kindOk_eq (k : Int) : impl_kindOk.f k = some (lkind k) := by
  unfold impl_kindOk.f impl_within.f lkind
  by_cases h : k ≥ 1
  · rw [if_pos h]; simp [show (1 ≤ k) from h]
  · rw [if_neg h]; simp [show ¬ (1 ≤ k) from h]
theorem impl_shardOk_eq (k : Int) : impl_shardOk.f k = some (lshard k) := by
  unfold impl_shardOk.f impl_within.f lshard
  by_cases h : k ≥ 0
  · rw [if_pos h]; simp [show (0 ≤ k) from h]
  · rw [if_neg h]; simp [show ¬ (0 ≤ k) from h]
theorem spec_l4Kind_eq (k : Int) : spec_l4Kind.f k = some (lkind k) := by
  unfold spec_l4Kind.f spec_l6In.f lkind
  by_cases h : k ≥ 1
  · rw [if_pos h]; simp [show (1 ≤ k) from h]
  · rw [if_neg h]; simp [show ¬ (1 ≤ k) from h]
theorem spec_l4Row_eq {k a : Int} (hk : lkind k = true) (ha : lshard a = true) : spec_l4Row.f k a = some (lrow k a) := by
  have k1 : ∀ a : Fin 8, spec_l4Row.f 1 (a.val : Int) = some (lrow 1 (a.val : Int)) := by decide +kernel
  have k2 : ∀ a : Fin 8, spec_l4Row.f 2 (a.val : Int) = some (lrow 2 (a.val : Int)) := by decide +kernel
  obtain ⟨x, rfl⟩ := lshard_fin ha
  rcases lkind_cases hk with rfl | rfl
  · exact k1 x
  · exact k2 x
theorem impl_rowOf_eq {k a : Int} (hk : lkind k = true) (ha : lshard a = true) : ∃ r0 r1 r2 r3, lrow k a = [r0, r1, r2, r3] ∧ impl_rowOf.f k a = some (r0, r1, r2, r3) := by
  have e : ∀ k : Int, k = 1 ∨ k = 2 → ∀ a : Fin 8, impl_rowOf.f k (a.val : Int) = some ((lrow k (a.val : Int)).getD 0 0, (lrow k (a.val : Int)).getD 1 0, (lrow k (a.val : Int)).getD 2 0, (lrow k (a.val : Int)).getD 3 0) := by
    intro k h
    rcases h with rfl | rfl
    · decide +kernel
    · decide +kernel
  obtain ⟨r0, r1, r2, r3, h, _⟩ := vok_four (lrow_ok hk ha)
  refine ⟨r0, r1, r2, r3, h, ?_⟩
  obtain ⟨x, rfl⟩ := lshard_fin ha
  rw [e k (lkind_cases hk) x, h]; rfl
theorem within_eq (a lo hi : Int) : impl_within.f a lo hi = some (decide (lo ≤ a) && decide (a ≤ hi)) := by
  unfold impl_within.f
  by_cases h : a ≥ lo
  · rw [if_pos h]; simp; omega
  · rw [if_neg h]; simp; omega
theorem l6In_eq (a lo hi : Int) : spec_l6In.f a lo hi = some (decide (lo ≤ a) && decide (a ≤ hi)) := by
  unfold spec_l6In.f
  by_cases h : a ≥ lo
  · rw [if_pos h]; simp; omega
  · rw [if_neg h]; simp; omega
theorem and_of {a lo hi : Int} (h : lo ≤ a ∧ a ≤ hi) : (decide (lo ≤ a) && decide (a ≤ hi)) = true := by rw [Bool.and_eq_true, decide_eq_true_eq, decide_eq_true_eq]; exact h
theorem of_and {a lo hi : Int} (h : (decide (lo ≤ a) && decide (a ≤ hi)) = true) : lo ≤ a ∧ a ≤ hi := by rw [Bool.and_eq_true, decide_eq_true_eq, decide_eq_true_eq] at h; exact h
/-- a shard of a plan is one, is not the lost one, and stands behind the one ahead -/
def FromOk (lost : Int) (fr : List Int) (i : Nat) : Prop := (0 ≤ fr.getD i 0 ∧ fr.getD i 0 ≤ 7) ∧ fr.getD i 0 ≠ lost ∧ (0 < i → fr.getD (i - 1) 0 < fr.getD i 0)
def ByOk (bs : List Int) (i : Nat) : Prop := 1 ≤ bs.getD i 0 ∧ bs.getD i 0 ≤ 30
def Form (lost : Int) (fr bs : List Int) : Prop := (0 ≤ lost ∧ lost ≤ 7) ∧ (1 ≤ fr.length ∧ fr.length ≤ 4) ∧ bs.length = fr.length ∧ ∀ i, i < fr.length → FromOk lost fr i ∧ ByOk bs i
theorem wrap_pred {i : Nat} (h : 0 < i) (h2 : i ≤ 1000000000000) : wrap64 ((i : Int) - 1) = ((i - 1 : Nat) : Int) := by rw [wrap_small (by omega)]; omega
theorem all_step {Q : Nat → Prop} {i n : Nat} (hi : i < n) (hq : Q i) {r : Bool} (h : r = true ↔ ∀ j, i + 1 ≤ j → j < n → Q j) : r = true ↔ ∀ j, i ≤ j → j < n → Q j := by
  rw [h]
  constructor
  · intro g j h1 h2
    rcases Nat.lt_or_ge i j with c | c
    · exact g j c h2
    · rw [show j = i by omega]; exact hq
  · intro g j h1 h2; exact g j (by omega) h2
theorem all_not {Q : Nat → Prop} {i n : Nat} (hi : i < n) (hq : ¬ Q i) : (false = true) ↔ ∀ j, i ≤ j → j < n → Q j :=
  ⟨fun h => by simp at h, fun g => absurd (g i (Nat.le_refl _) hi) hq⟩
theorem formed_l0 {lost : Int} {fr bs : List Int} (hl : bs.length = fr.length) (hn : fr.length ≤ 2000000) : ∀ d i, i + d = fr.length → Evp (fun k => impl_Plan_formed.l0 k fr (fr.length : Int) (i : Int) lost fr bs) (fun r => r = true ↔ ∀ j, i ≤ j → j < fr.length → FromOk lost fr j ∧ ByOk bs j) := by
  intro d
  induction d with
  | zero =>
    intro i hi
    exact Evp.step (fun k => by rw [impl_Plan_formed.l0]) (Evp.neg (by omega) (Evp.some' ⟨fun _ j h1 h2 => by omega, fun _ => rfl⟩))
  | succ d ih =>
    intro i hi
    have hi1 : i < fr.length := by omega
    refine Evp.step (fun k => by rw [impl_Plan_formed.l0]) (Evp.pos (by omega) (Evp.pos (by omega) (Evp.pos (by omega) ?_)))
    rw [rd_nat, impl_shardOk_eq]
    simp only [Option.bind_some]
    have inner : FromOk lost fr i → Evp (fun k => if (i : Int) < (bs.length : Int) then ((impl_within.f (rd bs (i : Int)) 1 30).bind fun t => if t = true then impl_Plan_formed.l0 k fr (fr.length : Int) (wrap64 ((i : Int) + 1)) lost fr bs else some false) else none) (fun r => r = true ↔ ∀ j, i ≤ j → j < fr.length → FromOk lost fr j ∧ ByOk bs j) := fun hf => by
      refine Evp.pos (by omega) ?_
      rw [rd_nat, within_eq, wrap_succ (by omega)]
      simp only [Option.bind_some]
      refine Evp.ite (fun h => ?_) fun h => Evp.some' (all_not hi1 fun g => h (and_of g.2))
      have hb : ByOk bs i := of_and h
      exact (ih (i + 1) (by omega)).mono fun r hr => all_step hi1 ⟨hf, hb⟩ hr
    refine Evp.ite (fun hs => ?_) fun hs => Evp.some' (all_not hi1 fun g => hs (and_of g.1.1))
    have hs' : 0 ≤ fr.getD i 0 ∧ fr.getD i 0 ≤ 7 := of_and hs
    refine Evp.ite (fun he => Evp.some' (all_not hi1 fun g => g.1.2.1 he)) fun he => ?_
    refine Evp.ite (fun h0 => ?_) fun h0 => inner ⟨hs', he, fun h => absurd h (by omega)⟩
    rw [wrap_pred (by omega) (by omega)]
    refine Evp.pos (by omega) (Evp.pos (by omega) ?_)
    rw [rd_nat]
    refine Evp.ite (fun hg => Evp.some' (all_not hi1 fun g => by have := g.1.2.2 (by omega); omega)) fun hg => inner ⟨hs', he, fun _ => by omega⟩
theorem formed_ev {lost : Int} {fr bs : List Int} : Evp (fun k => impl_Plan_formed.f k lost fr bs) (fun r => r = true ↔ Form lost fr bs) := by
  have no : ¬ Form lost fr bs → Evp (fun k => impl_Plan_formed.j0 k true lost fr bs) (fun r => r = true ↔ Form lost fr bs) := fun h => Evp.step (fun k => by rw [impl_Plan_formed.j0]) (Evp.pos rfl (Evp.some' ⟨fun g => by simp at g, fun g => absurd g h⟩))
  unfold impl_Plan_formed.f
  rw [impl_shardOk_eq, within_eq]
  simp only [Option.bind_some]
  refine Evp.ite (fun hs => ?_) fun hs => no fun g => hs (and_of g.1)
  refine Evp.ite (fun hn => ?_) fun hn => no fun g => hn (by have := g.2.1; simp; omega)
  have hs' : 0 ≤ lost ∧ lost ≤ 7 := of_and hs
  have hn' : 1 ≤ fr.length ∧ fr.length ≤ 4 := by simp at hn; omega
  by_cases hl : bs.length = fr.length
  · rw [show ((bs.length : Int) != (fr.length : Int)) = false by rw [hl]; simp]
    refine Evp.step (fun k => by rw [impl_Plan_formed.j0]) (Evp.neg (by simp) ?_)
    refine (formed_l0 hl (by omega) fr.length 0 (by omega)).mono fun r hr => ?_
    rw [hr]
    exact ⟨fun g => ⟨hs', hn', hl, fun i hi => g i (by omega) hi⟩, fun g j _ hj => g.2.2.2 j hj⟩
  · rw [show ((bs.length : Int) != (fr.length : Int)) = true by simp; omega]
    exact no fun g => hl g.2.2.1
theorem l11Form_l1 {lost : Int} {fr bs : List Int} (hn : bs.length ≤ 2000000) : ∀ d i, i + d = bs.length → Evp (fun k => spec_l11Form.l1 k (i : Int) lost fr bs) (fun r => r = true ↔ (∀ j, i ≤ j → j < bs.length → ByOk bs j) ∧ (0 ≤ lost ∧ lost ≤ 7) ∧ bs.length = fr.length ∧ 1 ≤ fr.length ∧ fr.length ≤ 4) := by
  intro d
  induction d with
  | zero =>
    intro i hi
    refine Evp.step (fun k => by rw [spec_l11Form.l1]) (Evp.neg (by omega) ?_)
    rw [l6In_eq, l6In_eq]
    simp only [Option.bind_some]
    have e0 : ∀ j, i ≤ j → j < bs.length → ByOk bs j := fun j h1 h2 => by omega
    refine Evp.ite (fun h => ?_) fun h => Evp.some' ⟨fun g => by simp at g, fun g => absurd g.2.1 (fun g2 => h (by simp; omega))⟩
    refine Evp.ite (fun h2 => Evp.some' ?_) fun h2 => Evp.some' ⟨fun g => by simp at g, fun g => absurd g.2.2.1 (by omega)⟩
    constructor
    · intro g; simp at g; simp at h; exact ⟨e0, h, by omega, by omega⟩
    · intro g; have := g.2.2.2; simp; omega
  | succ d ih =>
    intro i hi
    have hi1 : i < bs.length := by omega
    refine Evp.step (fun k => by rw [spec_l11Form.l1]) (Evp.pos (by omega) (Evp.pos (by omega) ?_))
    rw [rd_nat, l6In_eq, wrap_succ (by omega)]
    simp only [Option.bind_some]
    refine Evp.ite (fun h => ?_) fun h => Evp.some' ⟨fun g => by simp at g, fun g => absurd (g.1 i (Nat.le_refl _) hi1) (fun g2 => h (and_of g2))⟩
    have hb : ByOk bs i := of_and h
    refine (ih (i + 1) (by omega)).mono fun r hr => ?_
    rw [hr]
    constructor
    · rintro ⟨g, g2⟩
      refine ⟨fun j h1 h2 => ?_, g2⟩
      rcases Nat.lt_or_ge i j with c | c
      · exact g j c h2
      · rw [show j = i by omega]; exact hb
    · rintro ⟨g, g2⟩; exact ⟨fun j h1 h2 => g j (by omega) h2, g2⟩
theorem l11Form_l0 {lost : Int} {fr bs : List Int} (hn : bs.length ≤ 2000000) (hm : fr.length ≤ 2000000) : ∀ d i, i + d = fr.length → Evp (fun k => spec_l11Form.l0 k (i : Int) lost fr bs) (fun r => r = true ↔ (∀ j, i ≤ j → j < fr.length → FromOk lost fr j) ∧ (∀ j, 0 ≤ j → j < bs.length → ByOk bs j) ∧ (0 ≤ lost ∧ lost ≤ 7) ∧ bs.length = fr.length ∧ 1 ≤ fr.length ∧ fr.length ≤ 4) := by
  intro d
  induction d with
  | zero =>
    intro i hi
    refine Evp.step (fun k => by rw [spec_l11Form.l0]) (Evp.neg (by omega) ?_)
    refine (l11Form_l1 hn bs.length 0 (by omega)).mono fun r hr => ?_
    rw [hr]
    exact ⟨fun g => ⟨fun j h1 h2 => by omega, g⟩, fun g => g.2⟩
  | succ d ih =>
    intro i hi
    have hi1 : i < fr.length := by omega
    refine Evp.step (fun k => by rw [spec_l11Form.l0]) (Evp.pos (by omega) (Evp.pos (by omega) ?_))
    rw [rd_nat, l6In_eq]
    simp only [Option.bind_some]
    have nots : ¬ FromOk lost fr i → ((false = true) ↔ (∀ j, i ≤ j → j < fr.length → FromOk lost fr j) ∧ (∀ j, 0 ≤ j → j < bs.length → ByOk bs j) ∧ (0 ≤ lost ∧ lost ≤ 7) ∧ bs.length = fr.length ∧ 1 ≤ fr.length ∧ fr.length ≤ 4) := fun h => ⟨fun g => by simp at g, fun g => absurd (g.1 i (Nat.le_refl _) hi1) h⟩
    have go : FromOk lost fr i → Evp (fun k => spec_l11Form.l0 k (wrap64 ((i : Int) + 1)) lost fr bs) (fun r => r = true ↔ (∀ j, i ≤ j → j < fr.length → FromOk lost fr j) ∧ (∀ j, 0 ≤ j → j < bs.length → ByOk bs j) ∧ (0 ≤ lost ∧ lost ≤ 7) ∧ bs.length = fr.length ∧ 1 ≤ fr.length ∧ fr.length ≤ 4) := fun hf => by
      rw [wrap_succ (by omega)]
      refine (ih (i + 1) (by omega)).mono fun r hr => ?_
      rw [hr]
      constructor
      · rintro ⟨g, g2⟩
        refine ⟨fun j h1 h2 => ?_, g2⟩
        rcases Nat.lt_or_ge i j with c | c
        · exact g j c h2
        · rw [show j = i by omega]; exact hf
      · rintro ⟨g, g2⟩; exact ⟨fun j h1 h2 => g j (by omega) h2, g2⟩
    refine Evp.ite (fun hs => ?_) fun hs => Evp.some' (nots fun g => hs (and_of g.1))
    have hs' : 0 ≤ fr.getD i 0 ∧ fr.getD i 0 ≤ 7 := of_and hs
    refine Evp.ite (fun he => Evp.some' (nots fun g => g.2.1 he)) fun he => ?_
    refine Evp.ite (fun h0 => ?_) fun h0 => go ⟨hs', he, fun h => absurd h (by omega)⟩
    rw [wrap_pred (by omega) (by omega)]
    refine Evp.pos (by omega) (Evp.pos (by omega) ?_)
    rw [rd_nat]
    refine Evp.ite (fun hg => Evp.some' (nots fun g => by have := g.2.2 (by omega); omega)) fun hg => go ⟨hs', he, fun _ => by omega⟩
theorem l11Form_ev {lost : Int} {fr bs : List Int} (hn : bs.length ≤ 2000000) (hm : fr.length ≤ 2000000) : Evp (fun k => spec_l11Form.f k lost fr bs) (fun r => r = true ↔ Form lost fr bs) := by
  unfold spec_l11Form.f
  refine (l11Form_l0 hn hm fr.length 0 (by omega)).mono fun r hr => ?_
  rw [hr]
  constructor
  · rintro ⟨g1, g2, g3, g4, g5⟩
    exact ⟨g3, g5, g4, fun i hi => ⟨g1 i (by omega) hi, g2 i (by omega) (by omega)⟩⟩
  · intro g
    exact ⟨fun j _ h2 => (g.2.2.2 j h2).1, fun j _ h2 => (g.2.2.2 j (by have := g.2.2.1; omega)).2, g.1, g.2.2.1, g.2.1⟩
/-- the sum of the first rows of a plan -/
def psum (kind : Int) (fr bs : List Int) : Nat → List Int
  | 0 => [0, 0, 0, 0]
  | n + 1 => lsum (psum kind fr bs n) (lscale (lrow kind (fr.getD n 0)) (bs.getD n 0))
theorem psum_ok {kind : Int} (hk : lkind kind = true) {lost : Int} {fr bs : List Int} (h : Form lost fr bs) : ∀ n, n ≤ fr.length → vok (psum kind fr bs n) = true := by
  intro n
  induction n with
  | zero => intro _; show vok [0, 0, 0, 0] = true; decide
  | succ n ih =>
    intro hn
    have h1 := (h.2.2.2 n (by omega)).1.1
    have h2 := vok_iff.1 (lrow_ok hk (a := fr.getD n 0) (and_of h1))
    exact vok_lsum (vok_iff.1 (ih (by omega))).1 (by rw [lscale_len]; exact h2.1)
theorem vtimes4 {a b c d x : Int} (ha : ok a = true) (hb : ok b = true) (hc : ok c = true) (hd : ok d = true) (hx : ok x = true) : impl_vector_times.f a b c d x = some (a * x % 31, b * x % 31, c * x % 31, d * x % 31) := by
  unfold impl_vector_times.f
  rw [if_pos ⟨⟨ok_iff.1 ha, ok_iff.1 hb, ok_iff.1 hc, ok_iff.1 hd⟩, ok_iff.1 hx⟩]
theorem vplus4 {a b c d p q r s : Int} (ha : ok a = true) (hb : ok b = true) (hc : ok c = true) (hd : ok d = true) (hp : ok p = true) (hq : ok q = true) (hr : ok r = true) (hs : ok s = true) : impl_vector_plus.f a b c d p q r s = some ((a + p) % 31, (b + q) % 31, (c + r) % 31, (d + s) % 31) := by
  unfold impl_vector_plus.f
  rw [if_pos ⟨⟨ok_iff.1 ha, ok_iff.1 hb, ok_iff.1 hc, ok_iff.1 hd⟩, ok_iff.1 hp, ok_iff.1 hq, ok_iff.1 hr, ok_iff.1 hs⟩]
theorem impl_PlanOk_l0 {kind : Int} (hk : lkind kind = true) {lost : Int} {fr bs : List Int} (h : Form lost fr bs) : ∀ d i, i + d = fr.length →
    Evp (fun k => impl_PlanOk.l0 k kind fr (fr.length : Int) (i : Int) lost fr bs ((psum kind fr bs i).getD 0 0) ((psum kind fr bs i).getD 1 0) ((psum kind fr bs i).getD 2 0) ((psum kind fr bs i).getD 3 0)) (· = decide (psum kind fr bs fr.length = lrow kind lost)) := by
  have hn := h.2.1
  intro d
  induction d with
  | zero =>
    intro i hi
    have e : i = fr.length := by omega
    subst e
    refine Evp.step (fun k => by rw [impl_PlanOk.l0]) (Evp.neg (by omega) ?_)
    obtain ⟨r0, r1, r2, r3, e1, e2⟩ := impl_rowOf_eq hk (a := lost) (and_of h.1)
    rw [e2, e1]
    simp only [Option.bind_some]
    refine Evp.some' ?_
    obtain ⟨a, b, c, d, e3, _⟩ := vok_four (psum_ok hk h fr.length (Nat.le_refl _))
    rw [e3, Bool.eq_iff_iff]; simp
  | succ d ih =>
    intro i hi
    have hi1 : i < fr.length := by omega
    have hf := (h.2.2.2 i hi1).1.1
    have hb := (h.2.2.2 i hi1).2
    have hsh : lshard (fr.getD i 0) = true := and_of hf
    have hbo : ok (bs.getD i 0) = true := by rw [ok_iff]; unfold ByOk at hb; omega
    refine Evp.step (fun k => by rw [impl_PlanOk.l0]) (Evp.pos (by omega) (Evp.pos (by omega) (Evp.pos (by omega) ?_)))
    obtain ⟨r0, r1, r2, r3, e1, e2⟩ := impl_rowOf_eq hk hsh
    have hv := lrow_ok hk hsh
    rw [e1] at hv
    obtain ⟨_, hcan⟩ := vok_iff.1 hv
    have o0 := hcan r0 (by simp)
    have o1 := hcan r1 (by simp)
    have o2 := hcan r2 (by simp)
    have o3 := hcan r3 (by simp)
    have hp := (vok_iff.1 (psum_ok hk h i (by omega))).2
    rw [rd_nat, e2]
    simp only [Option.bind_some]
    refine Evp.pos (by have := h.2.2.1; omega) ?_
    rw [rd_nat, vtimes4 o0 o1 o2 o3 hbo]
    simp only [Option.bind_some]
    rw [vplus4 (can_get hp 0) (can_get hp 1) (can_get hp 2) (can_get hp 3) (mod_ok _) (mod_ok _) (mod_ok _) (mod_ok _), wrap_succ (by omega)]
    simp only [Option.bind_some]
    have hx := ih (i + 1) (by omega)
    rw [show psum kind fr bs (i + 1) = lsum (psum kind fr bs i) (lscale (lrow kind (fr.getD i 0)) (bs.getD i 0)) from rfl, e1] at hx
    obtain ⟨a, b, c, dd, e3, _⟩ := vok_four (psum_ok hk h i (by omega))
    rw [e3] at hx ⊢
    exact hx
theorem impl_PlanOk_ev {kind lost : Int} {fr bs : List Int} : Evp (fun k => impl_PlanOk.f k kind lost fr bs) (fun r => r = true ↔ lkind kind = true ∧ Form lost fr bs ∧ psum kind fr bs fr.length = lrow kind lost) := by
  have no : ¬ (lkind kind = true ∧ Form lost fr bs) → Evp (fun k => impl_PlanOk.j0 k kind true lost fr bs) (fun r => r = true ↔ lkind kind = true ∧ Form lost fr bs ∧ psum kind fr bs fr.length = lrow kind lost) := fun h => Evp.step (fun k => by rw [impl_PlanOk.j0]) (Evp.pos rfl (Evp.some' ⟨fun g => by simp at g, fun g => absurd ⟨g.1, g.2.1⟩ h⟩))
  unfold impl_PlanOk.f
  rw [impl_kindOk_eq]
  simp only [Option.bind_some]
  refine Evp.ite (fun hk => ?_) fun hk => no fun g => hk g.1
  refine Evp.bind formed_ev fun t ht => ?_
  cases t with
  | false => exact no fun g => by have := ht.2 g.2; simp at this
  | true =>
    have hf := ht.1 rfl
    refine Evp.step (fun k => by rw [impl_PlanOk.j0]) (Evp.neg (by simp) ?_)
    refine (impl_PlanOk_l0 hk hf fr.length 0 (by omega)).mono fun r hr => ?_
    rw [hr, decide_eq_true_eq]
    exact ⟨fun g => ⟨hk, hf, g⟩, fun g => g.2.2⟩
theorem l3Same_one {a b : List Int} (ha : vok a = true) (hb : vok b = true) : Evp (fun k => spec_l3Same.f k [a] [b]) (· = decide (a = b)) := by
  obtain ⟨a0, a1, a2, a3, rfl, _⟩ := vok_four ha
  obtain ⟨b0, b1, b2, b3, rfl, _⟩ := vok_four hb
  unfold spec_l3Same.f
  refine Evp.pos rfl ?_
  refine Evp.step (fun k => by rw [spec_l3Same.l0]) (Evp.pos (by first | decide | (show (0 : Int) < 1; decide) | (show ¬ (1 : Int) < 1; decide) | simp) ?_)
  have w1 : wrap64 ((0 : Int) + 1) = 1 := by unfold wrap64; omega
  have w2 : wrap64 ((1 : Int) + 1) = 2 := by unfold wrap64; omega
  have w3 : wrap64 ((2 : Int) + 1) = 3 := by unfold wrap64; omega
  have w4 : wrap64 ((3 : Int) + 1) = 4 := by unfold wrap64; omega
  refine Evp.step (fun k => by rw [spec_l3Same.l1]) (Evp.pos (by first | decide | (show (0 : Int) < 1; decide) | (show ¬ (1 : Int) < 1; decide) | simp) (Evp.pos (by first | decide | (show (0 : Int) < 1; decide) | (show ¬ (1 : Int) < 1; decide) | simp) (Evp.pos (by first | decide | (show (0 : Int) < 1; decide) | (show ¬ (1 : Int) < 1; decide) | simp) (Evp.pos (by first | decide | (show (0 : Int) < 1; decide) | (show ¬ (1 : Int) < 1; decide) | simp) (Evp.pos (by show (0 : Int) < 4; decide) (Evp.pos (by first | decide | (show (0 : Int) < 1; decide) | (show ¬ (1 : Int) < 1; decide) | simp) (Evp.pos (by show (0 : Int) < 4; decide) ?_)))))))
  refine Evp.ite (fun h0 => ?_) fun h0 => Evp.some' (by have h0' : ¬ a0 = b0 := h0; simp [h0'])
  have h0' : a0 = b0 := h0
  rw [w1]
  refine Evp.step (fun k => by rw [spec_l3Same.l1]) (Evp.pos (by first | decide | (show (0 : Int) < 1; decide) | (show ¬ (1 : Int) < 1; decide) | simp) (Evp.pos (by first | decide | (show (0 : Int) < 1; decide) | (show ¬ (1 : Int) < 1; decide) | simp) (Evp.pos (by first | decide | (show (0 : Int) < 1; decide) | (show ¬ (1 : Int) < 1; decide) | simp) (Evp.pos (by first | decide | (show (0 : Int) < 1; decide) | (show ¬ (1 : Int) < 1; decide) | simp) (Evp.pos (by show (1 : Int) < 4; decide) (Evp.pos (by first | decide | (show (0 : Int) < 1; decide) | (show ¬ (1 : Int) < 1; decide) | simp) (Evp.pos (by show (1 : Int) < 4; decide) ?_)))))))
  refine Evp.ite (fun h1 => ?_) fun h1 => Evp.some' (by have h1' : ¬ a1 = b1 := h1; simp [h1'])
  have h1' : a1 = b1 := h1
  rw [w2]
  refine Evp.step (fun k => by rw [spec_l3Same.l1]) (Evp.pos (by first | decide | (show (0 : Int) < 1; decide) | (show ¬ (1 : Int) < 1; decide) | simp) (Evp.pos (by first | decide | (show (0 : Int) < 1; decide) | (show ¬ (1 : Int) < 1; decide) | simp) (Evp.pos (by first | decide | (show (0 : Int) < 1; decide) | (show ¬ (1 : Int) < 1; decide) | simp) (Evp.pos (by first | decide | (show (0 : Int) < 1; decide) | (show ¬ (1 : Int) < 1; decide) | simp) (Evp.pos (by show (2 : Int) < 4; decide) (Evp.pos (by first | decide | (show (0 : Int) < 1; decide) | (show ¬ (1 : Int) < 1; decide) | simp) (Evp.pos (by show (2 : Int) < 4; decide) ?_)))))))
  refine Evp.ite (fun h2 => ?_) fun h2 => Evp.some' (by have h2' : ¬ a2 = b2 := h2; simp [h2'])
  have h2' : a2 = b2 := h2
  rw [w3]
  refine Evp.step (fun k => by rw [spec_l3Same.l1]) (Evp.pos (by first | decide | (show (0 : Int) < 1; decide) | (show ¬ (1 : Int) < 1; decide) | simp) (Evp.pos (by first | decide | (show (0 : Int) < 1; decide) | (show ¬ (1 : Int) < 1; decide) | simp) (Evp.pos (by first | decide | (show (0 : Int) < 1; decide) | (show ¬ (1 : Int) < 1; decide) | simp) (Evp.pos (by first | decide | (show (0 : Int) < 1; decide) | (show ¬ (1 : Int) < 1; decide) | simp) (Evp.pos (by show (3 : Int) < 4; decide) (Evp.pos (by first | decide | (show (0 : Int) < 1; decide) | (show ¬ (1 : Int) < 1; decide) | simp) (Evp.pos (by show (3 : Int) < 4; decide) ?_)))))))
  refine Evp.ite (fun h3 => ?_) fun h3 => Evp.some' (by have h3' : ¬ a3 = b3 := h3; simp [h3'])
  have h3' : a3 = b3 := h3
  rw [w4]
  refine Evp.step (fun k => by rw [spec_l3Same.l1]) (Evp.neg (by first | decide | (show (0 : Int) < 1; decide) | (show ¬ (1 : Int) < 1; decide) | simp) ?_)
  rw [w1]
  exact Evp.step (fun k => by rw [spec_l3Same.l0]) (Evp.neg (by first | decide | (show (0 : Int) < 1; decide) | (show ¬ (1 : Int) < 1; decide) | simp) (Evp.some' (by simp [h0', h1', h2', h3'])))
theorem spec_PlanOk_l0 {kind : Int} (hk : lkind kind = true) {lost : Int} {fr bs : List Int} (h : Form lost fr bs) : ∀ d i, i + d = fr.length →
    Evp (fun k => spec_PlanOk.l0 k kind (psum kind fr bs i) (i : Int) lost fr bs) (· = decide (psum kind fr bs fr.length = lrow kind lost)) := by
  have hn := h.2.1
  intro d
  induction d with
  | zero =>
    intro i hi
    have e : i = fr.length := by omega
    subst e
    have hl : lshard lost = true := and_of h.1
    refine Evp.step (fun k => by rw [spec_PlanOk.l0]) (Evp.neg (by omega) ?_)
    rw [spec_l4Row_eq hk hl]
    simp only [Option.bind_some]
    refine Evp.bind (l3Same_one (psum_ok hk h fr.length (Nat.le_refl _)) (lrow_ok hk hl)) fun t ht => ?_
    exact Evp.some' ht
  | succ d ih =>
    intro i hi
    have hi1 : i < fr.length := by omega
    have hf := (h.2.2.2 i hi1).1.1
    have hb := (h.2.2.2 i hi1).2
    have hsh : lshard (fr.getD i 0) = true := and_of hf
    have hbo : ok (bs.getD i 0) = true := by rw [ok_iff]; unfold ByOk at hb; omega
    have hv := vok_iff.1 (lrow_ok hk hsh)
    have hp := vok_iff.1 (psum_ok hk h i (by omega))
    refine Evp.step (fun k => by rw [spec_PlanOk.l0]) (Evp.pos (by omega) (Evp.pos (by omega) ?_))
    rw [rd_nat, spec_l4Row_eq hk hsh]
    simp only [Option.bind_some]
    refine Evp.pos (by have := h.2.2.1; omega) ?_
    rw [rd_nat, wrap_succ (by omega)]
    refine Evp.bind (l2Scale_ev hv.2 hbo (by omega)) fun t ht => ?_
    subst ht
    refine Evp.bind (l2Sum_ev hp.2 (can_lscale _ _) (by rw [lscale_len]; omega) (by omega)) fun t ht => ?_
    subst ht
    exact ih (i + 1) (by omega)
theorem spec_PlanOk_ev {kind lost : Int} {fr bs : List Int} (hn : bs.length ≤ 2000000) (hm : fr.length ≤ 2000000) : Evp (fun k => spec_PlanOk.f k kind lost fr bs) (fun r => r = true ↔ lkind kind = true ∧ Form lost fr bs ∧ psum kind fr bs fr.length = lrow kind lost) := by
  have no : ¬ (lkind kind = true ∧ Form lost fr bs) → Evp (fun k => spec_PlanOk.j0 k kind true lost fr bs) (fun r => r = true ↔ lkind kind = true ∧ Form lost fr bs ∧ psum kind fr bs fr.length = lrow kind lost) := fun h => Evp.step (fun k => by rw [spec_PlanOk.j0]) (Evp.pos rfl (Evp.some' ⟨fun g => by simp at g, fun g => absurd ⟨g.1, g.2.1⟩ h⟩))
  unfold spec_PlanOk.f
  rw [spec_l4Kind_eq]
  simp only [Option.bind_some]
  refine Evp.ite (fun hk => ?_) fun hk => no fun g => hk g.1
  refine Evp.bind (l11Form_ev hn hm) fun t ht => ?_
  cases t with
  | false => exact no fun g => by have := ht.2 g.2; simp at this
  | true =>
    have hf := ht.1 rfl
    refine Evp.step (fun k => by rw [spec_PlanOk.j0]) (Evp.neg (by simp) (Evp.pos (by decide) ?_))
    refine (spec_PlanOk_l0 hk hf fr.length 0 (by omega)).mono fun r hr => ?_
    rw [hr, decide_eq_true_eq]
    exact ⟨fun g => ⟨hk, hf, g⟩, fun g => g.2.2⟩
theorem szIntS_two {l : List Int} {b : Int} (hl : l.length ≤ maxLen) (hb : 0 ≤ b ∧ b ≤ 1048576) : laws_szIntS.f l b = some (if b - (l.length : Int) < 0 then -1 else b - (l.length : Int)) := by
  have h0 : maxLen ≤ 9223372036854775807 := by decide
  unfold laws_szIntS.f
  rw [Go.Proofs.Ytlplmafncbgngaa.Pure.wrap_small (by omega)]
  split <;> rfl
theorem FnExactPlanOk (a : Int) (ha : (Lit.int .i64 a).wf = true) (lost : Int) (hw : (Lit.int .i64 lost).wf = true) (fr bs : List Int) (hf : fr.length ≤ maxLen) (hb : bs.length ≤ maxLen) : ∃ k, laws_FnExactPlanOk.f k a lost fr bs = some true := by
  refine Evp.rounds ?_
  unfold laws_FnExactPlanOk.f
  have hsz : ∃ t : Int, laws_szPlan.f lost fr bs 1048576 = some t ∧ (t < 0 ∨ fr.length ≤ 1048576 ∧ bs.length ≤ 1048576) := by
    unfold laws_szPlan.f
    rw [szIntS_two hf (by omega)]
    simp only [Option.bind_some]
    by_cases h1 : (1048576 : Int) - (fr.length : Int) < 0
    · rw [if_pos h1, if_pos (by decide)]; exact ⟨-1, rfl, .inl (by decide)⟩
    · rw [if_neg h1, if_neg h1, szIntS_two hb (by omega)]
      simp only [Option.bind_some]
      by_cases h2 : (1048576 : Int) - (fr.length : Int) - (bs.length : Int) < 0
      · rw [if_pos h2, if_pos (by decide)]; exact ⟨-1, rfl, .inl (by decide)⟩
      · rw [if_neg h2, if_neg h2]; exact ⟨_, rfl, .inr ⟨by omega, by omega⟩⟩
  obtain ⟨t, e, ht⟩ := hsz
  rw [e]
  simp only [Option.bind_some]
  refine Evp.ite (fun _ => Evp.some' rfl) fun h0 => ?_
  obtain ⟨g1, g2⟩ := ht.resolve_left h0
  have hto : Evp (fun k => laws_toPlan.f k lost fr bs) (· = (lost, fr, bs)) := by
    unfold laws_toPlan.f
    refine Evp.bind (toIntS_ev g1) fun t ht => ?_
    subst ht
    refine Evp.bind (toIntS_ev g2) fun t ht => ?_
    subst ht
    exact Evp.some' rfl
  refine Evp.bind hto fun t ht => ?_
  subst ht
  refine Evp.bind (spec_PlanOk_ev (by show bs.length ≤ 2000000; omega) (by show fr.length ≤ 2000000; omega)) fun w hw1 => ?_
  refine Evp.bind hto fun t ht => ?_
  subst ht
  refine Evp.bind impl_PlanOk_ev fun g hg => ?_
  have egw : g = w := by rw [Bool.eq_iff_iff, hg, hw1]
  subst egw
  refine Evp.neg (by simp) ?_
  refine Evp.bind hto fun t ht => ?_
  subst ht
  have eq : Evp (fun k => laws_eqPlan.f k lost fr bs lost fr bs) (· = true) := by
    unfold laws_eqPlan.f
    refine Evp.pos rfl ?_
    refine Evp.bind (eqIntS_ev (by omega)) fun t ht => ?_
    subst ht
    refine Evp.pos (by simp) ?_
    refine Evp.bind (eqIntS_ev (by omega)) fun t ht => ?_
    subst ht
    exact Evp.pos (by simp) (Evp.some' rfl)
  refine Evp.bind eq fun t ht => ?_
  subst ht
  exact Evp.pos (by first | rfl | trivial) (Evp.some' rfl)
end Go.Proofs.Ytlplmafncbgngaa.Pure
