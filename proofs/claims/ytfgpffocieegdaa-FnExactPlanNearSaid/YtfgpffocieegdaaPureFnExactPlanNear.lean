import Derived.Test.YtfgpffocieegdaaPAx0
import Derived.Test.YtfgpffocieegdaaPAx10
import Derived.Test.YtfgpffocieegdaaPAx12
import Derived.Test.YtfgpffocieegdaaPAx13
import Derived.Test.YtfgpffocieegdaaPAx14
import Derived.Test.YtfgpffocieegdaaPAx15
import Derived.Test.YtfgpffocieegdaaPAx16
import Derived.Test.YtfgpffocieegdaaPAx17
import Derived.Test.YtfgpffocieegdaaPAx19
import Derived.Test.YtfgpffocieegdaaPAx20
import Derived.Test.YtfgpffocieegdaaPAx8
import Derived.Test.YtfgpffocieegdaaPAx9
import Derived.Test.YtfgpffocieegdaaLm
import Derived.Test.YtfgpffocieegdaaMa
import Derived.Laws.BitsAllLaws
import Derived.Laws.BitsLemmas
import Derived.Test.YtfgpffocieegdaaCodeLin
import Derived.Test.YtfgpffocieegdaaHj
import Derived.Test.YtfgpffocieegdaaHq
import Derived.Test.YtfgpffocieegdaaHw
import Derived.OpenShut
/- Of the printed functions over single rows: what a walk by hand wants of them. -/
set_option linter.unusedVariables false
set_option linter.unusedSimpArgs false
namespace Go.Proofs.Ytfgpffocieegdaa.Pure
open Go.RowKit Go.Proofs.Ytfgpffocieegdaa.PA Go.Proofs.YtfgpffocieegdaaW.PrintWords Go.Proofs.YtfgpffocieegdaaW.PrintLast Go.Proofs.YtfgpffocieegdaaW.PrintMore Go.Proofs.Ytfgpffocieegdaa.Lin

theorem tmod_pos {x n : Int} (h : 0 ≤ x) : Int.tmod x n = x % n := Int.tmod_eq_emod_of_nonneg h
theorem l1Inv_all : ∀ a : Fin 31, spec_l1Inv.f 40 (a.val : Int) = some (inv (a.val : Int)) := by decide +kernel
theorem l1Inv_at {a : Int} (h : ok a = true) : spec_l1Inv.f 40 a = some (inv a) := by
  obtain ⟨x, rfl⟩ := fin_of h; exact l1Inv_all x
theorem spec_l1Inv_ev {a : Int} (h : ok a = true) : Evp (fun k => spec_l1Inv.f k a) (· = inv a) := ev_of (spec_l1Inv.mono a) (l1Inv_at h)
theorem llead_drop {l : List Int} {i : Nat} (h : ∀ j, j < i → l.getD j 0 = 0) (hi : i < l.length) (hne : l.getD i 0 ≠ 0) : llead l = (i : Int) := by
  rcases llead_cases l with ⟨_, hz⟩ | ⟨j, hj, e, hn, hb⟩
  · exact absurd (hz i) hne
  · rcases Nat.lt_trichotomy i j with c | c | c
    · exact absurd (hb i c) hne
    · rw [e, c]
    · exact absurd (h j c) hn
theorem llead_none {l : List Int} (h : ∀ j, j < l.length → l.getD j 0 = 0) : llead l = -1 := by
  rcases llead_cases l with ⟨e, _⟩ | ⟨j, hj, e, hn, hb⟩
  · exact e
  · exact absurd (h j hj) hn
theorem l2Lead_ev {l : List Int} (hl : l.length ≤ 1000000000000) : Evp (fun k => spec_l2Lead.f k l) (· = llead l) := by
  have key : ∀ d i, i + d = l.length → (∀ j, j < i → l.getD j 0 = 0) → Evp (fun k => spec_l2Lead.l0 k l (i : Int)) (· = llead l) := by
    intro d
    induction d with
    | zero =>
      intro i hi hp; refine Evp.step (fun k => by rw [spec_l2Lead.l0]) ?_; refine Evp.neg (by omega) ?_; exact Evp.some' (llead_none (fun j hj => hp j (by omega))).symm
    | succ d ih =>
      intro i hi hp; refine Evp.step (fun k => by rw [spec_l2Lead.l0]) ?_; refine Evp.pos (by omega) (Evp.pos (by omega) ?_); rw [rd_nat, wrap_succ (by omega)]
      refine Evp.ite (fun h => ih (i + 1) (by omega) fun j hj => ?_) fun h => Evp.some' (llead_drop hp (by omega) h).symm
      rcases Nat.lt_or_ge j i with c | c
      · exact hp j c
      · have : j = i := by omega
        subst this; exact h
  exact key l.length 0 (by omega) (fun j hj => absurd hj (Nat.not_lt_zero j))
theorem can_small {l : List Int} (h : can l) (i : Nat) : 0 ≤ l.getD i 0 ∧ l.getD i 0 < 31 := ok_iff.1 (can_get h i)
theorem zip_take {α : Type} (f : Int → Int → α) {a b : List Int} {i : Nat} (h1 : i < a.length) (h2 : i < b.length) : List.zipWith f (a.take (i + 1)) (b.take (i + 1)) = List.zipWith f (a.take i) (b.take i) ++ [f (a.getD i 0) (b.getD i 0)] := by
  rw [List.take_succ_eq_append_getElem h1, List.take_succ_eq_append_getElem h2, List.zipWith_append (by simp; omega), getD_get h1, getD_get h2]; rfl
theorem l2Scale_ev {a : List Int} (ha : can a) {c : Int} (hc : ok c = true) (hn : a.length ≤ 1000000000000) : Evp (fun k => spec_l2Scale.f k a c) (· = lscale a c) := by
  have key : ∀ d i, i + d = a.length → Evp (fun k => spec_l2Scale.l0 k a c (lscale (a.take i) c) (i : Int)) (· = lscale a c) := by
    intro d
    induction d with
    | zero =>
      intro i hi; refine Evp.step (fun k => by rw [spec_l2Scale.l0]) ?_; refine Evp.neg (by omega) ?_; rw [List.take_of_length_le (by omega)]; exact Evp.some' rfl
    | succ d ih =>
      intro i hi; refine Evp.step (fun k => by rw [spec_l2Scale.l0]) ?_
      have hm := mul_small (ok_iff.2 (can_small ha i)) hc
      refine Evp.pos (by omega) (Evp.pos (by omega) (Evp.pos (by rw [lscale_len, List.length_take]; omega) ?_)); rw [rd_nat, wrap_succ (by omega), wrap_small (by omega), tmod31 hm.1]
      have e : lscale (a.take (i + 1)) c = lscale (a.take i) c ++ [a.getD i 0 * c % 31] := by
        unfold lscale; rw [List.take_succ_eq_append_getElem (by omega), List.map_append, getD_get (by omega)]; rfl
      rw [← e]; exact ih (i + 1) (by omega)
  have := key a.length 0 (by omega)
  unfold spec_l2Scale.f
  simpa [lscale] using this
theorem l2Sum_ev {a b : List Int} (ha : can a) (hb : can b) (hl : a.length = b.length) (hn : a.length ≤ 1000000000000) : Evp (fun k => spec_l2Sum.f k a b) (· = lsum a b) := by
  have key : ∀ d i, i + d = a.length → Evp (fun k => spec_l2Sum.l0 k a b (lsum (a.take i) (b.take i)) (i : Int)) (· = lsum a b) := by
    intro d
    induction d with
    | zero =>
      intro i hi; refine Evp.step (fun k => by rw [spec_l2Sum.l0]) ?_; refine Evp.neg (by omega) ?_; rw [List.take_of_length_le (by omega), List.take_of_length_le (by omega)]; exact Evp.some' rfl
    | succ d ih =>
      intro i hi; refine Evp.step (fun k => by rw [spec_l2Sum.l0]) ?_
      have h1 := can_small ha i
      have h2 := can_small hb i
      refine Evp.pos (by omega) (Evp.pos (by omega) (Evp.pos (by omega) (Evp.pos (by rw [lsum_len (by simp; omega), List.length_take]; omega) ?_))); rw [rd_nat, rd_nat, wrap_succ (by omega), wrap_small (by omega), tmod31 (by omega)]
      have e : lsum (a.take (i + 1)) (b.take (i + 1)) = lsum (a.take i) (b.take i) ++ [(a.getD i 0 + b.getD i 0) % 31] := by
        unfold lsum; rw [zip_take _ (by omega) (by omega)]
      rw [← e]; exact ih (i + 1) (by omega)
  have := key a.length 0 (by omega)
  unfold spec_l2Sum.f
  simpa [lsum] using this

theorem rdL1_nat (m : List (List Int)) (i : Nat) : rd_L4 m (i : Int) = m.getD i [] := by unfold rd_L4; rw [Int.toNat_natCast]
theorem l3Has_eq {m : List (List Int)} (h : mok m = true) {v : List Int} (hv : vok v = true) : spec_l3Has.f m v = some (lhas m v) := by
  obtain ⟨h8, hr⟩ := mok_iff.1 h; unfold spec_l3Has.f; rw [if_pos ⟨⟨by omega, by simpa using hr⟩, hv⟩]
theorem impl_kindOk_eq (k : Int) : impl_kindOk.f k = some (lkind k) := by
  unfold impl_kindOk.f impl_within.f lkind
  by_cases h : k ≥ 1
  · rw [if_pos h]; simp [show (1 ≤ k) from h]
  · rw [if_neg h]; simp [show ¬ (1 ≤ k) from h]
theorem spec_l4Kind_eq (k : Int) : spec_l4Kind.f k = some (lkind k) := by
  unfold spec_l4Kind.f spec_l6In.f lkind
  by_cases h : k ≥ 1
  · rw [if_pos h]; simp [show (1 ≤ k) from h]
  · rw [if_neg h]; simp [show ¬ (1 ≤ k) from h]
theorem spec_l6In_shard (k : Int) : spec_l6In.f k 0 7 = some (lshard k) := by
  unfold spec_l6In.f lshard
  by_cases h : k ≥ 0
  · rw [if_pos h]; simp [show (0 ≤ k) from h]
  · rw [if_neg h]; simp [show ¬ (0 ≤ k) from h]
theorem spec_l4Row_eq {k a : Int} (hk : lkind k = true) (ha : lshard a = true) : spec_l4Row.f k a = some (lrow k a) := by
  have k1 : ∀ a : Fin 8, spec_l4Row.f 1 (a.val : Int) = some (lrow 1 (a.val : Int)) := by decide +kernel
  have k2 : ∀ a : Fin 8, spec_l4Row.f 2 (a.val : Int) = some (lrow 2 (a.val : Int)) := by decide +kernel
  obtain ⟨x, rfl⟩ := lshard_fin ha
  rcases lkind_cases hk with rfl | rfl
  · exact k1 x
  · exact k2 x
theorem rdOf_nat (l : List Bool) (i : Nat) : rdOf false l (i : Int) = l.getD i false := by unfold rdOf; rw [Int.toNat_natCast]
/-- places of shards that are there, from i on -/
def shardsFrom (there : List Bool) (i : Nat) : List Int := ((List.range' i (there.length - i)).filter fun j => there.getD j false).map fun (j : Nat) => (j : Int)
def lshards (there : List Bool) : List Int := shardsFrom there 0
theorem shardsFrom_succ {there : List Bool} {i : Nat} (h : i < there.length) : shardsFrom there i = (if there.getD i false = true then [(i : Int)] else []) ++ shardsFrom there (i + 1) := by
  unfold shardsFrom; rw [show there.length - i = (there.length - (i + 1)) + 1 by omega, List.range'_succ, List.filter_cons]
  split <;> simp
theorem shardsFrom_end {there : List Bool} {i : Nat} (h : there.length ≤ i) : shardsFrom there i = [] := by
  unfold shardsFrom; rw [show there.length - i = 0 by omega]; rfl
theorem everyShard_ev : Evp (fun k => impl_everyShard.f k) (· = [0, 1, 2, 3, 4, 5, 6, 7]) := by
  have st : ∀ (x : List Int) (i : Int) (k : Nat), 0 ≤ i → i < 8 → x.length < 100 → impl_everyShard.l0 (k + 1) x i = impl_everyShard.l0 k (x ++ [i]) (i + 1) := fun x i k h0 h1 h2 => by
    rw [impl_everyShard.l0, if_pos h1, if_pos (by omega), Go.Proofs.Ytfgpffocieegdaa.Pure.wrap_small (x := i + 1) (by omega)]
  refine ⟨[0, 1, 2, 3, 4, 5, 6, 7], rfl, 9, fun k hk => ?_⟩
  obtain ⟨j, rfl⟩ : ∃ j, k = j + 9 := ⟨k - 9, by omega⟩
  show impl_everyShard.f (j + 9) = _
  unfold impl_everyShard.f; rw [if_pos (by omega)]; rw [st _ _ _ (by decide) (by decide) (by decide), st _ _ _ (by decide) (by decide) (by decide), st _ _ _ (by decide) (by decide) (by decide), st _ _ _ (by decide) (by decide) (by decide), st _ _ _ (by decide) (by decide) (by decide), st _ _ _ (by decide) (by decide) (by decide), st _ _ _ (by decide) (by decide) (by decide), st _ _ _ (by decide) (by decide) (by decide)]; rw [impl_everyShard.l0, if_neg (by decide)]
  rfl
/-- shards that are there, as a number's bits tell -/
def setB (n : Int) : List Bool := [n % 2 == 1, n / 2 % 2 == 1, n / 2 / 2 % 2 == 1, n / 2 / 2 / 2 % 2 == 1, n / 2 / 2 / 2 / 2 % 2 == 1, n / 2 / 2 / 2 / 2 / 2 % 2 == 1, n / 2 / 2 / 2 / 2 / 2 / 2 % 2 == 1, n / 2 / 2 / 2 / 2 / 2 / 2 / 2 % 2 == 1]
theorem l4Set_ev {n : Int} (h0 : 0 ≤ n) (h1 : n < 256) : Evp (fun k => spec_l4Set.f k n) (· = setB n) := by
  have st : ∀ (x : Int) (l : List Bool) (i : Int) (k : Nat), 0 ≤ x → x < 256 → 0 ≤ i → i < 8 → l.length = 8 → spec_l4Set.l0 (k + 1) x l i = spec_l4Set.l0 k (x / 2) (l.set i.toNat (x % 2 == 1)) (i + 1) := fun x l i k hx0 hx1 hi0 hi1 hl => by
    rw [spec_l4Set.l0, if_pos (by omega), if_pos hi0, Go.Proofs.Ytfgpffocieegdaa.Pure.wrap_small (x := i + 1) (by omega), Int.tdiv_eq_ediv_of_nonneg hx0, tmod_pos hx0, Go.Proofs.Ytfgpffocieegdaa.Pure.wrap_small (x := x / 2) (by omega)]
  refine ⟨setB n, rfl, 9, fun k hk => ?_⟩
  obtain ⟨j, rfl⟩ : ∃ j, k = j + 9 := ⟨k - 9, by omega⟩
  show spec_l4Set.f (j + 9) n = _
  unfold spec_l4Set.f; rw [if_pos (by omega)]; rw [st _ _ _ _ h0 h1 (by decide) (by decide) (by simp), st _ _ _ _ (by omega) (by omega) (by decide) (by decide) (by simp), st _ _ _ _ (by omega) (by omega) (by decide) (by decide) (by simp), st _ _ _ _ (by omega) (by omega) (by decide) (by decide) (by simp), st _ _ _ _ (by omega) (by omega) (by decide) (by decide) (by simp), st _ _ _ _ (by omega) (by omega) (by decide) (by decide) (by simp), st _ _ _ _ (by omega) (by omega) (by decide) (by decide) (by simp), st _ _ _ _ (by omega) (by omega) (by decide) (by decide) (by simp)]; rw [spec_l4Set.l0, if_neg (by simp)]
  rfl
theorem setB_len (n : Int) : (setB n).length = 8 := rfl
def firsts (m : List (List Int)) : List Int := if mok m = true then (lfirst m).map (fun (j : Nat) => (j : Int)) else []
theorem mok_take' {m : List (List Int)} (h : mok m = true) (n : Nat) : mok (m.take n) = true := by
  obtain ⟨h8, hm⟩ := mok_iff.1 h; exact mok_iff.2 ⟨by rw [List.length_take]; omega, fun r hr => hm r (List.mem_of_mem_take hr)⟩
theorem l3First_ev {m : List (List Int)} (ho : mok m = true) : Evp (fun k => spec_l3First.f k m) (· = firsts m) := by
  obtain ⟨h8, hm⟩ := mok_iff.1 ho
  have key : ∀ (d i : Nat), i + d = m.length → Evp (fun k => spec_l3First.l0 k m (((List.range i).filter fun i => !lhas (m.take i) (m.getD i [])).map (fun (j : Nat) => (j : Int))) (i : Int)) (· = firsts m) := by
    intro d
    induction d with
    | zero =>
      intro i hi
      obtain rfl : i = m.length := by omega
      exact Evp.step (fun k => by rw [spec_l3First.l0]) (Evp.neg (by omega) (Evp.some' (by unfold firsts; rw [if_pos ho]; rfl)))
    | succ d ih =>
      intro i hi; refine Evp.step (fun k => by rw [spec_l3First.l0]) (Evp.pos (by omega) (Evp.pos (by omega) (Evp.pos (by omega) ?_))); rw [rdL1_nat, Int.toNat_natCast, l3Has_eq (mok_take' ho i) (vok_getD hm (by omega)), wrap_succ (by omega)]; simp only [Option.bind_some]
      have hi1 := ih (i + 1) (by omega)
      rw [List.range_succ, List.filter_append, List.map_append] at hi1
      refine Evp.ite (fun h => ?_) fun h => ?_
      · rw [show List.filter (fun i => !lhas (m.take i) (m.getD i [])) [i] = [] by simp only [List.filter_cons, h]; rfl, List.map_nil, List.append_nil] at hi1
        exact hi1
      · rw [show List.filter (fun i => !lhas (m.take i) (m.getD i [])) [i] = [i] by simp only [List.filter_cons, Bool.eq_false_iff.2 h]; rfl] at hi1
        refine Evp.pos ?_ hi1; rw [List.length_map]
        have := List.length_filter_le (fun i => !lhas (m.take i) (m.getD i [])) (List.range i)
        rw [List.length_range] at this
        omega
  unfold spec_l3First.f; exact key m.length 0 (by omega)
theorem firsts_length {m : List (List Int)} (ho : mok m = true) : (firsts m).length = (lfirst m).length := by
  unfold firsts; rw [if_pos ho, List.length_map]
theorem l3Less_evG {a b : List Int} (ca : can a) (cb : can b) (hl : a.length = b.length) (hn : b.length ≤ 1000000) (h0 : 0 ≤ llead b) : Evp (fun k => spec_l3Less.f k a b) (· = lless a b) := by
  obtain ⟨i, hi, e⟩ : ∃ i : Nat, i < b.length ∧ llead b = (i : Int) := by
    rcases llead_cases b with ⟨h, _⟩ | ⟨i, h1, h2, _⟩
    · rw [h] at h0; exact absurd h0 (by decide)
    · exact ⟨i, by omega, h2⟩
  have oa := ok_iff.1 (can_get ca i); have ob := can_get cb i
  have oi := inv_range (b.getD i 0)
  unfold spec_l3Less.f
  refine Evp.bind (l2Lead_ev (by omega)) fun t ht => ?_
  subst ht; rw [e]; refine Evp.pos (by omega) (Evp.pos (by omega) (Evp.pos (by omega) ?_)); rw [rd_nat, rd_nat]
  refine Evp.bind (spec_l1Inv_ev ob) fun t ht => ?_
  subst ht
  have hm := mul_small (a := a.getD i 0) (b := inv (b.getD i 0)) (ok_iff.2 oa) (ok_iff.2 ⟨by omega, by omega⟩)
  have e2 : Int.tmod (wrap64 (31 - Int.tmod (wrap64 (a.getD i 0 * inv (b.getD i 0))) 31)) 31 = (31 - a.getD i 0 * inv (b.getD i 0) % 31) % 31 := by
    generalize a.getD i 0 * inv (b.getD i 0) = y at *; rw [wrap_small (x := y) (by omega), tmod31 (x := y) (by omega), wrap_small (by omega), tmod31 (by omega)]
  rw [e2]
  refine Evp.bind (l2Scale_ev cb (mod_ok _) (by omega)) fun t ht => ?_
  subst ht
  refine Evp.bind (l2Sum_ev ca (can_lscale _ _) (by rw [lscale_len]; omega) (by omega)) fun t ht => Evp.some' ?_
  rw [ht]; unfold lless; rw [e, gt_nat, gt_nat]
theorem can_lless (a b : List Int) : can (lless a b) := can_lsum _ _
theorem lless_len {a b : List Int} (hl : a.length = b.length) : (lless a b).length = a.length := by
  unfold lless; exact lsum_len (by rw [lscale_len]; exact hl)
/-- a step's rows, the one that leads at hand -/
def bstep (p i : Nat) (R : List (List Int)) : List (List Int) := R.mapIdx fun k r => if k ≠ i ∧ gt r p ≠ 0 then lless r (R.getD i []) else r
theorem bstep_len (p i : Nat) (R : List (List Int)) : (bstep p i R).length = R.length := by simp [bstep]
theorem bstep_get (p i : Nat) (R : List (List Int)) (j : Nat) (hj : j < R.length) : (bstep p i R)[j]'(by rw [bstep_len]; exact hj) = if j ≠ i ∧ gt R[j] p ≠ 0 then lless R[j] (R.getD i []) else R[j] := by
  simp [bstep]
theorem cl_getD {n : Nat} {R : List (List Int)} (hR : ∀ r ∈ R, Cl n r) {i : Nat} (hi : i < R.length) : Cl n (R.getD i []) := by
  rw [List.getD_eq_getElem?_getD, List.getElem?_eq_getElem hi]; exact hR _ (List.getElem_mem hi)
theorem cl_lless {n : Nat} {a b : List Int} (ha : Cl n a) (hb : Cl n b) : Cl n (lless a b) := ⟨by rw [lless_len (by rw [ha.1, hb.1]), ha.1], can_lless _ _⟩
theorem cl_bstep {n : Nat} {R : List (List Int)} (hR : ∀ r ∈ R, Cl n r) {p i : Nat} (hi : i < R.length) : ∀ r ∈ bstep p i R, Cl n r := fun r hr => by
  obtain ⟨j, hj, rfl⟩ := List.getElem_of_mem hr; rw [bstep_len] at hj; rw [bstep_get p i R j hj]
  split
  · exact cl_lless (hR _ (List.getElem_mem hj)) (cl_getD hR hi)
  · exact hR _ (List.getElem_mem hj)
def bmid (p i : Nat) (R : List (List Int)) (j : Nat) : List (List Int) := (bstep p i R).take j ++ R.drop j
theorem bmid_len (p i : Nat) (R : List (List Int)) {j : Nat} (hj : j ≤ R.length) : (bmid p i R j).length = R.length := by
  unfold bmid; rw [List.length_append, List.length_take, List.length_drop, bstep_len]; omega
theorem bmid_at (p i : Nat) (R : List (List Int)) {j : Nat} (hj : j < R.length) : (bmid p i R j).getD j [] = R.getD j [] := by
  unfold bmid; rw [List.getD_eq_getElem?_getD, List.getElem?_append_right (by rw [List.length_take, bstep_len]; omega), List.length_take, bstep_len, List.getElem?_drop, show j + (j - min j R.length) = j by omega]; rfl
theorem bmid_i (p i : Nat) (R : List (List Int)) {j : Nat} (hj : j ≤ R.length) (hi : i < R.length) : (bmid p i R j).getD i [] = R.getD i [] := by
  by_cases h : i < j
  · unfold bmid
    rw [List.getD_eq_getElem?_getD, List.getElem?_append_left (by rw [List.length_take, bstep_len]; omega), List.getElem?_take_of_lt h, List.getElem?_eq_getElem (by rw [bstep_len]; exact hi), bstep_get p i R i hi, if_neg (fun h => h.1 rfl), List.getD_eq_getElem?_getD, List.getElem?_eq_getElem hi]
  · unfold bmid
    rw [List.getD_eq_getElem?_getD, List.getElem?_append_right (by rw [List.length_take, bstep_len]; omega), List.length_take, bstep_len, List.getElem?_drop, show j + (i - min j R.length) = i by omega]; rfl
theorem bmid_same (p i : Nat) (R : List (List Int)) {j : Nat} (hj : j < R.length) (h : ¬ (j ≠ i ∧ gt R[j] p ≠ 0)) : bmid p i R (j + 1) = bmid p i R j := by
  unfold bmid; rw [List.take_succ_eq_append_getElem (by rw [bstep_len]; exact hj), bstep_get p i R j hj, if_neg h, List.drop_eq_getElem_cons hj, List.append_assoc]; rfl
theorem bmid_set (p i : Nat) (R : List (List Int)) {j : Nat} (hj : j < R.length) (h : j ≠ i ∧ gt R[j] p ≠ 0) : (bmid p i R j).set j (lless (R.getD j []) (R.getD i [])) = bmid p i R (j + 1) := by
  unfold bmid
  have hl : ((bstep p i R).take j).length = j := by rw [List.length_take, bstep_len]; omega
  rw [List.set_append_right _ _ (by omega), hl, Nat.sub_self, List.drop_eq_getElem_cons hj, List.set_cons_zero, List.take_succ_eq_append_getElem (by rw [bstep_len]; exact hj), bstep_get p i R j hj, if_pos h, List.append_assoc, List.getD_eq_getElem?_getD, List.getElem?_eq_getElem hj]; rfl
theorem vok_row {m : List (List Int)} (hm : ∀ r ∈ m, vok r = true) {i : Nat} (hi : i < m.length) : vok (m.getD i []) = true := by
  rw [List.getD_eq_getElem?_getD, List.getElem?_eq_getElem hi]; exact hm _ (List.getElem_mem hi)
theorem by_l3_ev {n : Nat} (hn : n ≤ 1000) {R : List (List Int)} (hR : ∀ r ∈ R, Cl (4 + n) r) (hl : R.length ≤ 1000000) {x : List Int} (hx : Cl (4 + n) x) {p i : Nat} (hp : p < 4) (hi : i < R.length) (hlead : llead (R.getD i []) = (p : Int)) {Q : _ → Prop}
    (h : Evp (fun k => spec_l3By.l1 k (bstep p i R) (lless x (R.getD i [])) ((p + 1 : Nat) : Int)) Q) : ∀ (d j : Nat), j + d = R.length →
    Evp (fun k => spec_l3By.l3 k (bmid p i R j) x (p : Int) (i : Int) (j : Int)) Q := by
  have ci := cl_getD hR hi
  intro d
  induction d with
  | zero =>
    intro j hj
    have hb := bmid_len p i R (j := j) (by omega)
    refine Evp.step (fun k => by rw [spec_l3By.l3]) (Evp.neg (by omega) (Evp.pos (by omega) (Evp.pos (by omega) ?_))); rw [rdL1_nat, bmid_i p i R (by omega) hi]
    refine Evp.bind (l3Less_evG hx.2 ci.2 (by rw [hx.1, ci.1]) (by rw [ci.1]; omega) (by omega)) fun t ht => ?_
    subst ht
    have e : bmid p i R j = bstep p i R := by
      unfold bmid; rw [List.take_of_length_le (by rw [bstep_len]; omega), List.drop_eq_nil_of_le (by omega), List.append_nil]
    rw [e, wrap_succ (by omega)]; exact h
  | succ d ih =>
    intro j hj
    have hj1 : j < R.length := by omega
    have hb := bmid_len p i R (j := j) (by omega)
    have cj := cl_getD hR hj1
    have eR : R[j] = R.getD j [] := by rw [List.getD_eq_getElem?_getD, List.getElem?_eq_getElem hj1]; rfl
    refine Evp.step (fun k => by rw [spec_l3By.l3]) (Evp.pos (by omega) (Evp.ite (fun hc => ?_) fun hc => ?_))
    · rw [wrap_succ (by omega), ← bmid_same p i R hj1 (fun h => h.1 (by omega))]
      exact ih (j + 1) (by omega)
    · refine Evp.pos (by omega) (Evp.pos (by omega) ?_)
      rw [rdL1_nat, bmid_at p i R hj1, rdL1_nat, bmid_i p i R (by omega) hi]; refine Evp.pos (by rw [cj.1]; omega) ?_; rw [rd_nat]
      refine Evp.ite (fun hz => ?_) fun hz => ?_
      · rw [wrap_succ (by omega), ← bmid_same p i R hj1 (fun h => h.2 (by rw [eR, gt_nat]; exact hz))]
        exact ih (j + 1) (by omega)
      · refine Evp.pos (by omega) (Evp.pos (by omega) ?_)
        refine Evp.bind (l3Less_evG cj.2 ci.2 (by rw [cj.1, ci.1]) (by rw [ci.1]; omega) (by omega)) fun t ht => ?_
        subst ht; rw [Int.toNat_natCast, wrap_succ (by omega), bmid_set p i R hj1 ⟨by omega, by rw [eR, gt_nat]; exact hz⟩]; exact ih (j + 1) (by omega)
theorem by_l2_ev {n : Nat} (hn : n ≤ 1000) {R : List (List Int)} (hR : ∀ r ∈ R, Cl (4 + n) r) (hl : R.length ≤ 1000000) {x : List Int} (hx : Cl (4 + n) x) {p : Nat} (hp : p < 4) {Q : _ → Prop}
    (h : Evp (fun k => spec_l3By.l1 k (Lin.lstep (R, x) p).1 (Lin.lstep (R, x) p).2 ((p + 1 : Nat) : Int)) Q) : ∀ (d i : Nat), i + d = R.length → (∀ q, q < i → llead (R.getD q []) ≠ (p : Int)) →
    Evp (fun k => spec_l3By.l2 k R x (p : Int) (i : Int)) Q := by
  intro d
  induction d with
  | zero =>
    intro i hi hq
    have e : R.findIdx? (fun r => llead r == (p : Int)) = none := by
      rw [List.findIdx?_eq_none_iff]; intro r hr; obtain ⟨q, hq1, rfl⟩ := List.getElem_of_mem hr
      have := hq q (by omega)
      rw [List.getD_eq_getElem?_getD, List.getElem?_eq_getElem hq1] at this
      simpa using this
    refine Evp.step (fun k => by rw [spec_l3By.l2]) (Evp.neg (by omega) ?_); rw [wrap_succ (by omega)]
    simpa only [Lin.lstep, e] using h
  | succ d ih =>
    intro i hi hq
    have hi1 : i < R.length := by omega
    have ci := cl_getD hR hi1
    refine Evp.step (fun k => by rw [spec_l3By.l2]) (Evp.pos (by omega) (Evp.pos (by omega) ?_)); rw [rdL1_nat]
    refine Evp.bind (l2Lead_ev (by rw [ci.1]; omega)) fun t ht => ?_
    subst ht
    refine Evp.ite (fun hc => ?_) fun hc => ?_
    · have e : R.findIdx? (fun r => llead r == (p : Int)) = some i := by
        rw [List.findIdx?_eq_some_iff_getElem]; refine ⟨hi1, ?_, fun q hq1 => ?_⟩
        · rw [List.getD_eq_getElem?_getD, List.getElem?_eq_getElem hi1] at hc
          simpa using hc
        · have := hq q hq1
          rw [List.getD_eq_getElem?_getD, List.getElem?_eq_getElem (by omega)] at this
          simpa using this
      have h2 : Evp (fun k => spec_l3By.l1 k (bstep p i R) (lless x (R.getD i [])) ((p + 1 : Nat) : Int)) Q := by
        have h1 := h
        simp only [Lin.lstep, e] at h1; exact h1
      exact by_l3_ev hn hR hl hx hp hi1 hc h2 R.length 0 (by omega)
    · rw [wrap_succ (by omega)]
      refine ih (i + 1) (by omega) fun q hq1 => ?_
      rcases Nat.lt_or_ge q i with c | c
      · exact hq q c
      · rw [show q = i by omega]; exact hc
theorem lstep_cl {n : Nat} {s : List (List Int) × List Int} (hR : ∀ r ∈ s.1, Cl (4 + n) r) (hx : Cl (4 + n) s.2) (p : Nat) : (∀ r ∈ (Lin.lstep s p).1, Cl (4 + n) r) ∧ Cl (4 + n) (Lin.lstep s p).2 ∧ (Lin.lstep s p).1.length = s.1.length := by
  unfold Lin.lstep
  split
  · exact ⟨hR, hx, rfl⟩
  · rename_i i e
    have hi : i < s.1.length := by
      obtain ⟨h, _⟩ := List.findIdx?_eq_some_iff_getElem.1 e; exact h
    exact ⟨cl_bstep (p := p) hR hi, cl_lless hx (cl_getD hR hi), bstep_len p i s.1⟩
theorem by_l1_ev {n : Nat} (hn : n ≤ 1000) {s : List (List Int) × List Int} (hR : ∀ r ∈ s.1, Cl (4 + n) r) (hl : s.1.length ≤ 1000000) (hx : Cl (4 + n) s.2) {p : Nat} (hp : p < 4) {Q : _ → Prop}
    (h : Evp (fun k => spec_l3By.l1 k (Lin.lstep s p).1 (Lin.lstep s p).2 ((p + 1 : Nat) : Int)) Q) : Evp (fun k => spec_l3By.l1 k s.1 s.2 (p : Int)) Q := by
  refine Evp.step (fun k => by rw [spec_l3By.l1]) (Evp.pos (by omega) ?_); exact by_l2_ev hn hR hl hx hp h s.1.length 0 (by omega) (fun q hq => absurd hq (Nat.not_lt_zero q))
theorem spec_l6In_eq (a b c : Int) : spec_l6In.f a b c = some (decide (b ≤ a) && decide (a ≤ c)) := by
  unfold spec_l6In.f
  by_cases h : b ≤ a
  · simp [h]
  · simp [h]
def byOf : Option (List Int) → List Int × Bool
  | some l => (l, true)
  | none => ([], false)
theorem spec_l3By_ev {m : List (List Int)} (hm : ∀ r ∈ m, vok r = true) (hn : m.length ≤ 1000) {v : List Int} (hv : vok v = true) : Evp (fun k => spec_l3By.f k m v) (· = byOf (Lin.lby m v)) := by
  obtain ⟨v4, vc⟩ := vok_iff.1 hv; unfold spec_l3By.f; have hx : Cl (4 + m.length) (v ++ List.replicate m.length 0) := ⟨by rw [List.length_append, List.length_replicate, v4], can_append vc (can_replicate _)⟩
  have hR : ∀ r ∈ (List.range m.length).map (laug m), Cl (4 + m.length) r := fun r hr => by
    obtain ⟨i, hi, rfl⟩ := List.mem_map.1 hr; exact laug_cl hm (List.mem_range.1 hi)
  have fin : Evp (fun k => spec_l3By.l1 k ((List.range m.length).map (laug m)) (v ++ List.replicate m.length 0) 0) (· = byOf (Lin.lby m v)) := by
    generalize hs : (((List.range m.length).map (laug m), v ++ List.replicate m.length 0) : List (List Int) × List Int) = s0
    have a0 : (∀ r ∈ s0.1, Cl (4 + m.length) r) ∧ Cl (4 + m.length) s0.2 ∧ s0.1.length = m.length := by subst hs; exact ⟨hR, hx, by simp⟩
    have a1 := lstep_cl a0.1 a0.2.1 0
    have a2 := lstep_cl a1.1 a1.2.1 1
    have a3 := lstep_cl a2.1 a2.2.1 2
    have a4 := lstep_cl a3.1 a3.2.1 3
    have es : Lin.lsteps m v = Lin.lstep (Lin.lstep (Lin.lstep (Lin.lstep s0 0) 1) 2) 3 := by unfold Lin.lsteps; rw [hs]; rfl
    have goal : Evp (fun k => spec_l3By.l1 k s0.1 s0.2 ((0 : Nat) : Int)) (· = byOf (Lin.lby m v)) := by
      refine by_l1_ev hn a0.1 (by omega) a0.2.1 (by decide) ?_; refine by_l1_ev hn a1.1 (by omega) a1.2.1 (by decide) ?_; refine by_l1_ev hn a2.1 (by omega) a2.2.1 (by decide) ?_; refine by_l1_ev hn a3.1 (by omega) a3.2.1 (by decide) ?_; refine Evp.step (fun k => by rw [spec_l3By.l1]) (Evp.neg (by decide) ?_); unfold Lin.lby; rw [es]; generalize Lin.lstep (Lin.lstep (Lin.lstep (Lin.lstep s0 0) 1) 2) 3 = s at a4 ⊢
      refine Evp.bind (l2Lead_ev (by rw [a4.2.1.1]; omega)) fun t ht => ?_
      subst ht; rw [spec_l6In_eq]; simp only [Option.bind_some]
      refine Evp.ite (fun hc => Evp.some' ?_) fun hc => ?_
      · rw [if_pos (by simpa using hc)]; rfl
      · rw [if_neg (by simpa using hc)]
        refine Evp.pos (by rw [a4.2.1.1]; omega) ?_
        refine Evp.bind (l2Scale_ev (fun y hy => a4.2.1.2 y (List.mem_of_mem_drop hy)) (by decide) (by rw [List.length_drop, a4.2.1.1]; omega)) fun t ht => Evp.some' ?_
        rw [ht]; rfl
    rw [← hs] at goal; exact goal
  have key : ∀ d i, i + d = m.length → Evp (fun k => spec_l3By.l0 k m v ((List.range i).map (laug m)) (i : Int)) (· = byOf (Lin.lby m v)) := by
    intro d
    induction d with
    | zero =>
      intro i hi; refine Evp.step (fun k => by rw [spec_l3By.l0]) (Evp.neg (by omega) ?_); simp only [Option.bind_some, List.nil_append, List.length_nil, Int.toNat_natCast]; refine Evp.pos (by omega) (Evp.pos (by omega) (Evp.pos (by omega) ?_)); rw [show i = m.length by omega]; exact fin
    | succ d ih =>
      intro i hi
      have hi1 : i < m.length := by omega
      have l4 := (vok_iff.1 (vok_row hm hi1)).1
      refine Evp.step (fun k => by rw [spec_l3By.l0]) (Evp.pos (by omega) (Evp.pos (by omega) ?_)); simp only [Option.bind_some, List.nil_append, List.length_nil, Int.toNat_natCast, List.length_replicate, List.length_set, rdL1_nat, List.length_map, List.length_range]; refine Evp.pos (by omega) (Evp.pos (by omega) (Evp.pos (by omega) (Evp.pos (by omega) (Evp.pos (by omega) (Evp.pos (by omega) ?_)))))
      have := ih (i + 1) (by omega)
      rw [List.range_succ, List.map_append] at this; rw [wrap_succ (by omega)]; exact this
  exact key m.length 0 (by omega)
/-- the sum of the first rows of a plan -/
def psum (kind : Int) (fr bs : List Int) : Nat → List Int
  | 0 => [0, 0, 0, 0]
  | n + 1 => lsum (psum kind fr bs n) (lscale (lrow kind (fr.getD n 0)) (bs.getD n 0))
theorem cb_some {p : List Int → Bool} : ∀ (ys : List Int) (r : Nat) (xs zs : List Int), Go.Proofs.Ytfgpffocieegdaa.PA.comb p ys r xs = some zs → ∃ s : List Int, List.Sublist s ys ∧ s.length = r ∧ zs = xs ++ s ∧ p zs = true := by
  intro ys
  have zero : ∀ (ys xs zs : List Int), Go.Proofs.Ytfgpffocieegdaa.PA.comb p ys 0 xs = some zs → ∃ s : List Int, List.Sublist s ys ∧ s.length = 0 ∧ zs = xs ++ s ∧ p zs = true := fun ys xs zs h => by
    rw [Go.Proofs.Ytfgpffocieegdaa.PA.comb_zero] at h
    split at h
    · rename_i hp
      obtain rfl := Option.some.inj h
      exact ⟨[], List.nil_sublist _, rfl, by simp, hp⟩
    · cases h
  induction ys with
  | nil =>
    intro r xs zs h
    cases r with
    | zero => exact zero _ _ _ h
    | succ r => rw [Go.Proofs.Ytfgpffocieegdaa.PA.comb_nil] at h; cases h
  | cons y ys ih =>
    intro r xs zs h
    cases r with
    | zero => exact zero _ _ _ h
    | succ r =>
      rw [Go.Proofs.Ytfgpffocieegdaa.PA.comb_cons] at h
      cases h1 : Go.Proofs.Ytfgpffocieegdaa.PA.comb p ys r (xs ++ [y]) with
      | some z =>
        rw [h1] at h
        obtain rfl : z = zs := Option.some.inj h
        obtain ⟨s, h2, h3, h4, h5⟩ := ih r _ _ h1; exact ⟨y :: s, h2.cons_cons y, by simp [h3], by simpa using h4, h5⟩
      | none =>
        rw [h1] at h; obtain ⟨s, h2, h3, h4, h5⟩ := ih (r + 1) xs zs h; exact ⟨s, h2.cons y, h3, h4, h5⟩
theorem cb_none {p : List Int → Bool} : ∀ (ys : List Int) (r : Nat) (xs : List Int), Go.Proofs.Ytfgpffocieegdaa.PA.comb p ys r xs = none → ∀ s : List Int, List.Sublist s ys → s.length = r → p (xs ++ s) = false := by
  intro ys
  have zero : ∀ (ys xs : List Int), Go.Proofs.Ytfgpffocieegdaa.PA.comb p ys 0 xs = none → ∀ s : List Int, s.length = 0 → p (xs ++ s) = false := fun ys xs h s hs => by
    rw [Go.Proofs.Ytfgpffocieegdaa.PA.comb_zero] at h
    obtain rfl := List.eq_nil_of_length_eq_zero hs
    rw [List.append_nil]
    split at h
    · cases h
    · rename_i hp; exact Bool.eq_false_iff.2 hp
  induction ys with
  | nil =>
    intro r xs h s hs hl
    obtain rfl := List.eq_nil_of_sublist_nil hs
    obtain rfl : r = 0 := hl.symm
    exact zero _ _ h _ rfl
  | cons y ys ih =>
    intro r xs h s hs hl
    cases r with
    | zero => exact zero _ _ h _ hl
    | succ r =>
      rw [Go.Proofs.Ytfgpffocieegdaa.PA.comb_cons] at h
      cases h1 : Go.Proofs.Ytfgpffocieegdaa.PA.comb p ys r (xs ++ [y]) with
      | some z => rw [h1] at h; cases h
      | none =>
        rw [h1] at h
        cases hs with
        | cons _ h2 => exact ih (r + 1) xs h s h2 hl
        | cons_cons _ h2 =>
          rename_i s
          have := ih r _ h1 s h2 (by simpa using hl)
          rwa [List.append_assoc] at this
theorem cb_congr {p q : List Int → Bool} : ∀ (ys : List Int) (r : Nat) (xs : List Int), (∀ s : List Int, List.Sublist s ys → s.length = r → p (xs ++ s) = q (xs ++ s)) → Go.Proofs.Ytfgpffocieegdaa.PA.comb p ys r xs = Go.Proofs.Ytfgpffocieegdaa.PA.comb q ys r xs := by
  intro ys
  have zero : ∀ (ys xs : List Int), p xs = q xs → Go.Proofs.Ytfgpffocieegdaa.PA.comb p ys 0 xs = Go.Proofs.Ytfgpffocieegdaa.PA.comb q ys 0 xs := fun ys xs h => by rw [Go.Proofs.Ytfgpffocieegdaa.PA.comb_zero, Go.Proofs.Ytfgpffocieegdaa.PA.comb_zero, h]
  induction ys with
  | nil =>
    intro r xs h
    cases r with
    | zero => exact zero _ _ (by simpa using h [] (List.nil_sublist _) rfl)
    | succ r => rfl
  | cons y ys ih =>
    intro r xs h
    cases r with
    | zero => exact zero _ _ (by simpa using h [] (List.nil_sublist _) rfl)
    | succ r =>
      rw [Go.Proofs.Ytfgpffocieegdaa.PA.comb_cons, Go.Proofs.Ytfgpffocieegdaa.PA.comb_cons, ih r (xs ++ [y]) (fun s hs hl => by have := h (y :: s) (hs.cons_cons y) (by simp [hl]); simpa using this), ih (r + 1) xs (fun s hs hl => h s (hs.cons y) hl)]
def allsub : List Int → List (List Int)
  | [] => [[]]
  | x :: l => allsub l ++ (allsub l).map (x :: ·)
theorem mem_allsub {s l : List Int} (h : List.Sublist s l) : s ∈ allsub l := by
  induction h with
  | slnil => exact List.mem_singleton.2 rfl
  | cons a h ih => exact List.mem_append.2 (.inl ih)
  | cons_cons a h ih => exact List.mem_append.2 (.inr (List.mem_map.2 ⟨_, ih, rfl⟩))
def shards8 : List Int := [0, 1, 2, 3, 4, 5, 6, 7]
/-- the reference's plan of a set -/
def sPlan (kind lost : Int) (xs : List Int) : Option (List Int) := if (lfirst (xs.map (lrow kind))).length < (xs.map (lrow kind)).length then none else Lin.lby (xs.map (lrow kind)) (lrow kind lost)
def sOk (kind lost : Int) (xs : List Int) : Bool := (sPlan kind lost xs).isSome
/-- one set: the program takes it just if the reference does, with the same numbers, or a smaller one is taken -/
def tabSet (kind lost : Int) (xs : List Int) : Bool :=
  if xs.length = 0 ∨ 4 < xs.length ∨ lost ∈ xs then true else
  match sPlan kind lost xs with
  | none => !pOk kind lost xs
  | some bs => if pOk kind lost xs = true then decide (pBy kind lost xs = bs) && decide (psum kind xs bs xs.length = lrow kind lost) else (List.range xs.length).any fun i => sOk kind lost (xs.eraseIdx i)
def tabAll (kind lost : Int) : Bool := !sOk kind lost [] && (allsub shards8).all fun xs => tabSet kind lost xs
theorem tab_1a : (tabAll 1 0 && (tabAll 1 1 && (tabAll 1 2 && tabAll 1 3))) = true := by decide +kernel
theorem tab_1b : (tabAll 1 4 && (tabAll 1 5 && (tabAll 1 6 && tabAll 1 7))) = true := by decide +kernel
theorem tab_2a : (tabAll 2 0 && (tabAll 2 1 && (tabAll 2 2 && tabAll 2 3))) = true := by decide +kernel
theorem tab_2b : (tabAll 2 4 && (tabAll 2 5 && (tabAll 2 6 && tabAll 2 7))) = true := by decide +kernel
theorem tab_any {kind lost : Int} (hk : lkind kind = true) (hl : lshard lost = true) : tabAll kind lost = true := by
  have h1 := tab_1a
  have h2 := tab_1b
  have h3 := tab_2a
  have h4 := tab_2b
  simp only [Bool.and_eq_true] at h1 h2 h3 h4; unfold lkind at hk; unfold lshard at hl; simp only [Bool.and_eq_true, decide_eq_true_eq] at hk hl
  rcases (show kind = 1 ∨ kind = 2 by omega) with rfl | rfl <;> rcases (show lost = 0 ∨ lost = 1 ∨ lost = 2 ∨ lost = 3 ∨ lost = 4 ∨ lost = 5 ∨ lost = 6 ∨ lost = 7 by omega) with rfl | rfl | rfl | rfl | rfl | rfl | rfl | rfl
  · exact h1.1
  · exact h1.2.1
  · exact h1.2.2.1
  · exact h1.2.2.2
  · exact h2.1
  · exact h2.2.1
  · exact h2.2.2.1
  · exact h2.2.2.2
  · exact h3.1
  · exact h3.2.1
  · exact h3.2.2.1
  · exact h3.2.2.2
  · exact h4.1
  · exact h4.2.1
  · exact h4.2.2.1
  · exact h4.2.2.2
theorem tab_set {kind lost : Int} (hk : lkind kind = true) (hl : lshard lost = true) {xs : List Int} (hs : List.Sublist xs shards8) : tabSet kind lost xs = true := by
  have h := tab_any hk hl
  unfold tabAll at h; rw [Bool.and_eq_true, List.all_eq_true] at h; exact h.2 xs (mem_allsub hs)
theorem sOk_nil {kind lost : Int} (hk : lkind kind = true) (hl : lshard lost = true) : sOk kind lost [] = false := by
  have h := tab_any hk hl
  unfold tabAll at h; rw [Bool.and_eq_true] at h
  simpa using h.1
theorem tab_pOk {kind lost : Int} (hk : lkind kind = true) (hl : lshard lost = true) {xs : List Int} (hs : List.Sublist xs shards8) (h1 : 1 ≤ xs.length) (h4 : xs.length ≤ 4) (hn : lost ∉ xs) (hp : pOk kind lost xs = true) : sPlan kind lost xs = some (pBy kind lost xs) ∧ psum kind xs (pBy kind lost xs) xs.length = lrow kind lost := by
  have h := tab_set hk hl hs
  unfold tabSet at h; rw [if_neg (by intro hh; rcases hh with hh | hh | hh; omega; omega; exact hn hh)] at h
  cases hb : sPlan kind lost xs with
  | none => rw [hb] at h; simp [hp] at h
  | some bs =>
    rw [hb] at h; simp only [hp, if_true, Bool.and_eq_true, decide_eq_true_eq] at h; rw [h.1]; exact ⟨rfl, h.2⟩
theorem tab_same {kind lost : Int} (hk : lkind kind = true) (hl : lshard lost = true) {xs : List Int} (hs : List.Sublist xs shards8) (h1 : 1 ≤ xs.length) (h4 : xs.length ≤ 4) (hn : lost ∉ xs) (hless : ∀ s : List Int, List.Sublist s xs → s.length + 1 = xs.length → sOk kind lost s = false) : pOk kind lost xs = sOk kind lost xs := by
  have h := tab_set hk hl hs
  unfold tabSet at h; rw [if_neg (by intro hh; rcases hh with hh | hh | hh; omega; omega; exact hn hh)] at h; unfold sOk
  cases hb : sPlan kind lost xs with
  | none => rw [hb] at h; simpa using h
  | some bs =>
    rw [hb] at h
    by_cases hp : pOk kind lost xs = true
    · rw [hp]; rfl
    · simp only [if_neg hp, List.any_eq_true] at h
      obtain ⟨i, hi, hx⟩ := h
      have hi := List.mem_range.1 hi
      rw [hless _ (List.eraseIdx_sublist _ _) (by rw [List.length_eraseIdx, if_pos hi]; omega)] at hx
      cases hx
/-- what may be used: shards, in order, without the lost one -/
def Oth (lost : Int) (oth : List Int) : Prop := List.Sublist oth shards8 ∧ lost ∉ oth
theorem plan_same {kind lost : Int} (hk : lkind kind = true) (hl : lshard lost = true) {oth : List Int} (ho : Oth lost oth) : ∀ n m : Nat, 1 ≤ m → m + n ≤ 5 → (m = 1 ∨ Go.Proofs.Ytfgpffocieegdaa.PA.comb (sOk kind lost) oth (m - 1) [] = none) → planS (pOk kind lost) oth n m = planS (sOk kind lost) oth n m := by
  intro n
  induction n with
  | zero => intro m _ _ _; rfl
  | succ n ih =>
    intro m h1 h5 hm
    have e : Go.Proofs.Ytfgpffocieegdaa.PA.comb (pOk kind lost) oth m [] = Go.Proofs.Ytfgpffocieegdaa.PA.comb (sOk kind lost) oth m [] := cb_congr oth m [] fun s hs hlen => by
      rw [List.nil_append]
      refine tab_same hk hl (hs.trans ho.1) (by omega) (by omega) (fun h => ho.2 (hs.subset h)) fun t ht htl => ?_
      rcases hm with rfl | hm
      · obtain rfl := List.eq_nil_of_length_eq_zero (by omega : t.length = 0)
        exact sOk_nil hk hl
      · have := cb_none oth (m - 1) [] hm t (ht.trans hs) (by omega)
        rwa [List.nil_append] at this
    rw [planS, planS, e]
    cases hc : Go.Proofs.Ytfgpffocieegdaa.PA.comb (sOk kind lost) oth m [] with
    | some ys => rfl
    | none => exact ih (m + 1) (by omega) (by omega) (.inr hc)
theorem planS_some {p : List Int → Bool} {oth : List Int} : ∀ n m : Nat, ∀ ys, planS p oth n m = some ys → List.Sublist ys oth ∧ m ≤ ys.length ∧ ys.length < m + n ∧ p ys = true := by
  intro n
  induction n with
  | zero => intro m ys h; cases h
  | succ n ih =>
    intro m ys h; rw [planS] at h
    cases hc : Go.Proofs.Ytfgpffocieegdaa.PA.comb p oth m [] with
    | some zs =>
      rw [hc] at h
      obtain rfl : zs = ys := Option.some.inj h
      obtain ⟨s, h1, h2, h3, h4⟩ := cb_some oth m [] zs hc; rw [List.nil_append] at h3; subst h3; exact ⟨h1, by omega, by omega, h4⟩
    | none =>
      rw [hc] at h; obtain ⟨h1, h2, h3, h4⟩ := ih (m + 1) ys h; exact ⟨h1, by omega, by omega, h4⟩
def sRes (kind lost : Int) : Option (List Int) → Int × List Int × List Int × Bool
  | none => (0, [], [], false)
  | some ys => (lost, ys, (sPlan kind lost ys).getD [], true)
theorem l11Plan_ev {kind lost : Int} (hk : lkind kind = true) (hl : lshard lost = true) {xs : List Int} (hx : ∀ x ∈ xs, lshard x = true) (h8 : xs.length ≤ 8) : Evp (fun k => spec_l11Plan.f k kind lost xs) (· = sRes kind lost (if sOk kind lost xs = true then some xs else none)) := by
  have hm := rows_vok hk hx
  have hmo : mok (xs.map (lrow kind)) = true := mok_iff.2 ⟨by rw [List.length_map]; exact h8, hm⟩; have hv : vok (lrow kind lost) = true := lrow_ok hk hl
  have fin : Evp (fun k => spec_l11Plan.l0 k kind lost xs (xs.map (lrow kind)) (xs.length : Int)) (· = sRes kind lost (if sOk kind lost xs = true then some xs else none)) := by
    refine Evp.step (fun k => by rw [spec_l11Plan.l0]) (Evp.neg (by omega) ?_)
    refine Evp.bind (l3First_ev hmo) fun t ht => ?_
    subst ht; rw [firsts_length hmo]; have hs : sPlan kind lost xs = if (lfirst (xs.map (lrow kind))).length < (xs.map (lrow kind)).length then none else Lin.lby (xs.map (lrow kind)) (lrow kind lost) := rfl
    refine Evp.ite (fun h => Evp.some' ?_) fun h => ?_
    · rw [if_pos (by omega)] at hs
      unfold sOk; rw [hs]; rfl
    · rw [if_neg (by omega)] at hs
      rw [spec_l4Row_eq hk hl]; simp only [Option.bind_some]
      refine Evp.bind (spec_l3By_ev hm (by rw [List.length_map]; omega) hv) fun t ht => ?_
      subst ht; rw [← hs]
      cases hb : sPlan kind lost xs with
      | none =>
        refine Evp.neg (by simp [byOf]) (Evp.some' ?_); unfold sOk; rw [hb]; rfl
      | some bs =>
        refine Evp.pos (by simp [byOf]) (Evp.pos (by simp; omega) (Evp.some' ?_)); unfold sOk; rw [hb]
        simp [sRes, hb, byOf]
  have key : ∀ (d i : Nat), i + d = xs.length → Evp (fun k => spec_l11Plan.l0 k kind lost xs ((xs.take i).map (lrow kind)) (i : Int)) (· = sRes kind lost (if sOk kind lost xs = true then some xs else none)) := by
    intro d
    induction d with
    | zero =>
      intro i hi
      obtain rfl : i = xs.length := by omega
      rw [List.take_length]; exact fin
    | succ d ih =>
      intro i hi
      have hi1 : i < xs.length := by omega
      refine Evp.step (fun k => by rw [spec_l11Plan.l0]) (Evp.pos (by omega) (Evp.pos (by omega) ?_)); have hsh : lshard (xs.getD i 0) = true := hx _ (by rw [List.getD_eq_getElem?_getD, List.getElem?_eq_getElem hi1]; exact List.getElem_mem hi1); rw [rd_nat, spec_l4Row_eq hk hsh, wrap_succ (by omega)]; simp only [Option.bind_some]; refine Evp.pos (by rw [List.length_map, List.length_take]; omega) ?_
      have e : (xs.take i).map (lrow kind) ++ [lrow kind (xs.getD i 0)] = (xs.take (i + 1)).map (lrow kind) := by
        rw [List.take_add_one, List.getElem?_eq_getElem hi1, List.map_append, List.getD_eq_getElem?_getD, List.getElem?_eq_getElem hi1]; rfl
      rw [e]; exact ih (i + 1) (by omega)
  unfold spec_l11Plan.f; exact key xs.length 0 (by omega)
def othFrom (lost : Int) (there : List Bool) (i : Nat) : List Int := Go.Proofs.Ytfgpffocieegdaa.Sd.others lost (shardsFrom there i)
theorem othFrom_end {lost : Int} {there : List Bool} {i : Nat} (h : there.length ≤ i) : othFrom lost there i = [] := by unfold othFrom; rw [shardsFrom_end h]; rfl
theorem othFrom_skip {lost : Int} {there : List Bool} {i : Nat} (h : i < there.length) (hn : there.getD i false = false ∨ (i : Int) = lost) : othFrom lost there i = othFrom lost there (i + 1) := by
  unfold othFrom Go.Proofs.Ytfgpffocieegdaa.Sd.others; rw [shardsFrom_succ h]
  rcases hn with hn | hn
  · rw [hn]; rfl
  · split
    · rw [List.filter_append, List.filter_cons, if_neg (by simp [hn])]; rfl
    · rfl
theorem othFrom_take {lost : Int} {there : List Bool} {i : Nat} (h : i < there.length) (ht : there.getD i false = true) (hn : (i : Int) ≠ lost) : othFrom lost there i = (i : Int) :: othFrom lost there (i + 1) := by
  unfold othFrom Go.Proofs.Ytfgpffocieegdaa.Sd.others; rw [shardsFrom_succ h, if_pos ht, List.filter_append, List.filter_cons, if_pos (by simp [hn])]; rfl
theorem l11Search_ev {kind lost : Int} (hk : lkind kind = true) (hl : lshard lost = true) {there : List Bool} (h8 : there.length = 8) : ∀ (many : Nat) (fr : List Int) (at_ : Nat), many + fr.length ≤ 8 → (∀ x ∈ fr, lshard x = true) → at_ ≤ 8 → Evp (fun k => spec_l11Search.f k kind lost there fr (at_ : Int) (many : Int)) (· = sRes kind lost (Go.Proofs.Ytfgpffocieegdaa.PA.comb (sOk kind lost) (othFrom lost there at_) many fr)) := by
  intro many
  induction many with
  | zero =>
    intro fr at_ hl8 hfr hat; refine Evp.step (fun k => by rw [spec_l11Search.f]) (Evp.pos (by omega) ?_)
    refine Evp.bind (l11Plan_ev hk hl hfr (by omega)) fun t ht => Evp.some' ?_
    rw [Go.Proofs.Ytfgpffocieegdaa.PA.comb_zero, ht]
  | succ many ihm =>
    intro fr at_ hl8 hfr hat; refine Evp.step (fun k => by rw [spec_l11Search.f]) (Evp.neg (by omega) ?_)
    have key : ∀ (d i : Nat), i + d = 8 → Evp (fun k => spec_l11Search.l0 k kind lost there fr ((many + 1 : Nat) : Int) (i : Int)) (· = sRes kind lost (Go.Proofs.Ytfgpffocieegdaa.PA.comb (sOk kind lost) (othFrom lost there i) (many + 1) fr)) := by
      intro d
      induction d with
      | zero =>
        intro i hi; refine Evp.step (fun k => by rw [spec_l11Search.l0]) (Evp.neg (by omega) (Evp.some' ?_)); rw [othFrom_end (by omega), Go.Proofs.Ytfgpffocieegdaa.PA.comb_nil]; rfl
      | succ d ih =>
        intro i hi
        have hi1 : i < there.length := by omega
        have skip : (there.getD i false = false ∨ (i : Int) = lost) → Evp (fun k => spec_l11Search.j1 k kind lost there fr ((many + 1 : Nat) : Int) (i : Int) true) (· = sRes kind lost (Go.Proofs.Ytfgpffocieegdaa.PA.comb (sOk kind lost) (othFrom lost there i) (many + 1) fr)) := fun h => by
          refine Evp.step (fun k => by rw [spec_l11Search.j1]) (Evp.pos rfl ?_); rw [wrap_succ (by omega), othFrom_skip hi1 h]; exact ih (i + 1) (by omega)
        refine Evp.step (fun k => by rw [spec_l11Search.l0]) (Evp.pos (by omega) (Evp.pos (by omega) (Evp.pos (by omega) ?_))); rw [rdOf_nat]
        refine Evp.ite (fun ht => ?_) fun ht => skip (.inl (Bool.eq_false_iff.2 ht))
        by_cases he : (i : Int) = lost
        · rw [show ((i : Int) == lost) = true by simpa using he]
          exact skip (.inr he)
        · rw [show ((i : Int) == lost) = false by simpa using he]
          refine Evp.step (fun k => by rw [spec_l11Search.j1]) (Evp.neg (by simp) ?_); simp only [Option.bind_some, List.nil_append, List.length_nil, Nat.zero_add]; refine Evp.pos (by omega) (Evp.pos (by omega) ?_)
          have e1 : wrap64 (((many + 1 : Nat) : Int) - 1) = (many : Int) := by unfold wrap64; omega
          rw [wrap_succ (by omega), e1, othFrom_take hi1 ht he, Go.Proofs.Ytfgpffocieegdaa.PA.comb_cons]
          have hsi : lshard (i : Int) = true := by unfold lshard; simp; omega
          refine Evp.bind (ihm (fr ++ [(i : Int)]) (i + 1) (by simp; omega) (fun x hx => by rcases List.mem_append.1 hx with h | h; exact hfr x h; rw [List.mem_singleton.1 h]; exact hsi) (by omega)) fun t ht2 => ?_
          subst ht2
          cases hc : Go.Proofs.Ytfgpffocieegdaa.PA.comb (sOk kind lost) (othFrom lost there (i + 1)) many (fr ++ [(i : Int)]) with
          | some ys => exact Evp.pos rfl (Evp.some' rfl)
          | none => exact Evp.neg (by simp [sRes]) (ih (i + 1) (by omega))
    exact key (8 - at_) at_ (by omega)
theorem l11Of_ev {kind lost : Int} (hk : lkind kind = true) (hl : lshard lost = true) {there : List Bool} (h8 : there.length = 8) : Evp (fun k => spec_l11Of.f k kind lost there) (· = sRes kind lost (planS (sOk kind lost) (othFrom lost there 0) 4 1)) := by
  have key : ∀ (n m : Nat), m + n = 5 → Evp (fun k => spec_l11Of.l0 k kind lost there (m : Int)) (· = sRes kind lost (planS (sOk kind lost) (othFrom lost there 0) n m)) := by
    intro n
    induction n with
    | zero =>
      intro m hm; refine Evp.step (fun k => by rw [spec_l11Of.l0]) (Evp.neg (by omega) ?_); exact Evp.some' rfl
    | succ n ih =>
      intro m hm; refine Evp.step (fun k => by rw [spec_l11Of.l0]) (Evp.pos (by omega) ?_)
      refine Evp.bind (l11Search_ev hk hl h8 m [] 0 (by simp; omega) (by simp) (by omega)) fun t ht => ?_
      subst ht; rw [planS, wrap_succ (by omega)]
      cases hc : Go.Proofs.Ytfgpffocieegdaa.PA.comb (sOk kind lost) (othFrom lost there 0) m [] with
      | some ys => exact Evp.pos rfl (Evp.some' rfl)
      | none => exact Evp.neg (by simp [sRes]) (ih (m + 1) (by omega))
  unfold spec_l11Of.f; exact key 4 1 rfl
theorem shardsFrom_sub {there : List Bool} (h8 : there.length = 8) : ∀ d i : Nat, i + d = 8 → List.Sublist (shardsFrom there i) (shards8.drop i) := by
  intro d
  induction d with
  | zero => intro i hi; rw [shardsFrom_end (by omega)]; exact List.nil_sublist _
  | succ d ih =>
    intro i hi
    have e : shards8.drop i = (i : Int) :: shards8.drop (i + 1) := by
      rcases (show i = 0 ∨ i = 1 ∨ i = 2 ∨ i = 3 ∨ i = 4 ∨ i = 5 ∨ i = 6 ∨ i = 7 by omega) with rfl | rfl | rfl | rfl | rfl | rfl | rfl | rfl <;> rfl
    rw [shardsFrom_succ (by omega), e]
    split
    · exact (ih (i + 1) (by omega)).cons_cons _
    · exact (ih (i + 1) (by omega)).cons _
theorem lshards_sub {there : List Bool} (h8 : there.length = 8) : List.Sublist (lshards there) shards8 := shardsFrom_sub h8 8 0 rfl
theorem oth_ok {lost : Int} {there : List Bool} (h8 : there.length = 8) : Oth lost (Go.Proofs.Ytfgpffocieegdaa.Sd.others lost (lshards there)) :=
  ⟨List.filter_sublist.trans (lshards_sub h8), fun h => by have := (List.mem_filter.1 h).2; simp at this⟩
theorem shards8_ok : ∀ x ∈ shards8, lshard x = true := by decide
/-- the plan, as both have it -/
def lplanR (kind lost : Int) (there : List Bool) : Option (List Int) := planS (pOk kind lost) (Go.Proofs.Ytfgpffocieegdaa.Sd.others lost (lshards there)) 4 1
def lplan (kind lost : Int) (there : List Bool) : Int × List Int × List Int × Bool := if (lkind kind && lshard lost && decide (there.length = 8)) = true then planRes kind lost (lplanR kind lost there) else (0, [], [], false)
theorem res_same {kind lost : Int} (hk : lkind kind = true) (hl : lshard lost = true) {there : List Bool} (h8 : there.length = 8) : sRes kind lost (planS (sOk kind lost) (othFrom lost there 0) 4 1) = planRes kind lost (lplanR kind lost there) := by
  have ho := oth_ok (lost := lost) h8
  have e := plan_same hk hl ho 4 1 (by decide) (by decide) (.inl rfl)
  show sRes kind lost (planS (sOk kind lost) (Go.Proofs.Ytfgpffocieegdaa.Sd.others lost (lshards there)) 4 1) = _
  unfold lplanR; rw [e]
  cases hs : planS (sOk kind lost) (Go.Proofs.Ytfgpffocieegdaa.Sd.others lost (lshards there)) 4 1 with
  | none => rfl
  | some ys =>
    rw [hs] at e; obtain ⟨h1, h2, h3, h4⟩ := planS_some 4 1 ys e
    have := (tab_pOk hk hl (h1.trans ho.1) h2 (by omega) (fun h => ho.2 (h1.subset h)) h4).1
    simp [sRes, planRes, this]
theorem spec_PlanOf_ev {kind lost : Int} {there : List Bool} : Evp (fun k => spec_PlanOf.f k kind lost there) (· = lplan kind lost there) := by
  unfold spec_PlanOf.f lplan; rw [spec_l4Kind_eq, spec_l6In_shard]; simp only [Option.bind_some]
  refine Evp.ite (fun hk => ?_) fun hk => Evp.some' (by simp [hk])
  refine Evp.ite (fun hl => ?_) fun hl => Evp.some' (by simp [hl])
  refine Evp.ite (fun h => ?_) fun h => Evp.some' (by rw [if_neg]; simp; omega)
  have h8 : there.length = 8 := by omega
  refine Evp.bind (l11Of_ev hk hl h8) fun t ht => Evp.some' ?_
  rw [ht, if_pos (by simp [hk, hl, h8]), res_same hk hl h8]
theorem planOf_eq {kind lost : Int} (hk : lkind kind = true) (hl : lshard lost = true) {l : List Int} (hs : List.Sublist l shards8) : impl_planOf.f kind lost l = some (planRes kind lost (planS (pOk kind lost) (Go.Proofs.Ytfgpffocieegdaa.Sd.others lost l) 4 1)) := by
  unfold impl_planOf.f
  have h1 : l.all lshard = true := List.all_eq_true.2 fun x hx => shards8_ok x (hs.subset hx)
  have h2 : l.length ≤ 8 := hs.length_le; rw [if_pos]; rw [hk, hl, h1, decide_eq_true h2]; rfl
theorem shards_all : lshards (setB 255) = shards8 := by decide +kernel
/-- how many a plan takes when all others are there -/
def lnear (kind lost : Int) : Int := ((lplan kind lost (setB 255)).2.1.length : Int)
theorem spec_PlanNear_ev {kind lost : Int} : Evp (fun k => spec_PlanNear.f k kind lost) (· = lnear kind lost) := by
  unfold spec_PlanNear.f
  refine Evp.bind (l4Set_ev (by omega) (by omega)) fun t ht => ?_
  subst ht
  refine Evp.bind spec_PlanOf_ev fun t ht => ?_
  subst ht; exact Evp.some' rfl
theorem lplan_near {kind lost : Int} (hk : lkind kind = true) (hl : lshard lost = true) : lplan kind lost (setB 255) = planRes kind lost (planS (pOk kind lost) (Go.Proofs.Ytfgpffocieegdaa.Sd.others lost shards8) 4 1) := by
  unfold lplan lplanR; rw [shards_all, if_pos]; rw [hk, hl, setB_len]; rfl
theorem impl_PlanNear_ev {kind lost : Int} : Evp (fun k => impl_PlanNear.f k kind lost) (· = lnear kind lost) := by
  unfold impl_PlanNear.f; rw [impl_kindOk_eq, impl_shardOk_eq]; simp only [Option.bind_some]
  have no : ¬ (lkind kind = true ∧ lshard lost = true) → Evp (fun k => impl_PlanNear.j0 k kind lost true) (· = lnear kind lost) := fun h => by
    refine Evp.step (fun k => by rw [impl_PlanNear.j0]) (Evp.pos rfl (Evp.some' ?_)); unfold lnear lplan; rw [if_neg (fun hh => h (by simp only [Bool.and_eq_true] at hh; exact hh.1))]; rfl
  refine Evp.ite (fun hk => ?_) fun hk => no (fun h => hk h.1)
  by_cases hl : lshard lost = true
  · rw [hl]
    refine Evp.step (fun k => by rw [impl_PlanNear.j0]) (Evp.neg (by simp) ?_)
    refine Evp.bind everyShard_ev fun t ht => ?_
    subst ht; rw [planOf_eq hk hl (l := [0, 1, 2, 3, 4, 5, 6, 7]) (List.Sublist.refl _)]; refine Evp.some' ?_; unfold lnear; rw [lplan_near hk hl]; rfl
  · rw [Bool.eq_false_iff.2 hl]
    exact no (fun h => hl h.2)
theorem FnExactPlanNear : laws_FnExactPlanNear.Pure := by
  intro a b ha hb; refine Evp.rounds ?_; unfold laws_FnExactPlanNear.f
  refine Evp.bind spec_PlanNear_ev fun t ht => ?_
  subst ht
  refine Evp.bind impl_PlanNear_ev fun t ht => ?_
  subst ht; exact Evp.pos rfl (Evp.some' rfl)
end Go.Proofs.Ytfgpffocieegdaa.Pure
