import Derived.Test.YtamaejafddmagaaPAx0
import Derived.Test.YtamaejafddmagaaPAx13
import Derived.Test.YtamaejafddmagaaPAx8
import Derived.Test.YtamaejafddmagaaPAx9
import Derived.Test.YtamaejafddmagaaMa
import Derived.Test.YtamaejafddmagaaCodeLin
import Derived.OpenShut
/- Of the printed functions over single rows: what a walk by hand wants of them. -/
set_option linter.unusedVariables false
set_option linter.unusedSimpArgs false
namespace Go.Proofs.Ytamaejafddmagaa.Pure
open Go.RowKit Go.Proofs.Ytamaejafddmagaa.PA Go.Proofs.YtamaejafddmagaaW.PrintWords Go.Proofs.YtamaejafddmagaaW.PrintLast Go.Proofs.YtamaejafddmagaaW.PrintMore Go.Proofs.Ytamaejafddmagaa.Lin

def Evp {α : Type} (g : Nat → Option α) (Q : α → Prop) : Prop := ∃ r, Q r ∧ ∃ K, ∀ k, K ≤ k → g k = some r
theorem Evp.some' {α : Type} {r : α} {Q : α → Prop} (h : Q r) : Evp (fun _ => some r) Q := ⟨r, h, 0, fun _ _ => rfl⟩
theorem Evp.bind {α β : Type} {g : Nat → Option α} {f : Nat → α → Option β} {Q : α → Prop} {T : β → Prop} (h : Evp g Q) (k : ∀ r, Q r → Evp (fun n => f n r) T) : Evp (fun n => (g n).bind (f n)) T := by
  obtain ⟨r, hq, K, h⟩ := h
  obtain ⟨s, ht, K', k⟩ := k r hq
  refine ⟨s, ht, max K K', fun n hn => ?_⟩
  have h1 := h n (by omega)
  have h2 := k n (by omega)
  simp only [h1, Option.bind_some]
  exact h2
theorem Evp.step {α : Type} {g f : Nat → Option α} {Q : α → Prop} (h : ∀ k, g (k + 1) = f k) (k : Evp f Q) : Evp g Q := by
  obtain ⟨r, hq, K, k⟩ := k
  refine ⟨r, hq, K + 1, fun n hn => ?_⟩
  obtain ⟨m, rfl⟩ : ∃ m, n = m + 1 := ⟨n - 1, by omega⟩
  rw [h]
  exact k m (by omega)
theorem Evp.mono {α : Type} {g : Nat → Option α} {Q T : α → Prop} (h : Evp g Q) (k : ∀ r, Q r → T r) : Evp g T := by
  obtain ⟨r, hq, K, h⟩ := h
  exact ⟨r, k r hq, K, h⟩
theorem Evp.rounds {α : Type} {g : Nat → Option α} {r : α} (h : Evp g (· = r)) : ∃ k, g k = some r := by
  obtain ⟨s, rfl, K, h⟩ := h
  exact ⟨K, h K (Nat.le_refl _)⟩
theorem Evp.ite {α : Type} {c : Prop} [Decidable c] {g f : Nat → Option α} {Q : α → Prop} (h : c → Evp g Q) (k : ¬ c → Evp f Q) : Evp (fun n => if c then g n else f n) Q := by
  by_cases hc : c
  · simp only [if_pos hc]; exact h hc
  · simp only [if_neg hc]; exact k hc
theorem Evp.pos {α : Type} {c : Prop} [Decidable c] {g f : Nat → Option α} {Q : α → Prop} (hc : c) (h : Evp g Q) : Evp (fun n => if c then g n else f n) Q := by
  simp only [if_pos hc]; exact h
theorem Evp.neg {α : Type} {c : Prop} [Decidable c] {g f : Nat → Option α} {Q : α → Prop} (hc : ¬ c) (h : Evp f Q) : Evp (fun n => if c then g n else f n) Q := by
  simp only [if_neg hc]; exact h
theorem wrap_small {x : Int} (h : -9223372036854775808 ≤ x ∧ x ≤ 9223372036854775807) : wrap64 x = x := by unfold wrap64; omega
theorem tmod_pos {x n : Int} (h : 0 ≤ x) : Int.tmod x n = x % n := Int.tmod_eq_emod_of_nonneg h
theorem wrap_succ {i : Nat} (h : i ≤ 1000000000000000) : wrap64 ((i : Int) + 1) = ((i + 1 : Nat) : Int) := by rw [wrap_small (by omega)]; omega
theorem l3Tidy_eq {m : List (List Int)} (h : mok m = true) : spec_l3Tidy.f m = some (ltidy m) := by
  obtain ⟨h8, hr⟩ := mok_iff.1 h
  unfold spec_l3Tidy.f
  rw [if_pos ⟨by omega, by simpa using hr⟩]
theorem spec_l4Kind_eq (k : Int) : spec_l4Kind.f k = some (lkind k) := by
  unfold spec_l4Kind.f spec_l6In.f lkind
  by_cases h : k ≥ 1
  · rw [if_pos h]; simp [show (1 ≤ k) from h]
  · rw [if_neg h]; simp [show ¬ (1 ≤ k) from h]
theorem spec_l4Row_eq {k a : Int} (hk : lkind k = true) (ha : lshard a = true) : spec_l4Row.f k a = some (lrow k a) := by
  have k1 : ∀ a : Fin 8, spec_l4Row.f 1 (a.val : Int) = some (lrow 1 (a.val : Int)) := by decide +kernel
  have k2 : ∀ a : Fin 8, spec_l4Row.f 2 (a.val : Int) = some (lrow 2 (a.val : Int)) := by decide +kernel
  obtain ⟨x, rfl⟩ := lshard_fin ha
  rcases lkind_cases hk with rfl | rfl
  · exact k1 x
  · exact k2 x
theorem rdOf_nat (l : List Bool) (i : Nat) : rdOf false l (i : Int) = l.getD i false := by unfold rdOf; rw [Int.toNat_natCast]
/-- places of shards that are there, from i on -/
def shardsFrom (there : List Bool) (i : Nat) : List Int := ((List.range' i (there.length - i)).filter fun j => there.getD j false).map fun (j : Nat) => (j : Int)
def lshards (there : List Bool) : List Int := shardsFrom there 0
def lrows (kind : Int) (there : List Bool) : List (List Int) := (lshards there).map (lrow kind)
def lbears (kind : Int) (there : List Bool) : Bool := lkind kind && decide (there.length = 8) && decide ((ltidy (lrows kind there)).length = 4)
theorem shardsFrom_succ {there : List Bool} {i : Nat} (h : i < there.length) : shardsFrom there i = (if there.getD i false = true then [(i : Int)] else []) ++ shardsFrom there (i + 1) := by
  unfold shardsFrom
  rw [show there.length - i = (there.length - (i + 1)) + 1 by omega, List.range'_succ, List.filter_cons]
  split <;> simp
theorem shardsFrom_end {there : List Bool} {i : Nat} (h : there.length ≤ i) : shardsFrom there i = [] := by
  unfold shardsFrom; rw [show there.length - i = 0 by omega]; rfl
theorem mem_shards {there : List Bool} {x : Int} (h : x ∈ lshards there) : ∃ j : Nat, j < there.length ∧ x = (j : Int) ∧ there.getD j false = true := by
  unfold lshards shardsFrom at h
  obtain ⟨j, hj, rfl⟩ := List.mem_map.1 h
  obtain ⟨h1, h2⟩ := List.mem_filter.1 hj
  rw [List.mem_range'_1] at h1
  exact ⟨j, by omega, rfl, h2⟩
theorem lshards_len (there : List Bool) : (lshards there).length ≤ there.length := by
  unfold lshards shardsFrom
  rw [List.length_map]
  refine Nat.le_trans (List.length_filter_le _ _) ?_
  simp
theorem lrows_ok {kind : Int} (hk : lkind kind = true) {there : List Bool} (h8 : there.length = 8) : mok (lrows kind there) = true := by
  refine mok_iff.2 ⟨by unfold lrows; rw [List.length_map]; have := lshards_len there; omega, fun r hr => ?_⟩
  obtain ⟨x, hx, rfl⟩ := List.mem_map.1 hr
  obtain ⟨j, hj, rfl, _⟩ := mem_shards hx
  exact lrow_ok hk (lshard_nat (by omega))
theorem spec_l4Rows_ev {kind : Int} (hk : lkind kind = true) {there : List Bool} (h8 : there.length = 8) : Evp (fun k => spec_l4Rows.f k kind there) (· = lrows kind there) := by
  have key : ∀ (d i : Nat), i + d = 8 → ∀ out : List (List Int), out.length ≤ i → Evp (fun k => spec_l4Rows.l0 k kind there out (i : Int)) (· = out ++ (shardsFrom there i).map (lrow kind)) := by
    intro d
    induction d with
    | zero =>
      intro i hi out ho
      refine Evp.step (fun k => by rw [spec_l4Rows.l0]) (Evp.neg (by omega) (Evp.some' ?_))
      rw [shardsFrom_end (by omega), List.map_nil, List.append_nil]
    | succ d ih =>
      intro i hi out ho
      refine Evp.step (fun k => by rw [spec_l4Rows.l0]) (Evp.pos (by omega) (Evp.pos (by omega) (Evp.pos (by omega) ?_)))
      rw [rdOf_nat, shardsFrom_succ (by omega), wrap_succ (by omega)]
      refine Evp.ite (fun h => ?_) fun h => ?_
      · rw [if_pos h, spec_l4Row_eq hk (lshard_nat (by omega))]
        simp only [Option.bind_some]
        refine Evp.pos (by omega) ?_
        exact ((ih (i + 1) (by omega) (out ++ [lrow kind (i : Int)]) (by simp; omega))).mono fun r hr => by rw [hr]; simp
      · rw [if_neg h]
        exact (ih (i + 1) (by omega) out (by omega)).mono fun r hr => by rw [hr]; simp
  exact (key 8 0 (by omega) [] (by simp)).mono fun r hr => hr
theorem spec_CodeBears_ev {kind : Int} {there : List Bool} : Evp (fun k => spec_CodeBears.f k kind there) (· = lbears kind there) := by
  unfold spec_CodeBears.f lbears
  rw [spec_l4Kind_eq]
  simp only [Option.bind_some]
  refine Evp.ite (fun hk => ?_) fun hk => Evp.some' (by simp [hk])
  refine Evp.ite (fun h8 => ?_) fun h8 => Evp.some' (by simp; intro _ h; omega)
  have h8' : there.length = 8 := by omega
  refine Evp.bind (spec_l4Rows_ev hk h8') fun t ht => ?_
  subst ht
  rw [l3Tidy_eq (lrows_ok hk h8')]
  refine Evp.some' ?_
  rw [Bool.eq_iff_iff]; simp [hk, h8']; omega
/-- shards that are there, as a number's bits tell -/
def setB (n : Int) : List Bool := [n % 2 == 1, n / 2 % 2 == 1, n / 2 / 2 % 2 == 1, n / 2 / 2 / 2 % 2 == 1, n / 2 / 2 / 2 / 2 % 2 == 1, n / 2 / 2 / 2 / 2 / 2 % 2 == 1, n / 2 / 2 / 2 / 2 / 2 / 2 % 2 == 1, n / 2 / 2 / 2 / 2 / 2 / 2 / 2 % 2 == 1]
theorem l4Set_ev {n : Int} (h0 : 0 ≤ n) (h1 : n < 256) : Evp (fun k => spec_l4Set.f k n) (· = setB n) := by
  have st : ∀ (x : Int) (l : List Bool) (i : Int) (k : Nat), 0 ≤ x → x < 256 → 0 ≤ i → i < 8 → l.length = 8 → spec_l4Set.l0 (k + 1) x l i = spec_l4Set.l0 k (x / 2) (l.set i.toNat (x % 2 == 1)) (i + 1) := fun x l i k hx0 hx1 hi0 hi1 hl => by
    rw [spec_l4Set.l0, if_pos (by omega), if_pos hi0, Go.Proofs.Ytamaejafddmagaa.Pure.wrap_small (x := i + 1) (by omega), Int.tdiv_eq_ediv_of_nonneg hx0, tmod_pos hx0, Go.Proofs.Ytamaejafddmagaa.Pure.wrap_small (x := x / 2) (by omega)]
  refine ⟨setB n, rfl, 9, fun k hk => ?_⟩
  obtain ⟨j, rfl⟩ : ∃ j, k = j + 9 := ⟨k - 9, by omega⟩
  show spec_l4Set.f (j + 9) n = _
  unfold spec_l4Set.f
  rw [if_pos (by omega)]
  rw [st _ _ _ _ h0 h1 (by decide) (by decide) (by simp), st _ _ _ _ (by omega) (by omega) (by decide) (by decide) (by simp), st _ _ _ _ (by omega) (by omega) (by decide) (by decide) (by simp), st _ _ _ _ (by omega) (by omega) (by decide) (by decide) (by simp), st _ _ _ _ (by omega) (by omega) (by decide) (by decide) (by simp), st _ _ _ _ (by omega) (by omega) (by decide) (by decide) (by simp), st _ _ _ _ (by omega) (by omega) (by decide) (by decide) (by simp), st _ _ _ _ (by omega) (by omega) (by decide) (by decide) (by simp)]
  rw [spec_l4Set.l0, if_neg (by simp)]
  rfl
theorem setB_len (n : Int) : (setB n).length = 8 := rfl
theorem l4Many_ev {there : List Bool} (h8 : there.length ≤ 1000000) : Evp (fun k => spec_l4Many.f k there) (· = ((lshards there).length : Int)) := by
  have key : ∀ (d i : Nat) (n : Int), i + d = there.length → 0 ≤ n → n ≤ (i : Int) → Evp (fun k => spec_l4Many.l0 k there n (i : Int)) (· = n + ((shardsFrom there i).length : Int)) := by
    intro d
    induction d with
    | zero =>
      intro i n hi h0 hn
      refine Evp.step (fun k => by rw [spec_l4Many.l0]) (Evp.neg (by omega) (Evp.some' ?_))
      rw [shardsFrom_end (by omega)]; simp
    | succ d ih =>
      intro i n hi h0 hn
      have hi1 : i < there.length := by omega
      refine Evp.step (fun k => by rw [spec_l4Many.l0]) (Evp.pos (by omega) (Evp.pos (by omega) ?_))
      rw [rdOf_nat, wrap_succ (by omega), shardsFrom_succ hi1]
      refine Evp.ite (fun hc => ?_) fun hc => ?_
      · rw [Go.Proofs.Ytamaejafddmagaa.Pure.wrap_small (x := n + 1) (by omega), if_pos hc]
        exact (ih (i + 1) (n + 1) (by omega) (by omega) (by omega)).mono fun r hr => by rw [hr]; simp; omega
      · rw [if_neg hc]
        exact (ih (i + 1) n (by omega) h0 (by omega)).mono fun r hr => by rw [hr]; simp
  unfold spec_l4Many.f
  exact (key there.length 0 0 (by omega) (by omega) (by omega)).mono fun r hr => by rw [hr]; unfold lshards; simp
def stepMost (kind : Int) (m : Int) (n : Nat) : Int := if lbears kind (setB (n : Int)) = true then m else mn m (7 - ((lshards (setB (n : Int))).length : Int))
theorem most_1 : (List.range' 0 256).foldl (stepMost 1) 8 = 3 := by decide +kernel
theorem most_2 : (List.range' 0 256).foldl (stepMost 2) 8 = 4 := by decide +kernel
theorem stepMost_range {kind m : Int} {n : Nat} (h0 : -1 ≤ m) (h8 : m ≤ 8) : -1 ≤ stepMost kind m n ∧ stepMost kind m n ≤ 8 := by
  have := lshards_len (setB (n : Int))
  rw [setB_len] at this
  unfold stepMost mn
  split
  · omega
  · split <;> omega
theorem spec_CodeMost_ev {a0 : Int} : Evp (fun k => spec_CodeMost.f k a0) (· = if a0 = 1 then 3 else if a0 = 2 then 4 else -1) := by
  have key : ∀ (d i : Nat) (m : Int), i + d = 256 → -1 ≤ m → m ≤ 8 → Evp (fun k => spec_CodeMost.l0 k a0 m (i : Int)) (· = (List.range' i d).foldl (stepMost a0) m) := by
    intro d
    induction d with
    | zero =>
      intro i m hi h0 h1
      refine Evp.step (fun k => by rw [spec_CodeMost.l0]) (Evp.neg (by omega) (Evp.some' ?_))
      rfl
    | succ d ih =>
      intro i m hi h0 h1
      have hr := stepMost_range (kind := a0) (n := i) h0 h1
      have hl := lshards_len (setB (i : Int))
      rw [setB_len] at hl
      refine Evp.step (fun k => by rw [spec_CodeMost.l0]) (Evp.pos (by omega) ?_)
      refine Evp.bind (l4Set_ev (by omega) (by omega)) fun t ht => ?_
      subst ht
      refine Evp.bind spec_CodeBears_ev fun t ht => ?_
      subst ht
      rw [wrap_succ (by omega), List.range'_succ, List.foldl_cons]
      refine Evp.ite (fun hc => ?_) fun hc => ?_
      · have e : stepMost a0 m i = m := by unfold stepMost; rw [if_pos hc]
        rw [e]
        exact ih (i + 1) m (by omega) h0 h1
      · refine Evp.bind (l4Many_ev (by rw [setB_len]; omega)) fun t ht => ?_
        subst ht
        have e : stepMost a0 m i = mn m (7 - ((lshards (setB (i : Int))).length : Int)) := by unfold stepMost; rw [if_neg hc]
        rw [Go.Proofs.Ytamaejafddmagaa.Pure.wrap_small (x := 8 - ((lshards (setB (i : Int))).length : Int)) (by omega), Go.Proofs.Ytamaejafddmagaa.Pure.wrap_small (x := 8 - ((lshards (setB (i : Int))).length : Int) - 1) (by omega), show (8 : Int) - ((lshards (setB (i : Int))).length : Int) - 1 = 7 - ((lshards (setB (i : Int))).length : Int) by omega, ← e]
        exact ih (i + 1) _ (by omega) hr.1 hr.2
  unfold spec_CodeMost.f
  rw [spec_l4Kind_eq]
  simp only [Option.bind_some]
  refine Evp.ite (fun hk => ?_) fun hk => ?_
  · refine (key 256 0 8 (by omega) (by omega) (by omega)).mono fun r hr => ?_
    rcases lkind_cases hk with rfl | rfl
    · rw [hr, most_1]; rfl
    · rw [hr, most_2]; rfl
  · refine Evp.some' ?_
    have : a0 ≠ 1 ∧ a0 ≠ 2 := by unfold lkind at hk; simp at hk; omega
    rw [if_neg this.1, if_neg this.2]
theorem FnExactCodeMost : laws_FnExactCodeMost.Pure := by
  intro a0 ha
  refine Evp.rounds ?_
  unfold laws_FnExactCodeMost.f
  refine Evp.bind spec_CodeMost_ev fun t ht => ?_
  subst ht
  unfold impl_CodeMost.f
  simp only [Option.bind_some]
  exact Evp.pos (by first | rfl | trivial) (Evp.some' rfl)
end Go.Proofs.Ytamaejafddmagaa.Pure
