import Derived.Test.YtmnfkohdibgjeaaSpan
/- Plain mathematics: two ways to tidy rows, and that they come to the same. -/
set_option linter.unusedVariables false
set_option linter.unusedSimpArgs false
namespace Go.Proofs.Ytmnfkohdibgjeaa.Lin

/-! ### one way: row by row, tidy at each step -/
def insr (x : W) : List W → List W
  | [] => [x]
  | r :: R => if ld x < ld r then x :: (r :: R).map (less · x) else less r x :: insr x R
def adds (R : List W) (v : W) : List W := if ld (red R v) = 4 then R else insr (unitize (red R v)) R
def tidyS (m : List W) : List W := m.foldl adds []
theorem less_ld {r x : W} (h : r (ld x) = 0 ∨ ld r < ld x) (hx : ld x < 4) : ld (less r x) = ld r := by
  rcases h with h | h
  · have : less r x = r := by funext i; simp only [less, ax, h]; grind
    rw [this]
  · have hr := ld_at (show ld r < 4 by omega)
    refine ld_eq (by omega) ?_ (fun i hi => ?_)
    · rw [less_same (ld_before h)]; exact hr
    · rw [less_same (ld_before (by omega))]; exact ld_before hi
theorem insr_mem {x : W} {R : List W} {s : W} (h : s ∈ insr x R) : s = x ∨ ∃ r ∈ R, s = less r x := by
  induction R with
  | nil => simp [insr] at h; exact .inl h
  | cons r R ih =>
    unfold insr at h
    split at h
    · rcases List.mem_cons.1 h with h | h
      · exact .inl h
      · obtain ⟨a, ha, rfl⟩ := List.mem_map.1 h
        exact .inr ⟨a, ha, rfl⟩
    · rcases List.mem_cons.1 h with h | h
      · exact .inr ⟨r, by simp, h⟩
      · rcases ih h with h | ⟨a, ha, e⟩
        · exact .inl h
        · exact .inr ⟨a, by simp [ha], e⟩
theorem mem_insr_self (x : W) (R : List W) : x ∈ insr x R := by
  induction R with
  | nil => simp [insr]
  | cons r R ih => unfold insr; split <;> simp [ih]
theorem mem_insr (x : W) {R : List W} {r : W} (h : r ∈ R) : less r x ∈ insr x R := by
  induction R with
  | nil => cases h
  | cons s R ih =>
    unfold insr
    split
    · exact List.mem_cons_of_mem _ (List.mem_map_of_mem (f := (less · x)) h)
    · rcases List.mem_cons.1 h with rfl | h
      · simp
      · exact List.mem_cons_of_mem _ (ih h)
theorem insr_in {x : W} {R : List W} {v : W} : In (insr x R) v ↔ In (x :: R) v := by
  constructor
  · refine In.sub fun s hs => ?_
    rcases insr_mem hs with rfl | ⟨r, hr, rfl⟩
    · exact In.mem (by simp)
    · exact Sp.axpy (In.mem (by simp [hr])) (In.mem (by simp)) _
  · refine In.sub fun s hs => ?_
    rcases List.mem_cons.1 hs with rfl | hs
    · exact In.mem (mem_insr_self _ _)
    · have h1 : In (insr x R) (less s x) := In.mem (mem_insr x hs)
      have h2 : s = ax (less s x) (s (ld x)) x := by funext i; simp only [less, ax]; grind
      rw [h2]; exact Sp.axpy h1 (In.mem (mem_insr_self _ _)) _
theorem insr_ld {x : W} {R : List W} (hx : ld x < 4) (hz : ∀ r ∈ R, x (ld r) = 0) (h : Rref R) (hne : ∀ r ∈ R, ld r ≠ ld x) :
    (insr x R).map ld = (R.map ld).filter (· < ld x) ++ ld x :: (R.map ld).filter (ld x < ·) := by
  induction R with
  | nil => simp [insr]
  | cons r R ih =>
    have hR : Rref R := ⟨fun x hx => h.one x (by simp [hx]), fun x hx y hy => h.off x (by simp [hx]) y (by simp [hy]), (by have := h.asc; rw [List.map_cons, List.pairwise_cons] at this; exact this.2), fun x hx => h.four x (by simp [hx])⟩
    have hlt : ∀ s ∈ R, ld r < ld s := fun s hs => by
      have := h.asc; rw [List.map_cons, List.pairwise_cons] at this
      exact this.1 _ (List.mem_map_of_mem hs)
    have hlr : ∀ s ∈ r :: R, ld (less s x) = ld s := fun s hs => by
      have hne' := hne s hs
      rcases Nat.lt_or_ge (ld s) (ld x) with h1 | h1
      · exact less_ld (.inr h1) hx
      · exact less_ld (.inl (ld_before (by omega))) hx
    unfold insr
    split
    · rename_i hlt2
      have e1 : ((r :: R).map ld).filter (· < ld x) = [] := by
        rw [List.filter_eq_nil_iff]; intro p hp
        obtain ⟨s, hs, rfl⟩ := List.mem_map.1 hp
        rcases List.mem_cons.1 hs with rfl | hs
        · simp; omega
        · have := hlt s hs; simp; omega
      have e2 : ((r :: R).map ld).filter (ld x < ·) = (r :: R).map ld := by
        rw [List.filter_eq_self]; intro p hp
        obtain ⟨s, hs, rfl⟩ := List.mem_map.1 hp
        rcases List.mem_cons.1 hs with rfl | hs
        · simp; omega
        · have := hlt s hs; simp; omega
      rw [e1, e2, List.map_cons, List.map_map, List.nil_append]
      congr 1
      exact List.map_congr_left hlr
    · rename_i hge
      have hr : ld r < ld x := by have := hne r (by simp); omega
      rw [List.map_cons, ih (fun s hs => hz s (by simp [hs])) hR (fun s hs => hne s (by simp [hs])), hlr r (by simp)]
      rw [List.map_cons, List.filter_cons_of_pos (by simp; omega), List.filter_cons_of_neg (by simp; omega)]
      rfl
theorem adds_rref {R : List W} (h : Rref R) {v : W} (hv : four v) : Rref (adds R v) ∧ (∀ x, In (adds R v) x ↔ In (v :: R) x) := by
  unfold adds
  split
  · rename_i hl
    refine ⟨h, fun x => ⟨In.le fun r hr => by simp [hr], In.sub fun s hs => ?_⟩⟩
    rcases List.mem_cons.1 hs with rfl | hs
    · exact (in_iff_red h.ech h.four hv).2 hl
    · exact In.mem hs
  · rename_i hl
    have hlt : ld (red R v) < 4 := by have := ld_le (red R v); omega
    have hu : ld (unitize (red R v)) < 4 := by rw [unitize_ld]; exact hlt
    have h1 : unitize (red R v) (ld (unitize (red R v))) = 1 := unitize_one hlt
    have hz : ∀ r ∈ R, unitize (red R v) (ld r) = 0 := fun r hr => by simp only [unitize, red_at h.ech v r hr]; grind
    have hf : four (unitize (red R v)) := unitize_four (red_four h.four hv)
    have hin : ∀ y, In (unitize (red R v) :: R) y ↔ In (v :: R) y := fun y => by
      constructor
      · refine In.sub fun s hs => ?_
        rcases List.mem_cons.1 hs with rfl | hs
        · exact unitize_in (red_span (fun r hr => In.mem (by simp [hr])) (In.mem (by simp)))
        · exact In.mem (by simp [hs])
      · refine In.sub fun s hs => ?_
        rcases List.mem_cons.1 hs with rfl | hs
        · exact red_back (R := R) (fun r hr => In.mem (by simp [hr])) (unitize_back hlt (In.mem (by simp)))
        · exact In.mem (by simp [hs])
    generalize unitize (red R v) = x at *
    have hne : ∀ r ∈ R, ld r ≠ ld x := fun r hr e => by
      have := hz r hr; rw [e, h1] at this; exact absurd this (by decide)
    have hlr : ∀ s ∈ R, ld (less s x) = ld s := fun s hs => by
      rcases Nat.lt_or_ge (ld s) (ld x) with a | a
      · exact less_ld (.inr a) hu
      · exact less_ld (.inl (ld_before (by have := hne s hs; omega))) hu
    refine ⟨⟨?_, ?_, ?_, ?_⟩, fun y => insr_in.trans (hin y)⟩
    · intro s hs
      rcases insr_mem hs with rfl | ⟨r, hr, rfl⟩
      · exact ⟨hu, h1⟩
      · rw [hlr r hr]
        exact ⟨(h.one r hr).1, by rw [less_same (hz r hr)]; exact (h.one r hr).2⟩
    · intro s hs t ht hst
      rcases insr_mem hs with rfl | ⟨r, hr, rfl⟩
      · rcases insr_mem ht with rfl | ⟨q, hq, rfl⟩
        · exact absurd rfl hst
        · exact less_at q s h1
      · rw [hlr r hr] at hst ⊢
        rcases insr_mem ht with rfl | ⟨q, hq, rfl⟩
        · exact hz r hr
        · rw [hlr q hq] at hst
          rw [less_same (hz r hr)]
          exact h.off r hr q hq hst
    · rw [insr_ld hu hz h hne, List.pairwise_append]
      refine ⟨h.asc.filter _, ?_, ?_⟩
      · rw [List.pairwise_cons]
        exact ⟨fun a ha => by simpa using (List.mem_filter.1 ha).2, h.asc.filter _⟩
      · intro a ha b hb
        have ha := (List.mem_filter.1 ha).2
        rcases List.mem_cons.1 hb with rfl | hb
        · simpa using ha
        · have hb := (List.mem_filter.1 hb).2
          simp at ha hb; omega
    · intro s hs
      rcases insr_mem hs with rfl | ⟨r, hr, rfl⟩
      · exact hf
      · exact four_ax (h.four r hr) hf _
theorem Rref.nil : Rref [] := ⟨by simp, by simp, by simp, by simp⟩
theorem tidyS_from {m : List W} (hm : ∀ r ∈ m, four r) : ∀ {R : List W}, Rref R → Rref (m.foldl adds R) ∧ ∀ x, In (m.foldl adds R) x ↔ In (m ++ R) x := by
  induction m with
  | nil => intro R h; exact ⟨h, fun x => Iff.rfl⟩
  | cons v m ih =>
    intro R h
    obtain ⟨a, b⟩ := adds_rref h (hm v (by simp))
    obtain ⟨c, d⟩ := ih (fun r hr => hm r (by simp [hr])) a
    refine ⟨c, fun x => (d x).trans ?_⟩
    constructor
    · refine In.sub fun s hs => ?_
      rcases List.mem_append.1 hs with hs | hs
      · exact In.mem (by simp [hs])
      · exact In.le (fun q hq => by rcases List.mem_cons.1 hq with rfl | hq <;> simp [*]) ((b s).1 (In.mem hs))
    · refine In.sub fun s hs => ?_
      have key : ∀ q, In (v :: R) q → In (m ++ adds R v) q := fun q hq => In.le (fun y hy => List.mem_append_right _ hy) ((b q).2 hq)
      rcases List.mem_append.1 hs with hs | hs
      · rcases List.mem_cons.1 hs with rfl | hs
        · exact key _ (In.mem (by simp))
        · exact In.mem (by simp [hs])
      · exact key _ (In.mem (by simp [hs]))
theorem tidyS_rref {m : List W} (hm : ∀ r ∈ m, four r) : Rref (tidyS m) := (tidyS_from hm Rref.nil).1
theorem tidyS_in {m : List W} (hm : ∀ r ∈ m, four r) (x : W) : In (tidyS m) x ↔ In m x := by
  have := (tidyS_from hm Rref.nil).2 x
  rwa [List.append_nil] at this

/-! ### the other way: forward, then back, then in order -/
def push (R : List W) (v : W) : List W := if ld (red R v) = 4 then R else R ++ [unitize (red R v)]
def fwd (m : List W) : List W := m.foldl push []
theorem push_ech {R : List W} (h : Ech R) (hf : ∀ r ∈ R, four r) {v : W} (hv : four v) : Ech (push R v) ∧ (∀ r ∈ push R v, four r) ∧ (∀ x, In (push R v) x ↔ In (v :: R) x) := by
  unfold push
  split
  · rename_i hl
    refine ⟨h, hf, fun x => ⟨In.le fun r hr => by simp [hr], In.sub fun s hs => ?_⟩⟩
    rcases List.mem_cons.1 hs with rfl | hs
    · exact (in_iff_red h hf hv).2 hl
    · exact In.mem hs
  · rename_i hl
    have hlt : ld (red R v) < 4 := by have := ld_le (red R v); omega
    refine ⟨h.push v hlt, ?_, fun x => ⟨In.sub fun s hs => ?_, In.sub fun s hs => ?_⟩⟩
    · intro r hr
      rcases List.mem_append.1 hr with hr | hr
      · exact hf r hr
      · simp at hr; subst hr; exact unitize_four (red_four hf hv)
    · rcases List.mem_append.1 hs with hs | hs
      · exact In.mem (by simp [hs])
      · simp at hs; subst hs
        exact unitize_in (red_span (fun r hr => In.mem (by simp [hr])) (In.mem (by simp)))
    · rcases List.mem_cons.1 hs with rfl | hs
      · exact red_back (R := R) (fun r hr => In.mem (by simp [hr])) (unitize_back hlt (In.mem (by simp)))
      · exact In.mem (by simp [hs])
theorem fwd_from {m : List W} (hm : ∀ r ∈ m, four r) : ∀ {R : List W}, Ech R → (∀ r ∈ R, four r) → Ech (m.foldl push R) ∧ (∀ r ∈ m.foldl push R, four r) ∧ ∀ x, In (m.foldl push R) x ↔ In (m ++ R) x := by
  induction m with
  | nil => intro R h hf; exact ⟨h, hf, fun x => Iff.rfl⟩
  | cons v m ih =>
    intro R h hf
    obtain ⟨a, a2, b⟩ := push_ech h hf (hm v (by simp))
    obtain ⟨c, c2, d⟩ := ih (fun r hr => hm r (by simp [hr])) a a2
    refine ⟨c, c2, fun x => (d x).trans ?_⟩
    constructor
    · refine In.sub fun s hs => ?_
      rcases List.mem_append.1 hs with hs | hs
      · exact In.mem (by simp [hs])
      · exact In.le (fun q hq => by rcases List.mem_cons.1 hq with rfl | hq <;> simp [*]) ((b s).1 (In.mem hs))
    · refine In.sub fun s hs => ?_
      have key : ∀ q, In (v :: R) q → In (m ++ push R v) q := fun q hq => In.le (fun y hy => List.mem_append_right _ hy) ((b q).2 hq)
      rcases List.mem_append.1 hs with hs | hs
      · rcases List.mem_cons.1 hs with rfl | hs
        · exact key _ (In.mem (by simp))
        · exact In.mem (by simp [hs])
      · exact key _ (In.mem (by simp [hs]))
theorem fwd_ech {m : List W} (hm : ∀ r ∈ m, four r) : Ech (fwd m) := (fwd_from (R := []) hm (show Ech [] from trivial) (by simp)).1
theorem fwd_four {m : List W} (hm : ∀ r ∈ m, four r) : ∀ r ∈ fwd m, four r := (fwd_from (R := []) hm (show Ech [] from trivial) (by simp)).2.1
theorem fwd_in {m : List W} (hm : ∀ r ∈ m, four r) (x : W) : In (fwd m) x ↔ In m x := by
  have := (fwd_from (R := []) hm (show Ech [] from trivial) (by simp)).2.2 x
  rwa [List.append_nil] at this
/-- one step back: row i out of all others -/
def elim (i : Nat) (R : List W) : List W := R.mapIdx fun j r => if j = i then r else less r (R.getD i zz)
def elims (n : Nat) (R : List W) : List W := (List.range n).foldl (fun R i => elim i R) R
theorem elim_len (i : Nat) (R : List W) : (elim i R).length = R.length := by simp [elim]
theorem elim_get (i : Nat) (R : List W) (j : Nat) (hj : j < R.length) : (elim i R)[j]'(by rw [elim_len]; exact hj) = if j = i then R[j] else less R[j] (R.getD i zz) := by
  simp [elim]
theorem elims_succ (n : Nat) (R : List W) : elims (n + 1) R = elim n (elims n R) := by simp [elims, List.range_succ]
structure Back (R0 R : List W) (i : Nat) : Prop where
  len : R.length = R0.length
  lead : ∀ j (h : j < R.length), ld R[j] = ld (R0.getD j zz)
  one : ∀ j (h : j < R.length), R[j] (ld R[j]) = 1
  off : ∀ k j (hk : k < R.length) (hj : j < R.length), k < i → j ≠ k → R[j] (ld R[k]) = 0
  four : ∀ r ∈ R, four r
  span : ∀ x, In R x ↔ In R0 x
theorem Ech.apart {R : List W} (h : Ech R) : (R.map ld).Nodup := by
  induction R with
  | nil => simp
  | cons r R ih =>
    obtain ⟨h1, h2, h3, h4⟩ := h
    rw [List.map_cons, List.nodup_cons]
    refine ⟨fun hm => ?_, ih h4⟩
    obtain ⟨s, hs, e⟩ := List.mem_map.1 hm
    have a := h3 s hs
    rw [← e, (h4.one s hs).2] at a
    exact absurd a (by decide)
theorem Back.step {R0 R : List W} {i : Nat} (h0 : Ech R0) (h : Back R0 R i) (hi : i < R.length) : Back R0 (elim i R) (i + 1) := by
  have hlen := elim_len i R
  have hRi : R.getD i zz = R[i] := by simp [List.getD_eq_getElem?_getD, List.getElem?_eq_getElem hi]
  have h4 : ∀ j (hj : j < R.length), ld R[j] < 4 := fun j hj => by
    rcases Nat.lt_or_ge (ld R[j]) 4 with a | a
    · exact a
    · have e4 : ld R[j] = 4 := by have := ld_le R[j]; omega
      have := h.one j hj
      rw [e4, h.four R[j] (List.getElem_mem hj) 4 (by omega)] at this
      exact absurd this (by decide)
  have hne : ∀ j (hj : j < R.length), j ≠ i → ld R[j] ≠ ld R[i] := fun j hj hji e => by
    have hnd := h0.apart
    have hnd := List.pairwise_iff_getElem.1 (show (R0.map ld).Pairwise (· ≠ ·) from hnd)
    have hl := h.len
    have g : ∀ k (hk : k < R.length) (hk2 : k < (R0.map ld).length), (R0.map ld)[k] = ld R[k] := fun k hk hk2 => by
      rw [h.lead k hk]
      simp [List.getD_eq_getElem?_getD, List.getElem?_eq_getElem (show k < R0.length by omega)]
    have l1 : j < (R0.map ld).length := by simp; omega
    have l2 : i < (R0.map ld).length := by simp; omega
    rcases Nat.lt_or_ge j i with hlt | hge
    · exact hnd j i l1 l2 hlt (by rw [g j hj, g i hi, e])
    · exact hnd i j l2 l1 (by omega) (by rw [g j hj, g i hi, e])
  have hld : ∀ j (hj : j < R.length), ld ((elim i R)[j]'(by rw [hlen]; exact hj)) = ld R[j] := fun j hj => by
    rw [elim_get i R j hj]
    split
    · rfl
    · rename_i hji
      rw [hRi]
      rcases Nat.lt_or_ge (ld R[j]) (ld R[i]) with a | a
      · exact less_ld (.inr a) (h4 i hi)
      · exact less_ld (.inl (ld_before (by have := hne j hj hji; omega))) (h4 i hi)
  refine ⟨by rw [hlen, h.len], fun j hj => ?_, fun j hj => ?_, fun k j hk hj hki hjk => ?_, fun r hr => ?_, fun x => ?_⟩
  · rw [hlen] at hj; rw [hld j hj]; exact h.lead j hj
  · rw [hlen] at hj; rw [hld j hj, elim_get i R j hj]
    split
    · exact h.one j hj
    · rename_i hji
      rw [hRi]
      by_cases hlt : ld R[j] < ld R[i]
      · rw [less_same (ld_before hlt)]; exact h.one j hj
      · have : R[j] (ld R[i]) = 0 := ld_before (by have := hne j hj hji; omega)
        have e : less R[j] R[i] = R[j] := by funext q; simp only [less, ax, this]; grind
        rw [e]; exact h.one j hj
  · rw [hlen] at hk hj; rw [hld k hk, elim_get i R j hj]
    by_cases hki2 : k = i
    · subst hki2
      rw [if_neg hjk, hRi]
      exact less_at R[j] R[k] (h.one k hi)
    · split
      · rename_i e; subst e; exact h.off k j (by rw [hlen] at hk; exact hk) (by rw [hlen] at hj; exact hj) (by omega) hjk
      · rw [hRi]; exact less_keep (h.off k j hk hj (by omega) hjk) (h.off k i hk hi (by omega) (by omega))
  · obtain ⟨j, hj, rfl⟩ := List.mem_iff_getElem.1 hr
    rw [hlen] at hj; rw [elim_get i R j hj]
    split
    · exact h.four _ (List.getElem_mem hj)
    · rw [hRi]; exact four_ax (h.four _ (List.getElem_mem hj)) (h.four _ (List.getElem_mem hi)) _
  · refine Iff.trans ⟨In.sub fun s hs => ?_, In.sub fun s hs => ?_⟩ (h.span x)
    · obtain ⟨j, hj, rfl⟩ := List.mem_iff_getElem.1 hs
      rw [hlen] at hj; rw [elim_get i R j hj]
      split
      · exact In.mem (List.getElem_mem hj)
      · rw [hRi]; exact Sp.axpy (In.mem (List.getElem_mem hj)) (In.mem (List.getElem_mem hi)) _
    · obtain ⟨j, hj, rfl⟩ := List.mem_iff_getElem.1 hs
      have mi : In (elim i R) R[i] := by
        have := elim_get i R i hi
        rw [if_pos rfl] at this
        rw [← this]; exact In.mem (List.getElem_mem _)
      by_cases hji : j = i
      · subst hji; exact mi
      · have mj : In (elim i R) (less R[j] R[i]) := by
          have := elim_get i R j hj
          rw [if_neg hji, hRi] at this
          rw [← this]; exact In.mem (List.getElem_mem _)
        have e : R[j] = ax (less R[j] R[i]) (R[j] (ld R[i])) R[i] := by funext q; simp only [less, ax]; grind
        rw [e]; exact Sp.axpy mj mi _
theorem Back.start {R : List W} (h : Ech R) (hf : ∀ r ∈ R, Lin.four r) : Back R R 0 :=
  ⟨rfl, fun j hj => by simp [List.getD_eq_getElem?_getD, List.getElem?_eq_getElem hj], fun j hj => (h.one _ (List.getElem_mem hj)).2, fun _ _ _ _ h => absurd h (Nat.not_lt_zero _), hf, fun _ => Iff.rfl⟩
theorem elims_back {R : List W} (h : Ech R) (hf : ∀ r ∈ R, Lin.four r) : ∀ n, n ≤ R.length → Back R (elims n R) n := by
  intro n
  induction n with
  | zero => intro _; exact Back.start h hf
  | succ n ih =>
    intro hn
    rw [elims_succ]
    have b := ih (by omega)
    exact b.step h (by rw [b.len]; omega)
/-- THE TWO WAYS COME TO THE SAME -/
theorem back_tidy {m : List W} (hm : ∀ r ∈ m, four r) {L : List W} (hp : L.Perm (elims (fwd m).length (fwd m))) (hs : (L.map ld).Pairwise (· ≤ ·)) : L = tidyS m := by
  have he := fwd_ech hm
  have hb := elims_back he (fwd_four hm) (fwd m).length (Nat.le_refl _)
  generalize elims (fwd m).length (fwd m) = E at *
  have hmap : E.map ld = (fwd m).map ld := by
    apply List.ext_getElem (by simp [hb.len])
    intro j h1 h2
    simp at h1 h2
    have := hb.lead j h1
    simp only [List.getElem_map, this, List.getD_eq_getElem?_getD, List.getElem?_eq_getElem h2, Option.getD_some]
  have hnd : (L.map ld).Nodup := by
    rw [(hp.map ld).nodup_iff, hmap]; exact he.apart
  have hmem : ∀ r, r ∈ L ↔ r ∈ E := fun r => hp.mem_iff
  have h4 : ∀ r ∈ E, ld r < 4 ∧ r (ld r) = 1 := fun r hr => by
    obtain ⟨j, hj, rfl⟩ := List.mem_iff_getElem.1 hr
    refine ⟨?_, hb.one j hj⟩
    have hm1 : ld E[j] ∈ (fwd m).map ld := hmap ▸ List.mem_map_of_mem hr
    obtain ⟨s, hs1, e⟩ := List.mem_map.1 hm1
    rw [← e]; exact (he.one s hs1).1
  have hr : Rref L := by
    refine ⟨fun r hr => h4 r ((hmem r).1 hr), fun r hr s hs2 hne => ?_, ?_, fun r hr => hb.four r ((hmem r).1 hr)⟩
    · obtain ⟨k, hk, rfl⟩ := List.mem_iff_getElem.1 ((hmem r).1 hr)
      obtain ⟨j, hj, rfl⟩ := List.mem_iff_getElem.1 ((hmem s).1 hs2)
      exact hb.off k j hk hj (by rw [hb.len] at hk; exact hk) (fun e => hne (by subst e; rfl))
    · have := hs.and hnd
      exact this.imp fun h => Nat.lt_of_le_of_ne h.1 h.2
  refine hr.unique (tidyS_rref hm) fun x => ?_
  rw [tidyS_in hm, ← fwd_in hm, ← hb.span]
  exact ⟨In.le fun r hr => (hmem r).1 hr, In.le fun r hr => (hmem r).2 hr⟩
theorem tidy_len {m : List W} (hm : ∀ r ∈ m, four r) : (tidyS m).length = (fwd m).length := by
  have hb := elims_back (fwd_ech hm) (fwd_four hm) (fwd m).length (Nat.le_refl _)
  have hp := List.mergeSort_perm (elims (fwd m).length (fwd m)) (fun a b => decide (ld a ≤ ld b))
  have hs : (((elims (fwd m).length (fwd m)).mergeSort (fun a b => decide (ld a ≤ ld b))).map ld).Pairwise (· ≤ ·) := by
    rw [List.pairwise_map]
    have := List.pairwise_mergeSort (le := fun a b => decide (ld a ≤ ld b)) (fun a b c h1 h2 => by simp at *; omega) (fun a b => by simp; omega) (elims (fwd m).length (fwd m))
    exact this.imp fun h => by simpa using h
  rw [← back_tidy hm hp hs, hp.length_eq, hb.len]
end Go.Proofs.Ytmnfkohdibgjeaa.Lin
