import Derived.Test.YtmnfkohdibgjeaaLin
/- Plain mathematics: rows as functions of a place, what is made of rows, rows that begin one behind the other. -/
set_option linter.unusedVariables false
set_option linter.unusedSimpArgs false
namespace Go.Proofs.Ytmnfkohdibgjeaa.Lin

abbrev W := Nat → F
/-- x and so many times y -/
def ax (x : W) (c : F) (y : W) : W := fun i => x i + c * y i
def zz : W := fun _ => 0
/-- what is made of rows -/
inductive Sp (S : W → Prop) : W → Prop
  | zero : Sp S zz
  | step {v r : W} : Sp S v → S r → ∀ c : F, Sp S (ax v c r)
theorem Sp.of {S : W → Prop} {r : W} (h : S r) : Sp S r := by
  have := Sp.step Sp.zero h 1
  have e : ax zz 1 r = r := by funext i; simp only [ax, zz]; grind
  rwa [e] at this
theorem Sp.axpy {S : W → Prop} {u v : W} (hu : Sp S u) (hv : Sp S v) (c : F) : Sp S (ax u c v) := by
  induction hv with
  | zero => have e : ax u c zz = u := by funext i; simp only [ax, zz]; grind
            rwa [e]
  | @step v r _ hr d ih =>
    have e : ax u c (ax v d r) = ax (ax u c v) (c * d) r := by funext i; simp only [ax]; grind
    rw [e]; exact Sp.step ih hr _
theorem Sp.trans {S T : W → Prop} {v : W} (h : ∀ r, S r → Sp T r) (hv : Sp S v) : Sp T v := by
  induction hv with
  | zero => exact Sp.zero
  | step _ hr c ih => exact Sp.axpy ih (h _ hr) c
theorem Sp.mono {S T : W → Prop} {v : W} (h : ∀ r, S r → T r) (hv : Sp S v) : Sp T v := Sp.trans (fun r hr => Sp.of (h r hr)) hv
theorem Sp.sc {S : W → Prop} {v : W} (hv : Sp S v) (c : F) : Sp S (fun i => c * v i) := by
  have := Sp.axpy (Sp.zero) hv c
  have e : ax zz c v = fun i => c * v i := by funext i; simp only [ax, zz]; grind
  rwa [e] at this
/-- a linear condition that holds of the rows holds of what is made of them -/
theorem Sp.lin {S : W → Prop} {v : W} (p : W → F) (h0 : p zz = 0) (hl : ∀ x c y, p (ax x c y) = p x + c * p y) (h : ∀ r, S r → p r = 0) (hv : Sp S v) : p v = 0 := by
  induction hv with
  | zero => exact h0
  | step _ hr c ih => rw [hl, ih, h _ hr]; grind
theorem Sp.at {S : W → Prop} {v : W} (i : Nat) (h : ∀ r, S r → r i = 0) (hv : Sp S v) : v i = 0 :=
  Sp.lin (fun x => x i) rfl (fun _ _ _ => rfl) h hv
abbrev In (R : List W) : W → Prop := Sp (· ∈ R)
theorem In.nil {v : W} (h : In [] v) : v = zz := by
  induction h with
  | zero => rfl
  | step _ hr _ _ => cases hr
/-- one row aside -/
theorem In.cons {r : W} {R : List W} {v : W} (h : In (r :: R) v) : ∃ (c : F) (u : W), In R u ∧ v = ax u c r := by
  induction h with
  | zero => exact ⟨0, zz, Sp.zero, by funext i; simp only [ax, zz]; grind⟩
  | @step v s _ hs d ih =>
    obtain ⟨c, u, hu, rfl⟩ := ih
    rcases List.mem_cons.1 hs with rfl | hs
    · exact ⟨c + d, u, hu, by funext i; simp only [ax]; grind⟩
    · exact ⟨c, ax u d s, Sp.step hu hs d, by funext i; simp only [ax]; grind⟩
theorem In.sub {R R' : List W} {v : W} (h : ∀ r ∈ R, In R' r) (hv : In R v) : In R' v := Sp.trans h hv
theorem In.mem {R : List W} {r : W} (h : r ∈ R) : In R r := Sp.of h
theorem In.le {R R' : List W} {v : W} (h : ∀ r ∈ R, r ∈ R') (hv : In R v) : In R' v := Sp.mono h hv

/-! ### where a row begins, among the first four places; 4: nowhere -/
def ld (x : W) : Nat := if x 0 ≠ 0 then 0 else if x 1 ≠ 0 then 1 else if x 2 ≠ 0 then 2 else if x 3 ≠ 0 then 3 else 4
theorem ld_le (x : W) : ld x ≤ 4 := by unfold ld; repeat (first | split | omega)
theorem ld_at {x : W} (h : ld x < 4) : x (ld x) ≠ 0 := by
  unfold ld at *
  by_cases h0 : x 0 = 0
  · by_cases h1 : x 1 = 0
    · by_cases h2 : x 2 = 0
      · by_cases h3 : x 3 = 0
        · simp [h0, h1, h2, h3] at h
        · simp [h0, h1, h2, h3]
      · simp [h0, h1, h2]
    · simp [h0, h1]
  · simp [h0]
theorem ld_before {x : W} {i : Nat} (h : i < ld x) : x i = 0 := by
  have h4 : i < 4 := by have := ld_le x; omega
  unfold ld at h
  by_cases h0 : x 0 = 0
  · by_cases h1 : x 1 = 0
    · by_cases h2 : x 2 = 0
      · by_cases h3 : x 3 = 0
        · match i, h4 with
          | 0, _ => exact h0
          | 1, _ => exact h1
          | 2, _ => exact h2
          | 3, _ => exact h3
        · simp [h0, h1, h2, h3] at h
          match i, h with
          | 0, _ => exact h0
          | 1, _ => exact h1
          | 2, _ => exact h2
      · simp [h0, h1, h2] at h
        match i, h with
        | 0, _ => exact h0
        | 1, _ => exact h1
    · simp [h0, h1] at h
      match i, h with
      | 0, _ => exact h0
  · simp [h0] at h
theorem ld_eq {x : W} {p : Nat} (hp : p < 4) (h : x p ≠ 0) (hb : ∀ i, i < p → x i = 0) : ld x = p := by
  have h1 : ld x ≤ p := by
    rcases Nat.lt_or_ge p (ld x) with hlt | hge
    · exact absurd (ld_before hlt) h
    · exact hge
  rcases Nat.lt_or_ge (ld x) p with hlt | hge
  · exact absurd (hb _ hlt) (ld_at (by omega))
  · omega
theorem ld_four {x : W} (h : ∀ i, i < 4 → x i = 0) : ld x = 4 := by
  unfold ld; simp [h 0, h 1, h 2, h 3]
theorem ld_four_iff {x : W} : ld x = 4 ↔ ∀ i, i < 4 → x i = 0 := by
  constructor
  · intro h i hi; exact ld_before (by omega)
  · exact ld_four
theorem ld_congr {x y : W} (h : ∀ i, i < 4 → x i = y i) : ld x = ld y := by
  unfold ld; simp only [h 0 (by omega), h 1 (by omega), h 2 (by omega), h 3 (by omega)]

/-! ### a row less the multiples of others, so that it has 0 where they begin -/
def less (x r : W) : W := ax x (-(x (ld r))) r
def red (R : List W) (x : W) : W := R.foldl less x
theorem red_nil (x : W) : red [] x = x := rfl
theorem red_cons (r : W) (R : List W) (x : W) : red (r :: R) x = red R (less x r) := rfl
theorem red_snoc (R : List W) (r x : W) : red (R ++ [r]) x = less (red R x) r := by simp [red]
/-- rows that begin with 1, and at whose beginnings the later ones have 0 -/
def Ech : List W → Prop
  | [] => True
  | r :: R => ld r < 4 ∧ r (ld r) = 1 ∧ (∀ s ∈ R, s (ld r) = 0) ∧ Ech R
theorem Ech.one {R : List W} (h : Ech R) : ∀ r ∈ R, ld r < 4 ∧ r (ld r) = 1 := by
  induction R with
  | nil => intro r hr; cases hr
  | cons s R ih =>
    obtain ⟨h1, h2, _, h4⟩ := h
    intro r hr
    rcases List.mem_cons.1 hr with rfl | hr
    · exact ⟨h1, h2⟩
    · exact ih h4 r hr
theorem less_at (x r : W) (h : r (ld r) = 1) : less x r (ld r) = 0 := by simp only [less, ax, h]; grind
theorem less_keep {x r : W} {i : Nat} (hx : x i = 0) (hr : r i = 0) : less x r i = 0 := by simp only [less, ax, hx, hr]; grind
theorem less_same {x r : W} {i : Nat} (hr : r i = 0) : less x r i = x i := by simp only [less, ax, hr]; grind
theorem red_keep {R : List W} {x : W} {i : Nat} (hx : x i = 0) (hR : ∀ r ∈ R, r i = 0) : red R x i = 0 := by
  induction R generalizing x with
  | nil => exact hx
  | cons r R ih => rw [red_cons]; exact ih (less_keep hx (hR r (by simp))) (fun s hs => hR s (by simp [hs]))
theorem red_same {R : List W} {x : W} {i : Nat} (hR : ∀ r ∈ R, r i = 0) : red R x i = x i := by
  induction R generalizing x with
  | nil => rfl
  | cons r R ih => rw [red_cons, ih (fun s hs => hR s (by simp [hs])), less_same (hR r (by simp))]
theorem red_at {R : List W} (h : Ech R) (x : W) : ∀ r ∈ R, red R x (ld r) = 0 := by
  induction R generalizing x with
  | nil => intro r hr; cases hr
  | cons s R ih =>
    obtain ⟨h1, h2, h3, h4⟩ := h
    intro r hr
    rw [red_cons]
    rcases List.mem_cons.1 hr with rfl | hr
    · exact red_keep (less_at x r h2) h3
    · exact ih h4 _ r hr
theorem red_in (R : List W) (x : W) : ∃ u, In R u ∧ red R x = ax x 1 u := by
  induction R generalizing x with
  | nil => exact ⟨zz, Sp.zero, by funext i; simp only [red_nil, ax, zz]; grind⟩
  | cons r R ih =>
    obtain ⟨u, hu, e⟩ := ih (less x r)
    refine ⟨ax u (-(x (ld r))) r, Sp.step (Sp.mono (fun s hs => List.mem_cons_of_mem _ hs) hu) (by simp) _, ?_⟩
    rw [red_cons, e]; funext i; simp only [less, ax]; grind
theorem red_span {R : List W} {S : W → Prop} {x : W} (hR : ∀ r ∈ R, Sp S r) (hx : Sp S x) : Sp S (red R x) := by
  obtain ⟨u, hu, e⟩ := red_in R x
  rw [e]; exact Sp.axpy hx (Sp.trans hR hu) 1
theorem red_back {R : List W} {S : W → Prop} {x : W} (hR : ∀ r ∈ R, Sp S r) (hx : Sp S (red R x)) : Sp S x := by
  obtain ⟨u, hu, e⟩ := red_in R x
  have h : x = ax (red R x) (-1) u := by rw [e]; funext i; simp only [ax]; grind
  rw [h]; exact Sp.axpy hx (Sp.trans hR hu) _
/-- what is made of such rows and has 0 at all their beginnings is 0 -/
theorem Ech.zero {R : List W} (h : Ech R) {x : W} (hx : In R x) (h0 : ∀ r ∈ R, x (ld r) = 0) : x = zz := by
  induction R generalizing x with
  | nil => exact hx.nil
  | cons r R ih =>
    obtain ⟨h1, h2, h3, h4⟩ := h
    obtain ⟨c, u, hu, rfl⟩ := hx.cons
    have hu0 : u (ld r) = 0 := Sp.at _ h3 hu
    have hc : c = 0 := by
      have := h0 r (by simp)
      simp only [ax, hu0, h2] at this
      grind
    subst hc
    have e : ax u 0 r = u := by funext i; simp only [ax]; grind
    rw [e] at h0 ⊢
    exact ih h4 hu (fun s hs => h0 s (by simp [hs]))
/-- only the first four places count -/
def four (x : W) : Prop := ∀ i, 4 ≤ i → x i = 0
theorem four_eq {x y : W} (hx : four x) (hy : four y) (h : ∀ i, i < 4 → x i = y i) : x = y := by
  funext i
  rcases Nat.lt_or_ge i 4 with hi | hi
  · exact h i hi
  · rw [hx i hi, hy i hi]
theorem four_zero {x : W} (hx : four x) (h : ld x = 4) : x = zz := four_eq hx (fun _ _ => rfl) (ld_four_iff.1 h)
theorem four_ax {x y : W} (hx : four x) (hy : four y) (c : F) : four (ax x c y) := fun i hi => by simp only [ax, hx i hi, hy i hi]; grind
theorem four_in {S : W → Prop} (h : ∀ r, S r → four r) {x : W} (hx : Sp S x) : four x := fun i hi => Sp.at i (fun r hr => h r hr i hi) hx
theorem red_four {R : List W} {x : W} (hR : ∀ r ∈ R, four r) (hx : four x) : four (red R x) := fun i hi => red_keep (hx i hi) (fun r hr => hR r hr i hi)
/-- IS IT MADE OF THEM? just if nothing is left -/
theorem in_iff_red {R : List W} (h : Ech R) (h4 : ∀ r ∈ R, four r) {x : W} (hx : four x) : In R x ↔ ld (red R x) = 4 := by
  constructor
  · intro hi
    have : red R x = zz := h.zero (red_span (fun r hr => In.mem hr) hi) (red_at h x)
    rw [this]; rfl
  · intro hl
    have e := four_zero (red_four h4 hx) hl
    refine red_back (R := R) (fun r hr => In.mem hr) ?_
    rw [e]; exact Sp.zero
/-- one row more -/
def unitize (x : W) : W := fun i => finv (x (ld x)) * x i
theorem unitize_ld (x : W) : ld (unitize x) = ld x := by
  by_cases h : ld x < 4
  · have hx := ld_at h
    have hf := finv_mul _ hx
    refine ld_eq h ?_ (fun i hi => ?_)
    · intro e; simp only [unitize] at e; rw [show finv (x (ld x)) * x (ld x) = x (ld x) * finv (x (ld x)) by grind, hf] at e; exact absurd e (by decide)
    · simp only [unitize, ld_before hi]; grind
  · have h4 : ld x = 4 := by have := ld_le x; omega
    rw [h4]
    exact ld_four fun i hi => by simp only [unitize, ld_four_iff.1 h4 i hi]; grind
theorem unitize_one {x : W} (h : ld x < 4) : unitize x (ld (unitize x)) = 1 := by
  rw [unitize_ld]; simp only [unitize]; have := finv_mul _ (ld_at h); grind
theorem Ech.snoc {R : List W} (h : Ech R) {x : W} (hl : ld x < 4) (h1 : x (ld x) = 1) (h0 : ∀ r ∈ R, x (ld r) = 0) : Ech (R ++ [x]) := by
  induction R with
  | nil => exact ⟨hl, h1, by simp, trivial⟩
  | cons r R ih =>
    obtain ⟨a, b, c, d⟩ := h
    refine ⟨a, b, ?_, ih d (fun s hs => h0 s (by simp [hs]))⟩
    intro s hs
    rcases List.mem_append.1 hs with hs | hs
    · exact c s hs
    · simp at hs; subst hs; exact h0 r (by simp)
theorem Ech.push {R : List W} (h : Ech R) (x : W) (hl : ld (red R x) < 4) : Ech (R ++ [unitize (red R x)]) :=
  h.snoc (by rw [unitize_ld]; exact hl) (unitize_one hl) (fun r hr => by simp only [unitize, red_at h x r hr]; grind)
theorem unitize_in {S : W → Prop} {x : W} (h : Sp S x) : Sp S (unitize x) := h.sc _
theorem unitize_back {S : W → Prop} {x : W} (hl : ld x < 4) (h : Sp S (unitize x)) : Sp S x := by
  have := h.sc (x (ld x))
  have e : (fun i => x (ld x) * unitize x i) = x := by
    funext i; simp only [unitize]; have := finv_mul _ (ld_at hl); grind
  rwa [e] at this
theorem unitize_four {x : W} (h : four x) : four (unitize x) := fun i hi => by simp only [unitize, h i hi]; grind

/-! ### tidy rows -/
/-- tidy: each begins with 1, all others have 0 there, they begin one behind the other -/
structure Rref (R : List W) : Prop where
  one : ∀ r ∈ R, ld r < 4 ∧ r (ld r) = 1
  off : ∀ r ∈ R, ∀ s ∈ R, ld r ≠ ld s → s (ld r) = 0
  asc : (R.map ld).Pairwise (· < ·)
  four : ∀ r ∈ R, four r
theorem Rref.ech {R : List W} (h : Rref R) : Ech R := by
  obtain ⟨h1, h2, h3, _⟩ := h
  induction R with
  | nil => trivial
  | cons r R ih =>
    rw [List.map_cons, List.pairwise_cons] at h3
    refine ⟨(h1 r (by simp)).1, (h1 r (by simp)).2, fun s hs => ?_, ih (fun x hx => h1 x (by simp [hx])) (fun x hx y hy => h2 x (by simp [hx]) y (by simp [hy])) h3.2 (fun x hx => by rename_i h4; exact h4 x (by simp [hx]))⟩
    have := h3.1 (ld s) (List.mem_map_of_mem hs)
    exact h2 r (by simp) s (by simp [hs]) (by omega)
/-- where what is made of tidy rows begins, one of them begins -/
theorem Rref.begins {R : List W} (h : Rref R) {x : W} (hx : In R x) (hl : ld x < 4) : ∃ r ∈ R, ld r = ld x := by
  have key : ∀ (R : List W), Rref R → ∀ x, In R x → ∀ q, (∀ r ∈ R, ld r ≤ q → x (ld r) = 0) → x q = 0 := by
    intro R
    induction R with
    | nil => intro _ x hx q _; rw [hx.nil]; rfl
    | cons r R ih =>
      intro h x hx q hq
      obtain ⟨c, u, hu, rfl⟩ := hx.cons
      have hR : Rref R := ⟨fun x hx => h.one x (by simp [hx]), fun x hx y hy => h.off x (by simp [hx]) y (by simp [hy]), (by have := h.asc; rw [List.map_cons, List.pairwise_cons] at this; exact this.2), fun x hx => h.four x (by simp [hx])⟩
      have hlt : ∀ s ∈ R, ld r < ld s := fun s hs => by
        have := h.asc; rw [List.map_cons, List.pairwise_cons] at this
        exact this.1 _ (List.mem_map_of_mem hs)
      have hu0 : u (ld r) = 0 := Sp.at _ (fun s hs => h.off r (by simp) s (by simp [hs]) (by have := hlt s hs; omega)) hu
      have huq : u q = 0 := ih hR u hu q (fun s hs hsq => by
        have h1 := hq s (by simp [hs]) hsq
        have h2 : r (ld s) = 0 := h.off s (by simp [hs]) r (by simp) (by have := hlt s hs; omega)
        simp only [ax, h2] at h1
        grind)
      by_cases hrq : ld r ≤ q
      · have h1 := hq r (by simp) hrq
        have h2 := (h.one r (by simp)).2
        simp only [ax, hu0, h2] at h1
        have hc : c = 0 := by grind
        simp only [ax, huq, hc]; grind
      · have h2 : r q = 0 := ld_before (by omega)
        simp only [ax, huq, h2]; grind
  rcases Classical.em (∃ r ∈ R, ld r = ld x) with hh | hh
  · exact hh
  · exfalso
    refine ld_at hl (key R h x hx (ld x) (fun r hr hrq => ?_))
    have : ld r ≠ ld x := fun e => hh ⟨r, hr, e⟩
    exact ld_before (by omega)
theorem asc_eq : ∀ (a b : List Nat), a.Pairwise (· < ·) → b.Pairwise (· < ·) → (∀ x, x ∈ a ↔ x ∈ b) → a = b
  | [], [], _, _, _ => rfl
  | [], y :: b, _, _, h => by have := (h y).2 (by simp); cases this
  | x :: a, [], _, _, h => by have := (h x).1 (by simp); cases this
  | x :: a, y :: b, ha, hb, h => by
    rw [List.pairwise_cons] at ha hb
    have exy : x = y := by
      have h1 := (h x).1 (by simp)
      have h2 := (h y).2 (by simp)
      rcases List.mem_cons.1 h1 with e | h1
      · exact e
      · rcases List.mem_cons.1 h2 with e | h2
        · exact e.symm
        · have := hb.1 x h1; have := ha.1 y h2; omega
    subst exy
    have := asc_eq a b ha.2 hb.2 (fun z => by
      constructor
      · intro hz
        have hlt := ha.1 z hz
        rcases List.mem_cons.1 ((h z).1 (by simp [hz])) with e | hz'
        · omega
        · exact hz'
      · intro hz
        have hlt := hb.1 z hz
        rcases List.mem_cons.1 ((h z).2 (by simp [hz])) with e | hz'
        · omega
        · exact hz')
    rw [this]
/-- TIDY ROWS OF WHICH THE SAME IS MADE ARE THE SAME -/
theorem Rref.unique {R R' : List W} (h : Rref R) (h' : Rref R') (hs : ∀ x, In R x ↔ In R' x) : R = R' := by
  have hp : R.map ld = R'.map ld := by
    refine asc_eq _ _ h.asc h'.asc fun p => ?_
    constructor
    · intro hp
      obtain ⟨r, hr, rfl⟩ := List.mem_map.1 hp
      obtain ⟨s, hs', e⟩ := h'.begins ((hs r).1 (In.mem hr)) (h.one r hr).1
      rw [← e]; exact List.mem_map_of_mem hs'
    · intro hp
      obtain ⟨r, hr, rfl⟩ := List.mem_map.1 hp
      obtain ⟨s, hs', e⟩ := h.begins ((hs r).2 (In.mem hr)) (h'.one r hr).1
      rw [← e]; exact List.mem_map_of_mem hs'
  have hl : R.length = R'.length := by have := congrArg List.length hp; simpa using this
  apply List.ext_getElem hl
  intro i h1 h2
  have hld : ld R[i] = ld R'[i] := by
    have := congrArg (fun l => l[i]?) hp
    simpa [List.getElem?_eq_getElem h1, List.getElem?_eq_getElem h2] using this
  have m1 : R[i] ∈ R := List.getElem_mem h1
  have m2 : R'[i] ∈ R' := List.getElem_mem h2
  have hd : ax R[i] (-1) R'[i] = zz := by
    refine h.ech.zero (Sp.axpy (In.mem m1) ((hs _).2 (In.mem m2)) _) (fun r hr => ?_)
    obtain ⟨s, hs', e⟩ : ∃ s ∈ R', ld s = ld r := by
      have : ld r ∈ R'.map ld := hp ▸ List.mem_map_of_mem hr
      obtain ⟨s, hs', e⟩ := List.mem_map.1 this
      exact ⟨s, hs', e⟩
    by_cases e2 : ld r = ld R[i]
    · have a := (h.one _ m1).2
      have b := (h'.one _ m2).2
      simp only [ax]; rw [e2, a, hld, b]; grind
    · have a := h.off r hr _ m1 e2
      have b := h'.off s hs' _ m2 (by rw [e]; rw [← hld]; exact e2)
      simp only [ax]; rw [a, ← e, b]; grind
  funext j
  have := congrFun hd j
  simp only [ax, zz] at this
  grind
end Go.Proofs.Ytmnfkohdibgjeaa.Lin
