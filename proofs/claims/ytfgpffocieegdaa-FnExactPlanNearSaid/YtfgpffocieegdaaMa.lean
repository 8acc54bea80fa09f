/- Plain mathematics: numbers modulo 31, rows, spans, tidy rows; no program in sight. -/
set_option linter.unusedVariables false
set_option linter.unusedSimpArgs false
/- Plain mathematics of the field of 31 elements and of rows over it: no program in sight. -/
namespace Go.Proofs.Ytfgpffocieegdaa.Lin

/-! ### numbers -/
abbrev F := Fin 31
/-- a number modulo 31 -/
def toF (a : Int) : F := ⟨(a % 31).toNat, by omega⟩
theorem toF_val (a : Int) : ((toF a).val : Int) = a % 31 := by unfold toF; simp only; omega
theorem toF_eq {a b : Int} : toF a = toF b ↔ a % 31 = b % 31 := by
  constructor
  · intro h; have := toF_val a; have h2 := toF_val b; rw [h] at this; omega
  · intro h; unfold toF; simp only [h]
theorem toF_mod (a : Int) : toF (a % 31) = toF a := by rw [toF_eq]; omega
theorem toF_zero : toF 0 = 0 := rfl
theorem toF_add (a b : Int) : toF (a + b) = toF a + toF b := by
  apply Fin.ext
  rw [Fin.val_add]
  have h1 := toF_val a; have h2 := toF_val b; have h3 := toF_val (a + b)
  omega
theorem toF_mul (a b : Int) : toF (a * b) = toF a * toF b := by
  apply Fin.ext
  rw [Fin.val_mul]
  have h1 := toF_val a; have h2 := toF_val b; have h3 := toF_val (a * b)
  have h4 : (((toF a).val * (toF b).val % 31 : Nat) : Int) = (a * b) % 31 := by
    rw [Int.natCast_emod, Int.natCast_mul, h1, h2]; rw [show ((31 : Nat) : Int) = 31 from rfl, ← Int.mul_emod]
  omega
theorem toF_ne_zero {a : Int} (ha : 0 ≤ a ∧ a < 31) : toF a = 0 ↔ a = 0 := by
  rw [← toF_zero, toF_eq]; omega
/-- is it a number of the field? -/
def ok (a : Int) : Bool := decide (0 ≤ a) && decide (a < 31)
theorem ok_iff {a : Int} : ok a = true ↔ 0 ≤ a ∧ a < 31 := by simp [ok]
/-- the inverse, by a table -/
def inv (a : Int) : Int := [0, 1, 16, 21, 8, 25, 26, 9, 4, 7, 28, 17, 13, 12, 20, 29, 2, 11, 19, 18, 14, 3, 24, 27, 22, 5, 6, 23, 10, 15, 30].getD a.toNat 0
theorem inv_all : ∀ a : Fin 31, a ≠ 0 → (a.val : Int) * inv (a.val : Int) % 31 = 1 ∧ 0 < inv (a.val : Int) ∧ inv (a.val : Int) < 31 ∧ inv (inv (a.val : Int)) = a.val := by decide
theorem inv_ok {a : Int} (h : ok a = true) (h0 : a ≠ 0) : a * inv a % 31 = 1 ∧ 0 < inv a ∧ inv a < 31 ∧ inv (inv a) = a := by
  rw [ok_iff] at h
  have := inv_all ⟨a.toNat, by omega⟩ (by intro e; have := congrArg Fin.val e; simp at this; omega)
  have e : ((a.toNat : Nat) : Int) = a := by omega
  simp only [e] at this; exact this
theorem inv_range (a : Int) : 0 ≤ inv a ∧ inv a < 31 := by
  by_cases h : ok a = true
  · by_cases h0 : a = 0
    · subst h0; decide
    · have := inv_ok h h0; omega
  · by_cases hn : a < 0
    · have : a.toNat = 0 := by omega
      unfold inv; rw [this]; decide
    · have : 31 ≤ a.toNat := by rw [ok_iff] at h; omega
      unfold inv; rw [List.getD_eq_getElem?_getD, List.getElem?_eq_none (by simpa using this)]
      decide
def finv (c : F) : F := toF (inv c.val)
theorem finv_mul : ∀ c : F, c ≠ 0 → c * finv c = 1 := by decide
theorem finv_toF {a : Int} (h : ok a = true) : finv (toF a) = toF (inv a) := by
  unfold finv; rw [toF_val]; rw [ok_iff] at h; rw [show a % 31 = a by omega]

theorem mod_ok (a : Int) : ok (a % 31) = true := by rw [ok_iff]; omega
theorem mod_eq_of_toF {a b : Int} (h : toF a = toF b) : a % 31 = b % 31 := toF_eq.1 h
theorem mul_add_mod (a b c : Int) : a * ((b + c) % 31) % 31 = (a * b % 31 + a * c % 31) % 31 := by
  apply mod_eq_of_toF; simp only [toF_mul, toF_mod, toF_add]; grind
end Go.Proofs.Ytfgpffocieegdaa.Lin

/- Plain mathematics: rows as functions of a place, what is made of rows, rows that begin one behind the other. -/
namespace Go.Proofs.Ytfgpffocieegdaa.Lin

abbrev W := Nat → F
/-- x and so many times y -/
def ax (x : W) (c : F) (y : W) : W := fun i => x i + c * y i
def zz : W := fun _ => 0
/-- what is made of rows -/
inductive Sp (S : W → Prop) : W → Prop
  | zero : Sp S zz
  | step {v r : W} : Sp S v → S r → ∀ c : F, Sp S (ax v c r)
theorem Sp.of {S : W → Prop} {r : W} (h : S r) : Sp S r := by
  have := Sp.step Sp.zero h 1
  have e : ax zz 1 r = r := by funext i; simp only [ax, zz]; grind
  rwa [e] at this
theorem Sp.axpy {S : W → Prop} {u v : W} (hu : Sp S u) (hv : Sp S v) (c : F) : Sp S (ax u c v) := by
  induction hv with
  | zero => have e : ax u c zz = u := by funext i; simp only [ax, zz]; grind
            rwa [e]
  | @step v r _ hr d ih =>
    have e : ax u c (ax v d r) = ax (ax u c v) (c * d) r := by funext i; simp only [ax]; grind
    rw [e]; exact Sp.step ih hr _
theorem Sp.trans {S T : W → Prop} {v : W} (h : ∀ r, S r → Sp T r) (hv : Sp S v) : Sp T v := by
  induction hv with
  | zero => exact Sp.zero
  | step _ hr c ih => exact Sp.axpy ih (h _ hr) c
theorem Sp.mono {S T : W → Prop} {v : W} (h : ∀ r, S r → T r) (hv : Sp S v) : Sp T v := Sp.trans (fun r hr => Sp.of (h r hr)) hv
theorem Sp.sc {S : W → Prop} {v : W} (hv : Sp S v) (c : F) : Sp S (fun i => c * v i) := by
  have := Sp.axpy (Sp.zero) hv c
  have e : ax zz c v = fun i => c * v i := by funext i; simp only [ax, zz]; grind
  rwa [e] at this
/-- a linear condition that holds of the rows holds of what is made of them -/
theorem Sp.lin {S : W → Prop} {v : W} (p : W → F) (h0 : p zz = 0) (hl : ∀ x c y, p (ax x c y) = p x + c * p y) (h : ∀ r, S r → p r = 0) (hv : Sp S v) : p v = 0 := by
  induction hv with
  | zero => exact h0
  | step _ hr c ih => rw [hl, ih, h _ hr]; grind
theorem Sp.at {S : W → Prop} {v : W} (i : Nat) (h : ∀ r, S r → r i = 0) (hv : Sp S v) : v i = 0 :=
  Sp.lin (fun x => x i) rfl (fun _ _ _ => rfl) h hv
abbrev In (R : List W) : W → Prop := Sp (· ∈ R)
theorem In.nil {v : W} (h : In [] v) : v = zz := by
  induction h with
  | zero => rfl
  | step _ hr _ _ => cases hr
/-- one row aside -/
theorem In.cons {r : W} {R : List W} {v : W} (h : In (r :: R) v) : ∃ (c : F) (u : W), In R u ∧ v = ax u c r := by
  induction h with
  | zero => exact ⟨0, zz, Sp.zero, by funext i; simp only [ax, zz]; grind⟩
  | @step v s _ hs d ih =>
    obtain ⟨c, u, hu, rfl⟩ := ih
    rcases List.mem_cons.1 hs with rfl | hs
    · exact ⟨c + d, u, hu, by funext i; simp only [ax]; grind⟩
    · exact ⟨c, ax u d s, Sp.step hu hs d, by funext i; simp only [ax]; grind⟩
theorem In.sub {R R' : List W} {v : W} (h : ∀ r ∈ R, In R' r) (hv : In R v) : In R' v := Sp.trans h hv
theorem In.mem {R : List W} {r : W} (h : r ∈ R) : In R r := Sp.of h
theorem In.le {R R' : List W} {v : W} (h : ∀ r ∈ R, r ∈ R') (hv : In R v) : In R' v := Sp.mono h hv

/-! ### where a row begins, among the first four places; 4: nowhere -/
def ld (x : W) : Nat := if x 0 ≠ 0 then 0 else if x 1 ≠ 0 then 1 else if x 2 ≠ 0 then 2 else if x 3 ≠ 0 then 3 else 4
theorem ld_le (x : W) : ld x ≤ 4 := by unfold ld; repeat (first | split | omega)
theorem ld_at {x : W} (h : ld x < 4) : x (ld x) ≠ 0 := by
  unfold ld at *
  by_cases h0 : x 0 = 0
  · by_cases h1 : x 1 = 0
    · by_cases h2 : x 2 = 0
      · by_cases h3 : x 3 = 0
        · simp [h0, h1, h2, h3] at h
        · simp [h0, h1, h2, h3]
      · simp [h0, h1, h2]
    · simp [h0, h1]
  · simp [h0]
theorem ld_before {x : W} {i : Nat} (h : i < ld x) : x i = 0 := by
  have h4 : i < 4 := by have := ld_le x; omega
  unfold ld at h
  by_cases h0 : x 0 = 0
  · by_cases h1 : x 1 = 0
    · by_cases h2 : x 2 = 0
      · by_cases h3 : x 3 = 0
        · match i, h4 with
          | 0, _ => exact h0
          | 1, _ => exact h1
          | 2, _ => exact h2
          | 3, _ => exact h3
        · simp [h0, h1, h2, h3] at h
          match i, h with
          | 0, _ => exact h0
          | 1, _ => exact h1
          | 2, _ => exact h2
      · simp [h0, h1, h2] at h
        match i, h with
        | 0, _ => exact h0
        | 1, _ => exact h1
    · simp [h0, h1] at h
      match i, h with
      | 0, _ => exact h0
  · simp [h0] at h
theorem ld_eq {x : W} {p : Nat} (hp : p < 4) (h : x p ≠ 0) (hb : ∀ i, i < p → x i = 0) : ld x = p := by
  have h1 : ld x ≤ p := by
    rcases Nat.lt_or_ge p (ld x) with hlt | hge
    · exact absurd (ld_before hlt) h
    · exact hge
  rcases Nat.lt_or_ge (ld x) p with hlt | hge
  · exact absurd (hb _ hlt) (ld_at (by omega))
  · omega
theorem ld_four {x : W} (h : ∀ i, i < 4 → x i = 0) : ld x = 4 := by
  unfold ld; simp [h 0, h 1, h 2, h 3]
theorem ld_four_iff {x : W} : ld x = 4 ↔ ∀ i, i < 4 → x i = 0 := by
  constructor
  · intro h i hi; exact ld_before (by omega)
  · exact ld_four
theorem ld_congr {x y : W} (h : ∀ i, i < 4 → x i = y i) : ld x = ld y := by
  unfold ld; simp only [h 0 (by omega), h 1 (by omega), h 2 (by omega), h 3 (by omega)]

/-! ### a row less the multiples of others, so that it has 0 where they begin -/
def less (x r : W) : W := ax x (-(x (ld r))) r
def red (R : List W) (x : W) : W := R.foldl less x
theorem red_nil (x : W) : red [] x = x := rfl
theorem red_cons (r : W) (R : List W) (x : W) : red (r :: R) x = red R (less x r) := rfl
/-- rows that begin with 1, and at whose beginnings the later ones have 0 -/
def Ech : List W → Prop
  | [] => True
  | r :: R => ld r < 4 ∧ r (ld r) = 1 ∧ (∀ s ∈ R, s (ld r) = 0) ∧ Ech R
theorem Ech.one {R : List W} (h : Ech R) : ∀ r ∈ R, ld r < 4 ∧ r (ld r) = 1 := by
  induction R with
  | nil => intro r hr; cases hr
  | cons s R ih =>
    obtain ⟨h1, h2, _, h4⟩ := h; intro r hr
    rcases List.mem_cons.1 hr with rfl | hr
    · exact ⟨h1, h2⟩
    · exact ih h4 r hr
theorem less_at (x r : W) (h : r (ld r) = 1) : less x r (ld r) = 0 := by simp only [less, ax, h]; grind
theorem less_keep {x r : W} {i : Nat} (hx : x i = 0) (hr : r i = 0) : less x r i = 0 := by simp only [less, ax, hx, hr]; grind
theorem less_same {x r : W} {i : Nat} (hr : r i = 0) : less x r i = x i := by simp only [less, ax, hr]; grind
theorem red_keep {R : List W} {x : W} {i : Nat} (hx : x i = 0) (hR : ∀ r ∈ R, r i = 0) : red R x i = 0 := by
  induction R generalizing x with
  | nil => exact hx
  | cons r R ih => rw [red_cons]; exact ih (less_keep hx (hR r (by simp))) (fun s hs => hR s (by simp [hs]))
theorem red_at {R : List W} (h : Ech R) (x : W) : ∀ r ∈ R, red R x (ld r) = 0 := by
  induction R generalizing x with
  | nil => intro r hr; cases hr
  | cons s R ih =>
    obtain ⟨h1, h2, h3, h4⟩ := h; intro r hr; rw [red_cons]
    rcases List.mem_cons.1 hr with rfl | hr
    · exact red_keep (less_at x r h2) h3
    · exact ih h4 _ r hr
theorem red_in (R : List W) (x : W) : ∃ u, In R u ∧ red R x = ax x 1 u := by
  induction R generalizing x with
  | nil => exact ⟨zz, Sp.zero, by funext i; simp only [red_nil, ax, zz]; grind⟩
  | cons r R ih =>
    obtain ⟨u, hu, e⟩ := ih (less x r); refine ⟨ax u (-(x (ld r))) r, Sp.step (Sp.mono (fun s hs => List.mem_cons_of_mem _ hs) hu) (by simp) _, ?_⟩; rw [red_cons, e]; funext i; simp only [less, ax]; grind
theorem red_span {R : List W} {S : W → Prop} {x : W} (hR : ∀ r ∈ R, Sp S r) (hx : Sp S x) : Sp S (red R x) := by
  obtain ⟨u, hu, e⟩ := red_in R x; rw [e]; exact Sp.axpy hx (Sp.trans hR hu) 1
theorem red_back {R : List W} {S : W → Prop} {x : W} (hR : ∀ r ∈ R, Sp S r) (hx : Sp S (red R x)) : Sp S x := by
  obtain ⟨u, hu, e⟩ := red_in R x
  have h : x = ax (red R x) (-1) u := by rw [e]; funext i; simp only [ax]; grind
  rw [h]; exact Sp.axpy hx (Sp.trans hR hu) _
/-- what is made of such rows and has 0 at all their beginnings is 0 -/
theorem Ech.zero {R : List W} (h : Ech R) {x : W} (hx : In R x) (h0 : ∀ r ∈ R, x (ld r) = 0) : x = zz := by
  induction R generalizing x with
  | nil => exact hx.nil
  | cons r R ih =>
    obtain ⟨h1, h2, h3, h4⟩ := h; obtain ⟨c, u, hu, rfl⟩ := hx.cons; have hu0 : u (ld r) = 0 := Sp.at _ h3 hu
    have hc : c = 0 := by
      have := h0 r (by simp)
      simp only [ax, hu0, h2] at this
      grind
    subst hc
    have e : ax u 0 r = u := by funext i; simp only [ax]; grind
    rw [e] at h0 ⊢; exact ih h4 hu (fun s hs => h0 s (by simp [hs]))
/-- only the first four places count -/
def four (x : W) : Prop := ∀ i, 4 ≤ i → x i = 0
theorem four_eq {x y : W} (hx : four x) (hy : four y) (h : ∀ i, i < 4 → x i = y i) : x = y := by
  funext i
  rcases Nat.lt_or_ge i 4 with hi | hi
  · exact h i hi
  · rw [hx i hi, hy i hi]
theorem four_zero {x : W} (hx : four x) (h : ld x = 4) : x = zz := four_eq hx (fun _ _ => rfl) (ld_four_iff.1 h)
theorem four_ax {x y : W} (hx : four x) (hy : four y) (c : F) : four (ax x c y) := fun i hi => by simp only [ax, hx i hi, hy i hi]; grind
theorem four_in {S : W → Prop} (h : ∀ r, S r → four r) {x : W} (hx : Sp S x) : four x := fun i hi => Sp.at i (fun r hr => h r hr i hi) hx
theorem red_four {R : List W} {x : W} (hR : ∀ r ∈ R, four r) (hx : four x) : four (red R x) := fun i hi => red_keep (hx i hi) (fun r hr => hR r hr i hi)
/-- IS IT MADE OF THEM? just if nothing is left -/
theorem in_iff_red {R : List W} (h : Ech R) (h4 : ∀ r ∈ R, four r) {x : W} (hx : four x) : In R x ↔ ld (red R x) = 4 := by
  constructor
  · intro hi
    have : red R x = zz := h.zero (red_span (fun r hr => In.mem hr) hi) (red_at h x)
    rw [this]; rfl
  · intro hl
    have e := four_zero (red_four h4 hx) hl
    refine red_back (R := R) (fun r hr => In.mem hr) ?_; rw [e]; exact Sp.zero
/-- one row more -/
def unitize (x : W) : W := fun i => finv (x (ld x)) * x i
theorem unitize_ld (x : W) : ld (unitize x) = ld x := by
  by_cases h : ld x < 4
  · have hx := ld_at h
    have hf := finv_mul _ hx
    refine ld_eq h ?_ (fun i hi => ?_)
    · intro e; simp only [unitize] at e; rw [show finv (x (ld x)) * x (ld x) = x (ld x) * finv (x (ld x)) by grind, hf] at e; exact absurd e (by decide)
    · simp only [unitize, ld_before hi]; grind
  · have h4 : ld x = 4 := by have := ld_le x; omega
    rw [h4]
    exact ld_four fun i hi => by simp only [unitize, ld_four_iff.1 h4 i hi]; grind
theorem unitize_one {x : W} (h : ld x < 4) : unitize x (ld (unitize x)) = 1 := by
  rw [unitize_ld]; simp only [unitize]; have := finv_mul _ (ld_at h); grind
theorem Ech.snoc {R : List W} (h : Ech R) {x : W} (hl : ld x < 4) (h1 : x (ld x) = 1) (h0 : ∀ r ∈ R, x (ld r) = 0) : Ech (R ++ [x]) := by
  induction R with
  | nil => exact ⟨hl, h1, by simp, trivial⟩
  | cons r R ih =>
    obtain ⟨a, b, c, d⟩ := h; refine ⟨a, b, ?_, ih d (fun s hs => h0 s (by simp [hs]))⟩; intro s hs
    rcases List.mem_append.1 hs with hs | hs
    · exact c s hs
    · simp at hs; subst hs; exact h0 r (by simp)
theorem Ech.push {R : List W} (h : Ech R) (x : W) (hl : ld (red R x) < 4) : Ech (R ++ [unitize (red R x)]) :=
  h.snoc (by rw [unitize_ld]; exact hl) (unitize_one hl) (fun r hr => by simp only [unitize, red_at h x r hr]; grind)
theorem unitize_in {S : W → Prop} {x : W} (h : Sp S x) : Sp S (unitize x) := h.sc _
theorem unitize_back {S : W → Prop} {x : W} (hl : ld x < 4) (h : Sp S (unitize x)) : Sp S x := by
  have := h.sc (x (ld x))
  have e : (fun i => x (ld x) * unitize x i) = x := by
    funext i; simp only [unitize]; have := finv_mul _ (ld_at hl); grind
  rwa [e] at this
theorem unitize_four {x : W} (h : four x) : four (unitize x) := fun i hi => by simp only [unitize, h i hi]; grind

/-! ### tidy rows -/
/-- tidy: each begins with 1, all others have 0 there, they begin one behind the other -/
structure Rref (R : List W) : Prop where
  one : ∀ r ∈ R, ld r < 4 ∧ r (ld r) = 1
  off : ∀ r ∈ R, ∀ s ∈ R, ld r ≠ ld s → s (ld r) = 0
  asc : (R.map ld).Pairwise (· < ·)
  four : ∀ r ∈ R, four r
theorem Rref.ech {R : List W} (h : Rref R) : Ech R := by
  obtain ⟨h1, h2, h3, _⟩ := h
  induction R with
  | nil => trivial
  | cons r R ih =>
    rw [List.map_cons, List.pairwise_cons] at h3; refine ⟨(h1 r (by simp)).1, (h1 r (by simp)).2, fun s hs => ?_, ih (fun x hx => h1 x (by simp [hx])) (fun x hx y hy => h2 x (by simp [hx]) y (by simp [hy])) h3.2 (fun x hx => by rename_i h4; exact h4 x (by simp [hx]))⟩
    have := h3.1 (ld s) (List.mem_map_of_mem hs)
    exact h2 r (by simp) s (by simp [hs]) (by omega)
end Go.Proofs.Ytfgpffocieegdaa.Lin

/- Plain mathematics: two ways to tidy rows, and that they come to the same. -/
namespace Go.Proofs.Ytfgpffocieegdaa.Lin

/-! ### one way: row by row, tidy at each step -/
def insr (x : W) : List W → List W
  | [] => [x]
  | r :: R => if ld x < ld r then x :: (r :: R).map (less · x) else less r x :: insr x R
def adds (R : List W) (v : W) : List W := if ld (red R v) = 4 then R else insr (unitize (red R v)) R
def tidyS (m : List W) : List W := m.foldl adds []
theorem less_ld {r x : W} (h : r (ld x) = 0 ∨ ld r < ld x) (hx : ld x < 4) : ld (less r x) = ld r := by
  rcases h with h | h
  · have : less r x = r := by funext i; simp only [less, ax, h]; grind
    rw [this]
  · have hr := ld_at (show ld r < 4 by omega)
    refine ld_eq (by omega) ?_ (fun i hi => ?_)
    · rw [less_same (ld_before h)]; exact hr
    · rw [less_same (ld_before (by omega))]; exact ld_before hi
theorem insr_mem {x : W} {R : List W} {s : W} (h : s ∈ insr x R) : s = x ∨ ∃ r ∈ R, s = less r x := by
  induction R with
  | nil => simp [insr] at h; exact .inl h
  | cons r R ih =>
    unfold insr at h
    split at h
    · rcases List.mem_cons.1 h with h | h
      · exact .inl h
      · obtain ⟨a, ha, rfl⟩ := List.mem_map.1 h
        exact .inr ⟨a, ha, rfl⟩
    · rcases List.mem_cons.1 h with h | h
      · exact .inr ⟨r, by simp, h⟩
      · rcases ih h with h | ⟨a, ha, e⟩
        · exact .inl h
        · exact .inr ⟨a, by simp [ha], e⟩
theorem mem_insr_self (x : W) (R : List W) : x ∈ insr x R := by
  induction R with
  | nil => simp [insr]
  | cons r R ih => unfold insr; split <;> simp [ih]
theorem mem_insr (x : W) {R : List W} {r : W} (h : r ∈ R) : less r x ∈ insr x R := by
  induction R with
  | nil => cases h
  | cons s R ih =>
    unfold insr
    split
    · exact List.mem_cons_of_mem _ (List.mem_map_of_mem (f := (less · x)) h)
    · rcases List.mem_cons.1 h with rfl | h
      · simp
      · exact List.mem_cons_of_mem _ (ih h)
theorem insr_in {x : W} {R : List W} {v : W} : In (insr x R) v ↔ In (x :: R) v := by
  constructor
  · refine In.sub fun s hs => ?_
    rcases insr_mem hs with rfl | ⟨r, hr, rfl⟩
    · exact In.mem (by simp)
    · exact Sp.axpy (In.mem (by simp [hr])) (In.mem (by simp)) _
  · refine In.sub fun s hs => ?_
    rcases List.mem_cons.1 hs with rfl | hs
    · exact In.mem (mem_insr_self _ _)
    · have h1 : In (insr x R) (less s x) := In.mem (mem_insr x hs)
      have h2 : s = ax (less s x) (s (ld x)) x := by funext i; simp only [less, ax]; grind
      rw [h2]; exact Sp.axpy h1 (In.mem (mem_insr_self _ _)) _
theorem insr_ld {x : W} {R : List W} (hx : ld x < 4) (hz : ∀ r ∈ R, x (ld r) = 0) (h : Rref R) (hne : ∀ r ∈ R, ld r ≠ ld x) :
    (insr x R).map ld = (R.map ld).filter (· < ld x) ++ ld x :: (R.map ld).filter (ld x < ·) := by
  induction R with
  | nil => simp [insr]
  | cons r R ih =>
    have hR : Rref R := ⟨fun x hx => h.one x (by simp [hx]), fun x hx y hy => h.off x (by simp [hx]) y (by simp [hy]), (by have := h.asc; rw [List.map_cons, List.pairwise_cons] at this; exact this.2), fun x hx => h.four x (by simp [hx])⟩
    have hlt : ∀ s ∈ R, ld r < ld s := fun s hs => by
      have := h.asc; rw [List.map_cons, List.pairwise_cons] at this
      exact this.1 _ (List.mem_map_of_mem hs)
    have hlr : ∀ s ∈ r :: R, ld (less s x) = ld s := fun s hs => by
      have hne' := hne s hs
      rcases Nat.lt_or_ge (ld s) (ld x) with h1 | h1
      · exact less_ld (.inr h1) hx
      · exact less_ld (.inl (ld_before (by omega))) hx
    unfold insr
    split
    · rename_i hlt2
      have e1 : ((r :: R).map ld).filter (· < ld x) = [] := by
        rw [List.filter_eq_nil_iff]; intro p hp; obtain ⟨s, hs, rfl⟩ := List.mem_map.1 hp
        rcases List.mem_cons.1 hs with rfl | hs
        · simp; omega
        · have := hlt s hs; simp; omega
      have e2 : ((r :: R).map ld).filter (ld x < ·) = (r :: R).map ld := by
        rw [List.filter_eq_self]; intro p hp; obtain ⟨s, hs, rfl⟩ := List.mem_map.1 hp
        rcases List.mem_cons.1 hs with rfl | hs
        · simp; omega
        · have := hlt s hs; simp; omega
      rw [e1, e2, List.map_cons, List.map_map, List.nil_append]
      congr 1
      exact List.map_congr_left hlr
    · rename_i hge
      have hr : ld r < ld x := by have := hne r (by simp); omega
      rw [List.map_cons, ih (fun s hs => hz s (by simp [hs])) hR (fun s hs => hne s (by simp [hs])), hlr r (by simp)]; rw [List.map_cons, List.filter_cons_of_pos (by simp; omega), List.filter_cons_of_neg (by simp; omega)]
      rfl
theorem adds_rref {R : List W} (h : Rref R) {v : W} (hv : four v) : Rref (adds R v) ∧ (∀ x, In (adds R v) x ↔ In (v :: R) x) := by
  unfold adds
  split
  · rename_i hl
    refine ⟨h, fun x => ⟨In.le fun r hr => by simp [hr], In.sub fun s hs => ?_⟩⟩
    rcases List.mem_cons.1 hs with rfl | hs
    · exact (in_iff_red h.ech h.four hv).2 hl
    · exact In.mem hs
  · rename_i hl
    have hlt : ld (red R v) < 4 := by have := ld_le (red R v); omega
    have hu : ld (unitize (red R v)) < 4 := by rw [unitize_ld]; exact hlt
    have h1 : unitize (red R v) (ld (unitize (red R v))) = 1 := unitize_one hlt
    have hz : ∀ r ∈ R, unitize (red R v) (ld r) = 0 := fun r hr => by simp only [unitize, red_at h.ech v r hr]; grind
    have hf : four (unitize (red R v)) := unitize_four (red_four h.four hv)
    have hin : ∀ y, In (unitize (red R v) :: R) y ↔ In (v :: R) y := fun y => by
      constructor
      · refine In.sub fun s hs => ?_
        rcases List.mem_cons.1 hs with rfl | hs
        · exact unitize_in (red_span (fun r hr => In.mem (by simp [hr])) (In.mem (by simp)))
        · exact In.mem (by simp [hs])
      · refine In.sub fun s hs => ?_
        rcases List.mem_cons.1 hs with rfl | hs
        · exact red_back (R := R) (fun r hr => In.mem (by simp [hr])) (unitize_back hlt (In.mem (by simp)))
        · exact In.mem (by simp [hs])
    generalize unitize (red R v) = x at *
    have hne : ∀ r ∈ R, ld r ≠ ld x := fun r hr e => by
      have := hz r hr; rw [e, h1] at this; exact absurd this (by decide)
    have hlr : ∀ s ∈ R, ld (less s x) = ld s := fun s hs => by
      rcases Nat.lt_or_ge (ld s) (ld x) with a | a
      · exact less_ld (.inr a) hu
      · exact less_ld (.inl (ld_before (by have := hne s hs; omega))) hu
    refine ⟨⟨?_, ?_, ?_, ?_⟩, fun y => insr_in.trans (hin y)⟩
    · intro s hs
      rcases insr_mem hs with rfl | ⟨r, hr, rfl⟩
      · exact ⟨hu, h1⟩
      · rw [hlr r hr]
        exact ⟨(h.one r hr).1, by rw [less_same (hz r hr)]; exact (h.one r hr).2⟩
    · intro s hs t ht hst
      rcases insr_mem hs with rfl | ⟨r, hr, rfl⟩
      · rcases insr_mem ht with rfl | ⟨q, hq, rfl⟩
        · exact absurd rfl hst
        · exact less_at q s h1
      · rw [hlr r hr] at hst ⊢
        rcases insr_mem ht with rfl | ⟨q, hq, rfl⟩
        · exact hz r hr
        · rw [hlr q hq] at hst
          rw [less_same (hz r hr)]; exact h.off r hr q hq hst
    · rw [insr_ld hu hz h hne, List.pairwise_append]
      refine ⟨h.asc.filter _, ?_, ?_⟩
      · rw [List.pairwise_cons]
        exact ⟨fun a ha => by simpa using (List.mem_filter.1 ha).2, h.asc.filter _⟩
      · intro a ha b hb
        have ha := (List.mem_filter.1 ha).2
        rcases List.mem_cons.1 hb with rfl | hb
        · simpa using ha
        · have hb := (List.mem_filter.1 hb).2
          simp at ha hb; omega
    · intro s hs
      rcases insr_mem hs with rfl | ⟨r, hr, rfl⟩
      · exact hf
      · exact four_ax (h.four r hr) hf _
theorem Rref.nil : Rref [] := ⟨by simp, by simp, by simp, by simp⟩
theorem tidyS_from {m : List W} (hm : ∀ r ∈ m, four r) : ∀ {R : List W}, Rref R → Rref (m.foldl adds R) ∧ ∀ x, In (m.foldl adds R) x ↔ In (m ++ R) x := by
  induction m with
  | nil => intro R h; exact ⟨h, fun x => Iff.rfl⟩
  | cons v m ih =>
    intro R h; obtain ⟨a, b⟩ := adds_rref h (hm v (by simp)); obtain ⟨c, d⟩ := ih (fun r hr => hm r (by simp [hr])) a; refine ⟨c, fun x => (d x).trans ?_⟩
    constructor
    · refine In.sub fun s hs => ?_
      rcases List.mem_append.1 hs with hs | hs
      · exact In.mem (by simp [hs])
      · exact In.le (fun q hq => by rcases List.mem_cons.1 hq with rfl | hq <;> simp [*]) ((b s).1 (In.mem hs))
    · refine In.sub fun s hs => ?_
      have key : ∀ q, In (v :: R) q → In (m ++ adds R v) q := fun q hq => In.le (fun y hy => List.mem_append_right _ hy) ((b q).2 hq)
      rcases List.mem_append.1 hs with hs | hs
      · rcases List.mem_cons.1 hs with rfl | hs
        · exact key _ (In.mem (by simp))
        · exact In.mem (by simp [hs])
      · exact key _ (In.mem (by simp [hs]))
theorem tidyS_rref {m : List W} (hm : ∀ r ∈ m, four r) : Rref (tidyS m) := (tidyS_from hm Rref.nil).1
theorem tidyS_in {m : List W} (hm : ∀ r ∈ m, four r) (x : W) : In (tidyS m) x ↔ In m x := by
  have := (tidyS_from hm Rref.nil).2 x
  rwa [List.append_nil] at this

/-! ### the other way: forward, then back, then in order -/
def push (R : List W) (v : W) : List W := if ld (red R v) = 4 then R else R ++ [unitize (red R v)]
def fwd (m : List W) : List W := m.foldl push []
theorem push_ech {R : List W} (h : Ech R) (hf : ∀ r ∈ R, four r) {v : W} (hv : four v) : Ech (push R v) ∧ (∀ r ∈ push R v, four r) ∧ (∀ x, In (push R v) x ↔ In (v :: R) x) := by
  unfold push
  split
  · rename_i hl
    refine ⟨h, hf, fun x => ⟨In.le fun r hr => by simp [hr], In.sub fun s hs => ?_⟩⟩
    rcases List.mem_cons.1 hs with rfl | hs
    · exact (in_iff_red h hf hv).2 hl
    · exact In.mem hs
  · rename_i hl
    have hlt : ld (red R v) < 4 := by have := ld_le (red R v); omega
    refine ⟨h.push v hlt, ?_, fun x => ⟨In.sub fun s hs => ?_, In.sub fun s hs => ?_⟩⟩
    · intro r hr
      rcases List.mem_append.1 hr with hr | hr
      · exact hf r hr
      · simp at hr; subst hr; exact unitize_four (red_four hf hv)
    · rcases List.mem_append.1 hs with hs | hs
      · exact In.mem (by simp [hs])
      · simp at hs; subst hs
        exact unitize_in (red_span (fun r hr => In.mem (by simp [hr])) (In.mem (by simp)))
    · rcases List.mem_cons.1 hs with rfl | hs
      · exact red_back (R := R) (fun r hr => In.mem (by simp [hr])) (unitize_back hlt (In.mem (by simp)))
      · exact In.mem (by simp [hs])
theorem fwd_from {m : List W} (hm : ∀ r ∈ m, four r) : ∀ {R : List W}, Ech R → (∀ r ∈ R, four r) → Ech (m.foldl push R) ∧ (∀ r ∈ m.foldl push R, four r) ∧ ∀ x, In (m.foldl push R) x ↔ In (m ++ R) x := by
  induction m with
  | nil => intro R h hf; exact ⟨h, hf, fun x => Iff.rfl⟩
  | cons v m ih =>
    intro R h hf; obtain ⟨a, a2, b⟩ := push_ech h hf (hm v (by simp)); obtain ⟨c, c2, d⟩ := ih (fun r hr => hm r (by simp [hr])) a a2; refine ⟨c, c2, fun x => (d x).trans ?_⟩
    constructor
    · refine In.sub fun s hs => ?_
      rcases List.mem_append.1 hs with hs | hs
      · exact In.mem (by simp [hs])
      · exact In.le (fun q hq => by rcases List.mem_cons.1 hq with rfl | hq <;> simp [*]) ((b s).1 (In.mem hs))
    · refine In.sub fun s hs => ?_
      have key : ∀ q, In (v :: R) q → In (m ++ push R v) q := fun q hq => In.le (fun y hy => List.mem_append_right _ hy) ((b q).2 hq)
      rcases List.mem_append.1 hs with hs | hs
      · rcases List.mem_cons.1 hs with rfl | hs
        · exact key _ (In.mem (by simp))
        · exact In.mem (by simp [hs])
      · exact key _ (In.mem (by simp [hs]))
theorem fwd_ech {m : List W} (hm : ∀ r ∈ m, four r) : Ech (fwd m) := (fwd_from (R := []) hm (show Ech [] from trivial) (by simp)).1
theorem fwd_four {m : List W} (hm : ∀ r ∈ m, four r) : ∀ r ∈ fwd m, four r := (fwd_from (R := []) hm (show Ech [] from trivial) (by simp)).2.1
theorem fwd_in {m : List W} (hm : ∀ r ∈ m, four r) (x : W) : In (fwd m) x ↔ In m x := by
  have := (fwd_from (R := []) hm (show Ech [] from trivial) (by simp)).2.2 x
  rwa [List.append_nil] at this
/-- one step back: row i out of all others -/
def elim (i : Nat) (R : List W) : List W := R.mapIdx fun j r => if j = i then r else less r (R.getD i zz)
theorem elim_len (i : Nat) (R : List W) : (elim i R).length = R.length := by simp [elim]
theorem elim_get (i : Nat) (R : List W) (j : Nat) (hj : j < R.length) : (elim i R)[j]'(by rw [elim_len]; exact hj) = if j = i then R[j] else less R[j] (R.getD i zz) := by
  simp [elim]
structure Back (R0 R : List W) (i : Nat) : Prop where
  len : R.length = R0.length
  lead : ∀ j (h : j < R.length), ld R[j] = ld (R0.getD j zz)
  one : ∀ j (h : j < R.length), R[j] (ld R[j]) = 1
  off : ∀ k j (hk : k < R.length) (hj : j < R.length), k < i → j ≠ k → R[j] (ld R[k]) = 0
  four : ∀ r ∈ R, four r
  span : ∀ x, In R x ↔ In R0 x
theorem Ech.apart {R : List W} (h : Ech R) : (R.map ld).Nodup := by
  induction R with
  | nil => simp
  | cons r R ih =>
    obtain ⟨h1, h2, h3, h4⟩ := h; rw [List.map_cons, List.nodup_cons]; refine ⟨fun hm => ?_, ih h4⟩; obtain ⟨s, hs, e⟩ := List.mem_map.1 hm
    have a := h3 s hs
    rw [← e, (h4.one s hs).2] at a; exact absurd a (by decide)
theorem Back.step {R0 R : List W} {i : Nat} (h0 : Ech R0) (h : Back R0 R i) (hi : i < R.length) : Back R0 (elim i R) (i + 1) := by
  have hlen := elim_len i R
  have hRi : R.getD i zz = R[i] := by simp [List.getD_eq_getElem?_getD, List.getElem?_eq_getElem hi]
  have h4 : ∀ j (hj : j < R.length), ld R[j] < 4 := fun j hj => by
    rcases Nat.lt_or_ge (ld R[j]) 4 with a | a
    · exact a
    · have e4 : ld R[j] = 4 := by have := ld_le R[j]; omega
      have := h.one j hj
      rw [e4, h.four R[j] (List.getElem_mem hj) 4 (by omega)] at this; exact absurd this (by decide)
  have hne : ∀ j (hj : j < R.length), j ≠ i → ld R[j] ≠ ld R[i] := fun j hj hji e => by
    have hnd := h0.apart
    have hnd := List.pairwise_iff_getElem.1 (show (R0.map ld).Pairwise (· ≠ ·) from hnd)
    have hl := h.len
    have g : ∀ k (hk : k < R.length) (hk2 : k < (R0.map ld).length), (R0.map ld)[k] = ld R[k] := fun k hk hk2 => by
      rw [h.lead k hk]
      simp [List.getD_eq_getElem?_getD, List.getElem?_eq_getElem (show k < R0.length by omega)]
    have l1 : j < (R0.map ld).length := by simp; omega
    have l2 : i < (R0.map ld).length := by simp; omega
    rcases Nat.lt_or_ge j i with hlt | hge
    · exact hnd j i l1 l2 hlt (by rw [g j hj, g i hi, e])
    · exact hnd i j l2 l1 (by omega) (by rw [g j hj, g i hi, e])
  have hld : ∀ j (hj : j < R.length), ld ((elim i R)[j]'(by rw [hlen]; exact hj)) = ld R[j] := fun j hj => by
    rw [elim_get i R j hj]
    split
    · rfl
    · rename_i hji
      rw [hRi]
      rcases Nat.lt_or_ge (ld R[j]) (ld R[i]) with a | a
      · exact less_ld (.inr a) (h4 i hi)
      · exact less_ld (.inl (ld_before (by have := hne j hj hji; omega))) (h4 i hi)
  refine ⟨by rw [hlen, h.len], fun j hj => ?_, fun j hj => ?_, fun k j hk hj hki hjk => ?_, fun r hr => ?_, fun x => ?_⟩
  · rw [hlen] at hj; rw [hld j hj]; exact h.lead j hj
  · rw [hlen] at hj; rw [hld j hj, elim_get i R j hj]
    split
    · exact h.one j hj
    · rename_i hji
      rw [hRi]
      by_cases hlt : ld R[j] < ld R[i]
      · rw [less_same (ld_before hlt)]; exact h.one j hj
      · have : R[j] (ld R[i]) = 0 := ld_before (by have := hne j hj hji; omega)
        have e : less R[j] R[i] = R[j] := by funext q; simp only [less, ax, this]; grind
        rw [e]; exact h.one j hj
  · rw [hlen] at hk hj; rw [hld k hk, elim_get i R j hj]
    by_cases hki2 : k = i
    · subst hki2
      rw [if_neg hjk, hRi]; exact less_at R[j] R[k] (h.one k hi)
    · split
      · rename_i e; subst e; exact h.off k j (by rw [hlen] at hk; exact hk) (by rw [hlen] at hj; exact hj) (by omega) hjk
      · rw [hRi]; exact less_keep (h.off k j hk hj (by omega) hjk) (h.off k i hk hi (by omega) (by omega))
  · obtain ⟨j, hj, rfl⟩ := List.mem_iff_getElem.1 hr
    rw [hlen] at hj; rw [elim_get i R j hj]
    split
    · exact h.four _ (List.getElem_mem hj)
    · rw [hRi]; exact four_ax (h.four _ (List.getElem_mem hj)) (h.four _ (List.getElem_mem hi)) _
  · refine Iff.trans ⟨In.sub fun s hs => ?_, In.sub fun s hs => ?_⟩ (h.span x)
    · obtain ⟨j, hj, rfl⟩ := List.mem_iff_getElem.1 hs
      rw [hlen] at hj; rw [elim_get i R j hj]
      split
      · exact In.mem (List.getElem_mem hj)
      · rw [hRi]; exact Sp.axpy (In.mem (List.getElem_mem hj)) (In.mem (List.getElem_mem hi)) _
    · obtain ⟨j, hj, rfl⟩ := List.mem_iff_getElem.1 hs
      have mi : In (elim i R) R[i] := by
        have := elim_get i R i hi
        rw [if_pos rfl] at this; rw [← this]; exact In.mem (List.getElem_mem _)
      by_cases hji : j = i
      · subst hji; exact mi
      · have mj : In (elim i R) (less R[j] R[i]) := by
          have := elim_get i R j hj
          rw [if_neg hji, hRi] at this; rw [← this]; exact In.mem (List.getElem_mem _)
        have e : R[j] = ax (less R[j] R[i]) (R[j] (ld R[i])) R[i] := by funext q; simp only [less, ax]; grind
        rw [e]; exact Sp.axpy mj mi _
end Go.Proofs.Ytfgpffocieegdaa.Lin

/- Plain mathematics: rows as lists of whole numbers. -/
namespace Go.Proofs.Ytfgpffocieegdaa.Lin

def toW (l : List Int) : W := fun i => toF (l.getD i 0)
/-- all numbers are of the field -/
def can (l : List Int) : Prop := ∀ x ∈ l, ok x = true
def vok (l : List Int) : Bool := l.length == 4 && l.all ok
def mok (m : List (List Int)) : Bool := decide (m.length ≤ 8) && m.all vok
theorem vok_iff {l : List Int} : vok l = true ↔ l.length = 4 ∧ can l := by simp [vok, can]
theorem mok_iff {m : List (List Int)} : mok m = true ↔ m.length ≤ 8 ∧ ∀ r ∈ m, vok r = true := by simp [mok]
def lsum (a b : List Int) : List Int := List.zipWith (fun x y => (x + y) % 31) a b
def lscale (v : List Int) (c : Int) : List Int := v.map fun x => x * c % 31
def llead (v : List Int) : Int := match v.findIdx? (fun x => decide (x ≠ 0)) with | some i => (i : Int) | none => -1
/-- the number at a place, the place whole -/
def gt (v : List Int) (p : Int) : Int := v.getD p.toNat 0
def lless (v w : List Int) : List Int := lsum v (lscale w ((31 - gt v (llead w) * inv (gt w (llead w)) % 31) % 31))
def linsert (v : List Int) : List (List Int) → List (List Int)
  | [] => [v]
  | r :: R => if llead v < llead r then v :: (r :: R).map (lless · v) else lless r v :: linsert v R
def ladd (t : List (List Int)) (v : List Int) : List (List Int) :=
  if llead (t.foldl lless v) < 0 then t else linsert (lscale (t.foldl lless v) (inv (gt (t.foldl lless v) (llead (t.foldl lless v))))) t
def ltidy (m : List (List Int)) : List (List Int) := m.foldl ladd []
def lhas (m : List (List Int)) (v : List Int) : Bool := (ladd (ltidy m) v).length == (ltidy m).length
def lfirst (m : List (List Int)) : List Nat := (List.range m.length).filter fun i => !lhas (m.take i) (m.getD i [])

theorem can_get {l : List Int} (h : can l) (i : Nat) : ok (l.getD i 0) = true := by
  rw [List.getD_eq_getElem?_getD]
  rcases Nat.lt_or_ge i l.length with hi | hi
  · rw [List.getElem?_eq_getElem hi]; exact h _ (List.getElem_mem hi)
  · rw [List.getElem?_eq_none hi]; decide
theorem toW_four {l : List Int} (h : l.length = 4) : four (toW l) := fun i hi => by
  unfold toW; rw [List.getD_eq_getElem?_getD, List.getElem?_eq_none (by omega)]; rfl
theorem can_lsum (a b : List Int) : can (lsum a b) := fun x hx => by
  unfold lsum at hx; obtain ⟨i, hi, rfl⟩ := List.mem_iff_getElem.1 hx; rw [List.getElem_zipWith]; exact mod_ok _
theorem can_lscale (a : List Int) (c : Int) : can (lscale a c) := fun x hx => by
  unfold lscale at hx; obtain ⟨y, _, rfl⟩ := List.mem_map.1 hx; exact mod_ok _
theorem lsum_len {a b : List Int} (h : a.length = b.length) : (lsum a b).length = a.length := by simp [lsum, h]
theorem lscale_len (a : List Int) (c : Int) : (lscale a c).length = a.length := by simp [lscale]
theorem toW_lsum {a b : List Int} (h : a.length = b.length) (i : Nat) : toW (lsum a b) i = toW a i + toW b i := by
  unfold toW lsum; simp only [List.getD_eq_getElem?_getD, List.getElem?_zipWith]
  rcases Nat.lt_or_ge i a.length with hi | hi
  · rw [List.getElem?_eq_getElem hi, List.getElem?_eq_getElem (by omega)]
    simp only [Option.getD_some, toF_mod, toF_add]
  · rw [List.getElem?_eq_none hi, List.getElem?_eq_none (by omega)]; rfl
theorem toW_lscale (a : List Int) (c : Int) (i : Nat) : toW (lscale a c) i = toW a i * toF c := by
  unfold toW lscale; simp only [List.getD_eq_getElem?_getD, List.getElem?_map]
  rcases Nat.lt_or_ge i a.length with hi | hi
  · rw [List.getElem?_eq_getElem hi]; simp only [Option.map_some, Option.getD_some, toF_mod, toF_mul]
  · rw [List.getElem?_eq_none hi]; simp only [Option.map_none, Option.getD_none, toF_zero]; grind
/-! ### where a list begins -/
theorem llead_cases (v : List Int) : (llead v = -1 ∧ ∀ i, v.getD i 0 = 0) ∨ ∃ i, i < v.length ∧ llead v = (i : Int) ∧ v.getD i 0 ≠ 0 ∧ ∀ j, j < i → v.getD j 0 = 0 := by
  unfold llead
  cases h : v.findIdx? (fun x => decide (x ≠ 0)) with
  | none =>
    left
    refine ⟨rfl, fun i => ?_⟩; rw [List.findIdx?_eq_none_iff] at h; rw [List.getD_eq_getElem?_getD]
    rcases Nat.lt_or_ge i v.length with hi | hi
    · rw [List.getElem?_eq_getElem hi]
      have := h _ (List.getElem_mem hi)
      simpa using this
    · rw [List.getElem?_eq_none hi]; rfl
  | some i =>
    right
    rw [List.findIdx?_eq_some_iff_getElem] at h; obtain ⟨hi, h1, h2⟩ := h; refine ⟨i, hi, rfl, ?_, fun j hj => ?_⟩
    · rw [List.getD_eq_getElem?_getD, List.getElem?_eq_getElem hi]; simpa using h1
    · rw [List.getD_eq_getElem?_getD, List.getElem?_eq_getElem (by omega)]; have := h2 j hj; simpa using this
theorem toW_zero_iff {v : List Int} (h : can v) (i : Nat) : toW v i = 0 ↔ v.getD i 0 = 0 := toF_ne_zero (ok_iff.1 (can_get h i))
theorem llead_ld {v : List Int} (h : can v) (hl : ld (toW v) < 4) : llead v = (ld (toW v) : Int) := by
  have h1 := ld_at hl
  have h2 := fun i (hi : i < ld (toW v)) => ld_before hi
  rw [Ne, toW_zero_iff h] at h1
  rcases llead_cases v with ⟨_, hz⟩ | ⟨i, _, e, hn, hb⟩
  · exact absurd (hz _) h1
  · rw [e]
    rcases Nat.lt_trichotomy i (ld (toW v)) with a | a | a
    · exact absurd ((toW_zero_iff h i).1 (h2 i a)) hn
    · rw [← a]
    · exact absurd (hb _ a) h1
theorem llead_four {v : List Int} (h : can v) (hl : ld (toW v) = 4) : llead v = -1 ∨ 4 ≤ llead v := by
  rcases llead_cases v with ⟨e, _⟩ | ⟨i, _, e, hn, _⟩
  · exact .inl e
  · right
    rcases Nat.lt_or_ge i 4 with a | a
    · exact absurd ((toW_zero_iff h i).1 (ld_four_iff.1 hl i a)) hn
    · rw [e]; omega
theorem llead_neg {v : List Int} (h : vok v = true) : llead v < 0 ↔ ld (toW v) = 4 := by
  obtain ⟨h4, hc⟩ := vok_iff.1 h
  constructor
  · intro hn
    rcases Nat.lt_or_ge (ld (toW v)) 4 with a | a
    · have := llead_ld hc a; omega
    · have := ld_le (toW v); omega
  · intro hl
    rcases llead_cases v with ⟨e, _⟩ | ⟨i, hi, e, hn, _⟩
    · omega
    · exact absurd ((toW_zero_iff hc i).1 (ld_four_iff.1 hl i (by omega))) hn
theorem gt_nat (v : List Int) (i : Nat) : gt v (i : Int) = v.getD i 0 := by unfold gt; rw [Int.toNat_natCast]
theorem neg_coef (x : Int) : toF ((31 - x % 31) % 31) = -(toF x) := by
  have : toF ((31 - x % 31) % 31) = toF (x * (-1)) := by rw [toF_eq]; omega
  rw [this, toF_mul, show toF (-1) = -1 from rfl]; grind
theorem vok_lscale {a : List Int} (ha : a.length = 4) (c : Int) : vok (lscale a c) = true := vok_iff.2 ⟨by rw [lscale_len]; exact ha, can_lscale a c⟩
theorem lless_len {v w : List Int} (h : v.length = w.length) : (lless v w).length = v.length := by
  unfold lless; rw [lsum_len (by rw [lscale_len]; exact h)]
theorem can_lless (v w : List Int) : can (lless v w) := can_lsum _ _
/-- less, by rows that begin at p -/
theorem toW_lless_at {v w : List Int} (hl : v.length = w.length) (hw : can w) {p : Nat} (hp : llead w = (p : Int)) (i : Nat) : toW (lless v w) i = toW v i + -(toW v p * finv (toW w p)) * toW w i := by
  unfold lless; rw [toW_lsum (by rw [lscale_len]; exact hl), toW_lscale, hp, gt_nat, gt_nat, neg_coef, toF_mul, ← finv_toF (can_get hw p)]
  show toW v i + toW w i * -(toW v p * finv (toW w p)) = _
  grind
theorem finv_one : finv 1 = 1 := by decide
theorem toW_lless {v w : List Int} (hl : v.length = w.length) (hw : can w) (hp : ld (toW w) < 4) (h1 : toW w (ld (toW w)) = 1) : toW (lless v w) = less (toW v) (toW w) := by
  funext i
  rw [toW_lless_at hl hw (llead_ld hw hp), h1, finv_one]; simp only [less, ax]; grind
def Unit1 (w : List Int) : Prop := vok w = true ∧ ld (toW w) < 4 ∧ toW w (ld (toW w)) = 1
theorem vok_lless {v w : List Int} (hv : vok v = true) (hw : vok w = true) : vok (lless v w) = true := by
  have h1 := (vok_iff.1 hv).1; have h2 := (vok_iff.1 hw).1
  exact vok_iff.2 ⟨by rw [lless_len (by omega)]; exact h1, can_lless v w⟩
theorem foldl_less {t : List (List Int)} (ht : ∀ r ∈ t, Unit1 r) : ∀ {v : List Int}, vok v = true → vok (t.foldl lless v) = true ∧ toW (t.foldl lless v) = red (t.map toW) (toW v) := by
  induction t with
  | nil => intro v hv; exact ⟨hv, rfl⟩
  | cons r t ih =>
    intro v hv; obtain ⟨hr, h1, h2⟩ := ht r (by simp)
    have e := toW_lless (v := v) (by rw [(vok_iff.1 hv).1, (vok_iff.1 hr).1]) (vok_iff.1 hr).2 h1 h2
    obtain ⟨a, b⟩ := ih (fun s hs => ht s (by simp [hs])) (vok_lless hv hr); refine ⟨a, ?_⟩; rw [List.foldl_cons, b, e]; rfl
theorem linsert_toW {v : List Int} (hv : Unit1 v) {t : List (List Int)} (ht : ∀ r ∈ t, Unit1 r) : (linsert v t).map toW = insr (toW v) (t.map toW) ∧ ∀ r ∈ linsert v t, vok r = true := by
  induction t with
  | nil => exact ⟨rfl, by simp [linsert]; exact hv.1⟩
  | cons r t ih =>
    obtain ⟨hv1, hv2, hv3⟩ := hv; obtain ⟨hr1, hr2, hr3⟩ := ht r (by simp)
    have e : ∀ s ∈ r :: t, toW (lless s v) = less (toW s) (toW v) := fun s hs => by
      have := (ht s hs).1
      exact toW_lless (by rw [(vok_iff.1 this).1, (vok_iff.1 hv1).1]) (vok_iff.1 hv1).2 hv2 hv3
    have hc : llead v < llead r ↔ ld (toW v) < ld (toW r) := by
      rw [llead_ld (vok_iff.1 hv1).2 hv2, llead_ld (vok_iff.1 hr1).2 hr2]; omega
    obtain ⟨i1, i2⟩ := ih (fun s hs => ht s (by simp [hs])); have q1 : linsert v (r :: t) = if llead v < llead r then v :: (r :: t).map (lless · v) else lless r v :: linsert v t := rfl; have q2 : insr (toW v) ((r :: t).map toW) = if ld (toW v) < ld (toW r) then toW v :: ((r :: t).map toW).map (less · (toW v)) else less (toW r) (toW v) :: insr (toW v) (t.map toW) := rfl; rw [q1, q2]
    by_cases h : llead v < llead r
    · rw [if_pos h, if_pos (hc.1 h)]
      refine ⟨?_, ?_⟩
      · rw [List.map_cons, List.map_map, List.map_map]
        congr 1
        exact List.map_congr_left e
      · intro s hs
        rcases List.mem_cons.1 hs with rfl | hs
        · exact hv1
        · obtain ⟨q, hq, rfl⟩ := List.mem_map.1 hs
          exact vok_lless (ht q hq).1 hv1
    · rw [if_neg h, if_neg (fun k => h (hc.2 k))]
      refine ⟨by rw [List.map_cons, i1, e r (by simp)], fun s hs => ?_⟩
      rcases List.mem_cons.1 hs with rfl | hs
      · exact vok_lless hr1 hv1
      · exact i2 s hs
theorem unit_of_rref {t : List (List Int)} (hv : ∀ r ∈ t, vok r = true) (h : Rref (t.map toW)) : ∀ r ∈ t, Unit1 r := fun r hr => ⟨hv r hr, h.one _ (List.mem_map_of_mem hr)⟩
theorem unitize_list {x : List Int} (hx : vok x = true) (hl : ld (toW x) < 4) : toW (lscale x (inv (gt x (llead x)))) = unitize (toW x) := by
  funext i
  have hc := (vok_iff.1 hx).2
  rw [toW_lscale, llead_ld hc hl, gt_nat, ← finv_toF (can_get hc _)]
  show toW x i * finv (toW x (ld (toW x))) = finv (toW x (ld (toW x))) * toW x i
  grind
theorem ladd_toW {t : List (List Int)} (hv : ∀ r ∈ t, vok r = true) (h : Rref (t.map toW)) {v : List Int} (hvv : vok v = true) :
    (ladd t v).map toW = adds (t.map toW) (toW v) ∧ ∀ r ∈ ladd t v, vok r = true := by
  have hu := unit_of_rref hv h
  obtain ⟨a, b⟩ := foldl_less hu hvv; unfold ladd adds; rw [← b]; generalize t.foldl lless v = x at *
  by_cases hl : ld (toW x) = 4
  · rw [if_pos ((llead_neg a).2 hl), if_pos hl]; exact ⟨rfl, hv⟩
  · rw [if_neg (fun k => hl ((llead_neg a).1 k)), if_neg hl]
    have hlt : ld (toW x) < 4 := by have := ld_le (toW x); omega
    have e := unitize_list a hlt
    have hx : Unit1 (lscale x (inv (gt x (llead x)))) := ⟨vok_lscale (vok_iff.1 a).1 _, by rw [e, unitize_ld]; exact hlt, by rw [e]; exact unitize_one hlt⟩; rw [← e]; exact linsert_toW hx hu
theorem ltidy_from {m : List (List Int)} (hm : ∀ r ∈ m, vok r = true) : ∀ {t : List (List Int)}, (∀ r ∈ t, vok r = true) → Rref (t.map toW) → (m.foldl ladd t).map toW = (m.map toW).foldl adds (t.map toW) ∧ ∀ r ∈ m.foldl ladd t, vok r = true := by
  induction m with
  | nil => intro t ht _; exact ⟨rfl, ht⟩
  | cons v m ih =>
    intro t ht h
    have hv := hm v (by simp)
    obtain ⟨a, b⟩ := ladd_toW ht h hv
    have h2 := (adds_rref h (toW_four (vok_iff.1 hv).1)).1
    obtain ⟨c, d⟩ := ih (fun r hr => hm r (by simp [hr])) b (by rw [a]; exact h2); refine ⟨?_, d⟩; rw [List.foldl_cons, c, a]; rfl
theorem toW_fours {m : List (List Int)} (hm : ∀ r ∈ m, vok r = true) : ∀ r ∈ m.map toW, four r := fun r hr => by
  obtain ⟨q, hq, rfl⟩ := List.mem_map.1 hr; exact toW_four (vok_iff.1 (hm q hq)).1
theorem ltidy_toW {m : List (List Int)} (hm : ∀ r ∈ m, vok r = true) : (ltidy m).map toW = tidyS (m.map toW) ∧ ∀ r ∈ ltidy m, vok r = true :=
  ltidy_from hm (by simp) Rref.nil
theorem ltidy_rref {m : List (List Int)} (hm : ∀ r ∈ m, vok r = true) : Rref ((ltidy m).map toW) := by
  rw [(ltidy_toW hm).1]; exact tidyS_rref (toW_fours hm)
theorem ltidy_in {m : List (List Int)} (hm : ∀ r ∈ m, vok r = true) (x : W) : In ((ltidy m).map toW) x ↔ In (m.map toW) x := by
  rw [(ltidy_toW hm).1]; exact tidyS_in (toW_fours hm) x
theorem insr_len (x : W) (R : List W) : (insr x R).length = R.length + 1 := by
  induction R with
  | nil => rfl
  | cons r R ih => unfold insr; split <;> simp [ih]
/-- IS IT MADE OF THEM? -/
theorem lhas_iff {m : List (List Int)} (hm : ∀ r ∈ m, vok r = true) {v : List Int} (hv : vok v = true) : lhas m v = true ↔ In (m.map toW) (toW v) := by
  have hr := ltidy_rref hm
  have h4 : four (toW v) := toW_four (vok_iff.1 hv).1
  have hl : (ladd (ltidy m) v).length = (adds ((ltidy m).map toW) (toW v)).length := by
    rw [← (ladd_toW (ltidy_toW hm).2 hr hv).1, List.length_map]
  unfold lhas; rw [beq_iff_eq, hl, ← ltidy_in hm, in_iff_red hr.ech hr.four h4]; unfold adds
  split
  · rename_i h; simp [h]
  · rename_i h; rw [insr_len]; simp [h]
end Go.Proofs.Ytfgpffocieegdaa.Lin

/- Plain mathematics: how often each row is taken; in one way alone, of rows that are not made of those ahead. -/
namespace Go.Proofs.Ytfgpffocieegdaa.Lin

/-- each row so often -/
def comb (c : Nat → F) : List W → W
  | [] => zz
  | r :: R => ax (comb (fun j => c (j + 1)) R) (c 0) r
theorem comb_congr {c c' : Nat → F} : ∀ {R : List W}, (∀ j, j < R.length → c j = c' j) → comb c R = comb c' R
  | [], _ => rfl
  | r :: R, h => by
    show ax _ _ _ = ax _ _ _
    rw [h 0 (by simp), comb_congr (R := R) (fun j hj => h (j + 1) (by simp; omega))]
theorem comb_zero {c : Nat → F} {R : List W} (h : ∀ j, j < R.length → c j = 0) : comb c R = zz := by
  induction R generalizing c with
  | nil => rfl
  | cons r R ih =>
    show ax _ _ _ = _
    rw [ih (fun j hj => h (j + 1) (by simp; omega)), h 0 (by simp)]
    funext i; simp only [ax, zz]; grind
theorem comb_ax (c : Nat → F) (d : F) (c' : Nat → F) (R : List W) : comb (fun j => c j + d * c' j) R = ax (comb c R) d (comb c' R) := by
  induction R generalizing c c' with
  | nil => funext i; simp only [comb, ax, zz]; grind
  | cons r R ih =>
    show ax (comb (fun j => c (j + 1) + d * c' (j + 1)) R) _ r = _
    rw [ih]; funext i
    show (_ + _) + _ = (_ + _) + _ * (_ + _)
    grind
theorem comb_in (c : Nat → F) (R : List W) : In R (comb c R) := by
  induction R generalizing c with
  | nil => exact Sp.zero
  | cons r R ih => exact Sp.step (In.le (fun s hs => List.mem_cons_of_mem _ hs) (ih _)) (by simp) _
theorem comb_single (R : List W) (n : Nat) (hn : n < R.length) (c : Nat → F) (h0 : ∀ j, j < R.length → j ≠ n → c j = 0) (h1 : c n = 1) : comb c R = R[n] := by
  induction R generalizing n c with
  | nil => simp at hn
  | cons r R ih =>
    show ax _ _ _ = _
    cases n with
    | zero =>
      rw [comb_zero (fun j hj => h0 (j + 1) (by simp; omega) (by omega)), h1]
      funext i; simp only [ax, zz, List.getElem_cons_zero]; grind
    | succ n =>
      rw [ih n (by simpa using hn) (fun j => c (j + 1)) (fun j hj hne => h0 (j + 1) (by simp; omega) (by omega)) h1, h0 0 (by simp) (by omega)]
      funext i; simp only [ax, List.getElem_cons_succ]; grind
/-- a row that is not made of those ahead -/
def IsPiv (m : List W) (j : Nat) : Prop := j < m.length ∧ ¬ In (m.take j) (m.getD j zz)
theorem take_snoc (m : List W) {n : Nat} (hn : n < m.length) : m.take (n + 1) = m.take n ++ [m.getD n zz] := by
  rw [List.take_succ_eq_append_getElem hn, List.getD_eq_getElem?_getD, List.getElem?_eq_getElem hn]; rfl
/-! ### rows with a tail that tells how often each was taken -/
def tail (z : W) : W := fun j => z (4 + j)
def res4 (z : W) : W := fun i => if i < 4 then z i else 0
theorem res4_four (z : W) : four (res4 z) := fun i hi => by simp only [res4]; rw [if_neg (by omega)]
theorem res4_at {z : W} {i : Nat} (h : i < 4) : res4 z i = z i := by simp only [res4, if_pos h]
theorem res4_self {z : W} (h : four z) : res4 z = z := four_eq (res4_four z) h fun i hi => res4_at hi
theorem res4_ld (z : W) : ld (res4 z) = ld z := ld_congr fun i hi => res4_at hi
theorem res4_ax (x : W) (c : F) (y : W) : res4 (ax x c y) = ax (res4 x) c (res4 y) := by
  funext i; simp only [res4, ax]; split <;> grind
theorem res4_less (x r : W) : res4 (less x r) = less (res4 x) (res4 r) := by
  unfold less; rw [res4_ax, res4_ld]
  by_cases h : ld r < 4
  · rw [res4_at h]
  · have h4 : ld r = 4 := by have := ld_le r; omega
    have e : res4 r = zz := four_zero (res4_four r) (by rw [res4_ld]; exact h4); rw [e]; funext i; simp only [ax, zz]; grind
theorem res4_red (R : List W) (x : W) : res4 (red R x) = red (R.map res4) (res4 x) := by
  induction R generalizing x with
  | nil => rfl
  | cons r R ih => rw [red_cons, ih, res4_less]; rfl
theorem res4_unitize (x : W) : res4 (unitize x) = unitize (res4 x) := by
  funext i
  have hl := res4_ld x
  by_cases h : ld x < 4
  · have : res4 x (ld x) = x (ld x) := res4_at h
    simp only [unitize, hl, this]; simp only [res4]
    split
    · rfl
    · grind
  · have h4 : ld x = 4 := by have := ld_le x; omega
    have e : res4 x = zz := four_zero (res4_four x) (by rw [hl]; exact h4)
    have e2 : ∀ i, i < 4 → x i = 0 := ld_four_iff.1 h4
    have e3 : unitize (res4 x) i = 0 := by rw [e]; simp only [unitize, zz]; grind
    rw [e3]; simp only [res4]
    split
    · rename_i hi; simp only [unitize, e2 i hi]; grind
    · rfl
/-- what stands in front is made of the rows as the tail tells -/
def Cons (m : List W) (z : W) : Prop := res4 z = comb (tail z) m
theorem Cons.ax {m : List W} {x y : W} (hx : Cons m x) (hy : Cons m y) (c : F) : Cons m (ax x c y) := by
  unfold Cons at *; rw [res4_ax, hx, hy, ← comb_ax]; rfl
theorem Cons.zz (m : List W) : Cons m zz := by
  unfold Cons; rw [comb_zero (c := tail Lin.zz) (fun _ _ => rfl)]
  exact res4_self fun _ _ => rfl
theorem Cons.less {m : List W} {x y : W} (hx : Cons m x) (hy : Cons m y) : Cons m (less x y) := Cons.ax hx hy _
theorem Cons.red {m R : List W} (hR : ∀ r ∈ R, Cons m r) {x : W} (hx : Cons m x) : Cons m (red R x) := by
  induction R generalizing x with
  | nil => exact hx
  | cons r R ih => exact ih (fun s hs => hR s (by simp [hs])) (hx.less (hR r (by simp)))
theorem Cons.unitize {m : List W} {x : W} (hx : Cons m x) : Cons m (unitize x) := by
  have e : Lin.unitize x = Lin.ax Lin.zz (finv (x (ld x))) x := by funext i; simp only [Lin.unitize, Lin.ax, Lin.zz]; grind
  rw [e]; exact Cons.ax (Cons.zz m) hx _
/-- the tail has 0 at other places than those -/
def Supp (S : Nat → Prop) (z : W) : Prop := ∀ j, ¬ S j → tail z j = 0
theorem Supp.ax {S : Nat → Prop} {x y : W} (hx : Supp S x) (hy : Supp S y) (c : F) : Supp S (ax x c y) := fun j hj => by
  have a := hx j hj; have b := hy j hj
  simp only [tail, Lin.ax] at *; rw [a, b]; grind
theorem Supp.red {S : Nat → Prop} {R : List W} (hR : ∀ r ∈ R, Supp S r) {x : W} (hx : Supp S x) : Supp S (red R x) := by
  induction R generalizing x with
  | nil => exact hx
  | cons r R ih => exact ih (fun s hs => hR s (by simp [hs])) (hx.ax (hR r (by simp)) _)
theorem Supp.unitize {S : Nat → Prop} {x : W} (hx : Supp S x) : Supp S (unitize x) := fun j hj => by
  have a := hx j hj; simp only [tail, Lin.unitize] at *; rw [a]; grind
theorem Supp.mono {S T : Nat → Prop} {x : W} (hx : Supp S x) (h : ∀ j, S j → T j) : Supp T x := fun j hj => hx j fun k => hj (h j k)

/-! ### the program's way: forward, the tails beside -/
/-- row n with its tail -/
def aug (m : List W) (n : Nat) : W := fun i => if i < 4 then m.getD n zz i else if i = 4 + n then 1 else 0
theorem aug_res4 {m : List W} (hm : ∀ r ∈ m, four r) {n : Nat} (hn : n < m.length) : res4 (aug m n) = m.getD n zz := by
  have h4 : four (m.getD n zz) := by rw [List.getD_eq_getElem?_getD, List.getElem?_eq_getElem hn]; exact hm _ (List.getElem_mem hn)
  refine four_eq (res4_four _) h4 fun i hi => ?_
  rw [res4_at hi]; simp only [aug, if_pos hi]
theorem aug_cons {m : List W} (hm : ∀ r ∈ m, four r) {n : Nat} (hn : n < m.length) : Cons m (aug m n) := by
  unfold Cons; rw [aug_res4 hm hn, comb_single m n hn]
  · rw [List.getD_eq_getElem?_getD, List.getElem?_eq_getElem hn]; rfl
  · intro j hj hne; simp only [tail, aug]; rw [if_neg (by omega), if_neg (by omega)]
  · simp only [tail, aug]; rw [if_neg (by omega)]; simp
/-- the kept rows behind the first n -/
def kept (m : List W) (n : Nat) : List W := ((List.range n).map (aug m)).foldl push []
theorem kept_succ (m : List W) (n : Nat) : kept m (n + 1) = push (kept m n) (aug m n) := by simp [kept, List.range_succ]
/-- which rows are kept -/
def piv (m : List W) (n : Nat) : List Nat := (List.range n).filter fun j => decide (ld (red (kept m j) (aug m j)) < 4)
theorem piv_succ (m : List W) (n : Nat) : piv m (n + 1) = piv m n ++ (if ld (red (kept m n) (aug m n)) < 4 then [n] else []) := by
  unfold piv; rw [List.range_succ, List.filter_append]
  congr 1
  by_cases h : ld (red (kept m n) (aug m n)) < 4
  · simp [h]
  · simp [h]
theorem push_res4 (R : List W) (z : W) : (push R z).map res4 = push (R.map res4) (res4 z) := by
  unfold push; rw [← res4_red, res4_ld]
  split
  · rfl
  · rw [List.map_append, List.map_singleton, res4_unitize]
theorem kept_res4 {m : List W} (hm : ∀ r ∈ m, four r) : ∀ n, n ≤ m.length → (kept m n).map res4 = fwd (m.take n) := by
  intro n
  induction n with
  | zero => intro _; rfl
  | succ n ih =>
    intro hn; rw [kept_succ, push_res4, ih (by omega), aug_res4 hm (by omega), take_snoc m (by omega)]; unfold fwd; rw [List.foldl_append]; rfl
theorem fours_take {m : List W} (hm : ∀ r ∈ m, four r) (n : Nat) : ∀ r ∈ m.take n, four r := fun r hr => hm r (List.mem_of_mem_take hr)
theorem four_getD {m : List W} (hm : ∀ r ∈ m, four r) (n : Nat) : four (m.getD n zz) := by
  rw [List.getD_eq_getElem?_getD]
  rcases Nat.lt_or_ge n m.length with hn | hn
  · rw [List.getElem?_eq_getElem hn]; exact hm _ (List.getElem_mem hn)
  · rw [List.getElem?_eq_none hn]; exact fun _ _ => rfl
/-- a row is kept just if it is not made of those ahead -/
theorem kept_iff {m : List W} (hm : ∀ r ∈ m, four r) {n : Nat} (hn : n < m.length) : ld (red (kept m n) (aug m n)) = 4 ↔ In (m.take n) (m.getD n zz) := by
  rw [← res4_ld, res4_red, kept_res4 hm n (by omega), aug_res4 hm hn, ← in_iff_red (fwd_ech (fours_take hm n)) (fwd_four (fours_take hm n)) (four_getD hm n), fwd_in (fours_take hm n)]
theorem piv_iff {m : List W} (hm : ∀ r ∈ m, four r) {j : Nat} (hj : j < m.length) : ld (red (kept m j) (aug m j)) < 4 ↔ IsPiv m j := by
  have := kept_iff hm hj
  have h2 := ld_le (red (kept m j) (aug m j))
  unfold IsPiv; rw [← this]
  constructor
  · intro h; exact ⟨hj, by omega⟩
  · intro h; have := h.2; omega
theorem kept_cons {m : List W} (hm : ∀ r ∈ m, four r) : ∀ n, n ≤ m.length → ∀ r ∈ kept m n, Cons m r ∧ Supp (fun j => j < n ∧ IsPiv m j) r := by
  intro n
  induction n with
  | zero => intro _ r hr; simp [kept] at hr
  | succ n ih =>
    intro hn r hr
    have ih := ih (by omega)
    rw [kept_succ] at hr; unfold push at hr
    split at hr
    · exact ⟨(ih r hr).1, (ih r hr).2.mono fun j h => ⟨by omega, h.2⟩⟩
    · rename_i hl
      rcases List.mem_append.1 hr with hr | hr
      · exact ⟨(ih r hr).1, (ih r hr).2.mono fun j h => ⟨by omega, h.2⟩⟩
      · simp at hr; subst hr
        have hp : IsPiv m n := (piv_iff hm (by omega)).1 (by have := ld_le (red (kept m n) (aug m n)); omega); refine ⟨(Cons.red (fun s hs => (ih s hs).1) (aug_cons hm (by omega))).unitize, (Supp.red (fun s hs => (ih s hs).2.mono fun j h => ⟨by omega, h.2⟩) fun j hj => ?_).unitize⟩
        have hne : j ≠ n := fun e => hj ⟨by omega, e ▸ hp⟩
        simp only [tail, aug]; rw [if_neg (by omega), if_neg (by omega)]
/-- HOW OFTEN EACH, AS THE PROGRAM TELLS IT -/
theorem by_kept {m : List W} (hm : ∀ r ∈ m, four r) {v : W} (hv : four v) :
    (ld (red (kept m m.length) v) = 4 ↔ In m v) ∧
    (In m v → comb (fun j => -(tail (red (kept m m.length) v) j)) m = v) ∧ ∀ j, ¬ IsPiv m j → tail (red (kept m m.length) v) j = 0 := by
  have hk := kept_res4 hm m.length (Nat.le_refl _)
  rw [List.take_length] at hk
  have h1 : ld (red (kept m m.length) v) = 4 ↔ In m v := by
    rw [← res4_ld, res4_red, hk, res4_self hv, ← in_iff_red (fwd_ech hm) (fwd_four hm) hv, fwd_in hm]
  refine ⟨h1, fun hi => ?_, fun j hj => ?_⟩
  · have h4 : res4 (red (kept m m.length) v) = zz := four_zero (res4_four _) (by rw [res4_ld]; exact h1.2 hi)
    obtain ⟨u, hu, e⟩ := red_in (kept m m.length) v
    have hc : Cons m u := by
      have : ∀ x, In (kept m m.length) x → Cons m x := fun x hx => by
        induction hx with
        | zero => exact Cons.zz m
        | step _ hr c ih => exact Cons.ax ih ((kept_cons hm m.length (Nat.le_refl _) _ hr).1) c
      exact this u hu
    have hu4 : ∀ i, i < 4 → v i + u i = 0 := fun i hi => by
      have := congrFun h4 i
      rw [res4_at hi, e] at this; simp only [ax, zz] at this
      grind
    have ht : ∀ j, tail (red (kept m m.length) v) j = tail u j := fun j => by
      rw [e]; simp only [tail, ax, hv (4 + j) (by omega)]; grind
    have hin : four (comb (fun j => -(tail (red (kept m m.length) v) j)) m) := four_in hm (comb_in _ _)
    refine four_eq hin hv fun i hi => ?_
    have e2 : comb (fun j => -(tail (red (kept m m.length) v) j)) m = ax zz (-1) (comb (tail u) m) := by
      rw [← comb_zero (c := fun _ => 0) (R := m) (fun _ _ => rfl), ← comb_ax]
      apply comb_congr; intro j _; rw [ht j]; grind
    rw [e2, ← (show res4 u = comb (tail u) m from hc)]
    have := hu4 i hi
    simp only [ax, zz, res4_at hi]; grind
  · refine Supp.red (S := IsPiv m) (fun r hr => (kept_cons hm m.length (Nat.le_refl _) r hr).2.mono fun j h => h.2) (fun j _ => ?_) j hj
    exact hv (4 + j) (by omega)
end Go.Proofs.Ytfgpffocieegdaa.Lin

/- Plain mathematics: the other way to tell how often each row is taken, column by column. -/
namespace Go.Proofs.Ytfgpffocieegdaa.Lin

/-- x less so many times r, so that it has 0 at place p -/
def lessP (p : Nat) (x r : W) : W := ax x (-(x p * finv (r p))) r
theorem lessP_at {p : Nat} {x r : W} (h : r p ≠ 0) : lessP p x r p = 0 := by
  have := finv_mul _ h
  simp only [lessP, ax]; grind
theorem lessP_same {p : Nat} {x r : W} {j : Nat} (h : r j = 0) : lessP p x r j = x j := by simp only [lessP, ax, h]; grind
theorem lessP_zero {p : Nat} {x r : W} (h : x p = 0) : lessP p x r = x := by funext j; simp only [lessP, ax, h]; grind
/-- where the way has come to place p -/
structure GJ (m : List W) (v : W) (p : Nat) (R : List W) (x : W) : Prop where
  cons : ∀ r ∈ R, Cons m r
  rest : Cons m (ax x (-1) v)
  span : ∀ y, In (R.map res4) y ↔ In m y
  piv : ∀ q, q < p → (∃ i, ∃ h : i < R.length, ld R[i] = q ∧ (∀ k (hk : k < R.length), k ≠ i → R[k] q = 0) ∧ x q = 0) ∨ ∀ k (hk : k < R.length), ld R[k] ≠ q
theorem GJ.skip {m R : List W} {v x : W} {p : Nat} (h : GJ m v p R x) (hn : ∀ k (hk : k < R.length), ld R[k] ≠ p) : GJ m v (p + 1) R x :=
  ⟨h.cons, h.rest, h.span, fun q hq => by
    rcases Nat.lt_or_ge q p with a | a
    · exact h.piv q a
    · have : q = p := by omega
      subst this; exact .inr hn⟩
theorem GJ.step {m R R' : List W} {v x x' : W} {p : Nat} (hp : p < 4) (h : GJ m v p R x) {i : Nat} (hi : i < R.length) (hl : ld R[i] = p)
    (hlen : R'.length = R.length) (hR' : ∀ k (hk : k < R.length), R'[k] = if k = i then R[k] else lessP p R[k] R[i]) (hx' : x' = lessP p x R[i]) : GJ m v (p + 1) R' x' := by
  have hip : R[i] p ≠ 0 := by have := ld_at (x := R[i]) (by omega); rwa [hl] at this
  have hib : ∀ j, j < p → R[i] j = 0 := fun j hj => ld_before (by omega)
  have hsame : ∀ k (hk : k < R.length) j, j < p → (R'[k]'(by omega)) j = R[k] j := fun k hk j hj => by
    rw [hR' k hk]
    split
    · rfl
    · exact lessP_same (hib j hj)
  have hlow : ∀ k (hk : k < R.length) q, q < p → (ld (R'[k]'(by omega)) = q ↔ ld R[k] = q) := fun k hk q hq => by
    constructor
    · intro e
      refine ld_eq (by omega) ?_ (fun j hj => ?_)
      · rw [← hsame k hk q hq, ← e]; exact ld_at (by omega)
      · rw [← hsame k hk j (by omega)]; exact ld_before (by omega)
    · intro e
      refine ld_eq (by omega) ?_ (fun j hj => ?_)
      · rw [hsame k hk q hq, ← e]; exact ld_at (by omega)
      · rw [hsame k hk j (by omega)]; exact ld_before (by omega)
  refine ⟨fun r hr => ?_, ?_, fun y => Iff.trans ⟨In.sub fun s hs => ?_, In.sub fun s hs => ?_⟩ (h.span y), fun q hq => ?_⟩
  · obtain ⟨k, hk, rfl⟩ := List.mem_iff_getElem.1 hr
    rw [hlen] at hk; rw [hR' k hk]
    split
    · exact h.cons _ (List.getElem_mem hk)
    · exact Cons.ax (h.cons _ (List.getElem_mem hk)) (h.cons _ (List.getElem_mem hi)) _
  · have := Cons.ax h.rest (h.cons _ (List.getElem_mem hi)) (-(x p * finv (R[i] p)))
    have e : ax x' (-1) v = ax (ax x (-1) v) (-(x p * finv (R[i] p))) R[i] := by
      rw [hx']; funext j; simp only [lessP, ax]; grind
    rw [e]; exact this
  · obtain ⟨r, hr, rfl⟩ := List.mem_map.1 hs
    obtain ⟨k, hk, rfl⟩ := List.mem_iff_getElem.1 hr; rw [hlen] at hk; rw [hR' k hk]
    split
    · exact In.mem (List.mem_map_of_mem (List.getElem_mem hk))
    · unfold lessP; rw [res4_ax]
      exact Sp.axpy (In.mem (List.mem_map_of_mem (List.getElem_mem hk))) (In.mem (List.mem_map_of_mem (List.getElem_mem hi))) _
  · obtain ⟨r, hr, rfl⟩ := List.mem_map.1 hs
    obtain ⟨k, hk, rfl⟩ := List.mem_iff_getElem.1 hr
    have mi : In (R'.map res4) (res4 R[i]) := by
      have := hR' i hi
      rw [if_pos rfl] at this; rw [← this]; exact In.mem (List.mem_map_of_mem (List.getElem_mem (by omega)))
    by_cases hki : k = i
    · subst hki; exact mi
    · have mk : In (R'.map res4) (res4 (lessP p R[k] R[i])) := by
        have := hR' k hk
        rw [if_neg hki] at this; rw [← this]; exact In.mem (List.mem_map_of_mem (List.getElem_mem (by omega)))
      have e : res4 R[k] = ax (res4 (lessP p R[k] R[i])) (R[k] p * finv (R[i] p)) (res4 R[i]) := by
        unfold lessP; rw [res4_ax]; funext j; simp only [ax]; grind
      rw [e]; exact Sp.axpy mk mi _
  · rcases Nat.lt_or_ge q p with a | a
    · rcases h.piv q a with ⟨j, hj, e1, e2, e3⟩ | hn
      · left
        have hji : i ≠ j := fun e => by subst e; omega
        have hiq : R[i] q = 0 := e2 i hi hji; refine ⟨j, by omega, (hlow j hj q a).2 e1, fun k hk hne => ?_, ?_⟩
        · rw [hsame k (by omega) q a]; exact e2 k (by omega) hne
        · rw [hx', lessP_same hiq]; exact e3
      · right
        intro k hk e; exact hn k (by omega) ((hlow k (by omega) q a).1 e)
    · have : q = p := by omega
      subst this
      left
      refine ⟨i, by omega, ?_, fun k hk hne => ?_, ?_⟩
      · rw [hR' i hi, if_pos rfl]; exact hl
      · rw [hR' k (by omega), if_neg hne]; exact lessP_at hip
      · rw [hx']; exact lessP_at hip
/-! ### the same over lists -/
def laug (m : List (List Int)) (i : Nat) : List Int := m.getD i [] ++ (List.replicate m.length 0).set i 1
def lstep (s : List (List Int) × List Int) (p : Nat) : List (List Int) × List Int :=
  match s.1.findIdx? (fun r => llead r == (p : Int)) with
  | none => s
  | some i => (s.1.mapIdx fun k r => if k ≠ i ∧ gt r p ≠ 0 then lless r (s.1.getD i []) else r, lless s.2 (s.1.getD i []))
def lsteps (m : List (List Int)) (v : List Int) : List (List Int) × List Int :=
  [0, 1, 2, 3].foldl lstep ((List.range m.length).map (laug m), v ++ List.replicate m.length 0)
def lby (m : List (List Int)) (v : List Int) : Option (List Int) :=
  if 0 ≤ llead (lsteps m v).2 ∧ llead (lsteps m v).2 ≤ 3 then none else some (lscale ((lsteps m v).2.drop 4) 30)
/-- a list of so many numbers of the field -/
def Cl (n : Nat) (l : List Int) : Prop := l.length = n ∧ can l
theorem can_append {a b : List Int} (ha : can a) (hb : can b) : can (a ++ b) := fun x hx => (List.mem_append.1 hx).elim (ha x) (hb x)
theorem can_replicate (n : Nat) : can (List.replicate n 0) := fun x hx => by rw [(List.mem_replicate.1 hx).2]; decide
theorem can_set {l : List Int} (h : can l) (i : Nat) {x : Int} (hx : ok x = true) : can (l.set i x) := fun y hy => by
  rcases List.mem_or_eq_of_mem_set hy with a | a
  · exact h y a
  · rw [a]; exact hx
theorem laug_cl {m : List (List Int)} (hm : ∀ r ∈ m, vok r = true) {i : Nat} (hi : i < m.length) : Cl (4 + m.length) (laug m i) := by
  have hr : m.getD i [] ∈ m := by rw [List.getD_eq_getElem?_getD, List.getElem?_eq_getElem hi]; exact List.getElem_mem hi
  obtain ⟨h4, hc⟩ := vok_iff.1 (hm _ hr); exact ⟨by unfold laug; rw [List.length_append, h4, List.length_set, List.length_replicate], can_append hc (can_set (can_replicate _) i (by decide))⟩
structure LGJ (m : List (List Int)) (v : List Int) (p : Nat) (s : List (List Int) × List Int) : Prop where
  rows : ∀ r ∈ s.1, Cl (4 + m.length) r
  rest : Cl (4 + m.length) s.2
  gj : GJ (m.map toW) (toW v) p (s.1.map toW) (toW s.2)
theorem ld_llead {r : List Int} (h : can r) {p : Nat} (hp : p < 4) : llead r = (p : Int) ↔ ld (toW r) = p := by
  constructor
  · intro e
    rcases Nat.lt_or_ge (ld (toW r)) 4 with a | a
    · have := llead_ld h a; omega
    · have := llead_four h (by have := ld_le (toW r); omega); omega
  · intro e; rw [llead_ld h (by omega), e]
theorem LGJ.step {m : List (List Int)} {v : List Int} {p : Nat} (hp : p < 4) {s : List (List Int) × List Int} (h : LGJ m v p s) : LGJ m v (p + 1) (lstep s p) := by
  unfold lstep
  cases hf : s.1.findIdx? (fun r => llead r == (p : Int)) with
  | none =>
    rw [List.findIdx?_eq_none_iff] at hf; refine ⟨h.rows, h.rest, h.gj.skip fun k hk e => ?_⟩; rw [List.length_map] at hk; rw [List.getElem_map] at e
    have := hf _ (List.getElem_mem hk)
    rw [beq_eq_false_iff_ne] at this; exact this ((ld_llead (h.rows _ (List.getElem_mem hk)).2 hp).2 e)
  | some i =>
    rw [List.findIdx?_eq_some_iff_getElem] at hf; obtain ⟨hi, h1, _⟩ := hf
    have hg : s.1.getD i [] = s.1[i] := by rw [List.getD_eq_getElem?_getD, List.getElem?_eq_getElem hi]; rfl
    have hri := h.rows _ (List.getElem_mem hi)
    have hle : llead s.1[i] = (p : Int) := by simpa using h1
    have hl : ld (toW s.1[i]) = p := (ld_llead hri.2 hp).1 hle
    have hw : ∀ r : List Int, Cl (4 + m.length) r → Cl (4 + m.length) (lless r s.1[i]) ∧ toW (lless r s.1[i]) = lessP p (toW r) (toW s.1[i]) := fun r hr => by
      have e : r.length = s.1[i].length := by rw [hr.1, hri.1]
      refine ⟨⟨by rw [lless_len e]; exact hr.1, can_lless _ _⟩, ?_⟩
      funext j; rw [toW_lless_at e hri.2 hle]; rfl
    simp only [hg]; refine ⟨fun r hr => ?_, (hw _ h.rest).1, ?_⟩
    · obtain ⟨k, hk, rfl⟩ := List.mem_iff_getElem.1 hr
      rw [List.length_mapIdx] at hk; rw [List.getElem_mapIdx]
      split
      · exact (hw _ (h.rows _ (List.getElem_mem hk))).1
      · exact h.rows _ (List.getElem_mem hk)
    · refine h.gj.step hp (i := i) (by rw [List.length_map]; exact hi) (by rw [List.getElem_map]; exact hl) (by simp) (fun k hk => ?_) (by rw [List.getElem_map]; exact (hw _ h.rest).2)
      rw [List.length_map] at hk; simp only [List.getElem_map, List.getElem_mapIdx]
      have hrk := h.rows _ (List.getElem_mem hk)
      by_cases hki : k = i
      · rw [if_neg (fun a => a.1 hki), if_pos hki]
      · rw [if_neg hki]
        by_cases h0 : gt s.1[k] p = 0
        · rw [if_neg (fun a => a.2 h0)]
          rw [gt_nat] at h0; exact (lessP_zero ((toW_zero_iff hrk.2 p).2 h0)).symm
        · rw [if_pos ⟨hki, h0⟩]
          exact (hw _ hrk).2
end Go.Proofs.Ytfgpffocieegdaa.Lin

/- Plain mathematics: first rows, and how often each of them makes a row. -/
namespace Go.Proofs.Ytfgpffocieegdaa.Lin

theorem vok_getD {m : List (List Int)} (hm : ∀ r ∈ m, vok r = true) {i : Nat} (hi : i < m.length) : vok (m.getD i []) = true := by
  rw [List.getD_eq_getElem?_getD, List.getElem?_eq_getElem hi]; exact hm _ (List.getElem_mem hi)
theorem vok_take {m : List (List Int)} (hm : ∀ r ∈ m, vok r = true) (n : Nat) : ∀ r ∈ m.take n, vok r = true := fun r hr => hm r (List.mem_of_mem_take hr)
/-- at most four -/
theorem rref_four {R : List W} (h : Rref R) : R.length ≤ 4 := by
  have h2 := h.asc
  have h3 : ∀ p ∈ R.map ld, p < 4 := fun p hp => by obtain ⟨r, hr, rfl⟩ := List.mem_map.1 hp; exact (h.one r hr).1
  have key : ∀ (l : List Nat) (a : Nat), l.Pairwise (· < ·) → (∀ p ∈ l, a ≤ p ∧ p < 4) → l.length ≤ 4 - a := by
    intro l
    induction l with
    | nil => intro a _ _; simp
    | cons x l ih =>
      intro a hp hb; rw [List.pairwise_cons] at hp
      have hx := hb x (by simp)
      have := ih (x + 1) hp.2 (fun p hpl => ⟨hp.1 p hpl, (hb p (by simp [hpl])).2⟩)
      simp only [List.length_cons]; omega
  have := key (R.map ld) 0 h2 (fun p hp => ⟨Nat.zero_le _, h3 p hp⟩)
  simpa using this
theorem ltidy_four {m : List (List Int)} (hm : ∀ r ∈ m, vok r = true) : (ltidy m).length ≤ 4 := by
  have := rref_four (ltidy_rref hm)
  simpa using this
end Go.Proofs.Ytfgpffocieegdaa.Lin

/- Plain mathematics: what the functions over rows answer. -/
namespace Go.Proofs.Ytfgpffocieegdaa.Lin

theorem vok_four {l : List Int} (h : vok l = true) : ∃ a b c d, l = [a, b, c, d] ∧ ok a = true ∧ ok b = true ∧ ok c = true ∧ ok d = true := by
  obtain ⟨h4, hc⟩ := vok_iff.1 h
  match l, h4 with
  | [a, b, c, d], _ => exact ⟨a, b, c, d, rfl, hc a (by simp), hc b (by simp), hc c (by simp), hc d (by simp)⟩
end Go.Proofs.Ytfgpffocieegdaa.Lin
