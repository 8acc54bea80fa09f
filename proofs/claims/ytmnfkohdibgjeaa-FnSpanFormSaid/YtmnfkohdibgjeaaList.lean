import Derived.Test.YtmnfkohdibgjeaaLin
import Derived.Test.YtmnfkohdibgjeaaTidy
/- Plain mathematics: rows as lists of whole numbers. -/
set_option linter.unusedVariables false
set_option linter.unusedSimpArgs false
namespace Go.Proofs.Ytmnfkohdibgjeaa.Lin

def toW (l : List Int) : W := fun i => toF (l.getD i 0)
/-- all numbers are of the field -/
def can (l : List Int) : Prop := ∀ x ∈ l, ok x = true
def vok (l : List Int) : Bool := l.length == 4 && l.all ok
def mok (m : List (List Int)) : Bool := decide (m.length ≤ 8) && m.all vok
theorem vok_iff {l : List Int} : vok l = true ↔ l.length = 4 ∧ can l := by simp [vok, can]
theorem mok_iff {m : List (List Int)} : mok m = true ↔ m.length ≤ 8 ∧ ∀ r ∈ m, vok r = true := by simp [mok]
def lsum (a b : List Int) : List Int := List.zipWith (fun x y => (x + y) % 31) a b
def lscale (v : List Int) (c : Int) : List Int := v.map fun x => x * c % 31
def llead (v : List Int) : Int := match v.findIdx? (fun x => decide (x ≠ 0)) with | some i => (i : Int) | none => -1
/-- the number at a place, the place whole -/
def gt (v : List Int) (p : Int) : Int := v.getD p.toNat 0
def lless (v w : List Int) : List Int := lsum v (lscale w ((31 - gt v (llead w) * inv (gt w (llead w)) % 31) % 31))
def linsert (v : List Int) : List (List Int) → List (List Int)
  | [] => [v]
  | r :: R => if llead v < llead r then v :: (r :: R).map (lless · v) else lless r v :: linsert v R
def ladd (t : List (List Int)) (v : List Int) : List (List Int) :=
  if llead (t.foldl lless v) < 0 then t else linsert (lscale (t.foldl lless v) (inv (gt (t.foldl lless v) (llead (t.foldl lless v))))) t
def ltidy (m : List (List Int)) : List (List Int) := m.foldl ladd []
def lhas (m : List (List Int)) (v : List Int) : Bool := (ladd (ltidy m) v).length == (ltidy m).length
def lfirst (m : List (List Int)) : List Nat := (List.range m.length).filter fun i => !lhas (m.take i) (m.getD i [])

theorem can_get {l : List Int} (h : can l) (i : Nat) : ok (l.getD i 0) = true := by
  rw [List.getD_eq_getElem?_getD]
  rcases Nat.lt_or_ge i l.length with hi | hi
  · rw [List.getElem?_eq_getElem hi]; exact h _ (List.getElem_mem hi)
  · rw [List.getElem?_eq_none hi]; decide
theorem toW_four {l : List Int} (h : l.length = 4) : four (toW l) := fun i hi => by
  unfold toW; rw [List.getD_eq_getElem?_getD, List.getElem?_eq_none (by omega)]; rfl
theorem toW_inj {a b : List Int} (ha : can a) (hb : can b) (hl : a.length = b.length) (h : ∀ i, i < a.length → toW a i = toW b i) : a = b := by
  apply List.ext_getElem hl
  intro i h1 h2
  have := h i h1
  simp only [toW, List.getD_eq_getElem?_getD, List.getElem?_eq_getElem h1, List.getElem?_eq_getElem h2, Option.getD_some] at this
  exact toF_inj (ok_iff.1 (ha _ (List.getElem_mem h1))) (ok_iff.1 (hb _ (List.getElem_mem h2))) this
theorem can_lsum (a b : List Int) : can (lsum a b) := fun x hx => by
  unfold lsum at hx
  obtain ⟨i, hi, rfl⟩ := List.mem_iff_getElem.1 hx
  rw [List.getElem_zipWith]; exact mod_ok _
theorem can_lscale (a : List Int) (c : Int) : can (lscale a c) := fun x hx => by
  unfold lscale at hx
  obtain ⟨y, _, rfl⟩ := List.mem_map.1 hx
  exact mod_ok _
theorem lsum_len {a b : List Int} (h : a.length = b.length) : (lsum a b).length = a.length := by simp [lsum, h]
theorem lscale_len (a : List Int) (c : Int) : (lscale a c).length = a.length := by simp [lscale]
theorem toW_lsum {a b : List Int} (h : a.length = b.length) (i : Nat) : toW (lsum a b) i = toW a i + toW b i := by
  unfold toW lsum
  simp only [List.getD_eq_getElem?_getD, List.getElem?_zipWith]
  rcases Nat.lt_or_ge i a.length with hi | hi
  · rw [List.getElem?_eq_getElem hi, List.getElem?_eq_getElem (by omega)]
    simp only [Option.getD_some, toF_mod, toF_add]
  · rw [List.getElem?_eq_none hi, List.getElem?_eq_none (by omega)]; rfl
theorem toW_lscale (a : List Int) (c : Int) (i : Nat) : toW (lscale a c) i = toW a i * toF c := by
  unfold toW lscale
  simp only [List.getD_eq_getElem?_getD, List.getElem?_map]
  rcases Nat.lt_or_ge i a.length with hi | hi
  · rw [List.getElem?_eq_getElem hi]; simp only [Option.map_some, Option.getD_some, toF_mod, toF_mul]
  · rw [List.getElem?_eq_none hi]; simp only [Option.map_none, Option.getD_none, toF_zero]; grind
/-! ### where a list begins -/
theorem llead_cases (v : List Int) : (llead v = -1 ∧ ∀ i, v.getD i 0 = 0) ∨ ∃ i, i < v.length ∧ llead v = (i : Int) ∧ v.getD i 0 ≠ 0 ∧ ∀ j, j < i → v.getD j 0 = 0 := by
  unfold llead
  cases h : v.findIdx? (fun x => decide (x ≠ 0)) with
  | none =>
    left
    refine ⟨rfl, fun i => ?_⟩
    rw [List.findIdx?_eq_none_iff] at h
    rw [List.getD_eq_getElem?_getD]
    rcases Nat.lt_or_ge i v.length with hi | hi
    · rw [List.getElem?_eq_getElem hi]
      have := h _ (List.getElem_mem hi)
      simpa using this
    · rw [List.getElem?_eq_none hi]; rfl
  | some i =>
    right
    rw [List.findIdx?_eq_some_iff_getElem] at h
    obtain ⟨hi, h1, h2⟩ := h
    refine ⟨i, hi, rfl, ?_, fun j hj => ?_⟩
    · rw [List.getD_eq_getElem?_getD, List.getElem?_eq_getElem hi]; simpa using h1
    · rw [List.getD_eq_getElem?_getD, List.getElem?_eq_getElem (by omega)]; have := h2 j hj; simpa using this
theorem toW_zero_iff {v : List Int} (h : can v) (i : Nat) : toW v i = 0 ↔ v.getD i 0 = 0 := toF_ne_zero (ok_iff.1 (can_get h i))
theorem llead_ld {v : List Int} (h : can v) (hl : ld (toW v) < 4) : llead v = (ld (toW v) : Int) := by
  have h1 := ld_at hl
  have h2 := fun i (hi : i < ld (toW v)) => ld_before hi
  rw [Ne, toW_zero_iff h] at h1
  rcases llead_cases v with ⟨_, hz⟩ | ⟨i, _, e, hn, hb⟩
  · exact absurd (hz _) h1
  · rw [e]
    rcases Nat.lt_trichotomy i (ld (toW v)) with a | a | a
    · exact absurd ((toW_zero_iff h i).1 (h2 i a)) hn
    · rw [← a]
    · exact absurd (hb _ a) h1
theorem llead_four {v : List Int} (h : can v) (hl : ld (toW v) = 4) : llead v = -1 ∨ 4 ≤ llead v := by
  rcases llead_cases v with ⟨e, _⟩ | ⟨i, _, e, hn, _⟩
  · exact .inl e
  · right
    rcases Nat.lt_or_ge i 4 with a | a
    · exact absurd ((toW_zero_iff h i).1 (ld_four_iff.1 hl i a)) hn
    · rw [e]; omega
theorem llead_neg {v : List Int} (h : vok v = true) : llead v < 0 ↔ ld (toW v) = 4 := by
  obtain ⟨h4, hc⟩ := vok_iff.1 h
  constructor
  · intro hn
    rcases Nat.lt_or_ge (ld (toW v)) 4 with a | a
    · have := llead_ld hc a; omega
    · have := ld_le (toW v); omega
  · intro hl
    rcases llead_cases v with ⟨e, _⟩ | ⟨i, hi, e, hn, _⟩
    · omega
    · exact absurd ((toW_zero_iff hc i).1 (ld_four_iff.1 hl i (by omega))) hn
theorem gt_nat (v : List Int) (i : Nat) : gt v (i : Int) = v.getD i 0 := by unfold gt; rw [Int.toNat_natCast]
theorem neg_coef (x : Int) : toF ((31 - x % 31) % 31) = -(toF x) := by
  have : toF ((31 - x % 31) % 31) = toF (x * (-1)) := by rw [toF_eq]; omega
  rw [this, toF_mul, show toF (-1) = -1 from rfl]; grind
theorem vok_lsum {a b : List Int} (ha : a.length = 4) (hb : b.length = 4) : vok (lsum a b) = true :=
  vok_iff.2 ⟨by rw [lsum_len (by omega)]; exact ha, can_lsum a b⟩
theorem vok_lscale {a : List Int} (ha : a.length = 4) (c : Int) : vok (lscale a c) = true := vok_iff.2 ⟨by rw [lscale_len]; exact ha, can_lscale a c⟩
theorem lless_len {v w : List Int} (h : v.length = w.length) : (lless v w).length = v.length := by
  unfold lless; rw [lsum_len (by rw [lscale_len]; exact h)]
theorem can_lless (v w : List Int) : can (lless v w) := can_lsum _ _
/-- less, by rows that begin at p -/
theorem toW_lless_at {v w : List Int} (hl : v.length = w.length) (hw : can w) {p : Nat} (hp : llead w = (p : Int)) (i : Nat) : toW (lless v w) i = toW v i + -(toW v p * finv (toW w p)) * toW w i := by
  unfold lless
  rw [toW_lsum (by rw [lscale_len]; exact hl), toW_lscale, hp, gt_nat, gt_nat, neg_coef, toF_mul, ← finv_toF (can_get hw p)]
  show toW v i + toW w i * -(toW v p * finv (toW w p)) = _
  grind
theorem finv_one : finv 1 = 1 := by decide
theorem toW_lless {v w : List Int} (hl : v.length = w.length) (hw : can w) (hp : ld (toW w) < 4) (h1 : toW w (ld (toW w)) = 1) : toW (lless v w) = less (toW v) (toW w) := by
  funext i
  rw [toW_lless_at hl hw (llead_ld hw hp), h1, finv_one]
  simp only [less, ax]; grind
def Unit1 (w : List Int) : Prop := vok w = true ∧ ld (toW w) < 4 ∧ toW w (ld (toW w)) = 1
theorem vok_lless {v w : List Int} (hv : vok v = true) (hw : vok w = true) : vok (lless v w) = true := by
  have h1 := (vok_iff.1 hv).1; have h2 := (vok_iff.1 hw).1
  exact vok_iff.2 ⟨by rw [lless_len (by omega)]; exact h1, can_lless v w⟩
theorem foldl_less {t : List (List Int)} (ht : ∀ r ∈ t, Unit1 r) : ∀ {v : List Int}, vok v = true → vok (t.foldl lless v) = true ∧ toW (t.foldl lless v) = red (t.map toW) (toW v) := by
  induction t with
  | nil => intro v hv; exact ⟨hv, rfl⟩
  | cons r t ih =>
    intro v hv
    obtain ⟨hr, h1, h2⟩ := ht r (by simp)
    have e := toW_lless (v := v) (by rw [(vok_iff.1 hv).1, (vok_iff.1 hr).1]) (vok_iff.1 hr).2 h1 h2
    obtain ⟨a, b⟩ := ih (fun s hs => ht s (by simp [hs])) (vok_lless hv hr)
    refine ⟨a, ?_⟩
    rw [List.foldl_cons, b, e]; rfl
theorem linsert_toW {v : List Int} (hv : Unit1 v) {t : List (List Int)} (ht : ∀ r ∈ t, Unit1 r) : (linsert v t).map toW = insr (toW v) (t.map toW) ∧ ∀ r ∈ linsert v t, vok r = true := by
  induction t with
  | nil => exact ⟨rfl, by simp [linsert]; exact hv.1⟩
  | cons r t ih =>
    obtain ⟨hv1, hv2, hv3⟩ := hv
    obtain ⟨hr1, hr2, hr3⟩ := ht r (by simp)
    have e : ∀ s ∈ r :: t, toW (lless s v) = less (toW s) (toW v) := fun s hs => by
      have := (ht s hs).1
      exact toW_lless (by rw [(vok_iff.1 this).1, (vok_iff.1 hv1).1]) (vok_iff.1 hv1).2 hv2 hv3
    have hc : llead v < llead r ↔ ld (toW v) < ld (toW r) := by
      rw [llead_ld (vok_iff.1 hv1).2 hv2, llead_ld (vok_iff.1 hr1).2 hr2]; omega
    obtain ⟨i1, i2⟩ := ih (fun s hs => ht s (by simp [hs]))
    have q1 : linsert v (r :: t) = if llead v < llead r then v :: (r :: t).map (lless · v) else lless r v :: linsert v t := rfl
    have q2 : insr (toW v) ((r :: t).map toW) = if ld (toW v) < ld (toW r) then toW v :: ((r :: t).map toW).map (less · (toW v)) else less (toW r) (toW v) :: insr (toW v) (t.map toW) := rfl
    rw [q1, q2]
    by_cases h : llead v < llead r
    · rw [if_pos h, if_pos (hc.1 h)]
      refine ⟨?_, ?_⟩
      · rw [List.map_cons, List.map_map, List.map_map]
        congr 1
        exact List.map_congr_left e
      · intro s hs
        rcases List.mem_cons.1 hs with rfl | hs
        · exact hv1
        · obtain ⟨q, hq, rfl⟩ := List.mem_map.1 hs
          exact vok_lless (ht q hq).1 hv1
    · rw [if_neg h, if_neg (fun k => h (hc.2 k))]
      refine ⟨by rw [List.map_cons, i1, e r (by simp)], fun s hs => ?_⟩
      rcases List.mem_cons.1 hs with rfl | hs
      · exact vok_lless hr1 hv1
      · exact i2 s hs
theorem unit_of_rref {t : List (List Int)} (hv : ∀ r ∈ t, vok r = true) (h : Rref (t.map toW)) : ∀ r ∈ t, Unit1 r := fun r hr => ⟨hv r hr, h.one _ (List.mem_map_of_mem hr)⟩
theorem unitize_list {x : List Int} (hx : vok x = true) (hl : ld (toW x) < 4) : toW (lscale x (inv (gt x (llead x)))) = unitize (toW x) := by
  funext i
  have hc := (vok_iff.1 hx).2
  rw [toW_lscale, llead_ld hc hl, gt_nat, ← finv_toF (can_get hc _)]
  show toW x i * finv (toW x (ld (toW x))) = finv (toW x (ld (toW x))) * toW x i
  grind
theorem ladd_toW {t : List (List Int)} (hv : ∀ r ∈ t, vok r = true) (h : Rref (t.map toW)) {v : List Int} (hvv : vok v = true) :
    (ladd t v).map toW = adds (t.map toW) (toW v) ∧ ∀ r ∈ ladd t v, vok r = true := by
  have hu := unit_of_rref hv h
  obtain ⟨a, b⟩ := foldl_less hu hvv
  unfold ladd adds
  rw [← b]
  generalize t.foldl lless v = x at *
  by_cases hl : ld (toW x) = 4
  · rw [if_pos ((llead_neg a).2 hl), if_pos hl]; exact ⟨rfl, hv⟩
  · rw [if_neg (fun k => hl ((llead_neg a).1 k)), if_neg hl]
    have hlt : ld (toW x) < 4 := by have := ld_le (toW x); omega
    have e := unitize_list a hlt
    have hx : Unit1 (lscale x (inv (gt x (llead x)))) := ⟨vok_lscale (vok_iff.1 a).1 _, by rw [e, unitize_ld]; exact hlt, by rw [e]; exact unitize_one hlt⟩
    rw [← e]
    exact linsert_toW hx hu
theorem ltidy_from {m : List (List Int)} (hm : ∀ r ∈ m, vok r = true) : ∀ {t : List (List Int)}, (∀ r ∈ t, vok r = true) → Rref (t.map toW) → (m.foldl ladd t).map toW = (m.map toW).foldl adds (t.map toW) ∧ ∀ r ∈ m.foldl ladd t, vok r = true := by
  induction m with
  | nil => intro t ht _; exact ⟨rfl, ht⟩
  | cons v m ih =>
    intro t ht h
    have hv := hm v (by simp)
    obtain ⟨a, b⟩ := ladd_toW ht h hv
    have h2 := (adds_rref h (toW_four (vok_iff.1 hv).1)).1
    obtain ⟨c, d⟩ := ih (fun r hr => hm r (by simp [hr])) b (by rw [a]; exact h2)
    refine ⟨?_, d⟩
    rw [List.foldl_cons, c, a]; rfl
theorem toW_fours {m : List (List Int)} (hm : ∀ r ∈ m, vok r = true) : ∀ r ∈ m.map toW, four r := fun r hr => by
  obtain ⟨q, hq, rfl⟩ := List.mem_map.1 hr
  exact toW_four (vok_iff.1 (hm q hq)).1
theorem ltidy_toW {m : List (List Int)} (hm : ∀ r ∈ m, vok r = true) : (ltidy m).map toW = tidyS (m.map toW) ∧ ∀ r ∈ ltidy m, vok r = true :=
  ltidy_from hm (by simp) Rref.nil
theorem ltidy_rref {m : List (List Int)} (hm : ∀ r ∈ m, vok r = true) : Rref ((ltidy m).map toW) := by
  rw [(ltidy_toW hm).1]; exact tidyS_rref (toW_fours hm)
theorem ltidy_in {m : List (List Int)} (hm : ∀ r ∈ m, vok r = true) (x : W) : In ((ltidy m).map toW) x ↔ In (m.map toW) x := by
  rw [(ltidy_toW hm).1]; exact tidyS_in (toW_fours hm) x
theorem insr_len (x : W) (R : List W) : (insr x R).length = R.length + 1 := by
  induction R with
  | nil => rfl
  | cons r R ih => unfold insr; split <;> simp [ih]
/-- rows that are the same as rows are the same lists -/
theorem rows_inj {a b : List (List Int)} (ha : ∀ r ∈ a, vok r = true) (hb : ∀ r ∈ b, vok r = true) (h : a.map toW = b.map toW) : a = b := by
  have hl : a.length = b.length := by have := congrArg List.length h; simpa using this
  apply List.ext_getElem hl
  intro i h1 h2
  have e : toW a[i] = toW b[i] := by
    have := congrArg (fun l => l[i]?) h
    simpa [List.getElem?_eq_getElem h1, List.getElem?_eq_getElem h2] using this
  have v1 := vok_iff.1 (ha _ (List.getElem_mem h1)); have v2 := vok_iff.1 (hb _ (List.getElem_mem h2))
  exact toW_inj v1.2 v2.2 (by omega) (fun j _ => by rw [e])
/-- IS IT MADE OF THEM? -/
theorem lhas_iff {m : List (List Int)} (hm : ∀ r ∈ m, vok r = true) {v : List Int} (hv : vok v = true) : lhas m v = true ↔ In (m.map toW) (toW v) := by
  have hr := ltidy_rref hm
  have h4 : four (toW v) := toW_four (vok_iff.1 hv).1
  have hl : (ladd (ltidy m) v).length = (adds ((ltidy m).map toW) (toW v)).length := by
    rw [← (ladd_toW (ltidy_toW hm).2 hr hv).1, List.length_map]
  unfold lhas
  rw [beq_iff_eq, hl, ← ltidy_in hm, in_iff_red hr.ech hr.four h4]
  unfold adds
  split
  · rename_i h; simp [h]
  · rename_i h; rw [insr_len]; simp [h]
/-- the tidy rows tell what is made of rows, and the other way round -/
theorem ltidy_eq_iff {a b : List (List Int)} (ha : ∀ r ∈ a, vok r = true) (hb : ∀ r ∈ b, vok r = true) : ltidy a = ltidy b ↔ ∀ x, In (a.map toW) x ↔ In (b.map toW) x := by
  constructor
  · intro h x
    rw [← ltidy_in ha, ← ltidy_in hb, h]
  · intro h
    apply rows_inj (ltidy_toW ha).2 (ltidy_toW hb).2
    refine (ltidy_rref ha).unique (ltidy_rref hb) fun x => ?_
    rw [ltidy_in ha, ltidy_in hb]; exact h x
/-- any tidy rows of which the same is made are these -/
theorem ltidy_unique {m t : List (List Int)} (hm : ∀ r ∈ m, vok r = true) (ht : ∀ r ∈ t, vok r = true) (h : Rref (t.map toW)) (hs : ∀ x, In (t.map toW) x ↔ In (m.map toW) x) : t = ltidy m := by
  apply rows_inj ht (ltidy_toW hm).2
  refine h.unique (ltidy_rref hm) fun x => ?_
  rw [ltidy_in hm]; exact hs x
end Go.Proofs.Ytmnfkohdibgjeaa.Lin
