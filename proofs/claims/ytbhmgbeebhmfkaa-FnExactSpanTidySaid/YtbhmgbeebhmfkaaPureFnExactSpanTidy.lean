import Derived.Test.YtbhmgbeebhmfkaaPAx0
import Derived.Test.YtbhmgbeebhmfkaaPAx1
import Derived.Test.YtbhmgbeebhmfkaaPAx11
import Derived.Test.YtbhmgbeebhmfkaaPAx12
import Derived.Test.YtbhmgbeebhmfkaaPAx13
import Derived.Test.YtbhmgbeebhmfkaaPAx2
import Derived.Test.YtbhmgbeebhmfkaaPAx3
import Derived.Test.YtbhmgbeebhmfkaaPAx5
import Derived.Test.YtbhmgbeebhmfkaaPAx6
import Derived.Test.YtbhmgbeebhmfkaaLf
import Derived.Test.YtbhmgbeebhmfkaaMa
import Derived.OpenShut
/- Of the printed functions over single rows: what a walk by hand wants of them. -/
set_option linter.unusedVariables false
set_option linter.unusedSimpArgs false
namespace Go.Proofs.Ytbhmgbeebhmfkaa.Pure
open Go.RowKit Go.Proofs.Ytbhmgbeebhmfkaa.PA Go.Proofs.YtbhmgbeebhmfkaaW.PrintWords Go.Proofs.YtbhmgbeebhmfkaaW.PrintLast Go.Proofs.YtbhmgbeebhmfkaaW.PrintMore Go.Proofs.Ytbhmgbeebhmfkaa.Lin

theorem Evp.ite {α : Type} {c : Prop} [Decidable c] {g f : Nat → Option α} {Q : α → Prop} (h : c → Evp g Q) (k : ¬ c → Evp f Q) : Evp (fun n => if c then g n else f n) Q := by
  by_cases hc : c
  · simp only [if_pos hc]; exact h hc
  · simp only [if_neg hc]; exact k hc
theorem spec_FieldOk_eq (a : Int) : spec_FieldOk.f a = some (ok a) := by
  unfold spec_FieldOk.f spec_l6In.f ok
  by_cases h : a ≥ 0
  · rw [if_pos h]; simp [show (a ≤ 30) = (a < 31) by rw [eq_iff_iff]; omega, h]
  · rw [if_neg h]; simp [h]
theorem rd_nat (l : List Int) (i : Nat) : rd l (i : Int) = l.getD i 0 := by unfold rd; rw [Int.toNat_natCast]
theorem getD_get {l : List Int} {i : Nat} (h : i < l.length) : l.getD i 0 = l[i] := by rw [List.getD_eq_getElem?_getD, List.getElem?_eq_getElem h]; rfl
theorem spec_VecOk_ev {l : List Int} (hl : l.length ≤ 1000000000000) : Evp (fun k => spec_VecOk.f k l) (· = vok l) := by
  have key : ∀ d i, i + d = l.length → Evp (fun k => spec_VecOk.l0 k l (i : Int)) (· = ((l.drop i).all ok && (l.length == 4))) := by
    intro d
    induction d with
    | zero =>
      intro i hi
      refine Evp.step (fun k => by rw [spec_VecOk.l0]) ?_
      refine Evp.neg (by omega) ?_
      refine Evp.some' ?_
      rw [List.drop_eq_nil_of_le (by omega), Bool.eq_iff_iff, beq_iff_eq]; simp; omega
    | succ d ih =>
      intro i hi
      refine Evp.step (fun k => by rw [spec_VecOk.l0]) ?_
      refine Evp.pos (by omega) (Evp.pos (by omega) ?_)
      simp only [spec_FieldOk_eq, Option.bind_some, rd_nat, getD_get (show i < l.length by omega)]
      rw [List.drop_eq_getElem_cons (show i < l.length by omega), List.all_cons]
      refine Evp.ite (fun h => ?_) fun h => ?_
      · rw [wrap_succ (by omega), h]
        exact ih (i + 1) (by omega)
      · exact Evp.some' (by simp [h])
  have := key l.length 0 (by omega)
  unfold spec_VecOk.f
  refine this.mono fun r hr => ?_
  rw [hr, List.drop_zero, Bool.and_comm]; rfl
theorem eq_loop {F : Nat → List Int → List Int → Int → Option Bool}
    (hF : ∀ k a b i, F (k + 1) a b i = if i < (a.length : Int) then (if 0 ≤ i then (if i < (b.length : Int) then (if (rd a i) = (rd b i) then (F k a b (wrap64 (i + 1))) else (some false)) else (none)) else (none)) else (some true))
    {a b : List Int} (hl : a.length = b.length) (ha : a.length ≤ 1000000000000) : Evp (fun k => F k a b 0) (· = decide (a = b)) := by
  have key : ∀ d i, i + d = a.length → (∀ j, j < i → a.getD j 0 = b.getD j 0) → Evp (fun k => F k a b (i : Int)) (· = decide (a = b)) := by
    intro d
    induction d with
    | zero =>
      intro i hi hp
      refine Evp.step (fun k => hF k a b i) ?_
      refine Evp.neg (by omega) ?_
      refine Evp.some' ?_
      have : a = b := List.ext_getElem hl fun j h1 h2 => by have := hp j (by omega); rwa [getD_get h1, getD_get h2] at this
      simp [this]
    | succ d ih =>
      intro i hi hp
      refine Evp.step (fun k => hF k a b i) ?_
      refine Evp.pos (by omega) (Evp.pos (by omega) (Evp.pos (by omega) ?_))
      rw [rd_nat, rd_nat, wrap_succ (by omega)]
      refine Evp.ite (fun h => ih (i + 1) (by omega) fun j hj => ?_) fun h => Evp.some' ?_
      · rcases Nat.lt_or_ge j i with c | c
        · exact hp j c
        · have : j = i := by omega
          subst this; exact h
      · have : a ≠ b := fun e => h (by rw [e])
        simp [this]
  exact key a.length 0 (by omega) (fun j hj => absurd hj (Nat.not_lt_zero j))
theorem eqIntS_ev {a b : List Int} (ha : a.length ≤ 1000000000000) : Evp (fun k => laws_eqIntS.f k a b) (· = decide (a = b)) := by
  unfold laws_eqIntS.f
  refine Evp.ite (fun h => eq_loop (fun k a b i => by rw [laws_eqIntS.l0]) (by omega) ha) fun h => Evp.some' ?_
  have : a ≠ b := fun e => h (by rw [e])
  simp [this]
theorem toIntS_ev {l : List Int} (hl : l.length ≤ 1048576) : Evp (fun k => laws_toIntS.f k l) (· = l) := by
  have key : ∀ d i, i + d = l.length → Evp (fun k => laws_toIntS.l0 k l (l.take i ++ List.replicate d 0) (i : Int)) (· = l) := by
    intro d
    induction d with
    | zero =>
      intro i hi
      refine Evp.step (fun k => by rw [laws_toIntS.l0]) ?_
      refine Evp.neg (by omega) ?_
      refine Evp.some' ?_
      simp [List.take_of_length_le (show l.length ≤ i by omega)]
    | succ d ih =>
      intro i hi
      refine Evp.step (fun k => by rw [laws_toIntS.l0]) ?_
      refine Evp.pos (by omega) (Evp.pos (by omega) (Evp.pos (by simp; omega) ?_))
      rw [wrap_succ (by omega), Int.toNat_natCast, rd_nat, getD_get (show i < l.length by omega)]
      have e : (l.take i ++ List.replicate (d + 1) 0).set i l[i] = l.take (i + 1) ++ List.replicate d 0 := by
        rw [List.set_append, if_neg (by simp; omega), List.length_take, Nat.min_eq_left (by omega), Nat.sub_self, List.replicate_succ, List.set_cons_zero, List.take_succ_eq_append_getElem (show i < l.length by omega), List.append_assoc]; rfl
      rw [e]
      exact ih (i + 1) (by omega)
  unfold laws_toIntS.f
  refine Evp.pos (by omega) (Evp.pos (by omega) ?_)
  rw [Int.toNat_natCast]
  have := key l.length 0 (by omega)
  rwa [List.take_zero, List.nil_append] at this
theorem marks_get (m : Int) {n i : Nat} (h : i < n) : (marks m n).getD i 0 = m + (i : Int) := by
  unfold marks; simp [List.getD_eq_getElem?_getD, h]
theorem heldIntS_ev {n : Nat} {m : Int} (hn : n ≤ 1048576) (hm : 0 ≤ m ∧ m ≤ 1000000000000000) : Evp (fun k => laws_heldIntS.f k (marks m n) m) (· = m + n) := by
  have key : ∀ d i, i + d = n → Evp (fun k => laws_heldIntS.l0 k (marks m n) (m + (i : Int)) (i : Int)) (· = m + n) := by
    intro d
    induction d with
    | zero =>
      intro i hi
      refine Evp.step (fun k => by rw [laws_heldIntS.l0]) ?_
      rw [marks_len]
      exact Evp.neg (by omega) (Evp.some' (by omega))
    | succ d ih =>
      intro i hi
      refine Evp.step (fun k => by rw [laws_heldIntS.l0]) ?_
      rw [marks_len, rd_nat, marks_get m (by omega), wrap_succ (by omega), wrap_small (x := m + (i : Int) + 1) (by omega)]
      refine Evp.pos (by omega) (Evp.pos (by omega) (Evp.pos rfl ?_))
      rw [show m + (i : Int) + 1 = m + ((i + 1 : Nat) : Int) by omega]
      exact ih (i + 1) (by omega)
  have := key n 0 (by omega)
  unfold laws_heldIntS.f
  simpa using this
theorem maxLen_big : maxLen ≤ 9223372036854775807 := by decide
/-- the budget that a law spends on its rows -/
theorem szIntSS_evL {m : List (List Int)} {b0 : Int} (hb0 : 0 ≤ b0 ∧ b0 ≤ 1048576) (hm : m.length ≤ maxLen) (hr : ∀ r ∈ m, r.length ≤ maxLen) : Evp (fun k => laws_szIntSS.f k m b0) (fun t => t < 0 ∨ ((0 ≤ t ∧ t ≤ 1048576) ∧ m.length ≤ 1048576 ∧ ∀ r ∈ m, r.length ≤ 1048576)) := by
  have hb := maxLen_big
  unfold laws_szIntSS.f
  rw [wrap_small (by omega)]
  refine Evp.ite (fun _ => Evp.some' (.inl (by decide))) fun h0 => ?_
  have hm2 : m.length ≤ 1048576 := by omega
  have key : ∀ d i (b : Int), i + d = m.length → 0 ≤ b ∧ b ≤ 1048576 → (∀ j, j < i → (m.getD j []).length ≤ 1048576) → Evp (fun k => laws_szIntSS.l0 k m b (i : Int)) (fun t => t < 0 ∨ ((0 ≤ t ∧ t ≤ 1048576) ∧ m.length ≤ 1048576 ∧ ∀ r ∈ m, r.length ≤ 1048576)) := by
    intro d
    induction d with
    | zero =>
      intro i b hi hb2 hp
      refine Evp.step (fun k => by rw [laws_szIntSS.l0]) (Evp.neg (by omega) (Evp.some' (.inr ⟨hb2, hm2, fun r h => ?_⟩)))
      obtain ⟨j, hj, rfl⟩ := List.mem_iff_getElem.1 h
      have := hp j (by omega)
      rwa [getDL_get hj] at this
    | succ d ih =>
      intro i b hi hb2 hp
      have hl : (m.getD i []).length ≤ maxLen := by rw [getDL_get (by omega)]; exact hr _ (List.getElem_mem _)
      refine Evp.step (fun k => by rw [laws_szIntSS.l0]) (Evp.pos (by omega) (Evp.pos (by omega) ?_))
      rw [rdL1_nat, wrap_succ (by omega)]
      have e : laws_szIntS.f (m.getD i []) b = some (if b - ((m.getD i []).length : Int) < 0 then -1 else b - ((m.getD i []).length : Int)) := by
        unfold laws_szIntS.f
        rw [wrap_small (by omega)]
        split <;> rfl
      rw [e]; simp only [Option.bind_some]
      by_cases h1 : b - ((m.getD i []).length : Int) < 0
      · rw [if_pos h1]
        exact Evp.pos (by decide) (Evp.some' (.inl (by decide)))
      · rw [if_neg h1]
        refine Evp.neg h1 (ih (i + 1) _ (by omega) (by omega) fun j hj => ?_)
        rcases Nat.lt_or_ge j i with c | c
        · exact hp j c
        · rw [show j = i by omega]; omega
  exact key m.length 0 _ (by omega) (by omega) (fun j hj => absurd hj (Nat.not_lt_zero j))
theorem toIntSS_ev {m : List (List Int)} (hm : m.length ≤ 1048576) (hr : ∀ r ∈ m, r.length ≤ 1048576) : Evp (fun k => laws_toIntSS.f k m) (· = m) := by
  have key : ∀ d i, i + d = m.length → Evp (fun k => laws_toIntSS.l0 k m (m.take i ++ List.replicate d []) (i : Int)) (· = m) := by
    intro d
    induction d with
    | zero =>
      intro i hi
      refine Evp.step (fun k => by rw [laws_toIntSS.l0]) ?_
      refine Evp.neg (by omega) ?_
      refine Evp.some' ?_
      simp [List.take_of_length_le (show m.length ≤ i by omega)]
    | succ d ih =>
      intro i hi
      refine Evp.step (fun k => by rw [laws_toIntSS.l0]) ?_
      refine Evp.pos (by omega) (Evp.pos (by omega) ?_)
      rw [rdL1_nat, getDL_get (show i < m.length by omega)]
      refine Evp.bind (toIntS_ev (hr _ (List.getElem_mem _))) fun t ht => ?_
      subst ht
      refine Evp.pos (by simp; omega) ?_
      rw [wrap_succ (by omega), Int.toNat_natCast]
      have e : (m.take i ++ List.replicate (d + 1) []).set i m[i] = m.take (i + 1) ++ List.replicate d [] := by
        rw [List.set_append, if_neg (by simp; omega), List.length_take, Nat.min_eq_left (by omega), Nat.sub_self, List.replicate_succ, List.set_cons_zero, List.take_succ_eq_append_getElem (show i < m.length by omega), List.append_assoc]; rfl
      rw [e]
      exact ih (i + 1) (by omega)
  unfold laws_toIntSS.f
  refine Evp.pos (by omega) (Evp.pos (by omega) ?_)
  rw [Int.toNat_natCast]
  have := key m.length 0 (by omega)
  rwa [List.take_zero, List.nil_append] at this
theorem eqIntSS_self {m : List (List Int)} (hm : m.length ≤ 1048576) (hr : ∀ r ∈ m, r.length ≤ 1048576) : Evp (fun k => laws_eqIntSS.f k m m) (· = true) := by
  have key : ∀ d i, i + d = m.length → Evp (fun k => laws_eqIntSS.l0 k m m (i : Int)) (· = true) := by
    intro d
    induction d with
    | zero =>
      intro i hi
      exact Evp.step (fun k => by rw [laws_eqIntSS.l0]) (Evp.neg (by omega) (Evp.some' rfl))
    | succ d ih =>
      intro i hi
      refine Evp.step (fun k => by rw [laws_eqIntSS.l0]) (Evp.pos (by omega) (Evp.pos (by omega) (Evp.pos (by omega) ?_)))
      rw [rdL1_nat, getDL_get (show i < m.length by omega)]
      refine Evp.bind (eqIntS_ev (by have := hr _ (List.getElem_mem (l := m) (n := i) (by omega)); omega)) fun t ht => ?_
      subst ht
      refine Evp.pos (by simp) ?_
      rw [wrap_succ (by omega)]
      exact ih (i + 1) (by omega)
  unfold laws_eqIntSS.f
  exact Evp.pos rfl (key m.length 0 (by omega))
theorem spec_SpanOk_ev {m : List (List Int)} (hm : m.length ≤ 1048576) (hr : ∀ r ∈ m, r.length ≤ 1048576) : Evp (fun k => spec_SpanOk.f k m) (· = mok m) := by
  have key : ∀ d i, i + d = m.length → (m.take i).all vok = true → Evp (fun k => spec_SpanOk.l0 k m (i : Int)) (· = mok m) := by
    intro d
    induction d with
    | zero =>
      intro i hi hp
      refine Evp.step (fun k => by rw [spec_SpanOk.l0]) (Evp.neg (by omega) (Evp.some' ?_))
      rw [List.take_of_length_le (by omega)] at hp
      unfold mok
      rw [hp, Bool.and_true]
      congr 1
      rw [eq_iff_iff]; omega
    | succ d ih =>
      intro i hi hp
      refine Evp.step (fun k => by rw [spec_SpanOk.l0]) (Evp.pos (by omega) (Evp.pos (by omega) ?_))
      rw [rdL1_nat, getDL_get (show i < m.length by omega)]
      refine Evp.bind (spec_VecOk_ev (by have := hr _ (List.getElem_mem (l := m) (n := i) (by omega)); omega)) fun t ht => ?_
      subst ht
      refine Evp.ite (fun h => ?_) fun h => Evp.some' ?_
      · rw [wrap_succ (by omega)]
        refine ih (i + 1) (by omega) ?_
        rw [List.take_succ_eq_append_getElem (show i < m.length by omega), List.all_append, hp, List.all_cons, h]; rfl
      · have : mok m = false := by
          rw [Bool.eq_false_iff]
          intro hc
          exact h ((mok_iff.1 hc).2 _ (List.getElem_mem _))
        rw [this]
  unfold spec_SpanOk.f
  exact key m.length 0 (by omega) rfl
theorem l3Tidy_eq {m : List (List Int)} (h : mok m = true) : spec_l3Tidy.f m = some (ltidy m) := by
  obtain ⟨h8, hr⟩ := mok_iff.1 h
  unfold spec_l3Tidy.f
  rw [if_pos ⟨by omega, by simpa using hr⟩]
def l4 (x : S59) : List Int := [x.f0, x.f1, x.f2, x.f3]
theorem l4_toS {r : List Int} (h : r.length = 4) : l4 (toS r) = r := by
  match r, h with
  | [a, b, c, d], _ => rfl
theorem toS_l4 (x : S59) : toS (l4 x) = x := rfl
theorem map_l4_toS {L : List (List Int)} (h : ∀ r ∈ L, vok r = true) : (L.map toS).map l4 = L := by
  rw [List.map_map]
  conv => rhs; rw [← List.map_id L]
  exact List.map_congr_left fun r hr => l4_toS (vok_iff.1 (h r hr)).1
theorem map_toS_l4 (L : List S59) : (L.map l4).map toS = L := by
  rw [List.map_map]
  conv => rhs; rw [← List.map_id L]
  exact List.map_congr_left fun r hr => toS_l4 r
/-- a row taken away -/
def el (r s : List Int) : List Int := List.zipWith (fun x y => (x - y * gt r (llead s) % 31) % 31) r s
theorem el_len {r s : List Int} (hr : r.length = 4) (hs : s.length = 4) : (el r s).length = 4 := by simp [el, hr, hs]
theorem vok_el {r s : List Int} (hr : vok r = true) (hs : vok s = true) : vok (el r s) = true := by
  refine vok_iff.2 ⟨el_len (vok_iff.1 hr).1 (vok_iff.1 hs).1, fun x hx => ?_⟩
  obtain ⟨i, hi, rfl⟩ := List.getElem_of_mem hx
  simp only [el, List.getElem_zipWith]; exact mod_ok _
theorem el_get {r s : List Int} (hr : r.length = 4) (hs : s.length = 4) {j : Nat} (hj : j < 4) : (el r s).getD j 0 = (r.getD j 0 - s.getD j 0 * gt r (llead s) % 31) % 31 := by
  have h1 : j < (el r s).length := by rw [el_len hr hs]; exact hj
  rw [List.getD_eq_getElem?_getD, List.getElem?_eq_getElem h1, List.getD_eq_getElem?_getD, List.getElem?_eq_getElem (by omega), List.getD_eq_getElem?_getD, List.getElem?_eq_getElem (by omega)]
  simp only [el, List.getElem_zipWith, Option.getD_some]
theorem toW_el {r s : List Int} (hr : vok r = true) (hs : vok s = true) (hp : ld (toW s) < 4) : toW (el r s) = less (toW r) (toW s) := by
  have e := llead_ld (vok_iff.1 hs).2 hp
  have h1 := (vok_iff.1 hr).1
  have h2 := (vok_iff.1 hs).1
  funext j
  show toF ((el r s).getD j 0) = toF (r.getD j 0) + -(toF (r.getD (ld (toW s)) 0)) * toF (s.getD j 0)
  rcases Nat.lt_or_ge j 4 with hj | hj
  · rw [el_get h1 h2 hj, e, gt_nat, toF_mod, Int.sub_eq_add_neg, toF_add]
    have : toF (-(s.getD j 0 * r.getD (ld (toW s)) 0 % 31)) = -(toF (s.getD j 0 * r.getD (ld (toW s)) 0)) := by
      have h1 : toF (-(s.getD j 0 * r.getD (ld (toW s)) 0 % 31)) + toF (s.getD j 0 * r.getD (ld (toW s)) 0) = 0 := by
        rw [← toF_add, ← toF_zero, toF_eq]; omega
      grind
    rw [this, toF_mul]; grind
  · rw [List.getD_eq_getElem?_getD, List.getElem?_eq_none (by rw [el_len h1 h2]; exact hj), List.getD_eq_getElem?_getD (l := r), List.getElem?_eq_none (by omega), List.getD_eq_getElem?_getD (l := s), List.getElem?_eq_none (by omega)]
    simp only [Option.getD_none, toF_zero]; grind
theorem tidy_l0_ev {K : List (List Int)} (hK : ∀ r ∈ K, Good r) (hn : K.length ≤ 1000000) {Q : _ → Prop} (h : Evp (fun k => impl_tidy.l1 k (K.map toS) (K.length : Int) 0) Q) : ∀ (d i : Nat), i + d = K.length →
    Evp (fun k => impl_tidy.l0 k ((K.take i).map toS) (K.map m12) (K.length : Int) (i : Int)) Q := by
  intro d
  induction d with
  | zero =>
    intro i hi
    refine Evp.step (fun k => by rw [impl_tidy.l0]) (Evp.neg (by omega) ?_)
    rw [List.take_of_length_le (by omega), List.length_map]
    exact h
  | succ d ih =>
    intro i hi
    have hi1 : i < K.length := by omega
    refine Evp.step (fun k => by rw [impl_tidy.l0]) (Evp.pos (by omega) (Evp.pos (by omega) (Evp.pos (by rw [List.length_map]; omega) (Evp.pos (by rw [List.length_map, List.length_take]; omega) ?_))))
    rw [rdK (by rw [List.length_map]; exact hi1), wrap_succ (by omega)]
    have := ih (i + 1) (by omega)
    rw [List.take_succ_eq_append_getElem hi1, List.map_append] at this
    simpa [toS, m12] using this
def tstep (i : Nat) (L : List (List Int)) : List (List Int) := L.mapIdx fun j r => if j = i then r else el r (L.getD i [])
theorem tstep_len (i : Nat) (L : List (List Int)) : (tstep i L).length = L.length := by simp [tstep]
theorem tstep_get (i : Nat) (L : List (List Int)) (j : Nat) (hj : j < L.length) : (tstep i L)[j]'(by rw [tstep_len]; exact hj) = if j = i then L[j] else el L[j] (L.getD i []) := by
  simp [tstep]
theorem vok_tstep {L : List (List Int)} (hL : ∀ r ∈ L, vok r = true) {i : Nat} (hi : i < L.length) : ∀ r ∈ tstep i L, vok r = true := fun r hr => by
  obtain ⟨j, hj, rfl⟩ := List.getElem_of_mem hr
  rw [tstep_len] at hj
  rw [tstep_get i L j hj]
  split
  · exact hL _ (List.getElem_mem hj)
  · exact vok_el (hL _ (List.getElem_mem hj)) (vok_getD hL hi)
theorem toW_tstep {L : List (List Int)} (hL : ∀ r ∈ L, vok r = true) {i : Nat} (hi : i < L.length) (hp : ld (toW (L.getD i [])) < 4) : (tstep i L).map toW = elim i (L.map toW) := by
  apply List.ext_getElem (by simp [tstep_len, elim_len])
  intro j h1 h2
  rw [List.length_map, tstep_len] at h1
  rw [List.getElem_map, tstep_get i L j h1, elim_get i (L.map toW) j (by rw [List.length_map]; exact h1), List.getElem_map]
  split
  · rfl
  · rw [toW_el (hL _ (List.getElem_mem h1)) (vok_getD hL hi) hp, getD_map hi]
theorem rdT {L : List (List Int)} {i : Nat} (h : i < L.length) : rd_T59 (L.map toS) (i : Int) = toS (L.getD i []) := by
  rw [rdV (by rw [List.length_map]; exact h), List.getElem_map, List.getD_eq_getElem?_getD, List.getElem?_eq_getElem h]; rfl
theorem oks4 {r : List Int} (h : vok r = true) : ok (toS r).f0 = true ∧ ok (toS r).f1 = true ∧ ok (toS r).f2 = true ∧ ok (toS r).f3 = true := by
  have c := (vok_iff.1 h).2
  exact ⟨can_get c 0, can_get c 1, can_get c 2, can_get c 3⟩
/-- the rows when the first j of them have been gone through -/
def lmid (i : Nat) (L : List (List Int)) (j : Nat) : List (List Int) := (tstep i L).take j ++ L.drop j
theorem lmid_len (i : Nat) (L : List (List Int)) {j : Nat} (hj : j ≤ L.length) : (lmid i L j).length = L.length := by
  unfold lmid; rw [List.length_append, List.length_take, List.length_drop, tstep_len]; omega
theorem lmid_get (i : Nat) (L : List (List Int)) {j q : Nat} (hj : j ≤ L.length) (hq : q < L.length) : (lmid i L j).getD q [] = if q < j then (if q = i then L.getD q [] else el (L.getD q []) (L.getD i [])) else L.getD q [] := by
  unfold lmid
  rw [List.getD_eq_getElem?_getD]
  by_cases h : q < j
  · rw [if_pos h, List.getElem?_append_left (by rw [List.length_take, tstep_len]; omega), List.getElem?_take_of_lt h, List.getElem?_eq_getElem (by rw [tstep_len]; exact hq), tstep_get i L q hq]
    simp only [List.getD_eq_getElem?_getD, List.getElem?_eq_getElem hq, Option.getD_some]
  · rw [if_neg h, List.getElem?_append_right (by rw [List.length_take, tstep_len]; omega), List.length_take, tstep_len, List.getElem?_drop, show j + (q - min j L.length) = q by omega]; rfl
theorem lmid_skip (i : Nat) (L : List (List Int)) (hi : i < L.length) : lmid i L (i + 1) = lmid i L i := by
  unfold lmid
  rw [List.take_succ_eq_append_getElem (by rw [tstep_len]; exact hi), tstep_get i L i hi, if_pos rfl, List.drop_eq_getElem_cons hi, List.append_assoc]; rfl
theorem lmid_set (i : Nat) (L : List (List Int)) {j : Nat} (hj : j < L.length) (hne : j ≠ i) : (lmid i L j).set j (el (L.getD j []) (L.getD i [])) = lmid i L (j + 1) := by
  unfold lmid
  have hl : ((tstep i L).take j).length = j := by rw [List.length_take, tstep_len]; omega
  rw [List.set_append_right _ _ (by omega), hl, Nat.sub_self, List.drop_eq_getElem_cons hj, List.set_cons_zero, List.take_succ_eq_append_getElem (by rw [tstep_len]; exact hj), tstep_get i L j hj, if_neg hne, List.append_assoc, List.getD_eq_getElem?_getD, List.getElem?_eq_getElem hj]; rfl
theorem tidy_l2_ev {L : List (List Int)} (hL : ∀ r ∈ L, vok r = true) (hn : L.length ≤ 1000000) {i : Nat} (hi : i < L.length) {p : Nat} (hp : p < 4) (hl : llead (L.getD i []) = (p : Int)) {Q : _ → Prop}
    (h : Evp (fun k => impl_tidy.l1 k ((tstep i L).map toS) (L.length : Int) ((i + 1 : Nat) : Int)) Q) : ∀ (d j : Nat), j + d = L.length →
    Evp (fun k => impl_tidy.l2 k ((lmid i L j).map toS) (i : Int) (p : Int) (L.length : Int) (i : Int) (L.length : Int) (j : Int)) Q := by
  intro d
  induction d with
  | zero =>
    intro j hj
    refine Evp.step (fun k => by rw [impl_tidy.l2]) (Evp.neg (by omega) ?_)
    have e : lmid i L j = tstep i L := by
      unfold lmid
      rw [List.take_of_length_le (by rw [tstep_len]; omega), List.drop_eq_nil_of_le (by omega), List.append_nil]
    rw [e, wrap_succ (by omega)]
    exact h
  | succ d ih =>
    intro j hj
    have hj1 : j < L.length := by omega
    have hm : ((lmid i L j).map toS).length = L.length := by rw [List.length_map, lmid_len i L (by omega)]
    refine Evp.step (fun k => by rw [impl_tidy.l2]) (Evp.pos (by omega) (Evp.ite (fun hc => ?_) fun hc => ?_))
    · have e : j = i := by omega
      subst e
      rw [wrap_succ (by omega), ← lmid_skip j L hj1]
      exact ih (j + 1) (by omega)
    · have hne : j ≠ i := by omega
      refine Evp.pos (by omega) (Evp.pos (by omega) (Evp.pos (by omega) (Evp.pos (by omega) ?_)))
      have ej : (lmid i L j).getD j [] = L.getD j [] := by rw [lmid_get i L (by omega) hj1, if_neg (by omega)]
      have ei : (lmid i L j).getD i [] = L.getD i [] := by
        rw [lmid_get i L (by omega) hi]
        split <;> simp
      rw [rdT (by rw [lmid_len i L (by omega)]; exact hi), rdT (by rw [lmid_len i L (by omega)]; exact hj1), ei, ej]
      have vj := vok_getD hL hj1
      have vi := vok_getD hL hi
      obtain ⟨a0, a1, a2, a3⟩ := oks4 vj
      obtain ⟨b0, b1, b2, b3⟩ := oks4 vi
      have key : ∀ c : Int, c = (L.getD j []).getD p 0 → Evp (fun k => (impl_vector_times.f (toS (L.getD i [])).f0 (toS (L.getD i [])).f1 (toS (L.getD i [])).f2 (toS (L.getD i [])).f3 c).bind fun bt => (impl_vector_minus.f (toS (L.getD j [])).f0 (toS (L.getD j [])).f1 (toS (L.getD j [])).f2 (toS (L.getD j [])).f3 bt.1 bt.2.1 bt.2.2.1 bt.2.2.2).bind fun bu => impl_tidy.l2 k (((lmid i L j).map toS).set ((j : Int)).toNat (⟨bu.1, bu.2.1, bu.2.2.1, bu.2.2.2⟩ : S59)) (i : Int) (p : Int) (L.length : Int) (i : Int) (L.length : Int) (wrap64 ((j : Int) + 1))) Q := by
        intro c hc
        have oc : ok c = true := hc ▸ can_get (vok_iff.1 vj).2 p
        have hk := ih (j + 1) (by omega)
        rw [← lmid_set i L hj1 hne, List.map_set] at hk
        refine Evp.congr (f := fun k => impl_tidy.l2 k (((lmid i L j).map toS).set j (toS (el (L.getD j []) (L.getD i [])))) (i : Int) (p : Int) (L.length : Int) (i : Int) (L.length : Int) ((j + 1 : Nat) : Int)) (fun k => ?_) hk
        rw [vtimes_eq b0 b1 b2 b3 oc, Option.bind_some, vminus_eq a0 a1 a2 a3 (mod_ok _) (mod_ok _) (mod_ok _) (mod_ok _), Option.bind_some, Int.toNat_natCast, wrap_succ (by omega)]
        have g : ∀ q, q < 4 → (el (L.getD j []) (L.getD i [])).getD q 0 = ((L.getD j []).getD q 0 - (L.getD i []).getD q 0 * c % 31) % 31 := fun q hq => by
          rw [el_get (vok_iff.1 vj).1 (vok_iff.1 vi).1 hq, hl, gt_nat, ← hc]
        unfold toS
        rw [g 0 (by omega), g 1 (by omega), g 2 (by omega), g 3 (by omega)]
      match p, hp, key with
      | 0, _, key => exact Evp.pos (by decide) (key _ rfl)
      | 1, _, key => exact Evp.neg (by decide) (Evp.pos (by decide) (key _ rfl))
      | 2, _, key => exact Evp.neg (by decide) (Evp.neg (by decide) (Evp.pos (by decide) (key _ rfl)))
      | 3, _, key => exact Evp.neg (by decide) (Evp.neg (by decide) (Evp.neg (by decide) (Evp.pos (by decide) (key _ rfl))))
def lels (n : Nat) (L : List (List Int)) : List (List Int) := (List.range n).foldl (fun R i => tstep i R) L
theorem lels_succ (n : Nat) (L : List (List Int)) : lels (n + 1) L = tstep n (lels n L) := by simp [lels, List.range_succ]
theorem lels_inv {L : List (List Int)} (hL : ∀ r ∈ L, vok r = true) (he : Ech (L.map toW)) (hf : ∀ r ∈ L.map toW, four r) : ∀ n, n ≤ L.length → (∀ r ∈ lels n L, vok r = true) ∧ (lels n L).length = L.length ∧ (lels n L).map toW = elims n (L.map toW) ∧ ∀ i, i < L.length → ld (toW ((lels n L).getD i [])) < 4 := by
  intro n
  induction n with
  | zero =>
    intro _
    refine ⟨hL, rfl, rfl, fun i hi => ?_⟩
    show ld (toW (L.getD i [])) < 4
    rw [List.getD_eq_getElem?_getD, List.getElem?_eq_getElem hi]
    exact (he.one _ (List.mem_map_of_mem (List.getElem_mem hi))).1
  | succ n ih =>
    intro hn
    obtain ⟨h1, h2, h3, h4⟩ := ih (by omega)
    have h5 : n < (lels n L).length := by omega
    have h6 : (lels (n + 1) L).map toW = elims (n + 1) (L.map toW) := by
      rw [lels_succ, toW_tstep h1 h5 (h4 n (by omega)), h3, elims_succ]
    refine ⟨?_, ?_, h6, fun i hi => ?_⟩
    · rw [lels_succ]; exact vok_tstep h1 h5
    · rw [lels_succ, tstep_len, h2]
    · have hb := elims_back he hf (n + 1) (by rw [List.length_map]; exact hn)
      have hl : i < (elims (n + 1) (L.map toW)).length := by rw [hb.len, List.length_map]; exact hi
      have := hb.lead i hl
      have e : (elims (n + 1) (L.map toW))[i] = toW ((lels (n + 1) L).getD i []) := by
        have : i < (lels (n + 1) L).length := by rw [lels_succ, tstep_len, h2]; exact hi
        simp only [← h6, List.getElem_map, List.getD_eq_getElem?_getD, List.getElem?_eq_getElem this, Option.getD_some]
      rw [e] at this
      rw [this, getD_map_toW, List.getD_eq_getElem?_getD, List.getElem?_eq_getElem hi]
      exact (he.one _ (List.mem_map_of_mem (List.getElem_mem hi))).1
theorem tidy_l1_ev {L : List (List Int)} (hL : ∀ r ∈ L, vok r = true) (hn : L.length ≤ 12) (he : Ech (L.map toW)) (hf : ∀ r ∈ L.map toW, four r) : ∀ (d i : Nat), i + d = L.length →
    Evp (fun k => impl_tidy.l1 k ((lels i L).map toS) (L.length : Int) (i : Int)) (· = So.vsort ((lels L.length L).map toS)) := by
  intro d
  induction d with
  | zero =>
    intro i hi
    have e : i = L.length := by omega
    subst e
    have h2 := (lels_inv hL he hf L.length (Nat.le_refl _)).2.1
    refine Evp.step (fun k => by rw [impl_tidy.l1]) (Evp.neg (by omega) ?_)
    unfold So.srt
    rw [if_pos (by rw [List.length_map]; omega)]
    exact Evp.some' rfl
  | succ d ih =>
    intro i hi
    obtain ⟨h1, h2, h3, h4⟩ := lels_inv hL he hf i (by omega)
    have hi1 : i < (lels i L).length := by omega
    have e := llead_ld (vok_iff.1 (vok_getD h1 hi1)).2 (h4 i (by omega))
    refine Evp.step (fun k => by rw [impl_tidy.l1]) (Evp.pos (by omega) (Evp.pos (by omega) (Evp.pos (by rw [List.length_map]; omega) ?_)))
    rw [rdT hi1]
    have e2 : impl_vector_lead.f (toS ((lels i L).getD i [])).f0 (toS ((lels i L).getD i [])).f1 (toS ((lels i L).getD i [])).f2 (toS ((lels i L).getD i [])).f3 = some ((ld (toW ((lels i L).getD i [])) : Nat) : Int) := by
      rw [← e]
      exact congrArg (fun z => some (llead z)) (l4_toS (vok_iff.1 (vok_getD h1 hi1)).1)
    simp only [e2, Option.bind_some]
    have := ih (i + 1) (by omega)
    rw [lels_succ, ← h2] at this
    have := tidy_l2_ev h1 (by omega) hi1 (h4 i (by omega)) e this (lels i L).length 0 (by omega)
    rw [h2] at this
    have e0 : lmid i (lels i L) 0 = lels i L := rfl
    rw [e0] at this
    simpa [h2] using this
theorem impl_tidy_ev {m : List (List Int)} (hm : ∀ r ∈ m, vok r = true) (h8 : m.length ≤ 8) : Evp (fun k => impl_tidy.f k (m.map toS)) (· = (ltidy m).map toS) := by
  obtain ⟨g1, g2, _, g4, _⟩ := kspan_inv hm h8 m.length (Nat.le_refl _)
  have hf : ∀ r ∈ m.map toW, four r := fun r hr => by
    obtain ⟨s, hs, rfl⟩ := List.mem_map.1 hr
    exact toW_four (vok_iff.1 (hm s hs)).1
  unfold impl_tidy.f
  refine Evp.bind (spanOf_ev hm h8) fun t ht => ?_
  subst ht
  generalize hK : (kspan m m.length).1 = K at g1 g2 g4
  have hL : ∀ r ∈ K.map (List.take 4), vok r = true := fun r hr => by
    obtain ⟨s, hs, rfl⟩ := List.mem_map.1 hr
    exact vok_iff.2 ⟨by rw [List.length_take, (g1 s hs).1]; rfl, can_take (g1 s hs).2.1 4⟩
  have hW : (K.map (List.take 4)).map toW = fwd (m.map toW) := by
    have := kept_res4 hf m.length (by rw [List.length_map]; exact Nat.le_refl _)
    rw [← g2, List.take_of_length_le (by rw [List.length_map]; exact Nat.le_refl _), List.map_map] at this
    rw [← this, List.map_map]
    refine List.map_congr_left fun r hr => ?_
    show toW (r.take 4) = res4 (toW r)
    funext i
    show _ = if i < 4 then toW r i else 0
    split
    · rename_i h; exact toW_take4 r h
    · rename_i h
      show toF ((r.take 4).getD i 0) = 0
      rw [List.getD_eq_getElem?_getD, List.getElem?_eq_none (by rw [List.length_take]; omega)]; exact toF_zero
  have hT : (K.map (List.take 4)).map toS = K.map toS := by
    rw [List.map_map]
    refine List.map_congr_left fun r hr => ?_
    have := (g1 r hr).1
    match r, this with
    | [a, b, c, d, e, f, g, i, j, k, m, n], _ => rfl
  have he := fwd_ech hf
  have h4 := fwd_four hf
  rw [← hW] at he h4
  have hlen : (K.map (List.take 4)).length = K.length := List.length_map _
  have fin : So.vsort ((lels (K.map (List.take 4)).length (K.map (List.take 4))).map toS) = (ltidy m).map toS := by
    obtain ⟨k1, k2, k3, k5⟩ := lels_inv hL he h4 _ (Nat.le_refl _)
    generalize hE : lels (K.map (List.take 4)).length (K.map (List.take 4)) = E at k1 k2 k3 k5
    obtain ⟨s1, s2⟩ := So.vsort_spec (E.map toS)
    generalize So.vsort (E.map toS) = V at s1 s2
    have p1 : (V.map l4).Perm E := by have := s1.map l4; rwa [map_l4_toS k1] at this
    have vk : ∀ r ∈ V.map l4, vok r = true := fun r hr => k1 r (p1.mem_iff.1 hr)
    have hld : ∀ r ∈ E, ld (toW r) < 4 := fun r hr => by
      obtain ⟨i, hi, rfl⟩ := List.getElem_of_mem hr
      have := k5 i (by omega)
      rwa [List.getD_eq_getElem?_getD, List.getElem?_eq_getElem hi] at this
    have p2 : ((V.map l4).map toW).Perm (elims (fwd (m.map toW)).length (fwd (m.map toW))) := by
      have := p1.map toW
      rw [k3, hW] at this
      have e5 : (fwd (m.map toW)).length = (K.map (List.take 4)).length := by rw [← hW, List.length_map]
      rw [e5]; exact this
    have p3 : (((V.map l4).map toW).map ld).Pairwise (· ≤ ·) := by
      rw [List.map_map, List.map_map, List.pairwise_map]
      refine List.Pairwise.imp_of_mem (fun {a b} ha hb hab => ?_) s2
      have la := hld (l4 a) (p1.mem_iff.1 (List.mem_map_of_mem ha))
      have lb := hld (l4 b) (p1.mem_iff.1 (List.mem_map_of_mem hb))
      have ea := llead_ld (vok_iff.1 (vk _ (List.mem_map_of_mem ha))).2 la
      have eb := llead_ld (vok_iff.1 (vk _ (List.mem_map_of_mem hb))).2 lb
      have hab : llead (l4 a) ≤ llead (l4 b) := hab
      rw [ea, eb] at hab
      show ld (toW (l4 a)) ≤ ld (toW (l4 b))
      omega
    have := back_tidy hf p2 p3
    rw [← (ltidy_toW hm).1] at this
    have := rows_inj vk (ltidy_toW hm).2 this
    rw [← this, map_toS_l4]
  rw [← fin]
  have := tidy_l0_ev g1 (by omega) (tidy_l1_ev hL (by omega) he h4 _ 0 (Nat.zero_add _) |> fun h => by rw [hlen] at h; have e0 : lels 0 (K.map (List.take 4)) = K.map (List.take 4) := rfl; rw [e0, hT] at h; exact h) K.length 0 (Nat.zero_add _)
  simpa [hlen] using this
def ltid (m : List (List Int)) : List (List Int) := if mok m = true then ltidy m else []
theorem ltid_ok {m : List (List Int)} (h : mok m = true) : ltid m = ltidy m := by unfold ltid; rw [if_pos h]
theorem ltid_vok (m : List (List Int)) : ∀ r ∈ ltid m, vok r = true := by
  unfold ltid
  split
  · rename_i h; exact (ltidy_toW (mok_iff.1 h).2).2
  · simp
theorem ltid_four (m : List (List Int)) : (ltid m).length ≤ 4 := by
  unfold ltid
  split
  · rename_i h; exact ltidy_four (mok_iff.1 h).2
  · simp
theorem spec_SpanTidy_ev {m : List (List Int)} (hm : m.length ≤ 1048576) (hr : ∀ r ∈ m, r.length ≤ 1048576) : Evp (fun k => spec_SpanTidy.f k m) (· = ltid m) := by
  unfold spec_SpanTidy.f ltid
  refine Evp.bind (spec_SpanOk_ev hm hr) fun t ht => ?_
  subst ht
  refine Evp.ite (fun h => ?_) fun h => Evp.some' (by rw [if_neg h])
  rw [l3Tidy_eq h, if_pos h]
  exact Evp.some' rfl
theorem impl_SpanTidy_ev {m : List (List Int)} (hm : m.length ≤ 1048576) : Evp (fun k => impl_SpanTidy.f k m) (· = ltid m) := by
  unfold impl_SpanTidy.f
  refine Evp.bind (impl_matrixOf_ev hm) fun t ht => ?_
  subst ht
  by_cases ho : mok m = true
  · obtain ⟨h8, hv⟩ := mok_iff.1 ho
    rw [ltid_ok ho]
    simp only [if_pos (show m.all vok = true by simpa using hv)]
    refine Evp.pos (by simpa using h8) (Evp.pos (by omega) (Evp.pos (by omega) ?_))
    refine Evp.bind (impl_tidy_ev hv h8) fun t ht => ?_
    subst ht
    have ht := (ltidy_toW hv).2
    have h4 := ltidy_four hv
    generalize ltidy m = t at ht h4 ⊢
    have key : ∀ d i, i + d = t.length → Evp (fun k => impl_SpanTidy.l0 k (t.take i) (t.map toS) (t.length : Int) (i : Int)) (· = t) := by
      intro d
      induction d with
      | zero =>
        intro i hi
        refine Evp.step (fun k => by rw [impl_SpanTidy.l0]) (Evp.neg (by omega) (Evp.some' ?_))
        rw [List.take_of_length_le (by omega)]
      | succ d ih =>
        intro i hi
        have hi1 : i < t.length := by omega
        refine Evp.step (fun k => by rw [impl_SpanTidy.l0]) (Evp.pos (by omega) (Evp.pos (by omega) (Evp.pos (by rw [List.length_map]; omega) ?_)))
        rw [rdT hi1, wrap_succ (by omega)]
        have e : impl_vector_list.f (toS (t.getD i [])).f0 (toS (t.getD i [])).f1 (toS (t.getD i [])).f2 (toS (t.getD i [])).f3 = some (t.getD i []) :=
          congrArg some (l4_toS (vok_iff.1 (vok_getD ht hi1)).1)
        simp only [e, Option.bind_some]
        refine Evp.pos (by rw [List.length_take]; omega) ?_
        have := ih (i + 1) (by omega)
        rw [List.take_succ_eq_append_getElem hi1] at this
        rw [List.getD_eq_getElem?_getD, List.getElem?_eq_getElem hi1]
        exact this
    have := key t.length 0 (by omega)
    simpa using this
  · have e : ltid m = [] := by unfold ltid; rw [if_neg ho]
    rw [e]
    by_cases ha : m.all vok = true
    · simp only [if_pos ha]
      exact Evp.neg (by simpa using fun h8 => ho (mok_iff.2 ⟨h8, by simpa using ha⟩)) (Evp.some' rfl)
    · simp only [if_neg ha]
      exact Evp.neg (by simp) (Evp.some' rfl)
theorem ltid_small (m : List (List Int)) : (ltid m).length ≤ 1000000 ∧ ∀ r ∈ ltid m, r.length ≤ 1000000 := ⟨by have := ltid_four m; omega, fun r hr => by have := (vok_iff.1 (ltid_vok m r hr)).1; omega⟩
theorem markRows_rd (l : List (List Int)) (m : Int) {i : Nat} (hi : i < l.length) : rd_L1 (markRows l m) (i : Int) = marks (m + total (l.take i)) (l[i]).length := by
  unfold rd_L1
  have h := markRows_app (l.take i) (l.drop i) m
  rw [List.take_append_drop] at h
  have hl : (markRows (l.take i) m).length = i := by rw [markRows_len, List.length_take]; omega
  rw [h, Int.toNat_natCast, List.getD_eq_getElem?_getD, List.getElem?_append_right (by omega), hl, Nat.sub_self, List.drop_eq_getElem_cons hi]
  rfl
theorem heldIntSS_ev {l : List (List Int)} {m : Int} (hl : l.length ≤ 1048576) (hr : ∀ r ∈ l, r.length ≤ 1048576) (hm : 0 ≤ m ∧ m ≤ 1048577) : Evp (fun k => laws_heldIntSS.f k (markRows l m) m) (· = m + total l) := by
  have hT := total_le l hr
  have key : ∀ d i, i + d = l.length → Evp (fun k => laws_heldIntSS.l0 k (markRows l m) (m + total (l.take i)) (i : Int)) (· = m + total l) := by
    intro d
    induction d with
    | zero =>
      intro i hi
      refine Evp.step (fun k => by rw [laws_heldIntSS.l0]) (Evp.neg (by rw [markRows_len]; omega) (Evp.some' ?_))
      rw [List.take_of_length_le (by omega)]
    | succ d ih =>
      intro i hi
      have hil : i < l.length := by omega
      have hT2 := total_le (l.take i) (fun r h => hr r (List.mem_of_mem_take h))
      have hlt : (l.take i).length ≤ 1048576 := by rw [List.length_take]; omega
      have hri : (l[i]).length ≤ 1048576 := hr _ (List.getElem_mem _)
      refine Evp.step (fun k => by rw [laws_heldIntSS.l0]) (Evp.pos (by rw [markRows_len]; omega) (Evp.pos (by omega) ?_))
      rw [markRows_rd l m hil, wrap_succ (by omega)]
      refine Evp.bind (heldIntS_ev hri (by omega)) fun p hp => ?_
      subst hp
      refine Evp.neg (by omega) ?_
      have e2 : m + total (l.take i) + ((l[i]).length : Int) = m + total (l.take (i + 1)) := by
        rw [List.take_succ_eq_append_getElem hil, total_app]
        simp only [total]; omega
      rw [e2]
      exact ih (i + 1) (by omega)
  have := key l.length 0 (by omega)
  unfold laws_heldIntSS.f
  simpa [total] using this
theorem FnExactSpanTidy (m : List (List Int)) (hm : m.length ≤ maxLen) (hr : ∀ r ∈ m, r.length ≤ maxLen) : ∃ k, laws_FnExactSpanTidy.f k m = some true := by
  refine Evp.rounds ?_
  unfold laws_FnExactSpanTidy.f
  refine Evp.bind (szIntSS_evL (by decide) hm hr) fun t ht => ?_
  refine Evp.ite (fun _ => Evp.some' rfl) fun h0 => ?_
  obtain ⟨hb, h1, h2⟩ := ht.resolve_left h0
  have g1 : (ltid m).length ≤ 1048576 := by have := (ltid_small m).1; omega
  have g2 : ∀ r ∈ ltid m, r.length ≤ 1048576 := fun r h => by have := (ltid_small m).2 r h; omega
  have hq0 := total_le _ h2
  have hq1 := total_le _ g2
  refine Evp.bind (toIntSS_ev h1 h2) fun t ht => ?_
  subst ht
  refine Evp.bind (spec_SpanTidy_ev h1 h2) fun t ht => ?_
  subst ht
  refine Evp.bind (toIntSS_ev h1 h2) fun t ht => ?_
  subst ht
  refine Evp.bind (impl_SpanTidy_ev h1) fun t ht => ?_
  subst ht
  refine Evp.bind (eqIntSS_self g1 g2) fun t ht => ?_
  subst ht
  refine Evp.pos rfl ?_
  refine Evp.bind (toIntSS_ev h1 h2) fun t ht => ?_
  subst ht
  refine Evp.bind (eqIntSS_self h1 h2) fun t ht => ?_
  subst ht
  refine Evp.pos rfl ?_
  rw [markIntSS_f h1 h2 (by omega)]
  simp only [Option.bind_some]
  refine Evp.neg (by omega) ?_
  refine Evp.bind (eqIntSS_self g1 g2) fun t ht => ?_
  subst ht
  refine Evp.step (fun k => by rw [laws_FnExactSpanTidy.j0]) (Evp.neg (by simp) ?_)
  rw [markIntSS_f g1 g2 (by omega)]
  simp only [Option.bind_some]
  refine Evp.bind (heldIntSS_ev g1 g2 (by omega)) fun r9 hr => ?_
  subst hr
  refine Evp.neg (by omega) (Evp.pos (by first | rfl | trivial) ?_)
  refine Evp.bind (toIntSS_ev h1 h2) fun t ht => ?_
  subst ht
  refine Evp.bind (impl_SpanTidy_ev h1) fun t ht => ?_
  subst ht
  refine Evp.bind (eqIntSS_self g1 g2) fun t ht => ?_
  subst ht
  refine Evp.pos (by first | rfl | trivial) ?_
  refine Evp.bind (heldIntSS_ev g1 g2 (by omega)) fun r12 hr => ?_
  subst hr
  exact Evp.neg (by omega) (Evp.pos (by first | rfl | trivial) (Evp.some' rfl))
end Go.Proofs.Ytbhmgbeebhmfkaa.Pure
