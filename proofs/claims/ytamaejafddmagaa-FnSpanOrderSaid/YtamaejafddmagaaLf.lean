import Derived.Test.YtamaejafddmagaaPAx0
import Derived.Test.YtamaejafddmagaaPAx5
import Derived.Test.YtamaejafddmagaaPAx6
import Derived.Test.YtamaejafddmagaaPAx7d
import Derived.Test.YtamaejafddmagaaPAx8
import Derived.Test.YtamaejafddmagaaPAx9
import Derived.Test.YtamaejafddmagaaMa
/- Of the printed functions over single rows: what a walk by hand wants of them. -/
set_option linter.unusedVariables false
set_option linter.unusedSimpArgs false
namespace Go.Proofs.Ytamaejafddmagaa.Pure
open Go.RowKit Go.Proofs.Ytamaejafddmagaa.PA Go.Proofs.YtamaejafddmagaaW.PrintWords Go.Proofs.YtamaejafddmagaaW.PrintLast Go.Proofs.YtamaejafddmagaaW.PrintMore Go.Proofs.Ytamaejafddmagaa.Lin

def Evp {α : Type} (g : Nat → Option α) (Q : α → Prop) : Prop := ∃ r, Q r ∧ ∃ K, ∀ k, K ≤ k → g k = some r
theorem Evp.some' {α : Type} {r : α} {Q : α → Prop} (h : Q r) : Evp (fun _ => some r) Q := ⟨r, h, 0, fun _ _ => rfl⟩
theorem Evp.bind {α β : Type} {g : Nat → Option α} {f : Nat → α → Option β} {Q : α → Prop} {T : β → Prop} (h : Evp g Q) (k : ∀ r, Q r → Evp (fun n => f n r) T) : Evp (fun n => (g n).bind (f n)) T := by
  obtain ⟨r, hq, K, h⟩ := h
  obtain ⟨s, ht, K', k⟩ := k r hq
  refine ⟨s, ht, max K K', fun n hn => ?_⟩
  have h1 := h n (by omega)
  have h2 := k n (by omega)
  simp only [h1, Option.bind_some]
  exact h2
theorem Evp.step {α : Type} {g f : Nat → Option α} {Q : α → Prop} (h : ∀ k, g (k + 1) = f k) (k : Evp f Q) : Evp g Q := by
  obtain ⟨r, hq, K, k⟩ := k
  refine ⟨r, hq, K + 1, fun n hn => ?_⟩
  obtain ⟨m, rfl⟩ : ∃ m, n = m + 1 := ⟨n - 1, by omega⟩
  rw [h]
  exact k m (by omega)
theorem Evp.congr {α : Type} {g f : Nat → Option α} {Q : α → Prop} (h : ∀ k, g k = f k) (k : Evp f Q) : Evp g Q := by
  obtain ⟨r, hq, K, k⟩ := k
  exact ⟨r, hq, K, fun n hn => (h n).trans (k n hn)⟩
theorem Evp.mono {α : Type} {g : Nat → Option α} {Q T : α → Prop} (h : Evp g Q) (k : ∀ r, Q r → T r) : Evp g T := by
  obtain ⟨r, hq, K, h⟩ := h
  exact ⟨r, k r hq, K, h⟩
theorem Evp.rounds {α : Type} {g : Nat → Option α} {r : α} (h : Evp g (· = r)) : ∃ k, g k = some r := by
  obtain ⟨s, rfl, K, h⟩ := h
  exact ⟨K, h K (Nat.le_refl _)⟩
theorem Evp.pos {α : Type} {c : Prop} [Decidable c] {g f : Nat → Option α} {Q : α → Prop} (hc : c) (h : Evp g Q) : Evp (fun n => if c then g n else f n) Q := by
  simp only [if_pos hc]; exact h
theorem Evp.neg {α : Type} {c : Prop} [Decidable c] {g f : Nat → Option α} {Q : α → Prop} (hc : ¬ c) (h : Evp f Q) : Evp (fun n => if c then g n else f n) Q := by
  simp only [if_neg hc]; exact h
theorem wrap_small {x : Int} (h : -9223372036854775808 ≤ x ∧ x ≤ 9223372036854775807) : wrap64 x = x := by unfold wrap64; omega
theorem tmod31 {x : Int} (h : 0 ≤ x) : Int.tmod x 31 = x % 31 := Int.tmod_eq_emod_of_nonneg h
theorem tmod31_bounds (x : Int) : -30 ≤ Int.tmod x 31 ∧ Int.tmod x 31 ≤ 30 ∧ Int.tmod x 31 % 31 = x % 31 := by
  rcases Int.le_total 0 x with h | h
  · rw [tmod31 h]; omega
  · have e : Int.tmod x 31 = -(Int.tmod (-x) 31) := by rw [Int.neg_tmod, Int.neg_neg]
    rw [e, tmod31 (by omega)]; omega

theorem elementOf_eq {x : Int} (h : -1000000000 ≤ x ∧ x ≤ 1000000000) : impl_elementOf.f x = some (x % 31) := by
  unfold impl_elementOf.f
  have := tmod31_bounds x
  rw [wrap_small (by omega), tmod31 (by omega)]
  congr 1; omega
theorem mul_small {a b : Int} (ha : ok a = true) (hb : ok b = true) : 0 ≤ a * b ∧ a * b ≤ 900 := by
  rw [ok_iff] at ha hb
  constructor
  · exact Int.mul_nonneg ha.1 hb.1
  · have h1 : a * b ≤ a * 30 := Int.mul_le_mul_of_nonneg_left (by omega) ha.1
    omega
theorem impl_minus_eq {a b : Int} (ha : ok a = true) (hb : ok b = true) : impl_element_minus.f a b = some ((a - b) % 31) := by
  unfold impl_element_minus.f
  rw [ok_iff] at ha hb
  rw [wrap_small (by omega), elementOf_eq (by omega)]; rfl
theorem impl_times_eq {a b : Int} (ha : ok a = true) (hb : ok b = true) : impl_element_times.f a b = some (a * b % 31) := by
  unfold impl_element_times.f
  have := mul_small ha hb
  rw [wrap_small (by omega), elementOf_eq (by omega)]; rfl
theorem inverse_all : ∀ a : Fin 31, a ≠ 0 → impl_element_inverse.f 12 (a.val : Int) = some (inv (a.val : Int)) := by decide +kernel
theorem fin_of {a : Int} (h : ok a = true) : ∃ x : Fin 31, (x.val : Int) = a := by
  rw [ok_iff] at h
  exact ⟨⟨a.toNat, by omega⟩, by simp only; omega⟩
theorem inverse_at {a : Int} (h : ok a = true) (h0 : a ≠ 0) : impl_element_inverse.f 12 a = some (inv a) := by
  obtain ⟨x, rfl⟩ := fin_of h
  exact inverse_all x (fun e => h0 (by rw [e]; rfl))
theorem ev_of {α : Type} {g : Nat → Option α} {r : α} (hg : ∀ k, LeO (g k) (g (k + 1))) {k : Nat} (h : g k = some r) : Evp g (· = r) := ⟨r, rfl, k, fun n hn => at_rounds hg hn h⟩
theorem impl_inverse_ev {a : Int} (h : ok a = true) (h0 : a ≠ 0) : Evp (fun k => impl_element_inverse.f k a) (· = inv a) := ev_of (impl_element_inverse.mono a) (inverse_at h h0)
theorem wrap_succ {i : Nat} (h : i ≤ 1000000000000000) : wrap64 ((i : Int) + 1) = ((i + 1 : Nat) : Int) := by rw [wrap_small (by omega)]; omega
theorem impl_vectorOf_ok {a b c d : Int} (h : vok [a, b, c, d] = true) : impl_vectorOf.f [a, b, c, d] = some (a, b, c, d, true) := by
  unfold impl_vectorOf.f; rw [if_pos h]; rfl
theorem impl_vectorOf_no {l : List Int} (h : vok l = false) : impl_vectorOf.f l = some (0, 0, 0, 0, false) := by
  unfold impl_vectorOf.f; rw [if_neg (by simp [h])]
theorem rdL1_nat (m : List (List Int)) (i : Nat) : rd_L2 m (i : Int) = m.getD i [] := by unfold rd_L2; rw [Int.toNat_natCast]
theorem getDL_get {m : List (List Int)} {i : Nat} (h : i < m.length) : m.getD i [] = m[i] := by rw [List.getD_eq_getElem?_getD, List.getElem?_eq_getElem h]; rfl
/-- a row as the program's own vector -/
def toS (r : List Int) : S70 := ⟨r.getD 0 0, r.getD 1 0, r.getD 2 0, r.getD 3 0⟩
theorem impl_matrixOf_ev {m : List (List Int)} (hm : m.length ≤ 1048576) : Evp (fun k => impl_matrixOf.f k m) (· = if m.all vok = true then (m.map toS, decide (m.length ≤ 8)) else ([], false)) := by
  have key : ∀ d i, i + d = m.length → (m.take i).all vok = true → Evp (fun k => impl_matrixOf.l0 k m ((m.take i).map toS) m (m.length : Int) (i : Int)) (· = if m.all vok = true then (m.map toS, decide (m.length ≤ 8)) else ([], false)) := by
    intro d
    induction d with
    | zero =>
      intro i hi hp
      refine Evp.step (fun k => by rw [impl_matrixOf.l0]) (Evp.neg (by omega) (Evp.some' ?_))
      rw [List.take_of_length_le (by omega)] at hp ⊢
      rw [if_pos hp]
      congr 2
      rw [eq_iff_iff]; omega
    | succ d ih =>
      intro i hi hp
      refine Evp.step (fun k => by rw [impl_matrixOf.l0]) (Evp.pos (by omega) (Evp.pos (by omega) (Evp.pos (by omega) ?_)))
      rw [rdL1_nat, getDL_get (show i < m.length by omega)]
      by_cases hv : vok m[i] = true
      · obtain ⟨a, b, c, e, he, _⟩ := vok_four hv
        rw [he] at hv
        rw [he, impl_vectorOf_ok hv]; simp only [Option.bind_some]
        refine Evp.pos (by first | rfl | trivial) (Evp.pos (by simp; omega) ?_)
        rw [wrap_succ (by omega)]
        have := ih (i + 1) (by omega) (by rw [List.take_succ_eq_append_getElem (show i < m.length by omega), List.all_append, hp, List.all_cons, he, hv]; rfl)
        rw [List.take_succ_eq_append_getElem (show i < m.length by omega), List.map_append, he] at this
        exact this
      · rw [impl_vectorOf_no (Bool.eq_false_iff.2 hv)]; simp only [Option.bind_some]
        refine Evp.neg (by simp) (Evp.some' ?_)
        rw [if_neg]
        intro hc
        exact hv (List.all_eq_true.1 hc _ (List.getElem_mem _))
  unfold impl_matrixOf.f
  exact Evp.pos (by omega) (Evp.pos (by omega) (key m.length 0 (by omega) rfl))
def l12 (x : S102) : List Int := [x.f0.f0, x.f0.f1, x.f0.f2, x.f0.f3, x.f1.f0, x.f1.f1, x.f1.f2, x.f1.f3, x.f1.f4, x.f1.f5, x.f1.f6, x.f1.f7]
def m12 (l : List Int) : S102 := ⟨⟨l.getD 0 0, l.getD 1 0, l.getD 2 0, l.getD 3 0⟩, ⟨l.getD 4 0, l.getD 5 0, l.getD 6 0, l.getD 7 0, l.getD 8 0, l.getD 9 0, l.getD 10 0, l.getD 11 0⟩⟩
def T12 (l : List Int) : Int × Int × Int × Int × Int × Int × Int × Int × Int × Int × Int × Int := (l.getD 0 0, l.getD 1 0, l.getD 2 0, l.getD 3 0, l.getD 4 0, l.getD 5 0, l.getD 6 0, l.getD 7 0, l.getD 8 0, l.getD 9 0, l.getD 10 0, l.getD 11 0)
/-- a kept row taken away -/
def kl (k r : List Int) : List Int := List.zipWith (fun x y => (x - y * gt k (llead (r.take 4)) % 31) % 31) k r
def kred (R : List (List Int)) (z : List Int) : List Int := R.foldl kl z
def Good (r : List Int) : Prop := r.length = 12 ∧ can r ∧ ld (toW r) < 4
theorem kl_len {k r : List Int} (hk : k.length = 12) (hr : r.length = 12) : (kl k r).length = 12 := by simp [kl, hk, hr]
theorem can_kl (k r : List Int) : can (kl k r) := fun x hx => by
  obtain ⟨i, hi, rfl⟩ := List.getElem_of_mem hx
  simp only [kl, List.getElem_zipWith]; exact mod_ok _
theorem kl_get {k r : List Int} (hk : k.length = 12) (hr : r.length = 12) {j : Nat} (hj : j < 12) : (kl k r).getD j 0 = (k.getD j 0 - r.getD j 0 * gt k (llead (r.take 4)) % 31) % 31 := by
  have h1 : j < (kl k r).length := by rw [kl_len hk hr]; exact hj
  rw [List.getD_eq_getElem?_getD, List.getElem?_eq_getElem h1, List.getD_eq_getElem?_getD, List.getElem?_eq_getElem (by omega), List.getD_eq_getElem?_getD, List.getElem?_eq_getElem (by omega)]
  simp only [kl, List.getElem_zipWith, Option.getD_some]
theorem l12_m12 {l : List Int} (h : l.length = 12) : l12 (m12 l) = l := by
  match l, h with
  | [a, b, c, d, e, f, g, i, j, k, m, n], _ => rfl
theorem toW_take4 (r : List Int) {i : Nat} (h : i < 4) : toW (r.take 4) i = toW r i := by
  unfold toW; rw [List.getD_eq_getElem?_getD, List.getD_eq_getElem?_getD, List.getElem?_take_of_lt h]
theorem ld_take4 (r : List Int) : ld (toW (r.take 4)) = ld (toW r) := ld_congr fun i hi => toW_take4 r hi
theorem can_take {r : List Int} (h : can r) (n : Nat) : can (r.take n) := fun x hx => h x (List.mem_of_mem_take hx)
theorem take4_four {l : List Int} (h : l.length = 12) : [l.getD 0 0, l.getD 1 0, l.getD 2 0, l.getD 3 0] = l.take 4 := by
  match l, h with
  | [a, b, c, d, e, f, g, i, j, k, m, n], _ => rfl
theorem good_lead {r : List Int} (h : Good r) : llead (r.take 4) = (ld (toW r) : Int) := by
  rw [llead_ld (can_take h.2.1 4) (by rw [ld_take4]; exact h.2.2), ld_take4]
theorem toW_kl {k r : List Int} (hk : k.length = 12) (hr : Good r) : toW (kl k r) = less (toW k) (toW r) := by
  funext j
  have e := good_lead hr
  show toF ((kl k r).getD j 0) = toF (k.getD j 0) + -(toF (k.getD (ld (toW r)) 0)) * toF (r.getD j 0)
  rcases Nat.lt_or_ge j 12 with hj | hj
  · rw [kl_get hk hr.1 hj, e, gt_nat, toF_mod, Int.sub_eq_add_neg, toF_add]
    have : toF (-(r.getD j 0 * k.getD (ld (toW r)) 0 % 31)) = -(toF (r.getD j 0 * k.getD (ld (toW r)) 0)) := by
      have h1 : toF (-(r.getD j 0 * k.getD (ld (toW r)) 0 % 31)) + toF (r.getD j 0 * k.getD (ld (toW r)) 0) = 0 := by
        rw [← toF_add, ← toF_zero, toF_eq]; omega
      grind
    rw [this, toF_mul]; grind
  · rw [List.getD_eq_getElem?_getD, List.getElem?_eq_none (by rw [kl_len hk hr.1]; exact hj), List.getD_eq_getElem?_getD (l := k), List.getElem?_eq_none (by omega), List.getD_eq_getElem?_getD (l := r), List.getElem?_eq_none (by have := hr.1; omega)]
    simp only [Option.getD_none, toF_zero]; grind
theorem kred_len {R : List (List Int)} (hR : ∀ r ∈ R, Good r) : ∀ {z : List Int}, z.length = 12 → (kred R z).length = 12 := by
  induction R with
  | nil => intro z h; exact h
  | cons r R ih => intro z h; exact ih (fun s hs => hR s (by simp [hs])) (kl_len h (hR r (by simp)).1)
theorem can_kred {R : List (List Int)} : ∀ {z : List Int}, can z → can (kred R z) := by
  induction R with
  | nil => intro z h; exact h
  | cons r R ih => intro z h; exact ih (can_kl z r)
theorem toW_kred {R : List (List Int)} (hR : ∀ r ∈ R, Good r) : ∀ {z : List Int}, z.length = 12 → toW (kred R z) = red (R.map toW) (toW z) := by
  induction R with
  | nil => intro z h; rfl
  | cons r R ih =>
    intro z h
    show toW (kred R (kl z r)) = red (R.map toW) (less (toW z) (toW r))
    rw [ih (fun s hs => hR s (by simp [hs])) (kl_len h (hR r (by simp)).1), toW_kl h (hR r (by simp))]
theorem pick4 {α : Type} {p : Nat} (hp : p < 4) (f : Nat → α) (e : α) : (if (p : Int) = 0 then f 0 else if (p : Int) = 1 then f 1 else if (p : Int) = 2 then f 2 else if (p : Int) = 3 then f 3 else e) = f p := by
  match p, hp with
  | 0, _ => rfl
  | 1, _ => rfl
  | 2, _ => rfl
  | 3, _ => rfl
theorem pick8 {α : Type} {p : Nat} (hp : p < 8) (f : Nat → α) (e : α) : (if (p : Int) = 0 then f 0 else if (p : Int) = 1 then f 1 else if (p : Int) = 2 then f 2 else if (p : Int) = 3 then f 3 else if (p : Int) = 4 then f 4 else if (p : Int) = 5 then f 5 else if (p : Int) = 6 then f 6 else if (p : Int) = 7 then f 7 else e) = f p := by
  match p, hp with
  | 0, _ => rfl
  | 1, _ => rfl
  | 2, _ => rfl
  | 3, _ => rfl
  | 4, _ => rfl
  | 5, _ => rfl
  | 6, _ => rfl
  | 7, _ => rfl
theorem vtimes_eq {a b c d x : Int} (ha : ok a = true) (hb : ok b = true) (hc : ok c = true) (hd : ok d = true) (hx : ok x = true) : impl_vector_times.f a b c d x = some (a * x % 31, b * x % 31, c * x % 31, d * x % 31) := by
  unfold impl_vector_times.f
  rw [if_pos ⟨⟨ok_iff.1 ha, ok_iff.1 hb, ok_iff.1 hc, ok_iff.1 hd⟩, ok_iff.1 hx⟩]
theorem vminus_eq {a b c d p q r s : Int} (ha : ok a = true) (hb : ok b = true) (hc : ok c = true) (hd : ok d = true) (hp : ok p = true) (hq : ok q = true) (hr : ok r = true) (hs : ok s = true) : impl_vector_minus.f a b c d p q r s = some ((a - p) % 31, (b - q) % 31, (c - r) % 31, (d - s) % 31) := by
  unfold impl_vector_minus.f
  rw [elementOf_eq (by omega), Option.bind_some, show (-1 : Int) % 31 = 30 by decide, vtimes_eq hp hq hr hs (by decide), Option.bind_some]
  unfold impl_vector_plus.f
  rw [ok_iff] at *
  rw [if_pos ⟨⟨ha, hb, hc, hd⟩, emod_range _, emod_range _, emod_range _, emod_range _⟩]
  simp only [Option.bind_some, Option.some.injEq, Prod.mk.injEq]
  refine ⟨by omega, by omega, by omega, by omega⟩
theorem less_l1_ev {L : List S102} {n i c a0 a1 a2 a3 a4 a5 a6 a7 a8 a9 a10 a11 r0 r1 r2 r3 r4 r5 r6 r7 r8 r9 r10 r11 : Int} (hc : ok c = true) (ha4 : ok a4 = true) (ha5 : ok a5 = true) (ha6 : ok a6 = true) (ha7 : ok a7 = true) (ha8 : ok a8 = true) (ha9 : ok a9 = true) (ha10 : ok a10 = true) (ha11 : ok a11 = true) (hr4 : ok r4 = true) (hr5 : ok r5 = true) (hr6 : ok r6 = true) (hr7 : ok r7 = true) (hr8 : ok r8 = true) (hr9 : ok r9 = true) (hr10 : ok r10 = true) (hr11 : ok r11 = true) {Q : _ → Prop} (h : Evp (fun k => impl_span_less.l0 k L n (wrap64 (i + 1)) a0 a1 a2 a3 ((a4 - r4 * c % 31) % 31) ((a5 - r5 * c % 31) % 31) ((a6 - r6 * c % 31) % 31) ((a7 - r7 * c % 31) % 31) ((a8 - r8 * c % 31) % 31) ((a9 - r9 * c % 31) % 31) ((a10 - r10 * c % 31) % 31) ((a11 - r11 * c % 31) % 31)) Q) : Evp (fun k => impl_span_less.l1 k c L n i 0 a0 a1 a2 a3 a4 a5 a6 a7 a8 a9 a10 a11 r0 r1 r2 r3 r4 r5 r6 r7 r8 r9 r10 r11) Q := by
  refine Evp.step (f := fun k => impl_span_less.l1 k c L n i 1 a0 a1 a2 a3 ((a4 - r4 * c % 31) % 31) a5 a6 a7 a8 a9 a10 a11 r0 r1 r2 r3 r4 r5 r6 r7 r8 r9 r10 r11) (fun k => by rw [impl_span_less.l1, if_pos (by decide), if_pos rfl, impl_times_eq hr4 hc, Option.bind_some, impl_minus_eq ha4 (mod_ok _), Option.bind_some, (by unfold wrap64; omega : wrap64 ((0 : Int) + 1) = 1)]) ?_
  refine Evp.step (f := fun k => impl_span_less.l1 k c L n i 2 a0 a1 a2 a3 ((a4 - r4 * c % 31) % 31) ((a5 - r5 * c % 31) % 31) a6 a7 a8 a9 a10 a11 r0 r1 r2 r3 r4 r5 r6 r7 r8 r9 r10 r11) (fun k => by rw [impl_span_less.l1, if_pos (by decide), if_neg (by decide), if_pos rfl, impl_times_eq hr5 hc, Option.bind_some, impl_minus_eq ha5 (mod_ok _), Option.bind_some, (by unfold wrap64; omega : wrap64 ((1 : Int) + 1) = 2)]) ?_
  refine Evp.step (f := fun k => impl_span_less.l1 k c L n i 3 a0 a1 a2 a3 ((a4 - r4 * c % 31) % 31) ((a5 - r5 * c % 31) % 31) ((a6 - r6 * c % 31) % 31) a7 a8 a9 a10 a11 r0 r1 r2 r3 r4 r5 r6 r7 r8 r9 r10 r11) (fun k => by rw [impl_span_less.l1, if_pos (by decide), if_neg (by decide), if_neg (by decide), if_pos rfl, impl_times_eq hr6 hc, Option.bind_some, impl_minus_eq ha6 (mod_ok _), Option.bind_some, (by unfold wrap64; omega : wrap64 ((2 : Int) + 1) = 3)]) ?_
  refine Evp.step (f := fun k => impl_span_less.l1 k c L n i 4 a0 a1 a2 a3 ((a4 - r4 * c % 31) % 31) ((a5 - r5 * c % 31) % 31) ((a6 - r6 * c % 31) % 31) ((a7 - r7 * c % 31) % 31) a8 a9 a10 a11 r0 r1 r2 r3 r4 r5 r6 r7 r8 r9 r10 r11) (fun k => by rw [impl_span_less.l1, if_pos (by decide), if_neg (by decide), if_neg (by decide), if_neg (by decide), if_pos rfl, impl_times_eq hr7 hc, Option.bind_some, impl_minus_eq ha7 (mod_ok _), Option.bind_some, (by unfold wrap64; omega : wrap64 ((3 : Int) + 1) = 4)]) ?_
  refine Evp.step (f := fun k => impl_span_less.l1 k c L n i 5 a0 a1 a2 a3 ((a4 - r4 * c % 31) % 31) ((a5 - r5 * c % 31) % 31) ((a6 - r6 * c % 31) % 31) ((a7 - r7 * c % 31) % 31) ((a8 - r8 * c % 31) % 31) a9 a10 a11 r0 r1 r2 r3 r4 r5 r6 r7 r8 r9 r10 r11) (fun k => by rw [impl_span_less.l1, if_pos (by decide), if_neg (by decide), if_neg (by decide), if_neg (by decide), if_neg (by decide), if_pos rfl, impl_times_eq hr8 hc, Option.bind_some, impl_minus_eq ha8 (mod_ok _), Option.bind_some, (by unfold wrap64; omega : wrap64 ((4 : Int) + 1) = 5)]) ?_
  refine Evp.step (f := fun k => impl_span_less.l1 k c L n i 6 a0 a1 a2 a3 ((a4 - r4 * c % 31) % 31) ((a5 - r5 * c % 31) % 31) ((a6 - r6 * c % 31) % 31) ((a7 - r7 * c % 31) % 31) ((a8 - r8 * c % 31) % 31) ((a9 - r9 * c % 31) % 31) a10 a11 r0 r1 r2 r3 r4 r5 r6 r7 r8 r9 r10 r11) (fun k => by rw [impl_span_less.l1, if_pos (by decide), if_neg (by decide), if_neg (by decide), if_neg (by decide), if_neg (by decide), if_neg (by decide), if_pos rfl, impl_times_eq hr9 hc, Option.bind_some, impl_minus_eq ha9 (mod_ok _), Option.bind_some, (by unfold wrap64; omega : wrap64 ((5 : Int) + 1) = 6)]) ?_
  refine Evp.step (f := fun k => impl_span_less.l1 k c L n i 7 a0 a1 a2 a3 ((a4 - r4 * c % 31) % 31) ((a5 - r5 * c % 31) % 31) ((a6 - r6 * c % 31) % 31) ((a7 - r7 * c % 31) % 31) ((a8 - r8 * c % 31) % 31) ((a9 - r9 * c % 31) % 31) ((a10 - r10 * c % 31) % 31) a11 r0 r1 r2 r3 r4 r5 r6 r7 r8 r9 r10 r11) (fun k => by rw [impl_span_less.l1, if_pos (by decide), if_neg (by decide), if_neg (by decide), if_neg (by decide), if_neg (by decide), if_neg (by decide), if_neg (by decide), if_pos rfl, impl_times_eq hr10 hc, Option.bind_some, impl_minus_eq ha10 (mod_ok _), Option.bind_some, (by unfold wrap64; omega : wrap64 ((6 : Int) + 1) = 7)]) ?_
  refine Evp.step (f := fun k => impl_span_less.l1 k c L n i 8 a0 a1 a2 a3 ((a4 - r4 * c % 31) % 31) ((a5 - r5 * c % 31) % 31) ((a6 - r6 * c % 31) % 31) ((a7 - r7 * c % 31) % 31) ((a8 - r8 * c % 31) % 31) ((a9 - r9 * c % 31) % 31) ((a10 - r10 * c % 31) % 31) ((a11 - r11 * c % 31) % 31) r0 r1 r2 r3 r4 r5 r6 r7 r8 r9 r10 r11) (fun k => by rw [impl_span_less.l1, if_pos (by decide), if_neg (by decide), if_neg (by decide), if_neg (by decide), if_neg (by decide), if_neg (by decide), if_neg (by decide), if_neg (by decide), if_pos rfl, impl_times_eq hr11 hc, Option.bind_some, impl_minus_eq ha11 (mod_ok _), Option.bind_some, (by unfold wrap64; omega : wrap64 ((7 : Int) + 1) = 8)]) ?_
  exact Evp.step (f := fun k => impl_span_less.l0 k L n (wrap64 (i + 1)) a0 a1 a2 a3 ((a4 - r4 * c % 31) % 31) ((a5 - r5 * c % 31) % 31) ((a6 - r6 * c % 31) % 31) ((a7 - r7 * c % 31) % 31) ((a8 - r8 * c % 31) % 31) ((a9 - r9 * c % 31) % 31) ((a10 - r10 * c % 31) % 31) ((a11 - r11 * c % 31) % 31)) (fun k => by rw [impl_span_less.l1, if_neg (by decide)]) h
theorem less_j1_ev {L : List S102} {n i c a0 a1 a2 a3 a4 a5 a6 a7 a8 a9 a10 a11 r0 r1 r2 r3 r4 r5 r6 r7 r8 r9 r10 r11 : Int} (hc : ok c = true) (ha0 : ok a0 = true) (ha1 : ok a1 = true) (ha2 : ok a2 = true) (ha3 : ok a3 = true) (ha4 : ok a4 = true) (ha5 : ok a5 = true) (ha6 : ok a6 = true) (ha7 : ok a7 = true) (ha8 : ok a8 = true) (ha9 : ok a9 = true) (ha10 : ok a10 = true) (ha11 : ok a11 = true) (hr0 : ok r0 = true) (hr1 : ok r1 = true) (hr2 : ok r2 = true) (hr3 : ok r3 = true) (hr4 : ok r4 = true) (hr5 : ok r5 = true) (hr6 : ok r6 = true) (hr7 : ok r7 = true) (hr8 : ok r8 = true) (hr9 : ok r9 = true) (hr10 : ok r10 = true) (hr11 : ok r11 = true) {Q : _ → Prop} (h : Evp (fun k => impl_span_less.l0 k L n (wrap64 (i + 1)) ((a0 - r0 * c % 31) % 31) ((a1 - r1 * c % 31) % 31) ((a2 - r2 * c % 31) % 31) ((a3 - r3 * c % 31) % 31) ((a4 - r4 * c % 31) % 31) ((a5 - r5 * c % 31) % 31) ((a6 - r6 * c % 31) % 31) ((a7 - r7 * c % 31) % 31) ((a8 - r8 * c % 31) % 31) ((a9 - r9 * c % 31) % 31) ((a10 - r10 * c % 31) % 31) ((a11 - r11 * c % 31) % 31)) Q) : Evp (fun k => impl_span_less.j1 k c L n i a0 a1 a2 a3 a4 a5 a6 a7 a8 a9 a10 a11 r0 r1 r2 r3 r4 r5 r6 r7 r8 r9 r10 r11) Q := by
  refine Evp.step (f := fun k => impl_span_less.l1 k c L n i 0 ((a0 - r0 * c % 31) % 31) ((a1 - r1 * c % 31) % 31) ((a2 - r2 * c % 31) % 31) ((a3 - r3 * c % 31) % 31) a4 a5 a6 a7 a8 a9 a10 a11 r0 r1 r2 r3 r4 r5 r6 r7 r8 r9 r10 r11) (fun k => by rw [impl_span_less.j1, vtimes_eq hr0 hr1 hr2 hr3 hc, Option.bind_some, vminus_eq ha0 ha1 ha2 ha3 (mod_ok _) (mod_ok _) (mod_ok _) (mod_ok _), Option.bind_some]) ?_
  exact less_l1_ev hc ha4 ha5 ha6 ha7 ha8 ha9 ha10 ha11 hr4 hr5 hr6 hr7 hr8 hr9 hr10 hr11 h
theorem rdK {L : List S102} {i : Nat} (h : i < L.length) : rd_T102 L (i : Int) = L[i] := by
  unfold rd_T102; rw [Int.toNat_natCast, List.getD_eq_getElem?_getD, List.getElem?_eq_getElem h]; rfl
theorem l12_ok {x : S102} (h : can (l12 x)) : ok x.f0.f0 = true ∧ ok x.f0.f1 = true ∧ ok x.f0.f2 = true ∧ ok x.f0.f3 = true ∧ ok x.f1.f0 = true ∧ ok x.f1.f1 = true ∧ ok x.f1.f2 = true ∧ ok x.f1.f3 = true ∧ ok x.f1.f4 = true ∧ ok x.f1.f5 = true ∧ ok x.f1.f6 = true ∧ ok x.f1.f7 = true := by
  refine ⟨?_, ?_, ?_, ?_, ?_, ?_, ?_, ?_, ?_, ?_, ?_, ?_⟩ <;> exact h _ (by simp [l12])
theorem less_l0_ev {L : List S102} (hL : ∀ x ∈ L, Good (l12 x)) (hn : L.length ≤ 1000000) : ∀ (d i : Nat), i + d = L.length → ∀ a : List Int, a.length = 12 → can a →
    Evp (fun k => impl_span_less.l0 k L (L.length : Int) (i : Int) (a.getD 0 0) (a.getD 1 0) (a.getD 2 0) (a.getD 3 0) (a.getD 4 0) (a.getD 5 0) (a.getD 6 0) (a.getD 7 0) (a.getD 8 0) (a.getD 9 0) (a.getD 10 0) (a.getD 11 0)) (· = T12 (kred ((L.drop i).map l12) a)) := by
  intro d
  induction d with
  | zero =>
    intro i hi a ha hc
    refine Evp.step (fun k => by rw [impl_span_less.l0]) (Evp.neg (by omega) (Evp.some' ?_))
    rw [List.drop_eq_nil_of_le (by omega)]; rfl
  | succ d ih =>
    intro i hi a ha hc
    have hi1 : i < L.length := by omega
    have hg := hL _ (List.getElem_mem hi1)
    have hl := good_lead hg
    obtain ⟨o0, o1, o2, o3, o4, o5, o6, o7, o8, o9, o10, o11⟩ := l12_ok hg.2.1
    refine Evp.step (fun k => by rw [impl_span_less.l0]) (Evp.pos (by omega) (Evp.pos (by omega) (Evp.pos (by omega) ?_)))
    rw [rdK hi1, List.drop_eq_getElem_cons hi1, List.map_cons]
    have hp := hg.2.2
    generalize hpp : ld (toW (l12 L[i])) = p at hl hp
    have e : impl_vector_lead.f L[i].f0.f0 L[i].f0.f1 L[i].f0.f2 L[i].f0.f3 = some (p : Int) := by rw [← hl]; rfl
    simp only [e, Option.bind_some]
    refine Evp.congr (fun k => pick4 hp (fun j => impl_span_less.j1 k (a.getD j 0) L (L.length : Int) (i : Int) (a.getD 0 0) (a.getD 1 0) (a.getD 2 0) (a.getD 3 0) (a.getD 4 0) (a.getD 5 0) (a.getD 6 0) (a.getD 7 0) (a.getD 8 0) (a.getD 9 0) (a.getD 10 0) (a.getD 11 0) L[i].f0.f0 L[i].f0.f1 L[i].f0.f2 L[i].f0.f3 L[i].f1.f0 L[i].f1.f1 L[i].f1.f2 L[i].f1.f3 L[i].f1.f4 L[i].f1.f5 L[i].f1.f6 L[i].f1.f7) none) ?_
    refine less_j1_ev (can_get hc p) (can_get hc 0) (can_get hc 1) (can_get hc 2) (can_get hc 3) (can_get hc 4) (can_get hc 5) (can_get hc 6) (can_get hc 7) (can_get hc 8) (can_get hc 9) (can_get hc 10) (can_get hc 11) o0 o1 o2 o3 o4 o5 o6 o7 o8 o9 o10 o11 ?_
    have hk := ih (i + 1) (by omega) (kl a (l12 L[i])) (kl_len ha hg.1) (can_kl _ _)
    rw [kl_get ha hg.1 (by omega : 0 < 12), kl_get ha hg.1 (by omega : 1 < 12), kl_get ha hg.1 (by omega : 2 < 12), kl_get ha hg.1 (by omega : 3 < 12), kl_get ha hg.1 (by omega : 4 < 12), kl_get ha hg.1 (by omega : 5 < 12), kl_get ha hg.1 (by omega : 6 < 12), kl_get ha hg.1 (by omega : 7 < 12), kl_get ha hg.1 (by omega : 8 < 12), kl_get ha hg.1 (by omega : 9 < 12), kl_get ha hg.1 (by omega : 10 < 12), kl_get ha hg.1 (by omega : 11 < 12), hl, gt_nat] at hk
    rw [wrap_succ (by omega)]
    exact hk
theorem less_ev {L : List S102} (hL : ∀ x ∈ L, Good (l12 x)) (hn : L.length ≤ 1000000) (P : List Int) {a : List Int} (ha : a.length = 12) (hc : can a) :
    Evp (fun k => impl_span_less.f k L P (a.getD 0 0) (a.getD 1 0) (a.getD 2 0) (a.getD 3 0) (a.getD 4 0) (a.getD 5 0) (a.getD 6 0) (a.getD 7 0) (a.getD 8 0) (a.getD 9 0) (a.getD 10 0) (a.getD 11 0)) (· = T12 (kred (L.map l12) a)) := by
  have := less_l0_ev hL hn L.length 0 (by omega) a ha hc
  rw [List.drop_zero] at this
  exact this
/-- a row, told so that it begins with 1 -/
def kunit (z : List Int) : List Int := z.map fun x => x * inv (gt z (llead (z.take 4))) % 31
theorem span_l1_ev {M : List S70} {L : List S102} {P : List Int} {n i q c z0 z1 z2 z3 z4 z5 z6 z7 z8 z9 z10 z11 : Int} (hL : L.length ≤ 1000000) (hP : P.length ≤ 1000000) (hc : ok c = true) (hz4 : ok z4 = true) (hz5 : ok z5 = true) (hz6 : ok z6 = true) (hz7 : ok z7 = true) (hz8 : ok z8 = true) (hz9 : ok z9 = true) (hz10 : ok z10 = true) (hz11 : ok z11 = true) {Q : _ → Prop} (h : Evp (fun k => impl_spanOf.l0 k M n (wrap64 (i + 1)) (L ++ [(⟨⟨z0, z1, z2, z3⟩, ⟨(z4 * c % 31), (z5 * c % 31), (z6 * c % 31), (z7 * c % 31), (z8 * c % 31), (z9 * c % 31), (z10 * c % 31), (z11 * c % 31)⟩⟩ : S102)]) (P ++ [q])) Q) : Evp (fun k => impl_spanOf.l1 k q c M n i 0 L P z0 z1 z2 z3 z4 z5 z6 z7 z8 z9 z10 z11) Q := by
  refine Evp.step (f := fun k => impl_spanOf.l1 k q c M n i 1 L P z0 z1 z2 z3 (z4 * c % 31) z5 z6 z7 z8 z9 z10 z11) (fun k => by rw [impl_spanOf.l1, if_pos (by decide), if_pos rfl, impl_times_eq hz4 hc, Option.bind_some, (by unfold wrap64; omega : wrap64 ((0 : Int) + 1) = 1)]) ?_
  refine Evp.step (f := fun k => impl_spanOf.l1 k q c M n i 2 L P z0 z1 z2 z3 (z4 * c % 31) (z5 * c % 31) z6 z7 z8 z9 z10 z11) (fun k => by rw [impl_spanOf.l1, if_pos (by decide), if_neg (by decide), if_pos rfl, impl_times_eq hz5 hc, Option.bind_some, (by unfold wrap64; omega : wrap64 ((1 : Int) + 1) = 2)]) ?_
  refine Evp.step (f := fun k => impl_spanOf.l1 k q c M n i 3 L P z0 z1 z2 z3 (z4 * c % 31) (z5 * c % 31) (z6 * c % 31) z7 z8 z9 z10 z11) (fun k => by rw [impl_spanOf.l1, if_pos (by decide), if_neg (by decide), if_neg (by decide), if_pos rfl, impl_times_eq hz6 hc, Option.bind_some, (by unfold wrap64; omega : wrap64 ((2 : Int) + 1) = 3)]) ?_
  refine Evp.step (f := fun k => impl_spanOf.l1 k q c M n i 4 L P z0 z1 z2 z3 (z4 * c % 31) (z5 * c % 31) (z6 * c % 31) (z7 * c % 31) z8 z9 z10 z11) (fun k => by rw [impl_spanOf.l1, if_pos (by decide), if_neg (by decide), if_neg (by decide), if_neg (by decide), if_pos rfl, impl_times_eq hz7 hc, Option.bind_some, (by unfold wrap64; omega : wrap64 ((3 : Int) + 1) = 4)]) ?_
  refine Evp.step (f := fun k => impl_spanOf.l1 k q c M n i 5 L P z0 z1 z2 z3 (z4 * c % 31) (z5 * c % 31) (z6 * c % 31) (z7 * c % 31) (z8 * c % 31) z9 z10 z11) (fun k => by rw [impl_spanOf.l1, if_pos (by decide), if_neg (by decide), if_neg (by decide), if_neg (by decide), if_neg (by decide), if_pos rfl, impl_times_eq hz8 hc, Option.bind_some, (by unfold wrap64; omega : wrap64 ((4 : Int) + 1) = 5)]) ?_
  refine Evp.step (f := fun k => impl_spanOf.l1 k q c M n i 6 L P z0 z1 z2 z3 (z4 * c % 31) (z5 * c % 31) (z6 * c % 31) (z7 * c % 31) (z8 * c % 31) (z9 * c % 31) z10 z11) (fun k => by rw [impl_spanOf.l1, if_pos (by decide), if_neg (by decide), if_neg (by decide), if_neg (by decide), if_neg (by decide), if_neg (by decide), if_pos rfl, impl_times_eq hz9 hc, Option.bind_some, (by unfold wrap64; omega : wrap64 ((5 : Int) + 1) = 6)]) ?_
  refine Evp.step (f := fun k => impl_spanOf.l1 k q c M n i 7 L P z0 z1 z2 z3 (z4 * c % 31) (z5 * c % 31) (z6 * c % 31) (z7 * c % 31) (z8 * c % 31) (z9 * c % 31) (z10 * c % 31) z11) (fun k => by rw [impl_spanOf.l1, if_pos (by decide), if_neg (by decide), if_neg (by decide), if_neg (by decide), if_neg (by decide), if_neg (by decide), if_neg (by decide), if_pos rfl, impl_times_eq hz10 hc, Option.bind_some, (by unfold wrap64; omega : wrap64 ((6 : Int) + 1) = 7)]) ?_
  refine Evp.step (f := fun k => impl_spanOf.l1 k q c M n i 8 L P z0 z1 z2 z3 (z4 * c % 31) (z5 * c % 31) (z6 * c % 31) (z7 * c % 31) (z8 * c % 31) (z9 * c % 31) (z10 * c % 31) (z11 * c % 31)) (fun k => by rw [impl_spanOf.l1, if_pos (by decide), if_neg (by decide), if_neg (by decide), if_neg (by decide), if_neg (by decide), if_neg (by decide), if_neg (by decide), if_neg (by decide), if_pos rfl, impl_times_eq hz11 hc, Option.bind_some, (by unfold wrap64; omega : wrap64 ((7 : Int) + 1) = 8)]) ?_
  exact Evp.step (f := fun k => impl_spanOf.l0 k M n (wrap64 (i + 1)) (L ++ [(⟨⟨z0, z1, z2, z3⟩, ⟨(z4 * c % 31), (z5 * c % 31), (z6 * c % 31), (z7 * c % 31), (z8 * c % 31), (z9 * c % 31), (z10 * c % 31), (z11 * c % 31)⟩⟩ : S102)]) (P ++ [q])) (fun k => by rw [impl_spanOf.l1, if_neg (by decide), if_pos (by omega), if_pos (by omega)]) h
theorem span_j2_ev {M : List S70} {L : List S102} {P : List Int} {n i q c z0 z1 z2 z3 z4 z5 z6 z7 z8 z9 z10 z11 : Int} (hL : L.length ≤ 1000000) (hP : P.length ≤ 1000000) (hc : ok c = true) (hz0 : ok z0 = true) (hz1 : ok z1 = true) (hz2 : ok z2 = true) (hz3 : ok z3 = true) (hz4 : ok z4 = true) (hz5 : ok z5 = true) (hz6 : ok z6 = true) (hz7 : ok z7 = true) (hz8 : ok z8 = true) (hz9 : ok z9 = true) (hz10 : ok z10 = true) (hz11 : ok z11 = true) {Q : _ → Prop} (h : Evp (fun k => impl_spanOf.l0 k M n (wrap64 (i + 1)) (L ++ [(⟨⟨(z0 * c % 31), (z1 * c % 31), (z2 * c % 31), (z3 * c % 31)⟩, ⟨(z4 * c % 31), (z5 * c % 31), (z6 * c % 31), (z7 * c % 31), (z8 * c % 31), (z9 * c % 31), (z10 * c % 31), (z11 * c % 31)⟩⟩ : S102)]) (P ++ [q])) Q) : Evp (fun k => impl_spanOf.j2 k q c M n i L P z0 z1 z2 z3 z4 z5 z6 z7 z8 z9 z10 z11) Q := by
  refine Evp.step (f := fun k => impl_spanOf.l1 k q c M n i 0 L P (z0 * c % 31) (z1 * c % 31) (z2 * c % 31) (z3 * c % 31) z4 z5 z6 z7 z8 z9 z10 z11) (fun k => by rw [impl_spanOf.j2, vtimes_eq hz0 hz1 hz2 hz3 hc, Option.bind_some]) ?_
  exact span_l1_ev hL hP hc hz4 hz5 hz6 hz7 hz8 hz9 hz10 hz11 h
/-- row n with its tail -/
def augl (m : List (List Int)) (n : Nat) : List Int := [(m.getD n []).getD 0 0, (m.getD n []).getD 1 0, (m.getD n []).getD 2 0, (m.getD n []).getD 3 0, if n = 0 then 1 else 0, if n = 1 then 1 else 0, if n = 2 then 1 else 0, if n = 3 then 1 else 0, if n = 4 then 1 else 0, if n = 5 then 1 else 0, if n = 6 then 1 else 0, if n = 7 then 1 else 0]
def kpush (s : List (List Int) × List Int) (n : Nat) (z : List Int) : List (List Int) × List Int :=
  if llead ((kred s.1 z).take 4) < 0 then s else (s.1 ++ [kunit (kred s.1 z)], s.2 ++ [(n : Int)])
/-- rows that are kept behind the first n, and their places -/
def kspan (m : List (List Int)) : Nat → List (List Int) × List Int
  | 0 => ([], [])
  | n + 1 => kpush (kspan m n) n (augl m n)
theorem augl_len (m : List (List Int)) (n : Nat) : (augl m n).length = 12 := rfl
theorem can_augl {m : List (List Int)} (hm : ∀ r ∈ m, vok r = true) {n : Nat} (hn : n < m.length) : can (augl m n) := by
  have hv : can (m.getD n []) := by
    rw [List.getD_eq_getElem?_getD, List.getElem?_eq_getElem hn]; exact (vok_iff.1 (hm _ (List.getElem_mem hn))).2
  intro x hx
  simp only [augl, List.mem_cons, List.not_mem_nil, or_false] at hx
  have key : ∀ (c : Prop) [Decidable c], ok (if c then 1 else 0) = true := fun c _ => by split <;> decide
  rcases hx with rfl | rfl | rfl | rfl | rfl | rfl | rfl | rfl | rfl | rfl | rfl | rfl <;> first | exact can_get hv _ | exact key _
theorem kunit_len {z : List Int} (h : z.length = 12) : (kunit z).length = 12 := by simp [kunit, h]
theorem can_kunit (z : List Int) : can (kunit z) := fun x hx => by
  simp only [kunit, List.mem_map] at hx
  obtain ⟨y, _, rfl⟩ := hx; exact mod_ok _
theorem lead_cases12 {z : List Int} (hz : z.length = 12) (hc : can z) : (llead (z.take 4) < 0 ∧ ld (toW z) = 4) ∨ (llead (z.take 4) = (ld (toW z) : Int) ∧ ld (toW z) < 4) := by
  have hv : vok (z.take 4) = true := vok_iff.2 ⟨by simp [hz], can_take hc 4⟩
  rcases Nat.lt_or_ge (ld (toW z)) 4 with h | h
  · exact .inr ⟨by rw [llead_ld (can_take hc 4) (by rw [ld_take4]; exact h), ld_take4], h⟩
  · have h4 : ld (toW z) = 4 := by have := ld_le (toW z); omega
    exact .inl ⟨(llead_neg hv).2 (by rw [ld_take4]; exact h4), h4⟩
theorem kunit_get (z : List Int) (j : Nat) : (kunit z).getD j 0 = z.getD j 0 * inv (gt z (llead (z.take 4))) % 31 := by
  unfold kunit
  rcases Nat.lt_or_ge j z.length with hj | hj
  · rw [List.getD_eq_getElem?_getD, List.getElem?_eq_getElem (by simpa using hj), List.getD_eq_getElem?_getD, List.getElem?_eq_getElem hj]; simp
  · rw [List.getD_eq_getElem?_getD, List.getElem?_eq_none (by simpa using hj), List.getD_eq_getElem?_getD, List.getElem?_eq_none hj]; simp
theorem toW_kunit {z : List Int} (hc : can z) (hl : ld (toW z) < 4) : toW (kunit z) = unitize (toW z) := by
  have e : llead (z.take 4) = (ld (toW z) : Int) := by rw [llead_ld (can_take hc 4) (by rw [ld_take4]; exact hl), ld_take4]
  funext j
  show toF ((kunit z).getD j 0) = finv (toF (z.getD (ld (toW z)) 0)) * toF (z.getD j 0)
  rw [finv_toF (can_get hc _), kunit_get, e, gt_nat, toF_mod, toF_mul]; grind
theorem getD_map {m : List (List Int)} {n : Nat} (hn : n < m.length) : (m.map toW).getD n zz = toW (m.getD n []) := by
  rw [List.getD_eq_getElem?_getD, List.getElem?_eq_getElem (by simpa using hn), List.getD_eq_getElem?_getD, List.getElem?_eq_getElem hn]; simp
theorem tail_at (n j : Nat) {x : F} : toF (if n = j then 1 else 0) = if 4 + j < 4 then x else if 4 + j = 4 + n then 1 else 0 := by
  by_cases h : n = j
  · subst h; rw [if_neg (by omega : ¬ 4 + n < 4), if_pos rfl, if_pos rfl]; rfl
  · rw [if_neg h, if_neg (by omega : ¬ 4 + j < 4), if_neg (by omega : ¬ 4 + j = 4 + n)]; rfl
theorem toW_augl {m : List (List Int)} {n : Nat} (h8 : n < 8) (hn : n < m.length) : toW (augl m n) = aug (m.map toW) n := by
  funext j
  unfold aug
  rw [getD_map hn]
  rcases Nat.lt_or_ge j 12 with hj | hj
  · match j, hj with
    | 0, _ => exact (if_pos (by omega)).symm
    | 1, _ => exact (if_pos (by omega)).symm
    | 2, _ => exact (if_pos (by omega)).symm
    | 3, _ => exact (if_pos (by omega)).symm
    | 4, _ => exact tail_at n 0
    | 5, _ => exact tail_at n 1
    | 6, _ => exact tail_at n 2
    | 7, _ => exact tail_at n 3
    | 8, _ => exact tail_at n 4
    | 9, _ => exact tail_at n 5
    | 10, _ => exact tail_at n 6
    | 11, _ => exact tail_at n 7
  · rw [if_neg (by omega), if_neg (by omega)]
    show toF ((augl m n).getD j 0) = 0
    rw [List.getD_eq_getElem?_getD, List.getElem?_eq_none (by rw [augl_len]; exact hj)]; rfl
/-- what is true of the kept rows -/
theorem kspan_inv {m : List (List Int)} (hm : ∀ r ∈ m, vok r = true) (h8 : m.length ≤ 8) : ∀ n, n ≤ m.length →
    (∀ r ∈ (kspan m n).1, Good r) ∧ (kspan m n).1.map toW = kept (m.map toW) n ∧ (kspan m n).2 = (piv (m.map toW) n).map (fun (j : Nat) => (j : Int)) ∧ (kspan m n).1.length ≤ n ∧ (kspan m n).2.length = (kspan m n).1.length := by
  intro n
  induction n with
  | zero => intro _; exact ⟨by simp [kspan], rfl, rfl, Nat.le_refl _, rfl⟩
  | succ n ih =>
    intro hn
    obtain ⟨h1, h2, h3, h4, h5⟩ := ih (by omega)
    have hz := kred_len h1 (augl_len m n)
    have hc : can (kred (kspan m n).1 (augl m n)) := can_kred (can_augl hm (by omega))
    have ew : toW (kred (kspan m n).1 (augl m n)) = red (kept (m.map toW) n) (aug (m.map toW) n) := by rw [toW_kred h1 (augl_len m n), h2, toW_augl (by omega) (by omega)]
    rw [kept_succ, piv_succ]
    show (∀ r ∈ (kpush (kspan m n) n (augl m n)).1, Good r) ∧ (kpush (kspan m n) n (augl m n)).1.map toW = _ ∧ (kpush (kspan m n) n (augl m n)).2 = _ ∧ (kpush (kspan m n) n (augl m n)).1.length ≤ n + 1 ∧ (kpush (kspan m n) n (augl m n)).2.length = (kpush (kspan m n) n (augl m n)).1.length
    unfold kpush push
    rw [← ew]
    rcases lead_cases12 hz hc with ⟨hl, hd⟩ | ⟨hl, hd⟩
    · rw [if_pos hl, if_pos hd, if_neg (by omega)]
      exact ⟨h1, h2, by simpa using h3, by omega, h5⟩
    · rw [if_neg (by omega), if_neg (by omega), if_pos hd]
      have hg : Good (kunit (kred (kspan m n).1 (augl m n))) := ⟨kunit_len hz, can_kunit _, by rw [toW_kunit hc hd, unitize_ld]; exact hd⟩
      refine ⟨fun r hr => ?_, by rw [List.map_append, h2, List.map_singleton, toW_kunit hc hd], by rw [h3]; simp, by simp; omega, by simp [h5]⟩
      rcases List.mem_append.1 hr with hr | hr
      · exact h1 r hr
      · simp at hr; subst hr; exact hg
theorem rdV {M : List S70} {i : Nat} (h : i < M.length) : rd_T70 M (i : Int) = M[i] := by
  unfold rd_T70; rw [Int.toNat_natCast, List.getD_eq_getElem?_getD, List.getElem?_eq_getElem h]; rfl
theorem map_l12_m12 {L : List (List Int)} (h : ∀ r ∈ L, Good r) : (L.map m12).map l12 = L := by
  rw [List.map_map]
  conv => rhs; rw [← List.map_id L]
  exact List.map_congr_left fun r hr => l12_m12 (h r hr).1
theorem goods_m12 {L : List (List Int)} (h : ∀ r ∈ L, Good r) : ∀ x ∈ L.map m12, Good (l12 x) := fun x hx => by
  obtain ⟨r, hr, rfl⟩ := List.mem_map.1 hx
  rw [l12_m12 (h r hr).1]; exact h r hr
theorem kunit_m12 {z : List Int} : m12 (kunit z) = (⟨⟨z.getD 0 0 * inv (gt z (llead (z.take 4))) % 31, z.getD 1 0 * inv (gt z (llead (z.take 4))) % 31, z.getD 2 0 * inv (gt z (llead (z.take 4))) % 31, z.getD 3 0 * inv (gt z (llead (z.take 4))) % 31⟩, ⟨z.getD 4 0 * inv (gt z (llead (z.take 4))) % 31, z.getD 5 0 * inv (gt z (llead (z.take 4))) % 31, z.getD 6 0 * inv (gt z (llead (z.take 4))) % 31, z.getD 7 0 * inv (gt z (llead (z.take 4))) % 31, z.getD 8 0 * inv (gt z (llead (z.take 4))) % 31, z.getD 9 0 * inv (gt z (llead (z.take 4))) % 31, z.getD 10 0 * inv (gt z (llead (z.take 4))) % 31, z.getD 11 0 * inv (gt z (llead (z.take 4))) % 31⟩⟩ : S102) := by
  unfold m12; rw [kunit_get z 0, kunit_get z 1, kunit_get z 2, kunit_get z 3, kunit_get z 4, kunit_get z 5, kunit_get z 6, kunit_get z 7, kunit_get z 8, kunit_get z 9, kunit_get z 10, kunit_get z 11]
theorem span_l0_ev {m : List (List Int)} (hm : ∀ r ∈ m, vok r = true) (h8 : m.length ≤ 8) : ∀ (d i : Nat), i + d = m.length →
    Evp (fun k => impl_spanOf.l0 k (m.map toS) (((m.map toS).length : Nat) : Int) (i : Int) ((kspan m i).1.map m12) (kspan m i).2) (· = ((kspan m m.length).1.map m12, (kspan m m.length).2)) := by
  intro d
  induction d with
  | zero =>
    intro i hi
    refine Evp.step (fun k => by rw [impl_spanOf.l0]) (Evp.neg (by simp; omega) (Evp.some' ?_))
    rw [show i = m.length by omega]
  | succ d ih =>
    intro i hi
    have hi1 : i < m.length := by omega
    obtain ⟨h1, h2, h3, h4, h5⟩ := kspan_inv hm h8 i (by omega)
    have hz := kred_len h1 (augl_len m i)
    have hc : can (kred (kspan m i).1 (augl m i)) := can_kred (can_augl hm hi1)
    have ih := ih (i + 1) (by omega)
    refine Evp.step (fun k => by rw [impl_spanOf.l0]) (Evp.pos (by simp; omega) (Evp.pos (by omega) (Evp.pos (by simp; omega) ?_)))
    rw [rdV (by simpa using hi1)]
    have em : (m.map toS)[i]'(by simpa using hi1) = toS (m.getD i []) := by rw [List.getElem_map, List.getD_eq_getElem?_getD, List.getElem?_eq_getElem hi1]; rfl
    rw [em]
    refine Evp.congr (fun k => pick8 (p := i) (by omega) (fun j => impl_spanOf.j1 k (i : Int) (m.map toS) (((m.map toS).length : Nat) : Int) (i : Int) ((kspan m i).1.map m12) (kspan m i).2 (toS (m.getD i [])).f0 (toS (m.getD i [])).f1 (toS (m.getD i [])).f2 (toS (m.getD i [])).f3 (if j = 0 then 1 else 0) (if j = 1 then 1 else 0) (if j = 2 then 1 else 0) (if j = 3 then 1 else 0) (if j = 4 then 1 else 0) (if j = 5 then 1 else 0) (if j = 6 then 1 else 0) (if j = 7 then 1 else 0)) none) ?_
    refine Evp.step (fun k => by rw [impl_spanOf.j1]) ?_
    refine Evp.bind (Q := (· = T12 (kred (kspan m i).1 (augl m i)))) ?_ fun t ht => ?_
    · have := less_ev (goods_m12 h1) (by simp; omega) (kspan m i).2 (augl_len m i) (can_augl hm hi1)
      rw [map_l12_m12 h1] at this
      exact this
    subst ht
    generalize hzz : kred (kspan m i).1 (augl m i) = z at hz hc
    have e : impl_vector_lead.f (T12 z).1 (T12 z).2.1 (T12 z).2.2.1 (T12 z).2.2.2.1 = some (llead (z.take 4)) := by
      rw [← take4_four hz]; rfl
    simp only [e, Option.bind_some]
    rw [show kspan m (i + 1) = kpush (kspan m i) i (augl m i) from rfl] at ih
    unfold kpush at ih
    rw [hzz, ← wrap_succ (by omega)] at ih
    rcases lead_cases12 hz hc with ⟨hl, hd⟩ | ⟨hl, hd⟩
    · rw [if_pos hl] at ih
      exact Evp.pos hl ih
    · rw [if_neg (by omega)] at ih
      refine Evp.neg (by omega) ?_
      rw [hl]
      refine Evp.congr (fun k => pick4 hd (fun j => (impl_element_inverse.f k (z.getD j 0)).bind fun t => impl_spanOf.j2 k (i : Int) t (m.map toS) (((m.map toS).length : Nat) : Int) (i : Int) ((kspan m i).1.map m12) (kspan m i).2 (z.getD 0 0) (z.getD 1 0) (z.getD 2 0) (z.getD 3 0) (z.getD 4 0) (z.getD 5 0) (z.getD 6 0) (z.getD 7 0) (z.getD 8 0) (z.getD 9 0) (z.getD 10 0) (z.getD 11 0)) none) ?_
      have hne : z.getD (ld (toW z)) 0 ≠ 0 := fun e0 => ld_at hd (by show toF (z.getD (ld (toW z)) 0) = 0; rw [e0]; rfl)
      refine Evp.bind (impl_inverse_ev (can_get hc _) hne) fun c hcc => ?_
      subst hcc
      refine span_j2_ev (by simp; omega) (by omega) (ok_iff.2 (inv_range _)) (can_get hc 0) (can_get hc 1) (can_get hc 2) (can_get hc 3) (can_get hc 4) (can_get hc 5) (can_get hc 6) (can_get hc 7) (can_get hc 8) (can_get hc 9) (can_get hc 10) (can_get hc 11) ?_
      rw [List.map_append, List.map_singleton, kunit_m12, hl, gt_nat] at ih
      exact ih
theorem spanOf_ev {m : List (List Int)} (hm : ∀ r ∈ m, vok r = true) (h8 : m.length ≤ 8) : Evp (fun k => impl_spanOf.f k (m.map toS)) (· = ((kspan m m.length).1.map m12, (kspan m m.length).2)) := span_l0_ev hm h8 m.length 0 (by omega)
end Go.Proofs.Ytamaejafddmagaa.Pure
