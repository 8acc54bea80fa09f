import Derived.Test.YtfgpffocieegdaaPAx0
import Derived.Test.YtfgpffocieegdaaPAx2
import Derived.Test.YtfgpffocieegdaaPAx3
import Derived.Test.YtfgpffocieegdaaPAx4d
import Derived.Test.YtfgpffocieegdaaPAx5
import Derived.Test.YtfgpffocieegdaaPAx6
import Derived.Test.YtfgpffocieegdaaPAx7
import Derived.Test.YtfgpffocieegdaaPAx8
import Derived.Test.YtfgpffocieegdaaMa
import Derived.Test.YtfgpffocieegdaaCodeLin
import Derived.Test.YtfgpffocieegdaaHj
import Derived.Test.YtfgpffocieegdaaHq
/- Of the printed functions over single rows: what a walk by hand wants of them. -/
set_option linter.unusedVariables false
set_option linter.unusedSimpArgs false
namespace Go.Proofs.Ytfgpffocieegdaa.Pure
open Go.RowKit Go.Proofs.Ytfgpffocieegdaa.PA Go.Proofs.YtfgpffocieegdaaW.PrintWords Go.Proofs.YtfgpffocieegdaaW.PrintLast Go.Proofs.YtfgpffocieegdaaW.PrintMore Go.Proofs.Ytfgpffocieegdaa.Lin

def Evp {α : Type} (g : Nat → Option α) (Q : α → Prop) : Prop := ∃ r, Q r ∧ ∃ K, ∀ k, K ≤ k → g k = some r
theorem Evp.some' {α : Type} {r : α} {Q : α → Prop} (h : Q r) : Evp (fun _ => some r) Q := ⟨r, h, 0, fun _ _ => rfl⟩
theorem Evp.bind {α β : Type} {g : Nat → Option α} {f : Nat → α → Option β} {Q : α → Prop} {T : β → Prop} (h : Evp g Q) (k : ∀ r, Q r → Evp (fun n => f n r) T) : Evp (fun n => (g n).bind (f n)) T := by
  obtain ⟨r, hq, K, h⟩ := h; obtain ⟨s, ht, K', k⟩ := k r hq; refine ⟨s, ht, max K K', fun n hn => ?_⟩
  have h1 := h n (by omega)
  have h2 := k n (by omega)
  simp only [h1, Option.bind_some]; exact h2
theorem Evp.step {α : Type} {g f : Nat → Option α} {Q : α → Prop} (h : ∀ k, g (k + 1) = f k) (k : Evp f Q) : Evp g Q := by
  obtain ⟨r, hq, K, k⟩ := k; refine ⟨r, hq, K + 1, fun n hn => ?_⟩
  obtain ⟨m, rfl⟩ : ∃ m, n = m + 1 := ⟨n - 1, by omega⟩
  rw [h]; exact k m (by omega)
theorem Evp.congr {α : Type} {g f : Nat → Option α} {Q : α → Prop} (h : ∀ k, g k = f k) (k : Evp f Q) : Evp g Q := by
  obtain ⟨r, hq, K, k⟩ := k; exact ⟨r, hq, K, fun n hn => (h n).trans (k n hn)⟩
theorem Evp.mono {α : Type} {g : Nat → Option α} {Q T : α → Prop} (h : Evp g Q) (k : ∀ r, Q r → T r) : Evp g T := by
  obtain ⟨r, hq, K, h⟩ := h; exact ⟨r, k r hq, K, h⟩
theorem Evp.rounds {α : Type} {g : Nat → Option α} {r : α} (h : Evp g (· = r)) : ∃ k, g k = some r := by
  obtain ⟨s, rfl, K, h⟩ := h; exact ⟨K, h K (Nat.le_refl _)⟩
theorem Evp.ite {α : Type} {c : Prop} [Decidable c] {g f : Nat → Option α} {Q : α → Prop} (h : c → Evp g Q) (k : ¬ c → Evp f Q) : Evp (fun n => if c then g n else f n) Q := by
  by_cases hc : c
  · simp only [if_pos hc]; exact h hc
  · simp only [if_neg hc]; exact k hc
theorem Evp.pos {α : Type} {c : Prop} [Decidable c] {g f : Nat → Option α} {Q : α → Prop} (hc : c) (h : Evp g Q) : Evp (fun n => if c then g n else f n) Q := by
  simp only [if_pos hc]; exact h
theorem Evp.neg {α : Type} {c : Prop} [Decidable c] {g f : Nat → Option α} {Q : α → Prop} (hc : ¬ c) (h : Evp f Q) : Evp (fun n => if c then g n else f n) Q := by
  simp only [if_neg hc]; exact h
theorem wrap_small {x : Int} (h : -9223372036854775808 ≤ x ∧ x ≤ 9223372036854775807) : wrap64 x = x := by unfold wrap64; omega
theorem tmod31 {x : Int} (h : 0 ≤ x) : Int.tmod x 31 = x % 31 := Int.tmod_eq_emod_of_nonneg h
theorem tmod31_bounds (x : Int) : -30 ≤ Int.tmod x 31 ∧ Int.tmod x 31 ≤ 30 ∧ Int.tmod x 31 % 31 = x % 31 := by
  rcases Int.le_total 0 x with h | h
  · rw [tmod31 h]; omega
  · have e : Int.tmod x 31 = -(Int.tmod (-x) 31) := by rw [Int.neg_tmod, Int.neg_neg]
    rw [e, tmod31 (by omega)]; omega

theorem elementOf_eq {x : Int} (h : -1000000000 ≤ x ∧ x ≤ 1000000000) : impl_elementOf.f x = some (x % 31) := by
  unfold impl_elementOf.f
  have := tmod31_bounds x
  rw [wrap_small (by omega), tmod31 (by omega)]
  congr 1; omega
theorem mul_small {a b : Int} (ha : ok a = true) (hb : ok b = true) : 0 ≤ a * b ∧ a * b ≤ 900 := by
  rw [ok_iff] at ha hb
  constructor
  · exact Int.mul_nonneg ha.1 hb.1
  · have h1 : a * b ≤ a * 30 := Int.mul_le_mul_of_nonneg_left (by omega) ha.1
    omega
theorem impl_minus_eq {a b : Int} (ha : ok a = true) (hb : ok b = true) : impl_element_minus.f a b = some ((a - b) % 31) := by
  unfold impl_element_minus.f; rw [ok_iff] at ha hb; rw [wrap_small (by omega), elementOf_eq (by omega)]; rfl
theorem impl_times_eq {a b : Int} (ha : ok a = true) (hb : ok b = true) : impl_element_times.f a b = some (a * b % 31) := by
  unfold impl_element_times.f
  have := mul_small ha hb
  rw [wrap_small (by omega), elementOf_eq (by omega)]; rfl
theorem inverse_all : ∀ a : Fin 31, a ≠ 0 → impl_element_inverse.f 12 (a.val : Int) = some (inv (a.val : Int)) := by decide +kernel
theorem fin_of {a : Int} (h : ok a = true) : ∃ x : Fin 31, (x.val : Int) = a := by
  rw [ok_iff] at h; exact ⟨⟨a.toNat, by omega⟩, by simp only; omega⟩
theorem inverse_at {a : Int} (h : ok a = true) (h0 : a ≠ 0) : impl_element_inverse.f 12 a = some (inv a) := by
  obtain ⟨x, rfl⟩ := fin_of h; exact inverse_all x (fun e => h0 (by rw [e]; rfl))
theorem ev_of {α : Type} {g : Nat → Option α} {r : α} (hg : ∀ k, LeO (g k) (g (k + 1))) {k : Nat} (h : g k = some r) : Evp g (· = r) := ⟨r, rfl, k, fun n hn => at_rounds hg hn h⟩
theorem impl_inverse_ev {a : Int} (h : ok a = true) (h0 : a ≠ 0) : Evp (fun k => impl_element_inverse.f k a) (· = inv a) := ev_of (impl_element_inverse.mono a) (inverse_at h h0)
theorem rd_nat (l : List Int) (i : Nat) : rd l (i : Int) = l.getD i 0 := by unfold rd; rw [Int.toNat_natCast]
theorem getD_get {l : List Int} {i : Nat} (h : i < l.length) : l.getD i 0 = l[i] := by rw [List.getD_eq_getElem?_getD, List.getElem?_eq_getElem h]; rfl
theorem wrap_succ {i : Nat} (h : i ≤ 1000000000000000) : wrap64 ((i : Int) + 1) = ((i + 1 : Nat) : Int) := by rw [wrap_small (by omega)]; omega
/-- a row as the program's own vector -/
def toS (r : List Int) : S54 := ⟨r.getD 0 0, r.getD 1 0, r.getD 2 0, r.getD 3 0⟩
def l12 (x : S81) : List Int := [x.f0.f0, x.f0.f1, x.f0.f2, x.f0.f3, x.f1.f0, x.f1.f1, x.f1.f2, x.f1.f3, x.f1.f4, x.f1.f5, x.f1.f6, x.f1.f7]
def m12 (l : List Int) : S81 := ⟨⟨l.getD 0 0, l.getD 1 0, l.getD 2 0, l.getD 3 0⟩, ⟨l.getD 4 0, l.getD 5 0, l.getD 6 0, l.getD 7 0, l.getD 8 0, l.getD 9 0, l.getD 10 0, l.getD 11 0⟩⟩
def T12 (l : List Int) : Int × Int × Int × Int × Int × Int × Int × Int × Int × Int × Int × Int := (l.getD 0 0, l.getD 1 0, l.getD 2 0, l.getD 3 0, l.getD 4 0, l.getD 5 0, l.getD 6 0, l.getD 7 0, l.getD 8 0, l.getD 9 0, l.getD 10 0, l.getD 11 0)
/-- a kept row taken away -/
def kl (k r : List Int) : List Int := List.zipWith (fun x y => (x - y * gt k (llead (r.take 4)) % 31) % 31) k r
def kred (R : List (List Int)) (z : List Int) : List Int := R.foldl kl z
def Good (r : List Int) : Prop := r.length = 12 ∧ can r ∧ ld (toW r) < 4
theorem kl_len {k r : List Int} (hk : k.length = 12) (hr : r.length = 12) : (kl k r).length = 12 := by simp [kl, hk, hr]
theorem can_kl (k r : List Int) : can (kl k r) := fun x hx => by
  obtain ⟨i, hi, rfl⟩ := List.getElem_of_mem hx; simp only [kl, List.getElem_zipWith]; exact mod_ok _
theorem kl_get {k r : List Int} (hk : k.length = 12) (hr : r.length = 12) {j : Nat} (hj : j < 12) : (kl k r).getD j 0 = (k.getD j 0 - r.getD j 0 * gt k (llead (r.take 4)) % 31) % 31 := by
  have h1 : j < (kl k r).length := by rw [kl_len hk hr]; exact hj
  rw [List.getD_eq_getElem?_getD, List.getElem?_eq_getElem h1, List.getD_eq_getElem?_getD, List.getElem?_eq_getElem (by omega), List.getD_eq_getElem?_getD, List.getElem?_eq_getElem (by omega)]; simp only [kl, List.getElem_zipWith, Option.getD_some]
theorem l12_m12 {l : List Int} (h : l.length = 12) : l12 (m12 l) = l := by
  match l, h with
  | [a, b, c, d, e, f, g, i, j, k, m, n], _ => rfl
theorem toW_take4 (r : List Int) {i : Nat} (h : i < 4) : toW (r.take 4) i = toW r i := by
  unfold toW; rw [List.getD_eq_getElem?_getD, List.getD_eq_getElem?_getD, List.getElem?_take_of_lt h]
theorem ld_take4 (r : List Int) : ld (toW (r.take 4)) = ld (toW r) := ld_congr fun i hi => toW_take4 r hi
theorem can_take {r : List Int} (h : can r) (n : Nat) : can (r.take n) := fun x hx => h x (List.mem_of_mem_take hx)
theorem take4_four {l : List Int} (h : l.length = 12) : [l.getD 0 0, l.getD 1 0, l.getD 2 0, l.getD 3 0] = l.take 4 := by
  match l, h with
  | [a, b, c, d, e, f, g, i, j, k, m, n], _ => rfl
theorem good_lead {r : List Int} (h : Good r) : llead (r.take 4) = (ld (toW r) : Int) := by
  rw [llead_ld (can_take h.2.1 4) (by rw [ld_take4]; exact h.2.2), ld_take4]
theorem toW_kl {k r : List Int} (hk : k.length = 12) (hr : Good r) : toW (kl k r) = less (toW k) (toW r) := by
  funext j
  have e := good_lead hr
  show toF ((kl k r).getD j 0) = toF (k.getD j 0) + -(toF (k.getD (ld (toW r)) 0)) * toF (r.getD j 0)
  rcases Nat.lt_or_ge j 12 with hj | hj
  · rw [kl_get hk hr.1 hj, e, gt_nat, toF_mod, Int.sub_eq_add_neg, toF_add]
    have : toF (-(r.getD j 0 * k.getD (ld (toW r)) 0 % 31)) = -(toF (r.getD j 0 * k.getD (ld (toW r)) 0)) := by
      have h1 : toF (-(r.getD j 0 * k.getD (ld (toW r)) 0 % 31)) + toF (r.getD j 0 * k.getD (ld (toW r)) 0) = 0 := by
        rw [← toF_add, ← toF_zero, toF_eq]; omega
      grind
    rw [this, toF_mul]; grind
  · rw [List.getD_eq_getElem?_getD, List.getElem?_eq_none (by rw [kl_len hk hr.1]; exact hj), List.getD_eq_getElem?_getD (l := k), List.getElem?_eq_none (by omega), List.getD_eq_getElem?_getD (l := r), List.getElem?_eq_none (by have := hr.1; omega)]
    simp only [Option.getD_none, toF_zero]; grind
theorem kred_len {R : List (List Int)} (hR : ∀ r ∈ R, Good r) : ∀ {z : List Int}, z.length = 12 → (kred R z).length = 12 := by
  induction R with
  | nil => intro z h; exact h
  | cons r R ih => intro z h; exact ih (fun s hs => hR s (by simp [hs])) (kl_len h (hR r (by simp)).1)
theorem can_kred {R : List (List Int)} : ∀ {z : List Int}, can z → can (kred R z) := by
  induction R with
  | nil => intro z h; exact h
  | cons r R ih => intro z h; exact ih (can_kl z r)
theorem toW_kred {R : List (List Int)} (hR : ∀ r ∈ R, Good r) : ∀ {z : List Int}, z.length = 12 → toW (kred R z) = red (R.map toW) (toW z) := by
  induction R with
  | nil => intro z h; rfl
  | cons r R ih =>
    intro z h
    show toW (kred R (kl z r)) = red (R.map toW) (less (toW z) (toW r))
    rw [ih (fun s hs => hR s (by simp [hs])) (kl_len h (hR r (by simp)).1), toW_kl h (hR r (by simp))]
theorem pick4 {α : Type} {p : Nat} (hp : p < 4) (f : Nat → α) (e : α) : (if (p : Int) = 0 then f 0 else if (p : Int) = 1 then f 1 else if (p : Int) = 2 then f 2 else if (p : Int) = 3 then f 3 else e) = f p := by
  match p, hp with
  | 0, _ => rfl
  | 1, _ => rfl
  | 2, _ => rfl
  | 3, _ => rfl
theorem pick8 {α : Type} {p : Nat} (hp : p < 8) (f : Nat → α) (e : α) : (if (p : Int) = 0 then f 0 else if (p : Int) = 1 then f 1 else if (p : Int) = 2 then f 2 else if (p : Int) = 3 then f 3 else if (p : Int) = 4 then f 4 else if (p : Int) = 5 then f 5 else if (p : Int) = 6 then f 6 else if (p : Int) = 7 then f 7 else e) = f p := by
  match p, hp with
  | 0, _ => rfl
  | 1, _ => rfl
  | 2, _ => rfl
  | 3, _ => rfl
  | 4, _ => rfl
  | 5, _ => rfl
  | 6, _ => rfl
  | 7, _ => rfl
theorem vtimes_eq {a b c d x : Int} (ha : ok a = true) (hb : ok b = true) (hc : ok c = true) (hd : ok d = true) (hx : ok x = true) : impl_vector_times.f a b c d x = some (a * x % 31, b * x % 31, c * x % 31, d * x % 31) := by
  unfold impl_vector_times.f; rw [if_pos ⟨⟨ok_iff.1 ha, ok_iff.1 hb, ok_iff.1 hc, ok_iff.1 hd⟩, ok_iff.1 hx⟩]
theorem vminus_eq {a b c d p q r s : Int} (ha : ok a = true) (hb : ok b = true) (hc : ok c = true) (hd : ok d = true) (hp : ok p = true) (hq : ok q = true) (hr : ok r = true) (hs : ok s = true) : impl_vector_minus.f a b c d p q r s = some ((a - p) % 31, (b - q) % 31, (c - r) % 31, (d - s) % 31) := by
  unfold impl_vector_minus.f; rw [elementOf_eq (by omega), Option.bind_some, show (-1 : Int) % 31 = 30 by decide, vtimes_eq hp hq hr hs (by decide), Option.bind_some]; unfold impl_vector_plus.f; rw [ok_iff] at *; rw [if_pos ⟨⟨ha, hb, hc, hd⟩, emod_range _, emod_range _, emod_range _, emod_range _⟩]; simp only [Option.bind_some, Option.some.injEq, Prod.mk.injEq]; refine ⟨by omega, by omega, by omega, by omega⟩
theorem less_l1_ev {L : List S81} {n i c a0 a1 a2 a3 a4 a5 a6 a7 a8 a9 a10 a11 r0 r1 r2 r3 r4 r5 r6 r7 r8 r9 r10 r11 : Int} (hc : ok c = true) (ha4 : ok a4 = true) (ha5 : ok a5 = true) (ha6 : ok a6 = true) (ha7 : ok a7 = true) (ha8 : ok a8 = true) (ha9 : ok a9 = true) (ha10 : ok a10 = true) (ha11 : ok a11 = true) (hr4 : ok r4 = true) (hr5 : ok r5 = true) (hr6 : ok r6 = true) (hr7 : ok r7 = true) (hr8 : ok r8 = true) (hr9 : ok r9 = true) (hr10 : ok r10 = true) (hr11 : ok r11 = true) {Q : _ → Prop} (h : Evp (fun k => impl_span_less.l0 k L n (wrap64 (i + 1)) a0 a1 a2 a3 ((a4 - r4 * c % 31) % 31) ((a5 - r5 * c % 31) % 31) ((a6 - r6 * c % 31) % 31) ((a7 - r7 * c % 31) % 31) ((a8 - r8 * c % 31) % 31) ((a9 - r9 * c % 31) % 31) ((a10 - r10 * c % 31) % 31) ((a11 - r11 * c % 31) % 31)) Q) : Evp (fun k => impl_span_less.l1 k c L n i 0 a0 a1 a2 a3 a4 a5 a6 a7 a8 a9 a10 a11 r0 r1 r2 r3 r4 r5 r6 r7 r8 r9 r10 r11) Q := by
  refine Evp.step (f := fun k => impl_span_less.l1 k c L n i 1 a0 a1 a2 a3 ((a4 - r4 * c % 31) % 31) a5 a6 a7 a8 a9 a10 a11 r0 r1 r2 r3 r4 r5 r6 r7 r8 r9 r10 r11) (fun k => by rw [impl_span_less.l1, if_pos (by decide), if_pos rfl, impl_times_eq hr4 hc, Option.bind_some, impl_minus_eq ha4 (mod_ok _), Option.bind_some, (by unfold wrap64; omega : wrap64 ((0 : Int) + 1) = 1)]) ?_; refine Evp.step (f := fun k => impl_span_less.l1 k c L n i 2 a0 a1 a2 a3 ((a4 - r4 * c % 31) % 31) ((a5 - r5 * c % 31) % 31) a6 a7 a8 a9 a10 a11 r0 r1 r2 r3 r4 r5 r6 r7 r8 r9 r10 r11) (fun k => by rw [impl_span_less.l1, if_pos (by decide), if_neg (by decide), if_pos rfl, impl_times_eq hr5 hc, Option.bind_some, impl_minus_eq ha5 (mod_ok _), Option.bind_some, (by unfold wrap64; omega : wrap64 ((1 : Int) + 1) = 2)]) ?_; refine Evp.step (f := fun k => impl_span_less.l1 k c L n i 3 a0 a1 a2 a3 ((a4 - r4 * c % 31) % 31) ((a5 - r5 * c % 31) % 31) ((a6 - r6 * c % 31) % 31) a7 a8 a9 a10 a11 r0 r1 r2 r3 r4 r5 r6 r7 r8 r9 r10 r11) (fun k => by rw [impl_span_less.l1, if_pos (by decide), if_neg (by decide), if_neg (by decide), if_pos rfl, impl_times_eq hr6 hc, Option.bind_some, impl_minus_eq ha6 (mod_ok _), Option.bind_some, (by unfold wrap64; omega : wrap64 ((2 : Int) + 1) = 3)]) ?_; refine Evp.step (f := fun k => impl_span_less.l1 k c L n i 4 a0 a1 a2 a3 ((a4 - r4 * c % 31) % 31) ((a5 - r5 * c % 31) % 31) ((a6 - r6 * c % 31) % 31) ((a7 - r7 * c % 31) % 31) a8 a9 a10 a11 r0 r1 r2 r3 r4 r5 r6 r7 r8 r9 r10 r11) (fun k => by rw [impl_span_less.l1, if_pos (by decide), if_neg (by decide), if_neg (by decide), if_neg (by decide), if_pos rfl, impl_times_eq hr7 hc, Option.bind_some, impl_minus_eq ha7 (mod_ok _), Option.bind_some, (by unfold wrap64; omega : wrap64 ((3 : Int) + 1) = 4)]) ?_; refine Evp.step (f := fun k => impl_span_less.l1 k c L n i 5 a0 a1 a2 a3 ((a4 - r4 * c % 31) % 31) ((a5 - r5 * c % 31) % 31) ((a6 - r6 * c % 31) % 31) ((a7 - r7 * c % 31) % 31) ((a8 - r8 * c % 31) % 31) a9 a10 a11 r0 r1 r2 r3 r4 r5 r6 r7 r8 r9 r10 r11) (fun k => by rw [impl_span_less.l1, if_pos (by decide), if_neg (by decide), if_neg (by decide), if_neg (by decide), if_neg (by decide), if_pos rfl, impl_times_eq hr8 hc, Option.bind_some, impl_minus_eq ha8 (mod_ok _), Option.bind_some, (by unfold wrap64; omega : wrap64 ((4 : Int) + 1) = 5)]) ?_; refine Evp.step (f := fun k => impl_span_less.l1 k c L n i 6 a0 a1 a2 a3 ((a4 - r4 * c % 31) % 31) ((a5 - r5 * c % 31) % 31) ((a6 - r6 * c % 31) % 31) ((a7 - r7 * c % 31) % 31) ((a8 - r8 * c % 31) % 31) ((a9 - r9 * c % 31) % 31) a10 a11 r0 r1 r2 r3 r4 r5 r6 r7 r8 r9 r10 r11) (fun k => by rw [impl_span_less.l1, if_pos (by decide), if_neg (by decide), if_neg (by decide), if_neg (by decide), if_neg (by decide), if_neg (by decide), if_pos rfl, impl_times_eq hr9 hc, Option.bind_some, impl_minus_eq ha9 (mod_ok _), Option.bind_some, (by unfold wrap64; omega : wrap64 ((5 : Int) + 1) = 6)]) ?_; refine Evp.step (f := fun k => impl_span_less.l1 k c L n i 7 a0 a1 a2 a3 ((a4 - r4 * c % 31) % 31) ((a5 - r5 * c % 31) % 31) ((a6 - r6 * c % 31) % 31) ((a7 - r7 * c % 31) % 31) ((a8 - r8 * c % 31) % 31) ((a9 - r9 * c % 31) % 31) ((a10 - r10 * c % 31) % 31) a11 r0 r1 r2 r3 r4 r5 r6 r7 r8 r9 r10 r11) (fun k => by rw [impl_span_less.l1, if_pos (by decide), if_neg (by decide), if_neg (by decide), if_neg (by decide), if_neg (by decide), if_neg (by decide), if_neg (by decide), if_pos rfl, impl_times_eq hr10 hc, Option.bind_some, impl_minus_eq ha10 (mod_ok _), Option.bind_some, (by unfold wrap64; omega : wrap64 ((6 : Int) + 1) = 7)]) ?_; refine Evp.step (f := fun k => impl_span_less.l1 k c L n i 8 a0 a1 a2 a3 ((a4 - r4 * c % 31) % 31) ((a5 - r5 * c % 31) % 31) ((a6 - r6 * c % 31) % 31) ((a7 - r7 * c % 31) % 31) ((a8 - r8 * c % 31) % 31) ((a9 - r9 * c % 31) % 31) ((a10 - r10 * c % 31) % 31) ((a11 - r11 * c % 31) % 31) r0 r1 r2 r3 r4 r5 r6 r7 r8 r9 r10 r11) (fun k => by rw [impl_span_less.l1, if_pos (by decide), if_neg (by decide), if_neg (by decide), if_neg (by decide), if_neg (by decide), if_neg (by decide), if_neg (by decide), if_neg (by decide), if_pos rfl, impl_times_eq hr11 hc, Option.bind_some, impl_minus_eq ha11 (mod_ok _), Option.bind_some, (by unfold wrap64; omega : wrap64 ((7 : Int) + 1) = 8)]) ?_; exact Evp.step (f := fun k => impl_span_less.l0 k L n (wrap64 (i + 1)) a0 a1 a2 a3 ((a4 - r4 * c % 31) % 31) ((a5 - r5 * c % 31) % 31) ((a6 - r6 * c % 31) % 31) ((a7 - r7 * c % 31) % 31) ((a8 - r8 * c % 31) % 31) ((a9 - r9 * c % 31) % 31) ((a10 - r10 * c % 31) % 31) ((a11 - r11 * c % 31) % 31)) (fun k => by rw [impl_span_less.l1, if_neg (by decide)]) h
theorem less_j1_ev {L : List S81} {n i c a0 a1 a2 a3 a4 a5 a6 a7 a8 a9 a10 a11 r0 r1 r2 r3 r4 r5 r6 r7 r8 r9 r10 r11 : Int} (hc : ok c = true) (ha0 : ok a0 = true) (ha1 : ok a1 = true) (ha2 : ok a2 = true) (ha3 : ok a3 = true) (ha4 : ok a4 = true) (ha5 : ok a5 = true) (ha6 : ok a6 = true) (ha7 : ok a7 = true) (ha8 : ok a8 = true) (ha9 : ok a9 = true) (ha10 : ok a10 = true) (ha11 : ok a11 = true) (hr0 : ok r0 = true) (hr1 : ok r1 = true) (hr2 : ok r2 = true) (hr3 : ok r3 = true) (hr4 : ok r4 = true) (hr5 : ok r5 = true) (hr6 : ok r6 = true) (hr7 : ok r7 = true) (hr8 : ok r8 = true) (hr9 : ok r9 = true) (hr10 : ok r10 = true) (hr11 : ok r11 = true) {Q : _ → Prop} (h : Evp (fun k => impl_span_less.l0 k L n (wrap64 (i + 1)) ((a0 - r0 * c % 31) % 31) ((a1 - r1 * c % 31) % 31) ((a2 - r2 * c % 31) % 31) ((a3 - r3 * c % 31) % 31) ((a4 - r4 * c % 31) % 31) ((a5 - r5 * c % 31) % 31) ((a6 - r6 * c % 31) % 31) ((a7 - r7 * c % 31) % 31) ((a8 - r8 * c % 31) % 31) ((a9 - r9 * c % 31) % 31) ((a10 - r10 * c % 31) % 31) ((a11 - r11 * c % 31) % 31)) Q) : Evp (fun k => impl_span_less.j1 k c L n i a0 a1 a2 a3 a4 a5 a6 a7 a8 a9 a10 a11 r0 r1 r2 r3 r4 r5 r6 r7 r8 r9 r10 r11) Q := by
  refine Evp.step (f := fun k => impl_span_less.l1 k c L n i 0 ((a0 - r0 * c % 31) % 31) ((a1 - r1 * c % 31) % 31) ((a2 - r2 * c % 31) % 31) ((a3 - r3 * c % 31) % 31) a4 a5 a6 a7 a8 a9 a10 a11 r0 r1 r2 r3 r4 r5 r6 r7 r8 r9 r10 r11) (fun k => by rw [impl_span_less.j1, vtimes_eq hr0 hr1 hr2 hr3 hc, Option.bind_some, vminus_eq ha0 ha1 ha2 ha3 (mod_ok _) (mod_ok _) (mod_ok _) (mod_ok _), Option.bind_some]) ?_; exact less_l1_ev hc ha4 ha5 ha6 ha7 ha8 ha9 ha10 ha11 hr4 hr5 hr6 hr7 hr8 hr9 hr10 hr11 h
theorem rdK {L : List S81} {i : Nat} (h : i < L.length) : rd_T81 L (i : Int) = L[i] := by
  unfold rd_T81; rw [Int.toNat_natCast, List.getD_eq_getElem?_getD, List.getElem?_eq_getElem h]; rfl
theorem l12_ok {x : S81} (h : can (l12 x)) : ok x.f0.f0 = true ∧ ok x.f0.f1 = true ∧ ok x.f0.f2 = true ∧ ok x.f0.f3 = true ∧ ok x.f1.f0 = true ∧ ok x.f1.f1 = true ∧ ok x.f1.f2 = true ∧ ok x.f1.f3 = true ∧ ok x.f1.f4 = true ∧ ok x.f1.f5 = true ∧ ok x.f1.f6 = true ∧ ok x.f1.f7 = true := by
  refine ⟨?_, ?_, ?_, ?_, ?_, ?_, ?_, ?_, ?_, ?_, ?_, ?_⟩ <;> exact h _ (by simp [l12])
theorem less_l0_ev {L : List S81} (hL : ∀ x ∈ L, Good (l12 x)) (hn : L.length ≤ 1000000) : ∀ (d i : Nat), i + d = L.length → ∀ a : List Int, a.length = 12 → can a →
    Evp (fun k => impl_span_less.l0 k L (L.length : Int) (i : Int) (a.getD 0 0) (a.getD 1 0) (a.getD 2 0) (a.getD 3 0) (a.getD 4 0) (a.getD 5 0) (a.getD 6 0) (a.getD 7 0) (a.getD 8 0) (a.getD 9 0) (a.getD 10 0) (a.getD 11 0)) (· = T12 (kred ((L.drop i).map l12) a)) := by
  intro d
  induction d with
  | zero =>
    intro i hi a ha hc; refine Evp.step (fun k => by rw [impl_span_less.l0]) (Evp.neg (by omega) (Evp.some' ?_)); rw [List.drop_eq_nil_of_le (by omega)]; rfl
  | succ d ih =>
    intro i hi a ha hc
    have hi1 : i < L.length := by omega
    have hg := hL _ (List.getElem_mem hi1)
    have hl := good_lead hg
    obtain ⟨o0, o1, o2, o3, o4, o5, o6, o7, o8, o9, o10, o11⟩ := l12_ok hg.2.1; refine Evp.step (fun k => by rw [impl_span_less.l0]) (Evp.pos (by omega) (Evp.pos (by omega) (Evp.pos (by omega) ?_))); rw [rdK hi1, List.drop_eq_getElem_cons hi1, List.map_cons]
    have hp := hg.2.2
    generalize hpp : ld (toW (l12 L[i])) = p at hl hp
    have e : impl_vector_lead.f L[i].f0.f0 L[i].f0.f1 L[i].f0.f2 L[i].f0.f3 = some (p : Int) := by rw [← hl]; rfl
    simp only [e, Option.bind_some]; refine Evp.congr (fun k => pick4 hp (fun j => impl_span_less.j1 k (a.getD j 0) L (L.length : Int) (i : Int) (a.getD 0 0) (a.getD 1 0) (a.getD 2 0) (a.getD 3 0) (a.getD 4 0) (a.getD 5 0) (a.getD 6 0) (a.getD 7 0) (a.getD 8 0) (a.getD 9 0) (a.getD 10 0) (a.getD 11 0) L[i].f0.f0 L[i].f0.f1 L[i].f0.f2 L[i].f0.f3 L[i].f1.f0 L[i].f1.f1 L[i].f1.f2 L[i].f1.f3 L[i].f1.f4 L[i].f1.f5 L[i].f1.f6 L[i].f1.f7) none) ?_; refine less_j1_ev (can_get hc p) (can_get hc 0) (can_get hc 1) (can_get hc 2) (can_get hc 3) (can_get hc 4) (can_get hc 5) (can_get hc 6) (can_get hc 7) (can_get hc 8) (can_get hc 9) (can_get hc 10) (can_get hc 11) o0 o1 o2 o3 o4 o5 o6 o7 o8 o9 o10 o11 ?_
    have hk := ih (i + 1) (by omega) (kl a (l12 L[i])) (kl_len ha hg.1) (can_kl _ _)
    rw [kl_get ha hg.1 (by omega : 0 < 12), kl_get ha hg.1 (by omega : 1 < 12), kl_get ha hg.1 (by omega : 2 < 12), kl_get ha hg.1 (by omega : 3 < 12), kl_get ha hg.1 (by omega : 4 < 12), kl_get ha hg.1 (by omega : 5 < 12), kl_get ha hg.1 (by omega : 6 < 12), kl_get ha hg.1 (by omega : 7 < 12), kl_get ha hg.1 (by omega : 8 < 12), kl_get ha hg.1 (by omega : 9 < 12), kl_get ha hg.1 (by omega : 10 < 12), kl_get ha hg.1 (by omega : 11 < 12), hl, gt_nat] at hk; rw [wrap_succ (by omega)]; exact hk
theorem less_ev {L : List S81} (hL : ∀ x ∈ L, Good (l12 x)) (hn : L.length ≤ 1000000) (P : List Int) {a : List Int} (ha : a.length = 12) (hc : can a) :
    Evp (fun k => impl_span_less.f k L P (a.getD 0 0) (a.getD 1 0) (a.getD 2 0) (a.getD 3 0) (a.getD 4 0) (a.getD 5 0) (a.getD 6 0) (a.getD 7 0) (a.getD 8 0) (a.getD 9 0) (a.getD 10 0) (a.getD 11 0)) (· = T12 (kred (L.map l12) a)) := by
  have := less_l0_ev hL hn L.length 0 (by omega) a ha hc
  rw [List.drop_zero] at this; exact this
/-- a row, told so that it begins with 1 -/
def kunit (z : List Int) : List Int := z.map fun x => x * inv (gt z (llead (z.take 4))) % 31
theorem span_l1_ev {M : List S54} {L : List S81} {P : List Int} {n i q c z0 z1 z2 z3 z4 z5 z6 z7 z8 z9 z10 z11 : Int} (hL : L.length ≤ 1000000) (hP : P.length ≤ 1000000) (hc : ok c = true) (hz4 : ok z4 = true) (hz5 : ok z5 = true) (hz6 : ok z6 = true) (hz7 : ok z7 = true) (hz8 : ok z8 = true) (hz9 : ok z9 = true) (hz10 : ok z10 = true) (hz11 : ok z11 = true) {Q : _ → Prop} (h : Evp (fun k => impl_spanOf.l0 k M n (wrap64 (i + 1)) (L ++ [(⟨⟨z0, z1, z2, z3⟩, ⟨(z4 * c % 31), (z5 * c % 31), (z6 * c % 31), (z7 * c % 31), (z8 * c % 31), (z9 * c % 31), (z10 * c % 31), (z11 * c % 31)⟩⟩ : S81)]) (P ++ [q])) Q) : Evp (fun k => impl_spanOf.l1 k q c M n i 0 L P z0 z1 z2 z3 z4 z5 z6 z7 z8 z9 z10 z11) Q := by
  refine Evp.step (f := fun k => impl_spanOf.l1 k q c M n i 1 L P z0 z1 z2 z3 (z4 * c % 31) z5 z6 z7 z8 z9 z10 z11) (fun k => by rw [impl_spanOf.l1, if_pos (by decide), if_pos rfl, impl_times_eq hz4 hc, Option.bind_some, (by unfold wrap64; omega : wrap64 ((0 : Int) + 1) = 1)]) ?_; refine Evp.step (f := fun k => impl_spanOf.l1 k q c M n i 2 L P z0 z1 z2 z3 (z4 * c % 31) (z5 * c % 31) z6 z7 z8 z9 z10 z11) (fun k => by rw [impl_spanOf.l1, if_pos (by decide), if_neg (by decide), if_pos rfl, impl_times_eq hz5 hc, Option.bind_some, (by unfold wrap64; omega : wrap64 ((1 : Int) + 1) = 2)]) ?_; refine Evp.step (f := fun k => impl_spanOf.l1 k q c M n i 3 L P z0 z1 z2 z3 (z4 * c % 31) (z5 * c % 31) (z6 * c % 31) z7 z8 z9 z10 z11) (fun k => by rw [impl_spanOf.l1, if_pos (by decide), if_neg (by decide), if_neg (by decide), if_pos rfl, impl_times_eq hz6 hc, Option.bind_some, (by unfold wrap64; omega : wrap64 ((2 : Int) + 1) = 3)]) ?_; refine Evp.step (f := fun k => impl_spanOf.l1 k q c M n i 4 L P z0 z1 z2 z3 (z4 * c % 31) (z5 * c % 31) (z6 * c % 31) (z7 * c % 31) z8 z9 z10 z11) (fun k => by rw [impl_spanOf.l1, if_pos (by decide), if_neg (by decide), if_neg (by decide), if_neg (by decide), if_pos rfl, impl_times_eq hz7 hc, Option.bind_some, (by unfold wrap64; omega : wrap64 ((3 : Int) + 1) = 4)]) ?_; refine Evp.step (f := fun k => impl_spanOf.l1 k q c M n i 5 L P z0 z1 z2 z3 (z4 * c % 31) (z5 * c % 31) (z6 * c % 31) (z7 * c % 31) (z8 * c % 31) z9 z10 z11) (fun k => by rw [impl_spanOf.l1, if_pos (by decide), if_neg (by decide), if_neg (by decide), if_neg (by decide), if_neg (by decide), if_pos rfl, impl_times_eq hz8 hc, Option.bind_some, (by unfold wrap64; omega : wrap64 ((4 : Int) + 1) = 5)]) ?_; refine Evp.step (f := fun k => impl_spanOf.l1 k q c M n i 6 L P z0 z1 z2 z3 (z4 * c % 31) (z5 * c % 31) (z6 * c % 31) (z7 * c % 31) (z8 * c % 31) (z9 * c % 31) z10 z11) (fun k => by rw [impl_spanOf.l1, if_pos (by decide), if_neg (by decide), if_neg (by decide), if_neg (by decide), if_neg (by decide), if_neg (by decide), if_pos rfl, impl_times_eq hz9 hc, Option.bind_some, (by unfold wrap64; omega : wrap64 ((5 : Int) + 1) = 6)]) ?_; refine Evp.step (f := fun k => impl_spanOf.l1 k q c M n i 7 L P z0 z1 z2 z3 (z4 * c % 31) (z5 * c % 31) (z6 * c % 31) (z7 * c % 31) (z8 * c % 31) (z9 * c % 31) (z10 * c % 31) z11) (fun k => by rw [impl_spanOf.l1, if_pos (by decide), if_neg (by decide), if_neg (by decide), if_neg (by decide), if_neg (by decide), if_neg (by decide), if_neg (by decide), if_pos rfl, impl_times_eq hz10 hc, Option.bind_some, (by unfold wrap64; omega : wrap64 ((6 : Int) + 1) = 7)]) ?_; refine Evp.step (f := fun k => impl_spanOf.l1 k q c M n i 8 L P z0 z1 z2 z3 (z4 * c % 31) (z5 * c % 31) (z6 * c % 31) (z7 * c % 31) (z8 * c % 31) (z9 * c % 31) (z10 * c % 31) (z11 * c % 31)) (fun k => by rw [impl_spanOf.l1, if_pos (by decide), if_neg (by decide), if_neg (by decide), if_neg (by decide), if_neg (by decide), if_neg (by decide), if_neg (by decide), if_neg (by decide), if_pos rfl, impl_times_eq hz11 hc, Option.bind_some, (by unfold wrap64; omega : wrap64 ((7 : Int) + 1) = 8)]) ?_; exact Evp.step (f := fun k => impl_spanOf.l0 k M n (wrap64 (i + 1)) (L ++ [(⟨⟨z0, z1, z2, z3⟩, ⟨(z4 * c % 31), (z5 * c % 31), (z6 * c % 31), (z7 * c % 31), (z8 * c % 31), (z9 * c % 31), (z10 * c % 31), (z11 * c % 31)⟩⟩ : S81)]) (P ++ [q])) (fun k => by rw [impl_spanOf.l1, if_neg (by decide), if_pos (by omega), if_pos (by omega)]) h
theorem span_j2_ev {M : List S54} {L : List S81} {P : List Int} {n i q c z0 z1 z2 z3 z4 z5 z6 z7 z8 z9 z10 z11 : Int} (hL : L.length ≤ 1000000) (hP : P.length ≤ 1000000) (hc : ok c = true) (hz0 : ok z0 = true) (hz1 : ok z1 = true) (hz2 : ok z2 = true) (hz3 : ok z3 = true) (hz4 : ok z4 = true) (hz5 : ok z5 = true) (hz6 : ok z6 = true) (hz7 : ok z7 = true) (hz8 : ok z8 = true) (hz9 : ok z9 = true) (hz10 : ok z10 = true) (hz11 : ok z11 = true) {Q : _ → Prop} (h : Evp (fun k => impl_spanOf.l0 k M n (wrap64 (i + 1)) (L ++ [(⟨⟨(z0 * c % 31), (z1 * c % 31), (z2 * c % 31), (z3 * c % 31)⟩, ⟨(z4 * c % 31), (z5 * c % 31), (z6 * c % 31), (z7 * c % 31), (z8 * c % 31), (z9 * c % 31), (z10 * c % 31), (z11 * c % 31)⟩⟩ : S81)]) (P ++ [q])) Q) : Evp (fun k => impl_spanOf.j2 k q c M n i L P z0 z1 z2 z3 z4 z5 z6 z7 z8 z9 z10 z11) Q := by
  refine Evp.step (f := fun k => impl_spanOf.l1 k q c M n i 0 L P (z0 * c % 31) (z1 * c % 31) (z2 * c % 31) (z3 * c % 31) z4 z5 z6 z7 z8 z9 z10 z11) (fun k => by rw [impl_spanOf.j2, vtimes_eq hz0 hz1 hz2 hz3 hc, Option.bind_some]) ?_; exact span_l1_ev hL hP hc hz4 hz5 hz6 hz7 hz8 hz9 hz10 hz11 h
/-- row n with its tail -/
def augl (m : List (List Int)) (n : Nat) : List Int := [(m.getD n []).getD 0 0, (m.getD n []).getD 1 0, (m.getD n []).getD 2 0, (m.getD n []).getD 3 0, if n = 0 then 1 else 0, if n = 1 then 1 else 0, if n = 2 then 1 else 0, if n = 3 then 1 else 0, if n = 4 then 1 else 0, if n = 5 then 1 else 0, if n = 6 then 1 else 0, if n = 7 then 1 else 0]
def kpush (s : List (List Int) × List Int) (n : Nat) (z : List Int) : List (List Int) × List Int :=
  if llead ((kred s.1 z).take 4) < 0 then s else (s.1 ++ [kunit (kred s.1 z)], s.2 ++ [(n : Int)])
/-- rows that are kept behind the first n, and their places -/
def kspan (m : List (List Int)) : Nat → List (List Int) × List Int
  | 0 => ([], [])
  | n + 1 => kpush (kspan m n) n (augl m n)
theorem augl_len (m : List (List Int)) (n : Nat) : (augl m n).length = 12 := rfl
theorem can_augl {m : List (List Int)} (hm : ∀ r ∈ m, vok r = true) {n : Nat} (hn : n < m.length) : can (augl m n) := by
  have hv : can (m.getD n []) := by
    rw [List.getD_eq_getElem?_getD, List.getElem?_eq_getElem hn]; exact (vok_iff.1 (hm _ (List.getElem_mem hn))).2
  intro x hx; simp only [augl, List.mem_cons, List.not_mem_nil, or_false] at hx
  have key : ∀ (c : Prop) [Decidable c], ok (if c then 1 else 0) = true := fun c _ => by split <;> decide
  rcases hx with rfl | rfl | rfl | rfl | rfl | rfl | rfl | rfl | rfl | rfl | rfl | rfl <;> first | exact can_get hv _ | exact key _
theorem kunit_len {z : List Int} (h : z.length = 12) : (kunit z).length = 12 := by simp [kunit, h]
theorem can_kunit (z : List Int) : can (kunit z) := fun x hx => by
  simp only [kunit, List.mem_map] at hx; obtain ⟨y, _, rfl⟩ := hx; exact mod_ok _
theorem lead_cases12 {z : List Int} (hz : z.length = 12) (hc : can z) : (llead (z.take 4) < 0 ∧ ld (toW z) = 4) ∨ (llead (z.take 4) = (ld (toW z) : Int) ∧ ld (toW z) < 4) := by
  have hv : vok (z.take 4) = true := vok_iff.2 ⟨by simp [hz], can_take hc 4⟩
  rcases Nat.lt_or_ge (ld (toW z)) 4 with h | h
  · exact .inr ⟨by rw [llead_ld (can_take hc 4) (by rw [ld_take4]; exact h), ld_take4], h⟩
  · have h4 : ld (toW z) = 4 := by have := ld_le (toW z); omega
    exact .inl ⟨(llead_neg hv).2 (by rw [ld_take4]; exact h4), h4⟩
theorem kunit_get (z : List Int) (j : Nat) : (kunit z).getD j 0 = z.getD j 0 * inv (gt z (llead (z.take 4))) % 31 := by
  unfold kunit
  rcases Nat.lt_or_ge j z.length with hj | hj
  · rw [List.getD_eq_getElem?_getD, List.getElem?_eq_getElem (by simpa using hj), List.getD_eq_getElem?_getD, List.getElem?_eq_getElem hj]; simp
  · rw [List.getD_eq_getElem?_getD, List.getElem?_eq_none (by simpa using hj), List.getD_eq_getElem?_getD, List.getElem?_eq_none hj]; simp
theorem toW_kunit {z : List Int} (hc : can z) (hl : ld (toW z) < 4) : toW (kunit z) = unitize (toW z) := by
  have e : llead (z.take 4) = (ld (toW z) : Int) := by rw [llead_ld (can_take hc 4) (by rw [ld_take4]; exact hl), ld_take4]
  funext j
  show toF ((kunit z).getD j 0) = finv (toF (z.getD (ld (toW z)) 0)) * toF (z.getD j 0)
  rw [finv_toF (can_get hc _), kunit_get, e, gt_nat, toF_mod, toF_mul]; grind
theorem getD_map {m : List (List Int)} {n : Nat} (hn : n < m.length) : (m.map toW).getD n zz = toW (m.getD n []) := by
  rw [List.getD_eq_getElem?_getD, List.getElem?_eq_getElem (by simpa using hn), List.getD_eq_getElem?_getD, List.getElem?_eq_getElem hn]; simp
theorem tail_at (n j : Nat) {x : F} : toF (if n = j then 1 else 0) = if 4 + j < 4 then x else if 4 + j = 4 + n then 1 else 0 := by
  by_cases h : n = j
  · subst h; rw [if_neg (by omega : ¬ 4 + n < 4), if_pos rfl, if_pos rfl]; rfl
  · rw [if_neg h, if_neg (by omega : ¬ 4 + j < 4), if_neg (by omega : ¬ 4 + j = 4 + n)]; rfl
theorem toW_augl {m : List (List Int)} {n : Nat} (h8 : n < 8) (hn : n < m.length) : toW (augl m n) = aug (m.map toW) n := by
  funext j
  unfold aug; rw [getD_map hn]
  rcases Nat.lt_or_ge j 12 with hj | hj
  · match j, hj with
    | 0, _ => exact (if_pos (by omega)).symm
    | 1, _ => exact (if_pos (by omega)).symm
    | 2, _ => exact (if_pos (by omega)).symm
    | 3, _ => exact (if_pos (by omega)).symm
    | 4, _ => exact tail_at n 0
    | 5, _ => exact tail_at n 1
    | 6, _ => exact tail_at n 2
    | 7, _ => exact tail_at n 3
    | 8, _ => exact tail_at n 4
    | 9, _ => exact tail_at n 5
    | 10, _ => exact tail_at n 6
    | 11, _ => exact tail_at n 7
  · rw [if_neg (by omega), if_neg (by omega)]
    show toF ((augl m n).getD j 0) = 0
    rw [List.getD_eq_getElem?_getD, List.getElem?_eq_none (by rw [augl_len]; exact hj)]; rfl
/-- what is true of the kept rows -/
theorem kspan_inv {m : List (List Int)} (hm : ∀ r ∈ m, vok r = true) (h8 : m.length ≤ 8) : ∀ n, n ≤ m.length →
    (∀ r ∈ (kspan m n).1, Good r) ∧ (kspan m n).1.map toW = kept (m.map toW) n ∧ (kspan m n).2 = (piv (m.map toW) n).map (fun (j : Nat) => (j : Int)) ∧ (kspan m n).1.length ≤ n ∧ (kspan m n).2.length = (kspan m n).1.length := by
  intro n
  induction n with
  | zero => intro _; exact ⟨by simp [kspan], rfl, rfl, Nat.le_refl _, rfl⟩
  | succ n ih =>
    intro hn; obtain ⟨h1, h2, h3, h4, h5⟩ := ih (by omega)
    have hz := kred_len h1 (augl_len m n)
    have hc : can (kred (kspan m n).1 (augl m n)) := can_kred (can_augl hm (by omega))
    have ew : toW (kred (kspan m n).1 (augl m n)) = red (kept (m.map toW) n) (aug (m.map toW) n) := by rw [toW_kred h1 (augl_len m n), h2, toW_augl (by omega) (by omega)]
    rw [kept_succ, piv_succ]
    show (∀ r ∈ (kpush (kspan m n) n (augl m n)).1, Good r) ∧ (kpush (kspan m n) n (augl m n)).1.map toW = _ ∧ (kpush (kspan m n) n (augl m n)).2 = _ ∧ (kpush (kspan m n) n (augl m n)).1.length ≤ n + 1 ∧ (kpush (kspan m n) n (augl m n)).2.length = (kpush (kspan m n) n (augl m n)).1.length
    unfold kpush push; rw [← ew]
    rcases lead_cases12 hz hc with ⟨hl, hd⟩ | ⟨hl, hd⟩
    · rw [if_pos hl, if_pos hd, if_neg (by omega)]
      exact ⟨h1, h2, by simpa using h3, by omega, h5⟩
    · rw [if_neg (by omega), if_neg (by omega), if_pos hd]
      have hg : Good (kunit (kred (kspan m n).1 (augl m n))) := ⟨kunit_len hz, can_kunit _, by rw [toW_kunit hc hd, unitize_ld]; exact hd⟩; refine ⟨fun r hr => ?_, by rw [List.map_append, h2, List.map_singleton, toW_kunit hc hd], by rw [h3]; simp, by simp; omega, by simp [h5]⟩
      rcases List.mem_append.1 hr with hr | hr
      · exact h1 r hr
      · simp at hr; subst hr; exact hg
theorem rdV {M : List S54} {i : Nat} (h : i < M.length) : rd_T54 M (i : Int) = M[i] := by
  unfold rd_T54; rw [Int.toNat_natCast, List.getD_eq_getElem?_getD, List.getElem?_eq_getElem h]; rfl
theorem map_l12_m12 {L : List (List Int)} (h : ∀ r ∈ L, Good r) : (L.map m12).map l12 = L := by
  rw [List.map_map]
  conv => rhs; rw [← List.map_id L]
  exact List.map_congr_left fun r hr => l12_m12 (h r hr).1
theorem goods_m12 {L : List (List Int)} (h : ∀ r ∈ L, Good r) : ∀ x ∈ L.map m12, Good (l12 x) := fun x hx => by
  obtain ⟨r, hr, rfl⟩ := List.mem_map.1 hx; rw [l12_m12 (h r hr).1]; exact h r hr
theorem kunit_m12 {z : List Int} : m12 (kunit z) = (⟨⟨z.getD 0 0 * inv (gt z (llead (z.take 4))) % 31, z.getD 1 0 * inv (gt z (llead (z.take 4))) % 31, z.getD 2 0 * inv (gt z (llead (z.take 4))) % 31, z.getD 3 0 * inv (gt z (llead (z.take 4))) % 31⟩, ⟨z.getD 4 0 * inv (gt z (llead (z.take 4))) % 31, z.getD 5 0 * inv (gt z (llead (z.take 4))) % 31, z.getD 6 0 * inv (gt z (llead (z.take 4))) % 31, z.getD 7 0 * inv (gt z (llead (z.take 4))) % 31, z.getD 8 0 * inv (gt z (llead (z.take 4))) % 31, z.getD 9 0 * inv (gt z (llead (z.take 4))) % 31, z.getD 10 0 * inv (gt z (llead (z.take 4))) % 31, z.getD 11 0 * inv (gt z (llead (z.take 4))) % 31⟩⟩ : S81) := by
  unfold m12; rw [kunit_get z 0, kunit_get z 1, kunit_get z 2, kunit_get z 3, kunit_get z 4, kunit_get z 5, kunit_get z 6, kunit_get z 7, kunit_get z 8, kunit_get z 9, kunit_get z 10, kunit_get z 11]
theorem span_l0_ev {m : List (List Int)} (hm : ∀ r ∈ m, vok r = true) (h8 : m.length ≤ 8) : ∀ (d i : Nat), i + d = m.length →
    Evp (fun k => impl_spanOf.l0 k (m.map toS) (((m.map toS).length : Nat) : Int) (i : Int) ((kspan m i).1.map m12) (kspan m i).2) (· = ((kspan m m.length).1.map m12, (kspan m m.length).2)) := by
  intro d
  induction d with
  | zero =>
    intro i hi; refine Evp.step (fun k => by rw [impl_spanOf.l0]) (Evp.neg (by simp; omega) (Evp.some' ?_)); rw [show i = m.length by omega]
  | succ d ih =>
    intro i hi
    have hi1 : i < m.length := by omega
    obtain ⟨h1, h2, h3, h4, h5⟩ := kspan_inv hm h8 i (by omega)
    have hz := kred_len h1 (augl_len m i)
    have hc : can (kred (kspan m i).1 (augl m i)) := can_kred (can_augl hm hi1)
    have ih := ih (i + 1) (by omega)
    refine Evp.step (fun k => by rw [impl_spanOf.l0]) (Evp.pos (by simp; omega) (Evp.pos (by omega) (Evp.pos (by simp; omega) ?_))); rw [rdV (by simpa using hi1)]
    have em : (m.map toS)[i]'(by simpa using hi1) = toS (m.getD i []) := by rw [List.getElem_map, List.getD_eq_getElem?_getD, List.getElem?_eq_getElem hi1]; rfl
    rw [em]; refine Evp.congr (fun k => pick8 (p := i) (by omega) (fun j => impl_spanOf.j1 k (i : Int) (m.map toS) (((m.map toS).length : Nat) : Int) (i : Int) ((kspan m i).1.map m12) (kspan m i).2 (toS (m.getD i [])).f0 (toS (m.getD i [])).f1 (toS (m.getD i [])).f2 (toS (m.getD i [])).f3 (if j = 0 then 1 else 0) (if j = 1 then 1 else 0) (if j = 2 then 1 else 0) (if j = 3 then 1 else 0) (if j = 4 then 1 else 0) (if j = 5 then 1 else 0) (if j = 6 then 1 else 0) (if j = 7 then 1 else 0)) none) ?_; refine Evp.step (fun k => by rw [impl_spanOf.j1]) ?_
    refine Evp.bind (Q := (· = T12 (kred (kspan m i).1 (augl m i)))) ?_ fun t ht => ?_
    · have := less_ev (goods_m12 h1) (by simp; omega) (kspan m i).2 (augl_len m i) (can_augl hm hi1)
      rw [map_l12_m12 h1] at this; exact this
    subst ht; generalize hzz : kred (kspan m i).1 (augl m i) = z at hz hc
    have e : impl_vector_lead.f (T12 z).1 (T12 z).2.1 (T12 z).2.2.1 (T12 z).2.2.2.1 = some (llead (z.take 4)) := by
      rw [← take4_four hz]; rfl
    simp only [e, Option.bind_some]; rw [show kspan m (i + 1) = kpush (kspan m i) i (augl m i) from rfl] at ih; unfold kpush at ih; rw [hzz, ← wrap_succ (by omega)] at ih
    rcases lead_cases12 hz hc with ⟨hl, hd⟩ | ⟨hl, hd⟩
    · rw [if_pos hl] at ih
      exact Evp.pos hl ih
    · rw [if_neg (by omega)] at ih
      refine Evp.neg (by omega) ?_; rw [hl]; refine Evp.congr (fun k => pick4 hd (fun j => (impl_element_inverse.f k (z.getD j 0)).bind fun t => impl_spanOf.j2 k (i : Int) t (m.map toS) (((m.map toS).length : Nat) : Int) (i : Int) ((kspan m i).1.map m12) (kspan m i).2 (z.getD 0 0) (z.getD 1 0) (z.getD 2 0) (z.getD 3 0) (z.getD 4 0) (z.getD 5 0) (z.getD 6 0) (z.getD 7 0) (z.getD 8 0) (z.getD 9 0) (z.getD 10 0) (z.getD 11 0)) none) ?_
      have hne : z.getD (ld (toW z)) 0 ≠ 0 := fun e0 => ld_at hd (by show toF (z.getD (ld (toW z)) 0) = 0; rw [e0]; rfl)
      refine Evp.bind (impl_inverse_ev (can_get hc _) hne) fun c hcc => ?_
      subst hcc; refine span_j2_ev (by simp; omega) (by omega) (ok_iff.2 (inv_range _)) (can_get hc 0) (can_get hc 1) (can_get hc 2) (can_get hc 3) (can_get hc 4) (can_get hc 5) (can_get hc 6) (can_get hc 7) (can_get hc 8) (can_get hc 9) (can_get hc 10) (can_get hc 11) ?_; rw [List.map_append, List.map_singleton, kunit_m12, hl, gt_nat] at ih; exact ih
theorem spanOf_ev {m : List (List Int)} (hm : ∀ r ∈ m, vok r = true) (h8 : m.length ≤ 8) : Evp (fun k => impl_spanOf.f k (m.map toS)) (· = ((kspan m m.length).1.map m12, (kspan m m.length).2)) := span_l0_ev hm h8 m.length 0 (by omega)
theorem impl_shardOk_eq (k : Int) : impl_shardOk.f k = some (lshard k) := by
  unfold impl_shardOk.f impl_within.f lshard
  by_cases h : k ≥ 0
  · rw [if_pos h]; simp [show (0 ≤ k) from h]
  · rw [if_neg h]; simp [show ¬ (0 ≤ k) from h]
theorem impl_rowOf_eq {k a : Int} (hk : lkind k = true) (ha : lshard a = true) : ∃ r0 r1 r2 r3, lrow k a = [r0, r1, r2, r3] ∧ impl_rowOf.f k a = some (r0, r1, r2, r3) := by
  have e : ∀ k : Int, k = 1 ∨ k = 2 → ∀ a : Fin 8, impl_rowOf.f k (a.val : Int) = some ((lrow k (a.val : Int)).getD 0 0, (lrow k (a.val : Int)).getD 1 0, (lrow k (a.val : Int)).getD 2 0, (lrow k (a.val : Int)).getD 3 0) := by
    intro k h
    rcases h with rfl | rfl
    · decide +kernel
    · decide +kernel
  obtain ⟨r0, r1, r2, r3, h, _⟩ := vok_four (lrow_ok hk ha); refine ⟨r0, r1, r2, r3, h, ?_⟩; obtain ⟨x, rfl⟩ := lshard_fin ha; rw [e k (lkind_cases hk) x, h]; rfl
theorem impl_rowsOf_ev {kind : Int} (hk : lkind kind = true) {l : List Int} (hl : ∀ x ∈ l, lshard x = true) (hn : l.length ≤ 1000000) : Evp (fun k => impl_rowsOf.f k kind l) (· = (l.map (lrow kind)).map toS) := by
  have key : ∀ (d i : Nat), i + d = l.length → ∀ out, out.length ≤ i → Evp (fun k => impl_rowsOf.l0 k kind out l (l.length : Int) (i : Int)) (· = out ++ ((l.drop i).map (lrow kind)).map toS) := by
    intro d
    induction d with
    | zero =>
      intro i hi out ho; refine Evp.step (fun k => by rw [impl_rowsOf.l0]) (Evp.neg (by omega) (Evp.some' ?_)); rw [List.drop_eq_nil_of_le (by omega)]; simp
    | succ d ih =>
      intro i hi out ho
      have hi1 : i < l.length := by omega
      refine Evp.step (fun k => by rw [impl_rowsOf.l0]) (Evp.pos (by omega) (Evp.pos (by omega) (Evp.pos (by omega) ?_))); obtain ⟨r0, r1, r2, r3, e1, e2⟩ := impl_rowOf_eq hk (hl _ (List.getElem_mem hi1)); rw [rd_nat, getD_get hi1, e2, wrap_succ (by omega), List.drop_eq_getElem_cons hi1]; simp only [Option.bind_some]; refine Evp.pos (by omega) ?_
      refine (ih (i + 1) (by omega) _ (by simp; omega)).mono fun r hr => ?_
      rw [hr, List.map_cons, List.map_cons, e1]; simp [toS]
  unfold impl_rowsOf.f; refine Evp.pos (by omega) (Evp.pos (by omega) ?_)
  exact (key l.length 0 (by omega) [] (by simp)).mono fun r hr => hr
theorem by_l0_ev {z0 z1 z2 z3 z4 z5 z6 z7 z8 z9 z10 z11 : Int} (hz4 : ok z4 = true) (hz5 : ok z5 = true) (hz6 : ok z6 = true) (hz7 : ok z7 = true) (hz8 : ok z8 = true) (hz9 : ok z9 = true) (hz10 : ok z10 = true) (hz11 : ok z11 = true) : Evp (fun k => impl_span_by.l0 k 0 z0 z1 z2 z3 z4 z5 z6 z7 z8 z9 z10 z11) (· = (((-z4) % 31), ((-z5) % 31), ((-z6) % 31), ((-z7) % 31), ((-z8) % 31), ((-z9) % 31), ((-z10) % 31), ((-z11) % 31), (z0 == 0 && (z1 == 0 && (z2 == 0 && (z3 == 0)))))) := by
  rw [ok_iff] at hz4 hz5 hz6 hz7 hz8 hz9 hz10 hz11; refine Evp.step (f := fun k => impl_span_by.l0 k 1 z0 z1 z2 z3 ((-z4) % 31) z5 z6 z7 z8 z9 z10 z11) (fun k => by rw [impl_span_by.l0, if_pos (by decide), if_pos rfl, Go.Proofs.Ytfgpffocieegdaa.Pure.wrap_small (x := -z4) (by omega), elementOf_eq (by omega), Option.bind_some, (by unfold wrap64; omega : wrap64 ((0 : Int) + 1) = 1)]) ?_; refine Evp.step (f := fun k => impl_span_by.l0 k 2 z0 z1 z2 z3 ((-z4) % 31) ((-z5) % 31) z6 z7 z8 z9 z10 z11) (fun k => by rw [impl_span_by.l0, if_pos (by decide), if_neg (by decide), if_pos rfl, Go.Proofs.Ytfgpffocieegdaa.Pure.wrap_small (x := -z5) (by omega), elementOf_eq (by omega), Option.bind_some, (by unfold wrap64; omega : wrap64 ((1 : Int) + 1) = 2)]) ?_; refine Evp.step (f := fun k => impl_span_by.l0 k 3 z0 z1 z2 z3 ((-z4) % 31) ((-z5) % 31) ((-z6) % 31) z7 z8 z9 z10 z11) (fun k => by rw [impl_span_by.l0, if_pos (by decide), if_neg (by decide), if_neg (by decide), if_pos rfl, Go.Proofs.Ytfgpffocieegdaa.Pure.wrap_small (x := -z6) (by omega), elementOf_eq (by omega), Option.bind_some, (by unfold wrap64; omega : wrap64 ((2 : Int) + 1) = 3)]) ?_; refine Evp.step (f := fun k => impl_span_by.l0 k 4 z0 z1 z2 z3 ((-z4) % 31) ((-z5) % 31) ((-z6) % 31) ((-z7) % 31) z8 z9 z10 z11) (fun k => by rw [impl_span_by.l0, if_pos (by decide), if_neg (by decide), if_neg (by decide), if_neg (by decide), if_pos rfl, Go.Proofs.Ytfgpffocieegdaa.Pure.wrap_small (x := -z7) (by omega), elementOf_eq (by omega), Option.bind_some, (by unfold wrap64; omega : wrap64 ((3 : Int) + 1) = 4)]) ?_; refine Evp.step (f := fun k => impl_span_by.l0 k 5 z0 z1 z2 z3 ((-z4) % 31) ((-z5) % 31) ((-z6) % 31) ((-z7) % 31) ((-z8) % 31) z9 z10 z11) (fun k => by rw [impl_span_by.l0, if_pos (by decide), if_neg (by decide), if_neg (by decide), if_neg (by decide), if_neg (by decide), if_pos rfl, Go.Proofs.Ytfgpffocieegdaa.Pure.wrap_small (x := -z8) (by omega), elementOf_eq (by omega), Option.bind_some, (by unfold wrap64; omega : wrap64 ((4 : Int) + 1) = 5)]) ?_; refine Evp.step (f := fun k => impl_span_by.l0 k 6 z0 z1 z2 z3 ((-z4) % 31) ((-z5) % 31) ((-z6) % 31) ((-z7) % 31) ((-z8) % 31) ((-z9) % 31) z10 z11) (fun k => by rw [impl_span_by.l0, if_pos (by decide), if_neg (by decide), if_neg (by decide), if_neg (by decide), if_neg (by decide), if_neg (by decide), if_pos rfl, Go.Proofs.Ytfgpffocieegdaa.Pure.wrap_small (x := -z9) (by omega), elementOf_eq (by omega), Option.bind_some, (by unfold wrap64; omega : wrap64 ((5 : Int) + 1) = 6)]) ?_; refine Evp.step (f := fun k => impl_span_by.l0 k 7 z0 z1 z2 z3 ((-z4) % 31) ((-z5) % 31) ((-z6) % 31) ((-z7) % 31) ((-z8) % 31) ((-z9) % 31) ((-z10) % 31) z11) (fun k => by rw [impl_span_by.l0, if_pos (by decide), if_neg (by decide), if_neg (by decide), if_neg (by decide), if_neg (by decide), if_neg (by decide), if_neg (by decide), if_pos rfl, Go.Proofs.Ytfgpffocieegdaa.Pure.wrap_small (x := -z10) (by omega), elementOf_eq (by omega), Option.bind_some, (by unfold wrap64; omega : wrap64 ((6 : Int) + 1) = 7)]) ?_; refine Evp.step (f := fun k => impl_span_by.l0 k 8 z0 z1 z2 z3 ((-z4) % 31) ((-z5) % 31) ((-z6) % 31) ((-z7) % 31) ((-z8) % 31) ((-z9) % 31) ((-z10) % 31) ((-z11) % 31)) (fun k => by rw [impl_span_by.l0, if_pos (by decide), if_neg (by decide), if_neg (by decide), if_neg (by decide), if_neg (by decide), if_neg (by decide), if_neg (by decide), if_neg (by decide), if_pos rfl, Go.Proofs.Ytfgpffocieegdaa.Pure.wrap_small (x := -z11) (by omega), elementOf_eq (by omega), Option.bind_some, (by unfold wrap64; omega : wrap64 ((7 : Int) + 1) = 8)]) ?_; exact Evp.step (f := fun k => some _) (fun k => by rw [impl_span_by.l0, if_neg (by decide)]) (Evp.some' rfl)
/-- how often each, as the program tells it -/
def coefs (m : List (List Int)) (v : List Int) : List Int := (List.range m.length).map fun j => (-(kred (kspan m m.length).1 (v ++ [0, 0, 0, 0, 0, 0, 0, 0])).getD (4 + j) 0) % 31
theorem impl_by_ev {L : List (List Int)} (hL : ∀ r ∈ L, Good r) (hn : L.length ≤ 1000000) (P : List Int) {v : List Int} (hv : vok v = true) {z : List Int} (hz : kred L (v ++ [0, 0, 0, 0, 0, 0, 0, 0]) = z) :
    Evp (fun k => impl_span_by.f k (L.map m12) P (v.getD 0 0) (v.getD 1 0) (v.getD 2 0) (v.getD 3 0)) (· = ((-(z.getD 4 0)) % 31, (-(z.getD 5 0)) % 31, (-(z.getD 6 0)) % 31, (-(z.getD 7 0)) % 31, (-(z.getD 8 0)) % 31, (-(z.getD 9 0)) % 31, (-(z.getD 10 0)) % 31, (-(z.getD 11 0)) % 31, (z.getD 0 0 == 0 && (z.getD 1 0 == 0 && (z.getD 2 0 == 0 && (z.getD 3 0 == 0)))))) := by
  obtain ⟨a, b, c, d, rfl, ha, hb, hc, hd⟩ := vok_four hv
  have h12 : ([a, b, c, d] ++ [0, 0, 0, 0, 0, 0, 0, 0] : List Int).length = 12 := rfl
  have hcan : can ([a, b, c, d] ++ [0, 0, 0, 0, 0, 0, 0, 0]) := fun x hx => by
    simp only [List.cons_append, List.nil_append, List.mem_cons, List.not_mem_nil, or_false] at hx
    rcases hx with rfl | rfl | rfl | rfl | rfl | rfl | rfl | rfl | rfl | rfl | rfl | rfl <;> first | assumption | decide
  have hcz : can z := hz ▸ can_kred hcan; unfold impl_span_by.f
  refine Evp.bind (Q := (· = T12 z)) ?_ fun t ht => ?_
  · have := less_ev (goods_m12 hL) (by simp; omega) P h12 hcan
    rw [map_l12_m12 hL, hz] at this; exact this
  subst ht; exact by_l0_ev (can_get hcz 4) (can_get hcz 5) (can_get hcz 6) (can_get hcz 7) (can_get hcz 8) (can_get hcz 9) (can_get hcz 10) (can_get hcz 11)
theorem range_take (f : Nat → Int) {n : Nat} (hn : n ≤ 8) : ([f 0, f 1, f 2, f 3, f 4, f 5, f 6, f 7] : List Int).take n = (List.range n).map f := by
  match n, hn with
  | 0, _ => rfl
  | 1, _ => rfl
  | 2, _ => rfl
  | 3, _ => rfl
  | 4, _ => rfl
  | 5, _ => rfl
  | 6, _ => rfl
  | 7, _ => rfl
  | 8, _ => rfl
theorem toW_zeros {v : List Int} (hv : vok v = true) : toW (v ++ [0, 0, 0, 0, 0, 0, 0, 0]) = toW v := by
  obtain ⟨a, b, c, d, rfl, _⟩ := vok_four hv
  funext j
  show toF _ = toF _
  congr 1
  rcases Nat.lt_or_ge j 12 with hj | hj
  · match j, hj with
    | 0, _ => rfl
    | 1, _ => rfl
    | 2, _ => rfl
    | 3, _ => rfl
    | 4, _ => rfl
    | 5, _ => rfl
    | 6, _ => rfl
    | 7, _ => rfl
    | 8, _ => rfl
    | 9, _ => rfl
    | 10, _ => rfl
    | 11, _ => rfl
  · rw [List.getD_eq_getElem?_getD, List.getElem?_eq_none (by simp; omega), List.getD_eq_getElem?_getD, List.getElem?_eq_none (by simp; omega)]
/-- what is left of a row is 0 just if it is made of the rows -/
theorem left_zero {m : List (List Int)} (hm : ∀ r ∈ m, vok r = true) (h8 : m.length ≤ 8) {v : List Int} (hv : vok v = true) {z : List Int} (hz : kred (kspan m m.length).1 (v ++ [0, 0, 0, 0, 0, 0, 0, 0]) = z) :
    (z.getD 0 0 == 0 && (z.getD 1 0 == 0 && (z.getD 2 0 == 0 && (z.getD 3 0 == 0)))) = lhas m v ∧ toW z = red (kept (m.map toW) m.length) (toW v) ∧ can z := by
  obtain ⟨h1, h2, h3, h4, h5⟩ := kspan_inv hm h8 m.length (Nat.le_refl _)
  have h12 : (v ++ [0, 0, 0, 0, 0, 0, 0, 0]).length = 12 := by rw [List.length_append, (vok_iff.1 hv).1]; rfl
  have hcan : can (v ++ [0, 0, 0, 0, 0, 0, 0, 0]) := fun x hx => by
    rcases List.mem_append.1 hx with h | h
    · exact (vok_iff.1 hv).2 x h
    · simp at h; subst h; decide
  have ew : toW z = red (kept (m.map toW) m.length) (toW v) := by rw [← hz, toW_kred h1 h12, h2, toW_zeros hv]
  have hc : can z := hz ▸ can_kred hcan; refine ⟨?_, ew, hc⟩
  have hb := (by_kept (toW_fours hm) (toW_four (vok_iff.1 hv).1)).1
  rw [List.length_map, ← ew] at hb; rw [Bool.eq_iff_iff, lhas_iff hm hv, ← hb, ld_four_iff]; simp only [Bool.and_eq_true, beq_iff_eq]
  constructor
  · rintro ⟨e0, e1, e2, e3⟩ i hi
    match i, hi with
    | 0, _ => exact (toW_zero_iff hc 0).2 e0
    | 1, _ => exact (toW_zero_iff hc 1).2 e1
    | 2, _ => exact (toW_zero_iff hc 2).2 e2
    | 3, _ => exact (toW_zero_iff hc 3).2 e3
  · intro h
    exact ⟨(toW_zero_iff hc 0).1 (h 0 (by omega)), (toW_zero_iff hc 1).1 (h 1 (by omega)), (toW_zero_iff hc 2).1 (h 2 (by omega)), (toW_zero_iff hc 3).1 (h 3 (by omega))⟩
theorem within_eq (a lo hi : Int) : impl_within.f a lo hi = some (decide (lo ≤ a) && decide (a ≤ hi)) := by
  unfold impl_within.f
  by_cases h : a ≥ lo
  · rw [if_pos h]; simp; omega
  · rw [if_neg h]; simp; omega
theorem and_of {a lo hi : Int} (h : lo ≤ a ∧ a ≤ hi) : (decide (lo ≤ a) && decide (a ≤ hi)) = true := by rw [Bool.and_eq_true, decide_eq_true_eq, decide_eq_true_eq]; exact h
theorem of_and {a lo hi : Int} (h : (decide (lo ≤ a) && decide (a ≤ hi)) = true) : lo ≤ a ∧ a ≤ hi := by rw [Bool.and_eq_true, decide_eq_true_eq, decide_eq_true_eq] at h; exact h
/-- a shard of a plan is one, is not the lost one, and stands behind the one ahead -/
def FromOk (lost : Int) (fr : List Int) (i : Nat) : Prop := (0 ≤ fr.getD i 0 ∧ fr.getD i 0 ≤ 7) ∧ fr.getD i 0 ≠ lost ∧ (0 < i → fr.getD (i - 1) 0 < fr.getD i 0)
def ByOk (bs : List Int) (i : Nat) : Prop := 1 ≤ bs.getD i 0 ∧ bs.getD i 0 ≤ 30
def Form (lost : Int) (fr bs : List Int) : Prop := (0 ≤ lost ∧ lost ≤ 7) ∧ (1 ≤ fr.length ∧ fr.length ≤ 4) ∧ bs.length = fr.length ∧ ∀ i, i < fr.length → FromOk lost fr i ∧ ByOk bs i
theorem wrap_pred {i : Nat} (h : 0 < i) (h2 : i ≤ 1000000000000) : wrap64 ((i : Int) - 1) = ((i - 1 : Nat) : Int) := by rw [wrap_small (by omega)]; omega
theorem all_step {Q : Nat → Prop} {i n : Nat} (hi : i < n) (hq : Q i) {r : Bool} (h : r = true ↔ ∀ j, i + 1 ≤ j → j < n → Q j) : r = true ↔ ∀ j, i ≤ j → j < n → Q j := by
  rw [h]
  constructor
  · intro g j h1 h2
    rcases Nat.lt_or_ge i j with c | c
    · exact g j c h2
    · rw [show j = i by omega]; exact hq
  · intro g j h1 h2; exact g j (by omega) h2
theorem all_not {Q : Nat → Prop} {i n : Nat} (hi : i < n) (hq : ¬ Q i) : (false = true) ↔ ∀ j, i ≤ j → j < n → Q j :=
  ⟨fun h => by simp at h, fun g => absurd (g i (Nat.le_refl _) hi) hq⟩
theorem formed_l0 {lost : Int} {fr bs : List Int} (hl : bs.length = fr.length) (hn : fr.length ≤ 2000000) : ∀ d i, i + d = fr.length → Evp (fun k => impl_Plan_formed.l0 k fr (fr.length : Int) (i : Int) lost fr bs) (fun r => r = true ↔ ∀ j, i ≤ j → j < fr.length → FromOk lost fr j ∧ ByOk bs j) := by
  intro d
  induction d with
  | zero =>
    intro i hi; exact Evp.step (fun k => by rw [impl_Plan_formed.l0]) (Evp.neg (by omega) (Evp.some' ⟨fun _ j h1 h2 => by omega, fun _ => rfl⟩))
  | succ d ih =>
    intro i hi
    have hi1 : i < fr.length := by omega
    refine Evp.step (fun k => by rw [impl_Plan_formed.l0]) (Evp.pos (by omega) (Evp.pos (by omega) (Evp.pos (by omega) ?_))); rw [rd_nat, impl_shardOk_eq]; simp only [Option.bind_some]
    have inner : FromOk lost fr i → Evp (fun k => if (i : Int) < (bs.length : Int) then ((impl_within.f (rd bs (i : Int)) 1 30).bind fun t => if t = true then impl_Plan_formed.l0 k fr (fr.length : Int) (wrap64 ((i : Int) + 1)) lost fr bs else some false) else none) (fun r => r = true ↔ ∀ j, i ≤ j → j < fr.length → FromOk lost fr j ∧ ByOk bs j) := fun hf => by
      refine Evp.pos (by omega) ?_; rw [rd_nat, within_eq, wrap_succ (by omega)]; simp only [Option.bind_some]
      refine Evp.ite (fun h => ?_) fun h => Evp.some' (all_not hi1 fun g => h (and_of g.2))
      have hb : ByOk bs i := of_and h
      exact (ih (i + 1) (by omega)).mono fun r hr => all_step hi1 ⟨hf, hb⟩ hr
    refine Evp.ite (fun hs => ?_) fun hs => Evp.some' (all_not hi1 fun g => hs (and_of g.1.1))
    have hs' : 0 ≤ fr.getD i 0 ∧ fr.getD i 0 ≤ 7 := of_and hs
    refine Evp.ite (fun he => Evp.some' (all_not hi1 fun g => g.1.2.1 he)) fun he => ?_
    refine Evp.ite (fun h0 => ?_) fun h0 => inner ⟨hs', he, fun h => absurd h (by omega)⟩
    rw [wrap_pred (by omega) (by omega)]; refine Evp.pos (by omega) (Evp.pos (by omega) ?_); rw [rd_nat]
    refine Evp.ite (fun hg => Evp.some' (all_not hi1 fun g => by have := g.1.2.2 (by omega); omega)) fun hg => inner ⟨hs', he, fun _ => by omega⟩
theorem formed_ev {lost : Int} {fr bs : List Int} : Evp (fun k => impl_Plan_formed.f k lost fr bs) (fun r => r = true ↔ Form lost fr bs) := by
  have no : ¬ Form lost fr bs → Evp (fun k => impl_Plan_formed.j0 k true lost fr bs) (fun r => r = true ↔ Form lost fr bs) := fun h => Evp.step (fun k => by rw [impl_Plan_formed.j0]) (Evp.pos rfl (Evp.some' ⟨fun g => by simp at g, fun g => absurd g h⟩))
  unfold impl_Plan_formed.f; rw [impl_shardOk_eq, within_eq]; simp only [Option.bind_some]
  refine Evp.ite (fun hs => ?_) fun hs => no fun g => hs (and_of g.1)
  refine Evp.ite (fun hn => ?_) fun hn => no fun g => hn (by have := g.2.1; simp; omega)
  have hs' : 0 ≤ lost ∧ lost ≤ 7 := of_and hs
  have hn' : 1 ≤ fr.length ∧ fr.length ≤ 4 := by simp at hn; omega
  by_cases hl : bs.length = fr.length
  · rw [show ((bs.length : Int) != (fr.length : Int)) = false by rw [hl]; simp]
    refine Evp.step (fun k => by rw [impl_Plan_formed.j0]) (Evp.neg (by simp) ?_)
    refine (formed_l0 hl (by omega) fr.length 0 (by omega)).mono fun r hr => ?_
    rw [hr]; exact ⟨fun g => ⟨hs', hn', hl, fun i hi => g i (by omega) hi⟩, fun g j _ hj => g.2.2.2 j hj⟩
  · rw [show ((bs.length : Int) != (fr.length : Int)) = true by simp; omega]
    exact no fun g => hl g.2.2.1
def formB (lost : Int) (fr bs : List Int) : Bool :=
  decide (0 ≤ lost ∧ lost ≤ 7) && (decide (1 ≤ fr.length ∧ fr.length ≤ 4) && (decide (bs.length = fr.length) && (List.range fr.length).all fun i => decide (((0 ≤ fr.getD i 0 ∧ fr.getD i 0 ≤ 7) ∧ fr.getD i 0 ≠ lost ∧ (0 < i → fr.getD (i - 1) 0 < fr.getD i 0)) ∧ 1 ≤ bs.getD i 0 ∧ bs.getD i 0 ≤ 30)))
theorem formB_iff {lost : Int} {fr bs : List Int} : formB lost fr bs = true ↔ Form lost fr bs := by
  unfold formB Form FromOk ByOk; rw [Bool.and_eq_true, Bool.and_eq_true, Bool.and_eq_true, decide_eq_true_eq, decide_eq_true_eq, decide_eq_true_eq, List.all_eq_true]
  constructor
  · rintro ⟨h1, h2, h3, h4⟩
    exact ⟨h1, h2, h3, fun i hi => of_decide_eq_true (h4 i (List.mem_range.2 hi))⟩
  · rintro ⟨h1, h2, h3, h4⟩
    exact ⟨h1, h2, h3, fun i hi => decide_eq_true (h4 i (List.mem_range.1 hi))⟩
/-- how often each of a set makes the lost one's row -/
def pBy (kind lost : Int) (xs : List Int) : List Int := coefs (xs.map (lrow kind)) (lrow kind lost)
/-- whether the program takes a set -/
def pOk (kind lost : Int) (xs : List Int) : Bool := lhas (xs.map (lrow kind)) (lrow kind lost) && formB lost xs (pBy kind lost xs)
theorem rows_vok {kind : Int} (hk : lkind kind = true) {xs : List Int} (hx : ∀ x ∈ xs, lshard x = true) : ∀ r ∈ xs.map (lrow kind), vok r = true := fun r hr => by
  obtain ⟨x, hm, rfl⟩ := List.mem_map.1 hr; exact lrow_ok hk (hx x hm)
theorem planBy_ev {kind lost : Int} (hk : lkind kind = true) (hl : lshard lost = true) {xs : List Int} (hx : ∀ x ∈ xs, lshard x = true) (h8 : xs.length ≤ 8) : Evp (fun k => impl_planBy.f k kind lost xs) (· = (pBy kind lost xs, pOk kind lost xs)) := by
  have hm := rows_vok hk hx
  have h8' : (xs.map (lrow kind)).length ≤ 8 := by rw [List.length_map]; exact h8
  have hv : vok (lrow kind lost) = true := lrow_ok hk hl; unfold impl_planBy.f; refine Evp.pos h8 ?_
  refine Evp.bind (impl_rowsOf_ev hk hx (by omega)) fun t ht => ?_
  subst ht
  refine Evp.bind (spanOf_ev hm h8') fun t ht => ?_
  subst ht; obtain ⟨r0, r1, r2, r3, er, e3⟩ := impl_rowOf_eq hk hl; simp only [e3, Option.bind_some]; obtain ⟨h1, h2, h3, h4, h5⟩ := kspan_inv hm h8' (xs.map (lrow kind)).length (Nat.le_refl _); obtain ⟨e1, _, _⟩ := left_zero hm h8' hv rfl
  have hb := impl_by_ev h1 (by omega) (kspan (xs.map (lrow kind)) (xs.map (lrow kind)).length).2 hv rfl
  have hby : pBy kind lost xs = (List.range xs.length).map fun j => (-(kred (kspan (xs.map (lrow kind)) (xs.map (lrow kind)).length).1 (lrow kind lost ++ [0, 0, 0, 0, 0, 0, 0, 0])).getD (4 + j) 0) % 31 := by unfold pBy coefs; rw [List.length_map]
  rw [show (lrow kind lost).getD 0 0 = r0 by rw [er]; rfl, show (lrow kind lost).getD 1 0 = r1 by rw [er]; rfl, show (lrow kind lost).getD 2 0 = r2 by rw [er]; rfl, show (lrow kind lost).getD 3 0 = r3 by rw [er]; rfl, e1] at hb
  refine Evp.bind hb fun t ht => ?_
  subst ht; generalize kred (kspan (xs.map (lrow kind)) (xs.map (lrow kind)).length).1 (lrow kind lost ++ [0, 0, 0, 0, 0, 0, 0, 0]) = z at hby
  have e : impl_planBy.bys xs.length (-(z.getD 4 0) % 31) (-(z.getD 5 0) % 31) (-(z.getD 6 0) % 31) (-(z.getD 7 0) % 31) (-(z.getD 8 0) % 31) (-(z.getD 9 0) % 31) (-(z.getD 10 0) % 31) (-(z.getD 11 0) % 31) = pBy kind lost xs := by
    rw [hby]; exact range_take (fun j => (-(z.getD (4 + j) 0)) % 31) h8
  simp only [e]
  refine Evp.ite (fun h => ?_) fun h => Evp.some' ?_
  · refine Evp.bind formed_ev fun t ht => Evp.some' ?_
    have ht' : t = formB lost xs (pBy kind lost xs) := by rw [Bool.eq_iff_iff, ht, formB_iff]
    unfold pOk; rw [h, ht']; rfl
  · unfold pOk; rw [Bool.eq_false_iff.2 h]; rfl
/-- the plan of a set -/
def planRes (kind lost : Int) : Option (List Int) → Int × List Int × List Int × Bool
  | none => (0, [], [], false)
  | some ys => (lost, ys, pBy kind lost ys, true)
end Go.Proofs.Ytfgpffocieegdaa.Pure
