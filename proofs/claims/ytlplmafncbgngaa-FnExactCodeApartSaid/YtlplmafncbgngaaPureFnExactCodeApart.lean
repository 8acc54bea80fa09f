import Derived.Test.YtlplmafncbgngaaPAx0
import Derived.Test.YtlplmafncbgngaaPAx10
import Derived.Test.YtlplmafncbgngaaPAx2
import Derived.Test.YtlplmafncbgngaaPAx21
import Derived.Test.YtlplmafncbgngaaPAx3
import Derived.Test.YtlplmafncbgngaaPAx4
import Derived.Test.YtlplmafncbgngaaPAx5
import Derived.Test.YtlplmafncbgngaaPAx6
import Derived.Test.YtlplmafncbgngaaMa
import Derived.Test.YtlplmafncbgngaaCodeLin
import Derived.Test.YtlplmafncbgngaaCa
import Derived.OpenShut
/- Of the printed functions over single rows: what a walk by hand wants of them. -/
set_option linter.unusedVariables false
set_option linter.unusedSimpArgs false
namespace Go.Proofs.Ytlplmafncbgngaa.Pure
open Go.RowKit Go.Proofs.Ytlplmafncbgngaa.PA Go.Proofs.YtlplmafncbgngaaW.PrintWords Go.Proofs.YtlplmafncbgngaaW.PrintLast Go.Proofs.YtlplmafncbgngaaW.PrintMore Go.Proofs.Ytlplmafncbgngaa.Lin

def Evp {α : Type} (g : Nat → Option α) (Q : α → Prop) : Prop := ∃ r, Q r ∧ ∃ K, ∀ k, K ≤ k → g k = some r
theorem Evp.some' {α : Type} {r : α} {Q : α → Prop} (h : Q r) : Evp (fun _ => some r) Q := ⟨r, h, 0, fun _ _ => rfl⟩
theorem Evp.bind {α β : Type} {g : Nat → Option α} {f : Nat → α → Option β} {Q : α → Prop} {T : β → Prop} (h : Evp g Q) (k : ∀ r, Q r → Evp (fun n => f n r) T) : Evp (fun n => (g n).bind (f n)) T := by
  obtain ⟨r, hq, K, h⟩ := h
  obtain ⟨s, ht, K', k⟩ := k r hq
  refine ⟨s, ht, max K K', fun n hn => ?_⟩
  have h1 := h n (by omega)
  have h2 := k n (by omega)
  simp only [h1, Option.bind_some]
  exact h2
theorem Evp.step {α : Type} {g f : Nat → Option α} {Q : α → Prop} (h : ∀ k, g (k + 1) = f k) (k : Evp f Q) : Evp g Q := by
  obtain ⟨r, hq, K, k⟩ := k
  refine ⟨r, hq, K + 1, fun n hn => ?_⟩
  obtain ⟨m, rfl⟩ : ∃ m, n = m + 1 := ⟨n - 1, by omega⟩
  rw [h]
  exact k m (by omega)
theorem Evp.mono {α : Type} {g : Nat → Option α} {Q T : α → Prop} (h : Evp g Q) (k : ∀ r, Q r → T r) : Evp g T := by
  obtain ⟨r, hq, K, h⟩ := h
  exact ⟨r, k r hq, K, h⟩
theorem Evp.rounds {α : Type} {g : Nat → Option α} {r : α} (h : Evp g (· = r)) : ∃ k, g k = some r := by
  obtain ⟨s, rfl, K, h⟩ := h
  exact ⟨K, h K (Nat.le_refl _)⟩
theorem Evp.ite {α : Type} {c : Prop} [Decidable c] {g f : Nat → Option α} {Q : α → Prop} (h : c → Evp g Q) (k : ¬ c → Evp f Q) : Evp (fun n => if c then g n else f n) Q := by
  by_cases hc : c
  · simp only [if_pos hc]; exact h hc
  · simp only [if_neg hc]; exact k hc
theorem Evp.pos {α : Type} {c : Prop} [Decidable c] {g f : Nat → Option α} {Q : α → Prop} (hc : c) (h : Evp g Q) : Evp (fun n => if c then g n else f n) Q := by
  simp only [if_pos hc]; exact h
theorem Evp.neg {α : Type} {c : Prop} [Decidable c] {g f : Nat → Option α} {Q : α → Prop} (hc : ¬ c) (h : Evp f Q) : Evp (fun n => if c then g n else f n) Q := by
  simp only [if_neg hc]; exact h
theorem wrap_small {x : Int} (h : -9223372036854775808 ≤ x ∧ x ≤ 9223372036854775807) : wrap64 x = x := by unfold wrap64; omega
theorem tmod31 {x : Int} (h : 0 ≤ x) : Int.tmod x 31 = x % 31 := Int.tmod_eq_emod_of_nonneg h
theorem spec_FieldOk_eq (a : Int) : spec_FieldOk.f a = some (ok a) := by
  unfold spec_FieldOk.f spec_l6In.f ok
  by_cases h : a ≥ 0
  · rw [if_pos h]; simp [show (a ≤ 30) = (a < 31) by rw [eq_iff_iff]; omega, h]
  · rw [if_neg h]; simp [h]
theorem mul_small {a b : Int} (ha : ok a = true) (hb : ok b = true) : 0 ≤ a * b ∧ a * b ≤ 900 := by
  rw [ok_iff] at ha hb
  constructor
  · exact Int.mul_nonneg ha.1 hb.1
  · have h1 : a * b ≤ a * 30 := Int.mul_le_mul_of_nonneg_left (by omega) ha.1
    omega
theorem rd_nat (l : List Int) (i : Nat) : rd l (i : Int) = l.getD i 0 := by unfold rd; rw [Int.toNat_natCast]
theorem getD_get {l : List Int} {i : Nat} (h : i < l.length) : l.getD i 0 = l[i] := by rw [List.getD_eq_getElem?_getD, List.getElem?_eq_getElem h]; rfl
theorem wrap_succ {i : Nat} (h : i ≤ 1000000000000000) : wrap64 ((i : Int) + 1) = ((i + 1 : Nat) : Int) := by rw [wrap_small (by omega)]; omega
theorem spec_VecOk_ev {l : List Int} (hl : l.length ≤ 1000000000000) : Evp (fun k => spec_VecOk.f k l) (· = vok l) := by
  have key : ∀ d i, i + d = l.length → Evp (fun k => spec_VecOk.l0 k l (i : Int)) (· = ((l.drop i).all ok && (l.length == 4))) := by
    intro d
    induction d with
    | zero =>
      intro i hi
      refine Evp.step (fun k => by rw [spec_VecOk.l0]) ?_
      refine Evp.neg (by omega) ?_
      refine Evp.some' ?_
      rw [List.drop_eq_nil_of_le (by omega), Bool.eq_iff_iff, beq_iff_eq]; simp; omega
    | succ d ih =>
      intro i hi
      refine Evp.step (fun k => by rw [spec_VecOk.l0]) ?_
      refine Evp.pos (by omega) (Evp.pos (by omega) ?_)
      simp only [spec_FieldOk_eq, Option.bind_some, rd_nat, getD_get (show i < l.length by omega)]
      rw [List.drop_eq_getElem_cons (show i < l.length by omega), List.all_cons]
      refine Evp.ite (fun h => ?_) fun h => ?_
      · rw [wrap_succ (by omega), h]
        exact ih (i + 1) (by omega)
      · exact Evp.some' (by simp [h])
  have := key l.length 0 (by omega)
  unfold spec_VecOk.f
  refine this.mono fun r hr => ?_
  rw [hr, List.drop_zero, Bool.and_comm]; rfl
theorem eq_loop {F : Nat → List Int → List Int → Int → Option Bool}
    (hF : ∀ k a b i, F (k + 1) a b i = if i < (a.length : Int) then (if 0 ≤ i then (if i < (b.length : Int) then (if (rd a i) = (rd b i) then (F k a b (wrap64 (i + 1))) else (some false)) else (none)) else (none)) else (some true))
    {a b : List Int} (hl : a.length = b.length) (ha : a.length ≤ 1000000000000) : Evp (fun k => F k a b 0) (· = decide (a = b)) := by
  have key : ∀ d i, i + d = a.length → (∀ j, j < i → a.getD j 0 = b.getD j 0) → Evp (fun k => F k a b (i : Int)) (· = decide (a = b)) := by
    intro d
    induction d with
    | zero =>
      intro i hi hp
      refine Evp.step (fun k => hF k a b i) ?_
      refine Evp.neg (by omega) ?_
      refine Evp.some' ?_
      have : a = b := List.ext_getElem hl fun j h1 h2 => by have := hp j (by omega); rwa [getD_get h1, getD_get h2] at this
      simp [this]
    | succ d ih =>
      intro i hi hp
      refine Evp.step (fun k => hF k a b i) ?_
      refine Evp.pos (by omega) (Evp.pos (by omega) (Evp.pos (by omega) ?_))
      rw [rd_nat, rd_nat, wrap_succ (by omega)]
      refine Evp.ite (fun h => ih (i + 1) (by omega) fun j hj => ?_) fun h => Evp.some' ?_
      · rcases Nat.lt_or_ge j i with c | c
        · exact hp j c
        · have : j = i := by omega
          subst this; exact h
      · have : a ≠ b := fun e => h (by rw [e])
        simp [this]
  exact key a.length 0 (by omega) (fun j hj => absurd hj (Nat.not_lt_zero j))
theorem eqIntS_ev {a b : List Int} (ha : a.length ≤ 1000000000000) : Evp (fun k => laws_eqIntS.f k a b) (· = decide (a = b)) := by
  unfold laws_eqIntS.f
  refine Evp.ite (fun h => eq_loop (fun k a b i => by rw [laws_eqIntS.l0]) (by omega) ha) fun h => Evp.some' ?_
  have : a ≠ b := fun e => h (by rw [e])
  simp [this]
theorem toIntS_ev {l : List Int} (hl : l.length ≤ 1048576) : Evp (fun k => laws_toIntS.f k l) (· = l) := by
  have key : ∀ d i, i + d = l.length → Evp (fun k => laws_toIntS.l0 k l (l.take i ++ List.replicate d 0) (i : Int)) (· = l) := by
    intro d
    induction d with
    | zero =>
      intro i hi
      refine Evp.step (fun k => by rw [laws_toIntS.l0]) ?_
      refine Evp.neg (by omega) ?_
      refine Evp.some' ?_
      simp [List.take_of_length_le (show l.length ≤ i by omega)]
    | succ d ih =>
      intro i hi
      refine Evp.step (fun k => by rw [laws_toIntS.l0]) ?_
      refine Evp.pos (by omega) (Evp.pos (by omega) (Evp.pos (by simp; omega) ?_))
      rw [wrap_succ (by omega), Int.toNat_natCast, rd_nat, getD_get (show i < l.length by omega)]
      have e : (l.take i ++ List.replicate (d + 1) 0).set i l[i] = l.take (i + 1) ++ List.replicate d 0 := by
        rw [List.set_append, if_neg (by simp; omega), List.length_take, Nat.min_eq_left (by omega), Nat.sub_self, List.replicate_succ, List.set_cons_zero, List.take_succ_eq_append_getElem (show i < l.length by omega), List.append_assoc]; rfl
      rw [e]
      exact ih (i + 1) (by omega)
  unfold laws_toIntS.f
  refine Evp.pos (by omega) (Evp.pos (by omega) ?_)
  rw [Int.toNat_natCast]
  have := key l.length 0 (by omega)
  rwa [List.take_zero, List.nil_append] at this
theorem can_small {l : List Int} (h : can l) (i : Nat) : 0 ≤ l.getD i 0 ∧ l.getD i 0 < 31 := ok_iff.1 (can_get h i)
theorem zip_take {α : Type} (f : Int → Int → α) {a b : List Int} {i : Nat} (h1 : i < a.length) (h2 : i < b.length) : List.zipWith f (a.take (i + 1)) (b.take (i + 1)) = List.zipWith f (a.take i) (b.take i) ++ [f (a.getD i 0) (b.getD i 0)] := by
  rw [List.take_succ_eq_append_getElem h1, List.take_succ_eq_append_getElem h2, List.zipWith_append (by simp; omega), getD_get h1, getD_get h2]; rfl
theorem l2Dot_ev {a b : List Int} (ha : can a) (hb : can b) (hl : a.length = b.length) (hn : a.length ≤ 1000000000000) : Evp (fun k => spec_l2Dot.f k a b) (· = ldot a b) := by
  have key : ∀ d i, i + d = a.length → Evp (fun k => spec_l2Dot.l0 k a b (ldot (a.take i) (b.take i)) (i : Int)) (· = ldot a b) := by
    intro d
    induction d with
    | zero =>
      intro i hi
      refine Evp.step (fun k => by rw [spec_l2Dot.l0]) ?_
      refine Evp.neg (by omega) ?_
      rw [List.take_of_length_le (by omega), List.take_of_length_le (by omega)]
      exact Evp.some' rfl
    | succ d ih =>
      intro i hi
      refine Evp.step (fun k => by rw [spec_l2Dot.l0]) ?_
      refine Evp.pos (by omega) (Evp.pos (by omega) (Evp.pos (by omega) ?_))
      rw [rd_nat, rd_nat, wrap_succ (by omega)]
      have hm := mul_small (ok_iff.2 (can_small ha i)) (ok_iff.2 (can_small hb i))
      have hr := ldot_range (a.take i) (b.take i)
      rw [wrap_small (x := a.getD i 0 * b.getD i 0) (by omega), wrap_small (x := ldot (a.take i) (b.take i) + a.getD i 0 * b.getD i 0) (by omega), tmod31 (by omega)]
      have e : ldot (a.take (i + 1)) (b.take (i + 1)) = (ldot (a.take i) (b.take i) + a.getD i 0 * b.getD i 0) % 31 := by
        unfold ldot; rw [zip_take _ (by omega) (by omega), List.foldl_append]; rfl
      rw [← e]
      exact ih (i + 1) (by omega)
  have := key a.length 0 (by omega)
  unfold spec_l2Dot.f
  simpa [ldot] using this
theorem spec_l4Kind_eq (k : Int) : spec_l4Kind.f k = some (lkind k) := by
  unfold spec_l4Kind.f spec_l6In.f lkind
  by_cases h : k ≥ 1
  · rw [if_pos h]; simp [show (1 ≤ k) from h]
  · rw [if_neg h]; simp [show ¬ (1 ≤ k) from h]
theorem spec_l4Row_eq {k a : Int} (hk : lkind k = true) (ha : lshard a = true) : spec_l4Row.f k a = some (lrow k a) := by
  have k1 : ∀ a : Fin 8, spec_l4Row.f 1 (a.val : Int) = some (lrow 1 (a.val : Int)) := by decide +kernel
  have k2 : ∀ a : Fin 8, spec_l4Row.f 2 (a.val : Int) = some (lrow 2 (a.val : Int)) := by decide +kernel
  obtain ⟨x, rfl⟩ := lshard_fin ha
  rcases lkind_cases hk with rfl | rfl
  · exact k1 x
  · exact k2 x
theorem spec_l4All_ev {k : Int} (hk : lkind k = true) {d : List Int} (hd : vok d = true) : Evp (fun n => spec_l4All.f n k d) (· = lall k d) := by
  have hdl := (vok_iff.1 hd).1
  have key : ∀ m i (out : List Int), i + m = 8 → out = (List.range i).map (fun (j : Nat) => ldot (lrow k (j : Int)) d) → Evp (fun n => spec_l4All.l0 n k d out (i : Int)) (· = lall k d) := by
    intro m
    induction m with
    | zero =>
      intro i out hi ho
      refine Evp.step (fun n => by rw [spec_l4All.l0]) (Evp.neg (by omega) (Evp.some' ?_))
      rw [ho, show i = 8 by omega]; rfl
    | succ m ih =>
      intro i out hi ho
      have hl : out.length = i := by rw [ho]; simp
      have hr := lrow_ok hk (lshard_nat (show i < 8 by omega))
      have hrl := (vok_iff.1 hr).1
      refine Evp.step (fun n => by rw [spec_l4All.l0]) (Evp.pos (by omega) ?_)
      rw [spec_l4Row_eq hk (lshard_nat (show i < 8 by omega))]
      simp only [Option.bind_some]
      refine Evp.bind (l2Dot_ev (vok_iff.1 hr).2 (vok_iff.1 hd).2 (by omega) (by omega)) fun t ht => ?_
      subst ht
      rw [wrap_succ (by omega)]
      refine Evp.pos (by omega) (ih (i + 1) _ (by omega) ?_)
      rw [ho, List.range_succ, List.map_append]; rfl
  unfold spec_l4All.f
  exact key 8 0 [] rfl rfl
theorem spec_CodeApart_ev (kind : Int) {a b : List Int} (ha : a.length ≤ 1000000000000) (hb : b.length ≤ 1000000000000) : Evp (fun k => spec_CodeApart.f k kind a b) (· = Lc.lapart kind a b) := by
  have no : Lc.lapart kind a b = -1 → Evp (fun k => spec_CodeApart.j0 k kind a b true) (· = Lc.lapart kind a b) := fun e => Evp.step (fun k => by rw [spec_CodeApart.j0]) (Evp.pos rfl (Evp.some' e.symm))
  unfold spec_CodeApart.f
  rw [spec_l4Kind_eq]
  simp only [Option.bind_some]
  refine Evp.ite (fun hk => ?_) fun hk => no (by unfold Lc.lapart codeAll; rw [Bool.eq_false_iff.2 hk]; simp)
  refine Evp.bind (spec_VecOk_ev ha) fun t ht => ?_
  subst ht
  refine Evp.ite (fun hv => ?_) fun hv => no (by unfold Lc.lapart codeAll; rw [Bool.eq_false_iff.2 hv]; simp)
  refine Evp.bind (spec_VecOk_ev hb) fun t ht => ?_
  subst ht
  by_cases hu : vok b = true
  · rw [hu]
    refine Evp.step (fun k => by rw [spec_CodeApart.j0]) (Evp.neg (by simp) ?_)
    refine Evp.bind (spec_l4All_ev hk hv) fun t ht => ?_
    subst ht
    refine Evp.bind (spec_l4All_ev hk hu) fun t ht => ?_
    subst ht
    have ea : codeAll kind a = lall kind a := by unfold codeAll; rw [hv, hk]; rfl
    have eb : codeAll kind b = lall kind b := by unfold codeAll; rw [hu, hk]; rfl
    have e : Lc.lapart kind a b = (Lc.lcountFrom (lall kind a) (lall kind b) 0 : Int) := by
      unfold Lc.lapart; rw [ea, eb, if_neg (by rw [lall_len, lall_len]; omega)]
    rw [e]
    generalize hx : lall kind a = x
    generalize hy : lall kind b = y
    have lx : x.length = 8 := by rw [← hx]; exact lall_len _ _
    have ly : y.length = 8 := by rw [← hy]; exact lall_len _ _
    have key : ∀ (d i : Nat), i + d = x.length → ∀ m : Nat, m ≤ i → Evp (fun k => spec_CodeApart.l0 k (m : Int) x y (i : Int)) (· = ((m + Lc.lcountFrom x y i : Nat) : Int)) := by
      intro d
      induction d with
      | zero =>
        intro i hi m hm
        refine Evp.step (fun k => by rw [spec_CodeApart.l0]) (Evp.neg (by omega) (Evp.some' ?_))
        rw [Lc.lcount_end (by omega)]; rfl
      | succ d ih =>
        intro i hi m hm
        refine Evp.step (fun k => by rw [spec_CodeApart.l0]) (Evp.pos (by omega) (Evp.pos (by omega) (Evp.pos (by omega) ?_)))
        rw [rd_nat, rd_nat, wrap_succ (by omega), wrap_succ (by omega), Lc.lcount_succ (by omega)]
        refine Evp.ite (fun h => ?_) fun h => ?_
        · rw [if_pos h]
          exact (ih (i + 1) (by omega) m (by omega)).mono fun r hr => by rw [hr]; omega
        · rw [if_neg h]
          exact (ih (i + 1) (by omega) (m + 1) (by omega)).mono fun r hr => by rw [hr]; omega
    have := key x.length 0 (by omega) 0 (by omega)
    simpa using this
  · rw [Bool.eq_false_iff.2 hu]
    exact no (by unfold Lc.lapart codeAll; rw [Bool.eq_false_iff.2 hu]; simp)
theorem FnExactCodeApart : laws_FnExactCodeApart.Pure := by
  intro a l l1 wa hm hl hw hm1 hl1 hw1
  refine Evp.rounds ?_
  unfold laws_FnExactCodeApart.f
  refine Evp.ite (fun _ => Evp.some' rfl) fun h0 => ?_
  refine Evp.ite (fun _ => Evp.some' rfl) fun h1 => ?_
  have g0 : l.length ≤ 1048576 := by omega
  have g1 : l1.length ≤ 1048576 := by omega
  refine Evp.bind (toIntS_ev g0) fun t ht => ?_
  subst ht
  refine Evp.bind (toIntS_ev g1) fun t ht => ?_
  subst ht
  refine Evp.bind (spec_CodeApart_ev a (by omega) (by omega)) fun t ht => ?_
  subst ht
  refine Evp.bind (toIntS_ev g0) fun t ht => ?_
  subst ht
  refine Evp.bind (toIntS_ev g1) fun t ht => ?_
  subst ht
  refine Evp.bind (Q := (· = Lc.lapart a _ _)) (Evp.some' rfl) fun t ht => ?_
  subst ht
  refine Evp.pos rfl ?_
  refine Evp.bind (toIntS_ev g0) fun t ht => ?_
  subst ht
  refine Evp.bind (eqIntS_ev (by omega)) fun t ht => ?_
  subst ht
  refine Evp.pos (by simp) ?_
  refine Evp.bind (toIntS_ev g1) fun t ht => ?_
  subst ht
  refine Evp.bind (eqIntS_ev (by omega)) fun t ht => ?_
  subst ht
  exact Evp.pos (by simp) (Evp.some' rfl)
end Go.Proofs.Ytlplmafncbgngaa.Pure
