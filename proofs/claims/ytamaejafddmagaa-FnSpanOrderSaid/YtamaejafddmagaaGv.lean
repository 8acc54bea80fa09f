/- The contracts of the program's own functions over vectors (arrays of four field elements), each for every argument that its plain function takes. -/
import Derived.Test.YtamaejafddmagaaPAx0
import Derived.Test.YtamaejafddmagaaMa
import Derived.StillTailTactics
import Derived.Deep.QuietTactic
import Derived.BigQuiet
set_option linter.unusedVariables false
set_option linter.unusedSimpArgs false
namespace Go.Proofs.Ytamaejafddmagaa.PA
open Go.RowKit Go.Proofs.YtamaejafddmagaaW.PrintWords Go.Proofs.YtamaejafddmagaaW.PrintLast Go.Proofs.YtamaejafddmagaaW.PrintMore

/-! ### single elements -/
theorem g_tmod31 {x : Int} (h : 0 ≤ x) : Int.tmod x 31 = x % 31 := Int.tmod_eq_emod_of_nonneg h
theorem g_tmod31_bounds (x : Int) : -30 ≤ Int.tmod x 31 ∧ Int.tmod x 31 ≤ 30 ∧ Int.tmod x 31 % 31 = x % 31 := by
  rcases Int.le_total 0 x with h | h
  · rw [g_tmod31 h]; omega
  · have e : Int.tmod x 31 = -(Int.tmod (-x) 31) := by rw [Int.neg_tmod, Int.neg_neg]
    rw [e, g_tmod31 (by omega)]; omega
theorem g_elementOf (x : Int) (w : World) : Calls Try.prog 118 #[.int .i64 x] w fun e w' => e = .returned (.int .i64 (x % 31)) ∧ w = w' := by
  obtain ⟨b1, b2, b3⟩ := g_tmod31_bounds x
  have e : (Int.tmod x 31 + 31) % 31 = x % 31 := by omega
  have H := Aside0.mk e
  clear e b3
  go_enter Try.func118, Try.ntmps118
  go_wp2
  go_ret
  exact ⟨by rw [H.out]; rfl, rfl⟩
theorem g_eplus (a b : Int) (ha : 0 ≤ a ∧ a < 31) (hb : 0 ≤ b ∧ b < 31) (w : World) : Calls Try.prog 89 #[.int .i64 a, .int .i64 b] w fun e w' => e = .returned (.int .i64 ((a + b) % 31)) ∧ w = w' := by
  obtain ⟨a0, a1⟩ := ha
  obtain ⟨b0, b1⟩ := hb
  go_enter Try.func89, Try.ntmps89
  go_wp2_with (go_at_call 118; refine (g_elementOf _ _).mono ?_; rintro e w' ⟨rfl, rfl⟩)
  go_ret
  exact ⟨rfl, rfl⟩
theorem g_etimes (a b : Int) (ha : 0 ≤ a ∧ a < 31) (hb : 0 ≤ b ∧ b < 31) (w : World) : Calls Try.prog 104 #[.int .i64 a, .int .i64 b] w fun e w' => e = .returned (.int .i64 (a * b % 31)) ∧ w = w' := by
  have hm : 0 ≤ a * b ∧ a * b ≤ 900 := by
    constructor
    · exact Int.mul_nonneg ha.1 hb.1
    · have h1 : a * b ≤ a * 30 := Int.mul_le_mul_of_nonneg_left (by omega) ha.1
      omega
  obtain ⟨m0, m1⟩ := hm
  go_enter Try.func104, Try.ntmps104
  go_wp2_with (go_at_call 118; refine (g_elementOf _ _).mono ?_; rintro e w' ⟨rfl, rfl⟩)
  go_ret
  exact ⟨rfl, rfl⟩
theorem emod_range (x : Int) : 0 ≤ x % 31 ∧ x % 31 < 31 := by omega

/-! ### vectors -/
def impl_vector_plus.f (a0_0 : Int) (a0_1 : Int) (a0_2 : Int) (a0_3 : Int) (a1_0 : Int) (a1_1 : Int) (a1_2 : Int) (a1_3 : Int) : Option (Int × Int × Int × Int) :=
  if ((0 ≤ a0_0 ∧ a0_0 < 31) ∧ (0 ≤ a0_1 ∧ a0_1 < 31) ∧ (0 ≤ a0_2 ∧ a0_2 < 31) ∧ (0 ≤ a0_3 ∧ a0_3 < 31)) ∧ (0 ≤ a1_0 ∧ a1_0 < 31) ∧ (0 ≤ a1_1 ∧ a1_1 < 31) ∧ (0 ≤ a1_2 ∧ a1_2 < 31) ∧ (0 ≤ a1_3 ∧ a1_3 < 31) then
    some ((a0_0 + a1_0) % 31, (a0_1 + a1_1) % 31, (a0_2 + a1_2) % 31, (a0_3 + a1_3) % 31) else none
def impl_vector_times.f (a0_0 : Int) (a0_1 : Int) (a0_2 : Int) (a0_3 : Int) (a1 : Int) : Option (Int × Int × Int × Int) :=
  if ((0 ≤ a0_0 ∧ a0_0 < 31) ∧ (0 ≤ a0_1 ∧ a0_1 < 31) ∧ (0 ≤ a0_2 ∧ a0_2 < 31) ∧ (0 ≤ a0_3 ∧ a0_3 < 31)) ∧ (0 ≤ a1 ∧ a1 < 31) then
    some (a0_0 * a1 % 31, a0_1 * a1 % 31, a0_2 * a1 % 31, a0_3 * a1 % 31) else none
def impl_vector_list.f (a0_0 : Int) (a0_1 : Int) (a0_2 : Int) (a0_3 : Int) : Option (List Int) := some [a0_0, a0_1, a0_2, a0_3]
def impl_vector_lead.f (a0_0 : Int) (a0_1 : Int) (a0_2 : Int) (a0_3 : Int) : Option (Int) := some (Lin.llead [a0_0, a0_1, a0_2, a0_3])
def impl_elementsOk.f (l0 : List Int) (a1 : Int) : Option (Bool) := some (decide ((l0.length : Int) = a1) && l0.all Lin.ok)
def impl_vectorOf.f (l0 : List Int) : Option (Int × Int × Int × Int × Bool) :=
  if Lin.vok l0 = true then some (l0.getD 0 0, l0.getD 1 0, l0.getD 2 0, l0.getD 3 0, true) else some (0, 0, 0, 0, false)

theorem still_tail {P : Program} {id : Nat} {Q : Exit → Act → World → Prop} {a : Act} {w : World} {l : List Oper} (n : Nat) (hm : P.follows .mixedOrders = true) (hB : Region.lexTailB .any l.toArray n = true)
    (h : wpStill P l.toArray w.drew (fun a' => wpList P l.toArray Q (l.drop n) a' w.drew) (l.take n) a) : (Code.region id l.toArray true).wp P Q a w := wp_region_still_tail n hm hB h
set_option maxHeartbeats 2000000 in
set_option maxRecDepth 20000 in
theorem impl_vector_times.calls (a0_0 : Int) (a0_1 : Int) (a0_2 : Int) (a0_3 : Int) (a1 : Int) (r1 : Int) (r2 : Int) (r3 : Int) (r4 : Int) (w : World) (h : impl_vector_times.f a0_0 a0_1 a0_2 a0_3 a1 = some (r1, r2, r3, r4)) :
    Calls Try.prog 93 #[.agg #[.int .i64 a0_0, .int .i64 a0_1, .int .i64 a0_2, .int .i64 a0_3], .int .i64 a1] w fun e w' => e = .returned (.agg #[.int .i64 r1, .int .i64 r2, .int .i64 r3, .int .i64 r4]) ∧ Below w.heap.size w w' := by
  unfold impl_vector_times.f at h
  split at h
  · rename_i hh
    obtain ⟨⟨h0, h1, h2, h3⟩, hc⟩ := hh
    simp only [Option.some.injEq, Prod.mk.injEq] at h
    obtain ⟨rfl, rfl, rfl, rfl⟩ := h
    go_enter Try.func93, Try.ntmps93
    go_wp2_with fail
    refine wp_loop_rounds 5 ?_
    iterate 5 (rw [rounds_succ]; go_wp2_with (go_at_call 104; refine (g_etimes _ _ (by assumption) (by assumption) _).mono ?_; rintro e w' ⟨rfl, rfl⟩))
    refine bodyPost_ret (v := .agg #[.int .i64 (a0_0 * a1 % 31), .int .i64 (a0_1 * a1 % 31), .int .i64 (a0_2 * a1 % 31), .int .i64 (a0_3 * a1 % 31)]) (by simp [results, Try.results93, go_sem]) rfl ⟨rfl, ?_⟩
    repeat (first | (with_reducible exact Below.refl _ _) | (with_reducible apply pw_below_drewN) | (with_reducible apply below_drew1) | ((with_reducible refine Below.setCell ?_ ?hs _); (case hs => first | (simp; done) | (simp; omega))) | ((with_reducible refine Below.alloc ?_ ?hs _); (case hs => first | (simp; done) | (simp; omega))))
  · cases h
set_option maxHeartbeats 2000000 in
set_option maxRecDepth 20000 in
theorem impl_vector_plus.calls (a0_0 : Int) (a0_1 : Int) (a0_2 : Int) (a0_3 : Int) (a1_0 : Int) (a1_1 : Int) (a1_2 : Int) (a1_3 : Int) (r1 : Int) (r2 : Int) (r3 : Int) (r4 : Int) (w : World) (h : impl_vector_plus.f a0_0 a0_1 a0_2 a0_3 a1_0 a1_1 a1_2 a1_3 = some (r1, r2, r3, r4)) :
    Calls Try.prog 119 #[.agg #[.int .i64 a0_0, .int .i64 a0_1, .int .i64 a0_2, .int .i64 a0_3], .agg #[.int .i64 a1_0, .int .i64 a1_1, .int .i64 a1_2, .int .i64 a1_3]] w fun e w' => e = .returned (.agg #[.int .i64 r1, .int .i64 r2, .int .i64 r3, .int .i64 r4]) ∧ Below w.heap.size w w' := by
  unfold impl_vector_plus.f at h
  split at h
  · rename_i hh
    obtain ⟨⟨h0, h1, h2, h3⟩, k0, k1, k2, k3⟩ := hh
    simp only [Option.some.injEq, Prod.mk.injEq] at h
    obtain ⟨rfl, rfl, rfl, rfl⟩ := h
    go_enter Try.func119, Try.ntmps119
    go_wp2_with fail
    refine wp_loop_rounds 5 ?_
    iterate 4
      rw [rounds_succ]
      go_wp2_with fail
      refine still_tail 8 (by kernel_rfl) (by kernel_rfl) ?_
      simp only [List.take_succ_cons, List.take_zero, List.drop_succ_cons, List.drop_zero]
      iterate 7 still_step
      refine wpStill_step (fun K hK => ?_)
      go_simp
      refine ⟨_, (g_eplus _ _ (by assumption) (by assumption) _).mono (fun _ _ h => ⟨h.1, h.2.symm⟩), hK _ ?_⟩
      clear hK K
      refine wpStill_nil ?_
      go_wp2_with fail
    rw [rounds_succ]
    go_wp2_with fail
    refine bodyPost_ret (v := .agg #[.int .i64 ((a0_0 + a1_0) % 31), .int .i64 ((a0_1 + a1_1) % 31), .int .i64 ((a0_2 + a1_2) % 31), .int .i64 ((a0_3 + a1_3) % 31)]) (by simp [results, Try.results119, go_sem]) rfl ⟨rfl, ?_⟩
    repeat (first | (with_reducible exact Below.refl _ _) | (with_reducible apply pw_below_drewN) | (with_reducible apply below_drew1) | ((with_reducible refine Below.setCell ?_ ?hs _); (case hs => first | (simp; done) | (simp; omega))) | ((with_reducible refine Below.alloc ?_ ?hs _); (case hs => first | (simp; done) | (simp; omega))))
  · cases h
/-! ### lists of field elements -/
theorem g_FieldOk (a : Int) (w : World) : Calls Try.prog 88 #[.int .i64 a] w fun e w' => e = .returned (.bool (Lin.ok a)) ∧ w = w' := by
  by_cases h0 : 0 ≤ a
  · have e : Lin.ok a = decide (a ≤ 30) := by
      rw [Bool.eq_iff_iff, Lin.ok_iff, decide_eq_true_iff]; omega
    rw [e]
    have b0 : decide (0 ≤ a) = true := decide_eq_true h0
    clear e
    go_enter Try.func88, Try.ntmps88
    go_wp2
    go_ret
    exact ⟨rfl, rfl⟩
  · have e : Lin.ok a = false := by rw [Lin.ok_false]; omega
    rw [e]
    have b0 : decide (0 ≤ a) = false := decide_eq_false h0
    clear e
    go_enter Try.func88, Try.ntmps88
    go_wp2
    go_ret
    exact ⟨rfl, rfl⟩
theorem g_bad (a : Int) (w : World) : Calls Try.prog 126 #[.int .i64 a] w fun e w' => e = .returned (.bool (!Lin.ok a)) ∧ w = w' := by
  generalize hb : Lin.ok a = b
  have H := Aside0.mk hb
  clear hb
  go_enter Try.func126, Try.ntmps126
  go_wp2_with (go_at_call 88; refine (g_FieldOk _ _).mono ?_; rintro e w' ⟨rfl, rfl⟩; rw [H.out])
  go_ret
  exact ⟨rfl, rfl⟩
theorem all_bad {l : List Int} {k : Nat} (hk : k < l.length) (h : Lin.ok (rd l (k : Int)) = false) : (decide (0 ≤ (k : Int))) = !l.all Lin.ok := by
  have e : rd l (k : Int) = l[k] := by
    unfold rd; rw [Int.toNat_natCast, List.getD_eq_getElem?_getD, List.getElem?_eq_getElem hk]; rfl
  have : l.all Lin.ok = false := by
    rw [List.all_eq_false]; exact ⟨l[k], List.getElem_mem hk, by rw [← e, h]; simp⟩
  rw [this]; simp
theorem all_good {l : List Int} (h : ∀ j, j < l.length → Lin.ok (l.getD j 0) = true) : (decide (0 ≤ (-1 : Int))) = !l.all Lin.ok := by
  have : l.all Lin.ok = true := by
    rw [List.all_eq_true]; intro x hx
    obtain ⟨j, hj, rfl⟩ := List.mem_iff_getElem.1 hx
    have := h j hj
    rwa [List.getD_eq_getElem?_getD, List.getElem?_eq_getElem hj] at this
  rw [this]; rfl
set_option maxHeartbeats 1000000 in
theorem g_IndexBad (A : Option Addr) (c : Nat) (l : List Int) (w : World) (hr : Kd.C (Kd.int .i64) w A l.length l) :
    Calls Try.prog 140 #[.slice A l.length c, .func (.func 126) #[] #[]] w fun e w' => ∃ i : Int, e = .returned (.int .i64 i) ∧ (decide (0 ≤ i) = !l.all Lin.ok) ∧ w = w' := by
  have HR := Aside0.mk hr
  have hm := hr.2.1
  clear hr
  go_enter Try.func140, Try.ntmps140
  go_wp2
  go_loop [5, 8] (fun v i => ∃ k : Nat, k ≤ l.length ∧ i = .int .i64 k ∧ Aside0 (∀ j, j < k → Lin.ok (l.getD j 0) = true)) (fun _ i => l.length - (intOf i).toNat)
  case atStart => exact ⟨0, Nat.zero_le _, rfl, ⟨fun j hj => absurd hj (Nat.not_lt_zero j)⟩⟩
  case round =>
    obtain ⟨k, hk, rfl, HK⟩ := hrel
    by_cases hlt : k < l.length
    · obtain ⟨ad, e, hx⟩ := Kd.at_int HR.out (k : Int) (by omega) (by omega)
      cases e
      rw [Int.toNat_natCast] at hx
      cases hb : Lin.ok (rd l (k : Int))
      · have Hb := Aside0.mk hb
        clear hb
        go_wp2_with (go_at_call 126; refine (g_bad _ _).mono ?_; rintro e w' ⟨rfl, rfl⟩; rw [Hb.out])
        go_ret
        exact ⟨_, rfl, all_bad hlt Hb.out, rfl⟩
      · have Hb := Aside0.mk hb
        clear hb
        go_wp2_with (go_at_call 126; refine (g_bad _ _).mono ?_; rintro e w' ⟨rfl, rfl⟩; rw [Hb.out])
        refine ⟨⟨k + 1, by omega, by go_num, ⟨fun j hj => ?_⟩⟩, by simp [intOf]; omega⟩
        rcases Nat.lt_or_ge j k with h1 | h1
        · exact HK.out j h1
        · have e : j = k := by omega
          subst e
          have := Hb.out
          unfold rd at this
          rwa [Int.toNat_natCast] at this
    · go_wp2
      go_ret
      exact ⟨_, rfl, all_good (fun j hj => HK.out j (by omega)), rfl⟩
theorem g_ContainsBad (A : Option Addr) (c : Nat) (l : List Int) (w : World) (hr : Kd.C (Kd.int .i64) w A l.length l) :
    Calls Try.prog 125 #[.slice A l.length c, .func (.func 126) #[] #[]] w fun e w' => e = .returned (.bool (!l.all Lin.ok)) ∧ w = w' := by
  have HR := Aside0.mk hr
  clear hr
  generalize hb : l.all Lin.ok = b
  have HBb := Aside0.mk hb
  clear hb
  go_enter Try.func125, Try.ntmps125
  go_wp2_with (go_at_call 140; refine (g_IndexBad _ _ _ _ HR.out).mono ?_; rintro e w' ⟨i, rfl, hi, rfl⟩; rw [HBb.out] at hi; have Hi := Aside0.mk hi; clear hi)
  go_ret
  exact ⟨by rw [← Hi.out]; rfl, rfl⟩
theorem impl_elementsOk.calls (A0 : Option Addr) (c0 : Nat) (l0 : List Int) (a1 : Int) (r : Bool) (w : World) (hr0 : Kd.C (Kd.int .i64) w A0 l0.length l0) (hc0 : l0.length ≤ c0) (h : impl_elementsOk.f l0 a1 = some r) :
    Calls Try.prog 98 #[.slice A0 l0.length c0, .int .i64 a1] w fun e w' => e = .returned (.bool r) ∧ Drawn0 w w' := by
  unfold impl_elementsOk.f at h
  obtain rfl := Option.some.inj h
  clear h
  have HR := Aside0.mk hr0
  clear hr0
  by_cases hl : (l0.length : Int) = a1
  · have b1 : ((l0.length : Int) == a1) = true := beq_iff_eq.2 hl
    have e : (decide ((l0.length : Int) = a1) && l0.all Lin.ok) = l0.all Lin.ok := by simp [hl]
    rw [e]
    generalize hb : l0.all Lin.ok = b
    have HBb := Aside0.mk hb
    clear hb e hl
    go_enter Try.func98, Try.ntmps98
    go_wp2_with (go_at_call 125; refine (g_ContainsBad _ _ _ _ HR.out).mono ?_; rintro e w' ⟨rfl, rfl⟩; rw [HBb.out])
    go_ret
    exact ⟨by simp, Drawn0.refl _⟩
  · have b1 : ((l0.length : Int) == a1) = false := beq_eq_false_iff_ne.2 hl
    have e : (decide ((l0.length : Int) = a1) && l0.all Lin.ok) = false := by simp [hl]
    rw [e]
    clear e hl
    go_enter Try.func98, Try.ntmps98
    go_wp2_with fail
    go_ret
    exact ⟨rfl, Drawn0.refl _⟩
end Go.Proofs.Ytamaejafddmagaa.PA
