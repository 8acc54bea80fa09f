/- The contracts of the program's own functions between lists and vectors, each for every argument that its plain function takes. -/
import Derived.Test.YtamaejafddmagaaGv
set_option linter.unusedVariables false
set_option linter.unusedSimpArgs false
namespace Go.Proofs.Ytamaejafddmagaa.PA
open Go.RowKit Go.Proofs.YtamaejafddmagaaW.PrintWords Go.Proofs.YtamaejafddmagaaW.PrintLast Go.Proofs.YtamaejafddmagaaW.PrintMore

theorem vok_bool (l : List Int) : Lin.vok l = (decide ((l.length : Int) = 4) && l.all Lin.ok) := by
  unfold Lin.vok
  congr 1
  rw [Bool.eq_iff_iff, beq_iff_eq, decide_eq_true_iff]; omega
set_option maxHeartbeats 2000000 in
set_option maxRecDepth 20000 in
theorem impl_vectorOf.calls (A0 : Option Addr) (c0 : Nat) (l0 : List Int) (r1 : Int) (r2 : Int) (r3 : Int) (r4 : Int) (r5 : Bool) (w : World) (hr0 : Kd.C (Kd.int .i64) w A0 l0.length l0) (hc0 : l0.length ≤ c0) (h : impl_vectorOf.f l0 = some (r1, r2, r3, r4, r5)) :
    Calls Try.prog 59 #[.slice A0 l0.length c0] w fun e w' => e = .returned (.tuple #[.agg #[.int .i64 r1, .int .i64 r2, .int .i64 r3, .int .i64 r4], .bool r5]) ∧ Below w.heap.size w w' := by
  unfold impl_vectorOf.f at h
  have HR := Aside0.mk hr0
  have HC := Aside0.mk hc0
  clear hr0 hc0
  cases hv : Lin.vok l0 with
  | false =>
    rw [hv, if_neg (by decide)] at h
    simp only [Option.some.injEq, Prod.mk.injEq] at h
    obtain ⟨rfl, rfl, rfl, rfl, rfl⟩ := h
    have HV := Aside0.mk (show impl_elementsOk.f l0 4 = some false by unfold impl_elementsOk.f; rw [← vok_bool, hv])
    clear hv
    go_enter Try.func59, Try.ntmps59
    go_wp2_with (go_at_call 98; refine (impl_elementsOk.calls _ _ _ _ _ _ ?side1 HC.out HV.out).mono ?_; (case side1 => repeat (first | exact HR.out | (with_reducible refine Kd.C_alloc ?_ _) | (with_reducible refine Kd.C_drewN ?_ _) | (with_reducible refine Kd.C_drew ?_))); rintro e w' ⟨rfl, ⟨nd, rfl⟩⟩)
    refine bodyPost_ret (v := .tuple #[.agg #[.int .i64 0, .int .i64 0, .int .i64 0, .int .i64 0], .bool false]) (by simp [results, Try.results59, go_sem]) rfl ⟨rfl, ?_⟩
    repeat (first | (with_reducible exact Below.refl _ _) | (with_reducible apply pw_below_drewN) | (with_reducible apply below_drew1) | ((with_reducible refine Below.setCell ?_ ?hs _); (case hs => first | (simp; done) | (simp; omega))) | ((with_reducible refine Below.alloc ?_ ?hs _); (case hs => first | (simp; done) | (simp; omega))))
  | true =>
    rw [hv, if_pos rfl] at h
    have HV := Aside0.mk (show impl_elementsOk.f l0 4 = some true by unfold impl_elementsOk.f; rw [← vok_bool, hv])
    obtain ⟨h4, _⟩ := Lin.vok_iff.1 hv
    clear hv
    match l0, h4 with
    | [a0, a1, a2, a3], _ =>
      simp only [Option.some.injEq, Prod.mk.injEq] at h
      obtain ⟨h1, h2, h3, h4, h5⟩ := h
      have e1 : a0 = r1 := h1
      have e2 : a1 = r2 := h2
      have e3 : a2 = r3 := h3
      have e4 : a3 = r4 := h4
      subst e1 e2 e3 e4 h5
      clear h1 h2 h3 h4
      obtain ⟨ad, e, hx0⟩ := Kd.at_int HR.out 0 (by omega) (by simp)
      cases e
      obtain ⟨ad', e, hx1⟩ := Kd.at_int HR.out 1 (by omega) (by simp)
      cases e
      obtain ⟨ad', e, hx2⟩ := Kd.at_int HR.out 2 (by omega) (by simp)
      cases e
      obtain ⟨ad', e, hx3⟩ := Kd.at_int HR.out 3 (by omega) (by simp)
      cases e
      replace hx0 : w.cell? (ad.add 0) = some (.int .i64 a0) := hx0
      replace hx1 : w.cell? ⟨ad.block, ad.off + 1, none⟩ = some (.int .i64 a1) := hx1
      replace hx2 : w.cell? ⟨ad.block, ad.off + 2, none⟩ = some (.int .i64 a2) := hx2
      replace hx3 : w.cell? ⟨ad.block, ad.off + 3, none⟩ = some (.int .i64 a3) := hx3
      rw [show ad.add 0 = ad from rfl] at hx0
      have hlt : ad.block < w.heap.size := World.block_lt_of_cell? w _ hx0
      go_enter Try.func59, Try.ntmps59
      go_wp2_with (go_at_call 98; refine (impl_elementsOk.calls _ _ [a0, a1, a2, a3] _ _ _ ?side1 HC.out HV.out).mono ?_; (case side1 => repeat (first | exact HR.out | (with_reducible refine Kd.C_alloc ?_ _) | (with_reducible refine Kd.C_drewN ?_ _) | (with_reducible refine Kd.C_drew ?_))); rintro e w' ⟨rfl, ⟨nd, rfl⟩⟩)
      refine wp_loop_rounds 5 ?_
      iterate 5 (rw [rounds_succ]; go_wp2)
      refine bodyPost_ret (v := .tuple #[.agg #[.int .i64 a0, .int .i64 a1, .int .i64 a2, .int .i64 a3], .bool true]) (by simp [results, Try.results59, go_sem]) rfl ⟨rfl, ?_⟩
      repeat (first | (with_reducible exact Below.refl _ _) | (with_reducible apply pw_below_drewN) | (with_reducible apply below_drew1) | ((with_reducible refine Below.setCell ?_ ?hs _); (case hs => first | (simp; done) | (simp; omega))) | ((with_reducible refine Below.alloc ?_ ?hs _); (case hs => first | (simp; done) | (simp; omega))))
/-! ### where a vector begins -/
theorem g_lead1 (a : Int) (w : World) : Calls Try.prog 100 #[.int .i64 a] w fun e w' => e = .returned (.bool (a != 0)) ∧ w = w' := by
  go_enter Try.func100, Try.ntmps100
  go_wp2
  go_ret
  exact ⟨rfl, rfl⟩
set_option maxHeartbeats 1000000 in
theorem g_IndexLead (b : Nat) (a0 a1 a2 a3 : Int) (w : World) (h0 : w.cell? ⟨b, 0, none⟩ = some (.int .i64 a0)) (h1 : w.cell? ⟨b, 1, none⟩ = some (.int .i64 a1)) (h2 : w.cell? ⟨b, 2, none⟩ = some (.int .i64 a2)) (h3 : w.cell? ⟨b, 3, none⟩ = some (.int .i64 a3)) :
    Calls Try.prog 99 #[.slice (some ⟨b, 0, none⟩) 4 4, .func (.func 100) #[] #[]] w fun e w' => e = .returned (.int .i64 (Lin.llead [a0, a1, a2, a3])) ∧ w = w' := by
  have key : Lin.llead [a0, a1, a2, a3] = if a0 ≠ 0 then 0 else if a1 ≠ 0 then 1 else if a2 ≠ 0 then 2 else if a3 ≠ 0 then 3 else -1 := by
    unfold Lin.llead
    by_cases e0 : a0 = 0
    · by_cases e1 : a1 = 0
      · by_cases e2 : a2 = 0
        · by_cases e3 : a3 = 0
          · simp [List.findIdx?_cons, e0, e1, e2, e3]
          · simp [List.findIdx?_cons, e0, e1, e2, e3]
        · simp [List.findIdx?_cons, e0, e1, e2]
      · simp [List.findIdx?_cons, e0, e1]
    · simp [List.findIdx?_cons, e0]
  rw [key]
  clear key
  by_cases e0 : a0 = 0
  · subst e0
    by_cases e1 : a1 = 0
    · subst e1
      by_cases e2 : a2 = 0
      · subst e2
        by_cases e3 : a3 = 0
        · subst e3
          go_enter Try.func99, Try.ntmps99
          go_wp2
          refine wp_loop_rounds 5 ?_
          iterate 5 (rw [rounds_succ]; go_wp2_with (go_at_call 100; refine (g_lead1 _ _).mono ?_; rintro e w' ⟨rfl, rfl⟩))
          go_ret
          exact ⟨rfl, rfl⟩
        · have n3 : (a3 != 0) = true := bne_iff_ne.2 e3
          go_enter Try.func99, Try.ntmps99
          go_wp2
          refine wp_loop_rounds 4 ?_
          iterate 4 (rw [rounds_succ]; go_wp2_with (go_at_call 100; refine (g_lead1 _ _).mono ?_; rintro e w' ⟨rfl, rfl⟩))
          go_ret
          exact ⟨by simp [e3], rfl⟩
      · have n2 : (a2 != 0) = true := bne_iff_ne.2 e2
        go_enter Try.func99, Try.ntmps99
        go_wp2
        refine wp_loop_rounds 3 ?_
        iterate 3 (rw [rounds_succ]; go_wp2_with (go_at_call 100; refine (g_lead1 _ _).mono ?_; rintro e w' ⟨rfl, rfl⟩))
        go_ret
        exact ⟨by simp [e2], rfl⟩
    · have n1 : (a1 != 0) = true := bne_iff_ne.2 e1
      go_enter Try.func99, Try.ntmps99
      go_wp2
      refine wp_loop_rounds 2 ?_
      iterate 2 (rw [rounds_succ]; go_wp2_with (go_at_call 100; refine (g_lead1 _ _).mono ?_; rintro e w' ⟨rfl, rfl⟩))
      go_ret
      exact ⟨by simp [e1], rfl⟩
  · have n0 : (a0 != 0) = true := bne_iff_ne.2 e0
    go_enter Try.func99, Try.ntmps99
    go_wp2
    refine wp_loop_rounds 1 ?_
    iterate 1 (rw [rounds_succ]; go_wp2_with (go_at_call 100; refine (g_lead1 _ _).mono ?_; rintro e w' ⟨rfl, rfl⟩))
    go_ret
    exact ⟨by simp [e0], rfl⟩
theorem impl_vector_lead.calls (a0_0 : Int) (a0_1 : Int) (a0_2 : Int) (a0_3 : Int) (r : Int) (w : World) (h : impl_vector_lead.f a0_0 a0_1 a0_2 a0_3 = some r) :
    Calls Try.prog 60 #[.agg #[.int .i64 a0_0, .int .i64 a0_1, .int .i64 a0_2, .int .i64 a0_3]] w fun e w' => e = .returned (.int .i64 r) ∧ Below w.heap.size w w' := by
  obtain rfl := Option.some.inj h
  clear h
  generalize hz : Lin.llead [a0_0, a0_1, a0_2, a0_3] = z
  have HZ := Aside0.mk hz
  clear hz
  go_enter Try.func60, Try.ntmps60
  go_wp2_with (go_at_call 99; refine (g_IndexLead _ a0_0 a0_1 a0_2 a0_3 _ (by simp) (by simp) (by simp) (by simp)).mono ?_; rintro e w' ⟨rfl, rfl⟩; rw [HZ.out])
  go_ret
  exact ⟨rfl, (Below.refl _ _).alloc (Nat.le_refl _) _⟩
end Go.Proofs.Ytamaejafddmagaa.PA
