/- The contracts of the program's own functions between lists and vectors, each for every argument that its plain function takes. -/
import Derived.Test.YtfgpffocieegdaaGv
set_option linter.unusedVariables false
set_option linter.unusedSimpArgs false
namespace Go.Proofs.Ytfgpffocieegdaa.PA
open Go.RowKit Go.Proofs.YtfgpffocieegdaaW.PrintWords Go.Proofs.YtfgpffocieegdaaW.PrintLast Go.Proofs.YtfgpffocieegdaaW.PrintMore

/-- make([]T, n, c) -/
theorem run_make_rowN {P : Program} (t e : TypeId) (i : TypeInfo) (z : Value) (ht : P.underlying t = some (.slice e)) (hi : P.info? e = some i) (hz : i.zero = some z)
    (kl kc : IntKind) (n c : Nat) (hnc : n ≤ c) (hbytes : i.bytes * c ≤ 281474976710656) (h63 : c ≤ 9223372036854775807) (w : World) :
    (Instr.makeSlice t (.int kl (n : Int)) (.int kc (c : Int))).run P w = .ok (.slice (some ⟨w.heap.size, 0, none⟩) n c) (w.alloc (.cells (madeCells z.cells (c * i.size)) e)) := by
  have hb : (i.bytes : Int) * (c : Int) ≤ 281474976710656 := by
    have h : ((i.bytes * c : Nat) : Int) ≤ 281474976710656 := by omega
    rwa [Int.natCast_mul] at h
  have hr := run_make (P := P) w t e i z ht hi hz kl kc n c (by omega) (by omega) hb (by omega)
  simp only [Int.toNat_natCast] at hr; exact hr
/-- a row of the call's own: no element yet, some capacity -/
theorem R_room {α : Type} (d : Kd α) (e : Nat) (w : World) (base c : Nat) (cs : Array Value) (hc : c ≤ maxLen) (hs : cs.size = c * d.sz) (hb : base ≤ w.heap.size) : d.R e (w.alloc (.cells cs e)) base (fun _ => True) (.slice (some ⟨w.heap.size, 0, none⟩) 0 c) [] := by
  refine ⟨fun _ _ => trivial, [], ⟨by simp, .inr ⟨w.heap.size, c, cs, rfl, hb, by simpa using heap_alloc_new w (.cells cs e), Nat.zero_le _, hc, hs, by simp⟩⟩, Reps.none _ _⟩
theorem make_i64 (c : Nat) (hc : c ≤ 1048576) (w : World) : (Instr.makeSlice 28 (.int .i64 0) (.int .i64 (c : Int))).run Try.prog w = .ok (.slice (some ⟨w.heap.size, 0, none⟩) 0 c) (w.alloc (.cells (madeCells #[.int .i64 0] c) 3)) := by
  obtain ⟨i0, hi, hzz⟩ := Option.map_eq_some_iff.1 info3; simp only [Prod.mk.injEq] at hzz; obtain ⟨hz0, hz1, hz2⟩ := hzz
  have := run_make_rowN (P := Try.prog) 28 3 i0 (.int .i64 0) Try.underlying28 hi hz0 .i64 .i64 0 c (Nat.zero_le _) (by rw [hz2]; omega) (by omega) w
  rw [hz1, Nat.mul_one] at this; exact this
/-! ### where a vector begins -/
theorem g_lead1 (a : Int) (w : World) : Calls Try.prog 64 #[.int .i64 a] w fun e w' => e = .returned (.bool (a != 0)) ∧ w = w' := by
  go_enter Try.func64, Try.ntmps64
  go_wp2
  go_ret; exact ⟨rfl, rfl⟩
set_option maxHeartbeats 1000000 in
theorem g_IndexLead (b : Nat) (a0 a1 a2 a3 : Int) (w : World) (h0 : w.cell? ⟨b, 0, none⟩ = some (.int .i64 a0)) (h1 : w.cell? ⟨b, 1, none⟩ = some (.int .i64 a1)) (h2 : w.cell? ⟨b, 2, none⟩ = some (.int .i64 a2)) (h3 : w.cell? ⟨b, 3, none⟩ = some (.int .i64 a3)) :
    Calls Try.prog 63 #[.slice (some ⟨b, 0, none⟩) 4 4, .func (.func 64) #[] #[]] w fun e w' => e = .returned (.int .i64 (Lin.llead [a0, a1, a2, a3])) ∧ w = w' := by
  have key : Lin.llead [a0, a1, a2, a3] = if a0 ≠ 0 then 0 else if a1 ≠ 0 then 1 else if a2 ≠ 0 then 2 else if a3 ≠ 0 then 3 else -1 := by
    unfold Lin.llead
    by_cases e0 : a0 = 0
    · by_cases e1 : a1 = 0
      · by_cases e2 : a2 = 0
        · by_cases e3 : a3 = 0
          · simp [List.findIdx?_cons, e0, e1, e2, e3]
          · simp [List.findIdx?_cons, e0, e1, e2, e3]
        · simp [List.findIdx?_cons, e0, e1, e2]
      · simp [List.findIdx?_cons, e0, e1]
    · simp [List.findIdx?_cons, e0]
  rw [key]; clear key
  by_cases e0 : a0 = 0
  · subst e0
    by_cases e1 : a1 = 0
    · subst e1
      by_cases e2 : a2 = 0
      · subst e2
        by_cases e3 : a3 = 0
        · subst e3
          go_enter Try.func63, Try.ntmps63
          go_wp2
          refine wp_loop_rounds 5 ?_
          iterate 5 (rw [rounds_succ]; go_wp2_with (go_at_call 64; refine (g_lead1 _ _).mono ?_; rintro e w' ⟨rfl, rfl⟩))
          go_ret; exact ⟨rfl, rfl⟩
        · have n3 : (a3 != 0) = true := bne_iff_ne.2 e3
          go_enter Try.func63, Try.ntmps63
          go_wp2
          refine wp_loop_rounds 4 ?_
          iterate 4 (rw [rounds_succ]; go_wp2_with (go_at_call 64; refine (g_lead1 _ _).mono ?_; rintro e w' ⟨rfl, rfl⟩))
          go_ret; exact ⟨by simp [e3], rfl⟩
      · have n2 : (a2 != 0) = true := bne_iff_ne.2 e2
        go_enter Try.func63, Try.ntmps63
        go_wp2
        refine wp_loop_rounds 3 ?_
        iterate 3 (rw [rounds_succ]; go_wp2_with (go_at_call 64; refine (g_lead1 _ _).mono ?_; rintro e w' ⟨rfl, rfl⟩))
        go_ret; exact ⟨by simp [e2], rfl⟩
    · have n1 : (a1 != 0) = true := bne_iff_ne.2 e1
      go_enter Try.func63, Try.ntmps63
      go_wp2
      refine wp_loop_rounds 2 ?_
      iterate 2 (rw [rounds_succ]; go_wp2_with (go_at_call 64; refine (g_lead1 _ _).mono ?_; rintro e w' ⟨rfl, rfl⟩))
      go_ret; exact ⟨by simp [e1], rfl⟩
  · have n0 : (a0 != 0) = true := bne_iff_ne.2 e0
    go_enter Try.func63, Try.ntmps63
    go_wp2
    refine wp_loop_rounds 1 ?_
    iterate 1 (rw [rounds_succ]; go_wp2_with (go_at_call 64; refine (g_lead1 _ _).mono ?_; rintro e w' ⟨rfl, rfl⟩))
    go_ret; exact ⟨by simp [e0], rfl⟩
theorem impl_vector_lead.calls (a0_0 : Int) (a0_1 : Int) (a0_2 : Int) (a0_3 : Int) (r : Int) (w : World) (h : impl_vector_lead.f a0_0 a0_1 a0_2 a0_3 = some r) :
    Calls Try.prog 56 #[.agg #[.int .i64 a0_0, .int .i64 a0_1, .int .i64 a0_2, .int .i64 a0_3]] w fun e w' => e = .returned (.int .i64 r) ∧ Below w.heap.size w w' := by
  obtain rfl := Option.some.inj h
  clear h; generalize hz : Lin.llead [a0_0, a0_1, a0_2, a0_3] = z
  have HZ := Aside0.mk hz
  clear hz; go_enter Try.func56, Try.ntmps56
  go_wp2_with (go_at_call 63; refine (g_IndexLead _ a0_0 a0_1 a0_2 a0_3 _ (by simp) (by simp) (by simp) (by simp)).mono ?_; rintro e w' ⟨rfl, rfl⟩; rw [HZ.out])
  go_ret; exact ⟨rfl, (Below.refl _ _).alloc (Nat.le_refl _) _⟩
end Go.Proofs.Ytfgpffocieegdaa.PA
