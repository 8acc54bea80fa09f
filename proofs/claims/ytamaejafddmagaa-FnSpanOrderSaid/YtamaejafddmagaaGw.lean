/- The contracts of the program's own functions between lists and vectors, each for every argument that its plain function takes. -/
import Derived.Test.YtamaejafddmagaaGv
set_option linter.unusedVariables false
set_option linter.unusedSimpArgs false
namespace Go.Proofs.Ytamaejafddmagaa.PA
open Go.RowKit Go.Proofs.YtamaejafddmagaaW.PrintWords Go.Proofs.YtamaejafddmagaaW.PrintLast Go.Proofs.YtamaejafddmagaaW.PrintMore

theorem vok_bool (l : List Int) : Lin.vok l = (decide ((l.length : Int) = 4) && l.all Lin.ok) := by
  unfold Lin.vok
  congr 1
  rw [Bool.eq_iff_iff, beq_iff_eq, decide_eq_true_iff]; omega
set_option maxHeartbeats 2000000 in
set_option maxRecDepth 20000 in
theorem impl_vectorOf.calls (A0 : Option Addr) (c0 : Nat) (l0 : List Int) (r1 : Int) (r2 : Int) (r3 : Int) (r4 : Int) (r5 : Bool) (w : World) (hr0 : Kd.C (Kd.int .i64) w A0 l0.length l0) (hc0 : l0.length ≤ c0) (h : impl_vectorOf.f l0 = some (r1, r2, r3, r4, r5)) :
    Calls Try.prog 59 #[.slice A0 l0.length c0] w fun e w' => e = .returned (.tuple #[.agg #[.int .i64 r1, .int .i64 r2, .int .i64 r3, .int .i64 r4], .bool r5]) ∧ Below w.heap.size w w' := by
  unfold impl_vectorOf.f at h
  have HR := Aside0.mk hr0
  have HC := Aside0.mk hc0
  clear hr0 hc0
  cases hv : Lin.vok l0 with
  | false =>
    rw [hv, if_neg (by decide)] at h
    simp only [Option.some.injEq, Prod.mk.injEq] at h
    obtain ⟨rfl, rfl, rfl, rfl, rfl⟩ := h
    have HV := Aside0.mk (show impl_elementsOk.f l0 4 = some false by unfold impl_elementsOk.f; rw [← vok_bool, hv])
    clear hv
    go_enter Try.func59, Try.ntmps59
    go_wp2_with (go_at_call 98; refine (impl_elementsOk.calls _ _ _ _ _ _ ?side1 HC.out HV.out).mono ?_; (case side1 => repeat (first | exact HR.out | (with_reducible refine Kd.C_alloc ?_ _) | (with_reducible refine Kd.C_drewN ?_ _) | (with_reducible refine Kd.C_drew ?_))); rintro e w' ⟨rfl, ⟨nd, rfl⟩⟩)
    refine bodyPost_ret (v := .tuple #[.agg #[.int .i64 0, .int .i64 0, .int .i64 0, .int .i64 0], .bool false]) (by simp [results, Try.results59, go_sem]) rfl ⟨rfl, ?_⟩
    repeat (first | (with_reducible exact Below.refl _ _) | (with_reducible apply pw_below_drewN) | (with_reducible apply below_drew1) | ((with_reducible refine Below.setCell ?_ ?hs _); (case hs => first | (simp; done) | (simp; omega))) | ((with_reducible refine Below.alloc ?_ ?hs _); (case hs => first | (simp; done) | (simp; omega))))
  | true =>
    rw [hv, if_pos rfl] at h
    have HV := Aside0.mk (show impl_elementsOk.f l0 4 = some true by unfold impl_elementsOk.f; rw [← vok_bool, hv])
    obtain ⟨h4, _⟩ := Lin.vok_iff.1 hv
    clear hv
    match l0, h4 with
    | [a0, a1, a2, a3], _ =>
      simp only [Option.some.injEq, Prod.mk.injEq] at h
      obtain ⟨h1, h2, h3, h4, h5⟩ := h
      have e1 : a0 = r1 := h1
      have e2 : a1 = r2 := h2
      have e3 : a2 = r3 := h3
      have e4 : a3 = r4 := h4
      subst e1 e2 e3 e4 h5
      clear h1 h2 h3 h4
      obtain ⟨ad, e, hx0⟩ := Kd.at_int HR.out 0 (by omega) (by simp)
      cases e
      obtain ⟨ad', e, hx1⟩ := Kd.at_int HR.out 1 (by omega) (by simp)
      cases e
      obtain ⟨ad', e, hx2⟩ := Kd.at_int HR.out 2 (by omega) (by simp)
      cases e
      obtain ⟨ad', e, hx3⟩ := Kd.at_int HR.out 3 (by omega) (by simp)
      cases e
      replace hx0 : w.cell? (ad.add 0) = some (.int .i64 a0) := hx0
      replace hx1 : w.cell? ⟨ad.block, ad.off + 1, none⟩ = some (.int .i64 a1) := hx1
      replace hx2 : w.cell? ⟨ad.block, ad.off + 2, none⟩ = some (.int .i64 a2) := hx2
      replace hx3 : w.cell? ⟨ad.block, ad.off + 3, none⟩ = some (.int .i64 a3) := hx3
      rw [show ad.add 0 = ad from rfl] at hx0
      have hlt : ad.block < w.heap.size := World.block_lt_of_cell? w _ hx0
      go_enter Try.func59, Try.ntmps59
      go_wp2_with (go_at_call 98; refine (impl_elementsOk.calls _ _ [a0, a1, a2, a3] _ _ _ ?side1 HC.out HV.out).mono ?_; (case side1 => repeat (first | exact HR.out | (with_reducible refine Kd.C_alloc ?_ _) | (with_reducible refine Kd.C_drewN ?_ _) | (with_reducible refine Kd.C_drew ?_))); rintro e w' ⟨rfl, ⟨nd, rfl⟩⟩)
      refine wp_loop_rounds 5 ?_
      iterate 5 (rw [rounds_succ]; go_wp2)
      refine bodyPost_ret (v := .tuple #[.agg #[.int .i64 a0, .int .i64 a1, .int .i64 a2, .int .i64 a3], .bool true]) (by simp [results, Try.results59, go_sem]) rfl ⟨rfl, ?_⟩
      repeat (first | (with_reducible exact Below.refl _ _) | (with_reducible apply pw_below_drewN) | (with_reducible apply below_drew1) | ((with_reducible refine Below.setCell ?_ ?hs _); (case hs => first | (simp; done) | (simp; omega))) | ((with_reducible refine Below.alloc ?_ ?hs _); (case hs => first | (simp; done) | (simp; omega))))
/-- make([]T, n, c) -/
theorem run_make_rowN {P : Program} (t e : TypeId) (i : TypeInfo) (z : Value) (ht : P.underlying t = some (.slice e)) (hi : P.info? e = some i) (hz : i.zero = some z)
    (kl kc : IntKind) (n c : Nat) (hnc : n ≤ c) (hbytes : i.bytes * c ≤ 281474976710656) (h63 : c ≤ 9223372036854775807) (w : World) :
    (Instr.makeSlice t (.int kl (n : Int)) (.int kc (c : Int))).run P w = .ok (.slice (some ⟨w.heap.size, 0, none⟩) n c) (w.alloc (.cells (madeCells z.cells (c * i.size)) e)) := by
  have hb : (i.bytes : Int) * (c : Int) ≤ 281474976710656 := by
    have h : ((i.bytes * c : Nat) : Int) ≤ 281474976710656 := by omega
    rwa [Int.natCast_mul] at h
  have hr := run_make (P := P) w t e i z ht hi hz kl kc n c (by omega) (by omega) hb (by omega)
  simp only [Int.toNat_natCast] at hr
  exact hr
/-- a row of the call's own: no element yet, some capacity -/
theorem R_room {α : Type} (d : Kd α) (e : Nat) (w : World) (base c : Nat) (cs : Array Value) (hc : c ≤ maxLen) (hs : cs.size = c * d.sz) (hb : base ≤ w.heap.size) : d.R e (w.alloc (.cells cs e)) base (fun _ => True) (.slice (some ⟨w.heap.size, 0, none⟩) 0 c) [] := by
  refine ⟨fun _ _ => trivial, [], ⟨by simp, .inr ⟨w.heap.size, c, cs, rfl, hb, by simpa using heap_alloc_new w (.cells cs e), Nat.zero_le _, hc, hs, by simp⟩⟩, Reps.none _ _⟩
theorem make_i64 (c : Nat) (hc : c ≤ 1048576) (w : World) : (Instr.makeSlice 28 (.int .i64 0) (.int .i64 (c : Int))).run Try.prog w = .ok (.slice (some ⟨w.heap.size, 0, none⟩) 0 c) (w.alloc (.cells (madeCells #[.int .i64 0] c) 3)) := by
  obtain ⟨i0, hi, hzz⟩ := Option.map_eq_some_iff.1 info3
  simp only [Prod.mk.injEq] at hzz
  obtain ⟨hz0, hz1, hz2⟩ := hzz
  have := run_make_rowN (P := Try.prog) 28 3 i0 (.int .i64 0) Try.underlying28 hi hz0 .i64 .i64 0 c (Nat.zero_le _) (by rw [hz2]; omega) (by omega) w
  rw [hz1, Nat.mul_one] at this
  exact this
set_option maxHeartbeats 2000000 in
set_option maxRecDepth 20000 in
theorem impl_vector_list.calls (a0_0 : Int) (a0_1 : Int) (a0_2 : Int) (a0_3 : Int) (r : List Int) (w : World) (h : impl_vector_list.f a0_0 a0_1 a0_2 a0_3 = some r) :
    Calls Try.prog 55 #[.agg #[.int .i64 a0_0, .int .i64 a0_1, .int .i64 a0_2, .int .i64 a0_3]] w fun e w' => ∃ v0_ : Value, e = .returned (v0_) ∧ Kd.R (Kd.int .i64) 3 w' w.heap.size (fun _ => True) v0_ r ∧ Below w.heap.size w w' := by
  obtain rfl := Option.some.inj h
  clear h
  have hmk : ∀ w, (Instr.makeSlice 28 (.int .i64 0) (.int .i64 4)).run Try.prog w = .ok (.slice (some ⟨w.heap.size, 0, none⟩) 0 4) (w.alloc (.cells (madeCells #[.int .i64 0] 4) 3)) := make_i64 4 (by decide)
  have i0 : ∀ w, (Instr.index 70 (.agg #[.int .i64 a0_0, .int .i64 a0_1, .int .i64 a0_2, .int .i64 a0_3]) (.int .i64 0)).run Try.prog w = .ok (.int .i64 a0_0) w := fun _ => by kernel_rfl
  have i1 : ∀ w, (Instr.index 70 (.agg #[.int .i64 a0_0, .int .i64 a0_1, .int .i64 a0_2, .int .i64 a0_3]) (.int .i64 1)).run Try.prog w = .ok (.int .i64 a0_1) w := fun _ => by kernel_rfl
  have i2 : ∀ w, (Instr.index 70 (.agg #[.int .i64 a0_0, .int .i64 a0_1, .int .i64 a0_2, .int .i64 a0_3]) (.int .i64 2)).run Try.prog w = .ok (.int .i64 a0_2) w := fun _ => by kernel_rfl
  have i3 : ∀ w, (Instr.index 70 (.agg #[.int .i64 a0_0, .int .i64 a0_1, .int .i64 a0_2, .int .i64 a0_3]) (.int .i64 3)).run Try.prog w = .ok (.int .i64 a0_3) w := fun _ => by kernel_rfl
  go_enter Try.func55, Try.ntmps55
  go_wp2_with fail
  have HB := Aside0.mk (show Below w.heap.size w (w.alloc (.cells #[.int .i64 a0_0, .int .i64 a0_1, .int .i64 a0_2, .int .i64 a0_3] 70)) from (Below.refl _ _).alloc (Nat.le_refl _) _)
  have HB := Aside0.mk (HB.out.alloc (by simp) (.cells (madeCells #[.int .i64 0] 4) 3))
  have HO := Aside0.mk (show Kd.R (Kd.int .i64) 3 ((w.alloc (.cells #[.int .i64 a0_0, .int .i64 a0_1, .int .i64 a0_2, .int .i64 a0_3] 70)).alloc (.cells (madeCells #[.int .i64 0] 4) 3)) w.heap.size (fun _ => True) (.slice (some ⟨w.heap.size + 1, 0, none⟩) 0 4) [] from by
    have := R_room (Kd.int .i64) 3 (w.alloc (.cells #[.int .i64 a0_0, .int .i64 a0_1, .int .i64 a0_2, .int .i64 a0_3] 70)) w.heap.size 4 (madeCells #[.int .i64 0] 4) (by decide) (by simp [size_madeCells]; rfl) (by simp)
    simpa using this)
  generalize ((w.alloc (.cells #[.int .i64 a0_0, .int .i64 a0_1, .int .i64 a0_2, .int .i64 a0_3] 70)).alloc (.cells (madeCells #[.int .i64 0] 4) 3)) = W at HB HO ⊢
  generalize Value.slice (some ⟨w.heap.size + 1, 0, none⟩) 0 4 = V at HO ⊢
  have HSz := Aside0.mk HB.out.size
  refine wp_loop_rounds 5 ?_
  rw [rounds_succ]
  go_wp2_with (first | ((with_reducible refine gate_builtin (b := .append) (xs := #[.tmp 11, .tmp 13]) rfl ?_); at_builtin; refine Kd.R_append (Kd.int .i64) (w0 := w) w.heap.size rfl (.tmp 11) (.tmp 13) 28 3 (.int .i64 0) 8 rfl Try.underlying28 info3 rfl (by decide) (by omega) _ [] a0_0 [.int .i64 a0_0] (fun _ => True) (fun _ => False) rfl rfl ?aP (fun _ hk => hk.elim) ?aF ?aO ?aB ?aS ?aL ?_; (case aP => exact rfl); (case aF => exact (fun _ _ => trivial)); (case aO => exact HO.out); (case aB => exact HB.out); (case aS => exact HSz.out); (case aL => simp); intro v1 w1 ho hb hg hat; simp only [List.nil_append, List.cons_append] at ho; have n0_ := Aside0.mk (hb); have n1_ := Aside0.mk (ho); have n2_ := Aside0.mk (hb.size); clear HB HO HSz; have HB := n0_; have HO := n1_; have HSz := n2_; clear n0_ n1_ n2_; clear ho hb hg hat))
  rw [rounds_succ]
  go_wp2_with (first | ((with_reducible refine gate_builtin (b := .append) (xs := #[.tmp 11, .tmp 13]) rfl ?_); at_builtin; refine Kd.R_append (Kd.int .i64) (w0 := w) w.heap.size rfl (.tmp 11) (.tmp 13) 28 3 (.int .i64 0) 8 rfl Try.underlying28 info3 rfl (by decide) (by omega) _ [a0_0] a0_1 [.int .i64 a0_1] (fun _ => True) (fun _ => False) rfl rfl ?aP (fun _ hk => hk.elim) ?aF ?aO ?aB ?aS ?aL ?_; (case aP => exact rfl); (case aF => exact (fun _ _ => trivial)); (case aO => exact HO.out); (case aB => exact HB.out); (case aS => exact HSz.out); (case aL => simp); intro v1 w1 ho hb hg hat; simp only [List.nil_append, List.cons_append] at ho; have n0_ := Aside0.mk (hb); have n1_ := Aside0.mk (ho); have n2_ := Aside0.mk (hb.size); clear HB HO HSz; have HB := n0_; have HO := n1_; have HSz := n2_; clear n0_ n1_ n2_; clear ho hb hg hat))
  rw [rounds_succ]
  go_wp2_with (first | ((with_reducible refine gate_builtin (b := .append) (xs := #[.tmp 11, .tmp 13]) rfl ?_); at_builtin; refine Kd.R_append (Kd.int .i64) (w0 := w) w.heap.size rfl (.tmp 11) (.tmp 13) 28 3 (.int .i64 0) 8 rfl Try.underlying28 info3 rfl (by decide) (by omega) _ [a0_0, a0_1] a0_2 [.int .i64 a0_2] (fun _ => True) (fun _ => False) rfl rfl ?aP (fun _ hk => hk.elim) ?aF ?aO ?aB ?aS ?aL ?_; (case aP => exact rfl); (case aF => exact (fun _ _ => trivial)); (case aO => exact HO.out); (case aB => exact HB.out); (case aS => exact HSz.out); (case aL => simp); intro v1 w1 ho hb hg hat; simp only [List.nil_append, List.cons_append] at ho; have n0_ := Aside0.mk (hb); have n1_ := Aside0.mk (ho); have n2_ := Aside0.mk (hb.size); clear HB HO HSz; have HB := n0_; have HO := n1_; have HSz := n2_; clear n0_ n1_ n2_; clear ho hb hg hat))
  rw [rounds_succ]
  go_wp2_with (first | ((with_reducible refine gate_builtin (b := .append) (xs := #[.tmp 11, .tmp 13]) rfl ?_); at_builtin; refine Kd.R_append (Kd.int .i64) (w0 := w) w.heap.size rfl (.tmp 11) (.tmp 13) 28 3 (.int .i64 0) 8 rfl Try.underlying28 info3 rfl (by decide) (by omega) _ [a0_0, a0_1, a0_2] a0_3 [.int .i64 a0_3] (fun _ => True) (fun _ => False) rfl rfl ?aP (fun _ hk => hk.elim) ?aF ?aO ?aB ?aS ?aL ?_; (case aP => exact rfl); (case aF => exact (fun _ _ => trivial)); (case aO => exact HO.out); (case aB => exact HB.out); (case aS => exact HSz.out); (case aL => simp); intro v1 w1 ho hb hg hat; simp only [List.nil_append, List.cons_append] at ho; have n0_ := Aside0.mk (hb); have n1_ := Aside0.mk (ho); have n2_ := Aside0.mk (hb.size); clear HB HO HSz; have HB := n0_; have HO := n1_; have HSz := n2_; clear n0_ n1_ n2_; clear ho hb hg hat))
  rw [rounds_succ]
  go_wp2_with fail
  go_ret
  exact ⟨_, rfl, HO.out, HB.out⟩

/-! ### where a vector begins -/
theorem g_lead1 (a : Int) (w : World) : Calls Try.prog 100 #[.int .i64 a] w fun e w' => e = .returned (.bool (a != 0)) ∧ w = w' := by
  go_enter Try.func100, Try.ntmps100
  go_wp2
  go_ret
  exact ⟨rfl, rfl⟩
set_option maxHeartbeats 1000000 in
theorem g_IndexLead (b : Nat) (a0 a1 a2 a3 : Int) (w : World) (h0 : w.cell? ⟨b, 0, none⟩ = some (.int .i64 a0)) (h1 : w.cell? ⟨b, 1, none⟩ = some (.int .i64 a1)) (h2 : w.cell? ⟨b, 2, none⟩ = some (.int .i64 a2)) (h3 : w.cell? ⟨b, 3, none⟩ = some (.int .i64 a3)) :
    Calls Try.prog 99 #[.slice (some ⟨b, 0, none⟩) 4 4, .func (.func 100) #[] #[]] w fun e w' => e = .returned (.int .i64 (Lin.llead [a0, a1, a2, a3])) ∧ w = w' := by
  have key : Lin.llead [a0, a1, a2, a3] = if a0 ≠ 0 then 0 else if a1 ≠ 0 then 1 else if a2 ≠ 0 then 2 else if a3 ≠ 0 then 3 else -1 := by
    unfold Lin.llead
    by_cases e0 : a0 = 0
    · by_cases e1 : a1 = 0
      · by_cases e2 : a2 = 0
        · by_cases e3 : a3 = 0
          · simp [List.findIdx?_cons, e0, e1, e2, e3]
          · simp [List.findIdx?_cons, e0, e1, e2, e3]
        · simp [List.findIdx?_cons, e0, e1, e2]
      · simp [List.findIdx?_cons, e0, e1]
    · simp [List.findIdx?_cons, e0]
  rw [key]
  clear key
  by_cases e0 : a0 = 0
  · subst e0
    by_cases e1 : a1 = 0
    · subst e1
      by_cases e2 : a2 = 0
      · subst e2
        by_cases e3 : a3 = 0
        · subst e3
          go_enter Try.func99, Try.ntmps99
          go_wp2
          refine wp_loop_rounds 5 ?_
          iterate 5 (rw [rounds_succ]; go_wp2_with (go_at_call 100; refine (g_lead1 _ _).mono ?_; rintro e w' ⟨rfl, rfl⟩))
          go_ret
          exact ⟨rfl, rfl⟩
        · have n3 : (a3 != 0) = true := bne_iff_ne.2 e3
          go_enter Try.func99, Try.ntmps99
          go_wp2
          refine wp_loop_rounds 4 ?_
          iterate 4 (rw [rounds_succ]; go_wp2_with (go_at_call 100; refine (g_lead1 _ _).mono ?_; rintro e w' ⟨rfl, rfl⟩))
          go_ret
          exact ⟨by simp [e3], rfl⟩
      · have n2 : (a2 != 0) = true := bne_iff_ne.2 e2
        go_enter Try.func99, Try.ntmps99
        go_wp2
        refine wp_loop_rounds 3 ?_
        iterate 3 (rw [rounds_succ]; go_wp2_with (go_at_call 100; refine (g_lead1 _ _).mono ?_; rintro e w' ⟨rfl, rfl⟩))
        go_ret
        exact ⟨by simp [e2], rfl⟩
    · have n1 : (a1 != 0) = true := bne_iff_ne.2 e1
      go_enter Try.func99, Try.ntmps99
      go_wp2
      refine wp_loop_rounds 2 ?_
      iterate 2 (rw [rounds_succ]; go_wp2_with (go_at_call 100; refine (g_lead1 _ _).mono ?_; rintro e w' ⟨rfl, rfl⟩))
      go_ret
      exact ⟨by simp [e1], rfl⟩
  · have n0 : (a0 != 0) = true := bne_iff_ne.2 e0
    go_enter Try.func99, Try.ntmps99
    go_wp2
    refine wp_loop_rounds 1 ?_
    iterate 1 (rw [rounds_succ]; go_wp2_with (go_at_call 100; refine (g_lead1 _ _).mono ?_; rintro e w' ⟨rfl, rfl⟩))
    go_ret
    exact ⟨by simp [e0], rfl⟩
theorem impl_vector_lead.calls (a0_0 : Int) (a0_1 : Int) (a0_2 : Int) (a0_3 : Int) (r : Int) (w : World) (h : impl_vector_lead.f a0_0 a0_1 a0_2 a0_3 = some r) :
    Calls Try.prog 60 #[.agg #[.int .i64 a0_0, .int .i64 a0_1, .int .i64 a0_2, .int .i64 a0_3]] w fun e w' => e = .returned (.int .i64 r) ∧ Below w.heap.size w w' := by
  obtain rfl := Option.some.inj h
  clear h
  generalize hz : Lin.llead [a0_0, a0_1, a0_2, a0_3] = z
  have HZ := Aside0.mk hz
  clear hz
  go_enter Try.func60, Try.ntmps60
  go_wp2_with (go_at_call 99; refine (g_IndexLead _ a0_0 a0_1 a0_2 a0_3 _ (by simp) (by simp) (by simp) (by simp)).mono ?_; rintro e w' ⟨rfl, rfl⟩; rw [HZ.out])
  go_ret
  exact ⟨rfl, (Below.refl _ _).alloc (Nat.le_refl _) _⟩
end Go.Proofs.Ytamaejafddmagaa.PA
