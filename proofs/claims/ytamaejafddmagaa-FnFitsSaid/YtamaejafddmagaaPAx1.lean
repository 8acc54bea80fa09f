import Derived.Test.YtamaejafddmagaaPAx0
import Derived.Test.YtamaejafddmagaaGw
import Derived.Test.YtamaejafddmagaaGm
import Derived.Test.YtamaejafddmagaaGc
namespace Go.Proofs.Ytamaejafddmagaa.PA
open Go.RowKit Go.Proofs.YtamaejafddmagaaW.PrintWords Go.Proofs.YtamaejafddmagaaW.PrintLast Go.Proofs.YtamaejafddmagaaW.PrintMore
attribute [local go_sem] max2_int min2_int max_two min_two max_three min_three max_four min_four   -- for this text's walks alone
set_option linter.unusedVariables false
set_option linter.unusedSimpArgs false

/-! ### impl_within: function 107 -/
theorem zL1 {p q : Prop} (h : q) (t : q → p := by intro h_; (with_reducible repeat first|refine blk_drewN ?_ _|refine blk_drew ?_|refine blk_alloc ?_ _); exact h_) : p := t h
theorem z1_1 {p : Prop} (h : p := by (try simp only [List.map_toArray, List.map_cons, List.map_nil]); first | done | rfl | (simp only [List.length_drop, List.length_take]; rfl)) : p := h
theorem z1_2 {p : Prop} (h : p := by repeat (first | (with_reducible first | exact HB.out | apply below_alloc | apply pw_below_drewN | apply below_drew1 | refine below_set ?_ GE102.out | refine below_set ?_ GE103.out | refine below_set ?_ GE104.out) | exact HB.out)) : p := h
theorem z1_3 {p : Prop} (h : p := by repeat (first | (with_reducible first | exact HB.out | apply below_alloc | apply pw_below_drewN | apply below_drew1 | refine below_set ?_ GE102.out | refine below_set ?_ GE103.out) | exact HB.out)) : p := h
theorem z1_4 {p : Prop} (h : p := by repeat (first | (with_reducible first | exact HB.out | apply below_alloc | apply pw_below_drewN | apply below_drew1 | refine below_set ?_ GE102.out) | exact HB.out)) : p := h
theorem z1_5 {p : Prop} (h : p := by repeat (first | exact Drawn0.refl _ | apply Drawn0.step)) : p := h
theorem z1_6 {p : Prop} (h : p := by repeat (first | (with_reducible first | exact HB.out | apply below_alloc | apply pw_below_drewN | apply below_drew1) | exact HB.out)) : p := h
theorem z1_7 {p : Prop} (h : p := by first | rfl | (simp; done) | (simp [*]; done)) : p := h
def impl_within.f (a0 : Int) (a1 : Int) (a2 : Int) : Option (Bool) := if a0 ≥ a1 then (some (decide (a0 ≤ a2))) else (some false)
set_option maxHeartbeats 8000000 in
set_option maxRecDepth 100000 in
theorem impl_within.calls (a0 : Int) (a1 : Int) (a2 : Int) (r : Bool) (w : World) (h : impl_within.f a0 a1 a2 = some r) :
  Calls Try.prog 107 #[.int .i64 a0, .int .i64 a1, .int .i64 a2] w fun e w' => e = .returned (.bool r) ∧ Drawn0 w w' := by
 unfold impl_within.f at h
 have H := h
 clear h
 by_cases c4 : a0 ≥ a1
 ·rw [if_pos c4] at H
  have c4b0 : decide (a1 ≤ a0) = true := decide_eq_true c4; clear c4
  obtain rfl := Option.some.inj H
  go_enter Try.func107, Try.ntmps107
  go_wp2
  go_ret; exact ⟨z1_7, z1_5⟩
 ·rw [if_neg c4] at H
  have c4b0 : decide (a1 ≤ a0) = false := decide_eq_false c4; clear c4
  obtain rfl := Option.some.inj H
  go_enter Try.func107, Try.ntmps107
  go_wp2
  go_ret; exact ⟨z1_7, z1_5⟩

/-! ### impl_kindOk: function 68 -/
def impl_kindOk.f (a0 : Int) : Option (Bool) := (impl_within.f a0 1 2).bind fun t101 => (some t101)
set_option maxHeartbeats 8000000 in
set_option maxRecDepth 100000 in
theorem impl_kindOk.calls (a0 : Int) (r : Bool) (w : World) (h : impl_kindOk.f a0 = some r) :
  Calls Try.prog 68 #[.int .i64 a0] w fun e w' => e = .returned (.bool r) ∧ Drawn0 w w' := by
 unfold impl_kindOk.f at h
 have H := h
 clear h
 replace H := Option.bind_eq_some_iff.mp H
 obtain ⟨t101, A20, H⟩ := H
 have A2 := Aside0.mk A20
 clear A20
 obtain rfl := Option.some.inj H
 go_enter Try.func68, Try.ntmps68
 go_wp2_with (first | ((with_reducible refine gate_callee (f := 107) rfl ?_); refine goesL_ (some 4) rfl rfl Try.func107 (by kernel_rfl) rfl #[.int .i64 a0, .int .i64 1, .int .i64 2] rfl z1_1 ?_; (with_reducible refine (impl_within.calls a0 1 2 t101 _ A2.out).mono ?_); rintro e w' ⟨rfl, ⟨nd, rfl⟩⟩; refine ⟨_, rfl, ?_⟩))
 go_ret
 exact ⟨z1_7, z1_5⟩

-- GIVEN: function 60 (impl_vector_lead)

-- GIVEN: function 93 (impl_vector_times)

/-! ### impl_elementOf: function 118 -/
def impl_elementOf.f (a0 : Int) : Option (Int) := some (Int.tmod (wrap64 ((Int.tmod a0 31) + 31)) 31)
set_option maxHeartbeats 8000000 in
set_option maxRecDepth 100000 in
theorem impl_elementOf.calls (a0 : Int) (r : Int) (w : World) (h : impl_elementOf.f a0 = some r) :
  Calls Try.prog 118 #[.int .i64 a0] w fun e w' => e = .returned (.int .i64 r) ∧ Drawn0 w w' := by
 unfold impl_elementOf.f at h
 have H := h
 clear h
 obtain rfl := Option.some.inj H
 go_enter Try.func118, Try.ntmps118
 go_wp2
 go_ret
 exact ⟨z1_7, z1_5⟩

-- GIVEN: function 119 (impl_vector_plus)

/-! ### impl_vector_minus: function 92 -/
def impl_vector_minus.f (a0_0 : Int) (a0_1 : Int) (a0_2 : Int) (a0_3 : Int) (a1_0 : Int) (a1_1 : Int) (a1_2 : Int) (a1_3 : Int) : Option (Int × Int × Int × Int) := (impl_elementOf.f (-1)).bind fun t105 => ((impl_vector_times.f a1_0 a1_1 a1_2 a1_3 t105).bind fun bt106 => ((impl_vector_plus.f a0_0 a0_1 a0_2 a0_3 bt106.1 bt106.2.1 bt106.2.2.1 bt106.2.2.2).bind fun bt110 => (some (bt110.1, bt110.2.1, bt110.2.2.1, bt110.2.2.2))))
set_option maxHeartbeats 8000000 in
set_option maxRecDepth 100000 in
theorem impl_vector_minus.calls (a0_0 : Int) (a0_1 : Int) (a0_2 : Int) (a0_3 : Int) (a1_0 : Int) (a1_1 : Int) (a1_2 : Int) (a1_3 : Int) (r1 : Int) (r2 : Int) (r3 : Int) (r4 : Int) (w : World) (h : impl_vector_minus.f a0_0 a0_1 a0_2 a0_3 a1_0 a1_1 a1_2 a1_3 = some (r1, r2, r3, r4)) :
  Calls Try.prog 92 #[.agg #[.int .i64 a0_0, .int .i64 a0_1, .int .i64 a0_2, .int .i64 a0_3], .agg #[.int .i64 a1_0, .int .i64 a1_1, .int .i64 a1_2, .int .i64 a1_3]] w fun e w' => e = .returned (.agg #[.int .i64 r1, .int .i64 r2, .int .i64 r3, .int .i64 r4]) ∧ Below w.heap.size w w' := by
 have hu70 := Try.underlying70
 have HB := Aside0.mk (Below.refl w.heap.size w)
 unfold impl_vector_minus.f at h
 have H := h
 clear h
 replace H := Option.bind_eq_some_iff.mp H
 obtain ⟨t105, A30, H⟩ := H
 have A3 := Aside0.mk A30
 clear A30
 replace H := Option.bind_eq_some_iff.mp H
 obtain ⟨⟨t106, t107, t108, t109⟩, A40, H⟩ := H
 dsimp only at H
 have A4 := Aside0.mk A40
 clear A40
 replace H := Option.bind_eq_some_iff.mp H
 obtain ⟨⟨t110, t111, t112, t113⟩, A50, H⟩ := H
 dsimp only at H
 have A5 := Aside0.mk A50
 clear A50
 simp only [Option.some.injEq, Prod.mk.injEq] at H
 obtain ⟨rfl, rfl, rfl, rfl⟩ := H
 go_enter Try.func92, Try.ntmps92
 try go_wp2_with (first | ((with_reducible refine gate_dst (N := 2) rfl ?_); refine box_event ?hg (N := 2) ?hd (cs := #[.int .i64 a0_0, .int .i64 a0_1, .int .i64 a0_2, .int .i64 a0_3]) (t := 70) ?hr ?_; (case hd => rfl); (case hg => rfl); (case hr => first | (go_simp; done) | (go_simp; rfl)); intro gb102 hg w6 hbox hb; have BK102 := Aside0.mk (hbox); have GW102 := Aside0.mk ((by rw [hg]; exact (below_size z1_6) : w.heap.size ≤ gb102)); have GE102 := Aside0.mk ((by rw [hg]; exact (below_size z1_6) : w.heap.size ≤ gb102)); replace HB := Aside0.mk (below_step z1_6 hb); clear hb hbox hg) | ((with_reducible refine gate_dst (N := 3) rfl ?_); refine box_event ?hg (N := 3) ?hd (cs := #[.int .i64 a1_0, .int .i64 a1_1, .int .i64 a1_2, .int .i64 a1_3]) (t := 70) ?hr ?_; (case hd => rfl); (case hg => rfl); (case hr => first | (go_simp; done) | (go_simp; rfl)); intro gb103 hg w7 hbox hb; have BK103 := Aside0.mk (hbox); have GW103 := Aside0.mk ((by rw [hg]; exact (below_size z1_4) : w.heap.size ≤ gb103)); have GE103 := Aside0.mk ((by rw [hg]; exact (below_size z1_4) : w.heap.size ≤ gb103)); replace HB := Aside0.mk (below_step z1_4 hb); have NB102_103 := Aside0.mk ((by rw [hg]; exact bLZ_ BK102 : gb102 ≠ gb103)); have NB103_102 := Aside0.mk ((by rw [hg]; exact bGZ_ BK102 : gb103 ≠ gb102)); replace BK102 := bBZ_ BK102 hb; clear hb hbox hg) | ((with_reducible refine gate_dst (N := 4) rfl ?_); refine box_event ?hg (N := 4) ?hd (cs := #[.int .i64 0, .int .i64 0, .int .i64 0, .int .i64 0]) (t := 70) ?hr ?_; (case hd => rfl); (case hg => rfl); (case hr => first | (go_simp; done) | (go_simp; rfl)); intro gb104 hg w8 hbox hb; have BK104 := Aside0.mk (hbox); have GW104 := Aside0.mk ((by rw [hg]; exact (below_size z1_3) : w.heap.size ≤ gb104)); have GE104 := Aside0.mk ((by rw [hg]; exact (below_size z1_3) : w.heap.size ≤ gb104)); replace HB := Aside0.mk (below_step z1_3 hb); have aa := Aside0.mk ((by rw [hg]; exact bLZ_ BK102 : gb102 ≠ gb104)); have ac := Aside0.mk ((by rw [hg]; exact bGZ_ BK102 : gb104 ≠ gb102)); replace BK102 := bBZ_ BK102 hb; have ab := Aside0.mk ((by rw [hg]; exact bLZ_ BK103 : gb103 ≠ gb104)); have ad := Aside0.mk ((by rw [hg]; exact bGZ_ BK103 : gb104 ≠ gb103)); replace BK103 := bBZ_ BK103 hb; clear hb hbox hg))
 replace BK102 := Aside0.mk (blk_drew BK102.out)
 replace BK103 := Aside0.mk (blk_drew BK103.out)
 replace BK104 := Aside0.mk (blk_drew BK104.out)
 replace HB := Aside0.mk (below_drew1 HB.out)
 refine start_ (n := 6) (S := fun w' => w'.cell? ⟨gb102, 0, none⟩ = some (.int .i64 a0_0) ∧ w'.cell? ⟨gb102, 1, none⟩ = some (.int .i64 a0_1) ∧ w'.cell? ⟨gb102, 2, none⟩ = some (.int .i64 a0_2) ∧ w'.cell? ⟨gb102, 3, none⟩ = some (.int .i64 a0_3) ∧ w'.cell? ⟨gb103, 0, none⟩ = some (.int .i64 a1_0) ∧ w'.cell? ⟨gb103, 1, none⟩ = some (.int .i64 a1_1) ∧ w'.cell? ⟨gb103, 2, none⟩ = some (.int .i64 a1_2) ∧ w'.cell? ⟨gb103, 3, none⟩ = some (.int .i64 a1_3)) (ds := []) #[false, false, false, false, false, false] (by kernel_rfl) rfl rfl ⟨(blk_cell BK102.out 0).trans rfl, (blk_cell BK102.out 1).trans rfl, (blk_cell BK102.out 2).trans rfl, (blk_cell BK102.out 3).trans rfl, (blk_cell BK103.out 0).trans rfl, (blk_cell BK103.out 1).trans rfl, (blk_cell BK103.out 2).trans rfl, (blk_cell BK103.out 3).trans rfl⟩ (fun hHeld => ?_)
 generalize w8.drew = w9 at BK102 BK103 BK104 HB hHeld ⊢
 refine take_ (i := 0) (N := some 5) (v := ?_) (a' := ?_) #[true, false, false, false, false, false] rfl rfl (by kernel_rfl) (fun _ _ _ h => h) (Or.inl ⟨by rfl, ?_⟩) hHeld ?_ ?_
 rotate_left
 ·rintro w' ⟨s0, s1, s2, s3, s4, s5, s6, s7⟩
  go_simp
  with_reducible rfl
 rotate_left
 ·simp only [Act.put, List.setIfInBounds_toArray, List.set_cons_zero, List.set_cons_succ, i64_w, i32_w]
  rfl
 refine take_ (i := 1) (N := some 6) (v := ?_) (a' := ?_) #[true, true, false, false, false, false] rfl rfl (by kernel_rfl) (fun _ _ _ h => h) (Or.inl ⟨by rfl, ?_⟩) hHeld ?_ ?_
 rotate_left
 ·rintro w' ⟨s0, s1, s2, s3, s4, s5, s6, s7⟩
  go_simp
  with_reducible rfl
 rotate_left
 ·simp only [Act.put, List.setIfInBounds_toArray, List.set_cons_zero, List.set_cons_succ, i64_w, i32_w]
  rfl
 refine one_ (i := 2) (N := some 7) #[true, true, true, false, false, false] rfl rfl (by kernel_rfl) (by decide) (fun K hK => ?_)
 refine goes_ Try.func118 (by kernel_rfl) rfl #[.int .i64 (-1)] (by rfl) rfl rfl z1_1 ?_
 with_reducible refine (impl_elementOf.calls (-1) t105 _ A3.out).mono ?_
 rintro e w' ⟨rfl, ⟨nd, rfl⟩⟩
 refine ⟨_, rfl, ?_⟩
 refine hK.out _ _ ⟨(blk_cell BK102.out 0).trans rfl, (blk_cell BK102.out 1).trans rfl, (blk_cell BK102.out 2).trans rfl, (blk_cell BK102.out 3).trans rfl, (blk_cell BK103.out 0).trans rfl, (blk_cell BK103.out 1).trans rfl, (blk_cell BK103.out 2).trans rfl, (blk_cell BK103.out 3).trans rfl⟩ (fun hHeld => ?_)
 clear hK K
 refine nZ ?_
 refine one_ (i := 3) (N := some 8) #[true, true, true, true, false, false] rfl rfl (by kernel_rfl) (by decide) (fun K hK => ?_)
 refine goes_ Try.func93 (by kernel_rfl) rfl #[.agg #[.int .i64 a1_0, .int .i64 a1_1, .int .i64 a1_2, .int .i64 a1_3], .int .i64 t105] (by rfl) rfl rfl z1_1 ?_
 with_reducible refine (impl_vector_times.calls a1_0 a1_1 a1_2 a1_3 t105 t106 t107 t108 t109 _ A4.out).mono ?_
 rintro e w10 ⟨rfl, hb⟩
 refine ⟨_, rfl, ?_⟩
 replace BK102 := bBZ_ BK102 hb
 replace BK103 := bBZ_ BK103 hb
 replace BK104 := bBZ_ BK104 hb
 replace HB := Aside0.mk (below_step z1_2 hb)
 (try clear hb)
 (try clear hb2)
 (try clear hk)
 (try clear hi)
 refine hK.out _ _ ⟨(blk_cell BK102.out 0).trans rfl, (blk_cell BK102.out 1).trans rfl, (blk_cell BK102.out 2).trans rfl, (blk_cell BK102.out 3).trans rfl, (blk_cell BK103.out 0).trans rfl, (blk_cell BK103.out 1).trans rfl, (blk_cell BK103.out 2).trans rfl, (blk_cell BK103.out 3).trans rfl⟩ (fun hHeld => ?_)
 clear hK K
 refine nZ ?_
 refine one_ (i := 4) (N := some 9) #[true, true, true, true, true, false] rfl rfl (by kernel_rfl) (by decide) (fun K hK => ?_)
 refine goes_ Try.func119 (by kernel_rfl) rfl #[.agg #[.int .i64 a0_0, .int .i64 a0_1, .int .i64 a0_2, .int .i64 a0_3], .agg #[.int .i64 t106, .int .i64 t107, .int .i64 t108, .int .i64 t109]] (by rfl) rfl rfl z1_1 ?_
 with_reducible refine (impl_vector_plus.calls a0_0 a0_1 a0_2 a0_3 t106 t107 t108 t109 t110 t111 t112 t113 _ A5.out).mono ?_
 rintro e w11 ⟨rfl, hb⟩
 refine ⟨_, rfl, ?_⟩
 replace BK102 := bBZ_ BK102 hb
 replace BK103 := bBZ_ BK103 hb
 replace BK104 := bBZ_ BK104 hb
 replace HB := Aside0.mk (below_step z1_2 hb)
 (try clear hb)
 (try clear hb2)
 (try clear hk)
 (try clear hi)
 refine hK.out _ _ ⟨(blk_cell BK102.out 0).trans rfl, (blk_cell BK102.out 1).trans rfl, (blk_cell BK102.out 2).trans rfl, (blk_cell BK102.out 3).trans rfl, (blk_cell BK103.out 0).trans rfl, (blk_cell BK103.out 1).trans rfl, (blk_cell BK103.out 2).trans rfl, (blk_cell BK103.out 3).trans rfl⟩ (fun hHeld => ?_)
 clear hK K
 refine nZ ?_
 refine one_ (i := 5) (N := none) #[true, true, true, true, true, true] rfl rfl (by kernel_rfl) (by decide) (fun K hK => ?_)
 have hs12 : w11.cell? ⟨gb104, 0, none⟩ = some (.int .i64 0) := (blk_cell BK104.out 0).trans rfl
 have hfs12 := blk_frozen BK104.out 0
 have hns12_0 := aa.out
 have hns12_1 := ab.out
 have hms12_0 := ac.out
 have hms12_1 := ad.out
 have hs13 : w11.cell? ⟨gb104, 1, none⟩ = some (.int .i64 0) := (blk_cell BK104.out 1).trans rfl
 have hfs13 := blk_frozen BK104.out 1
 have hns13_0 := aa.out
 have hns13_1 := ab.out
 have hms13_0 := ac.out
 have hms13_1 := ad.out
 have hs14 : w11.cell? ⟨gb104, 2, none⟩ = some (.int .i64 0) := (blk_cell BK104.out 2).trans rfl
 have hfs14 := blk_frozen BK104.out 2
 have hns14_0 := aa.out
 have hns14_1 := ab.out
 have hms14_0 := ac.out
 have hms14_1 := ad.out
 have hs15 : w11.cell? ⟨gb104, 3, none⟩ = some (.int .i64 0) := (blk_cell BK104.out 3).trans rfl
 have hfs15 := blk_frozen BK104.out 3
 have hns15_0 := aa.out
 have hns15_1 := ab.out
 have hms15_0 := ac.out
 have hms15_1 := ad.out
 refine skip_ (w1 := ?_) (by rfl) rfl ?_ ?_
 rotate_left
 ·go_simp
  rfl
 refine hK.out _ _ ⟨((cell_far (p := ⟨gb104, _, none⟩) aa.out _).trans (((cell_far (p := ⟨gb104, _, none⟩) aa.out _).trans (((cell_far (p := ⟨gb104, _, none⟩) aa.out _).trans (((cell_far (p := ⟨gb104, _, none⟩) aa.out _).trans (hHeld.1)))))))), ((cell_far (p := ⟨gb104, _, none⟩) aa.out _).trans (((cell_far (p := ⟨gb104, _, none⟩) aa.out _).trans (((cell_far (p := ⟨gb104, _, none⟩) aa.out _).trans (((cell_far (p := ⟨gb104, _, none⟩) aa.out _).trans (hHeld.2.1)))))))), ((cell_far (p := ⟨gb104, _, none⟩) aa.out _).trans (((cell_far (p := ⟨gb104, _, none⟩) aa.out _).trans (((cell_far (p := ⟨gb104, _, none⟩) aa.out _).trans (((cell_far (p := ⟨gb104, _, none⟩) aa.out _).trans (hHeld.2.2.1)))))))), ((cell_far (p := ⟨gb104, _, none⟩) aa.out _).trans (((cell_far (p := ⟨gb104, _, none⟩) aa.out _).trans (((cell_far (p := ⟨gb104, _, none⟩) aa.out _).trans (((cell_far (p := ⟨gb104, _, none⟩) aa.out _).trans (hHeld.2.2.2.1)))))))), ((cell_far (p := ⟨gb104, _, none⟩) ab.out _).trans (((cell_far (p := ⟨gb104, _, none⟩) ab.out _).trans (((cell_far (p := ⟨gb104, _, none⟩) ab.out _).trans (((cell_far (p := ⟨gb104, _, none⟩) ab.out _).trans (hHeld.2.2.2.2.1)))))))), ((cell_far (p := ⟨gb104, _, none⟩) ab.out _).trans (((cell_far (p := ⟨gb104, _, none⟩) ab.out _).trans (((cell_far (p := ⟨gb104, _, none⟩) ab.out _).trans (((cell_far (p := ⟨gb104, _, none⟩) ab.out _).trans (hHeld.2.2.2.2.2.1)))))))), ((cell_far (p := ⟨gb104, _, none⟩) ab.out _).trans (((cell_far (p := ⟨gb104, _, none⟩) ab.out _).trans (((cell_far (p := ⟨gb104, _, none⟩) ab.out _).trans (((cell_far (p := ⟨gb104, _, none⟩) ab.out _).trans (hHeld.2.2.2.2.2.2.1)))))))), ((cell_far (p := ⟨gb104, _, none⟩) ab.out _).trans (((cell_far (p := ⟨gb104, _, none⟩) ab.out _).trans (((cell_far (p := ⟨gb104, _, none⟩) ab.out _).trans (((cell_far (p := ⟨gb104, _, none⟩) ab.out _).trans (hHeld.2.2.2.2.2.2.2))))))))⟩ (fun hHeld => ?_)
 clear hK K
 refine done_ (by kernel_rfl) ?_
 try go_wp2
 refine bodyPost_ret (results_cell_row rfl _ _ gb104 70 #[.int .i64 t110, .int .i64 t111, .int .i64 t112, .int .i64 t113] (0, 0) _ rfl (bZ BK104.out) Try.underlying70 rfl (by kernel_rfl)) rfl ?_
 exact ⟨by first | rfl | (simp [errW_none, errW_some] <;> rfl) | (simp [*, errW_none, errW_some] <;> rfl), z1_2⟩

/-! ### impl_element_times: function 104 -/
def impl_element_times.f (a0 : Int) (a1 : Int) : Option (Int) := (impl_elementOf.f (wrap64 (a0 * a1))).bind fun t114 => (some t114)
set_option maxHeartbeats 8000000 in
set_option maxRecDepth 100000 in
theorem impl_element_times.calls (a0 : Int) (a1 : Int) (r : Int) (w : World) (h : impl_element_times.f a0 a1 = some r) :
  Calls Try.prog 104 #[.int .i64 a0, .int .i64 a1] w fun e w' => e = .returned (.int .i64 r) ∧ Drawn0 w w' := by
 unfold impl_element_times.f at h
 have H := h
 clear h
 replace H := Option.bind_eq_some_iff.mp H
 obtain ⟨t114, A30, H⟩ := H
 have A3 := Aside0.mk A30
 clear A30
 obtain rfl := Option.some.inj H
 go_enter Try.func104, Try.ntmps104
 go_wp2_with (first | ((with_reducible refine gate_callee (f := 118) rfl ?_); refine goesL_ (some 8) rfl rfl Try.func118 (by kernel_rfl) rfl #[.int .i64 (wrap64 (a0 * a1))] rfl z1_1 ?_; (with_reducible refine (impl_elementOf.calls (wrap64 (a0 * a1)) t114 _ A3.out).mono ?_); rintro e w' ⟨rfl, ⟨nd, rfl⟩⟩; refine ⟨_, rfl, ?_⟩))
 go_ret
 exact ⟨z1_7, z1_5⟩

/-! ### impl_element_minus: function 127 -/
def impl_element_minus.f (a0 : Int) (a1 : Int) : Option (Int) := (impl_elementOf.f (wrap64 (a0 - a1))).bind fun t115 => (some t115)
set_option maxHeartbeats 8000000 in
set_option maxRecDepth 100000 in
theorem impl_element_minus.calls (a0 : Int) (a1 : Int) (r : Int) (w : World) (h : impl_element_minus.f a0 a1 = some r) :
  Calls Try.prog 127 #[.int .i64 a0, .int .i64 a1] w fun e w' => e = .returned (.int .i64 r) ∧ Drawn0 w w' := by
 unfold impl_element_minus.f at h
 have H := h
 clear h
 replace H := Option.bind_eq_some_iff.mp H
 obtain ⟨t115, A30, H⟩ := H
 have A3 := Aside0.mk A30
 clear A30
 obtain rfl := Option.some.inj H
 go_enter Try.func127, Try.ntmps127
 go_wp2_with (first | ((with_reducible refine gate_callee (f := 118) rfl ?_); refine goesL_ (some 8) rfl rfl Try.func118 (by kernel_rfl) rfl #[.int .i64 (wrap64 (a0 - a1))] rfl z1_1 ?_; (with_reducible refine (impl_elementOf.calls (wrap64 (a0 - a1)) t115 _ A3.out).mono ?_); rintro e w' ⟨rfl, ⟨nd, rfl⟩⟩; refine ⟨_, rfl, ?_⟩))
 go_ret
 exact ⟨z1_7, z1_5⟩

end Go.Proofs.Ytamaejafddmagaa.PA
namespace Go.Proofs.Ytamaejafddmagaa.PA
open Go.RowKit Go.Proofs.YtamaejafddmagaaW.PrintWords Go.Proofs.YtamaejafddmagaaW.PrintLast Go.Proofs.YtamaejafddmagaaW.PrintMore
attribute [local go_sem] max2_int min2_int max_two min_two max_three min_three max_four min_four   -- for this text's walks alone
set_option linter.unusedVariables false
set_option linter.unusedSimpArgs false

/-- A state of type 81 at block g of W; what its slices lead to came in by w0. -/
def IsS81 (w0 W : World) (g : Nat) (f0 : List (S102)) (f1 : List Int) : Prop := ∃ A0 c0, ∃ A1 c1, W.heap[g]? = some (.cells #[.slice A0 f0.length c0, .slice A1 f1.length c1] 81 (0, 0)) ∧ True ∧ Kd.C k102 w0 A0 f0.length f0 ∧ Kd.C (Kd.int .i64) w0 A1 f1.length f1
theorem IsS81.grown {w0 W : World} {g : Nat} {f0 : List (S102)} {f1 : List Int} {W1 : World} {row : Option Nat} (h : IsS81 w0 W g f0 f1) (hw : W.grownBy W1 row) (hne : some g ≠ row) : IsS81 w0 W1 g f0 f1 := by
  obtain ⟨A0, c0, A1, c1, hb, hg, hr0, hr1⟩ := h; exact ⟨A0, c0, A1, c1, blk_grown hb hw hne, hg, hr0, hr1⟩
theorem IsS81.kept {w0 W : World} {g : Nat} {f0 : List (S102)} {f1 : List Int} {W1 : World} {S : Nat → Prop} (h : IsS81 w0 W g f0 f1) (hk : Kept W W1 S) (hne : ¬ S g) : IsS81 w0 W1 g f0 f1 := by
  obtain ⟨A0, c0, A1, c1, hb, hg, hr0, hr1⟩ := h; exact ⟨A0, c0, A1, c1, blk_kept hb hk hne, hg, hr0, hr1⟩
theorem IsS81.below {w0 W : World} {g : Nat} {f0 : List (S102)} {f1 : List Int} {W1 : World} (h : IsS81 w0 W g f0 f1) (hw : Below W.heap.size W W1) : IsS81 w0 W1 g f0 f1 := h.grown (grown_of_below hw none) (by simp)
theorem IsS81.alloc {w0 W : World} {g : Nat} {f0 : List (S102)} {f1 : List Int} (h : IsS81 w0 W g f0 f1) (o : Obj) : IsS81 w0 (W.alloc o) g f0 f1 := h.below (below_alloc (Below.refl _ _) o)
theorem IsS81.drewN {w0 W : World} {g : Nat} {f0 : List (S102)} {f1 : List Int} (h : IsS81 w0 W g f0 f1) (m : Nat) : IsS81 w0 (W.drewN m) g f0 f1 := h
theorem IsS81.drew {w0 W : World} {g : Nat} {f0 : List (S102)} {f1 : List Int} (h : IsS81 w0 W g f0 f1) : IsS81 w0 W.drew g f0 f1 := h
theorem IsS81.at_ {w0 W : World} {g : Nat} {f0 : List (S102)} {f1 : List Int} {w' : World} {m : Nat} (hq : W.drewN m = w') (h : IsS81 w0 W g f0 f1) : IsS81 w0 w' g f0 f1 := by subst hq; exact IsS81.drewN h m
theorem IsS81.apart {w0 W : World} {g : Nat} {f0 : List (S102)} {f1 : List Int} {α : Type} {d : Kd α} {e : Nat} {base : Nat} {ok : Nat → Prop} {v : Value} {xs : List α} (h : IsS81 w0 W g f0 f1) (ho : d.R e W base ok v xs) (ht : ∀ q, q ∈ e :: d.E → q ≠ 81) : d.R e W base (fun k => ok k ∧ k ≠ g) v xs := by
  obtain ⟨A0, c0, A1, c1, hb, hg, hr0, hr1⟩ := h; exact Kd.R_types ho hb ht
theorem IsS81.lt {w0 W : World} {g : Nat} {f0 : List (S102)} {f1 : List Int} (h : IsS81 w0 W g f0 f1) : g < W.heap.size := by
  obtain ⟨A0, c0, A1, c1, hb, hg, hr0, hr1⟩ := h; exact blk_lt hb
theorem IsS81.far {w0 W : World} {g : Nat} {f0 : List (S102)} {f1 : List Int} {p : Addr} (h : IsS81 w0 W g f0 f1) (hne : g ≠ p.block) (u : Value) : IsS81 w0 (W.setCell p u) g f0 f1 := by
  obtain ⟨A0, c0, A1, c1, hb, hg, hr0, hr1⟩ := h; exact ⟨A0, c0, A1, c1, blk_far hb hne u, hg, hr0, hr1⟩
theorem cellS81_0 {W : World} {g : Nat} {A0 : Option Addr} {c0 : Nat} {A1 : Option Addr} {c1 : Nat} {f0 : List (S102)} {f1 : List Int} (h : W.heap[g]? = some (.cells #[.slice A0 f0.length c0, .slice A1 f1.length c1] 81 (0, 0))) : W.cell? ⟨g, 0, none⟩ = some (.slice A0 f0.length c0) := (blk_cell h 0).trans rfl
theorem cellS81_1 {W : World} {g : Nat} {A0 : Option Addr} {c0 : Nat} {A1 : Option Addr} {c1 : Nat} {f0 : List (S102)} {f1 : List Int} (h : W.heap[g]? = some (.cells #[.slice A0 f0.length c0, .slice A1 f1.length c1] 81 (0, 0))) : W.cell? ⟨g, 1, none⟩ = some (.slice A1 f1.length c1) := (blk_cell h 1).trans rfl
/-! ### impl_span_less: function 102 -/
mutual
def impl_span_less.l0 : Nat → List (S102) → Int → Int → Int → Int → Int → Int → Int → Int → Int → Int → Int → Int → Int → Int → Option (Int × Int × Int × Int × Int × Int × Int × Int × Int × Int × Int × Int)
  | 0, _, _, _, _, _, _, _, _, _, _, _, _, _, _, _ => none
  | k + 1, x12, x13, x14, x117000, x117001, x117002, x117003, x117004, x117005, x117006, x117007, x117008, x117009, x117010, x117011 => if x14 < x13 then (if 0 ≤ x14 then (if x14 < (x12.length : Int) then ((impl_vector_lead.f ((rd_T102 x12 x14).f0.f0) ((rd_T102 x12 x14).f0.f1) ((rd_T102 x12 x14).f0.f2) ((rd_T102 x12 x14).f0.f3)).bind fun t120 => (if t120 = 0 then (impl_span_less.j1 k x117000 x12 x13 x14 x117000 x117001 x117002 x117003 x117004 x117005 x117006 x117007 x117008 x117009 x117010 x117011 ((rd_T102 x12 x14).f0.f0) ((rd_T102 x12 x14).f0.f1) ((rd_T102 x12 x14).f0.f2) ((rd_T102 x12 x14).f0.f3) ((rd_T102 x12 x14).f1.f0) ((rd_T102 x12 x14).f1.f1) ((rd_T102 x12 x14).f1.f2) ((rd_T102 x12 x14).f1.f3) ((rd_T102 x12 x14).f1.f4) ((rd_T102 x12 x14).f1.f5) ((rd_T102 x12 x14).f1.f6) ((rd_T102 x12 x14).f1.f7)) else (if t120 = 1 then (impl_span_less.j1 k x117001 x12 x13 x14 x117000 x117001 x117002 x117003 x117004 x117005 x117006 x117007 x117008 x117009 x117010 x117011 ((rd_T102 x12 x14).f0.f0) ((rd_T102 x12 x14).f0.f1) ((rd_T102 x12 x14).f0.f2) ((rd_T102 x12 x14).f0.f3) ((rd_T102 x12 x14).f1.f0) ((rd_T102 x12 x14).f1.f1) ((rd_T102 x12 x14).f1.f2) ((rd_T102 x12 x14).f1.f3) ((rd_T102 x12 x14).f1.f4) ((rd_T102 x12 x14).f1.f5) ((rd_T102 x12 x14).f1.f6) ((rd_T102 x12 x14).f1.f7)) else (if t120 = 2 then (impl_span_less.j1 k x117002 x12 x13 x14 x117000 x117001 x117002 x117003 x117004 x117005 x117006 x117007 x117008 x117009 x117010 x117011 ((rd_T102 x12 x14).f0.f0) ((rd_T102 x12 x14).f0.f1) ((rd_T102 x12 x14).f0.f2) ((rd_T102 x12 x14).f0.f3) ((rd_T102 x12 x14).f1.f0) ((rd_T102 x12 x14).f1.f1) ((rd_T102 x12 x14).f1.f2) ((rd_T102 x12 x14).f1.f3) ((rd_T102 x12 x14).f1.f4) ((rd_T102 x12 x14).f1.f5) ((rd_T102 x12 x14).f1.f6) ((rd_T102 x12 x14).f1.f7)) else (if t120 = 3 then (impl_span_less.j1 k x117003 x12 x13 x14 x117000 x117001 x117002 x117003 x117004 x117005 x117006 x117007 x117008 x117009 x117010 x117011 ((rd_T102 x12 x14).f0.f0) ((rd_T102 x12 x14).f0.f1) ((rd_T102 x12 x14).f0.f2) ((rd_T102 x12 x14).f0.f3) ((rd_T102 x12 x14).f1.f0) ((rd_T102 x12 x14).f1.f1) ((rd_T102 x12 x14).f1.f2) ((rd_T102 x12 x14).f1.f3) ((rd_T102 x12 x14).f1.f4) ((rd_T102 x12 x14).f1.f5) ((rd_T102 x12 x14).f1.f6) ((rd_T102 x12 x14).f1.f7)) else (none)))))) else (none)) else (none)) else (some (x117000, x117001, x117002, x117003, x117004, x117005, x117006, x117007, x117008, x117009, x117010, x117011))
def impl_span_less.j1 : Nat → Int → List (S102) → Int → Int → Int → Int → Int → Int → Int → Int → Int → Int → Int → Int → Int → Int → Int → Int → Int → Int → Int → Int → Int → Int → Int → Int → Int → Int → Option (Int × Int × Int × Int × Int × Int × Int × Int × Int × Int × Int × Int)
  | 0, _, _, _, _, _, _, _, _, _, _, _, _, _, _, _, _, _, _, _, _, _, _, _, _, _, _, _, _ => none
  | k + 1, x7, x12, x13, x14, x117000, x117001, x117002, x117003, x117004, x117005, x117006, x117007, x117008, x117009, x117010, x117011, x120000, x120001, x120002, x120003, x120004, x120005, x120006, x120007, x120008, x120009, x120010, x120011 => (impl_vector_times.f x120000 x120001 x120002 x120003 x7).bind fun bt121 => ((impl_vector_minus.f x117000 x117001 x117002 x117003 bt121.1 bt121.2.1 bt121.2.2.1 bt121.2.2.2).bind fun bt125 => (impl_span_less.l1 k x7 x12 x13 x14 0 bt125.1 bt125.2.1 bt125.2.2.1 bt125.2.2.2 x117004 x117005 x117006 x117007 x117008 x117009 x117010 x117011 x120000 x120001 x120002 x120003 x120004 x120005 x120006 x120007 x120008 x120009 x120010 x120011))
def impl_span_less.l1 : Nat → Int → List (S102) → Int → Int → Int → Int → Int → Int → Int → Int → Int → Int → Int → Int → Int → Int → Int → Int → Int → Int → Int → Int → Int → Int → Int → Int → Int → Int → Int → Option (Int × Int × Int × Int × Int × Int × Int × Int × Int × Int × Int × Int)
  | 0, _, _, _, _, _, _, _, _, _, _, _, _, _, _, _, _, _, _, _, _, _, _, _, _, _, _, _, _, _ => none
  | k + 1, x7, x12, x13, x14, x32, x117000, x117001, x117002, x117003, x117004, x117005, x117006, x117007, x117008, x117009, x117010, x117011, x120000, x120001, x120002, x120003, x120004, x120005, x120006, x120007, x120008, x120009, x120010, x120011 => if x32 < 8 then (if x32 = 0 then ((impl_element_times.f x120004 x7).bind fun t129 => ((impl_element_minus.f x117004 t129).bind fun t130 => (impl_span_less.l1 k x7 x12 x13 x14 (wrap64 (x32 + 1)) x117000 x117001 x117002 x117003 t130 x117005 x117006 x117007 x117008 x117009 x117010 x117011 x120000 x120001 x120002 x120003 x120004 x120005 x120006 x120007 x120008 x120009 x120010 x120011))) else (if x32 = 1 then ((impl_element_times.f x120005 x7).bind fun t131 => ((impl_element_minus.f x117005 t131).bind fun t132 => (impl_span_less.l1 k x7 x12 x13 x14 (wrap64 (x32 + 1)) x117000 x117001 x117002 x117003 x117004 t132 x117006 x117007 x117008 x117009 x117010 x117011 x120000 x120001 x120002 x120003 x120004 x120005 x120006 x120007 x120008 x120009 x120010 x120011))) else (if x32 = 2 then ((impl_element_times.f x120006 x7).bind fun t133 => ((impl_element_minus.f x117006 t133).bind fun t134 => (impl_span_less.l1 k x7 x12 x13 x14 (wrap64 (x32 + 1)) x117000 x117001 x117002 x117003 x117004 x117005 t134 x117007 x117008 x117009 x117010 x117011 x120000 x120001 x120002 x120003 x120004 x120005 x120006 x120007 x120008 x120009 x120010 x120011))) else (if x32 = 3 then ((impl_element_times.f x120007 x7).bind fun t135 => ((impl_element_minus.f x117007 t135).bind fun t136 => (impl_span_less.l1 k x7 x12 x13 x14 (wrap64 (x32 + 1)) x117000 x117001 x117002 x117003 x117004 x117005 x117006 t136 x117008 x117009 x117010 x117011 x120000 x120001 x120002 x120003 x120004 x120005 x120006 x120007 x120008 x120009 x120010 x120011))) else (if x32 = 4 then ((impl_element_times.f x120008 x7).bind fun t137 => ((impl_element_minus.f x117008 t137).bind fun t138 => (impl_span_less.l1 k x7 x12 x13 x14 (wrap64 (x32 + 1)) x117000 x117001 x117002 x117003 x117004 x117005 x117006 x117007 t138 x117009 x117010 x117011 x120000 x120001 x120002 x120003 x120004 x120005 x120006 x120007 x120008 x120009 x120010 x120011))) else (if x32 = 5 then ((impl_element_times.f x120009 x7).bind fun t139 => ((impl_element_minus.f x117009 t139).bind fun t140 => (impl_span_less.l1 k x7 x12 x13 x14 (wrap64 (x32 + 1)) x117000 x117001 x117002 x117003 x117004 x117005 x117006 x117007 x117008 t140 x117010 x117011 x120000 x120001 x120002 x120003 x120004 x120005 x120006 x120007 x120008 x120009 x120010 x120011))) else (if x32 = 6 then ((impl_element_times.f x120010 x7).bind fun t141 => ((impl_element_minus.f x117010 t141).bind fun t142 => (impl_span_less.l1 k x7 x12 x13 x14 (wrap64 (x32 + 1)) x117000 x117001 x117002 x117003 x117004 x117005 x117006 x117007 x117008 x117009 t142 x117011 x120000 x120001 x120002 x120003 x120004 x120005 x120006 x120007 x120008 x120009 x120010 x120011))) else (if x32 = 7 then ((impl_element_times.f x120011 x7).bind fun t143 => ((impl_element_minus.f x117011 t143).bind fun t144 => (impl_span_less.l1 k x7 x12 x13 x14 (wrap64 (x32 + 1)) x117000 x117001 x117002 x117003 x117004 x117005 x117006 x117007 x117008 x117009 x117010 t144 x120000 x120001 x120002 x120003 x120004 x120005 x120006 x120007 x120008 x120009 x120010 x120011))) else (none))))))))) else (impl_span_less.l0 k x12 x13 (wrap64 (x14 + 1)) x117000 x117001 x117002 x117003 x117004 x117005 x117006 x117007 x117008 x117009 x117010 x117011)
end
def impl_span_less.f (k : Nat) (s0_0 : List (S102)) (s0_1 : List Int) (a1_0 : Int) (a1_1 : Int) (a1_2 : Int) (a1_3 : Int) (a1_4 : Int) (a1_5 : Int) (a1_6 : Int) (a1_7 : Int) (a1_8 : Int) (a1_9 : Int) (a1_10 : Int) (a1_11 : Int) : Option (Int × Int × Int × Int × Int × Int × Int × Int × Int × Int × Int × Int) := impl_span_less.l0 k s0_0 (s0_0.length : Int) 0 a1_0 a1_1 a1_2 a1_3 a1_4 a1_5 a1_6 a1_7 a1_8 a1_9 a1_10 a1_11
def impl_span_less.T5 : Bool × List (List Nat × List Nat) := (true, [([], []), ([0], [0]), ([], []), ([2], [2]), ([], []), ([3, 4], [3, 4]), ([1, 5, 5], [1, 5]), ([0, 1, 2, 3, 4, 5, 6], []), ([7, 6, 6, 0, 1, 2, 3, 4, 5, 6], [6, 7])])
def impl_span_less.B5 : List Nat := [0, 1, 0, 4, 0, 28, 63, 127, 255]
theorem impl_span_less.tab5 : rtab .any (opsOf Try.f102 5) = impl_span_less.T5 := by kernel_rfl
theorem impl_span_less.bits5 : waitsOk impl_span_less.T5.2 impl_span_less.B5 = true := by kernel_rfl
def impl_span_less.T9 : Bool × List (List Nat × List Nat) := (true, [([], []), ([], []), ([], []), ([2, 1], [1, 2]), ([3], [3]), ([], []), ([], []), ([6, 5], [5, 6]), ([7], [7]), ([], []), ([8, 9], [8, 9]), ([4, 10, 10], [4, 10]), ([], []), ([12, 0, 0, 1, 2, 3, 4, 5, 6, 7, 8, 9, 10, 11], [0, 12]), ([13, 11, 11, 0, 1, 2, 3, 4, 5, 6, 7, 8, 9, 10, 11], [11, 13])])
def impl_span_less.B9 : List Nat := [0, 0, 0, 6, 14, 0, 0, 96, 224, 0, 992, 2046, 0, 8191, 16383]
theorem impl_span_less.tab9 : rtab .any (opsOf Try.f102 9) = impl_span_less.T9 := by kernel_rfl
theorem impl_span_less.bits9 : waitsOk impl_span_less.T9.2 impl_span_less.B9 = true := by kernel_rfl
theorem bA2 {W : World} {g : Nat} {cs : Array Value} {ty : TypeId} {j : Nat} {v : Value} (h : Aside0 (W.heap[g]? = some (.cells cs ty (0, 0)))) (e : cs[j]? = some v) : W.cell? ⟨g, j, none⟩ = some v := (blk_cell h.out j).trans e
end Go.Proofs.Ytamaejafddmagaa.PA
namespace Go.Proofs.Ytamaejafddmagaa.PA
open Go.RowKit Go.Proofs.YtamaejafddmagaaW.PrintWords Go.Proofs.YtamaejafddmagaaW.PrintLast Go.Proofs.YtamaejafddmagaaW.PrintMore
attribute [local go_sem] max2_int min2_int max_two min_two max_three min_three max_four min_four   -- for this text's walks alone
set_option linter.unusedVariables false
set_option linter.unusedSimpArgs false

theorem zL2 {p q : Prop} (h : q) (t : q → p := by intro h_; (with_reducible repeat first|refine blk_drewN ?_ _|refine blk_drew ?_|refine blk_alloc ?_ _); exact h_) : p := t h
theorem z2_1 {p : Prop} (h : p := by repeat (first | (with_reducible first | exact HB.out | apply below_alloc | apply pw_below_drewN | apply below_drew1 | refine below_set ?_ (IsS81.ge HI0.out) | refine below_set ?_ GE116.out | refine below_set ?_ GE117.out | refine below_set ?_ GE119.out) | exact HB.out)) : p := h
theorem z2_2 {p : Prop} (h : p := by repeat (first | (with_reducible first | exact HK.out | apply KeepBut.set_ | apply keep_drewN | apply keep_drew | apply keep_alloc | refine keep_far ?_ GW116.out _ | refine keep_far ?_ GW117.out _ | refine keep_far ?_ GW119.out _) | exact HK.out)) : p := h
theorem z2_3 {p : Prop} (h : p := by repeat (first | (with_reducible first | exact HI0.out | apply IsS81.alloc | apply IsS81.drewN | apply IsS81.drew | refine IsS81.far ?_ aA.out _ | refine IsS81.far ?_ aG.out _ | refine IsS81.far ?_ aE.out _) | exact HI0.out)) : p := h
theorem z2_4 {p : Prop} (h : p := by (try simp only [List.map_toArray, List.map_cons, List.map_nil]); first | done | rfl | (simp only [List.length_drop, List.length_take]; rfl)) : p := h
theorem z2_5 {p : Prop} (h : p := by repeat (first | (with_reducible first | exact HK.out | apply KeepBut.set_ | apply keep_drewN | apply keep_drew | apply keep_alloc | refine keep_far ?_ GW116.out _ | refine keep_far ?_ GW117.out _) | exact HK.out)) : p := h
theorem z2_6 {p : Prop} (h : p := by repeat (first | (with_reducible first | exact HB.out | apply below_alloc | apply pw_below_drewN | apply below_drew1 | refine below_set ?_ (IsS81.ge HI0.out) | refine below_set ?_ GE116.out | refine below_set ?_ GE117.out) | exact HB.out)) : p := h
theorem z2_7 {p : Prop} (h : p := by repeat (first | (with_reducible first | exact HI0.out | apply IsS81.alloc | apply IsS81.drewN | apply IsS81.drew | refine IsS81.far ?_ aA.out _ | refine IsS81.far ?_ aG.out _) | exact HI0.out)) : p := h
theorem z2_8 {p : Prop} (h : p := by first | rfl | (simp; done) | (simp [*]; done) | (simp; unfold wrap64; omega)) : p := h
theorem z2_9 {p : Prop} (h : p := by have := HK1.out; have := HJ8.out; have := HK3.out; omega) : p := h
theorem z2_10 {p : Prop} (h : p := by repeat (first | (with_reducible first | exact HK.out | apply KeepBut.set_ | apply keep_drewN | apply keep_drew | apply keep_alloc | refine keep_far ?_ GW116.out _) | exact HK.out)) : p := h
theorem z2_11 {p : Prop} (h : p := by repeat (first | (with_reducible first | exact HK.out | apply KeepBut.set_ | apply keep_drewN | apply keep_drew | apply keep_alloc) | exact HK.out)) : p := h
theorem z2_12 {p : Prop} (h : p := by first | rfl | (simp; done) | (simp [*]; done)) : p := h
theorem z2_13 {p : Prop} (h : p := by have := HK1.out; first | omega | exact Nat.le_refl _) : p := h
set_option maxHeartbeats 8000000 in
set_option maxRecDepth 100000 in
theorem impl_span_less.calls (k : Nat) (g : Nat) (s_ : List (S102)) (s0_1 : List Int) (a1_0 : Int) (a1_1 : Int) (a1_2 : Int) (a1_3 : Int) (a1_4 : Int) (a1_5 : Int) (a1_6 : Int) (a1_7 : Int) (a1_8 : Int) (a1_9 : Int) (a1_10 : Int) (a1_11 : Int) (r1 : Int) (r2 : Int) (r3 : Int) (r4 : Int) (r5 : Int) (r6 : Int) (r7 : Int) (r8 : Int) (r9 : Int) (r10 : Int) (r11 : Int) (r12 : Int) (w0 w : World) (hI : IsS81 w0 w g s_ s0_1) (hB : Below w0.heap.size w0 w) (h : impl_span_less.f k s_ s0_1 a1_0 a1_1 a1_2 a1_3 a1_4 a1_5 a1_6 a1_7 a1_8 a1_9 a1_10 a1_11 = some (r1, r2, r3, r4, r5, r6, r7, r8, r9, r10, r11, r12)) :
  Calls Try.prog 102 #[.pointer (some ⟨g, 0, none⟩), .agg #[.int .i64 a1_0, .int .i64 a1_1, .int .i64 a1_2, .int .i64 a1_3, .int .i64 a1_4, .int .i64 a1_5, .int .i64 a1_6, .int .i64 a1_7, .int .i64 a1_8, .int .i64 a1_9, .int .i64 a1_10, .int .i64 a1_11]] w fun e w' => e = .returned (.agg #[.int .i64 r1, .int .i64 r2, .int .i64 r3, .int .i64 r4, .int .i64 r5, .int .i64 r6, .int .i64 r7, .int .i64 r8, .int .i64 r9, .int .i64 r10, .int .i64 r11, .int .i64 r12]) ∧ IsS81 w0 w' g s_ s0_1 ∧ Below w0.heap.size w0 w' ∧ KeepBut w w' g none := by
 have hu102 := Try.underlying102
 have hu70 := Try.underlying70
 have HI0 := Aside0.mk hI
 have HK := Aside0.mk (KeepBut.refl w g none)
 have HL := Aside0.mk hB.size
 clear hI
 have HW0 := Aside0.mk hB.size
 have HB := Aside0.mk hB
 clear hB
 unfold impl_span_less.f at h
 have H := h
 clear h
 have H' := Aside0.mk H
 clear H
 go_enter Try.func102, Try.ntmps102
 go_wp2_with (first | ((with_reducible refine gate_dst (N := 3) rfl ?_); refine box_event ?hg (N := 3) ?hd (cs := #[.int .i64 a1_0, .int .i64 a1_1, .int .i64 a1_2, .int .i64 a1_3, .int .i64 a1_4, .int .i64 a1_5, .int .i64 a1_6, .int .i64 a1_7, .int .i64 a1_8, .int .i64 a1_9, .int .i64 a1_10, .int .i64 a1_11]) (t := 102) ?hr ?_; (case hd => rfl); (case hg => rfl); (case hr => first | (go_simp; done) | (go_simp; rfl)); intro gb116 hg w3 hbox hb; replace HB := Aside0.mk (below_step (by repeat (first | (with_reducible first | exact HB.out | apply below_alloc | apply pw_below_drewN | apply below_drew1 | refine below_set ?_ (IsS81.ge HI0.out)) | exact HB.out)) hb); have BK116 := Aside0.mk (hbox); have GW116 := Aside0.mk ((by rw [hg]; exact (keep_size (w := w) (g := g) (row := none) z2_11) : w.heap.size ≤ gb116)); have GE116 := Aside0.mk ((Nat.le_trans HW0.out (by rw [hg]; exact (keep_size (w := w) (g := g) (row := none) z2_11) : w.heap.size ≤ gb116) : w0.heap.size ≤ gb116)); replace HK := Aside0.mk (KeepBut.trans z2_11 (KeepBut.of_below hb g none) (.inl rfl)); have aA := Aside0.mk ((by rw [hg]; exact Nat.ne_of_lt (IsS81.lt (show IsS81 w0 _ g s_ s0_1 from by repeat (first | (with_reducible first | exact HI0.out | apply IsS81.alloc | apply IsS81.drewN | apply IsS81.drew) | exact HI0.out))) : g ≠ gb116)); have aD := Aside0.mk ((by rw [hg]; exact Nat.ne_of_gt (IsS81.lt (show IsS81 w0 _ g s_ s0_1 from by repeat (first | (with_reducible first | exact HI0.out | apply IsS81.alloc | apply IsS81.drewN | apply IsS81.drew) | exact HI0.out))) : gb116 ≠ g)); replace HI0 := Aside0.mk (IsS81.below (by repeat (first | (with_reducible first | exact HI0.out | apply IsS81.alloc | apply IsS81.drewN | apply IsS81.drew) | exact HI0.out)) hb); clear hb hbox hg) | ((with_reducible refine gate_dst (N := 4) rfl ?_); refine box_event ?hg (N := 4) ?hd (cs := #[.int .i64 0, .int .i64 0, .int .i64 0, .int .i64 0, .int .i64 0, .int .i64 0, .int .i64 0, .int .i64 0, .int .i64 0, .int .i64 0, .int .i64 0, .int .i64 0]) (t := 102) ?hr ?_; (case hd => rfl); (case hg => rfl); (case hr => first | (go_simp; done) | (go_simp; rfl)); intro gb117 hg w4 hbox hb; replace HB := Aside0.mk (below_step (by repeat (first | (with_reducible first | exact HB.out | apply below_alloc | apply pw_below_drewN | apply below_drew1 | refine below_set ?_ (IsS81.ge HI0.out) | refine below_set ?_ GE116.out) | exact HB.out)) hb); have BK117 := Aside0.mk (hbox); have GW117 := Aside0.mk ((by rw [hg]; exact (keep_size (w := w) (g := g) (row := none) z2_10) : w.heap.size ≤ gb117)); have GE117 := Aside0.mk ((Nat.le_trans HW0.out (by rw [hg]; exact (keep_size (w := w) (g := g) (row := none) z2_10) : w.heap.size ≤ gb117) : w0.heap.size ≤ gb117)); replace HK := Aside0.mk (KeepBut.trans z2_10 (KeepBut.of_below hb g none) (.inl rfl)); have ao := Aside0.mk ((by rw [hg]; exact bLZ_ BK116 : gb116 ≠ gb117)); have aa := Aside0.mk ((by rw [hg]; exact bGZ_ BK116 : gb117 ≠ gb116)); replace BK116 := bBZ_ BK116 hb; have aG := Aside0.mk ((by rw [hg]; exact Nat.ne_of_lt (IsS81.lt (show IsS81 w0 _ g s_ s0_1 from by repeat (first | (with_reducible first | exact HI0.out | apply IsS81.alloc | apply IsS81.drewN | apply IsS81.drew | refine IsS81.far ?_ aA.out _) | exact HI0.out))) : g ≠ gb117)); have NB117_0 := Aside0.mk ((by rw [hg]; exact Nat.ne_of_gt (IsS81.lt (show IsS81 w0 _ g s_ s0_1 from by repeat (first | (with_reducible first | exact HI0.out | apply IsS81.alloc | apply IsS81.drewN | apply IsS81.drew | refine IsS81.far ?_ aA.out _) | exact HI0.out))) : gb117 ≠ g)); replace HI0 := Aside0.mk (IsS81.below (by repeat (first | (with_reducible first | exact HI0.out | apply IsS81.alloc | apply IsS81.drewN | apply IsS81.drew | refine IsS81.far ?_ aA.out _) | exact HI0.out)) hb); clear hb hbox hg; obtain ⟨ASz5_0, cSz5_0, ASz5_1, cSz5_1, HGz5, hgz5, HSz5_0, HSz5_1⟩ := HI0.out; have aL := cellS81_0 HGz5; have aM := cellS81_1 HGz5; clear HGz5 hgz5))
 go_loopg [14] k (fun kq v14 w' => ∃ (i_ : Int) (ak : Int) (al : Int) (am : Int) (an : Int) (aq : Int) (ar : Int) (au : Int) (av : Int) (aw : Int) (ax : Int) (ay : Int) (az : Int), v14 = .int .i64 i_ ∧ Aside0 (impl_span_less.l0 kq s_ (s_.length : Int) i_ ak al am an aq ar au av aw ax ay az = some (r1, r2, r3, r4, r5, r6, r7, r8, r9, r10, r11, r12)) ∧ Aside0 (kq ≤ k) ∧ Aside0 (w'.heap[gb116]? = some (.cells #[.int .i64 ak, .int .i64 al, .int .i64 am, .int .i64 an, .int .i64 aq, .int .i64 ar, .int .i64 au, .int .i64 av, .int .i64 aw, .int .i64 ax, .int .i64 ay, .int .i64 az] 102 (0, 0))) ∧ Aside0 (w'.heap[gb117]? = some (.cells #[.int .i64 0, .int .i64 0, .int .i64 0, .int .i64 0, .int .i64 0, .int .i64 0, .int .i64 0, .int .i64 0, .int .i64 0, .int .i64 0, .int .i64 0, .int .i64 0] 102 (0, 0))) ∧ Aside0 (IsS81 w0 w' g s_ s0_1) ∧ Aside0 (KeepBut w w' g none) ∧ Aside0 (Below w0.heap.size w0 w'))
 case atStart => exact ⟨(0), (a1_0), (a1_1), (a1_2), (a1_3), (a1_4), (a1_5), (a1_6), (a1_7), (a1_8), (a1_9), (a1_10), (a1_11), z2_12, H', ⟨Nat.le_refl _⟩, ⟨zL2 BK116.out⟩, ⟨zL2 BK117.out⟩, ⟨z2_7⟩, ⟨z2_5⟩, ⟨z2_6⟩⟩
 case round =>
  clear H'
  try clear aL aM
  obtain ⟨i_, ak, al, am, an, aq, ar, au, av, aw, ax, ay, az, rfl, HA, HK1, BK116, BK117, HI0, HK, HB⟩ := hrel
  cases gk with
  | zero => exact absurd HA.out (by simp [impl_span_less.l0])
  | succ k1 =>
   have H := HA.out
   clear HA; simp only [impl_span_less.l0] at H
   by_cases c6 : i_ < (s_.length : Int)
   ·rw [if_pos c6] at H
    have c6b0 : decide (i_ < (s_.length : Int)) = true := decide_eq_true c6; clear c6; obtain ⟨c7, H⟩ := ifP H; have c7b0 : decide (0 ≤ i_) = true := decide_eq_true c7; clear c7; obtain ⟨c8, H⟩ := ifP H; have c8b0 : decide (i_ < (s_.length : Int)) = true := decide_eq_true c8; clear c8
    have HC9 := Aside0.mk H
    clear H; obtain ⟨ASz10_0, cSz10_0, ASz10_1, cSz10_1, HGz10, hgz10, HSz10_0, HSz10_1⟩ := HI0.out
    have aN := cellS81_0 HGz10
    have aO := cellS81_1 HGz10
    clear HGz10 hgz10; have p118 : 0 ≤ (i_ : Int) := of_decide_eq_true (by first | (with_reducible assumption) | assumption); have q118 : i_ < (s_.length : Int) := of_decide_eq_true (by first | (with_reducible assumption) | assumption); obtain ⟨ad118, e118, hx118_0, hx118_1, hx118_2, hx118_3, hx118_4, hx118_5, hx118_6, hx118_7, hx118_8, hx118_9, hx118_10, hx118_11⟩ := at_T102 HSz5_0 i_ p118 q118; cases e118
    replace hx118_0 := pw_cell_below HB.out hx118_0
    replace hx118_1 := pw_cell_below HB.out hx118_1
    replace hx118_2 := pw_cell_below HB.out hx118_2
    replace hx118_3 := pw_cell_below HB.out hx118_3
    replace hx118_4 := pw_cell_below HB.out hx118_4
    replace hx118_5 := pw_cell_below HB.out hx118_5
    replace hx118_6 := pw_cell_below HB.out hx118_6
    replace hx118_7 := pw_cell_below HB.out hx118_7
    replace hx118_8 := pw_cell_below HB.out hx118_8
    replace hx118_9 := pw_cell_below HB.out hx118_9
    replace hx118_10 := pw_cell_below HB.out hx118_10
    replace hx118_11 := pw_cell_below HB.out hx118_11
    replace p118 := eq_true p118
    replace q118 := eq_true q118
    go_upto_region 4 with (first | ((with_reducible refine gate_dst (N := 6) rfl ?_); refine box_event ?hg (N := 6) ?hd (cs := #[.int .i64 0, .int .i64 0, .int .i64 0, .int .i64 0, .int .i64 0, .int .i64 0, .int .i64 0, .int .i64 0, .int .i64 0, .int .i64 0, .int .i64 0, .int .i64 0]) (t := 102) ?hr ?_; (case hd => rfl); (case hg => rfl); (case hr => first | (go_simp; done) | (go_simp; rfl)); intro gb119 hg w11 hbox hb; replace HB := Aside0.mk (below_step z2_6 hb); have BK119 := Aside0.mk (hbox); have GW119 := Aside0.mk ((by rw [hg]; exact (keep_size (w := w) (g := g) (row := none) z2_5) : w.heap.size ≤ gb119)); have GE119 := Aside0.mk ((Nat.le_trans HW0.out (by rw [hg]; exact (keep_size (w := w) (g := g) (row := none) z2_5) : w.heap.size ≤ gb119) : w0.heap.size ≤ gb119)); replace HK := Aside0.mk (KeepBut.trans z2_5 (KeepBut.of_below hb g none) (.inl rfl)); have ap := Aside0.mk ((by rw [hg]; exact bLZ_ BK116 : gb116 ≠ gb119)); have ab := Aside0.mk ((by rw [hg]; exact bGZ_ BK116 : gb119 ≠ gb116)); replace BK116 := bBZ_ BK116 hb; have aB := Aside0.mk ((by rw [hg]; exact bLZ_ BK117 : gb117 ≠ gb119)); have aC := Aside0.mk ((by rw [hg]; exact bGZ_ BK117 : gb119 ≠ gb117)); replace BK117 := bBZ_ BK117 hb; have aE := Aside0.mk ((by rw [hg]; exact Nat.ne_of_lt (IsS81.lt (show IsS81 w0 _ g s_ s0_1 from by repeat (first | (with_reducible first | exact HI0.out | apply IsS81.alloc | apply IsS81.drewN | apply IsS81.drew | refine IsS81.far ?_ aA.out _ | refine IsS81.far ?_ aG.out _) | exact HI0.out))) : g ≠ gb119)); have aF := Aside0.mk ((by rw [hg]; exact Nat.ne_of_gt (IsS81.lt (show IsS81 w0 _ g s_ s0_1 from by repeat (first | (with_reducible first | exact HI0.out | apply IsS81.alloc | apply IsS81.drewN | apply IsS81.drew | refine IsS81.far ?_ aA.out _ | refine IsS81.far ?_ aG.out _) | exact HI0.out))) : gb119 ≠ g)); replace HI0 := Aside0.mk (IsS81.below z2_7 hb); clear hb hbox hg; have hnb12 := ab.out; have hnc12 := ap.out; have hnb13 := aC.out; have hnc13 := aB.out; have hnb14 := aF.out; have hnc14 := aE.out; have aP : w11.cell? ⟨gb119, 0, none⟩ = some (.int .i64 0) := bA2 BK119 rfl; have aQ := blk_frozen BK119.out 0; have aR : w11.cell? ⟨gb119, 1, none⟩ = some (.int .i64 0) := bA2 BK119 rfl; have aS := blk_frozen BK119.out 1; have aT : w11.cell? ⟨gb119, 2, none⟩ = some (.int .i64 0) := bA2 BK119 rfl; have aU := blk_frozen BK119.out 2; have aV : w11.cell? ⟨gb119, 3, none⟩ = some (.int .i64 0) := bA2 BK119 rfl; have aW := blk_frozen BK119.out 3; have aX : w11.cell? ⟨gb119, 4, none⟩ = some (.int .i64 0) := bA2 BK119 rfl; have aY := blk_frozen BK119.out 4; have aZ : w11.cell? ⟨gb119, 5, none⟩ = some (.int .i64 0) := bA2 BK119 rfl; have a0 := blk_frozen BK119.out 5; have a1 : w11.cell? ⟨gb119, 6, none⟩ = some (.int .i64 0) := bA2 BK119 rfl; have a2 := blk_frozen BK119.out 6; have a3 : w11.cell? ⟨gb119, 7, none⟩ = some (.int .i64 0) := bA2 BK119 rfl; have a4 := blk_frozen BK119.out 7; have a5 : w11.cell? ⟨gb119, 8, none⟩ = some (.int .i64 0) := bA2 BK119 rfl; have a6 := blk_frozen BK119.out 8; have a7 : w11.cell? ⟨gb119, 9, none⟩ = some (.int .i64 0) := bA2 BK119 rfl; have a8 := blk_frozen BK119.out 9; have aH : w11.cell? ⟨gb119, 10, none⟩ = some (.int .i64 0) := bA2 BK119 rfl; have aI := blk_frozen BK119.out 10; have aJ : w11.cell? ⟨gb119, 11, none⟩ = some (.int .i64 0) := bA2 BK119 rfl; have aK := blk_frozen BK119.out 11) | ((with_reducible refine gate_store (t := 102) (p := 6) rfl ?_); refine store_event (t := 102) (p := 6) (v := ?vo_w27) (w1 := ((((((((((((w11.setCell ⟨gb119, 0, none⟩ (.int .i64 ((rd_T102 s_ i_).f0.f0))).setCell ⟨gb119, 1, none⟩ (.int .i64 ((rd_T102 s_ i_).f0.f1))).setCell ⟨gb119, 2, none⟩ (.int .i64 ((rd_T102 s_ i_).f0.f2))).setCell ⟨gb119, 3, none⟩ (.int .i64 ((rd_T102 s_ i_).f0.f3))).setCell ⟨gb119, 4, none⟩ (.int .i64 ((rd_T102 s_ i_).f1.f0))).setCell ⟨gb119, 5, none⟩ (.int .i64 ((rd_T102 s_ i_).f1.f1))).setCell ⟨gb119, 6, none⟩ (.int .i64 ((rd_T102 s_ i_).f1.f2))).setCell ⟨gb119, 7, none⟩ (.int .i64 ((rd_T102 s_ i_).f1.f3))).setCell ⟨gb119, 8, none⟩ (.int .i64 ((rd_T102 s_ i_).f1.f4))).setCell ⟨gb119, 9, none⟩ (.int .i64 ((rd_T102 s_ i_).f1.f5))).setCell ⟨gb119, 10, none⟩ (.int .i64 ((rd_T102 s_ i_).f1.f6))).setCell ⟨gb119, 11, none⟩ (.int .i64 ((rd_T102 s_ i_).f1.f7)))) ?hg ?ho ?hn ?hr ?_; (case ho => rfl); (case hg => rfl); (case hn => rfl); (case hr => first | (go_simp; done) | (go_simp; rfl)); intro w27 hw; have n0_ : Aside0 (w27.heap[gb116]? = some (.cells #[.int .i64 ak, .int .i64 al, .int .i64 am, .int .i64 an, .int .i64 aq, .int .i64 ar, .int .i64 au, .int .i64 av, .int .i64 aw, .int .i64 ax, .int .i64 ay, .int .i64 az] 102 (0, 0))) := ⟨(by rw [hw]; exact (gZ ap.out BK116.out))⟩; have n1_ : Aside0 (w27.heap[gb117]? = some (.cells #[.int .i64 0, .int .i64 0, .int .i64 0, .int .i64 0, .int .i64 0, .int .i64 0, .int .i64 0, .int .i64 0, .int .i64 0, .int .i64 0, .int .i64 0, .int .i64 0] 102 (0, 0))) := ⟨(by rw [hw]; exact (gZ aB.out BK117.out))⟩; have n2_ : Aside0 (w27.heap[gb119]? = some (.cells #[.int .i64 ((rd_T102 s_ i_).f0.f0), .int .i64 ((rd_T102 s_ i_).f0.f1), .int .i64 ((rd_T102 s_ i_).f0.f2), .int .i64 ((rd_T102 s_ i_).f0.f3), .int .i64 ((rd_T102 s_ i_).f1.f0), .int .i64 ((rd_T102 s_ i_).f1.f1), .int .i64 ((rd_T102 s_ i_).f1.f2), .int .i64 ((rd_T102 s_ i_).f1.f3), .int .i64 ((rd_T102 s_ i_).f1.f4), .int .i64 ((rd_T102 s_ i_).f1.f5), .int .i64 ((rd_T102 s_ i_).f1.f6), .int .i64 ((rd_T102 s_ i_).f1.f7)] 102 (0, 0))) := ⟨(by rw [hw]; exact (bZ BK119.out))⟩; have n3_ : Aside0 (IsS81 w0 w27 g s_ s0_1) := ⟨(by rw [hw]; exact z2_3)⟩; have n4_ : Aside0 (KeepBut w w27 g none) := ⟨(by rw [hw]; exact z2_2)⟩; have n5_ : Aside0 (Below w0.heap.size w0 w27) := ⟨(by rw [hw]; exact z2_1)⟩; clear hw; clear BK116; clear BK117; clear BK119; clear HI0; clear HK; clear HB; have BK116 := n0_; have BK117 := n1_; have BK119 := n2_; have HI0 := n3_; have HK := n4_; have HB := n5_; clear n0_ n1_ n2_ n3_ n4_ n5_))
    (try simp only [Act.put, List.setIfInBounds_toArray, List.set_cons_zero, List.set_cons_succ])
    go_cut [7] (fun v7 wc => ∃ (kq : Nat) (x7_8 : Int), v7 = .int .i64 x7_8 ∧ Aside0 (impl_span_less.j1 kq x7_8 s_ (s_.length : Int) i_ ak al am an aq ar au av aw ax ay az ((rd_T102 s_ i_).f0.f0) ((rd_T102 s_ i_).f0.f1) ((rd_T102 s_ i_).f0.f2) ((rd_T102 s_ i_).f0.f3) ((rd_T102 s_ i_).f1.f0) ((rd_T102 s_ i_).f1.f1) ((rd_T102 s_ i_).f1.f2) ((rd_T102 s_ i_).f1.f3) ((rd_T102 s_ i_).f1.f4) ((rd_T102 s_ i_).f1.f5) ((rd_T102 s_ i_).f1.f6) ((rd_T102 s_ i_).f1.f7) = some (r1, r2, r3, r4, r5, r6, r7, r8, r9, r10, r11, r12)) ∧ Aside0 (kq ≤ k1) ∧ Aside0 (wc.heap[gb116]? = some (.cells #[.int .i64 ak, .int .i64 al, .int .i64 am, .int .i64 an, .int .i64 aq, .int .i64 ar, .int .i64 au, .int .i64 av, .int .i64 aw, .int .i64 ax, .int .i64 ay, .int .i64 az] 102 (0, 0))) ∧ Aside0 (wc.heap[gb117]? = some (.cells #[.int .i64 0, .int .i64 0, .int .i64 0, .int .i64 0, .int .i64 0, .int .i64 0, .int .i64 0, .int .i64 0, .int .i64 0, .int .i64 0, .int .i64 0, .int .i64 0] 102 (0, 0))) ∧ Aside0 (wc.heap[gb119]? = some (.cells #[.int .i64 ((rd_T102 s_ i_).f0.f0), .int .i64 ((rd_T102 s_ i_).f0.f1), .int .i64 ((rd_T102 s_ i_).f0.f2), .int .i64 ((rd_T102 s_ i_).f0.f3), .int .i64 ((rd_T102 s_ i_).f1.f0), .int .i64 ((rd_T102 s_ i_).f1.f1), .int .i64 ((rd_T102 s_ i_).f1.f2), .int .i64 ((rd_T102 s_ i_).f1.f3), .int .i64 ((rd_T102 s_ i_).f1.f4), .int .i64 ((rd_T102 s_ i_).f1.f5), .int .i64 ((rd_T102 s_ i_).f1.f6), .int .i64 ((rd_T102 s_ i_).f1.f7)] 102 (0, 0))) ∧ Aside0 (IsS81 w0 wc g s_ s0_1) ∧ Aside0 (KeepBut w wc g none) ∧ Aside0 (Below w0.heap.size w0 wc))
    case first =>
     have H := HC9.out
     clear HC9
     replace H := Option.bind_eq_some_iff.mp H
     obtain ⟨t120, A280, H⟩ := H
     have A28 := Aside0.mk A280
     clear A280
     by_cases c29 : t120 = 0
     ·rw [if_pos c29] at H
      subst c29
      have H' := Aside0.mk H
      clear H
      have hnb30 := ab.out
      have hnc30 := ap.out
      have hnb31 := aC.out
      have hnc31 := aB.out
      have hnb32 := aF.out
      have hnc32 := aE.out
      have a9 : w27.cell? ⟨gb119, 0, none⟩ = some (.int .i64 ((rd_T102 s_ i_).f0.f0)) := bA2 BK119 rfl; have ba : w27.cell? ⟨gb119, 1, none⟩ = some (.int .i64 ((rd_T102 s_ i_).f0.f1)) := bA2 BK119 rfl; have bb : w27.cell? ⟨gb119, 2, none⟩ = some (.int .i64 ((rd_T102 s_ i_).f0.f2)) := bA2 BK119 rfl; have bc : w27.cell? ⟨gb119, 3, none⟩ = some (.int .i64 ((rd_T102 s_ i_).f0.f3)) := bA2 BK119 rfl
      have bd := blk_frozen BK119.out 0
      have be := blk_frozen BK119.out 1
      have bf := blk_frozen BK119.out 2
      have bg := blk_frozen BK119.out 3
      go_wp2_with (first | ((with_reducible refine gate_callee (f := 60) rfl ?_); refine goesL_ (some 20) rfl rfl Try.func60 (by kernel_rfl) rfl #[.agg #[.int .i64 ((rd_T102 s_ i_).f0.f0), .int .i64 ((rd_T102 s_ i_).f0.f1), .int .i64 ((rd_T102 s_ i_).f0.f2), .int .i64 ((rd_T102 s_ i_).f0.f3)]] rfl z2_4 ?_; (with_reducible refine (impl_vector_lead.calls ((rd_T102 s_ i_).f0.f0) ((rd_T102 s_ i_).f0.f1) ((rd_T102 s_ i_).f0.f2) ((rd_T102 s_ i_).f0.f3) (0 : Int) _ A28.out).mono ?_); rintro e w34 ⟨rfl, hb⟩; refine ⟨_, rfl, ?_⟩; replace BK116 := bBZ_ BK116 hb; replace BK117 := bBZ_ BK117 hb; replace BK119 := bBZ_ BK119 hb; replace HK := Aside0.mk (KeepBut.trans z2_2 (KeepBut.of_below hb g none) (.inl rfl)); replace HB := Aside0.mk (below_step z2_1 hb); replace HI0 := Aside0.mk (IsS81.below z2_3 hb); (try clear hb); have hnb35 := ao.out; have hnc35 := aa.out; have hnb36 := aD.out; have hnc36 := aA.out; have bh : w34.cell? ⟨gb116, 0, none⟩ = some (.int .i64 ak) := bA2 BK116 rfl; have bi := blk_frozen BK116.out 0))
      go_meet
      case rel => exact ⟨_, (ak), z2_12, H', ⟨z2_13⟩, ⟨zL2 BK116.out⟩, ⟨zL2 BK117.out⟩, ⟨zL2 BK119.out⟩, ⟨z2_3⟩, ⟨z2_2⟩, ⟨z2_1⟩⟩
     ·rw [if_neg c29] at H
      clear c29
      by_cases c38 : t120 = 1
      ·rw [if_pos c38] at H
       subst c38
       have H' := Aside0.mk H
       clear H
       have hnb39 := ab.out
       have hnc39 := ap.out
       have hnb40 := aC.out
       have hnc40 := aB.out
       have hnb41 := aF.out
       have hnc41 := aE.out
       have bj : w27.cell? ⟨gb119, 0, none⟩ = some (.int .i64 ((rd_T102 s_ i_).f0.f0)) := bA2 BK119 rfl; have bk : w27.cell? ⟨gb119, 1, none⟩ = some (.int .i64 ((rd_T102 s_ i_).f0.f1)) := bA2 BK119 rfl; have bl : w27.cell? ⟨gb119, 2, none⟩ = some (.int .i64 ((rd_T102 s_ i_).f0.f2)) := bA2 BK119 rfl; have bm : w27.cell? ⟨gb119, 3, none⟩ = some (.int .i64 ((rd_T102 s_ i_).f0.f3)) := bA2 BK119 rfl
       have bn := blk_frozen BK119.out 0
       have bo := blk_frozen BK119.out 1
       have bp := blk_frozen BK119.out 2
       have bq := blk_frozen BK119.out 3
       go_wp2_with (first | ((with_reducible refine gate_callee (f := 60) rfl ?_); refine goesL_ (some 20) rfl rfl Try.func60 (by kernel_rfl) rfl #[.agg #[.int .i64 ((rd_T102 s_ i_).f0.f0), .int .i64 ((rd_T102 s_ i_).f0.f1), .int .i64 ((rd_T102 s_ i_).f0.f2), .int .i64 ((rd_T102 s_ i_).f0.f3)]] rfl z2_4 ?_; (with_reducible refine (impl_vector_lead.calls ((rd_T102 s_ i_).f0.f0) ((rd_T102 s_ i_).f0.f1) ((rd_T102 s_ i_).f0.f2) ((rd_T102 s_ i_).f0.f3) (1 : Int) _ A28.out).mono ?_); rintro e w43 ⟨rfl, hb⟩; refine ⟨_, rfl, ?_⟩; replace BK116 := bBZ_ BK116 hb; replace BK117 := bBZ_ BK117 hb; replace BK119 := bBZ_ BK119 hb; replace HK := Aside0.mk (KeepBut.trans z2_2 (KeepBut.of_below hb g none) (.inl rfl)); replace HB := Aside0.mk (below_step z2_1 hb); replace HI0 := Aside0.mk (IsS81.below z2_3 hb); (try clear hb); have hnb44 := ao.out; have hnc44 := aa.out; have hnb45 := aD.out; have hnc45 := aA.out; have br : w43.cell? ⟨gb116, 1, none⟩ = some (.int .i64 al) := bA2 BK116 rfl; have bs := blk_frozen BK116.out 1))
       go_meet
       case rel => exact ⟨_, (al), z2_12, H', ⟨z2_13⟩, ⟨zL2 BK116.out⟩, ⟨zL2 BK117.out⟩, ⟨zL2 BK119.out⟩, ⟨z2_3⟩, ⟨z2_2⟩, ⟨z2_1⟩⟩
      ·rw [if_neg c38] at H
       clear c38
       by_cases c47 : t120 = 2
       ·rw [if_pos c47] at H
        subst c47
        have H' := Aside0.mk H
        clear H
        have hnb48 := ab.out
        have hnc48 := ap.out
        have hnb49 := aC.out
        have hnc49 := aB.out
        have hnb50 := aF.out
        have hnc50 := aE.out
        have bt : w27.cell? ⟨gb119, 0, none⟩ = some (.int .i64 ((rd_T102 s_ i_).f0.f0)) := bA2 BK119 rfl; have bu : w27.cell? ⟨gb119, 1, none⟩ = some (.int .i64 ((rd_T102 s_ i_).f0.f1)) := bA2 BK119 rfl; have bv : w27.cell? ⟨gb119, 2, none⟩ = some (.int .i64 ((rd_T102 s_ i_).f0.f2)) := bA2 BK119 rfl; have bw : w27.cell? ⟨gb119, 3, none⟩ = some (.int .i64 ((rd_T102 s_ i_).f0.f3)) := bA2 BK119 rfl
        have bx := blk_frozen BK119.out 0
        have bz := blk_frozen BK119.out 1
        have bA := blk_frozen BK119.out 2
        have bB := blk_frozen BK119.out 3
        go_wp2_with (first | ((with_reducible refine gate_callee (f := 60) rfl ?_); refine goesL_ (some 20) rfl rfl Try.func60 (by kernel_rfl) rfl #[.agg #[.int .i64 ((rd_T102 s_ i_).f0.f0), .int .i64 ((rd_T102 s_ i_).f0.f1), .int .i64 ((rd_T102 s_ i_).f0.f2), .int .i64 ((rd_T102 s_ i_).f0.f3)]] rfl z2_4 ?_; (with_reducible refine (impl_vector_lead.calls ((rd_T102 s_ i_).f0.f0) ((rd_T102 s_ i_).f0.f1) ((rd_T102 s_ i_).f0.f2) ((rd_T102 s_ i_).f0.f3) (2 : Int) _ A28.out).mono ?_); rintro e w52 ⟨rfl, hb⟩; refine ⟨_, rfl, ?_⟩; replace BK116 := bBZ_ BK116 hb; replace BK117 := bBZ_ BK117 hb; replace BK119 := bBZ_ BK119 hb; replace HK := Aside0.mk (KeepBut.trans z2_2 (KeepBut.of_below hb g none) (.inl rfl)); replace HB := Aside0.mk (below_step z2_1 hb); replace HI0 := Aside0.mk (IsS81.below z2_3 hb); (try clear hb); have hnb53 := ao.out; have hnc53 := aa.out; have hnb54 := aD.out; have hnc54 := aA.out; have bC : w52.cell? ⟨gb116, 2, none⟩ = some (.int .i64 am) := bA2 BK116 rfl; have bD := blk_frozen BK116.out 2))
        go_meet
        case rel => exact ⟨_, (am), z2_12, H', ⟨z2_13⟩, ⟨zL2 BK116.out⟩, ⟨zL2 BK117.out⟩, ⟨zL2 BK119.out⟩, ⟨z2_3⟩, ⟨z2_2⟩, ⟨z2_1⟩⟩
       ·rw [if_neg c47] at H
        clear c47; obtain ⟨c56, H⟩ := ifP H; subst c56
        have H' := Aside0.mk H
        clear H
        have hnb57 := ab.out
        have hnc57 := ap.out
        have hnb58 := aC.out
        have hnc58 := aB.out
        have hnb59 := aF.out
        have hnc59 := aE.out
        have bE : w27.cell? ⟨gb119, 0, none⟩ = some (.int .i64 ((rd_T102 s_ i_).f0.f0)) := bA2 BK119 rfl; have bF : w27.cell? ⟨gb119, 1, none⟩ = some (.int .i64 ((rd_T102 s_ i_).f0.f1)) := bA2 BK119 rfl; have bG : w27.cell? ⟨gb119, 2, none⟩ = some (.int .i64 ((rd_T102 s_ i_).f0.f2)) := bA2 BK119 rfl; have bH : w27.cell? ⟨gb119, 3, none⟩ = some (.int .i64 ((rd_T102 s_ i_).f0.f3)) := bA2 BK119 rfl
        have bI := blk_frozen BK119.out 0
        have bJ := blk_frozen BK119.out 1
        have bK := blk_frozen BK119.out 2
        have bL := blk_frozen BK119.out 3
        go_wp2_with (first | ((with_reducible refine gate_callee (f := 60) rfl ?_); refine goesL_ (some 20) rfl rfl Try.func60 (by kernel_rfl) rfl #[.agg #[.int .i64 ((rd_T102 s_ i_).f0.f0), .int .i64 ((rd_T102 s_ i_).f0.f1), .int .i64 ((rd_T102 s_ i_).f0.f2), .int .i64 ((rd_T102 s_ i_).f0.f3)]] rfl z2_4 ?_; (with_reducible refine (impl_vector_lead.calls ((rd_T102 s_ i_).f0.f0) ((rd_T102 s_ i_).f0.f1) ((rd_T102 s_ i_).f0.f2) ((rd_T102 s_ i_).f0.f3) (3 : Int) _ A28.out).mono ?_); rintro e w61 ⟨rfl, hb⟩; refine ⟨_, rfl, ?_⟩; replace BK116 := bBZ_ BK116 hb; replace BK117 := bBZ_ BK117 hb; replace BK119 := bBZ_ BK119 hb; replace HK := Aside0.mk (KeepBut.trans z2_2 (KeepBut.of_below hb g none) (.inl rfl)); replace HB := Aside0.mk (below_step z2_1 hb); replace HI0 := Aside0.mk (IsS81.below z2_3 hb); (try clear hb); have hnb62 := ao.out; have hnc62 := aa.out; have hnb63 := aD.out; have hnc63 := aA.out; have bM : w61.cell? ⟨gb116, 3, none⟩ = some (.int .i64 an) := bA2 BK116 rfl; have bN := blk_frozen BK116.out 3))
        go_meet
        case rel => exact ⟨_, (an), z2_12, H', ⟨z2_13⟩, ⟨zL2 BK116.out⟩, ⟨zL2 BK117.out⟩, ⟨zL2 BK119.out⟩, ⟨z2_3⟩, ⟨z2_2⟩, ⟨z2_1⟩⟩
    case rest =>
     clear HC9
     try clear c6
     try clear c6b0
     try clear c7
     try clear c7b0
     try clear c8
     try clear c8b0
     try clear aN aO
     try clear aP
     try clear aR
     try clear aT
     try clear aV
     try clear aX
     try clear aZ
     try clear a1
     try clear a3
     try clear a5
     try clear a7
     try clear aH
     try clear aJ
     try clear aL aM
     try clear aQ
     try clear aS
     try clear aU
     try clear aW
     try clear aY
     try clear a0
     try clear a2
     try clear a4
     try clear a6
     try clear a8
     try clear aI
     try clear aK
     try clear hx118_0 hx118_1 hx118_10 hx118_11 hx118_2 hx118_3 hx118_4 hx118_5 hx118_6 hx118_7 hx118_8 hx118_9
     try clear p118
     try clear q118
     obtain ⟨kq, x7_8, rfl, HA, HJ8, BK116, BK117, BK119, HI0, HK, HB⟩ := hcut
     cases kq with
     | zero => exact absurd HA.out (by simp [impl_span_less.j1])
     | succ kj8 =>
      have H := HA.out
      clear HA; simp only [impl_span_less.j1] at H
      replace H := Option.bind_eq_some_iff.mp H
      obtain ⟨⟨t121, t122, t123, t124⟩, A650, H⟩ := H
      dsimp only at H
      have A65 := Aside0.mk A650
      clear A650
      replace H := Option.bind_eq_some_iff.mp H
      obtain ⟨⟨t125, t126, t127, t128⟩, A660, H⟩ := H
      dsimp only at H
      have A66 := Aside0.mk A660
      clear A660
      have H' := Aside0.mk H
      clear H
      try go_wp2
      replace BK116 := Aside0.mk (blk_drew BK116.out)
      replace BK117 := Aside0.mk (blk_drew BK117.out)
      replace BK119 := Aside0.mk (blk_drew BK119.out)
      replace HI0 := Aside0.mk (IsS81.drew HI0.out)
      replace HK := Aside0.mk (keep_drew HK.out)
      replace HB := Aside0.mk (below_drew1 HB.out)
      refine start_ (n := 9) (S := fun w' => w'.cell? ⟨gb116, 0, none⟩ = some (.int .i64 ak) ∧ w'.cell? ⟨gb116, 1, none⟩ = some (.int .i64 al) ∧ w'.cell? ⟨gb116, 2, none⟩ = some (.int .i64 am) ∧ w'.cell? ⟨gb116, 3, none⟩ = some (.int .i64 an) ∧ w'.cell? ⟨gb119, 0, none⟩ = some (.int .i64 ((rd_T102 s_ i_).f0.f0)) ∧ w'.cell? ⟨gb119, 1, none⟩ = some (.int .i64 ((rd_T102 s_ i_).f0.f1)) ∧ w'.cell? ⟨gb119, 2, none⟩ = some (.int .i64 ((rd_T102 s_ i_).f0.f2)) ∧ w'.cell? ⟨gb119, 3, none⟩ = some (.int .i64 ((rd_T102 s_ i_).f0.f3))) (ds := [8]) #[false, false, false, false, false, false, false, false, false] (by kernel_rfl) rfl rfl ⟨bA2 BK116 rfl, bA2 BK116 rfl, bA2 BK116 rfl, bA2 BK116 rfl, bA2 BK119 rfl, bA2 BK119 rfl, bA2 BK119 rfl, bA2 BK119 rfl⟩ (fun hHeld => ?_); refine with_tabW impl_span_less.tab5 impl_span_less.bits5 (fun HT_ HW_ => ?_); generalize wc.drew = w67 at BK116 BK117 BK119 HI0 HK HB hHeld ⊢; refine pZ 0 HT_ ?_; refine pZ 2 HT_ ?_; refine pZ 4 HT_ ?_; refine tZ 1 hHeld HT_ HW_ ?_; refine tZ 3 hHeld HT_ HW_ ?_; refine oZ 5 HT_ (fun K hK => ?_); refine goes_ Try.func93 (by kernel_rfl) rfl #[.agg #[.int .i64 ((rd_T102 s_ i_).f0.f0), .int .i64 ((rd_T102 s_ i_).f0.f1), .int .i64 ((rd_T102 s_ i_).f0.f2), .int .i64 ((rd_T102 s_ i_).f0.f3)], .int .i64 x7_8] (by rfl) rfl rfl z2_4 ?_
      with_reducible refine (impl_vector_times.calls ((rd_T102 s_ i_).f0.f0) ((rd_T102 s_ i_).f0.f1) ((rd_T102 s_ i_).f0.f2) ((rd_T102 s_ i_).f0.f3) x7_8 t121 t122 t123 t124 _ A65.out).mono ?_
      rintro e w68 ⟨rfl, hb⟩
      refine ⟨_, rfl, ?_⟩
      replace BK116 := bBZ_ BK116 hb
      replace BK117 := bBZ_ BK117 hb
      replace BK119 := bBZ_ BK119 hb
      replace HK := Aside0.mk (KeepBut.trans z2_2 (KeepBut.of_below hb g none) (.inl rfl))
      replace HB := Aside0.mk (below_step z2_1 hb)
      replace HI0 := Aside0.mk (IsS81.below z2_3 hb)
      (try clear hb); (try clear hb2); (try clear hk); (try clear hi); refine hK.out _ _ ⟨bA2 BK116 rfl, bA2 BK116 rfl, bA2 BK116 rfl, bA2 BK116 rfl, bA2 BK119 rfl, bA2 BK119 rfl, bA2 BK119 rfl, bA2 BK119 rfl⟩ (fun hHeld => ?_); clear hK K; refine nZ ?_; refine oZ 6 HT_ (fun K hK => ?_); refine goes_ Try.func92 (by kernel_rfl) rfl #[.agg #[.int .i64 ak, .int .i64 al, .int .i64 am, .int .i64 an], .agg #[.int .i64 t121, .int .i64 t122, .int .i64 t123, .int .i64 t124]] (by rfl) rfl rfl z2_4 ?_
      with_reducible refine (impl_vector_minus.calls ak al am an t121 t122 t123 t124 t125 t126 t127 t128 _ A66.out).mono ?_
      rintro e w69 ⟨rfl, hb⟩
      refine ⟨_, rfl, ?_⟩
      replace BK116 := bBZ_ BK116 hb
      replace BK117 := bBZ_ BK117 hb
      replace BK119 := bBZ_ BK119 hb
      replace HK := Aside0.mk (KeepBut.trans z2_2 (KeepBut.of_below hb g none) (.inl rfl))
      replace HB := Aside0.mk (below_step z2_1 hb)
      replace HI0 := Aside0.mk (IsS81.below z2_3 hb)
      (try clear hb); (try clear hb2); (try clear hk); (try clear hi); refine hK.out _ _ ⟨bA2 BK116 rfl, bA2 BK116 rfl, bA2 BK116 rfl, bA2 BK116 rfl, bA2 BK119 rfl, bA2 BK119 rfl, bA2 BK119 rfl, bA2 BK119 rfl⟩ (fun hHeld => ?_); clear hK K; refine nZ ?_; refine pZ 7 HT_ ?_; refine lZ 8 HT_ (fun K hK => ?_); have hs70 : w69.cell? ⟨gb116, 0, none⟩ = some (.int .i64 ak) := bA2 BK116 rfl
      have hfs70 := blk_frozen BK116.out 0
      have hns70_1 := aa.out
      have hns70_2 := ab.out
      have hms70_1 := ao.out
      have hms70_2 := ap.out
      have hs71 : w69.cell? ⟨gb116, 1, none⟩ = some (.int .i64 al) := bA2 BK116 rfl
      have hfs71 := blk_frozen BK116.out 1
      have hns71_1 := aa.out
      have hns71_2 := ab.out
      have hms71_1 := ao.out
      have hms71_2 := ap.out
      have hs72 : w69.cell? ⟨gb116, 2, none⟩ = some (.int .i64 am) := bA2 BK116 rfl
      have hfs72 := blk_frozen BK116.out 2
      have hns72_1 := aa.out
      have hns72_2 := ab.out
      have hms72_1 := ao.out
      have hms72_2 := ap.out
      have hs73 : w69.cell? ⟨gb116, 3, none⟩ = some (.int .i64 an) := bA2 BK116 rfl
      have hfs73 := blk_frozen BK116.out 3
      have hns73_1 := aa.out
      have hns73_2 := ab.out
      have hms73_1 := ao.out
      have hms73_2 := ap.out
      refine skip_ (w1 := ?_) (by rfl) rfl ?_ ?_; rotate_left
      ·go_simp
       rfl
      refine hK.out _ _ ?_; clear hK K; refine done_ (done_of HT_.out (by kernel_rfl)) ?_
      try go_wp2
      go_loopg [32] kj8 (fun kq v32 w' => ∃ (x32_3 : Int) (ac : Int) (ad : Int) (ae : Int) (af : Int) (ag : Int) (ah : Int) (ai : Int) (aj : Int), v32 = .int .i64 x32_3 ∧ Aside0 (impl_span_less.l1 kq x7_8 s_ (s_.length : Int) i_ x32_3 t125 t126 t127 t128 ac ad ae af ag ah ai aj ((rd_T102 s_ i_).f0.f0) ((rd_T102 s_ i_).f0.f1) ((rd_T102 s_ i_).f0.f2) ((rd_T102 s_ i_).f0.f3) ((rd_T102 s_ i_).f1.f0) ((rd_T102 s_ i_).f1.f1) ((rd_T102 s_ i_).f1.f2) ((rd_T102 s_ i_).f1.f3) ((rd_T102 s_ i_).f1.f4) ((rd_T102 s_ i_).f1.f5) ((rd_T102 s_ i_).f1.f6) ((rd_T102 s_ i_).f1.f7) = some (r1, r2, r3, r4, r5, r6, r7, r8, r9, r10, r11, r12)) ∧ Aside0 (kq ≤ kj8) ∧ Aside0 (w'.heap[gb116]? = some (.cells #[.int .i64 t125, .int .i64 t126, .int .i64 t127, .int .i64 t128, .int .i64 ac, .int .i64 ad, .int .i64 ae, .int .i64 af, .int .i64 ag, .int .i64 ah, .int .i64 ai, .int .i64 aj] 102 (0, 0))) ∧ Aside0 (w'.heap[gb117]? = some (.cells #[.int .i64 0, .int .i64 0, .int .i64 0, .int .i64 0, .int .i64 0, .int .i64 0, .int .i64 0, .int .i64 0, .int .i64 0, .int .i64 0, .int .i64 0, .int .i64 0] 102 (0, 0))) ∧ Aside0 (w'.heap[gb119]? = some (.cells #[.int .i64 ((rd_T102 s_ i_).f0.f0), .int .i64 ((rd_T102 s_ i_).f0.f1), .int .i64 ((rd_T102 s_ i_).f0.f2), .int .i64 ((rd_T102 s_ i_).f0.f3), .int .i64 ((rd_T102 s_ i_).f1.f0), .int .i64 ((rd_T102 s_ i_).f1.f1), .int .i64 ((rd_T102 s_ i_).f1.f2), .int .i64 ((rd_T102 s_ i_).f1.f3), .int .i64 ((rd_T102 s_ i_).f1.f4), .int .i64 ((rd_T102 s_ i_).f1.f5), .int .i64 ((rd_T102 s_ i_).f1.f6), .int .i64 ((rd_T102 s_ i_).f1.f7)] 102 (0, 0))) ∧ Aside0 (IsS81 w0 w' g s_ s0_1) ∧ Aside0 (KeepBut w w' g none) ∧ Aside0 (Below w0.heap.size w0 w'))
      case atStart => exact ⟨(0), (aq), (ar), (au), (av), (aw), (ax), (ay), (az), z2_12, H', ⟨Nat.le_refl _⟩, ⟨bZ BK116.out⟩, ⟨gZ aa.out BK117.out⟩, ⟨gZ ab.out BK119.out⟩, ⟨z2_3⟩, ⟨z2_2⟩, ⟨z2_1⟩⟩
      case round =>
       clear H'
       try clear c6
       try clear c6b0
       try clear c7
       try clear c7b0
       try clear c8
       try clear c8b0
       try clear aN aO
       try clear aP
       try clear aR
       try clear aT
       try clear aV
       try clear aX
       try clear aZ
       try clear a1
       try clear a3
       try clear a5
       try clear a7
       try clear aH
       try clear aJ
       try clear aL aM
       try clear aQ
       try clear aS
       try clear aU
       try clear aW
       try clear aY
       try clear a0
       try clear a2
       try clear a4
       try clear a6
       try clear a8
       try clear aI
       try clear aK
       try clear hx118_0 hx118_1 hx118_10 hx118_11 hx118_2 hx118_3 hx118_4 hx118_5 hx118_6 hx118_7 hx118_8 hx118_9
       try clear p118
       try clear q118
       obtain ⟨x32_3, ac, ad, ae, af, ag, ah, ai, aj, rfl, HA, HK3, BK116, BK117, BK119, HI0, HK, HB⟩ := hrel
       cases gk with
       | zero => exact absurd HA.out (by simp [impl_span_less.l1])
       | succ k3 =>
        have H := HA.out
        clear HA; simp only [impl_span_less.l1] at H
        by_cases c74 : x32_3 < 8
        ·rw [if_pos c74] at H
         have c74b0 : decide (x32_3 < 8) = true := decide_eq_true c74; clear c74
         by_cases c75 : x32_3 = 0
         ·rw [if_pos c75] at H
          subst c75
          replace H := Option.bind_eq_some_iff.mp H
          obtain ⟨t129, A760, H⟩ := H
          have A76 := Aside0.mk A760
          clear A760
          replace H := Option.bind_eq_some_iff.mp H
          obtain ⟨t130, A770, H⟩ := H
          have A77 := Aside0.mk A770
          clear A770
          have H' := Aside0.mk H
          clear H
          try go_wp2
          replace BK116 := Aside0.mk (blk_drew BK116.out)
          replace BK117 := Aside0.mk (blk_drew BK117.out)
          replace BK119 := Aside0.mk (blk_drew BK119.out)
          replace HI0 := Aside0.mk (IsS81.drew HI0.out)
          replace HK := Aside0.mk (keep_drew HK.out)
          replace HB := Aside0.mk (below_drew1 HB.out)
          refine start_ (n := 15) (S := fun w' => w'.cell? ⟨gb116, 4, none⟩ = some (.int .i64 ac) ∧ w'.cell? ⟨gb119, 4, none⟩ = some (.int .i64 ((rd_T102 s_ i_).f1.f0))) (ds := [14]) #[false, false, false, false, false, false, false, false, false, false, false, false, false, false, false] (by kernel_rfl) rfl rfl ⟨bA2 BK116 rfl, bA2 BK119 rfl⟩ (fun hHeld => ?_); refine with_tabW impl_span_less.tab9 impl_span_less.bits9 (fun HT_ HW_ => ?_); generalize wr.drew = w78 at BK116 BK117 BK119 HI0 HK HB hHeld ⊢; refine pZ 0 HT_ ?_; refine pZ 1 HT_ ?_; refine pZ 2 HT_ ?_; refine pZ 3 HT_ ?_; refine pZ 5 HT_ ?_; refine pZ 6 HT_ ?_; refine pZ 7 HT_ ?_; refine pZ 9 HT_ ?_; refine pZ 12 HT_ ?_; refine tZ 4 hHeld HT_ HW_ ?_; refine tZ 8 hHeld HT_ HW_ ?_; refine oZ 10 HT_ (fun K hK => ?_); refine goes_ Try.func104 (by kernel_rfl) rfl #[.int .i64 ((rd_T102 s_ i_).f1.f0), .int .i64 x7_8] (by rfl) rfl rfl z2_4 ?_
          with_reducible refine (impl_element_times.calls ((rd_T102 s_ i_).f1.f0) x7_8 t129 _ A76.out).mono ?_
          rintro e w' ⟨rfl, ⟨nd, rfl⟩⟩
          refine ⟨_, rfl, ?_⟩; refine hK.out _ _ ⟨bA2 BK116 rfl, bA2 BK119 rfl⟩ (fun hHeld => ?_); clear hK K; refine nZ ?_; refine oZ 11 HT_ (fun K hK => ?_); refine goes_ Try.func127 (by kernel_rfl) rfl #[.int .i64 ac, .int .i64 t129] (by rfl) rfl rfl z2_4 ?_
          with_reducible refine (impl_element_minus.calls ac t129 t130 _ A77.out).mono ?_
          rintro e w' ⟨rfl, ⟨nd, rfl⟩⟩
          refine ⟨_, rfl, ?_⟩; refine hK.out _ _ ⟨bA2 BK116 rfl, bA2 BK119 rfl⟩ (fun hHeld => ?_); clear hK K; refine nZ ?_; refine pZ 13 HT_ ?_; refine lZ 14 HT_ (fun K hK => ?_); have hs79 : w78.cell? ⟨gb116, 4, none⟩ = some (.int .i64 ac) := bA2 BK116 rfl
          have hfs79 := blk_frozen BK116.out 4
          have hns79_1 := aa.out
          have hns79_2 := ab.out
          have hms79_1 := ao.out
          have hms79_2 := ap.out
          refine skip_ (w1 := ?_) (by rfl) rfl ?_ ?_; rotate_left
          ·go_simp
           rfl
          refine hK.out _ _ ?_; clear hK K; refine done_ (done_of HT_.out (by kernel_rfl)) ?_
          try go_wp2
          go_roundg k3
          case measure => have := HK1.out; have := HJ8.out; have := HK3.out; omega
          case rel => exact ⟨(wrap64 ((0 : Int) + 1)), (t130), (ad), (ae), (af), (ag), (ah), (ai), (aj), z2_8, H', ⟨z2_9⟩, ⟨bZ BK116.out⟩, ⟨gZ aa.out BK117.out⟩, ⟨gZ ab.out BK119.out⟩, ⟨z2_3⟩, ⟨z2_2⟩, ⟨z2_1⟩⟩
         ·rw [if_neg c75] at H
          clear c75
          by_cases c80 : x32_3 = 1
          ·rw [if_pos c80] at H
           subst c80
           replace H := Option.bind_eq_some_iff.mp H
           obtain ⟨t131, A810, H⟩ := H
           have A81 := Aside0.mk A810
           clear A810
           replace H := Option.bind_eq_some_iff.mp H
           obtain ⟨t132, A820, H⟩ := H
           have A82 := Aside0.mk A820
           clear A820
           have H' := Aside0.mk H
           clear H
           try go_wp2
           replace BK116 := Aside0.mk (blk_drew BK116.out)
           replace BK117 := Aside0.mk (blk_drew BK117.out)
           replace BK119 := Aside0.mk (blk_drew BK119.out)
           replace HI0 := Aside0.mk (IsS81.drew HI0.out)
           replace HK := Aside0.mk (keep_drew HK.out)
           replace HB := Aside0.mk (below_drew1 HB.out)
           refine start_ (n := 15) (S := fun w' => w'.cell? ⟨gb116, 5, none⟩ = some (.int .i64 ad) ∧ w'.cell? ⟨gb119, 5, none⟩ = some (.int .i64 ((rd_T102 s_ i_).f1.f1))) (ds := [14]) #[false, false, false, false, false, false, false, false, false, false, false, false, false, false, false] (by kernel_rfl) rfl rfl ⟨bA2 BK116 rfl, bA2 BK119 rfl⟩ (fun hHeld => ?_); refine with_tabW impl_span_less.tab9 impl_span_less.bits9 (fun HT_ HW_ => ?_); generalize wr.drew = w83 at BK116 BK117 BK119 HI0 HK HB hHeld ⊢; refine pZ 0 HT_ ?_; refine pZ 1 HT_ ?_; refine pZ 2 HT_ ?_; refine pZ 3 HT_ ?_; refine pZ 5 HT_ ?_; refine pZ 6 HT_ ?_; refine pZ 7 HT_ ?_; refine pZ 9 HT_ ?_; refine pZ 12 HT_ ?_; refine tZ 4 hHeld HT_ HW_ ?_; refine tZ 8 hHeld HT_ HW_ ?_; refine oZ 10 HT_ (fun K hK => ?_); refine goes_ Try.func104 (by kernel_rfl) rfl #[.int .i64 ((rd_T102 s_ i_).f1.f1), .int .i64 x7_8] (by rfl) rfl rfl z2_4 ?_
           with_reducible refine (impl_element_times.calls ((rd_T102 s_ i_).f1.f1) x7_8 t131 _ A81.out).mono ?_
           rintro e w' ⟨rfl, ⟨nd, rfl⟩⟩
           refine ⟨_, rfl, ?_⟩; refine hK.out _ _ ⟨bA2 BK116 rfl, bA2 BK119 rfl⟩ (fun hHeld => ?_); clear hK K; refine nZ ?_; refine oZ 11 HT_ (fun K hK => ?_); refine goes_ Try.func127 (by kernel_rfl) rfl #[.int .i64 ad, .int .i64 t131] (by rfl) rfl rfl z2_4 ?_
           with_reducible refine (impl_element_minus.calls ad t131 t132 _ A82.out).mono ?_
           rintro e w' ⟨rfl, ⟨nd, rfl⟩⟩
           refine ⟨_, rfl, ?_⟩; refine hK.out _ _ ⟨bA2 BK116 rfl, bA2 BK119 rfl⟩ (fun hHeld => ?_); clear hK K; refine nZ ?_; refine pZ 13 HT_ ?_; refine lZ 14 HT_ (fun K hK => ?_); have hs84 : w83.cell? ⟨gb116, 5, none⟩ = some (.int .i64 ad) := bA2 BK116 rfl
           have hfs84 := blk_frozen BK116.out 5
           have hns84_1 := aa.out
           have hns84_2 := ab.out
           have hms84_1 := ao.out
           have hms84_2 := ap.out
           refine skip_ (w1 := ?_) (by rfl) rfl ?_ ?_; rotate_left
           ·go_simp
            rfl
           refine hK.out _ _ ?_; clear hK K; refine done_ (done_of HT_.out (by kernel_rfl)) ?_
           try go_wp2
           go_roundg k3
           case measure => have := HK1.out; have := HJ8.out; have := HK3.out; omega
           case rel => exact ⟨(wrap64 ((1 : Int) + 1)), (ac), (t132), (ae), (af), (ag), (ah), (ai), (aj), z2_8, H', ⟨z2_9⟩, ⟨bZ BK116.out⟩, ⟨gZ aa.out BK117.out⟩, ⟨gZ ab.out BK119.out⟩, ⟨z2_3⟩, ⟨z2_2⟩, ⟨z2_1⟩⟩
          ·rw [if_neg c80] at H
           clear c80
           by_cases c85 : x32_3 = 2
           ·rw [if_pos c85] at H
            subst c85
            replace H := Option.bind_eq_some_iff.mp H
            obtain ⟨t133, A860, H⟩ := H
            have A86 := Aside0.mk A860
            clear A860
            replace H := Option.bind_eq_some_iff.mp H
            obtain ⟨t134, A870, H⟩ := H
            have A87 := Aside0.mk A870
            clear A870
            have H' := Aside0.mk H
            clear H
            try go_wp2
            replace BK116 := Aside0.mk (blk_drew BK116.out)
            replace BK117 := Aside0.mk (blk_drew BK117.out)
            replace BK119 := Aside0.mk (blk_drew BK119.out)
            replace HI0 := Aside0.mk (IsS81.drew HI0.out)
            replace HK := Aside0.mk (keep_drew HK.out)
            replace HB := Aside0.mk (below_drew1 HB.out)
            refine start_ (n := 15) (S := fun w' => w'.cell? ⟨gb116, 6, none⟩ = some (.int .i64 ae) ∧ w'.cell? ⟨gb119, 6, none⟩ = some (.int .i64 ((rd_T102 s_ i_).f1.f2))) (ds := [14]) #[false, false, false, false, false, false, false, false, false, false, false, false, false, false, false] (by kernel_rfl) rfl rfl ⟨bA2 BK116 rfl, bA2 BK119 rfl⟩ (fun hHeld => ?_); refine with_tabW impl_span_less.tab9 impl_span_less.bits9 (fun HT_ HW_ => ?_); generalize wr.drew = w88 at BK116 BK117 BK119 HI0 HK HB hHeld ⊢; refine pZ 0 HT_ ?_; refine pZ 1 HT_ ?_; refine pZ 2 HT_ ?_; refine pZ 3 HT_ ?_; refine pZ 5 HT_ ?_; refine pZ 6 HT_ ?_; refine pZ 7 HT_ ?_; refine pZ 9 HT_ ?_; refine pZ 12 HT_ ?_; refine tZ 4 hHeld HT_ HW_ ?_; refine tZ 8 hHeld HT_ HW_ ?_; refine oZ 10 HT_ (fun K hK => ?_); refine goes_ Try.func104 (by kernel_rfl) rfl #[.int .i64 ((rd_T102 s_ i_).f1.f2), .int .i64 x7_8] (by rfl) rfl rfl z2_4 ?_
            with_reducible refine (impl_element_times.calls ((rd_T102 s_ i_).f1.f2) x7_8 t133 _ A86.out).mono ?_
            rintro e w' ⟨rfl, ⟨nd, rfl⟩⟩
            refine ⟨_, rfl, ?_⟩; refine hK.out _ _ ⟨bA2 BK116 rfl, bA2 BK119 rfl⟩ (fun hHeld => ?_); clear hK K; refine nZ ?_; refine oZ 11 HT_ (fun K hK => ?_); refine goes_ Try.func127 (by kernel_rfl) rfl #[.int .i64 ae, .int .i64 t133] (by rfl) rfl rfl z2_4 ?_
            with_reducible refine (impl_element_minus.calls ae t133 t134 _ A87.out).mono ?_
            rintro e w' ⟨rfl, ⟨nd, rfl⟩⟩
            refine ⟨_, rfl, ?_⟩; refine hK.out _ _ ⟨bA2 BK116 rfl, bA2 BK119 rfl⟩ (fun hHeld => ?_); clear hK K; refine nZ ?_; refine pZ 13 HT_ ?_; refine lZ 14 HT_ (fun K hK => ?_); have hs89 : w88.cell? ⟨gb116, 6, none⟩ = some (.int .i64 ae) := bA2 BK116 rfl
            have hfs89 := blk_frozen BK116.out 6
            have hns89_1 := aa.out
            have hns89_2 := ab.out
            have hms89_1 := ao.out
            have hms89_2 := ap.out
            refine skip_ (w1 := ?_) (by rfl) rfl ?_ ?_; rotate_left
            ·go_simp
             rfl
            refine hK.out _ _ ?_; clear hK K; refine done_ (done_of HT_.out (by kernel_rfl)) ?_
            try go_wp2
            go_roundg k3
            case measure => have := HK1.out; have := HJ8.out; have := HK3.out; omega
            case rel => exact ⟨(wrap64 ((2 : Int) + 1)), (ac), (ad), (t134), (af), (ag), (ah), (ai), (aj), z2_8, H', ⟨z2_9⟩, ⟨bZ BK116.out⟩, ⟨gZ aa.out BK117.out⟩, ⟨gZ ab.out BK119.out⟩, ⟨z2_3⟩, ⟨z2_2⟩, ⟨z2_1⟩⟩
           ·rw [if_neg c85] at H
            clear c85
            by_cases c90 : x32_3 = 3
            ·rw [if_pos c90] at H
             subst c90
             replace H := Option.bind_eq_some_iff.mp H
             obtain ⟨t135, A910, H⟩ := H
             have A91 := Aside0.mk A910
             clear A910
             replace H := Option.bind_eq_some_iff.mp H
             obtain ⟨t136, A920, H⟩ := H
             have A92 := Aside0.mk A920
             clear A920
             have H' := Aside0.mk H
             clear H
             try go_wp2
             replace BK116 := Aside0.mk (blk_drew BK116.out)
             replace BK117 := Aside0.mk (blk_drew BK117.out)
             replace BK119 := Aside0.mk (blk_drew BK119.out)
             replace HI0 := Aside0.mk (IsS81.drew HI0.out)
             replace HK := Aside0.mk (keep_drew HK.out)
             replace HB := Aside0.mk (below_drew1 HB.out)
             refine start_ (n := 15) (S := fun w' => w'.cell? ⟨gb116, 7, none⟩ = some (.int .i64 af) ∧ w'.cell? ⟨gb119, 7, none⟩ = some (.int .i64 ((rd_T102 s_ i_).f1.f3))) (ds := [14]) #[false, false, false, false, false, false, false, false, false, false, false, false, false, false, false] (by kernel_rfl) rfl rfl ⟨bA2 BK116 rfl, bA2 BK119 rfl⟩ (fun hHeld => ?_); refine with_tabW impl_span_less.tab9 impl_span_less.bits9 (fun HT_ HW_ => ?_); generalize wr.drew = w93 at BK116 BK117 BK119 HI0 HK HB hHeld ⊢; refine pZ 0 HT_ ?_; refine pZ 1 HT_ ?_; refine pZ 2 HT_ ?_; refine pZ 3 HT_ ?_; refine pZ 5 HT_ ?_; refine pZ 6 HT_ ?_; refine pZ 7 HT_ ?_; refine pZ 9 HT_ ?_; refine pZ 12 HT_ ?_; refine tZ 4 hHeld HT_ HW_ ?_; refine tZ 8 hHeld HT_ HW_ ?_; refine oZ 10 HT_ (fun K hK => ?_); refine goes_ Try.func104 (by kernel_rfl) rfl #[.int .i64 ((rd_T102 s_ i_).f1.f3), .int .i64 x7_8] (by rfl) rfl rfl z2_4 ?_
             with_reducible refine (impl_element_times.calls ((rd_T102 s_ i_).f1.f3) x7_8 t135 _ A91.out).mono ?_
             rintro e w' ⟨rfl, ⟨nd, rfl⟩⟩
             refine ⟨_, rfl, ?_⟩; refine hK.out _ _ ⟨bA2 BK116 rfl, bA2 BK119 rfl⟩ (fun hHeld => ?_); clear hK K; refine nZ ?_; refine oZ 11 HT_ (fun K hK => ?_); refine goes_ Try.func127 (by kernel_rfl) rfl #[.int .i64 af, .int .i64 t135] (by rfl) rfl rfl z2_4 ?_
             with_reducible refine (impl_element_minus.calls af t135 t136 _ A92.out).mono ?_
             rintro e w' ⟨rfl, ⟨nd, rfl⟩⟩
             refine ⟨_, rfl, ?_⟩; refine hK.out _ _ ⟨bA2 BK116 rfl, bA2 BK119 rfl⟩ (fun hHeld => ?_); clear hK K; refine nZ ?_; refine pZ 13 HT_ ?_; refine lZ 14 HT_ (fun K hK => ?_); have hs94 : w93.cell? ⟨gb116, 7, none⟩ = some (.int .i64 af) := bA2 BK116 rfl
             have hfs94 := blk_frozen BK116.out 7
             have hns94_1 := aa.out
             have hns94_2 := ab.out
             have hms94_1 := ao.out
             have hms94_2 := ap.out
             refine skip_ (w1 := ?_) (by rfl) rfl ?_ ?_; rotate_left
             ·go_simp
              rfl
             refine hK.out _ _ ?_; clear hK K; refine done_ (done_of HT_.out (by kernel_rfl)) ?_
             try go_wp2
             go_roundg k3
             case measure => have := HK1.out; have := HJ8.out; have := HK3.out; omega
             case rel => exact ⟨(wrap64 ((3 : Int) + 1)), (ac), (ad), (ae), (t136), (ag), (ah), (ai), (aj), z2_8, H', ⟨z2_9⟩, ⟨bZ BK116.out⟩, ⟨gZ aa.out BK117.out⟩, ⟨gZ ab.out BK119.out⟩, ⟨z2_3⟩, ⟨z2_2⟩, ⟨z2_1⟩⟩
            ·rw [if_neg c90] at H
             clear c90
             by_cases c95 : x32_3 = 4
             ·rw [if_pos c95] at H
              subst c95
              replace H := Option.bind_eq_some_iff.mp H
              obtain ⟨t137, A960, H⟩ := H
              have A96 := Aside0.mk A960
              clear A960
              replace H := Option.bind_eq_some_iff.mp H
              obtain ⟨t138, A970, H⟩ := H
              have A97 := Aside0.mk A970
              clear A970
              have H' := Aside0.mk H
              clear H
              try go_wp2
              replace BK116 := Aside0.mk (blk_drew BK116.out)
              replace BK117 := Aside0.mk (blk_drew BK117.out)
              replace BK119 := Aside0.mk (blk_drew BK119.out)
              replace HI0 := Aside0.mk (IsS81.drew HI0.out)
              replace HK := Aside0.mk (keep_drew HK.out)
              replace HB := Aside0.mk (below_drew1 HB.out)
              refine start_ (n := 15) (S := fun w' => w'.cell? ⟨gb116, 8, none⟩ = some (.int .i64 ag) ∧ w'.cell? ⟨gb119, 8, none⟩ = some (.int .i64 ((rd_T102 s_ i_).f1.f4))) (ds := [14]) #[false, false, false, false, false, false, false, false, false, false, false, false, false, false, false] (by kernel_rfl) rfl rfl ⟨bA2 BK116 rfl, bA2 BK119 rfl⟩ (fun hHeld => ?_); refine with_tabW impl_span_less.tab9 impl_span_less.bits9 (fun HT_ HW_ => ?_); generalize wr.drew = w98 at BK116 BK117 BK119 HI0 HK HB hHeld ⊢; refine pZ 0 HT_ ?_; refine pZ 1 HT_ ?_; refine pZ 2 HT_ ?_; refine pZ 3 HT_ ?_; refine pZ 5 HT_ ?_; refine pZ 6 HT_ ?_; refine pZ 7 HT_ ?_; refine pZ 9 HT_ ?_; refine pZ 12 HT_ ?_; refine tZ 4 hHeld HT_ HW_ ?_; refine tZ 8 hHeld HT_ HW_ ?_; refine oZ 10 HT_ (fun K hK => ?_); refine goes_ Try.func104 (by kernel_rfl) rfl #[.int .i64 ((rd_T102 s_ i_).f1.f4), .int .i64 x7_8] (by rfl) rfl rfl z2_4 ?_
              with_reducible refine (impl_element_times.calls ((rd_T102 s_ i_).f1.f4) x7_8 t137 _ A96.out).mono ?_
              rintro e w' ⟨rfl, ⟨nd, rfl⟩⟩
              refine ⟨_, rfl, ?_⟩; refine hK.out _ _ ⟨bA2 BK116 rfl, bA2 BK119 rfl⟩ (fun hHeld => ?_); clear hK K; refine nZ ?_; refine oZ 11 HT_ (fun K hK => ?_); refine goes_ Try.func127 (by kernel_rfl) rfl #[.int .i64 ag, .int .i64 t137] (by rfl) rfl rfl z2_4 ?_
              with_reducible refine (impl_element_minus.calls ag t137 t138 _ A97.out).mono ?_
              rintro e w' ⟨rfl, ⟨nd, rfl⟩⟩
              refine ⟨_, rfl, ?_⟩; refine hK.out _ _ ⟨bA2 BK116 rfl, bA2 BK119 rfl⟩ (fun hHeld => ?_); clear hK K; refine nZ ?_; refine pZ 13 HT_ ?_; refine lZ 14 HT_ (fun K hK => ?_); have hs99 : w98.cell? ⟨gb116, 8, none⟩ = some (.int .i64 ag) := bA2 BK116 rfl
              have hfs99 := blk_frozen BK116.out 8
              have hns99_1 := aa.out
              have hns99_2 := ab.out
              have hms99_1 := ao.out
              have hms99_2 := ap.out
              refine skip_ (w1 := ?_) (by rfl) rfl ?_ ?_; rotate_left
              ·go_simp
               rfl
              refine hK.out _ _ ?_; clear hK K; refine done_ (done_of HT_.out (by kernel_rfl)) ?_
              try go_wp2
              go_roundg k3
              case measure => have := HK1.out; have := HJ8.out; have := HK3.out; omega
              case rel => exact ⟨(wrap64 ((4 : Int) + 1)), (ac), (ad), (ae), (af), (t138), (ah), (ai), (aj), z2_8, H', ⟨z2_9⟩, ⟨bZ BK116.out⟩, ⟨gZ aa.out BK117.out⟩, ⟨gZ ab.out BK119.out⟩, ⟨z2_3⟩, ⟨z2_2⟩, ⟨z2_1⟩⟩
             ·rw [if_neg c95] at H
              clear c95
              by_cases c100 : x32_3 = 5
              ·rw [if_pos c100] at H
               subst c100
               replace H := Option.bind_eq_some_iff.mp H
               obtain ⟨t139, A1010, H⟩ := H
               have A101 := Aside0.mk A1010
               clear A1010
               replace H := Option.bind_eq_some_iff.mp H
               obtain ⟨t140, A1020, H⟩ := H
               have A102 := Aside0.mk A1020
               clear A1020
               have H' := Aside0.mk H
               clear H
               try go_wp2
               replace BK116 := Aside0.mk (blk_drew BK116.out)
               replace BK117 := Aside0.mk (blk_drew BK117.out)
               replace BK119 := Aside0.mk (blk_drew BK119.out)
               replace HI0 := Aside0.mk (IsS81.drew HI0.out)
               replace HK := Aside0.mk (keep_drew HK.out)
               replace HB := Aside0.mk (below_drew1 HB.out)
               refine start_ (n := 15) (S := fun w' => w'.cell? ⟨gb116, 9, none⟩ = some (.int .i64 ah) ∧ w'.cell? ⟨gb119, 9, none⟩ = some (.int .i64 ((rd_T102 s_ i_).f1.f5))) (ds := [14]) #[false, false, false, false, false, false, false, false, false, false, false, false, false, false, false] (by kernel_rfl) rfl rfl ⟨bA2 BK116 rfl, bA2 BK119 rfl⟩ (fun hHeld => ?_); refine with_tabW impl_span_less.tab9 impl_span_less.bits9 (fun HT_ HW_ => ?_); generalize wr.drew = w103 at BK116 BK117 BK119 HI0 HK HB hHeld ⊢; refine pZ 0 HT_ ?_; refine pZ 1 HT_ ?_; refine pZ 2 HT_ ?_; refine pZ 3 HT_ ?_; refine pZ 5 HT_ ?_; refine pZ 6 HT_ ?_; refine pZ 7 HT_ ?_; refine pZ 9 HT_ ?_; refine pZ 12 HT_ ?_; refine tZ 4 hHeld HT_ HW_ ?_; refine tZ 8 hHeld HT_ HW_ ?_; refine oZ 10 HT_ (fun K hK => ?_); refine goes_ Try.func104 (by kernel_rfl) rfl #[.int .i64 ((rd_T102 s_ i_).f1.f5), .int .i64 x7_8] (by rfl) rfl rfl z2_4 ?_
               with_reducible refine (impl_element_times.calls ((rd_T102 s_ i_).f1.f5) x7_8 t139 _ A101.out).mono ?_
               rintro e w' ⟨rfl, ⟨nd, rfl⟩⟩
               refine ⟨_, rfl, ?_⟩; refine hK.out _ _ ⟨bA2 BK116 rfl, bA2 BK119 rfl⟩ (fun hHeld => ?_); clear hK K; refine nZ ?_; refine oZ 11 HT_ (fun K hK => ?_); refine goes_ Try.func127 (by kernel_rfl) rfl #[.int .i64 ah, .int .i64 t139] (by rfl) rfl rfl z2_4 ?_
               with_reducible refine (impl_element_minus.calls ah t139 t140 _ A102.out).mono ?_
               rintro e w' ⟨rfl, ⟨nd, rfl⟩⟩
               refine ⟨_, rfl, ?_⟩; refine hK.out _ _ ⟨bA2 BK116 rfl, bA2 BK119 rfl⟩ (fun hHeld => ?_); clear hK K; refine nZ ?_; refine pZ 13 HT_ ?_; refine lZ 14 HT_ (fun K hK => ?_); have hs104 : w103.cell? ⟨gb116, 9, none⟩ = some (.int .i64 ah) := bA2 BK116 rfl
               have hfs104 := blk_frozen BK116.out 9
               have hns104_1 := aa.out
               have hns104_2 := ab.out
               have hms104_1 := ao.out
               have hms104_2 := ap.out
               refine skip_ (w1 := ?_) (by rfl) rfl ?_ ?_; rotate_left
               ·go_simp
                rfl
               refine hK.out _ _ ?_; clear hK K; refine done_ (done_of HT_.out (by kernel_rfl)) ?_
               try go_wp2
               go_roundg k3
               case measure => have := HK1.out; have := HJ8.out; have := HK3.out; omega
               case rel => exact ⟨(wrap64 ((5 : Int) + 1)), (ac), (ad), (ae), (af), (ag), (t140), (ai), (aj), z2_8, H', ⟨z2_9⟩, ⟨bZ BK116.out⟩, ⟨gZ aa.out BK117.out⟩, ⟨gZ ab.out BK119.out⟩, ⟨z2_3⟩, ⟨z2_2⟩, ⟨z2_1⟩⟩
              ·rw [if_neg c100] at H
               clear c100
               by_cases c105 : x32_3 = 6
               ·rw [if_pos c105] at H
                subst c105
                replace H := Option.bind_eq_some_iff.mp H
                obtain ⟨t141, A1060, H⟩ := H
                have A106 := Aside0.mk A1060
                clear A1060
                replace H := Option.bind_eq_some_iff.mp H
                obtain ⟨t142, A1070, H⟩ := H
                have A107 := Aside0.mk A1070
                clear A1070
                have H' := Aside0.mk H
                clear H
                try go_wp2
                replace BK116 := Aside0.mk (blk_drew BK116.out)
                replace BK117 := Aside0.mk (blk_drew BK117.out)
                replace BK119 := Aside0.mk (blk_drew BK119.out)
                replace HI0 := Aside0.mk (IsS81.drew HI0.out)
                replace HK := Aside0.mk (keep_drew HK.out)
                replace HB := Aside0.mk (below_drew1 HB.out)
                refine start_ (n := 15) (S := fun w' => w'.cell? ⟨gb116, 10, none⟩ = some (.int .i64 ai) ∧ w'.cell? ⟨gb119, 10, none⟩ = some (.int .i64 ((rd_T102 s_ i_).f1.f6))) (ds := [14]) #[false, false, false, false, false, false, false, false, false, false, false, false, false, false, false] (by kernel_rfl) rfl rfl ⟨bA2 BK116 rfl, bA2 BK119 rfl⟩ (fun hHeld => ?_); refine with_tabW impl_span_less.tab9 impl_span_less.bits9 (fun HT_ HW_ => ?_); generalize wr.drew = w108 at BK116 BK117 BK119 HI0 HK HB hHeld ⊢; refine pZ 0 HT_ ?_; refine pZ 1 HT_ ?_; refine pZ 2 HT_ ?_; refine pZ 3 HT_ ?_; refine pZ 5 HT_ ?_; refine pZ 6 HT_ ?_; refine pZ 7 HT_ ?_; refine pZ 9 HT_ ?_; refine pZ 12 HT_ ?_; refine tZ 4 hHeld HT_ HW_ ?_; refine tZ 8 hHeld HT_ HW_ ?_; refine oZ 10 HT_ (fun K hK => ?_); refine goes_ Try.func104 (by kernel_rfl) rfl #[.int .i64 ((rd_T102 s_ i_).f1.f6), .int .i64 x7_8] (by rfl) rfl rfl z2_4 ?_
                with_reducible refine (impl_element_times.calls ((rd_T102 s_ i_).f1.f6) x7_8 t141 _ A106.out).mono ?_
                rintro e w' ⟨rfl, ⟨nd, rfl⟩⟩
                refine ⟨_, rfl, ?_⟩; refine hK.out _ _ ⟨bA2 BK116 rfl, bA2 BK119 rfl⟩ (fun hHeld => ?_); clear hK K; refine nZ ?_; refine oZ 11 HT_ (fun K hK => ?_); refine goes_ Try.func127 (by kernel_rfl) rfl #[.int .i64 ai, .int .i64 t141] (by rfl) rfl rfl z2_4 ?_
                with_reducible refine (impl_element_minus.calls ai t141 t142 _ A107.out).mono ?_
                rintro e w' ⟨rfl, ⟨nd, rfl⟩⟩
                refine ⟨_, rfl, ?_⟩; refine hK.out _ _ ⟨bA2 BK116 rfl, bA2 BK119 rfl⟩ (fun hHeld => ?_); clear hK K; refine nZ ?_; refine pZ 13 HT_ ?_; refine lZ 14 HT_ (fun K hK => ?_); have hs109 : w108.cell? ⟨gb116, 10, none⟩ = some (.int .i64 ai) := bA2 BK116 rfl
                have hfs109 := blk_frozen BK116.out 10
                have hns109_1 := aa.out
                have hns109_2 := ab.out
                have hms109_1 := ao.out
                have hms109_2 := ap.out
                refine skip_ (w1 := ?_) (by rfl) rfl ?_ ?_; rotate_left
                ·go_simp
                 rfl
                refine hK.out _ _ ?_; clear hK K; refine done_ (done_of HT_.out (by kernel_rfl)) ?_
                try go_wp2
                go_roundg k3
                case measure => have := HK1.out; have := HJ8.out; have := HK3.out; omega
                case rel => exact ⟨(wrap64 ((6 : Int) + 1)), (ac), (ad), (ae), (af), (ag), (ah), (t142), (aj), z2_8, H', ⟨z2_9⟩, ⟨bZ BK116.out⟩, ⟨gZ aa.out BK117.out⟩, ⟨gZ ab.out BK119.out⟩, ⟨z2_3⟩, ⟨z2_2⟩, ⟨z2_1⟩⟩
               ·rw [if_neg c105] at H
                clear c105; obtain ⟨c110, H⟩ := ifP H; subst c110
                replace H := Option.bind_eq_some_iff.mp H
                obtain ⟨t143, A1110, H⟩ := H
                have A111 := Aside0.mk A1110
                clear A1110
                replace H := Option.bind_eq_some_iff.mp H
                obtain ⟨t144, A1120, H⟩ := H
                have A112 := Aside0.mk A1120
                clear A1120
                have H' := Aside0.mk H
                clear H
                try go_wp2
                replace BK116 := Aside0.mk (blk_drew BK116.out)
                replace BK117 := Aside0.mk (blk_drew BK117.out)
                replace BK119 := Aside0.mk (blk_drew BK119.out)
                replace HI0 := Aside0.mk (IsS81.drew HI0.out)
                replace HK := Aside0.mk (keep_drew HK.out)
                replace HB := Aside0.mk (below_drew1 HB.out)
                refine start_ (n := 15) (S := fun w' => w'.cell? ⟨gb116, 11, none⟩ = some (.int .i64 aj) ∧ w'.cell? ⟨gb119, 11, none⟩ = some (.int .i64 ((rd_T102 s_ i_).f1.f7))) (ds := [14]) #[false, false, false, false, false, false, false, false, false, false, false, false, false, false, false] (by kernel_rfl) rfl rfl ⟨bA2 BK116 rfl, bA2 BK119 rfl⟩ (fun hHeld => ?_); refine with_tabW impl_span_less.tab9 impl_span_less.bits9 (fun HT_ HW_ => ?_); generalize wr.drew = w113 at BK116 BK117 BK119 HI0 HK HB hHeld ⊢; refine pZ 0 HT_ ?_; refine pZ 1 HT_ ?_; refine pZ 2 HT_ ?_; refine pZ 3 HT_ ?_; refine pZ 5 HT_ ?_; refine pZ 6 HT_ ?_; refine pZ 7 HT_ ?_; refine pZ 9 HT_ ?_; refine pZ 12 HT_ ?_; refine tZ 4 hHeld HT_ HW_ ?_; refine tZ 8 hHeld HT_ HW_ ?_; refine oZ 10 HT_ (fun K hK => ?_); refine goes_ Try.func104 (by kernel_rfl) rfl #[.int .i64 ((rd_T102 s_ i_).f1.f7), .int .i64 x7_8] (by rfl) rfl rfl z2_4 ?_
                with_reducible refine (impl_element_times.calls ((rd_T102 s_ i_).f1.f7) x7_8 t143 _ A111.out).mono ?_
                rintro e w' ⟨rfl, ⟨nd, rfl⟩⟩
                refine ⟨_, rfl, ?_⟩; refine hK.out _ _ ⟨bA2 BK116 rfl, bA2 BK119 rfl⟩ (fun hHeld => ?_); clear hK K; refine nZ ?_; refine oZ 11 HT_ (fun K hK => ?_); refine goes_ Try.func127 (by kernel_rfl) rfl #[.int .i64 aj, .int .i64 t143] (by rfl) rfl rfl z2_4 ?_
                with_reducible refine (impl_element_minus.calls aj t143 t144 _ A112.out).mono ?_
                rintro e w' ⟨rfl, ⟨nd, rfl⟩⟩
                refine ⟨_, rfl, ?_⟩; refine hK.out _ _ ⟨bA2 BK116 rfl, bA2 BK119 rfl⟩ (fun hHeld => ?_); clear hK K; refine nZ ?_; refine pZ 13 HT_ ?_; refine lZ 14 HT_ (fun K hK => ?_); have hs114 : w113.cell? ⟨gb116, 11, none⟩ = some (.int .i64 aj) := bA2 BK116 rfl
                have hfs114 := blk_frozen BK116.out 11
                have hns114_1 := aa.out
                have hns114_2 := ab.out
                have hms114_1 := ao.out
                have hms114_2 := ap.out
                refine skip_ (w1 := ?_) (by rfl) rfl ?_ ?_; rotate_left
                ·go_simp
                 rfl
                refine hK.out _ _ ?_; clear hK K; refine done_ (done_of HT_.out (by kernel_rfl)) ?_
                try go_wp2
                go_roundg k3
                case measure => have := HK1.out; have := HJ8.out; have := HK3.out; omega
                case rel => exact ⟨(wrap64 ((7 : Int) + 1)), (ac), (ad), (ae), (af), (ag), (ah), (ai), (t144), z2_8, H', ⟨z2_9⟩, ⟨bZ BK116.out⟩, ⟨gZ aa.out BK117.out⟩, ⟨gZ ab.out BK119.out⟩, ⟨z2_3⟩, ⟨z2_2⟩, ⟨z2_1⟩⟩
        ·rw [if_neg c74] at H
         have c74b0 : decide (x32_3 < 8) = false := decide_eq_false c74; clear c74
         have H' := Aside0.mk H
         clear H
         go_wp2
         go_roundg k3
         case measure => have := HK1.out; have := HJ8.out; have := HK3.out; omega
         case rel => exact ⟨(wrap64 (i_ + 1)), (t125), (t126), (t127), (t128), (ac), (ad), (ae), (af), (ag), (ah), (ai), (aj), z2_12, H', ⟨z2_9⟩, ⟨zL2 BK116.out⟩, ⟨zL2 BK117.out⟩, ⟨z2_3⟩, ⟨z2_2⟩, ⟨z2_1⟩⟩
   ·rw [if_neg c6] at H
    have c6b0 : decide (i_ < (s_.length : Int)) = false := decide_eq_false c6; clear c6; simp only [Option.some.injEq, Prod.mk.injEq] at H; obtain ⟨rfl, rfl, rfl, rfl, rfl, rfl, rfl, rfl, rfl, rfl, rfl, rfl⟩ := H
    have hnb115 := ao.out
    have hnc115 := aa.out
    have hnb116 := aD.out
    have hnc116 := aA.out
    have hcz117_0 : wr.cell? ⟨gb116, 0, none⟩ = some (.int .i64 ak) := bA2 BK116 rfl; have hcz117_1 : wr.cell? ⟨gb116, 1, none⟩ = some (.int .i64 al) := bA2 BK116 rfl; have hcz117_2 : wr.cell? ⟨gb116, 2, none⟩ = some (.int .i64 am) := bA2 BK116 rfl; have hcz117_3 : wr.cell? ⟨gb116, 3, none⟩ = some (.int .i64 an) := bA2 BK116 rfl; have hcz117_4 : wr.cell? ⟨gb116, 4, none⟩ = some (.int .i64 aq) := bA2 BK116 rfl; have hcz117_5 : wr.cell? ⟨gb116, 5, none⟩ = some (.int .i64 ar) := bA2 BK116 rfl; have hcz117_6 : wr.cell? ⟨gb116, 6, none⟩ = some (.int .i64 au) := bA2 BK116 rfl; have hcz117_7 : wr.cell? ⟨gb116, 7, none⟩ = some (.int .i64 av) := bA2 BK116 rfl; have hcz117_8 : wr.cell? ⟨gb116, 8, none⟩ = some (.int .i64 aw) := bA2 BK116 rfl; have hcz117_9 : wr.cell? ⟨gb116, 9, none⟩ = some (.int .i64 ax) := bA2 BK116 rfl; have hcz117_10 : wr.cell? ⟨gb116, 10, none⟩ = some (.int .i64 ay) := bA2 BK116 rfl; have hcz117_11 : wr.cell? ⟨gb116, 11, none⟩ = some (.int .i64 az) := bA2 BK116 rfl
    have hfz117_0 := blk_frozen BK116.out 0
    have hfz117_1 := blk_frozen BK116.out 1
    have hfz117_2 := blk_frozen BK116.out 2
    have hfz117_3 := blk_frozen BK116.out 3
    have hfz117_4 := blk_frozen BK116.out 4
    have hfz117_5 := blk_frozen BK116.out 5
    have hfz117_6 := blk_frozen BK116.out 6
    have hfz117_7 := blk_frozen BK116.out 7
    have hfz117_8 := blk_frozen BK116.out 8
    have hfz117_9 := blk_frozen BK116.out 9
    have hfz117_10 := blk_frozen BK116.out 10
    have hfz117_11 := blk_frozen BK116.out 11
    have hnb118 := NB117_0.out
    have hnc118 := aG.out
    obtain ⟨hcz119_0, hfz119_0, hcz120_1, hfz120_1, hcz121_2, hfz121_2, hcz122_3, hfz122_3, hcz123_4, hfz123_4, hcz124_5, hfz124_5, hcz125_6, hfz125_6, hcz126_7, hfz126_7, hcz127_8, hfz127_8, hcz128_9, hfz128_9, hcz129_10, hfz129_10, hcz130_11, hfz130_11⟩ := cAZ12_ BK117
    go_wp2_with (first | ((with_reducible refine gate_store (t := 102) (p := 4) rfl ?_); refine store_event (t := 102) (p := 4) (v := ?vo_w131) (w1 := ((((((((((((wr.setCell ⟨gb117, 0, none⟩ (.int .i64 ak)).setCell ⟨gb117, 1, none⟩ (.int .i64 al)).setCell ⟨gb117, 2, none⟩ (.int .i64 am)).setCell ⟨gb117, 3, none⟩ (.int .i64 an)).setCell ⟨gb117, 4, none⟩ (.int .i64 aq)).setCell ⟨gb117, 5, none⟩ (.int .i64 ar)).setCell ⟨gb117, 6, none⟩ (.int .i64 au)).setCell ⟨gb117, 7, none⟩ (.int .i64 av)).setCell ⟨gb117, 8, none⟩ (.int .i64 aw)).setCell ⟨gb117, 9, none⟩ (.int .i64 ax)).setCell ⟨gb117, 10, none⟩ (.int .i64 ay)).setCell ⟨gb117, 11, none⟩ (.int .i64 az))) ?hg ?ho ?hn ?hr ?_; (case ho => rfl); (case hg => rfl); (case hn => rfl); (case hr => first | (go_simp; done) | (go_simp; rfl)); intro w131 hw; have n0_ : Aside0 (w131.heap[gb116]? = some (.cells #[.int .i64 ak, .int .i64 al, .int .i64 am, .int .i64 an, .int .i64 aq, .int .i64 ar, .int .i64 au, .int .i64 av, .int .i64 aw, .int .i64 ax, .int .i64 ay, .int .i64 az] 102 (0, 0))) := ⟨(by rw [hw]; exact (gZ ao.out BK116.out))⟩; have n1_ : Aside0 (w131.heap[gb117]? = some (.cells #[.int .i64 ak, .int .i64 al, .int .i64 am, .int .i64 an, .int .i64 aq, .int .i64 ar, .int .i64 au, .int .i64 av, .int .i64 aw, .int .i64 ax, .int .i64 ay, .int .i64 az] 102 (0, 0))) := ⟨(by rw [hw]; exact (bZ BK117.out))⟩; have n2_ : Aside0 (IsS81 w0 w131 g s_ s0_1) := ⟨(by rw [hw]; exact z2_7)⟩; have n3_ : Aside0 (KeepBut w w131 g none) := ⟨(by rw [hw]; exact z2_5)⟩; have n4_ : Aside0 (Below w0.heap.size w0 w131) := ⟨(by rw [hw]; exact z2_6)⟩; clear hw; clear BK116; clear BK117; clear HI0; clear HK; clear HB; have BK116 := n0_; have BK117 := n1_; have HI0 := n2_; have HK := n3_; have HB := n4_; clear n0_ n1_ n2_ n3_ n4_))
    refine bodyPost_ret (results_cell_row rfl _ _ gb117 102 #[.int .i64 ak, .int .i64 al, .int .i64 am, .int .i64 an, .int .i64 aq, .int .i64 ar, .int .i64 au, .int .i64 av, .int .i64 aw, .int .i64 ax, .int .i64 ay, .int .i64 az] (0, 0) _ rfl (zL2 BK117.out) Try.underlying102 rfl (by kernel_rfl)) rfl ?_; exact ⟨by first | rfl | (simp [errW_none, errW_some] <;> rfl) | (simp [*, errW_none, errW_some] <;> rfl), z2_7, z2_6, z2_5⟩

end Go.Proofs.Ytamaejafddmagaa.PA
namespace Go.Proofs.Ytamaejafddmagaa.PA
open Go.RowKit Go.Proofs.YtamaejafddmagaaW.PrintWords Go.Proofs.YtamaejafddmagaaW.PrintLast Go.Proofs.YtamaejafddmagaaW.PrintMore
attribute [local go_sem] max2_int min2_int max_two min_two max_three min_three max_four min_four   -- for this text's walks alone
set_option linter.unusedVariables false
set_option linter.unusedSimpArgs false

/-! ### impl_element_inverse: function 103 -/
theorem z3_0 {p : Prop} (h : p := by first | rfl | (simp; done) | (simp [*]; done)) : p := h
theorem z3_1 {p : Prop} (h : p := by repeat (first | exact Drawn0.refl _ | apply Drawn0.step)) : p := h
def impl_element_inverse.l0 : Nat → Int → Int → Int → Int → Option (Int)
  | 0, _, _, _, _ => none
  | k + 1, x3, x4, x5, x6 => if x4 = 0 then ((impl_elementOf.f x5).bind fun t145 => (some t145)) else (impl_element_inverse.l0 k x4 (wrap64 (x3 - (wrap64 ((wrap64 (Int.tdiv x3 x4)) * x4)))) x6 (wrap64 (x5 - (wrap64 ((wrap64 (Int.tdiv x3 x4)) * x6)))))
def impl_element_inverse.f (k : Nat) (a0 : Int) : Option (Int) := impl_element_inverse.l0 k 31 a0 0 1
theorem impl_element_inverse.mono_l : ∀ k, (∀ y0 y1 y2 y3, LeO (impl_element_inverse.l0 k y0 y1 y2 y3) (impl_element_inverse.l0 (k + 1) y0 y1 y2 y3))
  | 0 => fun _ _ _ _ r h => by simp [impl_element_inverse.l0] at h
  | k + 1 => by
    have ih0 := impl_element_inverse.mono_l k
    · intro y0 y1 y2 y3
      unfold impl_element_inverse.l0
      repeat' first
      | (with_reducible exact ih0 _ _ _ _)
      | (with_reducible exact LeO.refl _)
      | (with_reducible exact LeO.none _)
      | (with_reducible refine LeO.ite ?_ ?_)
      | (with_reducible refine LeO.bind ?_ (fun _ => ?_))
      | exact ih0 _ _ _ _
      | exact LeO.none _
      | refine LeO.ite ?_ ?_
      | refine LeO.bind ?_ (fun _ => ?_)
theorem impl_element_inverse.mono : ∀ a0 k, LeO (impl_element_inverse.f k a0) (impl_element_inverse.f (k + 1) a0) := by
  intro a0 k
  have ih0 := impl_element_inverse.mono_l k
  unfold impl_element_inverse.f
  repeat' first
      | (with_reducible exact ih0 _ _ _ _)
      | (with_reducible exact LeO.refl _)
      | (with_reducible exact LeO.none _)
      | (with_reducible refine LeO.ite ?_ ?_)
      | (with_reducible refine LeO.bind ?_ (fun _ => ?_))
      | exact ih0 _ _ _ _
      | exact LeO.none _
      | refine LeO.ite ?_ ?_
      | refine LeO.bind ?_ (fun _ => ?_)
set_option maxHeartbeats 8000000 in
set_option maxRecDepth 100000 in
theorem impl_element_inverse.calls (k : Nat) (a0 : Int) (r : Int) (w : World) (h : impl_element_inverse.f k a0 = some r) :
  Calls Try.prog 103 #[.int .i64 a0] w fun e w' => e = .returned (.int .i64 r) ∧ Drawn0 w w' := by
 unfold impl_element_inverse.f at h
 have H := h
 clear h
 have H' := Aside0.mk H
 clear H
 go_enter Try.func103, Try.ntmps103
 go_wp2
 go_loopg [3, 4, 5, 6] k (fun kq v3 v4 v5 v6 w' => ∃ (x3_1 : Int) (x4_1 : Int) (x5_1 : Int) (x6_1 : Int), v3 = .int .i64 x3_1 ∧ v4 = .int .i64 x4_1 ∧ v5 = .int .i64 x5_1 ∧ v6 = .int .i64 x6_1 ∧ Aside0 (impl_element_inverse.l0 kq x3_1 x4_1 x5_1 x6_1 = some r) ∧ Aside0 (kq ≤ k) ∧ Drawn0 w w')
 case atStart => exact ⟨(31), (a0), (0), (1), z3_0, z3_0, z3_0, z3_0, H', ⟨Nat.le_refl _⟩, z3_1⟩
 case round =>
  clear H'; obtain ⟨x3_1, x4_1, x5_1, x6_1, rfl, rfl, rfl, rfl, HA, HK1, ⟨m1, rfl⟩⟩ := hrel
  cases gk with
  | zero => exact absurd HA.out (by simp [impl_element_inverse.l0])
  | succ k1 =>
   have H := HA.out
   clear HA; simp only [impl_element_inverse.l0] at H
   by_cases c2 : x4_1 = 0
   ·rw [if_pos c2] at H
    have c2b0 : (x4_1 == 0) = true := beq_iff_eq.mpr c2
    have c2b1 : (x4_1 != 0) = false := bne_eq_false_iff_eq.mpr c2
    clear c2
    replace H := Option.bind_eq_some_iff.mp H
    obtain ⟨t145, A30, H⟩ := H
    have A3 := Aside0.mk A30
    clear A30
    obtain rfl := Option.some.inj H
    go_wp2_with (first | ((with_reducible refine gate_callee (f := 118) rfl ?_); refine goesL_ (some 27) rfl rfl Try.func118 (by kernel_rfl) rfl #[.int .i64 x5_1] rfl (by (try simp only [List.map_toArray, List.map_cons, List.map_nil]); first | done | rfl | (simp only [List.length_drop, List.length_take]; rfl)) ?_; (with_reducible refine (impl_elementOf.calls x5_1 t145 _ A3.out).mono ?_); rintro e w' ⟨rfl, ⟨nd, rfl⟩⟩; refine ⟨_, rfl, ?_⟩))
    go_ret; exact ⟨z3_0, z3_1⟩
   ·rw [if_neg c2] at H
    have c2b0 : (x4_1 == 0) = false := beq_eq_false_iff_ne.mpr c2
    have c2b1 : (x4_1 != 0) = true := bne_iff_ne.mpr c2
    have H' := Aside0.mk H
    clear H
    go_wp2
    go_roundg k1
    case measure => have := HK1.out; omega
    case rel => exact ⟨(x4_1), (wrap64 (x3_1 - (wrap64 ((wrap64 (Int.tdiv x3_1 x4_1)) * x4_1)))), (x6_1), (wrap64 (x5_1 - (wrap64 ((wrap64 (Int.tdiv x3_1 x4_1)) * x6_1)))), z3_0, z3_0, z3_0, z3_0, H', ⟨by have := HK1.out; omega⟩, z3_1⟩

end Go.Proofs.Ytamaejafddmagaa.PA
