-- Written by a program of this session (after the manner of the kit's print, several laws in one text).
import Derived.Test.YtamaejafddmagaaPAx0
import Derived.Test.YtamaejafddmagaaPAx8
import Derived.Test.YtamaejafddmagaaPAx11
import Derived.Test.YtamaejafddmagaaPAx12
import Derived.Test.YtamaejafddmagaaGw
import Derived.Test.YtamaejafddmagaaGm
import Derived.Test.YtamaejafddmagaaGc
import Derived.Test.YtamaejafddmagaaPAx13d
namespace Go.Proofs.Ytamaejafddmagaa.PA
open Go.RowKit Go.Proofs.YtamaejafddmagaaW.PrintWords Go.Proofs.YtamaejafddmagaaW.PrintLast Go.Proofs.YtamaejafddmagaaW.PrintMore
attribute [local go_sem] max2_int min2_int max_two min_two max_three min_three max_four min_four   -- for this text's walks alone
set_option linter.unusedVariables false
set_option linter.unusedSimpArgs false

theorem zL13 {p q : Prop} (h : q) (t : q → p := by intro h_; (with_reducible repeat first|refine blk_drewN ?_ _|refine blk_drew ?_|refine blk_alloc ?_ _); exact h_) : p := t h
theorem z13_1 {p : Prop} (h : p := by repeat (first | (with_reducible first | exact HB.out | apply below_alloc | apply pw_below_drewN | apply below_drew1 | refine below_set ?_ GE387.out | refine below_set ?_ GE388.out | refine below_set ?_ GE398.out) | exact HB.out)) : p := h
theorem z13_2 {p : Prop} (h : p := by (try simp only [List.map_toArray, List.map_cons, List.map_nil]); first | done | rfl | (simp only [List.length_drop, List.length_take]; rfl)) : p := h
theorem z13_3 {p : Prop} (h : p := by first | (with_reducible assumption) | assumption) : p := h
theorem z13_4 {p : Prop} (h : p := by repeat (first | (with_reducible first | exact HB.out | apply below_alloc | apply pw_below_drewN | apply below_drew1 | refine below_set ?_ GE387.out | refine below_set ?_ GE388.out | refine below_set ?_ GE398.out | refine below_set ?_ GE403.out) | exact HB.out)) : p := h
theorem z13_5 {p : Prop} (h : p := by repeat (first | (with_reducible first | exact HB.out | apply below_alloc | apply pw_below_drewN | apply below_drew1 | refine below_set ?_ GE387.out | refine below_set ?_ GE388.out | refine below_set ?_ GE398.out | refine below_set ?_ GE452.out) | exact HB.out)) : p := h
theorem z13_6 {p : Prop} (h : p := by (with_reducible repeat (first | apply Kd.R_alloc | apply Kd.R_drewN | apply Kd.R_drew)); exact ab.out) : p := h
theorem z13_7 {p : Prop} (h : p := by (with_reducible repeat (first | apply Kd.R_alloc | apply Kd.R_drewN | apply Kd.R_drew)); exact aa.out) : p := h
theorem z13_8 {p : Prop} (h : p := by rw [hw]; exact (by (with_reducible repeat first|refine blk_drewN ?_ _|refine blk_drew ?_|refine blk_alloc ?_ _); refine blk_far ?_ am.out _; (with_reducible repeat first|refine blk_drewN ?_ _|refine blk_drew ?_|refine blk_alloc ?_ _); refine blk_far ?_ am.out _; (with_reducible repeat first|refine blk_drewN ?_ _|refine blk_drew ?_|refine blk_alloc ?_ _); refine blk_far ?_ am.out _; (with_reducible repeat first|refine blk_drewN ?_ _|refine blk_drew ?_|refine blk_alloc ?_ _); refine blk_far ?_ am.out _; (with_reducible repeat first|refine blk_drewN ?_ _|refine blk_drew ?_|refine blk_alloc ?_ _); refine blk_far ?_ am.out _; (with_reducible repeat first|refine blk_drewN ?_ _|refine blk_drew ?_|refine blk_alloc ?_ _); exact BK387.out)) : p := h
theorem z13_9 {p : Prop} (h : p := by rw [hw]; exact (by (with_reducible repeat first|refine blk_drewN ?_ _|refine blk_drew ?_|refine blk_alloc ?_ _); refine blk_far ?_ ak.out _; (with_reducible repeat first|refine blk_drewN ?_ _|refine blk_drew ?_|refine blk_alloc ?_ _); refine blk_far ?_ ak.out _; (with_reducible repeat first|refine blk_drewN ?_ _|refine blk_drew ?_|refine blk_alloc ?_ _); refine blk_far ?_ ak.out _; (with_reducible repeat first|refine blk_drewN ?_ _|refine blk_drew ?_|refine blk_alloc ?_ _); refine blk_far ?_ ak.out _; (with_reducible repeat first|refine blk_drewN ?_ _|refine blk_drew ?_|refine blk_alloc ?_ _); refine blk_far ?_ ak.out _; (with_reducible repeat first|refine blk_drewN ?_ _|refine blk_drew ?_|refine blk_alloc ?_ _); exact BK388.out)) : p := h
theorem z13_10 {p : Prop} (h : p := by rw [hw]; exact (by (with_reducible repeat first|refine blk_drewN ?_ _|refine blk_drew ?_|refine blk_alloc ?_ _); refine blk_far ?_ ao.out _; (with_reducible repeat first|refine blk_drewN ?_ _|refine blk_drew ?_|refine blk_alloc ?_ _); refine blk_far ?_ ao.out _; (with_reducible repeat first|refine blk_drewN ?_ _|refine blk_drew ?_|refine blk_alloc ?_ _); refine blk_far ?_ ao.out _; (with_reducible repeat first|refine blk_drewN ?_ _|refine blk_drew ?_|refine blk_alloc ?_ _); refine blk_far ?_ ao.out _; (with_reducible repeat first|refine blk_drewN ?_ _|refine blk_drew ?_|refine blk_alloc ?_ _); refine blk_far ?_ ao.out _; (with_reducible repeat first|refine blk_drewN ?_ _|refine blk_drew ?_|refine blk_alloc ?_ _); exact BK398.out)) : p := h
theorem z13_11 {p : Prop} (h : p := by rw [hw]; exact (by (with_reducible repeat (first | apply Kd.R_alloc | apply Kd.R_drewN | apply Kd.R_drew)); exact Kd.R_mono (Kd.R_far (p := ⟨gb452, 4, none⟩) (Kd.R_far (p := ⟨gb452, 3, none⟩) (Kd.R_far (p := ⟨gb452, 2, none⟩) (Kd.R_far (p := ⟨gb452, 1, none⟩) (Kd.R_far (p := ⟨gb452, 0, none⟩) (Kd.R_mono HO_128.out (fun k_ hk => (⟨hk, hk.2⟩ : _ ∧ k_ ≠ gb452))) (fun _ hk => hk.2) (.int .i64 ((rd_T131 x9_2 x130_3).f0.f0))) (fun _ hk => hk.2) (.int .i64 ((rd_T131 x9_2 x130_3).f0.f1))) (fun _ hk => hk.2) (.int .i64 ((rd_T131 x9_2 x130_3).f0.f2))) (fun _ hk => hk.2) (.int .i64 ((rd_T131 x9_2 x130_3).f0.f3))) (fun _ hk => hk.2) (.int .i64 ((rd_T131 x9_2 x130_3).f1))) (fun _ hk => hk.1.2))) : p := h
theorem z13_12 {p : Prop} (h : p := by rw [hw]; exact (by (with_reducible repeat (first | apply Kd.R_alloc | apply Kd.R_drewN | apply Kd.R_drew)); exact Kd.R_mono (Kd.R_far (p := ⟨gb452, 4, none⟩) (Kd.R_far (p := ⟨gb452, 3, none⟩) (Kd.R_far (p := ⟨gb452, 2, none⟩) (Kd.R_far (p := ⟨gb452, 1, none⟩) (Kd.R_far (p := ⟨gb452, 0, none⟩) (Kd.R_types aa.out BK452.out (by decide)) (fun _ hk => hk.2) (.int .i64 ((rd_T131 x9_2 x130_3).f0.f0))) (fun _ hk => hk.2) (.int .i64 ((rd_T131 x9_2 x130_3).f0.f1))) (fun _ hk => hk.2) (.int .i64 ((rd_T131 x9_2 x130_3).f0.f2))) (fun _ hk => hk.2) (.int .i64 ((rd_T131 x9_2 x130_3).f0.f3))) (fun _ hk => hk.2) (.int .i64 ((rd_T131 x9_2 x130_3).f1))) (fun _ hk => trivial))) : p := h
theorem z13_13 {p : Prop} (h : p := by rw [hw]; exact (by (with_reducible repeat (first | apply Kd.R_alloc | apply Kd.R_drewN | apply Kd.R_drew)); exact Kd.R_mono (Kd.R_far (p := ⟨gb452, 4, none⟩) (Kd.R_far (p := ⟨gb452, 3, none⟩) (Kd.R_far (p := ⟨gb452, 2, none⟩) (Kd.R_far (p := ⟨gb452, 1, none⟩) (Kd.R_far (p := ⟨gb452, 0, none⟩) (Kd.R_types ab.out BK452.out (by decide)) (fun _ hk => hk.2) (.int .i64 ((rd_T131 x9_2 x130_3).f0.f0))) (fun _ hk => hk.2) (.int .i64 ((rd_T131 x9_2 x130_3).f0.f1))) (fun _ hk => hk.2) (.int .i64 ((rd_T131 x9_2 x130_3).f0.f2))) (fun _ hk => hk.2) (.int .i64 ((rd_T131 x9_2 x130_3).f0.f3))) (fun _ hk => hk.2) (.int .i64 ((rd_T131 x9_2 x130_3).f1))) (fun _ hk => trivial))) : p := h
theorem z13_14 {p : Prop} (h : p := by (with_reducible repeat (first | apply Kd.R_alloc | apply Kd.R_drewN | apply Kd.R_drew)); exact HO_9.out) : p := h
theorem z13_15 {p : Prop} (h : p := by repeat (first | (with_reducible first | exact HB.out | apply below_alloc | apply pw_below_drewN | apply below_drew1 | refine below_set ?_ GE387.out | refine below_set ?_ GE388.out) | exact HB.out)) : p := h
theorem z13_16 {p : Prop} (h : p := by first | rfl | (simp; done) | (simp [*]; done) | (simp; unfold wrap64; omega)) : p := h
theorem z13_17 {p : Prop} (h : p := by (try simp only [hl9_2]); (try simp only [hl9_3]); (with_reducible repeat first|refine blk_drewN ?_ _|refine blk_drew ?_|refine blk_alloc ?_ _); exact BK387.out) : p := h
theorem z13_18 {p : Prop} (h : p := by (try simp only [hl9_2]); (try simp only [hl9_3]); (with_reducible repeat first|refine blk_drewN ?_ _|refine blk_drew ?_|refine blk_alloc ?_ _); exact BK388.out) : p := h
theorem z13_19 {p : Prop} (h : p := by (try simp only [hl9_2]); (try simp only [hl9_3]); (with_reducible repeat first|refine blk_drewN ?_ _|refine blk_drew ?_|refine blk_alloc ?_ _); exact BK398.out) : p := h
theorem z13_20 {p : Prop} (h : p := by (try simp only [hl9_2]); (try simp only [hl9_3]); (with_reducible repeat (first | apply Kd.R_alloc | apply Kd.R_drewN | apply Kd.R_drew)); exact aa.out) : p := h
theorem z13_21 {p : Prop} (h : p := by (try simp only [hl9_2]); (try simp only [hl9_3]); (with_reducible repeat (first | apply Kd.R_alloc | apply Kd.R_drewN | apply Kd.R_drew)); exact ab.out) : p := h
theorem z13_22 {p : Prop} (h : p := by (try simp only [hl9_2]); (try simp only [hl9_3]); (with_reducible repeat (first | apply Kd.R_alloc | apply Kd.R_drewN | apply Kd.R_drew)); exact HO_9.out) : p := h
theorem z13_23 {p : Prop} (h : p := by (with_reducible repeat (first | apply Kd.R_alloc | apply Kd.R_drewN | apply Kd.R_drew)); exact HO_29.out) : p := h
theorem z13_24 {p : Prop} (h : p := by first | rfl | (simp; done) | (simp [*]; done)) : p := h
theorem z13_25 {p : Prop} (h : p := by (try simp only [hl9_2]); (with_reducible repeat first|refine blk_drewN ?_ _|refine blk_drew ?_|refine blk_alloc ?_ _); refine blk_far ?_ av.out _; (with_reducible repeat first|refine blk_drewN ?_ _|refine blk_drew ?_|refine blk_alloc ?_ _); exact BK387.out) : p := h
theorem z13_26 {p : Prop} (h : p := by (try simp only [hl9_2]); (with_reducible repeat first|refine blk_drewN ?_ _|refine blk_drew ?_|refine blk_alloc ?_ _); refine blk_far ?_ au.out _; (with_reducible repeat first|refine blk_drewN ?_ _|refine blk_drew ?_|refine blk_alloc ?_ _); exact BK398.out) : p := h
theorem z13_27 {p : Prop} (h : p := by (with_reducible repeat (first | apply Kd.R_alloc | apply Kd.R_drewN | apply Kd.R_drew)); exact HO_128.out) : p := h
theorem z13_28 {p : Prop} (h : p := by have h_ := Kd.R_ne HO_9.out BK387.out (by decide); intro e_; exact h_ (by rw [e_]; rfl)) : p := h
theorem z13_29 {p : Prop} (h : p := by have h_ := Kd.R_ne HO_9.out BK388.out (by decide); intro e_; exact h_ (by rw [e_]; rfl)) : p := h
theorem z13_30 {p : Prop} (h : p := by have h_ := Kd.R_ne HO_9.out BK398.out (by decide); intro e_; exact h_ (by rw [e_]; rfl)) : p := h
theorem z13_31 {p : Prop} (h : p := by repeat (first | (with_reducible first | exact HB.out | apply below_alloc | apply pw_below_drewN | apply below_drew1 | refine below_set ?_ GE387.out) | exact HB.out)) : p := h
theorem z13_32 {p : Prop} (h : p := by have := HK1.out; have := HK2.out; omega) : p := h
theorem z13_33 {p : Prop} (h : p := by repeat (first | (with_reducible first | exact HB.out | apply below_alloc | apply pw_below_drewN | apply below_drew1) | exact HB.out)) : p := h
theorem z13_34 {p : Prop} (h : p := by have := HK1.out; have := HK2.out; have := HK3.out; first | omega | exact Nat.le_refl _) : p := h
theorem z13_35 {p : Prop} (h : p := by have := HK1.out; have := HK2.out; have := HK3.out; omega) : p := h
theorem z13_36 {p : Prop} (h : p := by (with_reducible repeat (first | apply Kd.R_alloc | apply Kd.R_drewN | apply Kd.R_drew)); exact HO394.out) : p := h
theorem z13_37 {p : Prop} (h : p := by (try simp only [hl9_2]); (with_reducible repeat first|refine blk_drewN ?_ _|refine blk_drew ?_|refine blk_alloc ?_ _); exact BK387.out) : p := h
theorem z13_38 {p : Prop} (h : p := by (try simp only [hl9_2]); (with_reducible repeat first|refine blk_drewN ?_ _|refine blk_drew ?_|refine blk_alloc ?_ _); exact BK388.out) : p := h
theorem z13_39 {p : Prop} (h : p := by (try simp only [hl9_2]); (with_reducible repeat first|refine blk_drewN ?_ _|refine blk_drew ?_|refine blk_alloc ?_ _); exact BK398.out) : p := h
theorem z13_40 {p : Prop} (h : p := by (try simp only [hl9_2]); (with_reducible repeat (first | apply Kd.R_alloc | apply Kd.R_drewN | apply Kd.R_drew)); exact aa.out) : p := h
theorem z13_41 {p : Prop} (h : p := by (try simp only [hl9_2]); (with_reducible repeat (first | apply Kd.R_alloc | apply Kd.R_drewN | apply Kd.R_drew)); exact ab.out) : p := h
theorem z13_42 {p : Prop} (h : p := by (try simp only [hl9_2]); (with_reducible repeat (first | apply Kd.R_alloc | apply Kd.R_drewN | apply Kd.R_drew)); exact HO_9.out) : p := h
theorem zs13 {α : Type} {l : List α} {i : Nat} {a : α} : l.toArray.setIfInBounds i a = (l.set i a).toArray := List.setIfInBounds_toArray _ _ _
theorem zc13 {α : Type} {x : α} {xs : List α} {a : α} : (x :: xs).set 0 a = a :: xs := List.set_cons_zero
theorem zd13 {α : Type} {x : α} {xs : List α} {n : Nat} {a : α} : (x :: xs).set (n + 1) a = x :: xs.set n a := List.set_cons_succ
set_option maxHeartbeats 8000000 in
set_option maxRecDepth 100000 in
theorem impl_solve.calls (k : Nat) (a0 : Int) (A1 : Option Addr) (c1 : Nat) (l1 : List Int) (A2 : Option Addr) (c2 : Nat) (l2 : List Int) (r1 : Int) (r2 : Int) (r3 : Int) (r4 : Int) (w : World) (hr1 : Kd.C (Kd.int .i64) w A1 l1.length l1) (hc1 : l1.length ≤ c1) (hr2 : Kd.C (Kd.int .i64) w A2 l2.length l2) (hc2 : l2.length ≤ c2) (h : impl_solve.f k a0 l1 l2 = some (r1, r2, r3, r4)) :
  Calls Try.prog 114 #[.int .i64 a0, .slice A1 l1.length c1, .slice A2 l2.length c2] w fun e w' => e = .returned (.agg #[.int .i64 r1, .int .i64 r2, .int .i64 r3, .int .i64 r4]) ∧ Below w.heap.size w w' := by
 have hu70 := Try.underlying70
 have hu102 := Try.underlying102
 have hu131 := Try.underlying131
 have HR1 := Aside0.mk hr1
 have HC1 := Aside0.mk hc1
 clear hr1 hc1
 have HR2 := Aside0.mk hr2
 have HC2 := Aside0.mk hc2
 clear hr2 hc2
 have HB := Aside0.mk (Below.refl w.heap.size w)
 have H : ((impl_rowsOf.f k a0 l2).bind fun t389 => ((impl_spanOf.f k t389).bind fun bt392 => (impl_solve.l0 k l1 l2 (([] : List (S131))) bt392.1 (bt392.1.length : Int) 0 0 0 0 0))) = some (r1, r2, r3, r4) := h
 clear h
 replace H := Option.bind_eq_some_iff.mp H
 obtain ⟨t389, A40, H⟩ := H
 replace H : ((impl_spanOf.f k t389).bind fun bt392 => (impl_solve.l0 k l1 l2 (([] : List (S131))) bt392.1 (bt392.1.length : Int) 0 0 0 0 0)) = some (r1, r2, r3, r4) := H
 have A4 := Aside0.mk A40
 clear A40
 replace H := Option.bind_eq_some_iff.mp H
 obtain ⟨⟨t392, t395⟩, A50, H⟩ := H
 replace H : (impl_solve.l0 k l1 l2 (([] : List (S131))) t392 (t392.length : Int) 0 0 0 0 0) = some (r1, r2, r3, r4) := H
 have A5 := Aside0.mk A50
 clear A50
 obtain ⟨y399, hy399⟩ : ∃ y_ : List (S131), y_ = (([] : List (S131))) := ⟨_, rfl⟩
 replace H : (impl_solve.l0 k l1 l2 y399 t392 (t392.length : Int) 0 0 0 0 0) = some (r1, r2, r3, r4) := by first | (rw [hy399]; with_reducible exact H) | (have H2_ := (Option.bind_some _ _).symm.trans H; rw [hy399]; with_reducible exact H2_) | (have H2_ := (Option.bind_some _ _).symm.trans H; with_reducible exact H2_) | with_reducible exact H | (rw [hy399]; exact H) | exact H
 have Ny399 := Aside0.mk hy399
 clear hy399
 have H' := Aside0.mk H
 clear H
 go_enter Try.func114, Try.ntmps114
 go_wp2_with (first | ((with_reducible refine gate_dst (N := 6) rfl ?_); refine box_event ?hg (N := 6) ?hd (cs := #[.int .i64 0, .int .i64 0, .int .i64 0, .int .i64 0]) (t := 70) ?hr ?_; (case hd => rfl); (case hg => rfl); (case hr => first | (go_simp; done) | (go_simp; rfl)); intro gb387 hg w6 hbox hb; have BK387 := Aside0.mk (hbox); have GW387 := Aside0.mk ((by rw [hg]; exact (below_size z13_33) : w.heap.size ≤ gb387)); have GE387 := Aside0.mk ((by rw [hg]; exact (below_size z13_33) : w.heap.size ≤ gb387)); replace HB := Aside0.mk (below_step z13_33 hb); clear hb hbox hg) | ((with_reducible refine gate_dst (N := 7) rfl ?_); refine box_event ?hg (N := 7) ?hd (cs := #[.int .i64 0, .int .i64 0, .int .i64 0, .int .i64 0]) (t := 70) ?hr ?_; (case hd => rfl); (case hg => rfl); (case hr => first | (go_simp; done) | (go_simp; rfl)); intro gb388 hg w7 hbox hb; have BK388 := Aside0.mk (hbox); have GW388 := Aside0.mk ((by rw [hg]; exact (below_size z13_31) : w.heap.size ≤ gb388)); have GE388 := Aside0.mk ((by rw [hg]; exact (below_size z13_31) : w.heap.size ≤ gb388)); replace HB := Aside0.mk (below_step z13_31 hb); have av := Aside0.mk ((by rw [hg]; exact Nat.ne_of_lt (blk_lt (g := gb387) (o := .cells #[.int .i64 0, .int .i64 0, .int .i64 0, .int .i64 0] 70 (0, 0)) (zL13 BK387.out)) : gb387 ≠ gb388)); have al := Aside0.mk ((by rw [hg]; exact Nat.ne_of_gt (blk_lt (g := gb387) (o := .cells #[.int .i64 0, .int .i64 0, .int .i64 0, .int .i64 0] 70 (0, 0)) (zL13 BK387.out)) : gb388 ≠ gb387)); replace BK387 := Aside0.mk (blk_below (g := gb387) (o := .cells #[.int .i64 0, .int .i64 0, .int .i64 0, .int .i64 0] 70 (0, 0)) (zL13 BK387.out) hb); clear hb hbox hg) | ((with_reducible refine gate_callee (f := 108) rfl ?_); refine goesL_ (some 23) rfl rfl Try.func108 (by kernel_rfl) rfl #[.int .i64 a0, .slice A2 l2.length c2] rfl z13_2 ?_; (with_reducible refine (impl_rowsOf.calls k a0 _ _ l2 t389 _ ?side1 ?side2 A4.out).mono ?_); (case side1 => exact cZ ((Kd.C_below HR2.out HB.out))); (case side2 => exact HC2.out); rintro e w8 ⟨v390, rfl, ho0, hb⟩; refine ⟨_, rfl, ?_⟩; have HO391 := Aside0.mk (Kd.R_lower (Kd.R_newB (Kd.R_newB ho0 (g := gb387) (o := .cells #[.int .i64 0, .int .i64 0, .int .i64 0, .int .i64 0] 70 (0, 0)) (zL13 BK387.out)) (g := gb388) (o := .cells #[.int .i64 0, .int .i64 0, .int .i64 0, .int .i64 0] 70 (0, 0)) (zL13 BK388.out)) (below_size z13_15)); replace BK387 := Aside0.mk (blk_below (g := gb387) (o := .cells #[.int .i64 0, .int .i64 0, .int .i64 0, .int .i64 0] 70 (0, 0)) (zL13 BK387.out) hb); replace BK388 := Aside0.mk (blk_below (g := gb388) (o := .cells #[.int .i64 0, .int .i64 0, .int .i64 0, .int .i64 0] 70 (0, 0)) (zL13 BK388.out) hb); replace HB := Aside0.mk (below_step z13_15 hb); (try clear hb); (try clear ho0); obtain ⟨Ao9, co9, eo9⟩ := Kd.R_slice HO391.out; subst eo9) | ((with_reducible refine gate_callee (f := 65) rfl ?_); refine goesL_ (some 24) rfl rfl Try.func65 (by kernel_rfl) rfl #[.slice Ao9 t389.length co9] rfl z13_2 ?_; (with_reducible refine (impl_spanOf.calls k _ _ t389 t392 t395 _ ?side1 ?side2 A5.out).mono ?_); (case side1 => exact cZ ((Kd.R_reads' HO391.out).2.2)); (case side2 => exact (Kd.R_reads' HO391.out).2.1); rintro e w10 ⟨v393, v396, gb398, rfl, hbox, hgr, ho0, ho1, hb⟩; refine ⟨_, rfl, ?_⟩; replace HO391 := Aside0.mk (Kd.R_below (by (with_reducible repeat (first | apply Kd.R_alloc | apply Kd.R_drewN | apply Kd.R_drew)); exact HO391.out) hb); have HO394 := Aside0.mk (Kd.R_lower ho0 (below_size z13_15)); have HO397 := Aside0.mk (Kd.R_lower ho1 (below_size z13_15)); have BK398 := Aside0.mk (hbox); have GW398 := Aside0.mk ((Nat.le_trans ((below_size z13_15) : w.heap.size ≤ _) hgr : w.heap.size ≤ gb398)); have GE398 := Aside0.mk ((Nat.le_trans ((below_size z13_15) : w.heap.size ≤ _) hgr : w.heap.size ≤ gb398)); have aG := Aside0.mk ((Nat.ne_of_lt (Nat.lt_of_lt_of_le (blk_lt (g := gb387) (o := .cells #[.int .i64 0, .int .i64 0, .int .i64 0, .int .i64 0] 70 (0, 0)) (zL13 BK387.out)) hgr) : gb387 ≠ gb398)); have aq := Aside0.mk ((Nat.ne_of_gt (Nat.lt_of_lt_of_le (blk_lt (g := gb387) (o := .cells #[.int .i64 0, .int .i64 0, .int .i64 0, .int .i64 0] 70 (0, 0)) (zL13 BK387.out)) hgr) : gb398 ≠ gb387)); replace BK387 := Aside0.mk (blk_below (g := gb387) (o := .cells #[.int .i64 0, .int .i64 0, .int .i64 0, .int .i64 0] 70 (0, 0)) (zL13 BK387.out) hb); have ar := Aside0.mk ((Nat.ne_of_lt (Nat.lt_of_lt_of_le (blk_lt (g := gb388) (o := .cells #[.int .i64 0, .int .i64 0, .int .i64 0, .int .i64 0] 70 (0, 0)) (zL13 BK388.out)) hgr) : gb388 ≠ gb398)); have au := Aside0.mk ((Nat.ne_of_gt (Nat.lt_of_lt_of_le (blk_lt (g := gb388) (o := .cells #[.int .i64 0, .int .i64 0, .int .i64 0, .int .i64 0] 70 (0, 0)) (zL13 BK388.out)) hgr) : gb398 ≠ gb388)); replace BK388 := Aside0.mk (blk_below (g := gb388) (o := .cells #[.int .i64 0, .int .i64 0, .int .i64 0, .int .i64 0] 70 (0, 0)) (zL13 BK388.out) hb); replace HB := Aside0.mk (below_step z13_15 hb); (try clear hb); (try clear ho0); (try clear ho1)) | ((with_reducible refine gate_dst (N := 25) rfl ?_); refine Kd.R_lit k131 _ 131 ?hg (N := 25) ?hd (xs := ([] : List (S131))) (inner := []) (ok := fun _ => True) (okp := fun _ => True) ?hr ?hp (fun _ hk => hk) trivial (Below.refl _ _) (Nat.le_refl _) (by simp) ?_; (case hd => rfl); (case hg => rfl); (case hr => first | (go_simp; done) | (go_simp; rfl)); (case hp => exact (Reps.none _ _)); intro v400 w11 ho12 hb hg_ hnew_; clear hg_ hnew_; (first | rw [← Ny399.out] at ho12 | (simp only [Int.reduceToNat] at ho12; rw [← Ny399.out] at ho12)); replace HO391 := Aside0.mk (Kd.R_below (by (with_reducible repeat (first | apply Kd.R_alloc | apply Kd.R_drewN | apply Kd.R_drew)); exact HO391.out) hb); replace HO394 := Aside0.mk (Kd.R_below z13_36 hb); replace HO397 := Aside0.mk (Kd.R_below (by (with_reducible repeat (first | apply Kd.R_alloc | apply Kd.R_drewN | apply Kd.R_drew)); exact HO397.out) hb); have HO401 := Aside0.mk (Kd.R_lower ho12 (below_size z13_1)); replace BK387 := Aside0.mk (blk_below (g := gb387) (o := .cells #[.int .i64 0, .int .i64 0, .int .i64 0, .int .i64 0] 70 (0, 0)) (zL13 BK387.out) hb); replace BK388 := Aside0.mk (blk_below (g := gb388) (o := .cells #[.int .i64 0, .int .i64 0, .int .i64 0, .int .i64 0] 70 (0, 0)) (zL13 BK388.out) hb); replace BK398 := Aside0.mk (blk_below (g := gb398) (o := .cells #[v393, v396] 81 (0, 0)) (zL13 BK398.out) hb); replace HB := Aside0.mk (below_step z13_1 hb); clear hb ho12; have hnb13 := aq.out; have hnc13 := aG.out; have hnb14 := au.out; have hnc14 := ar.out; have aK : w11.cell? ⟨gb398, 0, none⟩ = some (v393) := bA13 BK398 rfl; have aM := blk_frozen BK398.out 0; obtain ⟨Ao16, co16, eo16⟩ := Kd.R_slice HO394.out; subst eo16))
 go_loopg [9, 31] k (fun kq v9 v31 w' => ∃ (x9_1 : List (S131)) (x31_1 : Int), v31 = .int .i64 x31_1 ∧ Aside0 (impl_solve.l0 kq l1 l2 x9_1 t392 (t392.length : Int) x31_1 0 0 0 0 = some (r1, r2, r3, r4)) ∧ Aside0 (kq ≤ k) ∧ Aside0 (Kd.R k131 131 w' w.heap.size (fun _ => True) v9 x9_1) ∧ Aside0 (Kd.R k102 102 w' w.heap.size (fun _ => True) (.slice Ao16 t392.length co16) t392) ∧ Aside0 (Kd.R k102 102 w' w.heap.size (fun _ => True) (.slice Ao16 t392.length co16) t392) ∧ Aside0 (Kd.R (Kd.int .i64) 3 w' w.heap.size (fun _ => True) v396 t395) ∧ Aside0 (w'.heap[gb387]? = some (.cells #[.int .i64 0, .int .i64 0, .int .i64 0, .int .i64 0] 70 (0, 0))) ∧ Aside0 (w'.heap[gb388]? = some (.cells #[.int .i64 0, .int .i64 0, .int .i64 0, .int .i64 0] 70 (0, 0))) ∧ Aside0 (w'.heap[gb398]? = some (.cells #[(.slice Ao16 t392.length co16), v396] 81 (0, 0))) ∧ Aside0 (Below w.heap.size w w'))
 case atStart => exact ⟨(y399), (0), z13_24, H', ⟨Nat.le_refl _⟩, ⟨by (with_reducible repeat (first | apply Kd.R_alloc | apply Kd.R_drewN | apply Kd.R_drew)); exact HO401.out⟩, ⟨z13_36⟩, ⟨z13_36⟩, ⟨by (with_reducible repeat (first | apply Kd.R_alloc | apply Kd.R_drewN | apply Kd.R_drew)); exact HO397.out⟩, ⟨zL13 BK387.out⟩, ⟨zL13 BK388.out⟩, ⟨zL13 BK398.out⟩, ⟨z13_1⟩⟩
 case round =>
  clear H'
  try clear c1
  try clear c2
  try clear aK
  try clear aM
  obtain ⟨x9_1, x31_1, rfl, HA, HK1, HO_9, HO_29, aa, ab, BK387, BK388, BK398, HB⟩ := hrel
  cases gk with
  | zero => exact absurd HA.out (by simp [impl_solve.l0])
  | succ k1 =>
   have H := HA.out
   clear HA
   simp only [impl_solve.l0] at H
   by_cases c17 : x31_1 < (t392.length : Int)
   ·rw [if_pos c17] at H
    have c17b0 : decide (x31_1 < (t392.length : Int)) = true := decide_eq_true c17
    clear c17
    obtain ⟨c18, H⟩ := ifP H
    have c18b0 : decide (0 ≤ x31_1) = true := decide_eq_true c18
    clear c18
    obtain ⟨c19, H⟩ := ifP H
    have c19b0 : decide (x31_1 < (t392.length : Int)) = true := decide_eq_true c19
    clear c19
    have H' := Aside0.mk H
    clear H
    have p402 : 0 ≤ (x31_1 : Int) := of_decide_eq_true z13_3
    have q402 : x31_1 < (t392.length : Int) := of_decide_eq_true z13_3
    obtain ⟨ad402, e402, hx402_0, hx402_1, hx402_2, hx402_3, hx402_4, hx402_5, hx402_6, hx402_7, hx402_8, hx402_9, hx402_10, hx402_11⟩ := at_T102 (Kd.R_reads' HO_29.out).2.2 x31_1 p402 q402
    cases e402
    replace p402 := eq_true p402
    replace q402 := eq_true q402
    go_wp2_with (first | ((with_reducible refine gate_dst (N := 11) rfl ?_); refine box_event ?hg (N := 11) ?hd (cs := #[.int .i64 0, .int .i64 0, .int .i64 0, .int .i64 0, .int .i64 0, .int .i64 0, .int .i64 0, .int .i64 0, .int .i64 0, .int .i64 0, .int .i64 0, .int .i64 0]) (t := 102) ?hr ?_; (case hd => rfl); (case hg => rfl); (case hr => first | (go_simp; done) | (go_simp; rfl)); intro gb403 hg w20 hbox hb; replace HO_9 := Aside0.mk (Kd.R_below z13_14 hb); replace HO_29 := Aside0.mk (Kd.R_below (Kd.R_elderB z13_23 gb403 (Nat.le_of_eq hg.symm)) hb); replace aa := Aside0.mk (Kd.R_below (Kd.R_elderB z13_7 gb403 (Nat.le_of_eq hg.symm)) hb); replace ab := Aside0.mk (Kd.R_below z13_6 hb); have BK403 := Aside0.mk (hbox); have GW403 := Aside0.mk ((by rw [hg]; exact (below_size z13_1) : w.heap.size ≤ gb403)); have GE403 := Aside0.mk ((by rw [hg]; exact (below_size z13_1) : w.heap.size ≤ gb403)); replace HB := Aside0.mk (below_step z13_1 hb); have ah := Aside0.mk ((by rw [hg]; exact Nat.ne_of_lt (blk_lt (g := gb387) (o := .cells #[.int .i64 0, .int .i64 0, .int .i64 0, .int .i64 0] 70 (0, 0)) (zL13 BK387.out)) : gb387 ≠ gb403)); have aH := Aside0.mk ((by rw [hg]; exact Nat.ne_of_gt (blk_lt (g := gb387) (o := .cells #[.int .i64 0, .int .i64 0, .int .i64 0, .int .i64 0] 70 (0, 0)) (zL13 BK387.out)) : gb403 ≠ gb387)); replace BK387 := Aside0.mk (blk_below (g := gb387) (o := .cells #[.int .i64 0, .int .i64 0, .int .i64 0, .int .i64 0] 70 (0, 0)) (zL13 BK387.out) hb); have ai := Aside0.mk ((by rw [hg]; exact Nat.ne_of_lt (blk_lt (g := gb388) (o := .cells #[.int .i64 0, .int .i64 0, .int .i64 0, .int .i64 0] 70 (0, 0)) (zL13 BK388.out)) : gb388 ≠ gb403)); have aI := Aside0.mk ((by rw [hg]; exact Nat.ne_of_gt (blk_lt (g := gb388) (o := .cells #[.int .i64 0, .int .i64 0, .int .i64 0, .int .i64 0] 70 (0, 0)) (zL13 BK388.out)) : gb403 ≠ gb388)); replace BK388 := Aside0.mk (blk_below (g := gb388) (o := .cells #[.int .i64 0, .int .i64 0, .int .i64 0, .int .i64 0] 70 (0, 0)) (zL13 BK388.out) hb); have aj := Aside0.mk ((by rw [hg]; exact Nat.ne_of_lt (blk_lt (g := gb398) (o := .cells #[.slice (some ad402) t392.length co16, v396] 81 (0, 0)) (zL13 BK398.out)) : gb398 ≠ gb403)); have aJ := Aside0.mk ((by rw [hg]; exact Nat.ne_of_gt (blk_lt (g := gb398) (o := .cells #[.slice (some ad402) t392.length co16, v396] 81 (0, 0)) (zL13 BK398.out)) : gb403 ≠ gb398)); replace BK398 := Aside0.mk (blk_below (g := gb398) (o := .cells #[.slice (some ad402) t392.length co16, v396] 81 (0, 0)) (zL13 BK398.out) hb); clear hb hbox hg; have hnb21 := aH.out; have hnc21 := ah.out; have hnb22 := aI.out; have hnc22 := ai.out; have hnb23 := aJ.out; have hnc23 := aj.out; have hcz24_0 : w20.cell? ⟨gb403, 0, none⟩ = some (.int .i64 0) := bA13 BK403 rfl; have hfz24_0 := blk_frozen BK403.out 0; have hcz25_1 : w20.cell? ⟨gb403, 1, none⟩ = some (.int .i64 0) := bA13 BK403 rfl; have hfz25_1 := blk_frozen BK403.out 1; have hcz26_2 : w20.cell? ⟨gb403, 2, none⟩ = some (.int .i64 0) := bA13 BK403 rfl; have hfz26_2 := blk_frozen BK403.out 2; have hcz27_3 : w20.cell? ⟨gb403, 3, none⟩ = some (.int .i64 0) := bA13 BK403 rfl; have hfz27_3 := blk_frozen BK403.out 3; have hcz28_4 : w20.cell? ⟨gb403, 4, none⟩ = some (.int .i64 0) := bA13 BK403 rfl; have hfz28_4 := blk_frozen BK403.out 4; have hcz29_5 : w20.cell? ⟨gb403, 5, none⟩ = some (.int .i64 0) := bA13 BK403 rfl; have hfz29_5 := blk_frozen BK403.out 5; have hcz30_6 : w20.cell? ⟨gb403, 6, none⟩ = some (.int .i64 0) := bA13 BK403 rfl; have hfz30_6 := blk_frozen BK403.out 6; have hcz31_7 : w20.cell? ⟨gb403, 7, none⟩ = some (.int .i64 0) := bA13 BK403 rfl; have hfz31_7 := blk_frozen BK403.out 7; have hcz32_8 : w20.cell? ⟨gb403, 8, none⟩ = some (.int .i64 0) := bA13 BK403 rfl; have hfz32_8 := blk_frozen BK403.out 8; have hcz33_9 : w20.cell? ⟨gb403, 9, none⟩ = some (.int .i64 0) := bA13 BK403 rfl; have hfz33_9 := blk_frozen BK403.out 9; have aN : w20.cell? ⟨gb403, 10, none⟩ = some (.int .i64 0) := bA13 BK403 rfl; have aQ := blk_frozen BK403.out 10; have aR : w20.cell? ⟨gb403, 11, none⟩ = some (.int .i64 0) := bA13 BK403 rfl; have aT := blk_frozen BK403.out 11) | ((with_reducible refine gate_store (t := 102) (p := 11) rfl ?_); refine store_event (t := 102) (p := 11) (v := ?vo_w36) (w1 := ((((((((((((w20.setCell ⟨gb403, 0, none⟩ (.int .i64 ((rd_T102 t392 x31_1).f0.f0))).setCell ⟨gb403, 1, none⟩ (.int .i64 ((rd_T102 t392 x31_1).f0.f1))).setCell ⟨gb403, 2, none⟩ (.int .i64 ((rd_T102 t392 x31_1).f0.f2))).setCell ⟨gb403, 3, none⟩ (.int .i64 ((rd_T102 t392 x31_1).f0.f3))).setCell ⟨gb403, 4, none⟩ (.int .i64 ((rd_T102 t392 x31_1).f1.f0))).setCell ⟨gb403, 5, none⟩ (.int .i64 ((rd_T102 t392 x31_1).f1.f1))).setCell ⟨gb403, 6, none⟩ (.int .i64 ((rd_T102 t392 x31_1).f1.f2))).setCell ⟨gb403, 7, none⟩ (.int .i64 ((rd_T102 t392 x31_1).f1.f3))).setCell ⟨gb403, 8, none⟩ (.int .i64 ((rd_T102 t392 x31_1).f1.f4))).setCell ⟨gb403, 9, none⟩ (.int .i64 ((rd_T102 t392 x31_1).f1.f5))).setCell ⟨gb403, 10, none⟩ (.int .i64 ((rd_T102 t392 x31_1).f1.f6))).setCell ⟨gb403, 11, none⟩ (.int .i64 ((rd_T102 t392 x31_1).f1.f7)))) ?hg ?ho ?hn ?hr ?_; (case ho => rfl); (case hg => rfl); (case hn => rfl); (case hr => first | (go_simp; done) | (go_simp; rfl)); intro w36 hw; have n0_ : Aside0 (Kd.R k131 131 w36 w.heap.size (fun _ => True) u9 x9_1) := ⟨(by rw [hw]; exact (by (with_reducible repeat (first | apply Kd.R_alloc | apply Kd.R_drewN | apply Kd.R_drew)); exact Kd.R_mono (Kd.R_far (p := ⟨gb403, 11, none⟩) (Kd.R_far (p := ⟨gb403, 10, none⟩) (Kd.R_far (p := ⟨gb403, 9, none⟩) (Kd.R_far (p := ⟨gb403, 8, none⟩) (Kd.R_far (p := ⟨gb403, 7, none⟩) (Kd.R_far (p := ⟨gb403, 6, none⟩) (Kd.R_far (p := ⟨gb403, 5, none⟩) (Kd.R_far (p := ⟨gb403, 4, none⟩) (Kd.R_far (p := ⟨gb403, 3, none⟩) (Kd.R_far (p := ⟨gb403, 2, none⟩) (Kd.R_far (p := ⟨gb403, 1, none⟩) (Kd.R_far (p := ⟨gb403, 0, none⟩) (Kd.R_types HO_9.out BK403.out (by decide)) (fun _ hk => hk.2) (.int .i64 ((rd_T102 t392 x31_1).f0.f0))) (fun _ hk => hk.2) (.int .i64 ((rd_T102 t392 x31_1).f0.f1))) (fun _ hk => hk.2) (.int .i64 ((rd_T102 t392 x31_1).f0.f2))) (fun _ hk => hk.2) (.int .i64 ((rd_T102 t392 x31_1).f0.f3))) (fun _ hk => hk.2) (.int .i64 ((rd_T102 t392 x31_1).f1.f0))) (fun _ hk => hk.2) (.int .i64 ((rd_T102 t392 x31_1).f1.f1))) (fun _ hk => hk.2) (.int .i64 ((rd_T102 t392 x31_1).f1.f2))) (fun _ hk => hk.2) (.int .i64 ((rd_T102 t392 x31_1).f1.f3))) (fun _ hk => hk.2) (.int .i64 ((rd_T102 t392 x31_1).f1.f4))) (fun _ hk => hk.2) (.int .i64 ((rd_T102 t392 x31_1).f1.f5))) (fun _ hk => hk.2) (.int .i64 ((rd_T102 t392 x31_1).f1.f6))) (fun _ hk => hk.2) (.int .i64 ((rd_T102 t392 x31_1).f1.f7))) (fun _ hk => trivial)))⟩; have n1_ : Aside0 (Kd.R k102 102 w36 w.heap.size (fun k_ => k_ ≠ gb403) (.slice (some ad402) t392.length co16) t392) := ⟨(by rw [hw]; exact (by (with_reducible repeat (first | apply Kd.R_alloc | apply Kd.R_drewN | apply Kd.R_drew)); exact Kd.R_mono (Kd.R_far (p := ⟨gb403, 11, none⟩) (Kd.R_far (p := ⟨gb403, 10, none⟩) (Kd.R_far (p := ⟨gb403, 9, none⟩) (Kd.R_far (p := ⟨gb403, 8, none⟩) (Kd.R_far (p := ⟨gb403, 7, none⟩) (Kd.R_far (p := ⟨gb403, 6, none⟩) (Kd.R_far (p := ⟨gb403, 5, none⟩) (Kd.R_far (p := ⟨gb403, 4, none⟩) (Kd.R_far (p := ⟨gb403, 3, none⟩) (Kd.R_far (p := ⟨gb403, 2, none⟩) (Kd.R_far (p := ⟨gb403, 1, none⟩) (Kd.R_far (p := ⟨gb403, 0, none⟩) (Kd.R_mono HO_29.out (fun k_ hk => (⟨hk, hk.2⟩ : _ ∧ k_ ≠ gb403))) (fun _ hk => hk.2) (.int .i64 ((rd_T102 t392 x31_1).f0.f0))) (fun _ hk => hk.2) (.int .i64 ((rd_T102 t392 x31_1).f0.f1))) (fun _ hk => hk.2) (.int .i64 ((rd_T102 t392 x31_1).f0.f2))) (fun _ hk => hk.2) (.int .i64 ((rd_T102 t392 x31_1).f0.f3))) (fun _ hk => hk.2) (.int .i64 ((rd_T102 t392 x31_1).f1.f0))) (fun _ hk => hk.2) (.int .i64 ((rd_T102 t392 x31_1).f1.f1))) (fun _ hk => hk.2) (.int .i64 ((rd_T102 t392 x31_1).f1.f2))) (fun _ hk => hk.2) (.int .i64 ((rd_T102 t392 x31_1).f1.f3))) (fun _ hk => hk.2) (.int .i64 ((rd_T102 t392 x31_1).f1.f4))) (fun _ hk => hk.2) (.int .i64 ((rd_T102 t392 x31_1).f1.f5))) (fun _ hk => hk.2) (.int .i64 ((rd_T102 t392 x31_1).f1.f6))) (fun _ hk => hk.2) (.int .i64 ((rd_T102 t392 x31_1).f1.f7))) (fun _ hk => hk.1.2)))⟩; have n2_ : Aside0 (Kd.R k102 102 w36 w.heap.size (fun k_ => k_ ≠ gb403) (.slice (some ad402) t392.length co16) t392) := ⟨(by rw [hw]; exact (by (with_reducible repeat (first | apply Kd.R_alloc | apply Kd.R_drewN | apply Kd.R_drew)); exact Kd.R_mono (Kd.R_far (p := ⟨gb403, 11, none⟩) (Kd.R_far (p := ⟨gb403, 10, none⟩) (Kd.R_far (p := ⟨gb403, 9, none⟩) (Kd.R_far (p := ⟨gb403, 8, none⟩) (Kd.R_far (p := ⟨gb403, 7, none⟩) (Kd.R_far (p := ⟨gb403, 6, none⟩) (Kd.R_far (p := ⟨gb403, 5, none⟩) (Kd.R_far (p := ⟨gb403, 4, none⟩) (Kd.R_far (p := ⟨gb403, 3, none⟩) (Kd.R_far (p := ⟨gb403, 2, none⟩) (Kd.R_far (p := ⟨gb403, 1, none⟩) (Kd.R_far (p := ⟨gb403, 0, none⟩) (Kd.R_mono aa.out (fun k_ hk => (⟨hk, hk.2⟩ : _ ∧ k_ ≠ gb403))) (fun _ hk => hk.2) (.int .i64 ((rd_T102 t392 x31_1).f0.f0))) (fun _ hk => hk.2) (.int .i64 ((rd_T102 t392 x31_1).f0.f1))) (fun _ hk => hk.2) (.int .i64 ((rd_T102 t392 x31_1).f0.f2))) (fun _ hk => hk.2) (.int .i64 ((rd_T102 t392 x31_1).f0.f3))) (fun _ hk => hk.2) (.int .i64 ((rd_T102 t392 x31_1).f1.f0))) (fun _ hk => hk.2) (.int .i64 ((rd_T102 t392 x31_1).f1.f1))) (fun _ hk => hk.2) (.int .i64 ((rd_T102 t392 x31_1).f1.f2))) (fun _ hk => hk.2) (.int .i64 ((rd_T102 t392 x31_1).f1.f3))) (fun _ hk => hk.2) (.int .i64 ((rd_T102 t392 x31_1).f1.f4))) (fun _ hk => hk.2) (.int .i64 ((rd_T102 t392 x31_1).f1.f5))) (fun _ hk => hk.2) (.int .i64 ((rd_T102 t392 x31_1).f1.f6))) (fun _ hk => hk.2) (.int .i64 ((rd_T102 t392 x31_1).f1.f7))) (fun _ hk => hk.1.2)))⟩; have n3_ : Aside0 (Kd.R (Kd.int .i64) 3 w36 w.heap.size (fun _ => True) v396 t395) := ⟨(by rw [hw]; exact (by (with_reducible repeat (first | apply Kd.R_alloc | apply Kd.R_drewN | apply Kd.R_drew)); exact Kd.R_mono (Kd.R_far (p := ⟨gb403, 11, none⟩) (Kd.R_far (p := ⟨gb403, 10, none⟩) (Kd.R_far (p := ⟨gb403, 9, none⟩) (Kd.R_far (p := ⟨gb403, 8, none⟩) (Kd.R_far (p := ⟨gb403, 7, none⟩) (Kd.R_far (p := ⟨gb403, 6, none⟩) (Kd.R_far (p := ⟨gb403, 5, none⟩) (Kd.R_far (p := ⟨gb403, 4, none⟩) (Kd.R_far (p := ⟨gb403, 3, none⟩) (Kd.R_far (p := ⟨gb403, 2, none⟩) (Kd.R_far (p := ⟨gb403, 1, none⟩) (Kd.R_far (p := ⟨gb403, 0, none⟩) (Kd.R_types ab.out BK403.out (by decide)) (fun _ hk => hk.2) (.int .i64 ((rd_T102 t392 x31_1).f0.f0))) (fun _ hk => hk.2) (.int .i64 ((rd_T102 t392 x31_1).f0.f1))) (fun _ hk => hk.2) (.int .i64 ((rd_T102 t392 x31_1).f0.f2))) (fun _ hk => hk.2) (.int .i64 ((rd_T102 t392 x31_1).f0.f3))) (fun _ hk => hk.2) (.int .i64 ((rd_T102 t392 x31_1).f1.f0))) (fun _ hk => hk.2) (.int .i64 ((rd_T102 t392 x31_1).f1.f1))) (fun _ hk => hk.2) (.int .i64 ((rd_T102 t392 x31_1).f1.f2))) (fun _ hk => hk.2) (.int .i64 ((rd_T102 t392 x31_1).f1.f3))) (fun _ hk => hk.2) (.int .i64 ((rd_T102 t392 x31_1).f1.f4))) (fun _ hk => hk.2) (.int .i64 ((rd_T102 t392 x31_1).f1.f5))) (fun _ hk => hk.2) (.int .i64 ((rd_T102 t392 x31_1).f1.f6))) (fun _ hk => hk.2) (.int .i64 ((rd_T102 t392 x31_1).f1.f7))) (fun _ hk => trivial)))⟩; have n4_ : Aside0 (w36.heap[gb387]? = some (.cells #[.int .i64 0, .int .i64 0, .int .i64 0, .int .i64 0] 70 (0, 0))) := ⟨(by rw [hw]; exact (by (with_reducible repeat first|refine blk_drewN ?_ _|refine blk_drew ?_|refine blk_alloc ?_ _); refine blk_far ?_ ah.out _; (with_reducible repeat first|refine blk_drewN ?_ _|refine blk_drew ?_|refine blk_alloc ?_ _); refine blk_far ?_ ah.out _; (with_reducible repeat first|refine blk_drewN ?_ _|refine blk_drew ?_|refine blk_alloc ?_ _); refine blk_far ?_ ah.out _; (with_reducible repeat first|refine blk_drewN ?_ _|refine blk_drew ?_|refine blk_alloc ?_ _); refine blk_far ?_ ah.out _; (with_reducible repeat first|refine blk_drewN ?_ _|refine blk_drew ?_|refine blk_alloc ?_ _); refine blk_far ?_ ah.out _; (with_reducible repeat first|refine blk_drewN ?_ _|refine blk_drew ?_|refine blk_alloc ?_ _); refine blk_far ?_ ah.out _; (with_reducible repeat first|refine blk_drewN ?_ _|refine blk_drew ?_|refine blk_alloc ?_ _); refine blk_far ?_ ah.out _; (with_reducible repeat first|refine blk_drewN ?_ _|refine blk_drew ?_|refine blk_alloc ?_ _); refine blk_far ?_ ah.out _; (with_reducible repeat first|refine blk_drewN ?_ _|refine blk_drew ?_|refine blk_alloc ?_ _); refine blk_far ?_ ah.out _; (with_reducible repeat first|refine blk_drewN ?_ _|refine blk_drew ?_|refine blk_alloc ?_ _); refine blk_far ?_ ah.out _; (with_reducible repeat first|refine blk_drewN ?_ _|refine blk_drew ?_|refine blk_alloc ?_ _); refine blk_far ?_ ah.out _; (with_reducible repeat first|refine blk_drewN ?_ _|refine blk_drew ?_|refine blk_alloc ?_ _); refine blk_far ?_ ah.out _; (with_reducible repeat first|refine blk_drewN ?_ _|refine blk_drew ?_|refine blk_alloc ?_ _); exact BK387.out))⟩; have n5_ : Aside0 (w36.heap[gb388]? = some (.cells #[.int .i64 0, .int .i64 0, .int .i64 0, .int .i64 0] 70 (0, 0))) := ⟨(by rw [hw]; exact (by (with_reducible repeat first|refine blk_drewN ?_ _|refine blk_drew ?_|refine blk_alloc ?_ _); refine blk_far ?_ ai.out _; (with_reducible repeat first|refine blk_drewN ?_ _|refine blk_drew ?_|refine blk_alloc ?_ _); refine blk_far ?_ ai.out _; (with_reducible repeat first|refine blk_drewN ?_ _|refine blk_drew ?_|refine blk_alloc ?_ _); refine blk_far ?_ ai.out _; (with_reducible repeat first|refine blk_drewN ?_ _|refine blk_drew ?_|refine blk_alloc ?_ _); refine blk_far ?_ ai.out _; (with_reducible repeat first|refine blk_drewN ?_ _|refine blk_drew ?_|refine blk_alloc ?_ _); refine blk_far ?_ ai.out _; (with_reducible repeat first|refine blk_drewN ?_ _|refine blk_drew ?_|refine blk_alloc ?_ _); refine blk_far ?_ ai.out _; (with_reducible repeat first|refine blk_drewN ?_ _|refine blk_drew ?_|refine blk_alloc ?_ _); refine blk_far ?_ ai.out _; (with_reducible repeat first|refine blk_drewN ?_ _|refine blk_drew ?_|refine blk_alloc ?_ _); refine blk_far ?_ ai.out _; (with_reducible repeat first|refine blk_drewN ?_ _|refine blk_drew ?_|refine blk_alloc ?_ _); refine blk_far ?_ ai.out _; (with_reducible repeat first|refine blk_drewN ?_ _|refine blk_drew ?_|refine blk_alloc ?_ _); refine blk_far ?_ ai.out _; (with_reducible repeat first|refine blk_drewN ?_ _|refine blk_drew ?_|refine blk_alloc ?_ _); refine blk_far ?_ ai.out _; (with_reducible repeat first|refine blk_drewN ?_ _|refine blk_drew ?_|refine blk_alloc ?_ _); refine blk_far ?_ ai.out _; (with_reducible repeat first|refine blk_drewN ?_ _|refine blk_drew ?_|refine blk_alloc ?_ _); exact BK388.out))⟩; have n6_ : Aside0 (w36.heap[gb398]? = some (.cells #[.slice (some ad402) t392.length co16, v396] 81 (0, 0))) := ⟨(by rw [hw]; exact (by (with_reducible repeat first|refine blk_drewN ?_ _|refine blk_drew ?_|refine blk_alloc ?_ _); refine blk_far ?_ aj.out _; (with_reducible repeat first|refine blk_drewN ?_ _|refine blk_drew ?_|refine blk_alloc ?_ _); refine blk_far ?_ aj.out _; (with_reducible repeat first|refine blk_drewN ?_ _|refine blk_drew ?_|refine blk_alloc ?_ _); refine blk_far ?_ aj.out _; (with_reducible repeat first|refine blk_drewN ?_ _|refine blk_drew ?_|refine blk_alloc ?_ _); refine blk_far ?_ aj.out _; (with_reducible repeat first|refine blk_drewN ?_ _|refine blk_drew ?_|refine blk_alloc ?_ _); refine blk_far ?_ aj.out _; (with_reducible repeat first|refine blk_drewN ?_ _|refine blk_drew ?_|refine blk_alloc ?_ _); refine blk_far ?_ aj.out _; (with_reducible repeat first|refine blk_drewN ?_ _|refine blk_drew ?_|refine blk_alloc ?_ _); refine blk_far ?_ aj.out _; (with_reducible repeat first|refine blk_drewN ?_ _|refine blk_drew ?_|refine blk_alloc ?_ _); refine blk_far ?_ aj.out _; (with_reducible repeat first|refine blk_drewN ?_ _|refine blk_drew ?_|refine blk_alloc ?_ _); refine blk_far ?_ aj.out _; (with_reducible repeat first|refine blk_drewN ?_ _|refine blk_drew ?_|refine blk_alloc ?_ _); refine blk_far ?_ aj.out _; (with_reducible repeat first|refine blk_drewN ?_ _|refine blk_drew ?_|refine blk_alloc ?_ _); refine blk_far ?_ aj.out _; (with_reducible repeat first|refine blk_drewN ?_ _|refine blk_drew ?_|refine blk_alloc ?_ _); refine blk_far ?_ aj.out _; (with_reducible repeat first|refine blk_drewN ?_ _|refine blk_drew ?_|refine blk_alloc ?_ _); exact BK398.out))⟩; have n7_ : Aside0 (w36.heap[gb403]? = some (.cells #[.int .i64 ((rd_T102 t392 x31_1).f0.f0), .int .i64 ((rd_T102 t392 x31_1).f0.f1), .int .i64 ((rd_T102 t392 x31_1).f0.f2), .int .i64 ((rd_T102 t392 x31_1).f0.f3), .int .i64 ((rd_T102 t392 x31_1).f1.f0), .int .i64 ((rd_T102 t392 x31_1).f1.f1), .int .i64 ((rd_T102 t392 x31_1).f1.f2), .int .i64 ((rd_T102 t392 x31_1).f1.f3), .int .i64 ((rd_T102 t392 x31_1).f1.f4), .int .i64 ((rd_T102 t392 x31_1).f1.f5), .int .i64 ((rd_T102 t392 x31_1).f1.f6), .int .i64 ((rd_T102 t392 x31_1).f1.f7)] 102 (0, 0))) := ⟨(by rw [hw]; exact (bZ BK403.out))⟩; have n8_ : Aside0 (Below w.heap.size w w36) := ⟨(by rw [hw]; exact z13_4)⟩; clear hw; clear HO_9; clear HO_29; clear aa; clear ab; clear BK387; clear BK388; clear BK398; clear BK403; clear HB; have HO_9 := n0_; have HO_29 := n1_; have aa := n2_; have ab := n3_; have BK387 := n4_; have BK388 := n5_; have BK398 := n6_; have BK403 := n7_; have HB := n8_; clear n0_ n1_ n2_ n3_ n4_ n5_ n6_ n7_ n8_))
    go_loopg [12, 37] k1 (fun kq v12 v37 w' => ∃ (x12_2 : Int) (x37_2 : Int), v12 = .int .i64 x12_2 ∧ v37 = .int .i64 x37_2 ∧ Aside0 (impl_solve.l1 kq l1 l2 x9_1 x12_2 t392 (t392.length : Int) x31_1 l2 (l2.length : Int) x37_2 0 0 0 0 ((rd_T102 t392 x31_1).f0.f0) ((rd_T102 t392 x31_1).f0.f1) ((rd_T102 t392 x31_1).f0.f2) ((rd_T102 t392 x31_1).f0.f3) ((rd_T102 t392 x31_1).f1.f0) ((rd_T102 t392 x31_1).f1.f1) ((rd_T102 t392 x31_1).f1.f2) ((rd_T102 t392 x31_1).f1.f3) ((rd_T102 t392 x31_1).f1.f4) ((rd_T102 t392 x31_1).f1.f5) ((rd_T102 t392 x31_1).f1.f6) ((rd_T102 t392 x31_1).f1.f7) = some (r1, r2, r3, r4)) ∧ Aside0 (kq ≤ k1) ∧ Aside0 (Kd.R k131 131 w' w.heap.size (fun _ => True) u9 x9_1) ∧ Aside0 (Kd.R k102 102 w' w.heap.size (fun k_ => k_ ≠ gb403) (.slice (some ad402) t392.length co16) t392) ∧ Aside0 (Kd.R k102 102 w' w.heap.size (fun k_ => k_ ≠ gb403) (.slice (some ad402) t392.length co16) t392) ∧ Aside0 (Kd.R (Kd.int .i64) 3 w' w.heap.size (fun _ => True) v396 t395) ∧ Aside0 (w'.heap[gb387]? = some (.cells #[.int .i64 0, .int .i64 0, .int .i64 0, .int .i64 0] 70 (0, 0))) ∧ Aside0 (w'.heap[gb388]? = some (.cells #[.int .i64 0, .int .i64 0, .int .i64 0, .int .i64 0] 70 (0, 0))) ∧ Aside0 (w'.heap[gb398]? = some (.cells #[(.slice (some ad402) t392.length co16), v396] 81 (0, 0))) ∧ Aside0 (w'.heap[gb403]? = some (.cells #[.int .i64 ((rd_T102 t392 x31_1).f0.f0), .int .i64 ((rd_T102 t392 x31_1).f0.f1), .int .i64 ((rd_T102 t392 x31_1).f0.f2), .int .i64 ((rd_T102 t392 x31_1).f0.f3), .int .i64 ((rd_T102 t392 x31_1).f1.f0), .int .i64 ((rd_T102 t392 x31_1).f1.f1), .int .i64 ((rd_T102 t392 x31_1).f1.f2), .int .i64 ((rd_T102 t392 x31_1).f1.f3), .int .i64 ((rd_T102 t392 x31_1).f1.f4), .int .i64 ((rd_T102 t392 x31_1).f1.f5), .int .i64 ((rd_T102 t392 x31_1).f1.f6), .int .i64 ((rd_T102 t392 x31_1).f1.f7)] 102 (0, 0))) ∧ Aside0 (Below w.heap.size w w'))
    case atStart => exact ⟨(0), (0), z13_24, z13_24, H', ⟨Nat.le_refl _⟩, ⟨z13_14⟩, ⟨z13_23⟩, ⟨z13_7⟩, ⟨z13_6⟩, ⟨zL13 BK387.out⟩, ⟨zL13 BK388.out⟩, ⟨zL13 BK398.out⟩, ⟨zL13 BK403.out⟩, ⟨z13_4⟩⟩
    case round =>
     clear H'
     try clear c1
     try clear c2
     try clear c17
     try clear c17b0
     try clear c18
     try clear c18b0
     try clear c19
     try clear c19b0
     try clear aK
     try clear hcz24_0
     try clear hcz25_1
     try clear hcz26_2
     try clear hcz27_3
     try clear hcz28_4
     try clear hcz29_5
     try clear hcz30_6
     try clear hcz31_7
     try clear hcz32_8
     try clear hcz33_9
     try clear aN
     try clear aR
     try clear aM
     try clear hfz24_0
     try clear hfz25_1
     try clear hfz26_2
     try clear hfz27_3
     try clear hfz28_4
     try clear hfz29_5
     try clear hfz30_6
     try clear hfz31_7
     try clear hfz32_8
     try clear hfz33_9
     try clear aQ
     try clear aT
     try clear hx402_0 hx402_1 hx402_10 hx402_11 hx402_2 hx402_3 hx402_4 hx402_5 hx402_6 hx402_7 hx402_8 hx402_9
     try clear p402
     try clear q402
     obtain ⟨x12_2, x37_2, rfl, rfl, HA, HK2, HO_9, HO_29, aa, ab, BK387, BK388, BK398, BK403, HB⟩ := hrel
     cases gk with
     | zero => exact absurd HA.out (by simp [impl_solve.l1])
     | succ k2 =>
      have H := HA.out
      clear HA
      simp only [impl_solve.l1] at H
      by_cases c37 : x37_2 < (l2.length : Int)
      ·rw [if_pos c37] at H
       have c37b0 : decide (x37_2 < (l2.length : Int)) = true := decide_eq_true c37
       clear c37
       obtain ⟨c38, H⟩ := ifP H
       have c38b0 : decide (0 ≤ x37_2) = true := decide_eq_true c38
       clear c38
       obtain ⟨c39, H⟩ := ifP H
       have c39b0 : decide (x37_2 < (l2.length : Int)) = true := decide_eq_true c39
       clear c39
       by_cases c40 : x37_2 = 0
       ·rw [if_pos c40] at H
        subst c40
        (try have hz_ := eq_true (Int.natCast_pos.1 (of_decide_eq_true c39b0) : 0 < l2.length))
        replace H : (if 0 ≤ (rd l2 (0 : Int)) then (if (rd l2 (0 : Int)) < (l1.length : Int) then ((impl_element_times.f ((rd_T102 t392 x31_1).f1.f0) (rd l1 (rd l2 (0 : Int)))).bind fun t406 => ((impl_element_plus.f x12_2 t406).bind fun t407 => (impl_solve.l1 k2 l1 l2 x9_1 t407 t392 (t392.length : Int) x31_1 l2 (l2.length : Int) (wrap64 ((0 : Int) + 1)) 0 0 0 0 ((rd_T102 t392 x31_1).f0.f0) ((rd_T102 t392 x31_1).f0.f1) ((rd_T102 t392 x31_1).f0.f2) ((rd_T102 t392 x31_1).f0.f3) ((rd_T102 t392 x31_1).f1.f0) ((rd_T102 t392 x31_1).f1.f1) ((rd_T102 t392 x31_1).f1.f2) ((rd_T102 t392 x31_1).f1.f3) ((rd_T102 t392 x31_1).f1.f4) ((rd_T102 t392 x31_1).f1.f5) ((rd_T102 t392 x31_1).f1.f6) ((rd_T102 t392 x31_1).f1.f7)))) else (none)) else (none)) = some (r1, r2, r3, r4) := H
        obtain ⟨c41, H⟩ := ifP H
        have c41b0 : decide (0 ≤ (rd l2 (0 : Int))) = true := decide_eq_true c41
        clear c41
        obtain ⟨c42, H⟩ := ifP H
        have c42b0 : decide ((rd l2 (0 : Int)) < (l1.length : Int)) = true := decide_eq_true c42
        clear c42
        replace H := Option.bind_eq_some_iff.mp H
        obtain ⟨t406, A430, H⟩ := H
        replace H : ((impl_element_plus.f x12_2 t406).bind fun t407 => (impl_solve.l1 k2 l1 l2 x9_1 t407 t392 (t392.length : Int) x31_1 l2 (l2.length : Int) (wrap64 ((0 : Int) + 1)) 0 0 0 0 ((rd_T102 t392 x31_1).f0.f0) ((rd_T102 t392 x31_1).f0.f1) ((rd_T102 t392 x31_1).f0.f2) ((rd_T102 t392 x31_1).f0.f3) ((rd_T102 t392 x31_1).f1.f0) ((rd_T102 t392 x31_1).f1.f1) ((rd_T102 t392 x31_1).f1.f2) ((rd_T102 t392 x31_1).f1.f3) ((rd_T102 t392 x31_1).f1.f4) ((rd_T102 t392 x31_1).f1.f5) ((rd_T102 t392 x31_1).f1.f6) ((rd_T102 t392 x31_1).f1.f7))) = some (r1, r2, r3, r4) := H
        have A43 := Aside0.mk A430
        clear A430
        replace H := Option.bind_eq_some_iff.mp H
        obtain ⟨t407, A440, H⟩ := H
        replace H : (impl_solve.l1 k2 l1 l2 x9_1 t407 t392 (t392.length : Int) x31_1 l2 (l2.length : Int) (wrap64 ((0 : Int) + 1)) 0 0 0 0 ((rd_T102 t392 x31_1).f0.f0) ((rd_T102 t392 x31_1).f0.f1) ((rd_T102 t392 x31_1).f0.f2) ((rd_T102 t392 x31_1).f0.f3) ((rd_T102 t392 x31_1).f1.f0) ((rd_T102 t392 x31_1).f1.f1) ((rd_T102 t392 x31_1).f1.f2) ((rd_T102 t392 x31_1).f1.f3) ((rd_T102 t392 x31_1).f1.f4) ((rd_T102 t392 x31_1).f1.f5) ((rd_T102 t392 x31_1).f1.f6) ((rd_T102 t392 x31_1).f1.f7)) = some (r1, r2, r3, r4) := H
        have A44 := Aside0.mk A440
        clear A440
        have H' := Aside0.mk H
        clear H
        have p404 : 0 ≤ ((0 : Int) : Int) := of_decide_eq_true z13_3
        have q404 : (0 : Int) < (l2.length : Int) := of_decide_eq_true z13_3
        obtain ⟨ad404, e404, hx404_0⟩ := Kd.at_int HR2.out (0 : Int) p404 q404
        cases e404
        replace hx404_0 := (HB.out.cell (World.block_lt_of_cell? w _ hx404_0)).trans hx404_0
        (try simp only [Int.reduceToNat, Addr.add_zero', Addr.add_succ', Nat.reduceAdd] at hx404_0)
        replace p404 := eq_true p404
        replace q404 := eq_true q404
        try go_wp2
        replace HO_9 := Aside0.mk (Kd.R_drew HO_9.out)
        replace HO_29 := Aside0.mk (Kd.R_drew HO_29.out)
        replace aa := Aside0.mk (Kd.R_drew aa.out)
        replace ab := Aside0.mk (Kd.R_drew ab.out)
        replace BK387 := Aside0.mk (blk_drew BK387.out)
        replace BK388 := Aside0.mk (blk_drew BK388.out)
        replace BK398 := Aside0.mk (blk_drew BK398.out)
        replace BK403 := Aside0.mk (blk_drew BK403.out)
        replace HB := Aside0.mk (below_drew1 HB.out)
        have p405 : 0 ≤ ((rd l2 (0 : Int)) : Int) := of_decide_eq_true z13_3
        have q405 : (rd l2 (0 : Int)) < (l1.length : Int) := of_decide_eq_true z13_3
        obtain ⟨ad405, e405, hx405_0⟩ := Kd.at_int HR1.out (rd l2 (0 : Int)) p405 q405
        have hw405_0 := hx405_0
        cases e405
        replace hx405_0 := (HB.out.cell (World.block_lt_of_cell? w _ hx405_0)).trans hx405_0
        replace p405 := eq_true p405
        replace q405 := eq_true q405
        refine start_ (n := 12) (S := fun w' => w'.cell? ⟨gb403, 4, none⟩ = some (.int .i64 ((rd_T102 t392 x31_1).f1.f0)) ∧ w'.cell? (ad405.add ((rd l2 (0 : Int))).toNat) = some (.int .i64 (rd l1 (rd l2 (0 : Int))))) (ds := []) #[false, false, false, false, false, false, false, false, false, false, false, false] (by kernel_rfl) rfl rfl ⟨bA13 BK403 rfl, ((HB.out.cell (World.block_lt_of_cell? w _ hw405_0)).trans hw405_0)⟩ (fun hHeld => ?_); refine with_tabW impl_solve.tab11 impl_solve.bits11 (fun HT_ HW_ => ?_)
        generalize wr.drew = w45 at HO_9 HO_29 aa ab BK387 BK388 BK398 BK403 HB hx405_0 hHeld ⊢
        refine pZ 0 HT_ ?_
        refine pZ 1 HT_ ?_
        refine pZ 2 HT_ ?_
        refine pZ 3 HT_ ?_
        refine pZ 5 HT_ ?_
        refine pZ 6 HT_ ?_
        refine pZ 7 HT_ ?_
        refine tZ 4 hHeld HT_ HW_ ?_
        refine tZ 8 hHeld HT_ HW_ ?_
        refine oZ 9 HT_ (fun K hK => ?_)
        refine goes_ Try.func104 (by kernel_rfl) rfl #[.int .i64 ((rd_T102 t392 x31_1).f1.f0), .int .i64 (rd l1 (rd l2 (0 : Int)))] (by rfl) rfl rfl z13_2 ?_
        with_reducible refine (impl_element_times.calls ((rd_T102 t392 x31_1).f1.f0) (rd l1 (rd l2 (0 : Int))) t406 _ A43.out).mono ?_
        rintro e w' ⟨rfl, ⟨nd, rfl⟩⟩
        refine ⟨_, rfl, ?_⟩
        refine hK.out _ _ ⟨bA13 BK403 rfl, ((HB.out.cell (World.block_lt_of_cell? w _ hw405_0)).trans hw405_0)⟩ (fun hHeld => ?_)
        clear hK K
        refine nZ ?_
        refine oZ 10 HT_ (fun K hK => ?_)
        refine goes_ Try.func89 (by kernel_rfl) rfl #[.int .i64 x12_2, .int .i64 t406] (by rfl) rfl rfl z13_2 ?_
        with_reducible refine (impl_element_plus.calls x12_2 t406 t407 _ A44.out).mono ?_
        rintro e w' ⟨rfl, ⟨nd, rfl⟩⟩
        refine ⟨_, rfl, ?_⟩
        refine hK.out _ _ ⟨bA13 BK403 rfl, ((HB.out.cell (World.block_lt_of_cell? w _ hw405_0)).trans hw405_0)⟩ (fun hHeld => ?_)
        clear hK K
        refine nZ ?_
        refine pZ 11 HT_ ?_
        refine done_ (done_of HT_.out (by kernel_rfl)) ?_
        try go_wp2
        go_roundg k2
        case measure => have := HK1.out; have := HK2.out; omega
        case rel => exact ⟨(t407), (wrap64 ((0 : Int) + 1)), z13_16, z13_16, H', ⟨z13_32⟩, ⟨z13_14⟩, ⟨z13_23⟩, ⟨z13_7⟩, ⟨z13_6⟩, ⟨zL13 BK387.out⟩, ⟨zL13 BK388.out⟩, ⟨zL13 BK398.out⟩, ⟨zL13 BK403.out⟩, ⟨z13_4⟩⟩
       ·rw [if_neg c40] at H
        clear c40
        by_cases c46 : x37_2 = 1
        ·rw [if_pos c46] at H
         subst c46
         (try have hz_ := eq_true (by have h_ := of_decide_eq_true c39b0; omega : 1 < l2.length))
         replace H : (if 0 ≤ (rd l2 (1 : Int)) then (if (rd l2 (1 : Int)) < (l1.length : Int) then ((impl_element_times.f ((rd_T102 t392 x31_1).f1.f1) (rd l1 (rd l2 (1 : Int)))).bind fun t409 => ((impl_element_plus.f x12_2 t409).bind fun t410 => (impl_solve.l1 k2 l1 l2 x9_1 t410 t392 (t392.length : Int) x31_1 l2 (l2.length : Int) (wrap64 ((1 : Int) + 1)) 0 0 0 0 ((rd_T102 t392 x31_1).f0.f0) ((rd_T102 t392 x31_1).f0.f1) ((rd_T102 t392 x31_1).f0.f2) ((rd_T102 t392 x31_1).f0.f3) ((rd_T102 t392 x31_1).f1.f0) ((rd_T102 t392 x31_1).f1.f1) ((rd_T102 t392 x31_1).f1.f2) ((rd_T102 t392 x31_1).f1.f3) ((rd_T102 t392 x31_1).f1.f4) ((rd_T102 t392 x31_1).f1.f5) ((rd_T102 t392 x31_1).f1.f6) ((rd_T102 t392 x31_1).f1.f7)))) else (none)) else (none)) = some (r1, r2, r3, r4) := H
         obtain ⟨c47, H⟩ := ifP H
         have c47b0 : decide (0 ≤ (rd l2 (1 : Int))) = true := decide_eq_true c47
         clear c47
         obtain ⟨c48, H⟩ := ifP H
         have c48b0 : decide ((rd l2 (1 : Int)) < (l1.length : Int)) = true := decide_eq_true c48
         clear c48
         replace H := Option.bind_eq_some_iff.mp H
         obtain ⟨t409, A490, H⟩ := H
         replace H : ((impl_element_plus.f x12_2 t409).bind fun t410 => (impl_solve.l1 k2 l1 l2 x9_1 t410 t392 (t392.length : Int) x31_1 l2 (l2.length : Int) (wrap64 ((1 : Int) + 1)) 0 0 0 0 ((rd_T102 t392 x31_1).f0.f0) ((rd_T102 t392 x31_1).f0.f1) ((rd_T102 t392 x31_1).f0.f2) ((rd_T102 t392 x31_1).f0.f3) ((rd_T102 t392 x31_1).f1.f0) ((rd_T102 t392 x31_1).f1.f1) ((rd_T102 t392 x31_1).f1.f2) ((rd_T102 t392 x31_1).f1.f3) ((rd_T102 t392 x31_1).f1.f4) ((rd_T102 t392 x31_1).f1.f5) ((rd_T102 t392 x31_1).f1.f6) ((rd_T102 t392 x31_1).f1.f7))) = some (r1, r2, r3, r4) := H
         have A49 := Aside0.mk A490
         clear A490
         replace H := Option.bind_eq_some_iff.mp H
         obtain ⟨t410, A500, H⟩ := H
         replace H : (impl_solve.l1 k2 l1 l2 x9_1 t410 t392 (t392.length : Int) x31_1 l2 (l2.length : Int) (wrap64 ((1 : Int) + 1)) 0 0 0 0 ((rd_T102 t392 x31_1).f0.f0) ((rd_T102 t392 x31_1).f0.f1) ((rd_T102 t392 x31_1).f0.f2) ((rd_T102 t392 x31_1).f0.f3) ((rd_T102 t392 x31_1).f1.f0) ((rd_T102 t392 x31_1).f1.f1) ((rd_T102 t392 x31_1).f1.f2) ((rd_T102 t392 x31_1).f1.f3) ((rd_T102 t392 x31_1).f1.f4) ((rd_T102 t392 x31_1).f1.f5) ((rd_T102 t392 x31_1).f1.f6) ((rd_T102 t392 x31_1).f1.f7)) = some (r1, r2, r3, r4) := H
         have A50 := Aside0.mk A500
         clear A500
         have H' := Aside0.mk H
         clear H
         have p404 : 0 ≤ ((1 : Int) : Int) := of_decide_eq_true z13_3
         have q404 : (1 : Int) < (l2.length : Int) := of_decide_eq_true z13_3
         obtain ⟨ad404, e404, hx404_0⟩ := Kd.at_int HR2.out (1 : Int) p404 q404
         cases e404
         replace hx404_0 := (HB.out.cell (World.block_lt_of_cell? w _ hx404_0)).trans hx404_0
         (try simp only [Int.reduceToNat, Addr.add_zero', Addr.add_succ', Nat.reduceAdd] at hx404_0)
         replace p404 := eq_true p404
         replace q404 := eq_true q404
         try go_wp2
         replace HO_9 := Aside0.mk (Kd.R_drew HO_9.out)
         replace HO_29 := Aside0.mk (Kd.R_drew HO_29.out)
         replace aa := Aside0.mk (Kd.R_drew aa.out)
         replace ab := Aside0.mk (Kd.R_drew ab.out)
         replace BK387 := Aside0.mk (blk_drew BK387.out)
         replace BK388 := Aside0.mk (blk_drew BK388.out)
         replace BK398 := Aside0.mk (blk_drew BK398.out)
         replace BK403 := Aside0.mk (blk_drew BK403.out)
         replace HB := Aside0.mk (below_drew1 HB.out)
         have p408 : 0 ≤ ((rd l2 (1 : Int)) : Int) := of_decide_eq_true z13_3
         have q408 : (rd l2 (1 : Int)) < (l1.length : Int) := of_decide_eq_true z13_3
         obtain ⟨ad408, e408, hx408_0⟩ := Kd.at_int HR1.out (rd l2 (1 : Int)) p408 q408
         have hw408_0 := hx408_0
         cases e408
         replace hx408_0 := (HB.out.cell (World.block_lt_of_cell? w _ hx408_0)).trans hx408_0
         replace p408 := eq_true p408
         replace q408 := eq_true q408
         refine start_ (n := 12) (S := fun w' => w'.cell? ⟨gb403, 5, none⟩ = some (.int .i64 ((rd_T102 t392 x31_1).f1.f1)) ∧ w'.cell? (ad408.add ((rd l2 (1 : Int))).toNat) = some (.int .i64 (rd l1 (rd l2 (1 : Int))))) (ds := []) #[false, false, false, false, false, false, false, false, false, false, false, false] (by kernel_rfl) rfl rfl ⟨bA13 BK403 rfl, ((HB.out.cell (World.block_lt_of_cell? w _ hw408_0)).trans hw408_0)⟩ (fun hHeld => ?_); refine with_tabW impl_solve.tab11 impl_solve.bits11 (fun HT_ HW_ => ?_)
         generalize wr.drew = w51 at HO_9 HO_29 aa ab BK387 BK388 BK398 BK403 HB hx408_0 hHeld ⊢
         refine pZ 0 HT_ ?_
         refine pZ 1 HT_ ?_
         refine pZ 2 HT_ ?_
         refine pZ 3 HT_ ?_
         refine pZ 5 HT_ ?_
         refine pZ 6 HT_ ?_
         refine pZ 7 HT_ ?_
         refine tZ 4 hHeld HT_ HW_ ?_
         refine tZ 8 hHeld HT_ HW_ ?_
         refine oZ 9 HT_ (fun K hK => ?_)
         refine goes_ Try.func104 (by kernel_rfl) rfl #[.int .i64 ((rd_T102 t392 x31_1).f1.f1), .int .i64 (rd l1 (rd l2 (1 : Int)))] (by rfl) rfl rfl z13_2 ?_
         with_reducible refine (impl_element_times.calls ((rd_T102 t392 x31_1).f1.f1) (rd l1 (rd l2 (1 : Int))) t409 _ A49.out).mono ?_
         rintro e w' ⟨rfl, ⟨nd, rfl⟩⟩
         refine ⟨_, rfl, ?_⟩
         refine hK.out _ _ ⟨bA13 BK403 rfl, ((HB.out.cell (World.block_lt_of_cell? w _ hw408_0)).trans hw408_0)⟩ (fun hHeld => ?_)
         clear hK K
         refine nZ ?_
         refine oZ 10 HT_ (fun K hK => ?_)
         refine goes_ Try.func89 (by kernel_rfl) rfl #[.int .i64 x12_2, .int .i64 t409] (by rfl) rfl rfl z13_2 ?_
         with_reducible refine (impl_element_plus.calls x12_2 t409 t410 _ A50.out).mono ?_
         rintro e w' ⟨rfl, ⟨nd, rfl⟩⟩
         refine ⟨_, rfl, ?_⟩
         refine hK.out _ _ ⟨bA13 BK403 rfl, ((HB.out.cell (World.block_lt_of_cell? w _ hw408_0)).trans hw408_0)⟩ (fun hHeld => ?_)
         clear hK K
         refine nZ ?_
         refine pZ 11 HT_ ?_
         refine done_ (done_of HT_.out (by kernel_rfl)) ?_
         try go_wp2
         go_roundg k2
         case measure => have := HK1.out; have := HK2.out; omega
         case rel => exact ⟨(t410), (wrap64 ((1 : Int) + 1)), z13_16, z13_16, H', ⟨z13_32⟩, ⟨z13_14⟩, ⟨z13_23⟩, ⟨z13_7⟩, ⟨z13_6⟩, ⟨zL13 BK387.out⟩, ⟨zL13 BK388.out⟩, ⟨zL13 BK398.out⟩, ⟨zL13 BK403.out⟩, ⟨z13_4⟩⟩
        ·rw [if_neg c46] at H
         clear c46
         by_cases c52 : x37_2 = 2
         ·rw [if_pos c52] at H
          subst c52
          (try have hz_ := eq_true (by have h_ := of_decide_eq_true c39b0; omega : 2 < l2.length))
          replace H : (if 0 ≤ (rd l2 (2 : Int)) then (if (rd l2 (2 : Int)) < (l1.length : Int) then ((impl_element_times.f ((rd_T102 t392 x31_1).f1.f2) (rd l1 (rd l2 (2 : Int)))).bind fun t412 => ((impl_element_plus.f x12_2 t412).bind fun t413 => (impl_solve.l1 k2 l1 l2 x9_1 t413 t392 (t392.length : Int) x31_1 l2 (l2.length : Int) (wrap64 ((2 : Int) + 1)) 0 0 0 0 ((rd_T102 t392 x31_1).f0.f0) ((rd_T102 t392 x31_1).f0.f1) ((rd_T102 t392 x31_1).f0.f2) ((rd_T102 t392 x31_1).f0.f3) ((rd_T102 t392 x31_1).f1.f0) ((rd_T102 t392 x31_1).f1.f1) ((rd_T102 t392 x31_1).f1.f2) ((rd_T102 t392 x31_1).f1.f3) ((rd_T102 t392 x31_1).f1.f4) ((rd_T102 t392 x31_1).f1.f5) ((rd_T102 t392 x31_1).f1.f6) ((rd_T102 t392 x31_1).f1.f7)))) else (none)) else (none)) = some (r1, r2, r3, r4) := H
          obtain ⟨c53, H⟩ := ifP H
          have c53b0 : decide (0 ≤ (rd l2 (2 : Int))) = true := decide_eq_true c53
          clear c53
          obtain ⟨c54, H⟩ := ifP H
          have c54b0 : decide ((rd l2 (2 : Int)) < (l1.length : Int)) = true := decide_eq_true c54
          clear c54
          replace H := Option.bind_eq_some_iff.mp H
          obtain ⟨t412, A550, H⟩ := H
          replace H : ((impl_element_plus.f x12_2 t412).bind fun t413 => (impl_solve.l1 k2 l1 l2 x9_1 t413 t392 (t392.length : Int) x31_1 l2 (l2.length : Int) (wrap64 ((2 : Int) + 1)) 0 0 0 0 ((rd_T102 t392 x31_1).f0.f0) ((rd_T102 t392 x31_1).f0.f1) ((rd_T102 t392 x31_1).f0.f2) ((rd_T102 t392 x31_1).f0.f3) ((rd_T102 t392 x31_1).f1.f0) ((rd_T102 t392 x31_1).f1.f1) ((rd_T102 t392 x31_1).f1.f2) ((rd_T102 t392 x31_1).f1.f3) ((rd_T102 t392 x31_1).f1.f4) ((rd_T102 t392 x31_1).f1.f5) ((rd_T102 t392 x31_1).f1.f6) ((rd_T102 t392 x31_1).f1.f7))) = some (r1, r2, r3, r4) := H
          have A55 := Aside0.mk A550
          clear A550
          replace H := Option.bind_eq_some_iff.mp H
          obtain ⟨t413, A560, H⟩ := H
          replace H : (impl_solve.l1 k2 l1 l2 x9_1 t413 t392 (t392.length : Int) x31_1 l2 (l2.length : Int) (wrap64 ((2 : Int) + 1)) 0 0 0 0 ((rd_T102 t392 x31_1).f0.f0) ((rd_T102 t392 x31_1).f0.f1) ((rd_T102 t392 x31_1).f0.f2) ((rd_T102 t392 x31_1).f0.f3) ((rd_T102 t392 x31_1).f1.f0) ((rd_T102 t392 x31_1).f1.f1) ((rd_T102 t392 x31_1).f1.f2) ((rd_T102 t392 x31_1).f1.f3) ((rd_T102 t392 x31_1).f1.f4) ((rd_T102 t392 x31_1).f1.f5) ((rd_T102 t392 x31_1).f1.f6) ((rd_T102 t392 x31_1).f1.f7)) = some (r1, r2, r3, r4) := H
          have A56 := Aside0.mk A560
          clear A560
          have H' := Aside0.mk H
          clear H
          have p404 : 0 ≤ ((2 : Int) : Int) := of_decide_eq_true z13_3
          have q404 : (2 : Int) < (l2.length : Int) := of_decide_eq_true z13_3
          obtain ⟨ad404, e404, hx404_0⟩ := Kd.at_int HR2.out (2 : Int) p404 q404
          cases e404
          replace hx404_0 := (HB.out.cell (World.block_lt_of_cell? w _ hx404_0)).trans hx404_0
          (try simp only [Int.reduceToNat, Addr.add_zero', Addr.add_succ', Nat.reduceAdd] at hx404_0)
          replace p404 := eq_true p404
          replace q404 := eq_true q404
          try go_wp2
          replace HO_9 := Aside0.mk (Kd.R_drew HO_9.out)
          replace HO_29 := Aside0.mk (Kd.R_drew HO_29.out)
          replace aa := Aside0.mk (Kd.R_drew aa.out)
          replace ab := Aside0.mk (Kd.R_drew ab.out)
          replace BK387 := Aside0.mk (blk_drew BK387.out)
          replace BK388 := Aside0.mk (blk_drew BK388.out)
          replace BK398 := Aside0.mk (blk_drew BK398.out)
          replace BK403 := Aside0.mk (blk_drew BK403.out)
          replace HB := Aside0.mk (below_drew1 HB.out)
          have p411 : 0 ≤ ((rd l2 (2 : Int)) : Int) := of_decide_eq_true z13_3
          have q411 : (rd l2 (2 : Int)) < (l1.length : Int) := of_decide_eq_true z13_3
          obtain ⟨ad411, e411, hx411_0⟩ := Kd.at_int HR1.out (rd l2 (2 : Int)) p411 q411
          have hw411_0 := hx411_0
          cases e411
          replace hx411_0 := (HB.out.cell (World.block_lt_of_cell? w _ hx411_0)).trans hx411_0
          replace p411 := eq_true p411
          replace q411 := eq_true q411
          refine start_ (n := 12) (S := fun w' => w'.cell? ⟨gb403, 6, none⟩ = some (.int .i64 ((rd_T102 t392 x31_1).f1.f2)) ∧ w'.cell? (ad411.add ((rd l2 (2 : Int))).toNat) = some (.int .i64 (rd l1 (rd l2 (2 : Int))))) (ds := []) #[false, false, false, false, false, false, false, false, false, false, false, false] (by kernel_rfl) rfl rfl ⟨bA13 BK403 rfl, ((HB.out.cell (World.block_lt_of_cell? w _ hw411_0)).trans hw411_0)⟩ (fun hHeld => ?_); refine with_tabW impl_solve.tab11 impl_solve.bits11 (fun HT_ HW_ => ?_)
          generalize wr.drew = w57 at HO_9 HO_29 aa ab BK387 BK388 BK398 BK403 HB hx411_0 hHeld ⊢
          refine pZ 0 HT_ ?_
          refine pZ 1 HT_ ?_
          refine pZ 2 HT_ ?_
          refine pZ 3 HT_ ?_
          refine pZ 5 HT_ ?_
          refine pZ 6 HT_ ?_
          refine pZ 7 HT_ ?_
          refine tZ 4 hHeld HT_ HW_ ?_
          refine tZ 8 hHeld HT_ HW_ ?_
          refine oZ 9 HT_ (fun K hK => ?_)
          refine goes_ Try.func104 (by kernel_rfl) rfl #[.int .i64 ((rd_T102 t392 x31_1).f1.f2), .int .i64 (rd l1 (rd l2 (2 : Int)))] (by rfl) rfl rfl z13_2 ?_
          with_reducible refine (impl_element_times.calls ((rd_T102 t392 x31_1).f1.f2) (rd l1 (rd l2 (2 : Int))) t412 _ A55.out).mono ?_
          rintro e w' ⟨rfl, ⟨nd, rfl⟩⟩
          refine ⟨_, rfl, ?_⟩
          refine hK.out _ _ ⟨bA13 BK403 rfl, ((HB.out.cell (World.block_lt_of_cell? w _ hw411_0)).trans hw411_0)⟩ (fun hHeld => ?_)
          clear hK K
          refine nZ ?_
          refine oZ 10 HT_ (fun K hK => ?_)
          refine goes_ Try.func89 (by kernel_rfl) rfl #[.int .i64 x12_2, .int .i64 t412] (by rfl) rfl rfl z13_2 ?_
          with_reducible refine (impl_element_plus.calls x12_2 t412 t413 _ A56.out).mono ?_
          rintro e w' ⟨rfl, ⟨nd, rfl⟩⟩
          refine ⟨_, rfl, ?_⟩
          refine hK.out _ _ ⟨bA13 BK403 rfl, ((HB.out.cell (World.block_lt_of_cell? w _ hw411_0)).trans hw411_0)⟩ (fun hHeld => ?_)
          clear hK K
          refine nZ ?_
          refine pZ 11 HT_ ?_
          refine done_ (done_of HT_.out (by kernel_rfl)) ?_
          try go_wp2
          go_roundg k2
          case measure => have := HK1.out; have := HK2.out; omega
          case rel => exact ⟨(t413), (wrap64 ((2 : Int) + 1)), z13_16, z13_16, H', ⟨z13_32⟩, ⟨z13_14⟩, ⟨z13_23⟩, ⟨z13_7⟩, ⟨z13_6⟩, ⟨zL13 BK387.out⟩, ⟨zL13 BK388.out⟩, ⟨zL13 BK398.out⟩, ⟨zL13 BK403.out⟩, ⟨z13_4⟩⟩
         ·rw [if_neg c52] at H
          clear c52
          by_cases c58 : x37_2 = 3
          ·rw [if_pos c58] at H
           subst c58
           (try have hz_ := eq_true (by have h_ := of_decide_eq_true c39b0; omega : 3 < l2.length))
           replace H : (if 0 ≤ (rd l2 (3 : Int)) then (if (rd l2 (3 : Int)) < (l1.length : Int) then ((impl_element_times.f ((rd_T102 t392 x31_1).f1.f3) (rd l1 (rd l2 (3 : Int)))).bind fun t415 => ((impl_element_plus.f x12_2 t415).bind fun t416 => (impl_solve.l1 k2 l1 l2 x9_1 t416 t392 (t392.length : Int) x31_1 l2 (l2.length : Int) (wrap64 ((3 : Int) + 1)) 0 0 0 0 ((rd_T102 t392 x31_1).f0.f0) ((rd_T102 t392 x31_1).f0.f1) ((rd_T102 t392 x31_1).f0.f2) ((rd_T102 t392 x31_1).f0.f3) ((rd_T102 t392 x31_1).f1.f0) ((rd_T102 t392 x31_1).f1.f1) ((rd_T102 t392 x31_1).f1.f2) ((rd_T102 t392 x31_1).f1.f3) ((rd_T102 t392 x31_1).f1.f4) ((rd_T102 t392 x31_1).f1.f5) ((rd_T102 t392 x31_1).f1.f6) ((rd_T102 t392 x31_1).f1.f7)))) else (none)) else (none)) = some (r1, r2, r3, r4) := H
           obtain ⟨c59, H⟩ := ifP H
           have c59b0 : decide (0 ≤ (rd l2 (3 : Int))) = true := decide_eq_true c59
           clear c59
           obtain ⟨c60, H⟩ := ifP H
           have c60b0 : decide ((rd l2 (3 : Int)) < (l1.length : Int)) = true := decide_eq_true c60
           clear c60
           replace H := Option.bind_eq_some_iff.mp H
           obtain ⟨t415, A610, H⟩ := H
           replace H : ((impl_element_plus.f x12_2 t415).bind fun t416 => (impl_solve.l1 k2 l1 l2 x9_1 t416 t392 (t392.length : Int) x31_1 l2 (l2.length : Int) (wrap64 ((3 : Int) + 1)) 0 0 0 0 ((rd_T102 t392 x31_1).f0.f0) ((rd_T102 t392 x31_1).f0.f1) ((rd_T102 t392 x31_1).f0.f2) ((rd_T102 t392 x31_1).f0.f3) ((rd_T102 t392 x31_1).f1.f0) ((rd_T102 t392 x31_1).f1.f1) ((rd_T102 t392 x31_1).f1.f2) ((rd_T102 t392 x31_1).f1.f3) ((rd_T102 t392 x31_1).f1.f4) ((rd_T102 t392 x31_1).f1.f5) ((rd_T102 t392 x31_1).f1.f6) ((rd_T102 t392 x31_1).f1.f7))) = some (r1, r2, r3, r4) := H
           have A61 := Aside0.mk A610
           clear A610
           replace H := Option.bind_eq_some_iff.mp H
           obtain ⟨t416, A620, H⟩ := H
           replace H : (impl_solve.l1 k2 l1 l2 x9_1 t416 t392 (t392.length : Int) x31_1 l2 (l2.length : Int) (wrap64 ((3 : Int) + 1)) 0 0 0 0 ((rd_T102 t392 x31_1).f0.f0) ((rd_T102 t392 x31_1).f0.f1) ((rd_T102 t392 x31_1).f0.f2) ((rd_T102 t392 x31_1).f0.f3) ((rd_T102 t392 x31_1).f1.f0) ((rd_T102 t392 x31_1).f1.f1) ((rd_T102 t392 x31_1).f1.f2) ((rd_T102 t392 x31_1).f1.f3) ((rd_T102 t392 x31_1).f1.f4) ((rd_T102 t392 x31_1).f1.f5) ((rd_T102 t392 x31_1).f1.f6) ((rd_T102 t392 x31_1).f1.f7)) = some (r1, r2, r3, r4) := H
           have A62 := Aside0.mk A620
           clear A620
           have H' := Aside0.mk H
           clear H
           have p404 : 0 ≤ ((3 : Int) : Int) := of_decide_eq_true z13_3
           have q404 : (3 : Int) < (l2.length : Int) := of_decide_eq_true z13_3
           obtain ⟨ad404, e404, hx404_0⟩ := Kd.at_int HR2.out (3 : Int) p404 q404
           cases e404
           replace hx404_0 := (HB.out.cell (World.block_lt_of_cell? w _ hx404_0)).trans hx404_0
           (try simp only [Int.reduceToNat, Addr.add_zero', Addr.add_succ', Nat.reduceAdd] at hx404_0)
           replace p404 := eq_true p404
           replace q404 := eq_true q404
           try go_wp2
           replace HO_9 := Aside0.mk (Kd.R_drew HO_9.out)
           replace HO_29 := Aside0.mk (Kd.R_drew HO_29.out)
           replace aa := Aside0.mk (Kd.R_drew aa.out)
           replace ab := Aside0.mk (Kd.R_drew ab.out)
           replace BK387 := Aside0.mk (blk_drew BK387.out)
           replace BK388 := Aside0.mk (blk_drew BK388.out)
           replace BK398 := Aside0.mk (blk_drew BK398.out)
           replace BK403 := Aside0.mk (blk_drew BK403.out)
           replace HB := Aside0.mk (below_drew1 HB.out)
           have p414 : 0 ≤ ((rd l2 (3 : Int)) : Int) := of_decide_eq_true z13_3
           have q414 : (rd l2 (3 : Int)) < (l1.length : Int) := of_decide_eq_true z13_3
           obtain ⟨ad414, e414, hx414_0⟩ := Kd.at_int HR1.out (rd l2 (3 : Int)) p414 q414
           have hw414_0 := hx414_0
           cases e414
           replace hx414_0 := (HB.out.cell (World.block_lt_of_cell? w _ hx414_0)).trans hx414_0
           replace p414 := eq_true p414
           replace q414 := eq_true q414
           refine start_ (n := 12) (S := fun w' => w'.cell? ⟨gb403, 7, none⟩ = some (.int .i64 ((rd_T102 t392 x31_1).f1.f3)) ∧ w'.cell? (ad414.add ((rd l2 (3 : Int))).toNat) = some (.int .i64 (rd l1 (rd l2 (3 : Int))))) (ds := []) #[false, false, false, false, false, false, false, false, false, false, false, false] (by kernel_rfl) rfl rfl ⟨bA13 BK403 rfl, ((HB.out.cell (World.block_lt_of_cell? w _ hw414_0)).trans hw414_0)⟩ (fun hHeld => ?_); refine with_tabW impl_solve.tab11 impl_solve.bits11 (fun HT_ HW_ => ?_)
           generalize wr.drew = w63 at HO_9 HO_29 aa ab BK387 BK388 BK398 BK403 HB hx414_0 hHeld ⊢
           refine pZ 0 HT_ ?_
           refine pZ 1 HT_ ?_
           refine pZ 2 HT_ ?_
           refine pZ 3 HT_ ?_
           refine pZ 5 HT_ ?_
           refine pZ 6 HT_ ?_
           refine pZ 7 HT_ ?_
           refine tZ 4 hHeld HT_ HW_ ?_
           refine tZ 8 hHeld HT_ HW_ ?_
           refine oZ 9 HT_ (fun K hK => ?_)
           refine goes_ Try.func104 (by kernel_rfl) rfl #[.int .i64 ((rd_T102 t392 x31_1).f1.f3), .int .i64 (rd l1 (rd l2 (3 : Int)))] (by rfl) rfl rfl z13_2 ?_
           with_reducible refine (impl_element_times.calls ((rd_T102 t392 x31_1).f1.f3) (rd l1 (rd l2 (3 : Int))) t415 _ A61.out).mono ?_
           rintro e w' ⟨rfl, ⟨nd, rfl⟩⟩
           refine ⟨_, rfl, ?_⟩
           refine hK.out _ _ ⟨bA13 BK403 rfl, ((HB.out.cell (World.block_lt_of_cell? w _ hw414_0)).trans hw414_0)⟩ (fun hHeld => ?_)
           clear hK K
           refine nZ ?_
           refine oZ 10 HT_ (fun K hK => ?_)
           refine goes_ Try.func89 (by kernel_rfl) rfl #[.int .i64 x12_2, .int .i64 t415] (by rfl) rfl rfl z13_2 ?_
           with_reducible refine (impl_element_plus.calls x12_2 t415 t416 _ A62.out).mono ?_
           rintro e w' ⟨rfl, ⟨nd, rfl⟩⟩
           refine ⟨_, rfl, ?_⟩
           refine hK.out _ _ ⟨bA13 BK403 rfl, ((HB.out.cell (World.block_lt_of_cell? w _ hw414_0)).trans hw414_0)⟩ (fun hHeld => ?_)
           clear hK K
           refine nZ ?_
           refine pZ 11 HT_ ?_
           refine done_ (done_of HT_.out (by kernel_rfl)) ?_
           try go_wp2
           go_roundg k2
           case measure => have := HK1.out; have := HK2.out; omega
           case rel => exact ⟨(t416), (wrap64 ((3 : Int) + 1)), z13_16, z13_16, H', ⟨z13_32⟩, ⟨z13_14⟩, ⟨z13_23⟩, ⟨z13_7⟩, ⟨z13_6⟩, ⟨zL13 BK387.out⟩, ⟨zL13 BK388.out⟩, ⟨zL13 BK398.out⟩, ⟨zL13 BK403.out⟩, ⟨z13_4⟩⟩
          ·rw [if_neg c58] at H
           clear c58
           by_cases c64 : x37_2 = 4
           ·rw [if_pos c64] at H
            subst c64
            (try have hz_ := eq_true (by have h_ := of_decide_eq_true c39b0; omega : 4 < l2.length))
            replace H : (if 0 ≤ (rd l2 (4 : Int)) then (if (rd l2 (4 : Int)) < (l1.length : Int) then ((impl_element_times.f ((rd_T102 t392 x31_1).f1.f4) (rd l1 (rd l2 (4 : Int)))).bind fun t418 => ((impl_element_plus.f x12_2 t418).bind fun t419 => (impl_solve.l1 k2 l1 l2 x9_1 t419 t392 (t392.length : Int) x31_1 l2 (l2.length : Int) (wrap64 ((4 : Int) + 1)) 0 0 0 0 ((rd_T102 t392 x31_1).f0.f0) ((rd_T102 t392 x31_1).f0.f1) ((rd_T102 t392 x31_1).f0.f2) ((rd_T102 t392 x31_1).f0.f3) ((rd_T102 t392 x31_1).f1.f0) ((rd_T102 t392 x31_1).f1.f1) ((rd_T102 t392 x31_1).f1.f2) ((rd_T102 t392 x31_1).f1.f3) ((rd_T102 t392 x31_1).f1.f4) ((rd_T102 t392 x31_1).f1.f5) ((rd_T102 t392 x31_1).f1.f6) ((rd_T102 t392 x31_1).f1.f7)))) else (none)) else (none)) = some (r1, r2, r3, r4) := H
            obtain ⟨c65, H⟩ := ifP H
            have c65b0 : decide (0 ≤ (rd l2 (4 : Int))) = true := decide_eq_true c65
            clear c65
            obtain ⟨c66, H⟩ := ifP H
            have c66b0 : decide ((rd l2 (4 : Int)) < (l1.length : Int)) = true := decide_eq_true c66
            clear c66
            replace H := Option.bind_eq_some_iff.mp H
            obtain ⟨t418, A670, H⟩ := H
            replace H : ((impl_element_plus.f x12_2 t418).bind fun t419 => (impl_solve.l1 k2 l1 l2 x9_1 t419 t392 (t392.length : Int) x31_1 l2 (l2.length : Int) (wrap64 ((4 : Int) + 1)) 0 0 0 0 ((rd_T102 t392 x31_1).f0.f0) ((rd_T102 t392 x31_1).f0.f1) ((rd_T102 t392 x31_1).f0.f2) ((rd_T102 t392 x31_1).f0.f3) ((rd_T102 t392 x31_1).f1.f0) ((rd_T102 t392 x31_1).f1.f1) ((rd_T102 t392 x31_1).f1.f2) ((rd_T102 t392 x31_1).f1.f3) ((rd_T102 t392 x31_1).f1.f4) ((rd_T102 t392 x31_1).f1.f5) ((rd_T102 t392 x31_1).f1.f6) ((rd_T102 t392 x31_1).f1.f7))) = some (r1, r2, r3, r4) := H
            have A67 := Aside0.mk A670
            clear A670
            replace H := Option.bind_eq_some_iff.mp H
            obtain ⟨t419, A680, H⟩ := H
            replace H : (impl_solve.l1 k2 l1 l2 x9_1 t419 t392 (t392.length : Int) x31_1 l2 (l2.length : Int) (wrap64 ((4 : Int) + 1)) 0 0 0 0 ((rd_T102 t392 x31_1).f0.f0) ((rd_T102 t392 x31_1).f0.f1) ((rd_T102 t392 x31_1).f0.f2) ((rd_T102 t392 x31_1).f0.f3) ((rd_T102 t392 x31_1).f1.f0) ((rd_T102 t392 x31_1).f1.f1) ((rd_T102 t392 x31_1).f1.f2) ((rd_T102 t392 x31_1).f1.f3) ((rd_T102 t392 x31_1).f1.f4) ((rd_T102 t392 x31_1).f1.f5) ((rd_T102 t392 x31_1).f1.f6) ((rd_T102 t392 x31_1).f1.f7)) = some (r1, r2, r3, r4) := H
            have A68 := Aside0.mk A680
            clear A680
            have H' := Aside0.mk H
            clear H
            have p404 : 0 ≤ ((4 : Int) : Int) := of_decide_eq_true z13_3
            have q404 : (4 : Int) < (l2.length : Int) := of_decide_eq_true z13_3
            obtain ⟨ad404, e404, hx404_0⟩ := Kd.at_int HR2.out (4 : Int) p404 q404
            cases e404
            replace hx404_0 := (HB.out.cell (World.block_lt_of_cell? w _ hx404_0)).trans hx404_0
            (try simp only [Int.reduceToNat, Addr.add_zero', Addr.add_succ', Nat.reduceAdd] at hx404_0)
            replace p404 := eq_true p404
            replace q404 := eq_true q404
            try go_wp2
            replace HO_9 := Aside0.mk (Kd.R_drew HO_9.out)
            replace HO_29 := Aside0.mk (Kd.R_drew HO_29.out)
            replace aa := Aside0.mk (Kd.R_drew aa.out)
            replace ab := Aside0.mk (Kd.R_drew ab.out)
            replace BK387 := Aside0.mk (blk_drew BK387.out)
            replace BK388 := Aside0.mk (blk_drew BK388.out)
            replace BK398 := Aside0.mk (blk_drew BK398.out)
            replace BK403 := Aside0.mk (blk_drew BK403.out)
            replace HB := Aside0.mk (below_drew1 HB.out)
            have p417 : 0 ≤ ((rd l2 (4 : Int)) : Int) := of_decide_eq_true z13_3
            have q417 : (rd l2 (4 : Int)) < (l1.length : Int) := of_decide_eq_true z13_3
            obtain ⟨ad417, e417, hx417_0⟩ := Kd.at_int HR1.out (rd l2 (4 : Int)) p417 q417
            have hw417_0 := hx417_0
            cases e417
            replace hx417_0 := (HB.out.cell (World.block_lt_of_cell? w _ hx417_0)).trans hx417_0
            replace p417 := eq_true p417
            replace q417 := eq_true q417
            refine start_ (n := 12) (S := fun w' => w'.cell? ⟨gb403, 8, none⟩ = some (.int .i64 ((rd_T102 t392 x31_1).f1.f4)) ∧ w'.cell? (ad417.add ((rd l2 (4 : Int))).toNat) = some (.int .i64 (rd l1 (rd l2 (4 : Int))))) (ds := []) #[false, false, false, false, false, false, false, false, false, false, false, false] (by kernel_rfl) rfl rfl ⟨bA13 BK403 rfl, ((HB.out.cell (World.block_lt_of_cell? w _ hw417_0)).trans hw417_0)⟩ (fun hHeld => ?_); refine with_tabW impl_solve.tab11 impl_solve.bits11 (fun HT_ HW_ => ?_)
            generalize wr.drew = w69 at HO_9 HO_29 aa ab BK387 BK388 BK398 BK403 HB hx417_0 hHeld ⊢
            refine pZ 0 HT_ ?_
            refine pZ 1 HT_ ?_
            refine pZ 2 HT_ ?_
            refine pZ 3 HT_ ?_
            refine pZ 5 HT_ ?_
            refine pZ 6 HT_ ?_
            refine pZ 7 HT_ ?_
            refine tZ 4 hHeld HT_ HW_ ?_
            refine tZ 8 hHeld HT_ HW_ ?_
            refine oZ 9 HT_ (fun K hK => ?_)
            refine goes_ Try.func104 (by kernel_rfl) rfl #[.int .i64 ((rd_T102 t392 x31_1).f1.f4), .int .i64 (rd l1 (rd l2 (4 : Int)))] (by rfl) rfl rfl z13_2 ?_
            with_reducible refine (impl_element_times.calls ((rd_T102 t392 x31_1).f1.f4) (rd l1 (rd l2 (4 : Int))) t418 _ A67.out).mono ?_
            rintro e w' ⟨rfl, ⟨nd, rfl⟩⟩
            refine ⟨_, rfl, ?_⟩
            refine hK.out _ _ ⟨bA13 BK403 rfl, ((HB.out.cell (World.block_lt_of_cell? w _ hw417_0)).trans hw417_0)⟩ (fun hHeld => ?_)
            clear hK K
            refine nZ ?_
            refine oZ 10 HT_ (fun K hK => ?_)
            refine goes_ Try.func89 (by kernel_rfl) rfl #[.int .i64 x12_2, .int .i64 t418] (by rfl) rfl rfl z13_2 ?_
            with_reducible refine (impl_element_plus.calls x12_2 t418 t419 _ A68.out).mono ?_
            rintro e w' ⟨rfl, ⟨nd, rfl⟩⟩
            refine ⟨_, rfl, ?_⟩
            refine hK.out _ _ ⟨bA13 BK403 rfl, ((HB.out.cell (World.block_lt_of_cell? w _ hw417_0)).trans hw417_0)⟩ (fun hHeld => ?_)
            clear hK K
            refine nZ ?_
            refine pZ 11 HT_ ?_
            refine done_ (done_of HT_.out (by kernel_rfl)) ?_
            try go_wp2
            go_roundg k2
            case measure => have := HK1.out; have := HK2.out; omega
            case rel => exact ⟨(t419), (wrap64 ((4 : Int) + 1)), z13_16, z13_16, H', ⟨z13_32⟩, ⟨z13_14⟩, ⟨z13_23⟩, ⟨z13_7⟩, ⟨z13_6⟩, ⟨zL13 BK387.out⟩, ⟨zL13 BK388.out⟩, ⟨zL13 BK398.out⟩, ⟨zL13 BK403.out⟩, ⟨z13_4⟩⟩
           ·rw [if_neg c64] at H
            clear c64
            by_cases c70 : x37_2 = 5
            ·rw [if_pos c70] at H
             subst c70
             (try have hz_ := eq_true (by have h_ := of_decide_eq_true c39b0; omega : 5 < l2.length))
             replace H : (if 0 ≤ (rd l2 (5 : Int)) then (if (rd l2 (5 : Int)) < (l1.length : Int) then ((impl_element_times.f ((rd_T102 t392 x31_1).f1.f5) (rd l1 (rd l2 (5 : Int)))).bind fun t421 => ((impl_element_plus.f x12_2 t421).bind fun t422 => (impl_solve.l1 k2 l1 l2 x9_1 t422 t392 (t392.length : Int) x31_1 l2 (l2.length : Int) (wrap64 ((5 : Int) + 1)) 0 0 0 0 ((rd_T102 t392 x31_1).f0.f0) ((rd_T102 t392 x31_1).f0.f1) ((rd_T102 t392 x31_1).f0.f2) ((rd_T102 t392 x31_1).f0.f3) ((rd_T102 t392 x31_1).f1.f0) ((rd_T102 t392 x31_1).f1.f1) ((rd_T102 t392 x31_1).f1.f2) ((rd_T102 t392 x31_1).f1.f3) ((rd_T102 t392 x31_1).f1.f4) ((rd_T102 t392 x31_1).f1.f5) ((rd_T102 t392 x31_1).f1.f6) ((rd_T102 t392 x31_1).f1.f7)))) else (none)) else (none)) = some (r1, r2, r3, r4) := H
             obtain ⟨c71, H⟩ := ifP H
             have c71b0 : decide (0 ≤ (rd l2 (5 : Int))) = true := decide_eq_true c71
             clear c71
             obtain ⟨c72, H⟩ := ifP H
             have c72b0 : decide ((rd l2 (5 : Int)) < (l1.length : Int)) = true := decide_eq_true c72
             clear c72
             replace H := Option.bind_eq_some_iff.mp H
             obtain ⟨t421, A730, H⟩ := H
             replace H : ((impl_element_plus.f x12_2 t421).bind fun t422 => (impl_solve.l1 k2 l1 l2 x9_1 t422 t392 (t392.length : Int) x31_1 l2 (l2.length : Int) (wrap64 ((5 : Int) + 1)) 0 0 0 0 ((rd_T102 t392 x31_1).f0.f0) ((rd_T102 t392 x31_1).f0.f1) ((rd_T102 t392 x31_1).f0.f2) ((rd_T102 t392 x31_1).f0.f3) ((rd_T102 t392 x31_1).f1.f0) ((rd_T102 t392 x31_1).f1.f1) ((rd_T102 t392 x31_1).f1.f2) ((rd_T102 t392 x31_1).f1.f3) ((rd_T102 t392 x31_1).f1.f4) ((rd_T102 t392 x31_1).f1.f5) ((rd_T102 t392 x31_1).f1.f6) ((rd_T102 t392 x31_1).f1.f7))) = some (r1, r2, r3, r4) := H
             have A73 := Aside0.mk A730
             clear A730
             replace H := Option.bind_eq_some_iff.mp H
             obtain ⟨t422, A740, H⟩ := H
             replace H : (impl_solve.l1 k2 l1 l2 x9_1 t422 t392 (t392.length : Int) x31_1 l2 (l2.length : Int) (wrap64 ((5 : Int) + 1)) 0 0 0 0 ((rd_T102 t392 x31_1).f0.f0) ((rd_T102 t392 x31_1).f0.f1) ((rd_T102 t392 x31_1).f0.f2) ((rd_T102 t392 x31_1).f0.f3) ((rd_T102 t392 x31_1).f1.f0) ((rd_T102 t392 x31_1).f1.f1) ((rd_T102 t392 x31_1).f1.f2) ((rd_T102 t392 x31_1).f1.f3) ((rd_T102 t392 x31_1).f1.f4) ((rd_T102 t392 x31_1).f1.f5) ((rd_T102 t392 x31_1).f1.f6) ((rd_T102 t392 x31_1).f1.f7)) = some (r1, r2, r3, r4) := H
             have A74 := Aside0.mk A740
             clear A740
             have H' := Aside0.mk H
             clear H
             have p404 : 0 ≤ ((5 : Int) : Int) := of_decide_eq_true z13_3
             have q404 : (5 : Int) < (l2.length : Int) := of_decide_eq_true z13_3
             obtain ⟨ad404, e404, hx404_0⟩ := Kd.at_int HR2.out (5 : Int) p404 q404
             cases e404
             replace hx404_0 := (HB.out.cell (World.block_lt_of_cell? w _ hx404_0)).trans hx404_0
             (try simp only [Int.reduceToNat, Addr.add_zero', Addr.add_succ', Nat.reduceAdd] at hx404_0)
             replace p404 := eq_true p404
             replace q404 := eq_true q404
             try go_wp2
             replace HO_9 := Aside0.mk (Kd.R_drew HO_9.out)
             replace HO_29 := Aside0.mk (Kd.R_drew HO_29.out)
             replace aa := Aside0.mk (Kd.R_drew aa.out)
             replace ab := Aside0.mk (Kd.R_drew ab.out)
             replace BK387 := Aside0.mk (blk_drew BK387.out)
             replace BK388 := Aside0.mk (blk_drew BK388.out)
             replace BK398 := Aside0.mk (blk_drew BK398.out)
             replace BK403 := Aside0.mk (blk_drew BK403.out)
             replace HB := Aside0.mk (below_drew1 HB.out)
             have p420 : 0 ≤ ((rd l2 (5 : Int)) : Int) := of_decide_eq_true z13_3
             have q420 : (rd l2 (5 : Int)) < (l1.length : Int) := of_decide_eq_true z13_3
             obtain ⟨ad420, e420, hx420_0⟩ := Kd.at_int HR1.out (rd l2 (5 : Int)) p420 q420
             have hw420_0 := hx420_0
             cases e420
             replace hx420_0 := (HB.out.cell (World.block_lt_of_cell? w _ hx420_0)).trans hx420_0
             replace p420 := eq_true p420
             replace q420 := eq_true q420
             refine start_ (n := 12) (S := fun w' => w'.cell? ⟨gb403, 9, none⟩ = some (.int .i64 ((rd_T102 t392 x31_1).f1.f5)) ∧ w'.cell? (ad420.add ((rd l2 (5 : Int))).toNat) = some (.int .i64 (rd l1 (rd l2 (5 : Int))))) (ds := []) #[false, false, false, false, false, false, false, false, false, false, false, false] (by kernel_rfl) rfl rfl ⟨bA13 BK403 rfl, ((HB.out.cell (World.block_lt_of_cell? w _ hw420_0)).trans hw420_0)⟩ (fun hHeld => ?_); refine with_tabW impl_solve.tab11 impl_solve.bits11 (fun HT_ HW_ => ?_)
             generalize wr.drew = w75 at HO_9 HO_29 aa ab BK387 BK388 BK398 BK403 HB hx420_0 hHeld ⊢
             refine pZ 0 HT_ ?_
             refine pZ 1 HT_ ?_
             refine pZ 2 HT_ ?_
             refine pZ 3 HT_ ?_
             refine pZ 5 HT_ ?_
             refine pZ 6 HT_ ?_
             refine pZ 7 HT_ ?_
             refine tZ 4 hHeld HT_ HW_ ?_
             refine tZ 8 hHeld HT_ HW_ ?_
             refine oZ 9 HT_ (fun K hK => ?_)
             refine goes_ Try.func104 (by kernel_rfl) rfl #[.int .i64 ((rd_T102 t392 x31_1).f1.f5), .int .i64 (rd l1 (rd l2 (5 : Int)))] (by rfl) rfl rfl z13_2 ?_
             with_reducible refine (impl_element_times.calls ((rd_T102 t392 x31_1).f1.f5) (rd l1 (rd l2 (5 : Int))) t421 _ A73.out).mono ?_
             rintro e w' ⟨rfl, ⟨nd, rfl⟩⟩
             refine ⟨_, rfl, ?_⟩
             refine hK.out _ _ ⟨bA13 BK403 rfl, ((HB.out.cell (World.block_lt_of_cell? w _ hw420_0)).trans hw420_0)⟩ (fun hHeld => ?_)
             clear hK K
             refine nZ ?_
             refine oZ 10 HT_ (fun K hK => ?_)
             refine goes_ Try.func89 (by kernel_rfl) rfl #[.int .i64 x12_2, .int .i64 t421] (by rfl) rfl rfl z13_2 ?_
             with_reducible refine (impl_element_plus.calls x12_2 t421 t422 _ A74.out).mono ?_
             rintro e w' ⟨rfl, ⟨nd, rfl⟩⟩
             refine ⟨_, rfl, ?_⟩
             refine hK.out _ _ ⟨bA13 BK403 rfl, ((HB.out.cell (World.block_lt_of_cell? w _ hw420_0)).trans hw420_0)⟩ (fun hHeld => ?_)
             clear hK K
             refine nZ ?_
             refine pZ 11 HT_ ?_
             refine done_ (done_of HT_.out (by kernel_rfl)) ?_
             try go_wp2
             go_roundg k2
             case measure => have := HK1.out; have := HK2.out; omega
             case rel => exact ⟨(t422), (wrap64 ((5 : Int) + 1)), z13_16, z13_16, H', ⟨z13_32⟩, ⟨z13_14⟩, ⟨z13_23⟩, ⟨z13_7⟩, ⟨z13_6⟩, ⟨zL13 BK387.out⟩, ⟨zL13 BK388.out⟩, ⟨zL13 BK398.out⟩, ⟨zL13 BK403.out⟩, ⟨z13_4⟩⟩
            ·rw [if_neg c70] at H
             clear c70
             by_cases c76 : x37_2 = 6
             ·rw [if_pos c76] at H
              subst c76
              (try have hz_ := eq_true (by have h_ := of_decide_eq_true c39b0; omega : 6 < l2.length))
              replace H : (if 0 ≤ (rd l2 (6 : Int)) then (if (rd l2 (6 : Int)) < (l1.length : Int) then ((impl_element_times.f ((rd_T102 t392 x31_1).f1.f6) (rd l1 (rd l2 (6 : Int)))).bind fun t424 => ((impl_element_plus.f x12_2 t424).bind fun t425 => (impl_solve.l1 k2 l1 l2 x9_1 t425 t392 (t392.length : Int) x31_1 l2 (l2.length : Int) (wrap64 ((6 : Int) + 1)) 0 0 0 0 ((rd_T102 t392 x31_1).f0.f0) ((rd_T102 t392 x31_1).f0.f1) ((rd_T102 t392 x31_1).f0.f2) ((rd_T102 t392 x31_1).f0.f3) ((rd_T102 t392 x31_1).f1.f0) ((rd_T102 t392 x31_1).f1.f1) ((rd_T102 t392 x31_1).f1.f2) ((rd_T102 t392 x31_1).f1.f3) ((rd_T102 t392 x31_1).f1.f4) ((rd_T102 t392 x31_1).f1.f5) ((rd_T102 t392 x31_1).f1.f6) ((rd_T102 t392 x31_1).f1.f7)))) else (none)) else (none)) = some (r1, r2, r3, r4) := H
              obtain ⟨c77, H⟩ := ifP H
              have c77b0 : decide (0 ≤ (rd l2 (6 : Int))) = true := decide_eq_true c77
              clear c77
              obtain ⟨c78, H⟩ := ifP H
              have c78b0 : decide ((rd l2 (6 : Int)) < (l1.length : Int)) = true := decide_eq_true c78
              clear c78
              replace H := Option.bind_eq_some_iff.mp H
              obtain ⟨t424, A790, H⟩ := H
              replace H : ((impl_element_plus.f x12_2 t424).bind fun t425 => (impl_solve.l1 k2 l1 l2 x9_1 t425 t392 (t392.length : Int) x31_1 l2 (l2.length : Int) (wrap64 ((6 : Int) + 1)) 0 0 0 0 ((rd_T102 t392 x31_1).f0.f0) ((rd_T102 t392 x31_1).f0.f1) ((rd_T102 t392 x31_1).f0.f2) ((rd_T102 t392 x31_1).f0.f3) ((rd_T102 t392 x31_1).f1.f0) ((rd_T102 t392 x31_1).f1.f1) ((rd_T102 t392 x31_1).f1.f2) ((rd_T102 t392 x31_1).f1.f3) ((rd_T102 t392 x31_1).f1.f4) ((rd_T102 t392 x31_1).f1.f5) ((rd_T102 t392 x31_1).f1.f6) ((rd_T102 t392 x31_1).f1.f7))) = some (r1, r2, r3, r4) := H
              have A79 := Aside0.mk A790
              clear A790
              replace H := Option.bind_eq_some_iff.mp H
              obtain ⟨t425, A800, H⟩ := H
              replace H : (impl_solve.l1 k2 l1 l2 x9_1 t425 t392 (t392.length : Int) x31_1 l2 (l2.length : Int) (wrap64 ((6 : Int) + 1)) 0 0 0 0 ((rd_T102 t392 x31_1).f0.f0) ((rd_T102 t392 x31_1).f0.f1) ((rd_T102 t392 x31_1).f0.f2) ((rd_T102 t392 x31_1).f0.f3) ((rd_T102 t392 x31_1).f1.f0) ((rd_T102 t392 x31_1).f1.f1) ((rd_T102 t392 x31_1).f1.f2) ((rd_T102 t392 x31_1).f1.f3) ((rd_T102 t392 x31_1).f1.f4) ((rd_T102 t392 x31_1).f1.f5) ((rd_T102 t392 x31_1).f1.f6) ((rd_T102 t392 x31_1).f1.f7)) = some (r1, r2, r3, r4) := H
              have A80 := Aside0.mk A800
              clear A800
              have H' := Aside0.mk H
              clear H
              have p404 : 0 ≤ ((6 : Int) : Int) := of_decide_eq_true z13_3
              have q404 : (6 : Int) < (l2.length : Int) := of_decide_eq_true z13_3
              obtain ⟨ad404, e404, hx404_0⟩ := Kd.at_int HR2.out (6 : Int) p404 q404
              cases e404
              replace hx404_0 := (HB.out.cell (World.block_lt_of_cell? w _ hx404_0)).trans hx404_0
              (try simp only [Int.reduceToNat, Addr.add_zero', Addr.add_succ', Nat.reduceAdd] at hx404_0)
              replace p404 := eq_true p404
              replace q404 := eq_true q404
              try go_wp2
              replace HO_9 := Aside0.mk (Kd.R_drew HO_9.out)
              replace HO_29 := Aside0.mk (Kd.R_drew HO_29.out)
              replace aa := Aside0.mk (Kd.R_drew aa.out)
              replace ab := Aside0.mk (Kd.R_drew ab.out)
              replace BK387 := Aside0.mk (blk_drew BK387.out)
              replace BK388 := Aside0.mk (blk_drew BK388.out)
              replace BK398 := Aside0.mk (blk_drew BK398.out)
              replace BK403 := Aside0.mk (blk_drew BK403.out)
              replace HB := Aside0.mk (below_drew1 HB.out)
              have p423 : 0 ≤ ((rd l2 (6 : Int)) : Int) := of_decide_eq_true z13_3
              have q423 : (rd l2 (6 : Int)) < (l1.length : Int) := of_decide_eq_true z13_3
              obtain ⟨ad423, e423, hx423_0⟩ := Kd.at_int HR1.out (rd l2 (6 : Int)) p423 q423
              have hw423_0 := hx423_0
              cases e423
              replace hx423_0 := (HB.out.cell (World.block_lt_of_cell? w _ hx423_0)).trans hx423_0
              replace p423 := eq_true p423
              replace q423 := eq_true q423
              refine start_ (n := 12) (S := fun w' => w'.cell? ⟨gb403, 10, none⟩ = some (.int .i64 ((rd_T102 t392 x31_1).f1.f6)) ∧ w'.cell? (ad423.add ((rd l2 (6 : Int))).toNat) = some (.int .i64 (rd l1 (rd l2 (6 : Int))))) (ds := []) #[false, false, false, false, false, false, false, false, false, false, false, false] (by kernel_rfl) rfl rfl ⟨bA13 BK403 rfl, ((HB.out.cell (World.block_lt_of_cell? w _ hw423_0)).trans hw423_0)⟩ (fun hHeld => ?_); refine with_tabW impl_solve.tab11 impl_solve.bits11 (fun HT_ HW_ => ?_)
              generalize wr.drew = w81 at HO_9 HO_29 aa ab BK387 BK388 BK398 BK403 HB hx423_0 hHeld ⊢
              refine pZ 0 HT_ ?_
              refine pZ 1 HT_ ?_
              refine pZ 2 HT_ ?_
              refine pZ 3 HT_ ?_
              refine pZ 5 HT_ ?_
              refine pZ 6 HT_ ?_
              refine pZ 7 HT_ ?_
              refine tZ 4 hHeld HT_ HW_ ?_
              refine tZ 8 hHeld HT_ HW_ ?_
              refine oZ 9 HT_ (fun K hK => ?_)
              refine goes_ Try.func104 (by kernel_rfl) rfl #[.int .i64 ((rd_T102 t392 x31_1).f1.f6), .int .i64 (rd l1 (rd l2 (6 : Int)))] (by rfl) rfl rfl z13_2 ?_
              with_reducible refine (impl_element_times.calls ((rd_T102 t392 x31_1).f1.f6) (rd l1 (rd l2 (6 : Int))) t424 _ A79.out).mono ?_
              rintro e w' ⟨rfl, ⟨nd, rfl⟩⟩
              refine ⟨_, rfl, ?_⟩
              refine hK.out _ _ ⟨bA13 BK403 rfl, ((HB.out.cell (World.block_lt_of_cell? w _ hw423_0)).trans hw423_0)⟩ (fun hHeld => ?_)
              clear hK K
              refine nZ ?_
              refine oZ 10 HT_ (fun K hK => ?_)
              refine goes_ Try.func89 (by kernel_rfl) rfl #[.int .i64 x12_2, .int .i64 t424] (by rfl) rfl rfl z13_2 ?_
              with_reducible refine (impl_element_plus.calls x12_2 t424 t425 _ A80.out).mono ?_
              rintro e w' ⟨rfl, ⟨nd, rfl⟩⟩
              refine ⟨_, rfl, ?_⟩
              refine hK.out _ _ ⟨bA13 BK403 rfl, ((HB.out.cell (World.block_lt_of_cell? w _ hw423_0)).trans hw423_0)⟩ (fun hHeld => ?_)
              clear hK K
              refine nZ ?_
              refine pZ 11 HT_ ?_
              refine done_ (done_of HT_.out (by kernel_rfl)) ?_
              try go_wp2
              go_roundg k2
              case measure => have := HK1.out; have := HK2.out; omega
              case rel => exact ⟨(t425), (wrap64 ((6 : Int) + 1)), z13_16, z13_16, H', ⟨z13_32⟩, ⟨z13_14⟩, ⟨z13_23⟩, ⟨z13_7⟩, ⟨z13_6⟩, ⟨zL13 BK387.out⟩, ⟨zL13 BK388.out⟩, ⟨zL13 BK398.out⟩, ⟨zL13 BK403.out⟩, ⟨z13_4⟩⟩
             ·rw [if_neg c76] at H
              clear c76
              obtain ⟨c82, H⟩ := ifP H
              subst c82
              (try have hz_ := eq_true (by have h_ := of_decide_eq_true c39b0; omega : 7 < l2.length))
              replace H : (if 0 ≤ (rd l2 (7 : Int)) then (if (rd l2 (7 : Int)) < (l1.length : Int) then ((impl_element_times.f ((rd_T102 t392 x31_1).f1.f7) (rd l1 (rd l2 (7 : Int)))).bind fun t427 => ((impl_element_plus.f x12_2 t427).bind fun t428 => (impl_solve.l1 k2 l1 l2 x9_1 t428 t392 (t392.length : Int) x31_1 l2 (l2.length : Int) (wrap64 ((7 : Int) + 1)) 0 0 0 0 ((rd_T102 t392 x31_1).f0.f0) ((rd_T102 t392 x31_1).f0.f1) ((rd_T102 t392 x31_1).f0.f2) ((rd_T102 t392 x31_1).f0.f3) ((rd_T102 t392 x31_1).f1.f0) ((rd_T102 t392 x31_1).f1.f1) ((rd_T102 t392 x31_1).f1.f2) ((rd_T102 t392 x31_1).f1.f3) ((rd_T102 t392 x31_1).f1.f4) ((rd_T102 t392 x31_1).f1.f5) ((rd_T102 t392 x31_1).f1.f6) ((rd_T102 t392 x31_1).f1.f7)))) else (none)) else (none)) = some (r1, r2, r3, r4) := H
              obtain ⟨c83, H⟩ := ifP H
              have c83b0 : decide (0 ≤ (rd l2 (7 : Int))) = true := decide_eq_true c83
              clear c83
              obtain ⟨c84, H⟩ := ifP H
              have c84b0 : decide ((rd l2 (7 : Int)) < (l1.length : Int)) = true := decide_eq_true c84
              clear c84
              replace H := Option.bind_eq_some_iff.mp H
              obtain ⟨t427, A850, H⟩ := H
              replace H : ((impl_element_plus.f x12_2 t427).bind fun t428 => (impl_solve.l1 k2 l1 l2 x9_1 t428 t392 (t392.length : Int) x31_1 l2 (l2.length : Int) (wrap64 ((7 : Int) + 1)) 0 0 0 0 ((rd_T102 t392 x31_1).f0.f0) ((rd_T102 t392 x31_1).f0.f1) ((rd_T102 t392 x31_1).f0.f2) ((rd_T102 t392 x31_1).f0.f3) ((rd_T102 t392 x31_1).f1.f0) ((rd_T102 t392 x31_1).f1.f1) ((rd_T102 t392 x31_1).f1.f2) ((rd_T102 t392 x31_1).f1.f3) ((rd_T102 t392 x31_1).f1.f4) ((rd_T102 t392 x31_1).f1.f5) ((rd_T102 t392 x31_1).f1.f6) ((rd_T102 t392 x31_1).f1.f7))) = some (r1, r2, r3, r4) := H
              have A85 := Aside0.mk A850
              clear A850
              replace H := Option.bind_eq_some_iff.mp H
              obtain ⟨t428, A860, H⟩ := H
              replace H : (impl_solve.l1 k2 l1 l2 x9_1 t428 t392 (t392.length : Int) x31_1 l2 (l2.length : Int) (wrap64 ((7 : Int) + 1)) 0 0 0 0 ((rd_T102 t392 x31_1).f0.f0) ((rd_T102 t392 x31_1).f0.f1) ((rd_T102 t392 x31_1).f0.f2) ((rd_T102 t392 x31_1).f0.f3) ((rd_T102 t392 x31_1).f1.f0) ((rd_T102 t392 x31_1).f1.f1) ((rd_T102 t392 x31_1).f1.f2) ((rd_T102 t392 x31_1).f1.f3) ((rd_T102 t392 x31_1).f1.f4) ((rd_T102 t392 x31_1).f1.f5) ((rd_T102 t392 x31_1).f1.f6) ((rd_T102 t392 x31_1).f1.f7)) = some (r1, r2, r3, r4) := H
              have A86 := Aside0.mk A860
              clear A860
              have H' := Aside0.mk H
              clear H
              have p404 : 0 ≤ ((7 : Int) : Int) := of_decide_eq_true z13_3
              have q404 : (7 : Int) < (l2.length : Int) := of_decide_eq_true z13_3
              obtain ⟨ad404, e404, hx404_0⟩ := Kd.at_int HR2.out (7 : Int) p404 q404
              cases e404
              replace hx404_0 := (HB.out.cell (World.block_lt_of_cell? w _ hx404_0)).trans hx404_0
              (try simp only [Int.reduceToNat, Addr.add_zero', Addr.add_succ', Nat.reduceAdd] at hx404_0)
              replace p404 := eq_true p404
              replace q404 := eq_true q404
              try go_wp2
              replace HO_9 := Aside0.mk (Kd.R_drew HO_9.out)
              replace HO_29 := Aside0.mk (Kd.R_drew HO_29.out)
              replace aa := Aside0.mk (Kd.R_drew aa.out)
              replace ab := Aside0.mk (Kd.R_drew ab.out)
              replace BK387 := Aside0.mk (blk_drew BK387.out)
              replace BK388 := Aside0.mk (blk_drew BK388.out)
              replace BK398 := Aside0.mk (blk_drew BK398.out)
              replace BK403 := Aside0.mk (blk_drew BK403.out)
              replace HB := Aside0.mk (below_drew1 HB.out)
              have p426 : 0 ≤ ((rd l2 (7 : Int)) : Int) := of_decide_eq_true z13_3
              have q426 : (rd l2 (7 : Int)) < (l1.length : Int) := of_decide_eq_true z13_3
              obtain ⟨ad426, e426, hx426_0⟩ := Kd.at_int HR1.out (rd l2 (7 : Int)) p426 q426
              have hw426_0 := hx426_0
              cases e426
              replace hx426_0 := (HB.out.cell (World.block_lt_of_cell? w _ hx426_0)).trans hx426_0
              replace p426 := eq_true p426
              replace q426 := eq_true q426
              refine start_ (n := 12) (S := fun w' => w'.cell? ⟨gb403, 11, none⟩ = some (.int .i64 ((rd_T102 t392 x31_1).f1.f7)) ∧ w'.cell? (ad426.add ((rd l2 (7 : Int))).toNat) = some (.int .i64 (rd l1 (rd l2 (7 : Int))))) (ds := []) #[false, false, false, false, false, false, false, false, false, false, false, false] (by kernel_rfl) rfl rfl ⟨bA13 BK403 rfl, ((HB.out.cell (World.block_lt_of_cell? w _ hw426_0)).trans hw426_0)⟩ (fun hHeld => ?_); refine with_tabW impl_solve.tab11 impl_solve.bits11 (fun HT_ HW_ => ?_)
              generalize wr.drew = w87 at HO_9 HO_29 aa ab BK387 BK388 BK398 BK403 HB hx426_0 hHeld ⊢
              refine pZ 0 HT_ ?_
              refine pZ 1 HT_ ?_
              refine pZ 2 HT_ ?_
              refine pZ 3 HT_ ?_
              refine pZ 5 HT_ ?_
              refine pZ 6 HT_ ?_
              refine pZ 7 HT_ ?_
              refine tZ 4 hHeld HT_ HW_ ?_
              refine tZ 8 hHeld HT_ HW_ ?_
              refine oZ 9 HT_ (fun K hK => ?_)
              refine goes_ Try.func104 (by kernel_rfl) rfl #[.int .i64 ((rd_T102 t392 x31_1).f1.f7), .int .i64 (rd l1 (rd l2 (7 : Int)))] (by rfl) rfl rfl z13_2 ?_
              with_reducible refine (impl_element_times.calls ((rd_T102 t392 x31_1).f1.f7) (rd l1 (rd l2 (7 : Int))) t427 _ A85.out).mono ?_
              rintro e w' ⟨rfl, ⟨nd, rfl⟩⟩
              refine ⟨_, rfl, ?_⟩
              refine hK.out _ _ ⟨bA13 BK403 rfl, ((HB.out.cell (World.block_lt_of_cell? w _ hw426_0)).trans hw426_0)⟩ (fun hHeld => ?_)
              clear hK K
              refine nZ ?_
              refine oZ 10 HT_ (fun K hK => ?_)
              refine goes_ Try.func89 (by kernel_rfl) rfl #[.int .i64 x12_2, .int .i64 t427] (by rfl) rfl rfl z13_2 ?_
              with_reducible refine (impl_element_plus.calls x12_2 t427 t428 _ A86.out).mono ?_
              rintro e w' ⟨rfl, ⟨nd, rfl⟩⟩
              refine ⟨_, rfl, ?_⟩
              refine hK.out _ _ ⟨bA13 BK403 rfl, ((HB.out.cell (World.block_lt_of_cell? w _ hw426_0)).trans hw426_0)⟩ (fun hHeld => ?_)
              clear hK K
              refine nZ ?_
              refine pZ 11 HT_ ?_
              refine done_ (done_of HT_.out (by kernel_rfl)) ?_
              try go_wp2
              go_roundg k2
              case measure => have := HK1.out; have := HK2.out; omega
              case rel => exact ⟨(t428), (wrap64 ((7 : Int) + 1)), z13_16, z13_16, H', ⟨z13_32⟩, ⟨z13_14⟩, ⟨z13_23⟩, ⟨z13_7⟩, ⟨z13_6⟩, ⟨zL13 BK387.out⟩, ⟨zL13 BK388.out⟩, ⟨zL13 BK398.out⟩, ⟨zL13 BK403.out⟩, ⟨z13_4⟩⟩
      ·rw [if_neg c37] at H
       have c37b0 : decide (x37_2 < (l2.length : Int)) = false := decide_eq_false c37
       clear c37
       obtain ⟨c88, H⟩ := ifP H
       have LMc88 := Aside0.mk c88
       clear c88
       obtain ⟨y429, hy429⟩ : ∃ y_ : List (S131), y_ = (x9_1 ++ [(⟨(⟨((rd_T102 t392 x31_1).f0.f0), ((rd_T102 t392 x31_1).f0.f1), ((rd_T102 t392 x31_1).f0.f2), ((rd_T102 t392 x31_1).f0.f3)⟩ : S70), x12_2⟩ : S131)]) := ⟨_, rfl⟩
       replace H : (impl_solve.l0 k2 l1 l2 y429 t392 (t392.length : Int) (wrap64 (x31_1 + 1)) 0 0 0 0) = some (r1, r2, r3, r4) := by first | (rw [hy429]; with_reducible exact H) | (have H2_ := (Option.bind_some _ _).symm.trans H; rw [hy429]; with_reducible exact H2_) | (have H2_ := (Option.bind_some _ _).symm.trans H; with_reducible exact H2_) | with_reducible exact H | (rw [hy429]; exact H) | exact H
       have Ny429 := Aside0.mk hy429
       clear hy429
       have H' := Aside0.mk H
       clear H
       have hnb89 := aH.out
       have hnc89 := ah.out
       have hnb90 := aI.out
       have hnc90 := ai.out
       have hnb91 := aJ.out
       have hnc91 := aj.out
       have aw : wr.cell? ⟨gb403, 0, none⟩ = some (.int .i64 ((rd_T102 t392 x31_1).f0.f0)) := bA13 BK403 rfl
       have ax : wr.cell? ⟨gb403, 1, none⟩ = some (.int .i64 ((rd_T102 t392 x31_1).f0.f1)) := bA13 BK403 rfl
       have ay : wr.cell? ⟨gb403, 2, none⟩ = some (.int .i64 ((rd_T102 t392 x31_1).f0.f2)) := bA13 BK403 rfl
       have az : wr.cell? ⟨gb403, 3, none⟩ = some (.int .i64 ((rd_T102 t392 x31_1).f0.f3)) := bA13 BK403 rfl
       have aA := blk_frozen BK403.out 0
       have aC := blk_frozen BK403.out 1
       have aD := blk_frozen BK403.out 2
       have aE := blk_frozen BK403.out 3
       go_wp2_with (first | ((with_reducible refine gate_builtin (b := .append) (xs := #[.tmp 54, .tmp 59]) rfl ?_); at_builtin; refine Kd.R_append k131 (w0 := w) w.heap.size rfl (.tmp 54) (.tmp 59) 129 131 (.agg #[(.int .i64 0), (.int .i64 0), (.int .i64 0), (.int .i64 0), (.int .i64 0)]) 40 rfl Try.underlying129 info131 rfl (by decide) (by omega) u9 x9_1 (⟨(⟨((rd_T102 t392 x31_1).f0.f0), ((rd_T102 t392 x31_1).f0.f1), ((rd_T102 t392 x31_1).f0.f2), ((rd_T102 t392 x31_1).f0.f3)⟩ : S70), x12_2⟩ : S131) [.int .i64 ((rd_T102 t392 x31_1).f0.f0), .int .i64 ((rd_T102 t392 x31_1).f0.f1), .int .i64 ((rd_T102 t392 x31_1).f0.f2), .int .i64 ((rd_T102 t392 x31_1).f0.f3), .int .i64 x12_2] (fun _ => True) (fun _ => False) rfl rfl ?aP (fun _ hk => hk.elim) ?aF ?aO ?aB ?aS ?aL ?_; (case aP => exact k131_mkM _ _ _ (⟨(⟨((rd_T102 t392 x31_1).f0.f0), ((rd_T102 t392 x31_1).f0.f1), ((rd_T102 t392 x31_1).f0.f2), ((rd_T102 t392 x31_1).f0.f3)⟩ : S70), x12_2⟩ : S131)); (case aB => exact z13_4); (case aF => exact (fun _ _ => trivial)); (case aO => exact z13_14); (case aS => exact (below_size z13_4)); (case aL => have := LMc88.out; omega); intro v430 w93 ho hb hg hat; rw [← Ny429.out] at ho; have n0_ := Aside0.mk (Kd.R_over' z13_23 (Kd.R_typed z13_14) (by decide) hg); have n1_ := Aside0.mk (Kd.R_over' z13_7 (Kd.R_typed z13_14) (by decide) hg); have n2_ := Aside0.mk (Kd.R_over' z13_6 (Kd.R_typed z13_14) (by decide) hg); have n3_ := Aside0.mk (blk_grown (g := gb387) (o := .cells #[.int .i64 0, .int .i64 0, .int .i64 0, .int .i64 0] 70 (0, 0)) (zL13 BK387.out) hg (Kd.R_ne HO_9.out BK387.out (by decide))); have n4_ := Aside0.mk (blk_grown (g := gb388) (o := .cells #[.int .i64 0, .int .i64 0, .int .i64 0, .int .i64 0] 70 (0, 0)) (zL13 BK388.out) hg (Kd.R_ne HO_9.out BK388.out (by decide))); have n5_ := Aside0.mk (blk_grown (g := gb398) (o := .cells #[.slice (some ad402) t392.length co16, v396] 81 (0, 0)) (zL13 BK398.out) hg (Kd.R_ne HO_9.out BK398.out (by decide))); have n6_ := Aside0.mk (blk_grown (g := gb403) (o := .cells #[.int .i64 ((rd_T102 t392 x31_1).f0.f0), .int .i64 ((rd_T102 t392 x31_1).f0.f1), .int .i64 ((rd_T102 t392 x31_1).f0.f2), .int .i64 ((rd_T102 t392 x31_1).f0.f3), .int .i64 ((rd_T102 t392 x31_1).f1.f0), .int .i64 ((rd_T102 t392 x31_1).f1.f1), .int .i64 ((rd_T102 t392 x31_1).f1.f2), .int .i64 ((rd_T102 t392 x31_1).f1.f3), .int .i64 ((rd_T102 t392 x31_1).f1.f4), .int .i64 ((rd_T102 t392 x31_1).f1.f5), .int .i64 ((rd_T102 t392 x31_1).f1.f6), .int .i64 ((rd_T102 t392 x31_1).f1.f7)] 102 (0, 0)) (zL13 BK403.out) hg (Kd.R_ne HO_9.out BK403.out (by decide))); have n7_ := Aside0.mk (hb); have n8_ := Aside0.mk (ho); clear HO_29; clear aa; clear ab; clear BK387; clear BK388; clear BK398; clear BK403; clear HB; clear HO_9; have HO_29 := n0_; have aa := n1_; have ab := n2_; have BK387 := n3_; have BK388 := n4_; have BK398 := n5_; have BK403 := n6_; have HB := n7_; have HO431 := n8_; clear n0_ n1_ n2_ n3_ n4_ n5_ n6_ n7_ n8_; clear ho hb hg hat))
       go_roundg k2
       case measure => have := HK1.out; have := HK2.out; omega
       case rel => exact ⟨(y429), (wrap64 (x31_1 + 1)), z13_24, H', ⟨z13_32⟩, ⟨by (with_reducible repeat (first | apply Kd.R_alloc | apply Kd.R_drewN | apply Kd.R_drew)); exact HO431.out⟩, ⟨by (with_reducible repeat (first | apply Kd.R_alloc | apply Kd.R_drewN | apply Kd.R_drew)); exact Kd.R_mono HO_29.out (fun _ hk => trivial)⟩, ⟨by (with_reducible repeat (first | apply Kd.R_alloc | apply Kd.R_drewN | apply Kd.R_drew)); exact Kd.R_mono aa.out (fun _ hk => trivial)⟩, ⟨z13_6⟩, ⟨zL13 BK387.out⟩, ⟨zL13 BK388.out⟩, ⟨zL13 BK398.out⟩, ⟨z13_4⟩⟩
   ·rw [if_neg c17] at H
    have c17b0 : decide (x31_1 < (t392.length : Int)) = false := decide_eq_false c17
    clear c17
    have H' := Aside0.mk H
    clear H
    obtain ⟨Ao94, co94, eo94⟩ := Kd.R_slice HO_9.out
    subst eo94
    go_wp2
    go_loopg [64] k1 (fun kq v64 w' => ∃ (x9_2 : List (S131)) (x64_2 : Int), v64 = .int .i64 x64_2 ∧ Aside0 (impl_solve.l2 kq x9_2 (x9_1.length : Int) x64_2 0 0 0 0 = some (r1, r2, r3, r4)) ∧ Aside0 (kq ≤ k1) ∧ Aside0 (Kd.R k131 131 w' w.heap.size (fun _ => True) (.slice Ao94 x9_1.length co94) x9_2) ∧ Aside0 (Kd.R k102 102 w' w.heap.size (fun _ => True) (.slice Ao16 t392.length co16) t392) ∧ Aside0 (Kd.R (Kd.int .i64) 3 w' w.heap.size (fun _ => True) v396 t395) ∧ Aside0 (w'.heap[gb387]? = some (.cells #[.int .i64 0, .int .i64 0, .int .i64 0, .int .i64 0] 70 (0, 0))) ∧ Aside0 (w'.heap[gb388]? = some (.cells #[.int .i64 0, .int .i64 0, .int .i64 0, .int .i64 0] 70 (0, 0))) ∧ Aside0 (w'.heap[gb398]? = some (.cells #[(.slice Ao16 t392.length co16), v396] 81 (0, 0))) ∧ Aside0 (Below w.heap.size w w'))
    case atStart => exact ⟨(x9_1), (0), z13_24, H', ⟨Nat.le_refl _⟩, ⟨z13_14⟩, ⟨z13_7⟩, ⟨z13_6⟩, ⟨zL13 BK387.out⟩, ⟨zL13 BK388.out⟩, ⟨zL13 BK398.out⟩, ⟨z13_1⟩⟩
    case round =>
     clear H'
     try clear c1
     try clear c17
     try clear c17b0
     obtain ⟨x9_2, x64_2, rfl, HA, HK2, HO_9, aa, ab, BK387, BK388, BK398, HB⟩ := hrel
     have hl9_2 := (Kd.R_reads' HO_9.out).1
     rw [hl9_2] at HO_9
     (try simp only [hl9_2])
     (try simp only [hl9_2] at BK387)
     (try simp only [hl9_2] at BK388)
     (try simp only [hl9_2] at BK398)
     (try simp only [hl9_2] at aa)
     (try simp only [hl9_2] at ab)
     cases gk with
     | zero => exact absurd HA.out (by simp [impl_solve.l2])
     | succ k2 =>
      have H := HA.out
      clear HA
      simp only [impl_solve.l2] at H
      by_cases c95 : x64_2 < (x9_1.length : Int)
      ·rw [if_pos c95] at H
       have c95b0 : decide (x64_2 < (x9_1.length : Int)) = true := decide_eq_true c95
       have c95b0' := c95b0; (try simp only [hl9_2] at c95b0'); (try simp only [hl9_3] at c95b0')
       clear c95
       obtain ⟨c96, H⟩ := ifP H
       have c96b0 : decide (0 ≤ x64_2) = true := decide_eq_true c96
       clear c96
       obtain ⟨c97, H⟩ := ifP H
       have c97b0 : decide (x64_2 < (x9_2.length : Int)) = true := decide_eq_true c97
       have c97b0' := c97b0; (try simp only [hl9_2] at c97b0'); (try simp only [hl9_3] at c97b0')
       clear c97
       replace H := Option.bind_eq_some_iff.mp H
       obtain ⟨t433, A980, H⟩ := H
       replace H : (impl_solve.l3 k2 x9_2 x64_2 t433 (x9_1.length : Int) x64_2 (x9_2.length : Int) 0 0 0 0 0) = some (r1, r2, r3, r4) := H
       have A98 := Aside0.mk A980
       clear A980
       have H' := Aside0.mk H
       clear H
       have p432 : 0 ≤ (x64_2 : Int) := of_decide_eq_true z13_3
       have q432 : x64_2 < (x9_2.length : Int) := of_decide_eq_true z13_3
       obtain ⟨ad432, e432, hx432_0, hx432_1, hx432_2, hx432_3, hx432_4⟩ := at_T131 (Kd.R_reads' HO_9.out).2.2 x64_2 p432 q432
       cases e432
       replace p432 := eq_true p432
       replace q432 := eq_true q432
       go_wp2_with (first | ((with_reducible refine gate_callee (f := 60) rfl ?_); refine goesL_ (some 72) rfl rfl Try.func60 (by kernel_rfl) rfl #[.agg #[.int .i64 ((rd_T131 x9_2 x64_2).f0.f0), .int .i64 ((rd_T131 x9_2 x64_2).f0.f1), .int .i64 ((rd_T131 x9_2 x64_2).f0.f2), .int .i64 ((rd_T131 x9_2 x64_2).f0.f3)]] rfl z13_2 ?_; (with_reducible refine (impl_vector_lead.calls ((rd_T131 x9_2 x64_2).f0.f0) ((rd_T131 x9_2 x64_2).f0.f1) ((rd_T131 x9_2 x64_2).f0.f2) ((rd_T131 x9_2 x64_2).f0.f3) t433 _ A98.out).mono ?_); rintro e w99 ⟨rfl, hb⟩; refine ⟨_, rfl, ?_⟩; replace HO_9 := Aside0.mk (Kd.R_below z13_14 hb); replace aa := Aside0.mk (Kd.R_below z13_7 hb); replace ab := Aside0.mk (Kd.R_below z13_6 hb); replace BK387 := Aside0.mk (blk_below (g := gb387) (o := .cells #[.int .i64 0, .int .i64 0, .int .i64 0, .int .i64 0] 70 (0, 0)) (zL13 BK387.out) hb); replace BK388 := Aside0.mk (blk_below (g := gb388) (o := .cells #[.int .i64 0, .int .i64 0, .int .i64 0, .int .i64 0] 70 (0, 0)) (zL13 BK388.out) hb); replace BK398 := Aside0.mk (blk_below (g := gb398) (o := .cells #[.slice Ao16 t392.length co16, v396] 81 (0, 0)) (zL13 BK398.out) hb); replace HB := Aside0.mk (below_step z13_1 hb); (try clear hb)))
       go_loopg [75] k2 (fun kq v75 w' => ∃ (x9_3 : List (S131)) (x75_3 : Int), v75 = .int .i64 x75_3 ∧ Aside0 (impl_solve.l3 kq x9_3 x64_2 t433 (x9_1.length : Int) x64_2 (x9_2.length : Int) x75_3 0 0 0 0 = some (r1, r2, r3, r4)) ∧ Aside0 (kq ≤ k2) ∧ Aside0 (Kd.R k131 131 w' w.heap.size (fun _ => True) (.slice (some ad432) x9_2.length co94) x9_3) ∧ Aside0 (Kd.R k102 102 w' w.heap.size (fun _ => True) (.slice Ao16 t392.length co16) t392) ∧ Aside0 (Kd.R (Kd.int .i64) 3 w' w.heap.size (fun _ => True) v396 t395) ∧ Aside0 (w'.heap[gb387]? = some (.cells #[.int .i64 0, .int .i64 0, .int .i64 0, .int .i64 0] 70 (0, 0))) ∧ Aside0 (w'.heap[gb388]? = some (.cells #[.int .i64 0, .int .i64 0, .int .i64 0, .int .i64 0] 70 (0, 0))) ∧ Aside0 (w'.heap[gb398]? = some (.cells #[(.slice Ao16 t392.length co16), v396] 81 (0, 0))) ∧ Aside0 (Below w.heap.size w w'))
       case atStart => exact ⟨(x9_2), (0), z13_24, H', ⟨Nat.le_refl _⟩, ⟨z13_42⟩, ⟨z13_40⟩, ⟨z13_41⟩, ⟨z13_37⟩, ⟨z13_38⟩, ⟨z13_39⟩, ⟨z13_1⟩⟩
       case round =>
        clear H'
        try clear c1
        try clear c17
        try clear c17b0
        try clear c95
        try clear c95b0
        try clear c96
        try clear c96b0
        try clear c97
        try clear c97b0
        try clear hx432_0 hx432_1 hx432_2 hx432_3 hx432_4
        try clear p432
        try clear q432
        obtain ⟨x9_3, x75_3, rfl, HA, HK3, HO_9, aa, ab, BK387, BK388, BK398, HB⟩ := hrel
        have hl9_3 := (Kd.R_reads' HO_9.out).1
        rw [hl9_3] at HO_9
        (try simp only [hl9_3])
        (try simp only [hl9_3] at BK387)
        (try simp only [hl9_3] at BK388)
        (try simp only [hl9_3] at BK398)
        (try simp only [hl9_3] at aa)
        (try simp only [hl9_3] at ab)
        cases gk with
        | zero => exact absurd HA.out (by simp [impl_solve.l3])
        | succ k3 =>
         have H := HA.out
         clear HA
         simp only [impl_solve.l3] at H
         by_cases c100 : x75_3 < (x9_2.length : Int)
         ·rw [if_pos c100] at H
          have c100b0 : decide (x75_3 < (x9_2.length : Int)) = true := decide_eq_true c100
          have c100b0' := c100b0; (try simp only [hl9_2] at c100b0'); (try simp only [hl9_3] at c100b0')
          clear c100
          have HC101 := Aside0.mk H
          clear H
          go_upto_region 22 with (fail)
          go_cut [18] (fun v18 wc => ∃ (kq : Nat) (x18_100 : Int), v18 = .int .i64 x18_100 ∧ Aside0 (impl_solve.j4 kq x9_3 x64_2 t433 x75_3 x18_100 (x9_1.length : Int) x64_2 (x9_2.length : Int) x75_3 0 0 0 0 = some (r1, r2, r3, r4)) ∧ Aside0 (kq ≤ k3) ∧ Aside0 (Kd.R k131 131 wc w.heap.size (fun _ => True) (.slice (some ad432) x9_3.length co94) x9_3) ∧ Aside0 (Kd.R k102 102 wc w.heap.size (fun _ => True) (.slice Ao16 t392.length co16) t392) ∧ Aside0 (Kd.R (Kd.int .i64) 3 wc w.heap.size (fun _ => True) v396 t395) ∧ Aside0 (wc.heap[gb387]? = some (.cells #[.int .i64 0, .int .i64 0, .int .i64 0, .int .i64 0] 70 (0, 0))) ∧ Aside0 (wc.heap[gb388]? = some (.cells #[.int .i64 0, .int .i64 0, .int .i64 0, .int .i64 0] 70 (0, 0))) ∧ Aside0 (wc.heap[gb398]? = some (.cells #[(.slice Ao16 t392.length co16), v396] 81 (0, 0))) ∧ Aside0 (Below w.heap.size w wc))
          case first =>
           have H := HC101.out
           clear HC101
           obtain ⟨c102, H⟩ := ifP H
           have c102b0 : decide (0 ≤ x75_3) = true := decide_eq_true c102
           clear c102
           (first | rw [c102b0] | (simp only [i64_w, i32_w]; rw [c102b0]) | skip)
           obtain ⟨c103, H⟩ := ifP H
           have c103b0 : decide (x75_3 < (x9_3.length : Int)) = true := decide_eq_true c103
           clear c103
           by_cases c104 : t433 = 0
           ·rw [if_pos c104] at H
            subst c104
            replace H : (impl_solve.j4 k3 x9_3 x64_2 (0 : Int) x75_3 ((rd_T131 x9_3 x75_3).f0.f0) (x9_1.length : Int) x64_2 (x9_2.length : Int) x75_3 0 0 0 0) = some (r1, r2, r3, r4) := H
            have H' := Aside0.mk H
            clear H
            have p434 : 0 ≤ (x75_3 : Int) := of_decide_eq_true z13_3
            have q434 : x75_3 < (x9_3.length : Int) := of_decide_eq_true z13_3
            obtain ⟨ad434, e434, hx434_0, hx434_1, hx434_2, hx434_3, hx434_4⟩ := at_T131 (Kd.R_reads' HO_9.out).2.2 x75_3 p434 q434
            obtain rfl : ad432 = ad434 := (by injection e434)
            replace p434 := eq_true p434
            replace q434 := eq_true q434
            go_wp2
            go_meet
            case rel => exact ⟨_, ((rd_T131 x9_3 x75_3).f0.f0), z13_24, H', ⟨z13_34⟩, ⟨z13_22⟩, ⟨z13_20⟩, ⟨z13_21⟩, ⟨z13_17⟩, ⟨z13_18⟩, ⟨z13_19⟩, ⟨z13_1⟩⟩
           ·rw [if_neg c104] at H
            clear c104
            by_cases c105 : t433 = 1
            ·rw [if_pos c105] at H
             subst c105
             replace H : (impl_solve.j4 k3 x9_3 x64_2 (1 : Int) x75_3 ((rd_T131 x9_3 x75_3).f0.f1) (x9_1.length : Int) x64_2 (x9_2.length : Int) x75_3 0 0 0 0) = some (r1, r2, r3, r4) := H
             have H' := Aside0.mk H
             clear H
             have p434 : 0 ≤ (x75_3 : Int) := of_decide_eq_true z13_3
             have q434 : x75_3 < (x9_3.length : Int) := of_decide_eq_true z13_3
             obtain ⟨ad434, e434, hx434_0, hx434_1, hx434_2, hx434_3, hx434_4⟩ := at_T131 (Kd.R_reads' HO_9.out).2.2 x75_3 p434 q434
             obtain rfl : ad432 = ad434 := (by injection e434)
             replace p434 := eq_true p434
             replace q434 := eq_true q434
             go_wp2
             go_meet
             case rel => exact ⟨_, ((rd_T131 x9_3 x75_3).f0.f1), z13_24, H', ⟨z13_34⟩, ⟨z13_22⟩, ⟨z13_20⟩, ⟨z13_21⟩, ⟨z13_17⟩, ⟨z13_18⟩, ⟨z13_19⟩, ⟨z13_1⟩⟩
            ·rw [if_neg c105] at H
             clear c105
             by_cases c106 : t433 = 2
             ·rw [if_pos c106] at H
              subst c106
              replace H : (impl_solve.j4 k3 x9_3 x64_2 (2 : Int) x75_3 ((rd_T131 x9_3 x75_3).f0.f2) (x9_1.length : Int) x64_2 (x9_2.length : Int) x75_3 0 0 0 0) = some (r1, r2, r3, r4) := H
              have H' := Aside0.mk H
              clear H
              have p434 : 0 ≤ (x75_3 : Int) := of_decide_eq_true z13_3
              have q434 : x75_3 < (x9_3.length : Int) := of_decide_eq_true z13_3
              obtain ⟨ad434, e434, hx434_0, hx434_1, hx434_2, hx434_3, hx434_4⟩ := at_T131 (Kd.R_reads' HO_9.out).2.2 x75_3 p434 q434
              obtain rfl : ad432 = ad434 := (by injection e434)
              replace p434 := eq_true p434
              replace q434 := eq_true q434
              go_wp2
              go_meet
              case rel => exact ⟨_, ((rd_T131 x9_3 x75_3).f0.f2), z13_24, H', ⟨z13_34⟩, ⟨z13_22⟩, ⟨z13_20⟩, ⟨z13_21⟩, ⟨z13_17⟩, ⟨z13_18⟩, ⟨z13_19⟩, ⟨z13_1⟩⟩
             ·rw [if_neg c106] at H
              clear c106
              obtain ⟨c107, H⟩ := ifP H
              subst c107
              replace H : (impl_solve.j4 k3 x9_3 x64_2 (3 : Int) x75_3 ((rd_T131 x9_3 x75_3).f0.f3) (x9_1.length : Int) x64_2 (x9_2.length : Int) x75_3 0 0 0 0) = some (r1, r2, r3, r4) := H
              have H' := Aside0.mk H
              clear H
              have p434 : 0 ≤ (x75_3 : Int) := of_decide_eq_true z13_3
              have q434 : x75_3 < (x9_3.length : Int) := of_decide_eq_true z13_3
              obtain ⟨ad434, e434, hx434_0, hx434_1, hx434_2, hx434_3, hx434_4⟩ := at_T131 (Kd.R_reads' HO_9.out).2.2 x75_3 p434 q434
              obtain rfl : ad432 = ad434 := (by injection e434)
              replace p434 := eq_true p434
              replace q434 := eq_true q434
              go_wp2
              go_meet
              case rel => exact ⟨_, ((rd_T131 x9_3 x75_3).f0.f3), z13_24, H', ⟨z13_34⟩, ⟨z13_22⟩, ⟨z13_20⟩, ⟨z13_21⟩, ⟨z13_17⟩, ⟨z13_18⟩, ⟨z13_19⟩, ⟨z13_1⟩⟩
          case rest =>
           clear HC101
           try clear c1
           try clear c17
           try clear c17b0
           try clear c95
           try clear c95b0
           try clear c96
           try clear c96b0
           try clear c97
           try clear c97b0
           try clear c100
           try clear c100b0
           try clear hx432_0 hx432_1 hx432_2 hx432_3 hx432_4
           try clear p432
           try clear q432
           obtain ⟨kq, x18_100, rfl, HA, HJ100, HO_9, aa, ab, BK387, BK388, BK398, HB⟩ := hcut
           cases kq with
           | zero => exact absurd HA.out (by simp [impl_solve.j4])
           | succ kj100 =>
            have H := HA.out
            clear HA
            simp only [impl_solve.j4] at H
            have HC108 := Aside0.mk H
            clear H
            go_upto_region 23 with (fail)
            go_cut [91] (fun v91 wc => ∃ (kq : Nat) (x91_107 : Bool), v91 = .bool x91_107 ∧ Aside0 (impl_solve.j5 kq x9_3 x64_2 t433 x75_3 x18_100 (x9_1.length : Int) x64_2 (x9_2.length : Int) x75_3 x91_107 0 0 0 0 = some (r1, r2, r3, r4)) ∧ Aside0 (kq ≤ kj100) ∧ Aside0 (Kd.R k131 131 wc w.heap.size (fun _ => True) (.slice (some ad432) x9_3.length co94) x9_3) ∧ Aside0 (Kd.R k102 102 wc w.heap.size (fun _ => True) (.slice Ao16 t392.length co16) t392) ∧ Aside0 (Kd.R (Kd.int .i64) 3 wc w.heap.size (fun _ => True) v396 t395) ∧ Aside0 (wc.heap[gb387]? = some (.cells #[.int .i64 0, .int .i64 0, .int .i64 0, .int .i64 0] 70 (0, 0))) ∧ Aside0 (wc.heap[gb388]? = some (.cells #[.int .i64 0, .int .i64 0, .int .i64 0, .int .i64 0] 70 (0, 0))) ∧ Aside0 (wc.heap[gb398]? = some (.cells #[(.slice Ao16 t392.length co16), v396] 81 (0, 0))) ∧ Aside0 (Below w.heap.size w wc))
            case first =>
             have H := HC108.out
             clear HC108
             by_cases c109 : x75_3 = x64_2
             ·rw [if_pos c109] at H
              have c109b0 : (x75_3 == x64_2) = true := beq_iff_eq.mpr c109
              have c109b1 : (x75_3 != x64_2) = false := bne_eq_false_iff_eq.mpr c109
              clear c109
              (first | rw [c109b0] | (simp only [i64_w, i32_w]; rw [c109b0]) | skip)
              have H' := Aside0.mk H
              clear H
              go_wp2
              go_meet
              case rel => exact ⟨_, (false), z13_24, H', ⟨by have := HK1.out; have := HK2.out; have := HK3.out; have := HJ100.out; first | omega | exact Nat.le_refl _⟩, ⟨z13_22⟩, ⟨z13_20⟩, ⟨z13_21⟩, ⟨z13_17⟩, ⟨z13_18⟩, ⟨z13_19⟩, ⟨z13_1⟩⟩
             ·rw [if_neg c109] at H
              have c109b0 : (x75_3 == x64_2) = false := beq_eq_false_iff_ne.mpr c109
              have c109b1 : (x75_3 != x64_2) = true := bne_iff_ne.mpr c109
              (first | rw [c109b0] | (simp only [i64_w, i32_w]; rw [c109b0]) | skip)
              have H' := Aside0.mk H
              clear H
              go_wp2
              go_meet
              case rel => exact ⟨_, ((x18_100 != 0)), z13_24, H', ⟨by have := HK1.out; have := HK2.out; have := HK3.out; have := HJ100.out; first | omega | exact Nat.le_refl _⟩, ⟨z13_22⟩, ⟨z13_20⟩, ⟨z13_21⟩, ⟨z13_17⟩, ⟨z13_18⟩, ⟨z13_19⟩, ⟨z13_1⟩⟩
            case rest =>
             clear HC108
             try clear c1
             try clear c17
             try clear c17b0
             try clear c95
             try clear c95b0
             try clear c96
             try clear c96b0
             try clear c97
             try clear c97b0
             try clear c100
             try clear c100b0
             try clear hx432_0 hx432_1 hx432_2 hx432_3 hx432_4
             try clear p432
             try clear q432
             obtain ⟨kq, x91_107, rfl, HA, HJ107, HO_9, aa, ab, BK387, BK388, BK398, HB⟩ := hcut
             cases kq with
             | zero => exact absurd HA.out (by simp [impl_solve.j5])
             | succ kj107 =>
              have H := HA.out
              clear HA
              simp only [impl_solve.j5] at H
              by_cases c110 : x91_107 = true
              ·subst c110
               have H1 : (if 0 ≤ x75_3 then (if x75_3 < (x9_3.length : Int) then (if 0 ≤ x64_2 then (if x64_2 < (x9_3.length : Int) then ((impl_vector_times.f ((rd_T131 x9_3 x64_2).f0.f0) ((rd_T131 x9_3 x64_2).f0.f1) ((rd_T131 x9_3 x64_2).f0.f2) ((rd_T131 x9_3 x64_2).f0.f3) x18_100).bind fun bt437 => ((impl_vector_minus.f ((rd_T131 x9_3 x75_3).f0.f0) ((rd_T131 x9_3 x75_3).f0.f1) ((rd_T131 x9_3 x75_3).f0.f2) ((rd_T131 x9_3 x75_3).f0.f3) bt437.1 bt437.2.1 bt437.2.2.1 bt437.2.2.2).bind fun bt441 => ((some (x9_3.set (x75_3 : Int).toNat (⟨(⟨bt441.1, bt441.2.1, bt441.2.2.1, bt441.2.2.2⟩ : S70), (rd_T131 x9_3 x75_3).f1⟩ : S131) : List (S131))).bind fun y445 => ((impl_element_times.f ((rd_T131 y445 x64_2).f1) x18_100).bind fun t448 => ((impl_element_minus.f ((rd_T131 y445 x75_3).f1) t448).bind fun t449 => (impl_solve.l3 kj107 (y445.set (x75_3 : Int).toNat (⟨(⟨(rd_T131 y445 x75_3).f0.f0, (rd_T131 y445 x75_3).f0.f1, (rd_T131 y445 x75_3).f0.f2, (rd_T131 y445 x75_3).f0.f3⟩ : S70), t449⟩ : S131)) x64_2 t433 (x9_1.length : Int) x64_2 (x9_2.length : Int) (wrap64 (x75_3 + 1)) 0 0 0 0)))))) else (none)) else (none)) else (none)) else (none)) = some (r1, r2, r3, r4) := by rw [if_pos rfl] at H; exact H
               clear H
               have H := H1
               clear H1
               obtain ⟨c111, H⟩ := ifP H
               have c111b0 : decide (0 ≤ x75_3) = true := decide_eq_true c111
               clear c111
               obtain ⟨c112, H⟩ := ifP H
               have c112b0 : decide (x75_3 < (x9_3.length : Int)) = true := decide_eq_true c112
               clear c112
               obtain ⟨c113, H⟩ := ifP H
               have c113b0 : decide (0 ≤ x64_2) = true := decide_eq_true c113
               clear c113
               obtain ⟨c114, H⟩ := ifP H
               have c114b0 : decide (x64_2 < (x9_3.length : Int)) = true := decide_eq_true c114
               clear c114
               replace H := Option.bind_eq_some_iff.mp H
               obtain ⟨⟨t437, t438, t439, t440⟩, A1150, H⟩ := H
               replace H : ((impl_vector_minus.f ((rd_T131 x9_3 x75_3).f0.f0) ((rd_T131 x9_3 x75_3).f0.f1) ((rd_T131 x9_3 x75_3).f0.f2) ((rd_T131 x9_3 x75_3).f0.f3) t437 t438 t439 t440).bind fun bt441 => ((some (x9_3.set (x75_3 : Int).toNat (⟨(⟨bt441.1, bt441.2.1, bt441.2.2.1, bt441.2.2.2⟩ : S70), (rd_T131 x9_3 x75_3).f1⟩ : S131) : List (S131))).bind fun y445 => ((impl_element_times.f ((rd_T131 y445 x64_2).f1) x18_100).bind fun t448 => ((impl_element_minus.f ((rd_T131 y445 x75_3).f1) t448).bind fun t449 => (impl_solve.l3 kj107 (y445.set (x75_3 : Int).toNat (⟨(⟨(rd_T131 y445 x75_3).f0.f0, (rd_T131 y445 x75_3).f0.f1, (rd_T131 y445 x75_3).f0.f2, (rd_T131 y445 x75_3).f0.f3⟩ : S70), t449⟩ : S131)) x64_2 t433 (x9_1.length : Int) x64_2 (x9_2.length : Int) (wrap64 (x75_3 + 1)) 0 0 0 0))))) = some (r1, r2, r3, r4) := H
               have A115 := Aside0.mk A1150
               clear A1150
               replace H := Option.bind_eq_some_iff.mp H
               obtain ⟨⟨t441, t442, t443, t444⟩, A1160, H⟩ := H
               replace H : ((some (x9_3.set (x75_3 : Int).toNat (⟨(⟨t441, t442, t443, t444⟩ : S70), (rd_T131 x9_3 x75_3).f1⟩ : S131) : List (S131))).bind fun y445 => ((impl_element_times.f ((rd_T131 y445 x64_2).f1) x18_100).bind fun t448 => ((impl_element_minus.f ((rd_T131 y445 x75_3).f1) t448).bind fun t449 => (impl_solve.l3 kj107 (y445.set (x75_3 : Int).toNat (⟨(⟨(rd_T131 y445 x75_3).f0.f0, (rd_T131 y445 x75_3).f0.f1, (rd_T131 y445 x75_3).f0.f2, (rd_T131 y445 x75_3).f0.f3⟩ : S70), t449⟩ : S131)) x64_2 t433 (x9_1.length : Int) x64_2 (x9_2.length : Int) (wrap64 (x75_3 + 1)) 0 0 0 0)))) = some (r1, r2, r3, r4) := H
               have A116 := Aside0.mk A1160
               clear A1160
               obtain ⟨y445, hy445⟩ : ∃ y_ : List (S131), y_ = (x9_3.set (x75_3 : Int).toNat (⟨(⟨t441, t442, t443, t444⟩ : S70), (rd_T131 x9_3 x75_3).f1⟩ : S131)) := ⟨_, rfl⟩
               replace H : ((impl_element_times.f ((rd_T131 y445 x64_2).f1) x18_100).bind fun t448 => ((impl_element_minus.f ((rd_T131 y445 x75_3).f1) t448).bind fun t449 => (impl_solve.l3 kj107 (y445.set (x75_3 : Int).toNat (⟨(⟨(rd_T131 y445 x75_3).f0.f0, (rd_T131 y445 x75_3).f0.f1, (rd_T131 y445 x75_3).f0.f2, (rd_T131 y445 x75_3).f0.f3⟩ : S70), t449⟩ : S131)) x64_2 t433 (x9_1.length : Int) x64_2 (x9_2.length : Int) (wrap64 (x75_3 + 1)) 0 0 0 0))) = some (r1, r2, r3, r4) := by first | (rw [hy445]; with_reducible exact H) | (have H2_ := (Option.bind_some _ _).symm.trans H; rw [hy445]; with_reducible exact H2_) | (have H2_ := (Option.bind_some _ _).symm.trans H; with_reducible exact H2_) | with_reducible exact H | (rw [hy445]; exact H) | exact H
               have Ny445 := Aside0.mk hy445
               clear hy445
               replace H := Option.bind_eq_some_iff.mp H
               obtain ⟨t448, A1180, H⟩ := H
               replace H : ((impl_element_minus.f ((rd_T131 y445 x75_3).f1) t448).bind fun t449 => (impl_solve.l3 kj107 (y445.set (x75_3 : Int).toNat (⟨(⟨(rd_T131 y445 x75_3).f0.f0, (rd_T131 y445 x75_3).f0.f1, (rd_T131 y445 x75_3).f0.f2, (rd_T131 y445 x75_3).f0.f3⟩ : S70), t449⟩ : S131)) x64_2 t433 (x9_1.length : Int) x64_2 (x9_2.length : Int) (wrap64 (x75_3 + 1)) 0 0 0 0)) = some (r1, r2, r3, r4) := H
               have A118 := Aside0.mk A1180
               clear A1180
               replace H := Option.bind_eq_some_iff.mp H
               obtain ⟨t449, A1190, H⟩ := H
               replace H : (impl_solve.l3 kj107 (y445.set (x75_3 : Int).toNat (⟨(⟨(rd_T131 y445 x75_3).f0.f0, (rd_T131 y445 x75_3).f0.f1, (rd_T131 y445 x75_3).f0.f2, (rd_T131 y445 x75_3).f0.f3⟩ : S70), t449⟩ : S131)) x64_2 t433 (x9_1.length : Int) x64_2 (x9_2.length : Int) (wrap64 (x75_3 + 1)) 0 0 0 0) = some (r1, r2, r3, r4) := H
               have A119 := Aside0.mk A1190
               clear A1190
               obtain ⟨y450, hy450⟩ : ∃ y_ : List (S131), y_ = (y445.set (x75_3 : Int).toNat (⟨(⟨(rd_T131 y445 x75_3).f0.f0, (rd_T131 y445 x75_3).f0.f1, (rd_T131 y445 x75_3).f0.f2, (rd_T131 y445 x75_3).f0.f3⟩ : S70), t449⟩ : S131)) := ⟨_, rfl⟩
               replace H : (impl_solve.l3 kj107 y450 x64_2 t433 (x9_1.length : Int) x64_2 (x9_2.length : Int) (wrap64 (x75_3 + 1)) 0 0 0 0) = some (r1, r2, r3, r4) := by first | (rw [hy450]; with_reducible exact H) | (have H2_ := (Option.bind_some _ _).symm.trans H; rw [hy450]; with_reducible exact H2_) | (have H2_ := (Option.bind_some _ _).symm.trans H; with_reducible exact H2_) | with_reducible exact H | (rw [hy450]; exact H) | exact H
               have Ny450 := Aside0.mk hy450
               clear hy450
               have H' := Aside0.mk H
               clear H
               try go_wp2
               replace HO_9 := Aside0.mk (Kd.R_drew HO_9.out)
               replace aa := Aside0.mk (Kd.R_drew aa.out)
               replace ab := Aside0.mk (Kd.R_drew ab.out)
               replace BK387 := Aside0.mk (blk_drew BK387.out)
               replace BK388 := Aside0.mk (blk_drew BK388.out)
               replace BK398 := Aside0.mk (blk_drew BK398.out)
               replace HB := Aside0.mk (below_drew1 HB.out)
               have p435 : 0 ≤ (x75_3 : Int) := of_decide_eq_true z13_3
               have q435 : x75_3 < (x9_3.length : Int) := of_decide_eq_true z13_3
               obtain ⟨ad435, e435, hx435_0, hx435_1, hx435_2, hx435_3, hx435_4⟩ := at_T131 (Kd.R_reads' HO_9.out).2.2 x75_3 p435 q435
               obtain rfl : ad432 = ad435 := (by injection e435)
               replace p435 := eq_true p435
               replace q435 := eq_true q435
               have p436 : 0 ≤ (x64_2 : Int) := of_decide_eq_true z13_3
               have q436 : x64_2 < (x9_3.length : Int) := of_decide_eq_true z13_3
               obtain ⟨ad436, e436, hx436_0, hx436_1, hx436_2, hx436_3, hx436_4⟩ := at_T131 (Kd.R_reads' HO_9.out).2.2 x64_2 p436 q436
               obtain rfl : ad432 = ad436 := (by injection e436)
               replace p436 := eq_true p436
               replace q436 := eq_true q436
               refine start_ (n := 18) (S := fun w' => w'.cell? (ad432.add ((x75_3).toNat * 5)) = some (.int .i64 ((rd_T131 x9_3 x75_3).f0.f0)) ∧ w'.cell? ⟨(ad432.add ((x75_3).toNat * 5)).block, (ad432.add ((x75_3).toNat * 5)).off + 1, none⟩ = some (.int .i64 ((rd_T131 x9_3 x75_3).f0.f1)) ∧ w'.cell? ⟨(ad432.add ((x75_3).toNat * 5)).block, (ad432.add ((x75_3).toNat * 5)).off + 2, none⟩ = some (.int .i64 ((rd_T131 x9_3 x75_3).f0.f2)) ∧ w'.cell? ⟨(ad432.add ((x75_3).toNat * 5)).block, (ad432.add ((x75_3).toNat * 5)).off + 3, none⟩ = some (.int .i64 ((rd_T131 x9_3 x75_3).f0.f3)) ∧ w'.cell? ⟨(ad432.add ((x75_3).toNat * 5)).block, (ad432.add ((x75_3).toNat * 5)).off + 4, none⟩ = some (.int .i64 ((rd_T131 x9_3 x75_3).f1)) ∧ w'.cell? (ad432.add ((x64_2).toNat * 5)) = some (.int .i64 ((rd_T131 x9_3 x64_2).f0.f0)) ∧ w'.cell? ⟨(ad432.add ((x64_2).toNat * 5)).block, (ad432.add ((x64_2).toNat * 5)).off + 1, none⟩ = some (.int .i64 ((rd_T131 x9_3 x64_2).f0.f1)) ∧ w'.cell? ⟨(ad432.add ((x64_2).toNat * 5)).block, (ad432.add ((x64_2).toNat * 5)).off + 2, none⟩ = some (.int .i64 ((rd_T131 x9_3 x64_2).f0.f2)) ∧ w'.cell? ⟨(ad432.add ((x64_2).toNat * 5)).block, (ad432.add ((x64_2).toNat * 5)).off + 3, none⟩ = some (.int .i64 ((rd_T131 x9_3 x64_2).f0.f3)) ∧ w'.cell? ⟨(ad432.add ((x64_2).toNat * 5)).block, (ad432.add ((x64_2).toNat * 5)).off + 4, none⟩ = some (.int .i64 ((rd_T131 x9_3 x64_2).f1))) (ds := [17]) #[false, false, false, false, false, false, false, false, false, false, false, false, false, false, false, false, false, false] (by kernel_rfl) rfl rfl ⟨hx435_0, hx435_1, hx435_2, hx435_3, hx435_4, hx436_0, hx436_1, hx436_2, hx436_3, hx436_4⟩ (fun hHeld => ?_); refine with_tabW impl_solve.tab24 impl_solve.bits24 (fun HT_ HW_ => ?_)
               generalize wc.drew = w121 at HO_9 aa ab BK387 BK388 BK398 HB hx435_0 hx435_1 hx435_2 hx435_3 hx435_4 hx436_0 hx436_1 hx436_2 hx436_3 hx436_4 hHeld ⊢
               refine pZ 0 HT_ ?_
               refine pZ 1 HT_ ?_
               refine pZ 2 HT_ ?_
               refine pZ 3 HT_ ?_
               refine pZ 4 HT_ ?_
               refine pZ 5 HT_ ?_
               refine pZ 7 HT_ ?_
               refine pZ 8 HT_ ?_
               refine pZ 9 HT_ ?_
               refine pZ 10 HT_ ?_
               refine pZ 12 HT_ ?_
               refine tZ 6 hHeld HT_ HW_ ?_
               refine tZ 11 hHeld HT_ HW_ ?_
               refine oZ 13 HT_ (fun K hK => ?_)
               refine goes_ Try.func93 (by kernel_rfl) rfl #[.agg #[.int .i64 ((rd_T131 x9_3 x64_2).f0.f0), .int .i64 ((rd_T131 x9_3 x64_2).f0.f1), .int .i64 ((rd_T131 x9_3 x64_2).f0.f2), .int .i64 ((rd_T131 x9_3 x64_2).f0.f3)], .int .i64 x18_100] (by rfl) rfl rfl z13_2 ?_
               with_reducible refine (impl_vector_times.calls ((rd_T131 x9_3 x64_2).f0.f0) ((rd_T131 x9_3 x64_2).f0.f1) ((rd_T131 x9_3 x64_2).f0.f2) ((rd_T131 x9_3 x64_2).f0.f3) x18_100 t437 t438 t439 t440 _ A115.out).mono ?_
               rintro e w122 ⟨rfl, hb⟩
               have HS0_ := (hb.cell (World.block_lt_of_cell? _ _ (hHeld.1))).trans (hHeld.1)
               have HS1_ := (hb.cell (World.block_lt_of_cell? _ _ (hHeld.2.1))).trans (hHeld.2.1)
               have HS2_ := (hb.cell (World.block_lt_of_cell? _ _ (hHeld.2.2.1))).trans (hHeld.2.2.1)
               have HS3_ := (hb.cell (World.block_lt_of_cell? _ _ (hHeld.2.2.2.1))).trans (hHeld.2.2.2.1)
               have HS4_ := (hb.cell (World.block_lt_of_cell? _ _ (hHeld.2.2.2.2.1))).trans (hHeld.2.2.2.2.1)
               have HS5_ := (hb.cell (World.block_lt_of_cell? _ _ (hHeld.2.2.2.2.2.1))).trans (hHeld.2.2.2.2.2.1)
               have HS6_ := (hb.cell (World.block_lt_of_cell? _ _ (hHeld.2.2.2.2.2.2.1))).trans (hHeld.2.2.2.2.2.2.1)
               have HS7_ := (hb.cell (World.block_lt_of_cell? _ _ (hHeld.2.2.2.2.2.2.2.1))).trans (hHeld.2.2.2.2.2.2.2.1)
               have HS8_ := (hb.cell (World.block_lt_of_cell? _ _ (hHeld.2.2.2.2.2.2.2.2.1))).trans (hHeld.2.2.2.2.2.2.2.2.1)
               have HS9_ := (hb.cell (World.block_lt_of_cell? _ _ (hHeld.2.2.2.2.2.2.2.2.2))).trans (hHeld.2.2.2.2.2.2.2.2.2)
               refine ⟨_, rfl, ?_⟩
               replace HO_9 := Aside0.mk (Kd.R_below z13_14 hb)
               replace aa := Aside0.mk (Kd.R_below z13_7 hb)
               replace ab := Aside0.mk (Kd.R_below z13_6 hb)
               replace BK387 := Aside0.mk (blk_below (g := gb387) (o := .cells #[.int .i64 0, .int .i64 0, .int .i64 0, .int .i64 0] 70 (0, 0)) (zL13 BK387.out) hb)
               replace BK388 := Aside0.mk (blk_below (g := gb388) (o := .cells #[.int .i64 0, .int .i64 0, .int .i64 0, .int .i64 0] 70 (0, 0)) (zL13 BK388.out) hb)
               replace BK398 := Aside0.mk (blk_below (g := gb398) (o := .cells #[.slice Ao16 t392.length co16, v396] 81 (0, 0)) (zL13 BK398.out) hb)
               replace HB := Aside0.mk (below_step z13_1 hb)
               (try clear hb)
               (try clear hb2)
               (try clear hk)
               (try clear hi)
               refine hK.out _ _ ⟨HS0_, HS1_, HS2_, HS3_, HS4_, HS5_, HS6_, HS7_, HS8_, HS9_⟩ (fun hHeld => ?_)
               clear hK K
               refine nZ ?_
               refine oZ 14 HT_ (fun K hK => ?_)
               refine goes_ Try.func92 (by kernel_rfl) rfl #[.agg #[.int .i64 ((rd_T131 x9_3 x75_3).f0.f0), .int .i64 ((rd_T131 x9_3 x75_3).f0.f1), .int .i64 ((rd_T131 x9_3 x75_3).f0.f2), .int .i64 ((rd_T131 x9_3 x75_3).f0.f3)], .agg #[.int .i64 t437, .int .i64 t438, .int .i64 t439, .int .i64 t440]] (by rfl) rfl rfl z13_2 ?_
               with_reducible refine (impl_vector_minus.calls ((rd_T131 x9_3 x75_3).f0.f0) ((rd_T131 x9_3 x75_3).f0.f1) ((rd_T131 x9_3 x75_3).f0.f2) ((rd_T131 x9_3 x75_3).f0.f3) t437 t438 t439 t440 t441 t442 t443 t444 _ A116.out).mono ?_
               rintro e w123 ⟨rfl, hb⟩
               have HS0_ := (hb.cell (World.block_lt_of_cell? _ _ (hHeld.1))).trans (hHeld.1)
               have HS1_ := (hb.cell (World.block_lt_of_cell? _ _ (hHeld.2.1))).trans (hHeld.2.1)
               have HS2_ := (hb.cell (World.block_lt_of_cell? _ _ (hHeld.2.2.1))).trans (hHeld.2.2.1)
               have HS3_ := (hb.cell (World.block_lt_of_cell? _ _ (hHeld.2.2.2.1))).trans (hHeld.2.2.2.1)
               have HS4_ := (hb.cell (World.block_lt_of_cell? _ _ (hHeld.2.2.2.2.1))).trans (hHeld.2.2.2.2.1)
               have HS5_ := (hb.cell (World.block_lt_of_cell? _ _ (hHeld.2.2.2.2.2.1))).trans (hHeld.2.2.2.2.2.1)
               have HS6_ := (hb.cell (World.block_lt_of_cell? _ _ (hHeld.2.2.2.2.2.2.1))).trans (hHeld.2.2.2.2.2.2.1)
               have HS7_ := (hb.cell (World.block_lt_of_cell? _ _ (hHeld.2.2.2.2.2.2.2.1))).trans (hHeld.2.2.2.2.2.2.2.1)
               have HS8_ := (hb.cell (World.block_lt_of_cell? _ _ (hHeld.2.2.2.2.2.2.2.2.1))).trans (hHeld.2.2.2.2.2.2.2.2.1)
               have HS9_ := (hb.cell (World.block_lt_of_cell? _ _ (hHeld.2.2.2.2.2.2.2.2.2))).trans (hHeld.2.2.2.2.2.2.2.2.2)
               refine ⟨_, rfl, ?_⟩
               replace HO_9 := Aside0.mk (Kd.R_below z13_14 hb)
               replace aa := Aside0.mk (Kd.R_below z13_7 hb)
               replace ab := Aside0.mk (Kd.R_below z13_6 hb)
               replace BK387 := Aside0.mk (blk_below (g := gb387) (o := .cells #[.int .i64 0, .int .i64 0, .int .i64 0, .int .i64 0] 70 (0, 0)) (zL13 BK387.out) hb)
               replace BK388 := Aside0.mk (blk_below (g := gb388) (o := .cells #[.int .i64 0, .int .i64 0, .int .i64 0, .int .i64 0] 70 (0, 0)) (zL13 BK388.out) hb)
               replace BK398 := Aside0.mk (blk_below (g := gb398) (o := .cells #[.slice Ao16 t392.length co16, v396] 81 (0, 0)) (zL13 BK398.out) hb)
               replace HB := Aside0.mk (below_step z13_1 hb)
               (try clear hb)
               (try clear hb2)
               (try clear hk)
               (try clear hi)
               have p117 : 0 ≤ (x75_3 : Int) := of_decide_eq_true z13_3
               have q117 : (x75_3 : Int) < ((x9_3.length : Int) : Int) := of_decide_eq_true z13_3
               obtain ⟨go117, co117, eo117, gb117, gl117, cl117, HG117⟩ := Kd.R_form HO_9.out (by omega)
               (first | cases eo117 | (injection eo117 with ea_ en_ ec_; (first | subst ea_ | (injection ea_ with ea_; subst ea_)); subst ec_; clear en_))
               have GB117 := Aside0.mk gb117
               have GG117 := Aside0.mk HG117
               clear gb117 gl117 HG117
               (first | simp only [add_plain] at hx432_0 | skip)
               (first | simp only [add_plain] at hx432_1 | skip)
               (first | simp only [add_plain] at hx432_2 | skip)
               (first | simp only [add_plain] at hx432_3 | skip)
               (first | simp only [add_plain] at hx432_4 | skip)
               (first | simp only [add_plain] at hx434_0 | skip)
               (first | simp only [add_plain] at hx434_1 | skip)
               (first | simp only [add_plain] at hx434_2 | skip)
               (first | simp only [add_plain] at hx434_3 | skip)
               (first | simp only [add_plain] at hx434_4 | skip)
               (first | simp only [add_plain] at hx435_0 | skip)
               (first | simp only [add_plain] at hx435_1 | skip)
               (first | simp only [add_plain] at hx435_2 | skip)
               (first | simp only [add_plain] at hx435_3 | skip)
               (first | simp only [add_plain] at hx435_4 | skip)
               (first | simp only [add_plain] at hx436_0 | skip)
               (first | simp only [add_plain] at hx436_1 | skip)
               (first | simp only [add_plain] at hx436_2 | skip)
               (first | simp only [add_plain] at hx436_3 | skip)
               (first | simp only [add_plain] at hx436_4 | skip)
               obtain ⟨ce117, hcl117, hM117, hcc117, hfr117⟩ := Kd.R_elem HO_9.out z131 (x75_3 : Int) p117 q117
               obtain rfl := k131_openM hM117
               have hx117_0 : World.cell? _ ⟨go117, (x75_3 : Int).toNat * 5, none⟩ = some (.int .i64 ((rd_T131 x9_3 x75_3).f0.f0)) := hcc117 0 _ rfl
               have hx117_1 : World.cell? _ ⟨go117, (x75_3 : Int).toNat * 5 + 1, none⟩ = some (.int .i64 ((rd_T131 x9_3 x75_3).f0.f1)) := hcc117 1 _ rfl
               have hx117_2 : World.cell? _ ⟨go117, (x75_3 : Int).toNat * 5 + 2, none⟩ = some (.int .i64 ((rd_T131 x9_3 x75_3).f0.f2)) := hcc117 2 _ rfl
               have hx117_3 : World.cell? _ ⟨go117, (x75_3 : Int).toNat * 5 + 3, none⟩ = some (.int .i64 ((rd_T131 x9_3 x75_3).f0.f3)) := hcc117 3 _ rfl
               have hx117_4 : World.cell? _ ⟨go117, (x75_3 : Int).toNat * 5 + 4, none⟩ = some (.int .i64 ((rd_T131 x9_3 x75_3).f1)) := hcc117 4 _ rfl
               have hf117_0 : World.frozen? _ ⟨go117, (x75_3 : Int).toNat * 5, none⟩ = false := hfr117 0
               have hf117_1 : World.frozen? _ ⟨go117, (x75_3 : Int).toNat * 5 + 1, none⟩ = false := hfr117 1
               have hf117_2 : World.frozen? _ ⟨go117, (x75_3 : Int).toNat * 5 + 2, none⟩ = false := hfr117 2
               have hf117_3 : World.frozen? _ ⟨go117, (x75_3 : Int).toNat * 5 + 3, none⟩ = false := hfr117 3
               have hf117_4 : World.frozen? _ ⟨go117, (x75_3 : Int).toNat * 5 + 4, none⟩ = false := hfr117 4
               (try clear hcl117); (try clear hcc117); (try clear hfr117); (try clear hM117)
               replace p117 := eq_true p117
               replace q117 := eq_true q117
               obtain ⟨ce124, hcl124, hM124, hcc124, hfr124⟩ := Kd.R_elem HO_9.out z131 (x75_3 : Int) (of_decide_eq_true z13_3) (by have h_ : (x75_3 : Int) < ((x9_3.length : Int) : Int) := of_decide_eq_true z13_3; first | exact h_ | (have e_ := (Kd.R_reads' HO_9.out).1; omega) | simpa using h_)
               obtain rfl := k131_openM hM124
               have HP124 := (Kd.R_seg HO_9.out (x75_3 : Int) (of_decide_eq_true z13_3) (by have h_ : (x75_3 : Int) < ((x9_3.length : Int) : Int) := of_decide_eq_true z13_3; first | exact h_ | (have e_ := (Kd.R_reads' HO_9.out).1; omega) | simpa using h_) (seg := [.int .i64 t441, .int .i64 t442, .int .i64 t443, .int .i64 t444]) (j := 0) hcl124 hcc124 (show 4 ≤ 5 from by decide) (x' := (⟨(⟨t441, t442, t443, t444⟩ : S70), (rd_T131 x9_3 x75_3).f1⟩ : S131)) (k131_mkM _ _ _ (⟨(⟨t441, t442, t443, t444⟩ : S70), (rd_T131 x9_3 x75_3).f1⟩ : S131) ) (fun _ hk => hk)).1
               rw [← Ny445.out] at HP124
               have HQ124 := Aside0.mk HP124
               (try clear hcl124); (try clear hcc124); (try clear hfr124); (try clear hM124); (try clear HP124)
               refine hK.out _ _ ⟨HS0_, HS1_, HS2_, HS3_, HS4_, HS5_, HS6_, HS7_, HS8_, HS9_⟩ (fun hHeld => ?_)
               clear hK K
               refine nZ ?_
               refine pZ 15 HT_ ?_
               refine pZ 16 HT_ ?_
               refine lZ 17 HT_ (fun K hK => ?_)
               refine skip_ (w1 := ?_) (by rfl) rfl ?_ ?_
               rotate_left
               ·go_simp
                rfl
               refine hK.out _ _ ?_
               clear hK K
               refine done_ (done_of HT_.out (by kernel_rfl)) ?_
               try go_wp2
               have n0_ : Aside0 (Kd.R k131 131 ((((w123.setCell ⟨go117, (x75_3 : Int).toNat * 5, none⟩ (.int .i64 t441)).setCell ⟨go117, (x75_3 : Int).toNat * 5 + 1, none⟩ (.int .i64 t442)).setCell ⟨go117, (x75_3 : Int).toNat * 5 + 2, none⟩ (.int .i64 t443)).setCell ⟨go117, (x75_3 : Int).toNat * 5 + 3, none⟩ (.int .i64 t444)) w.heap.size (fun _ => True) (.slice (some ⟨go117, 0, none⟩) x9_3.length co94) y445) := ⟨by (with_reducible repeat (first | apply Kd.R_alloc | apply Kd.R_drewN | apply Kd.R_drew)); exact HQ124.out⟩
               have n1_ : Aside0 (Kd.R k102 102 ((((w123.setCell ⟨go117, (x75_3 : Int).toNat * 5, none⟩ (.int .i64 t441)).setCell ⟨go117, (x75_3 : Int).toNat * 5 + 1, none⟩ (.int .i64 t442)).setCell ⟨go117, (x75_3 : Int).toNat * 5 + 2, none⟩ (.int .i64 t443)).setCell ⟨go117, (x75_3 : Int).toNat * 5 + 3, none⟩ (.int .i64 t444)) w.heap.size (fun _ => True) (.slice Ao16 t392.length co16) t392) := ⟨by (with_reducible repeat (first | apply Kd.R_alloc | apply Kd.R_drewN | apply Kd.R_drew)); exact Kd.R_mono (Kd.R_far (p := ⟨go117, (x75_3 : Int).toNat * 5 + 3, none⟩) (Kd.R_far (p := ⟨go117, (x75_3 : Int).toNat * 5 + 2, none⟩) (Kd.R_far (p := ⟨go117, (x75_3 : Int).toNat * 5 + 1, none⟩) (Kd.R_far (p := ⟨go117, (x75_3 : Int).toNat * 5, none⟩) (Kd.R_types aa.out GG117.out (by decide)) (fun _ hk => hk.2) (.int .i64 t441)) (fun _ hk => hk.2) (.int .i64 t442)) (fun _ hk => hk.2) (.int .i64 t443)) (fun _ hk => hk.2) (.int .i64 t444)) (fun _ hk => trivial)⟩
               have n2_ : Aside0 (Kd.R (Kd.int .i64) 3 ((((w123.setCell ⟨go117, (x75_3 : Int).toNat * 5, none⟩ (.int .i64 t441)).setCell ⟨go117, (x75_3 : Int).toNat * 5 + 1, none⟩ (.int .i64 t442)).setCell ⟨go117, (x75_3 : Int).toNat * 5 + 2, none⟩ (.int .i64 t443)).setCell ⟨go117, (x75_3 : Int).toNat * 5 + 3, none⟩ (.int .i64 t444)) w.heap.size (fun _ => True) v396 t395) := ⟨by (with_reducible repeat (first | apply Kd.R_alloc | apply Kd.R_drewN | apply Kd.R_drew)); exact Kd.R_mono (Kd.R_far (p := ⟨go117, (x75_3 : Int).toNat * 5 + 3, none⟩) (Kd.R_far (p := ⟨go117, (x75_3 : Int).toNat * 5 + 2, none⟩) (Kd.R_far (p := ⟨go117, (x75_3 : Int).toNat * 5 + 1, none⟩) (Kd.R_far (p := ⟨go117, (x75_3 : Int).toNat * 5, none⟩) (Kd.R_types ab.out GG117.out (by decide)) (fun _ hk => hk.2) (.int .i64 t441)) (fun _ hk => hk.2) (.int .i64 t442)) (fun _ hk => hk.2) (.int .i64 t443)) (fun _ hk => hk.2) (.int .i64 t444)) (fun _ hk => trivial)⟩
               have n3_ : Aside0 (((((w123.setCell ⟨go117, (x75_3 : Int).toNat * 5, none⟩ (.int .i64 t441)).setCell ⟨go117, (x75_3 : Int).toNat * 5 + 1, none⟩ (.int .i64 t442)).setCell ⟨go117, (x75_3 : Int).toNat * 5 + 2, none⟩ (.int .i64 t443)).setCell ⟨go117, (x75_3 : Int).toNat * 5 + 3, none⟩ (.int .i64 t444)).heap[gb387]? = some (.cells #[.int .i64 0, .int .i64 0, .int .i64 0, .int .i64 0] 70 (0, 0))) := ⟨by (with_reducible repeat first|refine blk_drewN ?_ _|refine blk_drew ?_|refine blk_alloc ?_ _); refine blk_far ?_ z13_28 _; (with_reducible repeat first|refine blk_drewN ?_ _|refine blk_drew ?_|refine blk_alloc ?_ _); refine blk_far ?_ z13_28 _; (with_reducible repeat first|refine blk_drewN ?_ _|refine blk_drew ?_|refine blk_alloc ?_ _); refine blk_far ?_ z13_28 _; (with_reducible repeat first|refine blk_drewN ?_ _|refine blk_drew ?_|refine blk_alloc ?_ _); refine blk_far ?_ z13_28 _; (with_reducible repeat first|refine blk_drewN ?_ _|refine blk_drew ?_|refine blk_alloc ?_ _); exact BK387.out⟩
               have n4_ : Aside0 (((((w123.setCell ⟨go117, (x75_3 : Int).toNat * 5, none⟩ (.int .i64 t441)).setCell ⟨go117, (x75_3 : Int).toNat * 5 + 1, none⟩ (.int .i64 t442)).setCell ⟨go117, (x75_3 : Int).toNat * 5 + 2, none⟩ (.int .i64 t443)).setCell ⟨go117, (x75_3 : Int).toNat * 5 + 3, none⟩ (.int .i64 t444)).heap[gb388]? = some (.cells #[.int .i64 0, .int .i64 0, .int .i64 0, .int .i64 0] 70 (0, 0))) := ⟨by (with_reducible repeat first|refine blk_drewN ?_ _|refine blk_drew ?_|refine blk_alloc ?_ _); refine blk_far ?_ z13_29 _; (with_reducible repeat first|refine blk_drewN ?_ _|refine blk_drew ?_|refine blk_alloc ?_ _); refine blk_far ?_ z13_29 _; (with_reducible repeat first|refine blk_drewN ?_ _|refine blk_drew ?_|refine blk_alloc ?_ _); refine blk_far ?_ z13_29 _; (with_reducible repeat first|refine blk_drewN ?_ _|refine blk_drew ?_|refine blk_alloc ?_ _); refine blk_far ?_ z13_29 _; (with_reducible repeat first|refine blk_drewN ?_ _|refine blk_drew ?_|refine blk_alloc ?_ _); exact BK388.out⟩
               have n5_ : Aside0 (((((w123.setCell ⟨go117, (x75_3 : Int).toNat * 5, none⟩ (.int .i64 t441)).setCell ⟨go117, (x75_3 : Int).toNat * 5 + 1, none⟩ (.int .i64 t442)).setCell ⟨go117, (x75_3 : Int).toNat * 5 + 2, none⟩ (.int .i64 t443)).setCell ⟨go117, (x75_3 : Int).toNat * 5 + 3, none⟩ (.int .i64 t444)).heap[gb398]? = some (.cells #[.slice Ao16 t392.length co16, v396] 81 (0, 0))) := ⟨by (with_reducible repeat first|refine blk_drewN ?_ _|refine blk_drew ?_|refine blk_alloc ?_ _); refine blk_far ?_ z13_30 _; (with_reducible repeat first|refine blk_drewN ?_ _|refine blk_drew ?_|refine blk_alloc ?_ _); refine blk_far ?_ z13_30 _; (with_reducible repeat first|refine blk_drewN ?_ _|refine blk_drew ?_|refine blk_alloc ?_ _); refine blk_far ?_ z13_30 _; (with_reducible repeat first|refine blk_drewN ?_ _|refine blk_drew ?_|refine blk_alloc ?_ _); refine blk_far ?_ z13_30 _; (with_reducible repeat first|refine blk_drewN ?_ _|refine blk_drew ?_|refine blk_alloc ?_ _); exact BK398.out⟩
               have n6_ : Aside0 (Below w.heap.size w ((((w123.setCell ⟨go117, (x75_3 : Int).toNat * 5, none⟩ (.int .i64 t441)).setCell ⟨go117, (x75_3 : Int).toNat * 5 + 1, none⟩ (.int .i64 t442)).setCell ⟨go117, (x75_3 : Int).toNat * 5 + 2, none⟩ (.int .i64 t443)).setCell ⟨go117, (x75_3 : Int).toNat * 5 + 3, none⟩ (.int .i64 t444))) := ⟨by repeat (first | (with_reducible first | exact HB.out | apply below_alloc | apply pw_below_drewN | apply below_drew1 | refine below_set ?_ GB117.out | refine below_set ?_ GB117.out | refine below_set ?_ GB117.out | refine below_set ?_ GB117.out | refine below_set ?_ GE387.out | refine below_set ?_ GE388.out | refine below_set ?_ GE398.out) | exact HB.out)⟩
               (try clear HO_9)
               (try clear aa)
               (try clear ab)
               (try clear BK387)
               (try clear BK388)
               (try clear BK398)
               (try clear HB)
               generalize ((((w123.setCell ⟨go117, (x75_3 : Int).toNat * 5, none⟩ (.int .i64 t441)).setCell ⟨go117, (x75_3 : Int).toNat * 5 + 1, none⟩ (.int .i64 t442)).setCell ⟨go117, (x75_3 : Int).toNat * 5 + 2, none⟩ (.int .i64 t443)).setCell ⟨go117, (x75_3 : Int).toNat * 5 + 3, none⟩ (.int .i64 t444)) = w125 at n0_ n1_ n2_ n3_ n4_ n5_ n6_ ⊢
               have HO_9 := n0_
               have aa := n1_
               have ab := n2_
               have BK387 := n3_
               have BK388 := n4_
               have BK398 := n5_
               have HB := n6_
               clear n0_ n1_ n2_ n3_ n4_ n5_ n6_
               replace HO_9 := Aside0.mk (Kd.R_drew HO_9.out)
               replace aa := Aside0.mk (Kd.R_drew aa.out)
               replace ab := Aside0.mk (Kd.R_drew ab.out)
               replace BK387 := Aside0.mk (blk_drew BK387.out)
               replace BK388 := Aside0.mk (blk_drew BK388.out)
               replace BK398 := Aside0.mk (blk_drew BK398.out)
               replace HB := Aside0.mk (below_drew1 HB.out)
               have p446 : 0 ≤ (x75_3 : Int) := of_decide_eq_true z13_3
               have q446 : x75_3 < (y445.length : Int) := (by have h_ : (x75_3 : Int) < ((x9_3.length : Int) : Int) := of_decide_eq_true z13_3; first | (have e_ := (Kd.R_reads' HO_9.out).1; omega) | simpa only [Ny445.out, List.length_set] using h_)
               have ql446 : ((x75_3 : Int) < ((x9_3.length : Int) : Int)) = True := eq_true (of_decide_eq_true z13_3)
               obtain ⟨ad446, e446, hx446_0, hx446_1, hx446_2, hx446_3, hx446_4⟩ := at_T131 (Kd.R_reads' HO_9.out).2.2 x75_3 p446 q446
               obtain rfl : (⟨go117, 0, none⟩ : Addr) = ad446 := (by injection e446)
               (first | simp only [add_plain] at hx446_0 | simp only [add_at] at hx446_0 | simp only [Addr.add, Nat.zero_add] at hx446_0 | skip)
               (first | simp only [add_plain] at hx446_1 | simp only [add_at] at hx446_1 | simp only [Addr.add, Nat.zero_add] at hx446_1 | skip)
               (first | simp only [add_plain] at hx446_2 | simp only [add_at] at hx446_2 | simp only [Addr.add, Nat.zero_add] at hx446_2 | skip)
               (first | simp only [add_plain] at hx446_3 | simp only [add_at] at hx446_3 | simp only [Addr.add, Nat.zero_add] at hx446_3 | skip)
               (first | simp only [add_plain] at hx446_4 | simp only [add_at] at hx446_4 | simp only [Addr.add, Nat.zero_add] at hx446_4 | skip)
               replace p446 := eq_true p446
               replace q446 := eq_true q446
               have p447 : 0 ≤ (x64_2 : Int) := of_decide_eq_true z13_3
               have q447 : x64_2 < (y445.length : Int) := (by have h_ : (x64_2 : Int) < ((x9_3.length : Int) : Int) := of_decide_eq_true z13_3; first | (have e_ := (Kd.R_reads' HO_9.out).1; omega) | simpa only [Ny445.out, List.length_set] using h_)
               have ql447 : ((x64_2 : Int) < ((x9_3.length : Int) : Int)) = True := eq_true (of_decide_eq_true z13_3)
               obtain ⟨ad447, e447, hx447_0, hx447_1, hx447_2, hx447_3, hx447_4⟩ := at_T131 (Kd.R_reads' HO_9.out).2.2 x64_2 p447 q447
               obtain rfl : (⟨go117, 0, none⟩ : Addr) = ad447 := (by injection e447)
               (first | simp only [add_plain] at hx447_0 | simp only [add_at] at hx447_0 | simp only [Addr.add, Nat.zero_add] at hx447_0 | skip)
               (first | simp only [add_plain] at hx447_1 | simp only [add_at] at hx447_1 | simp only [Addr.add, Nat.zero_add] at hx447_1 | skip)
               (first | simp only [add_plain] at hx447_2 | simp only [add_at] at hx447_2 | simp only [Addr.add, Nat.zero_add] at hx447_2 | skip)
               (first | simp only [add_plain] at hx447_3 | simp only [add_at] at hx447_3 | simp only [Addr.add, Nat.zero_add] at hx447_3 | skip)
               (first | simp only [add_plain] at hx447_4 | simp only [add_at] at hx447_4 | simp only [Addr.add, Nat.zero_add] at hx447_4 | skip)
               replace p447 := eq_true p447
               replace q447 := eq_true q447
               refine start_ (n := 18) (S := fun w' => w'.cell? ⟨go117, (x75_3).toNat * 5, none⟩ = some (.int .i64 ((rd_T131 y445 x75_3).f0.f0)) ∧ w'.cell? ⟨go117, (x75_3).toNat * 5 + 1, none⟩ = some (.int .i64 ((rd_T131 y445 x75_3).f0.f1)) ∧ w'.cell? ⟨go117, (x75_3).toNat * 5 + 2, none⟩ = some (.int .i64 ((rd_T131 y445 x75_3).f0.f2)) ∧ w'.cell? ⟨go117, (x75_3).toNat * 5 + 3, none⟩ = some (.int .i64 ((rd_T131 y445 x75_3).f0.f3)) ∧ w'.cell? ⟨go117, (x75_3).toNat * 5 + 4, none⟩ = some (.int .i64 ((rd_T131 y445 x75_3).f1)) ∧ w'.cell? ⟨go117, (x64_2).toNat * 5, none⟩ = some (.int .i64 ((rd_T131 y445 x64_2).f0.f0)) ∧ w'.cell? ⟨go117, (x64_2).toNat * 5 + 1, none⟩ = some (.int .i64 ((rd_T131 y445 x64_2).f0.f1)) ∧ w'.cell? ⟨go117, (x64_2).toNat * 5 + 2, none⟩ = some (.int .i64 ((rd_T131 y445 x64_2).f0.f2)) ∧ w'.cell? ⟨go117, (x64_2).toNat * 5 + 3, none⟩ = some (.int .i64 ((rd_T131 y445 x64_2).f0.f3)) ∧ w'.cell? ⟨go117, (x64_2).toNat * 5 + 4, none⟩ = some (.int .i64 ((rd_T131 y445 x64_2).f1))) (ds := [17]) #[false, false, false, false, false, false, false, false, false, false, false, false, false, false, false, false, false, false] (by kernel_rfl) rfl rfl ⟨hx446_0, hx446_1, hx446_2, hx446_3, hx446_4, hx447_0, hx447_1, hx447_2, hx447_3, hx447_4⟩ (fun hHeld => ?_); refine with_tabW impl_solve.tab25 impl_solve.bits25 (fun HT_ HW_ => ?_)
               generalize w125.drew = w126 at HO_9 aa ab BK387 BK388 BK398 HB HQ124 hx446_0 hx446_1 hx446_2 hx446_3 hx446_4 hx447_0 hx447_1 hx447_2 hx447_3 hx447_4 hHeld ⊢
               refine pZ 0 HT_ ?_
               refine pZ 1 HT_ ?_
               refine pZ 2 HT_ ?_
               refine pZ 3 HT_ ?_
               refine pZ 4 HT_ ?_
               refine pZ 5 HT_ ?_
               refine pZ 7 HT_ ?_
               refine pZ 8 HT_ ?_
               refine pZ 9 HT_ ?_
               refine pZ 10 HT_ ?_
               refine pZ 12 HT_ ?_
               refine tZ 6 hHeld HT_ HW_ ?_
               refine tZ 11 hHeld HT_ HW_ ?_
               refine oZ 13 HT_ (fun K hK => ?_)
               refine goes_ Try.func104 (by kernel_rfl) rfl #[.int .i64 ((rd_T131 y445 x64_2).f1), .int .i64 x18_100] (by rfl) rfl rfl z13_2 ?_
               with_reducible refine (impl_element_times.calls ((rd_T131 y445 x64_2).f1) x18_100 t448 _ A118.out).mono ?_
               rintro e w' ⟨rfl, ⟨nd, rfl⟩⟩
               refine ⟨_, rfl, ?_⟩
               refine hK.out _ _ ⟨hHeld.1, hHeld.2.1, hHeld.2.2.1, hHeld.2.2.2.1, hHeld.2.2.2.2.1, hHeld.2.2.2.2.2.1, hHeld.2.2.2.2.2.2.1, hHeld.2.2.2.2.2.2.2.1, hHeld.2.2.2.2.2.2.2.2.1, hHeld.2.2.2.2.2.2.2.2.2⟩ (fun hHeld => ?_)
               clear hK K
               refine nZ ?_
               refine oZ 14 HT_ (fun K hK => ?_)
               refine goes_ Try.func127 (by kernel_rfl) rfl #[.int .i64 ((rd_T131 y445 x75_3).f1), .int .i64 t448] (by rfl) rfl rfl z13_2 ?_
               with_reducible refine (impl_element_minus.calls ((rd_T131 y445 x75_3).f1) t448 t449 _ A119.out).mono ?_
               rintro e w' ⟨rfl, ⟨nd, rfl⟩⟩
               refine ⟨_, rfl, ?_⟩
               have p120 : 0 ≤ (x75_3 : Int) := of_decide_eq_true z13_3
               have q120 : (x75_3 : Int) < ((x9_3.length : Int) : Int) := of_decide_eq_true z13_3
               obtain ⟨ce120, hcl120, hM120, hcc120, hfr120⟩ := Kd.R_elem HO_9.out z131 (x75_3 : Int) p120 q120
               obtain rfl := k131_openM hM120
               have hx120_0 : World.cell? _ ⟨go117, (x75_3 : Int).toNat * 5, none⟩ = some (.int .i64 ((rd_T131 y445 x75_3).f0.f0)) := hcc120 0 _ rfl
               have hx120_1 : World.cell? _ ⟨go117, (x75_3 : Int).toNat * 5 + 1, none⟩ = some (.int .i64 ((rd_T131 y445 x75_3).f0.f1)) := hcc120 1 _ rfl
               have hx120_2 : World.cell? _ ⟨go117, (x75_3 : Int).toNat * 5 + 2, none⟩ = some (.int .i64 ((rd_T131 y445 x75_3).f0.f2)) := hcc120 2 _ rfl
               have hx120_3 : World.cell? _ ⟨go117, (x75_3 : Int).toNat * 5 + 3, none⟩ = some (.int .i64 ((rd_T131 y445 x75_3).f0.f3)) := hcc120 3 _ rfl
               have hx120_4 : World.cell? _ ⟨go117, (x75_3 : Int).toNat * 5 + 4, none⟩ = some (.int .i64 ((rd_T131 y445 x75_3).f1)) := hcc120 4 _ rfl
               have hf120_0 : World.frozen? _ ⟨go117, (x75_3 : Int).toNat * 5, none⟩ = false := hfr120 0
               have hf120_1 : World.frozen? _ ⟨go117, (x75_3 : Int).toNat * 5 + 1, none⟩ = false := hfr120 1
               have hf120_2 : World.frozen? _ ⟨go117, (x75_3 : Int).toNat * 5 + 2, none⟩ = false := hfr120 2
               have hf120_3 : World.frozen? _ ⟨go117, (x75_3 : Int).toNat * 5 + 3, none⟩ = false := hfr120 3
               have hf120_4 : World.frozen? _ ⟨go117, (x75_3 : Int).toNat * 5 + 4, none⟩ = false := hfr120 4
               (try clear hcl120); (try clear hcc120); (try clear hfr120); (try clear hM120)
               replace p120 := eq_true p120
               replace q120 := eq_true q120
               obtain ⟨ce127, hcl127, hM127, hcc127, hfr127⟩ := Kd.R_elem HO_9.out z131 (x75_3 : Int) (of_decide_eq_true z13_3) (by have h_ : (x75_3 : Int) < ((x9_3.length : Int) : Int) := of_decide_eq_true z13_3; first | exact h_ | (have e_ := (Kd.R_reads' HO_9.out).1; omega) | simpa using h_)
               obtain rfl := k131_openM hM127
               have HP127 := (Kd.R_seg HO_9.out (x75_3 : Int) (of_decide_eq_true z13_3) (by have h_ : (x75_3 : Int) < ((x9_3.length : Int) : Int) := of_decide_eq_true z13_3; first | exact h_ | (have e_ := (Kd.R_reads' HO_9.out).1; omega) | simpa using h_) (seg := [.int .i64 t449]) (j := 4) hcl127 hcc127 (show 5 ≤ 5 from by decide) (x' := (⟨(⟨(rd_T131 y445 x75_3).f0.f0, (rd_T131 y445 x75_3).f0.f1, (rd_T131 y445 x75_3).f0.f2, (rd_T131 y445 x75_3).f0.f3⟩ : S70), t449⟩ : S131)) (k131_mkM _ _ _ (⟨(⟨(rd_T131 y445 x75_3).f0.f0, (rd_T131 y445 x75_3).f0.f1, (rd_T131 y445 x75_3).f0.f2, (rd_T131 y445 x75_3).f0.f3⟩ : S70), t449⟩ : S131) ) (fun _ hk => hk)).1
               rw [← Ny450.out] at HP127
               have HQ127 := Aside0.mk HP127
               (try clear hcl127); (try clear hcc127); (try clear hfr127); (try clear hM127); (try clear HP127)
               refine hK.out _ _ ⟨hHeld.1, hHeld.2.1, hHeld.2.2.1, hHeld.2.2.2.1, hHeld.2.2.2.2.1, hHeld.2.2.2.2.2.1, hHeld.2.2.2.2.2.2.1, hHeld.2.2.2.2.2.2.2.1, hHeld.2.2.2.2.2.2.2.2.1, hHeld.2.2.2.2.2.2.2.2.2⟩ (fun hHeld => ?_)
               clear hK K
               refine nZ ?_
               refine pZ 15 HT_ ?_
               refine pZ 16 HT_ ?_
               refine lZ 17 HT_ (fun K hK => ?_)
               refine skip_ (w1 := ?_) (by rfl) rfl ?_ ?_
               rotate_left
               ·go_simp
                rfl
               refine hK.out _ _ ?_
               clear hK K
               refine done_ (done_of HT_.out (by kernel_rfl)) ?_
               try go_wp2
               (try simp only [← hl9_3])
               have hab_ : (⟨go117, (x64_2).toNat * 5, none⟩ : Addr) = (⟨go117, 0, none⟩ : Addr).add ((x64_2).toNat * 5) := (add_plain _ _).symm
               (try simp only [hab_])
               clear hab_
               have GG2_ : ∃ cl_, Aside0 (w126.heap[go117]? = some (.cells cl_ 131 (0, 0))) := by
                 obtain ⟨gq_, cq_, eq_, gbq_, glq_, clq_, HGq_⟩ := Kd.R_form HO_9.out (by have h1_ := of_eq_true p447; have h2_ := of_eq_true q447; omega)
                 injection eq_ with ea_ en_ ec_; injection ea_ with ea_; injection ea_ with eb_; subst eb_; exact ⟨clq_, ⟨HGq_⟩⟩
               obtain ⟨cl2_, GG2_⟩ := GG2_
               go_roundg kj107
               case measure => have := HK1.out; have := HK2.out; have := HK3.out; have := HJ100.out; have := HJ107.out; omega
               case rel => exact ⟨(y450), (wrap64 (x75_3 + 1)), z13_24, H', ⟨by have := HK1.out; have := HK2.out; have := HK3.out; have := HJ100.out; have := HJ107.out; omega⟩, ⟨by (try simp only [hl9_2]); (try simp only [hl9_3]); (with_reducible repeat (first | apply Kd.R_alloc | apply Kd.R_drewN | apply Kd.R_drew)); exact HQ127.out⟩, ⟨by (try simp only [hl9_2]); (try simp only [hl9_3]); (with_reducible repeat (first | apply Kd.R_alloc | apply Kd.R_drewN | apply Kd.R_drew)); exact Kd.R_mono (Kd.R_far (p := ⟨go117, (x75_3 : Int).toNat * 5 + 4, none⟩) (Kd.R_types aa.out GG2_.out (by decide)) (fun _ hk => hk.2) (.int .i64 t449)) (fun _ hk => trivial)⟩, ⟨by (try simp only [hl9_2]); (try simp only [hl9_3]); (with_reducible repeat (first | apply Kd.R_alloc | apply Kd.R_drewN | apply Kd.R_drew)); exact Kd.R_mono (Kd.R_far (p := ⟨go117, (x75_3 : Int).toNat * 5 + 4, none⟩) (Kd.R_types ab.out GG2_.out (by decide)) (fun _ hk => hk.2) (.int .i64 t449)) (fun _ hk => trivial)⟩, ⟨by (try simp only [hl9_2]); (try simp only [hl9_3]); (with_reducible repeat first|refine blk_drewN ?_ _|refine blk_drew ?_|refine blk_alloc ?_ _); refine blk_far ?_ z13_28 _; (with_reducible repeat first|refine blk_drewN ?_ _|refine blk_drew ?_|refine blk_alloc ?_ _); exact BK387.out⟩, ⟨by (try simp only [hl9_2]); (try simp only [hl9_3]); (with_reducible repeat first|refine blk_drewN ?_ _|refine blk_drew ?_|refine blk_alloc ?_ _); refine blk_far ?_ z13_29 _; (with_reducible repeat first|refine blk_drewN ?_ _|refine blk_drew ?_|refine blk_alloc ?_ _); exact BK388.out⟩, ⟨by (try simp only [hl9_2]); (try simp only [hl9_3]); (with_reducible repeat first|refine blk_drewN ?_ _|refine blk_drew ?_|refine blk_alloc ?_ _); refine blk_far ?_ z13_30 _; (with_reducible repeat first|refine blk_drewN ?_ _|refine blk_drew ?_|refine blk_alloc ?_ _); exact BK398.out⟩, ⟨by repeat (first | (with_reducible first | exact HB.out | apply below_alloc | apply pw_below_drewN | apply below_drew1 | refine below_set ?_ GB117.out | refine below_set ?_ GE387.out | refine below_set ?_ GE388.out | refine below_set ?_ GE398.out) | exact HB.out)⟩⟩
              ·replace c110 := Bool.eq_false_iff.mpr c110
               subst c110
               have H1 : (impl_solve.l3 kj107 x9_3 x64_2 t433 (x9_1.length : Int) x64_2 (x9_2.length : Int) (wrap64 (x75_3 + 1)) 0 0 0 0) = some (r1, r2, r3, r4) := by rw [if_neg (show ¬ (false = true) by decide)] at H; exact H
               clear H
               have H := H1
               clear H1
               have H' := Aside0.mk H
               clear H
               go_wp2
               (try simp only [← hl9_3])
               go_roundg kj107
               case measure => have := HK1.out; have := HK2.out; have := HK3.out; have := HJ100.out; have := HJ107.out; omega
               case rel => exact ⟨(x9_3), (wrap64 (x75_3 + 1)), z13_24, H', ⟨by have := HK1.out; have := HK2.out; have := HK3.out; have := HJ100.out; have := HJ107.out; omega⟩, ⟨z13_22⟩, ⟨z13_20⟩, ⟨z13_21⟩, ⟨z13_17⟩, ⟨z13_18⟩, ⟨z13_19⟩, ⟨z13_1⟩⟩
         ·rw [if_neg c100] at H
          have c100b0 : decide (x75_3 < (x9_2.length : Int)) = false := decide_eq_false c100
          have c100b0' := c100b0; (try simp only [hl9_2] at c100b0'); (try simp only [hl9_3] at c100b0')
          clear c100
          have H' := Aside0.mk H
          clear H
          go_wp2
          (try simp only [← hl9_2, ← hl9_3])
          go_roundg k3
          case measure => have := HK1.out; have := HK2.out; have := HK3.out; omega
          case rel => exact ⟨(x9_3), (wrap64 (x64_2 + 1)), z13_24, H', ⟨z13_35⟩, ⟨z13_22⟩, ⟨z13_20⟩, ⟨z13_21⟩, ⟨z13_17⟩, ⟨z13_18⟩, ⟨z13_19⟩, ⟨z13_1⟩⟩
      ·rw [if_neg c95] at H
       have c95b0 : decide (x64_2 < (x9_1.length : Int)) = false := decide_eq_false c95
       have c95b0' := c95b0; (try simp only [hl9_2] at c95b0'); (try simp only [hl9_3] at c95b0')
       clear c95
       have H' := Aside0.mk H
       clear H
       go_wp2
       go_loopg [130] k2 (fun kq v130 w' => ∃ (x130_3 : Int) (ad : Int) (ae : Int) (af : Int) (ag : Int), v130 = .int .i64 x130_3 ∧ Aside0 (impl_solve.l4 kq x9_2 (x9_2.length : Int) x130_3 ad ae af ag = some (r1, r2, r3, r4)) ∧ Aside0 (kq ≤ k2) ∧ Aside0 (Kd.R k131 131 w' w.heap.size (fun _ => True) (.slice Ao94 x9_2.length co94) x9_2) ∧ Aside0 (Kd.R k102 102 w' w.heap.size (fun _ => True) (.slice Ao16 t392.length co16) t392) ∧ Aside0 (Kd.R (Kd.int .i64) 3 w' w.heap.size (fun _ => True) v396 t395) ∧ Aside0 (w'.heap[gb387]? = some (.cells #[.int .i64 0, .int .i64 0, .int .i64 0, .int .i64 0] 70 (0, 0))) ∧ Aside0 (w'.heap[gb388]? = some (.cells #[.int .i64 ad, .int .i64 ae, .int .i64 af, .int .i64 ag] 70 (0, 0))) ∧ Aside0 (w'.heap[gb398]? = some (.cells #[(.slice Ao16 t392.length co16), v396] 81 (0, 0))) ∧ Aside0 (Below w.heap.size w w'))
       case atStart => exact ⟨(0), (0), (0), (0), (0), z13_24, H', ⟨Nat.le_refl _⟩, ⟨z13_42⟩, ⟨z13_40⟩, ⟨z13_41⟩, ⟨z13_37⟩, ⟨z13_38⟩, ⟨z13_39⟩, ⟨z13_1⟩⟩
       case round =>
        clear H'
        try clear c1
        try clear c95
        try clear c95b0
        obtain ⟨x130_3, ad, ae, af, ag, rfl, HA, HK3, HO_128, aa, ab, BK387, BK388, BK398, HB⟩ := hrel
        cases gk with
        | zero => exact absurd HA.out (by simp [impl_solve.l4])
        | succ k3 =>
         have H := HA.out
         clear HA
         simp only [impl_solve.l4] at H
         by_cases c128 : x130_3 < (x9_2.length : Int)
         ·rw [if_pos c128] at H
          have c128b0 : decide (x130_3 < (x9_2.length : Int)) = true := decide_eq_true c128
          have c128b0' := c128b0; (try simp only [hl9_2] at c128b0'); (try simp only [hl9_3] at c128b0')
          clear c128
          obtain ⟨c129, H⟩ := ifP H
          have c129b0 : decide (0 ≤ x130_3) = true := decide_eq_true c129
          clear c129
          obtain ⟨c130, H⟩ := ifP H
          have c130b0 : decide (x130_3 < (x9_2.length : Int)) = true := decide_eq_true c130
          have c130b0' := c130b0; (try simp only [hl9_2] at c130b0'); (try simp only [hl9_3] at c130b0')
          clear c130
          replace H := Option.bind_eq_some_iff.mp H
          obtain ⟨t453, A1310, H⟩ := H
          replace H : (if t453 = 0 then (impl_solve.l4 k3 x9_2 (x9_2.length : Int) (wrap64 (x130_3 + 1)) ((rd_T131 x9_2 x130_3).f1) ae af ag) else (if t453 = 1 then (impl_solve.l4 k3 x9_2 (x9_2.length : Int) (wrap64 (x130_3 + 1)) ad ((rd_T131 x9_2 x130_3).f1) af ag) else (if t453 = 2 then (impl_solve.l4 k3 x9_2 (x9_2.length : Int) (wrap64 (x130_3 + 1)) ad ae ((rd_T131 x9_2 x130_3).f1) ag) else (if t453 = 3 then (impl_solve.l4 k3 x9_2 (x9_2.length : Int) (wrap64 (x130_3 + 1)) ad ae af ((rd_T131 x9_2 x130_3).f1)) else (none))))) = some (r1, r2, r3, r4) := H
          have A131 := Aside0.mk A1310
          clear A1310
          by_cases c132 : t453 = 0
          ·rw [if_pos c132] at H
           subst c132
           replace H : (impl_solve.l4 k3 x9_2 (x9_2.length : Int) (wrap64 (x130_3 + 1)) ((rd_T131 x9_2 x130_3).f1) ae af ag) = some (r1, r2, r3, r4) := H
           have H' := Aside0.mk H
           clear H
           have p451 : 0 ≤ (x130_3 : Int) := of_decide_eq_true z13_3
           have q451 : x130_3 < (x9_2.length : Int) := of_decide_eq_true z13_3
           obtain ⟨ad451, e451, hx451_0, hx451_1, hx451_2, hx451_3, hx451_4⟩ := at_T131 (Kd.R_reads' HO_128.out).2.2 x130_3 p451 q451
           cases e451
           replace p451 := eq_true p451
           replace q451 := eq_true q451
           try go_wp2_with (first | ((with_reducible refine gate_dst (N := 20) rfl ?_); refine box_event ?hg (N := 20) ?hd (cs := #[.int .i64 0, .int .i64 0, .int .i64 0, .int .i64 0, .int .i64 0]) (t := 131) ?hr ?_; (case hd => rfl); (case hg => rfl); (case hr => first | (go_simp; done) | (go_simp; rfl)); intro gb452 hg w133 hbox hb; replace HO_128 := Aside0.mk (Kd.R_below (Kd.R_elderB z13_27 gb452 (Nat.le_of_eq hg.symm)) hb); replace aa := Aside0.mk (Kd.R_below z13_7 hb); replace ab := Aside0.mk (Kd.R_below z13_6 hb); have BK452 := Aside0.mk (hbox); have GW452 := Aside0.mk ((by rw [hg]; exact (below_size z13_1) : w.heap.size ≤ gb452)); have GE452 := Aside0.mk ((by rw [hg]; exact (below_size z13_1) : w.heap.size ≤ gb452)); replace HB := Aside0.mk (below_step z13_1 hb); have am := Aside0.mk ((by rw [hg]; exact Nat.ne_of_lt (blk_lt (g := gb387) (o := .cells #[.int .i64 0, .int .i64 0, .int .i64 0, .int .i64 0] 70 (0, 0)) (zL13 BK387.out)) : gb387 ≠ gb452)); have an := Aside0.mk ((by rw [hg]; exact Nat.ne_of_gt (blk_lt (g := gb387) (o := .cells #[.int .i64 0, .int .i64 0, .int .i64 0, .int .i64 0] 70 (0, 0)) (zL13 BK387.out)) : gb452 ≠ gb387)); replace BK387 := Aside0.mk (blk_below (g := gb387) (o := .cells #[.int .i64 0, .int .i64 0, .int .i64 0, .int .i64 0] 70 (0, 0)) (zL13 BK387.out) hb); have ak := Aside0.mk ((by rw [hg]; exact Nat.ne_of_lt (blk_lt (g := gb388) (o := .cells #[.int .i64 ad, .int .i64 ae, .int .i64 af, .int .i64 ag] 70 (0, 0)) (zL13 BK388.out)) : gb388 ≠ gb452)); have ac := Aside0.mk ((by rw [hg]; exact Nat.ne_of_gt (blk_lt (g := gb388) (o := .cells #[.int .i64 ad, .int .i64 ae, .int .i64 af, .int .i64 ag] 70 (0, 0)) (zL13 BK388.out)) : gb452 ≠ gb388)); replace BK388 := Aside0.mk (blk_below (g := gb388) (o := .cells #[.int .i64 ad, .int .i64 ae, .int .i64 af, .int .i64 ag] 70 (0, 0)) (zL13 BK388.out) hb); have ao := Aside0.mk ((by rw [hg]; exact Nat.ne_of_lt (blk_lt (g := gb398) (o := .cells #[.slice Ao16 t392.length co16, v396] 81 (0, 0)) (zL13 BK398.out)) : gb398 ≠ gb452)); have ap := Aside0.mk ((by rw [hg]; exact Nat.ne_of_gt (blk_lt (g := gb398) (o := .cells #[.slice Ao16 t392.length co16, v396] 81 (0, 0)) (zL13 BK398.out)) : gb452 ≠ gb398)); replace BK398 := Aside0.mk (blk_below (g := gb398) (o := .cells #[.slice Ao16 t392.length co16, v396] 81 (0, 0)) (zL13 BK398.out) hb); clear hb hbox hg; have hnb134 := an.out; have hnc134 := am.out; have hnb135 := ac.out; have hnc135 := ak.out; have hnb136 := ap.out; have hnc136 := ao.out; have hcz137_0 : w133.cell? ⟨gb452, 0, none⟩ = some (.int .i64 0) := bA13 BK452 rfl; have hfz137_0 := blk_frozen BK452.out 0; have hcz138_1 : w133.cell? ⟨gb452, 1, none⟩ = some (.int .i64 0) := bA13 BK452 rfl; have hfz138_1 := blk_frozen BK452.out 1; have hcz139_2 : w133.cell? ⟨gb452, 2, none⟩ = some (.int .i64 0) := bA13 BK452 rfl; have hfz139_2 := blk_frozen BK452.out 2; have hcz140_3 : w133.cell? ⟨gb452, 3, none⟩ = some (.int .i64 0) := bA13 BK452 rfl; have hfz140_3 := blk_frozen BK452.out 3; have hcz141_4 : w133.cell? ⟨gb452, 4, none⟩ = some (.int .i64 0) := bA13 BK452 rfl; have hfz141_4 := blk_frozen BK452.out 4) | ((with_reducible refine gate_store (t := 131) (p := 20) rfl ?_); refine store_event (t := 131) (p := 20) (v := ?vo_w142) (w1 := (((((w133.setCell ⟨gb452, 0, none⟩ (.int .i64 ((rd_T131 x9_2 x130_3).f0.f0))).setCell ⟨gb452, 1, none⟩ (.int .i64 ((rd_T131 x9_2 x130_3).f0.f1))).setCell ⟨gb452, 2, none⟩ (.int .i64 ((rd_T131 x9_2 x130_3).f0.f2))).setCell ⟨gb452, 3, none⟩ (.int .i64 ((rd_T131 x9_2 x130_3).f0.f3))).setCell ⟨gb452, 4, none⟩ (.int .i64 ((rd_T131 x9_2 x130_3).f1)))) ?hg ?ho ?hn ?hr ?_; (case ho => rfl); (case hg => rfl); (case hn => rfl); (case hr => first | (go_simp; done) | (go_simp; rfl)); intro w142 hw; have n0_ : Aside0 (Kd.R k131 131 w142 w.heap.size (fun k_ => k_ ≠ gb452) (.slice (some ad451) x9_2.length co94) x9_2) := ⟨z13_11⟩; have n1_ : Aside0 (Kd.R k102 102 w142 w.heap.size (fun _ => True) (.slice Ao16 t392.length co16) t392) := ⟨z13_12⟩; have n2_ : Aside0 (Kd.R (Kd.int .i64) 3 w142 w.heap.size (fun _ => True) v396 t395) := ⟨z13_13⟩; have n3_ : Aside0 (w142.heap[gb387]? = some (.cells #[.int .i64 0, .int .i64 0, .int .i64 0, .int .i64 0] 70 (0, 0))) := ⟨z13_8⟩; have n4_ : Aside0 (w142.heap[gb388]? = some (.cells #[.int .i64 ad, .int .i64 ae, .int .i64 af, .int .i64 ag] 70 (0, 0))) := ⟨z13_9⟩; have n5_ : Aside0 (w142.heap[gb398]? = some (.cells #[.slice Ao16 t392.length co16, v396] 81 (0, 0))) := ⟨z13_10⟩; have n6_ : Aside0 (w142.heap[gb452]? = some (.cells #[.int .i64 ((rd_T131 x9_2 x130_3).f0.f0), .int .i64 ((rd_T131 x9_2 x130_3).f0.f1), .int .i64 ((rd_T131 x9_2 x130_3).f0.f2), .int .i64 ((rd_T131 x9_2 x130_3).f0.f3), .int .i64 ((rd_T131 x9_2 x130_3).f1)] 131 (0, 0))) := ⟨(by rw [hw]; exact (bZ BK452.out))⟩; have n7_ : Aside0 (Below w.heap.size w w142) := ⟨(by rw [hw]; exact z13_5)⟩; clear hw; clear HO_128; clear aa; clear ab; clear BK387; clear BK388; clear BK398; clear BK452; clear HB; have HO_128 := n0_; have aa := n1_; have ab := n2_; have BK387 := n3_; have BK388 := n4_; have BK398 := n5_; have BK452 := n6_; have HB := n7_; clear n0_ n1_ n2_ n3_ n4_ n5_ n6_ n7_))
           replace HO_128 := Aside0.mk (Kd.R_drew HO_128.out)
           replace aa := Aside0.mk (Kd.R_drew aa.out)
           replace ab := Aside0.mk (Kd.R_drew ab.out)
           replace BK387 := Aside0.mk (blk_drew BK387.out)
           replace BK388 := Aside0.mk (blk_drew BK388.out)
           replace BK398 := Aside0.mk (blk_drew BK398.out)
           replace BK452 := Aside0.mk (blk_drew BK452.out)
           replace HB := Aside0.mk (below_drew1 HB.out)
           refine start_ (n := 7) (S := fun w' => w'.cell? ⟨gb452, 0, none⟩ = some (.int .i64 ((rd_T131 x9_2 x130_3).f0.f0)) ∧ w'.cell? ⟨gb452, 1, none⟩ = some (.int .i64 ((rd_T131 x9_2 x130_3).f0.f1)) ∧ w'.cell? ⟨gb452, 2, none⟩ = some (.int .i64 ((rd_T131 x9_2 x130_3).f0.f2)) ∧ w'.cell? ⟨gb452, 3, none⟩ = some (.int .i64 ((rd_T131 x9_2 x130_3).f0.f3)) ∧ w'.cell? ⟨gb452, 4, none⟩ = some (.int .i64 ((rd_T131 x9_2 x130_3).f1))) (ds := []) #[false, false, false, false, false, false, false] (by kernel_rfl) rfl rfl ⟨bA13 BK452 rfl, bA13 BK452 rfl, bA13 BK452 rfl, bA13 BK452 rfl, bA13 BK452 rfl⟩ (fun hHeld => ?_)
           generalize w142.drew = w143 at HO_128 aa ab BK387 BK388 BK398 BK452 HB hHeld ⊢
           refine pure_ (i := 0) (N := some 134) (v := ?_) (a' := ?_) #[true, false, false, false, false, false, false] rfl rfl (by kernel_rfl) (fun _ _ _ h => h) (Or.inl ⟨by rfl, ?_⟩) ?_ ?_
           rotate_left
           ·intro w'
            go_simp
            with_reducible rfl
           rotate_left
           ·simp only [Act.put, zs13, zc13, zd13, i64_w, i32_w]
            rfl
           refine pure_ (i := 3) (N := some 137) (v := ?_) (a' := ?_) #[true, false, false, true, false, false, false] rfl rfl (by kernel_rfl) (fun _ _ _ h => h) (Or.inl ⟨by rfl, ?_⟩) ?_ ?_
           rotate_left
           ·intro w'
            go_simp
            with_reducible rfl
           rotate_left
           ·simp only [Act.put, zs13, zc13, zd13, i64_w, i32_w]
            rfl
           refine take_ (i := 1) (N := some 135) (v := ?_) (a' := ?_) #[true, true, false, true, false, false, false] rfl rfl (by kernel_rfl) (fun _ _ _ h => h) (Or.inl ⟨by rfl, ?_⟩) hHeld ?_ ?_
           rotate_left
           ·rintro w' ⟨s0, s1, s2, s3, s4⟩
            go_simp
            with_reducible rfl
           rotate_left
           ·simp only [Act.put, zs13, zc13, zd13, i64_w, i32_w]
            rfl
           refine take_ (i := 4) (N := some 138) (v := ?_) (a' := ?_) #[true, true, false, true, true, false, false] rfl rfl (by kernel_rfl) (fun _ _ _ h => h) (Or.inl ⟨by rfl, ?_⟩) hHeld ?_ ?_
           rotate_left
           ·rintro w' ⟨s0, s1, s2, s3, s4⟩
            go_simp
            with_reducible rfl
           rotate_left
           ·simp only [Act.put, zs13, zc13, zd13, i64_w, i32_w]
            rfl
           refine one_ (i := 2) (N := some 136) #[true, true, true, true, true, false, false] rfl rfl (by kernel_rfl) (by decide) (fun K hK => ?_)
           refine goes_ Try.func60 (by kernel_rfl) rfl #[.agg #[.int .i64 ((rd_T131 x9_2 x130_3).f0.f0), .int .i64 ((rd_T131 x9_2 x130_3).f0.f1), .int .i64 ((rd_T131 x9_2 x130_3).f0.f2), .int .i64 ((rd_T131 x9_2 x130_3).f0.f3)]] (by rfl) rfl rfl z13_2 ?_
           with_reducible refine (impl_vector_lead.calls ((rd_T131 x9_2 x130_3).f0.f0) ((rd_T131 x9_2 x130_3).f0.f1) ((rd_T131 x9_2 x130_3).f0.f2) ((rd_T131 x9_2 x130_3).f0.f3) (0 : Int) _ A131.out).mono ?_
           rintro e w144 ⟨rfl, hb⟩
           refine ⟨_, rfl, ?_⟩
           replace HO_128 := Aside0.mk (Kd.R_below z13_27 hb)
           replace aa := Aside0.mk (Kd.R_below z13_7 hb)
           replace ab := Aside0.mk (Kd.R_below z13_6 hb)
           replace BK387 := Aside0.mk (blk_below (g := gb387) (o := .cells #[.int .i64 0, .int .i64 0, .int .i64 0, .int .i64 0] 70 (0, 0)) (zL13 BK387.out) hb)
           replace BK388 := Aside0.mk (blk_below (g := gb388) (o := .cells #[.int .i64 ad, .int .i64 ae, .int .i64 af, .int .i64 ag] 70 (0, 0)) (zL13 BK388.out) hb)
           replace BK398 := Aside0.mk (blk_below (g := gb398) (o := .cells #[.slice Ao16 t392.length co16, v396] 81 (0, 0)) (zL13 BK398.out) hb)
           replace BK452 := Aside0.mk (blk_below (g := gb452) (o := .cells #[.int .i64 ((rd_T131 x9_2 x130_3).f0.f0), .int .i64 ((rd_T131 x9_2 x130_3).f0.f1), .int .i64 ((rd_T131 x9_2 x130_3).f0.f2), .int .i64 ((rd_T131 x9_2 x130_3).f0.f3), .int .i64 ((rd_T131 x9_2 x130_3).f1)] 131 (0, 0)) (zL13 BK452.out) hb)
           replace HB := Aside0.mk (below_step z13_5 hb)
           (try clear hb)
           (try clear hb2)
           (try clear hk)
           (try clear hi)
           refine hK.out _ _ ⟨bA13 BK452 rfl, bA13 BK452 rfl, bA13 BK452 rfl, bA13 BK452 rfl, bA13 BK452 rfl⟩ (fun hHeld => ?_)
           clear hK K
           refine nZ ?_
           refine pure_ (i := 5) (N := some 139) (v := ?_) (a' := ?_) #[true, true, true, true, true, true, false] rfl rfl (by kernel_rfl) (fun _ _ _ h => h) (Or.inl ⟨by rfl, ?_⟩) ?_ ?_
           rotate_left
           ·intro w'
            go_simp
            with_reducible rfl
           rotate_left
           ·simp only [Act.put, zs13, zc13, zd13, i64_w, i32_w]
            rfl
           refine one_ (i := 6) (N := none) #[true, true, true, true, true, true, true] rfl rfl (by kernel_rfl) (by decide) (fun K hK => ?_)
           have hs145 : w144.cell? ⟨gb388, 0, none⟩ = some (.int .i64 ad) := bA13 BK388 rfl
           have hfs145 := blk_frozen BK388.out 0
           have hns145_0 := av.out
           have hns145_2 := au.out
           have hns145_3 := ac.out
           have hms145_0 := al.out
           have hms145_2 := ar.out
           have hms145_3 := ak.out
           refine skip_ (w1 := ?_) (by rfl) rfl ?_ ?_
           rotate_left
           ·go_simp
            rfl
           refine hK.out _ _ ⟨((cell_far (p := ⟨gb388, _, none⟩) ac.out _).trans (hHeld.1)), ((cell_far (p := ⟨gb388, _, none⟩) ac.out _).trans (hHeld.2.1)), ((cell_far (p := ⟨gb388, _, none⟩) ac.out _).trans (hHeld.2.2.1)), ((cell_far (p := ⟨gb388, _, none⟩) ac.out _).trans (hHeld.2.2.2.1)), ((cell_far (p := ⟨gb388, _, none⟩) ac.out _).trans (hHeld.2.2.2.2))⟩ (fun hHeld => ?_)
           clear hK K
           refine done_ (by kernel_rfl) ?_
           try go_wp2
           go_roundg k3
           case measure => have := HK1.out; have := HK2.out; have := HK3.out; omega
           case rel => exact ⟨(wrap64 (x130_3 + 1)), ((rd_T131 x9_2 x130_3).f1), (ae), (af), (ag), z13_24, H', ⟨z13_35⟩, ⟨by (try simp only [hl9_2]); (with_reducible repeat (first | apply Kd.R_alloc | apply Kd.R_drewN | apply Kd.R_drew)); exact Kd.R_mono (Kd.R_far (p := ⟨gb388, 0, none⟩) (Kd.R_types HO_128.out BK388.out (by decide)) (fun _ hk => hk.2) (.int .i64 ((rd_T131 x9_2 x130_3).f1))) (fun _ hk => trivial)⟩, ⟨by (try simp only [hl9_2]); (with_reducible repeat (first | apply Kd.R_alloc | apply Kd.R_drewN | apply Kd.R_drew)); exact Kd.R_mono (Kd.R_far (p := ⟨gb388, 0, none⟩) (Kd.R_types aa.out BK388.out (by decide)) (fun _ hk => hk.2) (.int .i64 ((rd_T131 x9_2 x130_3).f1))) (fun _ hk => trivial)⟩, ⟨by (try simp only [hl9_2]); (with_reducible repeat (first | apply Kd.R_alloc | apply Kd.R_drewN | apply Kd.R_drew)); exact Kd.R_mono (Kd.R_far (p := ⟨gb388, 0, none⟩) (Kd.R_types ab.out BK388.out (by decide)) (fun _ hk => hk.2) (.int .i64 ((rd_T131 x9_2 x130_3).f1))) (fun _ hk => trivial)⟩, ⟨z13_25⟩, ⟨by (try simp only [hl9_2]); (with_reducible repeat first|refine blk_drewN ?_ _|refine blk_drew ?_|refine blk_alloc ?_ _); refine blk_put (cs := #[.int .i64 ad, .int .i64 ae, .int .i64 af, .int .i64 ag]) ?_ 0 _ rfl; (with_reducible repeat first|refine blk_drewN ?_ _|refine blk_drew ?_|refine blk_alloc ?_ _); exact BK388.out⟩, ⟨z13_26⟩, ⟨z13_5⟩⟩
          ·rw [if_neg c132] at H
           clear c132
           by_cases c146 : t453 = 1
           ·rw [if_pos c146] at H
            subst c146
            replace H : (impl_solve.l4 k3 x9_2 (x9_2.length : Int) (wrap64 (x130_3 + 1)) ad ((rd_T131 x9_2 x130_3).f1) af ag) = some (r1, r2, r3, r4) := H
            have H' := Aside0.mk H
            clear H
            have p451 : 0 ≤ (x130_3 : Int) := of_decide_eq_true z13_3
            have q451 : x130_3 < (x9_2.length : Int) := of_decide_eq_true z13_3
            obtain ⟨ad451, e451, hx451_0, hx451_1, hx451_2, hx451_3, hx451_4⟩ := at_T131 (Kd.R_reads' HO_128.out).2.2 x130_3 p451 q451
            cases e451
            replace p451 := eq_true p451
            replace q451 := eq_true q451
            try go_wp2_with (first | ((with_reducible refine gate_dst (N := 20) rfl ?_); refine box_event ?hg (N := 20) ?hd (cs := #[.int .i64 0, .int .i64 0, .int .i64 0, .int .i64 0, .int .i64 0]) (t := 131) ?hr ?_; (case hd => rfl); (case hg => rfl); (case hr => first | (go_simp; done) | (go_simp; rfl)); intro gb452 hg w147 hbox hb; replace HO_128 := Aside0.mk (Kd.R_below (Kd.R_elderB z13_27 gb452 (Nat.le_of_eq hg.symm)) hb); replace aa := Aside0.mk (Kd.R_below z13_7 hb); replace ab := Aside0.mk (Kd.R_below z13_6 hb); have BK452 := Aside0.mk (hbox); have GW452 := Aside0.mk ((by rw [hg]; exact (below_size z13_1) : w.heap.size ≤ gb452)); have GE452 := Aside0.mk ((by rw [hg]; exact (below_size z13_1) : w.heap.size ≤ gb452)); replace HB := Aside0.mk (below_step z13_1 hb); have am := Aside0.mk ((by rw [hg]; exact Nat.ne_of_lt (blk_lt (g := gb387) (o := .cells #[.int .i64 0, .int .i64 0, .int .i64 0, .int .i64 0] 70 (0, 0)) (zL13 BK387.out)) : gb387 ≠ gb452)); have an := Aside0.mk ((by rw [hg]; exact Nat.ne_of_gt (blk_lt (g := gb387) (o := .cells #[.int .i64 0, .int .i64 0, .int .i64 0, .int .i64 0] 70 (0, 0)) (zL13 BK387.out)) : gb452 ≠ gb387)); replace BK387 := Aside0.mk (blk_below (g := gb387) (o := .cells #[.int .i64 0, .int .i64 0, .int .i64 0, .int .i64 0] 70 (0, 0)) (zL13 BK387.out) hb); have ak := Aside0.mk ((by rw [hg]; exact Nat.ne_of_lt (blk_lt (g := gb388) (o := .cells #[.int .i64 ad, .int .i64 ae, .int .i64 af, .int .i64 ag] 70 (0, 0)) (zL13 BK388.out)) : gb388 ≠ gb452)); have ac := Aside0.mk ((by rw [hg]; exact Nat.ne_of_gt (blk_lt (g := gb388) (o := .cells #[.int .i64 ad, .int .i64 ae, .int .i64 af, .int .i64 ag] 70 (0, 0)) (zL13 BK388.out)) : gb452 ≠ gb388)); replace BK388 := Aside0.mk (blk_below (g := gb388) (o := .cells #[.int .i64 ad, .int .i64 ae, .int .i64 af, .int .i64 ag] 70 (0, 0)) (zL13 BK388.out) hb); have ao := Aside0.mk ((by rw [hg]; exact Nat.ne_of_lt (blk_lt (g := gb398) (o := .cells #[.slice Ao16 t392.length co16, v396] 81 (0, 0)) (zL13 BK398.out)) : gb398 ≠ gb452)); have ap := Aside0.mk ((by rw [hg]; exact Nat.ne_of_gt (blk_lt (g := gb398) (o := .cells #[.slice Ao16 t392.length co16, v396] 81 (0, 0)) (zL13 BK398.out)) : gb452 ≠ gb398)); replace BK398 := Aside0.mk (blk_below (g := gb398) (o := .cells #[.slice Ao16 t392.length co16, v396] 81 (0, 0)) (zL13 BK398.out) hb); clear hb hbox hg; have hnb148 := an.out; have hnc148 := am.out; have hnb149 := ac.out; have hnc149 := ak.out; have hnb150 := ap.out; have hnc150 := ao.out; have hcz151_0 : w147.cell? ⟨gb452, 0, none⟩ = some (.int .i64 0) := bA13 BK452 rfl; have hfz151_0 := blk_frozen BK452.out 0; have hcz152_1 : w147.cell? ⟨gb452, 1, none⟩ = some (.int .i64 0) := bA13 BK452 rfl; have hfz152_1 := blk_frozen BK452.out 1; have hcz153_2 : w147.cell? ⟨gb452, 2, none⟩ = some (.int .i64 0) := bA13 BK452 rfl; have hfz153_2 := blk_frozen BK452.out 2; have hcz154_3 : w147.cell? ⟨gb452, 3, none⟩ = some (.int .i64 0) := bA13 BK452 rfl; have hfz154_3 := blk_frozen BK452.out 3; have hcz155_4 : w147.cell? ⟨gb452, 4, none⟩ = some (.int .i64 0) := bA13 BK452 rfl; have hfz155_4 := blk_frozen BK452.out 4) | ((with_reducible refine gate_store (t := 131) (p := 20) rfl ?_); refine store_event (t := 131) (p := 20) (v := ?vo_w156) (w1 := (((((w147.setCell ⟨gb452, 0, none⟩ (.int .i64 ((rd_T131 x9_2 x130_3).f0.f0))).setCell ⟨gb452, 1, none⟩ (.int .i64 ((rd_T131 x9_2 x130_3).f0.f1))).setCell ⟨gb452, 2, none⟩ (.int .i64 ((rd_T131 x9_2 x130_3).f0.f2))).setCell ⟨gb452, 3, none⟩ (.int .i64 ((rd_T131 x9_2 x130_3).f0.f3))).setCell ⟨gb452, 4, none⟩ (.int .i64 ((rd_T131 x9_2 x130_3).f1)))) ?hg ?ho ?hn ?hr ?_; (case ho => rfl); (case hg => rfl); (case hn => rfl); (case hr => first | (go_simp; done) | (go_simp; rfl)); intro w156 hw; have n0_ : Aside0 (Kd.R k131 131 w156 w.heap.size (fun k_ => k_ ≠ gb452) (.slice (some ad451) x9_2.length co94) x9_2) := ⟨z13_11⟩; have n1_ : Aside0 (Kd.R k102 102 w156 w.heap.size (fun _ => True) (.slice Ao16 t392.length co16) t392) := ⟨z13_12⟩; have n2_ : Aside0 (Kd.R (Kd.int .i64) 3 w156 w.heap.size (fun _ => True) v396 t395) := ⟨z13_13⟩; have n3_ : Aside0 (w156.heap[gb387]? = some (.cells #[.int .i64 0, .int .i64 0, .int .i64 0, .int .i64 0] 70 (0, 0))) := ⟨z13_8⟩; have n4_ : Aside0 (w156.heap[gb388]? = some (.cells #[.int .i64 ad, .int .i64 ae, .int .i64 af, .int .i64 ag] 70 (0, 0))) := ⟨z13_9⟩; have n5_ : Aside0 (w156.heap[gb398]? = some (.cells #[.slice Ao16 t392.length co16, v396] 81 (0, 0))) := ⟨z13_10⟩; have n6_ : Aside0 (w156.heap[gb452]? = some (.cells #[.int .i64 ((rd_T131 x9_2 x130_3).f0.f0), .int .i64 ((rd_T131 x9_2 x130_3).f0.f1), .int .i64 ((rd_T131 x9_2 x130_3).f0.f2), .int .i64 ((rd_T131 x9_2 x130_3).f0.f3), .int .i64 ((rd_T131 x9_2 x130_3).f1)] 131 (0, 0))) := ⟨(by rw [hw]; exact (bZ BK452.out))⟩; have n7_ : Aside0 (Below w.heap.size w w156) := ⟨(by rw [hw]; exact z13_5)⟩; clear hw; clear HO_128; clear aa; clear ab; clear BK387; clear BK388; clear BK398; clear BK452; clear HB; have HO_128 := n0_; have aa := n1_; have ab := n2_; have BK387 := n3_; have BK388 := n4_; have BK398 := n5_; have BK452 := n6_; have HB := n7_; clear n0_ n1_ n2_ n3_ n4_ n5_ n6_ n7_))
            replace HO_128 := Aside0.mk (Kd.R_drew HO_128.out)
            replace aa := Aside0.mk (Kd.R_drew aa.out)
            replace ab := Aside0.mk (Kd.R_drew ab.out)
            replace BK387 := Aside0.mk (blk_drew BK387.out)
            replace BK388 := Aside0.mk (blk_drew BK388.out)
            replace BK398 := Aside0.mk (blk_drew BK398.out)
            replace BK452 := Aside0.mk (blk_drew BK452.out)
            replace HB := Aside0.mk (below_drew1 HB.out)
            refine start_ (n := 7) (S := fun w' => w'.cell? ⟨gb452, 0, none⟩ = some (.int .i64 ((rd_T131 x9_2 x130_3).f0.f0)) ∧ w'.cell? ⟨gb452, 1, none⟩ = some (.int .i64 ((rd_T131 x9_2 x130_3).f0.f1)) ∧ w'.cell? ⟨gb452, 2, none⟩ = some (.int .i64 ((rd_T131 x9_2 x130_3).f0.f2)) ∧ w'.cell? ⟨gb452, 3, none⟩ = some (.int .i64 ((rd_T131 x9_2 x130_3).f0.f3)) ∧ w'.cell? ⟨gb452, 4, none⟩ = some (.int .i64 ((rd_T131 x9_2 x130_3).f1))) (ds := []) #[false, false, false, false, false, false, false] (by kernel_rfl) rfl rfl ⟨bA13 BK452 rfl, bA13 BK452 rfl, bA13 BK452 rfl, bA13 BK452 rfl, bA13 BK452 rfl⟩ (fun hHeld => ?_)
            generalize w156.drew = w157 at HO_128 aa ab BK387 BK388 BK398 BK452 HB hHeld ⊢
            refine pure_ (i := 0) (N := some 134) (v := ?_) (a' := ?_) #[true, false, false, false, false, false, false] rfl rfl (by kernel_rfl) (fun _ _ _ h => h) (Or.inl ⟨by rfl, ?_⟩) ?_ ?_
            rotate_left
            ·intro w'
             go_simp
             with_reducible rfl
            rotate_left
            ·simp only [Act.put, zs13, zc13, zd13, i64_w, i32_w]
             rfl
            refine pure_ (i := 3) (N := some 137) (v := ?_) (a' := ?_) #[true, false, false, true, false, false, false] rfl rfl (by kernel_rfl) (fun _ _ _ h => h) (Or.inl ⟨by rfl, ?_⟩) ?_ ?_
            rotate_left
            ·intro w'
             go_simp
             with_reducible rfl
            rotate_left
            ·simp only [Act.put, zs13, zc13, zd13, i64_w, i32_w]
             rfl
            refine take_ (i := 1) (N := some 135) (v := ?_) (a' := ?_) #[true, true, false, true, false, false, false] rfl rfl (by kernel_rfl) (fun _ _ _ h => h) (Or.inl ⟨by rfl, ?_⟩) hHeld ?_ ?_
            rotate_left
            ·rintro w' ⟨s0, s1, s2, s3, s4⟩
             go_simp
             with_reducible rfl
            rotate_left
            ·simp only [Act.put, zs13, zc13, zd13, i64_w, i32_w]
             rfl
            refine take_ (i := 4) (N := some 138) (v := ?_) (a' := ?_) #[true, true, false, true, true, false, false] rfl rfl (by kernel_rfl) (fun _ _ _ h => h) (Or.inl ⟨by rfl, ?_⟩) hHeld ?_ ?_
            rotate_left
            ·rintro w' ⟨s0, s1, s2, s3, s4⟩
             go_simp
             with_reducible rfl
            rotate_left
            ·simp only [Act.put, zs13, zc13, zd13, i64_w, i32_w]
             rfl
            refine one_ (i := 2) (N := some 136) #[true, true, true, true, true, false, false] rfl rfl (by kernel_rfl) (by decide) (fun K hK => ?_)
            refine goes_ Try.func60 (by kernel_rfl) rfl #[.agg #[.int .i64 ((rd_T131 x9_2 x130_3).f0.f0), .int .i64 ((rd_T131 x9_2 x130_3).f0.f1), .int .i64 ((rd_T131 x9_2 x130_3).f0.f2), .int .i64 ((rd_T131 x9_2 x130_3).f0.f3)]] (by rfl) rfl rfl z13_2 ?_
            with_reducible refine (impl_vector_lead.calls ((rd_T131 x9_2 x130_3).f0.f0) ((rd_T131 x9_2 x130_3).f0.f1) ((rd_T131 x9_2 x130_3).f0.f2) ((rd_T131 x9_2 x130_3).f0.f3) (1 : Int) _ A131.out).mono ?_
            rintro e w158 ⟨rfl, hb⟩
            refine ⟨_, rfl, ?_⟩
            replace HO_128 := Aside0.mk (Kd.R_below z13_27 hb)
            replace aa := Aside0.mk (Kd.R_below z13_7 hb)
            replace ab := Aside0.mk (Kd.R_below z13_6 hb)
            replace BK387 := Aside0.mk (blk_below (g := gb387) (o := .cells #[.int .i64 0, .int .i64 0, .int .i64 0, .int .i64 0] 70 (0, 0)) (zL13 BK387.out) hb)
            replace BK388 := Aside0.mk (blk_below (g := gb388) (o := .cells #[.int .i64 ad, .int .i64 ae, .int .i64 af, .int .i64 ag] 70 (0, 0)) (zL13 BK388.out) hb)
            replace BK398 := Aside0.mk (blk_below (g := gb398) (o := .cells #[.slice Ao16 t392.length co16, v396] 81 (0, 0)) (zL13 BK398.out) hb)
            replace BK452 := Aside0.mk (blk_below (g := gb452) (o := .cells #[.int .i64 ((rd_T131 x9_2 x130_3).f0.f0), .int .i64 ((rd_T131 x9_2 x130_3).f0.f1), .int .i64 ((rd_T131 x9_2 x130_3).f0.f2), .int .i64 ((rd_T131 x9_2 x130_3).f0.f3), .int .i64 ((rd_T131 x9_2 x130_3).f1)] 131 (0, 0)) (zL13 BK452.out) hb)
            replace HB := Aside0.mk (below_step z13_5 hb)
            (try clear hb)
            (try clear hb2)
            (try clear hk)
            (try clear hi)
            refine hK.out _ _ ⟨bA13 BK452 rfl, bA13 BK452 rfl, bA13 BK452 rfl, bA13 BK452 rfl, bA13 BK452 rfl⟩ (fun hHeld => ?_)
            clear hK K
            refine nZ ?_
            refine pure_ (i := 5) (N := some 139) (v := ?_) (a' := ?_) #[true, true, true, true, true, true, false] rfl rfl (by kernel_rfl) (fun _ _ _ h => h) (Or.inl ⟨by rfl, ?_⟩) ?_ ?_
            rotate_left
            ·intro w'
             go_simp
             with_reducible rfl
            rotate_left
            ·simp only [Act.put, zs13, zc13, zd13, i64_w, i32_w]
             rfl
            refine one_ (i := 6) (N := none) #[true, true, true, true, true, true, true] rfl rfl (by kernel_rfl) (by decide) (fun K hK => ?_)
            have hs159 : w158.cell? ⟨gb388, 1, none⟩ = some (.int .i64 ae) := bA13 BK388 rfl
            have hfs159 := blk_frozen BK388.out 1
            have hns159_0 := av.out
            have hns159_2 := au.out
            have hns159_3 := ac.out
            have hms159_0 := al.out
            have hms159_2 := ar.out
            have hms159_3 := ak.out
            refine skip_ (w1 := ?_) (by rfl) rfl ?_ ?_
            rotate_left
            ·go_simp
             rfl
            refine hK.out _ _ ⟨((cell_far (p := ⟨gb388, _, none⟩) ac.out _).trans (hHeld.1)), ((cell_far (p := ⟨gb388, _, none⟩) ac.out _).trans (hHeld.2.1)), ((cell_far (p := ⟨gb388, _, none⟩) ac.out _).trans (hHeld.2.2.1)), ((cell_far (p := ⟨gb388, _, none⟩) ac.out _).trans (hHeld.2.2.2.1)), ((cell_far (p := ⟨gb388, _, none⟩) ac.out _).trans (hHeld.2.2.2.2))⟩ (fun hHeld => ?_)
            clear hK K
            refine done_ (by kernel_rfl) ?_
            try go_wp2
            go_roundg k3
            case measure => have := HK1.out; have := HK2.out; have := HK3.out; omega
            case rel => exact ⟨(wrap64 (x130_3 + 1)), (ad), ((rd_T131 x9_2 x130_3).f1), (af), (ag), z13_24, H', ⟨z13_35⟩, ⟨by (try simp only [hl9_2]); (with_reducible repeat (first | apply Kd.R_alloc | apply Kd.R_drewN | apply Kd.R_drew)); exact Kd.R_mono (Kd.R_far (p := ⟨gb388, 1, none⟩) (Kd.R_types HO_128.out BK388.out (by decide)) (fun _ hk => hk.2) (.int .i64 ((rd_T131 x9_2 x130_3).f1))) (fun _ hk => trivial)⟩, ⟨by (try simp only [hl9_2]); (with_reducible repeat (first | apply Kd.R_alloc | apply Kd.R_drewN | apply Kd.R_drew)); exact Kd.R_mono (Kd.R_far (p := ⟨gb388, 1, none⟩) (Kd.R_types aa.out BK388.out (by decide)) (fun _ hk => hk.2) (.int .i64 ((rd_T131 x9_2 x130_3).f1))) (fun _ hk => trivial)⟩, ⟨by (try simp only [hl9_2]); (with_reducible repeat (first | apply Kd.R_alloc | apply Kd.R_drewN | apply Kd.R_drew)); exact Kd.R_mono (Kd.R_far (p := ⟨gb388, 1, none⟩) (Kd.R_types ab.out BK388.out (by decide)) (fun _ hk => hk.2) (.int .i64 ((rd_T131 x9_2 x130_3).f1))) (fun _ hk => trivial)⟩, ⟨z13_25⟩, ⟨by (try simp only [hl9_2]); (with_reducible repeat first|refine blk_drewN ?_ _|refine blk_drew ?_|refine blk_alloc ?_ _); refine blk_put (cs := #[.int .i64 ad, .int .i64 ae, .int .i64 af, .int .i64 ag]) ?_ 1 _ rfl; (with_reducible repeat first|refine blk_drewN ?_ _|refine blk_drew ?_|refine blk_alloc ?_ _); exact BK388.out⟩, ⟨z13_26⟩, ⟨z13_5⟩⟩
           ·rw [if_neg c146] at H
            clear c146
            by_cases c160 : t453 = 2
            ·rw [if_pos c160] at H
             subst c160
             replace H : (impl_solve.l4 k3 x9_2 (x9_2.length : Int) (wrap64 (x130_3 + 1)) ad ae ((rd_T131 x9_2 x130_3).f1) ag) = some (r1, r2, r3, r4) := H
             have H' := Aside0.mk H
             clear H
             have p451 : 0 ≤ (x130_3 : Int) := of_decide_eq_true z13_3
             have q451 : x130_3 < (x9_2.length : Int) := of_decide_eq_true z13_3
             obtain ⟨ad451, e451, hx451_0, hx451_1, hx451_2, hx451_3, hx451_4⟩ := at_T131 (Kd.R_reads' HO_128.out).2.2 x130_3 p451 q451
             cases e451
             replace p451 := eq_true p451
             replace q451 := eq_true q451
             try go_wp2_with (first | ((with_reducible refine gate_dst (N := 20) rfl ?_); refine box_event ?hg (N := 20) ?hd (cs := #[.int .i64 0, .int .i64 0, .int .i64 0, .int .i64 0, .int .i64 0]) (t := 131) ?hr ?_; (case hd => rfl); (case hg => rfl); (case hr => first | (go_simp; done) | (go_simp; rfl)); intro gb452 hg w161 hbox hb; replace HO_128 := Aside0.mk (Kd.R_below (Kd.R_elderB z13_27 gb452 (Nat.le_of_eq hg.symm)) hb); replace aa := Aside0.mk (Kd.R_below z13_7 hb); replace ab := Aside0.mk (Kd.R_below z13_6 hb); have BK452 := Aside0.mk (hbox); have GW452 := Aside0.mk ((by rw [hg]; exact (below_size z13_1) : w.heap.size ≤ gb452)); have GE452 := Aside0.mk ((by rw [hg]; exact (below_size z13_1) : w.heap.size ≤ gb452)); replace HB := Aside0.mk (below_step z13_1 hb); have am := Aside0.mk ((by rw [hg]; exact Nat.ne_of_lt (blk_lt (g := gb387) (o := .cells #[.int .i64 0, .int .i64 0, .int .i64 0, .int .i64 0] 70 (0, 0)) (zL13 BK387.out)) : gb387 ≠ gb452)); have an := Aside0.mk ((by rw [hg]; exact Nat.ne_of_gt (blk_lt (g := gb387) (o := .cells #[.int .i64 0, .int .i64 0, .int .i64 0, .int .i64 0] 70 (0, 0)) (zL13 BK387.out)) : gb452 ≠ gb387)); replace BK387 := Aside0.mk (blk_below (g := gb387) (o := .cells #[.int .i64 0, .int .i64 0, .int .i64 0, .int .i64 0] 70 (0, 0)) (zL13 BK387.out) hb); have ak := Aside0.mk ((by rw [hg]; exact Nat.ne_of_lt (blk_lt (g := gb388) (o := .cells #[.int .i64 ad, .int .i64 ae, .int .i64 af, .int .i64 ag] 70 (0, 0)) (zL13 BK388.out)) : gb388 ≠ gb452)); have ac := Aside0.mk ((by rw [hg]; exact Nat.ne_of_gt (blk_lt (g := gb388) (o := .cells #[.int .i64 ad, .int .i64 ae, .int .i64 af, .int .i64 ag] 70 (0, 0)) (zL13 BK388.out)) : gb452 ≠ gb388)); replace BK388 := Aside0.mk (blk_below (g := gb388) (o := .cells #[.int .i64 ad, .int .i64 ae, .int .i64 af, .int .i64 ag] 70 (0, 0)) (zL13 BK388.out) hb); have ao := Aside0.mk ((by rw [hg]; exact Nat.ne_of_lt (blk_lt (g := gb398) (o := .cells #[.slice Ao16 t392.length co16, v396] 81 (0, 0)) (zL13 BK398.out)) : gb398 ≠ gb452)); have ap := Aside0.mk ((by rw [hg]; exact Nat.ne_of_gt (blk_lt (g := gb398) (o := .cells #[.slice Ao16 t392.length co16, v396] 81 (0, 0)) (zL13 BK398.out)) : gb452 ≠ gb398)); replace BK398 := Aside0.mk (blk_below (g := gb398) (o := .cells #[.slice Ao16 t392.length co16, v396] 81 (0, 0)) (zL13 BK398.out) hb); clear hb hbox hg; have hnb162 := an.out; have hnc162 := am.out; have hnb163 := ac.out; have hnc163 := ak.out; have hnb164 := ap.out; have hnc164 := ao.out; have hcz165_0 : w161.cell? ⟨gb452, 0, none⟩ = some (.int .i64 0) := bA13 BK452 rfl; have hfz165_0 := blk_frozen BK452.out 0; have hcz166_1 : w161.cell? ⟨gb452, 1, none⟩ = some (.int .i64 0) := bA13 BK452 rfl; have hfz166_1 := blk_frozen BK452.out 1; have hcz167_2 : w161.cell? ⟨gb452, 2, none⟩ = some (.int .i64 0) := bA13 BK452 rfl; have hfz167_2 := blk_frozen BK452.out 2; have hcz168_3 : w161.cell? ⟨gb452, 3, none⟩ = some (.int .i64 0) := bA13 BK452 rfl; have hfz168_3 := blk_frozen BK452.out 3; have hcz169_4 : w161.cell? ⟨gb452, 4, none⟩ = some (.int .i64 0) := bA13 BK452 rfl; have hfz169_4 := blk_frozen BK452.out 4) | ((with_reducible refine gate_store (t := 131) (p := 20) rfl ?_); refine store_event (t := 131) (p := 20) (v := ?vo_w170) (w1 := (((((w161.setCell ⟨gb452, 0, none⟩ (.int .i64 ((rd_T131 x9_2 x130_3).f0.f0))).setCell ⟨gb452, 1, none⟩ (.int .i64 ((rd_T131 x9_2 x130_3).f0.f1))).setCell ⟨gb452, 2, none⟩ (.int .i64 ((rd_T131 x9_2 x130_3).f0.f2))).setCell ⟨gb452, 3, none⟩ (.int .i64 ((rd_T131 x9_2 x130_3).f0.f3))).setCell ⟨gb452, 4, none⟩ (.int .i64 ((rd_T131 x9_2 x130_3).f1)))) ?hg ?ho ?hn ?hr ?_; (case ho => rfl); (case hg => rfl); (case hn => rfl); (case hr => first | (go_simp; done) | (go_simp; rfl)); intro w170 hw; have n0_ : Aside0 (Kd.R k131 131 w170 w.heap.size (fun k_ => k_ ≠ gb452) (.slice (some ad451) x9_2.length co94) x9_2) := ⟨z13_11⟩; have n1_ : Aside0 (Kd.R k102 102 w170 w.heap.size (fun _ => True) (.slice Ao16 t392.length co16) t392) := ⟨z13_12⟩; have n2_ : Aside0 (Kd.R (Kd.int .i64) 3 w170 w.heap.size (fun _ => True) v396 t395) := ⟨z13_13⟩; have n3_ : Aside0 (w170.heap[gb387]? = some (.cells #[.int .i64 0, .int .i64 0, .int .i64 0, .int .i64 0] 70 (0, 0))) := ⟨z13_8⟩; have n4_ : Aside0 (w170.heap[gb388]? = some (.cells #[.int .i64 ad, .int .i64 ae, .int .i64 af, .int .i64 ag] 70 (0, 0))) := ⟨z13_9⟩; have n5_ : Aside0 (w170.heap[gb398]? = some (.cells #[.slice Ao16 t392.length co16, v396] 81 (0, 0))) := ⟨z13_10⟩; have n6_ : Aside0 (w170.heap[gb452]? = some (.cells #[.int .i64 ((rd_T131 x9_2 x130_3).f0.f0), .int .i64 ((rd_T131 x9_2 x130_3).f0.f1), .int .i64 ((rd_T131 x9_2 x130_3).f0.f2), .int .i64 ((rd_T131 x9_2 x130_3).f0.f3), .int .i64 ((rd_T131 x9_2 x130_3).f1)] 131 (0, 0))) := ⟨(by rw [hw]; exact (bZ BK452.out))⟩; have n7_ : Aside0 (Below w.heap.size w w170) := ⟨(by rw [hw]; exact z13_5)⟩; clear hw; clear HO_128; clear aa; clear ab; clear BK387; clear BK388; clear BK398; clear BK452; clear HB; have HO_128 := n0_; have aa := n1_; have ab := n2_; have BK387 := n3_; have BK388 := n4_; have BK398 := n5_; have BK452 := n6_; have HB := n7_; clear n0_ n1_ n2_ n3_ n4_ n5_ n6_ n7_))
             replace HO_128 := Aside0.mk (Kd.R_drew HO_128.out)
             replace aa := Aside0.mk (Kd.R_drew aa.out)
             replace ab := Aside0.mk (Kd.R_drew ab.out)
             replace BK387 := Aside0.mk (blk_drew BK387.out)
             replace BK388 := Aside0.mk (blk_drew BK388.out)
             replace BK398 := Aside0.mk (blk_drew BK398.out)
             replace BK452 := Aside0.mk (blk_drew BK452.out)
             replace HB := Aside0.mk (below_drew1 HB.out)
             refine start_ (n := 7) (S := fun w' => w'.cell? ⟨gb452, 0, none⟩ = some (.int .i64 ((rd_T131 x9_2 x130_3).f0.f0)) ∧ w'.cell? ⟨gb452, 1, none⟩ = some (.int .i64 ((rd_T131 x9_2 x130_3).f0.f1)) ∧ w'.cell? ⟨gb452, 2, none⟩ = some (.int .i64 ((rd_T131 x9_2 x130_3).f0.f2)) ∧ w'.cell? ⟨gb452, 3, none⟩ = some (.int .i64 ((rd_T131 x9_2 x130_3).f0.f3)) ∧ w'.cell? ⟨gb452, 4, none⟩ = some (.int .i64 ((rd_T131 x9_2 x130_3).f1))) (ds := []) #[false, false, false, false, false, false, false] (by kernel_rfl) rfl rfl ⟨bA13 BK452 rfl, bA13 BK452 rfl, bA13 BK452 rfl, bA13 BK452 rfl, bA13 BK452 rfl⟩ (fun hHeld => ?_)
             generalize w170.drew = w171 at HO_128 aa ab BK387 BK388 BK398 BK452 HB hHeld ⊢
             refine pure_ (i := 0) (N := some 134) (v := ?_) (a' := ?_) #[true, false, false, false, false, false, false] rfl rfl (by kernel_rfl) (fun _ _ _ h => h) (Or.inl ⟨by rfl, ?_⟩) ?_ ?_
             rotate_left
             ·intro w'
              go_simp
              with_reducible rfl
             rotate_left
             ·simp only [Act.put, zs13, zc13, zd13, i64_w, i32_w]
              rfl
             refine pure_ (i := 3) (N := some 137) (v := ?_) (a' := ?_) #[true, false, false, true, false, false, false] rfl rfl (by kernel_rfl) (fun _ _ _ h => h) (Or.inl ⟨by rfl, ?_⟩) ?_ ?_
             rotate_left
             ·intro w'
              go_simp
              with_reducible rfl
             rotate_left
             ·simp only [Act.put, zs13, zc13, zd13, i64_w, i32_w]
              rfl
             refine take_ (i := 1) (N := some 135) (v := ?_) (a' := ?_) #[true, true, false, true, false, false, false] rfl rfl (by kernel_rfl) (fun _ _ _ h => h) (Or.inl ⟨by rfl, ?_⟩) hHeld ?_ ?_
             rotate_left
             ·rintro w' ⟨s0, s1, s2, s3, s4⟩
              go_simp
              with_reducible rfl
             rotate_left
             ·simp only [Act.put, zs13, zc13, zd13, i64_w, i32_w]
              rfl
             refine take_ (i := 4) (N := some 138) (v := ?_) (a' := ?_) #[true, true, false, true, true, false, false] rfl rfl (by kernel_rfl) (fun _ _ _ h => h) (Or.inl ⟨by rfl, ?_⟩) hHeld ?_ ?_
             rotate_left
             ·rintro w' ⟨s0, s1, s2, s3, s4⟩
              go_simp
              with_reducible rfl
             rotate_left
             ·simp only [Act.put, zs13, zc13, zd13, i64_w, i32_w]
              rfl
             refine one_ (i := 2) (N := some 136) #[true, true, true, true, true, false, false] rfl rfl (by kernel_rfl) (by decide) (fun K hK => ?_)
             refine goes_ Try.func60 (by kernel_rfl) rfl #[.agg #[.int .i64 ((rd_T131 x9_2 x130_3).f0.f0), .int .i64 ((rd_T131 x9_2 x130_3).f0.f1), .int .i64 ((rd_T131 x9_2 x130_3).f0.f2), .int .i64 ((rd_T131 x9_2 x130_3).f0.f3)]] (by rfl) rfl rfl z13_2 ?_
             with_reducible refine (impl_vector_lead.calls ((rd_T131 x9_2 x130_3).f0.f0) ((rd_T131 x9_2 x130_3).f0.f1) ((rd_T131 x9_2 x130_3).f0.f2) ((rd_T131 x9_2 x130_3).f0.f3) (2 : Int) _ A131.out).mono ?_
             rintro e w172 ⟨rfl, hb⟩
             refine ⟨_, rfl, ?_⟩
             replace HO_128 := Aside0.mk (Kd.R_below z13_27 hb)
             replace aa := Aside0.mk (Kd.R_below z13_7 hb)
             replace ab := Aside0.mk (Kd.R_below z13_6 hb)
             replace BK387 := Aside0.mk (blk_below (g := gb387) (o := .cells #[.int .i64 0, .int .i64 0, .int .i64 0, .int .i64 0] 70 (0, 0)) (zL13 BK387.out) hb)
             replace BK388 := Aside0.mk (blk_below (g := gb388) (o := .cells #[.int .i64 ad, .int .i64 ae, .int .i64 af, .int .i64 ag] 70 (0, 0)) (zL13 BK388.out) hb)
             replace BK398 := Aside0.mk (blk_below (g := gb398) (o := .cells #[.slice Ao16 t392.length co16, v396] 81 (0, 0)) (zL13 BK398.out) hb)
             replace BK452 := Aside0.mk (blk_below (g := gb452) (o := .cells #[.int .i64 ((rd_T131 x9_2 x130_3).f0.f0), .int .i64 ((rd_T131 x9_2 x130_3).f0.f1), .int .i64 ((rd_T131 x9_2 x130_3).f0.f2), .int .i64 ((rd_T131 x9_2 x130_3).f0.f3), .int .i64 ((rd_T131 x9_2 x130_3).f1)] 131 (0, 0)) (zL13 BK452.out) hb)
             replace HB := Aside0.mk (below_step z13_5 hb)
             (try clear hb)
             (try clear hb2)
             (try clear hk)
             (try clear hi)
             refine hK.out _ _ ⟨bA13 BK452 rfl, bA13 BK452 rfl, bA13 BK452 rfl, bA13 BK452 rfl, bA13 BK452 rfl⟩ (fun hHeld => ?_)
             clear hK K
             refine nZ ?_
             refine pure_ (i := 5) (N := some 139) (v := ?_) (a' := ?_) #[true, true, true, true, true, true, false] rfl rfl (by kernel_rfl) (fun _ _ _ h => h) (Or.inl ⟨by rfl, ?_⟩) ?_ ?_
             rotate_left
             ·intro w'
              go_simp
              with_reducible rfl
             rotate_left
             ·simp only [Act.put, zs13, zc13, zd13, i64_w, i32_w]
              rfl
             refine one_ (i := 6) (N := none) #[true, true, true, true, true, true, true] rfl rfl (by kernel_rfl) (by decide) (fun K hK => ?_)
             have hs173 : w172.cell? ⟨gb388, 2, none⟩ = some (.int .i64 af) := bA13 BK388 rfl
             have hfs173 := blk_frozen BK388.out 2
             have hns173_0 := av.out
             have hns173_2 := au.out
             have hns173_3 := ac.out
             have hms173_0 := al.out
             have hms173_2 := ar.out
             have hms173_3 := ak.out
             refine skip_ (w1 := ?_) (by rfl) rfl ?_ ?_
             rotate_left
             ·go_simp
              rfl
             refine hK.out _ _ ⟨((cell_far (p := ⟨gb388, _, none⟩) ac.out _).trans (hHeld.1)), ((cell_far (p := ⟨gb388, _, none⟩) ac.out _).trans (hHeld.2.1)), ((cell_far (p := ⟨gb388, _, none⟩) ac.out _).trans (hHeld.2.2.1)), ((cell_far (p := ⟨gb388, _, none⟩) ac.out _).trans (hHeld.2.2.2.1)), ((cell_far (p := ⟨gb388, _, none⟩) ac.out _).trans (hHeld.2.2.2.2))⟩ (fun hHeld => ?_)
             clear hK K
             refine done_ (by kernel_rfl) ?_
             try go_wp2
             go_roundg k3
             case measure => have := HK1.out; have := HK2.out; have := HK3.out; omega
             case rel => exact ⟨(wrap64 (x130_3 + 1)), (ad), (ae), ((rd_T131 x9_2 x130_3).f1), (ag), z13_24, H', ⟨z13_35⟩, ⟨by (try simp only [hl9_2]); (with_reducible repeat (first | apply Kd.R_alloc | apply Kd.R_drewN | apply Kd.R_drew)); exact Kd.R_mono (Kd.R_far (p := ⟨gb388, 2, none⟩) (Kd.R_types HO_128.out BK388.out (by decide)) (fun _ hk => hk.2) (.int .i64 ((rd_T131 x9_2 x130_3).f1))) (fun _ hk => trivial)⟩, ⟨by (try simp only [hl9_2]); (with_reducible repeat (first | apply Kd.R_alloc | apply Kd.R_drewN | apply Kd.R_drew)); exact Kd.R_mono (Kd.R_far (p := ⟨gb388, 2, none⟩) (Kd.R_types aa.out BK388.out (by decide)) (fun _ hk => hk.2) (.int .i64 ((rd_T131 x9_2 x130_3).f1))) (fun _ hk => trivial)⟩, ⟨by (try simp only [hl9_2]); (with_reducible repeat (first | apply Kd.R_alloc | apply Kd.R_drewN | apply Kd.R_drew)); exact Kd.R_mono (Kd.R_far (p := ⟨gb388, 2, none⟩) (Kd.R_types ab.out BK388.out (by decide)) (fun _ hk => hk.2) (.int .i64 ((rd_T131 x9_2 x130_3).f1))) (fun _ hk => trivial)⟩, ⟨z13_25⟩, ⟨by (try simp only [hl9_2]); (with_reducible repeat first|refine blk_drewN ?_ _|refine blk_drew ?_|refine blk_alloc ?_ _); refine blk_put (cs := #[.int .i64 ad, .int .i64 ae, .int .i64 af, .int .i64 ag]) ?_ 2 _ rfl; (with_reducible repeat first|refine blk_drewN ?_ _|refine blk_drew ?_|refine blk_alloc ?_ _); exact BK388.out⟩, ⟨z13_26⟩, ⟨z13_5⟩⟩
            ·rw [if_neg c160] at H
             clear c160
             obtain ⟨c174, H⟩ := ifP H
             subst c174
             replace H : (impl_solve.l4 k3 x9_2 (x9_2.length : Int) (wrap64 (x130_3 + 1)) ad ae af ((rd_T131 x9_2 x130_3).f1)) = some (r1, r2, r3, r4) := H
             have H' := Aside0.mk H
             clear H
             have p451 : 0 ≤ (x130_3 : Int) := of_decide_eq_true z13_3
             have q451 : x130_3 < (x9_2.length : Int) := of_decide_eq_true z13_3
             obtain ⟨ad451, e451, hx451_0, hx451_1, hx451_2, hx451_3, hx451_4⟩ := at_T131 (Kd.R_reads' HO_128.out).2.2 x130_3 p451 q451
             cases e451
             replace p451 := eq_true p451
             replace q451 := eq_true q451
             try go_wp2_with (first | ((with_reducible refine gate_dst (N := 20) rfl ?_); refine box_event ?hg (N := 20) ?hd (cs := #[.int .i64 0, .int .i64 0, .int .i64 0, .int .i64 0, .int .i64 0]) (t := 131) ?hr ?_; (case hd => rfl); (case hg => rfl); (case hr => first | (go_simp; done) | (go_simp; rfl)); intro gb452 hg w175 hbox hb; replace HO_128 := Aside0.mk (Kd.R_below (Kd.R_elderB z13_27 gb452 (Nat.le_of_eq hg.symm)) hb); replace aa := Aside0.mk (Kd.R_below z13_7 hb); replace ab := Aside0.mk (Kd.R_below z13_6 hb); have BK452 := Aside0.mk (hbox); have GW452 := Aside0.mk ((by rw [hg]; exact (below_size z13_1) : w.heap.size ≤ gb452)); have GE452 := Aside0.mk ((by rw [hg]; exact (below_size z13_1) : w.heap.size ≤ gb452)); replace HB := Aside0.mk (below_step z13_1 hb); have am := Aside0.mk ((by rw [hg]; exact Nat.ne_of_lt (blk_lt (g := gb387) (o := .cells #[.int .i64 0, .int .i64 0, .int .i64 0, .int .i64 0] 70 (0, 0)) (zL13 BK387.out)) : gb387 ≠ gb452)); have an := Aside0.mk ((by rw [hg]; exact Nat.ne_of_gt (blk_lt (g := gb387) (o := .cells #[.int .i64 0, .int .i64 0, .int .i64 0, .int .i64 0] 70 (0, 0)) (zL13 BK387.out)) : gb452 ≠ gb387)); replace BK387 := Aside0.mk (blk_below (g := gb387) (o := .cells #[.int .i64 0, .int .i64 0, .int .i64 0, .int .i64 0] 70 (0, 0)) (zL13 BK387.out) hb); have ak := Aside0.mk ((by rw [hg]; exact Nat.ne_of_lt (blk_lt (g := gb388) (o := .cells #[.int .i64 ad, .int .i64 ae, .int .i64 af, .int .i64 ag] 70 (0, 0)) (zL13 BK388.out)) : gb388 ≠ gb452)); have ac := Aside0.mk ((by rw [hg]; exact Nat.ne_of_gt (blk_lt (g := gb388) (o := .cells #[.int .i64 ad, .int .i64 ae, .int .i64 af, .int .i64 ag] 70 (0, 0)) (zL13 BK388.out)) : gb452 ≠ gb388)); replace BK388 := Aside0.mk (blk_below (g := gb388) (o := .cells #[.int .i64 ad, .int .i64 ae, .int .i64 af, .int .i64 ag] 70 (0, 0)) (zL13 BK388.out) hb); have ao := Aside0.mk ((by rw [hg]; exact Nat.ne_of_lt (blk_lt (g := gb398) (o := .cells #[.slice Ao16 t392.length co16, v396] 81 (0, 0)) (zL13 BK398.out)) : gb398 ≠ gb452)); have ap := Aside0.mk ((by rw [hg]; exact Nat.ne_of_gt (blk_lt (g := gb398) (o := .cells #[.slice Ao16 t392.length co16, v396] 81 (0, 0)) (zL13 BK398.out)) : gb452 ≠ gb398)); replace BK398 := Aside0.mk (blk_below (g := gb398) (o := .cells #[.slice Ao16 t392.length co16, v396] 81 (0, 0)) (zL13 BK398.out) hb); clear hb hbox hg; have hnb176 := an.out; have hnc176 := am.out; have hnb177 := ac.out; have hnc177 := ak.out; have hnb178 := ap.out; have hnc178 := ao.out; have hcz179_0 : w175.cell? ⟨gb452, 0, none⟩ = some (.int .i64 0) := bA13 BK452 rfl; have hfz179_0 := blk_frozen BK452.out 0; have hcz180_1 : w175.cell? ⟨gb452, 1, none⟩ = some (.int .i64 0) := bA13 BK452 rfl; have hfz180_1 := blk_frozen BK452.out 1; have hcz181_2 : w175.cell? ⟨gb452, 2, none⟩ = some (.int .i64 0) := bA13 BK452 rfl; have hfz181_2 := blk_frozen BK452.out 2; have hcz182_3 : w175.cell? ⟨gb452, 3, none⟩ = some (.int .i64 0) := bA13 BK452 rfl; have hfz182_3 := blk_frozen BK452.out 3; have hcz183_4 : w175.cell? ⟨gb452, 4, none⟩ = some (.int .i64 0) := bA13 BK452 rfl; have hfz183_4 := blk_frozen BK452.out 4) | ((with_reducible refine gate_store (t := 131) (p := 20) rfl ?_); refine store_event (t := 131) (p := 20) (v := ?vo_w184) (w1 := (((((w175.setCell ⟨gb452, 0, none⟩ (.int .i64 ((rd_T131 x9_2 x130_3).f0.f0))).setCell ⟨gb452, 1, none⟩ (.int .i64 ((rd_T131 x9_2 x130_3).f0.f1))).setCell ⟨gb452, 2, none⟩ (.int .i64 ((rd_T131 x9_2 x130_3).f0.f2))).setCell ⟨gb452, 3, none⟩ (.int .i64 ((rd_T131 x9_2 x130_3).f0.f3))).setCell ⟨gb452, 4, none⟩ (.int .i64 ((rd_T131 x9_2 x130_3).f1)))) ?hg ?ho ?hn ?hr ?_; (case ho => rfl); (case hg => rfl); (case hn => rfl); (case hr => first | (go_simp; done) | (go_simp; rfl)); intro w184 hw; have n0_ : Aside0 (Kd.R k131 131 w184 w.heap.size (fun k_ => k_ ≠ gb452) (.slice (some ad451) x9_2.length co94) x9_2) := ⟨z13_11⟩; have n1_ : Aside0 (Kd.R k102 102 w184 w.heap.size (fun _ => True) (.slice Ao16 t392.length co16) t392) := ⟨z13_12⟩; have n2_ : Aside0 (Kd.R (Kd.int .i64) 3 w184 w.heap.size (fun _ => True) v396 t395) := ⟨z13_13⟩; have n3_ : Aside0 (w184.heap[gb387]? = some (.cells #[.int .i64 0, .int .i64 0, .int .i64 0, .int .i64 0] 70 (0, 0))) := ⟨z13_8⟩; have n4_ : Aside0 (w184.heap[gb388]? = some (.cells #[.int .i64 ad, .int .i64 ae, .int .i64 af, .int .i64 ag] 70 (0, 0))) := ⟨z13_9⟩; have n5_ : Aside0 (w184.heap[gb398]? = some (.cells #[.slice Ao16 t392.length co16, v396] 81 (0, 0))) := ⟨z13_10⟩; have n6_ : Aside0 (w184.heap[gb452]? = some (.cells #[.int .i64 ((rd_T131 x9_2 x130_3).f0.f0), .int .i64 ((rd_T131 x9_2 x130_3).f0.f1), .int .i64 ((rd_T131 x9_2 x130_3).f0.f2), .int .i64 ((rd_T131 x9_2 x130_3).f0.f3), .int .i64 ((rd_T131 x9_2 x130_3).f1)] 131 (0, 0))) := ⟨(by rw [hw]; exact (bZ BK452.out))⟩; have n7_ : Aside0 (Below w.heap.size w w184) := ⟨(by rw [hw]; exact z13_5)⟩; clear hw; clear HO_128; clear aa; clear ab; clear BK387; clear BK388; clear BK398; clear BK452; clear HB; have HO_128 := n0_; have aa := n1_; have ab := n2_; have BK387 := n3_; have BK388 := n4_; have BK398 := n5_; have BK452 := n6_; have HB := n7_; clear n0_ n1_ n2_ n3_ n4_ n5_ n6_ n7_))
             replace HO_128 := Aside0.mk (Kd.R_drew HO_128.out)
             replace aa := Aside0.mk (Kd.R_drew aa.out)
             replace ab := Aside0.mk (Kd.R_drew ab.out)
             replace BK387 := Aside0.mk (blk_drew BK387.out)
             replace BK388 := Aside0.mk (blk_drew BK388.out)
             replace BK398 := Aside0.mk (blk_drew BK398.out)
             replace BK452 := Aside0.mk (blk_drew BK452.out)
             replace HB := Aside0.mk (below_drew1 HB.out)
             refine start_ (n := 7) (S := fun w' => w'.cell? ⟨gb452, 0, none⟩ = some (.int .i64 ((rd_T131 x9_2 x130_3).f0.f0)) ∧ w'.cell? ⟨gb452, 1, none⟩ = some (.int .i64 ((rd_T131 x9_2 x130_3).f0.f1)) ∧ w'.cell? ⟨gb452, 2, none⟩ = some (.int .i64 ((rd_T131 x9_2 x130_3).f0.f2)) ∧ w'.cell? ⟨gb452, 3, none⟩ = some (.int .i64 ((rd_T131 x9_2 x130_3).f0.f3)) ∧ w'.cell? ⟨gb452, 4, none⟩ = some (.int .i64 ((rd_T131 x9_2 x130_3).f1))) (ds := []) #[false, false, false, false, false, false, false] (by kernel_rfl) rfl rfl ⟨bA13 BK452 rfl, bA13 BK452 rfl, bA13 BK452 rfl, bA13 BK452 rfl, bA13 BK452 rfl⟩ (fun hHeld => ?_)
             generalize w184.drew = w185 at HO_128 aa ab BK387 BK388 BK398 BK452 HB hHeld ⊢
             refine pure_ (i := 0) (N := some 134) (v := ?_) (a' := ?_) #[true, false, false, false, false, false, false] rfl rfl (by kernel_rfl) (fun _ _ _ h => h) (Or.inl ⟨by rfl, ?_⟩) ?_ ?_
             rotate_left
             ·intro w'
              go_simp
              with_reducible rfl
             rotate_left
             ·simp only [Act.put, zs13, zc13, zd13, i64_w, i32_w]
              rfl
             refine pure_ (i := 3) (N := some 137) (v := ?_) (a' := ?_) #[true, false, false, true, false, false, false] rfl rfl (by kernel_rfl) (fun _ _ _ h => h) (Or.inl ⟨by rfl, ?_⟩) ?_ ?_
             rotate_left
             ·intro w'
              go_simp
              with_reducible rfl
             rotate_left
             ·simp only [Act.put, zs13, zc13, zd13, i64_w, i32_w]
              rfl
             refine take_ (i := 1) (N := some 135) (v := ?_) (a' := ?_) #[true, true, false, true, false, false, false] rfl rfl (by kernel_rfl) (fun _ _ _ h => h) (Or.inl ⟨by rfl, ?_⟩) hHeld ?_ ?_
             rotate_left
             ·rintro w' ⟨s0, s1, s2, s3, s4⟩
              go_simp
              with_reducible rfl
             rotate_left
             ·simp only [Act.put, zs13, zc13, zd13, i64_w, i32_w]
              rfl
             refine take_ (i := 4) (N := some 138) (v := ?_) (a' := ?_) #[true, true, false, true, true, false, false] rfl rfl (by kernel_rfl) (fun _ _ _ h => h) (Or.inl ⟨by rfl, ?_⟩) hHeld ?_ ?_
             rotate_left
             ·rintro w' ⟨s0, s1, s2, s3, s4⟩
              go_simp
              with_reducible rfl
             rotate_left
             ·simp only [Act.put, zs13, zc13, zd13, i64_w, i32_w]
              rfl
             refine one_ (i := 2) (N := some 136) #[true, true, true, true, true, false, false] rfl rfl (by kernel_rfl) (by decide) (fun K hK => ?_)
             refine goes_ Try.func60 (by kernel_rfl) rfl #[.agg #[.int .i64 ((rd_T131 x9_2 x130_3).f0.f0), .int .i64 ((rd_T131 x9_2 x130_3).f0.f1), .int .i64 ((rd_T131 x9_2 x130_3).f0.f2), .int .i64 ((rd_T131 x9_2 x130_3).f0.f3)]] (by rfl) rfl rfl z13_2 ?_
             with_reducible refine (impl_vector_lead.calls ((rd_T131 x9_2 x130_3).f0.f0) ((rd_T131 x9_2 x130_3).f0.f1) ((rd_T131 x9_2 x130_3).f0.f2) ((rd_T131 x9_2 x130_3).f0.f3) (3 : Int) _ A131.out).mono ?_
             rintro e w186 ⟨rfl, hb⟩
             refine ⟨_, rfl, ?_⟩
             replace HO_128 := Aside0.mk (Kd.R_below z13_27 hb)
             replace aa := Aside0.mk (Kd.R_below z13_7 hb)
             replace ab := Aside0.mk (Kd.R_below z13_6 hb)
             replace BK387 := Aside0.mk (blk_below (g := gb387) (o := .cells #[.int .i64 0, .int .i64 0, .int .i64 0, .int .i64 0] 70 (0, 0)) (zL13 BK387.out) hb)
             replace BK388 := Aside0.mk (blk_below (g := gb388) (o := .cells #[.int .i64 ad, .int .i64 ae, .int .i64 af, .int .i64 ag] 70 (0, 0)) (zL13 BK388.out) hb)
             replace BK398 := Aside0.mk (blk_below (g := gb398) (o := .cells #[.slice Ao16 t392.length co16, v396] 81 (0, 0)) (zL13 BK398.out) hb)
             replace BK452 := Aside0.mk (blk_below (g := gb452) (o := .cells #[.int .i64 ((rd_T131 x9_2 x130_3).f0.f0), .int .i64 ((rd_T131 x9_2 x130_3).f0.f1), .int .i64 ((rd_T131 x9_2 x130_3).f0.f2), .int .i64 ((rd_T131 x9_2 x130_3).f0.f3), .int .i64 ((rd_T131 x9_2 x130_3).f1)] 131 (0, 0)) (zL13 BK452.out) hb)
             replace HB := Aside0.mk (below_step z13_5 hb)
             (try clear hb)
             (try clear hb2)
             (try clear hk)
             (try clear hi)
             refine hK.out _ _ ⟨bA13 BK452 rfl, bA13 BK452 rfl, bA13 BK452 rfl, bA13 BK452 rfl, bA13 BK452 rfl⟩ (fun hHeld => ?_)
             clear hK K
             refine nZ ?_
             refine pure_ (i := 5) (N := some 139) (v := ?_) (a' := ?_) #[true, true, true, true, true, true, false] rfl rfl (by kernel_rfl) (fun _ _ _ h => h) (Or.inl ⟨by rfl, ?_⟩) ?_ ?_
             rotate_left
             ·intro w'
              go_simp
              with_reducible rfl
             rotate_left
             ·simp only [Act.put, zs13, zc13, zd13, i64_w, i32_w]
              rfl
             refine one_ (i := 6) (N := none) #[true, true, true, true, true, true, true] rfl rfl (by kernel_rfl) (by decide) (fun K hK => ?_)
             have hs187 : w186.cell? ⟨gb388, 3, none⟩ = some (.int .i64 ag) := bA13 BK388 rfl
             have hfs187 := blk_frozen BK388.out 3
             have hns187_0 := av.out
             have hns187_2 := au.out
             have hns187_3 := ac.out
             have hms187_0 := al.out
             have hms187_2 := ar.out
             have hms187_3 := ak.out
             refine skip_ (w1 := ?_) (by rfl) rfl ?_ ?_
             rotate_left
             ·go_simp
              rfl
             refine hK.out _ _ ⟨((cell_far (p := ⟨gb388, _, none⟩) ac.out _).trans (hHeld.1)), ((cell_far (p := ⟨gb388, _, none⟩) ac.out _).trans (hHeld.2.1)), ((cell_far (p := ⟨gb388, _, none⟩) ac.out _).trans (hHeld.2.2.1)), ((cell_far (p := ⟨gb388, _, none⟩) ac.out _).trans (hHeld.2.2.2.1)), ((cell_far (p := ⟨gb388, _, none⟩) ac.out _).trans (hHeld.2.2.2.2))⟩ (fun hHeld => ?_)
             clear hK K
             refine done_ (by kernel_rfl) ?_
             try go_wp2
             go_roundg k3
             case measure => have := HK1.out; have := HK2.out; have := HK3.out; omega
             case rel => exact ⟨(wrap64 (x130_3 + 1)), (ad), (ae), (af), ((rd_T131 x9_2 x130_3).f1), z13_24, H', ⟨z13_35⟩, ⟨by (try simp only [hl9_2]); (with_reducible repeat (first | apply Kd.R_alloc | apply Kd.R_drewN | apply Kd.R_drew)); exact Kd.R_mono (Kd.R_far (p := ⟨gb388, 3, none⟩) (Kd.R_types HO_128.out BK388.out (by decide)) (fun _ hk => hk.2) (.int .i64 ((rd_T131 x9_2 x130_3).f1))) (fun _ hk => trivial)⟩, ⟨by (try simp only [hl9_2]); (with_reducible repeat (first | apply Kd.R_alloc | apply Kd.R_drewN | apply Kd.R_drew)); exact Kd.R_mono (Kd.R_far (p := ⟨gb388, 3, none⟩) (Kd.R_types aa.out BK388.out (by decide)) (fun _ hk => hk.2) (.int .i64 ((rd_T131 x9_2 x130_3).f1))) (fun _ hk => trivial)⟩, ⟨by (try simp only [hl9_2]); (with_reducible repeat (first | apply Kd.R_alloc | apply Kd.R_drewN | apply Kd.R_drew)); exact Kd.R_mono (Kd.R_far (p := ⟨gb388, 3, none⟩) (Kd.R_types ab.out BK388.out (by decide)) (fun _ hk => hk.2) (.int .i64 ((rd_T131 x9_2 x130_3).f1))) (fun _ hk => trivial)⟩, ⟨z13_25⟩, ⟨by (try simp only [hl9_2]); (with_reducible repeat first|refine blk_drewN ?_ _|refine blk_drew ?_|refine blk_alloc ?_ _); refine blk_put (cs := #[.int .i64 ad, .int .i64 ae, .int .i64 af, .int .i64 ag]) ?_ 3 _ rfl; (with_reducible repeat first|refine blk_drewN ?_ _|refine blk_drew ?_|refine blk_alloc ?_ _); exact BK388.out⟩, ⟨z13_26⟩, ⟨z13_5⟩⟩
         ·rw [if_neg c128] at H
          have c128b0 : decide (x130_3 < (x9_2.length : Int)) = false := decide_eq_false c128
          have c128b0' := c128b0; (try simp only [hl9_2] at c128b0'); (try simp only [hl9_3] at c128b0')
          clear c128
          simp only [Option.some.injEq, Prod.mk.injEq] at H
          obtain ⟨rfl, rfl, rfl, rfl⟩ := H
          have hnb188 := al.out
          have hnc188 := av.out
          have hnb189 := ar.out
          have hnc189 := au.out
          have hcz190_0 : wr.cell? ⟨gb388, 0, none⟩ = some (.int .i64 ad) := bA13 BK388 rfl
          have hcz190_1 : wr.cell? ⟨gb388, 1, none⟩ = some (.int .i64 ae) := bA13 BK388 rfl
          have hcz190_2 : wr.cell? ⟨gb388, 2, none⟩ = some (.int .i64 af) := bA13 BK388 rfl
          have hcz190_3 : wr.cell? ⟨gb388, 3, none⟩ = some (.int .i64 ag) := bA13 BK388 rfl
          have hfz190_0 := blk_frozen BK388.out 0
          have hfz190_1 := blk_frozen BK388.out 1
          have hfz190_2 := blk_frozen BK388.out 2
          have hfz190_3 := blk_frozen BK388.out 3
          have hnb191 := aG.out
          have hnc191 := aq.out
          have hcz192_0 : wr.cell? ⟨gb387, 0, none⟩ = some (.int .i64 0) := bA13 BK387 rfl
          have hfz192_0 := blk_frozen BK387.out 0
          have hcz193_1 : wr.cell? ⟨gb387, 1, none⟩ = some (.int .i64 0) := bA13 BK387 rfl
          have hfz193_1 := blk_frozen BK387.out 1
          have hcz194_2 : wr.cell? ⟨gb387, 2, none⟩ = some (.int .i64 0) := bA13 BK387 rfl
          have hfz194_2 := blk_frozen BK387.out 2
          have hcz195_3 : wr.cell? ⟨gb387, 3, none⟩ = some (.int .i64 0) := bA13 BK387 rfl
          have hfz195_3 := blk_frozen BK387.out 3
          go_wp2_with (first | ((with_reducible refine gate_store (t := 70) (p := 6) rfl ?_); refine store_event (t := 70) (p := 6) (v := ?vo_w196) (w1 := ((((wr.setCell ⟨gb387, 0, none⟩ (.int .i64 ad)).setCell ⟨gb387, 1, none⟩ (.int .i64 ae)).setCell ⟨gb387, 2, none⟩ (.int .i64 af)).setCell ⟨gb387, 3, none⟩ (.int .i64 ag))) ?hg ?ho ?hn ?hr ?_; (case ho => rfl); (case hg => rfl); (case hn => rfl); (case hr => first | (go_simp; done) | (go_simp; rfl)); intro w196 hw; have n0_ : Aside0 (Kd.R k131 131 w196 w.heap.size (fun _ => True) (.slice Ao94 x9_2.length co94) x9_2) := ⟨(by rw [hw]; exact (by (with_reducible repeat (first | apply Kd.R_alloc | apply Kd.R_drewN | apply Kd.R_drew)); exact Kd.R_mono (Kd.R_far (p := ⟨gb387, 3, none⟩) (Kd.R_far (p := ⟨gb387, 2, none⟩) (Kd.R_far (p := ⟨gb387, 1, none⟩) (Kd.R_far (p := ⟨gb387, 0, none⟩) (Kd.R_types HO_128.out BK387.out (by decide)) (fun _ hk => hk.2) (.int .i64 ad)) (fun _ hk => hk.2) (.int .i64 ae)) (fun _ hk => hk.2) (.int .i64 af)) (fun _ hk => hk.2) (.int .i64 ag)) (fun _ hk => trivial)))⟩; have n1_ : Aside0 (Kd.R k102 102 w196 w.heap.size (fun _ => True) (.slice Ao16 t392.length co16) t392) := ⟨(by rw [hw]; exact (by (with_reducible repeat (first | apply Kd.R_alloc | apply Kd.R_drewN | apply Kd.R_drew)); exact Kd.R_mono (Kd.R_far (p := ⟨gb387, 3, none⟩) (Kd.R_far (p := ⟨gb387, 2, none⟩) (Kd.R_far (p := ⟨gb387, 1, none⟩) (Kd.R_far (p := ⟨gb387, 0, none⟩) (Kd.R_types aa.out BK387.out (by decide)) (fun _ hk => hk.2) (.int .i64 ad)) (fun _ hk => hk.2) (.int .i64 ae)) (fun _ hk => hk.2) (.int .i64 af)) (fun _ hk => hk.2) (.int .i64 ag)) (fun _ hk => trivial)))⟩; have n2_ : Aside0 (Kd.R (Kd.int .i64) 3 w196 w.heap.size (fun _ => True) v396 t395) := ⟨(by rw [hw]; exact (by (with_reducible repeat (first | apply Kd.R_alloc | apply Kd.R_drewN | apply Kd.R_drew)); exact Kd.R_mono (Kd.R_far (p := ⟨gb387, 3, none⟩) (Kd.R_far (p := ⟨gb387, 2, none⟩) (Kd.R_far (p := ⟨gb387, 1, none⟩) (Kd.R_far (p := ⟨gb387, 0, none⟩) (Kd.R_types ab.out BK387.out (by decide)) (fun _ hk => hk.2) (.int .i64 ad)) (fun _ hk => hk.2) (.int .i64 ae)) (fun _ hk => hk.2) (.int .i64 af)) (fun _ hk => hk.2) (.int .i64 ag)) (fun _ hk => trivial)))⟩; have n3_ : Aside0 (w196.heap[gb387]? = some (.cells #[.int .i64 ad, .int .i64 ae, .int .i64 af, .int .i64 ag] 70 (0, 0))) := ⟨(by rw [hw]; exact (bZ BK387.out))⟩; have n4_ : Aside0 (w196.heap[gb388]? = some (.cells #[.int .i64 ad, .int .i64 ae, .int .i64 af, .int .i64 ag] 70 (0, 0))) := ⟨(by rw [hw]; exact (by (with_reducible repeat first|refine blk_drewN ?_ _|refine blk_drew ?_|refine blk_alloc ?_ _); refine blk_far ?_ al.out _; (with_reducible repeat first|refine blk_drewN ?_ _|refine blk_drew ?_|refine blk_alloc ?_ _); refine blk_far ?_ al.out _; (with_reducible repeat first|refine blk_drewN ?_ _|refine blk_drew ?_|refine blk_alloc ?_ _); refine blk_far ?_ al.out _; (with_reducible repeat first|refine blk_drewN ?_ _|refine blk_drew ?_|refine blk_alloc ?_ _); refine blk_far ?_ al.out _; (with_reducible repeat first|refine blk_drewN ?_ _|refine blk_drew ?_|refine blk_alloc ?_ _); exact BK388.out))⟩; have n5_ : Aside0 (w196.heap[gb398]? = some (.cells #[.slice Ao16 t392.length co16, v396] 81 (0, 0))) := ⟨(by rw [hw]; exact (by (with_reducible repeat first|refine blk_drewN ?_ _|refine blk_drew ?_|refine blk_alloc ?_ _); refine blk_far ?_ aq.out _; (with_reducible repeat first|refine blk_drewN ?_ _|refine blk_drew ?_|refine blk_alloc ?_ _); refine blk_far ?_ aq.out _; (with_reducible repeat first|refine blk_drewN ?_ _|refine blk_drew ?_|refine blk_alloc ?_ _); refine blk_far ?_ aq.out _; (with_reducible repeat first|refine blk_drewN ?_ _|refine blk_drew ?_|refine blk_alloc ?_ _); refine blk_far ?_ aq.out _; (with_reducible repeat first|refine blk_drewN ?_ _|refine blk_drew ?_|refine blk_alloc ?_ _); exact BK398.out))⟩; have n6_ : Aside0 (Below w.heap.size w w196) := ⟨(by rw [hw]; exact z13_1)⟩; clear hw; clear HO_128; clear aa; clear ab; clear BK387; clear BK388; clear BK398; clear HB; have HO_128 := n0_; have aa := n1_; have ab := n2_; have BK387 := n3_; have BK388 := n4_; have BK398 := n5_; have HB := n6_; clear n0_ n1_ n2_ n3_ n4_ n5_ n6_))
          refine bodyPost_ret (results_cell_row rfl _ _ gb387 70 #[.int .i64 ad, .int .i64 ae, .int .i64 af, .int .i64 ag] (0, 0) _ rfl (zL13 BK387.out) Try.underlying70 rfl (by kernel_rfl)) rfl ?_
          exact ⟨by first | rfl | (simp [errW_none, errW_some] <;> rfl) | (simp [*, errW_none, errW_some] <;> rfl), z13_1⟩

end Go.Proofs.Ytamaejafddmagaa.PA
