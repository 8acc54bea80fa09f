import Derived.Test.YtamaejafddmagaaPAx0
import Derived.Test.YtamaejafddmagaaPAx1
import Derived.Test.YtamaejafddmagaaPAx4
import Derived.Test.YtamaejafddmagaaPAx6
import Derived.Test.YtamaejafddmagaaGw
import Derived.Test.YtamaejafddmagaaGm
import Derived.Test.YtamaejafddmagaaGc
namespace Go.Proofs.Ytamaejafddmagaa.PA
open Go.RowKit Go.Proofs.YtamaejafddmagaaW.PrintWords Go.Proofs.YtamaejafddmagaaW.PrintLast Go.Proofs.YtamaejafddmagaaW.PrintMore
attribute [local go_sem] max2_int min2_int max_two min_two max_three min_three max_four min_four   -- for this text's walks alone
set_option linter.unusedVariables false
set_option linter.unusedSimpArgs false

theorem zL7 {p q : Prop} (h : q) (t : q → p := by intro h_; (with_reducible repeat first|refine blk_drewN ?_ _|refine blk_drew ?_|refine blk_alloc ?_ _); exact h_) : p := t h
theorem z7_1 {p : Prop} (h : p := by repeat (first | (with_reducible first | exact HB.out | apply below_alloc | apply pw_below_drewN | apply below_drew1 | refine below_set ?_ GE258.out | refine below_set ?_ GE259.out | refine below_set ?_ GE269.out) | exact HB.out)) : p := h
theorem z7_2 {p : Prop} (h : p := by (try simp only [List.map_toArray, List.map_cons, List.map_nil]); first | done | rfl | (simp only [List.length_drop, List.length_take]; rfl)) : p := h
theorem z7_3 {p : Prop} (h : p := by first | (with_reducible assumption) | assumption) : p := h
theorem z7_4 {p : Prop} (h : p := by repeat (first | (with_reducible first | exact HB.out | apply below_alloc | apply pw_below_drewN | apply below_drew1 | refine below_set ?_ GE258.out | refine below_set ?_ GE259.out | refine below_set ?_ GE269.out | refine below_set ?_ GE274.out) | exact HB.out)) : p := h
theorem z7_5 {p : Prop} (h : p := by repeat (first | (with_reducible first | exact HB.out | apply below_alloc | apply pw_below_drewN | apply below_drew1 | refine below_set ?_ GE258.out | refine below_set ?_ GE259.out | refine below_set ?_ GE269.out | refine below_set ?_ GE323.out) | exact HB.out)) : p := h
theorem z7_6 {p : Prop} (h : p := by (with_reducible repeat (first | apply Kd.R_alloc | apply Kd.R_drewN | apply Kd.R_drew)); exact ab.out) : p := h
theorem z7_7 {p : Prop} (h : p := by (with_reducible repeat (first | apply Kd.R_alloc | apply Kd.R_drewN | apply Kd.R_drew)); exact aa.out) : p := h
theorem z7_8 {p : Prop} (h : p := by rw [hw]; exact (by (with_reducible repeat (first | apply Kd.R_alloc | apply Kd.R_drewN | apply Kd.R_drew)); exact Kd.R_mono (Kd.R_far (p := ⟨gb323, 4, none⟩) (Kd.R_far (p := ⟨gb323, 3, none⟩) (Kd.R_far (p := ⟨gb323, 2, none⟩) (Kd.R_far (p := ⟨gb323, 1, none⟩) (Kd.R_far (p := ⟨gb323, 0, none⟩) (Kd.R_mono HO_128.out (fun k_ hk => (⟨hk, hk.2⟩ : _ ∧ k_ ≠ gb323))) (fun _ hk => hk.2) (.int .i64 ((rd_T131 x9_2 x130_3).f0.f0))) (fun _ hk => hk.2) (.int .i64 ((rd_T131 x9_2 x130_3).f0.f1))) (fun _ hk => hk.2) (.int .i64 ((rd_T131 x9_2 x130_3).f0.f2))) (fun _ hk => hk.2) (.int .i64 ((rd_T131 x9_2 x130_3).f0.f3))) (fun _ hk => hk.2) (.int .i64 ((rd_T131 x9_2 x130_3).f1))) (fun _ hk => hk.1.2))) : p := h
theorem z7_9 {p : Prop} (h : p := by rw [hw]; exact (by (with_reducible repeat (first | apply Kd.R_alloc | apply Kd.R_drewN | apply Kd.R_drew)); exact Kd.R_mono (Kd.R_far (p := ⟨gb323, 4, none⟩) (Kd.R_far (p := ⟨gb323, 3, none⟩) (Kd.R_far (p := ⟨gb323, 2, none⟩) (Kd.R_far (p := ⟨gb323, 1, none⟩) (Kd.R_far (p := ⟨gb323, 0, none⟩) (Kd.R_types aa.out BK323.out (by decide)) (fun _ hk => hk.2) (.int .i64 ((rd_T131 x9_2 x130_3).f0.f0))) (fun _ hk => hk.2) (.int .i64 ((rd_T131 x9_2 x130_3).f0.f1))) (fun _ hk => hk.2) (.int .i64 ((rd_T131 x9_2 x130_3).f0.f2))) (fun _ hk => hk.2) (.int .i64 ((rd_T131 x9_2 x130_3).f0.f3))) (fun _ hk => hk.2) (.int .i64 ((rd_T131 x9_2 x130_3).f1))) (fun _ hk => trivial))) : p := h
theorem z7_10 {p : Prop} (h : p := by rw [hw]; exact (by (with_reducible repeat (first | apply Kd.R_alloc | apply Kd.R_drewN | apply Kd.R_drew)); exact Kd.R_mono (Kd.R_far (p := ⟨gb323, 4, none⟩) (Kd.R_far (p := ⟨gb323, 3, none⟩) (Kd.R_far (p := ⟨gb323, 2, none⟩) (Kd.R_far (p := ⟨gb323, 1, none⟩) (Kd.R_far (p := ⟨gb323, 0, none⟩) (Kd.R_types ab.out BK323.out (by decide)) (fun _ hk => hk.2) (.int .i64 ((rd_T131 x9_2 x130_3).f0.f0))) (fun _ hk => hk.2) (.int .i64 ((rd_T131 x9_2 x130_3).f0.f1))) (fun _ hk => hk.2) (.int .i64 ((rd_T131 x9_2 x130_3).f0.f2))) (fun _ hk => hk.2) (.int .i64 ((rd_T131 x9_2 x130_3).f0.f3))) (fun _ hk => hk.2) (.int .i64 ((rd_T131 x9_2 x130_3).f1))) (fun _ hk => trivial))) : p := h
theorem z7_11 {p : Prop} (h : p := by (with_reducible repeat (first | apply Kd.R_alloc | apply Kd.R_drewN | apply Kd.R_drew)); exact HO_9.out) : p := h
theorem z7_12 {p : Prop} (h : p := by repeat (first | (with_reducible first | exact HB.out | apply below_alloc | apply pw_below_drewN | apply below_drew1 | refine below_set ?_ GE258.out | refine below_set ?_ GE259.out) | exact HB.out)) : p := h
theorem z7_13 {p : Prop} (h : p := by first | rfl | (simp; done) | (simp [*]; done) | (simp; unfold wrap64; omega)) : p := h
theorem z7_14 {p : Prop} (h : p := by (try simp only [hl9_2]); (try simp only [hl9_3]); (with_reducible repeat first|refine blk_drewN ?_ _|refine blk_drew ?_|refine blk_alloc ?_ _); exact BK258.out) : p := h
theorem z7_15 {p : Prop} (h : p := by (try simp only [hl9_2]); (try simp only [hl9_3]); (with_reducible repeat first|refine blk_drewN ?_ _|refine blk_drew ?_|refine blk_alloc ?_ _); exact BK259.out) : p := h
theorem z7_16 {p : Prop} (h : p := by (try simp only [hl9_2]); (try simp only [hl9_3]); (with_reducible repeat first|refine blk_drewN ?_ _|refine blk_drew ?_|refine blk_alloc ?_ _); exact BK269.out) : p := h
theorem z7_17 {p : Prop} (h : p := by (try simp only [hl9_2]); (try simp only [hl9_3]); (with_reducible repeat (first | apply Kd.R_alloc | apply Kd.R_drewN | apply Kd.R_drew)); exact aa.out) : p := h
theorem z7_18 {p : Prop} (h : p := by (try simp only [hl9_2]); (try simp only [hl9_3]); (with_reducible repeat (first | apply Kd.R_alloc | apply Kd.R_drewN | apply Kd.R_drew)); exact ab.out) : p := h
theorem z7_19 {p : Prop} (h : p := by (try simp only [hl9_2]); (try simp only [hl9_3]); (with_reducible repeat (first | apply Kd.R_alloc | apply Kd.R_drewN | apply Kd.R_drew)); exact HO_9.out) : p := h
theorem z7_20 {p : Prop} (h : p := by (with_reducible repeat (first | apply Kd.R_alloc | apply Kd.R_drewN | apply Kd.R_drew)); exact HO_29.out) : p := h
theorem z7_21 {p : Prop} (h : p := by first | rfl | (simp; done) | (simp [*]; done)) : p := h
theorem z7_22 {p : Prop} (h : p := by (try simp only [hl9_2]); (with_reducible repeat first|refine blk_drewN ?_ _|refine blk_drew ?_|refine blk_alloc ?_ _); refine blk_far ?_ ap.out _; (with_reducible repeat first|refine blk_drewN ?_ _|refine blk_drew ?_|refine blk_alloc ?_ _); exact BK258.out) : p := h
theorem z7_23 {p : Prop} (h : p := by (try simp only [hl9_2]); (with_reducible repeat first|refine blk_drewN ?_ _|refine blk_drew ?_|refine blk_alloc ?_ _); refine blk_far ?_ ao.out _; (with_reducible repeat first|refine blk_drewN ?_ _|refine blk_drew ?_|refine blk_alloc ?_ _); exact BK269.out) : p := h
theorem z7_24 {p : Prop} (h : p := by (with_reducible repeat (first | apply Kd.R_alloc | apply Kd.R_drewN | apply Kd.R_drew)); exact HO_128.out) : p := h
theorem z7_25 {p : Prop} (h : p := by have h_ := Kd.R_ne HO_9.out BK258.out (by decide); intro e_; exact h_ (by rw [e_]; rfl)) : p := h
theorem z7_26 {p : Prop} (h : p := by have h_ := Kd.R_ne HO_9.out BK259.out (by decide); intro e_; exact h_ (by rw [e_]; rfl)) : p := h
theorem z7_27 {p : Prop} (h : p := by have h_ := Kd.R_ne HO_9.out BK269.out (by decide); intro e_; exact h_ (by rw [e_]; rfl)) : p := h
theorem z7_28 {p : Prop} (h : p := by repeat (first | (with_reducible first | exact HB.out | apply below_alloc | apply pw_below_drewN | apply below_drew1 | refine below_set ?_ GE258.out) | exact HB.out)) : p := h
theorem z7_29 {p : Prop} (h : p := by have := HK1.out; have := HK2.out; omega) : p := h
theorem z7_30 {p : Prop} (h : p := by repeat (first | (with_reducible first | exact HB.out | apply below_alloc | apply pw_below_drewN | apply below_drew1) | exact HB.out)) : p := h
theorem z7_31 {p : Prop} (h : p := by have := HK1.out; have := HK2.out; have := HK3.out; first | omega | exact Nat.le_refl _) : p := h
theorem z7_32 {p : Prop} (h : p := by have := HK1.out; have := HK2.out; have := HK3.out; omega) : p := h
theorem z7_33 {p : Prop} (h : p := by (with_reducible repeat (first | apply Kd.R_alloc | apply Kd.R_drewN | apply Kd.R_drew)); exact HO265.out) : p := h
theorem z7_34 {p : Prop} (h : p := by rw [hw]; exact (gZ ai.out BK258.out)) : p := h
theorem z7_35 {p : Prop} (h : p := by rw [hw]; exact (gZ ah.out BK259.out)) : p := h
theorem z7_36 {p : Prop} (h : p := by rw [hw]; exact (gZ ak.out BK269.out)) : p := h
theorem z7_37 {p : Prop} (h : p := by (try simp only [hl9_2]); (with_reducible repeat first|refine blk_drewN ?_ _|refine blk_drew ?_|refine blk_alloc ?_ _); exact BK258.out) : p := h
theorem z7_38 {p : Prop} (h : p := by (try simp only [hl9_2]); (with_reducible repeat first|refine blk_drewN ?_ _|refine blk_drew ?_|refine blk_alloc ?_ _); exact BK259.out) : p := h
theorem z7_39 {p : Prop} (h : p := by (try simp only [hl9_2]); (with_reducible repeat first|refine blk_drewN ?_ _|refine blk_drew ?_|refine blk_alloc ?_ _); exact BK269.out) : p := h
theorem z7_40 {p : Prop} (h : p := by (try simp only [hl9_2]); (with_reducible repeat (first | apply Kd.R_alloc | apply Kd.R_drewN | apply Kd.R_drew)); exact aa.out) : p := h
theorem z7_41 {p : Prop} (h : p := by (try simp only [hl9_2]); (with_reducible repeat (first | apply Kd.R_alloc | apply Kd.R_drewN | apply Kd.R_drew)); exact ab.out) : p := h
theorem z7_42 {p : Prop} (h : p := by (try simp only [hl9_2]); (with_reducible repeat (first | apply Kd.R_alloc | apply Kd.R_drewN | apply Kd.R_drew)); exact HO_9.out) : p := h
theorem zs7 {α : Type} {l : List α} {i : Nat} {a : α} : l.toArray.setIfInBounds i a = (l.set i a).toArray := List.setIfInBounds_toArray _ _ _
theorem zc7 {α : Type} {x : α} {xs : List α} {a : α} : (x :: xs).set 0 a = a :: xs := List.set_cons_zero
theorem zd7 {α : Type} {x : α} {xs : List α} {n : Nat} {a : α} : (x :: xs).set (n + 1) a = x :: xs.set n a := List.set_cons_succ
set_option maxHeartbeats 8000000 in
set_option maxRecDepth 100000 in
theorem impl_solve.calls (k : Nat) (a0 : Int) (A1 : Option Addr) (c1 : Nat) (l1 : List Int) (A2 : Option Addr) (c2 : Nat) (l2 : List Int) (r1 : Int) (r2 : Int) (r3 : Int) (r4 : Int) (w : World) (hr1 : Kd.C (Kd.int .i64) w A1 l1.length l1) (hc1 : l1.length ≤ c1) (hr2 : Kd.C (Kd.int .i64) w A2 l2.length l2) (hc2 : l2.length ≤ c2) (h : impl_solve.f k a0 l1 l2 = some (r1, r2, r3, r4)) :
  Calls Try.prog 114 #[.int .i64 a0, .slice A1 l1.length c1, .slice A2 l2.length c2] w fun e w' => e = .returned (.agg #[.int .i64 r1, .int .i64 r2, .int .i64 r3, .int .i64 r4]) ∧ Below w.heap.size w w' := by
 have hu70 := Try.underlying70
 have hu102 := Try.underlying102
 have hu131 := Try.underlying131
 have HR1 := Aside0.mk hr1
 have HC1 := Aside0.mk hc1
 clear hr1 hc1
 have HR2 := Aside0.mk hr2
 have HC2 := Aside0.mk hc2
 clear hr2 hc2
 have HB := Aside0.mk (Below.refl w.heap.size w)
 unfold impl_solve.f at h
 have H := h
 clear h
 replace H := Option.bind_eq_some_iff.mp H
 obtain ⟨t260, A40, H⟩ := H
 have A4 := Aside0.mk A40
 clear A40
 replace H := Option.bind_eq_some_iff.mp H
 obtain ⟨⟨t263, t266⟩, A50, H⟩ := H
 dsimp only at H
 have A5 := Aside0.mk A50
 clear A50
 obtain ⟨y270, hy270⟩ : ∃ y_ : List (S131), y_ = (([] : List (S131))) := ⟨_, rfl⟩
 replace H : (impl_solve.l0 k l1 l2 y270 t263 (t263.length : Int) 0 0 0 0 0) = some (r1, r2, r3, r4) := yZZ_ hy270 H
 have Ny270 := Aside0.mk hy270
 clear hy270
 have H' := Aside0.mk H
 clear H
 go_enter Try.func114, Try.ntmps114
 go_wp2_with (first | ((with_reducible refine gate_dst (N := 6) rfl ?_); refine box_event ?hg (N := 6) ?hd (cs := #[.int .i64 0, .int .i64 0, .int .i64 0, .int .i64 0]) (t := 70) ?hr ?_; (case hd => rfl); (case hg => rfl); (case hr => first | (go_simp; done) | (go_simp; rfl)); intro gb258 hg w6 hbox hb; have BK258 := Aside0.mk (hbox); have GW258 := Aside0.mk ((by rw [hg]; exact (below_size z7_30) : w.heap.size ≤ gb258)); have GE258 := Aside0.mk ((by rw [hg]; exact (below_size z7_30) : w.heap.size ≤ gb258)); replace HB := Aside0.mk (below_step z7_30 hb); clear hb hbox hg) | ((with_reducible refine gate_dst (N := 7) rfl ?_); refine box_event ?hg (N := 7) ?hd (cs := #[.int .i64 0, .int .i64 0, .int .i64 0, .int .i64 0]) (t := 70) ?hr ?_; (case hd => rfl); (case hg => rfl); (case hr => first | (go_simp; done) | (go_simp; rfl)); intro gb259 hg w7 hbox hb; have BK259 := Aside0.mk (hbox); have GW259 := Aside0.mk ((by rw [hg]; exact (below_size z7_28) : w.heap.size ≤ gb259)); have GE259 := Aside0.mk ((by rw [hg]; exact (below_size z7_28) : w.heap.size ≤ gb259)); replace HB := Aside0.mk (below_step z7_28 hb); have ap := Aside0.mk ((by rw [hg]; exact bLZ_ BK258 : gb258 ≠ gb259)); have am := Aside0.mk ((by rw [hg]; exact bGZ_ BK258 : gb259 ≠ gb258)); replace BK258 := bBZ_ BK258 hb; clear hb hbox hg) | ((with_reducible refine gate_callee (f := 108) rfl ?_); refine goesL_ (some 23) rfl rfl Try.func108 (by kernel_rfl) rfl #[.int .i64 a0, .slice A2 l2.length c2] rfl z7_2 ?_; (with_reducible refine (impl_rowsOf.calls k a0 _ _ l2 t260 _ ?side1 ?side2 A4.out).mono ?_); (case side1 => exact cZ ((Kd.C_below HR2.out HB.out))); (case side2 => exact HC2.out); rintro e w8 ⟨v261, rfl, ho0, hb⟩; refine ⟨_, rfl, ?_⟩; have HO262 := Aside0.mk (Kd.R_lower (Kd.R_newB (Kd.R_newB ho0 (g := gb258) (o := .cells #[.int .i64 0, .int .i64 0, .int .i64 0, .int .i64 0] 70 (0, 0)) (zL7 BK258.out)) (g := gb259) (o := .cells #[.int .i64 0, .int .i64 0, .int .i64 0, .int .i64 0] 70 (0, 0)) (zL7 BK259.out)) (below_size z7_12)); replace BK258 := bBZ_ BK258 hb; replace BK259 := bBZ_ BK259 hb; replace HB := Aside0.mk (below_step z7_12 hb); (try clear hb); (try clear ho0); obtain ⟨Ao9, co9, eo9⟩ := Kd.R_slice HO262.out; subst eo9) | ((with_reducible refine gate_callee (f := 65) rfl ?_); refine goesL_ (some 24) rfl rfl Try.func65 (by kernel_rfl) rfl #[.slice Ao9 t260.length co9] rfl z7_2 ?_; (with_reducible refine (impl_spanOf.calls k _ _ t260 t263 t266 _ ?side1 ?side2 A5.out).mono ?_); (case side1 => exact cZ ((Kd.R_reads' HO262.out).2.2)); (case side2 => exact (Kd.R_reads' HO262.out).2.1); rintro e w10 ⟨v264, v267, gb269, rfl, hbox, hgr, ho0, ho1, hb⟩; refine ⟨_, rfl, ?_⟩; replace HO262 := Aside0.mk (Kd.R_below (by (with_reducible repeat (first | apply Kd.R_alloc | apply Kd.R_drewN | apply Kd.R_drew)); exact HO262.out) hb); have HO265 := Aside0.mk (Kd.R_lower ho0 (below_size z7_12)); have HO268 := Aside0.mk (Kd.R_lower ho1 (below_size z7_12)); have BK269 := Aside0.mk (hbox); have GW269 := Aside0.mk ((Nat.le_trans ((below_size z7_12) : w.heap.size ≤ _) hgr : w.heap.size ≤ gb269)); have GE269 := Aside0.mk ((Nat.le_trans ((below_size z7_12) : w.heap.size ≤ _) hgr : w.heap.size ≤ gb269)); have aG := Aside0.mk ((Nat.ne_of_lt (Nat.lt_of_lt_of_le (blk_lt (g := gb258) (o := .cells #[.int .i64 0, .int .i64 0, .int .i64 0, .int .i64 0] 70 (0, 0)) (zL7 BK258.out)) hgr) : gb258 ≠ gb269)); have aq := Aside0.mk ((Nat.ne_of_gt (Nat.lt_of_lt_of_le (blk_lt (g := gb258) (o := .cells #[.int .i64 0, .int .i64 0, .int .i64 0, .int .i64 0] 70 (0, 0)) (zL7 BK258.out)) hgr) : gb269 ≠ gb258)); replace BK258 := bBZ_ BK258 hb; have an := Aside0.mk ((Nat.ne_of_lt (Nat.lt_of_lt_of_le (blk_lt (g := gb259) (o := .cells #[.int .i64 0, .int .i64 0, .int .i64 0, .int .i64 0] 70 (0, 0)) (zL7 BK259.out)) hgr) : gb259 ≠ gb269)); have ao := Aside0.mk ((Nat.ne_of_gt (Nat.lt_of_lt_of_le (blk_lt (g := gb259) (o := .cells #[.int .i64 0, .int .i64 0, .int .i64 0, .int .i64 0] 70 (0, 0)) (zL7 BK259.out)) hgr) : gb269 ≠ gb259)); replace BK259 := bBZ_ BK259 hb; replace HB := Aside0.mk (below_step z7_12 hb); (try clear hb); (try clear ho0); (try clear ho1)) | ((with_reducible refine gate_dst (N := 25) rfl ?_); refine Kd.R_lit k131 _ 131 ?hg (N := 25) ?hd (xs := ([] : List (S131))) (inner := []) (ok := fun _ => True) (okp := fun _ => True) ?hr ?hp (fun _ hk => hk) trivial (Below.refl _ _) (Nat.le_refl _) (by simp) ?_; (case hd => rfl); (case hg => rfl); (case hr => first | (go_simp; done) | (go_simp; rfl)); (case hp => exact (Reps.none _ _)); intro v271 w11 ho12 hb hg_ hnew_; clear hg_ hnew_; (first | rw [← Ny270.out] at ho12 | (simp only [Int.reduceToNat] at ho12; rw [← Ny270.out] at ho12)); replace HO262 := Aside0.mk (Kd.R_below (by (with_reducible repeat (first | apply Kd.R_alloc | apply Kd.R_drewN | apply Kd.R_drew)); exact HO262.out) hb); replace HO265 := Aside0.mk (Kd.R_below z7_33 hb); replace HO268 := Aside0.mk (Kd.R_below (by (with_reducible repeat (first | apply Kd.R_alloc | apply Kd.R_drewN | apply Kd.R_drew)); exact HO268.out) hb); have HO272 := Aside0.mk (Kd.R_lower ho12 (below_size z7_1)); replace BK258 := bBZ_ BK258 hb; replace BK259 := bBZ_ BK259 hb; replace BK269 := bBZ_ BK269 hb; replace HB := Aside0.mk (below_step z7_1 hb); clear hb ho12; have hnb13 := aq.out; have hnc13 := aG.out; have hnb14 := ao.out; have hnc14 := an.out; have aK : w11.cell? ⟨gb269, 0, none⟩ = some (v264) := bA7 BK269 rfl; have aM := blk_frozen BK269.out 0; obtain ⟨Ao16, co16, eo16⟩ := Kd.R_slice HO265.out; subst eo16))
 go_loopg [9, 31] k (fun kq v9 v31 w' => ∃ (x9_1 : List (S131)) (x31_1 : Int), v31 = .int .i64 x31_1 ∧ Aside0 (impl_solve.l0 kq l1 l2 x9_1 t263 (t263.length : Int) x31_1 0 0 0 0 = some (r1, r2, r3, r4)) ∧ Aside0 (kq ≤ k) ∧ Aside0 (Kd.R k131 131 w' w.heap.size (fun _ => True) v9 x9_1) ∧ Aside0 (Kd.R k102 102 w' w.heap.size (fun _ => True) (.slice Ao16 t263.length co16) t263) ∧ Aside0 (Kd.R k102 102 w' w.heap.size (fun _ => True) (.slice Ao16 t263.length co16) t263) ∧ Aside0 (Kd.R (Kd.int .i64) 3 w' w.heap.size (fun _ => True) v267 t266) ∧ Aside0 (w'.heap[gb258]? = some (.cells #[.int .i64 0, .int .i64 0, .int .i64 0, .int .i64 0] 70 (0, 0))) ∧ Aside0 (w'.heap[gb259]? = some (.cells #[.int .i64 0, .int .i64 0, .int .i64 0, .int .i64 0] 70 (0, 0))) ∧ Aside0 (w'.heap[gb269]? = some (.cells #[(.slice Ao16 t263.length co16), v267] 81 (0, 0))) ∧ Aside0 (Below w.heap.size w w'))
 case atStart => exact ⟨(y270), (0), z7_21, H', ⟨Nat.le_refl _⟩, ⟨by (with_reducible repeat (first | apply Kd.R_alloc | apply Kd.R_drewN | apply Kd.R_drew)); exact HO272.out⟩, ⟨z7_33⟩, ⟨z7_33⟩, ⟨by (with_reducible repeat (first | apply Kd.R_alloc | apply Kd.R_drewN | apply Kd.R_drew)); exact HO268.out⟩, ⟨zL7 BK258.out⟩, ⟨zL7 BK259.out⟩, ⟨zL7 BK269.out⟩, ⟨z7_1⟩⟩
 case round =>
  clear H'
  try clear c1
  try clear c2
  try clear aK
  try clear aM
  obtain ⟨x9_1, x31_1, rfl, HA, HK1, HO_9, HO_29, aa, ab, BK258, BK259, BK269, HB⟩ := hrel
  cases gk with
  | zero => exact absurd HA.out (by simp [impl_solve.l0])
  | succ k1 =>
   have H := HA.out
   clear HA; simp only [impl_solve.l0] at H
   by_cases c17 : x31_1 < (t263.length : Int)
   ·rw [if_pos c17] at H
    have c17b0 : decide (x31_1 < (t263.length : Int)) = true := decide_eq_true c17; clear c17; obtain ⟨c18, H⟩ := ifP H; have c18b0 : decide (0 ≤ x31_1) = true := decide_eq_true c18; clear c18; obtain ⟨c19, H⟩ := ifP H; have c19b0 : decide (x31_1 < (t263.length : Int)) = true := decide_eq_true c19; clear c19
    have H' := Aside0.mk H
    clear H; have p273 : 0 ≤ (x31_1 : Int) := of_decide_eq_true z7_3; have q273 : x31_1 < (t263.length : Int) := of_decide_eq_true z7_3; obtain ⟨ad273, e273, hx273_0, hx273_1, hx273_2, hx273_3, hx273_4, hx273_5, hx273_6, hx273_7, hx273_8, hx273_9, hx273_10, hx273_11⟩ := at_T102 (Kd.R_reads' HO_29.out).2.2 x31_1 p273 q273; cases e273
    replace p273 := eq_true p273
    replace q273 := eq_true q273
    go_wp2_with (first | ((with_reducible refine gate_dst (N := 11) rfl ?_); refine box_event ?hg (N := 11) ?hd (cs := #[.int .i64 0, .int .i64 0, .int .i64 0, .int .i64 0, .int .i64 0, .int .i64 0, .int .i64 0, .int .i64 0, .int .i64 0, .int .i64 0, .int .i64 0, .int .i64 0]) (t := 102) ?hr ?_; (case hd => rfl); (case hg => rfl); (case hr => first | (go_simp; done) | (go_simp; rfl)); intro gb274 hg w20 hbox hb; replace HO_9 := Aside0.mk (Kd.R_below z7_11 hb); replace HO_29 := Aside0.mk (Kd.R_below (Kd.R_elderB z7_20 gb274 (Nat.le_of_eq hg.symm)) hb); replace aa := Aside0.mk (Kd.R_below (Kd.R_elderB z7_7 gb274 (Nat.le_of_eq hg.symm)) hb); replace ab := Aside0.mk (Kd.R_below z7_6 hb); have BK274 := Aside0.mk (hbox); have GW274 := Aside0.mk ((by rw [hg]; exact (below_size z7_1) : w.heap.size ≤ gb274)); have GE274 := Aside0.mk ((by rw [hg]; exact (below_size z7_1) : w.heap.size ≤ gb274)); replace HB := Aside0.mk (below_step z7_1 hb); have ar := Aside0.mk ((by rw [hg]; exact bLZ_ BK258 : gb258 ≠ gb274)); have aH := Aside0.mk ((by rw [hg]; exact bGZ_ BK258 : gb274 ≠ gb258)); replace BK258 := bBZ_ BK258 hb; have au := Aside0.mk ((by rw [hg]; exact bLZ_ BK259 : gb259 ≠ gb274)); have aI := Aside0.mk ((by rw [hg]; exact bGZ_ BK259 : gb274 ≠ gb259)); replace BK259 := bBZ_ BK259 hb; have av := Aside0.mk ((by rw [hg]; exact bLZ_ BK269 : gb269 ≠ gb274)); have aJ := Aside0.mk ((by rw [hg]; exact bGZ_ BK269 : gb274 ≠ gb269)); replace BK269 := bBZ_ BK269 hb; clear hb hbox hg; have hnb21 := aH.out; have hnc21 := ar.out; have hnb22 := aI.out; have hnc22 := au.out; have hnb23 := aJ.out; have hnc23 := av.out; have hcz24_0 : w20.cell? ⟨gb274, 0, none⟩ = some (.int .i64 0) := bA7 BK274 rfl; have hfz24_0 := blk_frozen BK274.out 0; have hcz25_1 : w20.cell? ⟨gb274, 1, none⟩ = some (.int .i64 0) := bA7 BK274 rfl; have hfz25_1 := blk_frozen BK274.out 1; have hcz26_2 : w20.cell? ⟨gb274, 2, none⟩ = some (.int .i64 0) := bA7 BK274 rfl; have hfz26_2 := blk_frozen BK274.out 2; have hcz27_3 : w20.cell? ⟨gb274, 3, none⟩ = some (.int .i64 0) := bA7 BK274 rfl; have hfz27_3 := blk_frozen BK274.out 3; have hcz28_4 : w20.cell? ⟨gb274, 4, none⟩ = some (.int .i64 0) := bA7 BK274 rfl; have hfz28_4 := blk_frozen BK274.out 4; have hcz29_5 : w20.cell? ⟨gb274, 5, none⟩ = some (.int .i64 0) := bA7 BK274 rfl; have hfz29_5 := blk_frozen BK274.out 5; have hcz30_6 : w20.cell? ⟨gb274, 6, none⟩ = some (.int .i64 0) := bA7 BK274 rfl; have hfz30_6 := blk_frozen BK274.out 6; have hcz31_7 : w20.cell? ⟨gb274, 7, none⟩ = some (.int .i64 0) := bA7 BK274 rfl; have hfz31_7 := blk_frozen BK274.out 7; have hcz32_8 : w20.cell? ⟨gb274, 8, none⟩ = some (.int .i64 0) := bA7 BK274 rfl; have hfz32_8 := blk_frozen BK274.out 8; have hcz33_9 : w20.cell? ⟨gb274, 9, none⟩ = some (.int .i64 0) := bA7 BK274 rfl; have hfz33_9 := blk_frozen BK274.out 9; have aN : w20.cell? ⟨gb274, 10, none⟩ = some (.int .i64 0) := bA7 BK274 rfl; have aQ := blk_frozen BK274.out 10; have aR : w20.cell? ⟨gb274, 11, none⟩ = some (.int .i64 0) := bA7 BK274 rfl; have aT := blk_frozen BK274.out 11) | ((with_reducible refine gate_store (t := 102) (p := 11) rfl ?_); refine store_event (t := 102) (p := 11) (v := ?vo_w36) (w1 := ((((((((((((w20.setCell ⟨gb274, 0, none⟩ (.int .i64 ((rd_T102 t263 x31_1).f0.f0))).setCell ⟨gb274, 1, none⟩ (.int .i64 ((rd_T102 t263 x31_1).f0.f1))).setCell ⟨gb274, 2, none⟩ (.int .i64 ((rd_T102 t263 x31_1).f0.f2))).setCell ⟨gb274, 3, none⟩ (.int .i64 ((rd_T102 t263 x31_1).f0.f3))).setCell ⟨gb274, 4, none⟩ (.int .i64 ((rd_T102 t263 x31_1).f1.f0))).setCell ⟨gb274, 5, none⟩ (.int .i64 ((rd_T102 t263 x31_1).f1.f1))).setCell ⟨gb274, 6, none⟩ (.int .i64 ((rd_T102 t263 x31_1).f1.f2))).setCell ⟨gb274, 7, none⟩ (.int .i64 ((rd_T102 t263 x31_1).f1.f3))).setCell ⟨gb274, 8, none⟩ (.int .i64 ((rd_T102 t263 x31_1).f1.f4))).setCell ⟨gb274, 9, none⟩ (.int .i64 ((rd_T102 t263 x31_1).f1.f5))).setCell ⟨gb274, 10, none⟩ (.int .i64 ((rd_T102 t263 x31_1).f1.f6))).setCell ⟨gb274, 11, none⟩ (.int .i64 ((rd_T102 t263 x31_1).f1.f7)))) ?hg ?ho ?hn ?hr ?_; (case ho => rfl); (case hg => rfl); (case hn => rfl); (case hr => first | (go_simp; done) | (go_simp; rfl)); intro w36 hw; have n0_ : Aside0 (Kd.R k131 131 w36 w.heap.size (fun _ => True) u9 x9_1) := ⟨(by rw [hw]; exact (by (with_reducible repeat (first | apply Kd.R_alloc | apply Kd.R_drewN | apply Kd.R_drew)); exact Kd.R_mono (Kd.R_far (p := ⟨gb274, 11, none⟩) (Kd.R_far (p := ⟨gb274, 10, none⟩) (Kd.R_far (p := ⟨gb274, 9, none⟩) (Kd.R_far (p := ⟨gb274, 8, none⟩) (Kd.R_far (p := ⟨gb274, 7, none⟩) (Kd.R_far (p := ⟨gb274, 6, none⟩) (Kd.R_far (p := ⟨gb274, 5, none⟩) (Kd.R_far (p := ⟨gb274, 4, none⟩) (Kd.R_far (p := ⟨gb274, 3, none⟩) (Kd.R_far (p := ⟨gb274, 2, none⟩) (Kd.R_far (p := ⟨gb274, 1, none⟩) (Kd.R_far (p := ⟨gb274, 0, none⟩) (Kd.R_types HO_9.out BK274.out (by decide)) (fun _ hk => hk.2) (.int .i64 ((rd_T102 t263 x31_1).f0.f0))) (fun _ hk => hk.2) (.int .i64 ((rd_T102 t263 x31_1).f0.f1))) (fun _ hk => hk.2) (.int .i64 ((rd_T102 t263 x31_1).f0.f2))) (fun _ hk => hk.2) (.int .i64 ((rd_T102 t263 x31_1).f0.f3))) (fun _ hk => hk.2) (.int .i64 ((rd_T102 t263 x31_1).f1.f0))) (fun _ hk => hk.2) (.int .i64 ((rd_T102 t263 x31_1).f1.f1))) (fun _ hk => hk.2) (.int .i64 ((rd_T102 t263 x31_1).f1.f2))) (fun _ hk => hk.2) (.int .i64 ((rd_T102 t263 x31_1).f1.f3))) (fun _ hk => hk.2) (.int .i64 ((rd_T102 t263 x31_1).f1.f4))) (fun _ hk => hk.2) (.int .i64 ((rd_T102 t263 x31_1).f1.f5))) (fun _ hk => hk.2) (.int .i64 ((rd_T102 t263 x31_1).f1.f6))) (fun _ hk => hk.2) (.int .i64 ((rd_T102 t263 x31_1).f1.f7))) (fun _ hk => trivial)))⟩; have n1_ : Aside0 (Kd.R k102 102 w36 w.heap.size (fun k_ => k_ ≠ gb274) (.slice (some ad273) t263.length co16) t263) := ⟨(by rw [hw]; exact (by (with_reducible repeat (first | apply Kd.R_alloc | apply Kd.R_drewN | apply Kd.R_drew)); exact Kd.R_mono (Kd.R_far (p := ⟨gb274, 11, none⟩) (Kd.R_far (p := ⟨gb274, 10, none⟩) (Kd.R_far (p := ⟨gb274, 9, none⟩) (Kd.R_far (p := ⟨gb274, 8, none⟩) (Kd.R_far (p := ⟨gb274, 7, none⟩) (Kd.R_far (p := ⟨gb274, 6, none⟩) (Kd.R_far (p := ⟨gb274, 5, none⟩) (Kd.R_far (p := ⟨gb274, 4, none⟩) (Kd.R_far (p := ⟨gb274, 3, none⟩) (Kd.R_far (p := ⟨gb274, 2, none⟩) (Kd.R_far (p := ⟨gb274, 1, none⟩) (Kd.R_far (p := ⟨gb274, 0, none⟩) (Kd.R_mono HO_29.out (fun k_ hk => (⟨hk, hk.2⟩ : _ ∧ k_ ≠ gb274))) (fun _ hk => hk.2) (.int .i64 ((rd_T102 t263 x31_1).f0.f0))) (fun _ hk => hk.2) (.int .i64 ((rd_T102 t263 x31_1).f0.f1))) (fun _ hk => hk.2) (.int .i64 ((rd_T102 t263 x31_1).f0.f2))) (fun _ hk => hk.2) (.int .i64 ((rd_T102 t263 x31_1).f0.f3))) (fun _ hk => hk.2) (.int .i64 ((rd_T102 t263 x31_1).f1.f0))) (fun _ hk => hk.2) (.int .i64 ((rd_T102 t263 x31_1).f1.f1))) (fun _ hk => hk.2) (.int .i64 ((rd_T102 t263 x31_1).f1.f2))) (fun _ hk => hk.2) (.int .i64 ((rd_T102 t263 x31_1).f1.f3))) (fun _ hk => hk.2) (.int .i64 ((rd_T102 t263 x31_1).f1.f4))) (fun _ hk => hk.2) (.int .i64 ((rd_T102 t263 x31_1).f1.f5))) (fun _ hk => hk.2) (.int .i64 ((rd_T102 t263 x31_1).f1.f6))) (fun _ hk => hk.2) (.int .i64 ((rd_T102 t263 x31_1).f1.f7))) (fun _ hk => hk.1.2)))⟩; have n2_ : Aside0 (Kd.R k102 102 w36 w.heap.size (fun k_ => k_ ≠ gb274) (.slice (some ad273) t263.length co16) t263) := ⟨(by rw [hw]; exact (by (with_reducible repeat (first | apply Kd.R_alloc | apply Kd.R_drewN | apply Kd.R_drew)); exact Kd.R_mono (Kd.R_far (p := ⟨gb274, 11, none⟩) (Kd.R_far (p := ⟨gb274, 10, none⟩) (Kd.R_far (p := ⟨gb274, 9, none⟩) (Kd.R_far (p := ⟨gb274, 8, none⟩) (Kd.R_far (p := ⟨gb274, 7, none⟩) (Kd.R_far (p := ⟨gb274, 6, none⟩) (Kd.R_far (p := ⟨gb274, 5, none⟩) (Kd.R_far (p := ⟨gb274, 4, none⟩) (Kd.R_far (p := ⟨gb274, 3, none⟩) (Kd.R_far (p := ⟨gb274, 2, none⟩) (Kd.R_far (p := ⟨gb274, 1, none⟩) (Kd.R_far (p := ⟨gb274, 0, none⟩) (Kd.R_mono aa.out (fun k_ hk => (⟨hk, hk.2⟩ : _ ∧ k_ ≠ gb274))) (fun _ hk => hk.2) (.int .i64 ((rd_T102 t263 x31_1).f0.f0))) (fun _ hk => hk.2) (.int .i64 ((rd_T102 t263 x31_1).f0.f1))) (fun _ hk => hk.2) (.int .i64 ((rd_T102 t263 x31_1).f0.f2))) (fun _ hk => hk.2) (.int .i64 ((rd_T102 t263 x31_1).f0.f3))) (fun _ hk => hk.2) (.int .i64 ((rd_T102 t263 x31_1).f1.f0))) (fun _ hk => hk.2) (.int .i64 ((rd_T102 t263 x31_1).f1.f1))) (fun _ hk => hk.2) (.int .i64 ((rd_T102 t263 x31_1).f1.f2))) (fun _ hk => hk.2) (.int .i64 ((rd_T102 t263 x31_1).f1.f3))) (fun _ hk => hk.2) (.int .i64 ((rd_T102 t263 x31_1).f1.f4))) (fun _ hk => hk.2) (.int .i64 ((rd_T102 t263 x31_1).f1.f5))) (fun _ hk => hk.2) (.int .i64 ((rd_T102 t263 x31_1).f1.f6))) (fun _ hk => hk.2) (.int .i64 ((rd_T102 t263 x31_1).f1.f7))) (fun _ hk => hk.1.2)))⟩; have n3_ : Aside0 (Kd.R (Kd.int .i64) 3 w36 w.heap.size (fun _ => True) v267 t266) := ⟨(by rw [hw]; exact (by (with_reducible repeat (first | apply Kd.R_alloc | apply Kd.R_drewN | apply Kd.R_drew)); exact Kd.R_mono (Kd.R_far (p := ⟨gb274, 11, none⟩) (Kd.R_far (p := ⟨gb274, 10, none⟩) (Kd.R_far (p := ⟨gb274, 9, none⟩) (Kd.R_far (p := ⟨gb274, 8, none⟩) (Kd.R_far (p := ⟨gb274, 7, none⟩) (Kd.R_far (p := ⟨gb274, 6, none⟩) (Kd.R_far (p := ⟨gb274, 5, none⟩) (Kd.R_far (p := ⟨gb274, 4, none⟩) (Kd.R_far (p := ⟨gb274, 3, none⟩) (Kd.R_far (p := ⟨gb274, 2, none⟩) (Kd.R_far (p := ⟨gb274, 1, none⟩) (Kd.R_far (p := ⟨gb274, 0, none⟩) (Kd.R_types ab.out BK274.out (by decide)) (fun _ hk => hk.2) (.int .i64 ((rd_T102 t263 x31_1).f0.f0))) (fun _ hk => hk.2) (.int .i64 ((rd_T102 t263 x31_1).f0.f1))) (fun _ hk => hk.2) (.int .i64 ((rd_T102 t263 x31_1).f0.f2))) (fun _ hk => hk.2) (.int .i64 ((rd_T102 t263 x31_1).f0.f3))) (fun _ hk => hk.2) (.int .i64 ((rd_T102 t263 x31_1).f1.f0))) (fun _ hk => hk.2) (.int .i64 ((rd_T102 t263 x31_1).f1.f1))) (fun _ hk => hk.2) (.int .i64 ((rd_T102 t263 x31_1).f1.f2))) (fun _ hk => hk.2) (.int .i64 ((rd_T102 t263 x31_1).f1.f3))) (fun _ hk => hk.2) (.int .i64 ((rd_T102 t263 x31_1).f1.f4))) (fun _ hk => hk.2) (.int .i64 ((rd_T102 t263 x31_1).f1.f5))) (fun _ hk => hk.2) (.int .i64 ((rd_T102 t263 x31_1).f1.f6))) (fun _ hk => hk.2) (.int .i64 ((rd_T102 t263 x31_1).f1.f7))) (fun _ hk => trivial)))⟩; have n4_ : Aside0 (w36.heap[gb258]? = some (.cells #[.int .i64 0, .int .i64 0, .int .i64 0, .int .i64 0] 70 (0, 0))) := ⟨(by rw [hw]; exact (gZ ar.out BK258.out))⟩; have n5_ : Aside0 (w36.heap[gb259]? = some (.cells #[.int .i64 0, .int .i64 0, .int .i64 0, .int .i64 0] 70 (0, 0))) := ⟨(by rw [hw]; exact (gZ au.out BK259.out))⟩; have n6_ : Aside0 (w36.heap[gb269]? = some (.cells #[.slice (some ad273) t263.length co16, v267] 81 (0, 0))) := ⟨(by rw [hw]; exact (gZ av.out BK269.out))⟩; have n7_ : Aside0 (w36.heap[gb274]? = some (.cells #[.int .i64 ((rd_T102 t263 x31_1).f0.f0), .int .i64 ((rd_T102 t263 x31_1).f0.f1), .int .i64 ((rd_T102 t263 x31_1).f0.f2), .int .i64 ((rd_T102 t263 x31_1).f0.f3), .int .i64 ((rd_T102 t263 x31_1).f1.f0), .int .i64 ((rd_T102 t263 x31_1).f1.f1), .int .i64 ((rd_T102 t263 x31_1).f1.f2), .int .i64 ((rd_T102 t263 x31_1).f1.f3), .int .i64 ((rd_T102 t263 x31_1).f1.f4), .int .i64 ((rd_T102 t263 x31_1).f1.f5), .int .i64 ((rd_T102 t263 x31_1).f1.f6), .int .i64 ((rd_T102 t263 x31_1).f1.f7)] 102 (0, 0))) := ⟨(by rw [hw]; exact (bZ BK274.out))⟩; have n8_ : Aside0 (Below w.heap.size w w36) := ⟨(by rw [hw]; exact z7_4)⟩; clear hw; clear HO_9; clear HO_29; clear aa; clear ab; clear BK258; clear BK259; clear BK269; clear BK274; clear HB; have HO_9 := n0_; have HO_29 := n1_; have aa := n2_; have ab := n3_; have BK258 := n4_; have BK259 := n5_; have BK269 := n6_; have BK274 := n7_; have HB := n8_; clear n0_ n1_ n2_ n3_ n4_ n5_ n6_ n7_ n8_))
    go_loopg [12, 37] k1 (fun kq v12 v37 w' => ∃ (x12_2 : Int) (x37_2 : Int), v12 = .int .i64 x12_2 ∧ v37 = .int .i64 x37_2 ∧ Aside0 (impl_solve.l1 kq l1 l2 x9_1 x12_2 t263 (t263.length : Int) x31_1 l2 (l2.length : Int) x37_2 0 0 0 0 ((rd_T102 t263 x31_1).f0.f0) ((rd_T102 t263 x31_1).f0.f1) ((rd_T102 t263 x31_1).f0.f2) ((rd_T102 t263 x31_1).f0.f3) ((rd_T102 t263 x31_1).f1.f0) ((rd_T102 t263 x31_1).f1.f1) ((rd_T102 t263 x31_1).f1.f2) ((rd_T102 t263 x31_1).f1.f3) ((rd_T102 t263 x31_1).f1.f4) ((rd_T102 t263 x31_1).f1.f5) ((rd_T102 t263 x31_1).f1.f6) ((rd_T102 t263 x31_1).f1.f7) = some (r1, r2, r3, r4)) ∧ Aside0 (kq ≤ k1) ∧ Aside0 (Kd.R k131 131 w' w.heap.size (fun _ => True) u9 x9_1) ∧ Aside0 (Kd.R k102 102 w' w.heap.size (fun k_ => k_ ≠ gb274) (.slice (some ad273) t263.length co16) t263) ∧ Aside0 (Kd.R k102 102 w' w.heap.size (fun k_ => k_ ≠ gb274) (.slice (some ad273) t263.length co16) t263) ∧ Aside0 (Kd.R (Kd.int .i64) 3 w' w.heap.size (fun _ => True) v267 t266) ∧ Aside0 (w'.heap[gb258]? = some (.cells #[.int .i64 0, .int .i64 0, .int .i64 0, .int .i64 0] 70 (0, 0))) ∧ Aside0 (w'.heap[gb259]? = some (.cells #[.int .i64 0, .int .i64 0, .int .i64 0, .int .i64 0] 70 (0, 0))) ∧ Aside0 (w'.heap[gb269]? = some (.cells #[(.slice (some ad273) t263.length co16), v267] 81 (0, 0))) ∧ Aside0 (w'.heap[gb274]? = some (.cells #[.int .i64 ((rd_T102 t263 x31_1).f0.f0), .int .i64 ((rd_T102 t263 x31_1).f0.f1), .int .i64 ((rd_T102 t263 x31_1).f0.f2), .int .i64 ((rd_T102 t263 x31_1).f0.f3), .int .i64 ((rd_T102 t263 x31_1).f1.f0), .int .i64 ((rd_T102 t263 x31_1).f1.f1), .int .i64 ((rd_T102 t263 x31_1).f1.f2), .int .i64 ((rd_T102 t263 x31_1).f1.f3), .int .i64 ((rd_T102 t263 x31_1).f1.f4), .int .i64 ((rd_T102 t263 x31_1).f1.f5), .int .i64 ((rd_T102 t263 x31_1).f1.f6), .int .i64 ((rd_T102 t263 x31_1).f1.f7)] 102 (0, 0))) ∧ Aside0 (Below w.heap.size w w'))
    case atStart => exact ⟨(0), (0), z7_21, z7_21, H', ⟨Nat.le_refl _⟩, ⟨z7_11⟩, ⟨z7_20⟩, ⟨z7_7⟩, ⟨z7_6⟩, ⟨zL7 BK258.out⟩, ⟨zL7 BK259.out⟩, ⟨zL7 BK269.out⟩, ⟨zL7 BK274.out⟩, ⟨z7_4⟩⟩
    case round =>
     clear H'
     try clear c1
     try clear c2
     try clear c17
     try clear c17b0
     try clear c18
     try clear c18b0
     try clear c19
     try clear c19b0
     try clear aK
     try clear hcz24_0
     try clear hcz25_1
     try clear hcz26_2
     try clear hcz27_3
     try clear hcz28_4
     try clear hcz29_5
     try clear hcz30_6
     try clear hcz31_7
     try clear hcz32_8
     try clear hcz33_9
     try clear aN
     try clear aR
     try clear aM
     try clear hfz24_0
     try clear hfz25_1
     try clear hfz26_2
     try clear hfz27_3
     try clear hfz28_4
     try clear hfz29_5
     try clear hfz30_6
     try clear hfz31_7
     try clear hfz32_8
     try clear hfz33_9
     try clear aQ
     try clear aT
     try clear hx273_0 hx273_1 hx273_10 hx273_11 hx273_2 hx273_3 hx273_4 hx273_5 hx273_6 hx273_7 hx273_8 hx273_9
     try clear p273
     try clear q273
     obtain ⟨x12_2, x37_2, rfl, rfl, HA, HK2, HO_9, HO_29, aa, ab, BK258, BK259, BK269, BK274, HB⟩ := hrel
     cases gk with
     | zero => exact absurd HA.out (by simp [impl_solve.l1])
     | succ k2 =>
      have H := HA.out
      clear HA; simp only [impl_solve.l1] at H
      by_cases c37 : x37_2 < (l2.length : Int)
      ·rw [if_pos c37] at H
       have c37b0 : decide (x37_2 < (l2.length : Int)) = true := decide_eq_true c37; clear c37; obtain ⟨c38, H⟩ := ifP H; have c38b0 : decide (0 ≤ x37_2) = true := decide_eq_true c38; clear c38; obtain ⟨c39, H⟩ := ifP H; have c39b0 : decide (x37_2 < (l2.length : Int)) = true := decide_eq_true c39; clear c39
       by_cases c40 : x37_2 = 0
       ·rw [if_pos c40] at H
        subst c40
        (try have hz_ := eq_true (Int.natCast_pos.1 (of_decide_eq_true c39b0) : 0 < l2.length))
        obtain ⟨c41, H⟩ := ifP H; have c41b0 : decide (0 ≤ (rd l2 (0 : Int))) = true := decide_eq_true c41; clear c41; obtain ⟨c42, H⟩ := ifP H; have c42b0 : decide ((rd l2 (0 : Int)) < (l1.length : Int)) = true := decide_eq_true c42; clear c42
        replace H := Option.bind_eq_some_iff.mp H
        obtain ⟨t277, A430, H⟩ := H
        have A43 := Aside0.mk A430
        clear A430
        replace H := Option.bind_eq_some_iff.mp H
        obtain ⟨t278, A440, H⟩ := H
        have A44 := Aside0.mk A440
        clear A440
        have H' := Aside0.mk H
        clear H; have p275 : 0 ≤ ((0 : Int) : Int) := of_decide_eq_true z7_3
        have q275 : (0 : Int) < (l2.length : Int) := of_decide_eq_true z7_3
        obtain ⟨ad275, e275, hx275_0⟩ := Kd.at_int HR2.out (0 : Int) p275 q275; cases e275
        replace hx275_0 := (HB.out.cell (World.block_lt_of_cell? w _ hx275_0)).trans hx275_0
        (try simp only [Int.reduceToNat, Addr.add_zero', Addr.add_succ', Nat.reduceAdd] at hx275_0)
        replace p275 := eq_true p275
        replace q275 := eq_true q275
        try go_wp2
        replace HO_9 := Aside0.mk (Kd.R_drew HO_9.out)
        replace HO_29 := Aside0.mk (Kd.R_drew HO_29.out)
        replace aa := Aside0.mk (Kd.R_drew aa.out)
        replace ab := Aside0.mk (Kd.R_drew ab.out)
        replace BK258 := Aside0.mk (blk_drew BK258.out)
        replace BK259 := Aside0.mk (blk_drew BK259.out)
        replace BK269 := Aside0.mk (blk_drew BK269.out)
        replace BK274 := Aside0.mk (blk_drew BK274.out)
        replace HB := Aside0.mk (below_drew1 HB.out)
        have p276 : 0 ≤ ((rd l2 (0 : Int)) : Int) := of_decide_eq_true z7_3
        have q276 : (rd l2 (0 : Int)) < (l1.length : Int) := of_decide_eq_true z7_3
        obtain ⟨ad276, e276, hx276_0⟩ := Kd.at_int HR1.out (rd l2 (0 : Int)) p276 q276
        have hw276_0 := hx276_0
        cases e276
        replace hx276_0 := (HB.out.cell (World.block_lt_of_cell? w _ hx276_0)).trans hx276_0
        replace p276 := eq_true p276
        replace q276 := eq_true q276
        refine start_ (n := 12) (S := fun w' => w'.cell? ⟨gb274, 4, none⟩ = some (.int .i64 ((rd_T102 t263 x31_1).f1.f0)) ∧ w'.cell? (ad276.add ((rd l2 (0 : Int))).toNat) = some (.int .i64 (rd l1 (rd l2 (0 : Int))))) (ds := []) #[false, false, false, false, false, false, false, false, false, false, false, false] (by kernel_rfl) rfl rfl ⟨bA7 BK274 rfl, ((HB.out.cell (World.block_lt_of_cell? w _ hw276_0)).trans hw276_0)⟩ (fun hHeld => ?_); refine with_tabW impl_solve.tab11 impl_solve.bits11 (fun HT_ HW_ => ?_); generalize wr.drew = w45 at HO_9 HO_29 aa ab BK258 BK259 BK269 BK274 HB hx276_0 hHeld ⊢; refine pZ 0 HT_ ?_; refine pZ 1 HT_ ?_; refine pZ 2 HT_ ?_; refine pZ 3 HT_ ?_; refine pZ 5 HT_ ?_; refine pZ 6 HT_ ?_; refine pZ 7 HT_ ?_; refine tZ 4 hHeld HT_ HW_ ?_; refine tZ 8 hHeld HT_ HW_ ?_; refine oZ 9 HT_ (fun K hK => ?_); refine goes_ Try.func104 (by kernel_rfl) rfl #[.int .i64 ((rd_T102 t263 x31_1).f1.f0), .int .i64 (rd l1 (rd l2 (0 : Int)))] (by rfl) rfl rfl z7_2 ?_
        with_reducible refine (impl_element_times.calls ((rd_T102 t263 x31_1).f1.f0) (rd l1 (rd l2 (0 : Int))) t277 _ A43.out).mono ?_
        rintro e w' ⟨rfl, ⟨nd, rfl⟩⟩
        refine ⟨_, rfl, ?_⟩; refine hK.out _ _ ⟨bA7 BK274 rfl, ((HB.out.cell (World.block_lt_of_cell? w _ hw276_0)).trans hw276_0)⟩ (fun hHeld => ?_); clear hK K; refine nZ ?_; refine oZ 10 HT_ (fun K hK => ?_); refine goes_ Try.func89 (by kernel_rfl) rfl #[.int .i64 x12_2, .int .i64 t277] (by rfl) rfl rfl z7_2 ?_
        with_reducible refine (impl_element_plus.calls x12_2 t277 t278 _ A44.out).mono ?_
        rintro e w' ⟨rfl, ⟨nd, rfl⟩⟩
        refine ⟨_, rfl, ?_⟩; refine hK.out _ _ ⟨bA7 BK274 rfl, ((HB.out.cell (World.block_lt_of_cell? w _ hw276_0)).trans hw276_0)⟩ (fun hHeld => ?_); clear hK K; refine nZ ?_; refine pZ 11 HT_ ?_; refine done_ (done_of HT_.out (by kernel_rfl)) ?_
        try go_wp2
        go_roundg k2
        case measure => have := HK1.out; have := HK2.out; omega
        case rel => exact ⟨(t278), (wrap64 ((0 : Int) + 1)), z7_13, z7_13, H', ⟨z7_29⟩, ⟨z7_11⟩, ⟨z7_20⟩, ⟨z7_7⟩, ⟨z7_6⟩, ⟨zL7 BK258.out⟩, ⟨zL7 BK259.out⟩, ⟨zL7 BK269.out⟩, ⟨zL7 BK274.out⟩, ⟨z7_4⟩⟩
       ·rw [if_neg c40] at H
        clear c40
        by_cases c46 : x37_2 = 1
        ·rw [if_pos c46] at H
         subst c46
         (try have hz_ := eq_true (by have h_ := of_decide_eq_true c39b0; omega : 1 < l2.length))
         obtain ⟨c47, H⟩ := ifP H; have c47b0 : decide (0 ≤ (rd l2 (1 : Int))) = true := decide_eq_true c47; clear c47; obtain ⟨c48, H⟩ := ifP H; have c48b0 : decide ((rd l2 (1 : Int)) < (l1.length : Int)) = true := decide_eq_true c48; clear c48
         replace H := Option.bind_eq_some_iff.mp H
         obtain ⟨t280, A490, H⟩ := H
         have A49 := Aside0.mk A490
         clear A490
         replace H := Option.bind_eq_some_iff.mp H
         obtain ⟨t281, A500, H⟩ := H
         have A50 := Aside0.mk A500
         clear A500
         have H' := Aside0.mk H
         clear H; have p275 : 0 ≤ ((1 : Int) : Int) := of_decide_eq_true z7_3
         have q275 : (1 : Int) < (l2.length : Int) := of_decide_eq_true z7_3
         obtain ⟨ad275, e275, hx275_0⟩ := Kd.at_int HR2.out (1 : Int) p275 q275; cases e275
         replace hx275_0 := (HB.out.cell (World.block_lt_of_cell? w _ hx275_0)).trans hx275_0
         (try simp only [Int.reduceToNat, Addr.add_zero', Addr.add_succ', Nat.reduceAdd] at hx275_0)
         replace p275 := eq_true p275
         replace q275 := eq_true q275
         try go_wp2
         replace HO_9 := Aside0.mk (Kd.R_drew HO_9.out)
         replace HO_29 := Aside0.mk (Kd.R_drew HO_29.out)
         replace aa := Aside0.mk (Kd.R_drew aa.out)
         replace ab := Aside0.mk (Kd.R_drew ab.out)
         replace BK258 := Aside0.mk (blk_drew BK258.out)
         replace BK259 := Aside0.mk (blk_drew BK259.out)
         replace BK269 := Aside0.mk (blk_drew BK269.out)
         replace BK274 := Aside0.mk (blk_drew BK274.out)
         replace HB := Aside0.mk (below_drew1 HB.out)
         have p279 : 0 ≤ ((rd l2 (1 : Int)) : Int) := of_decide_eq_true z7_3
         have q279 : (rd l2 (1 : Int)) < (l1.length : Int) := of_decide_eq_true z7_3
         obtain ⟨ad279, e279, hx279_0⟩ := Kd.at_int HR1.out (rd l2 (1 : Int)) p279 q279
         have hw279_0 := hx279_0
         cases e279
         replace hx279_0 := (HB.out.cell (World.block_lt_of_cell? w _ hx279_0)).trans hx279_0
         replace p279 := eq_true p279
         replace q279 := eq_true q279
         refine start_ (n := 12) (S := fun w' => w'.cell? ⟨gb274, 5, none⟩ = some (.int .i64 ((rd_T102 t263 x31_1).f1.f1)) ∧ w'.cell? (ad279.add ((rd l2 (1 : Int))).toNat) = some (.int .i64 (rd l1 (rd l2 (1 : Int))))) (ds := []) #[false, false, false, false, false, false, false, false, false, false, false, false] (by kernel_rfl) rfl rfl ⟨bA7 BK274 rfl, ((HB.out.cell (World.block_lt_of_cell? w _ hw279_0)).trans hw279_0)⟩ (fun hHeld => ?_); refine with_tabW impl_solve.tab11 impl_solve.bits11 (fun HT_ HW_ => ?_); generalize wr.drew = w51 at HO_9 HO_29 aa ab BK258 BK259 BK269 BK274 HB hx279_0 hHeld ⊢; refine pZ 0 HT_ ?_; refine pZ 1 HT_ ?_; refine pZ 2 HT_ ?_; refine pZ 3 HT_ ?_; refine pZ 5 HT_ ?_; refine pZ 6 HT_ ?_; refine pZ 7 HT_ ?_; refine tZ 4 hHeld HT_ HW_ ?_; refine tZ 8 hHeld HT_ HW_ ?_; refine oZ 9 HT_ (fun K hK => ?_); refine goes_ Try.func104 (by kernel_rfl) rfl #[.int .i64 ((rd_T102 t263 x31_1).f1.f1), .int .i64 (rd l1 (rd l2 (1 : Int)))] (by rfl) rfl rfl z7_2 ?_
         with_reducible refine (impl_element_times.calls ((rd_T102 t263 x31_1).f1.f1) (rd l1 (rd l2 (1 : Int))) t280 _ A49.out).mono ?_
         rintro e w' ⟨rfl, ⟨nd, rfl⟩⟩
         refine ⟨_, rfl, ?_⟩; refine hK.out _ _ ⟨bA7 BK274 rfl, ((HB.out.cell (World.block_lt_of_cell? w _ hw279_0)).trans hw279_0)⟩ (fun hHeld => ?_); clear hK K; refine nZ ?_; refine oZ 10 HT_ (fun K hK => ?_); refine goes_ Try.func89 (by kernel_rfl) rfl #[.int .i64 x12_2, .int .i64 t280] (by rfl) rfl rfl z7_2 ?_
         with_reducible refine (impl_element_plus.calls x12_2 t280 t281 _ A50.out).mono ?_
         rintro e w' ⟨rfl, ⟨nd, rfl⟩⟩
         refine ⟨_, rfl, ?_⟩; refine hK.out _ _ ⟨bA7 BK274 rfl, ((HB.out.cell (World.block_lt_of_cell? w _ hw279_0)).trans hw279_0)⟩ (fun hHeld => ?_); clear hK K; refine nZ ?_; refine pZ 11 HT_ ?_; refine done_ (done_of HT_.out (by kernel_rfl)) ?_
         try go_wp2
         go_roundg k2
         case measure => have := HK1.out; have := HK2.out; omega
         case rel => exact ⟨(t281), (wrap64 ((1 : Int) + 1)), z7_13, z7_13, H', ⟨z7_29⟩, ⟨z7_11⟩, ⟨z7_20⟩, ⟨z7_7⟩, ⟨z7_6⟩, ⟨zL7 BK258.out⟩, ⟨zL7 BK259.out⟩, ⟨zL7 BK269.out⟩, ⟨zL7 BK274.out⟩, ⟨z7_4⟩⟩
        ·rw [if_neg c46] at H
         clear c46
         by_cases c52 : x37_2 = 2
         ·rw [if_pos c52] at H
          subst c52
          (try have hz_ := eq_true (by have h_ := of_decide_eq_true c39b0; omega : 2 < l2.length))
          obtain ⟨c53, H⟩ := ifP H; have c53b0 : decide (0 ≤ (rd l2 (2 : Int))) = true := decide_eq_true c53; clear c53; obtain ⟨c54, H⟩ := ifP H; have c54b0 : decide ((rd l2 (2 : Int)) < (l1.length : Int)) = true := decide_eq_true c54; clear c54
          replace H := Option.bind_eq_some_iff.mp H
          obtain ⟨t283, A550, H⟩ := H
          have A55 := Aside0.mk A550
          clear A550
          replace H := Option.bind_eq_some_iff.mp H
          obtain ⟨t284, A560, H⟩ := H
          have A56 := Aside0.mk A560
          clear A560
          have H' := Aside0.mk H
          clear H; have p275 : 0 ≤ ((2 : Int) : Int) := of_decide_eq_true z7_3
          have q275 : (2 : Int) < (l2.length : Int) := of_decide_eq_true z7_3
          obtain ⟨ad275, e275, hx275_0⟩ := Kd.at_int HR2.out (2 : Int) p275 q275; cases e275
          replace hx275_0 := (HB.out.cell (World.block_lt_of_cell? w _ hx275_0)).trans hx275_0
          (try simp only [Int.reduceToNat, Addr.add_zero', Addr.add_succ', Nat.reduceAdd] at hx275_0)
          replace p275 := eq_true p275
          replace q275 := eq_true q275
          try go_wp2
          replace HO_9 := Aside0.mk (Kd.R_drew HO_9.out)
          replace HO_29 := Aside0.mk (Kd.R_drew HO_29.out)
          replace aa := Aside0.mk (Kd.R_drew aa.out)
          replace ab := Aside0.mk (Kd.R_drew ab.out)
          replace BK258 := Aside0.mk (blk_drew BK258.out)
          replace BK259 := Aside0.mk (blk_drew BK259.out)
          replace BK269 := Aside0.mk (blk_drew BK269.out)
          replace BK274 := Aside0.mk (blk_drew BK274.out)
          replace HB := Aside0.mk (below_drew1 HB.out)
          have p282 : 0 ≤ ((rd l2 (2 : Int)) : Int) := of_decide_eq_true z7_3
          have q282 : (rd l2 (2 : Int)) < (l1.length : Int) := of_decide_eq_true z7_3
          obtain ⟨ad282, e282, hx282_0⟩ := Kd.at_int HR1.out (rd l2 (2 : Int)) p282 q282
          have hw282_0 := hx282_0
          cases e282
          replace hx282_0 := (HB.out.cell (World.block_lt_of_cell? w _ hx282_0)).trans hx282_0
          replace p282 := eq_true p282
          replace q282 := eq_true q282
          refine start_ (n := 12) (S := fun w' => w'.cell? ⟨gb274, 6, none⟩ = some (.int .i64 ((rd_T102 t263 x31_1).f1.f2)) ∧ w'.cell? (ad282.add ((rd l2 (2 : Int))).toNat) = some (.int .i64 (rd l1 (rd l2 (2 : Int))))) (ds := []) #[false, false, false, false, false, false, false, false, false, false, false, false] (by kernel_rfl) rfl rfl ⟨bA7 BK274 rfl, ((HB.out.cell (World.block_lt_of_cell? w _ hw282_0)).trans hw282_0)⟩ (fun hHeld => ?_); refine with_tabW impl_solve.tab11 impl_solve.bits11 (fun HT_ HW_ => ?_); generalize wr.drew = w57 at HO_9 HO_29 aa ab BK258 BK259 BK269 BK274 HB hx282_0 hHeld ⊢; refine pZ 0 HT_ ?_; refine pZ 1 HT_ ?_; refine pZ 2 HT_ ?_; refine pZ 3 HT_ ?_; refine pZ 5 HT_ ?_; refine pZ 6 HT_ ?_; refine pZ 7 HT_ ?_; refine tZ 4 hHeld HT_ HW_ ?_; refine tZ 8 hHeld HT_ HW_ ?_; refine oZ 9 HT_ (fun K hK => ?_); refine goes_ Try.func104 (by kernel_rfl) rfl #[.int .i64 ((rd_T102 t263 x31_1).f1.f2), .int .i64 (rd l1 (rd l2 (2 : Int)))] (by rfl) rfl rfl z7_2 ?_
          with_reducible refine (impl_element_times.calls ((rd_T102 t263 x31_1).f1.f2) (rd l1 (rd l2 (2 : Int))) t283 _ A55.out).mono ?_
          rintro e w' ⟨rfl, ⟨nd, rfl⟩⟩
          refine ⟨_, rfl, ?_⟩; refine hK.out _ _ ⟨bA7 BK274 rfl, ((HB.out.cell (World.block_lt_of_cell? w _ hw282_0)).trans hw282_0)⟩ (fun hHeld => ?_); clear hK K; refine nZ ?_; refine oZ 10 HT_ (fun K hK => ?_); refine goes_ Try.func89 (by kernel_rfl) rfl #[.int .i64 x12_2, .int .i64 t283] (by rfl) rfl rfl z7_2 ?_
          with_reducible refine (impl_element_plus.calls x12_2 t283 t284 _ A56.out).mono ?_
          rintro e w' ⟨rfl, ⟨nd, rfl⟩⟩
          refine ⟨_, rfl, ?_⟩; refine hK.out _ _ ⟨bA7 BK274 rfl, ((HB.out.cell (World.block_lt_of_cell? w _ hw282_0)).trans hw282_0)⟩ (fun hHeld => ?_); clear hK K; refine nZ ?_; refine pZ 11 HT_ ?_; refine done_ (done_of HT_.out (by kernel_rfl)) ?_
          try go_wp2
          go_roundg k2
          case measure => have := HK1.out; have := HK2.out; omega
          case rel => exact ⟨(t284), (wrap64 ((2 : Int) + 1)), z7_13, z7_13, H', ⟨z7_29⟩, ⟨z7_11⟩, ⟨z7_20⟩, ⟨z7_7⟩, ⟨z7_6⟩, ⟨zL7 BK258.out⟩, ⟨zL7 BK259.out⟩, ⟨zL7 BK269.out⟩, ⟨zL7 BK274.out⟩, ⟨z7_4⟩⟩
         ·rw [if_neg c52] at H
          clear c52
          by_cases c58 : x37_2 = 3
          ·rw [if_pos c58] at H
           subst c58
           (try have hz_ := eq_true (by have h_ := of_decide_eq_true c39b0; omega : 3 < l2.length))
           obtain ⟨c59, H⟩ := ifP H; have c59b0 : decide (0 ≤ (rd l2 (3 : Int))) = true := decide_eq_true c59; clear c59; obtain ⟨c60, H⟩ := ifP H; have c60b0 : decide ((rd l2 (3 : Int)) < (l1.length : Int)) = true := decide_eq_true c60; clear c60
           replace H := Option.bind_eq_some_iff.mp H
           obtain ⟨t286, A610, H⟩ := H
           have A61 := Aside0.mk A610
           clear A610
           replace H := Option.bind_eq_some_iff.mp H
           obtain ⟨t287, A620, H⟩ := H
           have A62 := Aside0.mk A620
           clear A620
           have H' := Aside0.mk H
           clear H; have p275 : 0 ≤ ((3 : Int) : Int) := of_decide_eq_true z7_3
           have q275 : (3 : Int) < (l2.length : Int) := of_decide_eq_true z7_3
           obtain ⟨ad275, e275, hx275_0⟩ := Kd.at_int HR2.out (3 : Int) p275 q275; cases e275
           replace hx275_0 := (HB.out.cell (World.block_lt_of_cell? w _ hx275_0)).trans hx275_0
           (try simp only [Int.reduceToNat, Addr.add_zero', Addr.add_succ', Nat.reduceAdd] at hx275_0)
           replace p275 := eq_true p275
           replace q275 := eq_true q275
           try go_wp2
           replace HO_9 := Aside0.mk (Kd.R_drew HO_9.out)
           replace HO_29 := Aside0.mk (Kd.R_drew HO_29.out)
           replace aa := Aside0.mk (Kd.R_drew aa.out)
           replace ab := Aside0.mk (Kd.R_drew ab.out)
           replace BK258 := Aside0.mk (blk_drew BK258.out)
           replace BK259 := Aside0.mk (blk_drew BK259.out)
           replace BK269 := Aside0.mk (blk_drew BK269.out)
           replace BK274 := Aside0.mk (blk_drew BK274.out)
           replace HB := Aside0.mk (below_drew1 HB.out)
           have p285 : 0 ≤ ((rd l2 (3 : Int)) : Int) := of_decide_eq_true z7_3
           have q285 : (rd l2 (3 : Int)) < (l1.length : Int) := of_decide_eq_true z7_3
           obtain ⟨ad285, e285, hx285_0⟩ := Kd.at_int HR1.out (rd l2 (3 : Int)) p285 q285
           have hw285_0 := hx285_0
           cases e285
           replace hx285_0 := (HB.out.cell (World.block_lt_of_cell? w _ hx285_0)).trans hx285_0
           replace p285 := eq_true p285
           replace q285 := eq_true q285
           refine start_ (n := 12) (S := fun w' => w'.cell? ⟨gb274, 7, none⟩ = some (.int .i64 ((rd_T102 t263 x31_1).f1.f3)) ∧ w'.cell? (ad285.add ((rd l2 (3 : Int))).toNat) = some (.int .i64 (rd l1 (rd l2 (3 : Int))))) (ds := []) #[false, false, false, false, false, false, false, false, false, false, false, false] (by kernel_rfl) rfl rfl ⟨bA7 BK274 rfl, ((HB.out.cell (World.block_lt_of_cell? w _ hw285_0)).trans hw285_0)⟩ (fun hHeld => ?_); refine with_tabW impl_solve.tab11 impl_solve.bits11 (fun HT_ HW_ => ?_); generalize wr.drew = w63 at HO_9 HO_29 aa ab BK258 BK259 BK269 BK274 HB hx285_0 hHeld ⊢; refine pZ 0 HT_ ?_; refine pZ 1 HT_ ?_; refine pZ 2 HT_ ?_; refine pZ 3 HT_ ?_; refine pZ 5 HT_ ?_; refine pZ 6 HT_ ?_; refine pZ 7 HT_ ?_; refine tZ 4 hHeld HT_ HW_ ?_; refine tZ 8 hHeld HT_ HW_ ?_; refine oZ 9 HT_ (fun K hK => ?_); refine goes_ Try.func104 (by kernel_rfl) rfl #[.int .i64 ((rd_T102 t263 x31_1).f1.f3), .int .i64 (rd l1 (rd l2 (3 : Int)))] (by rfl) rfl rfl z7_2 ?_
           with_reducible refine (impl_element_times.calls ((rd_T102 t263 x31_1).f1.f3) (rd l1 (rd l2 (3 : Int))) t286 _ A61.out).mono ?_
           rintro e w' ⟨rfl, ⟨nd, rfl⟩⟩
           refine ⟨_, rfl, ?_⟩; refine hK.out _ _ ⟨bA7 BK274 rfl, ((HB.out.cell (World.block_lt_of_cell? w _ hw285_0)).trans hw285_0)⟩ (fun hHeld => ?_); clear hK K; refine nZ ?_; refine oZ 10 HT_ (fun K hK => ?_); refine goes_ Try.func89 (by kernel_rfl) rfl #[.int .i64 x12_2, .int .i64 t286] (by rfl) rfl rfl z7_2 ?_
           with_reducible refine (impl_element_plus.calls x12_2 t286 t287 _ A62.out).mono ?_
           rintro e w' ⟨rfl, ⟨nd, rfl⟩⟩
           refine ⟨_, rfl, ?_⟩; refine hK.out _ _ ⟨bA7 BK274 rfl, ((HB.out.cell (World.block_lt_of_cell? w _ hw285_0)).trans hw285_0)⟩ (fun hHeld => ?_); clear hK K; refine nZ ?_; refine pZ 11 HT_ ?_; refine done_ (done_of HT_.out (by kernel_rfl)) ?_
           try go_wp2
           go_roundg k2
           case measure => have := HK1.out; have := HK2.out; omega
           case rel => exact ⟨(t287), (wrap64 ((3 : Int) + 1)), z7_13, z7_13, H', ⟨z7_29⟩, ⟨z7_11⟩, ⟨z7_20⟩, ⟨z7_7⟩, ⟨z7_6⟩, ⟨zL7 BK258.out⟩, ⟨zL7 BK259.out⟩, ⟨zL7 BK269.out⟩, ⟨zL7 BK274.out⟩, ⟨z7_4⟩⟩
          ·rw [if_neg c58] at H
           clear c58
           by_cases c64 : x37_2 = 4
           ·rw [if_pos c64] at H
            subst c64
            (try have hz_ := eq_true (by have h_ := of_decide_eq_true c39b0; omega : 4 < l2.length))
            obtain ⟨c65, H⟩ := ifP H; have c65b0 : decide (0 ≤ (rd l2 (4 : Int))) = true := decide_eq_true c65; clear c65; obtain ⟨c66, H⟩ := ifP H; have c66b0 : decide ((rd l2 (4 : Int)) < (l1.length : Int)) = true := decide_eq_true c66; clear c66
            replace H := Option.bind_eq_some_iff.mp H
            obtain ⟨t289, A670, H⟩ := H
            have A67 := Aside0.mk A670
            clear A670
            replace H := Option.bind_eq_some_iff.mp H
            obtain ⟨t290, A680, H⟩ := H
            have A68 := Aside0.mk A680
            clear A680
            have H' := Aside0.mk H
            clear H; have p275 : 0 ≤ ((4 : Int) : Int) := of_decide_eq_true z7_3
            have q275 : (4 : Int) < (l2.length : Int) := of_decide_eq_true z7_3
            obtain ⟨ad275, e275, hx275_0⟩ := Kd.at_int HR2.out (4 : Int) p275 q275; cases e275
            replace hx275_0 := (HB.out.cell (World.block_lt_of_cell? w _ hx275_0)).trans hx275_0
            (try simp only [Int.reduceToNat, Addr.add_zero', Addr.add_succ', Nat.reduceAdd] at hx275_0)
            replace p275 := eq_true p275
            replace q275 := eq_true q275
            try go_wp2
            replace HO_9 := Aside0.mk (Kd.R_drew HO_9.out)
            replace HO_29 := Aside0.mk (Kd.R_drew HO_29.out)
            replace aa := Aside0.mk (Kd.R_drew aa.out)
            replace ab := Aside0.mk (Kd.R_drew ab.out)
            replace BK258 := Aside0.mk (blk_drew BK258.out)
            replace BK259 := Aside0.mk (blk_drew BK259.out)
            replace BK269 := Aside0.mk (blk_drew BK269.out)
            replace BK274 := Aside0.mk (blk_drew BK274.out)
            replace HB := Aside0.mk (below_drew1 HB.out)
            have p288 : 0 ≤ ((rd l2 (4 : Int)) : Int) := of_decide_eq_true z7_3
            have q288 : (rd l2 (4 : Int)) < (l1.length : Int) := of_decide_eq_true z7_3
            obtain ⟨ad288, e288, hx288_0⟩ := Kd.at_int HR1.out (rd l2 (4 : Int)) p288 q288
            have hw288_0 := hx288_0
            cases e288
            replace hx288_0 := (HB.out.cell (World.block_lt_of_cell? w _ hx288_0)).trans hx288_0
            replace p288 := eq_true p288
            replace q288 := eq_true q288
            refine start_ (n := 12) (S := fun w' => w'.cell? ⟨gb274, 8, none⟩ = some (.int .i64 ((rd_T102 t263 x31_1).f1.f4)) ∧ w'.cell? (ad288.add ((rd l2 (4 : Int))).toNat) = some (.int .i64 (rd l1 (rd l2 (4 : Int))))) (ds := []) #[false, false, false, false, false, false, false, false, false, false, false, false] (by kernel_rfl) rfl rfl ⟨bA7 BK274 rfl, ((HB.out.cell (World.block_lt_of_cell? w _ hw288_0)).trans hw288_0)⟩ (fun hHeld => ?_); refine with_tabW impl_solve.tab11 impl_solve.bits11 (fun HT_ HW_ => ?_); generalize wr.drew = w69 at HO_9 HO_29 aa ab BK258 BK259 BK269 BK274 HB hx288_0 hHeld ⊢; refine pZ 0 HT_ ?_; refine pZ 1 HT_ ?_; refine pZ 2 HT_ ?_; refine pZ 3 HT_ ?_; refine pZ 5 HT_ ?_; refine pZ 6 HT_ ?_; refine pZ 7 HT_ ?_; refine tZ 4 hHeld HT_ HW_ ?_; refine tZ 8 hHeld HT_ HW_ ?_; refine oZ 9 HT_ (fun K hK => ?_); refine goes_ Try.func104 (by kernel_rfl) rfl #[.int .i64 ((rd_T102 t263 x31_1).f1.f4), .int .i64 (rd l1 (rd l2 (4 : Int)))] (by rfl) rfl rfl z7_2 ?_
            with_reducible refine (impl_element_times.calls ((rd_T102 t263 x31_1).f1.f4) (rd l1 (rd l2 (4 : Int))) t289 _ A67.out).mono ?_
            rintro e w' ⟨rfl, ⟨nd, rfl⟩⟩
            refine ⟨_, rfl, ?_⟩; refine hK.out _ _ ⟨bA7 BK274 rfl, ((HB.out.cell (World.block_lt_of_cell? w _ hw288_0)).trans hw288_0)⟩ (fun hHeld => ?_); clear hK K; refine nZ ?_; refine oZ 10 HT_ (fun K hK => ?_); refine goes_ Try.func89 (by kernel_rfl) rfl #[.int .i64 x12_2, .int .i64 t289] (by rfl) rfl rfl z7_2 ?_
            with_reducible refine (impl_element_plus.calls x12_2 t289 t290 _ A68.out).mono ?_
            rintro e w' ⟨rfl, ⟨nd, rfl⟩⟩
            refine ⟨_, rfl, ?_⟩; refine hK.out _ _ ⟨bA7 BK274 rfl, ((HB.out.cell (World.block_lt_of_cell? w _ hw288_0)).trans hw288_0)⟩ (fun hHeld => ?_); clear hK K; refine nZ ?_; refine pZ 11 HT_ ?_; refine done_ (done_of HT_.out (by kernel_rfl)) ?_
            try go_wp2
            go_roundg k2
            case measure => have := HK1.out; have := HK2.out; omega
            case rel => exact ⟨(t290), (wrap64 ((4 : Int) + 1)), z7_13, z7_13, H', ⟨z7_29⟩, ⟨z7_11⟩, ⟨z7_20⟩, ⟨z7_7⟩, ⟨z7_6⟩, ⟨zL7 BK258.out⟩, ⟨zL7 BK259.out⟩, ⟨zL7 BK269.out⟩, ⟨zL7 BK274.out⟩, ⟨z7_4⟩⟩
           ·rw [if_neg c64] at H
            clear c64
            by_cases c70 : x37_2 = 5
            ·rw [if_pos c70] at H
             subst c70
             (try have hz_ := eq_true (by have h_ := of_decide_eq_true c39b0; omega : 5 < l2.length))
             obtain ⟨c71, H⟩ := ifP H; have c71b0 : decide (0 ≤ (rd l2 (5 : Int))) = true := decide_eq_true c71; clear c71; obtain ⟨c72, H⟩ := ifP H; have c72b0 : decide ((rd l2 (5 : Int)) < (l1.length : Int)) = true := decide_eq_true c72; clear c72
             replace H := Option.bind_eq_some_iff.mp H
             obtain ⟨t292, A730, H⟩ := H
             have A73 := Aside0.mk A730
             clear A730
             replace H := Option.bind_eq_some_iff.mp H
             obtain ⟨t293, A740, H⟩ := H
             have A74 := Aside0.mk A740
             clear A740
             have H' := Aside0.mk H
             clear H; have p275 : 0 ≤ ((5 : Int) : Int) := of_decide_eq_true z7_3
             have q275 : (5 : Int) < (l2.length : Int) := of_decide_eq_true z7_3
             obtain ⟨ad275, e275, hx275_0⟩ := Kd.at_int HR2.out (5 : Int) p275 q275; cases e275
             replace hx275_0 := (HB.out.cell (World.block_lt_of_cell? w _ hx275_0)).trans hx275_0
             (try simp only [Int.reduceToNat, Addr.add_zero', Addr.add_succ', Nat.reduceAdd] at hx275_0)
             replace p275 := eq_true p275
             replace q275 := eq_true q275
             try go_wp2
             replace HO_9 := Aside0.mk (Kd.R_drew HO_9.out)
             replace HO_29 := Aside0.mk (Kd.R_drew HO_29.out)
             replace aa := Aside0.mk (Kd.R_drew aa.out)
             replace ab := Aside0.mk (Kd.R_drew ab.out)
             replace BK258 := Aside0.mk (blk_drew BK258.out)
             replace BK259 := Aside0.mk (blk_drew BK259.out)
             replace BK269 := Aside0.mk (blk_drew BK269.out)
             replace BK274 := Aside0.mk (blk_drew BK274.out)
             replace HB := Aside0.mk (below_drew1 HB.out)
             have p291 : 0 ≤ ((rd l2 (5 : Int)) : Int) := of_decide_eq_true z7_3
             have q291 : (rd l2 (5 : Int)) < (l1.length : Int) := of_decide_eq_true z7_3
             obtain ⟨ad291, e291, hx291_0⟩ := Kd.at_int HR1.out (rd l2 (5 : Int)) p291 q291
             have hw291_0 := hx291_0
             cases e291
             replace hx291_0 := (HB.out.cell (World.block_lt_of_cell? w _ hx291_0)).trans hx291_0
             replace p291 := eq_true p291
             replace q291 := eq_true q291
             refine start_ (n := 12) (S := fun w' => w'.cell? ⟨gb274, 9, none⟩ = some (.int .i64 ((rd_T102 t263 x31_1).f1.f5)) ∧ w'.cell? (ad291.add ((rd l2 (5 : Int))).toNat) = some (.int .i64 (rd l1 (rd l2 (5 : Int))))) (ds := []) #[false, false, false, false, false, false, false, false, false, false, false, false] (by kernel_rfl) rfl rfl ⟨bA7 BK274 rfl, ((HB.out.cell (World.block_lt_of_cell? w _ hw291_0)).trans hw291_0)⟩ (fun hHeld => ?_); refine with_tabW impl_solve.tab11 impl_solve.bits11 (fun HT_ HW_ => ?_); generalize wr.drew = w75 at HO_9 HO_29 aa ab BK258 BK259 BK269 BK274 HB hx291_0 hHeld ⊢; refine pZ 0 HT_ ?_; refine pZ 1 HT_ ?_; refine pZ 2 HT_ ?_; refine pZ 3 HT_ ?_; refine pZ 5 HT_ ?_; refine pZ 6 HT_ ?_; refine pZ 7 HT_ ?_; refine tZ 4 hHeld HT_ HW_ ?_; refine tZ 8 hHeld HT_ HW_ ?_; refine oZ 9 HT_ (fun K hK => ?_); refine goes_ Try.func104 (by kernel_rfl) rfl #[.int .i64 ((rd_T102 t263 x31_1).f1.f5), .int .i64 (rd l1 (rd l2 (5 : Int)))] (by rfl) rfl rfl z7_2 ?_
             with_reducible refine (impl_element_times.calls ((rd_T102 t263 x31_1).f1.f5) (rd l1 (rd l2 (5 : Int))) t292 _ A73.out).mono ?_
             rintro e w' ⟨rfl, ⟨nd, rfl⟩⟩
             refine ⟨_, rfl, ?_⟩; refine hK.out _ _ ⟨bA7 BK274 rfl, ((HB.out.cell (World.block_lt_of_cell? w _ hw291_0)).trans hw291_0)⟩ (fun hHeld => ?_); clear hK K; refine nZ ?_; refine oZ 10 HT_ (fun K hK => ?_); refine goes_ Try.func89 (by kernel_rfl) rfl #[.int .i64 x12_2, .int .i64 t292] (by rfl) rfl rfl z7_2 ?_
             with_reducible refine (impl_element_plus.calls x12_2 t292 t293 _ A74.out).mono ?_
             rintro e w' ⟨rfl, ⟨nd, rfl⟩⟩
             refine ⟨_, rfl, ?_⟩; refine hK.out _ _ ⟨bA7 BK274 rfl, ((HB.out.cell (World.block_lt_of_cell? w _ hw291_0)).trans hw291_0)⟩ (fun hHeld => ?_); clear hK K; refine nZ ?_; refine pZ 11 HT_ ?_; refine done_ (done_of HT_.out (by kernel_rfl)) ?_
             try go_wp2
             go_roundg k2
             case measure => have := HK1.out; have := HK2.out; omega
             case rel => exact ⟨(t293), (wrap64 ((5 : Int) + 1)), z7_13, z7_13, H', ⟨z7_29⟩, ⟨z7_11⟩, ⟨z7_20⟩, ⟨z7_7⟩, ⟨z7_6⟩, ⟨zL7 BK258.out⟩, ⟨zL7 BK259.out⟩, ⟨zL7 BK269.out⟩, ⟨zL7 BK274.out⟩, ⟨z7_4⟩⟩
            ·rw [if_neg c70] at H
             clear c70
             by_cases c76 : x37_2 = 6
             ·rw [if_pos c76] at H
              subst c76
              (try have hz_ := eq_true (by have h_ := of_decide_eq_true c39b0; omega : 6 < l2.length))
              obtain ⟨c77, H⟩ := ifP H; have c77b0 : decide (0 ≤ (rd l2 (6 : Int))) = true := decide_eq_true c77; clear c77; obtain ⟨c78, H⟩ := ifP H; have c78b0 : decide ((rd l2 (6 : Int)) < (l1.length : Int)) = true := decide_eq_true c78; clear c78
              replace H := Option.bind_eq_some_iff.mp H
              obtain ⟨t295, A790, H⟩ := H
              have A79 := Aside0.mk A790
              clear A790
              replace H := Option.bind_eq_some_iff.mp H
              obtain ⟨t296, A800, H⟩ := H
              have A80 := Aside0.mk A800
              clear A800
              have H' := Aside0.mk H
              clear H; have p275 : 0 ≤ ((6 : Int) : Int) := of_decide_eq_true z7_3
              have q275 : (6 : Int) < (l2.length : Int) := of_decide_eq_true z7_3
              obtain ⟨ad275, e275, hx275_0⟩ := Kd.at_int HR2.out (6 : Int) p275 q275; cases e275
              replace hx275_0 := (HB.out.cell (World.block_lt_of_cell? w _ hx275_0)).trans hx275_0
              (try simp only [Int.reduceToNat, Addr.add_zero', Addr.add_succ', Nat.reduceAdd] at hx275_0)
              replace p275 := eq_true p275
              replace q275 := eq_true q275
              try go_wp2
              replace HO_9 := Aside0.mk (Kd.R_drew HO_9.out)
              replace HO_29 := Aside0.mk (Kd.R_drew HO_29.out)
              replace aa := Aside0.mk (Kd.R_drew aa.out)
              replace ab := Aside0.mk (Kd.R_drew ab.out)
              replace BK258 := Aside0.mk (blk_drew BK258.out)
              replace BK259 := Aside0.mk (blk_drew BK259.out)
              replace BK269 := Aside0.mk (blk_drew BK269.out)
              replace BK274 := Aside0.mk (blk_drew BK274.out)
              replace HB := Aside0.mk (below_drew1 HB.out)
              have p294 : 0 ≤ ((rd l2 (6 : Int)) : Int) := of_decide_eq_true z7_3
              have q294 : (rd l2 (6 : Int)) < (l1.length : Int) := of_decide_eq_true z7_3
              obtain ⟨ad294, e294, hx294_0⟩ := Kd.at_int HR1.out (rd l2 (6 : Int)) p294 q294
              have hw294_0 := hx294_0
              cases e294
              replace hx294_0 := (HB.out.cell (World.block_lt_of_cell? w _ hx294_0)).trans hx294_0
              replace p294 := eq_true p294
              replace q294 := eq_true q294
              refine start_ (n := 12) (S := fun w' => w'.cell? ⟨gb274, 10, none⟩ = some (.int .i64 ((rd_T102 t263 x31_1).f1.f6)) ∧ w'.cell? (ad294.add ((rd l2 (6 : Int))).toNat) = some (.int .i64 (rd l1 (rd l2 (6 : Int))))) (ds := []) #[false, false, false, false, false, false, false, false, false, false, false, false] (by kernel_rfl) rfl rfl ⟨bA7 BK274 rfl, ((HB.out.cell (World.block_lt_of_cell? w _ hw294_0)).trans hw294_0)⟩ (fun hHeld => ?_); refine with_tabW impl_solve.tab11 impl_solve.bits11 (fun HT_ HW_ => ?_); generalize wr.drew = w81 at HO_9 HO_29 aa ab BK258 BK259 BK269 BK274 HB hx294_0 hHeld ⊢; refine pZ 0 HT_ ?_; refine pZ 1 HT_ ?_; refine pZ 2 HT_ ?_; refine pZ 3 HT_ ?_; refine pZ 5 HT_ ?_; refine pZ 6 HT_ ?_; refine pZ 7 HT_ ?_; refine tZ 4 hHeld HT_ HW_ ?_; refine tZ 8 hHeld HT_ HW_ ?_; refine oZ 9 HT_ (fun K hK => ?_); refine goes_ Try.func104 (by kernel_rfl) rfl #[.int .i64 ((rd_T102 t263 x31_1).f1.f6), .int .i64 (rd l1 (rd l2 (6 : Int)))] (by rfl) rfl rfl z7_2 ?_
              with_reducible refine (impl_element_times.calls ((rd_T102 t263 x31_1).f1.f6) (rd l1 (rd l2 (6 : Int))) t295 _ A79.out).mono ?_
              rintro e w' ⟨rfl, ⟨nd, rfl⟩⟩
              refine ⟨_, rfl, ?_⟩; refine hK.out _ _ ⟨bA7 BK274 rfl, ((HB.out.cell (World.block_lt_of_cell? w _ hw294_0)).trans hw294_0)⟩ (fun hHeld => ?_); clear hK K; refine nZ ?_; refine oZ 10 HT_ (fun K hK => ?_); refine goes_ Try.func89 (by kernel_rfl) rfl #[.int .i64 x12_2, .int .i64 t295] (by rfl) rfl rfl z7_2 ?_
              with_reducible refine (impl_element_plus.calls x12_2 t295 t296 _ A80.out).mono ?_
              rintro e w' ⟨rfl, ⟨nd, rfl⟩⟩
              refine ⟨_, rfl, ?_⟩; refine hK.out _ _ ⟨bA7 BK274 rfl, ((HB.out.cell (World.block_lt_of_cell? w _ hw294_0)).trans hw294_0)⟩ (fun hHeld => ?_); clear hK K; refine nZ ?_; refine pZ 11 HT_ ?_; refine done_ (done_of HT_.out (by kernel_rfl)) ?_
              try go_wp2
              go_roundg k2
              case measure => have := HK1.out; have := HK2.out; omega
              case rel => exact ⟨(t296), (wrap64 ((6 : Int) + 1)), z7_13, z7_13, H', ⟨z7_29⟩, ⟨z7_11⟩, ⟨z7_20⟩, ⟨z7_7⟩, ⟨z7_6⟩, ⟨zL7 BK258.out⟩, ⟨zL7 BK259.out⟩, ⟨zL7 BK269.out⟩, ⟨zL7 BK274.out⟩, ⟨z7_4⟩⟩
             ·rw [if_neg c76] at H
              clear c76; obtain ⟨c82, H⟩ := ifP H; subst c82
              (try have hz_ := eq_true (by have h_ := of_decide_eq_true c39b0; omega : 7 < l2.length))
              obtain ⟨c83, H⟩ := ifP H; have c83b0 : decide (0 ≤ (rd l2 (7 : Int))) = true := decide_eq_true c83; clear c83; obtain ⟨c84, H⟩ := ifP H; have c84b0 : decide ((rd l2 (7 : Int)) < (l1.length : Int)) = true := decide_eq_true c84; clear c84
              replace H := Option.bind_eq_some_iff.mp H
              obtain ⟨t298, A850, H⟩ := H
              have A85 := Aside0.mk A850
              clear A850
              replace H := Option.bind_eq_some_iff.mp H
              obtain ⟨t299, A860, H⟩ := H
              have A86 := Aside0.mk A860
              clear A860
              have H' := Aside0.mk H
              clear H; have p275 : 0 ≤ ((7 : Int) : Int) := of_decide_eq_true z7_3
              have q275 : (7 : Int) < (l2.length : Int) := of_decide_eq_true z7_3
              obtain ⟨ad275, e275, hx275_0⟩ := Kd.at_int HR2.out (7 : Int) p275 q275; cases e275
              replace hx275_0 := (HB.out.cell (World.block_lt_of_cell? w _ hx275_0)).trans hx275_0
              (try simp only [Int.reduceToNat, Addr.add_zero', Addr.add_succ', Nat.reduceAdd] at hx275_0)
              replace p275 := eq_true p275
              replace q275 := eq_true q275
              try go_wp2
              replace HO_9 := Aside0.mk (Kd.R_drew HO_9.out)
              replace HO_29 := Aside0.mk (Kd.R_drew HO_29.out)
              replace aa := Aside0.mk (Kd.R_drew aa.out)
              replace ab := Aside0.mk (Kd.R_drew ab.out)
              replace BK258 := Aside0.mk (blk_drew BK258.out)
              replace BK259 := Aside0.mk (blk_drew BK259.out)
              replace BK269 := Aside0.mk (blk_drew BK269.out)
              replace BK274 := Aside0.mk (blk_drew BK274.out)
              replace HB := Aside0.mk (below_drew1 HB.out)
              have p297 : 0 ≤ ((rd l2 (7 : Int)) : Int) := of_decide_eq_true z7_3
              have q297 : (rd l2 (7 : Int)) < (l1.length : Int) := of_decide_eq_true z7_3
              obtain ⟨ad297, e297, hx297_0⟩ := Kd.at_int HR1.out (rd l2 (7 : Int)) p297 q297
              have hw297_0 := hx297_0
              cases e297
              replace hx297_0 := (HB.out.cell (World.block_lt_of_cell? w _ hx297_0)).trans hx297_0
              replace p297 := eq_true p297
              replace q297 := eq_true q297
              refine start_ (n := 12) (S := fun w' => w'.cell? ⟨gb274, 11, none⟩ = some (.int .i64 ((rd_T102 t263 x31_1).f1.f7)) ∧ w'.cell? (ad297.add ((rd l2 (7 : Int))).toNat) = some (.int .i64 (rd l1 (rd l2 (7 : Int))))) (ds := []) #[false, false, false, false, false, false, false, false, false, false, false, false] (by kernel_rfl) rfl rfl ⟨bA7 BK274 rfl, ((HB.out.cell (World.block_lt_of_cell? w _ hw297_0)).trans hw297_0)⟩ (fun hHeld => ?_); refine with_tabW impl_solve.tab11 impl_solve.bits11 (fun HT_ HW_ => ?_); generalize wr.drew = w87 at HO_9 HO_29 aa ab BK258 BK259 BK269 BK274 HB hx297_0 hHeld ⊢; refine pZ 0 HT_ ?_; refine pZ 1 HT_ ?_; refine pZ 2 HT_ ?_; refine pZ 3 HT_ ?_; refine pZ 5 HT_ ?_; refine pZ 6 HT_ ?_; refine pZ 7 HT_ ?_; refine tZ 4 hHeld HT_ HW_ ?_; refine tZ 8 hHeld HT_ HW_ ?_; refine oZ 9 HT_ (fun K hK => ?_); refine goes_ Try.func104 (by kernel_rfl) rfl #[.int .i64 ((rd_T102 t263 x31_1).f1.f7), .int .i64 (rd l1 (rd l2 (7 : Int)))] (by rfl) rfl rfl z7_2 ?_
              with_reducible refine (impl_element_times.calls ((rd_T102 t263 x31_1).f1.f7) (rd l1 (rd l2 (7 : Int))) t298 _ A85.out).mono ?_
              rintro e w' ⟨rfl, ⟨nd, rfl⟩⟩
              refine ⟨_, rfl, ?_⟩; refine hK.out _ _ ⟨bA7 BK274 rfl, ((HB.out.cell (World.block_lt_of_cell? w _ hw297_0)).trans hw297_0)⟩ (fun hHeld => ?_); clear hK K; refine nZ ?_; refine oZ 10 HT_ (fun K hK => ?_); refine goes_ Try.func89 (by kernel_rfl) rfl #[.int .i64 x12_2, .int .i64 t298] (by rfl) rfl rfl z7_2 ?_
              with_reducible refine (impl_element_plus.calls x12_2 t298 t299 _ A86.out).mono ?_
              rintro e w' ⟨rfl, ⟨nd, rfl⟩⟩
              refine ⟨_, rfl, ?_⟩; refine hK.out _ _ ⟨bA7 BK274 rfl, ((HB.out.cell (World.block_lt_of_cell? w _ hw297_0)).trans hw297_0)⟩ (fun hHeld => ?_); clear hK K; refine nZ ?_; refine pZ 11 HT_ ?_; refine done_ (done_of HT_.out (by kernel_rfl)) ?_
              try go_wp2
              go_roundg k2
              case measure => have := HK1.out; have := HK2.out; omega
              case rel => exact ⟨(t299), (wrap64 ((7 : Int) + 1)), z7_13, z7_13, H', ⟨z7_29⟩, ⟨z7_11⟩, ⟨z7_20⟩, ⟨z7_7⟩, ⟨z7_6⟩, ⟨zL7 BK258.out⟩, ⟨zL7 BK259.out⟩, ⟨zL7 BK269.out⟩, ⟨zL7 BK274.out⟩, ⟨z7_4⟩⟩
      ·rw [if_neg c37] at H
       have c37b0 : decide (x37_2 < (l2.length : Int)) = false := decide_eq_false c37; clear c37; obtain ⟨c88, H⟩ := ifP H
       have LMc88 := Aside0.mk c88
       clear c88
       obtain ⟨y300, hy300⟩ : ∃ y_ : List (S131), y_ = (x9_1 ++ [(⟨(⟨((rd_T102 t263 x31_1).f0.f0), ((rd_T102 t263 x31_1).f0.f1), ((rd_T102 t263 x31_1).f0.f2), ((rd_T102 t263 x31_1).f0.f3)⟩ : S70), x12_2⟩ : S131)]) := ⟨_, rfl⟩
       replace H : (impl_solve.l0 k2 l1 l2 y300 t263 (t263.length : Int) (wrap64 (x31_1 + 1)) 0 0 0 0) = some (r1, r2, r3, r4) := yZZ_ hy300 H
       have Ny300 := Aside0.mk hy300
       clear hy300
       have H' := Aside0.mk H
       clear H
       have hnb89 := aH.out
       have hnc89 := ar.out
       have hnb90 := aI.out
       have hnc90 := au.out
       have hnb91 := aJ.out
       have hnc91 := av.out
       have aw : wr.cell? ⟨gb274, 0, none⟩ = some (.int .i64 ((rd_T102 t263 x31_1).f0.f0)) := bA7 BK274 rfl; have ax : wr.cell? ⟨gb274, 1, none⟩ = some (.int .i64 ((rd_T102 t263 x31_1).f0.f1)) := bA7 BK274 rfl; have ay : wr.cell? ⟨gb274, 2, none⟩ = some (.int .i64 ((rd_T102 t263 x31_1).f0.f2)) := bA7 BK274 rfl; have az : wr.cell? ⟨gb274, 3, none⟩ = some (.int .i64 ((rd_T102 t263 x31_1).f0.f3)) := bA7 BK274 rfl
       have aA := blk_frozen BK274.out 0
       have aC := blk_frozen BK274.out 1
       have aD := blk_frozen BK274.out 2
       have aE := blk_frozen BK274.out 3
       go_wp2_with (first | ((with_reducible refine gate_builtin (b := .append) (xs := #[.tmp 54, .tmp 59]) rfl ?_); at_builtin; refine Kd.R_append k131 (w0 := w) w.heap.size rfl (.tmp 54) (.tmp 59) 129 131 (.agg #[(.int .i64 0), (.int .i64 0), (.int .i64 0), (.int .i64 0), (.int .i64 0)]) 40 rfl Try.underlying129 info131 rfl (by decide) (by omega) u9 x9_1 (⟨(⟨((rd_T102 t263 x31_1).f0.f0), ((rd_T102 t263 x31_1).f0.f1), ((rd_T102 t263 x31_1).f0.f2), ((rd_T102 t263 x31_1).f0.f3)⟩ : S70), x12_2⟩ : S131) [.int .i64 ((rd_T102 t263 x31_1).f0.f0), .int .i64 ((rd_T102 t263 x31_1).f0.f1), .int .i64 ((rd_T102 t263 x31_1).f0.f2), .int .i64 ((rd_T102 t263 x31_1).f0.f3), .int .i64 x12_2] (fun _ => True) (fun _ => False) rfl rfl ?aP (fun _ hk => hk.elim) ?aF ?aO ?aB ?aS ?aL ?_; (case aP => exact k131_mkM _ _ _ (⟨(⟨((rd_T102 t263 x31_1).f0.f0), ((rd_T102 t263 x31_1).f0.f1), ((rd_T102 t263 x31_1).f0.f2), ((rd_T102 t263 x31_1).f0.f3)⟩ : S70), x12_2⟩ : S131)); (case aB => exact z7_4); (case aF => exact (fun _ _ => trivial)); (case aO => exact z7_11); (case aS => exact (below_size z7_4)); (case aL => have := LMc88.out; omega); intro v301 w93 ho hb hg hat; rw [← Ny300.out] at ho; have n0_ := Aside0.mk (Kd.R_over' z7_20 (Kd.R_typed z7_11) (by decide) hg); have n1_ := Aside0.mk (Kd.R_over' z7_7 (Kd.R_typed z7_11) (by decide) hg); have n2_ := Aside0.mk (Kd.R_over' z7_6 (Kd.R_typed z7_11) (by decide) hg); have n3_ := Aside0.mk (blk_grown (g := gb258) (o := .cells #[.int .i64 0, .int .i64 0, .int .i64 0, .int .i64 0] 70 (0, 0)) (zL7 BK258.out) hg (Kd.R_ne HO_9.out BK258.out (by decide))); have n4_ := Aside0.mk (blk_grown (g := gb259) (o := .cells #[.int .i64 0, .int .i64 0, .int .i64 0, .int .i64 0] 70 (0, 0)) (zL7 BK259.out) hg (Kd.R_ne HO_9.out BK259.out (by decide))); have n5_ := Aside0.mk (blk_grown (g := gb269) (o := .cells #[.slice (some ad273) t263.length co16, v267] 81 (0, 0)) (zL7 BK269.out) hg (Kd.R_ne HO_9.out BK269.out (by decide))); have n6_ := Aside0.mk (blk_grown (g := gb274) (o := .cells #[.int .i64 ((rd_T102 t263 x31_1).f0.f0), .int .i64 ((rd_T102 t263 x31_1).f0.f1), .int .i64 ((rd_T102 t263 x31_1).f0.f2), .int .i64 ((rd_T102 t263 x31_1).f0.f3), .int .i64 ((rd_T102 t263 x31_1).f1.f0), .int .i64 ((rd_T102 t263 x31_1).f1.f1), .int .i64 ((rd_T102 t263 x31_1).f1.f2), .int .i64 ((rd_T102 t263 x31_1).f1.f3), .int .i64 ((rd_T102 t263 x31_1).f1.f4), .int .i64 ((rd_T102 t263 x31_1).f1.f5), .int .i64 ((rd_T102 t263 x31_1).f1.f6), .int .i64 ((rd_T102 t263 x31_1).f1.f7)] 102 (0, 0)) (zL7 BK274.out) hg (Kd.R_ne HO_9.out BK274.out (by decide))); have n7_ := Aside0.mk (hb); have n8_ := Aside0.mk (ho); clear HO_29; clear aa; clear ab; clear BK258; clear BK259; clear BK269; clear BK274; clear HB; clear HO_9; have HO_29 := n0_; have aa := n1_; have ab := n2_; have BK258 := n3_; have BK259 := n4_; have BK269 := n5_; have BK274 := n6_; have HB := n7_; have HO302 := n8_; clear n0_ n1_ n2_ n3_ n4_ n5_ n6_ n7_ n8_; clear ho hb hg hat))
       go_roundg k2
       case measure => have := HK1.out; have := HK2.out; omega
       case rel => exact ⟨(y300), (wrap64 (x31_1 + 1)), z7_21, H', ⟨z7_29⟩, ⟨by (with_reducible repeat (first | apply Kd.R_alloc | apply Kd.R_drewN | apply Kd.R_drew)); exact HO302.out⟩, ⟨by (with_reducible repeat (first | apply Kd.R_alloc | apply Kd.R_drewN | apply Kd.R_drew)); exact Kd.R_mono HO_29.out (fun _ hk => trivial)⟩, ⟨by (with_reducible repeat (first | apply Kd.R_alloc | apply Kd.R_drewN | apply Kd.R_drew)); exact Kd.R_mono aa.out (fun _ hk => trivial)⟩, ⟨z7_6⟩, ⟨zL7 BK258.out⟩, ⟨zL7 BK259.out⟩, ⟨zL7 BK269.out⟩, ⟨z7_4⟩⟩
   ·rw [if_neg c17] at H
    have c17b0 : decide (x31_1 < (t263.length : Int)) = false := decide_eq_false c17; clear c17
    have H' := Aside0.mk H
    clear H; obtain ⟨Ao94, co94, eo94⟩ := Kd.R_slice HO_9.out; subst eo94
    go_wp2
    go_loopg [64] k1 (fun kq v64 w' => ∃ (x9_2 : List (S131)) (x64_2 : Int), v64 = .int .i64 x64_2 ∧ Aside0 (impl_solve.l2 kq x9_2 (x9_1.length : Int) x64_2 0 0 0 0 = some (r1, r2, r3, r4)) ∧ Aside0 (kq ≤ k1) ∧ Aside0 (Kd.R k131 131 w' w.heap.size (fun _ => True) (.slice Ao94 x9_1.length co94) x9_2) ∧ Aside0 (Kd.R k102 102 w' w.heap.size (fun _ => True) (.slice Ao16 t263.length co16) t263) ∧ Aside0 (Kd.R (Kd.int .i64) 3 w' w.heap.size (fun _ => True) v267 t266) ∧ Aside0 (w'.heap[gb258]? = some (.cells #[.int .i64 0, .int .i64 0, .int .i64 0, .int .i64 0] 70 (0, 0))) ∧ Aside0 (w'.heap[gb259]? = some (.cells #[.int .i64 0, .int .i64 0, .int .i64 0, .int .i64 0] 70 (0, 0))) ∧ Aside0 (w'.heap[gb269]? = some (.cells #[(.slice Ao16 t263.length co16), v267] 81 (0, 0))) ∧ Aside0 (Below w.heap.size w w'))
    case atStart => exact ⟨(x9_1), (0), z7_21, H', ⟨Nat.le_refl _⟩, ⟨z7_11⟩, ⟨z7_7⟩, ⟨z7_6⟩, ⟨zL7 BK258.out⟩, ⟨zL7 BK259.out⟩, ⟨zL7 BK269.out⟩, ⟨z7_1⟩⟩
    case round =>
     clear H'
     try clear c1
     try clear c17
     try clear c17b0
     obtain ⟨x9_2, x64_2, rfl, HA, HK2, HO_9, aa, ab, BK258, BK259, BK269, HB⟩ := hrel
     have hl9_2 := (Kd.R_reads' HO_9.out).1
     rw [hl9_2] at HO_9; (try simp only [hl9_2]); (try simp only [hl9_2] at BK258); (try simp only [hl9_2] at BK259); (try simp only [hl9_2] at BK269); (try simp only [hl9_2] at aa); (try simp only [hl9_2] at ab)
     cases gk with
     | zero => exact absurd HA.out (by simp [impl_solve.l2])
     | succ k2 =>
      have H := HA.out
      clear HA; simp only [impl_solve.l2] at H
      by_cases c95 : x64_2 < (x9_1.length : Int)
      ·rw [if_pos c95] at H
       have c95b0 : decide (x64_2 < (x9_1.length : Int)) = true := decide_eq_true c95
       have c95b0' := c95b0; (try simp only [hl9_2] at c95b0'); (try simp only [hl9_3] at c95b0')
       clear c95; obtain ⟨c96, H⟩ := ifP H; have c96b0 : decide (0 ≤ x64_2) = true := decide_eq_true c96; clear c96; obtain ⟨c97, H⟩ := ifP H; have c97b0 : decide (x64_2 < (x9_2.length : Int)) = true := decide_eq_true c97
       have c97b0' := c97b0; (try simp only [hl9_2] at c97b0'); (try simp only [hl9_3] at c97b0')
       clear c97
       replace H := Option.bind_eq_some_iff.mp H
       obtain ⟨t304, A980, H⟩ := H
       have A98 := Aside0.mk A980
       clear A980
       have H' := Aside0.mk H
       clear H; have p303 : 0 ≤ (x64_2 : Int) := of_decide_eq_true z7_3; have q303 : x64_2 < (x9_2.length : Int) := of_decide_eq_true z7_3; obtain ⟨ad303, e303, hx303_0, hx303_1, hx303_2, hx303_3, hx303_4⟩ := at_T131 (Kd.R_reads' HO_9.out).2.2 x64_2 p303 q303; cases e303
       replace p303 := eq_true p303
       replace q303 := eq_true q303
       go_wp2_with (first | ((with_reducible refine gate_callee (f := 60) rfl ?_); refine goesL_ (some 72) rfl rfl Try.func60 (by kernel_rfl) rfl #[.agg #[.int .i64 ((rd_T131 x9_2 x64_2).f0.f0), .int .i64 ((rd_T131 x9_2 x64_2).f0.f1), .int .i64 ((rd_T131 x9_2 x64_2).f0.f2), .int .i64 ((rd_T131 x9_2 x64_2).f0.f3)]] rfl z7_2 ?_; (with_reducible refine (impl_vector_lead.calls ((rd_T131 x9_2 x64_2).f0.f0) ((rd_T131 x9_2 x64_2).f0.f1) ((rd_T131 x9_2 x64_2).f0.f2) ((rd_T131 x9_2 x64_2).f0.f3) t304 _ A98.out).mono ?_); rintro e w99 ⟨rfl, hb⟩; refine ⟨_, rfl, ?_⟩; replace HO_9 := Aside0.mk (Kd.R_below z7_11 hb); replace aa := Aside0.mk (Kd.R_below z7_7 hb); replace ab := Aside0.mk (Kd.R_below z7_6 hb); replace BK258 := bBZ_ BK258 hb; replace BK259 := bBZ_ BK259 hb; replace BK269 := bBZ_ BK269 hb; replace HB := Aside0.mk (below_step z7_1 hb); (try clear hb)))
       go_loopg [75] k2 (fun kq v75 w' => ∃ (x9_3 : List (S131)) (x75_3 : Int), v75 = .int .i64 x75_3 ∧ Aside0 (impl_solve.l3 kq x9_3 x64_2 t304 (x9_1.length : Int) x64_2 (x9_2.length : Int) x75_3 0 0 0 0 = some (r1, r2, r3, r4)) ∧ Aside0 (kq ≤ k2) ∧ Aside0 (Kd.R k131 131 w' w.heap.size (fun _ => True) (.slice (some ad303) x9_2.length co94) x9_3) ∧ Aside0 (Kd.R k102 102 w' w.heap.size (fun _ => True) (.slice Ao16 t263.length co16) t263) ∧ Aside0 (Kd.R (Kd.int .i64) 3 w' w.heap.size (fun _ => True) v267 t266) ∧ Aside0 (w'.heap[gb258]? = some (.cells #[.int .i64 0, .int .i64 0, .int .i64 0, .int .i64 0] 70 (0, 0))) ∧ Aside0 (w'.heap[gb259]? = some (.cells #[.int .i64 0, .int .i64 0, .int .i64 0, .int .i64 0] 70 (0, 0))) ∧ Aside0 (w'.heap[gb269]? = some (.cells #[(.slice Ao16 t263.length co16), v267] 81 (0, 0))) ∧ Aside0 (Below w.heap.size w w'))
       case atStart => exact ⟨(x9_2), (0), z7_21, H', ⟨Nat.le_refl _⟩, ⟨z7_42⟩, ⟨z7_40⟩, ⟨z7_41⟩, ⟨z7_37⟩, ⟨z7_38⟩, ⟨z7_39⟩, ⟨z7_1⟩⟩
       case round =>
        clear H'
        try clear c1
        try clear c17
        try clear c17b0
        try clear c95
        try clear c95b0
        try clear c96
        try clear c96b0
        try clear c97
        try clear c97b0
        try clear hx303_0 hx303_1 hx303_2 hx303_3 hx303_4
        try clear p303
        try clear q303
        obtain ⟨x9_3, x75_3, rfl, HA, HK3, HO_9, aa, ab, BK258, BK259, BK269, HB⟩ := hrel
        have hl9_3 := (Kd.R_reads' HO_9.out).1
        rw [hl9_3] at HO_9; (try simp only [hl9_3]); (try simp only [hl9_3] at BK258); (try simp only [hl9_3] at BK259); (try simp only [hl9_3] at BK269); (try simp only [hl9_3] at aa); (try simp only [hl9_3] at ab)
        cases gk with
        | zero => exact absurd HA.out (by simp [impl_solve.l3])
        | succ k3 =>
         have H := HA.out
         clear HA; simp only [impl_solve.l3] at H
         by_cases c100 : x75_3 < (x9_2.length : Int)
         ·rw [if_pos c100] at H
          have c100b0 : decide (x75_3 < (x9_2.length : Int)) = true := decide_eq_true c100
          have c100b0' := c100b0; (try simp only [hl9_2] at c100b0'); (try simp only [hl9_3] at c100b0')
          clear c100
          have HC101 := Aside0.mk H
          clear H
          go_upto_region 22 with (fail)
          go_cut [18] (fun v18 wc => ∃ (kq : Nat) (x18_100 : Int), v18 = .int .i64 x18_100 ∧ Aside0 (impl_solve.j4 kq x9_3 x64_2 t304 x75_3 x18_100 (x9_1.length : Int) x64_2 (x9_2.length : Int) x75_3 0 0 0 0 = some (r1, r2, r3, r4)) ∧ Aside0 (kq ≤ k3) ∧ Aside0 (Kd.R k131 131 wc w.heap.size (fun _ => True) (.slice (some ad303) x9_3.length co94) x9_3) ∧ Aside0 (Kd.R k102 102 wc w.heap.size (fun _ => True) (.slice Ao16 t263.length co16) t263) ∧ Aside0 (Kd.R (Kd.int .i64) 3 wc w.heap.size (fun _ => True) v267 t266) ∧ Aside0 (wc.heap[gb258]? = some (.cells #[.int .i64 0, .int .i64 0, .int .i64 0, .int .i64 0] 70 (0, 0))) ∧ Aside0 (wc.heap[gb259]? = some (.cells #[.int .i64 0, .int .i64 0, .int .i64 0, .int .i64 0] 70 (0, 0))) ∧ Aside0 (wc.heap[gb269]? = some (.cells #[(.slice Ao16 t263.length co16), v267] 81 (0, 0))) ∧ Aside0 (Below w.heap.size w wc))
          case first =>
           have H := HC101.out
           clear HC101; obtain ⟨c102, H⟩ := ifP H; have c102b0 : decide (0 ≤ x75_3) = true := decide_eq_true c102; clear c102; (first | rw [c102b0] | (simp only [i64_w, i32_w]; rw [c102b0]) | skip); obtain ⟨c103, H⟩ := ifP H; have c103b0 : decide (x75_3 < (x9_3.length : Int)) = true := decide_eq_true c103; clear c103
           by_cases c104 : t304 = 0
           ·rw [if_pos c104] at H
            subst c104
            have H' := Aside0.mk H
            clear H; have p305 : 0 ≤ (x75_3 : Int) := of_decide_eq_true z7_3; have q305 : x75_3 < (x9_3.length : Int) := of_decide_eq_true z7_3; obtain ⟨ad305, e305, hx305_0, hx305_1, hx305_2, hx305_3, hx305_4⟩ := at_T131 (Kd.R_reads' HO_9.out).2.2 x75_3 p305 q305
            obtain rfl : ad303 = ad305 := (by injection e305)
            replace p305 := eq_true p305
            replace q305 := eq_true q305
            go_wp2
            go_meet
            case rel => exact ⟨_, ((rd_T131 x9_3 x75_3).f0.f0), z7_21, H', ⟨z7_31⟩, ⟨z7_19⟩, ⟨z7_17⟩, ⟨z7_18⟩, ⟨z7_14⟩, ⟨z7_15⟩, ⟨z7_16⟩, ⟨z7_1⟩⟩
           ·rw [if_neg c104] at H
            clear c104
            by_cases c105 : t304 = 1
            ·rw [if_pos c105] at H
             subst c105
             have H' := Aside0.mk H
             clear H; have p305 : 0 ≤ (x75_3 : Int) := of_decide_eq_true z7_3; have q305 : x75_3 < (x9_3.length : Int) := of_decide_eq_true z7_3; obtain ⟨ad305, e305, hx305_0, hx305_1, hx305_2, hx305_3, hx305_4⟩ := at_T131 (Kd.R_reads' HO_9.out).2.2 x75_3 p305 q305
             obtain rfl : ad303 = ad305 := (by injection e305)
             replace p305 := eq_true p305
             replace q305 := eq_true q305
             go_wp2
             go_meet
             case rel => exact ⟨_, ((rd_T131 x9_3 x75_3).f0.f1), z7_21, H', ⟨z7_31⟩, ⟨z7_19⟩, ⟨z7_17⟩, ⟨z7_18⟩, ⟨z7_14⟩, ⟨z7_15⟩, ⟨z7_16⟩, ⟨z7_1⟩⟩
            ·rw [if_neg c105] at H
             clear c105
             by_cases c106 : t304 = 2
             ·rw [if_pos c106] at H
              subst c106
              have H' := Aside0.mk H
              clear H; have p305 : 0 ≤ (x75_3 : Int) := of_decide_eq_true z7_3; have q305 : x75_3 < (x9_3.length : Int) := of_decide_eq_true z7_3; obtain ⟨ad305, e305, hx305_0, hx305_1, hx305_2, hx305_3, hx305_4⟩ := at_T131 (Kd.R_reads' HO_9.out).2.2 x75_3 p305 q305
              obtain rfl : ad303 = ad305 := (by injection e305)
              replace p305 := eq_true p305
              replace q305 := eq_true q305
              go_wp2
              go_meet
              case rel => exact ⟨_, ((rd_T131 x9_3 x75_3).f0.f2), z7_21, H', ⟨z7_31⟩, ⟨z7_19⟩, ⟨z7_17⟩, ⟨z7_18⟩, ⟨z7_14⟩, ⟨z7_15⟩, ⟨z7_16⟩, ⟨z7_1⟩⟩
             ·rw [if_neg c106] at H
              clear c106; obtain ⟨c107, H⟩ := ifP H; subst c107
              have H' := Aside0.mk H
              clear H; have p305 : 0 ≤ (x75_3 : Int) := of_decide_eq_true z7_3; have q305 : x75_3 < (x9_3.length : Int) := of_decide_eq_true z7_3; obtain ⟨ad305, e305, hx305_0, hx305_1, hx305_2, hx305_3, hx305_4⟩ := at_T131 (Kd.R_reads' HO_9.out).2.2 x75_3 p305 q305
              obtain rfl : ad303 = ad305 := (by injection e305)
              replace p305 := eq_true p305
              replace q305 := eq_true q305
              go_wp2
              go_meet
              case rel => exact ⟨_, ((rd_T131 x9_3 x75_3).f0.f3), z7_21, H', ⟨z7_31⟩, ⟨z7_19⟩, ⟨z7_17⟩, ⟨z7_18⟩, ⟨z7_14⟩, ⟨z7_15⟩, ⟨z7_16⟩, ⟨z7_1⟩⟩
          case rest =>
           clear HC101
           try clear c1
           try clear c17
           try clear c17b0
           try clear c95
           try clear c95b0
           try clear c96
           try clear c96b0
           try clear c97
           try clear c97b0
           try clear c100
           try clear c100b0
           try clear hx303_0 hx303_1 hx303_2 hx303_3 hx303_4
           try clear p303
           try clear q303
           obtain ⟨kq, x18_100, rfl, HA, HJ100, HO_9, aa, ab, BK258, BK259, BK269, HB⟩ := hcut
           cases kq with
           | zero => exact absurd HA.out (by simp [impl_solve.j4])
           | succ kj100 =>
            have H := HA.out
            clear HA; simp only [impl_solve.j4] at H
            have HC108 := Aside0.mk H
            clear H
            go_upto_region 23 with (fail)
            go_cut [91] (fun v91 wc => ∃ (kq : Nat) (x91_107 : Bool), v91 = .bool x91_107 ∧ Aside0 (impl_solve.j5 kq x9_3 x64_2 t304 x75_3 x18_100 (x9_1.length : Int) x64_2 (x9_2.length : Int) x75_3 x91_107 0 0 0 0 = some (r1, r2, r3, r4)) ∧ Aside0 (kq ≤ kj100) ∧ Aside0 (Kd.R k131 131 wc w.heap.size (fun _ => True) (.slice (some ad303) x9_3.length co94) x9_3) ∧ Aside0 (Kd.R k102 102 wc w.heap.size (fun _ => True) (.slice Ao16 t263.length co16) t263) ∧ Aside0 (Kd.R (Kd.int .i64) 3 wc w.heap.size (fun _ => True) v267 t266) ∧ Aside0 (wc.heap[gb258]? = some (.cells #[.int .i64 0, .int .i64 0, .int .i64 0, .int .i64 0] 70 (0, 0))) ∧ Aside0 (wc.heap[gb259]? = some (.cells #[.int .i64 0, .int .i64 0, .int .i64 0, .int .i64 0] 70 (0, 0))) ∧ Aside0 (wc.heap[gb269]? = some (.cells #[(.slice Ao16 t263.length co16), v267] 81 (0, 0))) ∧ Aside0 (Below w.heap.size w wc))
            case first =>
             have H := HC108.out
             clear HC108
             by_cases c109 : x75_3 = x64_2
             ·rw [if_pos c109] at H
              have c109b0 : (x75_3 == x64_2) = true := beq_iff_eq.mpr c109
              have c109b1 : (x75_3 != x64_2) = false := bne_eq_false_iff_eq.mpr c109
              clear c109; (first | rw [c109b0] | (simp only [i64_w, i32_w]; rw [c109b0]) | skip)
              have H' := Aside0.mk H
              clear H
              go_wp2
              go_meet
              case rel => exact ⟨_, (false), z7_21, H', ⟨by have := HK1.out; have := HK2.out; have := HK3.out; have := HJ100.out; first | omega | exact Nat.le_refl _⟩, ⟨z7_19⟩, ⟨z7_17⟩, ⟨z7_18⟩, ⟨z7_14⟩, ⟨z7_15⟩, ⟨z7_16⟩, ⟨z7_1⟩⟩
             ·rw [if_neg c109] at H
              have c109b0 : (x75_3 == x64_2) = false := beq_eq_false_iff_ne.mpr c109
              have c109b1 : (x75_3 != x64_2) = true := bne_iff_ne.mpr c109
              (first | rw [c109b0] | (simp only [i64_w, i32_w]; rw [c109b0]) | skip)
              have H' := Aside0.mk H
              clear H
              go_wp2
              go_meet
              case rel => exact ⟨_, ((x18_100 != 0)), z7_21, H', ⟨by have := HK1.out; have := HK2.out; have := HK3.out; have := HJ100.out; first | omega | exact Nat.le_refl _⟩, ⟨z7_19⟩, ⟨z7_17⟩, ⟨z7_18⟩, ⟨z7_14⟩, ⟨z7_15⟩, ⟨z7_16⟩, ⟨z7_1⟩⟩
            case rest =>
             clear HC108
             try clear c1
             try clear c17
             try clear c17b0
             try clear c95
             try clear c95b0
             try clear c96
             try clear c96b0
             try clear c97
             try clear c97b0
             try clear c100
             try clear c100b0
             try clear hx303_0 hx303_1 hx303_2 hx303_3 hx303_4
             try clear p303
             try clear q303
             obtain ⟨kq, x91_107, rfl, HA, HJ107, HO_9, aa, ab, BK258, BK259, BK269, HB⟩ := hcut
             cases kq with
             | zero => exact absurd HA.out (by simp [impl_solve.j5])
             | succ kj107 =>
              have H := HA.out
              clear HA; simp only [impl_solve.j5] at H
              by_cases c110 : x91_107 = true
              ·subst c110
               rw [if_pos rfl] at H; obtain ⟨c111, H⟩ := ifP H; have c111b0 : decide (0 ≤ x75_3) = true := decide_eq_true c111; clear c111; obtain ⟨c112, H⟩ := ifP H; have c112b0 : decide (x75_3 < (x9_3.length : Int)) = true := decide_eq_true c112; clear c112; obtain ⟨c113, H⟩ := ifP H; have c113b0 : decide (0 ≤ x64_2) = true := decide_eq_true c113; clear c113; obtain ⟨c114, H⟩ := ifP H; have c114b0 : decide (x64_2 < (x9_3.length : Int)) = true := decide_eq_true c114; clear c114
               replace H := Option.bind_eq_some_iff.mp H
               obtain ⟨⟨t308, t309, t310, t311⟩, A1150, H⟩ := H
               dsimp only at H
               have A115 := Aside0.mk A1150
               clear A1150
               replace H := Option.bind_eq_some_iff.mp H
               obtain ⟨⟨t312, t313, t314, t315⟩, A1160, H⟩ := H
               dsimp only at H
               have A116 := Aside0.mk A1160
               clear A1160
               obtain ⟨y316, hy316⟩ : ∃ y_ : List (S131), y_ = (x9_3.set (x75_3 : Int).toNat (⟨(⟨t312, t313, t314, t315⟩ : S70), (rd_T131 x9_3 x75_3).f1⟩ : S131)) := ⟨_, rfl⟩
               replace H : ((impl_element_times.f ((rd_T131 y316 x64_2).f1) x18_100).bind fun t319 => ((impl_element_minus.f ((rd_T131 y316 x75_3).f1) t319).bind fun t320 => (impl_solve.l3 kj107 (y316.set (x75_3 : Int).toNat (⟨(⟨(rd_T131 y316 x75_3).f0.f0, (rd_T131 y316 x75_3).f0.f1, (rd_T131 y316 x75_3).f0.f2, (rd_T131 y316 x75_3).f0.f3⟩ : S70), t320⟩ : S131)) x64_2 t304 (x9_1.length : Int) x64_2 (x9_2.length : Int) (wrap64 (x75_3 + 1)) 0 0 0 0))) = some (r1, r2, r3, r4) := yZZ_ hy316 H
               have Ny316 := Aside0.mk hy316
               clear hy316
               replace H := Option.bind_eq_some_iff.mp H
               obtain ⟨t319, A1180, H⟩ := H
               have A118 := Aside0.mk A1180
               clear A1180
               replace H := Option.bind_eq_some_iff.mp H
               obtain ⟨t320, A1190, H⟩ := H
               have A119 := Aside0.mk A1190
               clear A1190
               obtain ⟨y321, hy321⟩ : ∃ y_ : List (S131), y_ = (y316.set (x75_3 : Int).toNat (⟨(⟨(rd_T131 y316 x75_3).f0.f0, (rd_T131 y316 x75_3).f0.f1, (rd_T131 y316 x75_3).f0.f2, (rd_T131 y316 x75_3).f0.f3⟩ : S70), t320⟩ : S131)) := ⟨_, rfl⟩
               replace H : (impl_solve.l3 kj107 y321 x64_2 t304 (x9_1.length : Int) x64_2 (x9_2.length : Int) (wrap64 (x75_3 + 1)) 0 0 0 0) = some (r1, r2, r3, r4) := yZZ_ hy321 H
               have Ny321 := Aside0.mk hy321
               clear hy321
               have H' := Aside0.mk H
               clear H
               try go_wp2
               replace HO_9 := Aside0.mk (Kd.R_drew HO_9.out)
               replace aa := Aside0.mk (Kd.R_drew aa.out)
               replace ab := Aside0.mk (Kd.R_drew ab.out)
               replace BK258 := Aside0.mk (blk_drew BK258.out)
               replace BK259 := Aside0.mk (blk_drew BK259.out)
               replace BK269 := Aside0.mk (blk_drew BK269.out)
               replace HB := Aside0.mk (below_drew1 HB.out)
               have p306 : 0 ≤ (x75_3 : Int) := of_decide_eq_true z7_3; have q306 : x75_3 < (x9_3.length : Int) := of_decide_eq_true z7_3; obtain ⟨ad306, e306, hx306_0, hx306_1, hx306_2, hx306_3, hx306_4⟩ := at_T131 (Kd.R_reads' HO_9.out).2.2 x75_3 p306 q306
               obtain rfl : ad303 = ad306 := (by injection e306)
               replace p306 := eq_true p306
               replace q306 := eq_true q306
               have p307 : 0 ≤ (x64_2 : Int) := of_decide_eq_true z7_3; have q307 : x64_2 < (x9_3.length : Int) := of_decide_eq_true z7_3; obtain ⟨ad307, e307, hx307_0, hx307_1, hx307_2, hx307_3, hx307_4⟩ := at_T131 (Kd.R_reads' HO_9.out).2.2 x64_2 p307 q307
               obtain rfl : ad303 = ad307 := (by injection e307)
               replace p307 := eq_true p307
               replace q307 := eq_true q307
               refine start_ (n := 18) (S := fun w' => w'.cell? (ad303.add ((x75_3).toNat * 5)) = some (.int .i64 ((rd_T131 x9_3 x75_3).f0.f0)) ∧ w'.cell? ⟨(ad303.add ((x75_3).toNat * 5)).block, (ad303.add ((x75_3).toNat * 5)).off + 1, none⟩ = some (.int .i64 ((rd_T131 x9_3 x75_3).f0.f1)) ∧ w'.cell? ⟨(ad303.add ((x75_3).toNat * 5)).block, (ad303.add ((x75_3).toNat * 5)).off + 2, none⟩ = some (.int .i64 ((rd_T131 x9_3 x75_3).f0.f2)) ∧ w'.cell? ⟨(ad303.add ((x75_3).toNat * 5)).block, (ad303.add ((x75_3).toNat * 5)).off + 3, none⟩ = some (.int .i64 ((rd_T131 x9_3 x75_3).f0.f3)) ∧ w'.cell? ⟨(ad303.add ((x75_3).toNat * 5)).block, (ad303.add ((x75_3).toNat * 5)).off + 4, none⟩ = some (.int .i64 ((rd_T131 x9_3 x75_3).f1)) ∧ w'.cell? (ad303.add ((x64_2).toNat * 5)) = some (.int .i64 ((rd_T131 x9_3 x64_2).f0.f0)) ∧ w'.cell? ⟨(ad303.add ((x64_2).toNat * 5)).block, (ad303.add ((x64_2).toNat * 5)).off + 1, none⟩ = some (.int .i64 ((rd_T131 x9_3 x64_2).f0.f1)) ∧ w'.cell? ⟨(ad303.add ((x64_2).toNat * 5)).block, (ad303.add ((x64_2).toNat * 5)).off + 2, none⟩ = some (.int .i64 ((rd_T131 x9_3 x64_2).f0.f2)) ∧ w'.cell? ⟨(ad303.add ((x64_2).toNat * 5)).block, (ad303.add ((x64_2).toNat * 5)).off + 3, none⟩ = some (.int .i64 ((rd_T131 x9_3 x64_2).f0.f3)) ∧ w'.cell? ⟨(ad303.add ((x64_2).toNat * 5)).block, (ad303.add ((x64_2).toNat * 5)).off + 4, none⟩ = some (.int .i64 ((rd_T131 x9_3 x64_2).f1))) (ds := [17]) #[false, false, false, false, false, false, false, false, false, false, false, false, false, false, false, false, false, false] (by kernel_rfl) rfl rfl ⟨hx306_0, hx306_1, hx306_2, hx306_3, hx306_4, hx307_0, hx307_1, hx307_2, hx307_3, hx307_4⟩ (fun hHeld => ?_); refine with_tabW impl_solve.tab24 impl_solve.bits24 (fun HT_ HW_ => ?_); generalize wc.drew = w121 at HO_9 aa ab BK258 BK259 BK269 HB hx306_0 hx306_1 hx306_2 hx306_3 hx306_4 hx307_0 hx307_1 hx307_2 hx307_3 hx307_4 hHeld ⊢; refine pZ 0 HT_ ?_; refine pZ 1 HT_ ?_; refine pZ 2 HT_ ?_; refine pZ 3 HT_ ?_; refine pZ 4 HT_ ?_; refine pZ 5 HT_ ?_; refine pZ 7 HT_ ?_; refine pZ 8 HT_ ?_; refine pZ 9 HT_ ?_; refine pZ 10 HT_ ?_; refine pZ 12 HT_ ?_; refine tZ 6 hHeld HT_ HW_ ?_; refine tZ 11 hHeld HT_ HW_ ?_; refine oZ 13 HT_ (fun K hK => ?_); refine goes_ Try.func93 (by kernel_rfl) rfl #[.agg #[.int .i64 ((rd_T131 x9_3 x64_2).f0.f0), .int .i64 ((rd_T131 x9_3 x64_2).f0.f1), .int .i64 ((rd_T131 x9_3 x64_2).f0.f2), .int .i64 ((rd_T131 x9_3 x64_2).f0.f3)], .int .i64 x18_100] (by rfl) rfl rfl z7_2 ?_
               with_reducible refine (impl_vector_times.calls ((rd_T131 x9_3 x64_2).f0.f0) ((rd_T131 x9_3 x64_2).f0.f1) ((rd_T131 x9_3 x64_2).f0.f2) ((rd_T131 x9_3 x64_2).f0.f3) x18_100 t308 t309 t310 t311 _ A115.out).mono ?_
               rintro e w122 ⟨rfl, hb⟩
               have HS0_ := (hb.cell (World.block_lt_of_cell? _ _ (hHeld.1))).trans (hHeld.1)
               have HS1_ := (hb.cell (World.block_lt_of_cell? _ _ (hHeld.2.1))).trans (hHeld.2.1)
               have HS2_ := (hb.cell (World.block_lt_of_cell? _ _ (hHeld.2.2.1))).trans (hHeld.2.2.1)
               have HS3_ := (hb.cell (World.block_lt_of_cell? _ _ (hHeld.2.2.2.1))).trans (hHeld.2.2.2.1)
               have HS4_ := (hb.cell (World.block_lt_of_cell? _ _ (hHeld.2.2.2.2.1))).trans (hHeld.2.2.2.2.1)
               have HS5_ := (hb.cell (World.block_lt_of_cell? _ _ (hHeld.2.2.2.2.2.1))).trans (hHeld.2.2.2.2.2.1)
               have HS6_ := (hb.cell (World.block_lt_of_cell? _ _ (hHeld.2.2.2.2.2.2.1))).trans (hHeld.2.2.2.2.2.2.1)
               have HS7_ := (hb.cell (World.block_lt_of_cell? _ _ (hHeld.2.2.2.2.2.2.2.1))).trans (hHeld.2.2.2.2.2.2.2.1)
               have HS8_ := (hb.cell (World.block_lt_of_cell? _ _ (hHeld.2.2.2.2.2.2.2.2.1))).trans (hHeld.2.2.2.2.2.2.2.2.1)
               have HS9_ := (hb.cell (World.block_lt_of_cell? _ _ (hHeld.2.2.2.2.2.2.2.2.2))).trans (hHeld.2.2.2.2.2.2.2.2.2)
               refine ⟨_, rfl, ?_⟩
               replace HO_9 := Aside0.mk (Kd.R_below z7_11 hb)
               replace aa := Aside0.mk (Kd.R_below z7_7 hb)
               replace ab := Aside0.mk (Kd.R_below z7_6 hb)
               replace BK258 := bBZ_ BK258 hb
               replace BK259 := bBZ_ BK259 hb
               replace BK269 := bBZ_ BK269 hb
               replace HB := Aside0.mk (below_step z7_1 hb)
               (try clear hb); (try clear hb2); (try clear hk); (try clear hi); refine hK.out _ _ ⟨HS0_, HS1_, HS2_, HS3_, HS4_, HS5_, HS6_, HS7_, HS8_, HS9_⟩ (fun hHeld => ?_); clear hK K; refine nZ ?_; refine oZ 14 HT_ (fun K hK => ?_); refine goes_ Try.func92 (by kernel_rfl) rfl #[.agg #[.int .i64 ((rd_T131 x9_3 x75_3).f0.f0), .int .i64 ((rd_T131 x9_3 x75_3).f0.f1), .int .i64 ((rd_T131 x9_3 x75_3).f0.f2), .int .i64 ((rd_T131 x9_3 x75_3).f0.f3)], .agg #[.int .i64 t308, .int .i64 t309, .int .i64 t310, .int .i64 t311]] (by rfl) rfl rfl z7_2 ?_
               with_reducible refine (impl_vector_minus.calls ((rd_T131 x9_3 x75_3).f0.f0) ((rd_T131 x9_3 x75_3).f0.f1) ((rd_T131 x9_3 x75_3).f0.f2) ((rd_T131 x9_3 x75_3).f0.f3) t308 t309 t310 t311 t312 t313 t314 t315 _ A116.out).mono ?_
               rintro e w123 ⟨rfl, hb⟩
               have HS0_ := (hb.cell (World.block_lt_of_cell? _ _ (hHeld.1))).trans (hHeld.1)
               have HS1_ := (hb.cell (World.block_lt_of_cell? _ _ (hHeld.2.1))).trans (hHeld.2.1)
               have HS2_ := (hb.cell (World.block_lt_of_cell? _ _ (hHeld.2.2.1))).trans (hHeld.2.2.1)
               have HS3_ := (hb.cell (World.block_lt_of_cell? _ _ (hHeld.2.2.2.1))).trans (hHeld.2.2.2.1)
               have HS4_ := (hb.cell (World.block_lt_of_cell? _ _ (hHeld.2.2.2.2.1))).trans (hHeld.2.2.2.2.1)
               have HS5_ := (hb.cell (World.block_lt_of_cell? _ _ (hHeld.2.2.2.2.2.1))).trans (hHeld.2.2.2.2.2.1)
               have HS6_ := (hb.cell (World.block_lt_of_cell? _ _ (hHeld.2.2.2.2.2.2.1))).trans (hHeld.2.2.2.2.2.2.1)
               have HS7_ := (hb.cell (World.block_lt_of_cell? _ _ (hHeld.2.2.2.2.2.2.2.1))).trans (hHeld.2.2.2.2.2.2.2.1)
               have HS8_ := (hb.cell (World.block_lt_of_cell? _ _ (hHeld.2.2.2.2.2.2.2.2.1))).trans (hHeld.2.2.2.2.2.2.2.2.1)
               have HS9_ := (hb.cell (World.block_lt_of_cell? _ _ (hHeld.2.2.2.2.2.2.2.2.2))).trans (hHeld.2.2.2.2.2.2.2.2.2)
               refine ⟨_, rfl, ?_⟩
               replace HO_9 := Aside0.mk (Kd.R_below z7_11 hb)
               replace aa := Aside0.mk (Kd.R_below z7_7 hb)
               replace ab := Aside0.mk (Kd.R_below z7_6 hb)
               replace BK258 := bBZ_ BK258 hb
               replace BK259 := bBZ_ BK259 hb
               replace BK269 := bBZ_ BK269 hb
               replace HB := Aside0.mk (below_step z7_1 hb)
               (try clear hb); (try clear hb2); (try clear hk); (try clear hi); have p117 : 0 ≤ (x75_3 : Int) := of_decide_eq_true z7_3
               have q117 : (x75_3 : Int) < ((x9_3.length : Int) : Int) := of_decide_eq_true z7_3
               obtain ⟨go117, co117, eo117, gb117, gl117, cl117, HG117⟩ := Kd.R_form HO_9.out (by omega); (first | cases eo117 | (injection eo117 with ea_ en_ ec_; (first | subst ea_ | (injection ea_ with ea_; subst ea_)); subst ec_; clear en_))
               have GB117 := Aside0.mk gb117
               have GG117 := Aside0.mk HG117
               clear gb117 gl117 HG117; (first | simp only [add_plain] at hx303_0 | skip); (first | simp only [add_plain] at hx303_1 | skip); (first | simp only [add_plain] at hx303_2 | skip); (first | simp only [add_plain] at hx303_3 | skip); (first | simp only [add_plain] at hx303_4 | skip); (first | simp only [add_plain] at hx305_0 | skip); (first | simp only [add_plain] at hx305_1 | skip); (first | simp only [add_plain] at hx305_2 | skip); (first | simp only [add_plain] at hx305_3 | skip); (first | simp only [add_plain] at hx305_4 | skip); (first | simp only [add_plain] at hx306_0 | skip); (first | simp only [add_plain] at hx306_1 | skip); (first | simp only [add_plain] at hx306_2 | skip); (first | simp only [add_plain] at hx306_3 | skip); (first | simp only [add_plain] at hx306_4 | skip); (first | simp only [add_plain] at hx307_0 | skip); (first | simp only [add_plain] at hx307_1 | skip); (first | simp only [add_plain] at hx307_2 | skip); (first | simp only [add_plain] at hx307_3 | skip); (first | simp only [add_plain] at hx307_4 | skip); obtain ⟨ce117, hcl117, hM117, hcc117, hfr117⟩ := Kd.R_elem HO_9.out z131 (x75_3 : Int) p117 q117
               obtain rfl := k131_openM hM117
               have hx117_0 : World.cell? _ ⟨go117, (x75_3 : Int).toNat * 5, none⟩ = some (.int .i64 ((rd_T131 x9_3 x75_3).f0.f0)) := hcc117 0 _ rfl; have hx117_1 : World.cell? _ ⟨go117, (x75_3 : Int).toNat * 5 + 1, none⟩ = some (.int .i64 ((rd_T131 x9_3 x75_3).f0.f1)) := hcc117 1 _ rfl; have hx117_2 : World.cell? _ ⟨go117, (x75_3 : Int).toNat * 5 + 2, none⟩ = some (.int .i64 ((rd_T131 x9_3 x75_3).f0.f2)) := hcc117 2 _ rfl; have hx117_3 : World.cell? _ ⟨go117, (x75_3 : Int).toNat * 5 + 3, none⟩ = some (.int .i64 ((rd_T131 x9_3 x75_3).f0.f3)) := hcc117 3 _ rfl; have hx117_4 : World.cell? _ ⟨go117, (x75_3 : Int).toNat * 5 + 4, none⟩ = some (.int .i64 ((rd_T131 x9_3 x75_3).f1)) := hcc117 4 _ rfl; have hf117_0 : World.frozen? _ ⟨go117, (x75_3 : Int).toNat * 5, none⟩ = false := hfr117 0; have hf117_1 : World.frozen? _ ⟨go117, (x75_3 : Int).toNat * 5 + 1, none⟩ = false := hfr117 1; have hf117_2 : World.frozen? _ ⟨go117, (x75_3 : Int).toNat * 5 + 2, none⟩ = false := hfr117 2; have hf117_3 : World.frozen? _ ⟨go117, (x75_3 : Int).toNat * 5 + 3, none⟩ = false := hfr117 3; have hf117_4 : World.frozen? _ ⟨go117, (x75_3 : Int).toNat * 5 + 4, none⟩ = false := hfr117 4
               (try clear hcl117); (try clear hcc117); (try clear hfr117); (try clear hM117)
               replace p117 := eq_true p117
               replace q117 := eq_true q117
               obtain ⟨ce124, hcl124, hM124, hcc124, hfr124⟩ := Kd.R_elem HO_9.out z131 (x75_3 : Int) (of_decide_eq_true z7_3) (by have h_ : (x75_3 : Int) < ((x9_3.length : Int) : Int) := of_decide_eq_true z7_3; first | exact h_ | (have e_ := (Kd.R_reads' HO_9.out).1; omega) | simpa using h_)
               obtain rfl := k131_openM hM124
               have HP124 := (Kd.R_seg HO_9.out (x75_3 : Int) (of_decide_eq_true z7_3) (by have h_ : (x75_3 : Int) < ((x9_3.length : Int) : Int) := of_decide_eq_true z7_3; first | exact h_ | (have e_ := (Kd.R_reads' HO_9.out).1; omega) | simpa using h_) (seg := [.int .i64 t312, .int .i64 t313, .int .i64 t314, .int .i64 t315]) (j := 0) hcl124 hcc124 (show 4 ≤ 5 from by decide) (x' := (⟨(⟨t312, t313, t314, t315⟩ : S70), (rd_T131 x9_3 x75_3).f1⟩ : S131)) (k131_mkM _ _ _ (⟨(⟨t312, t313, t314, t315⟩ : S70), (rd_T131 x9_3 x75_3).f1⟩ : S131) ) (fun _ hk => hk)).1
               rw [← Ny316.out] at HP124
               have HQ124 := Aside0.mk HP124
               (try clear hcl124); (try clear hcc124); (try clear hfr124); (try clear hM124); (try clear HP124)
               refine hK.out _ _ ⟨HS0_, HS1_, HS2_, HS3_, HS4_, HS5_, HS6_, HS7_, HS8_, HS9_⟩ (fun hHeld => ?_); clear hK K; refine nZ ?_; refine pZ 15 HT_ ?_; refine pZ 16 HT_ ?_; refine lZ 17 HT_ (fun K hK => ?_); refine skip_ (w1 := ?_) (by rfl) rfl ?_ ?_; rotate_left
               ·go_simp
                rfl
               refine hK.out _ _ ?_; clear hK K; refine done_ (done_of HT_.out (by kernel_rfl)) ?_
               try go_wp2
               have n0_ : Aside0 (Kd.R k131 131 ((((w123.setCell ⟨go117, (x75_3 : Int).toNat * 5, none⟩ (.int .i64 t312)).setCell ⟨go117, (x75_3 : Int).toNat * 5 + 1, none⟩ (.int .i64 t313)).setCell ⟨go117, (x75_3 : Int).toNat * 5 + 2, none⟩ (.int .i64 t314)).setCell ⟨go117, (x75_3 : Int).toNat * 5 + 3, none⟩ (.int .i64 t315)) w.heap.size (fun _ => True) (.slice (some ⟨go117, 0, none⟩) x9_3.length co94) y316) := ⟨by (with_reducible repeat (first | apply Kd.R_alloc | apply Kd.R_drewN | apply Kd.R_drew)); exact HQ124.out⟩; have n1_ : Aside0 (Kd.R k102 102 ((((w123.setCell ⟨go117, (x75_3 : Int).toNat * 5, none⟩ (.int .i64 t312)).setCell ⟨go117, (x75_3 : Int).toNat * 5 + 1, none⟩ (.int .i64 t313)).setCell ⟨go117, (x75_3 : Int).toNat * 5 + 2, none⟩ (.int .i64 t314)).setCell ⟨go117, (x75_3 : Int).toNat * 5 + 3, none⟩ (.int .i64 t315)) w.heap.size (fun _ => True) (.slice Ao16 t263.length co16) t263) := ⟨by (with_reducible repeat (first | apply Kd.R_alloc | apply Kd.R_drewN | apply Kd.R_drew)); exact Kd.R_mono (Kd.R_far (p := ⟨go117, (x75_3 : Int).toNat * 5 + 3, none⟩) (Kd.R_far (p := ⟨go117, (x75_3 : Int).toNat * 5 + 2, none⟩) (Kd.R_far (p := ⟨go117, (x75_3 : Int).toNat * 5 + 1, none⟩) (Kd.R_far (p := ⟨go117, (x75_3 : Int).toNat * 5, none⟩) (Kd.R_types aa.out GG117.out (by decide)) (fun _ hk => hk.2) (.int .i64 t312)) (fun _ hk => hk.2) (.int .i64 t313)) (fun _ hk => hk.2) (.int .i64 t314)) (fun _ hk => hk.2) (.int .i64 t315)) (fun _ hk => trivial)⟩; have n2_ : Aside0 (Kd.R (Kd.int .i64) 3 ((((w123.setCell ⟨go117, (x75_3 : Int).toNat * 5, none⟩ (.int .i64 t312)).setCell ⟨go117, (x75_3 : Int).toNat * 5 + 1, none⟩ (.int .i64 t313)).setCell ⟨go117, (x75_3 : Int).toNat * 5 + 2, none⟩ (.int .i64 t314)).setCell ⟨go117, (x75_3 : Int).toNat * 5 + 3, none⟩ (.int .i64 t315)) w.heap.size (fun _ => True) v267 t266) := ⟨by (with_reducible repeat (first | apply Kd.R_alloc | apply Kd.R_drewN | apply Kd.R_drew)); exact Kd.R_mono (Kd.R_far (p := ⟨go117, (x75_3 : Int).toNat * 5 + 3, none⟩) (Kd.R_far (p := ⟨go117, (x75_3 : Int).toNat * 5 + 2, none⟩) (Kd.R_far (p := ⟨go117, (x75_3 : Int).toNat * 5 + 1, none⟩) (Kd.R_far (p := ⟨go117, (x75_3 : Int).toNat * 5, none⟩) (Kd.R_types ab.out GG117.out (by decide)) (fun _ hk => hk.2) (.int .i64 t312)) (fun _ hk => hk.2) (.int .i64 t313)) (fun _ hk => hk.2) (.int .i64 t314)) (fun _ hk => hk.2) (.int .i64 t315)) (fun _ hk => trivial)⟩; have n3_ : Aside0 (((((w123.setCell ⟨go117, (x75_3 : Int).toNat * 5, none⟩ (.int .i64 t312)).setCell ⟨go117, (x75_3 : Int).toNat * 5 + 1, none⟩ (.int .i64 t313)).setCell ⟨go117, (x75_3 : Int).toNat * 5 + 2, none⟩ (.int .i64 t314)).setCell ⟨go117, (x75_3 : Int).toNat * 5 + 3, none⟩ (.int .i64 t315)).heap[gb258]? = some (.cells #[.int .i64 0, .int .i64 0, .int .i64 0, .int .i64 0] 70 (0, 0))) := ⟨by (with_reducible repeat first|refine blk_drewN ?_ _|refine blk_drew ?_|refine blk_alloc ?_ _); refine blk_far ?_ z7_25 _; (with_reducible repeat first|refine blk_drewN ?_ _|refine blk_drew ?_|refine blk_alloc ?_ _); refine blk_far ?_ z7_25 _; (with_reducible repeat first|refine blk_drewN ?_ _|refine blk_drew ?_|refine blk_alloc ?_ _); refine blk_far ?_ z7_25 _; (with_reducible repeat first|refine blk_drewN ?_ _|refine blk_drew ?_|refine blk_alloc ?_ _); refine blk_far ?_ z7_25 _; (with_reducible repeat first|refine blk_drewN ?_ _|refine blk_drew ?_|refine blk_alloc ?_ _); exact BK258.out⟩; have n4_ : Aside0 (((((w123.setCell ⟨go117, (x75_3 : Int).toNat * 5, none⟩ (.int .i64 t312)).setCell ⟨go117, (x75_3 : Int).toNat * 5 + 1, none⟩ (.int .i64 t313)).setCell ⟨go117, (x75_3 : Int).toNat * 5 + 2, none⟩ (.int .i64 t314)).setCell ⟨go117, (x75_3 : Int).toNat * 5 + 3, none⟩ (.int .i64 t315)).heap[gb259]? = some (.cells #[.int .i64 0, .int .i64 0, .int .i64 0, .int .i64 0] 70 (0, 0))) := ⟨by (with_reducible repeat first|refine blk_drewN ?_ _|refine blk_drew ?_|refine blk_alloc ?_ _); refine blk_far ?_ z7_26 _; (with_reducible repeat first|refine blk_drewN ?_ _|refine blk_drew ?_|refine blk_alloc ?_ _); refine blk_far ?_ z7_26 _; (with_reducible repeat first|refine blk_drewN ?_ _|refine blk_drew ?_|refine blk_alloc ?_ _); refine blk_far ?_ z7_26 _; (with_reducible repeat first|refine blk_drewN ?_ _|refine blk_drew ?_|refine blk_alloc ?_ _); refine blk_far ?_ z7_26 _; (with_reducible repeat first|refine blk_drewN ?_ _|refine blk_drew ?_|refine blk_alloc ?_ _); exact BK259.out⟩; have n5_ : Aside0 (((((w123.setCell ⟨go117, (x75_3 : Int).toNat * 5, none⟩ (.int .i64 t312)).setCell ⟨go117, (x75_3 : Int).toNat * 5 + 1, none⟩ (.int .i64 t313)).setCell ⟨go117, (x75_3 : Int).toNat * 5 + 2, none⟩ (.int .i64 t314)).setCell ⟨go117, (x75_3 : Int).toNat * 5 + 3, none⟩ (.int .i64 t315)).heap[gb269]? = some (.cells #[.slice Ao16 t263.length co16, v267] 81 (0, 0))) := ⟨by (with_reducible repeat first|refine blk_drewN ?_ _|refine blk_drew ?_|refine blk_alloc ?_ _); refine blk_far ?_ z7_27 _; (with_reducible repeat first|refine blk_drewN ?_ _|refine blk_drew ?_|refine blk_alloc ?_ _); refine blk_far ?_ z7_27 _; (with_reducible repeat first|refine blk_drewN ?_ _|refine blk_drew ?_|refine blk_alloc ?_ _); refine blk_far ?_ z7_27 _; (with_reducible repeat first|refine blk_drewN ?_ _|refine blk_drew ?_|refine blk_alloc ?_ _); refine blk_far ?_ z7_27 _; (with_reducible repeat first|refine blk_drewN ?_ _|refine blk_drew ?_|refine blk_alloc ?_ _); exact BK269.out⟩; have n6_ : Aside0 (Below w.heap.size w ((((w123.setCell ⟨go117, (x75_3 : Int).toNat * 5, none⟩ (.int .i64 t312)).setCell ⟨go117, (x75_3 : Int).toNat * 5 + 1, none⟩ (.int .i64 t313)).setCell ⟨go117, (x75_3 : Int).toNat * 5 + 2, none⟩ (.int .i64 t314)).setCell ⟨go117, (x75_3 : Int).toNat * 5 + 3, none⟩ (.int .i64 t315))) := ⟨by repeat (first | (with_reducible first | exact HB.out | apply below_alloc | apply pw_below_drewN | apply below_drew1 | refine below_set ?_ GB117.out | refine below_set ?_ GB117.out | refine below_set ?_ GB117.out | refine below_set ?_ GB117.out | refine below_set ?_ GE258.out | refine below_set ?_ GE259.out | refine below_set ?_ GE269.out) | exact HB.out)⟩; (try clear HO_9); (try clear aa); (try clear ab); (try clear BK258); (try clear BK259); (try clear BK269); (try clear HB); generalize ((((w123.setCell ⟨go117, (x75_3 : Int).toNat * 5, none⟩ (.int .i64 t312)).setCell ⟨go117, (x75_3 : Int).toNat * 5 + 1, none⟩ (.int .i64 t313)).setCell ⟨go117, (x75_3 : Int).toNat * 5 + 2, none⟩ (.int .i64 t314)).setCell ⟨go117, (x75_3 : Int).toNat * 5 + 3, none⟩ (.int .i64 t315)) = w125 at n0_ n1_ n2_ n3_ n4_ n5_ n6_ ⊢
               have HO_9 := n0_
               have aa := n1_
               have ab := n2_
               have BK258 := n3_
               have BK259 := n4_
               have BK269 := n5_
               have HB := n6_
               clear n0_ n1_ n2_ n3_ n4_ n5_ n6_
               replace HO_9 := Aside0.mk (Kd.R_drew HO_9.out)
               replace aa := Aside0.mk (Kd.R_drew aa.out)
               replace ab := Aside0.mk (Kd.R_drew ab.out)
               replace BK258 := Aside0.mk (blk_drew BK258.out)
               replace BK259 := Aside0.mk (blk_drew BK259.out)
               replace BK269 := Aside0.mk (blk_drew BK269.out)
               replace HB := Aside0.mk (below_drew1 HB.out)
               have p317 : 0 ≤ (x75_3 : Int) := of_decide_eq_true z7_3; have q317 : x75_3 < (y316.length : Int) := (by have h_ : (x75_3 : Int) < ((x9_3.length : Int) : Int) := of_decide_eq_true z7_3; first | (have e_ := (Kd.R_reads' HO_9.out).1; omega) | simpa only [Ny316.out, List.length_set] using h_)
               have ql317 : ((x75_3 : Int) < ((x9_3.length : Int) : Int)) = True := eq_true (of_decide_eq_true z7_3)
               obtain ⟨ad317, e317, hx317_0, hx317_1, hx317_2, hx317_3, hx317_4⟩ := at_T131 (Kd.R_reads' HO_9.out).2.2 x75_3 p317 q317
               obtain rfl : (⟨go117, 0, none⟩ : Addr) = ad317 := (by injection e317)
               (first | simp only [add_plain] at hx317_0 | simp only [add_at] at hx317_0 | simp only [Addr.add, Nat.zero_add] at hx317_0 | skip); (first | simp only [add_plain] at hx317_1 | simp only [add_at] at hx317_1 | simp only [Addr.add, Nat.zero_add] at hx317_1 | skip); (first | simp only [add_plain] at hx317_2 | simp only [add_at] at hx317_2 | simp only [Addr.add, Nat.zero_add] at hx317_2 | skip); (first | simp only [add_plain] at hx317_3 | simp only [add_at] at hx317_3 | simp only [Addr.add, Nat.zero_add] at hx317_3 | skip); (first | simp only [add_plain] at hx317_4 | simp only [add_at] at hx317_4 | simp only [Addr.add, Nat.zero_add] at hx317_4 | skip)
               replace p317 := eq_true p317
               replace q317 := eq_true q317
               have p318 : 0 ≤ (x64_2 : Int) := of_decide_eq_true z7_3; have q318 : x64_2 < (y316.length : Int) := (by have h_ : (x64_2 : Int) < ((x9_3.length : Int) : Int) := of_decide_eq_true z7_3; first | (have e_ := (Kd.R_reads' HO_9.out).1; omega) | simpa only [Ny316.out, List.length_set] using h_)
               have ql318 : ((x64_2 : Int) < ((x9_3.length : Int) : Int)) = True := eq_true (of_decide_eq_true z7_3)
               obtain ⟨ad318, e318, hx318_0, hx318_1, hx318_2, hx318_3, hx318_4⟩ := at_T131 (Kd.R_reads' HO_9.out).2.2 x64_2 p318 q318
               obtain rfl : (⟨go117, 0, none⟩ : Addr) = ad318 := (by injection e318)
               (first | simp only [add_plain] at hx318_0 | simp only [add_at] at hx318_0 | simp only [Addr.add, Nat.zero_add] at hx318_0 | skip); (first | simp only [add_plain] at hx318_1 | simp only [add_at] at hx318_1 | simp only [Addr.add, Nat.zero_add] at hx318_1 | skip); (first | simp only [add_plain] at hx318_2 | simp only [add_at] at hx318_2 | simp only [Addr.add, Nat.zero_add] at hx318_2 | skip); (first | simp only [add_plain] at hx318_3 | simp only [add_at] at hx318_3 | simp only [Addr.add, Nat.zero_add] at hx318_3 | skip); (first | simp only [add_plain] at hx318_4 | simp only [add_at] at hx318_4 | simp only [Addr.add, Nat.zero_add] at hx318_4 | skip)
               replace p318 := eq_true p318
               replace q318 := eq_true q318
               refine start_ (n := 18) (S := fun w' => w'.cell? ⟨go117, (x75_3).toNat * 5, none⟩ = some (.int .i64 ((rd_T131 y316 x75_3).f0.f0)) ∧ w'.cell? ⟨go117, (x75_3).toNat * 5 + 1, none⟩ = some (.int .i64 ((rd_T131 y316 x75_3).f0.f1)) ∧ w'.cell? ⟨go117, (x75_3).toNat * 5 + 2, none⟩ = some (.int .i64 ((rd_T131 y316 x75_3).f0.f2)) ∧ w'.cell? ⟨go117, (x75_3).toNat * 5 + 3, none⟩ = some (.int .i64 ((rd_T131 y316 x75_3).f0.f3)) ∧ w'.cell? ⟨go117, (x75_3).toNat * 5 + 4, none⟩ = some (.int .i64 ((rd_T131 y316 x75_3).f1)) ∧ w'.cell? ⟨go117, (x64_2).toNat * 5, none⟩ = some (.int .i64 ((rd_T131 y316 x64_2).f0.f0)) ∧ w'.cell? ⟨go117, (x64_2).toNat * 5 + 1, none⟩ = some (.int .i64 ((rd_T131 y316 x64_2).f0.f1)) ∧ w'.cell? ⟨go117, (x64_2).toNat * 5 + 2, none⟩ = some (.int .i64 ((rd_T131 y316 x64_2).f0.f2)) ∧ w'.cell? ⟨go117, (x64_2).toNat * 5 + 3, none⟩ = some (.int .i64 ((rd_T131 y316 x64_2).f0.f3)) ∧ w'.cell? ⟨go117, (x64_2).toNat * 5 + 4, none⟩ = some (.int .i64 ((rd_T131 y316 x64_2).f1))) (ds := [17]) #[false, false, false, false, false, false, false, false, false, false, false, false, false, false, false, false, false, false] (by kernel_rfl) rfl rfl ⟨hx317_0, hx317_1, hx317_2, hx317_3, hx317_4, hx318_0, hx318_1, hx318_2, hx318_3, hx318_4⟩ (fun hHeld => ?_); refine with_tabW impl_solve.tab25 impl_solve.bits25 (fun HT_ HW_ => ?_); generalize w125.drew = w126 at HO_9 aa ab BK258 BK259 BK269 HB HQ124 hx317_0 hx317_1 hx317_2 hx317_3 hx317_4 hx318_0 hx318_1 hx318_2 hx318_3 hx318_4 hHeld ⊢; refine pZ 0 HT_ ?_; refine pZ 1 HT_ ?_; refine pZ 2 HT_ ?_; refine pZ 3 HT_ ?_; refine pZ 4 HT_ ?_; refine pZ 5 HT_ ?_; refine pZ 7 HT_ ?_; refine pZ 8 HT_ ?_; refine pZ 9 HT_ ?_; refine pZ 10 HT_ ?_; refine pZ 12 HT_ ?_; refine tZ 6 hHeld HT_ HW_ ?_; refine tZ 11 hHeld HT_ HW_ ?_; refine oZ 13 HT_ (fun K hK => ?_); refine goes_ Try.func104 (by kernel_rfl) rfl #[.int .i64 ((rd_T131 y316 x64_2).f1), .int .i64 x18_100] (by rfl) rfl rfl z7_2 ?_
               with_reducible refine (impl_element_times.calls ((rd_T131 y316 x64_2).f1) x18_100 t319 _ A118.out).mono ?_
               rintro e w' ⟨rfl, ⟨nd, rfl⟩⟩
               refine ⟨_, rfl, ?_⟩; refine hK.out _ _ ⟨hHeld.1, hHeld.2.1, hHeld.2.2.1, hHeld.2.2.2.1, hHeld.2.2.2.2.1, hHeld.2.2.2.2.2.1, hHeld.2.2.2.2.2.2.1, hHeld.2.2.2.2.2.2.2.1, hHeld.2.2.2.2.2.2.2.2.1, hHeld.2.2.2.2.2.2.2.2.2⟩ (fun hHeld => ?_); clear hK K; refine nZ ?_; refine oZ 14 HT_ (fun K hK => ?_); refine goes_ Try.func127 (by kernel_rfl) rfl #[.int .i64 ((rd_T131 y316 x75_3).f1), .int .i64 t319] (by rfl) rfl rfl z7_2 ?_
               with_reducible refine (impl_element_minus.calls ((rd_T131 y316 x75_3).f1) t319 t320 _ A119.out).mono ?_
               rintro e w' ⟨rfl, ⟨nd, rfl⟩⟩
               refine ⟨_, rfl, ?_⟩; have p120 : 0 ≤ (x75_3 : Int) := of_decide_eq_true z7_3
               have q120 : (x75_3 : Int) < ((x9_3.length : Int) : Int) := of_decide_eq_true z7_3
               obtain ⟨ce120, hcl120, hM120, hcc120, hfr120⟩ := Kd.R_elem HO_9.out z131 (x75_3 : Int) p120 q120
               obtain rfl := k131_openM hM120
               have hx120_0 : World.cell? _ ⟨go117, (x75_3 : Int).toNat * 5, none⟩ = some (.int .i64 ((rd_T131 y316 x75_3).f0.f0)) := hcc120 0 _ rfl; have hx120_1 : World.cell? _ ⟨go117, (x75_3 : Int).toNat * 5 + 1, none⟩ = some (.int .i64 ((rd_T131 y316 x75_3).f0.f1)) := hcc120 1 _ rfl; have hx120_2 : World.cell? _ ⟨go117, (x75_3 : Int).toNat * 5 + 2, none⟩ = some (.int .i64 ((rd_T131 y316 x75_3).f0.f2)) := hcc120 2 _ rfl; have hx120_3 : World.cell? _ ⟨go117, (x75_3 : Int).toNat * 5 + 3, none⟩ = some (.int .i64 ((rd_T131 y316 x75_3).f0.f3)) := hcc120 3 _ rfl; have hx120_4 : World.cell? _ ⟨go117, (x75_3 : Int).toNat * 5 + 4, none⟩ = some (.int .i64 ((rd_T131 y316 x75_3).f1)) := hcc120 4 _ rfl; have hf120_0 : World.frozen? _ ⟨go117, (x75_3 : Int).toNat * 5, none⟩ = false := hfr120 0; have hf120_1 : World.frozen? _ ⟨go117, (x75_3 : Int).toNat * 5 + 1, none⟩ = false := hfr120 1; have hf120_2 : World.frozen? _ ⟨go117, (x75_3 : Int).toNat * 5 + 2, none⟩ = false := hfr120 2; have hf120_3 : World.frozen? _ ⟨go117, (x75_3 : Int).toNat * 5 + 3, none⟩ = false := hfr120 3; have hf120_4 : World.frozen? _ ⟨go117, (x75_3 : Int).toNat * 5 + 4, none⟩ = false := hfr120 4
               (try clear hcl120); (try clear hcc120); (try clear hfr120); (try clear hM120)
               replace p120 := eq_true p120
               replace q120 := eq_true q120
               obtain ⟨ce127, hcl127, hM127, hcc127, hfr127⟩ := Kd.R_elem HO_9.out z131 (x75_3 : Int) (of_decide_eq_true z7_3) (by have h_ : (x75_3 : Int) < ((x9_3.length : Int) : Int) := of_decide_eq_true z7_3; first | exact h_ | (have e_ := (Kd.R_reads' HO_9.out).1; omega) | simpa using h_)
               obtain rfl := k131_openM hM127
               have HP127 := (Kd.R_seg HO_9.out (x75_3 : Int) (of_decide_eq_true z7_3) (by have h_ : (x75_3 : Int) < ((x9_3.length : Int) : Int) := of_decide_eq_true z7_3; first | exact h_ | (have e_ := (Kd.R_reads' HO_9.out).1; omega) | simpa using h_) (seg := [.int .i64 t320]) (j := 4) hcl127 hcc127 (show 5 ≤ 5 from by decide) (x' := (⟨(⟨(rd_T131 y316 x75_3).f0.f0, (rd_T131 y316 x75_3).f0.f1, (rd_T131 y316 x75_3).f0.f2, (rd_T131 y316 x75_3).f0.f3⟩ : S70), t320⟩ : S131)) (k131_mkM _ _ _ (⟨(⟨(rd_T131 y316 x75_3).f0.f0, (rd_T131 y316 x75_3).f0.f1, (rd_T131 y316 x75_3).f0.f2, (rd_T131 y316 x75_3).f0.f3⟩ : S70), t320⟩ : S131) ) (fun _ hk => hk)).1
               rw [← Ny321.out] at HP127
               have HQ127 := Aside0.mk HP127
               (try clear hcl127); (try clear hcc127); (try clear hfr127); (try clear hM127); (try clear HP127)
               refine hK.out _ _ ⟨hHeld.1, hHeld.2.1, hHeld.2.2.1, hHeld.2.2.2.1, hHeld.2.2.2.2.1, hHeld.2.2.2.2.2.1, hHeld.2.2.2.2.2.2.1, hHeld.2.2.2.2.2.2.2.1, hHeld.2.2.2.2.2.2.2.2.1, hHeld.2.2.2.2.2.2.2.2.2⟩ (fun hHeld => ?_); clear hK K; refine nZ ?_; refine pZ 15 HT_ ?_; refine pZ 16 HT_ ?_; refine lZ 17 HT_ (fun K hK => ?_); refine skip_ (w1 := ?_) (by rfl) rfl ?_ ?_; rotate_left
               ·go_simp
                rfl
               refine hK.out _ _ ?_; clear hK K; refine done_ (done_of HT_.out (by kernel_rfl)) ?_
               try go_wp2
               (try simp only [← hl9_3])
               have hab_ : (⟨go117, (x64_2).toNat * 5, none⟩ : Addr) = (⟨go117, 0, none⟩ : Addr).add ((x64_2).toNat * 5) := (add_plain _ _).symm
               (try simp only [hab_]); clear hab_
               have GG2_ : ∃ cl_, Aside0 (w126.heap[go117]? = some (.cells cl_ 131 (0, 0))) := by
                 obtain ⟨gq_, cq_, eq_, gbq_, glq_, clq_, HGq_⟩ := Kd.R_form HO_9.out (by have h1_ := of_eq_true p318; have h2_ := of_eq_true q318; omega)
                 injection eq_ with ea_ en_ ec_; injection ea_ with ea_; injection ea_ with eb_; subst eb_; exact ⟨clq_, ⟨HGq_⟩⟩
               obtain ⟨cl2_, GG2_⟩ := GG2_
               go_roundg kj107
               case measure => have := HK1.out; have := HK2.out; have := HK3.out; have := HJ100.out; have := HJ107.out; omega
               case rel => exact ⟨(y321), (wrap64 (x75_3 + 1)), z7_21, H', ⟨by have := HK1.out; have := HK2.out; have := HK3.out; have := HJ100.out; have := HJ107.out; omega⟩, ⟨by (try simp only [hl9_2]); (try simp only [hl9_3]); (with_reducible repeat (first | apply Kd.R_alloc | apply Kd.R_drewN | apply Kd.R_drew)); exact HQ127.out⟩, ⟨by (try simp only [hl9_2]); (try simp only [hl9_3]); (with_reducible repeat (first | apply Kd.R_alloc | apply Kd.R_drewN | apply Kd.R_drew)); exact Kd.R_mono (Kd.R_far (p := ⟨go117, (x75_3 : Int).toNat * 5 + 4, none⟩) (Kd.R_types aa.out GG2_.out (by decide)) (fun _ hk => hk.2) (.int .i64 t320)) (fun _ hk => trivial)⟩, ⟨by (try simp only [hl9_2]); (try simp only [hl9_3]); (with_reducible repeat (first | apply Kd.R_alloc | apply Kd.R_drewN | apply Kd.R_drew)); exact Kd.R_mono (Kd.R_far (p := ⟨go117, (x75_3 : Int).toNat * 5 + 4, none⟩) (Kd.R_types ab.out GG2_.out (by decide)) (fun _ hk => hk.2) (.int .i64 t320)) (fun _ hk => trivial)⟩, ⟨by (try simp only [hl9_2]); (try simp only [hl9_3]); (with_reducible repeat first|refine blk_drewN ?_ _|refine blk_drew ?_|refine blk_alloc ?_ _); refine blk_far ?_ z7_25 _; (with_reducible repeat first|refine blk_drewN ?_ _|refine blk_drew ?_|refine blk_alloc ?_ _); exact BK258.out⟩, ⟨by (try simp only [hl9_2]); (try simp only [hl9_3]); (with_reducible repeat first|refine blk_drewN ?_ _|refine blk_drew ?_|refine blk_alloc ?_ _); refine blk_far ?_ z7_26 _; (with_reducible repeat first|refine blk_drewN ?_ _|refine blk_drew ?_|refine blk_alloc ?_ _); exact BK259.out⟩, ⟨by (try simp only [hl9_2]); (try simp only [hl9_3]); (with_reducible repeat first|refine blk_drewN ?_ _|refine blk_drew ?_|refine blk_alloc ?_ _); refine blk_far ?_ z7_27 _; (with_reducible repeat first|refine blk_drewN ?_ _|refine blk_drew ?_|refine blk_alloc ?_ _); exact BK269.out⟩, ⟨by repeat (first | (with_reducible first | exact HB.out | apply below_alloc | apply pw_below_drewN | apply below_drew1 | refine below_set ?_ GB117.out | refine below_set ?_ GE258.out | refine below_set ?_ GE259.out | refine below_set ?_ GE269.out) | exact HB.out)⟩⟩
              ·replace c110 := Bool.eq_false_iff.mpr c110
               subst c110; rw [if_neg (show ¬ (false = true) by decide)] at H
               have H' := Aside0.mk H
               clear H
               go_wp2
               (try simp only [← hl9_3])
               go_roundg kj107
               case measure => have := HK1.out; have := HK2.out; have := HK3.out; have := HJ100.out; have := HJ107.out; omega
               case rel => exact ⟨(x9_3), (wrap64 (x75_3 + 1)), z7_21, H', ⟨by have := HK1.out; have := HK2.out; have := HK3.out; have := HJ100.out; have := HJ107.out; omega⟩, ⟨z7_19⟩, ⟨z7_17⟩, ⟨z7_18⟩, ⟨z7_14⟩, ⟨z7_15⟩, ⟨z7_16⟩, ⟨z7_1⟩⟩
         ·rw [if_neg c100] at H
          have c100b0 : decide (x75_3 < (x9_2.length : Int)) = false := decide_eq_false c100
          have c100b0' := c100b0; (try simp only [hl9_2] at c100b0'); (try simp only [hl9_3] at c100b0')
          clear c100
          have H' := Aside0.mk H
          clear H
          go_wp2
          (try simp only [← hl9_2, ← hl9_3])
          go_roundg k3
          case measure => have := HK1.out; have := HK2.out; have := HK3.out; omega
          case rel => exact ⟨(x9_3), (wrap64 (x64_2 + 1)), z7_21, H', ⟨z7_32⟩, ⟨z7_19⟩, ⟨z7_17⟩, ⟨z7_18⟩, ⟨z7_14⟩, ⟨z7_15⟩, ⟨z7_16⟩, ⟨z7_1⟩⟩
      ·rw [if_neg c95] at H
       have c95b0 : decide (x64_2 < (x9_1.length : Int)) = false := decide_eq_false c95
       have c95b0' := c95b0; (try simp only [hl9_2] at c95b0'); (try simp only [hl9_3] at c95b0')
       clear c95
       have H' := Aside0.mk H
       clear H
       go_wp2
       go_loopg [130] k2 (fun kq v130 w' => ∃ (x130_3 : Int) (ad : Int) (ae : Int) (af : Int) (ag : Int), v130 = .int .i64 x130_3 ∧ Aside0 (impl_solve.l4 kq x9_2 (x9_2.length : Int) x130_3 ad ae af ag = some (r1, r2, r3, r4)) ∧ Aside0 (kq ≤ k2) ∧ Aside0 (Kd.R k131 131 w' w.heap.size (fun _ => True) (.slice Ao94 x9_2.length co94) x9_2) ∧ Aside0 (Kd.R k102 102 w' w.heap.size (fun _ => True) (.slice Ao16 t263.length co16) t263) ∧ Aside0 (Kd.R (Kd.int .i64) 3 w' w.heap.size (fun _ => True) v267 t266) ∧ Aside0 (w'.heap[gb258]? = some (.cells #[.int .i64 0, .int .i64 0, .int .i64 0, .int .i64 0] 70 (0, 0))) ∧ Aside0 (w'.heap[gb259]? = some (.cells #[.int .i64 ad, .int .i64 ae, .int .i64 af, .int .i64 ag] 70 (0, 0))) ∧ Aside0 (w'.heap[gb269]? = some (.cells #[(.slice Ao16 t263.length co16), v267] 81 (0, 0))) ∧ Aside0 (Below w.heap.size w w'))
       case atStart => exact ⟨(0), (0), (0), (0), (0), z7_21, H', ⟨Nat.le_refl _⟩, ⟨z7_42⟩, ⟨z7_40⟩, ⟨z7_41⟩, ⟨z7_37⟩, ⟨z7_38⟩, ⟨z7_39⟩, ⟨z7_1⟩⟩
       case round =>
        clear H'
        try clear c1
        try clear c95
        try clear c95b0
        obtain ⟨x130_3, ad, ae, af, ag, rfl, HA, HK3, HO_128, aa, ab, BK258, BK259, BK269, HB⟩ := hrel
        cases gk with
        | zero => exact absurd HA.out (by simp [impl_solve.l4])
        | succ k3 =>
         have H := HA.out
         clear HA; simp only [impl_solve.l4] at H
         by_cases c128 : x130_3 < (x9_2.length : Int)
         ·rw [if_pos c128] at H
          have c128b0 : decide (x130_3 < (x9_2.length : Int)) = true := decide_eq_true c128
          have c128b0' := c128b0; (try simp only [hl9_2] at c128b0'); (try simp only [hl9_3] at c128b0')
          clear c128; obtain ⟨c129, H⟩ := ifP H; have c129b0 : decide (0 ≤ x130_3) = true := decide_eq_true c129; clear c129; obtain ⟨c130, H⟩ := ifP H; have c130b0 : decide (x130_3 < (x9_2.length : Int)) = true := decide_eq_true c130
          have c130b0' := c130b0; (try simp only [hl9_2] at c130b0'); (try simp only [hl9_3] at c130b0')
          clear c130
          replace H := Option.bind_eq_some_iff.mp H
          obtain ⟨t324, A1310, H⟩ := H
          have A131 := Aside0.mk A1310
          clear A1310
          by_cases c132 : t324 = 0
          ·rw [if_pos c132] at H
           subst c132
           have H' := Aside0.mk H
           clear H; have p322 : 0 ≤ (x130_3 : Int) := of_decide_eq_true z7_3; have q322 : x130_3 < (x9_2.length : Int) := of_decide_eq_true z7_3; obtain ⟨ad322, e322, hx322_0, hx322_1, hx322_2, hx322_3, hx322_4⟩ := at_T131 (Kd.R_reads' HO_128.out).2.2 x130_3 p322 q322; cases e322
           replace p322 := eq_true p322
           replace q322 := eq_true q322
           try go_wp2_with (first | ((with_reducible refine gate_dst (N := 20) rfl ?_); refine box_event ?hg (N := 20) ?hd (cs := #[.int .i64 0, .int .i64 0, .int .i64 0, .int .i64 0, .int .i64 0]) (t := 131) ?hr ?_; (case hd => rfl); (case hg => rfl); (case hr => first | (go_simp; done) | (go_simp; rfl)); intro gb323 hg w133 hbox hb; replace HO_128 := Aside0.mk (Kd.R_below (Kd.R_elderB z7_24 gb323 (Nat.le_of_eq hg.symm)) hb); replace aa := Aside0.mk (Kd.R_below z7_7 hb); replace ab := Aside0.mk (Kd.R_below z7_6 hb); have BK323 := Aside0.mk (hbox); have GW323 := Aside0.mk ((by rw [hg]; exact (below_size z7_1) : w.heap.size ≤ gb323)); have GE323 := Aside0.mk ((by rw [hg]; exact (below_size z7_1) : w.heap.size ≤ gb323)); replace HB := Aside0.mk (below_step z7_1 hb); have ai := Aside0.mk ((by rw [hg]; exact bLZ_ BK258 : gb258 ≠ gb323)); have aj := Aside0.mk ((by rw [hg]; exact bGZ_ BK258 : gb323 ≠ gb258)); replace BK258 := bBZ_ BK258 hb; have ah := Aside0.mk ((by rw [hg]; exact bLZ_ BK259 : gb259 ≠ gb323)); have ac := Aside0.mk ((by rw [hg]; exact bGZ_ BK259 : gb323 ≠ gb259)); replace BK259 := bBZ_ BK259 hb; have ak := Aside0.mk ((by rw [hg]; exact bLZ_ BK269 : gb269 ≠ gb323)); have al := Aside0.mk ((by rw [hg]; exact bGZ_ BK269 : gb323 ≠ gb269)); replace BK269 := bBZ_ BK269 hb; clear hb hbox hg; have hnb134 := aj.out; have hnc134 := ai.out; have hnb135 := ac.out; have hnc135 := ah.out; have hnb136 := al.out; have hnc136 := ak.out; obtain ⟨hcz137_0, hfz137_0, hcz138_1, hfz138_1, hcz139_2, hfz139_2, hcz140_3, hfz140_3, hcz141_4, hfz141_4⟩ := cAZ5_ BK323) | ((with_reducible refine gate_store (t := 131) (p := 20) rfl ?_); refine store_event (t := 131) (p := 20) (v := ?vo_w142) (w1 := (((((w133.setCell ⟨gb323, 0, none⟩ (.int .i64 ((rd_T131 x9_2 x130_3).f0.f0))).setCell ⟨gb323, 1, none⟩ (.int .i64 ((rd_T131 x9_2 x130_3).f0.f1))).setCell ⟨gb323, 2, none⟩ (.int .i64 ((rd_T131 x9_2 x130_3).f0.f2))).setCell ⟨gb323, 3, none⟩ (.int .i64 ((rd_T131 x9_2 x130_3).f0.f3))).setCell ⟨gb323, 4, none⟩ (.int .i64 ((rd_T131 x9_2 x130_3).f1)))) ?hg ?ho ?hn ?hr ?_; (case ho => rfl); (case hg => rfl); (case hn => rfl); (case hr => first | (go_simp; done) | (go_simp; rfl)); intro w142 hw; have n0_ : Aside0 (Kd.R k131 131 w142 w.heap.size (fun k_ => k_ ≠ gb323) (.slice (some ad322) x9_2.length co94) x9_2) := ⟨z7_8⟩; have n1_ : Aside0 (Kd.R k102 102 w142 w.heap.size (fun _ => True) (.slice Ao16 t263.length co16) t263) := ⟨z7_9⟩; have n2_ : Aside0 (Kd.R (Kd.int .i64) 3 w142 w.heap.size (fun _ => True) v267 t266) := ⟨z7_10⟩; have n3_ : Aside0 (w142.heap[gb258]? = some (.cells #[.int .i64 0, .int .i64 0, .int .i64 0, .int .i64 0] 70 (0, 0))) := ⟨z7_34⟩; have n4_ : Aside0 (w142.heap[gb259]? = some (.cells #[.int .i64 ad, .int .i64 ae, .int .i64 af, .int .i64 ag] 70 (0, 0))) := ⟨z7_35⟩; have n5_ : Aside0 (w142.heap[gb269]? = some (.cells #[.slice Ao16 t263.length co16, v267] 81 (0, 0))) := ⟨z7_36⟩; have n6_ : Aside0 (w142.heap[gb323]? = some (.cells #[.int .i64 ((rd_T131 x9_2 x130_3).f0.f0), .int .i64 ((rd_T131 x9_2 x130_3).f0.f1), .int .i64 ((rd_T131 x9_2 x130_3).f0.f2), .int .i64 ((rd_T131 x9_2 x130_3).f0.f3), .int .i64 ((rd_T131 x9_2 x130_3).f1)] 131 (0, 0))) := ⟨(by rw [hw]; exact (bZ BK323.out))⟩; have n7_ : Aside0 (Below w.heap.size w w142) := ⟨(by rw [hw]; exact z7_5)⟩; clear hw; clear HO_128; clear aa; clear ab; clear BK258; clear BK259; clear BK269; clear BK323; clear HB; have HO_128 := n0_; have aa := n1_; have ab := n2_; have BK258 := n3_; have BK259 := n4_; have BK269 := n5_; have BK323 := n6_; have HB := n7_; clear n0_ n1_ n2_ n3_ n4_ n5_ n6_ n7_))
           replace HO_128 := Aside0.mk (Kd.R_drew HO_128.out)
           replace aa := Aside0.mk (Kd.R_drew aa.out)
           replace ab := Aside0.mk (Kd.R_drew ab.out)
           replace BK258 := Aside0.mk (blk_drew BK258.out)
           replace BK259 := Aside0.mk (blk_drew BK259.out)
           replace BK269 := Aside0.mk (blk_drew BK269.out)
           replace BK323 := Aside0.mk (blk_drew BK323.out)
           replace HB := Aside0.mk (below_drew1 HB.out)
           refine start_ (n := 7) (S := fun w' => w'.cell? ⟨gb323, 0, none⟩ = some (.int .i64 ((rd_T131 x9_2 x130_3).f0.f0)) ∧ w'.cell? ⟨gb323, 1, none⟩ = some (.int .i64 ((rd_T131 x9_2 x130_3).f0.f1)) ∧ w'.cell? ⟨gb323, 2, none⟩ = some (.int .i64 ((rd_T131 x9_2 x130_3).f0.f2)) ∧ w'.cell? ⟨gb323, 3, none⟩ = some (.int .i64 ((rd_T131 x9_2 x130_3).f0.f3)) ∧ w'.cell? ⟨gb323, 4, none⟩ = some (.int .i64 ((rd_T131 x9_2 x130_3).f1))) (ds := []) #[false, false, false, false, false, false, false] (by kernel_rfl) rfl rfl ⟨bA7 BK323 rfl, bA7 BK323 rfl, bA7 BK323 rfl, bA7 BK323 rfl, bA7 BK323 rfl⟩ (fun hHeld => ?_); generalize w142.drew = w143 at HO_128 aa ab BK258 BK259 BK269 BK323 HB hHeld ⊢; refine pure_ (i := 0) (N := some 134) (v := ?_) (a' := ?_) #[true, false, false, false, false, false, false] rfl rfl (by kernel_rfl) (fun _ _ _ h => h) (Or.inl ⟨by rfl, ?_⟩) ?_ ?_; rotate_left
           ·intro w'
            go_simp
            with_reducible rfl
           rotate_left
           ·simp only [Act.put, zs7, zc7, zd7, i64_w, i32_w]
            rfl
           refine pure_ (i := 3) (N := some 137) (v := ?_) (a' := ?_) #[true, false, false, true, false, false, false] rfl rfl (by kernel_rfl) (fun _ _ _ h => h) (Or.inl ⟨by rfl, ?_⟩) ?_ ?_; rotate_left
           ·intro w'
            go_simp
            with_reducible rfl
           rotate_left
           ·simp only [Act.put, zs7, zc7, zd7, i64_w, i32_w]
            rfl
           refine take_ (i := 1) (N := some 135) (v := ?_) (a' := ?_) #[true, true, false, true, false, false, false] rfl rfl (by kernel_rfl) (fun _ _ _ h => h) (Or.inl ⟨by rfl, ?_⟩) hHeld ?_ ?_; rotate_left
           ·rintro w' ⟨s0, s1, s2, s3, s4⟩
            go_simp
            with_reducible rfl
           rotate_left
           ·simp only [Act.put, zs7, zc7, zd7, i64_w, i32_w]
            rfl
           refine take_ (i := 4) (N := some 138) (v := ?_) (a' := ?_) #[true, true, false, true, true, false, false] rfl rfl (by kernel_rfl) (fun _ _ _ h => h) (Or.inl ⟨by rfl, ?_⟩) hHeld ?_ ?_; rotate_left
           ·rintro w' ⟨s0, s1, s2, s3, s4⟩
            go_simp
            with_reducible rfl
           rotate_left
           ·simp only [Act.put, zs7, zc7, zd7, i64_w, i32_w]
            rfl
           refine one_ (i := 2) (N := some 136) #[true, true, true, true, true, false, false] rfl rfl (by kernel_rfl) (by decide) (fun K hK => ?_); refine goes_ Try.func60 (by kernel_rfl) rfl #[.agg #[.int .i64 ((rd_T131 x9_2 x130_3).f0.f0), .int .i64 ((rd_T131 x9_2 x130_3).f0.f1), .int .i64 ((rd_T131 x9_2 x130_3).f0.f2), .int .i64 ((rd_T131 x9_2 x130_3).f0.f3)]] (by rfl) rfl rfl z7_2 ?_
           with_reducible refine (impl_vector_lead.calls ((rd_T131 x9_2 x130_3).f0.f0) ((rd_T131 x9_2 x130_3).f0.f1) ((rd_T131 x9_2 x130_3).f0.f2) ((rd_T131 x9_2 x130_3).f0.f3) (0 : Int) _ A131.out).mono ?_
           rintro e w144 ⟨rfl, hb⟩
           refine ⟨_, rfl, ?_⟩
           replace HO_128 := Aside0.mk (Kd.R_below z7_24 hb)
           replace aa := Aside0.mk (Kd.R_below z7_7 hb)
           replace ab := Aside0.mk (Kd.R_below z7_6 hb)
           replace BK258 := bBZ_ BK258 hb
           replace BK259 := bBZ_ BK259 hb
           replace BK269 := bBZ_ BK269 hb
           replace BK323 := bBZ_ BK323 hb
           replace HB := Aside0.mk (below_step z7_5 hb)
           (try clear hb); (try clear hb2); (try clear hk); (try clear hi); refine hK.out _ _ ⟨bA7 BK323 rfl, bA7 BK323 rfl, bA7 BK323 rfl, bA7 BK323 rfl, bA7 BK323 rfl⟩ (fun hHeld => ?_); clear hK K; refine nZ ?_; refine pure_ (i := 5) (N := some 139) (v := ?_) (a' := ?_) #[true, true, true, true, true, true, false] rfl rfl (by kernel_rfl) (fun _ _ _ h => h) (Or.inl ⟨by rfl, ?_⟩) ?_ ?_; rotate_left
           ·intro w'
            go_simp
            with_reducible rfl
           rotate_left
           ·simp only [Act.put, zs7, zc7, zd7, i64_w, i32_w]
            rfl
           refine one_ (i := 6) (N := none) #[true, true, true, true, true, true, true] rfl rfl (by kernel_rfl) (by decide) (fun K hK => ?_); have hs145 : w144.cell? ⟨gb259, 0, none⟩ = some (.int .i64 ad) := bA7 BK259 rfl
           have hfs145 := blk_frozen BK259.out 0
           have hns145_0 := ap.out
           have hns145_2 := ao.out
           have hns145_3 := ac.out
           have hms145_0 := am.out
           have hms145_2 := an.out
           have hms145_3 := ah.out
           refine skip_ (w1 := ?_) (by rfl) rfl ?_ ?_; rotate_left
           ·go_simp
            rfl
           refine hK.out _ _ ⟨((cell_far (p := ⟨gb259, _, none⟩) ac.out _).trans (hHeld.1)), ((cell_far (p := ⟨gb259, _, none⟩) ac.out _).trans (hHeld.2.1)), ((cell_far (p := ⟨gb259, _, none⟩) ac.out _).trans (hHeld.2.2.1)), ((cell_far (p := ⟨gb259, _, none⟩) ac.out _).trans (hHeld.2.2.2.1)), ((cell_far (p := ⟨gb259, _, none⟩) ac.out _).trans (hHeld.2.2.2.2))⟩ (fun hHeld => ?_); clear hK K; refine done_ (by kernel_rfl) ?_
           try go_wp2
           go_roundg k3
           case measure => have := HK1.out; have := HK2.out; have := HK3.out; omega
           case rel => exact ⟨(wrap64 (x130_3 + 1)), ((rd_T131 x9_2 x130_3).f1), (ae), (af), (ag), z7_21, H', ⟨z7_32⟩, ⟨by (try simp only [hl9_2]); (with_reducible repeat (first | apply Kd.R_alloc | apply Kd.R_drewN | apply Kd.R_drew)); exact Kd.R_mono (Kd.R_far (p := ⟨gb259, 0, none⟩) (Kd.R_types HO_128.out BK259.out (by decide)) (fun _ hk => hk.2) (.int .i64 ((rd_T131 x9_2 x130_3).f1))) (fun _ hk => trivial)⟩, ⟨by (try simp only [hl9_2]); (with_reducible repeat (first | apply Kd.R_alloc | apply Kd.R_drewN | apply Kd.R_drew)); exact Kd.R_mono (Kd.R_far (p := ⟨gb259, 0, none⟩) (Kd.R_types aa.out BK259.out (by decide)) (fun _ hk => hk.2) (.int .i64 ((rd_T131 x9_2 x130_3).f1))) (fun _ hk => trivial)⟩, ⟨by (try simp only [hl9_2]); (with_reducible repeat (first | apply Kd.R_alloc | apply Kd.R_drewN | apply Kd.R_drew)); exact Kd.R_mono (Kd.R_far (p := ⟨gb259, 0, none⟩) (Kd.R_types ab.out BK259.out (by decide)) (fun _ hk => hk.2) (.int .i64 ((rd_T131 x9_2 x130_3).f1))) (fun _ hk => trivial)⟩, ⟨z7_22⟩, ⟨by (try simp only [hl9_2]); (with_reducible repeat first|refine blk_drewN ?_ _|refine blk_drew ?_|refine blk_alloc ?_ _); refine blk_put (cs := #[.int .i64 ad, .int .i64 ae, .int .i64 af, .int .i64 ag]) ?_ 0 _ rfl; (with_reducible repeat first|refine blk_drewN ?_ _|refine blk_drew ?_|refine blk_alloc ?_ _); exact BK259.out⟩, ⟨z7_23⟩, ⟨z7_5⟩⟩
          ·rw [if_neg c132] at H
           clear c132
           by_cases c146 : t324 = 1
           ·rw [if_pos c146] at H
            subst c146
            have H' := Aside0.mk H
            clear H; have p322 : 0 ≤ (x130_3 : Int) := of_decide_eq_true z7_3; have q322 : x130_3 < (x9_2.length : Int) := of_decide_eq_true z7_3; obtain ⟨ad322, e322, hx322_0, hx322_1, hx322_2, hx322_3, hx322_4⟩ := at_T131 (Kd.R_reads' HO_128.out).2.2 x130_3 p322 q322; cases e322
            replace p322 := eq_true p322
            replace q322 := eq_true q322
            try go_wp2_with (first | ((with_reducible refine gate_dst (N := 20) rfl ?_); refine box_event ?hg (N := 20) ?hd (cs := #[.int .i64 0, .int .i64 0, .int .i64 0, .int .i64 0, .int .i64 0]) (t := 131) ?hr ?_; (case hd => rfl); (case hg => rfl); (case hr => first | (go_simp; done) | (go_simp; rfl)); intro gb323 hg w147 hbox hb; replace HO_128 := Aside0.mk (Kd.R_below (Kd.R_elderB z7_24 gb323 (Nat.le_of_eq hg.symm)) hb); replace aa := Aside0.mk (Kd.R_below z7_7 hb); replace ab := Aside0.mk (Kd.R_below z7_6 hb); have BK323 := Aside0.mk (hbox); have GW323 := Aside0.mk ((by rw [hg]; exact (below_size z7_1) : w.heap.size ≤ gb323)); have GE323 := Aside0.mk ((by rw [hg]; exact (below_size z7_1) : w.heap.size ≤ gb323)); replace HB := Aside0.mk (below_step z7_1 hb); have ai := Aside0.mk ((by rw [hg]; exact bLZ_ BK258 : gb258 ≠ gb323)); have aj := Aside0.mk ((by rw [hg]; exact bGZ_ BK258 : gb323 ≠ gb258)); replace BK258 := bBZ_ BK258 hb; have ah := Aside0.mk ((by rw [hg]; exact bLZ_ BK259 : gb259 ≠ gb323)); have ac := Aside0.mk ((by rw [hg]; exact bGZ_ BK259 : gb323 ≠ gb259)); replace BK259 := bBZ_ BK259 hb; have ak := Aside0.mk ((by rw [hg]; exact bLZ_ BK269 : gb269 ≠ gb323)); have al := Aside0.mk ((by rw [hg]; exact bGZ_ BK269 : gb323 ≠ gb269)); replace BK269 := bBZ_ BK269 hb; clear hb hbox hg; have hnb148 := aj.out; have hnc148 := ai.out; have hnb149 := ac.out; have hnc149 := ah.out; have hnb150 := al.out; have hnc150 := ak.out; obtain ⟨hcz151_0, hfz151_0, hcz152_1, hfz152_1, hcz153_2, hfz153_2, hcz154_3, hfz154_3, hcz155_4, hfz155_4⟩ := cAZ5_ BK323) | ((with_reducible refine gate_store (t := 131) (p := 20) rfl ?_); refine store_event (t := 131) (p := 20) (v := ?vo_w156) (w1 := (((((w147.setCell ⟨gb323, 0, none⟩ (.int .i64 ((rd_T131 x9_2 x130_3).f0.f0))).setCell ⟨gb323, 1, none⟩ (.int .i64 ((rd_T131 x9_2 x130_3).f0.f1))).setCell ⟨gb323, 2, none⟩ (.int .i64 ((rd_T131 x9_2 x130_3).f0.f2))).setCell ⟨gb323, 3, none⟩ (.int .i64 ((rd_T131 x9_2 x130_3).f0.f3))).setCell ⟨gb323, 4, none⟩ (.int .i64 ((rd_T131 x9_2 x130_3).f1)))) ?hg ?ho ?hn ?hr ?_; (case ho => rfl); (case hg => rfl); (case hn => rfl); (case hr => first | (go_simp; done) | (go_simp; rfl)); intro w156 hw; have n0_ : Aside0 (Kd.R k131 131 w156 w.heap.size (fun k_ => k_ ≠ gb323) (.slice (some ad322) x9_2.length co94) x9_2) := ⟨z7_8⟩; have n1_ : Aside0 (Kd.R k102 102 w156 w.heap.size (fun _ => True) (.slice Ao16 t263.length co16) t263) := ⟨z7_9⟩; have n2_ : Aside0 (Kd.R (Kd.int .i64) 3 w156 w.heap.size (fun _ => True) v267 t266) := ⟨z7_10⟩; have n3_ : Aside0 (w156.heap[gb258]? = some (.cells #[.int .i64 0, .int .i64 0, .int .i64 0, .int .i64 0] 70 (0, 0))) := ⟨z7_34⟩; have n4_ : Aside0 (w156.heap[gb259]? = some (.cells #[.int .i64 ad, .int .i64 ae, .int .i64 af, .int .i64 ag] 70 (0, 0))) := ⟨z7_35⟩; have n5_ : Aside0 (w156.heap[gb269]? = some (.cells #[.slice Ao16 t263.length co16, v267] 81 (0, 0))) := ⟨z7_36⟩; have n6_ : Aside0 (w156.heap[gb323]? = some (.cells #[.int .i64 ((rd_T131 x9_2 x130_3).f0.f0), .int .i64 ((rd_T131 x9_2 x130_3).f0.f1), .int .i64 ((rd_T131 x9_2 x130_3).f0.f2), .int .i64 ((rd_T131 x9_2 x130_3).f0.f3), .int .i64 ((rd_T131 x9_2 x130_3).f1)] 131 (0, 0))) := ⟨(by rw [hw]; exact (bZ BK323.out))⟩; have n7_ : Aside0 (Below w.heap.size w w156) := ⟨(by rw [hw]; exact z7_5)⟩; clear hw; clear HO_128; clear aa; clear ab; clear BK258; clear BK259; clear BK269; clear BK323; clear HB; have HO_128 := n0_; have aa := n1_; have ab := n2_; have BK258 := n3_; have BK259 := n4_; have BK269 := n5_; have BK323 := n6_; have HB := n7_; clear n0_ n1_ n2_ n3_ n4_ n5_ n6_ n7_))
            replace HO_128 := Aside0.mk (Kd.R_drew HO_128.out)
            replace aa := Aside0.mk (Kd.R_drew aa.out)
            replace ab := Aside0.mk (Kd.R_drew ab.out)
            replace BK258 := Aside0.mk (blk_drew BK258.out)
            replace BK259 := Aside0.mk (blk_drew BK259.out)
            replace BK269 := Aside0.mk (blk_drew BK269.out)
            replace BK323 := Aside0.mk (blk_drew BK323.out)
            replace HB := Aside0.mk (below_drew1 HB.out)
            refine start_ (n := 7) (S := fun w' => w'.cell? ⟨gb323, 0, none⟩ = some (.int .i64 ((rd_T131 x9_2 x130_3).f0.f0)) ∧ w'.cell? ⟨gb323, 1, none⟩ = some (.int .i64 ((rd_T131 x9_2 x130_3).f0.f1)) ∧ w'.cell? ⟨gb323, 2, none⟩ = some (.int .i64 ((rd_T131 x9_2 x130_3).f0.f2)) ∧ w'.cell? ⟨gb323, 3, none⟩ = some (.int .i64 ((rd_T131 x9_2 x130_3).f0.f3)) ∧ w'.cell? ⟨gb323, 4, none⟩ = some (.int .i64 ((rd_T131 x9_2 x130_3).f1))) (ds := []) #[false, false, false, false, false, false, false] (by kernel_rfl) rfl rfl ⟨bA7 BK323 rfl, bA7 BK323 rfl, bA7 BK323 rfl, bA7 BK323 rfl, bA7 BK323 rfl⟩ (fun hHeld => ?_); generalize w156.drew = w157 at HO_128 aa ab BK258 BK259 BK269 BK323 HB hHeld ⊢; refine pure_ (i := 0) (N := some 134) (v := ?_) (a' := ?_) #[true, false, false, false, false, false, false] rfl rfl (by kernel_rfl) (fun _ _ _ h => h) (Or.inl ⟨by rfl, ?_⟩) ?_ ?_; rotate_left
            ·intro w'
             go_simp
             with_reducible rfl
            rotate_left
            ·simp only [Act.put, zs7, zc7, zd7, i64_w, i32_w]
             rfl
            refine pure_ (i := 3) (N := some 137) (v := ?_) (a' := ?_) #[true, false, false, true, false, false, false] rfl rfl (by kernel_rfl) (fun _ _ _ h => h) (Or.inl ⟨by rfl, ?_⟩) ?_ ?_; rotate_left
            ·intro w'
             go_simp
             with_reducible rfl
            rotate_left
            ·simp only [Act.put, zs7, zc7, zd7, i64_w, i32_w]
             rfl
            refine take_ (i := 1) (N := some 135) (v := ?_) (a' := ?_) #[true, true, false, true, false, false, false] rfl rfl (by kernel_rfl) (fun _ _ _ h => h) (Or.inl ⟨by rfl, ?_⟩) hHeld ?_ ?_; rotate_left
            ·rintro w' ⟨s0, s1, s2, s3, s4⟩
             go_simp
             with_reducible rfl
            rotate_left
            ·simp only [Act.put, zs7, zc7, zd7, i64_w, i32_w]
             rfl
            refine take_ (i := 4) (N := some 138) (v := ?_) (a' := ?_) #[true, true, false, true, true, false, false] rfl rfl (by kernel_rfl) (fun _ _ _ h => h) (Or.inl ⟨by rfl, ?_⟩) hHeld ?_ ?_; rotate_left
            ·rintro w' ⟨s0, s1, s2, s3, s4⟩
             go_simp
             with_reducible rfl
            rotate_left
            ·simp only [Act.put, zs7, zc7, zd7, i64_w, i32_w]
             rfl
            refine one_ (i := 2) (N := some 136) #[true, true, true, true, true, false, false] rfl rfl (by kernel_rfl) (by decide) (fun K hK => ?_); refine goes_ Try.func60 (by kernel_rfl) rfl #[.agg #[.int .i64 ((rd_T131 x9_2 x130_3).f0.f0), .int .i64 ((rd_T131 x9_2 x130_3).f0.f1), .int .i64 ((rd_T131 x9_2 x130_3).f0.f2), .int .i64 ((rd_T131 x9_2 x130_3).f0.f3)]] (by rfl) rfl rfl z7_2 ?_
            with_reducible refine (impl_vector_lead.calls ((rd_T131 x9_2 x130_3).f0.f0) ((rd_T131 x9_2 x130_3).f0.f1) ((rd_T131 x9_2 x130_3).f0.f2) ((rd_T131 x9_2 x130_3).f0.f3) (1 : Int) _ A131.out).mono ?_
            rintro e w158 ⟨rfl, hb⟩
            refine ⟨_, rfl, ?_⟩
            replace HO_128 := Aside0.mk (Kd.R_below z7_24 hb)
            replace aa := Aside0.mk (Kd.R_below z7_7 hb)
            replace ab := Aside0.mk (Kd.R_below z7_6 hb)
            replace BK258 := bBZ_ BK258 hb
            replace BK259 := bBZ_ BK259 hb
            replace BK269 := bBZ_ BK269 hb
            replace BK323 := bBZ_ BK323 hb
            replace HB := Aside0.mk (below_step z7_5 hb)
            (try clear hb); (try clear hb2); (try clear hk); (try clear hi); refine hK.out _ _ ⟨bA7 BK323 rfl, bA7 BK323 rfl, bA7 BK323 rfl, bA7 BK323 rfl, bA7 BK323 rfl⟩ (fun hHeld => ?_); clear hK K; refine nZ ?_; refine pure_ (i := 5) (N := some 139) (v := ?_) (a' := ?_) #[true, true, true, true, true, true, false] rfl rfl (by kernel_rfl) (fun _ _ _ h => h) (Or.inl ⟨by rfl, ?_⟩) ?_ ?_; rotate_left
            ·intro w'
             go_simp
             with_reducible rfl
            rotate_left
            ·simp only [Act.put, zs7, zc7, zd7, i64_w, i32_w]
             rfl
            refine one_ (i := 6) (N := none) #[true, true, true, true, true, true, true] rfl rfl (by kernel_rfl) (by decide) (fun K hK => ?_); have hs159 : w158.cell? ⟨gb259, 1, none⟩ = some (.int .i64 ae) := bA7 BK259 rfl
            have hfs159 := blk_frozen BK259.out 1
            have hns159_0 := ap.out
            have hns159_2 := ao.out
            have hns159_3 := ac.out
            have hms159_0 := am.out
            have hms159_2 := an.out
            have hms159_3 := ah.out
            refine skip_ (w1 := ?_) (by rfl) rfl ?_ ?_; rotate_left
            ·go_simp
             rfl
            refine hK.out _ _ ⟨((cell_far (p := ⟨gb259, _, none⟩) ac.out _).trans (hHeld.1)), ((cell_far (p := ⟨gb259, _, none⟩) ac.out _).trans (hHeld.2.1)), ((cell_far (p := ⟨gb259, _, none⟩) ac.out _).trans (hHeld.2.2.1)), ((cell_far (p := ⟨gb259, _, none⟩) ac.out _).trans (hHeld.2.2.2.1)), ((cell_far (p := ⟨gb259, _, none⟩) ac.out _).trans (hHeld.2.2.2.2))⟩ (fun hHeld => ?_); clear hK K; refine done_ (by kernel_rfl) ?_
            try go_wp2
            go_roundg k3
            case measure => have := HK1.out; have := HK2.out; have := HK3.out; omega
            case rel => exact ⟨(wrap64 (x130_3 + 1)), (ad), ((rd_T131 x9_2 x130_3).f1), (af), (ag), z7_21, H', ⟨z7_32⟩, ⟨by (try simp only [hl9_2]); (with_reducible repeat (first | apply Kd.R_alloc | apply Kd.R_drewN | apply Kd.R_drew)); exact Kd.R_mono (Kd.R_far (p := ⟨gb259, 1, none⟩) (Kd.R_types HO_128.out BK259.out (by decide)) (fun _ hk => hk.2) (.int .i64 ((rd_T131 x9_2 x130_3).f1))) (fun _ hk => trivial)⟩, ⟨by (try simp only [hl9_2]); (with_reducible repeat (first | apply Kd.R_alloc | apply Kd.R_drewN | apply Kd.R_drew)); exact Kd.R_mono (Kd.R_far (p := ⟨gb259, 1, none⟩) (Kd.R_types aa.out BK259.out (by decide)) (fun _ hk => hk.2) (.int .i64 ((rd_T131 x9_2 x130_3).f1))) (fun _ hk => trivial)⟩, ⟨by (try simp only [hl9_2]); (with_reducible repeat (first | apply Kd.R_alloc | apply Kd.R_drewN | apply Kd.R_drew)); exact Kd.R_mono (Kd.R_far (p := ⟨gb259, 1, none⟩) (Kd.R_types ab.out BK259.out (by decide)) (fun _ hk => hk.2) (.int .i64 ((rd_T131 x9_2 x130_3).f1))) (fun _ hk => trivial)⟩, ⟨z7_22⟩, ⟨by (try simp only [hl9_2]); (with_reducible repeat first|refine blk_drewN ?_ _|refine blk_drew ?_|refine blk_alloc ?_ _); refine blk_put (cs := #[.int .i64 ad, .int .i64 ae, .int .i64 af, .int .i64 ag]) ?_ 1 _ rfl; (with_reducible repeat first|refine blk_drewN ?_ _|refine blk_drew ?_|refine blk_alloc ?_ _); exact BK259.out⟩, ⟨z7_23⟩, ⟨z7_5⟩⟩
           ·rw [if_neg c146] at H
            clear c146
            by_cases c160 : t324 = 2
            ·rw [if_pos c160] at H
             subst c160
             have H' := Aside0.mk H
             clear H; have p322 : 0 ≤ (x130_3 : Int) := of_decide_eq_true z7_3; have q322 : x130_3 < (x9_2.length : Int) := of_decide_eq_true z7_3; obtain ⟨ad322, e322, hx322_0, hx322_1, hx322_2, hx322_3, hx322_4⟩ := at_T131 (Kd.R_reads' HO_128.out).2.2 x130_3 p322 q322; cases e322
             replace p322 := eq_true p322
             replace q322 := eq_true q322
             try go_wp2_with (first | ((with_reducible refine gate_dst (N := 20) rfl ?_); refine box_event ?hg (N := 20) ?hd (cs := #[.int .i64 0, .int .i64 0, .int .i64 0, .int .i64 0, .int .i64 0]) (t := 131) ?hr ?_; (case hd => rfl); (case hg => rfl); (case hr => first | (go_simp; done) | (go_simp; rfl)); intro gb323 hg w161 hbox hb; replace HO_128 := Aside0.mk (Kd.R_below (Kd.R_elderB z7_24 gb323 (Nat.le_of_eq hg.symm)) hb); replace aa := Aside0.mk (Kd.R_below z7_7 hb); replace ab := Aside0.mk (Kd.R_below z7_6 hb); have BK323 := Aside0.mk (hbox); have GW323 := Aside0.mk ((by rw [hg]; exact (below_size z7_1) : w.heap.size ≤ gb323)); have GE323 := Aside0.mk ((by rw [hg]; exact (below_size z7_1) : w.heap.size ≤ gb323)); replace HB := Aside0.mk (below_step z7_1 hb); have ai := Aside0.mk ((by rw [hg]; exact bLZ_ BK258 : gb258 ≠ gb323)); have aj := Aside0.mk ((by rw [hg]; exact bGZ_ BK258 : gb323 ≠ gb258)); replace BK258 := bBZ_ BK258 hb; have ah := Aside0.mk ((by rw [hg]; exact bLZ_ BK259 : gb259 ≠ gb323)); have ac := Aside0.mk ((by rw [hg]; exact bGZ_ BK259 : gb323 ≠ gb259)); replace BK259 := bBZ_ BK259 hb; have ak := Aside0.mk ((by rw [hg]; exact bLZ_ BK269 : gb269 ≠ gb323)); have al := Aside0.mk ((by rw [hg]; exact bGZ_ BK269 : gb323 ≠ gb269)); replace BK269 := bBZ_ BK269 hb; clear hb hbox hg; have hnb162 := aj.out; have hnc162 := ai.out; have hnb163 := ac.out; have hnc163 := ah.out; have hnb164 := al.out; have hnc164 := ak.out; obtain ⟨hcz165_0, hfz165_0, hcz166_1, hfz166_1, hcz167_2, hfz167_2, hcz168_3, hfz168_3, hcz169_4, hfz169_4⟩ := cAZ5_ BK323) | ((with_reducible refine gate_store (t := 131) (p := 20) rfl ?_); refine store_event (t := 131) (p := 20) (v := ?vo_w170) (w1 := (((((w161.setCell ⟨gb323, 0, none⟩ (.int .i64 ((rd_T131 x9_2 x130_3).f0.f0))).setCell ⟨gb323, 1, none⟩ (.int .i64 ((rd_T131 x9_2 x130_3).f0.f1))).setCell ⟨gb323, 2, none⟩ (.int .i64 ((rd_T131 x9_2 x130_3).f0.f2))).setCell ⟨gb323, 3, none⟩ (.int .i64 ((rd_T131 x9_2 x130_3).f0.f3))).setCell ⟨gb323, 4, none⟩ (.int .i64 ((rd_T131 x9_2 x130_3).f1)))) ?hg ?ho ?hn ?hr ?_; (case ho => rfl); (case hg => rfl); (case hn => rfl); (case hr => first | (go_simp; done) | (go_simp; rfl)); intro w170 hw; have n0_ : Aside0 (Kd.R k131 131 w170 w.heap.size (fun k_ => k_ ≠ gb323) (.slice (some ad322) x9_2.length co94) x9_2) := ⟨z7_8⟩; have n1_ : Aside0 (Kd.R k102 102 w170 w.heap.size (fun _ => True) (.slice Ao16 t263.length co16) t263) := ⟨z7_9⟩; have n2_ : Aside0 (Kd.R (Kd.int .i64) 3 w170 w.heap.size (fun _ => True) v267 t266) := ⟨z7_10⟩; have n3_ : Aside0 (w170.heap[gb258]? = some (.cells #[.int .i64 0, .int .i64 0, .int .i64 0, .int .i64 0] 70 (0, 0))) := ⟨z7_34⟩; have n4_ : Aside0 (w170.heap[gb259]? = some (.cells #[.int .i64 ad, .int .i64 ae, .int .i64 af, .int .i64 ag] 70 (0, 0))) := ⟨z7_35⟩; have n5_ : Aside0 (w170.heap[gb269]? = some (.cells #[.slice Ao16 t263.length co16, v267] 81 (0, 0))) := ⟨z7_36⟩; have n6_ : Aside0 (w170.heap[gb323]? = some (.cells #[.int .i64 ((rd_T131 x9_2 x130_3).f0.f0), .int .i64 ((rd_T131 x9_2 x130_3).f0.f1), .int .i64 ((rd_T131 x9_2 x130_3).f0.f2), .int .i64 ((rd_T131 x9_2 x130_3).f0.f3), .int .i64 ((rd_T131 x9_2 x130_3).f1)] 131 (0, 0))) := ⟨(by rw [hw]; exact (bZ BK323.out))⟩; have n7_ : Aside0 (Below w.heap.size w w170) := ⟨(by rw [hw]; exact z7_5)⟩; clear hw; clear HO_128; clear aa; clear ab; clear BK258; clear BK259; clear BK269; clear BK323; clear HB; have HO_128 := n0_; have aa := n1_; have ab := n2_; have BK258 := n3_; have BK259 := n4_; have BK269 := n5_; have BK323 := n6_; have HB := n7_; clear n0_ n1_ n2_ n3_ n4_ n5_ n6_ n7_))
             replace HO_128 := Aside0.mk (Kd.R_drew HO_128.out)
             replace aa := Aside0.mk (Kd.R_drew aa.out)
             replace ab := Aside0.mk (Kd.R_drew ab.out)
             replace BK258 := Aside0.mk (blk_drew BK258.out)
             replace BK259 := Aside0.mk (blk_drew BK259.out)
             replace BK269 := Aside0.mk (blk_drew BK269.out)
             replace BK323 := Aside0.mk (blk_drew BK323.out)
             replace HB := Aside0.mk (below_drew1 HB.out)
             refine start_ (n := 7) (S := fun w' => w'.cell? ⟨gb323, 0, none⟩ = some (.int .i64 ((rd_T131 x9_2 x130_3).f0.f0)) ∧ w'.cell? ⟨gb323, 1, none⟩ = some (.int .i64 ((rd_T131 x9_2 x130_3).f0.f1)) ∧ w'.cell? ⟨gb323, 2, none⟩ = some (.int .i64 ((rd_T131 x9_2 x130_3).f0.f2)) ∧ w'.cell? ⟨gb323, 3, none⟩ = some (.int .i64 ((rd_T131 x9_2 x130_3).f0.f3)) ∧ w'.cell? ⟨gb323, 4, none⟩ = some (.int .i64 ((rd_T131 x9_2 x130_3).f1))) (ds := []) #[false, false, false, false, false, false, false] (by kernel_rfl) rfl rfl ⟨bA7 BK323 rfl, bA7 BK323 rfl, bA7 BK323 rfl, bA7 BK323 rfl, bA7 BK323 rfl⟩ (fun hHeld => ?_); generalize w170.drew = w171 at HO_128 aa ab BK258 BK259 BK269 BK323 HB hHeld ⊢; refine pure_ (i := 0) (N := some 134) (v := ?_) (a' := ?_) #[true, false, false, false, false, false, false] rfl rfl (by kernel_rfl) (fun _ _ _ h => h) (Or.inl ⟨by rfl, ?_⟩) ?_ ?_; rotate_left
             ·intro w'
              go_simp
              with_reducible rfl
             rotate_left
             ·simp only [Act.put, zs7, zc7, zd7, i64_w, i32_w]
              rfl
             refine pure_ (i := 3) (N := some 137) (v := ?_) (a' := ?_) #[true, false, false, true, false, false, false] rfl rfl (by kernel_rfl) (fun _ _ _ h => h) (Or.inl ⟨by rfl, ?_⟩) ?_ ?_; rotate_left
             ·intro w'
              go_simp
              with_reducible rfl
             rotate_left
             ·simp only [Act.put, zs7, zc7, zd7, i64_w, i32_w]
              rfl
             refine take_ (i := 1) (N := some 135) (v := ?_) (a' := ?_) #[true, true, false, true, false, false, false] rfl rfl (by kernel_rfl) (fun _ _ _ h => h) (Or.inl ⟨by rfl, ?_⟩) hHeld ?_ ?_; rotate_left
             ·rintro w' ⟨s0, s1, s2, s3, s4⟩
              go_simp
              with_reducible rfl
             rotate_left
             ·simp only [Act.put, zs7, zc7, zd7, i64_w, i32_w]
              rfl
             refine take_ (i := 4) (N := some 138) (v := ?_) (a' := ?_) #[true, true, false, true, true, false, false] rfl rfl (by kernel_rfl) (fun _ _ _ h => h) (Or.inl ⟨by rfl, ?_⟩) hHeld ?_ ?_; rotate_left
             ·rintro w' ⟨s0, s1, s2, s3, s4⟩
              go_simp
              with_reducible rfl
             rotate_left
             ·simp only [Act.put, zs7, zc7, zd7, i64_w, i32_w]
              rfl
             refine one_ (i := 2) (N := some 136) #[true, true, true, true, true, false, false] rfl rfl (by kernel_rfl) (by decide) (fun K hK => ?_); refine goes_ Try.func60 (by kernel_rfl) rfl #[.agg #[.int .i64 ((rd_T131 x9_2 x130_3).f0.f0), .int .i64 ((rd_T131 x9_2 x130_3).f0.f1), .int .i64 ((rd_T131 x9_2 x130_3).f0.f2), .int .i64 ((rd_T131 x9_2 x130_3).f0.f3)]] (by rfl) rfl rfl z7_2 ?_
             with_reducible refine (impl_vector_lead.calls ((rd_T131 x9_2 x130_3).f0.f0) ((rd_T131 x9_2 x130_3).f0.f1) ((rd_T131 x9_2 x130_3).f0.f2) ((rd_T131 x9_2 x130_3).f0.f3) (2 : Int) _ A131.out).mono ?_
             rintro e w172 ⟨rfl, hb⟩
             refine ⟨_, rfl, ?_⟩
             replace HO_128 := Aside0.mk (Kd.R_below z7_24 hb)
             replace aa := Aside0.mk (Kd.R_below z7_7 hb)
             replace ab := Aside0.mk (Kd.R_below z7_6 hb)
             replace BK258 := bBZ_ BK258 hb
             replace BK259 := bBZ_ BK259 hb
             replace BK269 := bBZ_ BK269 hb
             replace BK323 := bBZ_ BK323 hb
             replace HB := Aside0.mk (below_step z7_5 hb)
             (try clear hb); (try clear hb2); (try clear hk); (try clear hi); refine hK.out _ _ ⟨bA7 BK323 rfl, bA7 BK323 rfl, bA7 BK323 rfl, bA7 BK323 rfl, bA7 BK323 rfl⟩ (fun hHeld => ?_); clear hK K; refine nZ ?_; refine pure_ (i := 5) (N := some 139) (v := ?_) (a' := ?_) #[true, true, true, true, true, true, false] rfl rfl (by kernel_rfl) (fun _ _ _ h => h) (Or.inl ⟨by rfl, ?_⟩) ?_ ?_; rotate_left
             ·intro w'
              go_simp
              with_reducible rfl
             rotate_left
             ·simp only [Act.put, zs7, zc7, zd7, i64_w, i32_w]
              rfl
             refine one_ (i := 6) (N := none) #[true, true, true, true, true, true, true] rfl rfl (by kernel_rfl) (by decide) (fun K hK => ?_); have hs173 : w172.cell? ⟨gb259, 2, none⟩ = some (.int .i64 af) := bA7 BK259 rfl
             have hfs173 := blk_frozen BK259.out 2
             have hns173_0 := ap.out
             have hns173_2 := ao.out
             have hns173_3 := ac.out
             have hms173_0 := am.out
             have hms173_2 := an.out
             have hms173_3 := ah.out
             refine skip_ (w1 := ?_) (by rfl) rfl ?_ ?_; rotate_left
             ·go_simp
              rfl
             refine hK.out _ _ ⟨((cell_far (p := ⟨gb259, _, none⟩) ac.out _).trans (hHeld.1)), ((cell_far (p := ⟨gb259, _, none⟩) ac.out _).trans (hHeld.2.1)), ((cell_far (p := ⟨gb259, _, none⟩) ac.out _).trans (hHeld.2.2.1)), ((cell_far (p := ⟨gb259, _, none⟩) ac.out _).trans (hHeld.2.2.2.1)), ((cell_far (p := ⟨gb259, _, none⟩) ac.out _).trans (hHeld.2.2.2.2))⟩ (fun hHeld => ?_); clear hK K; refine done_ (by kernel_rfl) ?_
             try go_wp2
             go_roundg k3
             case measure => have := HK1.out; have := HK2.out; have := HK3.out; omega
             case rel => exact ⟨(wrap64 (x130_3 + 1)), (ad), (ae), ((rd_T131 x9_2 x130_3).f1), (ag), z7_21, H', ⟨z7_32⟩, ⟨by (try simp only [hl9_2]); (with_reducible repeat (first | apply Kd.R_alloc | apply Kd.R_drewN | apply Kd.R_drew)); exact Kd.R_mono (Kd.R_far (p := ⟨gb259, 2, none⟩) (Kd.R_types HO_128.out BK259.out (by decide)) (fun _ hk => hk.2) (.int .i64 ((rd_T131 x9_2 x130_3).f1))) (fun _ hk => trivial)⟩, ⟨by (try simp only [hl9_2]); (with_reducible repeat (first | apply Kd.R_alloc | apply Kd.R_drewN | apply Kd.R_drew)); exact Kd.R_mono (Kd.R_far (p := ⟨gb259, 2, none⟩) (Kd.R_types aa.out BK259.out (by decide)) (fun _ hk => hk.2) (.int .i64 ((rd_T131 x9_2 x130_3).f1))) (fun _ hk => trivial)⟩, ⟨by (try simp only [hl9_2]); (with_reducible repeat (first | apply Kd.R_alloc | apply Kd.R_drewN | apply Kd.R_drew)); exact Kd.R_mono (Kd.R_far (p := ⟨gb259, 2, none⟩) (Kd.R_types ab.out BK259.out (by decide)) (fun _ hk => hk.2) (.int .i64 ((rd_T131 x9_2 x130_3).f1))) (fun _ hk => trivial)⟩, ⟨z7_22⟩, ⟨by (try simp only [hl9_2]); (with_reducible repeat first|refine blk_drewN ?_ _|refine blk_drew ?_|refine blk_alloc ?_ _); refine blk_put (cs := #[.int .i64 ad, .int .i64 ae, .int .i64 af, .int .i64 ag]) ?_ 2 _ rfl; (with_reducible repeat first|refine blk_drewN ?_ _|refine blk_drew ?_|refine blk_alloc ?_ _); exact BK259.out⟩, ⟨z7_23⟩, ⟨z7_5⟩⟩
            ·rw [if_neg c160] at H
             clear c160; obtain ⟨c174, H⟩ := ifP H; subst c174
             have H' := Aside0.mk H
             clear H; have p322 : 0 ≤ (x130_3 : Int) := of_decide_eq_true z7_3; have q322 : x130_3 < (x9_2.length : Int) := of_decide_eq_true z7_3; obtain ⟨ad322, e322, hx322_0, hx322_1, hx322_2, hx322_3, hx322_4⟩ := at_T131 (Kd.R_reads' HO_128.out).2.2 x130_3 p322 q322; cases e322
             replace p322 := eq_true p322
             replace q322 := eq_true q322
             try go_wp2_with (first | ((with_reducible refine gate_dst (N := 20) rfl ?_); refine box_event ?hg (N := 20) ?hd (cs := #[.int .i64 0, .int .i64 0, .int .i64 0, .int .i64 0, .int .i64 0]) (t := 131) ?hr ?_; (case hd => rfl); (case hg => rfl); (case hr => first | (go_simp; done) | (go_simp; rfl)); intro gb323 hg w175 hbox hb; replace HO_128 := Aside0.mk (Kd.R_below (Kd.R_elderB z7_24 gb323 (Nat.le_of_eq hg.symm)) hb); replace aa := Aside0.mk (Kd.R_below z7_7 hb); replace ab := Aside0.mk (Kd.R_below z7_6 hb); have BK323 := Aside0.mk (hbox); have GW323 := Aside0.mk ((by rw [hg]; exact (below_size z7_1) : w.heap.size ≤ gb323)); have GE323 := Aside0.mk ((by rw [hg]; exact (below_size z7_1) : w.heap.size ≤ gb323)); replace HB := Aside0.mk (below_step z7_1 hb); have ai := Aside0.mk ((by rw [hg]; exact bLZ_ BK258 : gb258 ≠ gb323)); have aj := Aside0.mk ((by rw [hg]; exact bGZ_ BK258 : gb323 ≠ gb258)); replace BK258 := bBZ_ BK258 hb; have ah := Aside0.mk ((by rw [hg]; exact bLZ_ BK259 : gb259 ≠ gb323)); have ac := Aside0.mk ((by rw [hg]; exact bGZ_ BK259 : gb323 ≠ gb259)); replace BK259 := bBZ_ BK259 hb; have ak := Aside0.mk ((by rw [hg]; exact bLZ_ BK269 : gb269 ≠ gb323)); have al := Aside0.mk ((by rw [hg]; exact bGZ_ BK269 : gb323 ≠ gb269)); replace BK269 := bBZ_ BK269 hb; clear hb hbox hg; have hnb176 := aj.out; have hnc176 := ai.out; have hnb177 := ac.out; have hnc177 := ah.out; have hnb178 := al.out; have hnc178 := ak.out; obtain ⟨hcz179_0, hfz179_0, hcz180_1, hfz180_1, hcz181_2, hfz181_2, hcz182_3, hfz182_3, hcz183_4, hfz183_4⟩ := cAZ5_ BK323) | ((with_reducible refine gate_store (t := 131) (p := 20) rfl ?_); refine store_event (t := 131) (p := 20) (v := ?vo_w184) (w1 := (((((w175.setCell ⟨gb323, 0, none⟩ (.int .i64 ((rd_T131 x9_2 x130_3).f0.f0))).setCell ⟨gb323, 1, none⟩ (.int .i64 ((rd_T131 x9_2 x130_3).f0.f1))).setCell ⟨gb323, 2, none⟩ (.int .i64 ((rd_T131 x9_2 x130_3).f0.f2))).setCell ⟨gb323, 3, none⟩ (.int .i64 ((rd_T131 x9_2 x130_3).f0.f3))).setCell ⟨gb323, 4, none⟩ (.int .i64 ((rd_T131 x9_2 x130_3).f1)))) ?hg ?ho ?hn ?hr ?_; (case ho => rfl); (case hg => rfl); (case hn => rfl); (case hr => first | (go_simp; done) | (go_simp; rfl)); intro w184 hw; have n0_ : Aside0 (Kd.R k131 131 w184 w.heap.size (fun k_ => k_ ≠ gb323) (.slice (some ad322) x9_2.length co94) x9_2) := ⟨z7_8⟩; have n1_ : Aside0 (Kd.R k102 102 w184 w.heap.size (fun _ => True) (.slice Ao16 t263.length co16) t263) := ⟨z7_9⟩; have n2_ : Aside0 (Kd.R (Kd.int .i64) 3 w184 w.heap.size (fun _ => True) v267 t266) := ⟨z7_10⟩; have n3_ : Aside0 (w184.heap[gb258]? = some (.cells #[.int .i64 0, .int .i64 0, .int .i64 0, .int .i64 0] 70 (0, 0))) := ⟨z7_34⟩; have n4_ : Aside0 (w184.heap[gb259]? = some (.cells #[.int .i64 ad, .int .i64 ae, .int .i64 af, .int .i64 ag] 70 (0, 0))) := ⟨z7_35⟩; have n5_ : Aside0 (w184.heap[gb269]? = some (.cells #[.slice Ao16 t263.length co16, v267] 81 (0, 0))) := ⟨z7_36⟩; have n6_ : Aside0 (w184.heap[gb323]? = some (.cells #[.int .i64 ((rd_T131 x9_2 x130_3).f0.f0), .int .i64 ((rd_T131 x9_2 x130_3).f0.f1), .int .i64 ((rd_T131 x9_2 x130_3).f0.f2), .int .i64 ((rd_T131 x9_2 x130_3).f0.f3), .int .i64 ((rd_T131 x9_2 x130_3).f1)] 131 (0, 0))) := ⟨(by rw [hw]; exact (bZ BK323.out))⟩; have n7_ : Aside0 (Below w.heap.size w w184) := ⟨(by rw [hw]; exact z7_5)⟩; clear hw; clear HO_128; clear aa; clear ab; clear BK258; clear BK259; clear BK269; clear BK323; clear HB; have HO_128 := n0_; have aa := n1_; have ab := n2_; have BK258 := n3_; have BK259 := n4_; have BK269 := n5_; have BK323 := n6_; have HB := n7_; clear n0_ n1_ n2_ n3_ n4_ n5_ n6_ n7_))
             replace HO_128 := Aside0.mk (Kd.R_drew HO_128.out)
             replace aa := Aside0.mk (Kd.R_drew aa.out)
             replace ab := Aside0.mk (Kd.R_drew ab.out)
             replace BK258 := Aside0.mk (blk_drew BK258.out)
             replace BK259 := Aside0.mk (blk_drew BK259.out)
             replace BK269 := Aside0.mk (blk_drew BK269.out)
             replace BK323 := Aside0.mk (blk_drew BK323.out)
             replace HB := Aside0.mk (below_drew1 HB.out)
             refine start_ (n := 7) (S := fun w' => w'.cell? ⟨gb323, 0, none⟩ = some (.int .i64 ((rd_T131 x9_2 x130_3).f0.f0)) ∧ w'.cell? ⟨gb323, 1, none⟩ = some (.int .i64 ((rd_T131 x9_2 x130_3).f0.f1)) ∧ w'.cell? ⟨gb323, 2, none⟩ = some (.int .i64 ((rd_T131 x9_2 x130_3).f0.f2)) ∧ w'.cell? ⟨gb323, 3, none⟩ = some (.int .i64 ((rd_T131 x9_2 x130_3).f0.f3)) ∧ w'.cell? ⟨gb323, 4, none⟩ = some (.int .i64 ((rd_T131 x9_2 x130_3).f1))) (ds := []) #[false, false, false, false, false, false, false] (by kernel_rfl) rfl rfl ⟨bA7 BK323 rfl, bA7 BK323 rfl, bA7 BK323 rfl, bA7 BK323 rfl, bA7 BK323 rfl⟩ (fun hHeld => ?_); generalize w184.drew = w185 at HO_128 aa ab BK258 BK259 BK269 BK323 HB hHeld ⊢; refine pure_ (i := 0) (N := some 134) (v := ?_) (a' := ?_) #[true, false, false, false, false, false, false] rfl rfl (by kernel_rfl) (fun _ _ _ h => h) (Or.inl ⟨by rfl, ?_⟩) ?_ ?_; rotate_left
             ·intro w'
              go_simp
              with_reducible rfl
             rotate_left
             ·simp only [Act.put, zs7, zc7, zd7, i64_w, i32_w]
              rfl
             refine pure_ (i := 3) (N := some 137) (v := ?_) (a' := ?_) #[true, false, false, true, false, false, false] rfl rfl (by kernel_rfl) (fun _ _ _ h => h) (Or.inl ⟨by rfl, ?_⟩) ?_ ?_; rotate_left
             ·intro w'
              go_simp
              with_reducible rfl
             rotate_left
             ·simp only [Act.put, zs7, zc7, zd7, i64_w, i32_w]
              rfl
             refine take_ (i := 1) (N := some 135) (v := ?_) (a' := ?_) #[true, true, false, true, false, false, false] rfl rfl (by kernel_rfl) (fun _ _ _ h => h) (Or.inl ⟨by rfl, ?_⟩) hHeld ?_ ?_; rotate_left
             ·rintro w' ⟨s0, s1, s2, s3, s4⟩
              go_simp
              with_reducible rfl
             rotate_left
             ·simp only [Act.put, zs7, zc7, zd7, i64_w, i32_w]
              rfl
             refine take_ (i := 4) (N := some 138) (v := ?_) (a' := ?_) #[true, true, false, true, true, false, false] rfl rfl (by kernel_rfl) (fun _ _ _ h => h) (Or.inl ⟨by rfl, ?_⟩) hHeld ?_ ?_; rotate_left
             ·rintro w' ⟨s0, s1, s2, s3, s4⟩
              go_simp
              with_reducible rfl
             rotate_left
             ·simp only [Act.put, zs7, zc7, zd7, i64_w, i32_w]
              rfl
             refine one_ (i := 2) (N := some 136) #[true, true, true, true, true, false, false] rfl rfl (by kernel_rfl) (by decide) (fun K hK => ?_); refine goes_ Try.func60 (by kernel_rfl) rfl #[.agg #[.int .i64 ((rd_T131 x9_2 x130_3).f0.f0), .int .i64 ((rd_T131 x9_2 x130_3).f0.f1), .int .i64 ((rd_T131 x9_2 x130_3).f0.f2), .int .i64 ((rd_T131 x9_2 x130_3).f0.f3)]] (by rfl) rfl rfl z7_2 ?_
             with_reducible refine (impl_vector_lead.calls ((rd_T131 x9_2 x130_3).f0.f0) ((rd_T131 x9_2 x130_3).f0.f1) ((rd_T131 x9_2 x130_3).f0.f2) ((rd_T131 x9_2 x130_3).f0.f3) (3 : Int) _ A131.out).mono ?_
             rintro e w186 ⟨rfl, hb⟩
             refine ⟨_, rfl, ?_⟩
             replace HO_128 := Aside0.mk (Kd.R_below z7_24 hb)
             replace aa := Aside0.mk (Kd.R_below z7_7 hb)
             replace ab := Aside0.mk (Kd.R_below z7_6 hb)
             replace BK258 := bBZ_ BK258 hb
             replace BK259 := bBZ_ BK259 hb
             replace BK269 := bBZ_ BK269 hb
             replace BK323 := bBZ_ BK323 hb
             replace HB := Aside0.mk (below_step z7_5 hb)
             (try clear hb); (try clear hb2); (try clear hk); (try clear hi); refine hK.out _ _ ⟨bA7 BK323 rfl, bA7 BK323 rfl, bA7 BK323 rfl, bA7 BK323 rfl, bA7 BK323 rfl⟩ (fun hHeld => ?_); clear hK K; refine nZ ?_; refine pure_ (i := 5) (N := some 139) (v := ?_) (a' := ?_) #[true, true, true, true, true, true, false] rfl rfl (by kernel_rfl) (fun _ _ _ h => h) (Or.inl ⟨by rfl, ?_⟩) ?_ ?_; rotate_left
             ·intro w'
              go_simp
              with_reducible rfl
             rotate_left
             ·simp only [Act.put, zs7, zc7, zd7, i64_w, i32_w]
              rfl
             refine one_ (i := 6) (N := none) #[true, true, true, true, true, true, true] rfl rfl (by kernel_rfl) (by decide) (fun K hK => ?_); have hs187 : w186.cell? ⟨gb259, 3, none⟩ = some (.int .i64 ag) := bA7 BK259 rfl
             have hfs187 := blk_frozen BK259.out 3
             have hns187_0 := ap.out
             have hns187_2 := ao.out
             have hns187_3 := ac.out
             have hms187_0 := am.out
             have hms187_2 := an.out
             have hms187_3 := ah.out
             refine skip_ (w1 := ?_) (by rfl) rfl ?_ ?_; rotate_left
             ·go_simp
              rfl
             refine hK.out _ _ ⟨((cell_far (p := ⟨gb259, _, none⟩) ac.out _).trans (hHeld.1)), ((cell_far (p := ⟨gb259, _, none⟩) ac.out _).trans (hHeld.2.1)), ((cell_far (p := ⟨gb259, _, none⟩) ac.out _).trans (hHeld.2.2.1)), ((cell_far (p := ⟨gb259, _, none⟩) ac.out _).trans (hHeld.2.2.2.1)), ((cell_far (p := ⟨gb259, _, none⟩) ac.out _).trans (hHeld.2.2.2.2))⟩ (fun hHeld => ?_); clear hK K; refine done_ (by kernel_rfl) ?_
             try go_wp2
             go_roundg k3
             case measure => have := HK1.out; have := HK2.out; have := HK3.out; omega
             case rel => exact ⟨(wrap64 (x130_3 + 1)), (ad), (ae), (af), ((rd_T131 x9_2 x130_3).f1), z7_21, H', ⟨z7_32⟩, ⟨by (try simp only [hl9_2]); (with_reducible repeat (first | apply Kd.R_alloc | apply Kd.R_drewN | apply Kd.R_drew)); exact Kd.R_mono (Kd.R_far (p := ⟨gb259, 3, none⟩) (Kd.R_types HO_128.out BK259.out (by decide)) (fun _ hk => hk.2) (.int .i64 ((rd_T131 x9_2 x130_3).f1))) (fun _ hk => trivial)⟩, ⟨by (try simp only [hl9_2]); (with_reducible repeat (first | apply Kd.R_alloc | apply Kd.R_drewN | apply Kd.R_drew)); exact Kd.R_mono (Kd.R_far (p := ⟨gb259, 3, none⟩) (Kd.R_types aa.out BK259.out (by decide)) (fun _ hk => hk.2) (.int .i64 ((rd_T131 x9_2 x130_3).f1))) (fun _ hk => trivial)⟩, ⟨by (try simp only [hl9_2]); (with_reducible repeat (first | apply Kd.R_alloc | apply Kd.R_drewN | apply Kd.R_drew)); exact Kd.R_mono (Kd.R_far (p := ⟨gb259, 3, none⟩) (Kd.R_types ab.out BK259.out (by decide)) (fun _ hk => hk.2) (.int .i64 ((rd_T131 x9_2 x130_3).f1))) (fun _ hk => trivial)⟩, ⟨z7_22⟩, ⟨by (try simp only [hl9_2]); (with_reducible repeat first|refine blk_drewN ?_ _|refine blk_drew ?_|refine blk_alloc ?_ _); refine blk_put (cs := #[.int .i64 ad, .int .i64 ae, .int .i64 af, .int .i64 ag]) ?_ 3 _ rfl; (with_reducible repeat first|refine blk_drewN ?_ _|refine blk_drew ?_|refine blk_alloc ?_ _); exact BK259.out⟩, ⟨z7_23⟩, ⟨z7_5⟩⟩
         ·rw [if_neg c128] at H
          have c128b0 : decide (x130_3 < (x9_2.length : Int)) = false := decide_eq_false c128
          have c128b0' := c128b0; (try simp only [hl9_2] at c128b0'); (try simp only [hl9_3] at c128b0')
          clear c128; simp only [Option.some.injEq, Prod.mk.injEq] at H; obtain ⟨rfl, rfl, rfl, rfl⟩ := H
          have hnb188 := am.out
          have hnc188 := ap.out
          have hnb189 := an.out
          have hnc189 := ao.out
          have hcz190_0 : wr.cell? ⟨gb259, 0, none⟩ = some (.int .i64 ad) := bA7 BK259 rfl; have hcz190_1 : wr.cell? ⟨gb259, 1, none⟩ = some (.int .i64 ae) := bA7 BK259 rfl; have hcz190_2 : wr.cell? ⟨gb259, 2, none⟩ = some (.int .i64 af) := bA7 BK259 rfl; have hcz190_3 : wr.cell? ⟨gb259, 3, none⟩ = some (.int .i64 ag) := bA7 BK259 rfl
          have hfz190_0 := blk_frozen BK259.out 0
          have hfz190_1 := blk_frozen BK259.out 1
          have hfz190_2 := blk_frozen BK259.out 2
          have hfz190_3 := blk_frozen BK259.out 3
          have hnb191 := aG.out
          have hnc191 := aq.out
          obtain ⟨hcz192_0, hfz192_0, hcz193_1, hfz193_1, hcz194_2, hfz194_2, hcz195_3, hfz195_3⟩ := cAZ4_ BK258
          go_wp2_with (first | ((with_reducible refine gate_store (t := 70) (p := 6) rfl ?_); refine store_event (t := 70) (p := 6) (v := ?vo_w196) (w1 := ((((wr.setCell ⟨gb258, 0, none⟩ (.int .i64 ad)).setCell ⟨gb258, 1, none⟩ (.int .i64 ae)).setCell ⟨gb258, 2, none⟩ (.int .i64 af)).setCell ⟨gb258, 3, none⟩ (.int .i64 ag))) ?hg ?ho ?hn ?hr ?_; (case ho => rfl); (case hg => rfl); (case hn => rfl); (case hr => first | (go_simp; done) | (go_simp; rfl)); intro w196 hw; have n0_ : Aside0 (Kd.R k131 131 w196 w.heap.size (fun _ => True) (.slice Ao94 x9_2.length co94) x9_2) := ⟨(by rw [hw]; exact (by (with_reducible repeat (first | apply Kd.R_alloc | apply Kd.R_drewN | apply Kd.R_drew)); exact Kd.R_mono (Kd.R_far (p := ⟨gb258, 3, none⟩) (Kd.R_far (p := ⟨gb258, 2, none⟩) (Kd.R_far (p := ⟨gb258, 1, none⟩) (Kd.R_far (p := ⟨gb258, 0, none⟩) (Kd.R_types HO_128.out BK258.out (by decide)) (fun _ hk => hk.2) (.int .i64 ad)) (fun _ hk => hk.2) (.int .i64 ae)) (fun _ hk => hk.2) (.int .i64 af)) (fun _ hk => hk.2) (.int .i64 ag)) (fun _ hk => trivial)))⟩; have n1_ : Aside0 (Kd.R k102 102 w196 w.heap.size (fun _ => True) (.slice Ao16 t263.length co16) t263) := ⟨(by rw [hw]; exact (by (with_reducible repeat (first | apply Kd.R_alloc | apply Kd.R_drewN | apply Kd.R_drew)); exact Kd.R_mono (Kd.R_far (p := ⟨gb258, 3, none⟩) (Kd.R_far (p := ⟨gb258, 2, none⟩) (Kd.R_far (p := ⟨gb258, 1, none⟩) (Kd.R_far (p := ⟨gb258, 0, none⟩) (Kd.R_types aa.out BK258.out (by decide)) (fun _ hk => hk.2) (.int .i64 ad)) (fun _ hk => hk.2) (.int .i64 ae)) (fun _ hk => hk.2) (.int .i64 af)) (fun _ hk => hk.2) (.int .i64 ag)) (fun _ hk => trivial)))⟩; have n2_ : Aside0 (Kd.R (Kd.int .i64) 3 w196 w.heap.size (fun _ => True) v267 t266) := ⟨(by rw [hw]; exact (by (with_reducible repeat (first | apply Kd.R_alloc | apply Kd.R_drewN | apply Kd.R_drew)); exact Kd.R_mono (Kd.R_far (p := ⟨gb258, 3, none⟩) (Kd.R_far (p := ⟨gb258, 2, none⟩) (Kd.R_far (p := ⟨gb258, 1, none⟩) (Kd.R_far (p := ⟨gb258, 0, none⟩) (Kd.R_types ab.out BK258.out (by decide)) (fun _ hk => hk.2) (.int .i64 ad)) (fun _ hk => hk.2) (.int .i64 ae)) (fun _ hk => hk.2) (.int .i64 af)) (fun _ hk => hk.2) (.int .i64 ag)) (fun _ hk => trivial)))⟩; have n3_ : Aside0 (w196.heap[gb258]? = some (.cells #[.int .i64 ad, .int .i64 ae, .int .i64 af, .int .i64 ag] 70 (0, 0))) := ⟨(by rw [hw]; exact (bZ BK258.out))⟩; have n4_ : Aside0 (w196.heap[gb259]? = some (.cells #[.int .i64 ad, .int .i64 ae, .int .i64 af, .int .i64 ag] 70 (0, 0))) := ⟨(by rw [hw]; exact (gZ am.out BK259.out))⟩; have n5_ : Aside0 (w196.heap[gb269]? = some (.cells #[.slice Ao16 t263.length co16, v267] 81 (0, 0))) := ⟨(by rw [hw]; exact (gZ aq.out BK269.out))⟩; have n6_ : Aside0 (Below w.heap.size w w196) := ⟨(by rw [hw]; exact z7_1)⟩; clear hw; clear HO_128; clear aa; clear ab; clear BK258; clear BK259; clear BK269; clear HB; have HO_128 := n0_; have aa := n1_; have ab := n2_; have BK258 := n3_; have BK259 := n4_; have BK269 := n5_; have HB := n6_; clear n0_ n1_ n2_ n3_ n4_ n5_ n6_))
          refine bodyPost_ret (results_cell_row rfl _ _ gb258 70 #[.int .i64 ad, .int .i64 ae, .int .i64 af, .int .i64 ag] (0, 0) _ rfl (zL7 BK258.out) Try.underlying70 rfl (by kernel_rfl)) rfl ?_; exact ⟨by first | rfl | (simp [errW_none, errW_some] <;> rfl) | (simp [*, errW_none, errW_some] <;> rfl), z7_1⟩

end Go.Proofs.Ytamaejafddmagaa.PA
