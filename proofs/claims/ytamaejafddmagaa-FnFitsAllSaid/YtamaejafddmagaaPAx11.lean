-- Written by a program of this session (after the manner of the kit's print, several laws in one text).
import Derived.Test.YtamaejafddmagaaHk
import Derived.Test.YtamaejafddmagaaPAx0
import Derived.Test.YtamaejafddmagaaPAx8
import Derived.Test.YtamaejafddmagaaPAx9
import Derived.Test.YtamaejafddmagaaPAx10
import Derived.Test.YtamaejafddmagaaGw
import Derived.Test.YtamaejafddmagaaGm
import Derived.Test.YtamaejafddmagaaGc
namespace Go.Proofs.Ytamaejafddmagaa.PA
open Go.RowKit Go.Proofs.YtamaejafddmagaaW.PrintWords Go.Proofs.YtamaejafddmagaaW.PrintLast Go.Proofs.YtamaejafddmagaaW.PrintMore
attribute [local go_sem] max2_int min2_int max_two min_two max_three min_three max_four min_four   -- for this text's walks alone
set_option linter.unusedVariables false
set_option linter.unusedSimpArgs false

/-! ### impl_spanOf: function 65 -/
theorem zL11 {p q : Prop} (h : q) (t : q → p := by intro h_; (with_reducible repeat first|refine blk_drewN ?_ _|refine blk_drew ?_|refine blk_alloc ?_ _); exact h_) : p := t h
theorem z11_1 {p : Prop} (h : p := by repeat (first | (with_reducible first | exact HB.out | apply below_alloc | apply pw_below_drewN | apply below_drew1 | refine below_set ?_ GE336.out | refine below_set ?_ GE338.out | refine below_set ?_ GE339.out) | exact HB.out)) : p := h
theorem z11_2 {p : Prop} (h : p := by (with_reducible repeat first|refine blk_drewN ?_ _|refine blk_drew ?_|refine blk_alloc ?_ _); refine blk_far ?_ ae.out _; (with_reducible repeat first|refine blk_drewN ?_ _|refine blk_drew ?_|refine blk_alloc ?_ _); exact BK336.out) : p := h
theorem z11_3 {p : Prop} (h : p := by (with_reducible repeat first|refine blk_drewN ?_ _|refine blk_drew ?_|refine blk_alloc ?_ _); refine blk_far ?_ af.out _; (with_reducible repeat first|refine blk_drewN ?_ _|refine blk_drew ?_|refine blk_alloc ?_ _); exact BK338.out) : p := h
theorem z11_4 {p : Prop} (h : p := by rw [hw]; exact (by (with_reducible repeat first|refine blk_drewN ?_ _|refine blk_drew ?_|refine blk_alloc ?_ _); refine blk_far ?_ ae.out _; (with_reducible repeat first|refine blk_drewN ?_ _|refine blk_drew ?_|refine blk_alloc ?_ _); refine blk_far ?_ ae.out _; (with_reducible repeat first|refine blk_drewN ?_ _|refine blk_drew ?_|refine blk_alloc ?_ _); refine blk_far ?_ ae.out _; (with_reducible repeat first|refine blk_drewN ?_ _|refine blk_drew ?_|refine blk_alloc ?_ _); refine blk_far ?_ ae.out _; (with_reducible repeat first|refine blk_drewN ?_ _|refine blk_drew ?_|refine blk_alloc ?_ _); refine blk_far ?_ ae.out _; (with_reducible repeat first|refine blk_drewN ?_ _|refine blk_drew ?_|refine blk_alloc ?_ _); refine blk_far ?_ ae.out _; (with_reducible repeat first|refine blk_drewN ?_ _|refine blk_drew ?_|refine blk_alloc ?_ _); refine blk_far ?_ ae.out _; (with_reducible repeat first|refine blk_drewN ?_ _|refine blk_drew ?_|refine blk_alloc ?_ _); refine blk_far ?_ ae.out _; (with_reducible repeat first|refine blk_drewN ?_ _|refine blk_drew ?_|refine blk_alloc ?_ _); refine blk_far ?_ ae.out _; (with_reducible repeat first|refine blk_drewN ?_ _|refine blk_drew ?_|refine blk_alloc ?_ _); refine blk_far ?_ ae.out _; (with_reducible repeat first|refine blk_drewN ?_ _|refine blk_drew ?_|refine blk_alloc ?_ _); refine blk_far ?_ ae.out _; (with_reducible repeat first|refine blk_drewN ?_ _|refine blk_drew ?_|refine blk_alloc ?_ _); refine blk_far ?_ ae.out _; (with_reducible repeat first|refine blk_drewN ?_ _|refine blk_drew ?_|refine blk_alloc ?_ _); exact BK336.out)) : p := h
theorem z11_5 {p : Prop} (h : p := by rw [hw]; exact (by (with_reducible repeat first|refine blk_drewN ?_ _|refine blk_drew ?_|refine blk_alloc ?_ _); refine blk_far ?_ af.out _; (with_reducible repeat first|refine blk_drewN ?_ _|refine blk_drew ?_|refine blk_alloc ?_ _); refine blk_far ?_ af.out _; (with_reducible repeat first|refine blk_drewN ?_ _|refine blk_drew ?_|refine blk_alloc ?_ _); refine blk_far ?_ af.out _; (with_reducible repeat first|refine blk_drewN ?_ _|refine blk_drew ?_|refine blk_alloc ?_ _); refine blk_far ?_ af.out _; (with_reducible repeat first|refine blk_drewN ?_ _|refine blk_drew ?_|refine blk_alloc ?_ _); refine blk_far ?_ af.out _; (with_reducible repeat first|refine blk_drewN ?_ _|refine blk_drew ?_|refine blk_alloc ?_ _); refine blk_far ?_ af.out _; (with_reducible repeat first|refine blk_drewN ?_ _|refine blk_drew ?_|refine blk_alloc ?_ _); refine blk_far ?_ af.out _; (with_reducible repeat first|refine blk_drewN ?_ _|refine blk_drew ?_|refine blk_alloc ?_ _); refine blk_far ?_ af.out _; (with_reducible repeat first|refine blk_drewN ?_ _|refine blk_drew ?_|refine blk_alloc ?_ _); refine blk_far ?_ af.out _; (with_reducible repeat first|refine blk_drewN ?_ _|refine blk_drew ?_|refine blk_alloc ?_ _); refine blk_far ?_ af.out _; (with_reducible repeat first|refine blk_drewN ?_ _|refine blk_drew ?_|refine blk_alloc ?_ _); refine blk_far ?_ af.out _; (with_reducible repeat first|refine blk_drewN ?_ _|refine blk_drew ?_|refine blk_alloc ?_ _); refine blk_far ?_ af.out _; (with_reducible repeat first|refine blk_drewN ?_ _|refine blk_drew ?_|refine blk_alloc ?_ _); exact BK338.out)) : p := h
theorem z11_6 {p : Prop} (h : p := by (with_reducible repeat (first | apply Kd.R_alloc | apply Kd.R_drewN | apply Kd.R_drew)); exact ab.out) : p := h
theorem z11_7 {p : Prop} (h : p := by (with_reducible repeat (first | apply Kd.R_alloc | apply Kd.R_drewN | apply Kd.R_drew)); exact aa.out) : p := h
theorem z11_8 {p : Prop} (h : p := by (try simp only [List.map_toArray, List.map_cons, List.map_nil]); first | done | rfl | (simp only [List.length_drop, List.length_take]; rfl)) : p := h
theorem z11_9 {p : Prop} (h : p := by rw [hw]; exact (by (with_reducible repeat (first | apply Kd.R_alloc | apply Kd.R_drewN | apply Kd.R_drew)); exact Kd.R_mono (Kd.R_far (p := ⟨gb339, 11, none⟩) (Kd.R_far (p := ⟨gb339, 10, none⟩) (Kd.R_far (p := ⟨gb339, 9, none⟩) (Kd.R_far (p := ⟨gb339, 8, none⟩) (Kd.R_far (p := ⟨gb339, 7, none⟩) (Kd.R_far (p := ⟨gb339, 6, none⟩) (Kd.R_far (p := ⟨gb339, 5, none⟩) (Kd.R_far (p := ⟨gb339, 4, none⟩) (Kd.R_far (p := ⟨gb339, 3, none⟩) (Kd.R_far (p := ⟨gb339, 2, none⟩) (Kd.R_far (p := ⟨gb339, 1, none⟩) (Kd.R_far (p := ⟨gb339, 0, none⟩) (Kd.R_mono ab.out (fun k_ hk => (⟨hk, hk⟩ : _ ∧ k_ ≠ gb339))) (fun _ hk => hk.2) (.int .i64 t340)) (fun _ hk => hk.2) (.int .i64 t341)) (fun _ hk => hk.2) (.int .i64 t342)) (fun _ hk => hk.2) (.int .i64 t343)) (fun _ hk => hk.2) (.int .i64 t344)) (fun _ hk => hk.2) (.int .i64 t345)) (fun _ hk => hk.2) (.int .i64 t346)) (fun _ hk => hk.2) (.int .i64 t347)) (fun _ hk => hk.2) (.int .i64 t348)) (fun _ hk => hk.2) (.int .i64 t349)) (fun _ hk => hk.2) (.int .i64 t350)) (fun _ hk => hk.2) (.int .i64 t351)) (fun _ hk => hk.1))) : p := h
theorem z11_10 {p : Prop} (h : p := by rw [hw]; exact (by (with_reducible repeat (first | apply Kd.R_alloc | apply Kd.R_drewN | apply Kd.R_drew)); exact Kd.R_mono (Kd.R_far (p := ⟨gb339, 11, none⟩) (Kd.R_far (p := ⟨gb339, 10, none⟩) (Kd.R_far (p := ⟨gb339, 9, none⟩) (Kd.R_far (p := ⟨gb339, 8, none⟩) (Kd.R_far (p := ⟨gb339, 7, none⟩) (Kd.R_far (p := ⟨gb339, 6, none⟩) (Kd.R_far (p := ⟨gb339, 5, none⟩) (Kd.R_far (p := ⟨gb339, 4, none⟩) (Kd.R_far (p := ⟨gb339, 3, none⟩) (Kd.R_far (p := ⟨gb339, 2, none⟩) (Kd.R_far (p := ⟨gb339, 1, none⟩) (Kd.R_far (p := ⟨gb339, 0, none⟩) (Kd.R_types aa.out BK339.out (by decide)) (fun _ hk => hk.2) (.int .i64 t340)) (fun _ hk => hk.2) (.int .i64 t341)) (fun _ hk => hk.2) (.int .i64 t342)) (fun _ hk => hk.2) (.int .i64 t343)) (fun _ hk => hk.2) (.int .i64 t344)) (fun _ hk => hk.2) (.int .i64 t345)) (fun _ hk => hk.2) (.int .i64 t346)) (fun _ hk => hk.2) (.int .i64 t347)) (fun _ hk => hk.2) (.int .i64 t348)) (fun _ hk => hk.2) (.int .i64 t349)) (fun _ hk => hk.2) (.int .i64 t350)) (fun _ hk => hk.2) (.int .i64 t351)) (fun _ hk => trivial))) : p := h
theorem z11_11 {p : Prop} (h : p := by repeat (first | (with_reducible first | exact HB.out | apply below_alloc | apply pw_below_drewN | apply below_drew1 | refine below_set ?_ GE336.out) | exact HB.out)) : p := h
theorem z11_12 {p : Prop} (h : p := by repeat (first | (with_reducible first | exact HB.out | apply below_alloc | apply pw_below_drewN | apply below_drew1 | refine below_set ?_ GE336.out | refine below_set ?_ GE338.out) | exact HB.out)) : p := h
theorem z11_13 {p : Prop} (h : p := by have := HK1.out; have := HJ5.out; have := HJ84.out; have := HK4.out; omega) : p := h
theorem z11_14 {p : Prop} (h : p := by first | rfl | (simp; done) | (simp [*]; done) | (simp; unfold wrap64; omega)) : p := h
theorem z11_15 {p : Prop} (h : p := by have := HK1.out; first | omega | exact Nat.le_refl _) : p := h
theorem z11_16 {p : Prop} (h : p := by first | rfl | (simp; done) | (simp [*]; done)) : p := h
theorem z11_17 {p : Prop} (h : p := by repeat (first | (with_reducible first | exact HB.out | apply below_alloc | apply pw_below_drewN | apply below_drew1) | exact HB.out)) : p := h
theorem z11_18 {p : Prop} (h : p := by rw [← hq_]; exact (zL11 BK336.out)) : p := h
theorem z11_19 {p : Prop} (h : p := by rw [← hq_]; exact (zL11 BK338.out)) : p := h
theorem z11_20 {p : Prop} (h : p := by rw [← hq_]; exact (zL11 BK339.out)) : p := h
theorem z11_21 {p : Prop} (h : p := by have := HK1.out; have := HJ5.out; first | omega | exact Nat.le_refl _) : p := h
theorem z11_22 {p : Prop} (h : p := by rw [← hq_]; exact z11_6) : p := h
theorem z11_23 {p : Prop} (h : p := by rw [← hq_]; exact z11_7) : p := h
theorem z11_24 {p : Prop} (h : p := by rw [← hq_]; exact z11_1) : p := h
theorem z11_25 {p : Prop} (h : p := by first | exact Kd.R_nil _ _ _ _ _ | exact Kd.N_nil _ _ _ _ _ | exact Kd.V_nil _ _ _ _ _ | exact Kd.Q_nil _ _ _ _ _ | exact Kd.S_nil _ _ _ _ _) : p := h
mutual
def impl_spanOf.l0 : Nat → List (S70) → Int → Int → List (S102) → List Int → Option ((List (S102)) × List Int)
  | 0, _, _, _, _, _ => none
  | k + 1, x12, x13, x14, x337000, x337001 => if x14 < x13 then (if 0 ≤ x14 then (if x14 < (x12.length : Int) then (if x14 = 0 then (impl_spanOf.j1 k x14 x12 x13 x14 x337000 x337001 ((rd_T70 x12 x14).f0) ((rd_T70 x12 x14).f1) ((rd_T70 x12 x14).f2) ((rd_T70 x12 x14).f3) 1 0 0 0 0 0 0 0) else (if x14 = 1 then (impl_spanOf.j1 k x14 x12 x13 x14 x337000 x337001 ((rd_T70 x12 x14).f0) ((rd_T70 x12 x14).f1) ((rd_T70 x12 x14).f2) ((rd_T70 x12 x14).f3) 0 1 0 0 0 0 0 0) else (if x14 = 2 then (impl_spanOf.j1 k x14 x12 x13 x14 x337000 x337001 ((rd_T70 x12 x14).f0) ((rd_T70 x12 x14).f1) ((rd_T70 x12 x14).f2) ((rd_T70 x12 x14).f3) 0 0 1 0 0 0 0 0) else (if x14 = 3 then (impl_spanOf.j1 k x14 x12 x13 x14 x337000 x337001 ((rd_T70 x12 x14).f0) ((rd_T70 x12 x14).f1) ((rd_T70 x12 x14).f2) ((rd_T70 x12 x14).f3) 0 0 0 1 0 0 0 0) else (if x14 = 4 then (impl_spanOf.j1 k x14 x12 x13 x14 x337000 x337001 ((rd_T70 x12 x14).f0) ((rd_T70 x12 x14).f1) ((rd_T70 x12 x14).f2) ((rd_T70 x12 x14).f3) 0 0 0 0 1 0 0 0) else (if x14 = 5 then (impl_spanOf.j1 k x14 x12 x13 x14 x337000 x337001 ((rd_T70 x12 x14).f0) ((rd_T70 x12 x14).f1) ((rd_T70 x12 x14).f2) ((rd_T70 x12 x14).f3) 0 0 0 0 0 1 0 0) else (if x14 = 6 then (impl_spanOf.j1 k x14 x12 x13 x14 x337000 x337001 ((rd_T70 x12 x14).f0) ((rd_T70 x12 x14).f1) ((rd_T70 x12 x14).f2) ((rd_T70 x12 x14).f3) 0 0 0 0 0 0 1 0) else (if x14 = 7 then (impl_spanOf.j1 k x14 x12 x13 x14 x337000 x337001 ((rd_T70 x12 x14).f0) ((rd_T70 x12 x14).f1) ((rd_T70 x12 x14).f2) ((rd_T70 x12 x14).f3) 0 0 0 0 0 0 0 1) else (none))))))))) else (none)) else (none)) else (some (x337000, x337001))
def impl_spanOf.j1 : Nat → Int → List (S70) → Int → Int → List (S102) → List Int → Int → Int → Int → Int → Int → Int → Int → Int → Int → Int → Int → Int → Option ((List (S102)) × List Int)
  | 0, _, _, _, _, _, _, _, _, _, _, _, _, _, _, _, _, _, _ => none
  | k + 1, x4, x12, x13, x14, x337000, x337001, x340000, x340001, x340002, x340003, x340004, x340005, x340006, x340007, x340008, x340009, x340010, x340011 => (impl_span_less.f k x337000 x337001 x340000 x340001 x340002 x340003 x340004 x340005 x340006 x340007 x340008 x340009 x340010 x340011).bind fun bt340 => ((impl_vector_lead.f bt340.1 bt340.2.1 bt340.2.2.1 bt340.2.2.2.1).bind fun t352 => (if t352 < 0 then (impl_spanOf.l0 k x12 x13 (wrap64 (x14 + 1)) x337000 x337001) else (if t352 = 0 then ((impl_element_inverse.f k bt340.1).bind fun t353 => (impl_spanOf.j2 k x4 t353 x12 x13 x14 x337000 x337001 bt340.1 bt340.2.1 bt340.2.2.1 bt340.2.2.2.1 bt340.2.2.2.2.1 bt340.2.2.2.2.2.1 bt340.2.2.2.2.2.2.1 bt340.2.2.2.2.2.2.2.1 bt340.2.2.2.2.2.2.2.2.1 bt340.2.2.2.2.2.2.2.2.2.1 bt340.2.2.2.2.2.2.2.2.2.2.1 bt340.2.2.2.2.2.2.2.2.2.2.2)) else (if t352 = 1 then ((impl_element_inverse.f k bt340.2.1).bind fun t354 => (impl_spanOf.j2 k x4 t354 x12 x13 x14 x337000 x337001 bt340.1 bt340.2.1 bt340.2.2.1 bt340.2.2.2.1 bt340.2.2.2.2.1 bt340.2.2.2.2.2.1 bt340.2.2.2.2.2.2.1 bt340.2.2.2.2.2.2.2.1 bt340.2.2.2.2.2.2.2.2.1 bt340.2.2.2.2.2.2.2.2.2.1 bt340.2.2.2.2.2.2.2.2.2.2.1 bt340.2.2.2.2.2.2.2.2.2.2.2)) else (if t352 = 2 then ((impl_element_inverse.f k bt340.2.2.1).bind fun t355 => (impl_spanOf.j2 k x4 t355 x12 x13 x14 x337000 x337001 bt340.1 bt340.2.1 bt340.2.2.1 bt340.2.2.2.1 bt340.2.2.2.2.1 bt340.2.2.2.2.2.1 bt340.2.2.2.2.2.2.1 bt340.2.2.2.2.2.2.2.1 bt340.2.2.2.2.2.2.2.2.1 bt340.2.2.2.2.2.2.2.2.2.1 bt340.2.2.2.2.2.2.2.2.2.2.1 bt340.2.2.2.2.2.2.2.2.2.2.2)) else (if t352 = 3 then ((impl_element_inverse.f k bt340.2.2.2.1).bind fun t356 => (impl_spanOf.j2 k x4 t356 x12 x13 x14 x337000 x337001 bt340.1 bt340.2.1 bt340.2.2.1 bt340.2.2.2.1 bt340.2.2.2.2.1 bt340.2.2.2.2.2.1 bt340.2.2.2.2.2.2.1 bt340.2.2.2.2.2.2.2.1 bt340.2.2.2.2.2.2.2.2.1 bt340.2.2.2.2.2.2.2.2.2.1 bt340.2.2.2.2.2.2.2.2.2.2.1 bt340.2.2.2.2.2.2.2.2.2.2.2)) else (none)))))))
def impl_spanOf.j2 : Nat → Int → Int → List (S70) → Int → Int → List (S102) → List Int → Int → Int → Int → Int → Int → Int → Int → Int → Int → Int → Int → Int → Option ((List (S102)) × List Int)
  | 0, _, _, _, _, _, _, _, _, _, _, _, _, _, _, _, _, _, _, _ => none
  | k + 1, x4, x8, x12, x13, x14, x337000, x337001, x340000, x340001, x340002, x340003, x340004, x340005, x340006, x340007, x340008, x340009, x340010, x340011 => (impl_vector_times.f x340000 x340001 x340002 x340003 x8).bind fun bt357 => (impl_spanOf.l1 k x4 x8 x12 x13 x14 0 x337000 x337001 bt357.1 bt357.2.1 bt357.2.2.1 bt357.2.2.2 x340004 x340005 x340006 x340007 x340008 x340009 x340010 x340011)
def impl_spanOf.l1 : Nat → Int → Int → List (S70) → Int → Int → Int → List (S102) → List Int → Int → Int → Int → Int → Int → Int → Int → Int → Int → Int → Int → Int → Option ((List (S102)) × List Int)
  | 0, _, _, _, _, _, _, _, _, _, _, _, _, _, _, _, _, _, _, _, _ => none
  | k + 1, x4, x8, x12, x13, x14, x42, x337000, x337001, x340000, x340001, x340002, x340003, x340004, x340005, x340006, x340007, x340008, x340009, x340010, x340011 => if x42 < 8 then (if x42 = 0 then ((impl_element_times.f x340004 x8).bind fun t361 => (impl_spanOf.l1 k x4 x8 x12 x13 x14 (wrap64 (x42 + 1)) x337000 x337001 x340000 x340001 x340002 x340003 t361 x340005 x340006 x340007 x340008 x340009 x340010 x340011)) else (if x42 = 1 then ((impl_element_times.f x340005 x8).bind fun t362 => (impl_spanOf.l1 k x4 x8 x12 x13 x14 (wrap64 (x42 + 1)) x337000 x337001 x340000 x340001 x340002 x340003 x340004 t362 x340006 x340007 x340008 x340009 x340010 x340011)) else (if x42 = 2 then ((impl_element_times.f x340006 x8).bind fun t363 => (impl_spanOf.l1 k x4 x8 x12 x13 x14 (wrap64 (x42 + 1)) x337000 x337001 x340000 x340001 x340002 x340003 x340004 x340005 t363 x340007 x340008 x340009 x340010 x340011)) else (if x42 = 3 then ((impl_element_times.f x340007 x8).bind fun t364 => (impl_spanOf.l1 k x4 x8 x12 x13 x14 (wrap64 (x42 + 1)) x337000 x337001 x340000 x340001 x340002 x340003 x340004 x340005 x340006 t364 x340008 x340009 x340010 x340011)) else (if x42 = 4 then ((impl_element_times.f x340008 x8).bind fun t365 => (impl_spanOf.l1 k x4 x8 x12 x13 x14 (wrap64 (x42 + 1)) x337000 x337001 x340000 x340001 x340002 x340003 x340004 x340005 x340006 x340007 t365 x340009 x340010 x340011)) else (if x42 = 5 then ((impl_element_times.f x340009 x8).bind fun t366 => (impl_spanOf.l1 k x4 x8 x12 x13 x14 (wrap64 (x42 + 1)) x337000 x337001 x340000 x340001 x340002 x340003 x340004 x340005 x340006 x340007 x340008 t366 x340010 x340011)) else (if x42 = 6 then ((impl_element_times.f x340010 x8).bind fun t367 => (impl_spanOf.l1 k x4 x8 x12 x13 x14 (wrap64 (x42 + 1)) x337000 x337001 x340000 x340001 x340002 x340003 x340004 x340005 x340006 x340007 x340008 x340009 t367 x340011)) else (if x42 = 7 then ((impl_element_times.f x340011 x8).bind fun t368 => (impl_spanOf.l1 k x4 x8 x12 x13 x14 (wrap64 (x42 + 1)) x337000 x337001 x340000 x340001 x340002 x340003 x340004 x340005 x340006 x340007 x340008 x340009 x340010 t368)) else (none))))))))) else (if x337000.length < 1466015503701 then (if x337001.length < 17592186044416 then (impl_spanOf.l0 k x12 x13 (wrap64 (x14 + 1)) (x337000 ++ [(⟨(⟨x340000, x340001, x340002, x340003⟩ : S70), (⟨x340004, x340005, x340006, x340007, x340008, x340009, x340010, x340011⟩ : S100)⟩ : S102)]) (x337001 ++ [x4])) else (none)) else (none))
end
def impl_spanOf.f (k : Nat) (l0 : List (S70)) : Option ((List (S102)) × List Int) := impl_spanOf.l0 k l0 (l0.length : Int) 0 ([] : List (S102)) ([] : List Int)
def impl_spanOf.T17 : Bool × List (List Nat × List Nat) := (true, [([], []), ([], []), ([1], [1]), ([2], [2]), ([3], [3]), ([], []), ([5], [5]), ([4, 6], [4, 6]), ([0, 0, 1, 2, 3, 4, 5, 6, 7], [0]), ([8, 0, 1, 2, 3, 4, 5, 6, 7], [8]), ([9, 7, 7, 0, 1, 2, 3, 4, 5, 6, 7], [7, 9])])
def impl_spanOf.B17 : List Nat := [0, 0, 2, 6, 14, 0, 32, 126, 255, 511, 1023]
theorem impl_spanOf.tab17 : rtab .any (opsOf Try.f65 17) = impl_spanOf.T17 := by kernel_rfl
theorem impl_spanOf.bits17 : waitsOk impl_spanOf.T17.2 impl_spanOf.B17 = true := by kernel_rfl
theorem bA11 {W : World} {g : Nat} {cs : Array Value} {ty : TypeId} {j : Nat} {v : Value} (h : Aside0 (W.heap[g]? = some (.cells cs ty (0, 0)))) (e : cs[j]? = some v) : W.cell? ⟨g, j, none⟩ = some v := (blk_cell h.out j).trans e
set_option maxHeartbeats 8000000 in
set_option maxRecDepth 100000 in
theorem impl_spanOf.calls (k : Nat) (A0 : Option Addr) (c0 : Nat) (l0 : List (S70)) (r1 : List (S102)) (r2 : List Int) (w : World) (hr0 : Kd.C k70 w A0 l0.length l0) (hc0 : l0.length ≤ c0) (h : impl_spanOf.f k l0 = some (r1, r2)) :
  Calls Try.prog 65 #[.slice A0 l0.length c0] w fun e w' => ∃ v0_ v1_ : Value, ∃ g_ : Nat, e = .returned (.pointer (some ⟨g_, 0, none⟩)) ∧ w'.heap[g_]? = some (.cells #[v0_, v1_] 81 (0, 0)) ∧ w.heap.size ≤ g_ ∧ Kd.R k102 102 w' w.heap.size (fun _ => True) v0_ r1 ∧ Kd.R (Kd.int .i64) 3 w' w.heap.size (fun _ => True) v1_ r2 ∧ Below w.heap.size w w' := by
 have hu81 := Try.underlying81
 have hu70 := Try.underlying70
 have hu102 := Try.underlying102
 have HR0 := Aside0.mk hr0
 have HC0 := Aside0.mk hc0
 clear hr0 hc0
 have HB := Aside0.mk (Below.refl w.heap.size w)
 have H : (impl_spanOf.l0 k l0 (l0.length : Int) 0 ([] : List (S102)) ([] : List Int)) = some (r1, r2) := h
 clear h
 have H' := Aside0.mk H
 clear H
 go_enter Try.func65, Try.ntmps65
 go_wp2_with (first | ((with_reducible refine gate_dst (N := 11) rfl ?_); refine box_event ?hg (N := 11) ?hd (cs := #[.slice none 0 0, .slice none 0 0]) (t := 81) ?hr ?_; (case hd => rfl); (case hg => rfl); (case hr => first | (go_simp; done) | (go_simp; rfl)); intro gb336 hg w2 hbox hb; have BK336 := Aside0.mk (hbox); have GW336 := Aside0.mk ((by rw [hg]; exact (below_size z11_17) : w.heap.size ≤ gb336)); have GE336 := Aside0.mk ((by rw [hg]; exact (below_size z11_17) : w.heap.size ≤ gb336)); replace HB := Aside0.mk (below_step z11_17 hb); clear hb hbox hg))
 go_loopg [14] k (fun kq v14 w' => ∃ (x14_1 : Int) (ad : List (S102)) (ac : List Int) (u337000 : Value) (u337001 : Value), v14 = .int .i64 x14_1 ∧ Aside0 (impl_spanOf.l0 kq l0 (l0.length : Int) x14_1 ad ac = some (r1, r2)) ∧ Aside0 (kq ≤ k) ∧ Aside0 (Kd.R k102 102 w' w.heap.size (fun _ => True) u337000 ad) ∧ Aside0 (Kd.R (Kd.int .i64) 3 w' w.heap.size (fun _ => True) u337001 ac) ∧ Aside0 (w'.heap[gb336]? = some (.cells #[u337000, u337001] 81 (0, 0))) ∧ Aside0 (Below w.heap.size w w'))
 case atStart => exact ⟨(0), (([] : List (S102))), (([] : List Int)), (.slice none 0 0), (.slice none 0 0), z11_16, H', ⟨Nat.le_refl _⟩, ⟨z11_25⟩, ⟨z11_25⟩, ⟨zL11 BK336.out⟩, ⟨z11_11⟩⟩
 case round =>
  clear H'
  obtain ⟨x14_1, ad, ac, u337000, u337001, rfl, HA, HK1, ab, aa, BK336, HB⟩ := hrel
  cases gk with
  | zero => exact absurd HA.out (by simp [impl_spanOf.l0])
  | succ k1 =>
   have H := HA.out
   clear HA
   simp only [impl_spanOf.l0] at H
   by_cases c3 : x14_1 < (l0.length : Int)
   ·rw [if_pos c3] at H
    have c3b0 : decide (x14_1 < (l0.length : Int)) = true := decide_eq_true c3
    clear c3
    obtain ⟨c4, H⟩ := ifP H
    have c4b0 : decide (0 ≤ x14_1) = true := decide_eq_true c4
    clear c4
    obtain ⟨c5, H⟩ := ifP H
    have c5b0 : decide (x14_1 < (l0.length : Int)) = true := decide_eq_true c5
    clear c5
    have HC6 := Aside0.mk H
    clear H
    have p337 : 0 ≤ (x14_1 : Int) := of_decide_eq_true (by first | (with_reducible assumption) | assumption)
    have q337 : x14_1 < (l0.length : Int) := of_decide_eq_true (by first | (with_reducible assumption) | assumption)
    obtain ⟨ad337, e337, hx337_0, hx337_1, hx337_2, hx337_3⟩ := at_T70 HR0.out x14_1 p337 q337
    cases e337
    replace hx337_0 := (HB.out.cell (World.block_lt_of_cell? w _ hx337_0)).trans hx337_0
    replace hx337_1 := (HB.out.cell (World.block_lt_of_cell? w _ hx337_1)).trans hx337_1
    replace hx337_2 := (HB.out.cell (World.block_lt_of_cell? w _ hx337_2)).trans hx337_2
    replace hx337_3 := (HB.out.cell (World.block_lt_of_cell? w _ hx337_3)).trans hx337_3
    replace p337 := eq_true p337
    replace q337 := eq_true q337
    go_upto_region 6 with (first | ((with_reducible refine gate_dst (N := 5) rfl ?_); refine box_event ?hg (N := 5) ?hd (cs := #[.int .i64 0, .int .i64 0, .int .i64 0, .int .i64 0]) (t := 70) ?hr ?_; (case hd => rfl); (case hg => rfl); (case hr => first | (go_simp; done) | (go_simp; rfl)); intro gb338 hg w7 hbox hb; replace ab := Aside0.mk (Kd.R_below z11_6 hb); replace aa := Aside0.mk (Kd.R_below z11_7 hb); have BK338 := Aside0.mk (hbox); have GW338 := Aside0.mk ((by rw [hg]; exact (below_size z11_11) : w.heap.size ≤ gb338)); have GE338 := Aside0.mk ((by rw [hg]; exact (below_size z11_11) : w.heap.size ≤ gb338)); replace HB := Aside0.mk (below_step z11_11 hb); have aq := Aside0.mk ((by rw [hg]; exact Nat.ne_of_lt (blk_lt (g := gb336) (o := .cells #[u337000, u337001] 81 (0, 0)) (zL11 BK336.out)) : gb336 ≠ gb338)); have aC := Aside0.mk ((by rw [hg]; exact Nat.ne_of_gt (blk_lt (g := gb336) (o := .cells #[u337000, u337001] 81 (0, 0)) (zL11 BK336.out)) : gb338 ≠ gb336)); replace BK336 := Aside0.mk (blk_below (g := gb336) (o := .cells #[u337000, u337001] 81 (0, 0)) (zL11 BK336.out) hb); clear hb hbox hg; have hnb8 := aC.out; have hnc8 := aq.out; have b8 : w7.cell? ⟨gb338, 0, none⟩ = some (.int .i64 0) := bA11 BK338 rfl; have b9 := blk_frozen BK338.out 0; have aU : w7.cell? ⟨gb338, 1, none⟩ = some (.int .i64 0) := bA11 BK338 rfl; have aV := blk_frozen BK338.out 1; have aW : w7.cell? ⟨gb338, 2, none⟩ = some (.int .i64 0) := bA11 BK338 rfl; have aX := blk_frozen BK338.out 2; have aY : w7.cell? ⟨gb338, 3, none⟩ = some (.int .i64 0) := bA11 BK338 rfl; have aZ := blk_frozen BK338.out 3) | ((with_reducible refine gate_store (t := 70) (p := 5) rfl ?_); refine store_event (t := 70) (p := 5) (v := ?vo_w13) (w1 := ((((w7.setCell ⟨gb338, 0, none⟩ (.int .i64 ((rd_T70 l0 x14_1).f0))).setCell ⟨gb338, 1, none⟩ (.int .i64 ((rd_T70 l0 x14_1).f1))).setCell ⟨gb338, 2, none⟩ (.int .i64 ((rd_T70 l0 x14_1).f2))).setCell ⟨gb338, 3, none⟩ (.int .i64 ((rd_T70 l0 x14_1).f3)))) ?hg ?ho ?hn ?hr ?_; (case ho => rfl); (case hg => rfl); (case hn => rfl); (case hr => first | (go_simp; done) | (go_simp; rfl)); intro w13 hw; have n0_ : Aside0 (Kd.R k102 102 w13 w.heap.size (fun _ => True) u337000 ad) := ⟨(by rw [hw]; exact (by (with_reducible repeat (first | apply Kd.R_alloc | apply Kd.R_drewN | apply Kd.R_drew)); exact Kd.R_mono (Kd.R_far (p := ⟨gb338, 3, none⟩) (Kd.R_far (p := ⟨gb338, 2, none⟩) (Kd.R_far (p := ⟨gb338, 1, none⟩) (Kd.R_far (p := ⟨gb338, 0, none⟩) (Kd.R_types ab.out BK338.out (by decide)) (fun _ hk => hk.2) (.int .i64 ((rd_T70 l0 x14_1).f0))) (fun _ hk => hk.2) (.int .i64 ((rd_T70 l0 x14_1).f1))) (fun _ hk => hk.2) (.int .i64 ((rd_T70 l0 x14_1).f2))) (fun _ hk => hk.2) (.int .i64 ((rd_T70 l0 x14_1).f3))) (fun _ hk => trivial)))⟩; have n1_ : Aside0 (Kd.R (Kd.int .i64) 3 w13 w.heap.size (fun _ => True) u337001 ac) := ⟨(by rw [hw]; exact (by (with_reducible repeat (first | apply Kd.R_alloc | apply Kd.R_drewN | apply Kd.R_drew)); exact Kd.R_mono (Kd.R_far (p := ⟨gb338, 3, none⟩) (Kd.R_far (p := ⟨gb338, 2, none⟩) (Kd.R_far (p := ⟨gb338, 1, none⟩) (Kd.R_far (p := ⟨gb338, 0, none⟩) (Kd.R_types aa.out BK338.out (by decide)) (fun _ hk => hk.2) (.int .i64 ((rd_T70 l0 x14_1).f0))) (fun _ hk => hk.2) (.int .i64 ((rd_T70 l0 x14_1).f1))) (fun _ hk => hk.2) (.int .i64 ((rd_T70 l0 x14_1).f2))) (fun _ hk => hk.2) (.int .i64 ((rd_T70 l0 x14_1).f3))) (fun _ hk => trivial)))⟩; have n2_ : Aside0 (w13.heap[gb336]? = some (.cells #[u337000, u337001] 81 (0, 0))) := ⟨(by rw [hw]; exact (by (with_reducible repeat first|refine blk_drewN ?_ _|refine blk_drew ?_|refine blk_alloc ?_ _); refine blk_far ?_ aq.out _; (with_reducible repeat first|refine blk_drewN ?_ _|refine blk_drew ?_|refine blk_alloc ?_ _); refine blk_far ?_ aq.out _; (with_reducible repeat first|refine blk_drewN ?_ _|refine blk_drew ?_|refine blk_alloc ?_ _); refine blk_far ?_ aq.out _; (with_reducible repeat first|refine blk_drewN ?_ _|refine blk_drew ?_|refine blk_alloc ?_ _); refine blk_far ?_ aq.out _; (with_reducible repeat first|refine blk_drewN ?_ _|refine blk_drew ?_|refine blk_alloc ?_ _); exact BK336.out))⟩; have n3_ : Aside0 (w13.heap[gb338]? = some (.cells #[.int .i64 ((rd_T70 l0 x14_1).f0), .int .i64 ((rd_T70 l0 x14_1).f1), .int .i64 ((rd_T70 l0 x14_1).f2), .int .i64 ((rd_T70 l0 x14_1).f3)] 70 (0, 0))) := ⟨(by rw [hw]; exact (bZ BK338.out))⟩; have n4_ : Aside0 (Below w.heap.size w w13) := ⟨(by rw [hw]; exact z11_12)⟩; clear hw; clear ab; clear aa; clear BK336; clear BK338; clear HB; have ab := n0_; have aa := n1_; have BK336 := n2_; have BK338 := n3_; have HB := n4_; clear n0_ n1_ n2_ n3_ n4_; have a0 : w13.cell? ⟨gb338, 0, none⟩ = some (.int .i64 ((rd_T70 l0 x14_1).f0)) := bA11 BK338 rfl; have a1 : w13.cell? ⟨gb338, 1, none⟩ = some (.int .i64 ((rd_T70 l0 x14_1).f1)) := bA11 BK338 rfl; have a2 : w13.cell? ⟨gb338, 2, none⟩ = some (.int .i64 ((rd_T70 l0 x14_1).f2)) := bA11 BK338 rfl; have a3 : w13.cell? ⟨gb338, 3, none⟩ = some (.int .i64 ((rd_T70 l0 x14_1).f3)) := bA11 BK338 rfl; have a4 := blk_frozen BK338.out 0; have a5 := blk_frozen BK338.out 1; have a6 := blk_frozen BK338.out 2; have a7 := blk_frozen BK338.out 3) | ((with_reducible refine gate_dst (N := 6) rfl ?_); refine box_event ?hg (N := 6) ?hd (cs := #[.int .i64 0, .int .i64 0, .int .i64 0, .int .i64 0, .int .i64 0, .int .i64 0, .int .i64 0, .int .i64 0, .int .i64 0, .int .i64 0, .int .i64 0, .int .i64 0]) (t := 102) ?hr ?_; (case hd => rfl); (case hg => rfl); (case hr => first | (go_simp; done) | (go_simp; rfl)); intro gb339 hg w15 hbox hb; replace ab := Aside0.mk (Kd.R_below (Kd.R_elderB z11_6 gb339 (Nat.le_of_eq hg.symm)) hb); replace aa := Aside0.mk (Kd.R_below z11_7 hb); have BK339 := Aside0.mk (hbox); have GW339 := Aside0.mk ((by rw [hg]; exact (below_size z11_12) : w.heap.size ≤ gb339)); have GE339 := Aside0.mk ((by rw [hg]; exact (below_size z11_12) : w.heap.size ≤ gb339)); replace HB := Aside0.mk (below_step z11_12 hb); have ae := Aside0.mk ((by rw [hg]; exact Nat.ne_of_lt (blk_lt (g := gb336) (o := .cells #[u337000, u337001] 81 (0, 0)) (zL11 BK336.out)) : gb336 ≠ gb339)); have ag := Aside0.mk ((by rw [hg]; exact Nat.ne_of_gt (blk_lt (g := gb336) (o := .cells #[u337000, u337001] 81 (0, 0)) (zL11 BK336.out)) : gb339 ≠ gb336)); replace BK336 := Aside0.mk (blk_below (g := gb336) (o := .cells #[u337000, u337001] 81 (0, 0)) (zL11 BK336.out) hb); have af := Aside0.mk ((by rw [hg]; exact Nat.ne_of_lt (blk_lt (g := gb338) (o := .cells #[.int .i64 ((rd_T70 l0 x14_1).f0), .int .i64 ((rd_T70 l0 x14_1).f1), .int .i64 ((rd_T70 l0 x14_1).f2), .int .i64 ((rd_T70 l0 x14_1).f3)] 70 (0, 0)) (zL11 BK338.out)) : gb338 ≠ gb339)); have ap := Aside0.mk ((by rw [hg]; exact Nat.ne_of_gt (blk_lt (g := gb338) (o := .cells #[.int .i64 ((rd_T70 l0 x14_1).f0), .int .i64 ((rd_T70 l0 x14_1).f1), .int .i64 ((rd_T70 l0 x14_1).f2), .int .i64 ((rd_T70 l0 x14_1).f3)] 70 (0, 0)) (zL11 BK338.out)) : gb339 ≠ gb338)); replace BK338 := Aside0.mk (blk_below (g := gb338) (o := .cells #[.int .i64 ((rd_T70 l0 x14_1).f0), .int .i64 ((rd_T70 l0 x14_1).f1), .int .i64 ((rd_T70 l0 x14_1).f2), .int .i64 ((rd_T70 l0 x14_1).f3)] 70 (0, 0)) (zL11 BK338.out) hb); clear hb hbox hg; have hnb16 := ag.out; have hnc16 := ae.out; have hnb17 := ap.out; have hnc17 := af.out; have a8 : w15.cell? ⟨gb339, 0, none⟩ = some (.int .i64 0) := bA11 BK339 rfl; have a9 := blk_frozen BK339.out 0; have ba : w15.cell? ⟨gb339, 1, none⟩ = some (.int .i64 0) := bA11 BK339 rfl; have bb := blk_frozen BK339.out 1; have bc : w15.cell? ⟨gb339, 2, none⟩ = some (.int .i64 0) := bA11 BK339 rfl; have bd := blk_frozen BK339.out 2; have be : w15.cell? ⟨gb339, 3, none⟩ = some (.int .i64 0) := bA11 BK339 rfl; have bf := blk_frozen BK339.out 3; have bg : w15.cell? ⟨gb339, 4, none⟩ = some (.int .i64 0) := bA11 BK339 rfl; have bh := blk_frozen BK339.out 4; have bi : w15.cell? ⟨gb339, 5, none⟩ = some (.int .i64 0) := bA11 BK339 rfl; have bj := blk_frozen BK339.out 5; have bk : w15.cell? ⟨gb339, 6, none⟩ = some (.int .i64 0) := bA11 BK339 rfl; have bl := blk_frozen BK339.out 6; have bm : w15.cell? ⟨gb339, 7, none⟩ = some (.int .i64 0) := bA11 BK339 rfl; have bn := blk_frozen BK339.out 7; have bo : w15.cell? ⟨gb339, 8, none⟩ = some (.int .i64 0) := bA11 BK339 rfl; have bp := blk_frozen BK339.out 8; have bq : w15.cell? ⟨gb339, 9, none⟩ = some (.int .i64 0) := bA11 BK339 rfl; have br := blk_frozen BK339.out 9; have aD : w15.cell? ⟨gb339, 10, none⟩ = some (.int .i64 0) := bA11 BK339 rfl; have aE := blk_frozen BK339.out 10; have aG : w15.cell? ⟨gb339, 11, none⟩ = some (.int .i64 0) := bA11 BK339 rfl; have aH := blk_frozen BK339.out 11) | ((with_reducible refine gate_store (t := 102) (p := 6) rfl ?_); refine store_event (t := 102) (p := 6) (v := ?vo_w30) (w1 := ((((((((((((w15.setCell ⟨gb339, 0, none⟩ (.int .i64 ((rd_T70 l0 x14_1).f0))).setCell ⟨gb339, 1, none⟩ (.int .i64 ((rd_T70 l0 x14_1).f1))).setCell ⟨gb339, 2, none⟩ (.int .i64 ((rd_T70 l0 x14_1).f2))).setCell ⟨gb339, 3, none⟩ (.int .i64 ((rd_T70 l0 x14_1).f3))).setCell ⟨gb339, 4, none⟩ (.int .i64 0)).setCell ⟨gb339, 5, none⟩ (.int .i64 0)).setCell ⟨gb339, 6, none⟩ (.int .i64 0)).setCell ⟨gb339, 7, none⟩ (.int .i64 0)).setCell ⟨gb339, 8, none⟩ (.int .i64 0)).setCell ⟨gb339, 9, none⟩ (.int .i64 0)).setCell ⟨gb339, 10, none⟩ (.int .i64 0)).setCell ⟨gb339, 11, none⟩ (.int .i64 0))) ?hg ?ho ?hn ?hr ?_; (case ho => rfl); (case hg => rfl); (case hn => rfl); (case hr => first | (go_simp; done) | (go_simp; rfl)); intro w30 hw; have n0_ : Aside0 (Kd.R k102 102 w30 w.heap.size (fun k_ => k_ ≠ gb339) u337000 ad) := ⟨(by rw [hw]; exact (by (with_reducible repeat (first | apply Kd.R_alloc | apply Kd.R_drewN | apply Kd.R_drew)); exact Kd.R_mono (Kd.R_far (p := ⟨gb339, 11, none⟩) (Kd.R_far (p := ⟨gb339, 10, none⟩) (Kd.R_far (p := ⟨gb339, 9, none⟩) (Kd.R_far (p := ⟨gb339, 8, none⟩) (Kd.R_far (p := ⟨gb339, 7, none⟩) (Kd.R_far (p := ⟨gb339, 6, none⟩) (Kd.R_far (p := ⟨gb339, 5, none⟩) (Kd.R_far (p := ⟨gb339, 4, none⟩) (Kd.R_far (p := ⟨gb339, 3, none⟩) (Kd.R_far (p := ⟨gb339, 2, none⟩) (Kd.R_far (p := ⟨gb339, 1, none⟩) (Kd.R_far (p := ⟨gb339, 0, none⟩) (Kd.R_mono ab.out (fun k_ hk => (⟨hk, hk.2⟩ : _ ∧ k_ ≠ gb339))) (fun _ hk => hk.2) (.int .i64 ((rd_T70 l0 x14_1).f0))) (fun _ hk => hk.2) (.int .i64 ((rd_T70 l0 x14_1).f1))) (fun _ hk => hk.2) (.int .i64 ((rd_T70 l0 x14_1).f2))) (fun _ hk => hk.2) (.int .i64 ((rd_T70 l0 x14_1).f3))) (fun _ hk => hk.2) (.int .i64 0)) (fun _ hk => hk.2) (.int .i64 0)) (fun _ hk => hk.2) (.int .i64 0)) (fun _ hk => hk.2) (.int .i64 0)) (fun _ hk => hk.2) (.int .i64 0)) (fun _ hk => hk.2) (.int .i64 0)) (fun _ hk => hk.2) (.int .i64 0)) (fun _ hk => hk.2) (.int .i64 0)) (fun _ hk => hk.1.2)))⟩; have n1_ : Aside0 (Kd.R (Kd.int .i64) 3 w30 w.heap.size (fun _ => True) u337001 ac) := ⟨(by rw [hw]; exact (by (with_reducible repeat (first | apply Kd.R_alloc | apply Kd.R_drewN | apply Kd.R_drew)); exact Kd.R_mono (Kd.R_far (p := ⟨gb339, 11, none⟩) (Kd.R_far (p := ⟨gb339, 10, none⟩) (Kd.R_far (p := ⟨gb339, 9, none⟩) (Kd.R_far (p := ⟨gb339, 8, none⟩) (Kd.R_far (p := ⟨gb339, 7, none⟩) (Kd.R_far (p := ⟨gb339, 6, none⟩) (Kd.R_far (p := ⟨gb339, 5, none⟩) (Kd.R_far (p := ⟨gb339, 4, none⟩) (Kd.R_far (p := ⟨gb339, 3, none⟩) (Kd.R_far (p := ⟨gb339, 2, none⟩) (Kd.R_far (p := ⟨gb339, 1, none⟩) (Kd.R_far (p := ⟨gb339, 0, none⟩) (Kd.R_types aa.out BK339.out (by decide)) (fun _ hk => hk.2) (.int .i64 ((rd_T70 l0 x14_1).f0))) (fun _ hk => hk.2) (.int .i64 ((rd_T70 l0 x14_1).f1))) (fun _ hk => hk.2) (.int .i64 ((rd_T70 l0 x14_1).f2))) (fun _ hk => hk.2) (.int .i64 ((rd_T70 l0 x14_1).f3))) (fun _ hk => hk.2) (.int .i64 0)) (fun _ hk => hk.2) (.int .i64 0)) (fun _ hk => hk.2) (.int .i64 0)) (fun _ hk => hk.2) (.int .i64 0)) (fun _ hk => hk.2) (.int .i64 0)) (fun _ hk => hk.2) (.int .i64 0)) (fun _ hk => hk.2) (.int .i64 0)) (fun _ hk => hk.2) (.int .i64 0)) (fun _ hk => trivial)))⟩; have n2_ : Aside0 (w30.heap[gb336]? = some (.cells #[u337000, u337001] 81 (0, 0))) := ⟨z11_4⟩; have n3_ : Aside0 (w30.heap[gb338]? = some (.cells #[.int .i64 ((rd_T70 l0 x14_1).f0), .int .i64 ((rd_T70 l0 x14_1).f1), .int .i64 ((rd_T70 l0 x14_1).f2), .int .i64 ((rd_T70 l0 x14_1).f3)] 70 (0, 0))) := ⟨z11_5⟩; have n4_ : Aside0 (w30.heap[gb339]? = some (.cells #[.int .i64 ((rd_T70 l0 x14_1).f0), .int .i64 ((rd_T70 l0 x14_1).f1), .int .i64 ((rd_T70 l0 x14_1).f2), .int .i64 ((rd_T70 l0 x14_1).f3), .int .i64 0, .int .i64 0, .int .i64 0, .int .i64 0, .int .i64 0, .int .i64 0, .int .i64 0, .int .i64 0] 102 (0, 0))) := ⟨(by rw [hw]; exact (bZ BK339.out))⟩; have n5_ : Aside0 (Below w.heap.size w w30) := ⟨(by rw [hw]; exact z11_1)⟩; clear hw; clear ab; clear aa; clear BK336; clear BK338; clear BK339; clear HB; have ab := n0_; have aa := n1_; have BK336 := n2_; have BK338 := n3_; have BK339 := n4_; have HB := n5_; clear n0_ n1_ n2_ n3_ n4_ n5_))
    (try simp only [Act.put, List.setIfInBounds_toArray, List.set_cons_zero, List.set_cons_succ])
    go_cut [] (fun wc => ∃ (kq : Nat) (ar : Int) (au : Int) (av : Int) (aw : Int) (ax : Int) (ay : Int) (az : Int) (aA : Int), Aside0 (impl_spanOf.j1 kq x14_1 l0 (l0.length : Int) x14_1 ad ac ((rd_T70 l0 x14_1).f0) ((rd_T70 l0 x14_1).f1) ((rd_T70 l0 x14_1).f2) ((rd_T70 l0 x14_1).f3) ar au av aw ax ay az aA = some (r1, r2)) ∧ Aside0 (kq ≤ k1) ∧ Aside0 (Kd.R k102 102 wc w.heap.size (fun k_ => k_ ≠ gb339) u337000 ad) ∧ Aside0 (Kd.R (Kd.int .i64) 3 wc w.heap.size (fun _ => True) u337001 ac) ∧ Aside0 (wc.heap[gb336]? = some (.cells #[u337000, u337001] 81 (0, 0))) ∧ Aside0 (wc.heap[gb338]? = some (.cells #[.int .i64 ((rd_T70 l0 x14_1).f0), .int .i64 ((rd_T70 l0 x14_1).f1), .int .i64 ((rd_T70 l0 x14_1).f2), .int .i64 ((rd_T70 l0 x14_1).f3)] 70 (0, 0))) ∧ Aside0 (wc.heap[gb339]? = some (.cells #[.int .i64 ((rd_T70 l0 x14_1).f0), .int .i64 ((rd_T70 l0 x14_1).f1), .int .i64 ((rd_T70 l0 x14_1).f2), .int .i64 ((rd_T70 l0 x14_1).f3), .int .i64 ar, .int .i64 au, .int .i64 av, .int .i64 aw, .int .i64 ax, .int .i64 ay, .int .i64 az, .int .i64 aA] 102 (0, 0))) ∧ Aside0 (Below w.heap.size w wc))
    case first =>
     have H := HC6.out
     clear HC6
     by_cases c31 : x14_1 = 0
     ·rw [if_pos c31] at H
      subst c31
      (try have hz_ := eq_true (Int.natCast_pos.1 (of_decide_eq_true c5b0) : 0 < l0.length))
      replace H : (impl_spanOf.j1 k1 (0 : Int) l0 (l0.length : Int) (0 : Int) ad ac ((rd_T70 l0 (0 : Int)).f0) ((rd_T70 l0 (0 : Int)).f1) ((rd_T70 l0 (0 : Int)).f2) ((rd_T70 l0 (0 : Int)).f3) 1 0 0 0 0 0 0 0) = some (r1, r2) := H
      have H' := Aside0.mk H
      clear H
      have hnb32 := ag.out
      have hnc32 := ae.out
      have hnb33 := ap.out
      have hnc33 := af.out
      have bs : w30.cell? ⟨gb339, 4, none⟩ = some (.int .i64 0) := bA11 BK339 rfl
      have bt := blk_frozen BK339.out 4
      go_wp2
      go_meet
      case rel => exact ⟨_, (1), (0), (0), (0), (0), (0), (0), (0), H', ⟨z11_15⟩, ⟨by (with_reducible repeat (first | apply Kd.R_alloc | apply Kd.R_drewN | apply Kd.R_drew)); exact Kd.R_mono (Kd.R_far (p := ⟨gb339, 4, none⟩) (Kd.R_mono ab.out (fun k_ hk => (⟨hk, hk⟩ : _ ∧ k_ ≠ gb339))) (fun _ hk => hk.2) (.int .i64 1)) (fun _ hk => hk.1)⟩, ⟨by (with_reducible repeat (first | apply Kd.R_alloc | apply Kd.R_drewN | apply Kd.R_drew)); exact Kd.R_mono (Kd.R_far (p := ⟨gb339, 4, none⟩) (Kd.R_types aa.out BK339.out (by decide)) (fun _ hk => hk.2) (.int .i64 1)) (fun _ hk => trivial)⟩, ⟨z11_2⟩, ⟨z11_3⟩, ⟨bZ BK339.out⟩, ⟨z11_1⟩⟩
     ·rw [if_neg c31] at H
      clear c31
      by_cases c35 : x14_1 = 1
      ·rw [if_pos c35] at H
       subst c35
       (try have hz_ := eq_true (by have h_ := of_decide_eq_true c5b0; omega : 1 < l0.length))
       replace H : (impl_spanOf.j1 k1 (1 : Int) l0 (l0.length : Int) (1 : Int) ad ac ((rd_T70 l0 (1 : Int)).f0) ((rd_T70 l0 (1 : Int)).f1) ((rd_T70 l0 (1 : Int)).f2) ((rd_T70 l0 (1 : Int)).f3) 0 1 0 0 0 0 0 0) = some (r1, r2) := H
       have H' := Aside0.mk H
       clear H
       have hnb36 := ag.out
       have hnc36 := ae.out
       have hnb37 := ap.out
       have hnc37 := af.out
       have bu : w30.cell? ⟨gb339, 5, none⟩ = some (.int .i64 0) := bA11 BK339 rfl
       have bv := blk_frozen BK339.out 5
       go_wp2
       go_meet
       case rel => exact ⟨_, (0), (1), (0), (0), (0), (0), (0), (0), H', ⟨z11_15⟩, ⟨by (with_reducible repeat (first | apply Kd.R_alloc | apply Kd.R_drewN | apply Kd.R_drew)); exact Kd.R_mono (Kd.R_far (p := ⟨gb339, 5, none⟩) (Kd.R_mono ab.out (fun k_ hk => (⟨hk, hk⟩ : _ ∧ k_ ≠ gb339))) (fun _ hk => hk.2) (.int .i64 1)) (fun _ hk => hk.1)⟩, ⟨by (with_reducible repeat (first | apply Kd.R_alloc | apply Kd.R_drewN | apply Kd.R_drew)); exact Kd.R_mono (Kd.R_far (p := ⟨gb339, 5, none⟩) (Kd.R_types aa.out BK339.out (by decide)) (fun _ hk => hk.2) (.int .i64 1)) (fun _ hk => trivial)⟩, ⟨z11_2⟩, ⟨z11_3⟩, ⟨bZ BK339.out⟩, ⟨z11_1⟩⟩
      ·rw [if_neg c35] at H
       clear c35
       by_cases c39 : x14_1 = 2
       ·rw [if_pos c39] at H
        subst c39
        (try have hz_ := eq_true (by have h_ := of_decide_eq_true c5b0; omega : 2 < l0.length))
        replace H : (impl_spanOf.j1 k1 (2 : Int) l0 (l0.length : Int) (2 : Int) ad ac ((rd_T70 l0 (2 : Int)).f0) ((rd_T70 l0 (2 : Int)).f1) ((rd_T70 l0 (2 : Int)).f2) ((rd_T70 l0 (2 : Int)).f3) 0 0 1 0 0 0 0 0) = some (r1, r2) := H
        have H' := Aside0.mk H
        clear H
        have hnb40 := ag.out
        have hnc40 := ae.out
        have hnb41 := ap.out
        have hnc41 := af.out
        have bw : w30.cell? ⟨gb339, 6, none⟩ = some (.int .i64 0) := bA11 BK339 rfl
        have bx := blk_frozen BK339.out 6
        go_wp2
        go_meet
        case rel => exact ⟨_, (0), (0), (1), (0), (0), (0), (0), (0), H', ⟨z11_15⟩, ⟨by (with_reducible repeat (first | apply Kd.R_alloc | apply Kd.R_drewN | apply Kd.R_drew)); exact Kd.R_mono (Kd.R_far (p := ⟨gb339, 6, none⟩) (Kd.R_mono ab.out (fun k_ hk => (⟨hk, hk⟩ : _ ∧ k_ ≠ gb339))) (fun _ hk => hk.2) (.int .i64 1)) (fun _ hk => hk.1)⟩, ⟨by (with_reducible repeat (first | apply Kd.R_alloc | apply Kd.R_drewN | apply Kd.R_drew)); exact Kd.R_mono (Kd.R_far (p := ⟨gb339, 6, none⟩) (Kd.R_types aa.out BK339.out (by decide)) (fun _ hk => hk.2) (.int .i64 1)) (fun _ hk => trivial)⟩, ⟨z11_2⟩, ⟨z11_3⟩, ⟨bZ BK339.out⟩, ⟨z11_1⟩⟩
       ·rw [if_neg c39] at H
        clear c39
        by_cases c43 : x14_1 = 3
        ·rw [if_pos c43] at H
         subst c43
         (try have hz_ := eq_true (by have h_ := of_decide_eq_true c5b0; omega : 3 < l0.length))
         replace H : (impl_spanOf.j1 k1 (3 : Int) l0 (l0.length : Int) (3 : Int) ad ac ((rd_T70 l0 (3 : Int)).f0) ((rd_T70 l0 (3 : Int)).f1) ((rd_T70 l0 (3 : Int)).f2) ((rd_T70 l0 (3 : Int)).f3) 0 0 0 1 0 0 0 0) = some (r1, r2) := H
         have H' := Aside0.mk H
         clear H
         have hnb44 := ag.out
         have hnc44 := ae.out
         have hnb45 := ap.out
         have hnc45 := af.out
         have bz : w30.cell? ⟨gb339, 7, none⟩ = some (.int .i64 0) := bA11 BK339 rfl
         have bA := blk_frozen BK339.out 7
         go_wp2
         go_meet
         case rel => exact ⟨_, (0), (0), (0), (1), (0), (0), (0), (0), H', ⟨z11_15⟩, ⟨by (with_reducible repeat (first | apply Kd.R_alloc | apply Kd.R_drewN | apply Kd.R_drew)); exact Kd.R_mono (Kd.R_far (p := ⟨gb339, 7, none⟩) (Kd.R_mono ab.out (fun k_ hk => (⟨hk, hk⟩ : _ ∧ k_ ≠ gb339))) (fun _ hk => hk.2) (.int .i64 1)) (fun _ hk => hk.1)⟩, ⟨by (with_reducible repeat (first | apply Kd.R_alloc | apply Kd.R_drewN | apply Kd.R_drew)); exact Kd.R_mono (Kd.R_far (p := ⟨gb339, 7, none⟩) (Kd.R_types aa.out BK339.out (by decide)) (fun _ hk => hk.2) (.int .i64 1)) (fun _ hk => trivial)⟩, ⟨z11_2⟩, ⟨z11_3⟩, ⟨bZ BK339.out⟩, ⟨z11_1⟩⟩
        ·rw [if_neg c43] at H
         clear c43
         by_cases c47 : x14_1 = 4
         ·rw [if_pos c47] at H
          subst c47
          (try have hz_ := eq_true (by have h_ := of_decide_eq_true c5b0; omega : 4 < l0.length))
          replace H : (impl_spanOf.j1 k1 (4 : Int) l0 (l0.length : Int) (4 : Int) ad ac ((rd_T70 l0 (4 : Int)).f0) ((rd_T70 l0 (4 : Int)).f1) ((rd_T70 l0 (4 : Int)).f2) ((rd_T70 l0 (4 : Int)).f3) 0 0 0 0 1 0 0 0) = some (r1, r2) := H
          have H' := Aside0.mk H
          clear H
          have hnb48 := ag.out
          have hnc48 := ae.out
          have hnb49 := ap.out
          have hnc49 := af.out
          have bB : w30.cell? ⟨gb339, 8, none⟩ = some (.int .i64 0) := bA11 BK339 rfl
          have bC := blk_frozen BK339.out 8
          go_wp2
          go_meet
          case rel => exact ⟨_, (0), (0), (0), (0), (1), (0), (0), (0), H', ⟨z11_15⟩, ⟨by (with_reducible repeat (first | apply Kd.R_alloc | apply Kd.R_drewN | apply Kd.R_drew)); exact Kd.R_mono (Kd.R_far (p := ⟨gb339, 8, none⟩) (Kd.R_mono ab.out (fun k_ hk => (⟨hk, hk⟩ : _ ∧ k_ ≠ gb339))) (fun _ hk => hk.2) (.int .i64 1)) (fun _ hk => hk.1)⟩, ⟨by (with_reducible repeat (first | apply Kd.R_alloc | apply Kd.R_drewN | apply Kd.R_drew)); exact Kd.R_mono (Kd.R_far (p := ⟨gb339, 8, none⟩) (Kd.R_types aa.out BK339.out (by decide)) (fun _ hk => hk.2) (.int .i64 1)) (fun _ hk => trivial)⟩, ⟨z11_2⟩, ⟨z11_3⟩, ⟨bZ BK339.out⟩, ⟨z11_1⟩⟩
         ·rw [if_neg c47] at H
          clear c47
          by_cases c51 : x14_1 = 5
          ·rw [if_pos c51] at H
           subst c51
           (try have hz_ := eq_true (by have h_ := of_decide_eq_true c5b0; omega : 5 < l0.length))
           replace H : (impl_spanOf.j1 k1 (5 : Int) l0 (l0.length : Int) (5 : Int) ad ac ((rd_T70 l0 (5 : Int)).f0) ((rd_T70 l0 (5 : Int)).f1) ((rd_T70 l0 (5 : Int)).f2) ((rd_T70 l0 (5 : Int)).f3) 0 0 0 0 0 1 0 0) = some (r1, r2) := H
           have H' := Aside0.mk H
           clear H
           have hnb52 := ag.out
           have hnc52 := ae.out
           have hnb53 := ap.out
           have hnc53 := af.out
           have bD : w30.cell? ⟨gb339, 9, none⟩ = some (.int .i64 0) := bA11 BK339 rfl
           have bE := blk_frozen BK339.out 9
           go_wp2
           go_meet
           case rel => exact ⟨_, (0), (0), (0), (0), (0), (1), (0), (0), H', ⟨z11_15⟩, ⟨by (with_reducible repeat (first | apply Kd.R_alloc | apply Kd.R_drewN | apply Kd.R_drew)); exact Kd.R_mono (Kd.R_far (p := ⟨gb339, 9, none⟩) (Kd.R_mono ab.out (fun k_ hk => (⟨hk, hk⟩ : _ ∧ k_ ≠ gb339))) (fun _ hk => hk.2) (.int .i64 1)) (fun _ hk => hk.1)⟩, ⟨by (with_reducible repeat (first | apply Kd.R_alloc | apply Kd.R_drewN | apply Kd.R_drew)); exact Kd.R_mono (Kd.R_far (p := ⟨gb339, 9, none⟩) (Kd.R_types aa.out BK339.out (by decide)) (fun _ hk => hk.2) (.int .i64 1)) (fun _ hk => trivial)⟩, ⟨z11_2⟩, ⟨z11_3⟩, ⟨bZ BK339.out⟩, ⟨z11_1⟩⟩
          ·rw [if_neg c51] at H
           clear c51
           by_cases c55 : x14_1 = 6
           ·rw [if_pos c55] at H
            subst c55
            (try have hz_ := eq_true (by have h_ := of_decide_eq_true c5b0; omega : 6 < l0.length))
            replace H : (impl_spanOf.j1 k1 (6 : Int) l0 (l0.length : Int) (6 : Int) ad ac ((rd_T70 l0 (6 : Int)).f0) ((rd_T70 l0 (6 : Int)).f1) ((rd_T70 l0 (6 : Int)).f2) ((rd_T70 l0 (6 : Int)).f3) 0 0 0 0 0 0 1 0) = some (r1, r2) := H
            have H' := Aside0.mk H
            clear H
            have hnb56 := ag.out
            have hnc56 := ae.out
            have hnb57 := ap.out
            have hnc57 := af.out
            have aI : w30.cell? ⟨gb339, 10, none⟩ = some (.int .i64 0) := bA11 BK339 rfl
            have aJ := blk_frozen BK339.out 10
            go_wp2
            go_meet
            case rel => exact ⟨_, (0), (0), (0), (0), (0), (0), (1), (0), H', ⟨z11_15⟩, ⟨by (with_reducible repeat (first | apply Kd.R_alloc | apply Kd.R_drewN | apply Kd.R_drew)); exact Kd.R_mono (Kd.R_far (p := ⟨gb339, 10, none⟩) (Kd.R_mono ab.out (fun k_ hk => (⟨hk, hk⟩ : _ ∧ k_ ≠ gb339))) (fun _ hk => hk.2) (.int .i64 1)) (fun _ hk => hk.1)⟩, ⟨by (with_reducible repeat (first | apply Kd.R_alloc | apply Kd.R_drewN | apply Kd.R_drew)); exact Kd.R_mono (Kd.R_far (p := ⟨gb339, 10, none⟩) (Kd.R_types aa.out BK339.out (by decide)) (fun _ hk => hk.2) (.int .i64 1)) (fun _ hk => trivial)⟩, ⟨z11_2⟩, ⟨z11_3⟩, ⟨bZ BK339.out⟩, ⟨z11_1⟩⟩
           ·rw [if_neg c55] at H
            clear c55
            obtain ⟨c59, H⟩ := ifP H
            subst c59
            (try have hz_ := eq_true (by have h_ := of_decide_eq_true c5b0; omega : 7 < l0.length))
            replace H : (impl_spanOf.j1 k1 (7 : Int) l0 (l0.length : Int) (7 : Int) ad ac ((rd_T70 l0 (7 : Int)).f0) ((rd_T70 l0 (7 : Int)).f1) ((rd_T70 l0 (7 : Int)).f2) ((rd_T70 l0 (7 : Int)).f3) 0 0 0 0 0 0 0 1) = some (r1, r2) := H
            have H' := Aside0.mk H
            clear H
            have hnb60 := ag.out
            have hnc60 := ae.out
            have hnb61 := ap.out
            have hnc61 := af.out
            have aK : w30.cell? ⟨gb339, 11, none⟩ = some (.int .i64 0) := bA11 BK339 rfl
            have aM := blk_frozen BK339.out 11
            go_wp2
            go_meet
            case rel => exact ⟨_, (0), (0), (0), (0), (0), (0), (0), (1), H', ⟨z11_15⟩, ⟨by (with_reducible repeat (first | apply Kd.R_alloc | apply Kd.R_drewN | apply Kd.R_drew)); exact Kd.R_mono (Kd.R_far (p := ⟨gb339, 11, none⟩) (Kd.R_mono ab.out (fun k_ hk => (⟨hk, hk⟩ : _ ∧ k_ ≠ gb339))) (fun _ hk => hk.2) (.int .i64 1)) (fun _ hk => hk.1)⟩, ⟨by (with_reducible repeat (first | apply Kd.R_alloc | apply Kd.R_drewN | apply Kd.R_drew)); exact Kd.R_mono (Kd.R_far (p := ⟨gb339, 11, none⟩) (Kd.R_types aa.out BK339.out (by decide)) (fun _ hk => hk.2) (.int .i64 1)) (fun _ hk => trivial)⟩, ⟨z11_2⟩, ⟨z11_3⟩, ⟨bZ BK339.out⟩, ⟨z11_1⟩⟩
    case rest =>
     clear HC6
     try clear c3
     try clear c3b0
     try clear c4
     try clear c4b0
     try clear c5
     try clear c5b0
     try clear aU
     try clear aW
     try clear aY
     try clear a0 a1 a2 a3
     try clear a8
     try clear ba
     try clear bc
     try clear be
     try clear bg
     try clear bi
     try clear bk
     try clear bm
     try clear bo
     try clear bq
     try clear aD
     try clear aG
     try clear b8
     try clear aV
     try clear aX
     try clear aZ
     try clear a4 a5 a6 a7
     try clear a9
     try clear bb
     try clear bd
     try clear bf
     try clear bh
     try clear bj
     try clear bl
     try clear bn
     try clear bp
     try clear br
     try clear aE
     try clear aH
     try clear b9
     try clear hx337_0 hx337_1 hx337_2 hx337_3
     try clear p337
     try clear q337
     obtain ⟨kq, ar, au, av, aw, ax, ay, az, aA, HA, HJ5, ab, aa, BK336, BK338, BK339, HB⟩ := hcut
     cases kq with
     | zero => exact absurd HA.out (by simp [impl_spanOf.j1])
     | succ kj5 =>
      have H := HA.out
      clear HA
      simp only [impl_spanOf.j1] at H
      replace H := Option.bind_eq_some_iff.mp H
      obtain ⟨⟨t340, t341, t342, t343, t344, t345, t346, t347, t348, t349, t350, t351⟩, A630, H⟩ := H
      replace H : ((impl_vector_lead.f t340 t341 t342 t343).bind fun t352 => (if t352 < 0 then (impl_spanOf.l0 kj5 l0 (l0.length : Int) (wrap64 (x14_1 + 1)) ad ac) else (if t352 = 0 then ((impl_element_inverse.f kj5 t340).bind fun t353 => (impl_spanOf.j2 kj5 x14_1 t353 l0 (l0.length : Int) x14_1 ad ac t340 t341 t342 t343 t344 t345 t346 t347 t348 t349 t350 t351)) else (if t352 = 1 then ((impl_element_inverse.f kj5 t341).bind fun t354 => (impl_spanOf.j2 kj5 x14_1 t354 l0 (l0.length : Int) x14_1 ad ac t340 t341 t342 t343 t344 t345 t346 t347 t348 t349 t350 t351)) else (if t352 = 2 then ((impl_element_inverse.f kj5 t342).bind fun t355 => (impl_spanOf.j2 kj5 x14_1 t355 l0 (l0.length : Int) x14_1 ad ac t340 t341 t342 t343 t344 t345 t346 t347 t348 t349 t350 t351)) else (if t352 = 3 then ((impl_element_inverse.f kj5 t343).bind fun t356 => (impl_spanOf.j2 kj5 x14_1 t356 l0 (l0.length : Int) x14_1 ad ac t340 t341 t342 t343 t344 t345 t346 t347 t348 t349 t350 t351)) else (none))))))) = some (r1, r2) := H
      have A63 := Aside0.mk A630
      clear A630
      replace H := Option.bind_eq_some_iff.mp H
      obtain ⟨t352, A640, H⟩ := H
      replace H : (if t352 < 0 then (impl_spanOf.l0 kj5 l0 (l0.length : Int) (wrap64 (x14_1 + 1)) ad ac) else (if t352 = 0 then ((impl_element_inverse.f kj5 t340).bind fun t353 => (impl_spanOf.j2 kj5 x14_1 t353 l0 (l0.length : Int) x14_1 ad ac t340 t341 t342 t343 t344 t345 t346 t347 t348 t349 t350 t351)) else (if t352 = 1 then ((impl_element_inverse.f kj5 t341).bind fun t354 => (impl_spanOf.j2 kj5 x14_1 t354 l0 (l0.length : Int) x14_1 ad ac t340 t341 t342 t343 t344 t345 t346 t347 t348 t349 t350 t351)) else (if t352 = 2 then ((impl_element_inverse.f kj5 t342).bind fun t355 => (impl_spanOf.j2 kj5 x14_1 t355 l0 (l0.length : Int) x14_1 ad ac t340 t341 t342 t343 t344 t345 t346 t347 t348 t349 t350 t351)) else (if t352 = 3 then ((impl_element_inverse.f kj5 t343).bind fun t356 => (impl_spanOf.j2 kj5 x14_1 t356 l0 (l0.length : Int) x14_1 ad ac t340 t341 t342 t343 t344 t345 t346 t347 t348 t349 t350 t351)) else (none)))))) = some (r1, r2) := H
      have A64 := Aside0.mk A640
      clear A640
      by_cases c65 : t352 < 0
      ·rw [if_pos c65] at H
       have c65b0 : decide (t352 < 0) = true := decide_eq_true c65
       clear c65
       have H' := Aside0.mk H
       clear H
       have hnb66 := ag.out
       have hnc66 := ae.out
       have hnb67 := ap.out
       have hnc67 := af.out
       have ca : wc.cell? ⟨gb339, 0, none⟩ = some (.int .i64 ((rd_T70 l0 x14_1).f0)) := bA11 BK339 rfl
       have cb : wc.cell? ⟨gb339, 1, none⟩ = some (.int .i64 ((rd_T70 l0 x14_1).f1)) := bA11 BK339 rfl
       have cc : wc.cell? ⟨gb339, 2, none⟩ = some (.int .i64 ((rd_T70 l0 x14_1).f2)) := bA11 BK339 rfl
       have cd : wc.cell? ⟨gb339, 3, none⟩ = some (.int .i64 ((rd_T70 l0 x14_1).f3)) := bA11 BK339 rfl
       have ce : wc.cell? ⟨gb339, 4, none⟩ = some (.int .i64 ar) := bA11 BK339 rfl
       have cf : wc.cell? ⟨gb339, 5, none⟩ = some (.int .i64 au) := bA11 BK339 rfl
       have cg : wc.cell? ⟨gb339, 6, none⟩ = some (.int .i64 av) := bA11 BK339 rfl
       have ch : wc.cell? ⟨gb339, 7, none⟩ = some (.int .i64 aw) := bA11 BK339 rfl
       have ci : wc.cell? ⟨gb339, 8, none⟩ = some (.int .i64 ax) := bA11 BK339 rfl
       have cj : wc.cell? ⟨gb339, 9, none⟩ = some (.int .i64 ay) := bA11 BK339 rfl
       have bF : wc.cell? ⟨gb339, 10, none⟩ = some (.int .i64 az) := bA11 BK339 rfl
       have bG : wc.cell? ⟨gb339, 11, none⟩ = some (.int .i64 aA) := bA11 BK339 rfl
       have ck := blk_frozen BK339.out 0
       have cl := blk_frozen BK339.out 1
       have cm := blk_frozen BK339.out 2
       have cn := blk_frozen BK339.out 3
       have co := blk_frozen BK339.out 4
       have cp := blk_frozen BK339.out 5
       have cq := blk_frozen BK339.out 6
       have cr := blk_frozen BK339.out 7
       have ct := blk_frozen BK339.out 8
       have cu := blk_frozen BK339.out 9
       have bH := blk_frozen BK339.out 10
       have bI := blk_frozen BK339.out 11
       go_wp2_with (first | ((with_reducible refine gate_callee (f := 102) rfl ?_); refine goesL_ (some 26) rfl rfl Try.func102 (by kernel_rfl) rfl #[.pointer (some ⟨gb336, 0, none⟩), .agg #[.int .i64 ((rd_T70 l0 x14_1).f0), .int .i64 ((rd_T70 l0 x14_1).f1), .int .i64 ((rd_T70 l0 x14_1).f2), .int .i64 ((rd_T70 l0 x14_1).f3), .int .i64 ar, .int .i64 au, .int .i64 av, .int .i64 aw, .int .i64 ax, .int .i64 ay, .int .i64 az, .int .i64 aA]] rfl z11_8 ?_; (with_reducible refine (impl_span_lessB.calls kj5 u337000 ad u337001 ac ((rd_T70 l0 x14_1).f0) ((rd_T70 l0 x14_1).f1) ((rd_T70 l0 x14_1).f2) ((rd_T70 l0 x14_1).f3) ar au av aw ax ay az aA t340 t341 t342 t343 t344 t345 t346 t347 t348 t349 t350 t351 _ ?side1 ?side2 ?side3 A63.out).mono ?_); (case side1 => (with_reducible repeat first|refine blk_drewN ?_ _|refine blk_drew ?_|refine blk_alloc ?_ _); exact BK336.out); (case side2 => exact own_open z11_6); (case side3 => exact own_open z11_7); rintro e w69 ⟨rfl, hb⟩; refine ⟨_, rfl, ?_⟩; replace ab := Aside0.mk (Kd.R_below z11_6 hb); replace aa := Aside0.mk (Kd.R_below z11_7 hb); replace BK336 := Aside0.mk (blk_below (g := gb336) (o := .cells #[u337000, u337001] 81 (0, 0)) (zL11 BK336.out) hb); replace BK338 := Aside0.mk (blk_below (g := gb338) (o := .cells #[.int .i64 ((rd_T70 l0 x14_1).f0), .int .i64 ((rd_T70 l0 x14_1).f1), .int .i64 ((rd_T70 l0 x14_1).f2), .int .i64 ((rd_T70 l0 x14_1).f3)] 70 (0, 0)) (zL11 BK338.out) hb); replace BK339 := Aside0.mk (blk_below (g := gb339) (o := .cells #[.int .i64 ((rd_T70 l0 x14_1).f0), .int .i64 ((rd_T70 l0 x14_1).f1), .int .i64 ((rd_T70 l0 x14_1).f2), .int .i64 ((rd_T70 l0 x14_1).f3), .int .i64 ar, .int .i64 au, .int .i64 av, .int .i64 aw, .int .i64 ax, .int .i64 ay, .int .i64 az, .int .i64 aA] 102 (0, 0)) (zL11 BK339.out) hb); replace HB := Aside0.mk (below_step z11_1 hb); (try clear hb); have cv : w69.cell? ⟨gb339, 0, none⟩ = some (.int .i64 ((rd_T70 l0 x14_1).f0)) := bA11 BK339 rfl; have cw := blk_frozen BK339.out 0; have cx : w69.cell? ⟨gb339, 1, none⟩ = some (.int .i64 ((rd_T70 l0 x14_1).f1)) := bA11 BK339 rfl; have cy := blk_frozen BK339.out 1; have cz : w69.cell? ⟨gb339, 2, none⟩ = some (.int .i64 ((rd_T70 l0 x14_1).f2)) := bA11 BK339 rfl; have cA := blk_frozen BK339.out 2; have cB : w69.cell? ⟨gb339, 3, none⟩ = some (.int .i64 ((rd_T70 l0 x14_1).f3)) := bA11 BK339 rfl; have cC := blk_frozen BK339.out 3; have cD : w69.cell? ⟨gb339, 4, none⟩ = some (.int .i64 ar) := bA11 BK339 rfl; have cE := blk_frozen BK339.out 4; have cF : w69.cell? ⟨gb339, 5, none⟩ = some (.int .i64 au) := bA11 BK339 rfl; have cG := blk_frozen BK339.out 5; have cH : w69.cell? ⟨gb339, 6, none⟩ = some (.int .i64 av) := bA11 BK339 rfl; have cI := blk_frozen BK339.out 6; have cJ : w69.cell? ⟨gb339, 7, none⟩ = some (.int .i64 aw) := bA11 BK339 rfl; have cK := blk_frozen BK339.out 7; have cL : w69.cell? ⟨gb339, 8, none⟩ = some (.int .i64 ax) := bA11 BK339 rfl; have cM := blk_frozen BK339.out 8; have cN : w69.cell? ⟨gb339, 9, none⟩ = some (.int .i64 ay) := bA11 BK339 rfl; have cO := blk_frozen BK339.out 9; have bJ : w69.cell? ⟨gb339, 10, none⟩ = some (.int .i64 az) := bA11 BK339 rfl; have bK := blk_frozen BK339.out 10; have bL : w69.cell? ⟨gb339, 11, none⟩ = some (.int .i64 aA) := bA11 BK339 rfl; have bM := blk_frozen BK339.out 11) | ((with_reducible refine gate_store (t := 102) (p := 6) rfl ?_); refine store_event (t := 102) (p := 6) (v := ?vo_w82) (w1 := ((((((((((((w69.setCell ⟨gb339, 0, none⟩ (.int .i64 t340)).setCell ⟨gb339, 1, none⟩ (.int .i64 t341)).setCell ⟨gb339, 2, none⟩ (.int .i64 t342)).setCell ⟨gb339, 3, none⟩ (.int .i64 t343)).setCell ⟨gb339, 4, none⟩ (.int .i64 t344)).setCell ⟨gb339, 5, none⟩ (.int .i64 t345)).setCell ⟨gb339, 6, none⟩ (.int .i64 t346)).setCell ⟨gb339, 7, none⟩ (.int .i64 t347)).setCell ⟨gb339, 8, none⟩ (.int .i64 t348)).setCell ⟨gb339, 9, none⟩ (.int .i64 t349)).setCell ⟨gb339, 10, none⟩ (.int .i64 t350)).setCell ⟨gb339, 11, none⟩ (.int .i64 t351))) ?hg ?ho ?hn ?hr ?_; (case ho => rfl); (case hg => rfl); (case hn => rfl); (case hr => first | (go_simp; done) | (go_simp; rfl)); intro w82 hw; have n0_ : Aside0 (Kd.R k102 102 w82 w.heap.size (fun k_ => k_ ≠ gb339) u337000 ad) := ⟨z11_9⟩; have n1_ : Aside0 (Kd.R (Kd.int .i64) 3 w82 w.heap.size (fun _ => True) u337001 ac) := ⟨z11_10⟩; have n2_ : Aside0 (w82.heap[gb336]? = some (.cells #[u337000, u337001] 81 (0, 0))) := ⟨z11_4⟩; have n3_ : Aside0 (w82.heap[gb338]? = some (.cells #[.int .i64 ((rd_T70 l0 x14_1).f0), .int .i64 ((rd_T70 l0 x14_1).f1), .int .i64 ((rd_T70 l0 x14_1).f2), .int .i64 ((rd_T70 l0 x14_1).f3)] 70 (0, 0))) := ⟨z11_5⟩; have n4_ : Aside0 (w82.heap[gb339]? = some (.cells #[.int .i64 t340, .int .i64 t341, .int .i64 t342, .int .i64 t343, .int .i64 t344, .int .i64 t345, .int .i64 t346, .int .i64 t347, .int .i64 t348, .int .i64 t349, .int .i64 t350, .int .i64 t351] 102 (0, 0))) := ⟨(by rw [hw]; exact (bZ BK339.out))⟩; have n5_ : Aside0 (Below w.heap.size w w82) := ⟨(by rw [hw]; exact z11_1)⟩; clear hw; clear ab; clear aa; clear BK336; clear BK338; clear BK339; clear HB; have ab := n0_; have aa := n1_; have BK336 := n2_; have BK338 := n3_; have BK339 := n4_; have HB := n5_; clear n0_ n1_ n2_ n3_ n4_ n5_; have cP : w82.cell? ⟨gb339, 0, none⟩ = some (.int .i64 t340) := bA11 BK339 rfl; have cQ : w82.cell? ⟨gb339, 1, none⟩ = some (.int .i64 t341) := bA11 BK339 rfl; have cR : w82.cell? ⟨gb339, 2, none⟩ = some (.int .i64 t342) := bA11 BK339 rfl; have cS : w82.cell? ⟨gb339, 3, none⟩ = some (.int .i64 t343) := bA11 BK339 rfl; have cT := blk_frozen BK339.out 0; have cU := blk_frozen BK339.out 1; have cV := blk_frozen BK339.out 2; have cW := blk_frozen BK339.out 3) | ((with_reducible refine gate_callee (f := 60) rfl ?_); refine goesL_ (some 29) rfl rfl Try.func60 (by kernel_rfl) rfl #[.agg #[.int .i64 t340, .int .i64 t341, .int .i64 t342, .int .i64 t343]] rfl z11_8 ?_; (with_reducible refine (impl_vector_lead.calls t340 t341 t342 t343 t352 _ A64.out).mono ?_); rintro e w84 ⟨rfl, hb⟩; refine ⟨_, rfl, ?_⟩; replace ab := Aside0.mk (Kd.R_below z11_6 hb); replace aa := Aside0.mk (Kd.R_below z11_7 hb); replace BK336 := Aside0.mk (blk_below (g := gb336) (o := .cells #[u337000, u337001] 81 (0, 0)) (zL11 BK336.out) hb); replace BK338 := Aside0.mk (blk_below (g := gb338) (o := .cells #[.int .i64 ((rd_T70 l0 x14_1).f0), .int .i64 ((rd_T70 l0 x14_1).f1), .int .i64 ((rd_T70 l0 x14_1).f2), .int .i64 ((rd_T70 l0 x14_1).f3)] 70 (0, 0)) (zL11 BK338.out) hb); replace BK339 := Aside0.mk (blk_below (g := gb339) (o := .cells #[.int .i64 t340, .int .i64 t341, .int .i64 t342, .int .i64 t343, .int .i64 t344, .int .i64 t345, .int .i64 t346, .int .i64 t347, .int .i64 t348, .int .i64 t349, .int .i64 t350, .int .i64 t351] 102 (0, 0)) (zL11 BK339.out) hb); replace HB := Aside0.mk (below_step z11_1 hb); (try clear hb)))
       go_roundg kj5
       case measure => have := HK1.out; have := HJ5.out; omega
       case rel => exact ⟨(wrap64 (x14_1 + 1)), (ad), (ac), (u337000), (u337001), z11_16, H', ⟨by have := HK1.out; have := HJ5.out; omega⟩, ⟨by (with_reducible repeat (first | apply Kd.R_alloc | apply Kd.R_drewN | apply Kd.R_drew)); exact Kd.R_mono ab.out (fun _ hk => trivial)⟩, ⟨z11_7⟩, ⟨zL11 BK336.out⟩, ⟨z11_1⟩⟩
      ·rw [if_neg c65] at H
       have c65b0 : decide (t352 < 0) = false := decide_eq_false c65
       clear c65
       have HC85 := Aside0.mk H
       clear H
       have hnb86 := ag.out
       have hnc86 := ae.out
       have hnb87 := ap.out
       have hnc87 := af.out
       have cX : wc.cell? ⟨gb339, 0, none⟩ = some (.int .i64 ((rd_T70 l0 x14_1).f0)) := bA11 BK339 rfl
       have cY : wc.cell? ⟨gb339, 1, none⟩ = some (.int .i64 ((rd_T70 l0 x14_1).f1)) := bA11 BK339 rfl
       have cZ : wc.cell? ⟨gb339, 2, none⟩ = some (.int .i64 ((rd_T70 l0 x14_1).f2)) := bA11 BK339 rfl
       have c2 : wc.cell? ⟨gb339, 3, none⟩ = some (.int .i64 ((rd_T70 l0 x14_1).f3)) := bA11 BK339 rfl
       have c7 : wc.cell? ⟨gb339, 4, none⟩ = some (.int .i64 ar) := bA11 BK339 rfl
       have da : wc.cell? ⟨gb339, 5, none⟩ = some (.int .i64 au) := bA11 BK339 rfl
       have db : wc.cell? ⟨gb339, 6, none⟩ = some (.int .i64 av) := bA11 BK339 rfl
       have dc : wc.cell? ⟨gb339, 7, none⟩ = some (.int .i64 aw) := bA11 BK339 rfl
       have dd : wc.cell? ⟨gb339, 8, none⟩ = some (.int .i64 ax) := bA11 BK339 rfl
       have de : wc.cell? ⟨gb339, 9, none⟩ = some (.int .i64 ay) := bA11 BK339 rfl
       have bN : wc.cell? ⟨gb339, 10, none⟩ = some (.int .i64 az) := bA11 BK339 rfl
       have bO : wc.cell? ⟨gb339, 11, none⟩ = some (.int .i64 aA) := bA11 BK339 rfl
       have df := blk_frozen BK339.out 0
       have dg := blk_frozen BK339.out 1
       have dh := blk_frozen BK339.out 2
       have di := blk_frozen BK339.out 3
       have dj := blk_frozen BK339.out 4
       have dk := blk_frozen BK339.out 5
       have dl := blk_frozen BK339.out 6
       have dm := blk_frozen BK339.out 7
       have dn := blk_frozen BK339.out 8
       have dp := blk_frozen BK339.out 9
       have bP := blk_frozen BK339.out 10
       have bQ := blk_frozen BK339.out 11
       go_upto_region 10 with (first | ((with_reducible refine gate_callee (f := 102) rfl ?_); refine goesL_ (some 26) rfl rfl Try.func102 (by kernel_rfl) rfl #[.pointer (some ⟨gb336, 0, none⟩), .agg #[.int .i64 ((rd_T70 l0 x14_1).f0), .int .i64 ((rd_T70 l0 x14_1).f1), .int .i64 ((rd_T70 l0 x14_1).f2), .int .i64 ((rd_T70 l0 x14_1).f3), .int .i64 ar, .int .i64 au, .int .i64 av, .int .i64 aw, .int .i64 ax, .int .i64 ay, .int .i64 az, .int .i64 aA]] rfl z11_8 ?_; (with_reducible refine (impl_span_lessB.calls kj5 u337000 ad u337001 ac ((rd_T70 l0 x14_1).f0) ((rd_T70 l0 x14_1).f1) ((rd_T70 l0 x14_1).f2) ((rd_T70 l0 x14_1).f3) ar au av aw ax ay az aA t340 t341 t342 t343 t344 t345 t346 t347 t348 t349 t350 t351 _ ?side1 ?side2 ?side3 A63.out).mono ?_); (case side1 => (with_reducible repeat first|refine blk_drewN ?_ _|refine blk_drew ?_|refine blk_alloc ?_ _); exact BK336.out); (case side2 => exact own_open z11_6); (case side3 => exact own_open z11_7); rintro e w89 ⟨rfl, hb⟩; refine ⟨_, rfl, ?_⟩; replace ab := Aside0.mk (Kd.R_below z11_6 hb); replace aa := Aside0.mk (Kd.R_below z11_7 hb); replace BK336 := Aside0.mk (blk_below (g := gb336) (o := .cells #[u337000, u337001] 81 (0, 0)) (zL11 BK336.out) hb); replace BK338 := Aside0.mk (blk_below (g := gb338) (o := .cells #[.int .i64 ((rd_T70 l0 x14_1).f0), .int .i64 ((rd_T70 l0 x14_1).f1), .int .i64 ((rd_T70 l0 x14_1).f2), .int .i64 ((rd_T70 l0 x14_1).f3)] 70 (0, 0)) (zL11 BK338.out) hb); replace BK339 := Aside0.mk (blk_below (g := gb339) (o := .cells #[.int .i64 ((rd_T70 l0 x14_1).f0), .int .i64 ((rd_T70 l0 x14_1).f1), .int .i64 ((rd_T70 l0 x14_1).f2), .int .i64 ((rd_T70 l0 x14_1).f3), .int .i64 ar, .int .i64 au, .int .i64 av, .int .i64 aw, .int .i64 ax, .int .i64 ay, .int .i64 az, .int .i64 aA] 102 (0, 0)) (zL11 BK339.out) hb); replace HB := Aside0.mk (below_step z11_1 hb); (try clear hb); have dq : w89.cell? ⟨gb339, 0, none⟩ = some (.int .i64 ((rd_T70 l0 x14_1).f0)) := bA11 BK339 rfl; have dr := blk_frozen BK339.out 0; have dt : w89.cell? ⟨gb339, 1, none⟩ = some (.int .i64 ((rd_T70 l0 x14_1).f1)) := bA11 BK339 rfl; have du := blk_frozen BK339.out 1; have dv : w89.cell? ⟨gb339, 2, none⟩ = some (.int .i64 ((rd_T70 l0 x14_1).f2)) := bA11 BK339 rfl; have dw := blk_frozen BK339.out 2; have dx : w89.cell? ⟨gb339, 3, none⟩ = some (.int .i64 ((rd_T70 l0 x14_1).f3)) := bA11 BK339 rfl; have dy := blk_frozen BK339.out 3; have dz : w89.cell? ⟨gb339, 4, none⟩ = some (.int .i64 ar) := bA11 BK339 rfl; have dA := blk_frozen BK339.out 4; have dB : w89.cell? ⟨gb339, 5, none⟩ = some (.int .i64 au) := bA11 BK339 rfl; have dC := blk_frozen BK339.out 5; have dD : w89.cell? ⟨gb339, 6, none⟩ = some (.int .i64 av) := bA11 BK339 rfl; have dE := blk_frozen BK339.out 6; have dF : w89.cell? ⟨gb339, 7, none⟩ = some (.int .i64 aw) := bA11 BK339 rfl; have dG := blk_frozen BK339.out 7; have dH : w89.cell? ⟨gb339, 8, none⟩ = some (.int .i64 ax) := bA11 BK339 rfl; have dI := blk_frozen BK339.out 8; have dJ : w89.cell? ⟨gb339, 9, none⟩ = some (.int .i64 ay) := bA11 BK339 rfl; have dK := blk_frozen BK339.out 9; have aN : w89.cell? ⟨gb339, 10, none⟩ = some (.int .i64 az) := bA11 BK339 rfl; have aQ := blk_frozen BK339.out 10; have aR : w89.cell? ⟨gb339, 11, none⟩ = some (.int .i64 aA) := bA11 BK339 rfl; have aT := blk_frozen BK339.out 11) | ((with_reducible refine gate_store (t := 102) (p := 6) rfl ?_); refine store_event (t := 102) (p := 6) (v := ?vo_w102) (w1 := ((((((((((((w89.setCell ⟨gb339, 0, none⟩ (.int .i64 t340)).setCell ⟨gb339, 1, none⟩ (.int .i64 t341)).setCell ⟨gb339, 2, none⟩ (.int .i64 t342)).setCell ⟨gb339, 3, none⟩ (.int .i64 t343)).setCell ⟨gb339, 4, none⟩ (.int .i64 t344)).setCell ⟨gb339, 5, none⟩ (.int .i64 t345)).setCell ⟨gb339, 6, none⟩ (.int .i64 t346)).setCell ⟨gb339, 7, none⟩ (.int .i64 t347)).setCell ⟨gb339, 8, none⟩ (.int .i64 t348)).setCell ⟨gb339, 9, none⟩ (.int .i64 t349)).setCell ⟨gb339, 10, none⟩ (.int .i64 t350)).setCell ⟨gb339, 11, none⟩ (.int .i64 t351))) ?hg ?ho ?hn ?hr ?_; (case ho => rfl); (case hg => rfl); (case hn => rfl); (case hr => first | (go_simp; done) | (go_simp; rfl)); intro w102 hw; have n0_ : Aside0 (Kd.R k102 102 w102 w.heap.size (fun k_ => k_ ≠ gb339) u337000 ad) := ⟨z11_9⟩; have n1_ : Aside0 (Kd.R (Kd.int .i64) 3 w102 w.heap.size (fun _ => True) u337001 ac) := ⟨z11_10⟩; have n2_ : Aside0 (w102.heap[gb336]? = some (.cells #[u337000, u337001] 81 (0, 0))) := ⟨z11_4⟩; have n3_ : Aside0 (w102.heap[gb338]? = some (.cells #[.int .i64 ((rd_T70 l0 x14_1).f0), .int .i64 ((rd_T70 l0 x14_1).f1), .int .i64 ((rd_T70 l0 x14_1).f2), .int .i64 ((rd_T70 l0 x14_1).f3)] 70 (0, 0))) := ⟨z11_5⟩; have n4_ : Aside0 (w102.heap[gb339]? = some (.cells #[.int .i64 t340, .int .i64 t341, .int .i64 t342, .int .i64 t343, .int .i64 t344, .int .i64 t345, .int .i64 t346, .int .i64 t347, .int .i64 t348, .int .i64 t349, .int .i64 t350, .int .i64 t351] 102 (0, 0))) := ⟨(by rw [hw]; exact (bZ BK339.out))⟩; have n5_ : Aside0 (Below w.heap.size w w102) := ⟨(by rw [hw]; exact z11_1)⟩; clear hw; clear ab; clear aa; clear BK336; clear BK338; clear BK339; clear HB; have ab := n0_; have aa := n1_; have BK336 := n2_; have BK338 := n3_; have BK339 := n4_; have HB := n5_; clear n0_ n1_ n2_ n3_ n4_ n5_; have bR : w102.cell? ⟨gb339, 0, none⟩ = some (.int .i64 t340) := bA11 BK339 rfl; have bS : w102.cell? ⟨gb339, 1, none⟩ = some (.int .i64 t341) := bA11 BK339 rfl; have bT : w102.cell? ⟨gb339, 2, none⟩ = some (.int .i64 t342) := bA11 BK339 rfl; have bU : w102.cell? ⟨gb339, 3, none⟩ = some (.int .i64 t343) := bA11 BK339 rfl; have bV := blk_frozen BK339.out 0; have bW := blk_frozen BK339.out 1; have bX := blk_frozen BK339.out 2; have bY := blk_frozen BK339.out 3) | ((with_reducible refine gate_callee (f := 60) rfl ?_); refine goesL_ (some 29) rfl rfl Try.func60 (by kernel_rfl) rfl #[.agg #[.int .i64 t340, .int .i64 t341, .int .i64 t342, .int .i64 t343]] rfl z11_8 ?_; (with_reducible refine (impl_vector_lead.calls t340 t341 t342 t343 t352 _ A64.out).mono ?_); rintro e w104 ⟨rfl, hb⟩; refine ⟨_, rfl, ?_⟩; replace ab := Aside0.mk (Kd.R_below z11_6 hb); replace aa := Aside0.mk (Kd.R_below z11_7 hb); replace BK336 := Aside0.mk (blk_below (g := gb336) (o := .cells #[u337000, u337001] 81 (0, 0)) (zL11 BK336.out) hb); replace BK338 := Aside0.mk (blk_below (g := gb338) (o := .cells #[.int .i64 ((rd_T70 l0 x14_1).f0), .int .i64 ((rd_T70 l0 x14_1).f1), .int .i64 ((rd_T70 l0 x14_1).f2), .int .i64 ((rd_T70 l0 x14_1).f3)] 70 (0, 0)) (zL11 BK338.out) hb); replace BK339 := Aside0.mk (blk_below (g := gb339) (o := .cells #[.int .i64 t340, .int .i64 t341, .int .i64 t342, .int .i64 t343, .int .i64 t344, .int .i64 t345, .int .i64 t346, .int .i64 t347, .int .i64 t348, .int .i64 t349, .int .i64 t350, .int .i64 t351] 102 (0, 0)) (zL11 BK339.out) hb); replace HB := Aside0.mk (below_step z11_1 hb); (try clear hb)))
       (try simp only [Act.put, List.setIfInBounds_toArray, List.set_cons_zero, List.set_cons_succ])
       go_cut [8] (fun v8 wc => ∃ (kq : Nat) (x8_84 : Int), v8 = .int .i64 x8_84 ∧ Aside0 (impl_spanOf.j2 kq x14_1 x8_84 l0 (l0.length : Int) x14_1 ad ac t340 t341 t342 t343 t344 t345 t346 t347 t348 t349 t350 t351 = some (r1, r2)) ∧ Aside0 (kq ≤ kj5) ∧ Aside0 (Kd.R k102 102 wc w.heap.size (fun k_ => k_ ≠ gb339) u337000 ad) ∧ Aside0 (Kd.R (Kd.int .i64) 3 wc w.heap.size (fun _ => True) u337001 ac) ∧ Aside0 (wc.heap[gb336]? = some (.cells #[u337000, u337001] 81 (0, 0))) ∧ Aside0 (wc.heap[gb338]? = some (.cells #[.int .i64 ((rd_T70 l0 x14_1).f0), .int .i64 ((rd_T70 l0 x14_1).f1), .int .i64 ((rd_T70 l0 x14_1).f2), .int .i64 ((rd_T70 l0 x14_1).f3)] 70 (0, 0))) ∧ Aside0 (wc.heap[gb339]? = some (.cells #[.int .i64 t340, .int .i64 t341, .int .i64 t342, .int .i64 t343, .int .i64 t344, .int .i64 t345, .int .i64 t346, .int .i64 t347, .int .i64 t348, .int .i64 t349, .int .i64 t350, .int .i64 t351] 102 (0, 0))) ∧ Aside0 (Below w.heap.size w wc))
       case first =>
        have H := HC85.out
        clear HC85
        by_cases c105 : t352 = 0
        ·rw [if_pos c105] at H
         subst c105
         replace H : ((impl_element_inverse.f kj5 t340).bind fun t353 => (impl_spanOf.j2 kj5 x14_1 t353 l0 (l0.length : Int) x14_1 ad ac t340 t341 t342 t343 t344 t345 t346 t347 t348 t349 t350 t351)) = some (r1, r2) := H
         replace H := Option.bind_eq_some_iff.mp H
         obtain ⟨t353, A1060, H⟩ := H
         replace H : (impl_spanOf.j2 kj5 x14_1 t353 l0 (l0.length : Int) x14_1 ad ac t340 t341 t342 t343 t344 t345 t346 t347 t348 t349 t350 t351) = some (r1, r2) := H
         have A106 := Aside0.mk A1060
         clear A1060
         have H' := Aside0.mk H
         clear H
         have hnb107 := ag.out
         have hnc107 := ae.out
         have hnb108 := ap.out
         have hnc108 := af.out
         have b0 : w104.cell? ⟨gb339, 0, none⟩ = some (.int .i64 t340) := bA11 BK339 rfl
         have b1 := blk_frozen BK339.out 0
         go_wp2_with (first | ((with_reducible refine gate_callee (f := 103) rfl ?_); refine goesL_ (some 36) rfl rfl Try.func103 (by kernel_rfl) rfl #[.int .i64 t340] rfl z11_8 ?_; (with_reducible refine (impl_element_inverse.calls kj5 t340 t353 _ A106.out).mono ?_); rintro e w' ⟨rfl, ⟨nd, rfl⟩⟩; refine ⟨_, rfl, ?_⟩))
         go_meet
         case rel => exact ⟨_, (t353), z11_16, H', ⟨z11_21⟩, ⟨z11_6⟩, ⟨z11_7⟩, ⟨zL11 BK336.out⟩, ⟨zL11 BK338.out⟩, ⟨zL11 BK339.out⟩, ⟨z11_1⟩⟩
        ·rw [if_neg c105] at H
         clear c105
         by_cases c110 : t352 = 1
         ·rw [if_pos c110] at H
          subst c110
          replace H : ((impl_element_inverse.f kj5 t341).bind fun t354 => (impl_spanOf.j2 kj5 x14_1 t354 l0 (l0.length : Int) x14_1 ad ac t340 t341 t342 t343 t344 t345 t346 t347 t348 t349 t350 t351)) = some (r1, r2) := H
          replace H := Option.bind_eq_some_iff.mp H
          obtain ⟨t354, A1110, H⟩ := H
          replace H : (impl_spanOf.j2 kj5 x14_1 t354 l0 (l0.length : Int) x14_1 ad ac t340 t341 t342 t343 t344 t345 t346 t347 t348 t349 t350 t351) = some (r1, r2) := H
          have A111 := Aside0.mk A1110
          clear A1110
          have H' := Aside0.mk H
          clear H
          have hnb112 := ag.out
          have hnc112 := ae.out
          have hnb113 := ap.out
          have hnc113 := af.out
          have b2 : w104.cell? ⟨gb339, 1, none⟩ = some (.int .i64 t341) := bA11 BK339 rfl
          have b3 := blk_frozen BK339.out 1
          go_wp2_with (first | ((with_reducible refine gate_callee (f := 103) rfl ?_); refine goesL_ (some 36) rfl rfl Try.func103 (by kernel_rfl) rfl #[.int .i64 t341] rfl z11_8 ?_; (with_reducible refine (impl_element_inverse.calls kj5 t341 t354 _ A111.out).mono ?_); rintro e w' ⟨rfl, ⟨nd, rfl⟩⟩; refine ⟨_, rfl, ?_⟩))
          go_meet
          case rel => exact ⟨_, (t354), z11_16, H', ⟨z11_21⟩, ⟨z11_6⟩, ⟨z11_7⟩, ⟨zL11 BK336.out⟩, ⟨zL11 BK338.out⟩, ⟨zL11 BK339.out⟩, ⟨z11_1⟩⟩
         ·rw [if_neg c110] at H
          clear c110
          by_cases c115 : t352 = 2
          ·rw [if_pos c115] at H
           subst c115
           replace H : ((impl_element_inverse.f kj5 t342).bind fun t355 => (impl_spanOf.j2 kj5 x14_1 t355 l0 (l0.length : Int) x14_1 ad ac t340 t341 t342 t343 t344 t345 t346 t347 t348 t349 t350 t351)) = some (r1, r2) := H
           replace H := Option.bind_eq_some_iff.mp H
           obtain ⟨t355, A1160, H⟩ := H
           replace H : (impl_spanOf.j2 kj5 x14_1 t355 l0 (l0.length : Int) x14_1 ad ac t340 t341 t342 t343 t344 t345 t346 t347 t348 t349 t350 t351) = some (r1, r2) := H
           have A116 := Aside0.mk A1160
           clear A1160
           have H' := Aside0.mk H
           clear H
           have hnb117 := ag.out
           have hnc117 := ae.out
           have hnb118 := ap.out
           have hnc118 := af.out
           have b4 : w104.cell? ⟨gb339, 2, none⟩ = some (.int .i64 t342) := bA11 BK339 rfl
           have b5 := blk_frozen BK339.out 2
           go_wp2_with (first | ((with_reducible refine gate_callee (f := 103) rfl ?_); refine goesL_ (some 36) rfl rfl Try.func103 (by kernel_rfl) rfl #[.int .i64 t342] rfl z11_8 ?_; (with_reducible refine (impl_element_inverse.calls kj5 t342 t355 _ A116.out).mono ?_); rintro e w' ⟨rfl, ⟨nd, rfl⟩⟩; refine ⟨_, rfl, ?_⟩))
           go_meet
           case rel => exact ⟨_, (t355), z11_16, H', ⟨z11_21⟩, ⟨z11_6⟩, ⟨z11_7⟩, ⟨zL11 BK336.out⟩, ⟨zL11 BK338.out⟩, ⟨zL11 BK339.out⟩, ⟨z11_1⟩⟩
          ·rw [if_neg c115] at H
           clear c115
           obtain ⟨c120, H⟩ := ifP H
           subst c120
           replace H : ((impl_element_inverse.f kj5 t343).bind fun t356 => (impl_spanOf.j2 kj5 x14_1 t356 l0 (l0.length : Int) x14_1 ad ac t340 t341 t342 t343 t344 t345 t346 t347 t348 t349 t350 t351)) = some (r1, r2) := H
           replace H := Option.bind_eq_some_iff.mp H
           obtain ⟨t356, A1210, H⟩ := H
           replace H : (impl_spanOf.j2 kj5 x14_1 t356 l0 (l0.length : Int) x14_1 ad ac t340 t341 t342 t343 t344 t345 t346 t347 t348 t349 t350 t351) = some (r1, r2) := H
           have A121 := Aside0.mk A1210
           clear A1210
           have H' := Aside0.mk H
           clear H
           have hnb122 := ag.out
           have hnc122 := ae.out
           have hnb123 := ap.out
           have hnc123 := af.out
           have b6 : w104.cell? ⟨gb339, 3, none⟩ = some (.int .i64 t343) := bA11 BK339 rfl
           have b7 := blk_frozen BK339.out 3
           go_wp2_with (first | ((with_reducible refine gate_callee (f := 103) rfl ?_); refine goesL_ (some 36) rfl rfl Try.func103 (by kernel_rfl) rfl #[.int .i64 t343] rfl z11_8 ?_; (with_reducible refine (impl_element_inverse.calls kj5 t343 t356 _ A121.out).mono ?_); rintro e w' ⟨rfl, ⟨nd, rfl⟩⟩; refine ⟨_, rfl, ?_⟩))
           go_meet
           case rel => exact ⟨_, (t356), z11_16, H', ⟨z11_21⟩, ⟨z11_6⟩, ⟨z11_7⟩, ⟨zL11 BK336.out⟩, ⟨zL11 BK338.out⟩, ⟨zL11 BK339.out⟩, ⟨z11_1⟩⟩
       case rest =>
        clear HC85
        try clear c3
        try clear c3b0
        try clear c4
        try clear c4b0
        try clear c5
        try clear c5b0
        try clear c65
        try clear c65b0
        try clear aN
        try clear aR
        try clear bR bS bT bU
        try clear aU
        try clear aW
        try clear aY
        try clear a0 a1 a2 a3
        try clear a8
        try clear ba
        try clear bc
        try clear be
        try clear bg
        try clear bi
        try clear bk
        try clear bm
        try clear bo
        try clear bq
        try clear aD
        try clear aG
        try clear cX cY bN bO cZ c2 c7 da db dc dd de
        try clear dq
        try clear dt
        try clear dv
        try clear dx
        try clear dz
        try clear dB
        try clear dD
        try clear dF
        try clear dH
        try clear dJ
        try clear b8
        try clear aQ
        try clear aT
        try clear bV bW bX bY
        try clear aV
        try clear aX
        try clear aZ
        try clear a4 a5 a6 a7
        try clear a9
        try clear bb
        try clear bd
        try clear bf
        try clear bh
        try clear bj
        try clear bl
        try clear bn
        try clear bp
        try clear br
        try clear aE
        try clear aH
        try clear df dg bP bQ dh di dj dk dl dm dn dp
        try clear dr
        try clear du
        try clear dw
        try clear dy
        try clear dA
        try clear dC
        try clear dE
        try clear dG
        try clear dI
        try clear dK
        try clear b9
        try clear hx337_0 hx337_1 hx337_2 hx337_3
        try clear p337
        try clear q337
        obtain ⟨kq, x8_84, rfl, HA, HJ84, ab, aa, BK336, BK338, BK339, HB⟩ := hcut
        cases kq with
        | zero => exact absurd HA.out (by simp [impl_spanOf.j2])
        | succ kj84 =>
         have H := HA.out
         clear HA
         simp only [impl_spanOf.j2] at H
         replace H := Option.bind_eq_some_iff.mp H
         obtain ⟨⟨t357, t358, t359, t360⟩, A1250, H⟩ := H
         replace H : (impl_spanOf.l1 kj84 x14_1 x8_84 l0 (l0.length : Int) x14_1 0 ad ac t357 t358 t359 t360 t344 t345 t346 t347 t348 t349 t350 t351) = some (r1, r2) := H
         have A125 := Aside0.mk A1250
         clear A1250
         have H' := Aside0.mk H
         clear H
         have hnb126 := ag.out
         have hnc126 := ae.out
         have hnb127 := ap.out
         have hnc127 := af.out
         have dL : wc.cell? ⟨gb339, 0, none⟩ = some (.int .i64 t340) := bA11 BK339 rfl
         have dM : wc.cell? ⟨gb339, 1, none⟩ = some (.int .i64 t341) := bA11 BK339 rfl
         have dN : wc.cell? ⟨gb339, 2, none⟩ = some (.int .i64 t342) := bA11 BK339 rfl
         have dO : wc.cell? ⟨gb339, 3, none⟩ = some (.int .i64 t343) := bA11 BK339 rfl
         have dP := blk_frozen BK339.out 0
         have dQ := blk_frozen BK339.out 1
         have dR := blk_frozen BK339.out 2
         have dS := blk_frozen BK339.out 3
         go_wp2_with (first | ((with_reducible refine gate_callee (f := 93) rfl ?_); refine goesL_ (some 40) rfl rfl Try.func93 (by kernel_rfl) rfl #[.agg #[.int .i64 t340, .int .i64 t341, .int .i64 t342, .int .i64 t343], .int .i64 x8_84] rfl z11_8 ?_; (with_reducible refine (impl_vector_times.calls t340 t341 t342 t343 x8_84 t357 t358 t359 t360 _ A125.out).mono ?_); rintro e w129 ⟨rfl, hb⟩; refine ⟨_, rfl, ?_⟩; replace ab := Aside0.mk (Kd.R_below z11_6 hb); replace aa := Aside0.mk (Kd.R_below z11_7 hb); replace BK336 := Aside0.mk (blk_below (g := gb336) (o := .cells #[u337000, u337001] 81 (0, 0)) (zL11 BK336.out) hb); replace BK338 := Aside0.mk (blk_below (g := gb338) (o := .cells #[.int .i64 ((rd_T70 l0 x14_1).f0), .int .i64 ((rd_T70 l0 x14_1).f1), .int .i64 ((rd_T70 l0 x14_1).f2), .int .i64 ((rd_T70 l0 x14_1).f3)] 70 (0, 0)) (zL11 BK338.out) hb); replace BK339 := Aside0.mk (blk_below (g := gb339) (o := .cells #[.int .i64 t340, .int .i64 t341, .int .i64 t342, .int .i64 t343, .int .i64 t344, .int .i64 t345, .int .i64 t346, .int .i64 t347, .int .i64 t348, .int .i64 t349, .int .i64 t350, .int .i64 t351] 102 (0, 0)) (zL11 BK339.out) hb); replace HB := Aside0.mk (below_step z11_1 hb); (try clear hb); have dT : w129.cell? ⟨gb339, 0, none⟩ = some (.int .i64 t340) := bA11 BK339 rfl; have dU := blk_frozen BK339.out 0; have dV : w129.cell? ⟨gb339, 1, none⟩ = some (.int .i64 t341) := bA11 BK339 rfl; have dW := blk_frozen BK339.out 1; have dX : w129.cell? ⟨gb339, 2, none⟩ = some (.int .i64 t342) := bA11 BK339 rfl; have dY := blk_frozen BK339.out 2; have dZ : w129.cell? ⟨gb339, 3, none⟩ = some (.int .i64 t343) := bA11 BK339 rfl; have d0 := blk_frozen BK339.out 3) | ((with_reducible refine gate_store (t := 70) (p := 41) rfl ?_); refine store_event (t := 70) (p := 41) (v := ?vo_w134) (w1 := ((((w129.setCell ⟨gb339, 0, none⟩ (.int .i64 t357)).setCell ⟨gb339, 1, none⟩ (.int .i64 t358)).setCell ⟨gb339, 2, none⟩ (.int .i64 t359)).setCell ⟨gb339, 3, none⟩ (.int .i64 t360))) ?hg ?ho ?hn ?hr ?_; (case ho => rfl); (case hg => rfl); (case hn => rfl); (case hr => first | (go_simp; done) | (go_simp; rfl)); intro w134 hw; have n0_ : Aside0 (Kd.R k102 102 w134 w.heap.size (fun k_ => k_ ≠ gb339) u337000 ad) := ⟨(by rw [hw]; exact (by (with_reducible repeat (first | apply Kd.R_alloc | apply Kd.R_drewN | apply Kd.R_drew)); exact Kd.R_mono (Kd.R_far (p := ⟨gb339, 3, none⟩) (Kd.R_far (p := ⟨gb339, 2, none⟩) (Kd.R_far (p := ⟨gb339, 1, none⟩) (Kd.R_far (p := ⟨gb339, 0, none⟩) (Kd.R_mono ab.out (fun k_ hk => (⟨hk, hk⟩ : _ ∧ k_ ≠ gb339))) (fun _ hk => hk.2) (.int .i64 t357)) (fun _ hk => hk.2) (.int .i64 t358)) (fun _ hk => hk.2) (.int .i64 t359)) (fun _ hk => hk.2) (.int .i64 t360)) (fun _ hk => hk.1)))⟩; have n1_ : Aside0 (Kd.R (Kd.int .i64) 3 w134 w.heap.size (fun _ => True) u337001 ac) := ⟨(by rw [hw]; exact (by (with_reducible repeat (first | apply Kd.R_alloc | apply Kd.R_drewN | apply Kd.R_drew)); exact Kd.R_mono (Kd.R_far (p := ⟨gb339, 3, none⟩) (Kd.R_far (p := ⟨gb339, 2, none⟩) (Kd.R_far (p := ⟨gb339, 1, none⟩) (Kd.R_far (p := ⟨gb339, 0, none⟩) (Kd.R_types aa.out BK339.out (by decide)) (fun _ hk => hk.2) (.int .i64 t357)) (fun _ hk => hk.2) (.int .i64 t358)) (fun _ hk => hk.2) (.int .i64 t359)) (fun _ hk => hk.2) (.int .i64 t360)) (fun _ hk => trivial)))⟩; have n2_ : Aside0 (w134.heap[gb336]? = some (.cells #[u337000, u337001] 81 (0, 0))) := ⟨(by rw [hw]; exact (by (with_reducible repeat first|refine blk_drewN ?_ _|refine blk_drew ?_|refine blk_alloc ?_ _); refine blk_far ?_ ae.out _; (with_reducible repeat first|refine blk_drewN ?_ _|refine blk_drew ?_|refine blk_alloc ?_ _); refine blk_far ?_ ae.out _; (with_reducible repeat first|refine blk_drewN ?_ _|refine blk_drew ?_|refine blk_alloc ?_ _); refine blk_far ?_ ae.out _; (with_reducible repeat first|refine blk_drewN ?_ _|refine blk_drew ?_|refine blk_alloc ?_ _); refine blk_far ?_ ae.out _; (with_reducible repeat first|refine blk_drewN ?_ _|refine blk_drew ?_|refine blk_alloc ?_ _); exact BK336.out))⟩; have n3_ : Aside0 (w134.heap[gb338]? = some (.cells #[.int .i64 ((rd_T70 l0 x14_1).f0), .int .i64 ((rd_T70 l0 x14_1).f1), .int .i64 ((rd_T70 l0 x14_1).f2), .int .i64 ((rd_T70 l0 x14_1).f3)] 70 (0, 0))) := ⟨(by rw [hw]; exact (by (with_reducible repeat first|refine blk_drewN ?_ _|refine blk_drew ?_|refine blk_alloc ?_ _); refine blk_far ?_ af.out _; (with_reducible repeat first|refine blk_drewN ?_ _|refine blk_drew ?_|refine blk_alloc ?_ _); refine blk_far ?_ af.out _; (with_reducible repeat first|refine blk_drewN ?_ _|refine blk_drew ?_|refine blk_alloc ?_ _); refine blk_far ?_ af.out _; (with_reducible repeat first|refine blk_drewN ?_ _|refine blk_drew ?_|refine blk_alloc ?_ _); refine blk_far ?_ af.out _; (with_reducible repeat first|refine blk_drewN ?_ _|refine blk_drew ?_|refine blk_alloc ?_ _); exact BK338.out))⟩; have n4_ : Aside0 (w134.heap[gb339]? = some (.cells #[.int .i64 t357, .int .i64 t358, .int .i64 t359, .int .i64 t360, .int .i64 t344, .int .i64 t345, .int .i64 t346, .int .i64 t347, .int .i64 t348, .int .i64 t349, .int .i64 t350, .int .i64 t351] 102 (0, 0))) := ⟨(by rw [hw]; exact (bZ BK339.out))⟩; have n5_ : Aside0 (Below w.heap.size w w134) := ⟨(by rw [hw]; exact z11_1)⟩; clear hw; clear ab; clear aa; clear BK336; clear BK338; clear BK339; clear HB; have ab := n0_; have aa := n1_; have BK336 := n2_; have BK338 := n3_; have BK339 := n4_; have HB := n5_; clear n0_ n1_ n2_ n3_ n4_ n5_))
         go_loopg [42] kj84 (fun kq v42 w' => ∃ (x42_4 : Int) (ah : Int) (ai : Int) (aj : Int) (ak : Int) (al : Int) (am : Int) (an : Int) (ao : Int), v42 = .int .i64 x42_4 ∧ Aside0 (impl_spanOf.l1 kq x14_1 x8_84 l0 (l0.length : Int) x14_1 x42_4 ad ac t357 t358 t359 t360 ah ai aj ak al am an ao = some (r1, r2)) ∧ Aside0 (kq ≤ kj84) ∧ Aside0 (Kd.R k102 102 w' w.heap.size (fun k_ => k_ ≠ gb339) u337000 ad) ∧ Aside0 (Kd.R (Kd.int .i64) 3 w' w.heap.size (fun _ => True) u337001 ac) ∧ Aside0 (w'.heap[gb336]? = some (.cells #[u337000, u337001] 81 (0, 0))) ∧ Aside0 (w'.heap[gb338]? = some (.cells #[.int .i64 ((rd_T70 l0 x14_1).f0), .int .i64 ((rd_T70 l0 x14_1).f1), .int .i64 ((rd_T70 l0 x14_1).f2), .int .i64 ((rd_T70 l0 x14_1).f3)] 70 (0, 0))) ∧ Aside0 (w'.heap[gb339]? = some (.cells #[.int .i64 t357, .int .i64 t358, .int .i64 t359, .int .i64 t360, .int .i64 ah, .int .i64 ai, .int .i64 aj, .int .i64 ak, .int .i64 al, .int .i64 am, .int .i64 an, .int .i64 ao] 102 (0, 0))) ∧ Aside0 (Below w.heap.size w w'))
         case atStart => exact ⟨(0), (t344), (t345), (t346), (t347), (t348), (t349), (t350), (t351), z11_16, H', ⟨Nat.le_refl _⟩, ⟨z11_6⟩, ⟨z11_7⟩, ⟨zL11 BK336.out⟩, ⟨zL11 BK338.out⟩, ⟨zL11 BK339.out⟩, ⟨z11_1⟩⟩
         case round =>
          clear H'
          try clear c3
          try clear c3b0
          try clear c4
          try clear c4b0
          try clear c5
          try clear c5b0
          try clear c65
          try clear c65b0
          try clear aN
          try clear aR
          try clear bR bS bT bU
          try clear aU
          try clear aW
          try clear dL dM dN dO
          try clear aY
          try clear dT
          try clear dV
          try clear dX
          try clear dZ
          try clear a0 a1 a2 a3
          try clear a8
          try clear ba
          try clear bc
          try clear be
          try clear bg
          try clear bi
          try clear bk
          try clear bm
          try clear bo
          try clear bq
          try clear aD
          try clear aG
          try clear cX cY bN bO cZ c2 c7 da db dc dd de
          try clear dq
          try clear dt
          try clear dv
          try clear dx
          try clear dz
          try clear dB
          try clear dD
          try clear dF
          try clear dH
          try clear dJ
          try clear b8
          try clear aQ
          try clear aT
          try clear bV bW bX bY
          try clear aV
          try clear aX
          try clear dP dQ dR dS
          try clear aZ
          try clear dU
          try clear dW
          try clear dY
          try clear d0
          try clear a4 a5 a6 a7
          try clear a9
          try clear bb
          try clear bd
          try clear bf
          try clear bh
          try clear bj
          try clear bl
          try clear bn
          try clear bp
          try clear br
          try clear aE
          try clear aH
          try clear df dg bP bQ dh di dj dk dl dm dn dp
          try clear dr
          try clear du
          try clear dw
          try clear dy
          try clear dA
          try clear dC
          try clear dE
          try clear dG
          try clear dI
          try clear dK
          try clear b9
          try clear hx337_0 hx337_1 hx337_2 hx337_3
          try clear p337
          try clear q337
          obtain ⟨x42_4, ah, ai, aj, ak, al, am, an, ao, rfl, HA, HK4, ab, aa, BK336, BK338, BK339, HB⟩ := hrel
          cases gk with
          | zero => exact absurd HA.out (by simp [impl_spanOf.l1])
          | succ k4 =>
           have H := HA.out
           clear HA
           simp only [impl_spanOf.l1] at H
           by_cases c135 : x42_4 < 8
           ·rw [if_pos c135] at H
            have c135b0 : decide (x42_4 < 8) = true := decide_eq_true c135
            clear c135
            by_cases c136 : x42_4 = 0
            ·rw [if_pos c136] at H
             subst c136
             replace H : ((impl_element_times.f ah x8_84).bind fun t361 => (impl_spanOf.l1 k4 x14_1 x8_84 l0 (l0.length : Int) x14_1 (wrap64 ((0 : Int) + 1)) ad ac t357 t358 t359 t360 t361 ai aj ak al am an ao)) = some (r1, r2) := H
             replace H := Option.bind_eq_some_iff.mp H
             obtain ⟨t361, A1370, H⟩ := H
             replace H : (impl_spanOf.l1 k4 x14_1 x8_84 l0 (l0.length : Int) x14_1 (wrap64 ((0 : Int) + 1)) ad ac t357 t358 t359 t360 t361 ai aj ak al am an ao) = some (r1, r2) := H
             have A137 := Aside0.mk A1370
             clear A1370
             have H' := Aside0.mk H
             clear H
             have hnb138 := ag.out
             have hnc138 := ae.out
             have hnb139 := ap.out
             have hnc139 := af.out
             have hcz140_4 : wr.cell? ⟨gb339, 4, none⟩ = some (.int .i64 ah) := bA11 BK339 rfl
             have hfz140_4 := blk_frozen BK339.out 4
             go_wp2_with (first | ((with_reducible refine gate_callee (f := 104) rfl ?_); refine goesL_ (some 51) rfl rfl Try.func104 (by kernel_rfl) rfl #[.int .i64 ah, .int .i64 x8_84] rfl z11_8 ?_; (with_reducible refine (impl_element_times.calls ah x8_84 t361 _ A137.out).mono ?_); rintro e w' ⟨rfl, ⟨nd, rfl⟩⟩; refine ⟨_, rfl, ?_⟩; (try (rw [drewN_self wr]; generalize hq_ : World.drewN wr _ = wr; have n0_ : Aside0 (Kd.R k102 102 wr w.heap.size (fun k_ => k_ ≠ gb339) u337000 ad) := ⟨z11_22⟩; have n1_ : Aside0 (Kd.R (Kd.int .i64) 3 wr w.heap.size (fun _ => True) u337001 ac) := ⟨z11_23⟩; have n2_ : Aside0 (wr.heap[gb336]? = some (.cells #[u337000, u337001] 81 (0, 0))) := ⟨z11_18⟩; have n3_ : Aside0 (wr.heap[gb338]? = some (.cells #[.int .i64 ((rd_T70 l0 x14_1).f0), .int .i64 ((rd_T70 l0 x14_1).f1), .int .i64 ((rd_T70 l0 x14_1).f2), .int .i64 ((rd_T70 l0 x14_1).f3)] 70 (0, 0))) := ⟨z11_19⟩; have n4_ : Aside0 (wr.heap[gb339]? = some (.cells #[.int .i64 t357, .int .i64 t358, .int .i64 t359, .int .i64 t360, .int .i64 ah, .int .i64 ai, .int .i64 aj, .int .i64 ak, .int .i64 al, .int .i64 am, .int .i64 an, .int .i64 ao] 102 (0, 0))) := ⟨z11_20⟩; have n5_ : Aside0 (Below w.heap.size w wr) := ⟨z11_24⟩; clear ab aa BK336 BK338 BK339 HB hq_; have ab := n0_; have aa := n1_; have BK336 := n2_; have BK338 := n3_; have BK339 := n4_; have HB := n5_; clear n0_ n1_ n2_ n3_ n4_ n5_; have hcr339_4 : wr.cell? ⟨gb339, 4, none⟩ = some (.int .i64 ah) := bA11 BK339 rfl; have hfr339_4 := blk_frozen BK339.out 4))))
             go_roundg k4
             case measure => have := HK1.out; have := HJ5.out; have := HJ84.out; have := HK4.out; omega
             case rel => exact ⟨(wrap64 ((0 : Int) + 1)), (t361), (ai), (aj), (ak), (al), (am), (an), (ao), z11_14, H', ⟨z11_13⟩, ⟨by (with_reducible repeat (first | apply Kd.R_alloc | apply Kd.R_drewN | apply Kd.R_drew)); exact Kd.R_mono (Kd.R_far (p := ⟨gb339, 4, none⟩) (Kd.R_mono ab.out (fun k_ hk => (⟨hk, hk⟩ : _ ∧ k_ ≠ gb339))) (fun _ hk => hk.2) (.int .i64 t361)) (fun _ hk => hk.1)⟩, ⟨by (with_reducible repeat (first | apply Kd.R_alloc | apply Kd.R_drewN | apply Kd.R_drew)); exact Kd.R_mono (Kd.R_far (p := ⟨gb339, 4, none⟩) (Kd.R_types aa.out BK339.out (by decide)) (fun _ hk => hk.2) (.int .i64 t361)) (fun _ hk => trivial)⟩, ⟨z11_2⟩, ⟨z11_3⟩, ⟨bZ BK339.out⟩, ⟨z11_1⟩⟩
            ·rw [if_neg c136] at H
             clear c136
             by_cases c142 : x42_4 = 1
             ·rw [if_pos c142] at H
              subst c142
              replace H : ((impl_element_times.f ai x8_84).bind fun t362 => (impl_spanOf.l1 k4 x14_1 x8_84 l0 (l0.length : Int) x14_1 (wrap64 ((1 : Int) + 1)) ad ac t357 t358 t359 t360 ah t362 aj ak al am an ao)) = some (r1, r2) := H
              replace H := Option.bind_eq_some_iff.mp H
              obtain ⟨t362, A1430, H⟩ := H
              replace H : (impl_spanOf.l1 k4 x14_1 x8_84 l0 (l0.length : Int) x14_1 (wrap64 ((1 : Int) + 1)) ad ac t357 t358 t359 t360 ah t362 aj ak al am an ao) = some (r1, r2) := H
              have A143 := Aside0.mk A1430
              clear A1430
              have H' := Aside0.mk H
              clear H
              have hnb144 := ag.out
              have hnc144 := ae.out
              have hnb145 := ap.out
              have hnc145 := af.out
              have hcz146_5 : wr.cell? ⟨gb339, 5, none⟩ = some (.int .i64 ai) := bA11 BK339 rfl
              have hfz146_5 := blk_frozen BK339.out 5
              go_wp2_with (first | ((with_reducible refine gate_callee (f := 104) rfl ?_); refine goesL_ (some 51) rfl rfl Try.func104 (by kernel_rfl) rfl #[.int .i64 ai, .int .i64 x8_84] rfl z11_8 ?_; (with_reducible refine (impl_element_times.calls ai x8_84 t362 _ A143.out).mono ?_); rintro e w' ⟨rfl, ⟨nd, rfl⟩⟩; refine ⟨_, rfl, ?_⟩; (try (rw [drewN_self wr]; generalize hq_ : World.drewN wr _ = wr; have n0_ : Aside0 (Kd.R k102 102 wr w.heap.size (fun k_ => k_ ≠ gb339) u337000 ad) := ⟨z11_22⟩; have n1_ : Aside0 (Kd.R (Kd.int .i64) 3 wr w.heap.size (fun _ => True) u337001 ac) := ⟨z11_23⟩; have n2_ : Aside0 (wr.heap[gb336]? = some (.cells #[u337000, u337001] 81 (0, 0))) := ⟨z11_18⟩; have n3_ : Aside0 (wr.heap[gb338]? = some (.cells #[.int .i64 ((rd_T70 l0 x14_1).f0), .int .i64 ((rd_T70 l0 x14_1).f1), .int .i64 ((rd_T70 l0 x14_1).f2), .int .i64 ((rd_T70 l0 x14_1).f3)] 70 (0, 0))) := ⟨z11_19⟩; have n4_ : Aside0 (wr.heap[gb339]? = some (.cells #[.int .i64 t357, .int .i64 t358, .int .i64 t359, .int .i64 t360, .int .i64 ah, .int .i64 ai, .int .i64 aj, .int .i64 ak, .int .i64 al, .int .i64 am, .int .i64 an, .int .i64 ao] 102 (0, 0))) := ⟨z11_20⟩; have n5_ : Aside0 (Below w.heap.size w wr) := ⟨z11_24⟩; clear ab aa BK336 BK338 BK339 HB hq_; have ab := n0_; have aa := n1_; have BK336 := n2_; have BK338 := n3_; have BK339 := n4_; have HB := n5_; clear n0_ n1_ n2_ n3_ n4_ n5_; have hcr339_5 : wr.cell? ⟨gb339, 5, none⟩ = some (.int .i64 ai) := bA11 BK339 rfl; have hfr339_5 := blk_frozen BK339.out 5))))
              go_roundg k4
              case measure => have := HK1.out; have := HJ5.out; have := HJ84.out; have := HK4.out; omega
              case rel => exact ⟨(wrap64 ((1 : Int) + 1)), (ah), (t362), (aj), (ak), (al), (am), (an), (ao), z11_14, H', ⟨z11_13⟩, ⟨by (with_reducible repeat (first | apply Kd.R_alloc | apply Kd.R_drewN | apply Kd.R_drew)); exact Kd.R_mono (Kd.R_far (p := ⟨gb339, 5, none⟩) (Kd.R_mono ab.out (fun k_ hk => (⟨hk, hk⟩ : _ ∧ k_ ≠ gb339))) (fun _ hk => hk.2) (.int .i64 t362)) (fun _ hk => hk.1)⟩, ⟨by (with_reducible repeat (first | apply Kd.R_alloc | apply Kd.R_drewN | apply Kd.R_drew)); exact Kd.R_mono (Kd.R_far (p := ⟨gb339, 5, none⟩) (Kd.R_types aa.out BK339.out (by decide)) (fun _ hk => hk.2) (.int .i64 t362)) (fun _ hk => trivial)⟩, ⟨z11_2⟩, ⟨z11_3⟩, ⟨bZ BK339.out⟩, ⟨z11_1⟩⟩
             ·rw [if_neg c142] at H
              clear c142
              by_cases c148 : x42_4 = 2
              ·rw [if_pos c148] at H
               subst c148
               replace H : ((impl_element_times.f aj x8_84).bind fun t363 => (impl_spanOf.l1 k4 x14_1 x8_84 l0 (l0.length : Int) x14_1 (wrap64 ((2 : Int) + 1)) ad ac t357 t358 t359 t360 ah ai t363 ak al am an ao)) = some (r1, r2) := H
               replace H := Option.bind_eq_some_iff.mp H
               obtain ⟨t363, A1490, H⟩ := H
               replace H : (impl_spanOf.l1 k4 x14_1 x8_84 l0 (l0.length : Int) x14_1 (wrap64 ((2 : Int) + 1)) ad ac t357 t358 t359 t360 ah ai t363 ak al am an ao) = some (r1, r2) := H
               have A149 := Aside0.mk A1490
               clear A1490
               have H' := Aside0.mk H
               clear H
               have hnb150 := ag.out
               have hnc150 := ae.out
               have hnb151 := ap.out
               have hnc151 := af.out
               have hcz152_6 : wr.cell? ⟨gb339, 6, none⟩ = some (.int .i64 aj) := bA11 BK339 rfl
               have hfz152_6 := blk_frozen BK339.out 6
               go_wp2_with (first | ((with_reducible refine gate_callee (f := 104) rfl ?_); refine goesL_ (some 51) rfl rfl Try.func104 (by kernel_rfl) rfl #[.int .i64 aj, .int .i64 x8_84] rfl z11_8 ?_; (with_reducible refine (impl_element_times.calls aj x8_84 t363 _ A149.out).mono ?_); rintro e w' ⟨rfl, ⟨nd, rfl⟩⟩; refine ⟨_, rfl, ?_⟩; (try (rw [drewN_self wr]; generalize hq_ : World.drewN wr _ = wr; have n0_ : Aside0 (Kd.R k102 102 wr w.heap.size (fun k_ => k_ ≠ gb339) u337000 ad) := ⟨z11_22⟩; have n1_ : Aside0 (Kd.R (Kd.int .i64) 3 wr w.heap.size (fun _ => True) u337001 ac) := ⟨z11_23⟩; have n2_ : Aside0 (wr.heap[gb336]? = some (.cells #[u337000, u337001] 81 (0, 0))) := ⟨z11_18⟩; have n3_ : Aside0 (wr.heap[gb338]? = some (.cells #[.int .i64 ((rd_T70 l0 x14_1).f0), .int .i64 ((rd_T70 l0 x14_1).f1), .int .i64 ((rd_T70 l0 x14_1).f2), .int .i64 ((rd_T70 l0 x14_1).f3)] 70 (0, 0))) := ⟨z11_19⟩; have n4_ : Aside0 (wr.heap[gb339]? = some (.cells #[.int .i64 t357, .int .i64 t358, .int .i64 t359, .int .i64 t360, .int .i64 ah, .int .i64 ai, .int .i64 aj, .int .i64 ak, .int .i64 al, .int .i64 am, .int .i64 an, .int .i64 ao] 102 (0, 0))) := ⟨z11_20⟩; have n5_ : Aside0 (Below w.heap.size w wr) := ⟨z11_24⟩; clear ab aa BK336 BK338 BK339 HB hq_; have ab := n0_; have aa := n1_; have BK336 := n2_; have BK338 := n3_; have BK339 := n4_; have HB := n5_; clear n0_ n1_ n2_ n3_ n4_ n5_; have hcr339_6 : wr.cell? ⟨gb339, 6, none⟩ = some (.int .i64 aj) := bA11 BK339 rfl; have hfr339_6 := blk_frozen BK339.out 6))))
               go_roundg k4
               case measure => have := HK1.out; have := HJ5.out; have := HJ84.out; have := HK4.out; omega
               case rel => exact ⟨(wrap64 ((2 : Int) + 1)), (ah), (ai), (t363), (ak), (al), (am), (an), (ao), z11_14, H', ⟨z11_13⟩, ⟨by (with_reducible repeat (first | apply Kd.R_alloc | apply Kd.R_drewN | apply Kd.R_drew)); exact Kd.R_mono (Kd.R_far (p := ⟨gb339, 6, none⟩) (Kd.R_mono ab.out (fun k_ hk => (⟨hk, hk⟩ : _ ∧ k_ ≠ gb339))) (fun _ hk => hk.2) (.int .i64 t363)) (fun _ hk => hk.1)⟩, ⟨by (with_reducible repeat (first | apply Kd.R_alloc | apply Kd.R_drewN | apply Kd.R_drew)); exact Kd.R_mono (Kd.R_far (p := ⟨gb339, 6, none⟩) (Kd.R_types aa.out BK339.out (by decide)) (fun _ hk => hk.2) (.int .i64 t363)) (fun _ hk => trivial)⟩, ⟨z11_2⟩, ⟨z11_3⟩, ⟨bZ BK339.out⟩, ⟨z11_1⟩⟩
              ·rw [if_neg c148] at H
               clear c148
               by_cases c154 : x42_4 = 3
               ·rw [if_pos c154] at H
                subst c154
                replace H : ((impl_element_times.f ak x8_84).bind fun t364 => (impl_spanOf.l1 k4 x14_1 x8_84 l0 (l0.length : Int) x14_1 (wrap64 ((3 : Int) + 1)) ad ac t357 t358 t359 t360 ah ai aj t364 al am an ao)) = some (r1, r2) := H
                replace H := Option.bind_eq_some_iff.mp H
                obtain ⟨t364, A1550, H⟩ := H
                replace H : (impl_spanOf.l1 k4 x14_1 x8_84 l0 (l0.length : Int) x14_1 (wrap64 ((3 : Int) + 1)) ad ac t357 t358 t359 t360 ah ai aj t364 al am an ao) = some (r1, r2) := H
                have A155 := Aside0.mk A1550
                clear A1550
                have H' := Aside0.mk H
                clear H
                have hnb156 := ag.out
                have hnc156 := ae.out
                have hnb157 := ap.out
                have hnc157 := af.out
                have hcz158_7 : wr.cell? ⟨gb339, 7, none⟩ = some (.int .i64 ak) := bA11 BK339 rfl
                have hfz158_7 := blk_frozen BK339.out 7
                go_wp2_with (first | ((with_reducible refine gate_callee (f := 104) rfl ?_); refine goesL_ (some 51) rfl rfl Try.func104 (by kernel_rfl) rfl #[.int .i64 ak, .int .i64 x8_84] rfl z11_8 ?_; (with_reducible refine (impl_element_times.calls ak x8_84 t364 _ A155.out).mono ?_); rintro e w' ⟨rfl, ⟨nd, rfl⟩⟩; refine ⟨_, rfl, ?_⟩; (try (rw [drewN_self wr]; generalize hq_ : World.drewN wr _ = wr; have n0_ : Aside0 (Kd.R k102 102 wr w.heap.size (fun k_ => k_ ≠ gb339) u337000 ad) := ⟨z11_22⟩; have n1_ : Aside0 (Kd.R (Kd.int .i64) 3 wr w.heap.size (fun _ => True) u337001 ac) := ⟨z11_23⟩; have n2_ : Aside0 (wr.heap[gb336]? = some (.cells #[u337000, u337001] 81 (0, 0))) := ⟨z11_18⟩; have n3_ : Aside0 (wr.heap[gb338]? = some (.cells #[.int .i64 ((rd_T70 l0 x14_1).f0), .int .i64 ((rd_T70 l0 x14_1).f1), .int .i64 ((rd_T70 l0 x14_1).f2), .int .i64 ((rd_T70 l0 x14_1).f3)] 70 (0, 0))) := ⟨z11_19⟩; have n4_ : Aside0 (wr.heap[gb339]? = some (.cells #[.int .i64 t357, .int .i64 t358, .int .i64 t359, .int .i64 t360, .int .i64 ah, .int .i64 ai, .int .i64 aj, .int .i64 ak, .int .i64 al, .int .i64 am, .int .i64 an, .int .i64 ao] 102 (0, 0))) := ⟨z11_20⟩; have n5_ : Aside0 (Below w.heap.size w wr) := ⟨z11_24⟩; clear ab aa BK336 BK338 BK339 HB hq_; have ab := n0_; have aa := n1_; have BK336 := n2_; have BK338 := n3_; have BK339 := n4_; have HB := n5_; clear n0_ n1_ n2_ n3_ n4_ n5_; have hcr339_7 : wr.cell? ⟨gb339, 7, none⟩ = some (.int .i64 ak) := bA11 BK339 rfl; have hfr339_7 := blk_frozen BK339.out 7))))
                go_roundg k4
                case measure => have := HK1.out; have := HJ5.out; have := HJ84.out; have := HK4.out; omega
                case rel => exact ⟨(wrap64 ((3 : Int) + 1)), (ah), (ai), (aj), (t364), (al), (am), (an), (ao), z11_14, H', ⟨z11_13⟩, ⟨by (with_reducible repeat (first | apply Kd.R_alloc | apply Kd.R_drewN | apply Kd.R_drew)); exact Kd.R_mono (Kd.R_far (p := ⟨gb339, 7, none⟩) (Kd.R_mono ab.out (fun k_ hk => (⟨hk, hk⟩ : _ ∧ k_ ≠ gb339))) (fun _ hk => hk.2) (.int .i64 t364)) (fun _ hk => hk.1)⟩, ⟨by (with_reducible repeat (first | apply Kd.R_alloc | apply Kd.R_drewN | apply Kd.R_drew)); exact Kd.R_mono (Kd.R_far (p := ⟨gb339, 7, none⟩) (Kd.R_types aa.out BK339.out (by decide)) (fun _ hk => hk.2) (.int .i64 t364)) (fun _ hk => trivial)⟩, ⟨z11_2⟩, ⟨z11_3⟩, ⟨bZ BK339.out⟩, ⟨z11_1⟩⟩
               ·rw [if_neg c154] at H
                clear c154
                by_cases c160 : x42_4 = 4
                ·rw [if_pos c160] at H
                 subst c160
                 replace H : ((impl_element_times.f al x8_84).bind fun t365 => (impl_spanOf.l1 k4 x14_1 x8_84 l0 (l0.length : Int) x14_1 (wrap64 ((4 : Int) + 1)) ad ac t357 t358 t359 t360 ah ai aj ak t365 am an ao)) = some (r1, r2) := H
                 replace H := Option.bind_eq_some_iff.mp H
                 obtain ⟨t365, A1610, H⟩ := H
                 replace H : (impl_spanOf.l1 k4 x14_1 x8_84 l0 (l0.length : Int) x14_1 (wrap64 ((4 : Int) + 1)) ad ac t357 t358 t359 t360 ah ai aj ak t365 am an ao) = some (r1, r2) := H
                 have A161 := Aside0.mk A1610
                 clear A1610
                 have H' := Aside0.mk H
                 clear H
                 have hnb162 := ag.out
                 have hnc162 := ae.out
                 have hnb163 := ap.out
                 have hnc163 := af.out
                 have hcz164_8 : wr.cell? ⟨gb339, 8, none⟩ = some (.int .i64 al) := bA11 BK339 rfl
                 have hfz164_8 := blk_frozen BK339.out 8
                 go_wp2_with (first | ((with_reducible refine gate_callee (f := 104) rfl ?_); refine goesL_ (some 51) rfl rfl Try.func104 (by kernel_rfl) rfl #[.int .i64 al, .int .i64 x8_84] rfl z11_8 ?_; (with_reducible refine (impl_element_times.calls al x8_84 t365 _ A161.out).mono ?_); rintro e w' ⟨rfl, ⟨nd, rfl⟩⟩; refine ⟨_, rfl, ?_⟩; (try (rw [drewN_self wr]; generalize hq_ : World.drewN wr _ = wr; have n0_ : Aside0 (Kd.R k102 102 wr w.heap.size (fun k_ => k_ ≠ gb339) u337000 ad) := ⟨z11_22⟩; have n1_ : Aside0 (Kd.R (Kd.int .i64) 3 wr w.heap.size (fun _ => True) u337001 ac) := ⟨z11_23⟩; have n2_ : Aside0 (wr.heap[gb336]? = some (.cells #[u337000, u337001] 81 (0, 0))) := ⟨z11_18⟩; have n3_ : Aside0 (wr.heap[gb338]? = some (.cells #[.int .i64 ((rd_T70 l0 x14_1).f0), .int .i64 ((rd_T70 l0 x14_1).f1), .int .i64 ((rd_T70 l0 x14_1).f2), .int .i64 ((rd_T70 l0 x14_1).f3)] 70 (0, 0))) := ⟨z11_19⟩; have n4_ : Aside0 (wr.heap[gb339]? = some (.cells #[.int .i64 t357, .int .i64 t358, .int .i64 t359, .int .i64 t360, .int .i64 ah, .int .i64 ai, .int .i64 aj, .int .i64 ak, .int .i64 al, .int .i64 am, .int .i64 an, .int .i64 ao] 102 (0, 0))) := ⟨z11_20⟩; have n5_ : Aside0 (Below w.heap.size w wr) := ⟨z11_24⟩; clear ab aa BK336 BK338 BK339 HB hq_; have ab := n0_; have aa := n1_; have BK336 := n2_; have BK338 := n3_; have BK339 := n4_; have HB := n5_; clear n0_ n1_ n2_ n3_ n4_ n5_; have hcr339_8 : wr.cell? ⟨gb339, 8, none⟩ = some (.int .i64 al) := bA11 BK339 rfl; have hfr339_8 := blk_frozen BK339.out 8))))
                 go_roundg k4
                 case measure => have := HK1.out; have := HJ5.out; have := HJ84.out; have := HK4.out; omega
                 case rel => exact ⟨(wrap64 ((4 : Int) + 1)), (ah), (ai), (aj), (ak), (t365), (am), (an), (ao), z11_14, H', ⟨z11_13⟩, ⟨by (with_reducible repeat (first | apply Kd.R_alloc | apply Kd.R_drewN | apply Kd.R_drew)); exact Kd.R_mono (Kd.R_far (p := ⟨gb339, 8, none⟩) (Kd.R_mono ab.out (fun k_ hk => (⟨hk, hk⟩ : _ ∧ k_ ≠ gb339))) (fun _ hk => hk.2) (.int .i64 t365)) (fun _ hk => hk.1)⟩, ⟨by (with_reducible repeat (first | apply Kd.R_alloc | apply Kd.R_drewN | apply Kd.R_drew)); exact Kd.R_mono (Kd.R_far (p := ⟨gb339, 8, none⟩) (Kd.R_types aa.out BK339.out (by decide)) (fun _ hk => hk.2) (.int .i64 t365)) (fun _ hk => trivial)⟩, ⟨z11_2⟩, ⟨z11_3⟩, ⟨bZ BK339.out⟩, ⟨z11_1⟩⟩
                ·rw [if_neg c160] at H
                 clear c160
                 by_cases c166 : x42_4 = 5
                 ·rw [if_pos c166] at H
                  subst c166
                  replace H : ((impl_element_times.f am x8_84).bind fun t366 => (impl_spanOf.l1 k4 x14_1 x8_84 l0 (l0.length : Int) x14_1 (wrap64 ((5 : Int) + 1)) ad ac t357 t358 t359 t360 ah ai aj ak al t366 an ao)) = some (r1, r2) := H
                  replace H := Option.bind_eq_some_iff.mp H
                  obtain ⟨t366, A1670, H⟩ := H
                  replace H : (impl_spanOf.l1 k4 x14_1 x8_84 l0 (l0.length : Int) x14_1 (wrap64 ((5 : Int) + 1)) ad ac t357 t358 t359 t360 ah ai aj ak al t366 an ao) = some (r1, r2) := H
                  have A167 := Aside0.mk A1670
                  clear A1670
                  have H' := Aside0.mk H
                  clear H
                  have hnb168 := ag.out
                  have hnc168 := ae.out
                  have hnb169 := ap.out
                  have hnc169 := af.out
                  have hcz170_9 : wr.cell? ⟨gb339, 9, none⟩ = some (.int .i64 am) := bA11 BK339 rfl
                  have hfz170_9 := blk_frozen BK339.out 9
                  go_wp2_with (first | ((with_reducible refine gate_callee (f := 104) rfl ?_); refine goesL_ (some 51) rfl rfl Try.func104 (by kernel_rfl) rfl #[.int .i64 am, .int .i64 x8_84] rfl z11_8 ?_; (with_reducible refine (impl_element_times.calls am x8_84 t366 _ A167.out).mono ?_); rintro e w' ⟨rfl, ⟨nd, rfl⟩⟩; refine ⟨_, rfl, ?_⟩; (try (rw [drewN_self wr]; generalize hq_ : World.drewN wr _ = wr; have n0_ : Aside0 (Kd.R k102 102 wr w.heap.size (fun k_ => k_ ≠ gb339) u337000 ad) := ⟨z11_22⟩; have n1_ : Aside0 (Kd.R (Kd.int .i64) 3 wr w.heap.size (fun _ => True) u337001 ac) := ⟨z11_23⟩; have n2_ : Aside0 (wr.heap[gb336]? = some (.cells #[u337000, u337001] 81 (0, 0))) := ⟨z11_18⟩; have n3_ : Aside0 (wr.heap[gb338]? = some (.cells #[.int .i64 ((rd_T70 l0 x14_1).f0), .int .i64 ((rd_T70 l0 x14_1).f1), .int .i64 ((rd_T70 l0 x14_1).f2), .int .i64 ((rd_T70 l0 x14_1).f3)] 70 (0, 0))) := ⟨z11_19⟩; have n4_ : Aside0 (wr.heap[gb339]? = some (.cells #[.int .i64 t357, .int .i64 t358, .int .i64 t359, .int .i64 t360, .int .i64 ah, .int .i64 ai, .int .i64 aj, .int .i64 ak, .int .i64 al, .int .i64 am, .int .i64 an, .int .i64 ao] 102 (0, 0))) := ⟨z11_20⟩; have n5_ : Aside0 (Below w.heap.size w wr) := ⟨z11_24⟩; clear ab aa BK336 BK338 BK339 HB hq_; have ab := n0_; have aa := n1_; have BK336 := n2_; have BK338 := n3_; have BK339 := n4_; have HB := n5_; clear n0_ n1_ n2_ n3_ n4_ n5_; have hcr339_9 : wr.cell? ⟨gb339, 9, none⟩ = some (.int .i64 am) := bA11 BK339 rfl; have hfr339_9 := blk_frozen BK339.out 9))))
                  go_roundg k4
                  case measure => have := HK1.out; have := HJ5.out; have := HJ84.out; have := HK4.out; omega
                  case rel => exact ⟨(wrap64 ((5 : Int) + 1)), (ah), (ai), (aj), (ak), (al), (t366), (an), (ao), z11_14, H', ⟨z11_13⟩, ⟨by (with_reducible repeat (first | apply Kd.R_alloc | apply Kd.R_drewN | apply Kd.R_drew)); exact Kd.R_mono (Kd.R_far (p := ⟨gb339, 9, none⟩) (Kd.R_mono ab.out (fun k_ hk => (⟨hk, hk⟩ : _ ∧ k_ ≠ gb339))) (fun _ hk => hk.2) (.int .i64 t366)) (fun _ hk => hk.1)⟩, ⟨by (with_reducible repeat (first | apply Kd.R_alloc | apply Kd.R_drewN | apply Kd.R_drew)); exact Kd.R_mono (Kd.R_far (p := ⟨gb339, 9, none⟩) (Kd.R_types aa.out BK339.out (by decide)) (fun _ hk => hk.2) (.int .i64 t366)) (fun _ hk => trivial)⟩, ⟨z11_2⟩, ⟨z11_3⟩, ⟨bZ BK339.out⟩, ⟨z11_1⟩⟩
                 ·rw [if_neg c166] at H
                  clear c166
                  by_cases c172 : x42_4 = 6
                  ·rw [if_pos c172] at H
                   subst c172
                   replace H : ((impl_element_times.f an x8_84).bind fun t367 => (impl_spanOf.l1 k4 x14_1 x8_84 l0 (l0.length : Int) x14_1 (wrap64 ((6 : Int) + 1)) ad ac t357 t358 t359 t360 ah ai aj ak al am t367 ao)) = some (r1, r2) := H
                   replace H := Option.bind_eq_some_iff.mp H
                   obtain ⟨t367, A1730, H⟩ := H
                   replace H : (impl_spanOf.l1 k4 x14_1 x8_84 l0 (l0.length : Int) x14_1 (wrap64 ((6 : Int) + 1)) ad ac t357 t358 t359 t360 ah ai aj ak al am t367 ao) = some (r1, r2) := H
                   have A173 := Aside0.mk A1730
                   clear A1730
                   have H' := Aside0.mk H
                   clear H
                   have hnb174 := ag.out
                   have hnc174 := ae.out
                   have hnb175 := ap.out
                   have hnc175 := af.out
                   have hcz176_10 : wr.cell? ⟨gb339, 10, none⟩ = some (.int .i64 an) := bA11 BK339 rfl
                   have hfz176_10 := blk_frozen BK339.out 10
                   go_wp2_with (first | ((with_reducible refine gate_callee (f := 104) rfl ?_); refine goesL_ (some 51) rfl rfl Try.func104 (by kernel_rfl) rfl #[.int .i64 an, .int .i64 x8_84] rfl z11_8 ?_; (with_reducible refine (impl_element_times.calls an x8_84 t367 _ A173.out).mono ?_); rintro e w' ⟨rfl, ⟨nd, rfl⟩⟩; refine ⟨_, rfl, ?_⟩; (try (rw [drewN_self wr]; generalize hq_ : World.drewN wr _ = wr; have n0_ : Aside0 (Kd.R k102 102 wr w.heap.size (fun k_ => k_ ≠ gb339) u337000 ad) := ⟨z11_22⟩; have n1_ : Aside0 (Kd.R (Kd.int .i64) 3 wr w.heap.size (fun _ => True) u337001 ac) := ⟨z11_23⟩; have n2_ : Aside0 (wr.heap[gb336]? = some (.cells #[u337000, u337001] 81 (0, 0))) := ⟨z11_18⟩; have n3_ : Aside0 (wr.heap[gb338]? = some (.cells #[.int .i64 ((rd_T70 l0 x14_1).f0), .int .i64 ((rd_T70 l0 x14_1).f1), .int .i64 ((rd_T70 l0 x14_1).f2), .int .i64 ((rd_T70 l0 x14_1).f3)] 70 (0, 0))) := ⟨z11_19⟩; have n4_ : Aside0 (wr.heap[gb339]? = some (.cells #[.int .i64 t357, .int .i64 t358, .int .i64 t359, .int .i64 t360, .int .i64 ah, .int .i64 ai, .int .i64 aj, .int .i64 ak, .int .i64 al, .int .i64 am, .int .i64 an, .int .i64 ao] 102 (0, 0))) := ⟨z11_20⟩; have n5_ : Aside0 (Below w.heap.size w wr) := ⟨z11_24⟩; clear ab aa BK336 BK338 BK339 HB hq_; have ab := n0_; have aa := n1_; have BK336 := n2_; have BK338 := n3_; have BK339 := n4_; have HB := n5_; clear n0_ n1_ n2_ n3_ n4_ n5_; have hcr339_10 : wr.cell? ⟨gb339, 10, none⟩ = some (.int .i64 an) := bA11 BK339 rfl; have hfr339_10 := blk_frozen BK339.out 10))))
                   go_roundg k4
                   case measure => have := HK1.out; have := HJ5.out; have := HJ84.out; have := HK4.out; omega
                   case rel => exact ⟨(wrap64 ((6 : Int) + 1)), (ah), (ai), (aj), (ak), (al), (am), (t367), (ao), z11_14, H', ⟨z11_13⟩, ⟨by (with_reducible repeat (first | apply Kd.R_alloc | apply Kd.R_drewN | apply Kd.R_drew)); exact Kd.R_mono (Kd.R_far (p := ⟨gb339, 10, none⟩) (Kd.R_mono ab.out (fun k_ hk => (⟨hk, hk⟩ : _ ∧ k_ ≠ gb339))) (fun _ hk => hk.2) (.int .i64 t367)) (fun _ hk => hk.1)⟩, ⟨by (with_reducible repeat (first | apply Kd.R_alloc | apply Kd.R_drewN | apply Kd.R_drew)); exact Kd.R_mono (Kd.R_far (p := ⟨gb339, 10, none⟩) (Kd.R_types aa.out BK339.out (by decide)) (fun _ hk => hk.2) (.int .i64 t367)) (fun _ hk => trivial)⟩, ⟨z11_2⟩, ⟨z11_3⟩, ⟨bZ BK339.out⟩, ⟨z11_1⟩⟩
                  ·rw [if_neg c172] at H
                   clear c172
                   obtain ⟨c178, H⟩ := ifP H
                   subst c178
                   replace H : ((impl_element_times.f ao x8_84).bind fun t368 => (impl_spanOf.l1 k4 x14_1 x8_84 l0 (l0.length : Int) x14_1 (wrap64 ((7 : Int) + 1)) ad ac t357 t358 t359 t360 ah ai aj ak al am an t368)) = some (r1, r2) := H
                   replace H := Option.bind_eq_some_iff.mp H
                   obtain ⟨t368, A1790, H⟩ := H
                   replace H : (impl_spanOf.l1 k4 x14_1 x8_84 l0 (l0.length : Int) x14_1 (wrap64 ((7 : Int) + 1)) ad ac t357 t358 t359 t360 ah ai aj ak al am an t368) = some (r1, r2) := H
                   have A179 := Aside0.mk A1790
                   clear A1790
                   have H' := Aside0.mk H
                   clear H
                   have hnb180 := ag.out
                   have hnc180 := ae.out
                   have hnb181 := ap.out
                   have hnc181 := af.out
                   have hcz182_11 : wr.cell? ⟨gb339, 11, none⟩ = some (.int .i64 ao) := bA11 BK339 rfl
                   have hfz182_11 := blk_frozen BK339.out 11
                   go_wp2_with (first | ((with_reducible refine gate_callee (f := 104) rfl ?_); refine goesL_ (some 51) rfl rfl Try.func104 (by kernel_rfl) rfl #[.int .i64 ao, .int .i64 x8_84] rfl z11_8 ?_; (with_reducible refine (impl_element_times.calls ao x8_84 t368 _ A179.out).mono ?_); rintro e w' ⟨rfl, ⟨nd, rfl⟩⟩; refine ⟨_, rfl, ?_⟩; (try (rw [drewN_self wr]; generalize hq_ : World.drewN wr _ = wr; have n0_ : Aside0 (Kd.R k102 102 wr w.heap.size (fun k_ => k_ ≠ gb339) u337000 ad) := ⟨z11_22⟩; have n1_ : Aside0 (Kd.R (Kd.int .i64) 3 wr w.heap.size (fun _ => True) u337001 ac) := ⟨z11_23⟩; have n2_ : Aside0 (wr.heap[gb336]? = some (.cells #[u337000, u337001] 81 (0, 0))) := ⟨z11_18⟩; have n3_ : Aside0 (wr.heap[gb338]? = some (.cells #[.int .i64 ((rd_T70 l0 x14_1).f0), .int .i64 ((rd_T70 l0 x14_1).f1), .int .i64 ((rd_T70 l0 x14_1).f2), .int .i64 ((rd_T70 l0 x14_1).f3)] 70 (0, 0))) := ⟨z11_19⟩; have n4_ : Aside0 (wr.heap[gb339]? = some (.cells #[.int .i64 t357, .int .i64 t358, .int .i64 t359, .int .i64 t360, .int .i64 ah, .int .i64 ai, .int .i64 aj, .int .i64 ak, .int .i64 al, .int .i64 am, .int .i64 an, .int .i64 ao] 102 (0, 0))) := ⟨z11_20⟩; have n5_ : Aside0 (Below w.heap.size w wr) := ⟨z11_24⟩; clear ab aa BK336 BK338 BK339 HB hq_; have ab := n0_; have aa := n1_; have BK336 := n2_; have BK338 := n3_; have BK339 := n4_; have HB := n5_; clear n0_ n1_ n2_ n3_ n4_ n5_; have hcr339_11 : wr.cell? ⟨gb339, 11, none⟩ = some (.int .i64 ao) := bA11 BK339 rfl; have hfr339_11 := blk_frozen BK339.out 11))))
                   go_roundg k4
                   case measure => have := HK1.out; have := HJ5.out; have := HJ84.out; have := HK4.out; omega
                   case rel => exact ⟨(wrap64 ((7 : Int) + 1)), (ah), (ai), (aj), (ak), (al), (am), (an), (t368), z11_14, H', ⟨z11_13⟩, ⟨by (with_reducible repeat (first | apply Kd.R_alloc | apply Kd.R_drewN | apply Kd.R_drew)); exact Kd.R_mono (Kd.R_far (p := ⟨gb339, 11, none⟩) (Kd.R_mono ab.out (fun k_ hk => (⟨hk, hk⟩ : _ ∧ k_ ≠ gb339))) (fun _ hk => hk.2) (.int .i64 t368)) (fun _ hk => hk.1)⟩, ⟨by (with_reducible repeat (first | apply Kd.R_alloc | apply Kd.R_drewN | apply Kd.R_drew)); exact Kd.R_mono (Kd.R_far (p := ⟨gb339, 11, none⟩) (Kd.R_types aa.out BK339.out (by decide)) (fun _ hk => hk.2) (.int .i64 t368)) (fun _ hk => trivial)⟩, ⟨z11_2⟩, ⟨z11_3⟩, ⟨bZ BK339.out⟩, ⟨z11_1⟩⟩
           ·rw [if_neg c135] at H
            have c135b0 : decide (x42_4 < 8) = false := decide_eq_false c135
            clear c135
            obtain ⟨c184, H⟩ := ifP H
            have LMc184 := Aside0.mk c184
            clear c184
            obtain ⟨y369, hy369⟩ : ∃ y_ : List (S102), y_ = (ad ++ [(⟨(⟨t357, t358, t359, t360⟩ : S70), (⟨ah, ai, aj, ak, al, am, an, ao⟩ : S100)⟩ : S102)]) := ⟨_, rfl⟩
            replace H : (if ac.length < 17592186044416 then (impl_spanOf.l0 k4 l0 (l0.length : Int) (wrap64 (x14_1 + 1)) y369 (ac ++ [x14_1])) else (none)) = some (r1, r2) := by first | (rw [hy369]; with_reducible exact H) | (have H2_ := (Option.bind_some _ _).symm.trans H; rw [hy369]; with_reducible exact H2_) | (have H2_ := (Option.bind_some _ _).symm.trans H; with_reducible exact H2_) | with_reducible exact H | (rw [hy369]; exact H) | exact H
            have Ny369 := Aside0.mk hy369
            clear hy369
            obtain ⟨c185, H⟩ := ifP H
            have LMc185 := Aside0.mk c185
            clear c185
            obtain ⟨y372, hy372⟩ : ∃ y_ : List Int, y_ = (ac ++ [x14_1]) := ⟨_, rfl⟩
            replace H : (impl_spanOf.l0 k4 l0 (l0.length : Int) (wrap64 (x14_1 + 1)) y369 y372) = some (r1, r2) := by first | (rw [hy372]; with_reducible exact H) | (have H2_ := (Option.bind_some _ _).symm.trans H; rw [hy372]; with_reducible exact H2_) | (have H2_ := (Option.bind_some _ _).symm.trans H; with_reducible exact H2_) | with_reducible exact H | (rw [hy372]; exact H) | exact H
            have Ny372 := Aside0.mk hy372
            clear hy372
            have H' := Aside0.mk H
            clear H
            try go_wp2
            replace ab := Aside0.mk (Kd.R_drew ab.out)
            replace aa := Aside0.mk (Kd.R_drew aa.out)
            replace BK336 := Aside0.mk (blk_drew BK336.out)
            replace BK338 := Aside0.mk (blk_drew BK338.out)
            replace BK339 := Aside0.mk (blk_drew BK339.out)
            replace HB := Aside0.mk (below_drew1 HB.out)
            refine start_ (n := 11) (S := fun w' => w'.cell? ⟨gb336, 0, none⟩ = some (u337000) ∧ w'.cell? ⟨gb339, 0, none⟩ = some (.int .i64 t357) ∧ w'.cell? ⟨gb339, 1, none⟩ = some (.int .i64 t358) ∧ w'.cell? ⟨gb339, 2, none⟩ = some (.int .i64 t359) ∧ w'.cell? ⟨gb339, 3, none⟩ = some (.int .i64 t360) ∧ w'.cell? ⟨gb339, 4, none⟩ = some (.int .i64 ah) ∧ w'.cell? ⟨gb339, 5, none⟩ = some (.int .i64 ai) ∧ w'.cell? ⟨gb339, 6, none⟩ = some (.int .i64 aj) ∧ w'.cell? ⟨gb339, 7, none⟩ = some (.int .i64 ak) ∧ w'.cell? ⟨gb339, 8, none⟩ = some (.int .i64 al) ∧ w'.cell? ⟨gb339, 9, none⟩ = some (.int .i64 am) ∧ w'.cell? ⟨gb339, 10, none⟩ = some (.int .i64 an) ∧ w'.cell? ⟨gb339, 11, none⟩ = some (.int .i64 ao)) (ds := [10]) #[false, false, false, false, false, false, false, false, false, false, false] (by kernel_rfl) rfl rfl ⟨bA11 BK336 rfl, bA11 BK339 rfl, bA11 BK339 rfl, bA11 BK339 rfl, bA11 BK339 rfl, bA11 BK339 rfl, bA11 BK339 rfl, bA11 BK339 rfl, bA11 BK339 rfl, bA11 BK339 rfl, bA11 BK339 rfl, bA11 BK339 rfl, bA11 BK339 rfl⟩ (fun hHeld => ?_); refine with_tabW impl_spanOf.tab17 impl_spanOf.bits17 (fun HT_ HW_ => ?_)
            generalize wr.drew = w186 at ab aa BK336 BK338 BK339 HB hHeld ⊢
            refine pZ 0 HT_ ?_
            refine pZ 1 HT_ ?_
            refine pZ 2 HT_ ?_
            refine pZ 3 HT_ ?_
            refine tZ 4 hHeld HT_ HW_ ?_
            refine tZ 5 hHeld HT_ HW_ ?_
            refine oZ 6 HT_ (fun K hK => ?_)
            refine value_ (w1 := ?_) (v := ?_) (by rfl) rfl ?_ ?_
            rotate_left 2
            ·go_simp
             constructor
             ·rfl
             ·rfl
            refine hK.out _ _ ⟨(blk_cell (blk_alloc BK336.out _) 0).trans rfl, (blk_cell (blk_alloc BK339.out _) 0).trans rfl, (blk_cell (blk_alloc BK339.out _) 1).trans rfl, (blk_cell (blk_alloc BK339.out _) 2).trans rfl, (blk_cell (blk_alloc BK339.out _) 3).trans rfl, (blk_cell (blk_alloc BK339.out _) 4).trans rfl, (blk_cell (blk_alloc BK339.out _) 5).trans rfl, (blk_cell (blk_alloc BK339.out _) 6).trans rfl, (blk_cell (blk_alloc BK339.out _) 7).trans rfl, (blk_cell (blk_alloc BK339.out _) 8).trans rfl, (blk_cell (blk_alloc BK339.out _) 9).trans rfl, (blk_cell (blk_alloc BK339.out _) 10).trans rfl, (blk_cell (blk_alloc BK339.out _) 11).trans rfl⟩ (fun hHeld => ?_)
            clear hK K
            refine nZ ?_
            refine oZ 7 HT_ (fun K hK => ?_)
            refine Kd.R_append_step k102 (w0 := w) w.heap.size (by rfl) (.tmp 59) (.tmp 61) 79 102 (.agg #[(.int .i64 0), (.int .i64 0), (.int .i64 0), (.int .i64 0), (.int .i64 0), (.int .i64 0), (.int .i64 0), (.int .i64 0), (.int .i64 0), (.int .i64 0), (.int .i64 0), (.int .i64 0)]) 96 rfl Try.underlying79 info102 rfl (by decide) (by omega) u337000 ad (⟨(⟨t357, t358, t359, t360⟩ : S70), (⟨ah, ai, aj, ak, al, am, an, ao⟩ : S100)⟩ : S102) [.int .i64 t357, .int .i64 t358, .int .i64 t359, .int .i64 t360, .int .i64 ah, .int .i64 ai, .int .i64 aj, .int .i64 ak, .int .i64 al, .int .i64 am, .int .i64 an, .int .i64 ao] (fun k_ => k_ ≠ gb339) (fun _ => False) rfl rfl ?aP (fun _ hk => hk.elim) ?aF ?aO ?aB ?aS ?aL ?_
            (case aP => exact k102_mkM _ _ _ (⟨(⟨t357, t358, t359, t360⟩ : S70), (⟨ah, ai, aj, ak, al, am, an, ao⟩ : S100)⟩ : S102))
            (case aB => exact z11_1)
            (case aF => exact (fun k_ hk => Kd.freshB (g := gb339) (o := .cells #[.int .i64 t357, .int .i64 t358, .int .i64 t359, .int .i64 t360, .int .i64 ah, .int .i64 ai, .int .i64 aj, .int .i64 ak, .int .i64 al, .int .i64 am, .int .i64 an, .int .i64 ao] 102 (0, 0)) (zL11 BK339.out) k_ hk))
            (case aO => exact z11_6)
            (case aS => exact (below_size z11_1))
            (case aL => have := LMc184.out; omega)
            intro v370 w187 ho hb hg hat
            rw [← Ny369.out] at ho
            have n0_ := Aside0.mk (Kd.R_over' z11_7 (Kd.R_typed z11_6) (by decide) hg)
            have n1_ := Aside0.mk (blk_grown (g := gb336) (o := .cells #[u337000, u337001] 81 (0, 0)) (zL11 BK336.out) hg (Kd.R_ne ab.out BK336.out (by decide)))
            have n2_ := Aside0.mk (blk_grown (g := gb338) (o := .cells #[.int .i64 ((rd_T70 l0 x14_1).f0), .int .i64 ((rd_T70 l0 x14_1).f1), .int .i64 ((rd_T70 l0 x14_1).f2), .int .i64 ((rd_T70 l0 x14_1).f3)] 70 (0, 0)) (zL11 BK338.out) hg (Kd.R_ne ab.out BK338.out (by decide)))
            have n3_ := Aside0.mk (blk_grown (g := gb339) (o := .cells #[.int .i64 t357, .int .i64 t358, .int .i64 t359, .int .i64 t360, .int .i64 ah, .int .i64 ai, .int .i64 aj, .int .i64 ak, .int .i64 al, .int .i64 am, .int .i64 an, .int .i64 ao] 102 (0, 0)) (zL11 BK339.out) hg (Kd.R_away ab.out (fun _ hk => hk)))
            have n4_ := Aside0.mk (hb)
            have n5_ := Aside0.mk (ho)
            clear aa
            clear BK336
            clear BK338
            clear BK339
            clear HB
            clear ab
            have aa := n0_
            have BK336 := n1_
            have BK338 := n2_
            have BK339 := n3_
            have HB := n4_
            have HO371 := n5_
            clear n0_ n1_ n2_ n3_ n4_ n5_
            clear ho hb hg hat
            obtain ⟨Ao188, co188, eo188⟩ := Kd.R_slice HO371.out
            (first | subst eo188 | (injection eo188 with f1_ f2_ f3_; have f4_ := f1_.symm; have f5_ := f3_.symm; clear f1_ f2_ f3_; subst f4_; subst f5_))
            refine hK.out _ _ ⟨bA11 BK336 rfl, bA11 BK339 rfl, bA11 BK339 rfl, bA11 BK339 rfl, bA11 BK339 rfl, bA11 BK339 rfl, bA11 BK339 rfl, bA11 BK339 rfl, bA11 BK339 rfl, bA11 BK339 rfl, bA11 BK339 rfl, bA11 BK339 rfl, bA11 BK339 rfl⟩ (fun hHeld => ?_)
            clear hK K
            refine nZ ?_
            refine pZ 8 HT_ ?_
            refine pZ 9 HT_ ?_
            refine lZ 10 HT_ (fun K hK => ?_)
            have hs189 : w187.cell? ⟨gb336, 0, none⟩ = some (u337000) := bA11 BK336 rfl
            have hfs189 := blk_frozen BK336.out 0
            have hns189_1 := aC.out
            have hns189_2 := ag.out
            have hms189_1 := aq.out
            have hms189_2 := ae.out
            refine skip_ (w1 := ?_) (by rfl) rfl ?_ ?_
            rotate_left
            ·go_simp
             rfl
            refine hK.out _ _ ?_
            clear hK K
            refine done_ (done_of HT_.out (by kernel_rfl)) ?_
            have hnb190 := aq.out
            have hnc190 := aC.out
            have hnb191 := ae.out
            have hnc191 := ag.out
            have hcz192_1 : w187.cell? ⟨gb336, 1, none⟩ = some (u337001) := bA11 BK336 rfl
            have hfz192_1 := blk_frozen BK336.out 1
            try go_wp2_with (first | ((with_reducible refine gate_builtin (b := .append) (xs := #[.tmp 69, .tmp 71]) rfl ?_); at_builtin; refine Kd.R_append (Kd.int .i64) (w0 := w) w.heap.size rfl (.tmp 69) (.tmp 71) 28 3 (.int .i64 0) 8 rfl Try.underlying28 info3 rfl (by decide) (by omega) u337001 ac x14_1 [.int .i64 x14_1] (fun _ => True) (fun _ => False) rfl (by first | (go_simp; done) | (go_simp; rfl)) ?aP (fun _ hk => hk.elim) ?aF ?aO ?aB ?aS ?aL ?_; (case aP => exact rfl); (case aB => exact z11_1); (case aF => exact (fun _ _ => trivial)); (case aO => exact (by (with_reducible repeat (first | apply Kd.R_alloc | apply Kd.R_drewN | apply Kd.R_drew)); exact Kd.R_mono (Kd.R_far (p := ⟨gb336, 0, none⟩) (Kd.R_types aa.out BK336.out (by decide)) (fun _ hk => hk.2) (.slice Ao188 y369.length co188)) (fun _ hk => trivial))); (case aS => exact (below_size z11_1)); (case aL => have := LMc185.out; omega); intro v373 w193 ho hb hg hat; rw [← Ny372.out] at ho; have n0_ := Aside0.mk (blk_grown (g := gb336) (o := .cells #[.slice Ao188 y369.length co188, u337001] 81 (0, 0)) (bZ BK336.out) hg (Kd.R_ne aa.out BK336.out (by decide))); have n1_ := Aside0.mk (blk_grown (g := gb338) (o := .cells #[.int .i64 ((rd_T70 l0 x14_1).f0), .int .i64 ((rd_T70 l0 x14_1).f1), .int .i64 ((rd_T70 l0 x14_1).f2), .int .i64 ((rd_T70 l0 x14_1).f3)] 70 (0, 0)) (by (with_reducible repeat first|refine blk_drewN ?_ _|refine blk_drew ?_|refine blk_alloc ?_ _); refine blk_far ?_ aC.out _; (with_reducible repeat first|refine blk_drewN ?_ _|refine blk_drew ?_|refine blk_alloc ?_ _); exact BK338.out) hg (Kd.R_ne aa.out BK338.out (by decide))); have n2_ := Aside0.mk (blk_grown (g := gb339) (o := .cells #[.int .i64 t357, .int .i64 t358, .int .i64 t359, .int .i64 t360, .int .i64 ah, .int .i64 ai, .int .i64 aj, .int .i64 ak, .int .i64 al, .int .i64 am, .int .i64 an, .int .i64 ao] 102 (0, 0)) (by (with_reducible repeat first|refine blk_drewN ?_ _|refine blk_drew ?_|refine blk_alloc ?_ _); refine blk_far ?_ ag.out _; (with_reducible repeat first|refine blk_drewN ?_ _|refine blk_drew ?_|refine blk_alloc ?_ _); exact BK339.out) hg (Kd.R_ne aa.out BK339.out (by decide))); have n3_ := Aside0.mk (Kd.R_over' (by (with_reducible repeat (first | apply Kd.R_alloc | apply Kd.R_drewN | apply Kd.R_drew)); exact (Kd.R_mono (Kd.R_far (p := ⟨gb336, 0, none⟩) (Kd.R_types HO371.out BK336.out (by decide)) (fun _ hk => hk.2) (.slice Ao188 y369.length co188)) (fun _ h_ => h_.1))) (Kd.R_typed (by (with_reducible repeat (first | apply Kd.R_alloc | apply Kd.R_drewN | apply Kd.R_drew)); exact (Kd.R_mono (Kd.R_far (p := ⟨gb336, 0, none⟩) (Kd.R_types aa.out BK336.out (by decide)) (fun _ hk => hk.2) (.slice Ao188 y369.length co188)) (fun _ h_ => h_.1)))) (by decide) hg); have n4_ := Aside0.mk (hb); have n5_ := Aside0.mk (ho); clear BK336; clear BK338; clear BK339; clear HO371; clear HB; clear aa; have BK336 := n0_; have BK338 := n1_; have BK339 := n2_; have HO371 := n3_; have HB := n4_; have HO374 := n5_; clear n0_ n1_ n2_ n3_ n4_ n5_; clear ho hb hg hat; obtain ⟨Ao194, co194, eo194⟩ := Kd.R_slice HO374.out; subst eo194; have hcz195_1 : w193.cell? ⟨gb336, 1, none⟩ = some (u337001) := bA11 BK336 rfl; have hfz195_1 := blk_frozen BK336.out 1))
            go_roundg k4
            case measure => have := HK1.out; have := HJ5.out; have := HJ84.out; have := HK4.out; omega
            case rel => exact ⟨(wrap64 (x14_1 + 1)), (y369), (y372), (.slice Ao188 y369.length co188), (.slice Ao194 y372.length co194), z11_16, H', ⟨z11_13⟩, ⟨by (with_reducible repeat (first | apply Kd.R_alloc | apply Kd.R_drewN | apply Kd.R_drew)); exact Kd.R_mono (Kd.R_far (p := ⟨gb336, 1, none⟩) (Kd.R_types HO371.out BK336.out (by decide)) (fun _ hk => hk.2) (.slice Ao194 y372.length co194)) (fun _ hk => trivial)⟩, ⟨by (with_reducible repeat (first | apply Kd.R_alloc | apply Kd.R_drewN | apply Kd.R_drew)); exact Kd.R_mono (Kd.R_far (p := ⟨gb336, 1, none⟩) (Kd.R_types HO374.out BK336.out (by decide)) (fun _ hk => hk.2) (.slice Ao194 y372.length co194)) (fun _ hk => trivial)⟩, ⟨bZ BK336.out⟩, ⟨z11_1⟩⟩
   ·rw [if_neg c3] at H
    have c3b0 : decide (x14_1 < (l0.length : Int)) = false := decide_eq_false c3
    clear c3
    simp only [Option.some.injEq, Prod.mk.injEq] at H
    obtain ⟨rfl, rfl⟩ := H
    go_wp2
    go_ret
    exact ⟨_, _, gb336, rfl, zL11 BK336.out, GW336.out, z11_6, z11_7, z11_11⟩

end Go.Proofs.Ytamaejafddmagaa.PA
