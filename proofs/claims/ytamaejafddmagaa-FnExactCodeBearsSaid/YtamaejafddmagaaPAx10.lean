-- Written by a program of this session (after the manner of the kit's print, several laws in one text).
import Derived.Test.YtamaejafddmagaaHk
import Derived.Test.YtamaejafddmagaaPAx0
import Derived.Test.YtamaejafddmagaaPAx7
import Derived.Test.YtamaejafddmagaaPAx8
import Derived.Test.YtamaejafddmagaaPAx9
import Derived.Test.YtamaejafddmagaaGw
import Derived.Test.YtamaejafddmagaaGm
import Derived.Test.YtamaejafddmagaaGc
namespace Go.Proofs.Ytamaejafddmagaa.PA
open Go.RowKit Go.Proofs.YtamaejafddmagaaW.PrintWords Go.Proofs.YtamaejafddmagaaW.PrintLast Go.Proofs.YtamaejafddmagaaW.PrintMore
attribute [local go_sem] max2_int min2_int max_two min_two max_three min_three max_four min_four   -- for this text's walks alone
set_option linter.unusedVariables false
set_option linter.unusedSimpArgs false

/-! ### impl_spanOf: function 65 -/
mutual
def impl_spanOf.l0 : Nat → List (S70) → Int → Int → List (S102) → List Int → Option ((List (S102)) × List Int)
  | 0, _, _, _, _, _ => none
  | k + 1, x12, x13, x14, x269000, x269001 => if x14 < x13 then (if 0 ≤ x14 then (if x14 < (x12.length : Int) then (if x14 = 0 then (impl_spanOf.j1 k x14 x12 x13 x14 x269000 x269001 ((rd_T70 x12 x14).f0) ((rd_T70 x12 x14).f1) ((rd_T70 x12 x14).f2) ((rd_T70 x12 x14).f3) 1 0 0 0 0 0 0 0) else (if x14 = 1 then (impl_spanOf.j1 k x14 x12 x13 x14 x269000 x269001 ((rd_T70 x12 x14).f0) ((rd_T70 x12 x14).f1) ((rd_T70 x12 x14).f2) ((rd_T70 x12 x14).f3) 0 1 0 0 0 0 0 0) else (if x14 = 2 then (impl_spanOf.j1 k x14 x12 x13 x14 x269000 x269001 ((rd_T70 x12 x14).f0) ((rd_T70 x12 x14).f1) ((rd_T70 x12 x14).f2) ((rd_T70 x12 x14).f3) 0 0 1 0 0 0 0 0) else (if x14 = 3 then (impl_spanOf.j1 k x14 x12 x13 x14 x269000 x269001 ((rd_T70 x12 x14).f0) ((rd_T70 x12 x14).f1) ((rd_T70 x12 x14).f2) ((rd_T70 x12 x14).f3) 0 0 0 1 0 0 0 0) else (if x14 = 4 then (impl_spanOf.j1 k x14 x12 x13 x14 x269000 x269001 ((rd_T70 x12 x14).f0) ((rd_T70 x12 x14).f1) ((rd_T70 x12 x14).f2) ((rd_T70 x12 x14).f3) 0 0 0 0 1 0 0 0) else (if x14 = 5 then (impl_spanOf.j1 k x14 x12 x13 x14 x269000 x269001 ((rd_T70 x12 x14).f0) ((rd_T70 x12 x14).f1) ((rd_T70 x12 x14).f2) ((rd_T70 x12 x14).f3) 0 0 0 0 0 1 0 0) else (if x14 = 6 then (impl_spanOf.j1 k x14 x12 x13 x14 x269000 x269001 ((rd_T70 x12 x14).f0) ((rd_T70 x12 x14).f1) ((rd_T70 x12 x14).f2) ((rd_T70 x12 x14).f3) 0 0 0 0 0 0 1 0) else (if x14 = 7 then (impl_spanOf.j1 k x14 x12 x13 x14 x269000 x269001 ((rd_T70 x12 x14).f0) ((rd_T70 x12 x14).f1) ((rd_T70 x12 x14).f2) ((rd_T70 x12 x14).f3) 0 0 0 0 0 0 0 1) else (none))))))))) else (none)) else (none)) else (some (x269000, x269001))
def impl_spanOf.j1 : Nat → Int → List (S70) → Int → Int → List (S102) → List Int → Int → Int → Int → Int → Int → Int → Int → Int → Int → Int → Int → Int → Option ((List (S102)) × List Int)
  | 0, _, _, _, _, _, _, _, _, _, _, _, _, _, _, _, _, _, _ => none
  | k + 1, x4, x12, x13, x14, x269000, x269001, x272000, x272001, x272002, x272003, x272004, x272005, x272006, x272007, x272008, x272009, x272010, x272011 => (impl_span_less.f k x269000 x269001 x272000 x272001 x272002 x272003 x272004 x272005 x272006 x272007 x272008 x272009 x272010 x272011).bind fun bt272 => ((impl_vector_lead.f bt272.1 bt272.2.1 bt272.2.2.1 bt272.2.2.2.1).bind fun t284 => (if t284 < 0 then (impl_spanOf.l0 k x12 x13 (wrap64 (x14 + 1)) x269000 x269001) else (if t284 = 0 then ((impl_element_inverse.f k bt272.1).bind fun t285 => (impl_spanOf.j2 k x4 t285 x12 x13 x14 x269000 x269001 bt272.1 bt272.2.1 bt272.2.2.1 bt272.2.2.2.1 bt272.2.2.2.2.1 bt272.2.2.2.2.2.1 bt272.2.2.2.2.2.2.1 bt272.2.2.2.2.2.2.2.1 bt272.2.2.2.2.2.2.2.2.1 bt272.2.2.2.2.2.2.2.2.2.1 bt272.2.2.2.2.2.2.2.2.2.2.1 bt272.2.2.2.2.2.2.2.2.2.2.2)) else (if t284 = 1 then ((impl_element_inverse.f k bt272.2.1).bind fun t286 => (impl_spanOf.j2 k x4 t286 x12 x13 x14 x269000 x269001 bt272.1 bt272.2.1 bt272.2.2.1 bt272.2.2.2.1 bt272.2.2.2.2.1 bt272.2.2.2.2.2.1 bt272.2.2.2.2.2.2.1 bt272.2.2.2.2.2.2.2.1 bt272.2.2.2.2.2.2.2.2.1 bt272.2.2.2.2.2.2.2.2.2.1 bt272.2.2.2.2.2.2.2.2.2.2.1 bt272.2.2.2.2.2.2.2.2.2.2.2)) else (if t284 = 2 then ((impl_element_inverse.f k bt272.2.2.1).bind fun t287 => (impl_spanOf.j2 k x4 t287 x12 x13 x14 x269000 x269001 bt272.1 bt272.2.1 bt272.2.2.1 bt272.2.2.2.1 bt272.2.2.2.2.1 bt272.2.2.2.2.2.1 bt272.2.2.2.2.2.2.1 bt272.2.2.2.2.2.2.2.1 bt272.2.2.2.2.2.2.2.2.1 bt272.2.2.2.2.2.2.2.2.2.1 bt272.2.2.2.2.2.2.2.2.2.2.1 bt272.2.2.2.2.2.2.2.2.2.2.2)) else (if t284 = 3 then ((impl_element_inverse.f k bt272.2.2.2.1).bind fun t288 => (impl_spanOf.j2 k x4 t288 x12 x13 x14 x269000 x269001 bt272.1 bt272.2.1 bt272.2.2.1 bt272.2.2.2.1 bt272.2.2.2.2.1 bt272.2.2.2.2.2.1 bt272.2.2.2.2.2.2.1 bt272.2.2.2.2.2.2.2.1 bt272.2.2.2.2.2.2.2.2.1 bt272.2.2.2.2.2.2.2.2.2.1 bt272.2.2.2.2.2.2.2.2.2.2.1 bt272.2.2.2.2.2.2.2.2.2.2.2)) else (none)))))))
def impl_spanOf.j2 : Nat → Int → Int → List (S70) → Int → Int → List (S102) → List Int → Int → Int → Int → Int → Int → Int → Int → Int → Int → Int → Int → Int → Option ((List (S102)) × List Int)
  | 0, _, _, _, _, _, _, _, _, _, _, _, _, _, _, _, _, _, _, _ => none
  | k + 1, x4, x8, x12, x13, x14, x269000, x269001, x272000, x272001, x272002, x272003, x272004, x272005, x272006, x272007, x272008, x272009, x272010, x272011 => (impl_vector_times.f x272000 x272001 x272002 x272003 x8).bind fun bt289 => (impl_spanOf.l1 k x4 x8 x12 x13 x14 0 x269000 x269001 bt289.1 bt289.2.1 bt289.2.2.1 bt289.2.2.2 x272004 x272005 x272006 x272007 x272008 x272009 x272010 x272011)
def impl_spanOf.l1 : Nat → Int → Int → List (S70) → Int → Int → Int → List (S102) → List Int → Int → Int → Int → Int → Int → Int → Int → Int → Int → Int → Int → Int → Option ((List (S102)) × List Int)
  | 0, _, _, _, _, _, _, _, _, _, _, _, _, _, _, _, _, _, _, _, _ => none
  | k + 1, x4, x8, x12, x13, x14, x42, x269000, x269001, x272000, x272001, x272002, x272003, x272004, x272005, x272006, x272007, x272008, x272009, x272010, x272011 => if x42 < 8 then (if x42 = 0 then ((impl_element_times.f x272004 x8).bind fun t293 => (impl_spanOf.l1 k x4 x8 x12 x13 x14 (wrap64 (x42 + 1)) x269000 x269001 x272000 x272001 x272002 x272003 t293 x272005 x272006 x272007 x272008 x272009 x272010 x272011)) else (if x42 = 1 then ((impl_element_times.f x272005 x8).bind fun t294 => (impl_spanOf.l1 k x4 x8 x12 x13 x14 (wrap64 (x42 + 1)) x269000 x269001 x272000 x272001 x272002 x272003 x272004 t294 x272006 x272007 x272008 x272009 x272010 x272011)) else (if x42 = 2 then ((impl_element_times.f x272006 x8).bind fun t295 => (impl_spanOf.l1 k x4 x8 x12 x13 x14 (wrap64 (x42 + 1)) x269000 x269001 x272000 x272001 x272002 x272003 x272004 x272005 t295 x272007 x272008 x272009 x272010 x272011)) else (if x42 = 3 then ((impl_element_times.f x272007 x8).bind fun t296 => (impl_spanOf.l1 k x4 x8 x12 x13 x14 (wrap64 (x42 + 1)) x269000 x269001 x272000 x272001 x272002 x272003 x272004 x272005 x272006 t296 x272008 x272009 x272010 x272011)) else (if x42 = 4 then ((impl_element_times.f x272008 x8).bind fun t297 => (impl_spanOf.l1 k x4 x8 x12 x13 x14 (wrap64 (x42 + 1)) x269000 x269001 x272000 x272001 x272002 x272003 x272004 x272005 x272006 x272007 t297 x272009 x272010 x272011)) else (if x42 = 5 then ((impl_element_times.f x272009 x8).bind fun t298 => (impl_spanOf.l1 k x4 x8 x12 x13 x14 (wrap64 (x42 + 1)) x269000 x269001 x272000 x272001 x272002 x272003 x272004 x272005 x272006 x272007 x272008 t298 x272010 x272011)) else (if x42 = 6 then ((impl_element_times.f x272010 x8).bind fun t299 => (impl_spanOf.l1 k x4 x8 x12 x13 x14 (wrap64 (x42 + 1)) x269000 x269001 x272000 x272001 x272002 x272003 x272004 x272005 x272006 x272007 x272008 x272009 t299 x272011)) else (if x42 = 7 then ((impl_element_times.f x272011 x8).bind fun t300 => (impl_spanOf.l1 k x4 x8 x12 x13 x14 (wrap64 (x42 + 1)) x269000 x269001 x272000 x272001 x272002 x272003 x272004 x272005 x272006 x272007 x272008 x272009 x272010 t300)) else (none))))))))) else (if x269000.length < 1466015503701 then (if x269001.length < 17592186044416 then (impl_spanOf.l0 k x12 x13 (wrap64 (x14 + 1)) (x269000 ++ [(⟨(⟨x272000, x272001, x272002, x272003⟩ : S70), (⟨x272004, x272005, x272006, x272007, x272008, x272009, x272010, x272011⟩ : S100)⟩ : S102)]) (x269001 ++ [x4])) else (none)) else (none))
end
def impl_spanOf.f (k : Nat) (l0 : List (S70)) : Option ((List (S102)) × List Int) := impl_spanOf.l0 k l0 (l0.length : Int) 0 ([] : List (S102)) ([] : List Int)
def impl_spanOf.T17 : Bool × List (List Nat × List Nat) := (true, [([], []), ([], []), ([1], [1]), ([2], [2]), ([3], [3]), ([], []), ([5], [5]), ([4, 6], [4, 6]), ([0, 0, 1, 2, 3, 4, 5, 6, 7], [0]), ([8, 0, 1, 2, 3, 4, 5, 6, 7], [8]), ([9, 7, 7, 0, 1, 2, 3, 4, 5, 6, 7], [7, 9])])
def impl_spanOf.B17 : List Nat := [0, 0, 2, 6, 14, 0, 32, 126, 255, 511, 1023]
theorem impl_spanOf.tab17 : rtab .any (opsOf Try.f65 17) = impl_spanOf.T17 := by kernel_rfl
theorem impl_spanOf.bits17 : waitsOk impl_spanOf.T17.2 impl_spanOf.B17 = true := by kernel_rfl
theorem bA10 {W : World} {g : Nat} {cs : Array Value} {ty : TypeId} {j : Nat} {v : Value} (h : Aside0 (W.heap[g]? = some (.cells cs ty (0, 0)))) (e : cs[j]? = some v) : W.cell? ⟨g, j, none⟩ = some v := (blk_cell h.out j).trans e
set_option maxHeartbeats 8000000 in
set_option maxRecDepth 100000 in
theorem impl_spanOf.calls (k : Nat) (A0 : Option Addr) (c0 : Nat) (l0 : List (S70)) (r1 : List (S102)) (r2 : List Int) (w : World) (hr0 : Kd.C k70 w A0 l0.length l0) (hc0 : l0.length ≤ c0) (h : impl_spanOf.f k l0 = some (r1, r2)) :
  Calls Try.prog 65 #[.slice A0 l0.length c0] w fun e w' => ∃ v0_ v1_ : Value, ∃ g_ : Nat, e = .returned (.pointer (some ⟨g_, 0, none⟩)) ∧ w'.heap[g_]? = some (.cells #[v0_, v1_] 81 (0, 0)) ∧ w.heap.size ≤ g_ ∧ Kd.R k102 102 w' w.heap.size (fun _ => True) v0_ r1 ∧ Kd.R (Kd.int .i64) 3 w' w.heap.size (fun _ => True) v1_ r2 ∧ Below w.heap.size w w' := by
 have hu81 := Try.underlying81
 have hu70 := Try.underlying70
 have hu102 := Try.underlying102
 have HR0 := Aside0.mk hr0
 have HC0 := Aside0.mk hc0
 clear hr0 hc0
 have HB := Aside0.mk (Below.refl w.heap.size w)
 have H : (impl_spanOf.l0 k l0 (l0.length : Int) 0 ([] : List (S102)) ([] : List Int)) = some (r1, r2) := h
 clear h
 have H' := Aside0.mk H
 clear H
 go_enter Try.func65, Try.ntmps65
 go_wp2_with (first | ((with_reducible refine gate_dst (N := 11) rfl ?_); refine box_event ?hg (N := 11) ?hd (cs := #[.slice none 0 0, .slice none 0 0]) (t := 81) ?hr ?_; (case hd => rfl); (case hg => rfl); (case hr => first | (go_simp; done) | (go_simp; rfl)); intro gb268 hg w2 hbox hb; have n0_ := Aside0.mk (below_step (by repeat (first | (with_reducible first | exact HB.out | apply below_alloc | apply pw_below_drewN | apply below_drew1) | exact HB.out)) hb); have n1_ := Aside0.mk (hbox); have n2_ := Aside0.mk ((by rw [hg]; exact (below_size (by repeat (first | (with_reducible first | exact HB.out | apply below_alloc | apply pw_below_drewN | apply below_drew1) | exact HB.out))) : w.heap.size ≤ gb268)); have n3_ := Aside0.mk ((by rw [hg]; exact (below_size (by repeat (first | (with_reducible first | exact HB.out | apply below_alloc | apply pw_below_drewN | apply below_drew1) | exact HB.out))) : w.heap.size ≤ gb268)); clear HB; have HB := n0_; have BK268 := n1_; have GW268 := n2_; have GE268 := n3_; clear n0_ n1_ n2_ n3_; clear hb hbox hg))
 go_loopg [14] k (fun kq v14 w' => ∃ (x14_1 : Int) (x_00_1 : List (S102)) (x_01_1 : List Int) (u269000 : Value) (u269001 : Value), v14 = .int .i64 x14_1 ∧ Aside0 (impl_spanOf.l0 kq l0 (l0.length : Int) x14_1 x_00_1 x_01_1 = some (r1, r2)) ∧ Aside0 (kq ≤ k) ∧ Aside0 (Kd.R k102 102 w' w.heap.size (fun _ => True) u269000 x_00_1) ∧ Aside0 (Kd.R (Kd.int .i64) 3 w' w.heap.size (fun _ => True) u269001 x_01_1) ∧ Aside0 (w'.heap[gb268]? = some (.cells #[u269000, u269001] 81 (0, 0))) ∧ Aside0 (Below w.heap.size w w'))
 case atStart => exact ⟨(0), (([] : List (S102))), (([] : List Int)), (.slice none 0 0), (.slice none 0 0), (by first | rfl | (simp; done) | (simp [*]; done)), H', ⟨Nat.le_refl _⟩, ⟨by first | exact Kd.R_nil _ _ _ _ _ | exact Kd.N_nil _ _ _ _ _ | exact Kd.V_nil _ _ _ _ _ | exact Kd.Q_nil _ _ _ _ _ | exact Kd.S_nil _ _ _ _ _⟩, ⟨by first | exact Kd.R_nil _ _ _ _ _ | exact Kd.N_nil _ _ _ _ _ | exact Kd.V_nil _ _ _ _ _ | exact Kd.Q_nil _ _ _ _ _ | exact Kd.S_nil _ _ _ _ _⟩, ⟨by (with_reducible repeat first|refine blk_drewN ?_ _|refine blk_drew ?_|refine blk_alloc ?_ _); exact BK268.out⟩, ⟨by repeat (first | (with_reducible first | exact HB.out | apply below_alloc | apply pw_below_drewN | apply below_drew1 | refine below_set ?_ GE268.out) | exact HB.out)⟩⟩
 case round =>
  clear H'
  try clear p2
  obtain ⟨x14_1, x_00_1, x_01_1, u269000, u269001, rfl, HA, HK1, HO_269000, HO_269001, BK268, HB⟩ := hrel
  cases gk with
  | zero => exact absurd HA.out (by simp [impl_spanOf.l0])
  | succ k1 =>
   have H := HA.out
   clear HA
   simp only [impl_spanOf.l0] at H
   by_cases c3 : x14_1 < (l0.length : Int)
   ·rw [if_pos c3] at H
    have c3b0 : decide (x14_1 < (l0.length : Int)) = true := decide_eq_true c3
    clear c3
    by_cases c4 : 0 ≤ x14_1
    ·rw [if_pos c4] at H
     have c4b0 : decide (0 ≤ x14_1) = true := decide_eq_true c4
     clear c4
     by_cases c5 : x14_1 < (l0.length : Int)
     ·rw [if_pos c5] at H
      have c5b0 : decide (x14_1 < (l0.length : Int)) = true := decide_eq_true c5
      clear c5
      have HC6 := Aside0.mk H
      clear H
      have p269 : 0 ≤ (x14_1 : Int) := of_decide_eq_true (by first | (with_reducible assumption) | assumption)
      have q269 : x14_1 < (l0.length : Int) := of_decide_eq_true (by first | (with_reducible assumption) | assumption)
      obtain ⟨ad269, e269, hx269_0, hx269_1, hx269_2, hx269_3⟩ := at_T70 HR0.out x14_1 p269 q269
      cases e269
      replace hx269_0 := (HB.out.cell (World.block_lt_of_cell? w _ hx269_0)).trans hx269_0
      replace hx269_1 := (HB.out.cell (World.block_lt_of_cell? w _ hx269_1)).trans hx269_1
      replace hx269_2 := (HB.out.cell (World.block_lt_of_cell? w _ hx269_2)).trans hx269_2
      replace hx269_3 := (HB.out.cell (World.block_lt_of_cell? w _ hx269_3)).trans hx269_3
      replace p269 := eq_true p269
      replace q269 := eq_true q269
      go_upto_region 6 with (first | ((with_reducible refine gate_dst (N := 5) rfl ?_); refine box_event ?hg (N := 5) ?hd (cs := #[.int .i64 0, .int .i64 0, .int .i64 0, .int .i64 0]) (t := 70) ?hr ?_; (case hd => rfl); (case hg => rfl); (case hr => first | (go_simp; done) | (go_simp; rfl)); intro gb270 hg w7 hbox hb; have n0_ := Aside0.mk (Kd.R_below (by (with_reducible repeat (first | apply Kd.R_alloc | apply Kd.R_drewN | apply Kd.R_drew)); exact HO_269000.out) hb); have n1_ := Aside0.mk (Kd.R_below (by (with_reducible repeat (first | apply Kd.R_alloc | apply Kd.R_drewN | apply Kd.R_drew)); exact HO_269001.out) hb); have n2_ := Aside0.mk (blk_below (g := gb268) (o := .cells #[u269000, u269001] 81 (0, 0)) (by (with_reducible repeat first|refine blk_drewN ?_ _|refine blk_drew ?_|refine blk_alloc ?_ _); exact BK268.out) hb); have n3_ := Aside0.mk (below_step (by repeat (first | (with_reducible first | exact HB.out | apply below_alloc | apply pw_below_drewN | apply below_drew1 | refine below_set ?_ GE268.out) | exact HB.out)) hb); have n4_ := Aside0.mk (hbox); have n5_ := Aside0.mk ((by rw [hg]; exact (below_size (by repeat (first | (with_reducible first | exact HB.out | apply below_alloc | apply pw_below_drewN | apply below_drew1 | refine below_set ?_ GE268.out) | exact HB.out))) : w.heap.size ≤ gb270)); have n6_ := Aside0.mk ((by rw [hg]; exact (below_size (by repeat (first | (with_reducible first | exact HB.out | apply below_alloc | apply pw_below_drewN | apply below_drew1 | refine below_set ?_ GE268.out) | exact HB.out))) : w.heap.size ≤ gb270)); have n7_ := Aside0.mk ((by rw [hg]; exact Nat.ne_of_lt (blk_lt (g := gb268) (o := .cells #[u269000, u269001] 81 (0, 0)) (by (with_reducible repeat first|refine blk_drewN ?_ _|refine blk_drew ?_|refine blk_alloc ?_ _); exact BK268.out)) : gb268 ≠ gb270)); have n8_ := Aside0.mk ((by rw [hg]; exact Nat.ne_of_gt (blk_lt (g := gb268) (o := .cells #[u269000, u269001] 81 (0, 0)) (by (with_reducible repeat first|refine blk_drewN ?_ _|refine blk_drew ?_|refine blk_alloc ?_ _); exact BK268.out)) : gb270 ≠ gb268)); clear HO_269000; clear HO_269001; clear BK268; clear HB; have HO_269000 := n0_; have HO_269001 := n1_; have BK268 := n2_; have HB := n3_; have BK270 := n4_; have GW270 := n5_; have GE270 := n6_; have NB268_270 := n7_; have NB270_268 := n8_; clear n0_ n1_ n2_ n3_ n4_ n5_ n6_ n7_ n8_; clear hb hbox hg; have hnb8 := NB270_268.out; have hnc8 := NB268_270.out; have hcz9_0 : w7.cell? ⟨gb270, 0, none⟩ = some (.int .i64 0) := bA10 BK270 rfl; have hfz9_0 := blk_frozen BK270.out 0; have hcz10_1 : w7.cell? ⟨gb270, 1, none⟩ = some (.int .i64 0) := bA10 BK270 rfl; have hfz10_1 := blk_frozen BK270.out 1; have hcz11_2 : w7.cell? ⟨gb270, 2, none⟩ = some (.int .i64 0) := bA10 BK270 rfl; have hfz11_2 := blk_frozen BK270.out 2; have hcz12_3 : w7.cell? ⟨gb270, 3, none⟩ = some (.int .i64 0) := bA10 BK270 rfl; have hfz12_3 := blk_frozen BK270.out 3) | ((with_reducible refine gate_store (t := 70) (p := 5) rfl ?_); refine store_event (t := 70) (p := 5) (v := ?vo_w13) (w1 := ((((w7.setCell ⟨gb270, 0, none⟩ (.int .i64 ((rd_T70 l0 x14_1).f0))).setCell ⟨gb270, 1, none⟩ (.int .i64 ((rd_T70 l0 x14_1).f1))).setCell ⟨gb270, 2, none⟩ (.int .i64 ((rd_T70 l0 x14_1).f2))).setCell ⟨gb270, 3, none⟩ (.int .i64 ((rd_T70 l0 x14_1).f3)))) ?hg ?ho ?hn ?hr ?_; (case ho => rfl); (case hg => rfl); (case hn => rfl); (case hr => first | (go_simp; done) | (go_simp; rfl)); intro w13 hw; have n0_ : Aside0 (Kd.R k102 102 w13 w.heap.size (fun _ => True) u269000 x_00_1) := ⟨(by rw [hw]; exact (by (with_reducible repeat (first | apply Kd.R_alloc | apply Kd.R_drewN | apply Kd.R_drew)); exact Kd.R_mono (Kd.R_far (p := ⟨gb270, 3, none⟩) (Kd.R_far (p := ⟨gb270, 2, none⟩) (Kd.R_far (p := ⟨gb270, 1, none⟩) (Kd.R_far (p := ⟨gb270, 0, none⟩) (Kd.R_types HO_269000.out BK270.out (by decide)) (fun _ hk => hk.2) (.int .i64 ((rd_T70 l0 x14_1).f0))) (fun _ hk => hk.2) (.int .i64 ((rd_T70 l0 x14_1).f1))) (fun _ hk => hk.2) (.int .i64 ((rd_T70 l0 x14_1).f2))) (fun _ hk => hk.2) (.int .i64 ((rd_T70 l0 x14_1).f3))) (fun _ hk => trivial)))⟩; have n1_ : Aside0 (Kd.R (Kd.int .i64) 3 w13 w.heap.size (fun _ => True) u269001 x_01_1) := ⟨(by rw [hw]; exact (by (with_reducible repeat (first | apply Kd.R_alloc | apply Kd.R_drewN | apply Kd.R_drew)); exact Kd.R_mono (Kd.R_far (p := ⟨gb270, 3, none⟩) (Kd.R_far (p := ⟨gb270, 2, none⟩) (Kd.R_far (p := ⟨gb270, 1, none⟩) (Kd.R_far (p := ⟨gb270, 0, none⟩) (Kd.R_types HO_269001.out BK270.out (by decide)) (fun _ hk => hk.2) (.int .i64 ((rd_T70 l0 x14_1).f0))) (fun _ hk => hk.2) (.int .i64 ((rd_T70 l0 x14_1).f1))) (fun _ hk => hk.2) (.int .i64 ((rd_T70 l0 x14_1).f2))) (fun _ hk => hk.2) (.int .i64 ((rd_T70 l0 x14_1).f3))) (fun _ hk => trivial)))⟩; have n2_ : Aside0 (w13.heap[gb268]? = some (.cells #[u269000, u269001] 81 (0, 0))) := ⟨(by rw [hw]; exact (by (with_reducible repeat first|refine blk_drewN ?_ _|refine blk_drew ?_|refine blk_alloc ?_ _); refine blk_far ?_ NB268_270.out _; (with_reducible repeat first|refine blk_drewN ?_ _|refine blk_drew ?_|refine blk_alloc ?_ _); refine blk_far ?_ NB268_270.out _; (with_reducible repeat first|refine blk_drewN ?_ _|refine blk_drew ?_|refine blk_alloc ?_ _); refine blk_far ?_ NB268_270.out _; (with_reducible repeat first|refine blk_drewN ?_ _|refine blk_drew ?_|refine blk_alloc ?_ _); refine blk_far ?_ NB268_270.out _; (with_reducible repeat first|refine blk_drewN ?_ _|refine blk_drew ?_|refine blk_alloc ?_ _); exact BK268.out))⟩; have n3_ : Aside0 (w13.heap[gb270]? = some (.cells #[.int .i64 ((rd_T70 l0 x14_1).f0), .int .i64 ((rd_T70 l0 x14_1).f1), .int .i64 ((rd_T70 l0 x14_1).f2), .int .i64 ((rd_T70 l0 x14_1).f3)] 70 (0, 0))) := ⟨(by rw [hw]; exact (by (with_reducible repeat first|refine blk_drewN ?_ _|refine blk_drew ?_|refine blk_alloc ?_ _); refine blk_put (cs := #[.int .i64 ((rd_T70 l0 x14_1).f0), .int .i64 ((rd_T70 l0 x14_1).f1), .int .i64 ((rd_T70 l0 x14_1).f2), .int .i64 0]) ?_ 3 _ rfl; (with_reducible repeat first|refine blk_drewN ?_ _|refine blk_drew ?_|refine blk_alloc ?_ _); refine blk_put (cs := #[.int .i64 ((rd_T70 l0 x14_1).f0), .int .i64 ((rd_T70 l0 x14_1).f1), .int .i64 0, .int .i64 0]) ?_ 2 _ rfl; (with_reducible repeat first|refine blk_drewN ?_ _|refine blk_drew ?_|refine blk_alloc ?_ _); refine blk_put (cs := #[.int .i64 ((rd_T70 l0 x14_1).f0), .int .i64 0, .int .i64 0, .int .i64 0]) ?_ 1 _ rfl; (with_reducible repeat first|refine blk_drewN ?_ _|refine blk_drew ?_|refine blk_alloc ?_ _); refine blk_put (cs := #[.int .i64 0, .int .i64 0, .int .i64 0, .int .i64 0]) ?_ 0 _ rfl; (with_reducible repeat first|refine blk_drewN ?_ _|refine blk_drew ?_|refine blk_alloc ?_ _); exact BK270.out))⟩; have n4_ : Aside0 (Below w.heap.size w w13) := ⟨(by rw [hw]; exact (by repeat (first | (with_reducible first | exact HB.out | apply below_alloc | apply pw_below_drewN | apply below_drew1 | refine below_set ?_ GE268.out | refine below_set ?_ GE270.out) | exact HB.out)))⟩; clear hw; clear HO_269000; clear HO_269001; clear BK268; clear BK270; clear HB; have HO_269000 := n0_; have HO_269001 := n1_; have BK268 := n2_; have BK270 := n3_; have HB := n4_; clear n0_ n1_ n2_ n3_ n4_; have hcz14_0 : w13.cell? ⟨gb270, 0, none⟩ = some (.int .i64 ((rd_T70 l0 x14_1).f0)) := bA10 BK270 rfl; have hcz14_1 : w13.cell? ⟨gb270, 1, none⟩ = some (.int .i64 ((rd_T70 l0 x14_1).f1)) := bA10 BK270 rfl; have hcz14_2 : w13.cell? ⟨gb270, 2, none⟩ = some (.int .i64 ((rd_T70 l0 x14_1).f2)) := bA10 BK270 rfl; have hcz14_3 : w13.cell? ⟨gb270, 3, none⟩ = some (.int .i64 ((rd_T70 l0 x14_1).f3)) := bA10 BK270 rfl; have hfz14_0 := blk_frozen BK270.out 0; have hfz14_1 := blk_frozen BK270.out 1; have hfz14_2 := blk_frozen BK270.out 2; have hfz14_3 := blk_frozen BK270.out 3) | ((with_reducible refine gate_dst (N := 6) rfl ?_); refine box_event ?hg (N := 6) ?hd (cs := #[.int .i64 0, .int .i64 0, .int .i64 0, .int .i64 0, .int .i64 0, .int .i64 0, .int .i64 0, .int .i64 0, .int .i64 0, .int .i64 0, .int .i64 0, .int .i64 0]) (t := 102) ?hr ?_; (case hd => rfl); (case hg => rfl); (case hr => first | (go_simp; done) | (go_simp; rfl)); intro gb271 hg w15 hbox hb; have n0_ := Aside0.mk (Kd.R_below (Kd.R_elderB (by (with_reducible repeat (first | apply Kd.R_alloc | apply Kd.R_drewN | apply Kd.R_drew)); exact HO_269000.out) gb271 (Nat.le_of_eq hg.symm)) hb); have n1_ := Aside0.mk (Kd.R_below (by (with_reducible repeat (first | apply Kd.R_alloc | apply Kd.R_drewN | apply Kd.R_drew)); exact HO_269001.out) hb); have n2_ := Aside0.mk (blk_below (g := gb268) (o := .cells #[u269000, u269001] 81 (0, 0)) (by (with_reducible repeat first|refine blk_drewN ?_ _|refine blk_drew ?_|refine blk_alloc ?_ _); exact BK268.out) hb); have n3_ := Aside0.mk (blk_below (g := gb270) (o := .cells #[.int .i64 ((rd_T70 l0 x14_1).f0), .int .i64 ((rd_T70 l0 x14_1).f1), .int .i64 ((rd_T70 l0 x14_1).f2), .int .i64 ((rd_T70 l0 x14_1).f3)] 70 (0, 0)) (by (with_reducible repeat first|refine blk_drewN ?_ _|refine blk_drew ?_|refine blk_alloc ?_ _); exact BK270.out) hb); have n4_ := Aside0.mk (below_step (by repeat (first | (with_reducible first | exact HB.out | apply below_alloc | apply pw_below_drewN | apply below_drew1 | refine below_set ?_ GE268.out | refine below_set ?_ GE270.out) | exact HB.out)) hb); have n5_ := Aside0.mk (hbox); have n6_ := Aside0.mk ((by rw [hg]; exact (below_size (by repeat (first | (with_reducible first | exact HB.out | apply below_alloc | apply pw_below_drewN | apply below_drew1 | refine below_set ?_ GE268.out | refine below_set ?_ GE270.out) | exact HB.out))) : w.heap.size ≤ gb271)); have n7_ := Aside0.mk ((by rw [hg]; exact (below_size (by repeat (first | (with_reducible first | exact HB.out | apply below_alloc | apply pw_below_drewN | apply below_drew1 | refine below_set ?_ GE268.out | refine below_set ?_ GE270.out) | exact HB.out))) : w.heap.size ≤ gb271)); have n8_ := Aside0.mk ((by rw [hg]; exact Nat.ne_of_lt (blk_lt (g := gb268) (o := .cells #[u269000, u269001] 81 (0, 0)) (by (with_reducible repeat first|refine blk_drewN ?_ _|refine blk_drew ?_|refine blk_alloc ?_ _); exact BK268.out)) : gb268 ≠ gb271)); have n9_ := Aside0.mk ((by rw [hg]; exact Nat.ne_of_gt (blk_lt (g := gb268) (o := .cells #[u269000, u269001] 81 (0, 0)) (by (with_reducible repeat first|refine blk_drewN ?_ _|refine blk_drew ?_|refine blk_alloc ?_ _); exact BK268.out)) : gb271 ≠ gb268)); have n10_ := Aside0.mk ((by rw [hg]; exact Nat.ne_of_lt (blk_lt (g := gb270) (o := .cells #[.int .i64 ((rd_T70 l0 x14_1).f0), .int .i64 ((rd_T70 l0 x14_1).f1), .int .i64 ((rd_T70 l0 x14_1).f2), .int .i64 ((rd_T70 l0 x14_1).f3)] 70 (0, 0)) (by (with_reducible repeat first|refine blk_drewN ?_ _|refine blk_drew ?_|refine blk_alloc ?_ _); exact BK270.out)) : gb270 ≠ gb271)); have n11_ := Aside0.mk ((by rw [hg]; exact Nat.ne_of_gt (blk_lt (g := gb270) (o := .cells #[.int .i64 ((rd_T70 l0 x14_1).f0), .int .i64 ((rd_T70 l0 x14_1).f1), .int .i64 ((rd_T70 l0 x14_1).f2), .int .i64 ((rd_T70 l0 x14_1).f3)] 70 (0, 0)) (by (with_reducible repeat first|refine blk_drewN ?_ _|refine blk_drew ?_|refine blk_alloc ?_ _); exact BK270.out)) : gb271 ≠ gb270)); clear HO_269000; clear HO_269001; clear BK268; clear BK270; clear HB; have HO_269000 := n0_; have HO_269001 := n1_; have BK268 := n2_; have BK270 := n3_; have HB := n4_; have BK271 := n5_; have GW271 := n6_; have GE271 := n7_; have NB268_271 := n8_; have NB271_268 := n9_; have NB270_271 := n10_; have NB271_270 := n11_; clear n0_ n1_ n2_ n3_ n4_ n5_ n6_ n7_ n8_ n9_ n10_ n11_; clear hb hbox hg; have hnb16 := NB271_268.out; have hnc16 := NB268_271.out; have hnb17 := NB271_270.out; have hnc17 := NB270_271.out; have hcz18_0 : w15.cell? ⟨gb271, 0, none⟩ = some (.int .i64 0) := bA10 BK271 rfl; have hfz18_0 := blk_frozen BK271.out 0; have hcz19_1 : w15.cell? ⟨gb271, 1, none⟩ = some (.int .i64 0) := bA10 BK271 rfl; have hfz19_1 := blk_frozen BK271.out 1; have hcz20_2 : w15.cell? ⟨gb271, 2, none⟩ = some (.int .i64 0) := bA10 BK271 rfl; have hfz20_2 := blk_frozen BK271.out 2; have hcz21_3 : w15.cell? ⟨gb271, 3, none⟩ = some (.int .i64 0) := bA10 BK271 rfl; have hfz21_3 := blk_frozen BK271.out 3; have hcz22_4 : w15.cell? ⟨gb271, 4, none⟩ = some (.int .i64 0) := bA10 BK271 rfl; have hfz22_4 := blk_frozen BK271.out 4; have hcz23_5 : w15.cell? ⟨gb271, 5, none⟩ = some (.int .i64 0) := bA10 BK271 rfl; have hfz23_5 := blk_frozen BK271.out 5; have hcz24_6 : w15.cell? ⟨gb271, 6, none⟩ = some (.int .i64 0) := bA10 BK271 rfl; have hfz24_6 := blk_frozen BK271.out 6; have hcz25_7 : w15.cell? ⟨gb271, 7, none⟩ = some (.int .i64 0) := bA10 BK271 rfl; have hfz25_7 := blk_frozen BK271.out 7; have hcz26_8 : w15.cell? ⟨gb271, 8, none⟩ = some (.int .i64 0) := bA10 BK271 rfl; have hfz26_8 := blk_frozen BK271.out 8; have hcz27_9 : w15.cell? ⟨gb271, 9, none⟩ = some (.int .i64 0) := bA10 BK271 rfl; have hfz27_9 := blk_frozen BK271.out 9; have hcz28_10 : w15.cell? ⟨gb271, 10, none⟩ = some (.int .i64 0) := bA10 BK271 rfl; have hfz28_10 := blk_frozen BK271.out 10; have hcz29_11 : w15.cell? ⟨gb271, 11, none⟩ = some (.int .i64 0) := bA10 BK271 rfl; have hfz29_11 := blk_frozen BK271.out 11) | ((with_reducible refine gate_store (t := 102) (p := 6) rfl ?_); refine store_event (t := 102) (p := 6) (v := ?vo_w30) (w1 := ((((((((((((w15.setCell ⟨gb271, 0, none⟩ (.int .i64 ((rd_T70 l0 x14_1).f0))).setCell ⟨gb271, 1, none⟩ (.int .i64 ((rd_T70 l0 x14_1).f1))).setCell ⟨gb271, 2, none⟩ (.int .i64 ((rd_T70 l0 x14_1).f2))).setCell ⟨gb271, 3, none⟩ (.int .i64 ((rd_T70 l0 x14_1).f3))).setCell ⟨gb271, 4, none⟩ (.int .i64 0)).setCell ⟨gb271, 5, none⟩ (.int .i64 0)).setCell ⟨gb271, 6, none⟩ (.int .i64 0)).setCell ⟨gb271, 7, none⟩ (.int .i64 0)).setCell ⟨gb271, 8, none⟩ (.int .i64 0)).setCell ⟨gb271, 9, none⟩ (.int .i64 0)).setCell ⟨gb271, 10, none⟩ (.int .i64 0)).setCell ⟨gb271, 11, none⟩ (.int .i64 0))) ?hg ?ho ?hn ?hr ?_; (case ho => rfl); (case hg => rfl); (case hn => rfl); (case hr => first | (go_simp; done) | (go_simp; rfl)); intro w30 hw; have n0_ : Aside0 (Kd.R k102 102 w30 w.heap.size (fun k_ => k_ ≠ gb271) u269000 x_00_1) := ⟨(by rw [hw]; exact (by (with_reducible repeat (first | apply Kd.R_alloc | apply Kd.R_drewN | apply Kd.R_drew)); exact Kd.R_mono (Kd.R_far (p := ⟨gb271, 11, none⟩) (Kd.R_far (p := ⟨gb271, 10, none⟩) (Kd.R_far (p := ⟨gb271, 9, none⟩) (Kd.R_far (p := ⟨gb271, 8, none⟩) (Kd.R_far (p := ⟨gb271, 7, none⟩) (Kd.R_far (p := ⟨gb271, 6, none⟩) (Kd.R_far (p := ⟨gb271, 5, none⟩) (Kd.R_far (p := ⟨gb271, 4, none⟩) (Kd.R_far (p := ⟨gb271, 3, none⟩) (Kd.R_far (p := ⟨gb271, 2, none⟩) (Kd.R_far (p := ⟨gb271, 1, none⟩) (Kd.R_far (p := ⟨gb271, 0, none⟩) (Kd.R_mono HO_269000.out (fun k_ hk => (⟨hk, hk.2⟩ : _ ∧ k_ ≠ gb271))) (fun _ hk => hk.2) (.int .i64 ((rd_T70 l0 x14_1).f0))) (fun _ hk => hk.2) (.int .i64 ((rd_T70 l0 x14_1).f1))) (fun _ hk => hk.2) (.int .i64 ((rd_T70 l0 x14_1).f2))) (fun _ hk => hk.2) (.int .i64 ((rd_T70 l0 x14_1).f3))) (fun _ hk => hk.2) (.int .i64 0)) (fun _ hk => hk.2) (.int .i64 0)) (fun _ hk => hk.2) (.int .i64 0)) (fun _ hk => hk.2) (.int .i64 0)) (fun _ hk => hk.2) (.int .i64 0)) (fun _ hk => hk.2) (.int .i64 0)) (fun _ hk => hk.2) (.int .i64 0)) (fun _ hk => hk.2) (.int .i64 0)) (fun _ hk => hk.1.2)))⟩; have n1_ : Aside0 (Kd.R (Kd.int .i64) 3 w30 w.heap.size (fun _ => True) u269001 x_01_1) := ⟨(by rw [hw]; exact (by (with_reducible repeat (first | apply Kd.R_alloc | apply Kd.R_drewN | apply Kd.R_drew)); exact Kd.R_mono (Kd.R_far (p := ⟨gb271, 11, none⟩) (Kd.R_far (p := ⟨gb271, 10, none⟩) (Kd.R_far (p := ⟨gb271, 9, none⟩) (Kd.R_far (p := ⟨gb271, 8, none⟩) (Kd.R_far (p := ⟨gb271, 7, none⟩) (Kd.R_far (p := ⟨gb271, 6, none⟩) (Kd.R_far (p := ⟨gb271, 5, none⟩) (Kd.R_far (p := ⟨gb271, 4, none⟩) (Kd.R_far (p := ⟨gb271, 3, none⟩) (Kd.R_far (p := ⟨gb271, 2, none⟩) (Kd.R_far (p := ⟨gb271, 1, none⟩) (Kd.R_far (p := ⟨gb271, 0, none⟩) (Kd.R_types HO_269001.out BK271.out (by decide)) (fun _ hk => hk.2) (.int .i64 ((rd_T70 l0 x14_1).f0))) (fun _ hk => hk.2) (.int .i64 ((rd_T70 l0 x14_1).f1))) (fun _ hk => hk.2) (.int .i64 ((rd_T70 l0 x14_1).f2))) (fun _ hk => hk.2) (.int .i64 ((rd_T70 l0 x14_1).f3))) (fun _ hk => hk.2) (.int .i64 0)) (fun _ hk => hk.2) (.int .i64 0)) (fun _ hk => hk.2) (.int .i64 0)) (fun _ hk => hk.2) (.int .i64 0)) (fun _ hk => hk.2) (.int .i64 0)) (fun _ hk => hk.2) (.int .i64 0)) (fun _ hk => hk.2) (.int .i64 0)) (fun _ hk => hk.2) (.int .i64 0)) (fun _ hk => trivial)))⟩; have n2_ : Aside0 (w30.heap[gb268]? = some (.cells #[u269000, u269001] 81 (0, 0))) := ⟨(by rw [hw]; exact (by (with_reducible repeat first|refine blk_drewN ?_ _|refine blk_drew ?_|refine blk_alloc ?_ _); refine blk_far ?_ NB268_271.out _; (with_reducible repeat first|refine blk_drewN ?_ _|refine blk_drew ?_|refine blk_alloc ?_ _); refine blk_far ?_ NB268_271.out _; (with_reducible repeat first|refine blk_drewN ?_ _|refine blk_drew ?_|refine blk_alloc ?_ _); refine blk_far ?_ NB268_271.out _; (with_reducible repeat first|refine blk_drewN ?_ _|refine blk_drew ?_|refine blk_alloc ?_ _); refine blk_far ?_ NB268_271.out _; (with_reducible repeat first|refine blk_drewN ?_ _|refine blk_drew ?_|refine blk_alloc ?_ _); refine blk_far ?_ NB268_271.out _; (with_reducible repeat first|refine blk_drewN ?_ _|refine blk_drew ?_|refine blk_alloc ?_ _); refine blk_far ?_ NB268_271.out _; (with_reducible repeat first|refine blk_drewN ?_ _|refine blk_drew ?_|refine blk_alloc ?_ _); refine blk_far ?_ NB268_271.out _; (with_reducible repeat first|refine blk_drewN ?_ _|refine blk_drew ?_|refine blk_alloc ?_ _); refine blk_far ?_ NB268_271.out _; (with_reducible repeat first|refine blk_drewN ?_ _|refine blk_drew ?_|refine blk_alloc ?_ _); refine blk_far ?_ NB268_271.out _; (with_reducible repeat first|refine blk_drewN ?_ _|refine blk_drew ?_|refine blk_alloc ?_ _); refine blk_far ?_ NB268_271.out _; (with_reducible repeat first|refine blk_drewN ?_ _|refine blk_drew ?_|refine blk_alloc ?_ _); refine blk_far ?_ NB268_271.out _; (with_reducible repeat first|refine blk_drewN ?_ _|refine blk_drew ?_|refine blk_alloc ?_ _); refine blk_far ?_ NB268_271.out _; (with_reducible repeat first|refine blk_drewN ?_ _|refine blk_drew ?_|refine blk_alloc ?_ _); exact BK268.out))⟩; have n3_ : Aside0 (w30.heap[gb270]? = some (.cells #[.int .i64 ((rd_T70 l0 x14_1).f0), .int .i64 ((rd_T70 l0 x14_1).f1), .int .i64 ((rd_T70 l0 x14_1).f2), .int .i64 ((rd_T70 l0 x14_1).f3)] 70 (0, 0))) := ⟨(by rw [hw]; exact (by (with_reducible repeat first|refine blk_drewN ?_ _|refine blk_drew ?_|refine blk_alloc ?_ _); refine blk_far ?_ NB270_271.out _; (with_reducible repeat first|refine blk_drewN ?_ _|refine blk_drew ?_|refine blk_alloc ?_ _); refine blk_far ?_ NB270_271.out _; (with_reducible repeat first|refine blk_drewN ?_ _|refine blk_drew ?_|refine blk_alloc ?_ _); refine blk_far ?_ NB270_271.out _; (with_reducible repeat first|refine blk_drewN ?_ _|refine blk_drew ?_|refine blk_alloc ?_ _); refine blk_far ?_ NB270_271.out _; (with_reducible repeat first|refine blk_drewN ?_ _|refine blk_drew ?_|refine blk_alloc ?_ _); refine blk_far ?_ NB270_271.out _; (with_reducible repeat first|refine blk_drewN ?_ _|refine blk_drew ?_|refine blk_alloc ?_ _); refine blk_far ?_ NB270_271.out _; (with_reducible repeat first|refine blk_drewN ?_ _|refine blk_drew ?_|refine blk_alloc ?_ _); refine blk_far ?_ NB270_271.out _; (with_reducible repeat first|refine blk_drewN ?_ _|refine blk_drew ?_|refine blk_alloc ?_ _); refine blk_far ?_ NB270_271.out _; (with_reducible repeat first|refine blk_drewN ?_ _|refine blk_drew ?_|refine blk_alloc ?_ _); refine blk_far ?_ NB270_271.out _; (with_reducible repeat first|refine blk_drewN ?_ _|refine blk_drew ?_|refine blk_alloc ?_ _); refine blk_far ?_ NB270_271.out _; (with_reducible repeat first|refine blk_drewN ?_ _|refine blk_drew ?_|refine blk_alloc ?_ _); refine blk_far ?_ NB270_271.out _; (with_reducible repeat first|refine blk_drewN ?_ _|refine blk_drew ?_|refine blk_alloc ?_ _); refine blk_far ?_ NB270_271.out _; (with_reducible repeat first|refine blk_drewN ?_ _|refine blk_drew ?_|refine blk_alloc ?_ _); exact BK270.out))⟩; have n4_ : Aside0 (w30.heap[gb271]? = some (.cells #[.int .i64 ((rd_T70 l0 x14_1).f0), .int .i64 ((rd_T70 l0 x14_1).f1), .int .i64 ((rd_T70 l0 x14_1).f2), .int .i64 ((rd_T70 l0 x14_1).f3), .int .i64 0, .int .i64 0, .int .i64 0, .int .i64 0, .int .i64 0, .int .i64 0, .int .i64 0, .int .i64 0] 102 (0, 0))) := ⟨(by rw [hw]; exact (by (with_reducible repeat first|refine blk_drewN ?_ _|refine blk_drew ?_|refine blk_alloc ?_ _); refine blk_put (cs := #[.int .i64 ((rd_T70 l0 x14_1).f0), .int .i64 ((rd_T70 l0 x14_1).f1), .int .i64 ((rd_T70 l0 x14_1).f2), .int .i64 ((rd_T70 l0 x14_1).f3), .int .i64 0, .int .i64 0, .int .i64 0, .int .i64 0, .int .i64 0, .int .i64 0, .int .i64 0, .int .i64 0]) ?_ 11 _ rfl; (with_reducible repeat first|refine blk_drewN ?_ _|refine blk_drew ?_|refine blk_alloc ?_ _); refine blk_put (cs := #[.int .i64 ((rd_T70 l0 x14_1).f0), .int .i64 ((rd_T70 l0 x14_1).f1), .int .i64 ((rd_T70 l0 x14_1).f2), .int .i64 ((rd_T70 l0 x14_1).f3), .int .i64 0, .int .i64 0, .int .i64 0, .int .i64 0, .int .i64 0, .int .i64 0, .int .i64 0, .int .i64 0]) ?_ 10 _ rfl; (with_reducible repeat first|refine blk_drewN ?_ _|refine blk_drew ?_|refine blk_alloc ?_ _); refine blk_put (cs := #[.int .i64 ((rd_T70 l0 x14_1).f0), .int .i64 ((rd_T70 l0 x14_1).f1), .int .i64 ((rd_T70 l0 x14_1).f2), .int .i64 ((rd_T70 l0 x14_1).f3), .int .i64 0, .int .i64 0, .int .i64 0, .int .i64 0, .int .i64 0, .int .i64 0, .int .i64 0, .int .i64 0]) ?_ 9 _ rfl; (with_reducible repeat first|refine blk_drewN ?_ _|refine blk_drew ?_|refine blk_alloc ?_ _); refine blk_put (cs := #[.int .i64 ((rd_T70 l0 x14_1).f0), .int .i64 ((rd_T70 l0 x14_1).f1), .int .i64 ((rd_T70 l0 x14_1).f2), .int .i64 ((rd_T70 l0 x14_1).f3), .int .i64 0, .int .i64 0, .int .i64 0, .int .i64 0, .int .i64 0, .int .i64 0, .int .i64 0, .int .i64 0]) ?_ 8 _ rfl; (with_reducible repeat first|refine blk_drewN ?_ _|refine blk_drew ?_|refine blk_alloc ?_ _); refine blk_put (cs := #[.int .i64 ((rd_T70 l0 x14_1).f0), .int .i64 ((rd_T70 l0 x14_1).f1), .int .i64 ((rd_T70 l0 x14_1).f2), .int .i64 ((rd_T70 l0 x14_1).f3), .int .i64 0, .int .i64 0, .int .i64 0, .int .i64 0, .int .i64 0, .int .i64 0, .int .i64 0, .int .i64 0]) ?_ 7 _ rfl; (with_reducible repeat first|refine blk_drewN ?_ _|refine blk_drew ?_|refine blk_alloc ?_ _); refine blk_put (cs := #[.int .i64 ((rd_T70 l0 x14_1).f0), .int .i64 ((rd_T70 l0 x14_1).f1), .int .i64 ((rd_T70 l0 x14_1).f2), .int .i64 ((rd_T70 l0 x14_1).f3), .int .i64 0, .int .i64 0, .int .i64 0, .int .i64 0, .int .i64 0, .int .i64 0, .int .i64 0, .int .i64 0]) ?_ 6 _ rfl; (with_reducible repeat first|refine blk_drewN ?_ _|refine blk_drew ?_|refine blk_alloc ?_ _); refine blk_put (cs := #[.int .i64 ((rd_T70 l0 x14_1).f0), .int .i64 ((rd_T70 l0 x14_1).f1), .int .i64 ((rd_T70 l0 x14_1).f2), .int .i64 ((rd_T70 l0 x14_1).f3), .int .i64 0, .int .i64 0, .int .i64 0, .int .i64 0, .int .i64 0, .int .i64 0, .int .i64 0, .int .i64 0]) ?_ 5 _ rfl; (with_reducible repeat first|refine blk_drewN ?_ _|refine blk_drew ?_|refine blk_alloc ?_ _); refine blk_put (cs := #[.int .i64 ((rd_T70 l0 x14_1).f0), .int .i64 ((rd_T70 l0 x14_1).f1), .int .i64 ((rd_T70 l0 x14_1).f2), .int .i64 ((rd_T70 l0 x14_1).f3), .int .i64 0, .int .i64 0, .int .i64 0, .int .i64 0, .int .i64 0, .int .i64 0, .int .i64 0, .int .i64 0]) ?_ 4 _ rfl; (with_reducible repeat first|refine blk_drewN ?_ _|refine blk_drew ?_|refine blk_alloc ?_ _); refine blk_put (cs := #[.int .i64 ((rd_T70 l0 x14_1).f0), .int .i64 ((rd_T70 l0 x14_1).f1), .int .i64 ((rd_T70 l0 x14_1).f2), .int .i64 0, .int .i64 0, .int .i64 0, .int .i64 0, .int .i64 0, .int .i64 0, .int .i64 0, .int .i64 0, .int .i64 0]) ?_ 3 _ rfl; (with_reducible repeat first|refine blk_drewN ?_ _|refine blk_drew ?_|refine blk_alloc ?_ _); refine blk_put (cs := #[.int .i64 ((rd_T70 l0 x14_1).f0), .int .i64 ((rd_T70 l0 x14_1).f1), .int .i64 0, .int .i64 0, .int .i64 0, .int .i64 0, .int .i64 0, .int .i64 0, .int .i64 0, .int .i64 0, .int .i64 0, .int .i64 0]) ?_ 2 _ rfl; (with_reducible repeat first|refine blk_drewN ?_ _|refine blk_drew ?_|refine blk_alloc ?_ _); refine blk_put (cs := #[.int .i64 ((rd_T70 l0 x14_1).f0), .int .i64 0, .int .i64 0, .int .i64 0, .int .i64 0, .int .i64 0, .int .i64 0, .int .i64 0, .int .i64 0, .int .i64 0, .int .i64 0, .int .i64 0]) ?_ 1 _ rfl; (with_reducible repeat first|refine blk_drewN ?_ _|refine blk_drew ?_|refine blk_alloc ?_ _); refine blk_put (cs := #[.int .i64 0, .int .i64 0, .int .i64 0, .int .i64 0, .int .i64 0, .int .i64 0, .int .i64 0, .int .i64 0, .int .i64 0, .int .i64 0, .int .i64 0, .int .i64 0]) ?_ 0 _ rfl; (with_reducible repeat first|refine blk_drewN ?_ _|refine blk_drew ?_|refine blk_alloc ?_ _); exact BK271.out))⟩; have n5_ : Aside0 (Below w.heap.size w w30) := ⟨(by rw [hw]; exact (by repeat (first | (with_reducible first | exact HB.out | apply below_alloc | apply pw_below_drewN | apply below_drew1 | refine below_set ?_ GE268.out | refine below_set ?_ GE270.out | refine below_set ?_ GE271.out) | exact HB.out)))⟩; clear hw; clear HO_269000; clear HO_269001; clear BK268; clear BK270; clear BK271; clear HB; have HO_269000 := n0_; have HO_269001 := n1_; have BK268 := n2_; have BK270 := n3_; have BK271 := n4_; have HB := n5_; clear n0_ n1_ n2_ n3_ n4_ n5_))
      (try simp only [Act.put, List.setIfInBounds_toArray, List.set_cons_zero, List.set_cons_succ])
      go_cut [] (fun wc => ∃ (kq : Nat) (y_04_5 : Int) (y_05_5 : Int) (y_06_5 : Int) (y_07_5 : Int) (y_08_5 : Int) (y_09_5 : Int) (y_10_5 : Int) (y_11_5 : Int), Aside0 (impl_spanOf.j1 kq x14_1 l0 (l0.length : Int) x14_1 x_00_1 x_01_1 ((rd_T70 l0 x14_1).f0) ((rd_T70 l0 x14_1).f1) ((rd_T70 l0 x14_1).f2) ((rd_T70 l0 x14_1).f3) y_04_5 y_05_5 y_06_5 y_07_5 y_08_5 y_09_5 y_10_5 y_11_5 = some (r1, r2)) ∧ Aside0 (kq ≤ k1) ∧ Aside0 (Kd.R k102 102 wc w.heap.size (fun k_ => k_ ≠ gb271) u269000 x_00_1) ∧ Aside0 (Kd.R (Kd.int .i64) 3 wc w.heap.size (fun _ => True) u269001 x_01_1) ∧ Aside0 (wc.heap[gb268]? = some (.cells #[u269000, u269001] 81 (0, 0))) ∧ Aside0 (wc.heap[gb270]? = some (.cells #[.int .i64 ((rd_T70 l0 x14_1).f0), .int .i64 ((rd_T70 l0 x14_1).f1), .int .i64 ((rd_T70 l0 x14_1).f2), .int .i64 ((rd_T70 l0 x14_1).f3)] 70 (0, 0))) ∧ Aside0 (wc.heap[gb271]? = some (.cells #[.int .i64 ((rd_T70 l0 x14_1).f0), .int .i64 ((rd_T70 l0 x14_1).f1), .int .i64 ((rd_T70 l0 x14_1).f2), .int .i64 ((rd_T70 l0 x14_1).f3), .int .i64 y_04_5, .int .i64 y_05_5, .int .i64 y_06_5, .int .i64 y_07_5, .int .i64 y_08_5, .int .i64 y_09_5, .int .i64 y_10_5, .int .i64 y_11_5] 102 (0, 0))) ∧ Aside0 (Below w.heap.size w wc))
      case first =>
       have H := HC6.out
       clear HC6
       by_cases c31 : x14_1 = 0
       ·rw [if_pos c31] at H
        subst c31
        (try have hz_ := eq_true (Int.natCast_pos.1 (of_decide_eq_true c5b0) : 0 < l0.length))
        replace H : (impl_spanOf.j1 k1 (0 : Int) l0 (l0.length : Int) (0 : Int) x_00_1 x_01_1 ((rd_T70 l0 (0 : Int)).f0) ((rd_T70 l0 (0 : Int)).f1) ((rd_T70 l0 (0 : Int)).f2) ((rd_T70 l0 (0 : Int)).f3) 1 0 0 0 0 0 0 0) = some (r1, r2) := H
        have H' := Aside0.mk H
        clear H
        have hnb32 := NB271_268.out
        have hnc32 := NB268_271.out
        have hnb33 := NB271_270.out
        have hnc33 := NB270_271.out
        have hcz34_4 : w30.cell? ⟨gb271, 4, none⟩ = some (.int .i64 0) := bA10 BK271 rfl
        have hfz34_4 := blk_frozen BK271.out 4
        go_wp2
        go_meet
        case rel => exact ⟨_, (1), (0), (0), (0), (0), (0), (0), (0), H', ⟨by have := HK1.out; first | omega | exact Nat.le_refl _⟩, ⟨by (with_reducible repeat (first | apply Kd.R_alloc | apply Kd.R_drewN | apply Kd.R_drew)); exact Kd.R_mono (Kd.R_far (p := ⟨gb271, 4, none⟩) (Kd.R_mono HO_269000.out (fun k_ hk => (⟨hk, hk⟩ : _ ∧ k_ ≠ gb271))) (fun _ hk => hk.2) (.int .i64 1)) (fun _ hk => hk.1)⟩, ⟨by (with_reducible repeat (first | apply Kd.R_alloc | apply Kd.R_drewN | apply Kd.R_drew)); exact Kd.R_mono (Kd.R_far (p := ⟨gb271, 4, none⟩) (Kd.R_types HO_269001.out BK271.out (by decide)) (fun _ hk => hk.2) (.int .i64 1)) (fun _ hk => trivial)⟩, ⟨by (with_reducible repeat first|refine blk_drewN ?_ _|refine blk_drew ?_|refine blk_alloc ?_ _); refine blk_far ?_ NB268_271.out _; (with_reducible repeat first|refine blk_drewN ?_ _|refine blk_drew ?_|refine blk_alloc ?_ _); exact BK268.out⟩, ⟨by (with_reducible repeat first|refine blk_drewN ?_ _|refine blk_drew ?_|refine blk_alloc ?_ _); refine blk_far ?_ NB270_271.out _; (with_reducible repeat first|refine blk_drewN ?_ _|refine blk_drew ?_|refine blk_alloc ?_ _); exact BK270.out⟩, ⟨by (with_reducible repeat first|refine blk_drewN ?_ _|refine blk_drew ?_|refine blk_alloc ?_ _); refine blk_put (cs := #[.int .i64 ((rd_T70 l0 (0 : Int)).f0), .int .i64 ((rd_T70 l0 (0 : Int)).f1), .int .i64 ((rd_T70 l0 (0 : Int)).f2), .int .i64 ((rd_T70 l0 (0 : Int)).f3), .int .i64 0, .int .i64 0, .int .i64 0, .int .i64 0, .int .i64 0, .int .i64 0, .int .i64 0, .int .i64 0]) ?_ 4 _ rfl; (with_reducible repeat first|refine blk_drewN ?_ _|refine blk_drew ?_|refine blk_alloc ?_ _); exact BK271.out⟩, ⟨by repeat (first | (with_reducible first | exact HB.out | apply below_alloc | apply pw_below_drewN | apply below_drew1 | refine below_set ?_ GE268.out | refine below_set ?_ GE270.out | refine below_set ?_ GE271.out) | exact HB.out)⟩⟩
       ·rw [if_neg c31] at H
        clear c31
        by_cases c35 : x14_1 = 1
        ·rw [if_pos c35] at H
         subst c35
         replace H : (impl_spanOf.j1 k1 (1 : Int) l0 (l0.length : Int) (1 : Int) x_00_1 x_01_1 ((rd_T70 l0 (1 : Int)).f0) ((rd_T70 l0 (1 : Int)).f1) ((rd_T70 l0 (1 : Int)).f2) ((rd_T70 l0 (1 : Int)).f3) 0 1 0 0 0 0 0 0) = some (r1, r2) := H
         have H' := Aside0.mk H
         clear H
         have hnb36 := NB271_268.out
         have hnc36 := NB268_271.out
         have hnb37 := NB271_270.out
         have hnc37 := NB270_271.out
         have hcz38_5 : w30.cell? ⟨gb271, 5, none⟩ = some (.int .i64 0) := bA10 BK271 rfl
         have hfz38_5 := blk_frozen BK271.out 5
         go_wp2
         go_meet
         case rel => exact ⟨_, (0), (1), (0), (0), (0), (0), (0), (0), H', ⟨by have := HK1.out; first | omega | exact Nat.le_refl _⟩, ⟨by (with_reducible repeat (first | apply Kd.R_alloc | apply Kd.R_drewN | apply Kd.R_drew)); exact Kd.R_mono (Kd.R_far (p := ⟨gb271, 5, none⟩) (Kd.R_mono HO_269000.out (fun k_ hk => (⟨hk, hk⟩ : _ ∧ k_ ≠ gb271))) (fun _ hk => hk.2) (.int .i64 1)) (fun _ hk => hk.1)⟩, ⟨by (with_reducible repeat (first | apply Kd.R_alloc | apply Kd.R_drewN | apply Kd.R_drew)); exact Kd.R_mono (Kd.R_far (p := ⟨gb271, 5, none⟩) (Kd.R_types HO_269001.out BK271.out (by decide)) (fun _ hk => hk.2) (.int .i64 1)) (fun _ hk => trivial)⟩, ⟨by (with_reducible repeat first|refine blk_drewN ?_ _|refine blk_drew ?_|refine blk_alloc ?_ _); refine blk_far ?_ NB268_271.out _; (with_reducible repeat first|refine blk_drewN ?_ _|refine blk_drew ?_|refine blk_alloc ?_ _); exact BK268.out⟩, ⟨by (with_reducible repeat first|refine blk_drewN ?_ _|refine blk_drew ?_|refine blk_alloc ?_ _); refine blk_far ?_ NB270_271.out _; (with_reducible repeat first|refine blk_drewN ?_ _|refine blk_drew ?_|refine blk_alloc ?_ _); exact BK270.out⟩, ⟨by (with_reducible repeat first|refine blk_drewN ?_ _|refine blk_drew ?_|refine blk_alloc ?_ _); refine blk_put (cs := #[.int .i64 ((rd_T70 l0 (1 : Int)).f0), .int .i64 ((rd_T70 l0 (1 : Int)).f1), .int .i64 ((rd_T70 l0 (1 : Int)).f2), .int .i64 ((rd_T70 l0 (1 : Int)).f3), .int .i64 0, .int .i64 0, .int .i64 0, .int .i64 0, .int .i64 0, .int .i64 0, .int .i64 0, .int .i64 0]) ?_ 5 _ rfl; (with_reducible repeat first|refine blk_drewN ?_ _|refine blk_drew ?_|refine blk_alloc ?_ _); exact BK271.out⟩, ⟨by repeat (first | (with_reducible first | exact HB.out | apply below_alloc | apply pw_below_drewN | apply below_drew1 | refine below_set ?_ GE268.out | refine below_set ?_ GE270.out | refine below_set ?_ GE271.out) | exact HB.out)⟩⟩
        ·rw [if_neg c35] at H
         clear c35
         by_cases c39 : x14_1 = 2
         ·rw [if_pos c39] at H
          subst c39
          replace H : (impl_spanOf.j1 k1 (2 : Int) l0 (l0.length : Int) (2 : Int) x_00_1 x_01_1 ((rd_T70 l0 (2 : Int)).f0) ((rd_T70 l0 (2 : Int)).f1) ((rd_T70 l0 (2 : Int)).f2) ((rd_T70 l0 (2 : Int)).f3) 0 0 1 0 0 0 0 0) = some (r1, r2) := H
          have H' := Aside0.mk H
          clear H
          have hnb40 := NB271_268.out
          have hnc40 := NB268_271.out
          have hnb41 := NB271_270.out
          have hnc41 := NB270_271.out
          have hcz42_6 : w30.cell? ⟨gb271, 6, none⟩ = some (.int .i64 0) := bA10 BK271 rfl
          have hfz42_6 := blk_frozen BK271.out 6
          go_wp2
          go_meet
          case rel => exact ⟨_, (0), (0), (1), (0), (0), (0), (0), (0), H', ⟨by have := HK1.out; first | omega | exact Nat.le_refl _⟩, ⟨by (with_reducible repeat (first | apply Kd.R_alloc | apply Kd.R_drewN | apply Kd.R_drew)); exact Kd.R_mono (Kd.R_far (p := ⟨gb271, 6, none⟩) (Kd.R_mono HO_269000.out (fun k_ hk => (⟨hk, hk⟩ : _ ∧ k_ ≠ gb271))) (fun _ hk => hk.2) (.int .i64 1)) (fun _ hk => hk.1)⟩, ⟨by (with_reducible repeat (first | apply Kd.R_alloc | apply Kd.R_drewN | apply Kd.R_drew)); exact Kd.R_mono (Kd.R_far (p := ⟨gb271, 6, none⟩) (Kd.R_types HO_269001.out BK271.out (by decide)) (fun _ hk => hk.2) (.int .i64 1)) (fun _ hk => trivial)⟩, ⟨by (with_reducible repeat first|refine blk_drewN ?_ _|refine blk_drew ?_|refine blk_alloc ?_ _); refine blk_far ?_ NB268_271.out _; (with_reducible repeat first|refine blk_drewN ?_ _|refine blk_drew ?_|refine blk_alloc ?_ _); exact BK268.out⟩, ⟨by (with_reducible repeat first|refine blk_drewN ?_ _|refine blk_drew ?_|refine blk_alloc ?_ _); refine blk_far ?_ NB270_271.out _; (with_reducible repeat first|refine blk_drewN ?_ _|refine blk_drew ?_|refine blk_alloc ?_ _); exact BK270.out⟩, ⟨by (with_reducible repeat first|refine blk_drewN ?_ _|refine blk_drew ?_|refine blk_alloc ?_ _); refine blk_put (cs := #[.int .i64 ((rd_T70 l0 (2 : Int)).f0), .int .i64 ((rd_T70 l0 (2 : Int)).f1), .int .i64 ((rd_T70 l0 (2 : Int)).f2), .int .i64 ((rd_T70 l0 (2 : Int)).f3), .int .i64 0, .int .i64 0, .int .i64 0, .int .i64 0, .int .i64 0, .int .i64 0, .int .i64 0, .int .i64 0]) ?_ 6 _ rfl; (with_reducible repeat first|refine blk_drewN ?_ _|refine blk_drew ?_|refine blk_alloc ?_ _); exact BK271.out⟩, ⟨by repeat (first | (with_reducible first | exact HB.out | apply below_alloc | apply pw_below_drewN | apply below_drew1 | refine below_set ?_ GE268.out | refine below_set ?_ GE270.out | refine below_set ?_ GE271.out) | exact HB.out)⟩⟩
         ·rw [if_neg c39] at H
          clear c39
          by_cases c43 : x14_1 = 3
          ·rw [if_pos c43] at H
           subst c43
           replace H : (impl_spanOf.j1 k1 (3 : Int) l0 (l0.length : Int) (3 : Int) x_00_1 x_01_1 ((rd_T70 l0 (3 : Int)).f0) ((rd_T70 l0 (3 : Int)).f1) ((rd_T70 l0 (3 : Int)).f2) ((rd_T70 l0 (3 : Int)).f3) 0 0 0 1 0 0 0 0) = some (r1, r2) := H
           have H' := Aside0.mk H
           clear H
           have hnb44 := NB271_268.out
           have hnc44 := NB268_271.out
           have hnb45 := NB271_270.out
           have hnc45 := NB270_271.out
           have hcz46_7 : w30.cell? ⟨gb271, 7, none⟩ = some (.int .i64 0) := bA10 BK271 rfl
           have hfz46_7 := blk_frozen BK271.out 7
           go_wp2
           go_meet
           case rel => exact ⟨_, (0), (0), (0), (1), (0), (0), (0), (0), H', ⟨by have := HK1.out; first | omega | exact Nat.le_refl _⟩, ⟨by (with_reducible repeat (first | apply Kd.R_alloc | apply Kd.R_drewN | apply Kd.R_drew)); exact Kd.R_mono (Kd.R_far (p := ⟨gb271, 7, none⟩) (Kd.R_mono HO_269000.out (fun k_ hk => (⟨hk, hk⟩ : _ ∧ k_ ≠ gb271))) (fun _ hk => hk.2) (.int .i64 1)) (fun _ hk => hk.1)⟩, ⟨by (with_reducible repeat (first | apply Kd.R_alloc | apply Kd.R_drewN | apply Kd.R_drew)); exact Kd.R_mono (Kd.R_far (p := ⟨gb271, 7, none⟩) (Kd.R_types HO_269001.out BK271.out (by decide)) (fun _ hk => hk.2) (.int .i64 1)) (fun _ hk => trivial)⟩, ⟨by (with_reducible repeat first|refine blk_drewN ?_ _|refine blk_drew ?_|refine blk_alloc ?_ _); refine blk_far ?_ NB268_271.out _; (with_reducible repeat first|refine blk_drewN ?_ _|refine blk_drew ?_|refine blk_alloc ?_ _); exact BK268.out⟩, ⟨by (with_reducible repeat first|refine blk_drewN ?_ _|refine blk_drew ?_|refine blk_alloc ?_ _); refine blk_far ?_ NB270_271.out _; (with_reducible repeat first|refine blk_drewN ?_ _|refine blk_drew ?_|refine blk_alloc ?_ _); exact BK270.out⟩, ⟨by (with_reducible repeat first|refine blk_drewN ?_ _|refine blk_drew ?_|refine blk_alloc ?_ _); refine blk_put (cs := #[.int .i64 ((rd_T70 l0 (3 : Int)).f0), .int .i64 ((rd_T70 l0 (3 : Int)).f1), .int .i64 ((rd_T70 l0 (3 : Int)).f2), .int .i64 ((rd_T70 l0 (3 : Int)).f3), .int .i64 0, .int .i64 0, .int .i64 0, .int .i64 0, .int .i64 0, .int .i64 0, .int .i64 0, .int .i64 0]) ?_ 7 _ rfl; (with_reducible repeat first|refine blk_drewN ?_ _|refine blk_drew ?_|refine blk_alloc ?_ _); exact BK271.out⟩, ⟨by repeat (first | (with_reducible first | exact HB.out | apply below_alloc | apply pw_below_drewN | apply below_drew1 | refine below_set ?_ GE268.out | refine below_set ?_ GE270.out | refine below_set ?_ GE271.out) | exact HB.out)⟩⟩
          ·rw [if_neg c43] at H
           clear c43
           by_cases c47 : x14_1 = 4
           ·rw [if_pos c47] at H
            subst c47
            replace H : (impl_spanOf.j1 k1 (4 : Int) l0 (l0.length : Int) (4 : Int) x_00_1 x_01_1 ((rd_T70 l0 (4 : Int)).f0) ((rd_T70 l0 (4 : Int)).f1) ((rd_T70 l0 (4 : Int)).f2) ((rd_T70 l0 (4 : Int)).f3) 0 0 0 0 1 0 0 0) = some (r1, r2) := H
            have H' := Aside0.mk H
            clear H
            have hnb48 := NB271_268.out
            have hnc48 := NB268_271.out
            have hnb49 := NB271_270.out
            have hnc49 := NB270_271.out
            have hcz50_8 : w30.cell? ⟨gb271, 8, none⟩ = some (.int .i64 0) := bA10 BK271 rfl
            have hfz50_8 := blk_frozen BK271.out 8
            go_wp2
            go_meet
            case rel => exact ⟨_, (0), (0), (0), (0), (1), (0), (0), (0), H', ⟨by have := HK1.out; first | omega | exact Nat.le_refl _⟩, ⟨by (with_reducible repeat (first | apply Kd.R_alloc | apply Kd.R_drewN | apply Kd.R_drew)); exact Kd.R_mono (Kd.R_far (p := ⟨gb271, 8, none⟩) (Kd.R_mono HO_269000.out (fun k_ hk => (⟨hk, hk⟩ : _ ∧ k_ ≠ gb271))) (fun _ hk => hk.2) (.int .i64 1)) (fun _ hk => hk.1)⟩, ⟨by (with_reducible repeat (first | apply Kd.R_alloc | apply Kd.R_drewN | apply Kd.R_drew)); exact Kd.R_mono (Kd.R_far (p := ⟨gb271, 8, none⟩) (Kd.R_types HO_269001.out BK271.out (by decide)) (fun _ hk => hk.2) (.int .i64 1)) (fun _ hk => trivial)⟩, ⟨by (with_reducible repeat first|refine blk_drewN ?_ _|refine blk_drew ?_|refine blk_alloc ?_ _); refine blk_far ?_ NB268_271.out _; (with_reducible repeat first|refine blk_drewN ?_ _|refine blk_drew ?_|refine blk_alloc ?_ _); exact BK268.out⟩, ⟨by (with_reducible repeat first|refine blk_drewN ?_ _|refine blk_drew ?_|refine blk_alloc ?_ _); refine blk_far ?_ NB270_271.out _; (with_reducible repeat first|refine blk_drewN ?_ _|refine blk_drew ?_|refine blk_alloc ?_ _); exact BK270.out⟩, ⟨by (with_reducible repeat first|refine blk_drewN ?_ _|refine blk_drew ?_|refine blk_alloc ?_ _); refine blk_put (cs := #[.int .i64 ((rd_T70 l0 (4 : Int)).f0), .int .i64 ((rd_T70 l0 (4 : Int)).f1), .int .i64 ((rd_T70 l0 (4 : Int)).f2), .int .i64 ((rd_T70 l0 (4 : Int)).f3), .int .i64 0, .int .i64 0, .int .i64 0, .int .i64 0, .int .i64 0, .int .i64 0, .int .i64 0, .int .i64 0]) ?_ 8 _ rfl; (with_reducible repeat first|refine blk_drewN ?_ _|refine blk_drew ?_|refine blk_alloc ?_ _); exact BK271.out⟩, ⟨by repeat (first | (with_reducible first | exact HB.out | apply below_alloc | apply pw_below_drewN | apply below_drew1 | refine below_set ?_ GE268.out | refine below_set ?_ GE270.out | refine below_set ?_ GE271.out) | exact HB.out)⟩⟩
           ·rw [if_neg c47] at H
            clear c47
            by_cases c51 : x14_1 = 5
            ·rw [if_pos c51] at H
             subst c51
             replace H : (impl_spanOf.j1 k1 (5 : Int) l0 (l0.length : Int) (5 : Int) x_00_1 x_01_1 ((rd_T70 l0 (5 : Int)).f0) ((rd_T70 l0 (5 : Int)).f1) ((rd_T70 l0 (5 : Int)).f2) ((rd_T70 l0 (5 : Int)).f3) 0 0 0 0 0 1 0 0) = some (r1, r2) := H
             have H' := Aside0.mk H
             clear H
             have hnb52 := NB271_268.out
             have hnc52 := NB268_271.out
             have hnb53 := NB271_270.out
             have hnc53 := NB270_271.out
             have hcz54_9 : w30.cell? ⟨gb271, 9, none⟩ = some (.int .i64 0) := bA10 BK271 rfl
             have hfz54_9 := blk_frozen BK271.out 9
             go_wp2
             go_meet
             case rel => exact ⟨_, (0), (0), (0), (0), (0), (1), (0), (0), H', ⟨by have := HK1.out; first | omega | exact Nat.le_refl _⟩, ⟨by (with_reducible repeat (first | apply Kd.R_alloc | apply Kd.R_drewN | apply Kd.R_drew)); exact Kd.R_mono (Kd.R_far (p := ⟨gb271, 9, none⟩) (Kd.R_mono HO_269000.out (fun k_ hk => (⟨hk, hk⟩ : _ ∧ k_ ≠ gb271))) (fun _ hk => hk.2) (.int .i64 1)) (fun _ hk => hk.1)⟩, ⟨by (with_reducible repeat (first | apply Kd.R_alloc | apply Kd.R_drewN | apply Kd.R_drew)); exact Kd.R_mono (Kd.R_far (p := ⟨gb271, 9, none⟩) (Kd.R_types HO_269001.out BK271.out (by decide)) (fun _ hk => hk.2) (.int .i64 1)) (fun _ hk => trivial)⟩, ⟨by (with_reducible repeat first|refine blk_drewN ?_ _|refine blk_drew ?_|refine blk_alloc ?_ _); refine blk_far ?_ NB268_271.out _; (with_reducible repeat first|refine blk_drewN ?_ _|refine blk_drew ?_|refine blk_alloc ?_ _); exact BK268.out⟩, ⟨by (with_reducible repeat first|refine blk_drewN ?_ _|refine blk_drew ?_|refine blk_alloc ?_ _); refine blk_far ?_ NB270_271.out _; (with_reducible repeat first|refine blk_drewN ?_ _|refine blk_drew ?_|refine blk_alloc ?_ _); exact BK270.out⟩, ⟨by (with_reducible repeat first|refine blk_drewN ?_ _|refine blk_drew ?_|refine blk_alloc ?_ _); refine blk_put (cs := #[.int .i64 ((rd_T70 l0 (5 : Int)).f0), .int .i64 ((rd_T70 l0 (5 : Int)).f1), .int .i64 ((rd_T70 l0 (5 : Int)).f2), .int .i64 ((rd_T70 l0 (5 : Int)).f3), .int .i64 0, .int .i64 0, .int .i64 0, .int .i64 0, .int .i64 0, .int .i64 0, .int .i64 0, .int .i64 0]) ?_ 9 _ rfl; (with_reducible repeat first|refine blk_drewN ?_ _|refine blk_drew ?_|refine blk_alloc ?_ _); exact BK271.out⟩, ⟨by repeat (first | (with_reducible first | exact HB.out | apply below_alloc | apply pw_below_drewN | apply below_drew1 | refine below_set ?_ GE268.out | refine below_set ?_ GE270.out | refine below_set ?_ GE271.out) | exact HB.out)⟩⟩
            ·rw [if_neg c51] at H
             clear c51
             by_cases c55 : x14_1 = 6
             ·rw [if_pos c55] at H
              subst c55
              replace H : (impl_spanOf.j1 k1 (6 : Int) l0 (l0.length : Int) (6 : Int) x_00_1 x_01_1 ((rd_T70 l0 (6 : Int)).f0) ((rd_T70 l0 (6 : Int)).f1) ((rd_T70 l0 (6 : Int)).f2) ((rd_T70 l0 (6 : Int)).f3) 0 0 0 0 0 0 1 0) = some (r1, r2) := H
              have H' := Aside0.mk H
              clear H
              have hnb56 := NB271_268.out
              have hnc56 := NB268_271.out
              have hnb57 := NB271_270.out
              have hnc57 := NB270_271.out
              have hcz58_10 : w30.cell? ⟨gb271, 10, none⟩ = some (.int .i64 0) := bA10 BK271 rfl
              have hfz58_10 := blk_frozen BK271.out 10
              go_wp2
              go_meet
              case rel => exact ⟨_, (0), (0), (0), (0), (0), (0), (1), (0), H', ⟨by have := HK1.out; first | omega | exact Nat.le_refl _⟩, ⟨by (with_reducible repeat (first | apply Kd.R_alloc | apply Kd.R_drewN | apply Kd.R_drew)); exact Kd.R_mono (Kd.R_far (p := ⟨gb271, 10, none⟩) (Kd.R_mono HO_269000.out (fun k_ hk => (⟨hk, hk⟩ : _ ∧ k_ ≠ gb271))) (fun _ hk => hk.2) (.int .i64 1)) (fun _ hk => hk.1)⟩, ⟨by (with_reducible repeat (first | apply Kd.R_alloc | apply Kd.R_drewN | apply Kd.R_drew)); exact Kd.R_mono (Kd.R_far (p := ⟨gb271, 10, none⟩) (Kd.R_types HO_269001.out BK271.out (by decide)) (fun _ hk => hk.2) (.int .i64 1)) (fun _ hk => trivial)⟩, ⟨by (with_reducible repeat first|refine blk_drewN ?_ _|refine blk_drew ?_|refine blk_alloc ?_ _); refine blk_far ?_ NB268_271.out _; (with_reducible repeat first|refine blk_drewN ?_ _|refine blk_drew ?_|refine blk_alloc ?_ _); exact BK268.out⟩, ⟨by (with_reducible repeat first|refine blk_drewN ?_ _|refine blk_drew ?_|refine blk_alloc ?_ _); refine blk_far ?_ NB270_271.out _; (with_reducible repeat first|refine blk_drewN ?_ _|refine blk_drew ?_|refine blk_alloc ?_ _); exact BK270.out⟩, ⟨by (with_reducible repeat first|refine blk_drewN ?_ _|refine blk_drew ?_|refine blk_alloc ?_ _); refine blk_put (cs := #[.int .i64 ((rd_T70 l0 (6 : Int)).f0), .int .i64 ((rd_T70 l0 (6 : Int)).f1), .int .i64 ((rd_T70 l0 (6 : Int)).f2), .int .i64 ((rd_T70 l0 (6 : Int)).f3), .int .i64 0, .int .i64 0, .int .i64 0, .int .i64 0, .int .i64 0, .int .i64 0, .int .i64 0, .int .i64 0]) ?_ 10 _ rfl; (with_reducible repeat first|refine blk_drewN ?_ _|refine blk_drew ?_|refine blk_alloc ?_ _); exact BK271.out⟩, ⟨by repeat (first | (with_reducible first | exact HB.out | apply below_alloc | apply pw_below_drewN | apply below_drew1 | refine below_set ?_ GE268.out | refine below_set ?_ GE270.out | refine below_set ?_ GE271.out) | exact HB.out)⟩⟩
             ·rw [if_neg c55] at H
              clear c55
              by_cases c59 : x14_1 = 7
              ·rw [if_pos c59] at H
               subst c59
               replace H : (impl_spanOf.j1 k1 (7 : Int) l0 (l0.length : Int) (7 : Int) x_00_1 x_01_1 ((rd_T70 l0 (7 : Int)).f0) ((rd_T70 l0 (7 : Int)).f1) ((rd_T70 l0 (7 : Int)).f2) ((rd_T70 l0 (7 : Int)).f3) 0 0 0 0 0 0 0 1) = some (r1, r2) := H
               have H' := Aside0.mk H
               clear H
               have hnb60 := NB271_268.out
               have hnc60 := NB268_271.out
               have hnb61 := NB271_270.out
               have hnc61 := NB270_271.out
               have hcz62_11 : w30.cell? ⟨gb271, 11, none⟩ = some (.int .i64 0) := bA10 BK271 rfl
               have hfz62_11 := blk_frozen BK271.out 11
               go_wp2
               go_meet
               case rel => exact ⟨_, (0), (0), (0), (0), (0), (0), (0), (1), H', ⟨by have := HK1.out; first | omega | exact Nat.le_refl _⟩, ⟨by (with_reducible repeat (first | apply Kd.R_alloc | apply Kd.R_drewN | apply Kd.R_drew)); exact Kd.R_mono (Kd.R_far (p := ⟨gb271, 11, none⟩) (Kd.R_mono HO_269000.out (fun k_ hk => (⟨hk, hk⟩ : _ ∧ k_ ≠ gb271))) (fun _ hk => hk.2) (.int .i64 1)) (fun _ hk => hk.1)⟩, ⟨by (with_reducible repeat (first | apply Kd.R_alloc | apply Kd.R_drewN | apply Kd.R_drew)); exact Kd.R_mono (Kd.R_far (p := ⟨gb271, 11, none⟩) (Kd.R_types HO_269001.out BK271.out (by decide)) (fun _ hk => hk.2) (.int .i64 1)) (fun _ hk => trivial)⟩, ⟨by (with_reducible repeat first|refine blk_drewN ?_ _|refine blk_drew ?_|refine blk_alloc ?_ _); refine blk_far ?_ NB268_271.out _; (with_reducible repeat first|refine blk_drewN ?_ _|refine blk_drew ?_|refine blk_alloc ?_ _); exact BK268.out⟩, ⟨by (with_reducible repeat first|refine blk_drewN ?_ _|refine blk_drew ?_|refine blk_alloc ?_ _); refine blk_far ?_ NB270_271.out _; (with_reducible repeat first|refine blk_drewN ?_ _|refine blk_drew ?_|refine blk_alloc ?_ _); exact BK270.out⟩, ⟨by (with_reducible repeat first|refine blk_drewN ?_ _|refine blk_drew ?_|refine blk_alloc ?_ _); refine blk_put (cs := #[.int .i64 ((rd_T70 l0 (7 : Int)).f0), .int .i64 ((rd_T70 l0 (7 : Int)).f1), .int .i64 ((rd_T70 l0 (7 : Int)).f2), .int .i64 ((rd_T70 l0 (7 : Int)).f3), .int .i64 0, .int .i64 0, .int .i64 0, .int .i64 0, .int .i64 0, .int .i64 0, .int .i64 0, .int .i64 0]) ?_ 11 _ rfl; (with_reducible repeat first|refine blk_drewN ?_ _|refine blk_drew ?_|refine blk_alloc ?_ _); exact BK271.out⟩, ⟨by repeat (first | (with_reducible first | exact HB.out | apply below_alloc | apply pw_below_drewN | apply below_drew1 | refine below_set ?_ GE268.out | refine below_set ?_ GE270.out | refine below_set ?_ GE271.out) | exact HB.out)⟩⟩
              ·rw [if_neg c59] at H
               clear c59
               exact absurd H (by simp)
      case rest =>
       clear HC6
       try clear c1
       try clear p2
       try clear q2
       try clear hx2
       try clear c3
       try clear c3b0
       try clear c4
       try clear c4b0
       try clear c5
       try clear c5b0
       try clear c6
       try clear c8
       try clear c16
       try clear c17
       try clear p26
       try clear q26
       try clear hx26
       try clear c31
       try clear c32
       try clear c33
       try clear c35
       try clear c36
       try clear c37
       try clear c39
       try clear c40
       try clear c41
       try clear c43
       try clear c44
       try clear c45
       try clear c47
       try clear c48
       try clear c49
       try clear c51
       try clear c52
       try clear c53
       try clear c55
       try clear c56
       try clear c57
       try clear c59
       try clear c60
       try clear c61
       try clear hcz10_1
       try clear hcz11_2
       try clear hcz12_3
       try clear hcz14_0 hcz14_1 hcz14_2 hcz14_3
       try clear hcz18_0
       try clear hcz19_1
       try clear hcz20_2
       try clear hcz21_3
       try clear hcz22_4
       try clear hcz23_5
       try clear hcz24_6
       try clear hcz25_7
       try clear hcz26_8
       try clear hcz27_9
       try clear hcz28_10
       try clear hcz29_11
       try clear hcz34_4
       try clear hcz38_5
       try clear hcz42_6
       try clear hcz46_7
       try clear hcz50_8
       try clear hcz54_9
       try clear hcz58_10
       try clear hcz62_11
       try clear hcz9_0
       try clear hfz10_1
       try clear hfz11_2
       try clear hfz12_3
       try clear hfz14_0 hfz14_1 hfz14_2 hfz14_3
       try clear hfz18_0
       try clear hfz19_1
       try clear hfz20_2
       try clear hfz21_3
       try clear hfz22_4
       try clear hfz23_5
       try clear hfz24_6
       try clear hfz25_7
       try clear hfz26_8
       try clear hfz27_9
       try clear hfz28_10
       try clear hfz29_11
       try clear hfz34_4
       try clear hfz38_5
       try clear hfz42_6
       try clear hfz46_7
       try clear hfz50_8
       try clear hfz54_9
       try clear hfz58_10
       try clear hfz62_11
       try clear hfz9_0
       try clear hx269_0 hx269_1 hx269_2 hx269_3
       try clear p2
       try clear p269
       try clear q269
       obtain ⟨kq, y_04_5, y_05_5, y_06_5, y_07_5, y_08_5, y_09_5, y_10_5, y_11_5, HA, HJ5, HO_269000, HO_269001, BK268, BK270, BK271, HB⟩ := hcut
       cases kq with
       | zero => exact absurd HA.out (by simp [impl_spanOf.j1])
       | succ kj5 =>
        have H := HA.out
        clear HA
        simp only [impl_spanOf.j1] at H
        replace H := Option.bind_eq_some_iff.mp H
        obtain ⟨⟨t272, t273, t274, t275, t276, t277, t278, t279, t280, t281, t282, t283⟩, A630, H⟩ := H
        replace H : ((impl_vector_lead.f t272 t273 t274 t275).bind fun t284 => (if t284 < 0 then (impl_spanOf.l0 kj5 l0 (l0.length : Int) (wrap64 (x14_1 + 1)) x_00_1 x_01_1) else (if t284 = 0 then ((impl_element_inverse.f kj5 t272).bind fun t285 => (impl_spanOf.j2 kj5 x14_1 t285 l0 (l0.length : Int) x14_1 x_00_1 x_01_1 t272 t273 t274 t275 t276 t277 t278 t279 t280 t281 t282 t283)) else (if t284 = 1 then ((impl_element_inverse.f kj5 t273).bind fun t286 => (impl_spanOf.j2 kj5 x14_1 t286 l0 (l0.length : Int) x14_1 x_00_1 x_01_1 t272 t273 t274 t275 t276 t277 t278 t279 t280 t281 t282 t283)) else (if t284 = 2 then ((impl_element_inverse.f kj5 t274).bind fun t287 => (impl_spanOf.j2 kj5 x14_1 t287 l0 (l0.length : Int) x14_1 x_00_1 x_01_1 t272 t273 t274 t275 t276 t277 t278 t279 t280 t281 t282 t283)) else (if t284 = 3 then ((impl_element_inverse.f kj5 t275).bind fun t288 => (impl_spanOf.j2 kj5 x14_1 t288 l0 (l0.length : Int) x14_1 x_00_1 x_01_1 t272 t273 t274 t275 t276 t277 t278 t279 t280 t281 t282 t283)) else (none))))))) = some (r1, r2) := H
        have A63 := Aside0.mk A630
        clear A630
        replace H := Option.bind_eq_some_iff.mp H
        obtain ⟨t284, A640, H⟩ := H
        replace H : (if t284 < 0 then (impl_spanOf.l0 kj5 l0 (l0.length : Int) (wrap64 (x14_1 + 1)) x_00_1 x_01_1) else (if t284 = 0 then ((impl_element_inverse.f kj5 t272).bind fun t285 => (impl_spanOf.j2 kj5 x14_1 t285 l0 (l0.length : Int) x14_1 x_00_1 x_01_1 t272 t273 t274 t275 t276 t277 t278 t279 t280 t281 t282 t283)) else (if t284 = 1 then ((impl_element_inverse.f kj5 t273).bind fun t286 => (impl_spanOf.j2 kj5 x14_1 t286 l0 (l0.length : Int) x14_1 x_00_1 x_01_1 t272 t273 t274 t275 t276 t277 t278 t279 t280 t281 t282 t283)) else (if t284 = 2 then ((impl_element_inverse.f kj5 t274).bind fun t287 => (impl_spanOf.j2 kj5 x14_1 t287 l0 (l0.length : Int) x14_1 x_00_1 x_01_1 t272 t273 t274 t275 t276 t277 t278 t279 t280 t281 t282 t283)) else (if t284 = 3 then ((impl_element_inverse.f kj5 t275).bind fun t288 => (impl_spanOf.j2 kj5 x14_1 t288 l0 (l0.length : Int) x14_1 x_00_1 x_01_1 t272 t273 t274 t275 t276 t277 t278 t279 t280 t281 t282 t283)) else (none)))))) = some (r1, r2) := H
        have A64 := Aside0.mk A640
        clear A640
        by_cases c65 : t284 < 0
        ·rw [if_pos c65] at H
         have c65b0 : decide (t284 < 0) = true := decide_eq_true c65
         clear c65
         have H' := Aside0.mk H
         clear H
         have hnb66 := NB271_268.out
         have hnc66 := NB268_271.out
         have hnb67 := NB271_270.out
         have hnc67 := NB270_271.out
         have hcz68_0 : wc.cell? ⟨gb271, 0, none⟩ = some (.int .i64 ((rd_T70 l0 x14_1).f0)) := bA10 BK271 rfl
         have hcz68_1 : wc.cell? ⟨gb271, 1, none⟩ = some (.int .i64 ((rd_T70 l0 x14_1).f1)) := bA10 BK271 rfl
         have hcz68_2 : wc.cell? ⟨gb271, 2, none⟩ = some (.int .i64 ((rd_T70 l0 x14_1).f2)) := bA10 BK271 rfl
         have hcz68_3 : wc.cell? ⟨gb271, 3, none⟩ = some (.int .i64 ((rd_T70 l0 x14_1).f3)) := bA10 BK271 rfl
         have hcz68_4 : wc.cell? ⟨gb271, 4, none⟩ = some (.int .i64 y_04_5) := bA10 BK271 rfl
         have hcz68_5 : wc.cell? ⟨gb271, 5, none⟩ = some (.int .i64 y_05_5) := bA10 BK271 rfl
         have hcz68_6 : wc.cell? ⟨gb271, 6, none⟩ = some (.int .i64 y_06_5) := bA10 BK271 rfl
         have hcz68_7 : wc.cell? ⟨gb271, 7, none⟩ = some (.int .i64 y_07_5) := bA10 BK271 rfl
         have hcz68_8 : wc.cell? ⟨gb271, 8, none⟩ = some (.int .i64 y_08_5) := bA10 BK271 rfl
         have hcz68_9 : wc.cell? ⟨gb271, 9, none⟩ = some (.int .i64 y_09_5) := bA10 BK271 rfl
         have hcz68_10 : wc.cell? ⟨gb271, 10, none⟩ = some (.int .i64 y_10_5) := bA10 BK271 rfl
         have hcz68_11 : wc.cell? ⟨gb271, 11, none⟩ = some (.int .i64 y_11_5) := bA10 BK271 rfl
         have hfz68_0 := blk_frozen BK271.out 0
         have hfz68_1 := blk_frozen BK271.out 1
         have hfz68_2 := blk_frozen BK271.out 2
         have hfz68_3 := blk_frozen BK271.out 3
         have hfz68_4 := blk_frozen BK271.out 4
         have hfz68_5 := blk_frozen BK271.out 5
         have hfz68_6 := blk_frozen BK271.out 6
         have hfz68_7 := blk_frozen BK271.out 7
         have hfz68_8 := blk_frozen BK271.out 8
         have hfz68_9 := blk_frozen BK271.out 9
         have hfz68_10 := blk_frozen BK271.out 10
         have hfz68_11 := blk_frozen BK271.out 11
         go_wp2_with (first | ((with_reducible refine gate_callee (f := 102) rfl ?_); refine goesL_ (some 26) rfl rfl Try.func102 (by kernel_rfl) rfl #[.pointer (some ⟨gb268, 0, none⟩), .agg #[.int .i64 ((rd_T70 l0 x14_1).f0), .int .i64 ((rd_T70 l0 x14_1).f1), .int .i64 ((rd_T70 l0 x14_1).f2), .int .i64 ((rd_T70 l0 x14_1).f3), .int .i64 y_04_5, .int .i64 y_05_5, .int .i64 y_06_5, .int .i64 y_07_5, .int .i64 y_08_5, .int .i64 y_09_5, .int .i64 y_10_5, .int .i64 y_11_5]] rfl (by (try simp only [List.map_toArray, List.map_cons, List.map_nil]); first | done | rfl | (simp only [List.length_drop, List.length_take]; rfl)) ?_; (with_reducible refine (impl_span_lessB.calls kj5 u269000 x_00_1 u269001 x_01_1 ((rd_T70 l0 x14_1).f0) ((rd_T70 l0 x14_1).f1) ((rd_T70 l0 x14_1).f2) ((rd_T70 l0 x14_1).f3) y_04_5 y_05_5 y_06_5 y_07_5 y_08_5 y_09_5 y_10_5 y_11_5 t272 t273 t274 t275 t276 t277 t278 t279 t280 t281 t282 t283 _ ?side1 ?side2 ?side3 A63.out).mono ?_); (case side1 => (with_reducible repeat first|refine blk_drewN ?_ _|refine blk_drew ?_|refine blk_alloc ?_ _); exact BK268.out); (case side2 => exact own_open (by (with_reducible repeat (first | apply Kd.R_alloc | apply Kd.R_drewN | apply Kd.R_drew)); exact HO_269000.out)); (case side3 => exact own_open (by (with_reducible repeat (first | apply Kd.R_alloc | apply Kd.R_drewN | apply Kd.R_drew)); exact HO_269001.out)); rintro e w69 ⟨rfl, hb⟩; refine ⟨_, rfl, ?_⟩; have n0_ := Aside0.mk (Kd.R_below (by (with_reducible repeat (first | apply Kd.R_alloc | apply Kd.R_drewN | apply Kd.R_drew)); exact HO_269000.out) hb); have n1_ := Aside0.mk (Kd.R_below (by (with_reducible repeat (first | apply Kd.R_alloc | apply Kd.R_drewN | apply Kd.R_drew)); exact HO_269001.out) hb); have n2_ := Aside0.mk (blk_below (g := gb268) (o := .cells #[u269000, u269001] 81 (0, 0)) (by (with_reducible repeat first|refine blk_drewN ?_ _|refine blk_drew ?_|refine blk_alloc ?_ _); exact BK268.out) hb); have n3_ := Aside0.mk (blk_below (g := gb270) (o := .cells #[.int .i64 ((rd_T70 l0 x14_1).f0), .int .i64 ((rd_T70 l0 x14_1).f1), .int .i64 ((rd_T70 l0 x14_1).f2), .int .i64 ((rd_T70 l0 x14_1).f3)] 70 (0, 0)) (by (with_reducible repeat first|refine blk_drewN ?_ _|refine blk_drew ?_|refine blk_alloc ?_ _); exact BK270.out) hb); have n4_ := Aside0.mk (blk_below (g := gb271) (o := .cells #[.int .i64 ((rd_T70 l0 x14_1).f0), .int .i64 ((rd_T70 l0 x14_1).f1), .int .i64 ((rd_T70 l0 x14_1).f2), .int .i64 ((rd_T70 l0 x14_1).f3), .int .i64 y_04_5, .int .i64 y_05_5, .int .i64 y_06_5, .int .i64 y_07_5, .int .i64 y_08_5, .int .i64 y_09_5, .int .i64 y_10_5, .int .i64 y_11_5] 102 (0, 0)) (by (with_reducible repeat first|refine blk_drewN ?_ _|refine blk_drew ?_|refine blk_alloc ?_ _); exact BK271.out) hb); have n5_ := Aside0.mk (below_step (by repeat (first | (with_reducible first | exact HB.out | apply below_alloc | apply pw_below_drewN | apply below_drew1 | refine below_set ?_ GE268.out | refine below_set ?_ GE270.out | refine below_set ?_ GE271.out) | exact HB.out)) hb); clear HO_269000; clear HO_269001; clear BK268; clear BK270; clear BK271; clear HB; have HO_269000 := n0_; have HO_269001 := n1_; have BK268 := n2_; have BK270 := n3_; have BK271 := n4_; have HB := n5_; clear n0_ n1_ n2_ n3_ n4_ n5_; (try clear hb); (try clear hb2); (try clear hk); (try clear hi); have hcz70_0 : w69.cell? ⟨gb271, 0, none⟩ = some (.int .i64 ((rd_T70 l0 x14_1).f0)) := bA10 BK271 rfl; have hfz70_0 := blk_frozen BK271.out 0; have hcz71_1 : w69.cell? ⟨gb271, 1, none⟩ = some (.int .i64 ((rd_T70 l0 x14_1).f1)) := bA10 BK271 rfl; have hfz71_1 := blk_frozen BK271.out 1; have hcz72_2 : w69.cell? ⟨gb271, 2, none⟩ = some (.int .i64 ((rd_T70 l0 x14_1).f2)) := bA10 BK271 rfl; have hfz72_2 := blk_frozen BK271.out 2; have hcz73_3 : w69.cell? ⟨gb271, 3, none⟩ = some (.int .i64 ((rd_T70 l0 x14_1).f3)) := bA10 BK271 rfl; have hfz73_3 := blk_frozen BK271.out 3; have hcz74_4 : w69.cell? ⟨gb271, 4, none⟩ = some (.int .i64 y_04_5) := bA10 BK271 rfl; have hfz74_4 := blk_frozen BK271.out 4; have hcz75_5 : w69.cell? ⟨gb271, 5, none⟩ = some (.int .i64 y_05_5) := bA10 BK271 rfl; have hfz75_5 := blk_frozen BK271.out 5; have hcz76_6 : w69.cell? ⟨gb271, 6, none⟩ = some (.int .i64 y_06_5) := bA10 BK271 rfl; have hfz76_6 := blk_frozen BK271.out 6; have hcz77_7 : w69.cell? ⟨gb271, 7, none⟩ = some (.int .i64 y_07_5) := bA10 BK271 rfl; have hfz77_7 := blk_frozen BK271.out 7; have hcz78_8 : w69.cell? ⟨gb271, 8, none⟩ = some (.int .i64 y_08_5) := bA10 BK271 rfl; have hfz78_8 := blk_frozen BK271.out 8; have hcz79_9 : w69.cell? ⟨gb271, 9, none⟩ = some (.int .i64 y_09_5) := bA10 BK271 rfl; have hfz79_9 := blk_frozen BK271.out 9; have hcz80_10 : w69.cell? ⟨gb271, 10, none⟩ = some (.int .i64 y_10_5) := bA10 BK271 rfl; have hfz80_10 := blk_frozen BK271.out 10; have hcz81_11 : w69.cell? ⟨gb271, 11, none⟩ = some (.int .i64 y_11_5) := bA10 BK271 rfl; have hfz81_11 := blk_frozen BK271.out 11) | ((with_reducible refine gate_store (t := 102) (p := 6) rfl ?_); refine store_event (t := 102) (p := 6) (v := ?vo_w82) (w1 := ((((((((((((w69.setCell ⟨gb271, 0, none⟩ (.int .i64 t272)).setCell ⟨gb271, 1, none⟩ (.int .i64 t273)).setCell ⟨gb271, 2, none⟩ (.int .i64 t274)).setCell ⟨gb271, 3, none⟩ (.int .i64 t275)).setCell ⟨gb271, 4, none⟩ (.int .i64 t276)).setCell ⟨gb271, 5, none⟩ (.int .i64 t277)).setCell ⟨gb271, 6, none⟩ (.int .i64 t278)).setCell ⟨gb271, 7, none⟩ (.int .i64 t279)).setCell ⟨gb271, 8, none⟩ (.int .i64 t280)).setCell ⟨gb271, 9, none⟩ (.int .i64 t281)).setCell ⟨gb271, 10, none⟩ (.int .i64 t282)).setCell ⟨gb271, 11, none⟩ (.int .i64 t283))) ?hg ?ho ?hn ?hr ?_; (case ho => rfl); (case hg => rfl); (case hn => rfl); (case hr => first | (go_simp; done) | (go_simp; rfl)); intro w82 hw; have n0_ : Aside0 (Kd.R k102 102 w82 w.heap.size (fun k_ => k_ ≠ gb271) u269000 x_00_1) := ⟨(by rw [hw]; exact (by (with_reducible repeat (first | apply Kd.R_alloc | apply Kd.R_drewN | apply Kd.R_drew)); exact Kd.R_mono (Kd.R_far (p := ⟨gb271, 11, none⟩) (Kd.R_far (p := ⟨gb271, 10, none⟩) (Kd.R_far (p := ⟨gb271, 9, none⟩) (Kd.R_far (p := ⟨gb271, 8, none⟩) (Kd.R_far (p := ⟨gb271, 7, none⟩) (Kd.R_far (p := ⟨gb271, 6, none⟩) (Kd.R_far (p := ⟨gb271, 5, none⟩) (Kd.R_far (p := ⟨gb271, 4, none⟩) (Kd.R_far (p := ⟨gb271, 3, none⟩) (Kd.R_far (p := ⟨gb271, 2, none⟩) (Kd.R_far (p := ⟨gb271, 1, none⟩) (Kd.R_far (p := ⟨gb271, 0, none⟩) (Kd.R_mono HO_269000.out (fun k_ hk => (⟨hk, hk⟩ : _ ∧ k_ ≠ gb271))) (fun _ hk => hk.2) (.int .i64 t272)) (fun _ hk => hk.2) (.int .i64 t273)) (fun _ hk => hk.2) (.int .i64 t274)) (fun _ hk => hk.2) (.int .i64 t275)) (fun _ hk => hk.2) (.int .i64 t276)) (fun _ hk => hk.2) (.int .i64 t277)) (fun _ hk => hk.2) (.int .i64 t278)) (fun _ hk => hk.2) (.int .i64 t279)) (fun _ hk => hk.2) (.int .i64 t280)) (fun _ hk => hk.2) (.int .i64 t281)) (fun _ hk => hk.2) (.int .i64 t282)) (fun _ hk => hk.2) (.int .i64 t283)) (fun _ hk => hk.1)))⟩; have n1_ : Aside0 (Kd.R (Kd.int .i64) 3 w82 w.heap.size (fun _ => True) u269001 x_01_1) := ⟨(by rw [hw]; exact (by (with_reducible repeat (first | apply Kd.R_alloc | apply Kd.R_drewN | apply Kd.R_drew)); exact Kd.R_mono (Kd.R_far (p := ⟨gb271, 11, none⟩) (Kd.R_far (p := ⟨gb271, 10, none⟩) (Kd.R_far (p := ⟨gb271, 9, none⟩) (Kd.R_far (p := ⟨gb271, 8, none⟩) (Kd.R_far (p := ⟨gb271, 7, none⟩) (Kd.R_far (p := ⟨gb271, 6, none⟩) (Kd.R_far (p := ⟨gb271, 5, none⟩) (Kd.R_far (p := ⟨gb271, 4, none⟩) (Kd.R_far (p := ⟨gb271, 3, none⟩) (Kd.R_far (p := ⟨gb271, 2, none⟩) (Kd.R_far (p := ⟨gb271, 1, none⟩) (Kd.R_far (p := ⟨gb271, 0, none⟩) (Kd.R_types HO_269001.out BK271.out (by decide)) (fun _ hk => hk.2) (.int .i64 t272)) (fun _ hk => hk.2) (.int .i64 t273)) (fun _ hk => hk.2) (.int .i64 t274)) (fun _ hk => hk.2) (.int .i64 t275)) (fun _ hk => hk.2) (.int .i64 t276)) (fun _ hk => hk.2) (.int .i64 t277)) (fun _ hk => hk.2) (.int .i64 t278)) (fun _ hk => hk.2) (.int .i64 t279)) (fun _ hk => hk.2) (.int .i64 t280)) (fun _ hk => hk.2) (.int .i64 t281)) (fun _ hk => hk.2) (.int .i64 t282)) (fun _ hk => hk.2) (.int .i64 t283)) (fun _ hk => trivial)))⟩; have n2_ : Aside0 (w82.heap[gb268]? = some (.cells #[u269000, u269001] 81 (0, 0))) := ⟨(by rw [hw]; exact (by (with_reducible repeat first|refine blk_drewN ?_ _|refine blk_drew ?_|refine blk_alloc ?_ _); refine blk_far ?_ NB268_271.out _; (with_reducible repeat first|refine blk_drewN ?_ _|refine blk_drew ?_|refine blk_alloc ?_ _); refine blk_far ?_ NB268_271.out _; (with_reducible repeat first|refine blk_drewN ?_ _|refine blk_drew ?_|refine blk_alloc ?_ _); refine blk_far ?_ NB268_271.out _; (with_reducible repeat first|refine blk_drewN ?_ _|refine blk_drew ?_|refine blk_alloc ?_ _); refine blk_far ?_ NB268_271.out _; (with_reducible repeat first|refine blk_drewN ?_ _|refine blk_drew ?_|refine blk_alloc ?_ _); refine blk_far ?_ NB268_271.out _; (with_reducible repeat first|refine blk_drewN ?_ _|refine blk_drew ?_|refine blk_alloc ?_ _); refine blk_far ?_ NB268_271.out _; (with_reducible repeat first|refine blk_drewN ?_ _|refine blk_drew ?_|refine blk_alloc ?_ _); refine blk_far ?_ NB268_271.out _; (with_reducible repeat first|refine blk_drewN ?_ _|refine blk_drew ?_|refine blk_alloc ?_ _); refine blk_far ?_ NB268_271.out _; (with_reducible repeat first|refine blk_drewN ?_ _|refine blk_drew ?_|refine blk_alloc ?_ _); refine blk_far ?_ NB268_271.out _; (with_reducible repeat first|refine blk_drewN ?_ _|refine blk_drew ?_|refine blk_alloc ?_ _); refine blk_far ?_ NB268_271.out _; (with_reducible repeat first|refine blk_drewN ?_ _|refine blk_drew ?_|refine blk_alloc ?_ _); refine blk_far ?_ NB268_271.out _; (with_reducible repeat first|refine blk_drewN ?_ _|refine blk_drew ?_|refine blk_alloc ?_ _); refine blk_far ?_ NB268_271.out _; (with_reducible repeat first|refine blk_drewN ?_ _|refine blk_drew ?_|refine blk_alloc ?_ _); exact BK268.out))⟩; have n3_ : Aside0 (w82.heap[gb270]? = some (.cells #[.int .i64 ((rd_T70 l0 x14_1).f0), .int .i64 ((rd_T70 l0 x14_1).f1), .int .i64 ((rd_T70 l0 x14_1).f2), .int .i64 ((rd_T70 l0 x14_1).f3)] 70 (0, 0))) := ⟨(by rw [hw]; exact (by (with_reducible repeat first|refine blk_drewN ?_ _|refine blk_drew ?_|refine blk_alloc ?_ _); refine blk_far ?_ NB270_271.out _; (with_reducible repeat first|refine blk_drewN ?_ _|refine blk_drew ?_|refine blk_alloc ?_ _); refine blk_far ?_ NB270_271.out _; (with_reducible repeat first|refine blk_drewN ?_ _|refine blk_drew ?_|refine blk_alloc ?_ _); refine blk_far ?_ NB270_271.out _; (with_reducible repeat first|refine blk_drewN ?_ _|refine blk_drew ?_|refine blk_alloc ?_ _); refine blk_far ?_ NB270_271.out _; (with_reducible repeat first|refine blk_drewN ?_ _|refine blk_drew ?_|refine blk_alloc ?_ _); refine blk_far ?_ NB270_271.out _; (with_reducible repeat first|refine blk_drewN ?_ _|refine blk_drew ?_|refine blk_alloc ?_ _); refine blk_far ?_ NB270_271.out _; (with_reducible repeat first|refine blk_drewN ?_ _|refine blk_drew ?_|refine blk_alloc ?_ _); refine blk_far ?_ NB270_271.out _; (with_reducible repeat first|refine blk_drewN ?_ _|refine blk_drew ?_|refine blk_alloc ?_ _); refine blk_far ?_ NB270_271.out _; (with_reducible repeat first|refine blk_drewN ?_ _|refine blk_drew ?_|refine blk_alloc ?_ _); refine blk_far ?_ NB270_271.out _; (with_reducible repeat first|refine blk_drewN ?_ _|refine blk_drew ?_|refine blk_alloc ?_ _); refine blk_far ?_ NB270_271.out _; (with_reducible repeat first|refine blk_drewN ?_ _|refine blk_drew ?_|refine blk_alloc ?_ _); refine blk_far ?_ NB270_271.out _; (with_reducible repeat first|refine blk_drewN ?_ _|refine blk_drew ?_|refine blk_alloc ?_ _); refine blk_far ?_ NB270_271.out _; (with_reducible repeat first|refine blk_drewN ?_ _|refine blk_drew ?_|refine blk_alloc ?_ _); exact BK270.out))⟩; have n4_ : Aside0 (w82.heap[gb271]? = some (.cells #[.int .i64 t272, .int .i64 t273, .int .i64 t274, .int .i64 t275, .int .i64 t276, .int .i64 t277, .int .i64 t278, .int .i64 t279, .int .i64 t280, .int .i64 t281, .int .i64 t282, .int .i64 t283] 102 (0, 0))) := ⟨(by rw [hw]; exact (by (with_reducible repeat first|refine blk_drewN ?_ _|refine blk_drew ?_|refine blk_alloc ?_ _); refine blk_put (cs := #[.int .i64 t272, .int .i64 t273, .int .i64 t274, .int .i64 t275, .int .i64 t276, .int .i64 t277, .int .i64 t278, .int .i64 t279, .int .i64 t280, .int .i64 t281, .int .i64 t282, .int .i64 y_11_5]) ?_ 11 _ rfl; (with_reducible repeat first|refine blk_drewN ?_ _|refine blk_drew ?_|refine blk_alloc ?_ _); refine blk_put (cs := #[.int .i64 t272, .int .i64 t273, .int .i64 t274, .int .i64 t275, .int .i64 t276, .int .i64 t277, .int .i64 t278, .int .i64 t279, .int .i64 t280, .int .i64 t281, .int .i64 y_10_5, .int .i64 y_11_5]) ?_ 10 _ rfl; (with_reducible repeat first|refine blk_drewN ?_ _|refine blk_drew ?_|refine blk_alloc ?_ _); refine blk_put (cs := #[.int .i64 t272, .int .i64 t273, .int .i64 t274, .int .i64 t275, .int .i64 t276, .int .i64 t277, .int .i64 t278, .int .i64 t279, .int .i64 t280, .int .i64 y_09_5, .int .i64 y_10_5, .int .i64 y_11_5]) ?_ 9 _ rfl; (with_reducible repeat first|refine blk_drewN ?_ _|refine blk_drew ?_|refine blk_alloc ?_ _); refine blk_put (cs := #[.int .i64 t272, .int .i64 t273, .int .i64 t274, .int .i64 t275, .int .i64 t276, .int .i64 t277, .int .i64 t278, .int .i64 t279, .int .i64 y_08_5, .int .i64 y_09_5, .int .i64 y_10_5, .int .i64 y_11_5]) ?_ 8 _ rfl; (with_reducible repeat first|refine blk_drewN ?_ _|refine blk_drew ?_|refine blk_alloc ?_ _); refine blk_put (cs := #[.int .i64 t272, .int .i64 t273, .int .i64 t274, .int .i64 t275, .int .i64 t276, .int .i64 t277, .int .i64 t278, .int .i64 y_07_5, .int .i64 y_08_5, .int .i64 y_09_5, .int .i64 y_10_5, .int .i64 y_11_5]) ?_ 7 _ rfl; (with_reducible repeat first|refine blk_drewN ?_ _|refine blk_drew ?_|refine blk_alloc ?_ _); refine blk_put (cs := #[.int .i64 t272, .int .i64 t273, .int .i64 t274, .int .i64 t275, .int .i64 t276, .int .i64 t277, .int .i64 y_06_5, .int .i64 y_07_5, .int .i64 y_08_5, .int .i64 y_09_5, .int .i64 y_10_5, .int .i64 y_11_5]) ?_ 6 _ rfl; (with_reducible repeat first|refine blk_drewN ?_ _|refine blk_drew ?_|refine blk_alloc ?_ _); refine blk_put (cs := #[.int .i64 t272, .int .i64 t273, .int .i64 t274, .int .i64 t275, .int .i64 t276, .int .i64 y_05_5, .int .i64 y_06_5, .int .i64 y_07_5, .int .i64 y_08_5, .int .i64 y_09_5, .int .i64 y_10_5, .int .i64 y_11_5]) ?_ 5 _ rfl; (with_reducible repeat first|refine blk_drewN ?_ _|refine blk_drew ?_|refine blk_alloc ?_ _); refine blk_put (cs := #[.int .i64 t272, .int .i64 t273, .int .i64 t274, .int .i64 t275, .int .i64 y_04_5, .int .i64 y_05_5, .int .i64 y_06_5, .int .i64 y_07_5, .int .i64 y_08_5, .int .i64 y_09_5, .int .i64 y_10_5, .int .i64 y_11_5]) ?_ 4 _ rfl; (with_reducible repeat first|refine blk_drewN ?_ _|refine blk_drew ?_|refine blk_alloc ?_ _); refine blk_put (cs := #[.int .i64 t272, .int .i64 t273, .int .i64 t274, .int .i64 ((rd_T70 l0 x14_1).f3), .int .i64 y_04_5, .int .i64 y_05_5, .int .i64 y_06_5, .int .i64 y_07_5, .int .i64 y_08_5, .int .i64 y_09_5, .int .i64 y_10_5, .int .i64 y_11_5]) ?_ 3 _ rfl; (with_reducible repeat first|refine blk_drewN ?_ _|refine blk_drew ?_|refine blk_alloc ?_ _); refine blk_put (cs := #[.int .i64 t272, .int .i64 t273, .int .i64 ((rd_T70 l0 x14_1).f2), .int .i64 ((rd_T70 l0 x14_1).f3), .int .i64 y_04_5, .int .i64 y_05_5, .int .i64 y_06_5, .int .i64 y_07_5, .int .i64 y_08_5, .int .i64 y_09_5, .int .i64 y_10_5, .int .i64 y_11_5]) ?_ 2 _ rfl; (with_reducible repeat first|refine blk_drewN ?_ _|refine blk_drew ?_|refine blk_alloc ?_ _); refine blk_put (cs := #[.int .i64 t272, .int .i64 ((rd_T70 l0 x14_1).f1), .int .i64 ((rd_T70 l0 x14_1).f2), .int .i64 ((rd_T70 l0 x14_1).f3), .int .i64 y_04_5, .int .i64 y_05_5, .int .i64 y_06_5, .int .i64 y_07_5, .int .i64 y_08_5, .int .i64 y_09_5, .int .i64 y_10_5, .int .i64 y_11_5]) ?_ 1 _ rfl; (with_reducible repeat first|refine blk_drewN ?_ _|refine blk_drew ?_|refine blk_alloc ?_ _); refine blk_put (cs := #[.int .i64 ((rd_T70 l0 x14_1).f0), .int .i64 ((rd_T70 l0 x14_1).f1), .int .i64 ((rd_T70 l0 x14_1).f2), .int .i64 ((rd_T70 l0 x14_1).f3), .int .i64 y_04_5, .int .i64 y_05_5, .int .i64 y_06_5, .int .i64 y_07_5, .int .i64 y_08_5, .int .i64 y_09_5, .int .i64 y_10_5, .int .i64 y_11_5]) ?_ 0 _ rfl; (with_reducible repeat first|refine blk_drewN ?_ _|refine blk_drew ?_|refine blk_alloc ?_ _); exact BK271.out))⟩; have n5_ : Aside0 (Below w.heap.size w w82) := ⟨(by rw [hw]; exact (by repeat (first | (with_reducible first | exact HB.out | apply below_alloc | apply pw_below_drewN | apply below_drew1 | refine below_set ?_ GE268.out | refine below_set ?_ GE270.out | refine below_set ?_ GE271.out) | exact HB.out)))⟩; clear hw; clear HO_269000; clear HO_269001; clear BK268; clear BK270; clear BK271; clear HB; have HO_269000 := n0_; have HO_269001 := n1_; have BK268 := n2_; have BK270 := n3_; have BK271 := n4_; have HB := n5_; clear n0_ n1_ n2_ n3_ n4_ n5_; have hcz83_0 : w82.cell? ⟨gb271, 0, none⟩ = some (.int .i64 t272) := bA10 BK271 rfl; have hcz83_1 : w82.cell? ⟨gb271, 1, none⟩ = some (.int .i64 t273) := bA10 BK271 rfl; have hcz83_2 : w82.cell? ⟨gb271, 2, none⟩ = some (.int .i64 t274) := bA10 BK271 rfl; have hcz83_3 : w82.cell? ⟨gb271, 3, none⟩ = some (.int .i64 t275) := bA10 BK271 rfl; have hfz83_0 := blk_frozen BK271.out 0; have hfz83_1 := blk_frozen BK271.out 1; have hfz83_2 := blk_frozen BK271.out 2; have hfz83_3 := blk_frozen BK271.out 3) | ((with_reducible refine gate_callee (f := 60) rfl ?_); refine goesL_ (some 29) rfl rfl Try.func60 (by kernel_rfl) rfl #[.agg #[.int .i64 t272, .int .i64 t273, .int .i64 t274, .int .i64 t275]] rfl (by (try simp only [List.map_toArray, List.map_cons, List.map_nil]); first | done | rfl | (simp only [List.length_drop, List.length_take]; rfl)) ?_; (with_reducible refine (impl_vector_lead.calls t272 t273 t274 t275 t284 _ A64.out).mono ?_); rintro e w84 ⟨rfl, hb⟩; refine ⟨_, rfl, ?_⟩; have n0_ := Aside0.mk (Kd.R_below (by (with_reducible repeat (first | apply Kd.R_alloc | apply Kd.R_drewN | apply Kd.R_drew)); exact HO_269000.out) hb); have n1_ := Aside0.mk (Kd.R_below (by (with_reducible repeat (first | apply Kd.R_alloc | apply Kd.R_drewN | apply Kd.R_drew)); exact HO_269001.out) hb); have n2_ := Aside0.mk (blk_below (g := gb268) (o := .cells #[u269000, u269001] 81 (0, 0)) (by (with_reducible repeat first|refine blk_drewN ?_ _|refine blk_drew ?_|refine blk_alloc ?_ _); exact BK268.out) hb); have n3_ := Aside0.mk (blk_below (g := gb270) (o := .cells #[.int .i64 ((rd_T70 l0 x14_1).f0), .int .i64 ((rd_T70 l0 x14_1).f1), .int .i64 ((rd_T70 l0 x14_1).f2), .int .i64 ((rd_T70 l0 x14_1).f3)] 70 (0, 0)) (by (with_reducible repeat first|refine blk_drewN ?_ _|refine blk_drew ?_|refine blk_alloc ?_ _); exact BK270.out) hb); have n4_ := Aside0.mk (blk_below (g := gb271) (o := .cells #[.int .i64 t272, .int .i64 t273, .int .i64 t274, .int .i64 t275, .int .i64 t276, .int .i64 t277, .int .i64 t278, .int .i64 t279, .int .i64 t280, .int .i64 t281, .int .i64 t282, .int .i64 t283] 102 (0, 0)) (by (with_reducible repeat first|refine blk_drewN ?_ _|refine blk_drew ?_|refine blk_alloc ?_ _); exact BK271.out) hb); have n5_ := Aside0.mk (below_step (by repeat (first | (with_reducible first | exact HB.out | apply below_alloc | apply pw_below_drewN | apply below_drew1 | refine below_set ?_ GE268.out | refine below_set ?_ GE270.out | refine below_set ?_ GE271.out) | exact HB.out)) hb); clear HO_269000; clear HO_269001; clear BK268; clear BK270; clear BK271; clear HB; have HO_269000 := n0_; have HO_269001 := n1_; have BK268 := n2_; have BK270 := n3_; have BK271 := n4_; have HB := n5_; clear n0_ n1_ n2_ n3_ n4_ n5_; (try clear hb); (try clear hb2); (try clear hk); (try clear hi)))
         go_roundg kj5
         case measure => have := HK1.out; have := HJ5.out; omega
         case rel => exact ⟨(wrap64 (x14_1 + 1)), (x_00_1), (x_01_1), (u269000), (u269001), (by first | rfl | (simp; done) | (simp [*]; done)), H', ⟨by have := HK1.out; have := HJ5.out; omega⟩, ⟨by (with_reducible repeat (first | apply Kd.R_alloc | apply Kd.R_drewN | apply Kd.R_drew)); exact Kd.R_mono HO_269000.out (fun _ hk => trivial)⟩, ⟨by (with_reducible repeat (first | apply Kd.R_alloc | apply Kd.R_drewN | apply Kd.R_drew)); exact HO_269001.out⟩, ⟨by (with_reducible repeat first|refine blk_drewN ?_ _|refine blk_drew ?_|refine blk_alloc ?_ _); exact BK268.out⟩, ⟨by repeat (first | (with_reducible first | exact HB.out | apply below_alloc | apply pw_below_drewN | apply below_drew1 | refine below_set ?_ GE268.out | refine below_set ?_ GE270.out | refine below_set ?_ GE271.out) | exact HB.out)⟩⟩
        ·rw [if_neg c65] at H
         have c65b0 : decide (t284 < 0) = false := decide_eq_false c65
         clear c65
         have HC85 := Aside0.mk H
         clear H
         have hnb86 := NB271_268.out
         have hnc86 := NB268_271.out
         have hnb87 := NB271_270.out
         have hnc87 := NB270_271.out
         have hcz88_0 : wc.cell? ⟨gb271, 0, none⟩ = some (.int .i64 ((rd_T70 l0 x14_1).f0)) := bA10 BK271 rfl
         have hcz88_1 : wc.cell? ⟨gb271, 1, none⟩ = some (.int .i64 ((rd_T70 l0 x14_1).f1)) := bA10 BK271 rfl
         have hcz88_2 : wc.cell? ⟨gb271, 2, none⟩ = some (.int .i64 ((rd_T70 l0 x14_1).f2)) := bA10 BK271 rfl
         have hcz88_3 : wc.cell? ⟨gb271, 3, none⟩ = some (.int .i64 ((rd_T70 l0 x14_1).f3)) := bA10 BK271 rfl
         have hcz88_4 : wc.cell? ⟨gb271, 4, none⟩ = some (.int .i64 y_04_5) := bA10 BK271 rfl
         have hcz88_5 : wc.cell? ⟨gb271, 5, none⟩ = some (.int .i64 y_05_5) := bA10 BK271 rfl
         have hcz88_6 : wc.cell? ⟨gb271, 6, none⟩ = some (.int .i64 y_06_5) := bA10 BK271 rfl
         have hcz88_7 : wc.cell? ⟨gb271, 7, none⟩ = some (.int .i64 y_07_5) := bA10 BK271 rfl
         have hcz88_8 : wc.cell? ⟨gb271, 8, none⟩ = some (.int .i64 y_08_5) := bA10 BK271 rfl
         have hcz88_9 : wc.cell? ⟨gb271, 9, none⟩ = some (.int .i64 y_09_5) := bA10 BK271 rfl
         have hcz88_10 : wc.cell? ⟨gb271, 10, none⟩ = some (.int .i64 y_10_5) := bA10 BK271 rfl
         have hcz88_11 : wc.cell? ⟨gb271, 11, none⟩ = some (.int .i64 y_11_5) := bA10 BK271 rfl
         have hfz88_0 := blk_frozen BK271.out 0
         have hfz88_1 := blk_frozen BK271.out 1
         have hfz88_2 := blk_frozen BK271.out 2
         have hfz88_3 := blk_frozen BK271.out 3
         have hfz88_4 := blk_frozen BK271.out 4
         have hfz88_5 := blk_frozen BK271.out 5
         have hfz88_6 := blk_frozen BK271.out 6
         have hfz88_7 := blk_frozen BK271.out 7
         have hfz88_8 := blk_frozen BK271.out 8
         have hfz88_9 := blk_frozen BK271.out 9
         have hfz88_10 := blk_frozen BK271.out 10
         have hfz88_11 := blk_frozen BK271.out 11
         go_upto_region 10 with (first | ((with_reducible refine gate_callee (f := 102) rfl ?_); refine goesL_ (some 26) rfl rfl Try.func102 (by kernel_rfl) rfl #[.pointer (some ⟨gb268, 0, none⟩), .agg #[.int .i64 ((rd_T70 l0 x14_1).f0), .int .i64 ((rd_T70 l0 x14_1).f1), .int .i64 ((rd_T70 l0 x14_1).f2), .int .i64 ((rd_T70 l0 x14_1).f3), .int .i64 y_04_5, .int .i64 y_05_5, .int .i64 y_06_5, .int .i64 y_07_5, .int .i64 y_08_5, .int .i64 y_09_5, .int .i64 y_10_5, .int .i64 y_11_5]] rfl (by (try simp only [List.map_toArray, List.map_cons, List.map_nil]); first | done | rfl | (simp only [List.length_drop, List.length_take]; rfl)) ?_; (with_reducible refine (impl_span_lessB.calls kj5 u269000 x_00_1 u269001 x_01_1 ((rd_T70 l0 x14_1).f0) ((rd_T70 l0 x14_1).f1) ((rd_T70 l0 x14_1).f2) ((rd_T70 l0 x14_1).f3) y_04_5 y_05_5 y_06_5 y_07_5 y_08_5 y_09_5 y_10_5 y_11_5 t272 t273 t274 t275 t276 t277 t278 t279 t280 t281 t282 t283 _ ?side1 ?side2 ?side3 A63.out).mono ?_); (case side1 => (with_reducible repeat first|refine blk_drewN ?_ _|refine blk_drew ?_|refine blk_alloc ?_ _); exact BK268.out); (case side2 => exact own_open (by (with_reducible repeat (first | apply Kd.R_alloc | apply Kd.R_drewN | apply Kd.R_drew)); exact HO_269000.out)); (case side3 => exact own_open (by (with_reducible repeat (first | apply Kd.R_alloc | apply Kd.R_drewN | apply Kd.R_drew)); exact HO_269001.out)); rintro e w89 ⟨rfl, hb⟩; refine ⟨_, rfl, ?_⟩; have n0_ := Aside0.mk (Kd.R_below (by (with_reducible repeat (first | apply Kd.R_alloc | apply Kd.R_drewN | apply Kd.R_drew)); exact HO_269000.out) hb); have n1_ := Aside0.mk (Kd.R_below (by (with_reducible repeat (first | apply Kd.R_alloc | apply Kd.R_drewN | apply Kd.R_drew)); exact HO_269001.out) hb); have n2_ := Aside0.mk (blk_below (g := gb268) (o := .cells #[u269000, u269001] 81 (0, 0)) (by (with_reducible repeat first|refine blk_drewN ?_ _|refine blk_drew ?_|refine blk_alloc ?_ _); exact BK268.out) hb); have n3_ := Aside0.mk (blk_below (g := gb270) (o := .cells #[.int .i64 ((rd_T70 l0 x14_1).f0), .int .i64 ((rd_T70 l0 x14_1).f1), .int .i64 ((rd_T70 l0 x14_1).f2), .int .i64 ((rd_T70 l0 x14_1).f3)] 70 (0, 0)) (by (with_reducible repeat first|refine blk_drewN ?_ _|refine blk_drew ?_|refine blk_alloc ?_ _); exact BK270.out) hb); have n4_ := Aside0.mk (blk_below (g := gb271) (o := .cells #[.int .i64 ((rd_T70 l0 x14_1).f0), .int .i64 ((rd_T70 l0 x14_1).f1), .int .i64 ((rd_T70 l0 x14_1).f2), .int .i64 ((rd_T70 l0 x14_1).f3), .int .i64 y_04_5, .int .i64 y_05_5, .int .i64 y_06_5, .int .i64 y_07_5, .int .i64 y_08_5, .int .i64 y_09_5, .int .i64 y_10_5, .int .i64 y_11_5] 102 (0, 0)) (by (with_reducible repeat first|refine blk_drewN ?_ _|refine blk_drew ?_|refine blk_alloc ?_ _); exact BK271.out) hb); have n5_ := Aside0.mk (below_step (by repeat (first | (with_reducible first | exact HB.out | apply below_alloc | apply pw_below_drewN | apply below_drew1 | refine below_set ?_ GE268.out | refine below_set ?_ GE270.out | refine below_set ?_ GE271.out) | exact HB.out)) hb); clear HO_269000; clear HO_269001; clear BK268; clear BK270; clear BK271; clear HB; have HO_269000 := n0_; have HO_269001 := n1_; have BK268 := n2_; have BK270 := n3_; have BK271 := n4_; have HB := n5_; clear n0_ n1_ n2_ n3_ n4_ n5_; (try clear hb); (try clear hb2); (try clear hk); (try clear hi); have hcz90_0 : w89.cell? ⟨gb271, 0, none⟩ = some (.int .i64 ((rd_T70 l0 x14_1).f0)) := bA10 BK271 rfl; have hfz90_0 := blk_frozen BK271.out 0; have hcz91_1 : w89.cell? ⟨gb271, 1, none⟩ = some (.int .i64 ((rd_T70 l0 x14_1).f1)) := bA10 BK271 rfl; have hfz91_1 := blk_frozen BK271.out 1; have hcz92_2 : w89.cell? ⟨gb271, 2, none⟩ = some (.int .i64 ((rd_T70 l0 x14_1).f2)) := bA10 BK271 rfl; have hfz92_2 := blk_frozen BK271.out 2; have hcz93_3 : w89.cell? ⟨gb271, 3, none⟩ = some (.int .i64 ((rd_T70 l0 x14_1).f3)) := bA10 BK271 rfl; have hfz93_3 := blk_frozen BK271.out 3; have hcz94_4 : w89.cell? ⟨gb271, 4, none⟩ = some (.int .i64 y_04_5) := bA10 BK271 rfl; have hfz94_4 := blk_frozen BK271.out 4; have hcz95_5 : w89.cell? ⟨gb271, 5, none⟩ = some (.int .i64 y_05_5) := bA10 BK271 rfl; have hfz95_5 := blk_frozen BK271.out 5; have hcz96_6 : w89.cell? ⟨gb271, 6, none⟩ = some (.int .i64 y_06_5) := bA10 BK271 rfl; have hfz96_6 := blk_frozen BK271.out 6; have hcz97_7 : w89.cell? ⟨gb271, 7, none⟩ = some (.int .i64 y_07_5) := bA10 BK271 rfl; have hfz97_7 := blk_frozen BK271.out 7; have hcz98_8 : w89.cell? ⟨gb271, 8, none⟩ = some (.int .i64 y_08_5) := bA10 BK271 rfl; have hfz98_8 := blk_frozen BK271.out 8; have hcz99_9 : w89.cell? ⟨gb271, 9, none⟩ = some (.int .i64 y_09_5) := bA10 BK271 rfl; have hfz99_9 := blk_frozen BK271.out 9; have hcz100_10 : w89.cell? ⟨gb271, 10, none⟩ = some (.int .i64 y_10_5) := bA10 BK271 rfl; have hfz100_10 := blk_frozen BK271.out 10; have hcz101_11 : w89.cell? ⟨gb271, 11, none⟩ = some (.int .i64 y_11_5) := bA10 BK271 rfl; have hfz101_11 := blk_frozen BK271.out 11) | ((with_reducible refine gate_store (t := 102) (p := 6) rfl ?_); refine store_event (t := 102) (p := 6) (v := ?vo_w102) (w1 := ((((((((((((w89.setCell ⟨gb271, 0, none⟩ (.int .i64 t272)).setCell ⟨gb271, 1, none⟩ (.int .i64 t273)).setCell ⟨gb271, 2, none⟩ (.int .i64 t274)).setCell ⟨gb271, 3, none⟩ (.int .i64 t275)).setCell ⟨gb271, 4, none⟩ (.int .i64 t276)).setCell ⟨gb271, 5, none⟩ (.int .i64 t277)).setCell ⟨gb271, 6, none⟩ (.int .i64 t278)).setCell ⟨gb271, 7, none⟩ (.int .i64 t279)).setCell ⟨gb271, 8, none⟩ (.int .i64 t280)).setCell ⟨gb271, 9, none⟩ (.int .i64 t281)).setCell ⟨gb271, 10, none⟩ (.int .i64 t282)).setCell ⟨gb271, 11, none⟩ (.int .i64 t283))) ?hg ?ho ?hn ?hr ?_; (case ho => rfl); (case hg => rfl); (case hn => rfl); (case hr => first | (go_simp; done) | (go_simp; rfl)); intro w102 hw; have n0_ : Aside0 (Kd.R k102 102 w102 w.heap.size (fun k_ => k_ ≠ gb271) u269000 x_00_1) := ⟨(by rw [hw]; exact (by (with_reducible repeat (first | apply Kd.R_alloc | apply Kd.R_drewN | apply Kd.R_drew)); exact Kd.R_mono (Kd.R_far (p := ⟨gb271, 11, none⟩) (Kd.R_far (p := ⟨gb271, 10, none⟩) (Kd.R_far (p := ⟨gb271, 9, none⟩) (Kd.R_far (p := ⟨gb271, 8, none⟩) (Kd.R_far (p := ⟨gb271, 7, none⟩) (Kd.R_far (p := ⟨gb271, 6, none⟩) (Kd.R_far (p := ⟨gb271, 5, none⟩) (Kd.R_far (p := ⟨gb271, 4, none⟩) (Kd.R_far (p := ⟨gb271, 3, none⟩) (Kd.R_far (p := ⟨gb271, 2, none⟩) (Kd.R_far (p := ⟨gb271, 1, none⟩) (Kd.R_far (p := ⟨gb271, 0, none⟩) (Kd.R_mono HO_269000.out (fun k_ hk => (⟨hk, hk⟩ : _ ∧ k_ ≠ gb271))) (fun _ hk => hk.2) (.int .i64 t272)) (fun _ hk => hk.2) (.int .i64 t273)) (fun _ hk => hk.2) (.int .i64 t274)) (fun _ hk => hk.2) (.int .i64 t275)) (fun _ hk => hk.2) (.int .i64 t276)) (fun _ hk => hk.2) (.int .i64 t277)) (fun _ hk => hk.2) (.int .i64 t278)) (fun _ hk => hk.2) (.int .i64 t279)) (fun _ hk => hk.2) (.int .i64 t280)) (fun _ hk => hk.2) (.int .i64 t281)) (fun _ hk => hk.2) (.int .i64 t282)) (fun _ hk => hk.2) (.int .i64 t283)) (fun _ hk => hk.1)))⟩; have n1_ : Aside0 (Kd.R (Kd.int .i64) 3 w102 w.heap.size (fun _ => True) u269001 x_01_1) := ⟨(by rw [hw]; exact (by (with_reducible repeat (first | apply Kd.R_alloc | apply Kd.R_drewN | apply Kd.R_drew)); exact Kd.R_mono (Kd.R_far (p := ⟨gb271, 11, none⟩) (Kd.R_far (p := ⟨gb271, 10, none⟩) (Kd.R_far (p := ⟨gb271, 9, none⟩) (Kd.R_far (p := ⟨gb271, 8, none⟩) (Kd.R_far (p := ⟨gb271, 7, none⟩) (Kd.R_far (p := ⟨gb271, 6, none⟩) (Kd.R_far (p := ⟨gb271, 5, none⟩) (Kd.R_far (p := ⟨gb271, 4, none⟩) (Kd.R_far (p := ⟨gb271, 3, none⟩) (Kd.R_far (p := ⟨gb271, 2, none⟩) (Kd.R_far (p := ⟨gb271, 1, none⟩) (Kd.R_far (p := ⟨gb271, 0, none⟩) (Kd.R_types HO_269001.out BK271.out (by decide)) (fun _ hk => hk.2) (.int .i64 t272)) (fun _ hk => hk.2) (.int .i64 t273)) (fun _ hk => hk.2) (.int .i64 t274)) (fun _ hk => hk.2) (.int .i64 t275)) (fun _ hk => hk.2) (.int .i64 t276)) (fun _ hk => hk.2) (.int .i64 t277)) (fun _ hk => hk.2) (.int .i64 t278)) (fun _ hk => hk.2) (.int .i64 t279)) (fun _ hk => hk.2) (.int .i64 t280)) (fun _ hk => hk.2) (.int .i64 t281)) (fun _ hk => hk.2) (.int .i64 t282)) (fun _ hk => hk.2) (.int .i64 t283)) (fun _ hk => trivial)))⟩; have n2_ : Aside0 (w102.heap[gb268]? = some (.cells #[u269000, u269001] 81 (0, 0))) := ⟨(by rw [hw]; exact (by (with_reducible repeat first|refine blk_drewN ?_ _|refine blk_drew ?_|refine blk_alloc ?_ _); refine blk_far ?_ NB268_271.out _; (with_reducible repeat first|refine blk_drewN ?_ _|refine blk_drew ?_|refine blk_alloc ?_ _); refine blk_far ?_ NB268_271.out _; (with_reducible repeat first|refine blk_drewN ?_ _|refine blk_drew ?_|refine blk_alloc ?_ _); refine blk_far ?_ NB268_271.out _; (with_reducible repeat first|refine blk_drewN ?_ _|refine blk_drew ?_|refine blk_alloc ?_ _); refine blk_far ?_ NB268_271.out _; (with_reducible repeat first|refine blk_drewN ?_ _|refine blk_drew ?_|refine blk_alloc ?_ _); refine blk_far ?_ NB268_271.out _; (with_reducible repeat first|refine blk_drewN ?_ _|refine blk_drew ?_|refine blk_alloc ?_ _); refine blk_far ?_ NB268_271.out _; (with_reducible repeat first|refine blk_drewN ?_ _|refine blk_drew ?_|refine blk_alloc ?_ _); refine blk_far ?_ NB268_271.out _; (with_reducible repeat first|refine blk_drewN ?_ _|refine blk_drew ?_|refine blk_alloc ?_ _); refine blk_far ?_ NB268_271.out _; (with_reducible repeat first|refine blk_drewN ?_ _|refine blk_drew ?_|refine blk_alloc ?_ _); refine blk_far ?_ NB268_271.out _; (with_reducible repeat first|refine blk_drewN ?_ _|refine blk_drew ?_|refine blk_alloc ?_ _); refine blk_far ?_ NB268_271.out _; (with_reducible repeat first|refine blk_drewN ?_ _|refine blk_drew ?_|refine blk_alloc ?_ _); refine blk_far ?_ NB268_271.out _; (with_reducible repeat first|refine blk_drewN ?_ _|refine blk_drew ?_|refine blk_alloc ?_ _); refine blk_far ?_ NB268_271.out _; (with_reducible repeat first|refine blk_drewN ?_ _|refine blk_drew ?_|refine blk_alloc ?_ _); exact BK268.out))⟩; have n3_ : Aside0 (w102.heap[gb270]? = some (.cells #[.int .i64 ((rd_T70 l0 x14_1).f0), .int .i64 ((rd_T70 l0 x14_1).f1), .int .i64 ((rd_T70 l0 x14_1).f2), .int .i64 ((rd_T70 l0 x14_1).f3)] 70 (0, 0))) := ⟨(by rw [hw]; exact (by (with_reducible repeat first|refine blk_drewN ?_ _|refine blk_drew ?_|refine blk_alloc ?_ _); refine blk_far ?_ NB270_271.out _; (with_reducible repeat first|refine blk_drewN ?_ _|refine blk_drew ?_|refine blk_alloc ?_ _); refine blk_far ?_ NB270_271.out _; (with_reducible repeat first|refine blk_drewN ?_ _|refine blk_drew ?_|refine blk_alloc ?_ _); refine blk_far ?_ NB270_271.out _; (with_reducible repeat first|refine blk_drewN ?_ _|refine blk_drew ?_|refine blk_alloc ?_ _); refine blk_far ?_ NB270_271.out _; (with_reducible repeat first|refine blk_drewN ?_ _|refine blk_drew ?_|refine blk_alloc ?_ _); refine blk_far ?_ NB270_271.out _; (with_reducible repeat first|refine blk_drewN ?_ _|refine blk_drew ?_|refine blk_alloc ?_ _); refine blk_far ?_ NB270_271.out _; (with_reducible repeat first|refine blk_drewN ?_ _|refine blk_drew ?_|refine blk_alloc ?_ _); refine blk_far ?_ NB270_271.out _; (with_reducible repeat first|refine blk_drewN ?_ _|refine blk_drew ?_|refine blk_alloc ?_ _); refine blk_far ?_ NB270_271.out _; (with_reducible repeat first|refine blk_drewN ?_ _|refine blk_drew ?_|refine blk_alloc ?_ _); refine blk_far ?_ NB270_271.out _; (with_reducible repeat first|refine blk_drewN ?_ _|refine blk_drew ?_|refine blk_alloc ?_ _); refine blk_far ?_ NB270_271.out _; (with_reducible repeat first|refine blk_drewN ?_ _|refine blk_drew ?_|refine blk_alloc ?_ _); refine blk_far ?_ NB270_271.out _; (with_reducible repeat first|refine blk_drewN ?_ _|refine blk_drew ?_|refine blk_alloc ?_ _); refine blk_far ?_ NB270_271.out _; (with_reducible repeat first|refine blk_drewN ?_ _|refine blk_drew ?_|refine blk_alloc ?_ _); exact BK270.out))⟩; have n4_ : Aside0 (w102.heap[gb271]? = some (.cells #[.int .i64 t272, .int .i64 t273, .int .i64 t274, .int .i64 t275, .int .i64 t276, .int .i64 t277, .int .i64 t278, .int .i64 t279, .int .i64 t280, .int .i64 t281, .int .i64 t282, .int .i64 t283] 102 (0, 0))) := ⟨(by rw [hw]; exact (by (with_reducible repeat first|refine blk_drewN ?_ _|refine blk_drew ?_|refine blk_alloc ?_ _); refine blk_put (cs := #[.int .i64 t272, .int .i64 t273, .int .i64 t274, .int .i64 t275, .int .i64 t276, .int .i64 t277, .int .i64 t278, .int .i64 t279, .int .i64 t280, .int .i64 t281, .int .i64 t282, .int .i64 y_11_5]) ?_ 11 _ rfl; (with_reducible repeat first|refine blk_drewN ?_ _|refine blk_drew ?_|refine blk_alloc ?_ _); refine blk_put (cs := #[.int .i64 t272, .int .i64 t273, .int .i64 t274, .int .i64 t275, .int .i64 t276, .int .i64 t277, .int .i64 t278, .int .i64 t279, .int .i64 t280, .int .i64 t281, .int .i64 y_10_5, .int .i64 y_11_5]) ?_ 10 _ rfl; (with_reducible repeat first|refine blk_drewN ?_ _|refine blk_drew ?_|refine blk_alloc ?_ _); refine blk_put (cs := #[.int .i64 t272, .int .i64 t273, .int .i64 t274, .int .i64 t275, .int .i64 t276, .int .i64 t277, .int .i64 t278, .int .i64 t279, .int .i64 t280, .int .i64 y_09_5, .int .i64 y_10_5, .int .i64 y_11_5]) ?_ 9 _ rfl; (with_reducible repeat first|refine blk_drewN ?_ _|refine blk_drew ?_|refine blk_alloc ?_ _); refine blk_put (cs := #[.int .i64 t272, .int .i64 t273, .int .i64 t274, .int .i64 t275, .int .i64 t276, .int .i64 t277, .int .i64 t278, .int .i64 t279, .int .i64 y_08_5, .int .i64 y_09_5, .int .i64 y_10_5, .int .i64 y_11_5]) ?_ 8 _ rfl; (with_reducible repeat first|refine blk_drewN ?_ _|refine blk_drew ?_|refine blk_alloc ?_ _); refine blk_put (cs := #[.int .i64 t272, .int .i64 t273, .int .i64 t274, .int .i64 t275, .int .i64 t276, .int .i64 t277, .int .i64 t278, .int .i64 y_07_5, .int .i64 y_08_5, .int .i64 y_09_5, .int .i64 y_10_5, .int .i64 y_11_5]) ?_ 7 _ rfl; (with_reducible repeat first|refine blk_drewN ?_ _|refine blk_drew ?_|refine blk_alloc ?_ _); refine blk_put (cs := #[.int .i64 t272, .int .i64 t273, .int .i64 t274, .int .i64 t275, .int .i64 t276, .int .i64 t277, .int .i64 y_06_5, .int .i64 y_07_5, .int .i64 y_08_5, .int .i64 y_09_5, .int .i64 y_10_5, .int .i64 y_11_5]) ?_ 6 _ rfl; (with_reducible repeat first|refine blk_drewN ?_ _|refine blk_drew ?_|refine blk_alloc ?_ _); refine blk_put (cs := #[.int .i64 t272, .int .i64 t273, .int .i64 t274, .int .i64 t275, .int .i64 t276, .int .i64 y_05_5, .int .i64 y_06_5, .int .i64 y_07_5, .int .i64 y_08_5, .int .i64 y_09_5, .int .i64 y_10_5, .int .i64 y_11_5]) ?_ 5 _ rfl; (with_reducible repeat first|refine blk_drewN ?_ _|refine blk_drew ?_|refine blk_alloc ?_ _); refine blk_put (cs := #[.int .i64 t272, .int .i64 t273, .int .i64 t274, .int .i64 t275, .int .i64 y_04_5, .int .i64 y_05_5, .int .i64 y_06_5, .int .i64 y_07_5, .int .i64 y_08_5, .int .i64 y_09_5, .int .i64 y_10_5, .int .i64 y_11_5]) ?_ 4 _ rfl; (with_reducible repeat first|refine blk_drewN ?_ _|refine blk_drew ?_|refine blk_alloc ?_ _); refine blk_put (cs := #[.int .i64 t272, .int .i64 t273, .int .i64 t274, .int .i64 ((rd_T70 l0 x14_1).f3), .int .i64 y_04_5, .int .i64 y_05_5, .int .i64 y_06_5, .int .i64 y_07_5, .int .i64 y_08_5, .int .i64 y_09_5, .int .i64 y_10_5, .int .i64 y_11_5]) ?_ 3 _ rfl; (with_reducible repeat first|refine blk_drewN ?_ _|refine blk_drew ?_|refine blk_alloc ?_ _); refine blk_put (cs := #[.int .i64 t272, .int .i64 t273, .int .i64 ((rd_T70 l0 x14_1).f2), .int .i64 ((rd_T70 l0 x14_1).f3), .int .i64 y_04_5, .int .i64 y_05_5, .int .i64 y_06_5, .int .i64 y_07_5, .int .i64 y_08_5, .int .i64 y_09_5, .int .i64 y_10_5, .int .i64 y_11_5]) ?_ 2 _ rfl; (with_reducible repeat first|refine blk_drewN ?_ _|refine blk_drew ?_|refine blk_alloc ?_ _); refine blk_put (cs := #[.int .i64 t272, .int .i64 ((rd_T70 l0 x14_1).f1), .int .i64 ((rd_T70 l0 x14_1).f2), .int .i64 ((rd_T70 l0 x14_1).f3), .int .i64 y_04_5, .int .i64 y_05_5, .int .i64 y_06_5, .int .i64 y_07_5, .int .i64 y_08_5, .int .i64 y_09_5, .int .i64 y_10_5, .int .i64 y_11_5]) ?_ 1 _ rfl; (with_reducible repeat first|refine blk_drewN ?_ _|refine blk_drew ?_|refine blk_alloc ?_ _); refine blk_put (cs := #[.int .i64 ((rd_T70 l0 x14_1).f0), .int .i64 ((rd_T70 l0 x14_1).f1), .int .i64 ((rd_T70 l0 x14_1).f2), .int .i64 ((rd_T70 l0 x14_1).f3), .int .i64 y_04_5, .int .i64 y_05_5, .int .i64 y_06_5, .int .i64 y_07_5, .int .i64 y_08_5, .int .i64 y_09_5, .int .i64 y_10_5, .int .i64 y_11_5]) ?_ 0 _ rfl; (with_reducible repeat first|refine blk_drewN ?_ _|refine blk_drew ?_|refine blk_alloc ?_ _); exact BK271.out))⟩; have n5_ : Aside0 (Below w.heap.size w w102) := ⟨(by rw [hw]; exact (by repeat (first | (with_reducible first | exact HB.out | apply below_alloc | apply pw_below_drewN | apply below_drew1 | refine below_set ?_ GE268.out | refine below_set ?_ GE270.out | refine below_set ?_ GE271.out) | exact HB.out)))⟩; clear hw; clear HO_269000; clear HO_269001; clear BK268; clear BK270; clear BK271; clear HB; have HO_269000 := n0_; have HO_269001 := n1_; have BK268 := n2_; have BK270 := n3_; have BK271 := n4_; have HB := n5_; clear n0_ n1_ n2_ n3_ n4_ n5_; have hcz103_0 : w102.cell? ⟨gb271, 0, none⟩ = some (.int .i64 t272) := bA10 BK271 rfl; have hcz103_1 : w102.cell? ⟨gb271, 1, none⟩ = some (.int .i64 t273) := bA10 BK271 rfl; have hcz103_2 : w102.cell? ⟨gb271, 2, none⟩ = some (.int .i64 t274) := bA10 BK271 rfl; have hcz103_3 : w102.cell? ⟨gb271, 3, none⟩ = some (.int .i64 t275) := bA10 BK271 rfl; have hfz103_0 := blk_frozen BK271.out 0; have hfz103_1 := blk_frozen BK271.out 1; have hfz103_2 := blk_frozen BK271.out 2; have hfz103_3 := blk_frozen BK271.out 3) | ((with_reducible refine gate_callee (f := 60) rfl ?_); refine goesL_ (some 29) rfl rfl Try.func60 (by kernel_rfl) rfl #[.agg #[.int .i64 t272, .int .i64 t273, .int .i64 t274, .int .i64 t275]] rfl (by (try simp only [List.map_toArray, List.map_cons, List.map_nil]); first | done | rfl | (simp only [List.length_drop, List.length_take]; rfl)) ?_; (with_reducible refine (impl_vector_lead.calls t272 t273 t274 t275 t284 _ A64.out).mono ?_); rintro e w104 ⟨rfl, hb⟩; refine ⟨_, rfl, ?_⟩; have n0_ := Aside0.mk (Kd.R_below (by (with_reducible repeat (first | apply Kd.R_alloc | apply Kd.R_drewN | apply Kd.R_drew)); exact HO_269000.out) hb); have n1_ := Aside0.mk (Kd.R_below (by (with_reducible repeat (first | apply Kd.R_alloc | apply Kd.R_drewN | apply Kd.R_drew)); exact HO_269001.out) hb); have n2_ := Aside0.mk (blk_below (g := gb268) (o := .cells #[u269000, u269001] 81 (0, 0)) (by (with_reducible repeat first|refine blk_drewN ?_ _|refine blk_drew ?_|refine blk_alloc ?_ _); exact BK268.out) hb); have n3_ := Aside0.mk (blk_below (g := gb270) (o := .cells #[.int .i64 ((rd_T70 l0 x14_1).f0), .int .i64 ((rd_T70 l0 x14_1).f1), .int .i64 ((rd_T70 l0 x14_1).f2), .int .i64 ((rd_T70 l0 x14_1).f3)] 70 (0, 0)) (by (with_reducible repeat first|refine blk_drewN ?_ _|refine blk_drew ?_|refine blk_alloc ?_ _); exact BK270.out) hb); have n4_ := Aside0.mk (blk_below (g := gb271) (o := .cells #[.int .i64 t272, .int .i64 t273, .int .i64 t274, .int .i64 t275, .int .i64 t276, .int .i64 t277, .int .i64 t278, .int .i64 t279, .int .i64 t280, .int .i64 t281, .int .i64 t282, .int .i64 t283] 102 (0, 0)) (by (with_reducible repeat first|refine blk_drewN ?_ _|refine blk_drew ?_|refine blk_alloc ?_ _); exact BK271.out) hb); have n5_ := Aside0.mk (below_step (by repeat (first | (with_reducible first | exact HB.out | apply below_alloc | apply pw_below_drewN | apply below_drew1 | refine below_set ?_ GE268.out | refine below_set ?_ GE270.out | refine below_set ?_ GE271.out) | exact HB.out)) hb); clear HO_269000; clear HO_269001; clear BK268; clear BK270; clear BK271; clear HB; have HO_269000 := n0_; have HO_269001 := n1_; have BK268 := n2_; have BK270 := n3_; have BK271 := n4_; have HB := n5_; clear n0_ n1_ n2_ n3_ n4_ n5_; (try clear hb); (try clear hb2); (try clear hk); (try clear hi)))
         (try simp only [Act.put, List.setIfInBounds_toArray, List.set_cons_zero, List.set_cons_succ])
         go_cut [8] (fun v8 wc => ∃ (kq : Nat) (x8_84 : Int), v8 = .int .i64 x8_84 ∧ Aside0 (impl_spanOf.j2 kq x14_1 x8_84 l0 (l0.length : Int) x14_1 x_00_1 x_01_1 t272 t273 t274 t275 t276 t277 t278 t279 t280 t281 t282 t283 = some (r1, r2)) ∧ Aside0 (kq ≤ kj5) ∧ Aside0 (Kd.R k102 102 wc w.heap.size (fun k_ => k_ ≠ gb271) u269000 x_00_1) ∧ Aside0 (Kd.R (Kd.int .i64) 3 wc w.heap.size (fun _ => True) u269001 x_01_1) ∧ Aside0 (wc.heap[gb268]? = some (.cells #[u269000, u269001] 81 (0, 0))) ∧ Aside0 (wc.heap[gb270]? = some (.cells #[.int .i64 ((rd_T70 l0 x14_1).f0), .int .i64 ((rd_T70 l0 x14_1).f1), .int .i64 ((rd_T70 l0 x14_1).f2), .int .i64 ((rd_T70 l0 x14_1).f3)] 70 (0, 0))) ∧ Aside0 (wc.heap[gb271]? = some (.cells #[.int .i64 t272, .int .i64 t273, .int .i64 t274, .int .i64 t275, .int .i64 t276, .int .i64 t277, .int .i64 t278, .int .i64 t279, .int .i64 t280, .int .i64 t281, .int .i64 t282, .int .i64 t283] 102 (0, 0))) ∧ Aside0 (Below w.heap.size w wc))
         case first =>
          have H := HC85.out
          clear HC85
          by_cases c105 : t284 = 0
          ·rw [if_pos c105] at H
           subst c105
           replace H : ((impl_element_inverse.f kj5 t272).bind fun t285 => (impl_spanOf.j2 kj5 x14_1 t285 l0 (l0.length : Int) x14_1 x_00_1 x_01_1 t272 t273 t274 t275 t276 t277 t278 t279 t280 t281 t282 t283)) = some (r1, r2) := H
           replace H := Option.bind_eq_some_iff.mp H
           obtain ⟨t285, A1060, H⟩ := H
           replace H : (impl_spanOf.j2 kj5 x14_1 t285 l0 (l0.length : Int) x14_1 x_00_1 x_01_1 t272 t273 t274 t275 t276 t277 t278 t279 t280 t281 t282 t283) = some (r1, r2) := H
           have A106 := Aside0.mk A1060
           clear A1060
           have H' := Aside0.mk H
           clear H
           have hnb107 := NB271_268.out
           have hnc107 := NB268_271.out
           have hnb108 := NB271_270.out
           have hnc108 := NB270_271.out
           have hcz109_0 : w104.cell? ⟨gb271, 0, none⟩ = some (.int .i64 t272) := bA10 BK271 rfl
           have hfz109_0 := blk_frozen BK271.out 0
           go_wp2_with (first | ((with_reducible refine gate_callee (f := 103) rfl ?_); refine goesL_ (some 36) rfl rfl Try.func103 (by kernel_rfl) rfl #[.int .i64 t272] rfl (by (try simp only [List.map_toArray, List.map_cons, List.map_nil]); first | done | rfl | (simp only [List.length_drop, List.length_take]; rfl)) ?_; (with_reducible refine (impl_element_inverse.calls kj5 t272 t285 _ A106.out).mono ?_); rintro e w' ⟨rfl, ⟨nd, rfl⟩⟩; refine ⟨_, rfl, ?_⟩))
           go_meet
           case rel => exact ⟨_, (t285), (by first | rfl | (simp; done) | (simp [*]; done)), H', ⟨by have := HK1.out; have := HJ5.out; first | omega | exact Nat.le_refl _⟩, ⟨by (with_reducible repeat (first | apply Kd.R_alloc | apply Kd.R_drewN | apply Kd.R_drew)); exact HO_269000.out⟩, ⟨by (with_reducible repeat (first | apply Kd.R_alloc | apply Kd.R_drewN | apply Kd.R_drew)); exact HO_269001.out⟩, ⟨by (with_reducible repeat first|refine blk_drewN ?_ _|refine blk_drew ?_|refine blk_alloc ?_ _); exact BK268.out⟩, ⟨by (with_reducible repeat first|refine blk_drewN ?_ _|refine blk_drew ?_|refine blk_alloc ?_ _); exact BK270.out⟩, ⟨by (with_reducible repeat first|refine blk_drewN ?_ _|refine blk_drew ?_|refine blk_alloc ?_ _); exact BK271.out⟩, ⟨by repeat (first | (with_reducible first | exact HB.out | apply below_alloc | apply pw_below_drewN | apply below_drew1 | refine below_set ?_ GE268.out | refine below_set ?_ GE270.out | refine below_set ?_ GE271.out) | exact HB.out)⟩⟩
          ·rw [if_neg c105] at H
           clear c105
           by_cases c110 : t284 = 1
           ·rw [if_pos c110] at H
            subst c110
            replace H : ((impl_element_inverse.f kj5 t273).bind fun t286 => (impl_spanOf.j2 kj5 x14_1 t286 l0 (l0.length : Int) x14_1 x_00_1 x_01_1 t272 t273 t274 t275 t276 t277 t278 t279 t280 t281 t282 t283)) = some (r1, r2) := H
            replace H := Option.bind_eq_some_iff.mp H
            obtain ⟨t286, A1110, H⟩ := H
            replace H : (impl_spanOf.j2 kj5 x14_1 t286 l0 (l0.length : Int) x14_1 x_00_1 x_01_1 t272 t273 t274 t275 t276 t277 t278 t279 t280 t281 t282 t283) = some (r1, r2) := H
            have A111 := Aside0.mk A1110
            clear A1110
            have H' := Aside0.mk H
            clear H
            have hnb112 := NB271_268.out
            have hnc112 := NB268_271.out
            have hnb113 := NB271_270.out
            have hnc113 := NB270_271.out
            have hcz114_1 : w104.cell? ⟨gb271, 1, none⟩ = some (.int .i64 t273) := bA10 BK271 rfl
            have hfz114_1 := blk_frozen BK271.out 1
            go_wp2_with (first | ((with_reducible refine gate_callee (f := 103) rfl ?_); refine goesL_ (some 36) rfl rfl Try.func103 (by kernel_rfl) rfl #[.int .i64 t273] rfl (by (try simp only [List.map_toArray, List.map_cons, List.map_nil]); first | done | rfl | (simp only [List.length_drop, List.length_take]; rfl)) ?_; (with_reducible refine (impl_element_inverse.calls kj5 t273 t286 _ A111.out).mono ?_); rintro e w' ⟨rfl, ⟨nd, rfl⟩⟩; refine ⟨_, rfl, ?_⟩))
            go_meet
            case rel => exact ⟨_, (t286), (by first | rfl | (simp; done) | (simp [*]; done)), H', ⟨by have := HK1.out; have := HJ5.out; first | omega | exact Nat.le_refl _⟩, ⟨by (with_reducible repeat (first | apply Kd.R_alloc | apply Kd.R_drewN | apply Kd.R_drew)); exact HO_269000.out⟩, ⟨by (with_reducible repeat (first | apply Kd.R_alloc | apply Kd.R_drewN | apply Kd.R_drew)); exact HO_269001.out⟩, ⟨by (with_reducible repeat first|refine blk_drewN ?_ _|refine blk_drew ?_|refine blk_alloc ?_ _); exact BK268.out⟩, ⟨by (with_reducible repeat first|refine blk_drewN ?_ _|refine blk_drew ?_|refine blk_alloc ?_ _); exact BK270.out⟩, ⟨by (with_reducible repeat first|refine blk_drewN ?_ _|refine blk_drew ?_|refine blk_alloc ?_ _); exact BK271.out⟩, ⟨by repeat (first | (with_reducible first | exact HB.out | apply below_alloc | apply pw_below_drewN | apply below_drew1 | refine below_set ?_ GE268.out | refine below_set ?_ GE270.out | refine below_set ?_ GE271.out) | exact HB.out)⟩⟩
           ·rw [if_neg c110] at H
            clear c110
            by_cases c115 : t284 = 2
            ·rw [if_pos c115] at H
             subst c115
             replace H : ((impl_element_inverse.f kj5 t274).bind fun t287 => (impl_spanOf.j2 kj5 x14_1 t287 l0 (l0.length : Int) x14_1 x_00_1 x_01_1 t272 t273 t274 t275 t276 t277 t278 t279 t280 t281 t282 t283)) = some (r1, r2) := H
             replace H := Option.bind_eq_some_iff.mp H
             obtain ⟨t287, A1160, H⟩ := H
             replace H : (impl_spanOf.j2 kj5 x14_1 t287 l0 (l0.length : Int) x14_1 x_00_1 x_01_1 t272 t273 t274 t275 t276 t277 t278 t279 t280 t281 t282 t283) = some (r1, r2) := H
             have A116 := Aside0.mk A1160
             clear A1160
             have H' := Aside0.mk H
             clear H
             have hnb117 := NB271_268.out
             have hnc117 := NB268_271.out
             have hnb118 := NB271_270.out
             have hnc118 := NB270_271.out
             have hcz119_2 : w104.cell? ⟨gb271, 2, none⟩ = some (.int .i64 t274) := bA10 BK271 rfl
             have hfz119_2 := blk_frozen BK271.out 2
             go_wp2_with (first | ((with_reducible refine gate_callee (f := 103) rfl ?_); refine goesL_ (some 36) rfl rfl Try.func103 (by kernel_rfl) rfl #[.int .i64 t274] rfl (by (try simp only [List.map_toArray, List.map_cons, List.map_nil]); first | done | rfl | (simp only [List.length_drop, List.length_take]; rfl)) ?_; (with_reducible refine (impl_element_inverse.calls kj5 t274 t287 _ A116.out).mono ?_); rintro e w' ⟨rfl, ⟨nd, rfl⟩⟩; refine ⟨_, rfl, ?_⟩))
             go_meet
             case rel => exact ⟨_, (t287), (by first | rfl | (simp; done) | (simp [*]; done)), H', ⟨by have := HK1.out; have := HJ5.out; first | omega | exact Nat.le_refl _⟩, ⟨by (with_reducible repeat (first | apply Kd.R_alloc | apply Kd.R_drewN | apply Kd.R_drew)); exact HO_269000.out⟩, ⟨by (with_reducible repeat (first | apply Kd.R_alloc | apply Kd.R_drewN | apply Kd.R_drew)); exact HO_269001.out⟩, ⟨by (with_reducible repeat first|refine blk_drewN ?_ _|refine blk_drew ?_|refine blk_alloc ?_ _); exact BK268.out⟩, ⟨by (with_reducible repeat first|refine blk_drewN ?_ _|refine blk_drew ?_|refine blk_alloc ?_ _); exact BK270.out⟩, ⟨by (with_reducible repeat first|refine blk_drewN ?_ _|refine blk_drew ?_|refine blk_alloc ?_ _); exact BK271.out⟩, ⟨by repeat (first | (with_reducible first | exact HB.out | apply below_alloc | apply pw_below_drewN | apply below_drew1 | refine below_set ?_ GE268.out | refine below_set ?_ GE270.out | refine below_set ?_ GE271.out) | exact HB.out)⟩⟩
            ·rw [if_neg c115] at H
             clear c115
             by_cases c120 : t284 = 3
             ·rw [if_pos c120] at H
              subst c120
              replace H : ((impl_element_inverse.f kj5 t275).bind fun t288 => (impl_spanOf.j2 kj5 x14_1 t288 l0 (l0.length : Int) x14_1 x_00_1 x_01_1 t272 t273 t274 t275 t276 t277 t278 t279 t280 t281 t282 t283)) = some (r1, r2) := H
              replace H := Option.bind_eq_some_iff.mp H
              obtain ⟨t288, A1210, H⟩ := H
              replace H : (impl_spanOf.j2 kj5 x14_1 t288 l0 (l0.length : Int) x14_1 x_00_1 x_01_1 t272 t273 t274 t275 t276 t277 t278 t279 t280 t281 t282 t283) = some (r1, r2) := H
              have A121 := Aside0.mk A1210
              clear A1210
              have H' := Aside0.mk H
              clear H
              have hnb122 := NB271_268.out
              have hnc122 := NB268_271.out
              have hnb123 := NB271_270.out
              have hnc123 := NB270_271.out
              have hcz124_3 : w104.cell? ⟨gb271, 3, none⟩ = some (.int .i64 t275) := bA10 BK271 rfl
              have hfz124_3 := blk_frozen BK271.out 3
              go_wp2_with (first | ((with_reducible refine gate_callee (f := 103) rfl ?_); refine goesL_ (some 36) rfl rfl Try.func103 (by kernel_rfl) rfl #[.int .i64 t275] rfl (by (try simp only [List.map_toArray, List.map_cons, List.map_nil]); first | done | rfl | (simp only [List.length_drop, List.length_take]; rfl)) ?_; (with_reducible refine (impl_element_inverse.calls kj5 t275 t288 _ A121.out).mono ?_); rintro e w' ⟨rfl, ⟨nd, rfl⟩⟩; refine ⟨_, rfl, ?_⟩))
              go_meet
              case rel => exact ⟨_, (t288), (by first | rfl | (simp; done) | (simp [*]; done)), H', ⟨by have := HK1.out; have := HJ5.out; first | omega | exact Nat.le_refl _⟩, ⟨by (with_reducible repeat (first | apply Kd.R_alloc | apply Kd.R_drewN | apply Kd.R_drew)); exact HO_269000.out⟩, ⟨by (with_reducible repeat (first | apply Kd.R_alloc | apply Kd.R_drewN | apply Kd.R_drew)); exact HO_269001.out⟩, ⟨by (with_reducible repeat first|refine blk_drewN ?_ _|refine blk_drew ?_|refine blk_alloc ?_ _); exact BK268.out⟩, ⟨by (with_reducible repeat first|refine blk_drewN ?_ _|refine blk_drew ?_|refine blk_alloc ?_ _); exact BK270.out⟩, ⟨by (with_reducible repeat first|refine blk_drewN ?_ _|refine blk_drew ?_|refine blk_alloc ?_ _); exact BK271.out⟩, ⟨by repeat (first | (with_reducible first | exact HB.out | apply below_alloc | apply pw_below_drewN | apply below_drew1 | refine below_set ?_ GE268.out | refine below_set ?_ GE270.out | refine below_set ?_ GE271.out) | exact HB.out)⟩⟩
             ·rw [if_neg c120] at H
              clear c120
              exact absurd H (by simp)
         case rest =>
          clear HC85
          try clear c1
          try clear p2
          try clear q2
          try clear hx2
          try clear c3
          try clear c3b0
          try clear c4
          try clear c4b0
          try clear c5
          try clear c5b0
          try clear c6
          try clear p6
          try clear c8
          try clear c10
          try clear c11
          try clear c12
          try clear c16
          try clear c17
          try clear p26
          try clear q26
          try clear hx26
          try clear c31
          try clear c32
          try clear c33
          try clear c35
          try clear c36
          try clear c37
          try clear c39
          try clear c40
          try clear c41
          try clear c43
          try clear c44
          try clear c45
          try clear c47
          try clear c48
          try clear c49
          try clear c51
          try clear c52
          try clear c53
          try clear c55
          try clear c56
          try clear c57
          try clear c59
          try clear c60
          try clear c61
          try clear p64
          try clear c65
          try clear c65b0
          try clear c66
          try clear c67
          try clear c86
          try clear c87
          try clear c102
          try clear c103
          try clear c105
          try clear c107
          try clear c108
          try clear c110
          try clear c112
          try clear c113
          try clear c115
          try clear c117
          try clear c118
          try clear c120
          try clear c122
          try clear c123
          try clear hcz100_10
          try clear hcz101_11
          try clear hcz103_0 hcz103_1 hcz103_2 hcz103_3
          try clear hcz109_0
          try clear hcz10_1
          try clear hcz114_1
          try clear hcz119_2
          try clear hcz11_2
          try clear hcz124_3
          try clear hcz12_3
          try clear hcz14_0 hcz14_1 hcz14_2 hcz14_3
          try clear hcz18_0
          try clear hcz19_1
          try clear hcz20_2
          try clear hcz21_3
          try clear hcz22_4
          try clear hcz23_5
          try clear hcz24_6
          try clear hcz25_7
          try clear hcz26_8
          try clear hcz27_9
          try clear hcz28_10
          try clear hcz29_11
          try clear hcz34_4
          try clear hcz38_5
          try clear hcz42_6
          try clear hcz46_7
          try clear hcz50_8
          try clear hcz54_9
          try clear hcz58_10
          try clear hcz62_11
          try clear hcz68_0 hcz68_1 hcz68_10 hcz68_11 hcz68_2 hcz68_3 hcz68_4 hcz68_5 hcz68_6 hcz68_7 hcz68_8 hcz68_9
          try clear hcz70_0
          try clear hcz71_1
          try clear hcz72_2
          try clear hcz73_3
          try clear hcz74_4
          try clear hcz75_5
          try clear hcz76_6
          try clear hcz77_7
          try clear hcz78_8
          try clear hcz79_9
          try clear hcz80_10
          try clear hcz81_11
          try clear hcz83_0 hcz83_1 hcz83_2 hcz83_3
          try clear hcz88_0 hcz88_1 hcz88_10 hcz88_11 hcz88_2 hcz88_3 hcz88_4 hcz88_5 hcz88_6 hcz88_7 hcz88_8 hcz88_9
          try clear hcz90_0
          try clear hcz91_1
          try clear hcz92_2
          try clear hcz93_3
          try clear hcz94_4
          try clear hcz95_5
          try clear hcz96_6
          try clear hcz97_7
          try clear hcz98_8
          try clear hcz99_9
          try clear hcz9_0
          try clear hfz100_10
          try clear hfz101_11
          try clear hfz103_0 hfz103_1 hfz103_2 hfz103_3
          try clear hfz109_0
          try clear hfz10_1
          try clear hfz114_1
          try clear hfz119_2
          try clear hfz11_2
          try clear hfz124_3
          try clear hfz12_3
          try clear hfz14_0 hfz14_1 hfz14_2 hfz14_3
          try clear hfz18_0
          try clear hfz19_1
          try clear hfz20_2
          try clear hfz21_3
          try clear hfz22_4
          try clear hfz23_5
          try clear hfz24_6
          try clear hfz25_7
          try clear hfz26_8
          try clear hfz27_9
          try clear hfz28_10
          try clear hfz29_11
          try clear hfz34_4
          try clear hfz38_5
          try clear hfz42_6
          try clear hfz46_7
          try clear hfz50_8
          try clear hfz54_9
          try clear hfz58_10
          try clear hfz62_11
          try clear hfz68_0 hfz68_1 hfz68_10 hfz68_11 hfz68_2 hfz68_3 hfz68_4 hfz68_5 hfz68_6 hfz68_7 hfz68_8 hfz68_9
          try clear hfz70_0
          try clear hfz71_1
          try clear hfz72_2
          try clear hfz73_3
          try clear hfz74_4
          try clear hfz75_5
          try clear hfz76_6
          try clear hfz77_7
          try clear hfz78_8
          try clear hfz79_9
          try clear hfz80_10
          try clear hfz81_11
          try clear hfz83_0 hfz83_1 hfz83_2 hfz83_3
          try clear hfz88_0 hfz88_1 hfz88_10 hfz88_11 hfz88_2 hfz88_3 hfz88_4 hfz88_5 hfz88_6 hfz88_7 hfz88_8 hfz88_9
          try clear hfz90_0
          try clear hfz91_1
          try clear hfz92_2
          try clear hfz93_3
          try clear hfz94_4
          try clear hfz95_5
          try clear hfz96_6
          try clear hfz97_7
          try clear hfz98_8
          try clear hfz99_9
          try clear hfz9_0
          try clear hx269_0 hx269_1 hx269_2 hx269_3
          try clear p2
          try clear p26
          try clear p269
          try clear q2
          try clear q26
          try clear q269
          obtain ⟨kq, x8_84, rfl, HA, HJ84, HO_269000, HO_269001, BK268, BK270, BK271, HB⟩ := hcut
          cases kq with
          | zero => exact absurd HA.out (by simp [impl_spanOf.j2])
          | succ kj84 =>
           have H := HA.out
           clear HA
           simp only [impl_spanOf.j2] at H
           replace H := Option.bind_eq_some_iff.mp H
           obtain ⟨⟨t289, t290, t291, t292⟩, A1250, H⟩ := H
           replace H : (impl_spanOf.l1 kj84 x14_1 x8_84 l0 (l0.length : Int) x14_1 0 x_00_1 x_01_1 t289 t290 t291 t292 t276 t277 t278 t279 t280 t281 t282 t283) = some (r1, r2) := H
           have A125 := Aside0.mk A1250
           clear A1250
           have H' := Aside0.mk H
           clear H
           have hnb126 := NB271_268.out
           have hnc126 := NB268_271.out
           have hnb127 := NB271_270.out
           have hnc127 := NB270_271.out
           have hcz128_0 : wc.cell? ⟨gb271, 0, none⟩ = some (.int .i64 t272) := bA10 BK271 rfl
           have hcz128_1 : wc.cell? ⟨gb271, 1, none⟩ = some (.int .i64 t273) := bA10 BK271 rfl
           have hcz128_2 : wc.cell? ⟨gb271, 2, none⟩ = some (.int .i64 t274) := bA10 BK271 rfl
           have hcz128_3 : wc.cell? ⟨gb271, 3, none⟩ = some (.int .i64 t275) := bA10 BK271 rfl
           have hfz128_0 := blk_frozen BK271.out 0
           have hfz128_1 := blk_frozen BK271.out 1
           have hfz128_2 := blk_frozen BK271.out 2
           have hfz128_3 := blk_frozen BK271.out 3
           go_wp2_with (first | ((with_reducible refine gate_callee (f := 93) rfl ?_); refine goesL_ (some 40) rfl rfl Try.func93 (by kernel_rfl) rfl #[.agg #[.int .i64 t272, .int .i64 t273, .int .i64 t274, .int .i64 t275], .int .i64 x8_84] rfl (by (try simp only [List.map_toArray, List.map_cons, List.map_nil]); first | done | rfl | (simp only [List.length_drop, List.length_take]; rfl)) ?_; (with_reducible refine (impl_vector_times.calls t272 t273 t274 t275 x8_84 t289 t290 t291 t292 _ A125.out).mono ?_); rintro e w129 ⟨rfl, hb⟩; refine ⟨_, rfl, ?_⟩; have n0_ := Aside0.mk (Kd.R_below (by (with_reducible repeat (first | apply Kd.R_alloc | apply Kd.R_drewN | apply Kd.R_drew)); exact HO_269000.out) hb); have n1_ := Aside0.mk (Kd.R_below (by (with_reducible repeat (first | apply Kd.R_alloc | apply Kd.R_drewN | apply Kd.R_drew)); exact HO_269001.out) hb); have n2_ := Aside0.mk (blk_below (g := gb268) (o := .cells #[u269000, u269001] 81 (0, 0)) (by (with_reducible repeat first|refine blk_drewN ?_ _|refine blk_drew ?_|refine blk_alloc ?_ _); exact BK268.out) hb); have n3_ := Aside0.mk (blk_below (g := gb270) (o := .cells #[.int .i64 ((rd_T70 l0 x14_1).f0), .int .i64 ((rd_T70 l0 x14_1).f1), .int .i64 ((rd_T70 l0 x14_1).f2), .int .i64 ((rd_T70 l0 x14_1).f3)] 70 (0, 0)) (by (with_reducible repeat first|refine blk_drewN ?_ _|refine blk_drew ?_|refine blk_alloc ?_ _); exact BK270.out) hb); have n4_ := Aside0.mk (blk_below (g := gb271) (o := .cells #[.int .i64 t272, .int .i64 t273, .int .i64 t274, .int .i64 t275, .int .i64 t276, .int .i64 t277, .int .i64 t278, .int .i64 t279, .int .i64 t280, .int .i64 t281, .int .i64 t282, .int .i64 t283] 102 (0, 0)) (by (with_reducible repeat first|refine blk_drewN ?_ _|refine blk_drew ?_|refine blk_alloc ?_ _); exact BK271.out) hb); have n5_ := Aside0.mk (below_step (by repeat (first | (with_reducible first | exact HB.out | apply below_alloc | apply pw_below_drewN | apply below_drew1 | refine below_set ?_ GE268.out | refine below_set ?_ GE270.out | refine below_set ?_ GE271.out) | exact HB.out)) hb); clear HO_269000; clear HO_269001; clear BK268; clear BK270; clear BK271; clear HB; have HO_269000 := n0_; have HO_269001 := n1_; have BK268 := n2_; have BK270 := n3_; have BK271 := n4_; have HB := n5_; clear n0_ n1_ n2_ n3_ n4_ n5_; (try clear hb); (try clear hb2); (try clear hk); (try clear hi); have hcz130_0 : w129.cell? ⟨gb271, 0, none⟩ = some (.int .i64 t272) := bA10 BK271 rfl; have hfz130_0 := blk_frozen BK271.out 0; have hcz131_1 : w129.cell? ⟨gb271, 1, none⟩ = some (.int .i64 t273) := bA10 BK271 rfl; have hfz131_1 := blk_frozen BK271.out 1; have hcz132_2 : w129.cell? ⟨gb271, 2, none⟩ = some (.int .i64 t274) := bA10 BK271 rfl; have hfz132_2 := blk_frozen BK271.out 2; have hcz133_3 : w129.cell? ⟨gb271, 3, none⟩ = some (.int .i64 t275) := bA10 BK271 rfl; have hfz133_3 := blk_frozen BK271.out 3) | ((with_reducible refine gate_store (t := 70) (p := 41) rfl ?_); refine store_event (t := 70) (p := 41) (v := ?vo_w134) (w1 := ((((w129.setCell ⟨gb271, 0, none⟩ (.int .i64 t289)).setCell ⟨gb271, 1, none⟩ (.int .i64 t290)).setCell ⟨gb271, 2, none⟩ (.int .i64 t291)).setCell ⟨gb271, 3, none⟩ (.int .i64 t292))) ?hg ?ho ?hn ?hr ?_; (case ho => rfl); (case hg => rfl); (case hn => rfl); (case hr => first | (go_simp; done) | (go_simp; rfl)); intro w134 hw; have n0_ : Aside0 (Kd.R k102 102 w134 w.heap.size (fun k_ => k_ ≠ gb271) u269000 x_00_1) := ⟨(by rw [hw]; exact (by (with_reducible repeat (first | apply Kd.R_alloc | apply Kd.R_drewN | apply Kd.R_drew)); exact Kd.R_mono (Kd.R_far (p := ⟨gb271, 3, none⟩) (Kd.R_far (p := ⟨gb271, 2, none⟩) (Kd.R_far (p := ⟨gb271, 1, none⟩) (Kd.R_far (p := ⟨gb271, 0, none⟩) (Kd.R_mono HO_269000.out (fun k_ hk => (⟨hk, hk⟩ : _ ∧ k_ ≠ gb271))) (fun _ hk => hk.2) (.int .i64 t289)) (fun _ hk => hk.2) (.int .i64 t290)) (fun _ hk => hk.2) (.int .i64 t291)) (fun _ hk => hk.2) (.int .i64 t292)) (fun _ hk => hk.1)))⟩; have n1_ : Aside0 (Kd.R (Kd.int .i64) 3 w134 w.heap.size (fun _ => True) u269001 x_01_1) := ⟨(by rw [hw]; exact (by (with_reducible repeat (first | apply Kd.R_alloc | apply Kd.R_drewN | apply Kd.R_drew)); exact Kd.R_mono (Kd.R_far (p := ⟨gb271, 3, none⟩) (Kd.R_far (p := ⟨gb271, 2, none⟩) (Kd.R_far (p := ⟨gb271, 1, none⟩) (Kd.R_far (p := ⟨gb271, 0, none⟩) (Kd.R_types HO_269001.out BK271.out (by decide)) (fun _ hk => hk.2) (.int .i64 t289)) (fun _ hk => hk.2) (.int .i64 t290)) (fun _ hk => hk.2) (.int .i64 t291)) (fun _ hk => hk.2) (.int .i64 t292)) (fun _ hk => trivial)))⟩; have n2_ : Aside0 (w134.heap[gb268]? = some (.cells #[u269000, u269001] 81 (0, 0))) := ⟨(by rw [hw]; exact (by (with_reducible repeat first|refine blk_drewN ?_ _|refine blk_drew ?_|refine blk_alloc ?_ _); refine blk_far ?_ NB268_271.out _; (with_reducible repeat first|refine blk_drewN ?_ _|refine blk_drew ?_|refine blk_alloc ?_ _); refine blk_far ?_ NB268_271.out _; (with_reducible repeat first|refine blk_drewN ?_ _|refine blk_drew ?_|refine blk_alloc ?_ _); refine blk_far ?_ NB268_271.out _; (with_reducible repeat first|refine blk_drewN ?_ _|refine blk_drew ?_|refine blk_alloc ?_ _); refine blk_far ?_ NB268_271.out _; (with_reducible repeat first|refine blk_drewN ?_ _|refine blk_drew ?_|refine blk_alloc ?_ _); exact BK268.out))⟩; have n3_ : Aside0 (w134.heap[gb270]? = some (.cells #[.int .i64 ((rd_T70 l0 x14_1).f0), .int .i64 ((rd_T70 l0 x14_1).f1), .int .i64 ((rd_T70 l0 x14_1).f2), .int .i64 ((rd_T70 l0 x14_1).f3)] 70 (0, 0))) := ⟨(by rw [hw]; exact (by (with_reducible repeat first|refine blk_drewN ?_ _|refine blk_drew ?_|refine blk_alloc ?_ _); refine blk_far ?_ NB270_271.out _; (with_reducible repeat first|refine blk_drewN ?_ _|refine blk_drew ?_|refine blk_alloc ?_ _); refine blk_far ?_ NB270_271.out _; (with_reducible repeat first|refine blk_drewN ?_ _|refine blk_drew ?_|refine blk_alloc ?_ _); refine blk_far ?_ NB270_271.out _; (with_reducible repeat first|refine blk_drewN ?_ _|refine blk_drew ?_|refine blk_alloc ?_ _); refine blk_far ?_ NB270_271.out _; (with_reducible repeat first|refine blk_drewN ?_ _|refine blk_drew ?_|refine blk_alloc ?_ _); exact BK270.out))⟩; have n4_ : Aside0 (w134.heap[gb271]? = some (.cells #[.int .i64 t289, .int .i64 t290, .int .i64 t291, .int .i64 t292, .int .i64 t276, .int .i64 t277, .int .i64 t278, .int .i64 t279, .int .i64 t280, .int .i64 t281, .int .i64 t282, .int .i64 t283] 102 (0, 0))) := ⟨(by rw [hw]; exact (by (with_reducible repeat first|refine blk_drewN ?_ _|refine blk_drew ?_|refine blk_alloc ?_ _); refine blk_put (cs := #[.int .i64 t289, .int .i64 t290, .int .i64 t291, .int .i64 t275, .int .i64 t276, .int .i64 t277, .int .i64 t278, .int .i64 t279, .int .i64 t280, .int .i64 t281, .int .i64 t282, .int .i64 t283]) ?_ 3 _ rfl; (with_reducible repeat first|refine blk_drewN ?_ _|refine blk_drew ?_|refine blk_alloc ?_ _); refine blk_put (cs := #[.int .i64 t289, .int .i64 t290, .int .i64 t274, .int .i64 t275, .int .i64 t276, .int .i64 t277, .int .i64 t278, .int .i64 t279, .int .i64 t280, .int .i64 t281, .int .i64 t282, .int .i64 t283]) ?_ 2 _ rfl; (with_reducible repeat first|refine blk_drewN ?_ _|refine blk_drew ?_|refine blk_alloc ?_ _); refine blk_put (cs := #[.int .i64 t289, .int .i64 t273, .int .i64 t274, .int .i64 t275, .int .i64 t276, .int .i64 t277, .int .i64 t278, .int .i64 t279, .int .i64 t280, .int .i64 t281, .int .i64 t282, .int .i64 t283]) ?_ 1 _ rfl; (with_reducible repeat first|refine blk_drewN ?_ _|refine blk_drew ?_|refine blk_alloc ?_ _); refine blk_put (cs := #[.int .i64 t272, .int .i64 t273, .int .i64 t274, .int .i64 t275, .int .i64 t276, .int .i64 t277, .int .i64 t278, .int .i64 t279, .int .i64 t280, .int .i64 t281, .int .i64 t282, .int .i64 t283]) ?_ 0 _ rfl; (with_reducible repeat first|refine blk_drewN ?_ _|refine blk_drew ?_|refine blk_alloc ?_ _); exact BK271.out))⟩; have n5_ : Aside0 (Below w.heap.size w w134) := ⟨(by rw [hw]; exact (by repeat (first | (with_reducible first | exact HB.out | apply below_alloc | apply pw_below_drewN | apply below_drew1 | refine below_set ?_ GE268.out | refine below_set ?_ GE270.out | refine below_set ?_ GE271.out) | exact HB.out)))⟩; clear hw; clear HO_269000; clear HO_269001; clear BK268; clear BK270; clear BK271; clear HB; have HO_269000 := n0_; have HO_269001 := n1_; have BK268 := n2_; have BK270 := n3_; have BK271 := n4_; have HB := n5_; clear n0_ n1_ n2_ n3_ n4_ n5_))
           go_loopg [42] kj84 (fun kq v42 w' => ∃ (x42_4 : Int) (y_04_4 : Int) (y_05_4 : Int) (y_06_4 : Int) (y_07_4 : Int) (y_08_4 : Int) (y_09_4 : Int) (y_10_4 : Int) (y_11_4 : Int), v42 = .int .i64 x42_4 ∧ Aside0 (impl_spanOf.l1 kq x14_1 x8_84 l0 (l0.length : Int) x14_1 x42_4 x_00_1 x_01_1 t289 t290 t291 t292 y_04_4 y_05_4 y_06_4 y_07_4 y_08_4 y_09_4 y_10_4 y_11_4 = some (r1, r2)) ∧ Aside0 (kq ≤ kj84) ∧ Aside0 (Kd.R k102 102 w' w.heap.size (fun k_ => k_ ≠ gb271) u269000 x_00_1) ∧ Aside0 (Kd.R (Kd.int .i64) 3 w' w.heap.size (fun _ => True) u269001 x_01_1) ∧ Aside0 (w'.heap[gb268]? = some (.cells #[u269000, u269001] 81 (0, 0))) ∧ Aside0 (w'.heap[gb270]? = some (.cells #[.int .i64 ((rd_T70 l0 x14_1).f0), .int .i64 ((rd_T70 l0 x14_1).f1), .int .i64 ((rd_T70 l0 x14_1).f2), .int .i64 ((rd_T70 l0 x14_1).f3)] 70 (0, 0))) ∧ Aside0 (w'.heap[gb271]? = some (.cells #[.int .i64 t289, .int .i64 t290, .int .i64 t291, .int .i64 t292, .int .i64 y_04_4, .int .i64 y_05_4, .int .i64 y_06_4, .int .i64 y_07_4, .int .i64 y_08_4, .int .i64 y_09_4, .int .i64 y_10_4, .int .i64 y_11_4] 102 (0, 0))) ∧ Aside0 (Below w.heap.size w w'))
           case atStart => exact ⟨(0), (t276), (t277), (t278), (t279), (t280), (t281), (t282), (t283), (by first | rfl | (simp; done) | (simp [*]; done)), H', ⟨Nat.le_refl _⟩, ⟨by (with_reducible repeat (first | apply Kd.R_alloc | apply Kd.R_drewN | apply Kd.R_drew)); exact HO_269000.out⟩, ⟨by (with_reducible repeat (first | apply Kd.R_alloc | apply Kd.R_drewN | apply Kd.R_drew)); exact HO_269001.out⟩, ⟨by (with_reducible repeat first|refine blk_drewN ?_ _|refine blk_drew ?_|refine blk_alloc ?_ _); exact BK268.out⟩, ⟨by (with_reducible repeat first|refine blk_drewN ?_ _|refine blk_drew ?_|refine blk_alloc ?_ _); exact BK270.out⟩, ⟨by (with_reducible repeat first|refine blk_drewN ?_ _|refine blk_drew ?_|refine blk_alloc ?_ _); exact BK271.out⟩, ⟨by repeat (first | (with_reducible first | exact HB.out | apply below_alloc | apply pw_below_drewN | apply below_drew1 | refine below_set ?_ GE268.out | refine below_set ?_ GE270.out | refine below_set ?_ GE271.out) | exact HB.out)⟩⟩
           case round =>
            clear H'
            try clear c1
            try clear p2
            try clear q2
            try clear hx2
            try clear c3
            try clear c3b0
            try clear c4
            try clear c4b0
            try clear c5
            try clear c5b0
            try clear c6
            try clear p6
            try clear c8
            try clear c9
            try clear c10
            try clear c11
            try clear c12
            try clear c16
            try clear c17
            try clear p26
            try clear q26
            try clear hx26
            try clear c31
            try clear c32
            try clear c33
            try clear c35
            try clear c36
            try clear c37
            try clear c39
            try clear c40
            try clear c41
            try clear c43
            try clear c44
            try clear c45
            try clear c47
            try clear c48
            try clear c49
            try clear c51
            try clear c52
            try clear c53
            try clear c55
            try clear c56
            try clear c57
            try clear c59
            try clear c60
            try clear c61
            try clear p64
            try clear c65
            try clear c65b0
            try clear c66
            try clear c67
            try clear c86
            try clear c87
            try clear c93
            try clear c102
            try clear c103
            try clear c105
            try clear c107
            try clear c108
            try clear c110
            try clear c112
            try clear c113
            try clear c115
            try clear c117
            try clear c118
            try clear c120
            try clear c122
            try clear c123
            try clear c126
            try clear c127
            try clear hcz100_10
            try clear hcz101_11
            try clear hcz103_0 hcz103_1 hcz103_2 hcz103_3
            try clear hcz109_0
            try clear hcz10_1
            try clear hcz114_1
            try clear hcz119_2
            try clear hcz11_2
            try clear hcz124_3
            try clear hcz128_0 hcz128_1 hcz128_2 hcz128_3
            try clear hcz12_3
            try clear hcz130_0
            try clear hcz131_1
            try clear hcz132_2
            try clear hcz133_3
            try clear hcz14_0 hcz14_1 hcz14_2 hcz14_3
            try clear hcz18_0
            try clear hcz19_1
            try clear hcz20_2
            try clear hcz21_3
            try clear hcz22_4
            try clear hcz23_5
            try clear hcz24_6
            try clear hcz25_7
            try clear hcz26_8
            try clear hcz27_9
            try clear hcz28_10
            try clear hcz29_11
            try clear hcz34_4
            try clear hcz38_5
            try clear hcz42_6
            try clear hcz46_7
            try clear hcz50_8
            try clear hcz54_9
            try clear hcz58_10
            try clear hcz62_11
            try clear hcz68_0 hcz68_1 hcz68_10 hcz68_11 hcz68_2 hcz68_3 hcz68_4 hcz68_5 hcz68_6 hcz68_7 hcz68_8 hcz68_9
            try clear hcz70_0
            try clear hcz71_1
            try clear hcz72_2
            try clear hcz73_3
            try clear hcz74_4
            try clear hcz75_5
            try clear hcz76_6
            try clear hcz77_7
            try clear hcz78_8
            try clear hcz79_9
            try clear hcz80_10
            try clear hcz81_11
            try clear hcz83_0 hcz83_1 hcz83_2 hcz83_3
            try clear hcz88_0 hcz88_1 hcz88_10 hcz88_11 hcz88_2 hcz88_3 hcz88_4 hcz88_5 hcz88_6 hcz88_7 hcz88_8 hcz88_9
            try clear hcz90_0
            try clear hcz91_1
            try clear hcz92_2
            try clear hcz93_3
            try clear hcz94_4
            try clear hcz95_5
            try clear hcz96_6
            try clear hcz97_7
            try clear hcz98_8
            try clear hcz99_9
            try clear hcz9_0
            try clear hfz100_10
            try clear hfz101_11
            try clear hfz103_0 hfz103_1 hfz103_2 hfz103_3
            try clear hfz109_0
            try clear hfz10_1
            try clear hfz114_1
            try clear hfz119_2
            try clear hfz11_2
            try clear hfz124_3
            try clear hfz128_0 hfz128_1 hfz128_2 hfz128_3
            try clear hfz12_3
            try clear hfz130_0
            try clear hfz131_1
            try clear hfz132_2
            try clear hfz133_3
            try clear hfz14_0 hfz14_1 hfz14_2 hfz14_3
            try clear hfz18_0
            try clear hfz19_1
            try clear hfz20_2
            try clear hfz21_3
            try clear hfz22_4
            try clear hfz23_5
            try clear hfz24_6
            try clear hfz25_7
            try clear hfz26_8
            try clear hfz27_9
            try clear hfz28_10
            try clear hfz29_11
            try clear hfz34_4
            try clear hfz38_5
            try clear hfz42_6
            try clear hfz46_7
            try clear hfz50_8
            try clear hfz54_9
            try clear hfz58_10
            try clear hfz62_11
            try clear hfz68_0 hfz68_1 hfz68_10 hfz68_11 hfz68_2 hfz68_3 hfz68_4 hfz68_5 hfz68_6 hfz68_7 hfz68_8 hfz68_9
            try clear hfz70_0
            try clear hfz71_1
            try clear hfz72_2
            try clear hfz73_3
            try clear hfz74_4
            try clear hfz75_5
            try clear hfz76_6
            try clear hfz77_7
            try clear hfz78_8
            try clear hfz79_9
            try clear hfz80_10
            try clear hfz81_11
            try clear hfz83_0 hfz83_1 hfz83_2 hfz83_3
            try clear hfz88_0 hfz88_1 hfz88_10 hfz88_11 hfz88_2 hfz88_3 hfz88_4 hfz88_5 hfz88_6 hfz88_7 hfz88_8 hfz88_9
            try clear hfz90_0
            try clear hfz91_1
            try clear hfz92_2
            try clear hfz93_3
            try clear hfz94_4
            try clear hfz95_5
            try clear hfz96_6
            try clear hfz97_7
            try clear hfz98_8
            try clear hfz99_9
            try clear hfz9_0
            try clear hx269_0 hx269_1 hx269_2 hx269_3
            try clear p2
            try clear p26
            try clear p269
            try clear p6
            try clear p64
            try clear q2
            try clear q26
            try clear q269
            obtain ⟨x42_4, y_04_4, y_05_4, y_06_4, y_07_4, y_08_4, y_09_4, y_10_4, y_11_4, rfl, HA, HK4, HO_269000, HO_269001, BK268, BK270, BK271, HB⟩ := hrel
            cases gk with
            | zero => exact absurd HA.out (by simp [impl_spanOf.l1])
            | succ k4 =>
             have H := HA.out
             clear HA
             simp only [impl_spanOf.l1] at H
             by_cases c135 : x42_4 < 8
             ·rw [if_pos c135] at H
              have c135b0 : decide (x42_4 < 8) = true := decide_eq_true c135
              clear c135
              by_cases c136 : x42_4 = 0
              ·rw [if_pos c136] at H
               subst c136
               replace H : ((impl_element_times.f y_04_4 x8_84).bind fun t293 => (impl_spanOf.l1 k4 x14_1 x8_84 l0 (l0.length : Int) x14_1 (wrap64 ((0 : Int) + 1)) x_00_1 x_01_1 t289 t290 t291 t292 t293 y_05_4 y_06_4 y_07_4 y_08_4 y_09_4 y_10_4 y_11_4)) = some (r1, r2) := H
               replace H := Option.bind_eq_some_iff.mp H
               obtain ⟨t293, A1370, H⟩ := H
               replace H : (impl_spanOf.l1 k4 x14_1 x8_84 l0 (l0.length : Int) x14_1 (wrap64 ((0 : Int) + 1)) x_00_1 x_01_1 t289 t290 t291 t292 t293 y_05_4 y_06_4 y_07_4 y_08_4 y_09_4 y_10_4 y_11_4) = some (r1, r2) := H
               have A137 := Aside0.mk A1370
               clear A1370
               have H' := Aside0.mk H
               clear H
               have hnb138 := NB271_268.out
               have hnc138 := NB268_271.out
               have hnb139 := NB271_270.out
               have hnc139 := NB270_271.out
               have hcz140_4 : wr.cell? ⟨gb271, 4, none⟩ = some (.int .i64 y_04_4) := bA10 BK271 rfl
               have hfz140_4 := blk_frozen BK271.out 4
               go_wp2_with (first | ((with_reducible refine gate_callee (f := 104) rfl ?_); refine goesL_ (some 51) rfl rfl Try.func104 (by kernel_rfl) rfl #[.int .i64 y_04_4, .int .i64 x8_84] rfl (by (try simp only [List.map_toArray, List.map_cons, List.map_nil]); first | done | rfl | (simp only [List.length_drop, List.length_take]; rfl)) ?_; (with_reducible refine (impl_element_times.calls y_04_4 x8_84 t293 _ A137.out).mono ?_); rintro e w' ⟨rfl, ⟨nd, rfl⟩⟩; refine ⟨_, rfl, ?_⟩; (try (rw [drewN_self wr]; generalize hq_ : World.drewN wr _ = wr; have n0_ : Aside0 (Kd.R k102 102 wr w.heap.size (fun k_ => k_ ≠ gb271) u269000 x_00_1) := ⟨by rw [← hq_]; exact (by (with_reducible repeat (first | apply Kd.R_alloc | apply Kd.R_drewN | apply Kd.R_drew)); exact HO_269000.out)⟩; have n1_ : Aside0 (Kd.R (Kd.int .i64) 3 wr w.heap.size (fun _ => True) u269001 x_01_1) := ⟨by rw [← hq_]; exact (by (with_reducible repeat (first | apply Kd.R_alloc | apply Kd.R_drewN | apply Kd.R_drew)); exact HO_269001.out)⟩; have n2_ : Aside0 (wr.heap[gb268]? = some (.cells #[u269000, u269001] 81 (0, 0))) := ⟨by rw [← hq_]; exact (by (with_reducible repeat first|refine blk_drewN ?_ _|refine blk_drew ?_|refine blk_alloc ?_ _); exact BK268.out)⟩; have n3_ : Aside0 (wr.heap[gb270]? = some (.cells #[.int .i64 ((rd_T70 l0 x14_1).f0), .int .i64 ((rd_T70 l0 x14_1).f1), .int .i64 ((rd_T70 l0 x14_1).f2), .int .i64 ((rd_T70 l0 x14_1).f3)] 70 (0, 0))) := ⟨by rw [← hq_]; exact (by (with_reducible repeat first|refine blk_drewN ?_ _|refine blk_drew ?_|refine blk_alloc ?_ _); exact BK270.out)⟩; have n4_ : Aside0 (wr.heap[gb271]? = some (.cells #[.int .i64 t289, .int .i64 t290, .int .i64 t291, .int .i64 t292, .int .i64 y_04_4, .int .i64 y_05_4, .int .i64 y_06_4, .int .i64 y_07_4, .int .i64 y_08_4, .int .i64 y_09_4, .int .i64 y_10_4, .int .i64 y_11_4] 102 (0, 0))) := ⟨by rw [← hq_]; exact (by (with_reducible repeat first|refine blk_drewN ?_ _|refine blk_drew ?_|refine blk_alloc ?_ _); exact BK271.out)⟩; have n5_ : Aside0 (Below w.heap.size w wr) := ⟨by rw [← hq_]; exact (by repeat (first | (with_reducible first | exact HB.out | apply below_alloc | apply pw_below_drewN | apply below_drew1 | refine below_set ?_ GE268.out | refine below_set ?_ GE270.out | refine below_set ?_ GE271.out) | exact HB.out))⟩; clear HO_269000 HO_269001 BK268 BK270 BK271 HB hq_; have HO_269000 := n0_; have HO_269001 := n1_; have BK268 := n2_; have BK270 := n3_; have BK271 := n4_; have HB := n5_; clear n0_ n1_ n2_ n3_ n4_ n5_; have hcr271_4 : wr.cell? ⟨gb271, 4, none⟩ = some (.int .i64 y_04_4) := bA10 BK271 rfl; have hfr271_4 := blk_frozen BK271.out 4))))
               go_roundg k4
               case measure => have := HK1.out; have := HJ5.out; have := HJ84.out; have := HK4.out; omega
               case rel => exact ⟨(wrap64 ((0 : Int) + 1)), (t293), (y_05_4), (y_06_4), (y_07_4), (y_08_4), (y_09_4), (y_10_4), (y_11_4), (by first | rfl | (simp; done) | (simp [*]; done) | (simp; unfold wrap64; omega)), H', ⟨by have := HK1.out; have := HJ5.out; have := HJ84.out; have := HK4.out; omega⟩, ⟨by (with_reducible repeat (first | apply Kd.R_alloc | apply Kd.R_drewN | apply Kd.R_drew)); exact Kd.R_mono (Kd.R_far (p := ⟨gb271, 4, none⟩) (Kd.R_mono HO_269000.out (fun k_ hk => (⟨hk, hk⟩ : _ ∧ k_ ≠ gb271))) (fun _ hk => hk.2) (.int .i64 t293)) (fun _ hk => hk.1)⟩, ⟨by (with_reducible repeat (first | apply Kd.R_alloc | apply Kd.R_drewN | apply Kd.R_drew)); exact Kd.R_mono (Kd.R_far (p := ⟨gb271, 4, none⟩) (Kd.R_types HO_269001.out BK271.out (by decide)) (fun _ hk => hk.2) (.int .i64 t293)) (fun _ hk => trivial)⟩, ⟨by (with_reducible repeat first|refine blk_drewN ?_ _|refine blk_drew ?_|refine blk_alloc ?_ _); refine blk_far ?_ NB268_271.out _; (with_reducible repeat first|refine blk_drewN ?_ _|refine blk_drew ?_|refine blk_alloc ?_ _); exact BK268.out⟩, ⟨by (with_reducible repeat first|refine blk_drewN ?_ _|refine blk_drew ?_|refine blk_alloc ?_ _); refine blk_far ?_ NB270_271.out _; (with_reducible repeat first|refine blk_drewN ?_ _|refine blk_drew ?_|refine blk_alloc ?_ _); exact BK270.out⟩, ⟨by (with_reducible repeat first|refine blk_drewN ?_ _|refine blk_drew ?_|refine blk_alloc ?_ _); refine blk_put (cs := #[.int .i64 t289, .int .i64 t290, .int .i64 t291, .int .i64 t292, .int .i64 y_04_4, .int .i64 y_05_4, .int .i64 y_06_4, .int .i64 y_07_4, .int .i64 y_08_4, .int .i64 y_09_4, .int .i64 y_10_4, .int .i64 y_11_4]) ?_ 4 _ rfl; (with_reducible repeat first|refine blk_drewN ?_ _|refine blk_drew ?_|refine blk_alloc ?_ _); exact BK271.out⟩, ⟨by repeat (first | (with_reducible first | exact HB.out | apply below_alloc | apply pw_below_drewN | apply below_drew1 | refine below_set ?_ GE268.out | refine below_set ?_ GE270.out | refine below_set ?_ GE271.out) | exact HB.out)⟩⟩
              ·rw [if_neg c136] at H
               clear c136
               by_cases c142 : x42_4 = 1
               ·rw [if_pos c142] at H
                subst c142
                replace H : ((impl_element_times.f y_05_4 x8_84).bind fun t294 => (impl_spanOf.l1 k4 x14_1 x8_84 l0 (l0.length : Int) x14_1 (wrap64 ((1 : Int) + 1)) x_00_1 x_01_1 t289 t290 t291 t292 y_04_4 t294 y_06_4 y_07_4 y_08_4 y_09_4 y_10_4 y_11_4)) = some (r1, r2) := H
                replace H := Option.bind_eq_some_iff.mp H
                obtain ⟨t294, A1430, H⟩ := H
                replace H : (impl_spanOf.l1 k4 x14_1 x8_84 l0 (l0.length : Int) x14_1 (wrap64 ((1 : Int) + 1)) x_00_1 x_01_1 t289 t290 t291 t292 y_04_4 t294 y_06_4 y_07_4 y_08_4 y_09_4 y_10_4 y_11_4) = some (r1, r2) := H
                have A143 := Aside0.mk A1430
                clear A1430
                have H' := Aside0.mk H
                clear H
                have hnb144 := NB271_268.out
                have hnc144 := NB268_271.out
                have hnb145 := NB271_270.out
                have hnc145 := NB270_271.out
                have hcz146_5 : wr.cell? ⟨gb271, 5, none⟩ = some (.int .i64 y_05_4) := bA10 BK271 rfl
                have hfz146_5 := blk_frozen BK271.out 5
                go_wp2_with (first | ((with_reducible refine gate_callee (f := 104) rfl ?_); refine goesL_ (some 51) rfl rfl Try.func104 (by kernel_rfl) rfl #[.int .i64 y_05_4, .int .i64 x8_84] rfl (by (try simp only [List.map_toArray, List.map_cons, List.map_nil]); first | done | rfl | (simp only [List.length_drop, List.length_take]; rfl)) ?_; (with_reducible refine (impl_element_times.calls y_05_4 x8_84 t294 _ A143.out).mono ?_); rintro e w' ⟨rfl, ⟨nd, rfl⟩⟩; refine ⟨_, rfl, ?_⟩; (try (rw [drewN_self wr]; generalize hq_ : World.drewN wr _ = wr; have n0_ : Aside0 (Kd.R k102 102 wr w.heap.size (fun k_ => k_ ≠ gb271) u269000 x_00_1) := ⟨by rw [← hq_]; exact (by (with_reducible repeat (first | apply Kd.R_alloc | apply Kd.R_drewN | apply Kd.R_drew)); exact HO_269000.out)⟩; have n1_ : Aside0 (Kd.R (Kd.int .i64) 3 wr w.heap.size (fun _ => True) u269001 x_01_1) := ⟨by rw [← hq_]; exact (by (with_reducible repeat (first | apply Kd.R_alloc | apply Kd.R_drewN | apply Kd.R_drew)); exact HO_269001.out)⟩; have n2_ : Aside0 (wr.heap[gb268]? = some (.cells #[u269000, u269001] 81 (0, 0))) := ⟨by rw [← hq_]; exact (by (with_reducible repeat first|refine blk_drewN ?_ _|refine blk_drew ?_|refine blk_alloc ?_ _); exact BK268.out)⟩; have n3_ : Aside0 (wr.heap[gb270]? = some (.cells #[.int .i64 ((rd_T70 l0 x14_1).f0), .int .i64 ((rd_T70 l0 x14_1).f1), .int .i64 ((rd_T70 l0 x14_1).f2), .int .i64 ((rd_T70 l0 x14_1).f3)] 70 (0, 0))) := ⟨by rw [← hq_]; exact (by (with_reducible repeat first|refine blk_drewN ?_ _|refine blk_drew ?_|refine blk_alloc ?_ _); exact BK270.out)⟩; have n4_ : Aside0 (wr.heap[gb271]? = some (.cells #[.int .i64 t289, .int .i64 t290, .int .i64 t291, .int .i64 t292, .int .i64 y_04_4, .int .i64 y_05_4, .int .i64 y_06_4, .int .i64 y_07_4, .int .i64 y_08_4, .int .i64 y_09_4, .int .i64 y_10_4, .int .i64 y_11_4] 102 (0, 0))) := ⟨by rw [← hq_]; exact (by (with_reducible repeat first|refine blk_drewN ?_ _|refine blk_drew ?_|refine blk_alloc ?_ _); exact BK271.out)⟩; have n5_ : Aside0 (Below w.heap.size w wr) := ⟨by rw [← hq_]; exact (by repeat (first | (with_reducible first | exact HB.out | apply below_alloc | apply pw_below_drewN | apply below_drew1 | refine below_set ?_ GE268.out | refine below_set ?_ GE270.out | refine below_set ?_ GE271.out) | exact HB.out))⟩; clear HO_269000 HO_269001 BK268 BK270 BK271 HB hq_; have HO_269000 := n0_; have HO_269001 := n1_; have BK268 := n2_; have BK270 := n3_; have BK271 := n4_; have HB := n5_; clear n0_ n1_ n2_ n3_ n4_ n5_; have hcr271_5 : wr.cell? ⟨gb271, 5, none⟩ = some (.int .i64 y_05_4) := bA10 BK271 rfl; have hfr271_5 := blk_frozen BK271.out 5))))
                go_roundg k4
                case measure => have := HK1.out; have := HJ5.out; have := HJ84.out; have := HK4.out; omega
                case rel => exact ⟨(wrap64 ((1 : Int) + 1)), (y_04_4), (t294), (y_06_4), (y_07_4), (y_08_4), (y_09_4), (y_10_4), (y_11_4), (by first | rfl | (simp; done) | (simp [*]; done) | (simp; unfold wrap64; omega)), H', ⟨by have := HK1.out; have := HJ5.out; have := HJ84.out; have := HK4.out; omega⟩, ⟨by (with_reducible repeat (first | apply Kd.R_alloc | apply Kd.R_drewN | apply Kd.R_drew)); exact Kd.R_mono (Kd.R_far (p := ⟨gb271, 5, none⟩) (Kd.R_mono HO_269000.out (fun k_ hk => (⟨hk, hk⟩ : _ ∧ k_ ≠ gb271))) (fun _ hk => hk.2) (.int .i64 t294)) (fun _ hk => hk.1)⟩, ⟨by (with_reducible repeat (first | apply Kd.R_alloc | apply Kd.R_drewN | apply Kd.R_drew)); exact Kd.R_mono (Kd.R_far (p := ⟨gb271, 5, none⟩) (Kd.R_types HO_269001.out BK271.out (by decide)) (fun _ hk => hk.2) (.int .i64 t294)) (fun _ hk => trivial)⟩, ⟨by (with_reducible repeat first|refine blk_drewN ?_ _|refine blk_drew ?_|refine blk_alloc ?_ _); refine blk_far ?_ NB268_271.out _; (with_reducible repeat first|refine blk_drewN ?_ _|refine blk_drew ?_|refine blk_alloc ?_ _); exact BK268.out⟩, ⟨by (with_reducible repeat first|refine blk_drewN ?_ _|refine blk_drew ?_|refine blk_alloc ?_ _); refine blk_far ?_ NB270_271.out _; (with_reducible repeat first|refine blk_drewN ?_ _|refine blk_drew ?_|refine blk_alloc ?_ _); exact BK270.out⟩, ⟨by (with_reducible repeat first|refine blk_drewN ?_ _|refine blk_drew ?_|refine blk_alloc ?_ _); refine blk_put (cs := #[.int .i64 t289, .int .i64 t290, .int .i64 t291, .int .i64 t292, .int .i64 y_04_4, .int .i64 y_05_4, .int .i64 y_06_4, .int .i64 y_07_4, .int .i64 y_08_4, .int .i64 y_09_4, .int .i64 y_10_4, .int .i64 y_11_4]) ?_ 5 _ rfl; (with_reducible repeat first|refine blk_drewN ?_ _|refine blk_drew ?_|refine blk_alloc ?_ _); exact BK271.out⟩, ⟨by repeat (first | (with_reducible first | exact HB.out | apply below_alloc | apply pw_below_drewN | apply below_drew1 | refine below_set ?_ GE268.out | refine below_set ?_ GE270.out | refine below_set ?_ GE271.out) | exact HB.out)⟩⟩
               ·rw [if_neg c142] at H
                clear c142
                by_cases c148 : x42_4 = 2
                ·rw [if_pos c148] at H
                 subst c148
                 replace H : ((impl_element_times.f y_06_4 x8_84).bind fun t295 => (impl_spanOf.l1 k4 x14_1 x8_84 l0 (l0.length : Int) x14_1 (wrap64 ((2 : Int) + 1)) x_00_1 x_01_1 t289 t290 t291 t292 y_04_4 y_05_4 t295 y_07_4 y_08_4 y_09_4 y_10_4 y_11_4)) = some (r1, r2) := H
                 replace H := Option.bind_eq_some_iff.mp H
                 obtain ⟨t295, A1490, H⟩ := H
                 replace H : (impl_spanOf.l1 k4 x14_1 x8_84 l0 (l0.length : Int) x14_1 (wrap64 ((2 : Int) + 1)) x_00_1 x_01_1 t289 t290 t291 t292 y_04_4 y_05_4 t295 y_07_4 y_08_4 y_09_4 y_10_4 y_11_4) = some (r1, r2) := H
                 have A149 := Aside0.mk A1490
                 clear A1490
                 have H' := Aside0.mk H
                 clear H
                 have hnb150 := NB271_268.out
                 have hnc150 := NB268_271.out
                 have hnb151 := NB271_270.out
                 have hnc151 := NB270_271.out
                 have hcz152_6 : wr.cell? ⟨gb271, 6, none⟩ = some (.int .i64 y_06_4) := bA10 BK271 rfl
                 have hfz152_6 := blk_frozen BK271.out 6
                 go_wp2_with (first | ((with_reducible refine gate_callee (f := 104) rfl ?_); refine goesL_ (some 51) rfl rfl Try.func104 (by kernel_rfl) rfl #[.int .i64 y_06_4, .int .i64 x8_84] rfl (by (try simp only [List.map_toArray, List.map_cons, List.map_nil]); first | done | rfl | (simp only [List.length_drop, List.length_take]; rfl)) ?_; (with_reducible refine (impl_element_times.calls y_06_4 x8_84 t295 _ A149.out).mono ?_); rintro e w' ⟨rfl, ⟨nd, rfl⟩⟩; refine ⟨_, rfl, ?_⟩; (try (rw [drewN_self wr]; generalize hq_ : World.drewN wr _ = wr; have n0_ : Aside0 (Kd.R k102 102 wr w.heap.size (fun k_ => k_ ≠ gb271) u269000 x_00_1) := ⟨by rw [← hq_]; exact (by (with_reducible repeat (first | apply Kd.R_alloc | apply Kd.R_drewN | apply Kd.R_drew)); exact HO_269000.out)⟩; have n1_ : Aside0 (Kd.R (Kd.int .i64) 3 wr w.heap.size (fun _ => True) u269001 x_01_1) := ⟨by rw [← hq_]; exact (by (with_reducible repeat (first | apply Kd.R_alloc | apply Kd.R_drewN | apply Kd.R_drew)); exact HO_269001.out)⟩; have n2_ : Aside0 (wr.heap[gb268]? = some (.cells #[u269000, u269001] 81 (0, 0))) := ⟨by rw [← hq_]; exact (by (with_reducible repeat first|refine blk_drewN ?_ _|refine blk_drew ?_|refine blk_alloc ?_ _); exact BK268.out)⟩; have n3_ : Aside0 (wr.heap[gb270]? = some (.cells #[.int .i64 ((rd_T70 l0 x14_1).f0), .int .i64 ((rd_T70 l0 x14_1).f1), .int .i64 ((rd_T70 l0 x14_1).f2), .int .i64 ((rd_T70 l0 x14_1).f3)] 70 (0, 0))) := ⟨by rw [← hq_]; exact (by (with_reducible repeat first|refine blk_drewN ?_ _|refine blk_drew ?_|refine blk_alloc ?_ _); exact BK270.out)⟩; have n4_ : Aside0 (wr.heap[gb271]? = some (.cells #[.int .i64 t289, .int .i64 t290, .int .i64 t291, .int .i64 t292, .int .i64 y_04_4, .int .i64 y_05_4, .int .i64 y_06_4, .int .i64 y_07_4, .int .i64 y_08_4, .int .i64 y_09_4, .int .i64 y_10_4, .int .i64 y_11_4] 102 (0, 0))) := ⟨by rw [← hq_]; exact (by (with_reducible repeat first|refine blk_drewN ?_ _|refine blk_drew ?_|refine blk_alloc ?_ _); exact BK271.out)⟩; have n5_ : Aside0 (Below w.heap.size w wr) := ⟨by rw [← hq_]; exact (by repeat (first | (with_reducible first | exact HB.out | apply below_alloc | apply pw_below_drewN | apply below_drew1 | refine below_set ?_ GE268.out | refine below_set ?_ GE270.out | refine below_set ?_ GE271.out) | exact HB.out))⟩; clear HO_269000 HO_269001 BK268 BK270 BK271 HB hq_; have HO_269000 := n0_; have HO_269001 := n1_; have BK268 := n2_; have BK270 := n3_; have BK271 := n4_; have HB := n5_; clear n0_ n1_ n2_ n3_ n4_ n5_; have hcr271_6 : wr.cell? ⟨gb271, 6, none⟩ = some (.int .i64 y_06_4) := bA10 BK271 rfl; have hfr271_6 := blk_frozen BK271.out 6))))
                 go_roundg k4
                 case measure => have := HK1.out; have := HJ5.out; have := HJ84.out; have := HK4.out; omega
                 case rel => exact ⟨(wrap64 ((2 : Int) + 1)), (y_04_4), (y_05_4), (t295), (y_07_4), (y_08_4), (y_09_4), (y_10_4), (y_11_4), (by first | rfl | (simp; done) | (simp [*]; done) | (simp; unfold wrap64; omega)), H', ⟨by have := HK1.out; have := HJ5.out; have := HJ84.out; have := HK4.out; omega⟩, ⟨by (with_reducible repeat (first | apply Kd.R_alloc | apply Kd.R_drewN | apply Kd.R_drew)); exact Kd.R_mono (Kd.R_far (p := ⟨gb271, 6, none⟩) (Kd.R_mono HO_269000.out (fun k_ hk => (⟨hk, hk⟩ : _ ∧ k_ ≠ gb271))) (fun _ hk => hk.2) (.int .i64 t295)) (fun _ hk => hk.1)⟩, ⟨by (with_reducible repeat (first | apply Kd.R_alloc | apply Kd.R_drewN | apply Kd.R_drew)); exact Kd.R_mono (Kd.R_far (p := ⟨gb271, 6, none⟩) (Kd.R_types HO_269001.out BK271.out (by decide)) (fun _ hk => hk.2) (.int .i64 t295)) (fun _ hk => trivial)⟩, ⟨by (with_reducible repeat first|refine blk_drewN ?_ _|refine blk_drew ?_|refine blk_alloc ?_ _); refine blk_far ?_ NB268_271.out _; (with_reducible repeat first|refine blk_drewN ?_ _|refine blk_drew ?_|refine blk_alloc ?_ _); exact BK268.out⟩, ⟨by (with_reducible repeat first|refine blk_drewN ?_ _|refine blk_drew ?_|refine blk_alloc ?_ _); refine blk_far ?_ NB270_271.out _; (with_reducible repeat first|refine blk_drewN ?_ _|refine blk_drew ?_|refine blk_alloc ?_ _); exact BK270.out⟩, ⟨by (with_reducible repeat first|refine blk_drewN ?_ _|refine blk_drew ?_|refine blk_alloc ?_ _); refine blk_put (cs := #[.int .i64 t289, .int .i64 t290, .int .i64 t291, .int .i64 t292, .int .i64 y_04_4, .int .i64 y_05_4, .int .i64 y_06_4, .int .i64 y_07_4, .int .i64 y_08_4, .int .i64 y_09_4, .int .i64 y_10_4, .int .i64 y_11_4]) ?_ 6 _ rfl; (with_reducible repeat first|refine blk_drewN ?_ _|refine blk_drew ?_|refine blk_alloc ?_ _); exact BK271.out⟩, ⟨by repeat (first | (with_reducible first | exact HB.out | apply below_alloc | apply pw_below_drewN | apply below_drew1 | refine below_set ?_ GE268.out | refine below_set ?_ GE270.out | refine below_set ?_ GE271.out) | exact HB.out)⟩⟩
                ·rw [if_neg c148] at H
                 clear c148
                 by_cases c154 : x42_4 = 3
                 ·rw [if_pos c154] at H
                  subst c154
                  replace H : ((impl_element_times.f y_07_4 x8_84).bind fun t296 => (impl_spanOf.l1 k4 x14_1 x8_84 l0 (l0.length : Int) x14_1 (wrap64 ((3 : Int) + 1)) x_00_1 x_01_1 t289 t290 t291 t292 y_04_4 y_05_4 y_06_4 t296 y_08_4 y_09_4 y_10_4 y_11_4)) = some (r1, r2) := H
                  replace H := Option.bind_eq_some_iff.mp H
                  obtain ⟨t296, A1550, H⟩ := H
                  replace H : (impl_spanOf.l1 k4 x14_1 x8_84 l0 (l0.length : Int) x14_1 (wrap64 ((3 : Int) + 1)) x_00_1 x_01_1 t289 t290 t291 t292 y_04_4 y_05_4 y_06_4 t296 y_08_4 y_09_4 y_10_4 y_11_4) = some (r1, r2) := H
                  have A155 := Aside0.mk A1550
                  clear A1550
                  have H' := Aside0.mk H
                  clear H
                  have hnb156 := NB271_268.out
                  have hnc156 := NB268_271.out
                  have hnb157 := NB271_270.out
                  have hnc157 := NB270_271.out
                  have hcz158_7 : wr.cell? ⟨gb271, 7, none⟩ = some (.int .i64 y_07_4) := bA10 BK271 rfl
                  have hfz158_7 := blk_frozen BK271.out 7
                  go_wp2_with (first | ((with_reducible refine gate_callee (f := 104) rfl ?_); refine goesL_ (some 51) rfl rfl Try.func104 (by kernel_rfl) rfl #[.int .i64 y_07_4, .int .i64 x8_84] rfl (by (try simp only [List.map_toArray, List.map_cons, List.map_nil]); first | done | rfl | (simp only [List.length_drop, List.length_take]; rfl)) ?_; (with_reducible refine (impl_element_times.calls y_07_4 x8_84 t296 _ A155.out).mono ?_); rintro e w' ⟨rfl, ⟨nd, rfl⟩⟩; refine ⟨_, rfl, ?_⟩; (try (rw [drewN_self wr]; generalize hq_ : World.drewN wr _ = wr; have n0_ : Aside0 (Kd.R k102 102 wr w.heap.size (fun k_ => k_ ≠ gb271) u269000 x_00_1) := ⟨by rw [← hq_]; exact (by (with_reducible repeat (first | apply Kd.R_alloc | apply Kd.R_drewN | apply Kd.R_drew)); exact HO_269000.out)⟩; have n1_ : Aside0 (Kd.R (Kd.int .i64) 3 wr w.heap.size (fun _ => True) u269001 x_01_1) := ⟨by rw [← hq_]; exact (by (with_reducible repeat (first | apply Kd.R_alloc | apply Kd.R_drewN | apply Kd.R_drew)); exact HO_269001.out)⟩; have n2_ : Aside0 (wr.heap[gb268]? = some (.cells #[u269000, u269001] 81 (0, 0))) := ⟨by rw [← hq_]; exact (by (with_reducible repeat first|refine blk_drewN ?_ _|refine blk_drew ?_|refine blk_alloc ?_ _); exact BK268.out)⟩; have n3_ : Aside0 (wr.heap[gb270]? = some (.cells #[.int .i64 ((rd_T70 l0 x14_1).f0), .int .i64 ((rd_T70 l0 x14_1).f1), .int .i64 ((rd_T70 l0 x14_1).f2), .int .i64 ((rd_T70 l0 x14_1).f3)] 70 (0, 0))) := ⟨by rw [← hq_]; exact (by (with_reducible repeat first|refine blk_drewN ?_ _|refine blk_drew ?_|refine blk_alloc ?_ _); exact BK270.out)⟩; have n4_ : Aside0 (wr.heap[gb271]? = some (.cells #[.int .i64 t289, .int .i64 t290, .int .i64 t291, .int .i64 t292, .int .i64 y_04_4, .int .i64 y_05_4, .int .i64 y_06_4, .int .i64 y_07_4, .int .i64 y_08_4, .int .i64 y_09_4, .int .i64 y_10_4, .int .i64 y_11_4] 102 (0, 0))) := ⟨by rw [← hq_]; exact (by (with_reducible repeat first|refine blk_drewN ?_ _|refine blk_drew ?_|refine blk_alloc ?_ _); exact BK271.out)⟩; have n5_ : Aside0 (Below w.heap.size w wr) := ⟨by rw [← hq_]; exact (by repeat (first | (with_reducible first | exact HB.out | apply below_alloc | apply pw_below_drewN | apply below_drew1 | refine below_set ?_ GE268.out | refine below_set ?_ GE270.out | refine below_set ?_ GE271.out) | exact HB.out))⟩; clear HO_269000 HO_269001 BK268 BK270 BK271 HB hq_; have HO_269000 := n0_; have HO_269001 := n1_; have BK268 := n2_; have BK270 := n3_; have BK271 := n4_; have HB := n5_; clear n0_ n1_ n2_ n3_ n4_ n5_; have hcr271_7 : wr.cell? ⟨gb271, 7, none⟩ = some (.int .i64 y_07_4) := bA10 BK271 rfl; have hfr271_7 := blk_frozen BK271.out 7))))
                  go_roundg k4
                  case measure => have := HK1.out; have := HJ5.out; have := HJ84.out; have := HK4.out; omega
                  case rel => exact ⟨(wrap64 ((3 : Int) + 1)), (y_04_4), (y_05_4), (y_06_4), (t296), (y_08_4), (y_09_4), (y_10_4), (y_11_4), (by first | rfl | (simp; done) | (simp [*]; done) | (simp; unfold wrap64; omega)), H', ⟨by have := HK1.out; have := HJ5.out; have := HJ84.out; have := HK4.out; omega⟩, ⟨by (with_reducible repeat (first | apply Kd.R_alloc | apply Kd.R_drewN | apply Kd.R_drew)); exact Kd.R_mono (Kd.R_far (p := ⟨gb271, 7, none⟩) (Kd.R_mono HO_269000.out (fun k_ hk => (⟨hk, hk⟩ : _ ∧ k_ ≠ gb271))) (fun _ hk => hk.2) (.int .i64 t296)) (fun _ hk => hk.1)⟩, ⟨by (with_reducible repeat (first | apply Kd.R_alloc | apply Kd.R_drewN | apply Kd.R_drew)); exact Kd.R_mono (Kd.R_far (p := ⟨gb271, 7, none⟩) (Kd.R_types HO_269001.out BK271.out (by decide)) (fun _ hk => hk.2) (.int .i64 t296)) (fun _ hk => trivial)⟩, ⟨by (with_reducible repeat first|refine blk_drewN ?_ _|refine blk_drew ?_|refine blk_alloc ?_ _); refine blk_far ?_ NB268_271.out _; (with_reducible repeat first|refine blk_drewN ?_ _|refine blk_drew ?_|refine blk_alloc ?_ _); exact BK268.out⟩, ⟨by (with_reducible repeat first|refine blk_drewN ?_ _|refine blk_drew ?_|refine blk_alloc ?_ _); refine blk_far ?_ NB270_271.out _; (with_reducible repeat first|refine blk_drewN ?_ _|refine blk_drew ?_|refine blk_alloc ?_ _); exact BK270.out⟩, ⟨by (with_reducible repeat first|refine blk_drewN ?_ _|refine blk_drew ?_|refine blk_alloc ?_ _); refine blk_put (cs := #[.int .i64 t289, .int .i64 t290, .int .i64 t291, .int .i64 t292, .int .i64 y_04_4, .int .i64 y_05_4, .int .i64 y_06_4, .int .i64 y_07_4, .int .i64 y_08_4, .int .i64 y_09_4, .int .i64 y_10_4, .int .i64 y_11_4]) ?_ 7 _ rfl; (with_reducible repeat first|refine blk_drewN ?_ _|refine blk_drew ?_|refine blk_alloc ?_ _); exact BK271.out⟩, ⟨by repeat (first | (with_reducible first | exact HB.out | apply below_alloc | apply pw_below_drewN | apply below_drew1 | refine below_set ?_ GE268.out | refine below_set ?_ GE270.out | refine below_set ?_ GE271.out) | exact HB.out)⟩⟩
                 ·rw [if_neg c154] at H
                  clear c154
                  by_cases c160 : x42_4 = 4
                  ·rw [if_pos c160] at H
                   subst c160
                   replace H : ((impl_element_times.f y_08_4 x8_84).bind fun t297 => (impl_spanOf.l1 k4 x14_1 x8_84 l0 (l0.length : Int) x14_1 (wrap64 ((4 : Int) + 1)) x_00_1 x_01_1 t289 t290 t291 t292 y_04_4 y_05_4 y_06_4 y_07_4 t297 y_09_4 y_10_4 y_11_4)) = some (r1, r2) := H
                   replace H := Option.bind_eq_some_iff.mp H
                   obtain ⟨t297, A1610, H⟩ := H
                   replace H : (impl_spanOf.l1 k4 x14_1 x8_84 l0 (l0.length : Int) x14_1 (wrap64 ((4 : Int) + 1)) x_00_1 x_01_1 t289 t290 t291 t292 y_04_4 y_05_4 y_06_4 y_07_4 t297 y_09_4 y_10_4 y_11_4) = some (r1, r2) := H
                   have A161 := Aside0.mk A1610
                   clear A1610
                   have H' := Aside0.mk H
                   clear H
                   have hnb162 := NB271_268.out
                   have hnc162 := NB268_271.out
                   have hnb163 := NB271_270.out
                   have hnc163 := NB270_271.out
                   have hcz164_8 : wr.cell? ⟨gb271, 8, none⟩ = some (.int .i64 y_08_4) := bA10 BK271 rfl
                   have hfz164_8 := blk_frozen BK271.out 8
                   go_wp2_with (first | ((with_reducible refine gate_callee (f := 104) rfl ?_); refine goesL_ (some 51) rfl rfl Try.func104 (by kernel_rfl) rfl #[.int .i64 y_08_4, .int .i64 x8_84] rfl (by (try simp only [List.map_toArray, List.map_cons, List.map_nil]); first | done | rfl | (simp only [List.length_drop, List.length_take]; rfl)) ?_; (with_reducible refine (impl_element_times.calls y_08_4 x8_84 t297 _ A161.out).mono ?_); rintro e w' ⟨rfl, ⟨nd, rfl⟩⟩; refine ⟨_, rfl, ?_⟩; (try (rw [drewN_self wr]; generalize hq_ : World.drewN wr _ = wr; have n0_ : Aside0 (Kd.R k102 102 wr w.heap.size (fun k_ => k_ ≠ gb271) u269000 x_00_1) := ⟨by rw [← hq_]; exact (by (with_reducible repeat (first | apply Kd.R_alloc | apply Kd.R_drewN | apply Kd.R_drew)); exact HO_269000.out)⟩; have n1_ : Aside0 (Kd.R (Kd.int .i64) 3 wr w.heap.size (fun _ => True) u269001 x_01_1) := ⟨by rw [← hq_]; exact (by (with_reducible repeat (first | apply Kd.R_alloc | apply Kd.R_drewN | apply Kd.R_drew)); exact HO_269001.out)⟩; have n2_ : Aside0 (wr.heap[gb268]? = some (.cells #[u269000, u269001] 81 (0, 0))) := ⟨by rw [← hq_]; exact (by (with_reducible repeat first|refine blk_drewN ?_ _|refine blk_drew ?_|refine blk_alloc ?_ _); exact BK268.out)⟩; have n3_ : Aside0 (wr.heap[gb270]? = some (.cells #[.int .i64 ((rd_T70 l0 x14_1).f0), .int .i64 ((rd_T70 l0 x14_1).f1), .int .i64 ((rd_T70 l0 x14_1).f2), .int .i64 ((rd_T70 l0 x14_1).f3)] 70 (0, 0))) := ⟨by rw [← hq_]; exact (by (with_reducible repeat first|refine blk_drewN ?_ _|refine blk_drew ?_|refine blk_alloc ?_ _); exact BK270.out)⟩; have n4_ : Aside0 (wr.heap[gb271]? = some (.cells #[.int .i64 t289, .int .i64 t290, .int .i64 t291, .int .i64 t292, .int .i64 y_04_4, .int .i64 y_05_4, .int .i64 y_06_4, .int .i64 y_07_4, .int .i64 y_08_4, .int .i64 y_09_4, .int .i64 y_10_4, .int .i64 y_11_4] 102 (0, 0))) := ⟨by rw [← hq_]; exact (by (with_reducible repeat first|refine blk_drewN ?_ _|refine blk_drew ?_|refine blk_alloc ?_ _); exact BK271.out)⟩; have n5_ : Aside0 (Below w.heap.size w wr) := ⟨by rw [← hq_]; exact (by repeat (first | (with_reducible first | exact HB.out | apply below_alloc | apply pw_below_drewN | apply below_drew1 | refine below_set ?_ GE268.out | refine below_set ?_ GE270.out | refine below_set ?_ GE271.out) | exact HB.out))⟩; clear HO_269000 HO_269001 BK268 BK270 BK271 HB hq_; have HO_269000 := n0_; have HO_269001 := n1_; have BK268 := n2_; have BK270 := n3_; have BK271 := n4_; have HB := n5_; clear n0_ n1_ n2_ n3_ n4_ n5_; have hcr271_8 : wr.cell? ⟨gb271, 8, none⟩ = some (.int .i64 y_08_4) := bA10 BK271 rfl; have hfr271_8 := blk_frozen BK271.out 8))))
                   go_roundg k4
                   case measure => have := HK1.out; have := HJ5.out; have := HJ84.out; have := HK4.out; omega
                   case rel => exact ⟨(wrap64 ((4 : Int) + 1)), (y_04_4), (y_05_4), (y_06_4), (y_07_4), (t297), (y_09_4), (y_10_4), (y_11_4), (by first | rfl | (simp; done) | (simp [*]; done) | (simp; unfold wrap64; omega)), H', ⟨by have := HK1.out; have := HJ5.out; have := HJ84.out; have := HK4.out; omega⟩, ⟨by (with_reducible repeat (first | apply Kd.R_alloc | apply Kd.R_drewN | apply Kd.R_drew)); exact Kd.R_mono (Kd.R_far (p := ⟨gb271, 8, none⟩) (Kd.R_mono HO_269000.out (fun k_ hk => (⟨hk, hk⟩ : _ ∧ k_ ≠ gb271))) (fun _ hk => hk.2) (.int .i64 t297)) (fun _ hk => hk.1)⟩, ⟨by (with_reducible repeat (first | apply Kd.R_alloc | apply Kd.R_drewN | apply Kd.R_drew)); exact Kd.R_mono (Kd.R_far (p := ⟨gb271, 8, none⟩) (Kd.R_types HO_269001.out BK271.out (by decide)) (fun _ hk => hk.2) (.int .i64 t297)) (fun _ hk => trivial)⟩, ⟨by (with_reducible repeat first|refine blk_drewN ?_ _|refine blk_drew ?_|refine blk_alloc ?_ _); refine blk_far ?_ NB268_271.out _; (with_reducible repeat first|refine blk_drewN ?_ _|refine blk_drew ?_|refine blk_alloc ?_ _); exact BK268.out⟩, ⟨by (with_reducible repeat first|refine blk_drewN ?_ _|refine blk_drew ?_|refine blk_alloc ?_ _); refine blk_far ?_ NB270_271.out _; (with_reducible repeat first|refine blk_drewN ?_ _|refine blk_drew ?_|refine blk_alloc ?_ _); exact BK270.out⟩, ⟨by (with_reducible repeat first|refine blk_drewN ?_ _|refine blk_drew ?_|refine blk_alloc ?_ _); refine blk_put (cs := #[.int .i64 t289, .int .i64 t290, .int .i64 t291, .int .i64 t292, .int .i64 y_04_4, .int .i64 y_05_4, .int .i64 y_06_4, .int .i64 y_07_4, .int .i64 y_08_4, .int .i64 y_09_4, .int .i64 y_10_4, .int .i64 y_11_4]) ?_ 8 _ rfl; (with_reducible repeat first|refine blk_drewN ?_ _|refine blk_drew ?_|refine blk_alloc ?_ _); exact BK271.out⟩, ⟨by repeat (first | (with_reducible first | exact HB.out | apply below_alloc | apply pw_below_drewN | apply below_drew1 | refine below_set ?_ GE268.out | refine below_set ?_ GE270.out | refine below_set ?_ GE271.out) | exact HB.out)⟩⟩
                  ·rw [if_neg c160] at H
                   clear c160
                   by_cases c166 : x42_4 = 5
                   ·rw [if_pos c166] at H
                    subst c166
                    replace H : ((impl_element_times.f y_09_4 x8_84).bind fun t298 => (impl_spanOf.l1 k4 x14_1 x8_84 l0 (l0.length : Int) x14_1 (wrap64 ((5 : Int) + 1)) x_00_1 x_01_1 t289 t290 t291 t292 y_04_4 y_05_4 y_06_4 y_07_4 y_08_4 t298 y_10_4 y_11_4)) = some (r1, r2) := H
                    replace H := Option.bind_eq_some_iff.mp H
                    obtain ⟨t298, A1670, H⟩ := H
                    replace H : (impl_spanOf.l1 k4 x14_1 x8_84 l0 (l0.length : Int) x14_1 (wrap64 ((5 : Int) + 1)) x_00_1 x_01_1 t289 t290 t291 t292 y_04_4 y_05_4 y_06_4 y_07_4 y_08_4 t298 y_10_4 y_11_4) = some (r1, r2) := H
                    have A167 := Aside0.mk A1670
                    clear A1670
                    have H' := Aside0.mk H
                    clear H
                    have hnb168 := NB271_268.out
                    have hnc168 := NB268_271.out
                    have hnb169 := NB271_270.out
                    have hnc169 := NB270_271.out
                    have hcz170_9 : wr.cell? ⟨gb271, 9, none⟩ = some (.int .i64 y_09_4) := bA10 BK271 rfl
                    have hfz170_9 := blk_frozen BK271.out 9
                    go_wp2_with (first | ((with_reducible refine gate_callee (f := 104) rfl ?_); refine goesL_ (some 51) rfl rfl Try.func104 (by kernel_rfl) rfl #[.int .i64 y_09_4, .int .i64 x8_84] rfl (by (try simp only [List.map_toArray, List.map_cons, List.map_nil]); first | done | rfl | (simp only [List.length_drop, List.length_take]; rfl)) ?_; (with_reducible refine (impl_element_times.calls y_09_4 x8_84 t298 _ A167.out).mono ?_); rintro e w' ⟨rfl, ⟨nd, rfl⟩⟩; refine ⟨_, rfl, ?_⟩; (try (rw [drewN_self wr]; generalize hq_ : World.drewN wr _ = wr; have n0_ : Aside0 (Kd.R k102 102 wr w.heap.size (fun k_ => k_ ≠ gb271) u269000 x_00_1) := ⟨by rw [← hq_]; exact (by (with_reducible repeat (first | apply Kd.R_alloc | apply Kd.R_drewN | apply Kd.R_drew)); exact HO_269000.out)⟩; have n1_ : Aside0 (Kd.R (Kd.int .i64) 3 wr w.heap.size (fun _ => True) u269001 x_01_1) := ⟨by rw [← hq_]; exact (by (with_reducible repeat (first | apply Kd.R_alloc | apply Kd.R_drewN | apply Kd.R_drew)); exact HO_269001.out)⟩; have n2_ : Aside0 (wr.heap[gb268]? = some (.cells #[u269000, u269001] 81 (0, 0))) := ⟨by rw [← hq_]; exact (by (with_reducible repeat first|refine blk_drewN ?_ _|refine blk_drew ?_|refine blk_alloc ?_ _); exact BK268.out)⟩; have n3_ : Aside0 (wr.heap[gb270]? = some (.cells #[.int .i64 ((rd_T70 l0 x14_1).f0), .int .i64 ((rd_T70 l0 x14_1).f1), .int .i64 ((rd_T70 l0 x14_1).f2), .int .i64 ((rd_T70 l0 x14_1).f3)] 70 (0, 0))) := ⟨by rw [← hq_]; exact (by (with_reducible repeat first|refine blk_drewN ?_ _|refine blk_drew ?_|refine blk_alloc ?_ _); exact BK270.out)⟩; have n4_ : Aside0 (wr.heap[gb271]? = some (.cells #[.int .i64 t289, .int .i64 t290, .int .i64 t291, .int .i64 t292, .int .i64 y_04_4, .int .i64 y_05_4, .int .i64 y_06_4, .int .i64 y_07_4, .int .i64 y_08_4, .int .i64 y_09_4, .int .i64 y_10_4, .int .i64 y_11_4] 102 (0, 0))) := ⟨by rw [← hq_]; exact (by (with_reducible repeat first|refine blk_drewN ?_ _|refine blk_drew ?_|refine blk_alloc ?_ _); exact BK271.out)⟩; have n5_ : Aside0 (Below w.heap.size w wr) := ⟨by rw [← hq_]; exact (by repeat (first | (with_reducible first | exact HB.out | apply below_alloc | apply pw_below_drewN | apply below_drew1 | refine below_set ?_ GE268.out | refine below_set ?_ GE270.out | refine below_set ?_ GE271.out) | exact HB.out))⟩; clear HO_269000 HO_269001 BK268 BK270 BK271 HB hq_; have HO_269000 := n0_; have HO_269001 := n1_; have BK268 := n2_; have BK270 := n3_; have BK271 := n4_; have HB := n5_; clear n0_ n1_ n2_ n3_ n4_ n5_; have hcr271_9 : wr.cell? ⟨gb271, 9, none⟩ = some (.int .i64 y_09_4) := bA10 BK271 rfl; have hfr271_9 := blk_frozen BK271.out 9))))
                    go_roundg k4
                    case measure => have := HK1.out; have := HJ5.out; have := HJ84.out; have := HK4.out; omega
                    case rel => exact ⟨(wrap64 ((5 : Int) + 1)), (y_04_4), (y_05_4), (y_06_4), (y_07_4), (y_08_4), (t298), (y_10_4), (y_11_4), (by first | rfl | (simp; done) | (simp [*]; done) | (simp; unfold wrap64; omega)), H', ⟨by have := HK1.out; have := HJ5.out; have := HJ84.out; have := HK4.out; omega⟩, ⟨by (with_reducible repeat (first | apply Kd.R_alloc | apply Kd.R_drewN | apply Kd.R_drew)); exact Kd.R_mono (Kd.R_far (p := ⟨gb271, 9, none⟩) (Kd.R_mono HO_269000.out (fun k_ hk => (⟨hk, hk⟩ : _ ∧ k_ ≠ gb271))) (fun _ hk => hk.2) (.int .i64 t298)) (fun _ hk => hk.1)⟩, ⟨by (with_reducible repeat (first | apply Kd.R_alloc | apply Kd.R_drewN | apply Kd.R_drew)); exact Kd.R_mono (Kd.R_far (p := ⟨gb271, 9, none⟩) (Kd.R_types HO_269001.out BK271.out (by decide)) (fun _ hk => hk.2) (.int .i64 t298)) (fun _ hk => trivial)⟩, ⟨by (with_reducible repeat first|refine blk_drewN ?_ _|refine blk_drew ?_|refine blk_alloc ?_ _); refine blk_far ?_ NB268_271.out _; (with_reducible repeat first|refine blk_drewN ?_ _|refine blk_drew ?_|refine blk_alloc ?_ _); exact BK268.out⟩, ⟨by (with_reducible repeat first|refine blk_drewN ?_ _|refine blk_drew ?_|refine blk_alloc ?_ _); refine blk_far ?_ NB270_271.out _; (with_reducible repeat first|refine blk_drewN ?_ _|refine blk_drew ?_|refine blk_alloc ?_ _); exact BK270.out⟩, ⟨by (with_reducible repeat first|refine blk_drewN ?_ _|refine blk_drew ?_|refine blk_alloc ?_ _); refine blk_put (cs := #[.int .i64 t289, .int .i64 t290, .int .i64 t291, .int .i64 t292, .int .i64 y_04_4, .int .i64 y_05_4, .int .i64 y_06_4, .int .i64 y_07_4, .int .i64 y_08_4, .int .i64 y_09_4, .int .i64 y_10_4, .int .i64 y_11_4]) ?_ 9 _ rfl; (with_reducible repeat first|refine blk_drewN ?_ _|refine blk_drew ?_|refine blk_alloc ?_ _); exact BK271.out⟩, ⟨by repeat (first | (with_reducible first | exact HB.out | apply below_alloc | apply pw_below_drewN | apply below_drew1 | refine below_set ?_ GE268.out | refine below_set ?_ GE270.out | refine below_set ?_ GE271.out) | exact HB.out)⟩⟩
                   ·rw [if_neg c166] at H
                    clear c166
                    by_cases c172 : x42_4 = 6
                    ·rw [if_pos c172] at H
                     subst c172
                     replace H : ((impl_element_times.f y_10_4 x8_84).bind fun t299 => (impl_spanOf.l1 k4 x14_1 x8_84 l0 (l0.length : Int) x14_1 (wrap64 ((6 : Int) + 1)) x_00_1 x_01_1 t289 t290 t291 t292 y_04_4 y_05_4 y_06_4 y_07_4 y_08_4 y_09_4 t299 y_11_4)) = some (r1, r2) := H
                     replace H := Option.bind_eq_some_iff.mp H
                     obtain ⟨t299, A1730, H⟩ := H
                     replace H : (impl_spanOf.l1 k4 x14_1 x8_84 l0 (l0.length : Int) x14_1 (wrap64 ((6 : Int) + 1)) x_00_1 x_01_1 t289 t290 t291 t292 y_04_4 y_05_4 y_06_4 y_07_4 y_08_4 y_09_4 t299 y_11_4) = some (r1, r2) := H
                     have A173 := Aside0.mk A1730
                     clear A1730
                     have H' := Aside0.mk H
                     clear H
                     have hnb174 := NB271_268.out
                     have hnc174 := NB268_271.out
                     have hnb175 := NB271_270.out
                     have hnc175 := NB270_271.out
                     have hcz176_10 : wr.cell? ⟨gb271, 10, none⟩ = some (.int .i64 y_10_4) := bA10 BK271 rfl
                     have hfz176_10 := blk_frozen BK271.out 10
                     go_wp2_with (first | ((with_reducible refine gate_callee (f := 104) rfl ?_); refine goesL_ (some 51) rfl rfl Try.func104 (by kernel_rfl) rfl #[.int .i64 y_10_4, .int .i64 x8_84] rfl (by (try simp only [List.map_toArray, List.map_cons, List.map_nil]); first | done | rfl | (simp only [List.length_drop, List.length_take]; rfl)) ?_; (with_reducible refine (impl_element_times.calls y_10_4 x8_84 t299 _ A173.out).mono ?_); rintro e w' ⟨rfl, ⟨nd, rfl⟩⟩; refine ⟨_, rfl, ?_⟩; (try (rw [drewN_self wr]; generalize hq_ : World.drewN wr _ = wr; have n0_ : Aside0 (Kd.R k102 102 wr w.heap.size (fun k_ => k_ ≠ gb271) u269000 x_00_1) := ⟨by rw [← hq_]; exact (by (with_reducible repeat (first | apply Kd.R_alloc | apply Kd.R_drewN | apply Kd.R_drew)); exact HO_269000.out)⟩; have n1_ : Aside0 (Kd.R (Kd.int .i64) 3 wr w.heap.size (fun _ => True) u269001 x_01_1) := ⟨by rw [← hq_]; exact (by (with_reducible repeat (first | apply Kd.R_alloc | apply Kd.R_drewN | apply Kd.R_drew)); exact HO_269001.out)⟩; have n2_ : Aside0 (wr.heap[gb268]? = some (.cells #[u269000, u269001] 81 (0, 0))) := ⟨by rw [← hq_]; exact (by (with_reducible repeat first|refine blk_drewN ?_ _|refine blk_drew ?_|refine blk_alloc ?_ _); exact BK268.out)⟩; have n3_ : Aside0 (wr.heap[gb270]? = some (.cells #[.int .i64 ((rd_T70 l0 x14_1).f0), .int .i64 ((rd_T70 l0 x14_1).f1), .int .i64 ((rd_T70 l0 x14_1).f2), .int .i64 ((rd_T70 l0 x14_1).f3)] 70 (0, 0))) := ⟨by rw [← hq_]; exact (by (with_reducible repeat first|refine blk_drewN ?_ _|refine blk_drew ?_|refine blk_alloc ?_ _); exact BK270.out)⟩; have n4_ : Aside0 (wr.heap[gb271]? = some (.cells #[.int .i64 t289, .int .i64 t290, .int .i64 t291, .int .i64 t292, .int .i64 y_04_4, .int .i64 y_05_4, .int .i64 y_06_4, .int .i64 y_07_4, .int .i64 y_08_4, .int .i64 y_09_4, .int .i64 y_10_4, .int .i64 y_11_4] 102 (0, 0))) := ⟨by rw [← hq_]; exact (by (with_reducible repeat first|refine blk_drewN ?_ _|refine blk_drew ?_|refine blk_alloc ?_ _); exact BK271.out)⟩; have n5_ : Aside0 (Below w.heap.size w wr) := ⟨by rw [← hq_]; exact (by repeat (first | (with_reducible first | exact HB.out | apply below_alloc | apply pw_below_drewN | apply below_drew1 | refine below_set ?_ GE268.out | refine below_set ?_ GE270.out | refine below_set ?_ GE271.out) | exact HB.out))⟩; clear HO_269000 HO_269001 BK268 BK270 BK271 HB hq_; have HO_269000 := n0_; have HO_269001 := n1_; have BK268 := n2_; have BK270 := n3_; have BK271 := n4_; have HB := n5_; clear n0_ n1_ n2_ n3_ n4_ n5_; have hcr271_10 : wr.cell? ⟨gb271, 10, none⟩ = some (.int .i64 y_10_4) := bA10 BK271 rfl; have hfr271_10 := blk_frozen BK271.out 10))))
                     go_roundg k4
                     case measure => have := HK1.out; have := HJ5.out; have := HJ84.out; have := HK4.out; omega
                     case rel => exact ⟨(wrap64 ((6 : Int) + 1)), (y_04_4), (y_05_4), (y_06_4), (y_07_4), (y_08_4), (y_09_4), (t299), (y_11_4), (by first | rfl | (simp; done) | (simp [*]; done) | (simp; unfold wrap64; omega)), H', ⟨by have := HK1.out; have := HJ5.out; have := HJ84.out; have := HK4.out; omega⟩, ⟨by (with_reducible repeat (first | apply Kd.R_alloc | apply Kd.R_drewN | apply Kd.R_drew)); exact Kd.R_mono (Kd.R_far (p := ⟨gb271, 10, none⟩) (Kd.R_mono HO_269000.out (fun k_ hk => (⟨hk, hk⟩ : _ ∧ k_ ≠ gb271))) (fun _ hk => hk.2) (.int .i64 t299)) (fun _ hk => hk.1)⟩, ⟨by (with_reducible repeat (first | apply Kd.R_alloc | apply Kd.R_drewN | apply Kd.R_drew)); exact Kd.R_mono (Kd.R_far (p := ⟨gb271, 10, none⟩) (Kd.R_types HO_269001.out BK271.out (by decide)) (fun _ hk => hk.2) (.int .i64 t299)) (fun _ hk => trivial)⟩, ⟨by (with_reducible repeat first|refine blk_drewN ?_ _|refine blk_drew ?_|refine blk_alloc ?_ _); refine blk_far ?_ NB268_271.out _; (with_reducible repeat first|refine blk_drewN ?_ _|refine blk_drew ?_|refine blk_alloc ?_ _); exact BK268.out⟩, ⟨by (with_reducible repeat first|refine blk_drewN ?_ _|refine blk_drew ?_|refine blk_alloc ?_ _); refine blk_far ?_ NB270_271.out _; (with_reducible repeat first|refine blk_drewN ?_ _|refine blk_drew ?_|refine blk_alloc ?_ _); exact BK270.out⟩, ⟨by (with_reducible repeat first|refine blk_drewN ?_ _|refine blk_drew ?_|refine blk_alloc ?_ _); refine blk_put (cs := #[.int .i64 t289, .int .i64 t290, .int .i64 t291, .int .i64 t292, .int .i64 y_04_4, .int .i64 y_05_4, .int .i64 y_06_4, .int .i64 y_07_4, .int .i64 y_08_4, .int .i64 y_09_4, .int .i64 y_10_4, .int .i64 y_11_4]) ?_ 10 _ rfl; (with_reducible repeat first|refine blk_drewN ?_ _|refine blk_drew ?_|refine blk_alloc ?_ _); exact BK271.out⟩, ⟨by repeat (first | (with_reducible first | exact HB.out | apply below_alloc | apply pw_below_drewN | apply below_drew1 | refine below_set ?_ GE268.out | refine below_set ?_ GE270.out | refine below_set ?_ GE271.out) | exact HB.out)⟩⟩
                    ·rw [if_neg c172] at H
                     clear c172
                     by_cases c178 : x42_4 = 7
                     ·rw [if_pos c178] at H
                      subst c178
                      replace H : ((impl_element_times.f y_11_4 x8_84).bind fun t300 => (impl_spanOf.l1 k4 x14_1 x8_84 l0 (l0.length : Int) x14_1 (wrap64 ((7 : Int) + 1)) x_00_1 x_01_1 t289 t290 t291 t292 y_04_4 y_05_4 y_06_4 y_07_4 y_08_4 y_09_4 y_10_4 t300)) = some (r1, r2) := H
                      replace H := Option.bind_eq_some_iff.mp H
                      obtain ⟨t300, A1790, H⟩ := H
                      replace H : (impl_spanOf.l1 k4 x14_1 x8_84 l0 (l0.length : Int) x14_1 (wrap64 ((7 : Int) + 1)) x_00_1 x_01_1 t289 t290 t291 t292 y_04_4 y_05_4 y_06_4 y_07_4 y_08_4 y_09_4 y_10_4 t300) = some (r1, r2) := H
                      have A179 := Aside0.mk A1790
                      clear A1790
                      have H' := Aside0.mk H
                      clear H
                      have hnb180 := NB271_268.out
                      have hnc180 := NB268_271.out
                      have hnb181 := NB271_270.out
                      have hnc181 := NB270_271.out
                      have hcz182_11 : wr.cell? ⟨gb271, 11, none⟩ = some (.int .i64 y_11_4) := bA10 BK271 rfl
                      have hfz182_11 := blk_frozen BK271.out 11
                      go_wp2_with (first | ((with_reducible refine gate_callee (f := 104) rfl ?_); refine goesL_ (some 51) rfl rfl Try.func104 (by kernel_rfl) rfl #[.int .i64 y_11_4, .int .i64 x8_84] rfl (by (try simp only [List.map_toArray, List.map_cons, List.map_nil]); first | done | rfl | (simp only [List.length_drop, List.length_take]; rfl)) ?_; (with_reducible refine (impl_element_times.calls y_11_4 x8_84 t300 _ A179.out).mono ?_); rintro e w' ⟨rfl, ⟨nd, rfl⟩⟩; refine ⟨_, rfl, ?_⟩; (try (rw [drewN_self wr]; generalize hq_ : World.drewN wr _ = wr; have n0_ : Aside0 (Kd.R k102 102 wr w.heap.size (fun k_ => k_ ≠ gb271) u269000 x_00_1) := ⟨by rw [← hq_]; exact (by (with_reducible repeat (first | apply Kd.R_alloc | apply Kd.R_drewN | apply Kd.R_drew)); exact HO_269000.out)⟩; have n1_ : Aside0 (Kd.R (Kd.int .i64) 3 wr w.heap.size (fun _ => True) u269001 x_01_1) := ⟨by rw [← hq_]; exact (by (with_reducible repeat (first | apply Kd.R_alloc | apply Kd.R_drewN | apply Kd.R_drew)); exact HO_269001.out)⟩; have n2_ : Aside0 (wr.heap[gb268]? = some (.cells #[u269000, u269001] 81 (0, 0))) := ⟨by rw [← hq_]; exact (by (with_reducible repeat first|refine blk_drewN ?_ _|refine blk_drew ?_|refine blk_alloc ?_ _); exact BK268.out)⟩; have n3_ : Aside0 (wr.heap[gb270]? = some (.cells #[.int .i64 ((rd_T70 l0 x14_1).f0), .int .i64 ((rd_T70 l0 x14_1).f1), .int .i64 ((rd_T70 l0 x14_1).f2), .int .i64 ((rd_T70 l0 x14_1).f3)] 70 (0, 0))) := ⟨by rw [← hq_]; exact (by (with_reducible repeat first|refine blk_drewN ?_ _|refine blk_drew ?_|refine blk_alloc ?_ _); exact BK270.out)⟩; have n4_ : Aside0 (wr.heap[gb271]? = some (.cells #[.int .i64 t289, .int .i64 t290, .int .i64 t291, .int .i64 t292, .int .i64 y_04_4, .int .i64 y_05_4, .int .i64 y_06_4, .int .i64 y_07_4, .int .i64 y_08_4, .int .i64 y_09_4, .int .i64 y_10_4, .int .i64 y_11_4] 102 (0, 0))) := ⟨by rw [← hq_]; exact (by (with_reducible repeat first|refine blk_drewN ?_ _|refine blk_drew ?_|refine blk_alloc ?_ _); exact BK271.out)⟩; have n5_ : Aside0 (Below w.heap.size w wr) := ⟨by rw [← hq_]; exact (by repeat (first | (with_reducible first | exact HB.out | apply below_alloc | apply pw_below_drewN | apply below_drew1 | refine below_set ?_ GE268.out | refine below_set ?_ GE270.out | refine below_set ?_ GE271.out) | exact HB.out))⟩; clear HO_269000 HO_269001 BK268 BK270 BK271 HB hq_; have HO_269000 := n0_; have HO_269001 := n1_; have BK268 := n2_; have BK270 := n3_; have BK271 := n4_; have HB := n5_; clear n0_ n1_ n2_ n3_ n4_ n5_; have hcr271_11 : wr.cell? ⟨gb271, 11, none⟩ = some (.int .i64 y_11_4) := bA10 BK271 rfl; have hfr271_11 := blk_frozen BK271.out 11))))
                      go_roundg k4
                      case measure => have := HK1.out; have := HJ5.out; have := HJ84.out; have := HK4.out; omega
                      case rel => exact ⟨(wrap64 ((7 : Int) + 1)), (y_04_4), (y_05_4), (y_06_4), (y_07_4), (y_08_4), (y_09_4), (y_10_4), (t300), (by first | rfl | (simp; done) | (simp [*]; done) | (simp; unfold wrap64; omega)), H', ⟨by have := HK1.out; have := HJ5.out; have := HJ84.out; have := HK4.out; omega⟩, ⟨by (with_reducible repeat (first | apply Kd.R_alloc | apply Kd.R_drewN | apply Kd.R_drew)); exact Kd.R_mono (Kd.R_far (p := ⟨gb271, 11, none⟩) (Kd.R_mono HO_269000.out (fun k_ hk => (⟨hk, hk⟩ : _ ∧ k_ ≠ gb271))) (fun _ hk => hk.2) (.int .i64 t300)) (fun _ hk => hk.1)⟩, ⟨by (with_reducible repeat (first | apply Kd.R_alloc | apply Kd.R_drewN | apply Kd.R_drew)); exact Kd.R_mono (Kd.R_far (p := ⟨gb271, 11, none⟩) (Kd.R_types HO_269001.out BK271.out (by decide)) (fun _ hk => hk.2) (.int .i64 t300)) (fun _ hk => trivial)⟩, ⟨by (with_reducible repeat first|refine blk_drewN ?_ _|refine blk_drew ?_|refine blk_alloc ?_ _); refine blk_far ?_ NB268_271.out _; (with_reducible repeat first|refine blk_drewN ?_ _|refine blk_drew ?_|refine blk_alloc ?_ _); exact BK268.out⟩, ⟨by (with_reducible repeat first|refine blk_drewN ?_ _|refine blk_drew ?_|refine blk_alloc ?_ _); refine blk_far ?_ NB270_271.out _; (with_reducible repeat first|refine blk_drewN ?_ _|refine blk_drew ?_|refine blk_alloc ?_ _); exact BK270.out⟩, ⟨by (with_reducible repeat first|refine blk_drewN ?_ _|refine blk_drew ?_|refine blk_alloc ?_ _); refine blk_put (cs := #[.int .i64 t289, .int .i64 t290, .int .i64 t291, .int .i64 t292, .int .i64 y_04_4, .int .i64 y_05_4, .int .i64 y_06_4, .int .i64 y_07_4, .int .i64 y_08_4, .int .i64 y_09_4, .int .i64 y_10_4, .int .i64 y_11_4]) ?_ 11 _ rfl; (with_reducible repeat first|refine blk_drewN ?_ _|refine blk_drew ?_|refine blk_alloc ?_ _); exact BK271.out⟩, ⟨by repeat (first | (with_reducible first | exact HB.out | apply below_alloc | apply pw_below_drewN | apply below_drew1 | refine below_set ?_ GE268.out | refine below_set ?_ GE270.out | refine below_set ?_ GE271.out) | exact HB.out)⟩⟩
                     ·rw [if_neg c178] at H
                      clear c178
                      exact absurd H (by simp)
             ·rw [if_neg c135] at H
              have c135b0 : decide (x42_4 < 8) = false := decide_eq_false c135
              clear c135
              by_cases c184 : x_00_1.length < 1466015503701
              ·rw [if_pos c184] at H
               have LMc184 := Aside0.mk c184
               clear c184
               obtain ⟨y301, hy301⟩ : ∃ y_ : List (S102), y_ = (x_00_1 ++ [(⟨(⟨t289, t290, t291, t292⟩ : S70), (⟨y_04_4, y_05_4, y_06_4, y_07_4, y_08_4, y_09_4, y_10_4, y_11_4⟩ : S100)⟩ : S102)]) := ⟨_, rfl⟩
               replace H : (if x_01_1.length < 17592186044416 then (impl_spanOf.l0 k4 l0 (l0.length : Int) (wrap64 (x14_1 + 1)) y301 (x_01_1 ++ [x14_1])) else (none)) = some (r1, r2) := by first | (rw [hy301]; with_reducible exact H) | (have H2_ := (Option.bind_some _ _).symm.trans H; rw [hy301]; with_reducible exact H2_) | (have H2_ := (Option.bind_some _ _).symm.trans H; with_reducible exact H2_) | with_reducible exact H | (rw [hy301]; exact H) | exact H
               have Ny301 := Aside0.mk hy301
               clear hy301
               by_cases c185 : x_01_1.length < 17592186044416
               ·rw [if_pos c185] at H
                have LMc185 := Aside0.mk c185
                clear c185
                obtain ⟨y304, hy304⟩ : ∃ y_ : List Int, y_ = (x_01_1 ++ [x14_1]) := ⟨_, rfl⟩
                replace H : (impl_spanOf.l0 k4 l0 (l0.length : Int) (wrap64 (x14_1 + 1)) y301 y304) = some (r1, r2) := by first | (rw [hy304]; with_reducible exact H) | (have H2_ := (Option.bind_some _ _).symm.trans H; rw [hy304]; with_reducible exact H2_) | (have H2_ := (Option.bind_some _ _).symm.trans H; with_reducible exact H2_) | with_reducible exact H | (rw [hy304]; exact H) | exact H
                have Ny304 := Aside0.mk hy304
                clear hy304
                have H' := Aside0.mk H
                clear H
                try go_wp2
                have n0_ := Aside0.mk (Kd.R_drew HO_269000.out)
                have n1_ := Aside0.mk (Kd.R_drew HO_269001.out)
                have n2_ := Aside0.mk (blk_drew BK268.out)
                have n3_ := Aside0.mk (blk_drew BK270.out)
                have n4_ := Aside0.mk (blk_drew BK271.out)
                have n5_ := Aside0.mk (below_drew1 HB.out)
                clear HO_269000
                clear HO_269001
                clear BK268
                clear BK270
                clear BK271
                clear HB
                have HO_269000 := n0_
                have HO_269001 := n1_
                have BK268 := n2_
                have BK270 := n3_
                have BK271 := n4_
                have HB := n5_
                clear n0_ n1_ n2_ n3_ n4_ n5_
                refine start_ (n := 11) (S := fun w' => w'.cell? ⟨gb268, 0, none⟩ = some (u269000) ∧ w'.cell? ⟨gb271, 0, none⟩ = some (.int .i64 t289) ∧ w'.cell? ⟨gb271, 1, none⟩ = some (.int .i64 t290) ∧ w'.cell? ⟨gb271, 2, none⟩ = some (.int .i64 t291) ∧ w'.cell? ⟨gb271, 3, none⟩ = some (.int .i64 t292) ∧ w'.cell? ⟨gb271, 4, none⟩ = some (.int .i64 y_04_4) ∧ w'.cell? ⟨gb271, 5, none⟩ = some (.int .i64 y_05_4) ∧ w'.cell? ⟨gb271, 6, none⟩ = some (.int .i64 y_06_4) ∧ w'.cell? ⟨gb271, 7, none⟩ = some (.int .i64 y_07_4) ∧ w'.cell? ⟨gb271, 8, none⟩ = some (.int .i64 y_08_4) ∧ w'.cell? ⟨gb271, 9, none⟩ = some (.int .i64 y_09_4) ∧ w'.cell? ⟨gb271, 10, none⟩ = some (.int .i64 y_10_4) ∧ w'.cell? ⟨gb271, 11, none⟩ = some (.int .i64 y_11_4)) (ds := [10]) #[false, false, false, false, false, false, false, false, false, false, false] (by kernel_rfl) rfl rfl ⟨bA10 BK268 rfl, bA10 BK271 rfl, bA10 BK271 rfl, bA10 BK271 rfl, bA10 BK271 rfl, bA10 BK271 rfl, bA10 BK271 rfl, bA10 BK271 rfl, bA10 BK271 rfl, bA10 BK271 rfl, bA10 BK271 rfl, bA10 BK271 rfl, bA10 BK271 rfl⟩ (fun hHeld => ?_); refine with_tabW impl_spanOf.tab17 impl_spanOf.bits17 (fun HT_ HW_ => ?_)
                generalize wr.drew = w186 at HO_269000 HO_269001 BK268 BK270 BK271 HB hHeld ⊢
                refine pure_ (i := 0) (N := some 55) (v := ?_) (a' := ?_) #[true, false, false, false, false, false, false, false, false, false, false] rfl rfl (any_of HT_.out (by kernel_rfl)) (fun _ _ _ h => h) (Or.inl ⟨by rfl, ?_⟩) ?_ ?_
                rotate_left
                ·intro w'
                 go_simp
                 with_reducible rfl
                rotate_left
                ·simp only [Act.put, List.setIfInBounds_toArray, List.set_cons_zero, List.set_cons_succ, i64_w, i32_w]
                 rfl
                refine pure_ (i := 1) (N := some 56) (v := ?_) (a' := ?_) #[true, true, false, false, false, false, false, false, false, false, false] rfl rfl (any_of HT_.out (by kernel_rfl)) (fun _ _ _ h => h) (Or.inl ⟨by rfl, ?_⟩) ?_ ?_
                rotate_left
                ·intro w'
                 go_simp
                 with_reducible rfl
                rotate_left
                ·simp only [Act.put, List.setIfInBounds_toArray, List.set_cons_zero, List.set_cons_succ, i64_w, i32_w]
                 rfl
                refine pure_ (i := 2) (N := some 57) (v := ?_) (a' := ?_) #[true, true, true, false, false, false, false, false, false, false, false] rfl rfl (any_of HT_.out (by kernel_rfl)) (fun _ _ _ h => h) (Or.inl ⟨by rfl, ?_⟩) ?_ ?_
                rotate_left
                ·intro w'
                 go_simp
                 with_reducible rfl
                rotate_left
                ·simp only [Act.put, List.setIfInBounds_toArray, List.set_cons_zero, List.set_cons_succ, i64_w, i32_w]
                 rfl
                refine pure_ (i := 3) (N := some 58) (v := ?_) (a' := ?_) #[true, true, true, true, false, false, false, false, false, false, false] rfl rfl (any_of HT_.out (by kernel_rfl)) (fun _ _ _ h => h) (Or.inl ⟨by rfl, ?_⟩) ?_ ?_
                rotate_left
                ·intro w'
                 go_simp
                 with_reducible rfl
                rotate_left
                ·simp only [Act.put, List.setIfInBounds_toArray, List.set_cons_zero, List.set_cons_succ, i64_w, i32_w]
                 rfl
                refine take_ (i := 4) (N := some 59) (v := ?_) (a' := ?_) #[true, true, true, true, true, false, false, false, false, false, false] rfl rfl (take_ofW HT_.out HW_.out (by kernel_rfl)) (fun _ _ _ h => h) (Or.inl ⟨by rfl, ?_⟩) hHeld ?_ ?_
                rotate_left
                ·rintro w' ⟨s0, s1, s2, s3, s4, s5, s6, s7, s8, s9, s10, s11, s12⟩
                 go_simp
                 with_reducible rfl
                rotate_left
                ·simp only [Act.put, List.setIfInBounds_toArray, List.set_cons_zero, List.set_cons_succ, i64_w, i32_w]
                 rfl
                refine take_ (i := 5) (N := some 60) (v := ?_) (a' := ?_) #[true, true, true, true, true, true, false, false, false, false, false] rfl rfl (take_ofW HT_.out HW_.out (by kernel_rfl)) (fun _ _ _ h => h) (Or.inl ⟨by rfl, ?_⟩) hHeld ?_ ?_
                rotate_left
                ·rintro w' ⟨s0, s1, s2, s3, s4, s5, s6, s7, s8, s9, s10, s11, s12⟩
                 go_simp
                 with_reducible rfl
                rotate_left
                ·simp only [Act.put, List.setIfInBounds_toArray, List.set_cons_zero, List.set_cons_succ, i64_w, i32_w]
                 rfl
                refine one_ (i := 6) (N := some 61) #[true, true, true, true, true, true, true, false, false, false, false] rfl rfl (one_of HT_.out (by kernel_rfl)) (by decide) (fun K hK => ?_)
                refine value_ (w1 := ?_) (v := ?_) (by rfl) rfl ?_ ?_
                rotate_left 2
                ·go_simp
                 constructor
                 ·rfl
                 ·rfl
                refine hK.out _ _ ⟨(blk_cell (blk_alloc BK268.out _) 0).trans rfl, (blk_cell (blk_alloc BK271.out _) 0).trans rfl, (blk_cell (blk_alloc BK271.out _) 1).trans rfl, (blk_cell (blk_alloc BK271.out _) 2).trans rfl, (blk_cell (blk_alloc BK271.out _) 3).trans rfl, (blk_cell (blk_alloc BK271.out _) 4).trans rfl, (blk_cell (blk_alloc BK271.out _) 5).trans rfl, (blk_cell (blk_alloc BK271.out _) 6).trans rfl, (blk_cell (blk_alloc BK271.out _) 7).trans rfl, (blk_cell (blk_alloc BK271.out _) 8).trans rfl, (blk_cell (blk_alloc BK271.out _) 9).trans rfl, (blk_cell (blk_alloc BK271.out _) 10).trans rfl, (blk_cell (blk_alloc BK271.out _) 11).trans rfl⟩ (fun hHeld => ?_)
                clear hK K
                refine norm_ (a' := ?_) ?_ ?_
                rotate_left
                ·show Act.put _ (some 61) _ = _
                 simp only [Act.put, List.setIfInBounds_toArray, List.set_cons_zero, List.set_cons_succ, i64_w, i32_w]
                 rfl
                refine one_ (i := 7) (N := some 62) #[true, true, true, true, true, true, true, true, false, false, false] rfl rfl (one_of HT_.out (by kernel_rfl)) (by decide) (fun K hK => ?_)
                refine Kd.R_append_step k102 (w0 := w) w.heap.size (by rfl) (.tmp 59) (.tmp 61) 79 102 (.agg #[(.int .i64 0), (.int .i64 0), (.int .i64 0), (.int .i64 0), (.int .i64 0), (.int .i64 0), (.int .i64 0), (.int .i64 0), (.int .i64 0), (.int .i64 0), (.int .i64 0), (.int .i64 0)]) 96 rfl Try.underlying79 info102 rfl (by decide) (by omega) u269000 x_00_1 (⟨(⟨t289, t290, t291, t292⟩ : S70), (⟨y_04_4, y_05_4, y_06_4, y_07_4, y_08_4, y_09_4, y_10_4, y_11_4⟩ : S100)⟩ : S102) [.int .i64 t289, .int .i64 t290, .int .i64 t291, .int .i64 t292, .int .i64 y_04_4, .int .i64 y_05_4, .int .i64 y_06_4, .int .i64 y_07_4, .int .i64 y_08_4, .int .i64 y_09_4, .int .i64 y_10_4, .int .i64 y_11_4] (fun k_ => k_ ≠ gb271) (fun _ => False) rfl rfl ?aP (fun _ hk => hk.elim) ?aF ?aO ?aB ?aS ?aL ?_
                (case aP => exact k102_mkM _ _ _ (⟨(⟨t289, t290, t291, t292⟩ : S70), (⟨y_04_4, y_05_4, y_06_4, y_07_4, y_08_4, y_09_4, y_10_4, y_11_4⟩ : S100)⟩ : S102))
                (case aB => exact (by repeat (first | (with_reducible first | exact HB.out | apply below_alloc | apply pw_below_drewN | apply below_drew1 | refine below_set ?_ GE268.out | refine below_set ?_ GE270.out | refine below_set ?_ GE271.out) | exact HB.out)))
                (case aF => exact (fun k_ hk => Kd.freshB (g := gb271) (o := .cells #[.int .i64 t289, .int .i64 t290, .int .i64 t291, .int .i64 t292, .int .i64 y_04_4, .int .i64 y_05_4, .int .i64 y_06_4, .int .i64 y_07_4, .int .i64 y_08_4, .int .i64 y_09_4, .int .i64 y_10_4, .int .i64 y_11_4] 102 (0, 0)) (by (with_reducible repeat first|refine blk_drewN ?_ _|refine blk_drew ?_|refine blk_alloc ?_ _); exact BK271.out) k_ hk))
                (case aO => exact (by (with_reducible repeat (first | apply Kd.R_alloc | apply Kd.R_drewN | apply Kd.R_drew)); exact HO_269000.out))
                (case aS => exact (below_size (by repeat (first | (with_reducible first | exact HB.out | apply below_alloc | apply pw_below_drewN | apply below_drew1 | refine below_set ?_ GE268.out | refine below_set ?_ GE270.out | refine below_set ?_ GE271.out) | exact HB.out))))
                (case aL => have := LMc184.out; omega)
                intro v302 w187 ho hb hg hat
                rw [← Ny301.out] at ho
                have n0_ := Aside0.mk (Kd.R_over' (by (with_reducible repeat (first | apply Kd.R_alloc | apply Kd.R_drewN | apply Kd.R_drew)); exact HO_269001.out) (Kd.R_typed (by (with_reducible repeat (first | apply Kd.R_alloc | apply Kd.R_drewN | apply Kd.R_drew)); exact HO_269000.out)) (by decide) hg)
                have n1_ := Aside0.mk (blk_grown (g := gb268) (o := .cells #[u269000, u269001] 81 (0, 0)) (by (with_reducible repeat first|refine blk_drewN ?_ _|refine blk_drew ?_|refine blk_alloc ?_ _); exact BK268.out) hg (Kd.R_ne HO_269000.out BK268.out (by decide)))
                have n2_ := Aside0.mk (blk_grown (g := gb270) (o := .cells #[.int .i64 ((rd_T70 l0 x14_1).f0), .int .i64 ((rd_T70 l0 x14_1).f1), .int .i64 ((rd_T70 l0 x14_1).f2), .int .i64 ((rd_T70 l0 x14_1).f3)] 70 (0, 0)) (by (with_reducible repeat first|refine blk_drewN ?_ _|refine blk_drew ?_|refine blk_alloc ?_ _); exact BK270.out) hg (Kd.R_ne HO_269000.out BK270.out (by decide)))
                have n3_ := Aside0.mk (blk_grown (g := gb271) (o := .cells #[.int .i64 t289, .int .i64 t290, .int .i64 t291, .int .i64 t292, .int .i64 y_04_4, .int .i64 y_05_4, .int .i64 y_06_4, .int .i64 y_07_4, .int .i64 y_08_4, .int .i64 y_09_4, .int .i64 y_10_4, .int .i64 y_11_4] 102 (0, 0)) (by (with_reducible repeat first|refine blk_drewN ?_ _|refine blk_drew ?_|refine blk_alloc ?_ _); exact BK271.out) hg (Kd.R_away HO_269000.out (fun _ hk => hk)))
                have n4_ := Aside0.mk (hb)
                have n5_ := Aside0.mk (ho)
                clear HO_269001
                clear BK268
                clear BK270
                clear BK271
                clear HB
                clear HO_269000
                have HO_269001 := n0_
                have BK268 := n1_
                have BK270 := n2_
                have BK271 := n3_
                have HB := n4_
                have HO303 := n5_
                clear n0_ n1_ n2_ n3_ n4_ n5_
                clear ho hb hg hat
                obtain ⟨Ao188, co188, eo188⟩ := Kd.R_slice HO303.out
                (first | subst eo188 | (injection eo188 with f1_ f2_ f3_; have f4_ := f1_.symm; have f5_ := f3_.symm; clear f1_ f2_ f3_; subst f4_; subst f5_))
                refine hK.out _ _ ⟨bA10 BK268 rfl, bA10 BK271 rfl, bA10 BK271 rfl, bA10 BK271 rfl, bA10 BK271 rfl, bA10 BK271 rfl, bA10 BK271 rfl, bA10 BK271 rfl, bA10 BK271 rfl, bA10 BK271 rfl, bA10 BK271 rfl, bA10 BK271 rfl, bA10 BK271 rfl⟩ (fun hHeld => ?_)
                clear hK K
                refine norm_ (a' := ?_) ?_ ?_
                rotate_left
                ·show Act.put _ (some 62) _ = _
                 simp only [Act.put, List.setIfInBounds_toArray, List.set_cons_zero, List.set_cons_succ, i64_w, i32_w]
                 rfl
                refine pure_ (i := 8) (N := some 63) (v := ?_) (a' := ?_) #[true, true, true, true, true, true, true, true, true, false, false] rfl rfl (any_of HT_.out (by kernel_rfl)) (fun _ _ _ h => h) (Or.inl ⟨by rfl, ?_⟩) ?_ ?_
                rotate_left
                ·intro w'
                 go_simp
                 with_reducible rfl
                rotate_left
                ·simp only [Act.put, List.setIfInBounds_toArray, List.set_cons_zero, List.set_cons_succ, i64_w, i32_w]
                 rfl
                refine pure_ (i := 9) (N := some 64) (v := ?_) (a' := ?_) #[true, true, true, true, true, true, true, true, true, true, false] rfl rfl (any_of HT_.out (by kernel_rfl)) (fun _ _ _ h => h) (Or.inl ⟨by rfl, ?_⟩) ?_ ?_
                rotate_left
                ·intro w'
                 go_simp
                 with_reducible rfl
                rotate_left
                ·simp only [Act.put, List.setIfInBounds_toArray, List.set_cons_zero, List.set_cons_succ, i64_w, i32_w]
                 rfl
                refine last_ (i := 10) (N := none) #[true, true, true, true, true, true, true, true, true, true, true] rfl rfl (one_of HT_.out (by kernel_rfl)) (by decide) (fun K hK => ?_)
                have hs189 : w187.cell? ⟨gb268, 0, none⟩ = some (u269000) := bA10 BK268 rfl
                have hfs189 := blk_frozen BK268.out 0
                have hns189_1 := NB270_268.out
                have hns189_2 := NB271_268.out
                have hms189_1 := NB268_270.out
                have hms189_2 := NB268_271.out
                refine skip_ (w1 := ?_) (by rfl) rfl ?_ ?_
                rotate_left
                ·go_simp
                 rfl
                refine hK.out _ _ ?_
                clear hK K
                refine done_ (done_of HT_.out (by kernel_rfl)) ?_
                have hnb190 := NB268_270.out
                have hnc190 := NB270_268.out
                have hnb191 := NB268_271.out
                have hnc191 := NB271_268.out
                have hcz192_1 : w187.cell? ⟨gb268, 1, none⟩ = some (u269001) := bA10 BK268 rfl
                have hfz192_1 := blk_frozen BK268.out 1
                try go_wp2_with (first | ((with_reducible refine gate_builtin (b := .append) (xs := #[.tmp 69, .tmp 71]) rfl ?_); at_builtin; refine Kd.R_append (Kd.int .i64) (w0 := w) w.heap.size rfl (.tmp 69) (.tmp 71) 28 3 (.int .i64 0) 8 rfl Try.underlying28 info3 rfl (by decide) (by omega) u269001 x_01_1 x14_1 [.int .i64 x14_1] (fun _ => True) (fun _ => False) rfl (by first | (go_simp; done) | (go_simp; rfl)) ?aP (fun _ hk => hk.elim) ?aF ?aO ?aB ?aS ?aL ?_; (case aP => exact rfl); (case aB => exact (by repeat (first | (with_reducible first | exact HB.out | apply below_alloc | apply pw_below_drewN | apply below_drew1 | refine below_set ?_ GE268.out | refine below_set ?_ GE270.out | refine below_set ?_ GE271.out) | exact HB.out))); (case aF => exact (fun _ _ => trivial)); (case aO => exact (by (with_reducible repeat (first | apply Kd.R_alloc | apply Kd.R_drewN | apply Kd.R_drew)); exact Kd.R_mono (Kd.R_far (p := ⟨gb268, 0, none⟩) (Kd.R_types HO_269001.out BK268.out (by decide)) (fun _ hk => hk.2) (.slice Ao188 y301.length co188)) (fun _ hk => trivial))); (case aS => exact (below_size (by repeat (first | (with_reducible first | exact HB.out | apply below_alloc | apply pw_below_drewN | apply below_drew1 | refine below_set ?_ GE268.out | refine below_set ?_ GE270.out | refine below_set ?_ GE271.out) | exact HB.out)))); (case aL => have := LMc185.out; omega); intro v305 w193 ho hb hg hat; rw [← Ny304.out] at ho; have n0_ := Aside0.mk (blk_grown (g := gb268) (o := .cells #[.slice Ao188 y301.length co188, u269001] 81 (0, 0)) (by (with_reducible repeat first|refine blk_drewN ?_ _|refine blk_drew ?_|refine blk_alloc ?_ _); refine blk_put (cs := #[u269000, u269001]) ?_ 0 _ rfl; (with_reducible repeat first|refine blk_drewN ?_ _|refine blk_drew ?_|refine blk_alloc ?_ _); exact BK268.out) hg (Kd.R_ne HO_269001.out BK268.out (by decide))); have n1_ := Aside0.mk (blk_grown (g := gb270) (o := .cells #[.int .i64 ((rd_T70 l0 x14_1).f0), .int .i64 ((rd_T70 l0 x14_1).f1), .int .i64 ((rd_T70 l0 x14_1).f2), .int .i64 ((rd_T70 l0 x14_1).f3)] 70 (0, 0)) (by (with_reducible repeat first|refine blk_drewN ?_ _|refine blk_drew ?_|refine blk_alloc ?_ _); refine blk_far ?_ NB270_268.out _; (with_reducible repeat first|refine blk_drewN ?_ _|refine blk_drew ?_|refine blk_alloc ?_ _); exact BK270.out) hg (Kd.R_ne HO_269001.out BK270.out (by decide))); have n2_ := Aside0.mk (blk_grown (g := gb271) (o := .cells #[.int .i64 t289, .int .i64 t290, .int .i64 t291, .int .i64 t292, .int .i64 y_04_4, .int .i64 y_05_4, .int .i64 y_06_4, .int .i64 y_07_4, .int .i64 y_08_4, .int .i64 y_09_4, .int .i64 y_10_4, .int .i64 y_11_4] 102 (0, 0)) (by (with_reducible repeat first|refine blk_drewN ?_ _|refine blk_drew ?_|refine blk_alloc ?_ _); refine blk_far ?_ NB271_268.out _; (with_reducible repeat first|refine blk_drewN ?_ _|refine blk_drew ?_|refine blk_alloc ?_ _); exact BK271.out) hg (Kd.R_ne HO_269001.out BK271.out (by decide))); have n3_ := Aside0.mk (Kd.R_over' (by (with_reducible repeat (first | apply Kd.R_alloc | apply Kd.R_drewN | apply Kd.R_drew)); exact (Kd.R_mono (Kd.R_far (p := ⟨gb268, 0, none⟩) (Kd.R_types HO303.out BK268.out (by decide)) (fun _ hk => hk.2) (.slice Ao188 y301.length co188)) (fun _ h_ => h_.1))) (Kd.R_typed (by (with_reducible repeat (first | apply Kd.R_alloc | apply Kd.R_drewN | apply Kd.R_drew)); exact (Kd.R_mono (Kd.R_far (p := ⟨gb268, 0, none⟩) (Kd.R_types HO_269001.out BK268.out (by decide)) (fun _ hk => hk.2) (.slice Ao188 y301.length co188)) (fun _ h_ => h_.1)))) (by decide) hg); have n4_ := Aside0.mk (hb); have n5_ := Aside0.mk (ho); clear BK268; clear BK270; clear BK271; clear HO303; clear HB; clear HO_269001; have BK268 := n0_; have BK270 := n1_; have BK271 := n2_; have HO303 := n3_; have HB := n4_; have HO306 := n5_; clear n0_ n1_ n2_ n3_ n4_ n5_; clear ho hb hg hat; obtain ⟨Ao194, co194, eo194⟩ := Kd.R_slice HO306.out; subst eo194; have hcz195_1 : w193.cell? ⟨gb268, 1, none⟩ = some (u269001) := bA10 BK268 rfl; have hfz195_1 := blk_frozen BK268.out 1))
                go_roundg k4
                case measure => have := HK1.out; have := HJ5.out; have := HJ84.out; have := HK4.out; omega
                case rel => exact ⟨(wrap64 (x14_1 + 1)), (y301), (y304), (.slice Ao188 y301.length co188), (.slice Ao194 y304.length co194), (by first | rfl | (simp; done) | (simp [*]; done)), H', ⟨by have := HK1.out; have := HJ5.out; have := HJ84.out; have := HK4.out; omega⟩, ⟨by (with_reducible repeat (first | apply Kd.R_alloc | apply Kd.R_drewN | apply Kd.R_drew)); exact Kd.R_mono (Kd.R_far (p := ⟨gb268, 1, none⟩) (Kd.R_types HO303.out BK268.out (by decide)) (fun _ hk => hk.2) (.slice Ao194 y304.length co194)) (fun _ hk => trivial)⟩, ⟨by (with_reducible repeat (first | apply Kd.R_alloc | apply Kd.R_drewN | apply Kd.R_drew)); exact Kd.R_mono (Kd.R_far (p := ⟨gb268, 1, none⟩) (Kd.R_types HO306.out BK268.out (by decide)) (fun _ hk => hk.2) (.slice Ao194 y304.length co194)) (fun _ hk => trivial)⟩, ⟨by (with_reducible repeat first|refine blk_drewN ?_ _|refine blk_drew ?_|refine blk_alloc ?_ _); refine blk_put (cs := #[.slice Ao188 y301.length co188, u269001]) ?_ 1 _ rfl; (with_reducible repeat first|refine blk_drewN ?_ _|refine blk_drew ?_|refine blk_alloc ?_ _); exact BK268.out⟩, ⟨by repeat (first | (with_reducible first | exact HB.out | apply below_alloc | apply pw_below_drewN | apply below_drew1 | refine below_set ?_ GE268.out | refine below_set ?_ GE270.out | refine below_set ?_ GE271.out) | exact HB.out)⟩⟩
               ·rw [if_neg c185] at H
                exact absurd H (by simp)
              ·rw [if_neg c184] at H
               exact absurd H (by simp)
     ·rw [if_neg c5] at H
      exact absurd H (by simp)
    ·rw [if_neg c4] at H
     exact absurd H (by simp)
   ·rw [if_neg c3] at H
    have c3b0 : decide (x14_1 < (l0.length : Int)) = false := decide_eq_false c3
    clear c3
    simp only [Option.some.injEq, Prod.mk.injEq] at H
    obtain ⟨rfl, rfl⟩ := H
    go_wp2
    go_ret
    exact ⟨_, _, gb268, rfl, by (with_reducible repeat first|refine blk_drewN ?_ _|refine blk_drew ?_|refine blk_alloc ?_ _); exact BK268.out, GW268.out, by (with_reducible repeat (first | apply Kd.R_alloc | apply Kd.R_drewN | apply Kd.R_drew)); exact HO_269000.out, by (with_reducible repeat (first | apply Kd.R_alloc | apply Kd.R_drewN | apply Kd.R_drew)); exact HO_269001.out, by repeat (first | (with_reducible first | exact HB.out | apply below_alloc | apply pw_below_drewN | apply below_drew1 | refine below_set ?_ GE268.out) | exact HB.out)⟩

end Go.Proofs.Ytamaejafddmagaa.PA
