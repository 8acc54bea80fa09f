import Derived.Test.YtfgpffocieegdaaHk
import Derived.Test.YtfgpffocieegdaaPAx0
import Derived.Test.YtfgpffocieegdaaPAx2
import Derived.Test.YtfgpffocieegdaaPAx4
import Derived.Test.YtfgpffocieegdaaPAx5
import Derived.Test.YtfgpffocieegdaaGw
import Derived.Test.YtfgpffocieegdaaGm
import Derived.Test.YtfgpffocieegdaaGc
namespace Go.Proofs.Ytfgpffocieegdaa.PA
open Go.RowKit Go.Proofs.YtfgpffocieegdaaW.PrintWords Go.Proofs.YtfgpffocieegdaaW.PrintLast Go.Proofs.YtfgpffocieegdaaW.PrintMore
attribute [local go_sem] max2_int min2_int max_two min_two max_three min_three max_four min_four   -- for this text's walks alone
set_option linter.unusedVariables false
set_option linter.unusedSimpArgs false

/-! ### impl_spanOf: function 49 -/
theorem zL6 {p q : Prop} (h : q) (t : q → p := by intro h_; (with_reducible repeat first|refine blk_drewN ?_ _|refine blk_drew ?_|refine blk_alloc ?_ _); exact h_) : p := t h
theorem z6_1 {p : Prop} (h : p := by repeat (first | (with_reducible first | exact HB.out | apply below_alloc | apply pw_below_drewN | apply below_drew1 | refine below_set ?_ GE193.out | refine below_set ?_ GE195.out | refine below_set ?_ GE196.out) | exact HB.out)) : p := h
theorem z6_2 {p : Prop} (h : p := by (with_reducible repeat (first | apply Kd.R_alloc | apply Kd.R_drewN | apply Kd.R_drew)); exact ab.out) : p := h
theorem z6_3 {p : Prop} (h : p := by (with_reducible repeat (first | apply Kd.R_alloc | apply Kd.R_drewN | apply Kd.R_drew)); exact aa.out) : p := h
theorem z6_4 {p : Prop} (h : p := by (try simp only [List.map_toArray, List.map_cons, List.map_nil]); first | done | rfl | (simp only [List.length_drop, List.length_take]; rfl)) : p := h
theorem z6_5 {p : Prop} (h : p := by rw [hw]; exact (by (with_reducible repeat (first | apply Kd.R_alloc | apply Kd.R_drewN | apply Kd.R_drew)); exact Kd.R_mono (Kd.R_far (p := ⟨gb196, 11, none⟩) (Kd.R_far (p := ⟨gb196, 10, none⟩) (Kd.R_far (p := ⟨gb196, 9, none⟩) (Kd.R_far (p := ⟨gb196, 8, none⟩) (Kd.R_far (p := ⟨gb196, 7, none⟩) (Kd.R_far (p := ⟨gb196, 6, none⟩) (Kd.R_far (p := ⟨gb196, 5, none⟩) (Kd.R_far (p := ⟨gb196, 4, none⟩) (Kd.R_far (p := ⟨gb196, 3, none⟩) (Kd.R_far (p := ⟨gb196, 2, none⟩) (Kd.R_far (p := ⟨gb196, 1, none⟩) (Kd.R_far (p := ⟨gb196, 0, none⟩) (Kd.R_mono ab.out (fun k_ hk => (⟨hk, hk⟩ : _ ∧ k_ ≠ gb196))) (fun _ hk => hk.2) (.int .i64 t197)) (fun _ hk => hk.2) (.int .i64 t198)) (fun _ hk => hk.2) (.int .i64 t199)) (fun _ hk => hk.2) (.int .i64 t200)) (fun _ hk => hk.2) (.int .i64 t201)) (fun _ hk => hk.2) (.int .i64 t202)) (fun _ hk => hk.2) (.int .i64 t203)) (fun _ hk => hk.2) (.int .i64 t204)) (fun _ hk => hk.2) (.int .i64 t205)) (fun _ hk => hk.2) (.int .i64 t206)) (fun _ hk => hk.2) (.int .i64 t207)) (fun _ hk => hk.2) (.int .i64 t208)) (fun _ hk => hk.1))) : p := h
theorem z6_6 {p : Prop} (h : p := by rw [hw]; exact (by (with_reducible repeat (first | apply Kd.R_alloc | apply Kd.R_drewN | apply Kd.R_drew)); exact Kd.R_mono (Kd.R_far (p := ⟨gb196, 11, none⟩) (Kd.R_far (p := ⟨gb196, 10, none⟩) (Kd.R_far (p := ⟨gb196, 9, none⟩) (Kd.R_far (p := ⟨gb196, 8, none⟩) (Kd.R_far (p := ⟨gb196, 7, none⟩) (Kd.R_far (p := ⟨gb196, 6, none⟩) (Kd.R_far (p := ⟨gb196, 5, none⟩) (Kd.R_far (p := ⟨gb196, 4, none⟩) (Kd.R_far (p := ⟨gb196, 3, none⟩) (Kd.R_far (p := ⟨gb196, 2, none⟩) (Kd.R_far (p := ⟨gb196, 1, none⟩) (Kd.R_far (p := ⟨gb196, 0, none⟩) (Kd.R_types aa.out BK196.out (by decide)) (fun _ hk => hk.2) (.int .i64 t197)) (fun _ hk => hk.2) (.int .i64 t198)) (fun _ hk => hk.2) (.int .i64 t199)) (fun _ hk => hk.2) (.int .i64 t200)) (fun _ hk => hk.2) (.int .i64 t201)) (fun _ hk => hk.2) (.int .i64 t202)) (fun _ hk => hk.2) (.int .i64 t203)) (fun _ hk => hk.2) (.int .i64 t204)) (fun _ hk => hk.2) (.int .i64 t205)) (fun _ hk => hk.2) (.int .i64 t206)) (fun _ hk => hk.2) (.int .i64 t207)) (fun _ hk => hk.2) (.int .i64 t208)) (fun _ hk => trivial))) : p := h
theorem z6_7 {p : Prop} (h : p := by repeat (first | (with_reducible first | exact HB.out | apply below_alloc | apply pw_below_drewN | apply below_drew1 | refine below_set ?_ GE193.out) | exact HB.out)) : p := h
theorem z6_8 {p : Prop} (h : p := by repeat (first | (with_reducible first | exact HB.out | apply below_alloc | apply pw_below_drewN | apply below_drew1 | refine below_set ?_ GE193.out | refine below_set ?_ GE195.out) | exact HB.out)) : p := h
theorem z6_9 {p : Prop} (h : p := by have := HK1.out; have := HJ5.out; have := HJ84.out; have := HK4.out; omega) : p := h
theorem z6_10 {p : Prop} (h : p := by first | rfl | (simp; done) | (simp [*]; done) | (simp; unfold wrap64; omega)) : p := h
theorem z6_11 {p : Prop} (h : p := by have := HK1.out; first | omega | exact Nat.le_refl _) : p := h
theorem z6_12 {p : Prop} (h : p := by first | rfl | (simp; done) | (simp [*]; done)) : p := h
theorem z6_13 {p : Prop} (h : p := by repeat (first | (with_reducible first | exact HB.out | apply below_alloc | apply pw_below_drewN | apply below_drew1) | exact HB.out)) : p := h
theorem z6_14 {p : Prop} (h : p := by rw [← hq_]; exact (zL6 BK193.out)) : p := h
theorem z6_15 {p : Prop} (h : p := by rw [← hq_]; exact (zL6 BK195.out)) : p := h
theorem z6_16 {p : Prop} (h : p := by rw [← hq_]; exact (zL6 BK196.out)) : p := h
theorem z6_17 {p : Prop} (h : p := by have := HK1.out; have := HJ5.out; first | omega | exact Nat.le_refl _) : p := h
theorem z6_18 {p : Prop} (h : p := by rw [← hq_]; exact z6_2) : p := h
theorem z6_19 {p : Prop} (h : p := by rw [← hq_]; exact z6_3) : p := h
theorem z6_20 {p : Prop} (h : p := by rw [← hq_]; exact z6_1) : p := h
theorem z6_21 {p : Prop} (h : p := by first | exact Kd.R_nil _ _ _ _ _ | exact Kd.N_nil _ _ _ _ _ | exact Kd.V_nil _ _ _ _ _ | exact Kd.Q_nil _ _ _ _ _ | exact Kd.S_nil _ _ _ _ _) : p := h
theorem z6_22 {p : Prop} (h : p := by rw [hw]; exact (gZ ac.out BK193.out)) : p := h
theorem z6_23 {p : Prop} (h : p := by rw [hw]; exact (gZ ae.out BK195.out)) : p := h
mutual
def impl_spanOf.l0 : Nat → List (S54) → Int → Int → List (S81) → List Int → Option ((List (S81)) × List Int)
  | 0, _, _, _, _, _ => none
  | k + 1, x12, x13, x14, x194000, x194001 => if x14 < x13 then (if 0 ≤ x14 then (if x14 < (x12.length : Int) then (if x14 = 0 then (impl_spanOf.j1 k x14 x12 x13 x14 x194000 x194001 ((rd_T54 x12 x14).f0) ((rd_T54 x12 x14).f1) ((rd_T54 x12 x14).f2) ((rd_T54 x12 x14).f3) 1 0 0 0 0 0 0 0) else (if x14 = 1 then (impl_spanOf.j1 k x14 x12 x13 x14 x194000 x194001 ((rd_T54 x12 x14).f0) ((rd_T54 x12 x14).f1) ((rd_T54 x12 x14).f2) ((rd_T54 x12 x14).f3) 0 1 0 0 0 0 0 0) else (if x14 = 2 then (impl_spanOf.j1 k x14 x12 x13 x14 x194000 x194001 ((rd_T54 x12 x14).f0) ((rd_T54 x12 x14).f1) ((rd_T54 x12 x14).f2) ((rd_T54 x12 x14).f3) 0 0 1 0 0 0 0 0) else (if x14 = 3 then (impl_spanOf.j1 k x14 x12 x13 x14 x194000 x194001 ((rd_T54 x12 x14).f0) ((rd_T54 x12 x14).f1) ((rd_T54 x12 x14).f2) ((rd_T54 x12 x14).f3) 0 0 0 1 0 0 0 0) else (if x14 = 4 then (impl_spanOf.j1 k x14 x12 x13 x14 x194000 x194001 ((rd_T54 x12 x14).f0) ((rd_T54 x12 x14).f1) ((rd_T54 x12 x14).f2) ((rd_T54 x12 x14).f3) 0 0 0 0 1 0 0 0) else (if x14 = 5 then (impl_spanOf.j1 k x14 x12 x13 x14 x194000 x194001 ((rd_T54 x12 x14).f0) ((rd_T54 x12 x14).f1) ((rd_T54 x12 x14).f2) ((rd_T54 x12 x14).f3) 0 0 0 0 0 1 0 0) else (if x14 = 6 then (impl_spanOf.j1 k x14 x12 x13 x14 x194000 x194001 ((rd_T54 x12 x14).f0) ((rd_T54 x12 x14).f1) ((rd_T54 x12 x14).f2) ((rd_T54 x12 x14).f3) 0 0 0 0 0 0 1 0) else (if x14 = 7 then (impl_spanOf.j1 k x14 x12 x13 x14 x194000 x194001 ((rd_T54 x12 x14).f0) ((rd_T54 x12 x14).f1) ((rd_T54 x12 x14).f2) ((rd_T54 x12 x14).f3) 0 0 0 0 0 0 0 1) else (none))))))))) else (none)) else (none)) else (some (x194000, x194001))
def impl_spanOf.j1 : Nat → Int → List (S54) → Int → Int → List (S81) → List Int → Int → Int → Int → Int → Int → Int → Int → Int → Int → Int → Int → Int → Option ((List (S81)) × List Int)
  | 0, _, _, _, _, _, _, _, _, _, _, _, _, _, _, _, _, _, _ => none
  | k + 1, x4, x12, x13, x14, x194000, x194001, x197000, x197001, x197002, x197003, x197004, x197005, x197006, x197007, x197008, x197009, x197010, x197011 => (impl_span_less.f k x194000 x194001 x197000 x197001 x197002 x197003 x197004 x197005 x197006 x197007 x197008 x197009 x197010 x197011).bind fun bt197 => ((impl_vector_lead.f bt197.1 bt197.2.1 bt197.2.2.1 bt197.2.2.2.1).bind fun t209 => (if t209 < 0 then (impl_spanOf.l0 k x12 x13 (wrap64 (x14 + 1)) x194000 x194001) else (if t209 = 0 then ((impl_element_inverse.f k bt197.1).bind fun t210 => (impl_spanOf.j2 k x4 t210 x12 x13 x14 x194000 x194001 bt197.1 bt197.2.1 bt197.2.2.1 bt197.2.2.2.1 bt197.2.2.2.2.1 bt197.2.2.2.2.2.1 bt197.2.2.2.2.2.2.1 bt197.2.2.2.2.2.2.2.1 bt197.2.2.2.2.2.2.2.2.1 bt197.2.2.2.2.2.2.2.2.2.1 bt197.2.2.2.2.2.2.2.2.2.2.1 bt197.2.2.2.2.2.2.2.2.2.2.2)) else (if t209 = 1 then ((impl_element_inverse.f k bt197.2.1).bind fun t211 => (impl_spanOf.j2 k x4 t211 x12 x13 x14 x194000 x194001 bt197.1 bt197.2.1 bt197.2.2.1 bt197.2.2.2.1 bt197.2.2.2.2.1 bt197.2.2.2.2.2.1 bt197.2.2.2.2.2.2.1 bt197.2.2.2.2.2.2.2.1 bt197.2.2.2.2.2.2.2.2.1 bt197.2.2.2.2.2.2.2.2.2.1 bt197.2.2.2.2.2.2.2.2.2.2.1 bt197.2.2.2.2.2.2.2.2.2.2.2)) else (if t209 = 2 then ((impl_element_inverse.f k bt197.2.2.1).bind fun t212 => (impl_spanOf.j2 k x4 t212 x12 x13 x14 x194000 x194001 bt197.1 bt197.2.1 bt197.2.2.1 bt197.2.2.2.1 bt197.2.2.2.2.1 bt197.2.2.2.2.2.1 bt197.2.2.2.2.2.2.1 bt197.2.2.2.2.2.2.2.1 bt197.2.2.2.2.2.2.2.2.1 bt197.2.2.2.2.2.2.2.2.2.1 bt197.2.2.2.2.2.2.2.2.2.2.1 bt197.2.2.2.2.2.2.2.2.2.2.2)) else (if t209 = 3 then ((impl_element_inverse.f k bt197.2.2.2.1).bind fun t213 => (impl_spanOf.j2 k x4 t213 x12 x13 x14 x194000 x194001 bt197.1 bt197.2.1 bt197.2.2.1 bt197.2.2.2.1 bt197.2.2.2.2.1 bt197.2.2.2.2.2.1 bt197.2.2.2.2.2.2.1 bt197.2.2.2.2.2.2.2.1 bt197.2.2.2.2.2.2.2.2.1 bt197.2.2.2.2.2.2.2.2.2.1 bt197.2.2.2.2.2.2.2.2.2.2.1 bt197.2.2.2.2.2.2.2.2.2.2.2)) else (none)))))))
def impl_spanOf.j2 : Nat → Int → Int → List (S54) → Int → Int → List (S81) → List Int → Int → Int → Int → Int → Int → Int → Int → Int → Int → Int → Int → Int → Option ((List (S81)) × List Int)
  | 0, _, _, _, _, _, _, _, _, _, _, _, _, _, _, _, _, _, _, _ => none
  | k + 1, x4, x8, x12, x13, x14, x194000, x194001, x197000, x197001, x197002, x197003, x197004, x197005, x197006, x197007, x197008, x197009, x197010, x197011 => (impl_vector_times.f x197000 x197001 x197002 x197003 x8).bind fun bt214 => (impl_spanOf.l1 k x4 x8 x12 x13 x14 0 x194000 x194001 bt214.1 bt214.2.1 bt214.2.2.1 bt214.2.2.2 x197004 x197005 x197006 x197007 x197008 x197009 x197010 x197011)
def impl_spanOf.l1 : Nat → Int → Int → List (S54) → Int → Int → Int → List (S81) → List Int → Int → Int → Int → Int → Int → Int → Int → Int → Int → Int → Int → Int → Option ((List (S81)) × List Int)
  | 0, _, _, _, _, _, _, _, _, _, _, _, _, _, _, _, _, _, _, _, _ => none
  | k + 1, x4, x8, x12, x13, x14, x42, x194000, x194001, x197000, x197001, x197002, x197003, x197004, x197005, x197006, x197007, x197008, x197009, x197010, x197011 => if x42 < 8 then (if x42 = 0 then ((impl_element_times.f x197004 x8).bind fun t218 => (impl_spanOf.l1 k x4 x8 x12 x13 x14 (wrap64 (x42 + 1)) x194000 x194001 x197000 x197001 x197002 x197003 t218 x197005 x197006 x197007 x197008 x197009 x197010 x197011)) else (if x42 = 1 then ((impl_element_times.f x197005 x8).bind fun t219 => (impl_spanOf.l1 k x4 x8 x12 x13 x14 (wrap64 (x42 + 1)) x194000 x194001 x197000 x197001 x197002 x197003 x197004 t219 x197006 x197007 x197008 x197009 x197010 x197011)) else (if x42 = 2 then ((impl_element_times.f x197006 x8).bind fun t220 => (impl_spanOf.l1 k x4 x8 x12 x13 x14 (wrap64 (x42 + 1)) x194000 x194001 x197000 x197001 x197002 x197003 x197004 x197005 t220 x197007 x197008 x197009 x197010 x197011)) else (if x42 = 3 then ((impl_element_times.f x197007 x8).bind fun t221 => (impl_spanOf.l1 k x4 x8 x12 x13 x14 (wrap64 (x42 + 1)) x194000 x194001 x197000 x197001 x197002 x197003 x197004 x197005 x197006 t221 x197008 x197009 x197010 x197011)) else (if x42 = 4 then ((impl_element_times.f x197008 x8).bind fun t222 => (impl_spanOf.l1 k x4 x8 x12 x13 x14 (wrap64 (x42 + 1)) x194000 x194001 x197000 x197001 x197002 x197003 x197004 x197005 x197006 x197007 t222 x197009 x197010 x197011)) else (if x42 = 5 then ((impl_element_times.f x197009 x8).bind fun t223 => (impl_spanOf.l1 k x4 x8 x12 x13 x14 (wrap64 (x42 + 1)) x194000 x194001 x197000 x197001 x197002 x197003 x197004 x197005 x197006 x197007 x197008 t223 x197010 x197011)) else (if x42 = 6 then ((impl_element_times.f x197010 x8).bind fun t224 => (impl_spanOf.l1 k x4 x8 x12 x13 x14 (wrap64 (x42 + 1)) x194000 x194001 x197000 x197001 x197002 x197003 x197004 x197005 x197006 x197007 x197008 x197009 t224 x197011)) else (if x42 = 7 then ((impl_element_times.f x197011 x8).bind fun t225 => (impl_spanOf.l1 k x4 x8 x12 x13 x14 (wrap64 (x42 + 1)) x194000 x194001 x197000 x197001 x197002 x197003 x197004 x197005 x197006 x197007 x197008 x197009 x197010 t225)) else (none))))))))) else (if x194000.length < 1466015503701 then (if x194001.length < 17592186044416 then (impl_spanOf.l0 k x12 x13 (wrap64 (x14 + 1)) (x194000 ++ [(⟨(⟨x197000, x197001, x197002, x197003⟩ : S54), (⟨x197004, x197005, x197006, x197007, x197008, x197009, x197010, x197011⟩ : S68)⟩ : S81)]) (x194001 ++ [x4])) else (none)) else (none))
end
def impl_spanOf.f (k : Nat) (l0 : List (S54)) : Option ((List (S81)) × List Int) := impl_spanOf.l0 k l0 (l0.length : Int) 0 ([] : List (S81)) ([] : List Int)
def impl_spanOf.T17 : Bool × List (List Nat × List Nat) := (true, [([], []), ([], []), ([1], [1]), ([2], [2]), ([3], [3]), ([], []), ([5], [5]), ([4, 6], [4, 6]), ([0, 0, 1, 2, 3, 4, 5, 6, 7], [0]), ([8, 0, 1, 2, 3, 4, 5, 6, 7], [8]), ([9, 7, 7, 0, 1, 2, 3, 4, 5, 6, 7], [7, 9])])
def impl_spanOf.B17 : List Nat := [0, 0, 2, 6, 14, 0, 32, 126, 255, 511, 1023]
theorem impl_spanOf.tab17 : rtab .any (opsOf Try.f49 17) = impl_spanOf.T17 := by kernel_rfl
theorem impl_spanOf.bits17 : waitsOk impl_spanOf.T17.2 impl_spanOf.B17 = true := by kernel_rfl
theorem bA6 {W : World} {g : Nat} {cs : Array Value} {ty : TypeId} {j : Nat} {v : Value} (h : Aside0 (W.heap[g]? = some (.cells cs ty (0, 0)))) (e : cs[j]? = some v) : W.cell? ⟨g, j, none⟩ = some v := (blk_cell h.out j).trans e
set_option maxHeartbeats 8000000 in
set_option maxRecDepth 100000 in
theorem impl_spanOf.calls (k : Nat) (A0 : Option Addr) (c0 : Nat) (l0 : List (S54)) (r1 : List (S81)) (r2 : List Int) (w : World) (hr0 : Kd.C k54 w A0 l0.length l0) (hc0 : l0.length ≤ c0) (h : impl_spanOf.f k l0 = some (r1, r2)) :
  Calls Try.prog 49 #[.slice A0 l0.length c0] w fun e w' => ∃ v0_ v1_ : Value, ∃ g_ : Nat, e = .returned (.pointer (some ⟨g_, 0, none⟩)) ∧ w'.heap[g_]? = some (.cells #[v0_, v1_] 79 (0, 0)) ∧ w.heap.size ≤ g_ ∧ Kd.R k81 81 w' w.heap.size (fun _ => True) v0_ r1 ∧ Kd.R (Kd.int .i64) 3 w' w.heap.size (fun _ => True) v1_ r2 ∧ Below w.heap.size w w' := by
 have hu79 := Try.underlying79
 have hu54 := Try.underlying54
 have hu81 := Try.underlying81
 have HR0 := Aside0.mk hr0
 have HC0 := Aside0.mk hc0
 clear hr0 hc0
 have HB := Aside0.mk (Below.refl w.heap.size w)
 try unfold impl_spanOf.f at h
 have H := h
 clear h
 have H' := Aside0.mk H
 clear H
 go_enter Try.func49, Try.ntmps49
 go_wp2_with (first | ((with_reducible refine gate_dst (N := 11) rfl ?_); refine box_event ?hg (N := 11) ?hd (cs := #[.slice none 0 0, .slice none 0 0]) (t := 79) ?hr ?_; (case hd => rfl); (case hg => rfl); (case hr => first | (go_simp; done) | (go_simp; rfl)); intro gb193 hg w2 hbox hb; have BK193 := Aside0.mk (hbox); have GW193 := Aside0.mk ((by rw [hg]; exact (below_size z6_13) : w.heap.size ≤ gb193)); have GE193 := Aside0.mk ((by rw [hg]; exact (below_size z6_13) : w.heap.size ≤ gb193)); replace HB := Aside0.mk (below_step z6_13 hb); clear hb hbox hg))
 go_loopg [14] k (fun kq v14 w' => ∃ (x14_1 : Int) (af : List (S81)) (ad : List Int) (u194000 : Value) (u194001 : Value), v14 = .int .i64 x14_1 ∧ Aside0 (impl_spanOf.l0 kq l0 (l0.length : Int) x14_1 af ad = some (r1, r2)) ∧ Aside0 (kq ≤ k) ∧ Aside0 (Kd.R k81 81 w' w.heap.size (fun _ => True) u194000 af) ∧ Aside0 (Kd.R (Kd.int .i64) 3 w' w.heap.size (fun _ => True) u194001 ad) ∧ Aside0 (w'.heap[gb193]? = some (.cells #[u194000, u194001] 79 (0, 0))) ∧ Aside0 (Below w.heap.size w w'))
 case atStart => exact ⟨(0), (([] : List (S81))), (([] : List Int)), (.slice none 0 0), (.slice none 0 0), z6_12, H', ⟨Nat.le_refl _⟩, ⟨z6_21⟩, ⟨z6_21⟩, ⟨zL6 BK193.out⟩, ⟨z6_7⟩⟩
 case round =>
  clear H'; obtain ⟨x14_1, af, ad, u194000, u194001, rfl, HA, HK1, ab, aa, BK193, HB⟩ := hrel
  cases gk with
  | zero => exact absurd HA.out (by simp [impl_spanOf.l0])
  | succ k1 =>
   have H := HA.out
   clear HA; simp only [impl_spanOf.l0] at H
   by_cases c3 : x14_1 < (l0.length : Int)
   ·rw [if_pos c3] at H
    have c3b0 : decide (x14_1 < (l0.length : Int)) = true := decide_eq_true c3; clear c3; obtain ⟨c4, H⟩ := ifP H; have c4b0 : decide (0 ≤ x14_1) = true := decide_eq_true c4; clear c4; obtain ⟨c5, H⟩ := ifP H; have c5b0 : decide (x14_1 < (l0.length : Int)) = true := decide_eq_true c5; clear c5
    have HC6 := Aside0.mk H
    clear H; have p194 : 0 ≤ (x14_1 : Int) := of_decide_eq_true (by first | (with_reducible assumption) | assumption); have q194 : x14_1 < (l0.length : Int) := of_decide_eq_true (by first | (with_reducible assumption) | assumption); obtain ⟨ad194, e194, hx194_0, hx194_1, hx194_2, hx194_3⟩ := at_T54 HR0.out x14_1 p194 q194; cases e194
    replace hx194_0 := (HB.out.cell (World.block_lt_of_cell? w _ hx194_0)).trans hx194_0
    replace hx194_1 := (HB.out.cell (World.block_lt_of_cell? w _ hx194_1)).trans hx194_1
    replace hx194_2 := (HB.out.cell (World.block_lt_of_cell? w _ hx194_2)).trans hx194_2
    replace hx194_3 := (HB.out.cell (World.block_lt_of_cell? w _ hx194_3)).trans hx194_3
    replace p194 := eq_true p194
    replace q194 := eq_true q194
    go_upto_region 6 with (first | ((with_reducible refine gate_dst (N := 5) rfl ?_); refine box_event ?hg (N := 5) ?hd (cs := #[.int .i64 0, .int .i64 0, .int .i64 0, .int .i64 0]) (t := 54) ?hr ?_; (case hd => rfl); (case hg => rfl); (case hr => first | (go_simp; done) | (go_simp; rfl)); intro gb195 hg w7 hbox hb; replace ab := Aside0.mk (Kd.R_below z6_2 hb); replace aa := Aside0.mk (Kd.R_below z6_3 hb); have BK195 := Aside0.mk (hbox); have GW195 := Aside0.mk ((by rw [hg]; exact (below_size z6_7) : w.heap.size ≤ gb195)); have GE195 := Aside0.mk ((by rw [hg]; exact (below_size z6_7) : w.heap.size ≤ gb195)); replace HB := Aside0.mk (below_step z6_7 hb); have aA := Aside0.mk ((by rw [hg]; exact bLZ_ BK193 : gb193 ≠ gb195)); have aC := Aside0.mk ((by rw [hg]; exact bGZ_ BK193 : gb195 ≠ gb193)); replace BK193 := bBZ_ BK193 hb; clear hb hbox hg; have hnb8 := aC.out; have hnc8 := aA.out; have b8 : w7.cell? ⟨gb195, 0, none⟩ = some (.int .i64 0) := bA6 BK195 rfl; have b9 := blk_frozen BK195.out 0; have aU : w7.cell? ⟨gb195, 1, none⟩ = some (.int .i64 0) := bA6 BK195 rfl; have aV := blk_frozen BK195.out 1; have aW : w7.cell? ⟨gb195, 2, none⟩ = some (.int .i64 0) := bA6 BK195 rfl; have aX := blk_frozen BK195.out 2; have aY : w7.cell? ⟨gb195, 3, none⟩ = some (.int .i64 0) := bA6 BK195 rfl; have aZ := blk_frozen BK195.out 3) | ((with_reducible refine gate_store (t := 54) (p := 5) rfl ?_); refine store_event (t := 54) (p := 5) (v := ?vo_w13) (w1 := ((((w7.setCell ⟨gb195, 0, none⟩ (.int .i64 ((rd_T54 l0 x14_1).f0))).setCell ⟨gb195, 1, none⟩ (.int .i64 ((rd_T54 l0 x14_1).f1))).setCell ⟨gb195, 2, none⟩ (.int .i64 ((rd_T54 l0 x14_1).f2))).setCell ⟨gb195, 3, none⟩ (.int .i64 ((rd_T54 l0 x14_1).f3)))) ?hg ?ho ?hn ?hr ?_; (case ho => rfl); (case hg => rfl); (case hn => rfl); (case hr => first | (go_simp; done) | (go_simp; rfl)); intro w13 hw; have n0_ : Aside0 (Kd.R k81 81 w13 w.heap.size (fun _ => True) u194000 af) := ⟨(by rw [hw]; exact (by (with_reducible repeat (first | apply Kd.R_alloc | apply Kd.R_drewN | apply Kd.R_drew)); exact Kd.R_mono (Kd.R_far (p := ⟨gb195, 3, none⟩) (Kd.R_far (p := ⟨gb195, 2, none⟩) (Kd.R_far (p := ⟨gb195, 1, none⟩) (Kd.R_far (p := ⟨gb195, 0, none⟩) (Kd.R_types ab.out BK195.out (by decide)) (fun _ hk => hk.2) (.int .i64 ((rd_T54 l0 x14_1).f0))) (fun _ hk => hk.2) (.int .i64 ((rd_T54 l0 x14_1).f1))) (fun _ hk => hk.2) (.int .i64 ((rd_T54 l0 x14_1).f2))) (fun _ hk => hk.2) (.int .i64 ((rd_T54 l0 x14_1).f3))) (fun _ hk => trivial)))⟩; have n1_ : Aside0 (Kd.R (Kd.int .i64) 3 w13 w.heap.size (fun _ => True) u194001 ad) := ⟨(by rw [hw]; exact (by (with_reducible repeat (first | apply Kd.R_alloc | apply Kd.R_drewN | apply Kd.R_drew)); exact Kd.R_mono (Kd.R_far (p := ⟨gb195, 3, none⟩) (Kd.R_far (p := ⟨gb195, 2, none⟩) (Kd.R_far (p := ⟨gb195, 1, none⟩) (Kd.R_far (p := ⟨gb195, 0, none⟩) (Kd.R_types aa.out BK195.out (by decide)) (fun _ hk => hk.2) (.int .i64 ((rd_T54 l0 x14_1).f0))) (fun _ hk => hk.2) (.int .i64 ((rd_T54 l0 x14_1).f1))) (fun _ hk => hk.2) (.int .i64 ((rd_T54 l0 x14_1).f2))) (fun _ hk => hk.2) (.int .i64 ((rd_T54 l0 x14_1).f3))) (fun _ hk => trivial)))⟩; have n2_ : Aside0 (w13.heap[gb193]? = some (.cells #[u194000, u194001] 79 (0, 0))) := ⟨(by rw [hw]; exact (gZ aA.out BK193.out))⟩; have n3_ : Aside0 (w13.heap[gb195]? = some (.cells #[.int .i64 ((rd_T54 l0 x14_1).f0), .int .i64 ((rd_T54 l0 x14_1).f1), .int .i64 ((rd_T54 l0 x14_1).f2), .int .i64 ((rd_T54 l0 x14_1).f3)] 54 (0, 0))) := ⟨(by rw [hw]; exact (bZ BK195.out))⟩; have n4_ : Aside0 (Below w.heap.size w w13) := ⟨(by rw [hw]; exact z6_8)⟩; clear hw; clear ab; clear aa; clear BK193; clear BK195; clear HB; have ab := n0_; have aa := n1_; have BK193 := n2_; have BK195 := n3_; have HB := n4_; clear n0_ n1_ n2_ n3_ n4_; have a0 : w13.cell? ⟨gb195, 0, none⟩ = some (.int .i64 ((rd_T54 l0 x14_1).f0)) := bA6 BK195 rfl; have a1 : w13.cell? ⟨gb195, 1, none⟩ = some (.int .i64 ((rd_T54 l0 x14_1).f1)) := bA6 BK195 rfl; have a2 : w13.cell? ⟨gb195, 2, none⟩ = some (.int .i64 ((rd_T54 l0 x14_1).f2)) := bA6 BK195 rfl; have a3 : w13.cell? ⟨gb195, 3, none⟩ = some (.int .i64 ((rd_T54 l0 x14_1).f3)) := bA6 BK195 rfl; have a4 := blk_frozen BK195.out 0; have a5 := blk_frozen BK195.out 1; have a6 := blk_frozen BK195.out 2; have a7 := blk_frozen BK195.out 3) | ((with_reducible refine gate_dst (N := 6) rfl ?_); refine box_event ?hg (N := 6) ?hd (cs := #[.int .i64 0, .int .i64 0, .int .i64 0, .int .i64 0, .int .i64 0, .int .i64 0, .int .i64 0, .int .i64 0, .int .i64 0, .int .i64 0, .int .i64 0, .int .i64 0]) (t := 81) ?hr ?_; (case hd => rfl); (case hg => rfl); (case hr => first | (go_simp; done) | (go_simp; rfl)); intro gb196 hg w15 hbox hb; replace ab := Aside0.mk (Kd.R_below (Kd.R_elderB z6_2 gb196 (Nat.le_of_eq hg.symm)) hb); replace aa := Aside0.mk (Kd.R_below z6_3 hb); have BK196 := Aside0.mk (hbox); have GW196 := Aside0.mk ((by rw [hg]; exact (below_size z6_8) : w.heap.size ≤ gb196)); have GE196 := Aside0.mk ((by rw [hg]; exact (below_size z6_8) : w.heap.size ≤ gb196)); replace HB := Aside0.mk (below_step z6_8 hb); have ac := Aside0.mk ((by rw [hg]; exact bLZ_ BK193 : gb193 ≠ gb196)); have ag := Aside0.mk ((by rw [hg]; exact bGZ_ BK193 : gb196 ≠ gb193)); replace BK193 := bBZ_ BK193 hb; have ae := Aside0.mk ((by rw [hg]; exact bLZ_ BK195 : gb195 ≠ gb196)); have ap := Aside0.mk ((by rw [hg]; exact bGZ_ BK195 : gb196 ≠ gb195)); replace BK195 := bBZ_ BK195 hb; clear hb hbox hg; have hnb16 := ag.out; have hnc16 := ac.out; have hnb17 := ap.out; have hnc17 := ae.out; have a8 : w15.cell? ⟨gb196, 0, none⟩ = some (.int .i64 0) := bA6 BK196 rfl; have a9 := blk_frozen BK196.out 0; have ba : w15.cell? ⟨gb196, 1, none⟩ = some (.int .i64 0) := bA6 BK196 rfl; have bb := blk_frozen BK196.out 1; have bc : w15.cell? ⟨gb196, 2, none⟩ = some (.int .i64 0) := bA6 BK196 rfl; have bd := blk_frozen BK196.out 2; have be : w15.cell? ⟨gb196, 3, none⟩ = some (.int .i64 0) := bA6 BK196 rfl; have bf := blk_frozen BK196.out 3; have bg : w15.cell? ⟨gb196, 4, none⟩ = some (.int .i64 0) := bA6 BK196 rfl; have bh := blk_frozen BK196.out 4; have bi : w15.cell? ⟨gb196, 5, none⟩ = some (.int .i64 0) := bA6 BK196 rfl; have bj := blk_frozen BK196.out 5; have bk : w15.cell? ⟨gb196, 6, none⟩ = some (.int .i64 0) := bA6 BK196 rfl; have bl := blk_frozen BK196.out 6; have bm : w15.cell? ⟨gb196, 7, none⟩ = some (.int .i64 0) := bA6 BK196 rfl; have bn := blk_frozen BK196.out 7; have bo : w15.cell? ⟨gb196, 8, none⟩ = some (.int .i64 0) := bA6 BK196 rfl; have bp := blk_frozen BK196.out 8; have bq : w15.cell? ⟨gb196, 9, none⟩ = some (.int .i64 0) := bA6 BK196 rfl; have br := blk_frozen BK196.out 9; have aD : w15.cell? ⟨gb196, 10, none⟩ = some (.int .i64 0) := bA6 BK196 rfl; have aE := blk_frozen BK196.out 10; have aG : w15.cell? ⟨gb196, 11, none⟩ = some (.int .i64 0) := bA6 BK196 rfl; have aH := blk_frozen BK196.out 11) | ((with_reducible refine gate_store (t := 81) (p := 6) rfl ?_); refine store_event (t := 81) (p := 6) (v := ?vo_w30) (w1 := ((((((((((((w15.setCell ⟨gb196, 0, none⟩ (.int .i64 ((rd_T54 l0 x14_1).f0))).setCell ⟨gb196, 1, none⟩ (.int .i64 ((rd_T54 l0 x14_1).f1))).setCell ⟨gb196, 2, none⟩ (.int .i64 ((rd_T54 l0 x14_1).f2))).setCell ⟨gb196, 3, none⟩ (.int .i64 ((rd_T54 l0 x14_1).f3))).setCell ⟨gb196, 4, none⟩ (.int .i64 0)).setCell ⟨gb196, 5, none⟩ (.int .i64 0)).setCell ⟨gb196, 6, none⟩ (.int .i64 0)).setCell ⟨gb196, 7, none⟩ (.int .i64 0)).setCell ⟨gb196, 8, none⟩ (.int .i64 0)).setCell ⟨gb196, 9, none⟩ (.int .i64 0)).setCell ⟨gb196, 10, none⟩ (.int .i64 0)).setCell ⟨gb196, 11, none⟩ (.int .i64 0))) ?hg ?ho ?hn ?hr ?_; (case ho => rfl); (case hg => rfl); (case hn => rfl); (case hr => first | (go_simp; done) | (go_simp; rfl)); intro w30 hw; have n0_ : Aside0 (Kd.R k81 81 w30 w.heap.size (fun k_ => k_ ≠ gb196) u194000 af) := ⟨(by rw [hw]; exact (by (with_reducible repeat (first | apply Kd.R_alloc | apply Kd.R_drewN | apply Kd.R_drew)); exact Kd.R_mono (Kd.R_far (p := ⟨gb196, 11, none⟩) (Kd.R_far (p := ⟨gb196, 10, none⟩) (Kd.R_far (p := ⟨gb196, 9, none⟩) (Kd.R_far (p := ⟨gb196, 8, none⟩) (Kd.R_far (p := ⟨gb196, 7, none⟩) (Kd.R_far (p := ⟨gb196, 6, none⟩) (Kd.R_far (p := ⟨gb196, 5, none⟩) (Kd.R_far (p := ⟨gb196, 4, none⟩) (Kd.R_far (p := ⟨gb196, 3, none⟩) (Kd.R_far (p := ⟨gb196, 2, none⟩) (Kd.R_far (p := ⟨gb196, 1, none⟩) (Kd.R_far (p := ⟨gb196, 0, none⟩) (Kd.R_mono ab.out (fun k_ hk => (⟨hk, hk.2⟩ : _ ∧ k_ ≠ gb196))) (fun _ hk => hk.2) (.int .i64 ((rd_T54 l0 x14_1).f0))) (fun _ hk => hk.2) (.int .i64 ((rd_T54 l0 x14_1).f1))) (fun _ hk => hk.2) (.int .i64 ((rd_T54 l0 x14_1).f2))) (fun _ hk => hk.2) (.int .i64 ((rd_T54 l0 x14_1).f3))) (fun _ hk => hk.2) (.int .i64 0)) (fun _ hk => hk.2) (.int .i64 0)) (fun _ hk => hk.2) (.int .i64 0)) (fun _ hk => hk.2) (.int .i64 0)) (fun _ hk => hk.2) (.int .i64 0)) (fun _ hk => hk.2) (.int .i64 0)) (fun _ hk => hk.2) (.int .i64 0)) (fun _ hk => hk.2) (.int .i64 0)) (fun _ hk => hk.1.2)))⟩; have n1_ : Aside0 (Kd.R (Kd.int .i64) 3 w30 w.heap.size (fun _ => True) u194001 ad) := ⟨(by rw [hw]; exact (by (with_reducible repeat (first | apply Kd.R_alloc | apply Kd.R_drewN | apply Kd.R_drew)); exact Kd.R_mono (Kd.R_far (p := ⟨gb196, 11, none⟩) (Kd.R_far (p := ⟨gb196, 10, none⟩) (Kd.R_far (p := ⟨gb196, 9, none⟩) (Kd.R_far (p := ⟨gb196, 8, none⟩) (Kd.R_far (p := ⟨gb196, 7, none⟩) (Kd.R_far (p := ⟨gb196, 6, none⟩) (Kd.R_far (p := ⟨gb196, 5, none⟩) (Kd.R_far (p := ⟨gb196, 4, none⟩) (Kd.R_far (p := ⟨gb196, 3, none⟩) (Kd.R_far (p := ⟨gb196, 2, none⟩) (Kd.R_far (p := ⟨gb196, 1, none⟩) (Kd.R_far (p := ⟨gb196, 0, none⟩) (Kd.R_types aa.out BK196.out (by decide)) (fun _ hk => hk.2) (.int .i64 ((rd_T54 l0 x14_1).f0))) (fun _ hk => hk.2) (.int .i64 ((rd_T54 l0 x14_1).f1))) (fun _ hk => hk.2) (.int .i64 ((rd_T54 l0 x14_1).f2))) (fun _ hk => hk.2) (.int .i64 ((rd_T54 l0 x14_1).f3))) (fun _ hk => hk.2) (.int .i64 0)) (fun _ hk => hk.2) (.int .i64 0)) (fun _ hk => hk.2) (.int .i64 0)) (fun _ hk => hk.2) (.int .i64 0)) (fun _ hk => hk.2) (.int .i64 0)) (fun _ hk => hk.2) (.int .i64 0)) (fun _ hk => hk.2) (.int .i64 0)) (fun _ hk => hk.2) (.int .i64 0)) (fun _ hk => trivial)))⟩; have n2_ : Aside0 (w30.heap[gb193]? = some (.cells #[u194000, u194001] 79 (0, 0))) := ⟨z6_22⟩; have n3_ : Aside0 (w30.heap[gb195]? = some (.cells #[.int .i64 ((rd_T54 l0 x14_1).f0), .int .i64 ((rd_T54 l0 x14_1).f1), .int .i64 ((rd_T54 l0 x14_1).f2), .int .i64 ((rd_T54 l0 x14_1).f3)] 54 (0, 0))) := ⟨z6_23⟩; have n4_ : Aside0 (w30.heap[gb196]? = some (.cells #[.int .i64 ((rd_T54 l0 x14_1).f0), .int .i64 ((rd_T54 l0 x14_1).f1), .int .i64 ((rd_T54 l0 x14_1).f2), .int .i64 ((rd_T54 l0 x14_1).f3), .int .i64 0, .int .i64 0, .int .i64 0, .int .i64 0, .int .i64 0, .int .i64 0, .int .i64 0, .int .i64 0] 81 (0, 0))) := ⟨(by rw [hw]; exact (bZ BK196.out))⟩; have n5_ : Aside0 (Below w.heap.size w w30) := ⟨(by rw [hw]; exact z6_1)⟩; clear hw; clear ab; clear aa; clear BK193; clear BK195; clear BK196; clear HB; have ab := n0_; have aa := n1_; have BK193 := n2_; have BK195 := n3_; have BK196 := n4_; have HB := n5_; clear n0_ n1_ n2_ n3_ n4_ n5_))
    (try simp only [Act.put, List.setIfInBounds_toArray, List.set_cons_zero, List.set_cons_succ])
    go_cut [] (fun wc => ∃ (kq : Nat) (aq : Int) (ar : Int) (au : Int) (av : Int) (aw : Int) (ax : Int) (ay : Int) (az : Int), Aside0 (impl_spanOf.j1 kq x14_1 l0 (l0.length : Int) x14_1 af ad ((rd_T54 l0 x14_1).f0) ((rd_T54 l0 x14_1).f1) ((rd_T54 l0 x14_1).f2) ((rd_T54 l0 x14_1).f3) aq ar au av aw ax ay az = some (r1, r2)) ∧ Aside0 (kq ≤ k1) ∧ Aside0 (Kd.R k81 81 wc w.heap.size (fun k_ => k_ ≠ gb196) u194000 af) ∧ Aside0 (Kd.R (Kd.int .i64) 3 wc w.heap.size (fun _ => True) u194001 ad) ∧ Aside0 (wc.heap[gb193]? = some (.cells #[u194000, u194001] 79 (0, 0))) ∧ Aside0 (wc.heap[gb195]? = some (.cells #[.int .i64 ((rd_T54 l0 x14_1).f0), .int .i64 ((rd_T54 l0 x14_1).f1), .int .i64 ((rd_T54 l0 x14_1).f2), .int .i64 ((rd_T54 l0 x14_1).f3)] 54 (0, 0))) ∧ Aside0 (wc.heap[gb196]? = some (.cells #[.int .i64 ((rd_T54 l0 x14_1).f0), .int .i64 ((rd_T54 l0 x14_1).f1), .int .i64 ((rd_T54 l0 x14_1).f2), .int .i64 ((rd_T54 l0 x14_1).f3), .int .i64 aq, .int .i64 ar, .int .i64 au, .int .i64 av, .int .i64 aw, .int .i64 ax, .int .i64 ay, .int .i64 az] 81 (0, 0))) ∧ Aside0 (Below w.heap.size w wc))
    case first =>
     have H := HC6.out
     clear HC6
     by_cases c31 : x14_1 = 0
     ·rw [if_pos c31] at H
      subst c31
      (try have hz_ := eq_true (Int.natCast_pos.1 (of_decide_eq_true c5b0) : 0 < l0.length))
      have H' := Aside0.mk H
      clear H
      have hnb32 := ag.out
      have hnc32 := ac.out
      have hnb33 := ap.out
      have hnc33 := ae.out
      have bs : w30.cell? ⟨gb196, 4, none⟩ = some (.int .i64 0) := bA6 BK196 rfl
      have bt := blk_frozen BK196.out 4
      go_wp2
      go_meet
      case rel => exact ⟨_, (1), (0), (0), (0), (0), (0), (0), (0), H', ⟨z6_11⟩, ⟨by (with_reducible repeat (first | apply Kd.R_alloc | apply Kd.R_drewN | apply Kd.R_drew)); exact Kd.R_mono (Kd.R_far (p := ⟨gb196, 4, none⟩) (Kd.R_mono ab.out (fun k_ hk => (⟨hk, hk⟩ : _ ∧ k_ ≠ gb196))) (fun _ hk => hk.2) (.int .i64 1)) (fun _ hk => hk.1)⟩, ⟨by (with_reducible repeat (first | apply Kd.R_alloc | apply Kd.R_drewN | apply Kd.R_drew)); exact Kd.R_mono (Kd.R_far (p := ⟨gb196, 4, none⟩) (Kd.R_types aa.out BK196.out (by decide)) (fun _ hk => hk.2) (.int .i64 1)) (fun _ hk => trivial)⟩, ⟨gZ ac.out BK193.out⟩, ⟨gZ ae.out BK195.out⟩, ⟨bZ BK196.out⟩, ⟨z6_1⟩⟩
     ·rw [if_neg c31] at H
      clear c31
      by_cases c35 : x14_1 = 1
      ·rw [if_pos c35] at H
       subst c35
       (try have hz_ := eq_true (by have h_ := of_decide_eq_true c5b0; omega : 1 < l0.length))
       have H' := Aside0.mk H
       clear H
       have hnb36 := ag.out
       have hnc36 := ac.out
       have hnb37 := ap.out
       have hnc37 := ae.out
       have bu : w30.cell? ⟨gb196, 5, none⟩ = some (.int .i64 0) := bA6 BK196 rfl
       have bv := blk_frozen BK196.out 5
       go_wp2
       go_meet
       case rel => exact ⟨_, (0), (1), (0), (0), (0), (0), (0), (0), H', ⟨z6_11⟩, ⟨by (with_reducible repeat (first | apply Kd.R_alloc | apply Kd.R_drewN | apply Kd.R_drew)); exact Kd.R_mono (Kd.R_far (p := ⟨gb196, 5, none⟩) (Kd.R_mono ab.out (fun k_ hk => (⟨hk, hk⟩ : _ ∧ k_ ≠ gb196))) (fun _ hk => hk.2) (.int .i64 1)) (fun _ hk => hk.1)⟩, ⟨by (with_reducible repeat (first | apply Kd.R_alloc | apply Kd.R_drewN | apply Kd.R_drew)); exact Kd.R_mono (Kd.R_far (p := ⟨gb196, 5, none⟩) (Kd.R_types aa.out BK196.out (by decide)) (fun _ hk => hk.2) (.int .i64 1)) (fun _ hk => trivial)⟩, ⟨gZ ac.out BK193.out⟩, ⟨gZ ae.out BK195.out⟩, ⟨bZ BK196.out⟩, ⟨z6_1⟩⟩
      ·rw [if_neg c35] at H
       clear c35
       by_cases c39 : x14_1 = 2
       ·rw [if_pos c39] at H
        subst c39
        (try have hz_ := eq_true (by have h_ := of_decide_eq_true c5b0; omega : 2 < l0.length))
        have H' := Aside0.mk H
        clear H
        have hnb40 := ag.out
        have hnc40 := ac.out
        have hnb41 := ap.out
        have hnc41 := ae.out
        have bw : w30.cell? ⟨gb196, 6, none⟩ = some (.int .i64 0) := bA6 BK196 rfl
        have bx := blk_frozen BK196.out 6
        go_wp2
        go_meet
        case rel => exact ⟨_, (0), (0), (1), (0), (0), (0), (0), (0), H', ⟨z6_11⟩, ⟨by (with_reducible repeat (first | apply Kd.R_alloc | apply Kd.R_drewN | apply Kd.R_drew)); exact Kd.R_mono (Kd.R_far (p := ⟨gb196, 6, none⟩) (Kd.R_mono ab.out (fun k_ hk => (⟨hk, hk⟩ : _ ∧ k_ ≠ gb196))) (fun _ hk => hk.2) (.int .i64 1)) (fun _ hk => hk.1)⟩, ⟨by (with_reducible repeat (first | apply Kd.R_alloc | apply Kd.R_drewN | apply Kd.R_drew)); exact Kd.R_mono (Kd.R_far (p := ⟨gb196, 6, none⟩) (Kd.R_types aa.out BK196.out (by decide)) (fun _ hk => hk.2) (.int .i64 1)) (fun _ hk => trivial)⟩, ⟨gZ ac.out BK193.out⟩, ⟨gZ ae.out BK195.out⟩, ⟨bZ BK196.out⟩, ⟨z6_1⟩⟩
       ·rw [if_neg c39] at H
        clear c39
        by_cases c43 : x14_1 = 3
        ·rw [if_pos c43] at H
         subst c43
         (try have hz_ := eq_true (by have h_ := of_decide_eq_true c5b0; omega : 3 < l0.length))
         have H' := Aside0.mk H
         clear H
         have hnb44 := ag.out
         have hnc44 := ac.out
         have hnb45 := ap.out
         have hnc45 := ae.out
         have bz : w30.cell? ⟨gb196, 7, none⟩ = some (.int .i64 0) := bA6 BK196 rfl
         have bA := blk_frozen BK196.out 7
         go_wp2
         go_meet
         case rel => exact ⟨_, (0), (0), (0), (1), (0), (0), (0), (0), H', ⟨z6_11⟩, ⟨by (with_reducible repeat (first | apply Kd.R_alloc | apply Kd.R_drewN | apply Kd.R_drew)); exact Kd.R_mono (Kd.R_far (p := ⟨gb196, 7, none⟩) (Kd.R_mono ab.out (fun k_ hk => (⟨hk, hk⟩ : _ ∧ k_ ≠ gb196))) (fun _ hk => hk.2) (.int .i64 1)) (fun _ hk => hk.1)⟩, ⟨by (with_reducible repeat (first | apply Kd.R_alloc | apply Kd.R_drewN | apply Kd.R_drew)); exact Kd.R_mono (Kd.R_far (p := ⟨gb196, 7, none⟩) (Kd.R_types aa.out BK196.out (by decide)) (fun _ hk => hk.2) (.int .i64 1)) (fun _ hk => trivial)⟩, ⟨gZ ac.out BK193.out⟩, ⟨gZ ae.out BK195.out⟩, ⟨bZ BK196.out⟩, ⟨z6_1⟩⟩
        ·rw [if_neg c43] at H
         clear c43
         by_cases c47 : x14_1 = 4
         ·rw [if_pos c47] at H
          subst c47
          (try have hz_ := eq_true (by have h_ := of_decide_eq_true c5b0; omega : 4 < l0.length))
          have H' := Aside0.mk H
          clear H
          have hnb48 := ag.out
          have hnc48 := ac.out
          have hnb49 := ap.out
          have hnc49 := ae.out
          have bB : w30.cell? ⟨gb196, 8, none⟩ = some (.int .i64 0) := bA6 BK196 rfl
          have bC := blk_frozen BK196.out 8
          go_wp2
          go_meet
          case rel => exact ⟨_, (0), (0), (0), (0), (1), (0), (0), (0), H', ⟨z6_11⟩, ⟨by (with_reducible repeat (first | apply Kd.R_alloc | apply Kd.R_drewN | apply Kd.R_drew)); exact Kd.R_mono (Kd.R_far (p := ⟨gb196, 8, none⟩) (Kd.R_mono ab.out (fun k_ hk => (⟨hk, hk⟩ : _ ∧ k_ ≠ gb196))) (fun _ hk => hk.2) (.int .i64 1)) (fun _ hk => hk.1)⟩, ⟨by (with_reducible repeat (first | apply Kd.R_alloc | apply Kd.R_drewN | apply Kd.R_drew)); exact Kd.R_mono (Kd.R_far (p := ⟨gb196, 8, none⟩) (Kd.R_types aa.out BK196.out (by decide)) (fun _ hk => hk.2) (.int .i64 1)) (fun _ hk => trivial)⟩, ⟨gZ ac.out BK193.out⟩, ⟨gZ ae.out BK195.out⟩, ⟨bZ BK196.out⟩, ⟨z6_1⟩⟩
         ·rw [if_neg c47] at H
          clear c47
          by_cases c51 : x14_1 = 5
          ·rw [if_pos c51] at H
           subst c51
           (try have hz_ := eq_true (by have h_ := of_decide_eq_true c5b0; omega : 5 < l0.length))
           have H' := Aside0.mk H
           clear H
           have hnb52 := ag.out
           have hnc52 := ac.out
           have hnb53 := ap.out
           have hnc53 := ae.out
           have bD : w30.cell? ⟨gb196, 9, none⟩ = some (.int .i64 0) := bA6 BK196 rfl
           have bE := blk_frozen BK196.out 9
           go_wp2
           go_meet
           case rel => exact ⟨_, (0), (0), (0), (0), (0), (1), (0), (0), H', ⟨z6_11⟩, ⟨by (with_reducible repeat (first | apply Kd.R_alloc | apply Kd.R_drewN | apply Kd.R_drew)); exact Kd.R_mono (Kd.R_far (p := ⟨gb196, 9, none⟩) (Kd.R_mono ab.out (fun k_ hk => (⟨hk, hk⟩ : _ ∧ k_ ≠ gb196))) (fun _ hk => hk.2) (.int .i64 1)) (fun _ hk => hk.1)⟩, ⟨by (with_reducible repeat (first | apply Kd.R_alloc | apply Kd.R_drewN | apply Kd.R_drew)); exact Kd.R_mono (Kd.R_far (p := ⟨gb196, 9, none⟩) (Kd.R_types aa.out BK196.out (by decide)) (fun _ hk => hk.2) (.int .i64 1)) (fun _ hk => trivial)⟩, ⟨gZ ac.out BK193.out⟩, ⟨gZ ae.out BK195.out⟩, ⟨bZ BK196.out⟩, ⟨z6_1⟩⟩
          ·rw [if_neg c51] at H
           clear c51
           by_cases c55 : x14_1 = 6
           ·rw [if_pos c55] at H
            subst c55
            (try have hz_ := eq_true (by have h_ := of_decide_eq_true c5b0; omega : 6 < l0.length))
            have H' := Aside0.mk H
            clear H
            have hnb56 := ag.out
            have hnc56 := ac.out
            have hnb57 := ap.out
            have hnc57 := ae.out
            have aI : w30.cell? ⟨gb196, 10, none⟩ = some (.int .i64 0) := bA6 BK196 rfl
            have aJ := blk_frozen BK196.out 10
            go_wp2
            go_meet
            case rel => exact ⟨_, (0), (0), (0), (0), (0), (0), (1), (0), H', ⟨z6_11⟩, ⟨by (with_reducible repeat (first | apply Kd.R_alloc | apply Kd.R_drewN | apply Kd.R_drew)); exact Kd.R_mono (Kd.R_far (p := ⟨gb196, 10, none⟩) (Kd.R_mono ab.out (fun k_ hk => (⟨hk, hk⟩ : _ ∧ k_ ≠ gb196))) (fun _ hk => hk.2) (.int .i64 1)) (fun _ hk => hk.1)⟩, ⟨by (with_reducible repeat (first | apply Kd.R_alloc | apply Kd.R_drewN | apply Kd.R_drew)); exact Kd.R_mono (Kd.R_far (p := ⟨gb196, 10, none⟩) (Kd.R_types aa.out BK196.out (by decide)) (fun _ hk => hk.2) (.int .i64 1)) (fun _ hk => trivial)⟩, ⟨gZ ac.out BK193.out⟩, ⟨gZ ae.out BK195.out⟩, ⟨bZ BK196.out⟩, ⟨z6_1⟩⟩
           ·rw [if_neg c55] at H
            clear c55; obtain ⟨c59, H⟩ := ifP H; subst c59
            (try have hz_ := eq_true (by have h_ := of_decide_eq_true c5b0; omega : 7 < l0.length))
            have H' := Aside0.mk H
            clear H
            have hnb60 := ag.out
            have hnc60 := ac.out
            have hnb61 := ap.out
            have hnc61 := ae.out
            have aK : w30.cell? ⟨gb196, 11, none⟩ = some (.int .i64 0) := bA6 BK196 rfl
            have aM := blk_frozen BK196.out 11
            go_wp2
            go_meet
            case rel => exact ⟨_, (0), (0), (0), (0), (0), (0), (0), (1), H', ⟨z6_11⟩, ⟨by (with_reducible repeat (first | apply Kd.R_alloc | apply Kd.R_drewN | apply Kd.R_drew)); exact Kd.R_mono (Kd.R_far (p := ⟨gb196, 11, none⟩) (Kd.R_mono ab.out (fun k_ hk => (⟨hk, hk⟩ : _ ∧ k_ ≠ gb196))) (fun _ hk => hk.2) (.int .i64 1)) (fun _ hk => hk.1)⟩, ⟨by (with_reducible repeat (first | apply Kd.R_alloc | apply Kd.R_drewN | apply Kd.R_drew)); exact Kd.R_mono (Kd.R_far (p := ⟨gb196, 11, none⟩) (Kd.R_types aa.out BK196.out (by decide)) (fun _ hk => hk.2) (.int .i64 1)) (fun _ hk => trivial)⟩, ⟨gZ ac.out BK193.out⟩, ⟨gZ ae.out BK195.out⟩, ⟨bZ BK196.out⟩, ⟨z6_1⟩⟩
    case rest =>
     clear HC6
     try clear c3
     try clear c3b0
     try clear c4
     try clear c4b0
     try clear c5
     try clear c5b0
     try clear aU
     try clear aW
     try clear aY
     try clear a0 a1 a2 a3
     try clear a8
     try clear ba
     try clear bc
     try clear be
     try clear bg
     try clear bi
     try clear bk
     try clear bm
     try clear bo
     try clear bq
     try clear aD
     try clear aG
     try clear b8
     try clear aV
     try clear aX
     try clear aZ
     try clear a4 a5 a6 a7
     try clear a9
     try clear bb
     try clear bd
     try clear bf
     try clear bh
     try clear bj
     try clear bl
     try clear bn
     try clear bp
     try clear br
     try clear aE
     try clear aH
     try clear b9
     try clear hx194_0 hx194_1 hx194_2 hx194_3
     try clear p194
     try clear q194
     obtain ⟨kq, aq, ar, au, av, aw, ax, ay, az, HA, HJ5, ab, aa, BK193, BK195, BK196, HB⟩ := hcut
     cases kq with
     | zero => exact absurd HA.out (by simp [impl_spanOf.j1])
     | succ kj5 =>
      have H := HA.out
      clear HA; simp only [impl_spanOf.j1] at H
      replace H := Option.bind_eq_some_iff.mp H
      obtain ⟨⟨t197, t198, t199, t200, t201, t202, t203, t204, t205, t206, t207, t208⟩, A630, H⟩ := H
      dsimp only at H
      have A63 := Aside0.mk A630
      clear A630
      replace H := Option.bind_eq_some_iff.mp H
      obtain ⟨t209, A640, H⟩ := H
      have A64 := Aside0.mk A640
      clear A640
      by_cases c65 : t209 < 0
      ·rw [if_pos c65] at H
       have c65b0 : decide (t209 < 0) = true := decide_eq_true c65; clear c65
       have H' := Aside0.mk H
       clear H
       have hnb66 := ag.out
       have hnc66 := ac.out
       have hnb67 := ap.out
       have hnc67 := ae.out
       have ca : wc.cell? ⟨gb196, 0, none⟩ = some (.int .i64 ((rd_T54 l0 x14_1).f0)) := bA6 BK196 rfl; have cb : wc.cell? ⟨gb196, 1, none⟩ = some (.int .i64 ((rd_T54 l0 x14_1).f1)) := bA6 BK196 rfl; have cc : wc.cell? ⟨gb196, 2, none⟩ = some (.int .i64 ((rd_T54 l0 x14_1).f2)) := bA6 BK196 rfl; have cd : wc.cell? ⟨gb196, 3, none⟩ = some (.int .i64 ((rd_T54 l0 x14_1).f3)) := bA6 BK196 rfl; have ce : wc.cell? ⟨gb196, 4, none⟩ = some (.int .i64 aq) := bA6 BK196 rfl; have cf : wc.cell? ⟨gb196, 5, none⟩ = some (.int .i64 ar) := bA6 BK196 rfl; have cg : wc.cell? ⟨gb196, 6, none⟩ = some (.int .i64 au) := bA6 BK196 rfl; have ch : wc.cell? ⟨gb196, 7, none⟩ = some (.int .i64 av) := bA6 BK196 rfl; have ci : wc.cell? ⟨gb196, 8, none⟩ = some (.int .i64 aw) := bA6 BK196 rfl; have cj : wc.cell? ⟨gb196, 9, none⟩ = some (.int .i64 ax) := bA6 BK196 rfl; have bF : wc.cell? ⟨gb196, 10, none⟩ = some (.int .i64 ay) := bA6 BK196 rfl; have bG : wc.cell? ⟨gb196, 11, none⟩ = some (.int .i64 az) := bA6 BK196 rfl
       have ck := blk_frozen BK196.out 0
       have cl := blk_frozen BK196.out 1
       have cm := blk_frozen BK196.out 2
       have cn := blk_frozen BK196.out 3
       have co := blk_frozen BK196.out 4
       have cp := blk_frozen BK196.out 5
       have cq := blk_frozen BK196.out 6
       have cr := blk_frozen BK196.out 7
       have ct := blk_frozen BK196.out 8
       have cu := blk_frozen BK196.out 9
       have bH := blk_frozen BK196.out 10
       have bI := blk_frozen BK196.out 11
       go_wp2_with (first | ((with_reducible refine gate_callee (f := 55) rfl ?_); refine goesL_ (some 26) rfl rfl Try.func55 (by kernel_rfl) rfl #[.pointer (some ⟨gb193, 0, none⟩), .agg #[.int .i64 ((rd_T54 l0 x14_1).f0), .int .i64 ((rd_T54 l0 x14_1).f1), .int .i64 ((rd_T54 l0 x14_1).f2), .int .i64 ((rd_T54 l0 x14_1).f3), .int .i64 aq, .int .i64 ar, .int .i64 au, .int .i64 av, .int .i64 aw, .int .i64 ax, .int .i64 ay, .int .i64 az]] rfl z6_4 ?_; (with_reducible refine (impl_span_lessB.calls kj5 u194000 af u194001 ad ((rd_T54 l0 x14_1).f0) ((rd_T54 l0 x14_1).f1) ((rd_T54 l0 x14_1).f2) ((rd_T54 l0 x14_1).f3) aq ar au av aw ax ay az t197 t198 t199 t200 t201 t202 t203 t204 t205 t206 t207 t208 _ ?side1 ?side2 ?side3 A63.out).mono ?_); (case side1 => (with_reducible repeat first|refine blk_drewN ?_ _|refine blk_drew ?_|refine blk_alloc ?_ _); exact BK193.out); (case side2 => exact own_open z6_2); (case side3 => exact own_open z6_3); rintro e w69 ⟨rfl, hb⟩; refine ⟨_, rfl, ?_⟩; replace ab := Aside0.mk (Kd.R_below z6_2 hb); replace aa := Aside0.mk (Kd.R_below z6_3 hb); replace BK193 := bBZ_ BK193 hb; replace BK195 := bBZ_ BK195 hb; replace BK196 := bBZ_ BK196 hb; replace HB := Aside0.mk (below_step z6_1 hb); (try clear hb); have cv : w69.cell? ⟨gb196, 0, none⟩ = some (.int .i64 ((rd_T54 l0 x14_1).f0)) := bA6 BK196 rfl; have cw := blk_frozen BK196.out 0; have cx : w69.cell? ⟨gb196, 1, none⟩ = some (.int .i64 ((rd_T54 l0 x14_1).f1)) := bA6 BK196 rfl; have cy := blk_frozen BK196.out 1; have cz : w69.cell? ⟨gb196, 2, none⟩ = some (.int .i64 ((rd_T54 l0 x14_1).f2)) := bA6 BK196 rfl; have cA := blk_frozen BK196.out 2; have cB : w69.cell? ⟨gb196, 3, none⟩ = some (.int .i64 ((rd_T54 l0 x14_1).f3)) := bA6 BK196 rfl; have cC := blk_frozen BK196.out 3; have cD : w69.cell? ⟨gb196, 4, none⟩ = some (.int .i64 aq) := bA6 BK196 rfl; have cE := blk_frozen BK196.out 4; have cF : w69.cell? ⟨gb196, 5, none⟩ = some (.int .i64 ar) := bA6 BK196 rfl; have cG := blk_frozen BK196.out 5; have cH : w69.cell? ⟨gb196, 6, none⟩ = some (.int .i64 au) := bA6 BK196 rfl; have cI := blk_frozen BK196.out 6; have cJ : w69.cell? ⟨gb196, 7, none⟩ = some (.int .i64 av) := bA6 BK196 rfl; have cK := blk_frozen BK196.out 7; have cL : w69.cell? ⟨gb196, 8, none⟩ = some (.int .i64 aw) := bA6 BK196 rfl; have cM := blk_frozen BK196.out 8; have cN : w69.cell? ⟨gb196, 9, none⟩ = some (.int .i64 ax) := bA6 BK196 rfl; have cO := blk_frozen BK196.out 9; have bJ : w69.cell? ⟨gb196, 10, none⟩ = some (.int .i64 ay) := bA6 BK196 rfl; have bK := blk_frozen BK196.out 10; have bL : w69.cell? ⟨gb196, 11, none⟩ = some (.int .i64 az) := bA6 BK196 rfl; have bM := blk_frozen BK196.out 11) | ((with_reducible refine gate_store (t := 81) (p := 6) rfl ?_); refine store_event (t := 81) (p := 6) (v := ?vo_w82) (w1 := ((((((((((((w69.setCell ⟨gb196, 0, none⟩ (.int .i64 t197)).setCell ⟨gb196, 1, none⟩ (.int .i64 t198)).setCell ⟨gb196, 2, none⟩ (.int .i64 t199)).setCell ⟨gb196, 3, none⟩ (.int .i64 t200)).setCell ⟨gb196, 4, none⟩ (.int .i64 t201)).setCell ⟨gb196, 5, none⟩ (.int .i64 t202)).setCell ⟨gb196, 6, none⟩ (.int .i64 t203)).setCell ⟨gb196, 7, none⟩ (.int .i64 t204)).setCell ⟨gb196, 8, none⟩ (.int .i64 t205)).setCell ⟨gb196, 9, none⟩ (.int .i64 t206)).setCell ⟨gb196, 10, none⟩ (.int .i64 t207)).setCell ⟨gb196, 11, none⟩ (.int .i64 t208))) ?hg ?ho ?hn ?hr ?_; (case ho => rfl); (case hg => rfl); (case hn => rfl); (case hr => first | (go_simp; done) | (go_simp; rfl)); intro w82 hw; have n0_ : Aside0 (Kd.R k81 81 w82 w.heap.size (fun k_ => k_ ≠ gb196) u194000 af) := ⟨z6_5⟩; have n1_ : Aside0 (Kd.R (Kd.int .i64) 3 w82 w.heap.size (fun _ => True) u194001 ad) := ⟨z6_6⟩; have n2_ : Aside0 (w82.heap[gb193]? = some (.cells #[u194000, u194001] 79 (0, 0))) := ⟨z6_22⟩; have n3_ : Aside0 (w82.heap[gb195]? = some (.cells #[.int .i64 ((rd_T54 l0 x14_1).f0), .int .i64 ((rd_T54 l0 x14_1).f1), .int .i64 ((rd_T54 l0 x14_1).f2), .int .i64 ((rd_T54 l0 x14_1).f3)] 54 (0, 0))) := ⟨z6_23⟩; have n4_ : Aside0 (w82.heap[gb196]? = some (.cells #[.int .i64 t197, .int .i64 t198, .int .i64 t199, .int .i64 t200, .int .i64 t201, .int .i64 t202, .int .i64 t203, .int .i64 t204, .int .i64 t205, .int .i64 t206, .int .i64 t207, .int .i64 t208] 81 (0, 0))) := ⟨(by rw [hw]; exact (bZ BK196.out))⟩; have n5_ : Aside0 (Below w.heap.size w w82) := ⟨(by rw [hw]; exact z6_1)⟩; clear hw; clear ab; clear aa; clear BK193; clear BK195; clear BK196; clear HB; have ab := n0_; have aa := n1_; have BK193 := n2_; have BK195 := n3_; have BK196 := n4_; have HB := n5_; clear n0_ n1_ n2_ n3_ n4_ n5_; have cP : w82.cell? ⟨gb196, 0, none⟩ = some (.int .i64 t197) := bA6 BK196 rfl; have cQ : w82.cell? ⟨gb196, 1, none⟩ = some (.int .i64 t198) := bA6 BK196 rfl; have cR : w82.cell? ⟨gb196, 2, none⟩ = some (.int .i64 t199) := bA6 BK196 rfl; have cS : w82.cell? ⟨gb196, 3, none⟩ = some (.int .i64 t200) := bA6 BK196 rfl; have cT := blk_frozen BK196.out 0; have cU := blk_frozen BK196.out 1; have cV := blk_frozen BK196.out 2; have cW := blk_frozen BK196.out 3) | ((with_reducible refine gate_callee (f := 56) rfl ?_); refine goesL_ (some 29) rfl rfl Try.func56 (by kernel_rfl) rfl #[.agg #[.int .i64 t197, .int .i64 t198, .int .i64 t199, .int .i64 t200]] rfl z6_4 ?_; (with_reducible refine (impl_vector_lead.calls t197 t198 t199 t200 t209 _ A64.out).mono ?_); rintro e w84 ⟨rfl, hb⟩; refine ⟨_, rfl, ?_⟩; replace ab := Aside0.mk (Kd.R_below z6_2 hb); replace aa := Aside0.mk (Kd.R_below z6_3 hb); replace BK193 := bBZ_ BK193 hb; replace BK195 := bBZ_ BK195 hb; replace BK196 := bBZ_ BK196 hb; replace HB := Aside0.mk (below_step z6_1 hb); (try clear hb)))
       go_roundg kj5
       case measure => have := HK1.out; have := HJ5.out; omega
       case rel => exact ⟨(wrap64 (x14_1 + 1)), (af), (ad), (u194000), (u194001), z6_12, H', ⟨by have := HK1.out; have := HJ5.out; omega⟩, ⟨by (with_reducible repeat (first | apply Kd.R_alloc | apply Kd.R_drewN | apply Kd.R_drew)); exact Kd.R_mono ab.out (fun _ hk => trivial)⟩, ⟨z6_3⟩, ⟨zL6 BK193.out⟩, ⟨z6_1⟩⟩
      ·rw [if_neg c65] at H
       have c65b0 : decide (t209 < 0) = false := decide_eq_false c65; clear c65
       have HC85 := Aside0.mk H
       clear H
       have hnb86 := ag.out
       have hnc86 := ac.out
       have hnb87 := ap.out
       have hnc87 := ae.out
       have cX : wc.cell? ⟨gb196, 0, none⟩ = some (.int .i64 ((rd_T54 l0 x14_1).f0)) := bA6 BK196 rfl; have cY : wc.cell? ⟨gb196, 1, none⟩ = some (.int .i64 ((rd_T54 l0 x14_1).f1)) := bA6 BK196 rfl; have cZ : wc.cell? ⟨gb196, 2, none⟩ = some (.int .i64 ((rd_T54 l0 x14_1).f2)) := bA6 BK196 rfl; have c2 : wc.cell? ⟨gb196, 3, none⟩ = some (.int .i64 ((rd_T54 l0 x14_1).f3)) := bA6 BK196 rfl; have c7 : wc.cell? ⟨gb196, 4, none⟩ = some (.int .i64 aq) := bA6 BK196 rfl; have c9 : wc.cell? ⟨gb196, 5, none⟩ = some (.int .i64 ar) := bA6 BK196 rfl; have da : wc.cell? ⟨gb196, 6, none⟩ = some (.int .i64 au) := bA6 BK196 rfl; have db : wc.cell? ⟨gb196, 7, none⟩ = some (.int .i64 av) := bA6 BK196 rfl; have dc : wc.cell? ⟨gb196, 8, none⟩ = some (.int .i64 aw) := bA6 BK196 rfl; have dd : wc.cell? ⟨gb196, 9, none⟩ = some (.int .i64 ax) := bA6 BK196 rfl; have bN : wc.cell? ⟨gb196, 10, none⟩ = some (.int .i64 ay) := bA6 BK196 rfl; have bO : wc.cell? ⟨gb196, 11, none⟩ = some (.int .i64 az) := bA6 BK196 rfl
       have de := blk_frozen BK196.out 0
       have df := blk_frozen BK196.out 1
       have dg := blk_frozen BK196.out 2
       have dh := blk_frozen BK196.out 3
       have di := blk_frozen BK196.out 4
       have dj := blk_frozen BK196.out 5
       have dk := blk_frozen BK196.out 6
       have dl := blk_frozen BK196.out 7
       have dm := blk_frozen BK196.out 8
       have dn := blk_frozen BK196.out 9
       have bP := blk_frozen BK196.out 10
       have bQ := blk_frozen BK196.out 11
       go_upto_region 10 with (first | ((with_reducible refine gate_callee (f := 55) rfl ?_); refine goesL_ (some 26) rfl rfl Try.func55 (by kernel_rfl) rfl #[.pointer (some ⟨gb193, 0, none⟩), .agg #[.int .i64 ((rd_T54 l0 x14_1).f0), .int .i64 ((rd_T54 l0 x14_1).f1), .int .i64 ((rd_T54 l0 x14_1).f2), .int .i64 ((rd_T54 l0 x14_1).f3), .int .i64 aq, .int .i64 ar, .int .i64 au, .int .i64 av, .int .i64 aw, .int .i64 ax, .int .i64 ay, .int .i64 az]] rfl z6_4 ?_; (with_reducible refine (impl_span_lessB.calls kj5 u194000 af u194001 ad ((rd_T54 l0 x14_1).f0) ((rd_T54 l0 x14_1).f1) ((rd_T54 l0 x14_1).f2) ((rd_T54 l0 x14_1).f3) aq ar au av aw ax ay az t197 t198 t199 t200 t201 t202 t203 t204 t205 t206 t207 t208 _ ?side1 ?side2 ?side3 A63.out).mono ?_); (case side1 => (with_reducible repeat first|refine blk_drewN ?_ _|refine blk_drew ?_|refine blk_alloc ?_ _); exact BK193.out); (case side2 => exact own_open z6_2); (case side3 => exact own_open z6_3); rintro e w89 ⟨rfl, hb⟩; refine ⟨_, rfl, ?_⟩; replace ab := Aside0.mk (Kd.R_below z6_2 hb); replace aa := Aside0.mk (Kd.R_below z6_3 hb); replace BK193 := bBZ_ BK193 hb; replace BK195 := bBZ_ BK195 hb; replace BK196 := bBZ_ BK196 hb; replace HB := Aside0.mk (below_step z6_1 hb); (try clear hb); have dp : w89.cell? ⟨gb196, 0, none⟩ = some (.int .i64 ((rd_T54 l0 x14_1).f0)) := bA6 BK196 rfl; have dq := blk_frozen BK196.out 0; have dr : w89.cell? ⟨gb196, 1, none⟩ = some (.int .i64 ((rd_T54 l0 x14_1).f1)) := bA6 BK196 rfl; have dt := blk_frozen BK196.out 1; have du : w89.cell? ⟨gb196, 2, none⟩ = some (.int .i64 ((rd_T54 l0 x14_1).f2)) := bA6 BK196 rfl; have dv := blk_frozen BK196.out 2; have dw : w89.cell? ⟨gb196, 3, none⟩ = some (.int .i64 ((rd_T54 l0 x14_1).f3)) := bA6 BK196 rfl; have dx := blk_frozen BK196.out 3; have dy : w89.cell? ⟨gb196, 4, none⟩ = some (.int .i64 aq) := bA6 BK196 rfl; have dz := blk_frozen BK196.out 4; have dA : w89.cell? ⟨gb196, 5, none⟩ = some (.int .i64 ar) := bA6 BK196 rfl; have dB := blk_frozen BK196.out 5; have dC : w89.cell? ⟨gb196, 6, none⟩ = some (.int .i64 au) := bA6 BK196 rfl; have dD := blk_frozen BK196.out 6; have dE : w89.cell? ⟨gb196, 7, none⟩ = some (.int .i64 av) := bA6 BK196 rfl; have dF := blk_frozen BK196.out 7; have dG : w89.cell? ⟨gb196, 8, none⟩ = some (.int .i64 aw) := bA6 BK196 rfl; have dH := blk_frozen BK196.out 8; have dI : w89.cell? ⟨gb196, 9, none⟩ = some (.int .i64 ax) := bA6 BK196 rfl; have dJ := blk_frozen BK196.out 9; have aN : w89.cell? ⟨gb196, 10, none⟩ = some (.int .i64 ay) := bA6 BK196 rfl; have aQ := blk_frozen BK196.out 10; have aR : w89.cell? ⟨gb196, 11, none⟩ = some (.int .i64 az) := bA6 BK196 rfl; have aT := blk_frozen BK196.out 11) | ((with_reducible refine gate_store (t := 81) (p := 6) rfl ?_); refine store_event (t := 81) (p := 6) (v := ?vo_w102) (w1 := ((((((((((((w89.setCell ⟨gb196, 0, none⟩ (.int .i64 t197)).setCell ⟨gb196, 1, none⟩ (.int .i64 t198)).setCell ⟨gb196, 2, none⟩ (.int .i64 t199)).setCell ⟨gb196, 3, none⟩ (.int .i64 t200)).setCell ⟨gb196, 4, none⟩ (.int .i64 t201)).setCell ⟨gb196, 5, none⟩ (.int .i64 t202)).setCell ⟨gb196, 6, none⟩ (.int .i64 t203)).setCell ⟨gb196, 7, none⟩ (.int .i64 t204)).setCell ⟨gb196, 8, none⟩ (.int .i64 t205)).setCell ⟨gb196, 9, none⟩ (.int .i64 t206)).setCell ⟨gb196, 10, none⟩ (.int .i64 t207)).setCell ⟨gb196, 11, none⟩ (.int .i64 t208))) ?hg ?ho ?hn ?hr ?_; (case ho => rfl); (case hg => rfl); (case hn => rfl); (case hr => first | (go_simp; done) | (go_simp; rfl)); intro w102 hw; have n0_ : Aside0 (Kd.R k81 81 w102 w.heap.size (fun k_ => k_ ≠ gb196) u194000 af) := ⟨z6_5⟩; have n1_ : Aside0 (Kd.R (Kd.int .i64) 3 w102 w.heap.size (fun _ => True) u194001 ad) := ⟨z6_6⟩; have n2_ : Aside0 (w102.heap[gb193]? = some (.cells #[u194000, u194001] 79 (0, 0))) := ⟨z6_22⟩; have n3_ : Aside0 (w102.heap[gb195]? = some (.cells #[.int .i64 ((rd_T54 l0 x14_1).f0), .int .i64 ((rd_T54 l0 x14_1).f1), .int .i64 ((rd_T54 l0 x14_1).f2), .int .i64 ((rd_T54 l0 x14_1).f3)] 54 (0, 0))) := ⟨z6_23⟩; have n4_ : Aside0 (w102.heap[gb196]? = some (.cells #[.int .i64 t197, .int .i64 t198, .int .i64 t199, .int .i64 t200, .int .i64 t201, .int .i64 t202, .int .i64 t203, .int .i64 t204, .int .i64 t205, .int .i64 t206, .int .i64 t207, .int .i64 t208] 81 (0, 0))) := ⟨(by rw [hw]; exact (bZ BK196.out))⟩; have n5_ : Aside0 (Below w.heap.size w w102) := ⟨(by rw [hw]; exact z6_1)⟩; clear hw; clear ab; clear aa; clear BK193; clear BK195; clear BK196; clear HB; have ab := n0_; have aa := n1_; have BK193 := n2_; have BK195 := n3_; have BK196 := n4_; have HB := n5_; clear n0_ n1_ n2_ n3_ n4_ n5_; have bR : w102.cell? ⟨gb196, 0, none⟩ = some (.int .i64 t197) := bA6 BK196 rfl; have bS : w102.cell? ⟨gb196, 1, none⟩ = some (.int .i64 t198) := bA6 BK196 rfl; have bT : w102.cell? ⟨gb196, 2, none⟩ = some (.int .i64 t199) := bA6 BK196 rfl; have bU : w102.cell? ⟨gb196, 3, none⟩ = some (.int .i64 t200) := bA6 BK196 rfl; have bV := blk_frozen BK196.out 0; have bW := blk_frozen BK196.out 1; have bX := blk_frozen BK196.out 2; have bY := blk_frozen BK196.out 3) | ((with_reducible refine gate_callee (f := 56) rfl ?_); refine goesL_ (some 29) rfl rfl Try.func56 (by kernel_rfl) rfl #[.agg #[.int .i64 t197, .int .i64 t198, .int .i64 t199, .int .i64 t200]] rfl z6_4 ?_; (with_reducible refine (impl_vector_lead.calls t197 t198 t199 t200 t209 _ A64.out).mono ?_); rintro e w104 ⟨rfl, hb⟩; refine ⟨_, rfl, ?_⟩; replace ab := Aside0.mk (Kd.R_below z6_2 hb); replace aa := Aside0.mk (Kd.R_below z6_3 hb); replace BK193 := bBZ_ BK193 hb; replace BK195 := bBZ_ BK195 hb; replace BK196 := bBZ_ BK196 hb; replace HB := Aside0.mk (below_step z6_1 hb); (try clear hb)))
       (try simp only [Act.put, List.setIfInBounds_toArray, List.set_cons_zero, List.set_cons_succ])
       go_cut [8] (fun v8 wc => ∃ (kq : Nat) (x8_84 : Int), v8 = .int .i64 x8_84 ∧ Aside0 (impl_spanOf.j2 kq x14_1 x8_84 l0 (l0.length : Int) x14_1 af ad t197 t198 t199 t200 t201 t202 t203 t204 t205 t206 t207 t208 = some (r1, r2)) ∧ Aside0 (kq ≤ kj5) ∧ Aside0 (Kd.R k81 81 wc w.heap.size (fun k_ => k_ ≠ gb196) u194000 af) ∧ Aside0 (Kd.R (Kd.int .i64) 3 wc w.heap.size (fun _ => True) u194001 ad) ∧ Aside0 (wc.heap[gb193]? = some (.cells #[u194000, u194001] 79 (0, 0))) ∧ Aside0 (wc.heap[gb195]? = some (.cells #[.int .i64 ((rd_T54 l0 x14_1).f0), .int .i64 ((rd_T54 l0 x14_1).f1), .int .i64 ((rd_T54 l0 x14_1).f2), .int .i64 ((rd_T54 l0 x14_1).f3)] 54 (0, 0))) ∧ Aside0 (wc.heap[gb196]? = some (.cells #[.int .i64 t197, .int .i64 t198, .int .i64 t199, .int .i64 t200, .int .i64 t201, .int .i64 t202, .int .i64 t203, .int .i64 t204, .int .i64 t205, .int .i64 t206, .int .i64 t207, .int .i64 t208] 81 (0, 0))) ∧ Aside0 (Below w.heap.size w wc))
       case first =>
        have H := HC85.out
        clear HC85
        by_cases c105 : t209 = 0
        ·rw [if_pos c105] at H
         subst c105
         replace H := Option.bind_eq_some_iff.mp H
         obtain ⟨t210, A1060, H⟩ := H
         have A106 := Aside0.mk A1060
         clear A1060
         have H' := Aside0.mk H
         clear H
         have hnb107 := ag.out
         have hnc107 := ac.out
         have hnb108 := ap.out
         have hnc108 := ae.out
         have b0 : w104.cell? ⟨gb196, 0, none⟩ = some (.int .i64 t197) := bA6 BK196 rfl
         have b1 := blk_frozen BK196.out 0
         go_wp2_with (first | ((with_reducible refine gate_callee (f := 57) rfl ?_); refine goesL_ (some 36) rfl rfl Try.func57 (by kernel_rfl) rfl #[.int .i64 t197] rfl z6_4 ?_; (with_reducible refine (impl_element_inverse.calls kj5 t197 t210 _ A106.out).mono ?_); rintro e w' ⟨rfl, ⟨nd, rfl⟩⟩; refine ⟨_, rfl, ?_⟩))
         go_meet
         case rel => exact ⟨_, (t210), z6_12, H', ⟨z6_17⟩, ⟨z6_2⟩, ⟨z6_3⟩, ⟨zL6 BK193.out⟩, ⟨zL6 BK195.out⟩, ⟨zL6 BK196.out⟩, ⟨z6_1⟩⟩
        ·rw [if_neg c105] at H
         clear c105
         by_cases c110 : t209 = 1
         ·rw [if_pos c110] at H
          subst c110
          replace H := Option.bind_eq_some_iff.mp H
          obtain ⟨t211, A1110, H⟩ := H
          have A111 := Aside0.mk A1110
          clear A1110
          have H' := Aside0.mk H
          clear H
          have hnb112 := ag.out
          have hnc112 := ac.out
          have hnb113 := ap.out
          have hnc113 := ae.out
          have b2 : w104.cell? ⟨gb196, 1, none⟩ = some (.int .i64 t198) := bA6 BK196 rfl
          have b3 := blk_frozen BK196.out 1
          go_wp2_with (first | ((with_reducible refine gate_callee (f := 57) rfl ?_); refine goesL_ (some 36) rfl rfl Try.func57 (by kernel_rfl) rfl #[.int .i64 t198] rfl z6_4 ?_; (with_reducible refine (impl_element_inverse.calls kj5 t198 t211 _ A111.out).mono ?_); rintro e w' ⟨rfl, ⟨nd, rfl⟩⟩; refine ⟨_, rfl, ?_⟩))
          go_meet
          case rel => exact ⟨_, (t211), z6_12, H', ⟨z6_17⟩, ⟨z6_2⟩, ⟨z6_3⟩, ⟨zL6 BK193.out⟩, ⟨zL6 BK195.out⟩, ⟨zL6 BK196.out⟩, ⟨z6_1⟩⟩
         ·rw [if_neg c110] at H
          clear c110
          by_cases c115 : t209 = 2
          ·rw [if_pos c115] at H
           subst c115
           replace H := Option.bind_eq_some_iff.mp H
           obtain ⟨t212, A1160, H⟩ := H
           have A116 := Aside0.mk A1160
           clear A1160
           have H' := Aside0.mk H
           clear H
           have hnb117 := ag.out
           have hnc117 := ac.out
           have hnb118 := ap.out
           have hnc118 := ae.out
           have b4 : w104.cell? ⟨gb196, 2, none⟩ = some (.int .i64 t199) := bA6 BK196 rfl
           have b5 := blk_frozen BK196.out 2
           go_wp2_with (first | ((with_reducible refine gate_callee (f := 57) rfl ?_); refine goesL_ (some 36) rfl rfl Try.func57 (by kernel_rfl) rfl #[.int .i64 t199] rfl z6_4 ?_; (with_reducible refine (impl_element_inverse.calls kj5 t199 t212 _ A116.out).mono ?_); rintro e w' ⟨rfl, ⟨nd, rfl⟩⟩; refine ⟨_, rfl, ?_⟩))
           go_meet
           case rel => exact ⟨_, (t212), z6_12, H', ⟨z6_17⟩, ⟨z6_2⟩, ⟨z6_3⟩, ⟨zL6 BK193.out⟩, ⟨zL6 BK195.out⟩, ⟨zL6 BK196.out⟩, ⟨z6_1⟩⟩
          ·rw [if_neg c115] at H
           clear c115; obtain ⟨c120, H⟩ := ifP H; subst c120
           replace H := Option.bind_eq_some_iff.mp H
           obtain ⟨t213, A1210, H⟩ := H
           have A121 := Aside0.mk A1210
           clear A1210
           have H' := Aside0.mk H
           clear H
           have hnb122 := ag.out
           have hnc122 := ac.out
           have hnb123 := ap.out
           have hnc123 := ae.out
           have b6 : w104.cell? ⟨gb196, 3, none⟩ = some (.int .i64 t200) := bA6 BK196 rfl
           have b7 := blk_frozen BK196.out 3
           go_wp2_with (first | ((with_reducible refine gate_callee (f := 57) rfl ?_); refine goesL_ (some 36) rfl rfl Try.func57 (by kernel_rfl) rfl #[.int .i64 t200] rfl z6_4 ?_; (with_reducible refine (impl_element_inverse.calls kj5 t200 t213 _ A121.out).mono ?_); rintro e w' ⟨rfl, ⟨nd, rfl⟩⟩; refine ⟨_, rfl, ?_⟩))
           go_meet
           case rel => exact ⟨_, (t213), z6_12, H', ⟨z6_17⟩, ⟨z6_2⟩, ⟨z6_3⟩, ⟨zL6 BK193.out⟩, ⟨zL6 BK195.out⟩, ⟨zL6 BK196.out⟩, ⟨z6_1⟩⟩
       case rest =>
        clear HC85
        try clear c3
        try clear c3b0
        try clear c4
        try clear c4b0
        try clear c5
        try clear c5b0
        try clear c65
        try clear c65b0
        try clear aN
        try clear aR
        try clear bR bS bT bU
        try clear aU
        try clear aW
        try clear aY
        try clear a0 a1 a2 a3
        try clear a8
        try clear ba
        try clear bc
        try clear be
        try clear bg
        try clear bi
        try clear bk
        try clear bm
        try clear bo
        try clear bq
        try clear aD
        try clear aG
        try clear cX cY bN bO cZ c2 c7 c9 da db dc dd
        try clear dp
        try clear dr
        try clear du
        try clear dw
        try clear dy
        try clear dA
        try clear dC
        try clear dE
        try clear dG
        try clear dI
        try clear b8
        try clear aQ
        try clear aT
        try clear bV bW bX bY
        try clear aV
        try clear aX
        try clear aZ
        try clear a4 a5 a6 a7
        try clear a9
        try clear bb
        try clear bd
        try clear bf
        try clear bh
        try clear bj
        try clear bl
        try clear bn
        try clear bp
        try clear br
        try clear aE
        try clear aH
        try clear de df bP bQ dg dh di dj dk dl dm dn
        try clear dq
        try clear dt
        try clear dv
        try clear dx
        try clear dz
        try clear dB
        try clear dD
        try clear dF
        try clear dH
        try clear dJ
        try clear b9
        try clear hx194_0 hx194_1 hx194_2 hx194_3
        try clear p194
        try clear q194
        obtain ⟨kq, x8_84, rfl, HA, HJ84, ab, aa, BK193, BK195, BK196, HB⟩ := hcut
        cases kq with
        | zero => exact absurd HA.out (by simp [impl_spanOf.j2])
        | succ kj84 =>
         have H := HA.out
         clear HA; simp only [impl_spanOf.j2] at H
         replace H := Option.bind_eq_some_iff.mp H
         obtain ⟨⟨t214, t215, t216, t217⟩, A1250, H⟩ := H
         dsimp only at H
         have A125 := Aside0.mk A1250
         clear A1250
         have H' := Aside0.mk H
         clear H
         have hnb126 := ag.out
         have hnc126 := ac.out
         have hnb127 := ap.out
         have hnc127 := ae.out
         have dK : wc.cell? ⟨gb196, 0, none⟩ = some (.int .i64 t197) := bA6 BK196 rfl; have dL : wc.cell? ⟨gb196, 1, none⟩ = some (.int .i64 t198) := bA6 BK196 rfl; have dM : wc.cell? ⟨gb196, 2, none⟩ = some (.int .i64 t199) := bA6 BK196 rfl; have dN : wc.cell? ⟨gb196, 3, none⟩ = some (.int .i64 t200) := bA6 BK196 rfl
         have dO := blk_frozen BK196.out 0
         have dP := blk_frozen BK196.out 1
         have dQ := blk_frozen BK196.out 2
         have dR := blk_frozen BK196.out 3
         go_wp2_with (first | ((with_reducible refine gate_callee (f := 34) rfl ?_); refine goesL_ (some 40) rfl rfl Try.func34 (by kernel_rfl) rfl #[.agg #[.int .i64 t197, .int .i64 t198, .int .i64 t199, .int .i64 t200], .int .i64 x8_84] rfl z6_4 ?_; (with_reducible refine (impl_vector_times.calls t197 t198 t199 t200 x8_84 t214 t215 t216 t217 _ A125.out).mono ?_); rintro e w129 ⟨rfl, hb⟩; refine ⟨_, rfl, ?_⟩; replace ab := Aside0.mk (Kd.R_below z6_2 hb); replace aa := Aside0.mk (Kd.R_below z6_3 hb); replace BK193 := bBZ_ BK193 hb; replace BK195 := bBZ_ BK195 hb; replace BK196 := bBZ_ BK196 hb; replace HB := Aside0.mk (below_step z6_1 hb); (try clear hb); have dS : w129.cell? ⟨gb196, 0, none⟩ = some (.int .i64 t197) := bA6 BK196 rfl; have dT := blk_frozen BK196.out 0; have dU : w129.cell? ⟨gb196, 1, none⟩ = some (.int .i64 t198) := bA6 BK196 rfl; have dV := blk_frozen BK196.out 1; have dW : w129.cell? ⟨gb196, 2, none⟩ = some (.int .i64 t199) := bA6 BK196 rfl; have dX := blk_frozen BK196.out 2; have dY : w129.cell? ⟨gb196, 3, none⟩ = some (.int .i64 t200) := bA6 BK196 rfl; have dZ := blk_frozen BK196.out 3) | ((with_reducible refine gate_store (t := 54) (p := 41) rfl ?_); refine store_event (t := 54) (p := 41) (v := ?vo_w134) (w1 := ((((w129.setCell ⟨gb196, 0, none⟩ (.int .i64 t214)).setCell ⟨gb196, 1, none⟩ (.int .i64 t215)).setCell ⟨gb196, 2, none⟩ (.int .i64 t216)).setCell ⟨gb196, 3, none⟩ (.int .i64 t217))) ?hg ?ho ?hn ?hr ?_; (case ho => rfl); (case hg => rfl); (case hn => rfl); (case hr => first | (go_simp; done) | (go_simp; rfl)); intro w134 hw; have n0_ : Aside0 (Kd.R k81 81 w134 w.heap.size (fun k_ => k_ ≠ gb196) u194000 af) := ⟨(by rw [hw]; exact (by (with_reducible repeat (first | apply Kd.R_alloc | apply Kd.R_drewN | apply Kd.R_drew)); exact Kd.R_mono (Kd.R_far (p := ⟨gb196, 3, none⟩) (Kd.R_far (p := ⟨gb196, 2, none⟩) (Kd.R_far (p := ⟨gb196, 1, none⟩) (Kd.R_far (p := ⟨gb196, 0, none⟩) (Kd.R_mono ab.out (fun k_ hk => (⟨hk, hk⟩ : _ ∧ k_ ≠ gb196))) (fun _ hk => hk.2) (.int .i64 t214)) (fun _ hk => hk.2) (.int .i64 t215)) (fun _ hk => hk.2) (.int .i64 t216)) (fun _ hk => hk.2) (.int .i64 t217)) (fun _ hk => hk.1)))⟩; have n1_ : Aside0 (Kd.R (Kd.int .i64) 3 w134 w.heap.size (fun _ => True) u194001 ad) := ⟨(by rw [hw]; exact (by (with_reducible repeat (first | apply Kd.R_alloc | apply Kd.R_drewN | apply Kd.R_drew)); exact Kd.R_mono (Kd.R_far (p := ⟨gb196, 3, none⟩) (Kd.R_far (p := ⟨gb196, 2, none⟩) (Kd.R_far (p := ⟨gb196, 1, none⟩) (Kd.R_far (p := ⟨gb196, 0, none⟩) (Kd.R_types aa.out BK196.out (by decide)) (fun _ hk => hk.2) (.int .i64 t214)) (fun _ hk => hk.2) (.int .i64 t215)) (fun _ hk => hk.2) (.int .i64 t216)) (fun _ hk => hk.2) (.int .i64 t217)) (fun _ hk => trivial)))⟩; have n2_ : Aside0 (w134.heap[gb193]? = some (.cells #[u194000, u194001] 79 (0, 0))) := ⟨z6_22⟩; have n3_ : Aside0 (w134.heap[gb195]? = some (.cells #[.int .i64 ((rd_T54 l0 x14_1).f0), .int .i64 ((rd_T54 l0 x14_1).f1), .int .i64 ((rd_T54 l0 x14_1).f2), .int .i64 ((rd_T54 l0 x14_1).f3)] 54 (0, 0))) := ⟨z6_23⟩; have n4_ : Aside0 (w134.heap[gb196]? = some (.cells #[.int .i64 t214, .int .i64 t215, .int .i64 t216, .int .i64 t217, .int .i64 t201, .int .i64 t202, .int .i64 t203, .int .i64 t204, .int .i64 t205, .int .i64 t206, .int .i64 t207, .int .i64 t208] 81 (0, 0))) := ⟨(by rw [hw]; exact (bZ BK196.out))⟩; have n5_ : Aside0 (Below w.heap.size w w134) := ⟨(by rw [hw]; exact z6_1)⟩; clear hw; clear ab; clear aa; clear BK193; clear BK195; clear BK196; clear HB; have ab := n0_; have aa := n1_; have BK193 := n2_; have BK195 := n3_; have BK196 := n4_; have HB := n5_; clear n0_ n1_ n2_ n3_ n4_ n5_))
         go_loopg [42] kj84 (fun kq v42 w' => ∃ (x42_4 : Int) (ah : Int) (ai : Int) (aj : Int) (ak : Int) (al : Int) (am : Int) (an : Int) (ao : Int), v42 = .int .i64 x42_4 ∧ Aside0 (impl_spanOf.l1 kq x14_1 x8_84 l0 (l0.length : Int) x14_1 x42_4 af ad t214 t215 t216 t217 ah ai aj ak al am an ao = some (r1, r2)) ∧ Aside0 (kq ≤ kj84) ∧ Aside0 (Kd.R k81 81 w' w.heap.size (fun k_ => k_ ≠ gb196) u194000 af) ∧ Aside0 (Kd.R (Kd.int .i64) 3 w' w.heap.size (fun _ => True) u194001 ad) ∧ Aside0 (w'.heap[gb193]? = some (.cells #[u194000, u194001] 79 (0, 0))) ∧ Aside0 (w'.heap[gb195]? = some (.cells #[.int .i64 ((rd_T54 l0 x14_1).f0), .int .i64 ((rd_T54 l0 x14_1).f1), .int .i64 ((rd_T54 l0 x14_1).f2), .int .i64 ((rd_T54 l0 x14_1).f3)] 54 (0, 0))) ∧ Aside0 (w'.heap[gb196]? = some (.cells #[.int .i64 t214, .int .i64 t215, .int .i64 t216, .int .i64 t217, .int .i64 ah, .int .i64 ai, .int .i64 aj, .int .i64 ak, .int .i64 al, .int .i64 am, .int .i64 an, .int .i64 ao] 81 (0, 0))) ∧ Aside0 (Below w.heap.size w w'))
         case atStart => exact ⟨(0), (t201), (t202), (t203), (t204), (t205), (t206), (t207), (t208), z6_12, H', ⟨Nat.le_refl _⟩, ⟨z6_2⟩, ⟨z6_3⟩, ⟨zL6 BK193.out⟩, ⟨zL6 BK195.out⟩, ⟨zL6 BK196.out⟩, ⟨z6_1⟩⟩
         case round =>
          clear H'
          try clear c3
          try clear c3b0
          try clear c4
          try clear c4b0
          try clear c5
          try clear c5b0
          try clear c65
          try clear c65b0
          try clear aN
          try clear aR
          try clear bR bS bT bU
          try clear aU
          try clear aW
          try clear dK dL dM dN
          try clear aY
          try clear dS
          try clear dU
          try clear dW
          try clear dY
          try clear a0 a1 a2 a3
          try clear a8
          try clear ba
          try clear bc
          try clear be
          try clear bg
          try clear bi
          try clear bk
          try clear bm
          try clear bo
          try clear bq
          try clear aD
          try clear aG
          try clear cX cY bN bO cZ c2 c7 c9 da db dc dd
          try clear dp
          try clear dr
          try clear du
          try clear dw
          try clear dy
          try clear dA
          try clear dC
          try clear dE
          try clear dG
          try clear dI
          try clear b8
          try clear aQ
          try clear aT
          try clear bV bW bX bY
          try clear aV
          try clear aX
          try clear dO dP dQ dR
          try clear aZ
          try clear dT
          try clear dV
          try clear dX
          try clear dZ
          try clear a4 a5 a6 a7
          try clear a9
          try clear bb
          try clear bd
          try clear bf
          try clear bh
          try clear bj
          try clear bl
          try clear bn
          try clear bp
          try clear br
          try clear aE
          try clear aH
          try clear de df bP bQ dg dh di dj dk dl dm dn
          try clear dq
          try clear dt
          try clear dv
          try clear dx
          try clear dz
          try clear dB
          try clear dD
          try clear dF
          try clear dH
          try clear dJ
          try clear b9
          try clear hx194_0 hx194_1 hx194_2 hx194_3
          try clear p194
          try clear q194
          obtain ⟨x42_4, ah, ai, aj, ak, al, am, an, ao, rfl, HA, HK4, ab, aa, BK193, BK195, BK196, HB⟩ := hrel
          cases gk with
          | zero => exact absurd HA.out (by simp [impl_spanOf.l1])
          | succ k4 =>
           have H := HA.out
           clear HA; simp only [impl_spanOf.l1] at H
           by_cases c135 : x42_4 < 8
           ·rw [if_pos c135] at H
            have c135b0 : decide (x42_4 < 8) = true := decide_eq_true c135; clear c135
            by_cases c136 : x42_4 = 0
            ·rw [if_pos c136] at H
             subst c136
             replace H := Option.bind_eq_some_iff.mp H
             obtain ⟨t218, A1370, H⟩ := H
             have A137 := Aside0.mk A1370
             clear A1370
             have H' := Aside0.mk H
             clear H
             have hnb138 := ag.out
             have hnc138 := ac.out
             have hnb139 := ap.out
             have hnc139 := ae.out
             have hcz140_4 : wr.cell? ⟨gb196, 4, none⟩ = some (.int .i64 ah) := bA6 BK196 rfl
             have hfz140_4 := blk_frozen BK196.out 4
             go_wp2_with (first | ((with_reducible refine gate_callee (f := 46) rfl ?_); refine goesL_ (some 51) rfl rfl Try.func46 (by kernel_rfl) rfl #[.int .i64 ah, .int .i64 x8_84] rfl z6_4 ?_; (with_reducible refine (impl_element_times.calls ah x8_84 t218 _ A137.out).mono ?_); rintro e w' ⟨rfl, ⟨nd, rfl⟩⟩; refine ⟨_, rfl, ?_⟩; (try (rw [drewN_self wr]; generalize hq_ : World.drewN wr _ = wr; have n0_ : Aside0 (Kd.R k81 81 wr w.heap.size (fun k_ => k_ ≠ gb196) u194000 af) := ⟨z6_18⟩; have n1_ : Aside0 (Kd.R (Kd.int .i64) 3 wr w.heap.size (fun _ => True) u194001 ad) := ⟨z6_19⟩; have n2_ : Aside0 (wr.heap[gb193]? = some (.cells #[u194000, u194001] 79 (0, 0))) := ⟨z6_14⟩; have n3_ : Aside0 (wr.heap[gb195]? = some (.cells #[.int .i64 ((rd_T54 l0 x14_1).f0), .int .i64 ((rd_T54 l0 x14_1).f1), .int .i64 ((rd_T54 l0 x14_1).f2), .int .i64 ((rd_T54 l0 x14_1).f3)] 54 (0, 0))) := ⟨z6_15⟩; have n4_ : Aside0 (wr.heap[gb196]? = some (.cells #[.int .i64 t214, .int .i64 t215, .int .i64 t216, .int .i64 t217, .int .i64 ah, .int .i64 ai, .int .i64 aj, .int .i64 ak, .int .i64 al, .int .i64 am, .int .i64 an, .int .i64 ao] 81 (0, 0))) := ⟨z6_16⟩; have n5_ : Aside0 (Below w.heap.size w wr) := ⟨z6_20⟩; clear ab aa BK193 BK195 BK196 HB hq_; have ab := n0_; have aa := n1_; have BK193 := n2_; have BK195 := n3_; have BK196 := n4_; have HB := n5_; clear n0_ n1_ n2_ n3_ n4_ n5_; have hcr196_4 : wr.cell? ⟨gb196, 4, none⟩ = some (.int .i64 ah) := bA6 BK196 rfl; have hfr196_4 := blk_frozen BK196.out 4))))
             go_roundg k4
             case measure => have := HK1.out; have := HJ5.out; have := HJ84.out; have := HK4.out; omega
             case rel => exact ⟨(wrap64 ((0 : Int) + 1)), (t218), (ai), (aj), (ak), (al), (am), (an), (ao), z6_10, H', ⟨z6_9⟩, ⟨by (with_reducible repeat (first | apply Kd.R_alloc | apply Kd.R_drewN | apply Kd.R_drew)); exact Kd.R_mono (Kd.R_far (p := ⟨gb196, 4, none⟩) (Kd.R_mono ab.out (fun k_ hk => (⟨hk, hk⟩ : _ ∧ k_ ≠ gb196))) (fun _ hk => hk.2) (.int .i64 t218)) (fun _ hk => hk.1)⟩, ⟨by (with_reducible repeat (first | apply Kd.R_alloc | apply Kd.R_drewN | apply Kd.R_drew)); exact Kd.R_mono (Kd.R_far (p := ⟨gb196, 4, none⟩) (Kd.R_types aa.out BK196.out (by decide)) (fun _ hk => hk.2) (.int .i64 t218)) (fun _ hk => trivial)⟩, ⟨gZ ac.out BK193.out⟩, ⟨gZ ae.out BK195.out⟩, ⟨bZ BK196.out⟩, ⟨z6_1⟩⟩
            ·rw [if_neg c136] at H
             clear c136
             by_cases c142 : x42_4 = 1
             ·rw [if_pos c142] at H
              subst c142
              replace H := Option.bind_eq_some_iff.mp H
              obtain ⟨t219, A1430, H⟩ := H
              have A143 := Aside0.mk A1430
              clear A1430
              have H' := Aside0.mk H
              clear H
              have hnb144 := ag.out
              have hnc144 := ac.out
              have hnb145 := ap.out
              have hnc145 := ae.out
              have hcz146_5 : wr.cell? ⟨gb196, 5, none⟩ = some (.int .i64 ai) := bA6 BK196 rfl
              have hfz146_5 := blk_frozen BK196.out 5
              go_wp2_with (first | ((with_reducible refine gate_callee (f := 46) rfl ?_); refine goesL_ (some 51) rfl rfl Try.func46 (by kernel_rfl) rfl #[.int .i64 ai, .int .i64 x8_84] rfl z6_4 ?_; (with_reducible refine (impl_element_times.calls ai x8_84 t219 _ A143.out).mono ?_); rintro e w' ⟨rfl, ⟨nd, rfl⟩⟩; refine ⟨_, rfl, ?_⟩; (try (rw [drewN_self wr]; generalize hq_ : World.drewN wr _ = wr; have n0_ : Aside0 (Kd.R k81 81 wr w.heap.size (fun k_ => k_ ≠ gb196) u194000 af) := ⟨z6_18⟩; have n1_ : Aside0 (Kd.R (Kd.int .i64) 3 wr w.heap.size (fun _ => True) u194001 ad) := ⟨z6_19⟩; have n2_ : Aside0 (wr.heap[gb193]? = some (.cells #[u194000, u194001] 79 (0, 0))) := ⟨z6_14⟩; have n3_ : Aside0 (wr.heap[gb195]? = some (.cells #[.int .i64 ((rd_T54 l0 x14_1).f0), .int .i64 ((rd_T54 l0 x14_1).f1), .int .i64 ((rd_T54 l0 x14_1).f2), .int .i64 ((rd_T54 l0 x14_1).f3)] 54 (0, 0))) := ⟨z6_15⟩; have n4_ : Aside0 (wr.heap[gb196]? = some (.cells #[.int .i64 t214, .int .i64 t215, .int .i64 t216, .int .i64 t217, .int .i64 ah, .int .i64 ai, .int .i64 aj, .int .i64 ak, .int .i64 al, .int .i64 am, .int .i64 an, .int .i64 ao] 81 (0, 0))) := ⟨z6_16⟩; have n5_ : Aside0 (Below w.heap.size w wr) := ⟨z6_20⟩; clear ab aa BK193 BK195 BK196 HB hq_; have ab := n0_; have aa := n1_; have BK193 := n2_; have BK195 := n3_; have BK196 := n4_; have HB := n5_; clear n0_ n1_ n2_ n3_ n4_ n5_; have hcr196_5 : wr.cell? ⟨gb196, 5, none⟩ = some (.int .i64 ai) := bA6 BK196 rfl; have hfr196_5 := blk_frozen BK196.out 5))))
              go_roundg k4
              case measure => have := HK1.out; have := HJ5.out; have := HJ84.out; have := HK4.out; omega
              case rel => exact ⟨(wrap64 ((1 : Int) + 1)), (ah), (t219), (aj), (ak), (al), (am), (an), (ao), z6_10, H', ⟨z6_9⟩, ⟨by (with_reducible repeat (first | apply Kd.R_alloc | apply Kd.R_drewN | apply Kd.R_drew)); exact Kd.R_mono (Kd.R_far (p := ⟨gb196, 5, none⟩) (Kd.R_mono ab.out (fun k_ hk => (⟨hk, hk⟩ : _ ∧ k_ ≠ gb196))) (fun _ hk => hk.2) (.int .i64 t219)) (fun _ hk => hk.1)⟩, ⟨by (with_reducible repeat (first | apply Kd.R_alloc | apply Kd.R_drewN | apply Kd.R_drew)); exact Kd.R_mono (Kd.R_far (p := ⟨gb196, 5, none⟩) (Kd.R_types aa.out BK196.out (by decide)) (fun _ hk => hk.2) (.int .i64 t219)) (fun _ hk => trivial)⟩, ⟨gZ ac.out BK193.out⟩, ⟨gZ ae.out BK195.out⟩, ⟨bZ BK196.out⟩, ⟨z6_1⟩⟩
             ·rw [if_neg c142] at H
              clear c142
              by_cases c148 : x42_4 = 2
              ·rw [if_pos c148] at H
               subst c148
               replace H := Option.bind_eq_some_iff.mp H
               obtain ⟨t220, A1490, H⟩ := H
               have A149 := Aside0.mk A1490
               clear A1490
               have H' := Aside0.mk H
               clear H
               have hnb150 := ag.out
               have hnc150 := ac.out
               have hnb151 := ap.out
               have hnc151 := ae.out
               have hcz152_6 : wr.cell? ⟨gb196, 6, none⟩ = some (.int .i64 aj) := bA6 BK196 rfl
               have hfz152_6 := blk_frozen BK196.out 6
               go_wp2_with (first | ((with_reducible refine gate_callee (f := 46) rfl ?_); refine goesL_ (some 51) rfl rfl Try.func46 (by kernel_rfl) rfl #[.int .i64 aj, .int .i64 x8_84] rfl z6_4 ?_; (with_reducible refine (impl_element_times.calls aj x8_84 t220 _ A149.out).mono ?_); rintro e w' ⟨rfl, ⟨nd, rfl⟩⟩; refine ⟨_, rfl, ?_⟩; (try (rw [drewN_self wr]; generalize hq_ : World.drewN wr _ = wr; have n0_ : Aside0 (Kd.R k81 81 wr w.heap.size (fun k_ => k_ ≠ gb196) u194000 af) := ⟨z6_18⟩; have n1_ : Aside0 (Kd.R (Kd.int .i64) 3 wr w.heap.size (fun _ => True) u194001 ad) := ⟨z6_19⟩; have n2_ : Aside0 (wr.heap[gb193]? = some (.cells #[u194000, u194001] 79 (0, 0))) := ⟨z6_14⟩; have n3_ : Aside0 (wr.heap[gb195]? = some (.cells #[.int .i64 ((rd_T54 l0 x14_1).f0), .int .i64 ((rd_T54 l0 x14_1).f1), .int .i64 ((rd_T54 l0 x14_1).f2), .int .i64 ((rd_T54 l0 x14_1).f3)] 54 (0, 0))) := ⟨z6_15⟩; have n4_ : Aside0 (wr.heap[gb196]? = some (.cells #[.int .i64 t214, .int .i64 t215, .int .i64 t216, .int .i64 t217, .int .i64 ah, .int .i64 ai, .int .i64 aj, .int .i64 ak, .int .i64 al, .int .i64 am, .int .i64 an, .int .i64 ao] 81 (0, 0))) := ⟨z6_16⟩; have n5_ : Aside0 (Below w.heap.size w wr) := ⟨z6_20⟩; clear ab aa BK193 BK195 BK196 HB hq_; have ab := n0_; have aa := n1_; have BK193 := n2_; have BK195 := n3_; have BK196 := n4_; have HB := n5_; clear n0_ n1_ n2_ n3_ n4_ n5_; have hcr196_6 : wr.cell? ⟨gb196, 6, none⟩ = some (.int .i64 aj) := bA6 BK196 rfl; have hfr196_6 := blk_frozen BK196.out 6))))
               go_roundg k4
               case measure => have := HK1.out; have := HJ5.out; have := HJ84.out; have := HK4.out; omega
               case rel => exact ⟨(wrap64 ((2 : Int) + 1)), (ah), (ai), (t220), (ak), (al), (am), (an), (ao), z6_10, H', ⟨z6_9⟩, ⟨by (with_reducible repeat (first | apply Kd.R_alloc | apply Kd.R_drewN | apply Kd.R_drew)); exact Kd.R_mono (Kd.R_far (p := ⟨gb196, 6, none⟩) (Kd.R_mono ab.out (fun k_ hk => (⟨hk, hk⟩ : _ ∧ k_ ≠ gb196))) (fun _ hk => hk.2) (.int .i64 t220)) (fun _ hk => hk.1)⟩, ⟨by (with_reducible repeat (first | apply Kd.R_alloc | apply Kd.R_drewN | apply Kd.R_drew)); exact Kd.R_mono (Kd.R_far (p := ⟨gb196, 6, none⟩) (Kd.R_types aa.out BK196.out (by decide)) (fun _ hk => hk.2) (.int .i64 t220)) (fun _ hk => trivial)⟩, ⟨gZ ac.out BK193.out⟩, ⟨gZ ae.out BK195.out⟩, ⟨bZ BK196.out⟩, ⟨z6_1⟩⟩
              ·rw [if_neg c148] at H
               clear c148
               by_cases c154 : x42_4 = 3
               ·rw [if_pos c154] at H
                subst c154
                replace H := Option.bind_eq_some_iff.mp H
                obtain ⟨t221, A1550, H⟩ := H
                have A155 := Aside0.mk A1550
                clear A1550
                have H' := Aside0.mk H
                clear H
                have hnb156 := ag.out
                have hnc156 := ac.out
                have hnb157 := ap.out
                have hnc157 := ae.out
                have hcz158_7 : wr.cell? ⟨gb196, 7, none⟩ = some (.int .i64 ak) := bA6 BK196 rfl
                have hfz158_7 := blk_frozen BK196.out 7
                go_wp2_with (first | ((with_reducible refine gate_callee (f := 46) rfl ?_); refine goesL_ (some 51) rfl rfl Try.func46 (by kernel_rfl) rfl #[.int .i64 ak, .int .i64 x8_84] rfl z6_4 ?_; (with_reducible refine (impl_element_times.calls ak x8_84 t221 _ A155.out).mono ?_); rintro e w' ⟨rfl, ⟨nd, rfl⟩⟩; refine ⟨_, rfl, ?_⟩; (try (rw [drewN_self wr]; generalize hq_ : World.drewN wr _ = wr; have n0_ : Aside0 (Kd.R k81 81 wr w.heap.size (fun k_ => k_ ≠ gb196) u194000 af) := ⟨z6_18⟩; have n1_ : Aside0 (Kd.R (Kd.int .i64) 3 wr w.heap.size (fun _ => True) u194001 ad) := ⟨z6_19⟩; have n2_ : Aside0 (wr.heap[gb193]? = some (.cells #[u194000, u194001] 79 (0, 0))) := ⟨z6_14⟩; have n3_ : Aside0 (wr.heap[gb195]? = some (.cells #[.int .i64 ((rd_T54 l0 x14_1).f0), .int .i64 ((rd_T54 l0 x14_1).f1), .int .i64 ((rd_T54 l0 x14_1).f2), .int .i64 ((rd_T54 l0 x14_1).f3)] 54 (0, 0))) := ⟨z6_15⟩; have n4_ : Aside0 (wr.heap[gb196]? = some (.cells #[.int .i64 t214, .int .i64 t215, .int .i64 t216, .int .i64 t217, .int .i64 ah, .int .i64 ai, .int .i64 aj, .int .i64 ak, .int .i64 al, .int .i64 am, .int .i64 an, .int .i64 ao] 81 (0, 0))) := ⟨z6_16⟩; have n5_ : Aside0 (Below w.heap.size w wr) := ⟨z6_20⟩; clear ab aa BK193 BK195 BK196 HB hq_; have ab := n0_; have aa := n1_; have BK193 := n2_; have BK195 := n3_; have BK196 := n4_; have HB := n5_; clear n0_ n1_ n2_ n3_ n4_ n5_; have hcr196_7 : wr.cell? ⟨gb196, 7, none⟩ = some (.int .i64 ak) := bA6 BK196 rfl; have hfr196_7 := blk_frozen BK196.out 7))))
                go_roundg k4
                case measure => have := HK1.out; have := HJ5.out; have := HJ84.out; have := HK4.out; omega
                case rel => exact ⟨(wrap64 ((3 : Int) + 1)), (ah), (ai), (aj), (t221), (al), (am), (an), (ao), z6_10, H', ⟨z6_9⟩, ⟨by (with_reducible repeat (first | apply Kd.R_alloc | apply Kd.R_drewN | apply Kd.R_drew)); exact Kd.R_mono (Kd.R_far (p := ⟨gb196, 7, none⟩) (Kd.R_mono ab.out (fun k_ hk => (⟨hk, hk⟩ : _ ∧ k_ ≠ gb196))) (fun _ hk => hk.2) (.int .i64 t221)) (fun _ hk => hk.1)⟩, ⟨by (with_reducible repeat (first | apply Kd.R_alloc | apply Kd.R_drewN | apply Kd.R_drew)); exact Kd.R_mono (Kd.R_far (p := ⟨gb196, 7, none⟩) (Kd.R_types aa.out BK196.out (by decide)) (fun _ hk => hk.2) (.int .i64 t221)) (fun _ hk => trivial)⟩, ⟨gZ ac.out BK193.out⟩, ⟨gZ ae.out BK195.out⟩, ⟨bZ BK196.out⟩, ⟨z6_1⟩⟩
               ·rw [if_neg c154] at H
                clear c154
                by_cases c160 : x42_4 = 4
                ·rw [if_pos c160] at H
                 subst c160
                 replace H := Option.bind_eq_some_iff.mp H
                 obtain ⟨t222, A1610, H⟩ := H
                 have A161 := Aside0.mk A1610
                 clear A1610
                 have H' := Aside0.mk H
                 clear H
                 have hnb162 := ag.out
                 have hnc162 := ac.out
                 have hnb163 := ap.out
                 have hnc163 := ae.out
                 have hcz164_8 : wr.cell? ⟨gb196, 8, none⟩ = some (.int .i64 al) := bA6 BK196 rfl
                 have hfz164_8 := blk_frozen BK196.out 8
                 go_wp2_with (first | ((with_reducible refine gate_callee (f := 46) rfl ?_); refine goesL_ (some 51) rfl rfl Try.func46 (by kernel_rfl) rfl #[.int .i64 al, .int .i64 x8_84] rfl z6_4 ?_; (with_reducible refine (impl_element_times.calls al x8_84 t222 _ A161.out).mono ?_); rintro e w' ⟨rfl, ⟨nd, rfl⟩⟩; refine ⟨_, rfl, ?_⟩; (try (rw [drewN_self wr]; generalize hq_ : World.drewN wr _ = wr; have n0_ : Aside0 (Kd.R k81 81 wr w.heap.size (fun k_ => k_ ≠ gb196) u194000 af) := ⟨z6_18⟩; have n1_ : Aside0 (Kd.R (Kd.int .i64) 3 wr w.heap.size (fun _ => True) u194001 ad) := ⟨z6_19⟩; have n2_ : Aside0 (wr.heap[gb193]? = some (.cells #[u194000, u194001] 79 (0, 0))) := ⟨z6_14⟩; have n3_ : Aside0 (wr.heap[gb195]? = some (.cells #[.int .i64 ((rd_T54 l0 x14_1).f0), .int .i64 ((rd_T54 l0 x14_1).f1), .int .i64 ((rd_T54 l0 x14_1).f2), .int .i64 ((rd_T54 l0 x14_1).f3)] 54 (0, 0))) := ⟨z6_15⟩; have n4_ : Aside0 (wr.heap[gb196]? = some (.cells #[.int .i64 t214, .int .i64 t215, .int .i64 t216, .int .i64 t217, .int .i64 ah, .int .i64 ai, .int .i64 aj, .int .i64 ak, .int .i64 al, .int .i64 am, .int .i64 an, .int .i64 ao] 81 (0, 0))) := ⟨z6_16⟩; have n5_ : Aside0 (Below w.heap.size w wr) := ⟨z6_20⟩; clear ab aa BK193 BK195 BK196 HB hq_; have ab := n0_; have aa := n1_; have BK193 := n2_; have BK195 := n3_; have BK196 := n4_; have HB := n5_; clear n0_ n1_ n2_ n3_ n4_ n5_; have hcr196_8 : wr.cell? ⟨gb196, 8, none⟩ = some (.int .i64 al) := bA6 BK196 rfl; have hfr196_8 := blk_frozen BK196.out 8))))
                 go_roundg k4
                 case measure => have := HK1.out; have := HJ5.out; have := HJ84.out; have := HK4.out; omega
                 case rel => exact ⟨(wrap64 ((4 : Int) + 1)), (ah), (ai), (aj), (ak), (t222), (am), (an), (ao), z6_10, H', ⟨z6_9⟩, ⟨by (with_reducible repeat (first | apply Kd.R_alloc | apply Kd.R_drewN | apply Kd.R_drew)); exact Kd.R_mono (Kd.R_far (p := ⟨gb196, 8, none⟩) (Kd.R_mono ab.out (fun k_ hk => (⟨hk, hk⟩ : _ ∧ k_ ≠ gb196))) (fun _ hk => hk.2) (.int .i64 t222)) (fun _ hk => hk.1)⟩, ⟨by (with_reducible repeat (first | apply Kd.R_alloc | apply Kd.R_drewN | apply Kd.R_drew)); exact Kd.R_mono (Kd.R_far (p := ⟨gb196, 8, none⟩) (Kd.R_types aa.out BK196.out (by decide)) (fun _ hk => hk.2) (.int .i64 t222)) (fun _ hk => trivial)⟩, ⟨gZ ac.out BK193.out⟩, ⟨gZ ae.out BK195.out⟩, ⟨bZ BK196.out⟩, ⟨z6_1⟩⟩
                ·rw [if_neg c160] at H
                 clear c160
                 by_cases c166 : x42_4 = 5
                 ·rw [if_pos c166] at H
                  subst c166
                  replace H := Option.bind_eq_some_iff.mp H
                  obtain ⟨t223, A1670, H⟩ := H
                  have A167 := Aside0.mk A1670
                  clear A1670
                  have H' := Aside0.mk H
                  clear H
                  have hnb168 := ag.out
                  have hnc168 := ac.out
                  have hnb169 := ap.out
                  have hnc169 := ae.out
                  have hcz170_9 : wr.cell? ⟨gb196, 9, none⟩ = some (.int .i64 am) := bA6 BK196 rfl
                  have hfz170_9 := blk_frozen BK196.out 9
                  go_wp2_with (first | ((with_reducible refine gate_callee (f := 46) rfl ?_); refine goesL_ (some 51) rfl rfl Try.func46 (by kernel_rfl) rfl #[.int .i64 am, .int .i64 x8_84] rfl z6_4 ?_; (with_reducible refine (impl_element_times.calls am x8_84 t223 _ A167.out).mono ?_); rintro e w' ⟨rfl, ⟨nd, rfl⟩⟩; refine ⟨_, rfl, ?_⟩; (try (rw [drewN_self wr]; generalize hq_ : World.drewN wr _ = wr; have n0_ : Aside0 (Kd.R k81 81 wr w.heap.size (fun k_ => k_ ≠ gb196) u194000 af) := ⟨z6_18⟩; have n1_ : Aside0 (Kd.R (Kd.int .i64) 3 wr w.heap.size (fun _ => True) u194001 ad) := ⟨z6_19⟩; have n2_ : Aside0 (wr.heap[gb193]? = some (.cells #[u194000, u194001] 79 (0, 0))) := ⟨z6_14⟩; have n3_ : Aside0 (wr.heap[gb195]? = some (.cells #[.int .i64 ((rd_T54 l0 x14_1).f0), .int .i64 ((rd_T54 l0 x14_1).f1), .int .i64 ((rd_T54 l0 x14_1).f2), .int .i64 ((rd_T54 l0 x14_1).f3)] 54 (0, 0))) := ⟨z6_15⟩; have n4_ : Aside0 (wr.heap[gb196]? = some (.cells #[.int .i64 t214, .int .i64 t215, .int .i64 t216, .int .i64 t217, .int .i64 ah, .int .i64 ai, .int .i64 aj, .int .i64 ak, .int .i64 al, .int .i64 am, .int .i64 an, .int .i64 ao] 81 (0, 0))) := ⟨z6_16⟩; have n5_ : Aside0 (Below w.heap.size w wr) := ⟨z6_20⟩; clear ab aa BK193 BK195 BK196 HB hq_; have ab := n0_; have aa := n1_; have BK193 := n2_; have BK195 := n3_; have BK196 := n4_; have HB := n5_; clear n0_ n1_ n2_ n3_ n4_ n5_; have hcr196_9 : wr.cell? ⟨gb196, 9, none⟩ = some (.int .i64 am) := bA6 BK196 rfl; have hfr196_9 := blk_frozen BK196.out 9))))
                  go_roundg k4
                  case measure => have := HK1.out; have := HJ5.out; have := HJ84.out; have := HK4.out; omega
                  case rel => exact ⟨(wrap64 ((5 : Int) + 1)), (ah), (ai), (aj), (ak), (al), (t223), (an), (ao), z6_10, H', ⟨z6_9⟩, ⟨by (with_reducible repeat (first | apply Kd.R_alloc | apply Kd.R_drewN | apply Kd.R_drew)); exact Kd.R_mono (Kd.R_far (p := ⟨gb196, 9, none⟩) (Kd.R_mono ab.out (fun k_ hk => (⟨hk, hk⟩ : _ ∧ k_ ≠ gb196))) (fun _ hk => hk.2) (.int .i64 t223)) (fun _ hk => hk.1)⟩, ⟨by (with_reducible repeat (first | apply Kd.R_alloc | apply Kd.R_drewN | apply Kd.R_drew)); exact Kd.R_mono (Kd.R_far (p := ⟨gb196, 9, none⟩) (Kd.R_types aa.out BK196.out (by decide)) (fun _ hk => hk.2) (.int .i64 t223)) (fun _ hk => trivial)⟩, ⟨gZ ac.out BK193.out⟩, ⟨gZ ae.out BK195.out⟩, ⟨bZ BK196.out⟩, ⟨z6_1⟩⟩
                 ·rw [if_neg c166] at H
                  clear c166
                  by_cases c172 : x42_4 = 6
                  ·rw [if_pos c172] at H
                   subst c172
                   replace H := Option.bind_eq_some_iff.mp H
                   obtain ⟨t224, A1730, H⟩ := H
                   have A173 := Aside0.mk A1730
                   clear A1730
                   have H' := Aside0.mk H
                   clear H
                   have hnb174 := ag.out
                   have hnc174 := ac.out
                   have hnb175 := ap.out
                   have hnc175 := ae.out
                   have hcz176_10 : wr.cell? ⟨gb196, 10, none⟩ = some (.int .i64 an) := bA6 BK196 rfl
                   have hfz176_10 := blk_frozen BK196.out 10
                   go_wp2_with (first | ((with_reducible refine gate_callee (f := 46) rfl ?_); refine goesL_ (some 51) rfl rfl Try.func46 (by kernel_rfl) rfl #[.int .i64 an, .int .i64 x8_84] rfl z6_4 ?_; (with_reducible refine (impl_element_times.calls an x8_84 t224 _ A173.out).mono ?_); rintro e w' ⟨rfl, ⟨nd, rfl⟩⟩; refine ⟨_, rfl, ?_⟩; (try (rw [drewN_self wr]; generalize hq_ : World.drewN wr _ = wr; have n0_ : Aside0 (Kd.R k81 81 wr w.heap.size (fun k_ => k_ ≠ gb196) u194000 af) := ⟨z6_18⟩; have n1_ : Aside0 (Kd.R (Kd.int .i64) 3 wr w.heap.size (fun _ => True) u194001 ad) := ⟨z6_19⟩; have n2_ : Aside0 (wr.heap[gb193]? = some (.cells #[u194000, u194001] 79 (0, 0))) := ⟨z6_14⟩; have n3_ : Aside0 (wr.heap[gb195]? = some (.cells #[.int .i64 ((rd_T54 l0 x14_1).f0), .int .i64 ((rd_T54 l0 x14_1).f1), .int .i64 ((rd_T54 l0 x14_1).f2), .int .i64 ((rd_T54 l0 x14_1).f3)] 54 (0, 0))) := ⟨z6_15⟩; have n4_ : Aside0 (wr.heap[gb196]? = some (.cells #[.int .i64 t214, .int .i64 t215, .int .i64 t216, .int .i64 t217, .int .i64 ah, .int .i64 ai, .int .i64 aj, .int .i64 ak, .int .i64 al, .int .i64 am, .int .i64 an, .int .i64 ao] 81 (0, 0))) := ⟨z6_16⟩; have n5_ : Aside0 (Below w.heap.size w wr) := ⟨z6_20⟩; clear ab aa BK193 BK195 BK196 HB hq_; have ab := n0_; have aa := n1_; have BK193 := n2_; have BK195 := n3_; have BK196 := n4_; have HB := n5_; clear n0_ n1_ n2_ n3_ n4_ n5_; have hcr196_10 : wr.cell? ⟨gb196, 10, none⟩ = some (.int .i64 an) := bA6 BK196 rfl; have hfr196_10 := blk_frozen BK196.out 10))))
                   go_roundg k4
                   case measure => have := HK1.out; have := HJ5.out; have := HJ84.out; have := HK4.out; omega
                   case rel => exact ⟨(wrap64 ((6 : Int) + 1)), (ah), (ai), (aj), (ak), (al), (am), (t224), (ao), z6_10, H', ⟨z6_9⟩, ⟨by (with_reducible repeat (first | apply Kd.R_alloc | apply Kd.R_drewN | apply Kd.R_drew)); exact Kd.R_mono (Kd.R_far (p := ⟨gb196, 10, none⟩) (Kd.R_mono ab.out (fun k_ hk => (⟨hk, hk⟩ : _ ∧ k_ ≠ gb196))) (fun _ hk => hk.2) (.int .i64 t224)) (fun _ hk => hk.1)⟩, ⟨by (with_reducible repeat (first | apply Kd.R_alloc | apply Kd.R_drewN | apply Kd.R_drew)); exact Kd.R_mono (Kd.R_far (p := ⟨gb196, 10, none⟩) (Kd.R_types aa.out BK196.out (by decide)) (fun _ hk => hk.2) (.int .i64 t224)) (fun _ hk => trivial)⟩, ⟨gZ ac.out BK193.out⟩, ⟨gZ ae.out BK195.out⟩, ⟨bZ BK196.out⟩, ⟨z6_1⟩⟩
                  ·rw [if_neg c172] at H
                   clear c172; obtain ⟨c178, H⟩ := ifP H; subst c178
                   replace H := Option.bind_eq_some_iff.mp H
                   obtain ⟨t225, A1790, H⟩ := H
                   have A179 := Aside0.mk A1790
                   clear A1790
                   have H' := Aside0.mk H
                   clear H
                   have hnb180 := ag.out
                   have hnc180 := ac.out
                   have hnb181 := ap.out
                   have hnc181 := ae.out
                   have hcz182_11 : wr.cell? ⟨gb196, 11, none⟩ = some (.int .i64 ao) := bA6 BK196 rfl
                   have hfz182_11 := blk_frozen BK196.out 11
                   go_wp2_with (first | ((with_reducible refine gate_callee (f := 46) rfl ?_); refine goesL_ (some 51) rfl rfl Try.func46 (by kernel_rfl) rfl #[.int .i64 ao, .int .i64 x8_84] rfl z6_4 ?_; (with_reducible refine (impl_element_times.calls ao x8_84 t225 _ A179.out).mono ?_); rintro e w' ⟨rfl, ⟨nd, rfl⟩⟩; refine ⟨_, rfl, ?_⟩; (try (rw [drewN_self wr]; generalize hq_ : World.drewN wr _ = wr; have n0_ : Aside0 (Kd.R k81 81 wr w.heap.size (fun k_ => k_ ≠ gb196) u194000 af) := ⟨z6_18⟩; have n1_ : Aside0 (Kd.R (Kd.int .i64) 3 wr w.heap.size (fun _ => True) u194001 ad) := ⟨z6_19⟩; have n2_ : Aside0 (wr.heap[gb193]? = some (.cells #[u194000, u194001] 79 (0, 0))) := ⟨z6_14⟩; have n3_ : Aside0 (wr.heap[gb195]? = some (.cells #[.int .i64 ((rd_T54 l0 x14_1).f0), .int .i64 ((rd_T54 l0 x14_1).f1), .int .i64 ((rd_T54 l0 x14_1).f2), .int .i64 ((rd_T54 l0 x14_1).f3)] 54 (0, 0))) := ⟨z6_15⟩; have n4_ : Aside0 (wr.heap[gb196]? = some (.cells #[.int .i64 t214, .int .i64 t215, .int .i64 t216, .int .i64 t217, .int .i64 ah, .int .i64 ai, .int .i64 aj, .int .i64 ak, .int .i64 al, .int .i64 am, .int .i64 an, .int .i64 ao] 81 (0, 0))) := ⟨z6_16⟩; have n5_ : Aside0 (Below w.heap.size w wr) := ⟨z6_20⟩; clear ab aa BK193 BK195 BK196 HB hq_; have ab := n0_; have aa := n1_; have BK193 := n2_; have BK195 := n3_; have BK196 := n4_; have HB := n5_; clear n0_ n1_ n2_ n3_ n4_ n5_; have hcr196_11 : wr.cell? ⟨gb196, 11, none⟩ = some (.int .i64 ao) := bA6 BK196 rfl; have hfr196_11 := blk_frozen BK196.out 11))))
                   go_roundg k4
                   case measure => have := HK1.out; have := HJ5.out; have := HJ84.out; have := HK4.out; omega
                   case rel => exact ⟨(wrap64 ((7 : Int) + 1)), (ah), (ai), (aj), (ak), (al), (am), (an), (t225), z6_10, H', ⟨z6_9⟩, ⟨by (with_reducible repeat (first | apply Kd.R_alloc | apply Kd.R_drewN | apply Kd.R_drew)); exact Kd.R_mono (Kd.R_far (p := ⟨gb196, 11, none⟩) (Kd.R_mono ab.out (fun k_ hk => (⟨hk, hk⟩ : _ ∧ k_ ≠ gb196))) (fun _ hk => hk.2) (.int .i64 t225)) (fun _ hk => hk.1)⟩, ⟨by (with_reducible repeat (first | apply Kd.R_alloc | apply Kd.R_drewN | apply Kd.R_drew)); exact Kd.R_mono (Kd.R_far (p := ⟨gb196, 11, none⟩) (Kd.R_types aa.out BK196.out (by decide)) (fun _ hk => hk.2) (.int .i64 t225)) (fun _ hk => trivial)⟩, ⟨gZ ac.out BK193.out⟩, ⟨gZ ae.out BK195.out⟩, ⟨bZ BK196.out⟩, ⟨z6_1⟩⟩
           ·rw [if_neg c135] at H
            have c135b0 : decide (x42_4 < 8) = false := decide_eq_false c135; clear c135; obtain ⟨c184, H⟩ := ifP H
            have LMc184 := Aside0.mk c184
            clear c184
            obtain ⟨y226, hy226⟩ : ∃ y_ : List (S81), y_ = (af ++ [(⟨(⟨t214, t215, t216, t217⟩ : S54), (⟨ah, ai, aj, ak, al, am, an, ao⟩ : S68)⟩ : S81)]) := ⟨_, rfl⟩
            replace H : (if ad.length < 17592186044416 then (impl_spanOf.l0 k4 l0 (l0.length : Int) (wrap64 (x14_1 + 1)) y226 (ad ++ [x14_1])) else (none)) = some (r1, r2) := yZZ_ hy226 H
            have Ny226 := Aside0.mk hy226
            clear hy226; obtain ⟨c185, H⟩ := ifP H
            have LMc185 := Aside0.mk c185
            clear c185
            obtain ⟨y229, hy229⟩ : ∃ y_ : List Int, y_ = (ad ++ [x14_1]) := ⟨_, rfl⟩
            replace H : (impl_spanOf.l0 k4 l0 (l0.length : Int) (wrap64 (x14_1 + 1)) y226 y229) = some (r1, r2) := yZZ_ hy229 H
            have Ny229 := Aside0.mk hy229
            clear hy229
            have H' := Aside0.mk H
            clear H
            try go_wp2
            replace ab := Aside0.mk (Kd.R_drew ab.out)
            replace aa := Aside0.mk (Kd.R_drew aa.out)
            replace BK193 := Aside0.mk (blk_drew BK193.out)
            replace BK195 := Aside0.mk (blk_drew BK195.out)
            replace BK196 := Aside0.mk (blk_drew BK196.out)
            replace HB := Aside0.mk (below_drew1 HB.out)
            refine start_ (n := 11) (S := fun w' => w'.cell? ⟨gb193, 0, none⟩ = some (u194000) ∧ w'.cell? ⟨gb196, 0, none⟩ = some (.int .i64 t214) ∧ w'.cell? ⟨gb196, 1, none⟩ = some (.int .i64 t215) ∧ w'.cell? ⟨gb196, 2, none⟩ = some (.int .i64 t216) ∧ w'.cell? ⟨gb196, 3, none⟩ = some (.int .i64 t217) ∧ w'.cell? ⟨gb196, 4, none⟩ = some (.int .i64 ah) ∧ w'.cell? ⟨gb196, 5, none⟩ = some (.int .i64 ai) ∧ w'.cell? ⟨gb196, 6, none⟩ = some (.int .i64 aj) ∧ w'.cell? ⟨gb196, 7, none⟩ = some (.int .i64 ak) ∧ w'.cell? ⟨gb196, 8, none⟩ = some (.int .i64 al) ∧ w'.cell? ⟨gb196, 9, none⟩ = some (.int .i64 am) ∧ w'.cell? ⟨gb196, 10, none⟩ = some (.int .i64 an) ∧ w'.cell? ⟨gb196, 11, none⟩ = some (.int .i64 ao)) (ds := [10]) #[false, false, false, false, false, false, false, false, false, false, false] (by kernel_rfl) rfl rfl ⟨bA6 BK193 rfl, bA6 BK196 rfl, bA6 BK196 rfl, bA6 BK196 rfl, bA6 BK196 rfl, bA6 BK196 rfl, bA6 BK196 rfl, bA6 BK196 rfl, bA6 BK196 rfl, bA6 BK196 rfl, bA6 BK196 rfl, bA6 BK196 rfl, bA6 BK196 rfl⟩ (fun hHeld => ?_); refine with_tabW impl_spanOf.tab17 impl_spanOf.bits17 (fun HT_ HW_ => ?_); generalize wr.drew = w186 at ab aa BK193 BK195 BK196 HB hHeld ⊢; refine pZ 0 HT_ ?_; refine pZ 1 HT_ ?_; refine pZ 2 HT_ ?_; refine pZ 3 HT_ ?_; refine tZ 4 hHeld HT_ HW_ ?_; refine tZ 5 hHeld HT_ HW_ ?_; refine oZ 6 HT_ (fun K hK => ?_); refine value_ (w1 := ?_) (v := ?_) (by rfl) rfl ?_ ?_; rotate_left 2
            ·go_simp
             constructor
             ·rfl
             ·rfl
            refine hK.out _ _ ⟨(blk_cell (blk_alloc BK193.out _) 0).trans rfl, (blk_cell (blk_alloc BK196.out _) 0).trans rfl, (blk_cell (blk_alloc BK196.out _) 1).trans rfl, (blk_cell (blk_alloc BK196.out _) 2).trans rfl, (blk_cell (blk_alloc BK196.out _) 3).trans rfl, (blk_cell (blk_alloc BK196.out _) 4).trans rfl, (blk_cell (blk_alloc BK196.out _) 5).trans rfl, (blk_cell (blk_alloc BK196.out _) 6).trans rfl, (blk_cell (blk_alloc BK196.out _) 7).trans rfl, (blk_cell (blk_alloc BK196.out _) 8).trans rfl, (blk_cell (blk_alloc BK196.out _) 9).trans rfl, (blk_cell (blk_alloc BK196.out _) 10).trans rfl, (blk_cell (blk_alloc BK196.out _) 11).trans rfl⟩ (fun hHeld => ?_); clear hK K; refine nZ ?_; refine oZ 7 HT_ (fun K hK => ?_); refine Kd.R_append_step k81 (w0 := w) w.heap.size (by rfl) (.tmp 59) (.tmp 61) 77 81 (.agg #[(.int .i64 0), (.int .i64 0), (.int .i64 0), (.int .i64 0), (.int .i64 0), (.int .i64 0), (.int .i64 0), (.int .i64 0), (.int .i64 0), (.int .i64 0), (.int .i64 0), (.int .i64 0)]) 96 rfl Try.underlying77 info81 rfl (by decide) (by omega) u194000 af (⟨(⟨t214, t215, t216, t217⟩ : S54), (⟨ah, ai, aj, ak, al, am, an, ao⟩ : S68)⟩ : S81) [.int .i64 t214, .int .i64 t215, .int .i64 t216, .int .i64 t217, .int .i64 ah, .int .i64 ai, .int .i64 aj, .int .i64 ak, .int .i64 al, .int .i64 am, .int .i64 an, .int .i64 ao] (fun k_ => k_ ≠ gb196) (fun _ => False) rfl rfl ?aP (fun _ hk => hk.elim) ?aF ?aO ?aB ?aS ?aL ?_; (case aP => exact k81_mkM _ _ _ (⟨(⟨t214, t215, t216, t217⟩ : S54), (⟨ah, ai, aj, ak, al, am, an, ao⟩ : S68)⟩ : S81)); (case aB => exact z6_1); (case aF => exact (fun k_ hk => Kd.freshB (g := gb196) (o := .cells #[.int .i64 t214, .int .i64 t215, .int .i64 t216, .int .i64 t217, .int .i64 ah, .int .i64 ai, .int .i64 aj, .int .i64 ak, .int .i64 al, .int .i64 am, .int .i64 an, .int .i64 ao] 81 (0, 0)) (zL6 BK196.out) k_ hk)); (case aO => exact z6_2); (case aS => exact (below_size z6_1)); (case aL => have := LMc184.out; omega); intro v227 w187 ho hb hg hat; rw [← Ny226.out] at ho
            have n0_ := Aside0.mk (Kd.R_over' z6_3 (Kd.R_typed z6_2) (by decide) hg)
            have n1_ := Aside0.mk (blk_grown (g := gb193) (o := .cells #[u194000, u194001] 79 (0, 0)) (zL6 BK193.out) hg (Kd.R_ne ab.out BK193.out (by decide)))
            have n2_ := Aside0.mk (blk_grown (g := gb195) (o := .cells #[.int .i64 ((rd_T54 l0 x14_1).f0), .int .i64 ((rd_T54 l0 x14_1).f1), .int .i64 ((rd_T54 l0 x14_1).f2), .int .i64 ((rd_T54 l0 x14_1).f3)] 54 (0, 0)) (zL6 BK195.out) hg (Kd.R_ne ab.out BK195.out (by decide)))
            have n3_ := Aside0.mk (blk_grown (g := gb196) (o := .cells #[.int .i64 t214, .int .i64 t215, .int .i64 t216, .int .i64 t217, .int .i64 ah, .int .i64 ai, .int .i64 aj, .int .i64 ak, .int .i64 al, .int .i64 am, .int .i64 an, .int .i64 ao] 81 (0, 0)) (zL6 BK196.out) hg (Kd.R_away ab.out (fun _ hk => hk)))
            have n4_ := Aside0.mk (hb)
            have n5_ := Aside0.mk (ho)
            clear aa; clear BK193; clear BK195; clear BK196; clear HB; clear ab
            have aa := n0_
            have BK193 := n1_
            have BK195 := n2_
            have BK196 := n3_
            have HB := n4_
            have HO228 := n5_
            clear n0_ n1_ n2_ n3_ n4_ n5_; clear ho hb hg hat; obtain ⟨Ao188, co188, eo188⟩ := Kd.R_slice HO228.out; (first | subst eo188 | (injection eo188 with f1_ f2_ f3_; have f4_ := f1_.symm; have f5_ := f3_.symm; clear f1_ f2_ f3_; subst f4_; subst f5_)); refine hK.out _ _ ⟨bA6 BK193 rfl, bA6 BK196 rfl, bA6 BK196 rfl, bA6 BK196 rfl, bA6 BK196 rfl, bA6 BK196 rfl, bA6 BK196 rfl, bA6 BK196 rfl, bA6 BK196 rfl, bA6 BK196 rfl, bA6 BK196 rfl, bA6 BK196 rfl, bA6 BK196 rfl⟩ (fun hHeld => ?_); clear hK K; refine nZ ?_; refine pZ 8 HT_ ?_; refine pZ 9 HT_ ?_; refine lZ 10 HT_ (fun K hK => ?_); have hs189 : w187.cell? ⟨gb193, 0, none⟩ = some (u194000) := bA6 BK193 rfl
            have hfs189 := blk_frozen BK193.out 0
            have hns189_1 := aC.out
            have hns189_2 := ag.out
            have hms189_1 := aA.out
            have hms189_2 := ac.out
            refine skip_ (w1 := ?_) (by rfl) rfl ?_ ?_; rotate_left
            ·go_simp
             rfl
            refine hK.out _ _ ?_; clear hK K; refine done_ (done_of HT_.out (by kernel_rfl)) ?_
            have hnb190 := aA.out
            have hnc190 := aC.out
            have hnb191 := ac.out
            have hnc191 := ag.out
            have hcz192_1 : w187.cell? ⟨gb193, 1, none⟩ = some (u194001) := bA6 BK193 rfl
            have hfz192_1 := blk_frozen BK193.out 1
            try go_wp2_with (first | ((with_reducible refine gate_builtin (b := .append) (xs := #[.tmp 69, .tmp 71]) rfl ?_); at_builtin; refine Kd.R_append (Kd.int .i64) (w0 := w) w.heap.size rfl (.tmp 69) (.tmp 71) 28 3 (.int .i64 0) 8 rfl Try.underlying28 info3 rfl (by decide) (by omega) u194001 ad x14_1 [.int .i64 x14_1] (fun _ => True) (fun _ => False) rfl (by first | (go_simp; done) | (go_simp; rfl)) ?aP (fun _ hk => hk.elim) ?aF ?aO ?aB ?aS ?aL ?_; (case aP => exact rfl); (case aB => exact z6_1); (case aF => exact (fun _ _ => trivial)); (case aO => exact (by (with_reducible repeat (first | apply Kd.R_alloc | apply Kd.R_drewN | apply Kd.R_drew)); exact Kd.R_mono (Kd.R_far (p := ⟨gb193, 0, none⟩) (Kd.R_types aa.out BK193.out (by decide)) (fun _ hk => hk.2) (.slice Ao188 y226.length co188)) (fun _ hk => trivial))); (case aS => exact (below_size z6_1)); (case aL => have := LMc185.out; omega); intro v230 w193 ho hb hg hat; rw [← Ny229.out] at ho; have n0_ := Aside0.mk (blk_grown (g := gb193) (o := .cells #[.slice Ao188 y226.length co188, u194001] 79 (0, 0)) (bZ BK193.out) hg (Kd.R_ne aa.out BK193.out (by decide))); have n1_ := Aside0.mk (blk_grown (g := gb195) (o := .cells #[.int .i64 ((rd_T54 l0 x14_1).f0), .int .i64 ((rd_T54 l0 x14_1).f1), .int .i64 ((rd_T54 l0 x14_1).f2), .int .i64 ((rd_T54 l0 x14_1).f3)] 54 (0, 0)) (gZ aC.out BK195.out) hg (Kd.R_ne aa.out BK195.out (by decide))); have n2_ := Aside0.mk (blk_grown (g := gb196) (o := .cells #[.int .i64 t214, .int .i64 t215, .int .i64 t216, .int .i64 t217, .int .i64 ah, .int .i64 ai, .int .i64 aj, .int .i64 ak, .int .i64 al, .int .i64 am, .int .i64 an, .int .i64 ao] 81 (0, 0)) (gZ ag.out BK196.out) hg (Kd.R_ne aa.out BK196.out (by decide))); have n3_ := Aside0.mk (Kd.R_over' (by (with_reducible repeat (first | apply Kd.R_alloc | apply Kd.R_drewN | apply Kd.R_drew)); exact (Kd.R_mono (Kd.R_far (p := ⟨gb193, 0, none⟩) (Kd.R_types HO228.out BK193.out (by decide)) (fun _ hk => hk.2) (.slice Ao188 y226.length co188)) (fun _ h_ => h_.1))) (Kd.R_typed (by (with_reducible repeat (first | apply Kd.R_alloc | apply Kd.R_drewN | apply Kd.R_drew)); exact (Kd.R_mono (Kd.R_far (p := ⟨gb193, 0, none⟩) (Kd.R_types aa.out BK193.out (by decide)) (fun _ hk => hk.2) (.slice Ao188 y226.length co188)) (fun _ h_ => h_.1)))) (by decide) hg); have n4_ := Aside0.mk (hb); have n5_ := Aside0.mk (ho); clear BK193; clear BK195; clear BK196; clear HO228; clear HB; clear aa; have BK193 := n0_; have BK195 := n1_; have BK196 := n2_; have HO228 := n3_; have HB := n4_; have HO231 := n5_; clear n0_ n1_ n2_ n3_ n4_ n5_; clear ho hb hg hat; obtain ⟨Ao194, co194, eo194⟩ := Kd.R_slice HO231.out; subst eo194; have hcz195_1 : w193.cell? ⟨gb193, 1, none⟩ = some (u194001) := bA6 BK193 rfl; have hfz195_1 := blk_frozen BK193.out 1))
            go_roundg k4
            case measure => have := HK1.out; have := HJ5.out; have := HJ84.out; have := HK4.out; omega
            case rel => exact ⟨(wrap64 (x14_1 + 1)), (y226), (y229), (.slice Ao188 y226.length co188), (.slice Ao194 y229.length co194), z6_12, H', ⟨z6_9⟩, ⟨by (with_reducible repeat (first | apply Kd.R_alloc | apply Kd.R_drewN | apply Kd.R_drew)); exact Kd.R_mono (Kd.R_far (p := ⟨gb193, 1, none⟩) (Kd.R_types HO228.out BK193.out (by decide)) (fun _ hk => hk.2) (.slice Ao194 y229.length co194)) (fun _ hk => trivial)⟩, ⟨by (with_reducible repeat (first | apply Kd.R_alloc | apply Kd.R_drewN | apply Kd.R_drew)); exact Kd.R_mono (Kd.R_far (p := ⟨gb193, 1, none⟩) (Kd.R_types HO231.out BK193.out (by decide)) (fun _ hk => hk.2) (.slice Ao194 y229.length co194)) (fun _ hk => trivial)⟩, ⟨bZ BK193.out⟩, ⟨z6_1⟩⟩
   ·rw [if_neg c3] at H
    have c3b0 : decide (x14_1 < (l0.length : Int)) = false := decide_eq_false c3; clear c3; simp only [Option.some.injEq, Prod.mk.injEq] at H; obtain ⟨rfl, rfl⟩ := H
    go_wp2
    go_ret; exact ⟨_, _, gb193, rfl, zL6 BK193.out, GW193.out, z6_2, z6_3, z6_7⟩

end Go.Proofs.Ytfgpffocieegdaa.PA
