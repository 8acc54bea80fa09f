import Derived.Test.YtamaejafddmagaaHk
import Derived.Test.YtamaejafddmagaaPAx0
import Derived.Test.YtamaejafddmagaaPAx1
import Derived.Test.YtamaejafddmagaaGw
import Derived.Test.YtamaejafddmagaaGm
import Derived.Test.YtamaejafddmagaaGc
namespace Go.Proofs.Ytamaejafddmagaa.PA
open Go.RowKit Go.Proofs.YtamaejafddmagaaW.PrintWords Go.Proofs.YtamaejafddmagaaW.PrintLast Go.Proofs.YtamaejafddmagaaW.PrintMore
attribute [local go_sem] max2_int min2_int max_two min_two max_three min_three max_four min_four   -- for this text's walks alone
set_option linter.unusedVariables false
set_option linter.unusedSimpArgs false

/-! ### impl_spanOf: function 65 -/
theorem zL4 {p q : Prop} (h : q) (t : q → p := by intro h_; (with_reducible repeat first|refine blk_drewN ?_ _|refine blk_drew ?_|refine blk_alloc ?_ _); exact h_) : p := t h
theorem z4_1 {p : Prop} (h : p := by repeat (first | (with_reducible first | exact HB.out | apply below_alloc | apply pw_below_drewN | apply below_drew1 | refine below_set ?_ GE146.out | refine below_set ?_ GE148.out | refine below_set ?_ GE149.out) | exact HB.out)) : p := h
theorem z4_2 {p : Prop} (h : p := by (with_reducible repeat (first | apply Kd.R_alloc | apply Kd.R_drewN | apply Kd.R_drew)); exact ab.out) : p := h
theorem z4_3 {p : Prop} (h : p := by (with_reducible repeat (first | apply Kd.R_alloc | apply Kd.R_drewN | apply Kd.R_drew)); exact aa.out) : p := h
theorem z4_4 {p : Prop} (h : p := by (try simp only [List.map_toArray, List.map_cons, List.map_nil]); first | done | rfl | (simp only [List.length_drop, List.length_take]; rfl)) : p := h
theorem z4_5 {p : Prop} (h : p := by rw [hw]; exact (by (with_reducible repeat (first | apply Kd.R_alloc | apply Kd.R_drewN | apply Kd.R_drew)); exact Kd.R_mono (Kd.R_far (p := ⟨gb149, 11, none⟩) (Kd.R_far (p := ⟨gb149, 10, none⟩) (Kd.R_far (p := ⟨gb149, 9, none⟩) (Kd.R_far (p := ⟨gb149, 8, none⟩) (Kd.R_far (p := ⟨gb149, 7, none⟩) (Kd.R_far (p := ⟨gb149, 6, none⟩) (Kd.R_far (p := ⟨gb149, 5, none⟩) (Kd.R_far (p := ⟨gb149, 4, none⟩) (Kd.R_far (p := ⟨gb149, 3, none⟩) (Kd.R_far (p := ⟨gb149, 2, none⟩) (Kd.R_far (p := ⟨gb149, 1, none⟩) (Kd.R_far (p := ⟨gb149, 0, none⟩) (Kd.R_mono ab.out (fun k_ hk => (⟨hk, hk⟩ : _ ∧ k_ ≠ gb149))) (fun _ hk => hk.2) (.int .i64 t150)) (fun _ hk => hk.2) (.int .i64 t151)) (fun _ hk => hk.2) (.int .i64 t152)) (fun _ hk => hk.2) (.int .i64 t153)) (fun _ hk => hk.2) (.int .i64 t154)) (fun _ hk => hk.2) (.int .i64 t155)) (fun _ hk => hk.2) (.int .i64 t156)) (fun _ hk => hk.2) (.int .i64 t157)) (fun _ hk => hk.2) (.int .i64 t158)) (fun _ hk => hk.2) (.int .i64 t159)) (fun _ hk => hk.2) (.int .i64 t160)) (fun _ hk => hk.2) (.int .i64 t161)) (fun _ hk => hk.1))) : p := h
theorem z4_6 {p : Prop} (h : p := by rw [hw]; exact (by (with_reducible repeat (first | apply Kd.R_alloc | apply Kd.R_drewN | apply Kd.R_drew)); exact Kd.R_mono (Kd.R_far (p := ⟨gb149, 11, none⟩) (Kd.R_far (p := ⟨gb149, 10, none⟩) (Kd.R_far (p := ⟨gb149, 9, none⟩) (Kd.R_far (p := ⟨gb149, 8, none⟩) (Kd.R_far (p := ⟨gb149, 7, none⟩) (Kd.R_far (p := ⟨gb149, 6, none⟩) (Kd.R_far (p := ⟨gb149, 5, none⟩) (Kd.R_far (p := ⟨gb149, 4, none⟩) (Kd.R_far (p := ⟨gb149, 3, none⟩) (Kd.R_far (p := ⟨gb149, 2, none⟩) (Kd.R_far (p := ⟨gb149, 1, none⟩) (Kd.R_far (p := ⟨gb149, 0, none⟩) (Kd.R_types aa.out BK149.out (by decide)) (fun _ hk => hk.2) (.int .i64 t150)) (fun _ hk => hk.2) (.int .i64 t151)) (fun _ hk => hk.2) (.int .i64 t152)) (fun _ hk => hk.2) (.int .i64 t153)) (fun _ hk => hk.2) (.int .i64 t154)) (fun _ hk => hk.2) (.int .i64 t155)) (fun _ hk => hk.2) (.int .i64 t156)) (fun _ hk => hk.2) (.int .i64 t157)) (fun _ hk => hk.2) (.int .i64 t158)) (fun _ hk => hk.2) (.int .i64 t159)) (fun _ hk => hk.2) (.int .i64 t160)) (fun _ hk => hk.2) (.int .i64 t161)) (fun _ hk => trivial))) : p := h
theorem z4_7 {p : Prop} (h : p := by repeat (first | (with_reducible first | exact HB.out | apply below_alloc | apply pw_below_drewN | apply below_drew1 | refine below_set ?_ GE146.out) | exact HB.out)) : p := h
theorem z4_8 {p : Prop} (h : p := by repeat (first | (with_reducible first | exact HB.out | apply below_alloc | apply pw_below_drewN | apply below_drew1 | refine below_set ?_ GE146.out | refine below_set ?_ GE148.out) | exact HB.out)) : p := h
theorem z4_9 {p : Prop} (h : p := by have := HK1.out; have := HJ5.out; have := HJ84.out; have := HK4.out; omega) : p := h
theorem z4_10 {p : Prop} (h : p := by first | rfl | (simp; done) | (simp [*]; done) | (simp; unfold wrap64; omega)) : p := h
theorem z4_11 {p : Prop} (h : p := by have := HK1.out; first | omega | exact Nat.le_refl _) : p := h
theorem z4_12 {p : Prop} (h : p := by first | rfl | (simp; done) | (simp [*]; done)) : p := h
theorem z4_13 {p : Prop} (h : p := by repeat (first | (with_reducible first | exact HB.out | apply below_alloc | apply pw_below_drewN | apply below_drew1) | exact HB.out)) : p := h
theorem z4_14 {p : Prop} (h : p := by rw [← hq_]; exact (zL4 BK146.out)) : p := h
theorem z4_15 {p : Prop} (h : p := by rw [← hq_]; exact (zL4 BK148.out)) : p := h
theorem z4_16 {p : Prop} (h : p := by rw [← hq_]; exact (zL4 BK149.out)) : p := h
theorem z4_17 {p : Prop} (h : p := by have := HK1.out; have := HJ5.out; first | omega | exact Nat.le_refl _) : p := h
theorem z4_18 {p : Prop} (h : p := by rw [← hq_]; exact z4_2) : p := h
theorem z4_19 {p : Prop} (h : p := by rw [← hq_]; exact z4_3) : p := h
theorem z4_20 {p : Prop} (h : p := by rw [← hq_]; exact z4_1) : p := h
theorem z4_21 {p : Prop} (h : p := by first | exact Kd.R_nil _ _ _ _ _ | exact Kd.N_nil _ _ _ _ _ | exact Kd.V_nil _ _ _ _ _ | exact Kd.Q_nil _ _ _ _ _ | exact Kd.S_nil _ _ _ _ _) : p := h
theorem z4_22 {p : Prop} (h : p := by rw [hw]; exact (gZ ac.out BK146.out)) : p := h
theorem z4_23 {p : Prop} (h : p := by rw [hw]; exact (gZ ae.out BK148.out)) : p := h
mutual
def impl_spanOf.l0 : Nat → List (S70) → Int → Int → List (S102) → List Int → Option ((List (S102)) × List Int)
  | 0, _, _, _, _, _ => none
  | k + 1, x12, x13, x14, x147000, x147001 => if x14 < x13 then (if 0 ≤ x14 then (if x14 < (x12.length : Int) then (if x14 = 0 then (impl_spanOf.j1 k x14 x12 x13 x14 x147000 x147001 ((rd_T70 x12 x14).f0) ((rd_T70 x12 x14).f1) ((rd_T70 x12 x14).f2) ((rd_T70 x12 x14).f3) 1 0 0 0 0 0 0 0) else (if x14 = 1 then (impl_spanOf.j1 k x14 x12 x13 x14 x147000 x147001 ((rd_T70 x12 x14).f0) ((rd_T70 x12 x14).f1) ((rd_T70 x12 x14).f2) ((rd_T70 x12 x14).f3) 0 1 0 0 0 0 0 0) else (if x14 = 2 then (impl_spanOf.j1 k x14 x12 x13 x14 x147000 x147001 ((rd_T70 x12 x14).f0) ((rd_T70 x12 x14).f1) ((rd_T70 x12 x14).f2) ((rd_T70 x12 x14).f3) 0 0 1 0 0 0 0 0) else (if x14 = 3 then (impl_spanOf.j1 k x14 x12 x13 x14 x147000 x147001 ((rd_T70 x12 x14).f0) ((rd_T70 x12 x14).f1) ((rd_T70 x12 x14).f2) ((rd_T70 x12 x14).f3) 0 0 0 1 0 0 0 0) else (if x14 = 4 then (impl_spanOf.j1 k x14 x12 x13 x14 x147000 x147001 ((rd_T70 x12 x14).f0) ((rd_T70 x12 x14).f1) ((rd_T70 x12 x14).f2) ((rd_T70 x12 x14).f3) 0 0 0 0 1 0 0 0) else (if x14 = 5 then (impl_spanOf.j1 k x14 x12 x13 x14 x147000 x147001 ((rd_T70 x12 x14).f0) ((rd_T70 x12 x14).f1) ((rd_T70 x12 x14).f2) ((rd_T70 x12 x14).f3) 0 0 0 0 0 1 0 0) else (if x14 = 6 then (impl_spanOf.j1 k x14 x12 x13 x14 x147000 x147001 ((rd_T70 x12 x14).f0) ((rd_T70 x12 x14).f1) ((rd_T70 x12 x14).f2) ((rd_T70 x12 x14).f3) 0 0 0 0 0 0 1 0) else (if x14 = 7 then (impl_spanOf.j1 k x14 x12 x13 x14 x147000 x147001 ((rd_T70 x12 x14).f0) ((rd_T70 x12 x14).f1) ((rd_T70 x12 x14).f2) ((rd_T70 x12 x14).f3) 0 0 0 0 0 0 0 1) else (none))))))))) else (none)) else (none)) else (some (x147000, x147001))
def impl_spanOf.j1 : Nat → Int → List (S70) → Int → Int → List (S102) → List Int → Int → Int → Int → Int → Int → Int → Int → Int → Int → Int → Int → Int → Option ((List (S102)) × List Int)
  | 0, _, _, _, _, _, _, _, _, _, _, _, _, _, _, _, _, _, _ => none
  | k + 1, x4, x12, x13, x14, x147000, x147001, x150000, x150001, x150002, x150003, x150004, x150005, x150006, x150007, x150008, x150009, x150010, x150011 => (impl_span_less.f k x147000 x147001 x150000 x150001 x150002 x150003 x150004 x150005 x150006 x150007 x150008 x150009 x150010 x150011).bind fun bt150 => ((impl_vector_lead.f bt150.1 bt150.2.1 bt150.2.2.1 bt150.2.2.2.1).bind fun t162 => (if t162 < 0 then (impl_spanOf.l0 k x12 x13 (wrap64 (x14 + 1)) x147000 x147001) else (if t162 = 0 then ((impl_element_inverse.f k bt150.1).bind fun t163 => (impl_spanOf.j2 k x4 t163 x12 x13 x14 x147000 x147001 bt150.1 bt150.2.1 bt150.2.2.1 bt150.2.2.2.1 bt150.2.2.2.2.1 bt150.2.2.2.2.2.1 bt150.2.2.2.2.2.2.1 bt150.2.2.2.2.2.2.2.1 bt150.2.2.2.2.2.2.2.2.1 bt150.2.2.2.2.2.2.2.2.2.1 bt150.2.2.2.2.2.2.2.2.2.2.1 bt150.2.2.2.2.2.2.2.2.2.2.2)) else (if t162 = 1 then ((impl_element_inverse.f k bt150.2.1).bind fun t164 => (impl_spanOf.j2 k x4 t164 x12 x13 x14 x147000 x147001 bt150.1 bt150.2.1 bt150.2.2.1 bt150.2.2.2.1 bt150.2.2.2.2.1 bt150.2.2.2.2.2.1 bt150.2.2.2.2.2.2.1 bt150.2.2.2.2.2.2.2.1 bt150.2.2.2.2.2.2.2.2.1 bt150.2.2.2.2.2.2.2.2.2.1 bt150.2.2.2.2.2.2.2.2.2.2.1 bt150.2.2.2.2.2.2.2.2.2.2.2)) else (if t162 = 2 then ((impl_element_inverse.f k bt150.2.2.1).bind fun t165 => (impl_spanOf.j2 k x4 t165 x12 x13 x14 x147000 x147001 bt150.1 bt150.2.1 bt150.2.2.1 bt150.2.2.2.1 bt150.2.2.2.2.1 bt150.2.2.2.2.2.1 bt150.2.2.2.2.2.2.1 bt150.2.2.2.2.2.2.2.1 bt150.2.2.2.2.2.2.2.2.1 bt150.2.2.2.2.2.2.2.2.2.1 bt150.2.2.2.2.2.2.2.2.2.2.1 bt150.2.2.2.2.2.2.2.2.2.2.2)) else (if t162 = 3 then ((impl_element_inverse.f k bt150.2.2.2.1).bind fun t166 => (impl_spanOf.j2 k x4 t166 x12 x13 x14 x147000 x147001 bt150.1 bt150.2.1 bt150.2.2.1 bt150.2.2.2.1 bt150.2.2.2.2.1 bt150.2.2.2.2.2.1 bt150.2.2.2.2.2.2.1 bt150.2.2.2.2.2.2.2.1 bt150.2.2.2.2.2.2.2.2.1 bt150.2.2.2.2.2.2.2.2.2.1 bt150.2.2.2.2.2.2.2.2.2.2.1 bt150.2.2.2.2.2.2.2.2.2.2.2)) else (none)))))))
def impl_spanOf.j2 : Nat → Int → Int → List (S70) → Int → Int → List (S102) → List Int → Int → Int → Int → Int → Int → Int → Int → Int → Int → Int → Int → Int → Option ((List (S102)) × List Int)
  | 0, _, _, _, _, _, _, _, _, _, _, _, _, _, _, _, _, _, _, _ => none
  | k + 1, x4, x8, x12, x13, x14, x147000, x147001, x150000, x150001, x150002, x150003, x150004, x150005, x150006, x150007, x150008, x150009, x150010, x150011 => (impl_vector_times.f x150000 x150001 x150002 x150003 x8).bind fun bt167 => (impl_spanOf.l1 k x4 x8 x12 x13 x14 0 x147000 x147001 bt167.1 bt167.2.1 bt167.2.2.1 bt167.2.2.2 x150004 x150005 x150006 x150007 x150008 x150009 x150010 x150011)
def impl_spanOf.l1 : Nat → Int → Int → List (S70) → Int → Int → Int → List (S102) → List Int → Int → Int → Int → Int → Int → Int → Int → Int → Int → Int → Int → Int → Option ((List (S102)) × List Int)
  | 0, _, _, _, _, _, _, _, _, _, _, _, _, _, _, _, _, _, _, _, _ => none
  | k + 1, x4, x8, x12, x13, x14, x42, x147000, x147001, x150000, x150001, x150002, x150003, x150004, x150005, x150006, x150007, x150008, x150009, x150010, x150011 => if x42 < 8 then (if x42 = 0 then ((impl_element_times.f x150004 x8).bind fun t171 => (impl_spanOf.l1 k x4 x8 x12 x13 x14 (wrap64 (x42 + 1)) x147000 x147001 x150000 x150001 x150002 x150003 t171 x150005 x150006 x150007 x150008 x150009 x150010 x150011)) else (if x42 = 1 then ((impl_element_times.f x150005 x8).bind fun t172 => (impl_spanOf.l1 k x4 x8 x12 x13 x14 (wrap64 (x42 + 1)) x147000 x147001 x150000 x150001 x150002 x150003 x150004 t172 x150006 x150007 x150008 x150009 x150010 x150011)) else (if x42 = 2 then ((impl_element_times.f x150006 x8).bind fun t173 => (impl_spanOf.l1 k x4 x8 x12 x13 x14 (wrap64 (x42 + 1)) x147000 x147001 x150000 x150001 x150002 x150003 x150004 x150005 t173 x150007 x150008 x150009 x150010 x150011)) else (if x42 = 3 then ((impl_element_times.f x150007 x8).bind fun t174 => (impl_spanOf.l1 k x4 x8 x12 x13 x14 (wrap64 (x42 + 1)) x147000 x147001 x150000 x150001 x150002 x150003 x150004 x150005 x150006 t174 x150008 x150009 x150010 x150011)) else (if x42 = 4 then ((impl_element_times.f x150008 x8).bind fun t175 => (impl_spanOf.l1 k x4 x8 x12 x13 x14 (wrap64 (x42 + 1)) x147000 x147001 x150000 x150001 x150002 x150003 x150004 x150005 x150006 x150007 t175 x150009 x150010 x150011)) else (if x42 = 5 then ((impl_element_times.f x150009 x8).bind fun t176 => (impl_spanOf.l1 k x4 x8 x12 x13 x14 (wrap64 (x42 + 1)) x147000 x147001 x150000 x150001 x150002 x150003 x150004 x150005 x150006 x150007 x150008 t176 x150010 x150011)) else (if x42 = 6 then ((impl_element_times.f x150010 x8).bind fun t177 => (impl_spanOf.l1 k x4 x8 x12 x13 x14 (wrap64 (x42 + 1)) x147000 x147001 x150000 x150001 x150002 x150003 x150004 x150005 x150006 x150007 x150008 x150009 t177 x150011)) else (if x42 = 7 then ((impl_element_times.f x150011 x8).bind fun t178 => (impl_spanOf.l1 k x4 x8 x12 x13 x14 (wrap64 (x42 + 1)) x147000 x147001 x150000 x150001 x150002 x150003 x150004 x150005 x150006 x150007 x150008 x150009 x150010 t178)) else (none))))))))) else (if x147000.length < 1466015503701 then (if x147001.length < 17592186044416 then (impl_spanOf.l0 k x12 x13 (wrap64 (x14 + 1)) (x147000 ++ [(⟨(⟨x150000, x150001, x150002, x150003⟩ : S70), (⟨x150004, x150005, x150006, x150007, x150008, x150009, x150010, x150011⟩ : S100)⟩ : S102)]) (x147001 ++ [x4])) else (none)) else (none))
end
def impl_spanOf.f (k : Nat) (l0 : List (S70)) : Option ((List (S102)) × List Int) := impl_spanOf.l0 k l0 (l0.length : Int) 0 ([] : List (S102)) ([] : List Int)
def impl_spanOf.T17 : Bool × List (List Nat × List Nat) := (true, [([], []), ([], []), ([1], [1]), ([2], [2]), ([3], [3]), ([], []), ([5], [5]), ([4, 6], [4, 6]), ([0, 0, 1, 2, 3, 4, 5, 6, 7], [0]), ([8, 0, 1, 2, 3, 4, 5, 6, 7], [8]), ([9, 7, 7, 0, 1, 2, 3, 4, 5, 6, 7], [7, 9])])
def impl_spanOf.B17 : List Nat := [0, 0, 2, 6, 14, 0, 32, 126, 255, 511, 1023]
theorem impl_spanOf.tab17 : rtab .any (opsOf Try.f65 17) = impl_spanOf.T17 := by kernel_rfl
theorem impl_spanOf.bits17 : waitsOk impl_spanOf.T17.2 impl_spanOf.B17 = true := by kernel_rfl
theorem bA4 {W : World} {g : Nat} {cs : Array Value} {ty : TypeId} {j : Nat} {v : Value} (h : Aside0 (W.heap[g]? = some (.cells cs ty (0, 0)))) (e : cs[j]? = some v) : W.cell? ⟨g, j, none⟩ = some v := (blk_cell h.out j).trans e
set_option maxHeartbeats 8000000 in
set_option maxRecDepth 100000 in
theorem impl_spanOf.calls (k : Nat) (A0 : Option Addr) (c0 : Nat) (l0 : List (S70)) (r1 : List (S102)) (r2 : List Int) (w : World) (hr0 : Kd.C k70 w A0 l0.length l0) (hc0 : l0.length ≤ c0) (h : impl_spanOf.f k l0 = some (r1, r2)) :
  Calls Try.prog 65 #[.slice A0 l0.length c0] w fun e w' => ∃ v0_ v1_ : Value, ∃ g_ : Nat, e = .returned (.pointer (some ⟨g_, 0, none⟩)) ∧ w'.heap[g_]? = some (.cells #[v0_, v1_] 81 (0, 0)) ∧ w.heap.size ≤ g_ ∧ Kd.R k102 102 w' w.heap.size (fun _ => True) v0_ r1 ∧ Kd.R (Kd.int .i64) 3 w' w.heap.size (fun _ => True) v1_ r2 ∧ Below w.heap.size w w' := by
 have hu81 := Try.underlying81
 have hu70 := Try.underlying70
 have hu102 := Try.underlying102
 have HR0 := Aside0.mk hr0
 have HC0 := Aside0.mk hc0
 clear hr0 hc0
 have HB := Aside0.mk (Below.refl w.heap.size w)
 unfold impl_spanOf.f at h
 have H := h
 clear h
 have H' := Aside0.mk H
 clear H
 go_enter Try.func65, Try.ntmps65
 go_wp2_with (first | ((with_reducible refine gate_dst (N := 11) rfl ?_); refine box_event ?hg (N := 11) ?hd (cs := #[.slice none 0 0, .slice none 0 0]) (t := 81) ?hr ?_; (case hd => rfl); (case hg => rfl); (case hr => first | (go_simp; done) | (go_simp; rfl)); intro gb146 hg w2 hbox hb; have BK146 := Aside0.mk (hbox); have GW146 := Aside0.mk ((by rw [hg]; exact (below_size z4_13) : w.heap.size ≤ gb146)); have GE146 := Aside0.mk ((by rw [hg]; exact (below_size z4_13) : w.heap.size ≤ gb146)); replace HB := Aside0.mk (below_step z4_13 hb); clear hb hbox hg))
 go_loopg [14] k (fun kq v14 w' => ∃ (x14_1 : Int) (af : List (S102)) (ad : List Int) (u147000 : Value) (u147001 : Value), v14 = .int .i64 x14_1 ∧ Aside0 (impl_spanOf.l0 kq l0 (l0.length : Int) x14_1 af ad = some (r1, r2)) ∧ Aside0 (kq ≤ k) ∧ Aside0 (Kd.R k102 102 w' w.heap.size (fun _ => True) u147000 af) ∧ Aside0 (Kd.R (Kd.int .i64) 3 w' w.heap.size (fun _ => True) u147001 ad) ∧ Aside0 (w'.heap[gb146]? = some (.cells #[u147000, u147001] 81 (0, 0))) ∧ Aside0 (Below w.heap.size w w'))
 case atStart => exact ⟨(0), (([] : List (S102))), (([] : List Int)), (.slice none 0 0), (.slice none 0 0), z4_12, H', ⟨Nat.le_refl _⟩, ⟨z4_21⟩, ⟨z4_21⟩, ⟨zL4 BK146.out⟩, ⟨z4_7⟩⟩
 case round =>
  clear H'; obtain ⟨x14_1, af, ad, u147000, u147001, rfl, HA, HK1, ab, aa, BK146, HB⟩ := hrel
  cases gk with
  | zero => exact absurd HA.out (by simp [impl_spanOf.l0])
  | succ k1 =>
   have H := HA.out
   clear HA; simp only [impl_spanOf.l0] at H
   by_cases c3 : x14_1 < (l0.length : Int)
   ·rw [if_pos c3] at H
    have c3b0 : decide (x14_1 < (l0.length : Int)) = true := decide_eq_true c3; clear c3; obtain ⟨c4, H⟩ := ifP H; have c4b0 : decide (0 ≤ x14_1) = true := decide_eq_true c4; clear c4; obtain ⟨c5, H⟩ := ifP H; have c5b0 : decide (x14_1 < (l0.length : Int)) = true := decide_eq_true c5; clear c5
    have HC6 := Aside0.mk H
    clear H; have p147 : 0 ≤ (x14_1 : Int) := of_decide_eq_true (by first | (with_reducible assumption) | assumption); have q147 : x14_1 < (l0.length : Int) := of_decide_eq_true (by first | (with_reducible assumption) | assumption); obtain ⟨ad147, e147, hx147_0, hx147_1, hx147_2, hx147_3⟩ := at_T70 HR0.out x14_1 p147 q147; cases e147
    replace hx147_0 := (HB.out.cell (World.block_lt_of_cell? w _ hx147_0)).trans hx147_0
    replace hx147_1 := (HB.out.cell (World.block_lt_of_cell? w _ hx147_1)).trans hx147_1
    replace hx147_2 := (HB.out.cell (World.block_lt_of_cell? w _ hx147_2)).trans hx147_2
    replace hx147_3 := (HB.out.cell (World.block_lt_of_cell? w _ hx147_3)).trans hx147_3
    replace p147 := eq_true p147
    replace q147 := eq_true q147
    go_upto_region 6 with (first | ((with_reducible refine gate_dst (N := 5) rfl ?_); refine box_event ?hg (N := 5) ?hd (cs := #[.int .i64 0, .int .i64 0, .int .i64 0, .int .i64 0]) (t := 70) ?hr ?_; (case hd => rfl); (case hg => rfl); (case hr => first | (go_simp; done) | (go_simp; rfl)); intro gb148 hg w7 hbox hb; replace ab := Aside0.mk (Kd.R_below z4_2 hb); replace aa := Aside0.mk (Kd.R_below z4_3 hb); have BK148 := Aside0.mk (hbox); have GW148 := Aside0.mk ((by rw [hg]; exact (below_size z4_7) : w.heap.size ≤ gb148)); have GE148 := Aside0.mk ((by rw [hg]; exact (below_size z4_7) : w.heap.size ≤ gb148)); replace HB := Aside0.mk (below_step z4_7 hb); have aA := Aside0.mk ((by rw [hg]; exact bLZ_ BK146 : gb146 ≠ gb148)); have aC := Aside0.mk ((by rw [hg]; exact bGZ_ BK146 : gb148 ≠ gb146)); replace BK146 := bBZ_ BK146 hb; clear hb hbox hg; have hnb8 := aC.out; have hnc8 := aA.out; have b8 : w7.cell? ⟨gb148, 0, none⟩ = some (.int .i64 0) := bA4 BK148 rfl; have b9 := blk_frozen BK148.out 0; have aU : w7.cell? ⟨gb148, 1, none⟩ = some (.int .i64 0) := bA4 BK148 rfl; have aV := blk_frozen BK148.out 1; have aW : w7.cell? ⟨gb148, 2, none⟩ = some (.int .i64 0) := bA4 BK148 rfl; have aX := blk_frozen BK148.out 2; have aY : w7.cell? ⟨gb148, 3, none⟩ = some (.int .i64 0) := bA4 BK148 rfl; have aZ := blk_frozen BK148.out 3) | ((with_reducible refine gate_store (t := 70) (p := 5) rfl ?_); refine store_event (t := 70) (p := 5) (v := ?vo_w13) (w1 := ((((w7.setCell ⟨gb148, 0, none⟩ (.int .i64 ((rd_T70 l0 x14_1).f0))).setCell ⟨gb148, 1, none⟩ (.int .i64 ((rd_T70 l0 x14_1).f1))).setCell ⟨gb148, 2, none⟩ (.int .i64 ((rd_T70 l0 x14_1).f2))).setCell ⟨gb148, 3, none⟩ (.int .i64 ((rd_T70 l0 x14_1).f3)))) ?hg ?ho ?hn ?hr ?_; (case ho => rfl); (case hg => rfl); (case hn => rfl); (case hr => first | (go_simp; done) | (go_simp; rfl)); intro w13 hw; have n0_ : Aside0 (Kd.R k102 102 w13 w.heap.size (fun _ => True) u147000 af) := ⟨(by rw [hw]; exact (by (with_reducible repeat (first | apply Kd.R_alloc | apply Kd.R_drewN | apply Kd.R_drew)); exact Kd.R_mono (Kd.R_far (p := ⟨gb148, 3, none⟩) (Kd.R_far (p := ⟨gb148, 2, none⟩) (Kd.R_far (p := ⟨gb148, 1, none⟩) (Kd.R_far (p := ⟨gb148, 0, none⟩) (Kd.R_types ab.out BK148.out (by decide)) (fun _ hk => hk.2) (.int .i64 ((rd_T70 l0 x14_1).f0))) (fun _ hk => hk.2) (.int .i64 ((rd_T70 l0 x14_1).f1))) (fun _ hk => hk.2) (.int .i64 ((rd_T70 l0 x14_1).f2))) (fun _ hk => hk.2) (.int .i64 ((rd_T70 l0 x14_1).f3))) (fun _ hk => trivial)))⟩; have n1_ : Aside0 (Kd.R (Kd.int .i64) 3 w13 w.heap.size (fun _ => True) u147001 ad) := ⟨(by rw [hw]; exact (by (with_reducible repeat (first | apply Kd.R_alloc | apply Kd.R_drewN | apply Kd.R_drew)); exact Kd.R_mono (Kd.R_far (p := ⟨gb148, 3, none⟩) (Kd.R_far (p := ⟨gb148, 2, none⟩) (Kd.R_far (p := ⟨gb148, 1, none⟩) (Kd.R_far (p := ⟨gb148, 0, none⟩) (Kd.R_types aa.out BK148.out (by decide)) (fun _ hk => hk.2) (.int .i64 ((rd_T70 l0 x14_1).f0))) (fun _ hk => hk.2) (.int .i64 ((rd_T70 l0 x14_1).f1))) (fun _ hk => hk.2) (.int .i64 ((rd_T70 l0 x14_1).f2))) (fun _ hk => hk.2) (.int .i64 ((rd_T70 l0 x14_1).f3))) (fun _ hk => trivial)))⟩; have n2_ : Aside0 (w13.heap[gb146]? = some (.cells #[u147000, u147001] 81 (0, 0))) := ⟨(by rw [hw]; exact (gZ aA.out BK146.out))⟩; have n3_ : Aside0 (w13.heap[gb148]? = some (.cells #[.int .i64 ((rd_T70 l0 x14_1).f0), .int .i64 ((rd_T70 l0 x14_1).f1), .int .i64 ((rd_T70 l0 x14_1).f2), .int .i64 ((rd_T70 l0 x14_1).f3)] 70 (0, 0))) := ⟨(by rw [hw]; exact (bZ BK148.out))⟩; have n4_ : Aside0 (Below w.heap.size w w13) := ⟨(by rw [hw]; exact z4_8)⟩; clear hw; clear ab; clear aa; clear BK146; clear BK148; clear HB; have ab := n0_; have aa := n1_; have BK146 := n2_; have BK148 := n3_; have HB := n4_; clear n0_ n1_ n2_ n3_ n4_; have a0 : w13.cell? ⟨gb148, 0, none⟩ = some (.int .i64 ((rd_T70 l0 x14_1).f0)) := bA4 BK148 rfl; have a1 : w13.cell? ⟨gb148, 1, none⟩ = some (.int .i64 ((rd_T70 l0 x14_1).f1)) := bA4 BK148 rfl; have a2 : w13.cell? ⟨gb148, 2, none⟩ = some (.int .i64 ((rd_T70 l0 x14_1).f2)) := bA4 BK148 rfl; have a3 : w13.cell? ⟨gb148, 3, none⟩ = some (.int .i64 ((rd_T70 l0 x14_1).f3)) := bA4 BK148 rfl; have a4 := blk_frozen BK148.out 0; have a5 := blk_frozen BK148.out 1; have a6 := blk_frozen BK148.out 2; have a7 := blk_frozen BK148.out 3) | ((with_reducible refine gate_dst (N := 6) rfl ?_); refine box_event ?hg (N := 6) ?hd (cs := #[.int .i64 0, .int .i64 0, .int .i64 0, .int .i64 0, .int .i64 0, .int .i64 0, .int .i64 0, .int .i64 0, .int .i64 0, .int .i64 0, .int .i64 0, .int .i64 0]) (t := 102) ?hr ?_; (case hd => rfl); (case hg => rfl); (case hr => first | (go_simp; done) | (go_simp; rfl)); intro gb149 hg w15 hbox hb; replace ab := Aside0.mk (Kd.R_below (Kd.R_elderB z4_2 gb149 (Nat.le_of_eq hg.symm)) hb); replace aa := Aside0.mk (Kd.R_below z4_3 hb); have BK149 := Aside0.mk (hbox); have GW149 := Aside0.mk ((by rw [hg]; exact (below_size z4_8) : w.heap.size ≤ gb149)); have GE149 := Aside0.mk ((by rw [hg]; exact (below_size z4_8) : w.heap.size ≤ gb149)); replace HB := Aside0.mk (below_step z4_8 hb); have ac := Aside0.mk ((by rw [hg]; exact bLZ_ BK146 : gb146 ≠ gb149)); have ag := Aside0.mk ((by rw [hg]; exact bGZ_ BK146 : gb149 ≠ gb146)); replace BK146 := bBZ_ BK146 hb; have ae := Aside0.mk ((by rw [hg]; exact bLZ_ BK148 : gb148 ≠ gb149)); have ap := Aside0.mk ((by rw [hg]; exact bGZ_ BK148 : gb149 ≠ gb148)); replace BK148 := bBZ_ BK148 hb; clear hb hbox hg; have hnb16 := ag.out; have hnc16 := ac.out; have hnb17 := ap.out; have hnc17 := ae.out; have a8 : w15.cell? ⟨gb149, 0, none⟩ = some (.int .i64 0) := bA4 BK149 rfl; have a9 := blk_frozen BK149.out 0; have ba : w15.cell? ⟨gb149, 1, none⟩ = some (.int .i64 0) := bA4 BK149 rfl; have bb := blk_frozen BK149.out 1; have bc : w15.cell? ⟨gb149, 2, none⟩ = some (.int .i64 0) := bA4 BK149 rfl; have bd := blk_frozen BK149.out 2; have be : w15.cell? ⟨gb149, 3, none⟩ = some (.int .i64 0) := bA4 BK149 rfl; have bf := blk_frozen BK149.out 3; have bg : w15.cell? ⟨gb149, 4, none⟩ = some (.int .i64 0) := bA4 BK149 rfl; have bh := blk_frozen BK149.out 4; have bi : w15.cell? ⟨gb149, 5, none⟩ = some (.int .i64 0) := bA4 BK149 rfl; have bj := blk_frozen BK149.out 5; have bk : w15.cell? ⟨gb149, 6, none⟩ = some (.int .i64 0) := bA4 BK149 rfl; have bl := blk_frozen BK149.out 6; have bm : w15.cell? ⟨gb149, 7, none⟩ = some (.int .i64 0) := bA4 BK149 rfl; have bn := blk_frozen BK149.out 7; have bo : w15.cell? ⟨gb149, 8, none⟩ = some (.int .i64 0) := bA4 BK149 rfl; have bp := blk_frozen BK149.out 8; have bq : w15.cell? ⟨gb149, 9, none⟩ = some (.int .i64 0) := bA4 BK149 rfl; have br := blk_frozen BK149.out 9; have aD : w15.cell? ⟨gb149, 10, none⟩ = some (.int .i64 0) := bA4 BK149 rfl; have aE := blk_frozen BK149.out 10; have aG : w15.cell? ⟨gb149, 11, none⟩ = some (.int .i64 0) := bA4 BK149 rfl; have aH := blk_frozen BK149.out 11) | ((with_reducible refine gate_store (t := 102) (p := 6) rfl ?_); refine store_event (t := 102) (p := 6) (v := ?vo_w30) (w1 := ((((((((((((w15.setCell ⟨gb149, 0, none⟩ (.int .i64 ((rd_T70 l0 x14_1).f0))).setCell ⟨gb149, 1, none⟩ (.int .i64 ((rd_T70 l0 x14_1).f1))).setCell ⟨gb149, 2, none⟩ (.int .i64 ((rd_T70 l0 x14_1).f2))).setCell ⟨gb149, 3, none⟩ (.int .i64 ((rd_T70 l0 x14_1).f3))).setCell ⟨gb149, 4, none⟩ (.int .i64 0)).setCell ⟨gb149, 5, none⟩ (.int .i64 0)).setCell ⟨gb149, 6, none⟩ (.int .i64 0)).setCell ⟨gb149, 7, none⟩ (.int .i64 0)).setCell ⟨gb149, 8, none⟩ (.int .i64 0)).setCell ⟨gb149, 9, none⟩ (.int .i64 0)).setCell ⟨gb149, 10, none⟩ (.int .i64 0)).setCell ⟨gb149, 11, none⟩ (.int .i64 0))) ?hg ?ho ?hn ?hr ?_; (case ho => rfl); (case hg => rfl); (case hn => rfl); (case hr => first | (go_simp; done) | (go_simp; rfl)); intro w30 hw; have n0_ : Aside0 (Kd.R k102 102 w30 w.heap.size (fun k_ => k_ ≠ gb149) u147000 af) := ⟨(by rw [hw]; exact (by (with_reducible repeat (first | apply Kd.R_alloc | apply Kd.R_drewN | apply Kd.R_drew)); exact Kd.R_mono (Kd.R_far (p := ⟨gb149, 11, none⟩) (Kd.R_far (p := ⟨gb149, 10, none⟩) (Kd.R_far (p := ⟨gb149, 9, none⟩) (Kd.R_far (p := ⟨gb149, 8, none⟩) (Kd.R_far (p := ⟨gb149, 7, none⟩) (Kd.R_far (p := ⟨gb149, 6, none⟩) (Kd.R_far (p := ⟨gb149, 5, none⟩) (Kd.R_far (p := ⟨gb149, 4, none⟩) (Kd.R_far (p := ⟨gb149, 3, none⟩) (Kd.R_far (p := ⟨gb149, 2, none⟩) (Kd.R_far (p := ⟨gb149, 1, none⟩) (Kd.R_far (p := ⟨gb149, 0, none⟩) (Kd.R_mono ab.out (fun k_ hk => (⟨hk, hk.2⟩ : _ ∧ k_ ≠ gb149))) (fun _ hk => hk.2) (.int .i64 ((rd_T70 l0 x14_1).f0))) (fun _ hk => hk.2) (.int .i64 ((rd_T70 l0 x14_1).f1))) (fun _ hk => hk.2) (.int .i64 ((rd_T70 l0 x14_1).f2))) (fun _ hk => hk.2) (.int .i64 ((rd_T70 l0 x14_1).f3))) (fun _ hk => hk.2) (.int .i64 0)) (fun _ hk => hk.2) (.int .i64 0)) (fun _ hk => hk.2) (.int .i64 0)) (fun _ hk => hk.2) (.int .i64 0)) (fun _ hk => hk.2) (.int .i64 0)) (fun _ hk => hk.2) (.int .i64 0)) (fun _ hk => hk.2) (.int .i64 0)) (fun _ hk => hk.2) (.int .i64 0)) (fun _ hk => hk.1.2)))⟩; have n1_ : Aside0 (Kd.R (Kd.int .i64) 3 w30 w.heap.size (fun _ => True) u147001 ad) := ⟨(by rw [hw]; exact (by (with_reducible repeat (first | apply Kd.R_alloc | apply Kd.R_drewN | apply Kd.R_drew)); exact Kd.R_mono (Kd.R_far (p := ⟨gb149, 11, none⟩) (Kd.R_far (p := ⟨gb149, 10, none⟩) (Kd.R_far (p := ⟨gb149, 9, none⟩) (Kd.R_far (p := ⟨gb149, 8, none⟩) (Kd.R_far (p := ⟨gb149, 7, none⟩) (Kd.R_far (p := ⟨gb149, 6, none⟩) (Kd.R_far (p := ⟨gb149, 5, none⟩) (Kd.R_far (p := ⟨gb149, 4, none⟩) (Kd.R_far (p := ⟨gb149, 3, none⟩) (Kd.R_far (p := ⟨gb149, 2, none⟩) (Kd.R_far (p := ⟨gb149, 1, none⟩) (Kd.R_far (p := ⟨gb149, 0, none⟩) (Kd.R_types aa.out BK149.out (by decide)) (fun _ hk => hk.2) (.int .i64 ((rd_T70 l0 x14_1).f0))) (fun _ hk => hk.2) (.int .i64 ((rd_T70 l0 x14_1).f1))) (fun _ hk => hk.2) (.int .i64 ((rd_T70 l0 x14_1).f2))) (fun _ hk => hk.2) (.int .i64 ((rd_T70 l0 x14_1).f3))) (fun _ hk => hk.2) (.int .i64 0)) (fun _ hk => hk.2) (.int .i64 0)) (fun _ hk => hk.2) (.int .i64 0)) (fun _ hk => hk.2) (.int .i64 0)) (fun _ hk => hk.2) (.int .i64 0)) (fun _ hk => hk.2) (.int .i64 0)) (fun _ hk => hk.2) (.int .i64 0)) (fun _ hk => hk.2) (.int .i64 0)) (fun _ hk => trivial)))⟩; have n2_ : Aside0 (w30.heap[gb146]? = some (.cells #[u147000, u147001] 81 (0, 0))) := ⟨z4_22⟩; have n3_ : Aside0 (w30.heap[gb148]? = some (.cells #[.int .i64 ((rd_T70 l0 x14_1).f0), .int .i64 ((rd_T70 l0 x14_1).f1), .int .i64 ((rd_T70 l0 x14_1).f2), .int .i64 ((rd_T70 l0 x14_1).f3)] 70 (0, 0))) := ⟨z4_23⟩; have n4_ : Aside0 (w30.heap[gb149]? = some (.cells #[.int .i64 ((rd_T70 l0 x14_1).f0), .int .i64 ((rd_T70 l0 x14_1).f1), .int .i64 ((rd_T70 l0 x14_1).f2), .int .i64 ((rd_T70 l0 x14_1).f3), .int .i64 0, .int .i64 0, .int .i64 0, .int .i64 0, .int .i64 0, .int .i64 0, .int .i64 0, .int .i64 0] 102 (0, 0))) := ⟨(by rw [hw]; exact (bZ BK149.out))⟩; have n5_ : Aside0 (Below w.heap.size w w30) := ⟨(by rw [hw]; exact z4_1)⟩; clear hw; clear ab; clear aa; clear BK146; clear BK148; clear BK149; clear HB; have ab := n0_; have aa := n1_; have BK146 := n2_; have BK148 := n3_; have BK149 := n4_; have HB := n5_; clear n0_ n1_ n2_ n3_ n4_ n5_))
    (try simp only [Act.put, List.setIfInBounds_toArray, List.set_cons_zero, List.set_cons_succ])
    go_cut [] (fun wc => ∃ (kq : Nat) (aq : Int) (ar : Int) (au : Int) (av : Int) (aw : Int) (ax : Int) (ay : Int) (az : Int), Aside0 (impl_spanOf.j1 kq x14_1 l0 (l0.length : Int) x14_1 af ad ((rd_T70 l0 x14_1).f0) ((rd_T70 l0 x14_1).f1) ((rd_T70 l0 x14_1).f2) ((rd_T70 l0 x14_1).f3) aq ar au av aw ax ay az = some (r1, r2)) ∧ Aside0 (kq ≤ k1) ∧ Aside0 (Kd.R k102 102 wc w.heap.size (fun k_ => k_ ≠ gb149) u147000 af) ∧ Aside0 (Kd.R (Kd.int .i64) 3 wc w.heap.size (fun _ => True) u147001 ad) ∧ Aside0 (wc.heap[gb146]? = some (.cells #[u147000, u147001] 81 (0, 0))) ∧ Aside0 (wc.heap[gb148]? = some (.cells #[.int .i64 ((rd_T70 l0 x14_1).f0), .int .i64 ((rd_T70 l0 x14_1).f1), .int .i64 ((rd_T70 l0 x14_1).f2), .int .i64 ((rd_T70 l0 x14_1).f3)] 70 (0, 0))) ∧ Aside0 (wc.heap[gb149]? = some (.cells #[.int .i64 ((rd_T70 l0 x14_1).f0), .int .i64 ((rd_T70 l0 x14_1).f1), .int .i64 ((rd_T70 l0 x14_1).f2), .int .i64 ((rd_T70 l0 x14_1).f3), .int .i64 aq, .int .i64 ar, .int .i64 au, .int .i64 av, .int .i64 aw, .int .i64 ax, .int .i64 ay, .int .i64 az] 102 (0, 0))) ∧ Aside0 (Below w.heap.size w wc))
    case first =>
     have H := HC6.out
     clear HC6
     by_cases c31 : x14_1 = 0
     ·rw [if_pos c31] at H
      subst c31
      (try have hz_ := eq_true (Int.natCast_pos.1 (of_decide_eq_true c5b0) : 0 < l0.length))
      have H' := Aside0.mk H
      clear H
      have hnb32 := ag.out
      have hnc32 := ac.out
      have hnb33 := ap.out
      have hnc33 := ae.out
      have bs : w30.cell? ⟨gb149, 4, none⟩ = some (.int .i64 0) := bA4 BK149 rfl
      have bt := blk_frozen BK149.out 4
      go_wp2
      go_meet
      case rel => exact ⟨_, (1), (0), (0), (0), (0), (0), (0), (0), H', ⟨z4_11⟩, ⟨by (with_reducible repeat (first | apply Kd.R_alloc | apply Kd.R_drewN | apply Kd.R_drew)); exact Kd.R_mono (Kd.R_far (p := ⟨gb149, 4, none⟩) (Kd.R_mono ab.out (fun k_ hk => (⟨hk, hk⟩ : _ ∧ k_ ≠ gb149))) (fun _ hk => hk.2) (.int .i64 1)) (fun _ hk => hk.1)⟩, ⟨by (with_reducible repeat (first | apply Kd.R_alloc | apply Kd.R_drewN | apply Kd.R_drew)); exact Kd.R_mono (Kd.R_far (p := ⟨gb149, 4, none⟩) (Kd.R_types aa.out BK149.out (by decide)) (fun _ hk => hk.2) (.int .i64 1)) (fun _ hk => trivial)⟩, ⟨gZ ac.out BK146.out⟩, ⟨gZ ae.out BK148.out⟩, ⟨bZ BK149.out⟩, ⟨z4_1⟩⟩
     ·rw [if_neg c31] at H
      clear c31
      by_cases c35 : x14_1 = 1
      ·rw [if_pos c35] at H
       subst c35
       (try have hz_ := eq_true (by have h_ := of_decide_eq_true c5b0; omega : 1 < l0.length))
       have H' := Aside0.mk H
       clear H
       have hnb36 := ag.out
       have hnc36 := ac.out
       have hnb37 := ap.out
       have hnc37 := ae.out
       have bu : w30.cell? ⟨gb149, 5, none⟩ = some (.int .i64 0) := bA4 BK149 rfl
       have bv := blk_frozen BK149.out 5
       go_wp2
       go_meet
       case rel => exact ⟨_, (0), (1), (0), (0), (0), (0), (0), (0), H', ⟨z4_11⟩, ⟨by (with_reducible repeat (first | apply Kd.R_alloc | apply Kd.R_drewN | apply Kd.R_drew)); exact Kd.R_mono (Kd.R_far (p := ⟨gb149, 5, none⟩) (Kd.R_mono ab.out (fun k_ hk => (⟨hk, hk⟩ : _ ∧ k_ ≠ gb149))) (fun _ hk => hk.2) (.int .i64 1)) (fun _ hk => hk.1)⟩, ⟨by (with_reducible repeat (first | apply Kd.R_alloc | apply Kd.R_drewN | apply Kd.R_drew)); exact Kd.R_mono (Kd.R_far (p := ⟨gb149, 5, none⟩) (Kd.R_types aa.out BK149.out (by decide)) (fun _ hk => hk.2) (.int .i64 1)) (fun _ hk => trivial)⟩, ⟨gZ ac.out BK146.out⟩, ⟨gZ ae.out BK148.out⟩, ⟨bZ BK149.out⟩, ⟨z4_1⟩⟩
      ·rw [if_neg c35] at H
       clear c35
       by_cases c39 : x14_1 = 2
       ·rw [if_pos c39] at H
        subst c39
        (try have hz_ := eq_true (by have h_ := of_decide_eq_true c5b0; omega : 2 < l0.length))
        have H' := Aside0.mk H
        clear H
        have hnb40 := ag.out
        have hnc40 := ac.out
        have hnb41 := ap.out
        have hnc41 := ae.out
        have bw : w30.cell? ⟨gb149, 6, none⟩ = some (.int .i64 0) := bA4 BK149 rfl
        have bx := blk_frozen BK149.out 6
        go_wp2
        go_meet
        case rel => exact ⟨_, (0), (0), (1), (0), (0), (0), (0), (0), H', ⟨z4_11⟩, ⟨by (with_reducible repeat (first | apply Kd.R_alloc | apply Kd.R_drewN | apply Kd.R_drew)); exact Kd.R_mono (Kd.R_far (p := ⟨gb149, 6, none⟩) (Kd.R_mono ab.out (fun k_ hk => (⟨hk, hk⟩ : _ ∧ k_ ≠ gb149))) (fun _ hk => hk.2) (.int .i64 1)) (fun _ hk => hk.1)⟩, ⟨by (with_reducible repeat (first | apply Kd.R_alloc | apply Kd.R_drewN | apply Kd.R_drew)); exact Kd.R_mono (Kd.R_far (p := ⟨gb149, 6, none⟩) (Kd.R_types aa.out BK149.out (by decide)) (fun _ hk => hk.2) (.int .i64 1)) (fun _ hk => trivial)⟩, ⟨gZ ac.out BK146.out⟩, ⟨gZ ae.out BK148.out⟩, ⟨bZ BK149.out⟩, ⟨z4_1⟩⟩
       ·rw [if_neg c39] at H
        clear c39
        by_cases c43 : x14_1 = 3
        ·rw [if_pos c43] at H
         subst c43
         (try have hz_ := eq_true (by have h_ := of_decide_eq_true c5b0; omega : 3 < l0.length))
         have H' := Aside0.mk H
         clear H
         have hnb44 := ag.out
         have hnc44 := ac.out
         have hnb45 := ap.out
         have hnc45 := ae.out
         have bz : w30.cell? ⟨gb149, 7, none⟩ = some (.int .i64 0) := bA4 BK149 rfl
         have bA := blk_frozen BK149.out 7
         go_wp2
         go_meet
         case rel => exact ⟨_, (0), (0), (0), (1), (0), (0), (0), (0), H', ⟨z4_11⟩, ⟨by (with_reducible repeat (first | apply Kd.R_alloc | apply Kd.R_drewN | apply Kd.R_drew)); exact Kd.R_mono (Kd.R_far (p := ⟨gb149, 7, none⟩) (Kd.R_mono ab.out (fun k_ hk => (⟨hk, hk⟩ : _ ∧ k_ ≠ gb149))) (fun _ hk => hk.2) (.int .i64 1)) (fun _ hk => hk.1)⟩, ⟨by (with_reducible repeat (first | apply Kd.R_alloc | apply Kd.R_drewN | apply Kd.R_drew)); exact Kd.R_mono (Kd.R_far (p := ⟨gb149, 7, none⟩) (Kd.R_types aa.out BK149.out (by decide)) (fun _ hk => hk.2) (.int .i64 1)) (fun _ hk => trivial)⟩, ⟨gZ ac.out BK146.out⟩, ⟨gZ ae.out BK148.out⟩, ⟨bZ BK149.out⟩, ⟨z4_1⟩⟩
        ·rw [if_neg c43] at H
         clear c43
         by_cases c47 : x14_1 = 4
         ·rw [if_pos c47] at H
          subst c47
          (try have hz_ := eq_true (by have h_ := of_decide_eq_true c5b0; omega : 4 < l0.length))
          have H' := Aside0.mk H
          clear H
          have hnb48 := ag.out
          have hnc48 := ac.out
          have hnb49 := ap.out
          have hnc49 := ae.out
          have bB : w30.cell? ⟨gb149, 8, none⟩ = some (.int .i64 0) := bA4 BK149 rfl
          have bC := blk_frozen BK149.out 8
          go_wp2
          go_meet
          case rel => exact ⟨_, (0), (0), (0), (0), (1), (0), (0), (0), H', ⟨z4_11⟩, ⟨by (with_reducible repeat (first | apply Kd.R_alloc | apply Kd.R_drewN | apply Kd.R_drew)); exact Kd.R_mono (Kd.R_far (p := ⟨gb149, 8, none⟩) (Kd.R_mono ab.out (fun k_ hk => (⟨hk, hk⟩ : _ ∧ k_ ≠ gb149))) (fun _ hk => hk.2) (.int .i64 1)) (fun _ hk => hk.1)⟩, ⟨by (with_reducible repeat (first | apply Kd.R_alloc | apply Kd.R_drewN | apply Kd.R_drew)); exact Kd.R_mono (Kd.R_far (p := ⟨gb149, 8, none⟩) (Kd.R_types aa.out BK149.out (by decide)) (fun _ hk => hk.2) (.int .i64 1)) (fun _ hk => trivial)⟩, ⟨gZ ac.out BK146.out⟩, ⟨gZ ae.out BK148.out⟩, ⟨bZ BK149.out⟩, ⟨z4_1⟩⟩
         ·rw [if_neg c47] at H
          clear c47
          by_cases c51 : x14_1 = 5
          ·rw [if_pos c51] at H
           subst c51
           (try have hz_ := eq_true (by have h_ := of_decide_eq_true c5b0; omega : 5 < l0.length))
           have H' := Aside0.mk H
           clear H
           have hnb52 := ag.out
           have hnc52 := ac.out
           have hnb53 := ap.out
           have hnc53 := ae.out
           have bD : w30.cell? ⟨gb149, 9, none⟩ = some (.int .i64 0) := bA4 BK149 rfl
           have bE := blk_frozen BK149.out 9
           go_wp2
           go_meet
           case rel => exact ⟨_, (0), (0), (0), (0), (0), (1), (0), (0), H', ⟨z4_11⟩, ⟨by (with_reducible repeat (first | apply Kd.R_alloc | apply Kd.R_drewN | apply Kd.R_drew)); exact Kd.R_mono (Kd.R_far (p := ⟨gb149, 9, none⟩) (Kd.R_mono ab.out (fun k_ hk => (⟨hk, hk⟩ : _ ∧ k_ ≠ gb149))) (fun _ hk => hk.2) (.int .i64 1)) (fun _ hk => hk.1)⟩, ⟨by (with_reducible repeat (first | apply Kd.R_alloc | apply Kd.R_drewN | apply Kd.R_drew)); exact Kd.R_mono (Kd.R_far (p := ⟨gb149, 9, none⟩) (Kd.R_types aa.out BK149.out (by decide)) (fun _ hk => hk.2) (.int .i64 1)) (fun _ hk => trivial)⟩, ⟨gZ ac.out BK146.out⟩, ⟨gZ ae.out BK148.out⟩, ⟨bZ BK149.out⟩, ⟨z4_1⟩⟩
          ·rw [if_neg c51] at H
           clear c51
           by_cases c55 : x14_1 = 6
           ·rw [if_pos c55] at H
            subst c55
            (try have hz_ := eq_true (by have h_ := of_decide_eq_true c5b0; omega : 6 < l0.length))
            have H' := Aside0.mk H
            clear H
            have hnb56 := ag.out
            have hnc56 := ac.out
            have hnb57 := ap.out
            have hnc57 := ae.out
            have aI : w30.cell? ⟨gb149, 10, none⟩ = some (.int .i64 0) := bA4 BK149 rfl
            have aJ := blk_frozen BK149.out 10
            go_wp2
            go_meet
            case rel => exact ⟨_, (0), (0), (0), (0), (0), (0), (1), (0), H', ⟨z4_11⟩, ⟨by (with_reducible repeat (first | apply Kd.R_alloc | apply Kd.R_drewN | apply Kd.R_drew)); exact Kd.R_mono (Kd.R_far (p := ⟨gb149, 10, none⟩) (Kd.R_mono ab.out (fun k_ hk => (⟨hk, hk⟩ : _ ∧ k_ ≠ gb149))) (fun _ hk => hk.2) (.int .i64 1)) (fun _ hk => hk.1)⟩, ⟨by (with_reducible repeat (first | apply Kd.R_alloc | apply Kd.R_drewN | apply Kd.R_drew)); exact Kd.R_mono (Kd.R_far (p := ⟨gb149, 10, none⟩) (Kd.R_types aa.out BK149.out (by decide)) (fun _ hk => hk.2) (.int .i64 1)) (fun _ hk => trivial)⟩, ⟨gZ ac.out BK146.out⟩, ⟨gZ ae.out BK148.out⟩, ⟨bZ BK149.out⟩, ⟨z4_1⟩⟩
           ·rw [if_neg c55] at H
            clear c55; obtain ⟨c59, H⟩ := ifP H; subst c59
            (try have hz_ := eq_true (by have h_ := of_decide_eq_true c5b0; omega : 7 < l0.length))
            have H' := Aside0.mk H
            clear H
            have hnb60 := ag.out
            have hnc60 := ac.out
            have hnb61 := ap.out
            have hnc61 := ae.out
            have aK : w30.cell? ⟨gb149, 11, none⟩ = some (.int .i64 0) := bA4 BK149 rfl
            have aM := blk_frozen BK149.out 11
            go_wp2
            go_meet
            case rel => exact ⟨_, (0), (0), (0), (0), (0), (0), (0), (1), H', ⟨z4_11⟩, ⟨by (with_reducible repeat (first | apply Kd.R_alloc | apply Kd.R_drewN | apply Kd.R_drew)); exact Kd.R_mono (Kd.R_far (p := ⟨gb149, 11, none⟩) (Kd.R_mono ab.out (fun k_ hk => (⟨hk, hk⟩ : _ ∧ k_ ≠ gb149))) (fun _ hk => hk.2) (.int .i64 1)) (fun _ hk => hk.1)⟩, ⟨by (with_reducible repeat (first | apply Kd.R_alloc | apply Kd.R_drewN | apply Kd.R_drew)); exact Kd.R_mono (Kd.R_far (p := ⟨gb149, 11, none⟩) (Kd.R_types aa.out BK149.out (by decide)) (fun _ hk => hk.2) (.int .i64 1)) (fun _ hk => trivial)⟩, ⟨gZ ac.out BK146.out⟩, ⟨gZ ae.out BK148.out⟩, ⟨bZ BK149.out⟩, ⟨z4_1⟩⟩
    case rest =>
     clear HC6
     try clear c3
     try clear c3b0
     try clear c4
     try clear c4b0
     try clear c5
     try clear c5b0
     try clear aU
     try clear aW
     try clear aY
     try clear a0 a1 a2 a3
     try clear a8
     try clear ba
     try clear bc
     try clear be
     try clear bg
     try clear bi
     try clear bk
     try clear bm
     try clear bo
     try clear bq
     try clear aD
     try clear aG
     try clear b8
     try clear aV
     try clear aX
     try clear aZ
     try clear a4 a5 a6 a7
     try clear a9
     try clear bb
     try clear bd
     try clear bf
     try clear bh
     try clear bj
     try clear bl
     try clear bn
     try clear bp
     try clear br
     try clear aE
     try clear aH
     try clear b9
     try clear hx147_0 hx147_1 hx147_2 hx147_3
     try clear p147
     try clear q147
     obtain ⟨kq, aq, ar, au, av, aw, ax, ay, az, HA, HJ5, ab, aa, BK146, BK148, BK149, HB⟩ := hcut
     cases kq with
     | zero => exact absurd HA.out (by simp [impl_spanOf.j1])
     | succ kj5 =>
      have H := HA.out
      clear HA; simp only [impl_spanOf.j1] at H
      replace H := Option.bind_eq_some_iff.mp H
      obtain ⟨⟨t150, t151, t152, t153, t154, t155, t156, t157, t158, t159, t160, t161⟩, A630, H⟩ := H
      dsimp only at H
      have A63 := Aside0.mk A630
      clear A630
      replace H := Option.bind_eq_some_iff.mp H
      obtain ⟨t162, A640, H⟩ := H
      have A64 := Aside0.mk A640
      clear A640
      by_cases c65 : t162 < 0
      ·rw [if_pos c65] at H
       have c65b0 : decide (t162 < 0) = true := decide_eq_true c65; clear c65
       have H' := Aside0.mk H
       clear H
       have hnb66 := ag.out
       have hnc66 := ac.out
       have hnb67 := ap.out
       have hnc67 := ae.out
       have ca : wc.cell? ⟨gb149, 0, none⟩ = some (.int .i64 ((rd_T70 l0 x14_1).f0)) := bA4 BK149 rfl; have cb : wc.cell? ⟨gb149, 1, none⟩ = some (.int .i64 ((rd_T70 l0 x14_1).f1)) := bA4 BK149 rfl; have cc : wc.cell? ⟨gb149, 2, none⟩ = some (.int .i64 ((rd_T70 l0 x14_1).f2)) := bA4 BK149 rfl; have cd : wc.cell? ⟨gb149, 3, none⟩ = some (.int .i64 ((rd_T70 l0 x14_1).f3)) := bA4 BK149 rfl; have ce : wc.cell? ⟨gb149, 4, none⟩ = some (.int .i64 aq) := bA4 BK149 rfl; have cf : wc.cell? ⟨gb149, 5, none⟩ = some (.int .i64 ar) := bA4 BK149 rfl; have cg : wc.cell? ⟨gb149, 6, none⟩ = some (.int .i64 au) := bA4 BK149 rfl; have ch : wc.cell? ⟨gb149, 7, none⟩ = some (.int .i64 av) := bA4 BK149 rfl; have ci : wc.cell? ⟨gb149, 8, none⟩ = some (.int .i64 aw) := bA4 BK149 rfl; have cj : wc.cell? ⟨gb149, 9, none⟩ = some (.int .i64 ax) := bA4 BK149 rfl; have bF : wc.cell? ⟨gb149, 10, none⟩ = some (.int .i64 ay) := bA4 BK149 rfl; have bG : wc.cell? ⟨gb149, 11, none⟩ = some (.int .i64 az) := bA4 BK149 rfl
       have ck := blk_frozen BK149.out 0
       have cl := blk_frozen BK149.out 1
       have cm := blk_frozen BK149.out 2
       have cn := blk_frozen BK149.out 3
       have co := blk_frozen BK149.out 4
       have cp := blk_frozen BK149.out 5
       have cq := blk_frozen BK149.out 6
       have cr := blk_frozen BK149.out 7
       have ct := blk_frozen BK149.out 8
       have cu := blk_frozen BK149.out 9
       have bH := blk_frozen BK149.out 10
       have bI := blk_frozen BK149.out 11
       go_wp2_with (first | ((with_reducible refine gate_callee (f := 102) rfl ?_); refine goesL_ (some 26) rfl rfl Try.func102 (by kernel_rfl) rfl #[.pointer (some ⟨gb146, 0, none⟩), .agg #[.int .i64 ((rd_T70 l0 x14_1).f0), .int .i64 ((rd_T70 l0 x14_1).f1), .int .i64 ((rd_T70 l0 x14_1).f2), .int .i64 ((rd_T70 l0 x14_1).f3), .int .i64 aq, .int .i64 ar, .int .i64 au, .int .i64 av, .int .i64 aw, .int .i64 ax, .int .i64 ay, .int .i64 az]] rfl z4_4 ?_; (with_reducible refine (impl_span_lessB.calls kj5 u147000 af u147001 ad ((rd_T70 l0 x14_1).f0) ((rd_T70 l0 x14_1).f1) ((rd_T70 l0 x14_1).f2) ((rd_T70 l0 x14_1).f3) aq ar au av aw ax ay az t150 t151 t152 t153 t154 t155 t156 t157 t158 t159 t160 t161 _ ?side1 ?side2 ?side3 A63.out).mono ?_); (case side1 => (with_reducible repeat first|refine blk_drewN ?_ _|refine blk_drew ?_|refine blk_alloc ?_ _); exact BK146.out); (case side2 => exact own_open z4_2); (case side3 => exact own_open z4_3); rintro e w69 ⟨rfl, hb⟩; refine ⟨_, rfl, ?_⟩; replace ab := Aside0.mk (Kd.R_below z4_2 hb); replace aa := Aside0.mk (Kd.R_below z4_3 hb); replace BK146 := bBZ_ BK146 hb; replace BK148 := bBZ_ BK148 hb; replace BK149 := bBZ_ BK149 hb; replace HB := Aside0.mk (below_step z4_1 hb); (try clear hb); have cv : w69.cell? ⟨gb149, 0, none⟩ = some (.int .i64 ((rd_T70 l0 x14_1).f0)) := bA4 BK149 rfl; have cw := blk_frozen BK149.out 0; have cx : w69.cell? ⟨gb149, 1, none⟩ = some (.int .i64 ((rd_T70 l0 x14_1).f1)) := bA4 BK149 rfl; have cy := blk_frozen BK149.out 1; have cz : w69.cell? ⟨gb149, 2, none⟩ = some (.int .i64 ((rd_T70 l0 x14_1).f2)) := bA4 BK149 rfl; have cA := blk_frozen BK149.out 2; have cB : w69.cell? ⟨gb149, 3, none⟩ = some (.int .i64 ((rd_T70 l0 x14_1).f3)) := bA4 BK149 rfl; have cC := blk_frozen BK149.out 3; have cD : w69.cell? ⟨gb149, 4, none⟩ = some (.int .i64 aq) := bA4 BK149 rfl; have cE := blk_frozen BK149.out 4; have cF : w69.cell? ⟨gb149, 5, none⟩ = some (.int .i64 ar) := bA4 BK149 rfl; have cG := blk_frozen BK149.out 5; have cH : w69.cell? ⟨gb149, 6, none⟩ = some (.int .i64 au) := bA4 BK149 rfl; have cI := blk_frozen BK149.out 6; have cJ : w69.cell? ⟨gb149, 7, none⟩ = some (.int .i64 av) := bA4 BK149 rfl; have cK := blk_frozen BK149.out 7; have cL : w69.cell? ⟨gb149, 8, none⟩ = some (.int .i64 aw) := bA4 BK149 rfl; have cM := blk_frozen BK149.out 8; have cN : w69.cell? ⟨gb149, 9, none⟩ = some (.int .i64 ax) := bA4 BK149 rfl; have cO := blk_frozen BK149.out 9; have bJ : w69.cell? ⟨gb149, 10, none⟩ = some (.int .i64 ay) := bA4 BK149 rfl; have bK := blk_frozen BK149.out 10; have bL : w69.cell? ⟨gb149, 11, none⟩ = some (.int .i64 az) := bA4 BK149 rfl; have bM := blk_frozen BK149.out 11) | ((with_reducible refine gate_store (t := 102) (p := 6) rfl ?_); refine store_event (t := 102) (p := 6) (v := ?vo_w82) (w1 := ((((((((((((w69.setCell ⟨gb149, 0, none⟩ (.int .i64 t150)).setCell ⟨gb149, 1, none⟩ (.int .i64 t151)).setCell ⟨gb149, 2, none⟩ (.int .i64 t152)).setCell ⟨gb149, 3, none⟩ (.int .i64 t153)).setCell ⟨gb149, 4, none⟩ (.int .i64 t154)).setCell ⟨gb149, 5, none⟩ (.int .i64 t155)).setCell ⟨gb149, 6, none⟩ (.int .i64 t156)).setCell ⟨gb149, 7, none⟩ (.int .i64 t157)).setCell ⟨gb149, 8, none⟩ (.int .i64 t158)).setCell ⟨gb149, 9, none⟩ (.int .i64 t159)).setCell ⟨gb149, 10, none⟩ (.int .i64 t160)).setCell ⟨gb149, 11, none⟩ (.int .i64 t161))) ?hg ?ho ?hn ?hr ?_; (case ho => rfl); (case hg => rfl); (case hn => rfl); (case hr => first | (go_simp; done) | (go_simp; rfl)); intro w82 hw; have n0_ : Aside0 (Kd.R k102 102 w82 w.heap.size (fun k_ => k_ ≠ gb149) u147000 af) := ⟨z4_5⟩; have n1_ : Aside0 (Kd.R (Kd.int .i64) 3 w82 w.heap.size (fun _ => True) u147001 ad) := ⟨z4_6⟩; have n2_ : Aside0 (w82.heap[gb146]? = some (.cells #[u147000, u147001] 81 (0, 0))) := ⟨z4_22⟩; have n3_ : Aside0 (w82.heap[gb148]? = some (.cells #[.int .i64 ((rd_T70 l0 x14_1).f0), .int .i64 ((rd_T70 l0 x14_1).f1), .int .i64 ((rd_T70 l0 x14_1).f2), .int .i64 ((rd_T70 l0 x14_1).f3)] 70 (0, 0))) := ⟨z4_23⟩; have n4_ : Aside0 (w82.heap[gb149]? = some (.cells #[.int .i64 t150, .int .i64 t151, .int .i64 t152, .int .i64 t153, .int .i64 t154, .int .i64 t155, .int .i64 t156, .int .i64 t157, .int .i64 t158, .int .i64 t159, .int .i64 t160, .int .i64 t161] 102 (0, 0))) := ⟨(by rw [hw]; exact (bZ BK149.out))⟩; have n5_ : Aside0 (Below w.heap.size w w82) := ⟨(by rw [hw]; exact z4_1)⟩; clear hw; clear ab; clear aa; clear BK146; clear BK148; clear BK149; clear HB; have ab := n0_; have aa := n1_; have BK146 := n2_; have BK148 := n3_; have BK149 := n4_; have HB := n5_; clear n0_ n1_ n2_ n3_ n4_ n5_; have cP : w82.cell? ⟨gb149, 0, none⟩ = some (.int .i64 t150) := bA4 BK149 rfl; have cQ : w82.cell? ⟨gb149, 1, none⟩ = some (.int .i64 t151) := bA4 BK149 rfl; have cR : w82.cell? ⟨gb149, 2, none⟩ = some (.int .i64 t152) := bA4 BK149 rfl; have cS : w82.cell? ⟨gb149, 3, none⟩ = some (.int .i64 t153) := bA4 BK149 rfl; have cT := blk_frozen BK149.out 0; have cU := blk_frozen BK149.out 1; have cV := blk_frozen BK149.out 2; have cW := blk_frozen BK149.out 3) | ((with_reducible refine gate_callee (f := 60) rfl ?_); refine goesL_ (some 29) rfl rfl Try.func60 (by kernel_rfl) rfl #[.agg #[.int .i64 t150, .int .i64 t151, .int .i64 t152, .int .i64 t153]] rfl z4_4 ?_; (with_reducible refine (impl_vector_lead.calls t150 t151 t152 t153 t162 _ A64.out).mono ?_); rintro e w84 ⟨rfl, hb⟩; refine ⟨_, rfl, ?_⟩; replace ab := Aside0.mk (Kd.R_below z4_2 hb); replace aa := Aside0.mk (Kd.R_below z4_3 hb); replace BK146 := bBZ_ BK146 hb; replace BK148 := bBZ_ BK148 hb; replace BK149 := bBZ_ BK149 hb; replace HB := Aside0.mk (below_step z4_1 hb); (try clear hb)))
       go_roundg kj5
       case measure => have := HK1.out; have := HJ5.out; omega
       case rel => exact ⟨(wrap64 (x14_1 + 1)), (af), (ad), (u147000), (u147001), z4_12, H', ⟨by have := HK1.out; have := HJ5.out; omega⟩, ⟨by (with_reducible repeat (first | apply Kd.R_alloc | apply Kd.R_drewN | apply Kd.R_drew)); exact Kd.R_mono ab.out (fun _ hk => trivial)⟩, ⟨z4_3⟩, ⟨zL4 BK146.out⟩, ⟨z4_1⟩⟩
      ·rw [if_neg c65] at H
       have c65b0 : decide (t162 < 0) = false := decide_eq_false c65; clear c65
       have HC85 := Aside0.mk H
       clear H
       have hnb86 := ag.out
       have hnc86 := ac.out
       have hnb87 := ap.out
       have hnc87 := ae.out
       have cX : wc.cell? ⟨gb149, 0, none⟩ = some (.int .i64 ((rd_T70 l0 x14_1).f0)) := bA4 BK149 rfl; have cY : wc.cell? ⟨gb149, 1, none⟩ = some (.int .i64 ((rd_T70 l0 x14_1).f1)) := bA4 BK149 rfl; have cZ : wc.cell? ⟨gb149, 2, none⟩ = some (.int .i64 ((rd_T70 l0 x14_1).f2)) := bA4 BK149 rfl; have c2 : wc.cell? ⟨gb149, 3, none⟩ = some (.int .i64 ((rd_T70 l0 x14_1).f3)) := bA4 BK149 rfl; have c7 : wc.cell? ⟨gb149, 4, none⟩ = some (.int .i64 aq) := bA4 BK149 rfl; have da : wc.cell? ⟨gb149, 5, none⟩ = some (.int .i64 ar) := bA4 BK149 rfl; have db : wc.cell? ⟨gb149, 6, none⟩ = some (.int .i64 au) := bA4 BK149 rfl; have dc : wc.cell? ⟨gb149, 7, none⟩ = some (.int .i64 av) := bA4 BK149 rfl; have dd : wc.cell? ⟨gb149, 8, none⟩ = some (.int .i64 aw) := bA4 BK149 rfl; have de : wc.cell? ⟨gb149, 9, none⟩ = some (.int .i64 ax) := bA4 BK149 rfl; have bN : wc.cell? ⟨gb149, 10, none⟩ = some (.int .i64 ay) := bA4 BK149 rfl; have bO : wc.cell? ⟨gb149, 11, none⟩ = some (.int .i64 az) := bA4 BK149 rfl
       have df := blk_frozen BK149.out 0
       have dg := blk_frozen BK149.out 1
       have dh := blk_frozen BK149.out 2
       have di := blk_frozen BK149.out 3
       have dj := blk_frozen BK149.out 4
       have dk := blk_frozen BK149.out 5
       have dl := blk_frozen BK149.out 6
       have dm := blk_frozen BK149.out 7
       have dn := blk_frozen BK149.out 8
       have dp := blk_frozen BK149.out 9
       have bP := blk_frozen BK149.out 10
       have bQ := blk_frozen BK149.out 11
       go_upto_region 10 with (first | ((with_reducible refine gate_callee (f := 102) rfl ?_); refine goesL_ (some 26) rfl rfl Try.func102 (by kernel_rfl) rfl #[.pointer (some ⟨gb146, 0, none⟩), .agg #[.int .i64 ((rd_T70 l0 x14_1).f0), .int .i64 ((rd_T70 l0 x14_1).f1), .int .i64 ((rd_T70 l0 x14_1).f2), .int .i64 ((rd_T70 l0 x14_1).f3), .int .i64 aq, .int .i64 ar, .int .i64 au, .int .i64 av, .int .i64 aw, .int .i64 ax, .int .i64 ay, .int .i64 az]] rfl z4_4 ?_; (with_reducible refine (impl_span_lessB.calls kj5 u147000 af u147001 ad ((rd_T70 l0 x14_1).f0) ((rd_T70 l0 x14_1).f1) ((rd_T70 l0 x14_1).f2) ((rd_T70 l0 x14_1).f3) aq ar au av aw ax ay az t150 t151 t152 t153 t154 t155 t156 t157 t158 t159 t160 t161 _ ?side1 ?side2 ?side3 A63.out).mono ?_); (case side1 => (with_reducible repeat first|refine blk_drewN ?_ _|refine blk_drew ?_|refine blk_alloc ?_ _); exact BK146.out); (case side2 => exact own_open z4_2); (case side3 => exact own_open z4_3); rintro e w89 ⟨rfl, hb⟩; refine ⟨_, rfl, ?_⟩; replace ab := Aside0.mk (Kd.R_below z4_2 hb); replace aa := Aside0.mk (Kd.R_below z4_3 hb); replace BK146 := bBZ_ BK146 hb; replace BK148 := bBZ_ BK148 hb; replace BK149 := bBZ_ BK149 hb; replace HB := Aside0.mk (below_step z4_1 hb); (try clear hb); have dq : w89.cell? ⟨gb149, 0, none⟩ = some (.int .i64 ((rd_T70 l0 x14_1).f0)) := bA4 BK149 rfl; have dr := blk_frozen BK149.out 0; have dt : w89.cell? ⟨gb149, 1, none⟩ = some (.int .i64 ((rd_T70 l0 x14_1).f1)) := bA4 BK149 rfl; have du := blk_frozen BK149.out 1; have dv : w89.cell? ⟨gb149, 2, none⟩ = some (.int .i64 ((rd_T70 l0 x14_1).f2)) := bA4 BK149 rfl; have dw := blk_frozen BK149.out 2; have dx : w89.cell? ⟨gb149, 3, none⟩ = some (.int .i64 ((rd_T70 l0 x14_1).f3)) := bA4 BK149 rfl; have dy := blk_frozen BK149.out 3; have dz : w89.cell? ⟨gb149, 4, none⟩ = some (.int .i64 aq) := bA4 BK149 rfl; have dA := blk_frozen BK149.out 4; have dB : w89.cell? ⟨gb149, 5, none⟩ = some (.int .i64 ar) := bA4 BK149 rfl; have dC := blk_frozen BK149.out 5; have dD : w89.cell? ⟨gb149, 6, none⟩ = some (.int .i64 au) := bA4 BK149 rfl; have dE := blk_frozen BK149.out 6; have dF : w89.cell? ⟨gb149, 7, none⟩ = some (.int .i64 av) := bA4 BK149 rfl; have dG := blk_frozen BK149.out 7; have dH : w89.cell? ⟨gb149, 8, none⟩ = some (.int .i64 aw) := bA4 BK149 rfl; have dI := blk_frozen BK149.out 8; have dJ : w89.cell? ⟨gb149, 9, none⟩ = some (.int .i64 ax) := bA4 BK149 rfl; have dK := blk_frozen BK149.out 9; have aN : w89.cell? ⟨gb149, 10, none⟩ = some (.int .i64 ay) := bA4 BK149 rfl; have aQ := blk_frozen BK149.out 10; have aR : w89.cell? ⟨gb149, 11, none⟩ = some (.int .i64 az) := bA4 BK149 rfl; have aT := blk_frozen BK149.out 11) | ((with_reducible refine gate_store (t := 102) (p := 6) rfl ?_); refine store_event (t := 102) (p := 6) (v := ?vo_w102) (w1 := ((((((((((((w89.setCell ⟨gb149, 0, none⟩ (.int .i64 t150)).setCell ⟨gb149, 1, none⟩ (.int .i64 t151)).setCell ⟨gb149, 2, none⟩ (.int .i64 t152)).setCell ⟨gb149, 3, none⟩ (.int .i64 t153)).setCell ⟨gb149, 4, none⟩ (.int .i64 t154)).setCell ⟨gb149, 5, none⟩ (.int .i64 t155)).setCell ⟨gb149, 6, none⟩ (.int .i64 t156)).setCell ⟨gb149, 7, none⟩ (.int .i64 t157)).setCell ⟨gb149, 8, none⟩ (.int .i64 t158)).setCell ⟨gb149, 9, none⟩ (.int .i64 t159)).setCell ⟨gb149, 10, none⟩ (.int .i64 t160)).setCell ⟨gb149, 11, none⟩ (.int .i64 t161))) ?hg ?ho ?hn ?hr ?_; (case ho => rfl); (case hg => rfl); (case hn => rfl); (case hr => first | (go_simp; done) | (go_simp; rfl)); intro w102 hw; have n0_ : Aside0 (Kd.R k102 102 w102 w.heap.size (fun k_ => k_ ≠ gb149) u147000 af) := ⟨z4_5⟩; have n1_ : Aside0 (Kd.R (Kd.int .i64) 3 w102 w.heap.size (fun _ => True) u147001 ad) := ⟨z4_6⟩; have n2_ : Aside0 (w102.heap[gb146]? = some (.cells #[u147000, u147001] 81 (0, 0))) := ⟨z4_22⟩; have n3_ : Aside0 (w102.heap[gb148]? = some (.cells #[.int .i64 ((rd_T70 l0 x14_1).f0), .int .i64 ((rd_T70 l0 x14_1).f1), .int .i64 ((rd_T70 l0 x14_1).f2), .int .i64 ((rd_T70 l0 x14_1).f3)] 70 (0, 0))) := ⟨z4_23⟩; have n4_ : Aside0 (w102.heap[gb149]? = some (.cells #[.int .i64 t150, .int .i64 t151, .int .i64 t152, .int .i64 t153, .int .i64 t154, .int .i64 t155, .int .i64 t156, .int .i64 t157, .int .i64 t158, .int .i64 t159, .int .i64 t160, .int .i64 t161] 102 (0, 0))) := ⟨(by rw [hw]; exact (bZ BK149.out))⟩; have n5_ : Aside0 (Below w.heap.size w w102) := ⟨(by rw [hw]; exact z4_1)⟩; clear hw; clear ab; clear aa; clear BK146; clear BK148; clear BK149; clear HB; have ab := n0_; have aa := n1_; have BK146 := n2_; have BK148 := n3_; have BK149 := n4_; have HB := n5_; clear n0_ n1_ n2_ n3_ n4_ n5_; have bR : w102.cell? ⟨gb149, 0, none⟩ = some (.int .i64 t150) := bA4 BK149 rfl; have bS : w102.cell? ⟨gb149, 1, none⟩ = some (.int .i64 t151) := bA4 BK149 rfl; have bT : w102.cell? ⟨gb149, 2, none⟩ = some (.int .i64 t152) := bA4 BK149 rfl; have bU : w102.cell? ⟨gb149, 3, none⟩ = some (.int .i64 t153) := bA4 BK149 rfl; have bV := blk_frozen BK149.out 0; have bW := blk_frozen BK149.out 1; have bX := blk_frozen BK149.out 2; have bY := blk_frozen BK149.out 3) | ((with_reducible refine gate_callee (f := 60) rfl ?_); refine goesL_ (some 29) rfl rfl Try.func60 (by kernel_rfl) rfl #[.agg #[.int .i64 t150, .int .i64 t151, .int .i64 t152, .int .i64 t153]] rfl z4_4 ?_; (with_reducible refine (impl_vector_lead.calls t150 t151 t152 t153 t162 _ A64.out).mono ?_); rintro e w104 ⟨rfl, hb⟩; refine ⟨_, rfl, ?_⟩; replace ab := Aside0.mk (Kd.R_below z4_2 hb); replace aa := Aside0.mk (Kd.R_below z4_3 hb); replace BK146 := bBZ_ BK146 hb; replace BK148 := bBZ_ BK148 hb; replace BK149 := bBZ_ BK149 hb; replace HB := Aside0.mk (below_step z4_1 hb); (try clear hb)))
       (try simp only [Act.put, List.setIfInBounds_toArray, List.set_cons_zero, List.set_cons_succ])
       go_cut [8] (fun v8 wc => ∃ (kq : Nat) (x8_84 : Int), v8 = .int .i64 x8_84 ∧ Aside0 (impl_spanOf.j2 kq x14_1 x8_84 l0 (l0.length : Int) x14_1 af ad t150 t151 t152 t153 t154 t155 t156 t157 t158 t159 t160 t161 = some (r1, r2)) ∧ Aside0 (kq ≤ kj5) ∧ Aside0 (Kd.R k102 102 wc w.heap.size (fun k_ => k_ ≠ gb149) u147000 af) ∧ Aside0 (Kd.R (Kd.int .i64) 3 wc w.heap.size (fun _ => True) u147001 ad) ∧ Aside0 (wc.heap[gb146]? = some (.cells #[u147000, u147001] 81 (0, 0))) ∧ Aside0 (wc.heap[gb148]? = some (.cells #[.int .i64 ((rd_T70 l0 x14_1).f0), .int .i64 ((rd_T70 l0 x14_1).f1), .int .i64 ((rd_T70 l0 x14_1).f2), .int .i64 ((rd_T70 l0 x14_1).f3)] 70 (0, 0))) ∧ Aside0 (wc.heap[gb149]? = some (.cells #[.int .i64 t150, .int .i64 t151, .int .i64 t152, .int .i64 t153, .int .i64 t154, .int .i64 t155, .int .i64 t156, .int .i64 t157, .int .i64 t158, .int .i64 t159, .int .i64 t160, .int .i64 t161] 102 (0, 0))) ∧ Aside0 (Below w.heap.size w wc))
       case first =>
        have H := HC85.out
        clear HC85
        by_cases c105 : t162 = 0
        ·rw [if_pos c105] at H
         subst c105
         replace H := Option.bind_eq_some_iff.mp H
         obtain ⟨t163, A1060, H⟩ := H
         have A106 := Aside0.mk A1060
         clear A1060
         have H' := Aside0.mk H
         clear H
         have hnb107 := ag.out
         have hnc107 := ac.out
         have hnb108 := ap.out
         have hnc108 := ae.out
         have b0 : w104.cell? ⟨gb149, 0, none⟩ = some (.int .i64 t150) := bA4 BK149 rfl
         have b1 := blk_frozen BK149.out 0
         go_wp2_with (first | ((with_reducible refine gate_callee (f := 103) rfl ?_); refine goesL_ (some 36) rfl rfl Try.func103 (by kernel_rfl) rfl #[.int .i64 t150] rfl z4_4 ?_; (with_reducible refine (impl_element_inverse.calls kj5 t150 t163 _ A106.out).mono ?_); rintro e w' ⟨rfl, ⟨nd, rfl⟩⟩; refine ⟨_, rfl, ?_⟩))
         go_meet
         case rel => exact ⟨_, (t163), z4_12, H', ⟨z4_17⟩, ⟨z4_2⟩, ⟨z4_3⟩, ⟨zL4 BK146.out⟩, ⟨zL4 BK148.out⟩, ⟨zL4 BK149.out⟩, ⟨z4_1⟩⟩
        ·rw [if_neg c105] at H
         clear c105
         by_cases c110 : t162 = 1
         ·rw [if_pos c110] at H
          subst c110
          replace H := Option.bind_eq_some_iff.mp H
          obtain ⟨t164, A1110, H⟩ := H
          have A111 := Aside0.mk A1110
          clear A1110
          have H' := Aside0.mk H
          clear H
          have hnb112 := ag.out
          have hnc112 := ac.out
          have hnb113 := ap.out
          have hnc113 := ae.out
          have b2 : w104.cell? ⟨gb149, 1, none⟩ = some (.int .i64 t151) := bA4 BK149 rfl
          have b3 := blk_frozen BK149.out 1
          go_wp2_with (first | ((with_reducible refine gate_callee (f := 103) rfl ?_); refine goesL_ (some 36) rfl rfl Try.func103 (by kernel_rfl) rfl #[.int .i64 t151] rfl z4_4 ?_; (with_reducible refine (impl_element_inverse.calls kj5 t151 t164 _ A111.out).mono ?_); rintro e w' ⟨rfl, ⟨nd, rfl⟩⟩; refine ⟨_, rfl, ?_⟩))
          go_meet
          case rel => exact ⟨_, (t164), z4_12, H', ⟨z4_17⟩, ⟨z4_2⟩, ⟨z4_3⟩, ⟨zL4 BK146.out⟩, ⟨zL4 BK148.out⟩, ⟨zL4 BK149.out⟩, ⟨z4_1⟩⟩
         ·rw [if_neg c110] at H
          clear c110
          by_cases c115 : t162 = 2
          ·rw [if_pos c115] at H
           subst c115
           replace H := Option.bind_eq_some_iff.mp H
           obtain ⟨t165, A1160, H⟩ := H
           have A116 := Aside0.mk A1160
           clear A1160
           have H' := Aside0.mk H
           clear H
           have hnb117 := ag.out
           have hnc117 := ac.out
           have hnb118 := ap.out
           have hnc118 := ae.out
           have b4 : w104.cell? ⟨gb149, 2, none⟩ = some (.int .i64 t152) := bA4 BK149 rfl
           have b5 := blk_frozen BK149.out 2
           go_wp2_with (first | ((with_reducible refine gate_callee (f := 103) rfl ?_); refine goesL_ (some 36) rfl rfl Try.func103 (by kernel_rfl) rfl #[.int .i64 t152] rfl z4_4 ?_; (with_reducible refine (impl_element_inverse.calls kj5 t152 t165 _ A116.out).mono ?_); rintro e w' ⟨rfl, ⟨nd, rfl⟩⟩; refine ⟨_, rfl, ?_⟩))
           go_meet
           case rel => exact ⟨_, (t165), z4_12, H', ⟨z4_17⟩, ⟨z4_2⟩, ⟨z4_3⟩, ⟨zL4 BK146.out⟩, ⟨zL4 BK148.out⟩, ⟨zL4 BK149.out⟩, ⟨z4_1⟩⟩
          ·rw [if_neg c115] at H
           clear c115; obtain ⟨c120, H⟩ := ifP H; subst c120
           replace H := Option.bind_eq_some_iff.mp H
           obtain ⟨t166, A1210, H⟩ := H
           have A121 := Aside0.mk A1210
           clear A1210
           have H' := Aside0.mk H
           clear H
           have hnb122 := ag.out
           have hnc122 := ac.out
           have hnb123 := ap.out
           have hnc123 := ae.out
           have b6 : w104.cell? ⟨gb149, 3, none⟩ = some (.int .i64 t153) := bA4 BK149 rfl
           have b7 := blk_frozen BK149.out 3
           go_wp2_with (first | ((with_reducible refine gate_callee (f := 103) rfl ?_); refine goesL_ (some 36) rfl rfl Try.func103 (by kernel_rfl) rfl #[.int .i64 t153] rfl z4_4 ?_; (with_reducible refine (impl_element_inverse.calls kj5 t153 t166 _ A121.out).mono ?_); rintro e w' ⟨rfl, ⟨nd, rfl⟩⟩; refine ⟨_, rfl, ?_⟩))
           go_meet
           case rel => exact ⟨_, (t166), z4_12, H', ⟨z4_17⟩, ⟨z4_2⟩, ⟨z4_3⟩, ⟨zL4 BK146.out⟩, ⟨zL4 BK148.out⟩, ⟨zL4 BK149.out⟩, ⟨z4_1⟩⟩
       case rest =>
        clear HC85
        try clear c3
        try clear c3b0
        try clear c4
        try clear c4b0
        try clear c5
        try clear c5b0
        try clear c65
        try clear c65b0
        try clear aN
        try clear aR
        try clear bR bS bT bU
        try clear aU
        try clear aW
        try clear aY
        try clear a0 a1 a2 a3
        try clear a8
        try clear ba
        try clear bc
        try clear be
        try clear bg
        try clear bi
        try clear bk
        try clear bm
        try clear bo
        try clear bq
        try clear aD
        try clear aG
        try clear cX cY bN bO cZ c2 c7 da db dc dd de
        try clear dq
        try clear dt
        try clear dv
        try clear dx
        try clear dz
        try clear dB
        try clear dD
        try clear dF
        try clear dH
        try clear dJ
        try clear b8
        try clear aQ
        try clear aT
        try clear bV bW bX bY
        try clear aV
        try clear aX
        try clear aZ
        try clear a4 a5 a6 a7
        try clear a9
        try clear bb
        try clear bd
        try clear bf
        try clear bh
        try clear bj
        try clear bl
        try clear bn
        try clear bp
        try clear br
        try clear aE
        try clear aH
        try clear df dg bP bQ dh di dj dk dl dm dn dp
        try clear dr
        try clear du
        try clear dw
        try clear dy
        try clear dA
        try clear dC
        try clear dE
        try clear dG
        try clear dI
        try clear dK
        try clear b9
        try clear hx147_0 hx147_1 hx147_2 hx147_3
        try clear p147
        try clear q147
        obtain ⟨kq, x8_84, rfl, HA, HJ84, ab, aa, BK146, BK148, BK149, HB⟩ := hcut
        cases kq with
        | zero => exact absurd HA.out (by simp [impl_spanOf.j2])
        | succ kj84 =>
         have H := HA.out
         clear HA; simp only [impl_spanOf.j2] at H
         replace H := Option.bind_eq_some_iff.mp H
         obtain ⟨⟨t167, t168, t169, t170⟩, A1250, H⟩ := H
         dsimp only at H
         have A125 := Aside0.mk A1250
         clear A1250
         have H' := Aside0.mk H
         clear H
         have hnb126 := ag.out
         have hnc126 := ac.out
         have hnb127 := ap.out
         have hnc127 := ae.out
         have dL : wc.cell? ⟨gb149, 0, none⟩ = some (.int .i64 t150) := bA4 BK149 rfl; have dM : wc.cell? ⟨gb149, 1, none⟩ = some (.int .i64 t151) := bA4 BK149 rfl; have dN : wc.cell? ⟨gb149, 2, none⟩ = some (.int .i64 t152) := bA4 BK149 rfl; have dO : wc.cell? ⟨gb149, 3, none⟩ = some (.int .i64 t153) := bA4 BK149 rfl
         have dP := blk_frozen BK149.out 0
         have dQ := blk_frozen BK149.out 1
         have dR := blk_frozen BK149.out 2
         have dS := blk_frozen BK149.out 3
         go_wp2_with (first | ((with_reducible refine gate_callee (f := 93) rfl ?_); refine goesL_ (some 40) rfl rfl Try.func93 (by kernel_rfl) rfl #[.agg #[.int .i64 t150, .int .i64 t151, .int .i64 t152, .int .i64 t153], .int .i64 x8_84] rfl z4_4 ?_; (with_reducible refine (impl_vector_times.calls t150 t151 t152 t153 x8_84 t167 t168 t169 t170 _ A125.out).mono ?_); rintro e w129 ⟨rfl, hb⟩; refine ⟨_, rfl, ?_⟩; replace ab := Aside0.mk (Kd.R_below z4_2 hb); replace aa := Aside0.mk (Kd.R_below z4_3 hb); replace BK146 := bBZ_ BK146 hb; replace BK148 := bBZ_ BK148 hb; replace BK149 := bBZ_ BK149 hb; replace HB := Aside0.mk (below_step z4_1 hb); (try clear hb); have dT : w129.cell? ⟨gb149, 0, none⟩ = some (.int .i64 t150) := bA4 BK149 rfl; have dU := blk_frozen BK149.out 0; have dV : w129.cell? ⟨gb149, 1, none⟩ = some (.int .i64 t151) := bA4 BK149 rfl; have dW := blk_frozen BK149.out 1; have dX : w129.cell? ⟨gb149, 2, none⟩ = some (.int .i64 t152) := bA4 BK149 rfl; have dY := blk_frozen BK149.out 2; have dZ : w129.cell? ⟨gb149, 3, none⟩ = some (.int .i64 t153) := bA4 BK149 rfl; have d0 := blk_frozen BK149.out 3) | ((with_reducible refine gate_store (t := 70) (p := 41) rfl ?_); refine store_event (t := 70) (p := 41) (v := ?vo_w134) (w1 := ((((w129.setCell ⟨gb149, 0, none⟩ (.int .i64 t167)).setCell ⟨gb149, 1, none⟩ (.int .i64 t168)).setCell ⟨gb149, 2, none⟩ (.int .i64 t169)).setCell ⟨gb149, 3, none⟩ (.int .i64 t170))) ?hg ?ho ?hn ?hr ?_; (case ho => rfl); (case hg => rfl); (case hn => rfl); (case hr => first | (go_simp; done) | (go_simp; rfl)); intro w134 hw; have n0_ : Aside0 (Kd.R k102 102 w134 w.heap.size (fun k_ => k_ ≠ gb149) u147000 af) := ⟨(by rw [hw]; exact (by (with_reducible repeat (first | apply Kd.R_alloc | apply Kd.R_drewN | apply Kd.R_drew)); exact Kd.R_mono (Kd.R_far (p := ⟨gb149, 3, none⟩) (Kd.R_far (p := ⟨gb149, 2, none⟩) (Kd.R_far (p := ⟨gb149, 1, none⟩) (Kd.R_far (p := ⟨gb149, 0, none⟩) (Kd.R_mono ab.out (fun k_ hk => (⟨hk, hk⟩ : _ ∧ k_ ≠ gb149))) (fun _ hk => hk.2) (.int .i64 t167)) (fun _ hk => hk.2) (.int .i64 t168)) (fun _ hk => hk.2) (.int .i64 t169)) (fun _ hk => hk.2) (.int .i64 t170)) (fun _ hk => hk.1)))⟩; have n1_ : Aside0 (Kd.R (Kd.int .i64) 3 w134 w.heap.size (fun _ => True) u147001 ad) := ⟨(by rw [hw]; exact (by (with_reducible repeat (first | apply Kd.R_alloc | apply Kd.R_drewN | apply Kd.R_drew)); exact Kd.R_mono (Kd.R_far (p := ⟨gb149, 3, none⟩) (Kd.R_far (p := ⟨gb149, 2, none⟩) (Kd.R_far (p := ⟨gb149, 1, none⟩) (Kd.R_far (p := ⟨gb149, 0, none⟩) (Kd.R_types aa.out BK149.out (by decide)) (fun _ hk => hk.2) (.int .i64 t167)) (fun _ hk => hk.2) (.int .i64 t168)) (fun _ hk => hk.2) (.int .i64 t169)) (fun _ hk => hk.2) (.int .i64 t170)) (fun _ hk => trivial)))⟩; have n2_ : Aside0 (w134.heap[gb146]? = some (.cells #[u147000, u147001] 81 (0, 0))) := ⟨z4_22⟩; have n3_ : Aside0 (w134.heap[gb148]? = some (.cells #[.int .i64 ((rd_T70 l0 x14_1).f0), .int .i64 ((rd_T70 l0 x14_1).f1), .int .i64 ((rd_T70 l0 x14_1).f2), .int .i64 ((rd_T70 l0 x14_1).f3)] 70 (0, 0))) := ⟨z4_23⟩; have n4_ : Aside0 (w134.heap[gb149]? = some (.cells #[.int .i64 t167, .int .i64 t168, .int .i64 t169, .int .i64 t170, .int .i64 t154, .int .i64 t155, .int .i64 t156, .int .i64 t157, .int .i64 t158, .int .i64 t159, .int .i64 t160, .int .i64 t161] 102 (0, 0))) := ⟨(by rw [hw]; exact (bZ BK149.out))⟩; have n5_ : Aside0 (Below w.heap.size w w134) := ⟨(by rw [hw]; exact z4_1)⟩; clear hw; clear ab; clear aa; clear BK146; clear BK148; clear BK149; clear HB; have ab := n0_; have aa := n1_; have BK146 := n2_; have BK148 := n3_; have BK149 := n4_; have HB := n5_; clear n0_ n1_ n2_ n3_ n4_ n5_))
         go_loopg [42] kj84 (fun kq v42 w' => ∃ (x42_4 : Int) (ah : Int) (ai : Int) (aj : Int) (ak : Int) (al : Int) (am : Int) (an : Int) (ao : Int), v42 = .int .i64 x42_4 ∧ Aside0 (impl_spanOf.l1 kq x14_1 x8_84 l0 (l0.length : Int) x14_1 x42_4 af ad t167 t168 t169 t170 ah ai aj ak al am an ao = some (r1, r2)) ∧ Aside0 (kq ≤ kj84) ∧ Aside0 (Kd.R k102 102 w' w.heap.size (fun k_ => k_ ≠ gb149) u147000 af) ∧ Aside0 (Kd.R (Kd.int .i64) 3 w' w.heap.size (fun _ => True) u147001 ad) ∧ Aside0 (w'.heap[gb146]? = some (.cells #[u147000, u147001] 81 (0, 0))) ∧ Aside0 (w'.heap[gb148]? = some (.cells #[.int .i64 ((rd_T70 l0 x14_1).f0), .int .i64 ((rd_T70 l0 x14_1).f1), .int .i64 ((rd_T70 l0 x14_1).f2), .int .i64 ((rd_T70 l0 x14_1).f3)] 70 (0, 0))) ∧ Aside0 (w'.heap[gb149]? = some (.cells #[.int .i64 t167, .int .i64 t168, .int .i64 t169, .int .i64 t170, .int .i64 ah, .int .i64 ai, .int .i64 aj, .int .i64 ak, .int .i64 al, .int .i64 am, .int .i64 an, .int .i64 ao] 102 (0, 0))) ∧ Aside0 (Below w.heap.size w w'))
         case atStart => exact ⟨(0), (t154), (t155), (t156), (t157), (t158), (t159), (t160), (t161), z4_12, H', ⟨Nat.le_refl _⟩, ⟨z4_2⟩, ⟨z4_3⟩, ⟨zL4 BK146.out⟩, ⟨zL4 BK148.out⟩, ⟨zL4 BK149.out⟩, ⟨z4_1⟩⟩
         case round =>
          clear H'
          try clear c3
          try clear c3b0
          try clear c4
          try clear c4b0
          try clear c5
          try clear c5b0
          try clear c65
          try clear c65b0
          try clear aN
          try clear aR
          try clear bR bS bT bU
          try clear aU
          try clear aW
          try clear dL dM dN dO
          try clear aY
          try clear dT
          try clear dV
          try clear dX
          try clear dZ
          try clear a0 a1 a2 a3
          try clear a8
          try clear ba
          try clear bc
          try clear be
          try clear bg
          try clear bi
          try clear bk
          try clear bm
          try clear bo
          try clear bq
          try clear aD
          try clear aG
          try clear cX cY bN bO cZ c2 c7 da db dc dd de
          try clear dq
          try clear dt
          try clear dv
          try clear dx
          try clear dz
          try clear dB
          try clear dD
          try clear dF
          try clear dH
          try clear dJ
          try clear b8
          try clear aQ
          try clear aT
          try clear bV bW bX bY
          try clear aV
          try clear aX
          try clear dP dQ dR dS
          try clear aZ
          try clear dU
          try clear dW
          try clear dY
          try clear d0
          try clear a4 a5 a6 a7
          try clear a9
          try clear bb
          try clear bd
          try clear bf
          try clear bh
          try clear bj
          try clear bl
          try clear bn
          try clear bp
          try clear br
          try clear aE
          try clear aH
          try clear df dg bP bQ dh di dj dk dl dm dn dp
          try clear dr
          try clear du
          try clear dw
          try clear dy
          try clear dA
          try clear dC
          try clear dE
          try clear dG
          try clear dI
          try clear dK
          try clear b9
          try clear hx147_0 hx147_1 hx147_2 hx147_3
          try clear p147
          try clear q147
          obtain ⟨x42_4, ah, ai, aj, ak, al, am, an, ao, rfl, HA, HK4, ab, aa, BK146, BK148, BK149, HB⟩ := hrel
          cases gk with
          | zero => exact absurd HA.out (by simp [impl_spanOf.l1])
          | succ k4 =>
           have H := HA.out
           clear HA; simp only [impl_spanOf.l1] at H
           by_cases c135 : x42_4 < 8
           ·rw [if_pos c135] at H
            have c135b0 : decide (x42_4 < 8) = true := decide_eq_true c135; clear c135
            by_cases c136 : x42_4 = 0
            ·rw [if_pos c136] at H
             subst c136
             replace H := Option.bind_eq_some_iff.mp H
             obtain ⟨t171, A1370, H⟩ := H
             have A137 := Aside0.mk A1370
             clear A1370
             have H' := Aside0.mk H
             clear H
             have hnb138 := ag.out
             have hnc138 := ac.out
             have hnb139 := ap.out
             have hnc139 := ae.out
             have hcz140_4 : wr.cell? ⟨gb149, 4, none⟩ = some (.int .i64 ah) := bA4 BK149 rfl
             have hfz140_4 := blk_frozen BK149.out 4
             go_wp2_with (first | ((with_reducible refine gate_callee (f := 104) rfl ?_); refine goesL_ (some 51) rfl rfl Try.func104 (by kernel_rfl) rfl #[.int .i64 ah, .int .i64 x8_84] rfl z4_4 ?_; (with_reducible refine (impl_element_times.calls ah x8_84 t171 _ A137.out).mono ?_); rintro e w' ⟨rfl, ⟨nd, rfl⟩⟩; refine ⟨_, rfl, ?_⟩; (try (rw [drewN_self wr]; generalize hq_ : World.drewN wr _ = wr; have n0_ : Aside0 (Kd.R k102 102 wr w.heap.size (fun k_ => k_ ≠ gb149) u147000 af) := ⟨z4_18⟩; have n1_ : Aside0 (Kd.R (Kd.int .i64) 3 wr w.heap.size (fun _ => True) u147001 ad) := ⟨z4_19⟩; have n2_ : Aside0 (wr.heap[gb146]? = some (.cells #[u147000, u147001] 81 (0, 0))) := ⟨z4_14⟩; have n3_ : Aside0 (wr.heap[gb148]? = some (.cells #[.int .i64 ((rd_T70 l0 x14_1).f0), .int .i64 ((rd_T70 l0 x14_1).f1), .int .i64 ((rd_T70 l0 x14_1).f2), .int .i64 ((rd_T70 l0 x14_1).f3)] 70 (0, 0))) := ⟨z4_15⟩; have n4_ : Aside0 (wr.heap[gb149]? = some (.cells #[.int .i64 t167, .int .i64 t168, .int .i64 t169, .int .i64 t170, .int .i64 ah, .int .i64 ai, .int .i64 aj, .int .i64 ak, .int .i64 al, .int .i64 am, .int .i64 an, .int .i64 ao] 102 (0, 0))) := ⟨z4_16⟩; have n5_ : Aside0 (Below w.heap.size w wr) := ⟨z4_20⟩; clear ab aa BK146 BK148 BK149 HB hq_; have ab := n0_; have aa := n1_; have BK146 := n2_; have BK148 := n3_; have BK149 := n4_; have HB := n5_; clear n0_ n1_ n2_ n3_ n4_ n5_; have hcr149_4 : wr.cell? ⟨gb149, 4, none⟩ = some (.int .i64 ah) := bA4 BK149 rfl; have hfr149_4 := blk_frozen BK149.out 4))))
             go_roundg k4
             case measure => have := HK1.out; have := HJ5.out; have := HJ84.out; have := HK4.out; omega
             case rel => exact ⟨(wrap64 ((0 : Int) + 1)), (t171), (ai), (aj), (ak), (al), (am), (an), (ao), z4_10, H', ⟨z4_9⟩, ⟨by (with_reducible repeat (first | apply Kd.R_alloc | apply Kd.R_drewN | apply Kd.R_drew)); exact Kd.R_mono (Kd.R_far (p := ⟨gb149, 4, none⟩) (Kd.R_mono ab.out (fun k_ hk => (⟨hk, hk⟩ : _ ∧ k_ ≠ gb149))) (fun _ hk => hk.2) (.int .i64 t171)) (fun _ hk => hk.1)⟩, ⟨by (with_reducible repeat (first | apply Kd.R_alloc | apply Kd.R_drewN | apply Kd.R_drew)); exact Kd.R_mono (Kd.R_far (p := ⟨gb149, 4, none⟩) (Kd.R_types aa.out BK149.out (by decide)) (fun _ hk => hk.2) (.int .i64 t171)) (fun _ hk => trivial)⟩, ⟨gZ ac.out BK146.out⟩, ⟨gZ ae.out BK148.out⟩, ⟨bZ BK149.out⟩, ⟨z4_1⟩⟩
            ·rw [if_neg c136] at H
             clear c136
             by_cases c142 : x42_4 = 1
             ·rw [if_pos c142] at H
              subst c142
              replace H := Option.bind_eq_some_iff.mp H
              obtain ⟨t172, A1430, H⟩ := H
              have A143 := Aside0.mk A1430
              clear A1430
              have H' := Aside0.mk H
              clear H
              have hnb144 := ag.out
              have hnc144 := ac.out
              have hnb145 := ap.out
              have hnc145 := ae.out
              have hcz146_5 : wr.cell? ⟨gb149, 5, none⟩ = some (.int .i64 ai) := bA4 BK149 rfl
              have hfz146_5 := blk_frozen BK149.out 5
              go_wp2_with (first | ((with_reducible refine gate_callee (f := 104) rfl ?_); refine goesL_ (some 51) rfl rfl Try.func104 (by kernel_rfl) rfl #[.int .i64 ai, .int .i64 x8_84] rfl z4_4 ?_; (with_reducible refine (impl_element_times.calls ai x8_84 t172 _ A143.out).mono ?_); rintro e w' ⟨rfl, ⟨nd, rfl⟩⟩; refine ⟨_, rfl, ?_⟩; (try (rw [drewN_self wr]; generalize hq_ : World.drewN wr _ = wr; have n0_ : Aside0 (Kd.R k102 102 wr w.heap.size (fun k_ => k_ ≠ gb149) u147000 af) := ⟨z4_18⟩; have n1_ : Aside0 (Kd.R (Kd.int .i64) 3 wr w.heap.size (fun _ => True) u147001 ad) := ⟨z4_19⟩; have n2_ : Aside0 (wr.heap[gb146]? = some (.cells #[u147000, u147001] 81 (0, 0))) := ⟨z4_14⟩; have n3_ : Aside0 (wr.heap[gb148]? = some (.cells #[.int .i64 ((rd_T70 l0 x14_1).f0), .int .i64 ((rd_T70 l0 x14_1).f1), .int .i64 ((rd_T70 l0 x14_1).f2), .int .i64 ((rd_T70 l0 x14_1).f3)] 70 (0, 0))) := ⟨z4_15⟩; have n4_ : Aside0 (wr.heap[gb149]? = some (.cells #[.int .i64 t167, .int .i64 t168, .int .i64 t169, .int .i64 t170, .int .i64 ah, .int .i64 ai, .int .i64 aj, .int .i64 ak, .int .i64 al, .int .i64 am, .int .i64 an, .int .i64 ao] 102 (0, 0))) := ⟨z4_16⟩; have n5_ : Aside0 (Below w.heap.size w wr) := ⟨z4_20⟩; clear ab aa BK146 BK148 BK149 HB hq_; have ab := n0_; have aa := n1_; have BK146 := n2_; have BK148 := n3_; have BK149 := n4_; have HB := n5_; clear n0_ n1_ n2_ n3_ n4_ n5_; have hcr149_5 : wr.cell? ⟨gb149, 5, none⟩ = some (.int .i64 ai) := bA4 BK149 rfl; have hfr149_5 := blk_frozen BK149.out 5))))
              go_roundg k4
              case measure => have := HK1.out; have := HJ5.out; have := HJ84.out; have := HK4.out; omega
              case rel => exact ⟨(wrap64 ((1 : Int) + 1)), (ah), (t172), (aj), (ak), (al), (am), (an), (ao), z4_10, H', ⟨z4_9⟩, ⟨by (with_reducible repeat (first | apply Kd.R_alloc | apply Kd.R_drewN | apply Kd.R_drew)); exact Kd.R_mono (Kd.R_far (p := ⟨gb149, 5, none⟩) (Kd.R_mono ab.out (fun k_ hk => (⟨hk, hk⟩ : _ ∧ k_ ≠ gb149))) (fun _ hk => hk.2) (.int .i64 t172)) (fun _ hk => hk.1)⟩, ⟨by (with_reducible repeat (first | apply Kd.R_alloc | apply Kd.R_drewN | apply Kd.R_drew)); exact Kd.R_mono (Kd.R_far (p := ⟨gb149, 5, none⟩) (Kd.R_types aa.out BK149.out (by decide)) (fun _ hk => hk.2) (.int .i64 t172)) (fun _ hk => trivial)⟩, ⟨gZ ac.out BK146.out⟩, ⟨gZ ae.out BK148.out⟩, ⟨bZ BK149.out⟩, ⟨z4_1⟩⟩
             ·rw [if_neg c142] at H
              clear c142
              by_cases c148 : x42_4 = 2
              ·rw [if_pos c148] at H
               subst c148
               replace H := Option.bind_eq_some_iff.mp H
               obtain ⟨t173, A1490, H⟩ := H
               have A149 := Aside0.mk A1490
               clear A1490
               have H' := Aside0.mk H
               clear H
               have hnb150 := ag.out
               have hnc150 := ac.out
               have hnb151 := ap.out
               have hnc151 := ae.out
               have hcz152_6 : wr.cell? ⟨gb149, 6, none⟩ = some (.int .i64 aj) := bA4 BK149 rfl
               have hfz152_6 := blk_frozen BK149.out 6
               go_wp2_with (first | ((with_reducible refine gate_callee (f := 104) rfl ?_); refine goesL_ (some 51) rfl rfl Try.func104 (by kernel_rfl) rfl #[.int .i64 aj, .int .i64 x8_84] rfl z4_4 ?_; (with_reducible refine (impl_element_times.calls aj x8_84 t173 _ A149.out).mono ?_); rintro e w' ⟨rfl, ⟨nd, rfl⟩⟩; refine ⟨_, rfl, ?_⟩; (try (rw [drewN_self wr]; generalize hq_ : World.drewN wr _ = wr; have n0_ : Aside0 (Kd.R k102 102 wr w.heap.size (fun k_ => k_ ≠ gb149) u147000 af) := ⟨z4_18⟩; have n1_ : Aside0 (Kd.R (Kd.int .i64) 3 wr w.heap.size (fun _ => True) u147001 ad) := ⟨z4_19⟩; have n2_ : Aside0 (wr.heap[gb146]? = some (.cells #[u147000, u147001] 81 (0, 0))) := ⟨z4_14⟩; have n3_ : Aside0 (wr.heap[gb148]? = some (.cells #[.int .i64 ((rd_T70 l0 x14_1).f0), .int .i64 ((rd_T70 l0 x14_1).f1), .int .i64 ((rd_T70 l0 x14_1).f2), .int .i64 ((rd_T70 l0 x14_1).f3)] 70 (0, 0))) := ⟨z4_15⟩; have n4_ : Aside0 (wr.heap[gb149]? = some (.cells #[.int .i64 t167, .int .i64 t168, .int .i64 t169, .int .i64 t170, .int .i64 ah, .int .i64 ai, .int .i64 aj, .int .i64 ak, .int .i64 al, .int .i64 am, .int .i64 an, .int .i64 ao] 102 (0, 0))) := ⟨z4_16⟩; have n5_ : Aside0 (Below w.heap.size w wr) := ⟨z4_20⟩; clear ab aa BK146 BK148 BK149 HB hq_; have ab := n0_; have aa := n1_; have BK146 := n2_; have BK148 := n3_; have BK149 := n4_; have HB := n5_; clear n0_ n1_ n2_ n3_ n4_ n5_; have hcr149_6 : wr.cell? ⟨gb149, 6, none⟩ = some (.int .i64 aj) := bA4 BK149 rfl; have hfr149_6 := blk_frozen BK149.out 6))))
               go_roundg k4
               case measure => have := HK1.out; have := HJ5.out; have := HJ84.out; have := HK4.out; omega
               case rel => exact ⟨(wrap64 ((2 : Int) + 1)), (ah), (ai), (t173), (ak), (al), (am), (an), (ao), z4_10, H', ⟨z4_9⟩, ⟨by (with_reducible repeat (first | apply Kd.R_alloc | apply Kd.R_drewN | apply Kd.R_drew)); exact Kd.R_mono (Kd.R_far (p := ⟨gb149, 6, none⟩) (Kd.R_mono ab.out (fun k_ hk => (⟨hk, hk⟩ : _ ∧ k_ ≠ gb149))) (fun _ hk => hk.2) (.int .i64 t173)) (fun _ hk => hk.1)⟩, ⟨by (with_reducible repeat (first | apply Kd.R_alloc | apply Kd.R_drewN | apply Kd.R_drew)); exact Kd.R_mono (Kd.R_far (p := ⟨gb149, 6, none⟩) (Kd.R_types aa.out BK149.out (by decide)) (fun _ hk => hk.2) (.int .i64 t173)) (fun _ hk => trivial)⟩, ⟨gZ ac.out BK146.out⟩, ⟨gZ ae.out BK148.out⟩, ⟨bZ BK149.out⟩, ⟨z4_1⟩⟩
              ·rw [if_neg c148] at H
               clear c148
               by_cases c154 : x42_4 = 3
               ·rw [if_pos c154] at H
                subst c154
                replace H := Option.bind_eq_some_iff.mp H
                obtain ⟨t174, A1550, H⟩ := H
                have A155 := Aside0.mk A1550
                clear A1550
                have H' := Aside0.mk H
                clear H
                have hnb156 := ag.out
                have hnc156 := ac.out
                have hnb157 := ap.out
                have hnc157 := ae.out
                have hcz158_7 : wr.cell? ⟨gb149, 7, none⟩ = some (.int .i64 ak) := bA4 BK149 rfl
                have hfz158_7 := blk_frozen BK149.out 7
                go_wp2_with (first | ((with_reducible refine gate_callee (f := 104) rfl ?_); refine goesL_ (some 51) rfl rfl Try.func104 (by kernel_rfl) rfl #[.int .i64 ak, .int .i64 x8_84] rfl z4_4 ?_; (with_reducible refine (impl_element_times.calls ak x8_84 t174 _ A155.out).mono ?_); rintro e w' ⟨rfl, ⟨nd, rfl⟩⟩; refine ⟨_, rfl, ?_⟩; (try (rw [drewN_self wr]; generalize hq_ : World.drewN wr _ = wr; have n0_ : Aside0 (Kd.R k102 102 wr w.heap.size (fun k_ => k_ ≠ gb149) u147000 af) := ⟨z4_18⟩; have n1_ : Aside0 (Kd.R (Kd.int .i64) 3 wr w.heap.size (fun _ => True) u147001 ad) := ⟨z4_19⟩; have n2_ : Aside0 (wr.heap[gb146]? = some (.cells #[u147000, u147001] 81 (0, 0))) := ⟨z4_14⟩; have n3_ : Aside0 (wr.heap[gb148]? = some (.cells #[.int .i64 ((rd_T70 l0 x14_1).f0), .int .i64 ((rd_T70 l0 x14_1).f1), .int .i64 ((rd_T70 l0 x14_1).f2), .int .i64 ((rd_T70 l0 x14_1).f3)] 70 (0, 0))) := ⟨z4_15⟩; have n4_ : Aside0 (wr.heap[gb149]? = some (.cells #[.int .i64 t167, .int .i64 t168, .int .i64 t169, .int .i64 t170, .int .i64 ah, .int .i64 ai, .int .i64 aj, .int .i64 ak, .int .i64 al, .int .i64 am, .int .i64 an, .int .i64 ao] 102 (0, 0))) := ⟨z4_16⟩; have n5_ : Aside0 (Below w.heap.size w wr) := ⟨z4_20⟩; clear ab aa BK146 BK148 BK149 HB hq_; have ab := n0_; have aa := n1_; have BK146 := n2_; have BK148 := n3_; have BK149 := n4_; have HB := n5_; clear n0_ n1_ n2_ n3_ n4_ n5_; have hcr149_7 : wr.cell? ⟨gb149, 7, none⟩ = some (.int .i64 ak) := bA4 BK149 rfl; have hfr149_7 := blk_frozen BK149.out 7))))
                go_roundg k4
                case measure => have := HK1.out; have := HJ5.out; have := HJ84.out; have := HK4.out; omega
                case rel => exact ⟨(wrap64 ((3 : Int) + 1)), (ah), (ai), (aj), (t174), (al), (am), (an), (ao), z4_10, H', ⟨z4_9⟩, ⟨by (with_reducible repeat (first | apply Kd.R_alloc | apply Kd.R_drewN | apply Kd.R_drew)); exact Kd.R_mono (Kd.R_far (p := ⟨gb149, 7, none⟩) (Kd.R_mono ab.out (fun k_ hk => (⟨hk, hk⟩ : _ ∧ k_ ≠ gb149))) (fun _ hk => hk.2) (.int .i64 t174)) (fun _ hk => hk.1)⟩, ⟨by (with_reducible repeat (first | apply Kd.R_alloc | apply Kd.R_drewN | apply Kd.R_drew)); exact Kd.R_mono (Kd.R_far (p := ⟨gb149, 7, none⟩) (Kd.R_types aa.out BK149.out (by decide)) (fun _ hk => hk.2) (.int .i64 t174)) (fun _ hk => trivial)⟩, ⟨gZ ac.out BK146.out⟩, ⟨gZ ae.out BK148.out⟩, ⟨bZ BK149.out⟩, ⟨z4_1⟩⟩
               ·rw [if_neg c154] at H
                clear c154
                by_cases c160 : x42_4 = 4
                ·rw [if_pos c160] at H
                 subst c160
                 replace H := Option.bind_eq_some_iff.mp H
                 obtain ⟨t175, A1610, H⟩ := H
                 have A161 := Aside0.mk A1610
                 clear A1610
                 have H' := Aside0.mk H
                 clear H
                 have hnb162 := ag.out
                 have hnc162 := ac.out
                 have hnb163 := ap.out
                 have hnc163 := ae.out
                 have hcz164_8 : wr.cell? ⟨gb149, 8, none⟩ = some (.int .i64 al) := bA4 BK149 rfl
                 have hfz164_8 := blk_frozen BK149.out 8
                 go_wp2_with (first | ((with_reducible refine gate_callee (f := 104) rfl ?_); refine goesL_ (some 51) rfl rfl Try.func104 (by kernel_rfl) rfl #[.int .i64 al, .int .i64 x8_84] rfl z4_4 ?_; (with_reducible refine (impl_element_times.calls al x8_84 t175 _ A161.out).mono ?_); rintro e w' ⟨rfl, ⟨nd, rfl⟩⟩; refine ⟨_, rfl, ?_⟩; (try (rw [drewN_self wr]; generalize hq_ : World.drewN wr _ = wr; have n0_ : Aside0 (Kd.R k102 102 wr w.heap.size (fun k_ => k_ ≠ gb149) u147000 af) := ⟨z4_18⟩; have n1_ : Aside0 (Kd.R (Kd.int .i64) 3 wr w.heap.size (fun _ => True) u147001 ad) := ⟨z4_19⟩; have n2_ : Aside0 (wr.heap[gb146]? = some (.cells #[u147000, u147001] 81 (0, 0))) := ⟨z4_14⟩; have n3_ : Aside0 (wr.heap[gb148]? = some (.cells #[.int .i64 ((rd_T70 l0 x14_1).f0), .int .i64 ((rd_T70 l0 x14_1).f1), .int .i64 ((rd_T70 l0 x14_1).f2), .int .i64 ((rd_T70 l0 x14_1).f3)] 70 (0, 0))) := ⟨z4_15⟩; have n4_ : Aside0 (wr.heap[gb149]? = some (.cells #[.int .i64 t167, .int .i64 t168, .int .i64 t169, .int .i64 t170, .int .i64 ah, .int .i64 ai, .int .i64 aj, .int .i64 ak, .int .i64 al, .int .i64 am, .int .i64 an, .int .i64 ao] 102 (0, 0))) := ⟨z4_16⟩; have n5_ : Aside0 (Below w.heap.size w wr) := ⟨z4_20⟩; clear ab aa BK146 BK148 BK149 HB hq_; have ab := n0_; have aa := n1_; have BK146 := n2_; have BK148 := n3_; have BK149 := n4_; have HB := n5_; clear n0_ n1_ n2_ n3_ n4_ n5_; have hcr149_8 : wr.cell? ⟨gb149, 8, none⟩ = some (.int .i64 al) := bA4 BK149 rfl; have hfr149_8 := blk_frozen BK149.out 8))))
                 go_roundg k4
                 case measure => have := HK1.out; have := HJ5.out; have := HJ84.out; have := HK4.out; omega
                 case rel => exact ⟨(wrap64 ((4 : Int) + 1)), (ah), (ai), (aj), (ak), (t175), (am), (an), (ao), z4_10, H', ⟨z4_9⟩, ⟨by (with_reducible repeat (first | apply Kd.R_alloc | apply Kd.R_drewN | apply Kd.R_drew)); exact Kd.R_mono (Kd.R_far (p := ⟨gb149, 8, none⟩) (Kd.R_mono ab.out (fun k_ hk => (⟨hk, hk⟩ : _ ∧ k_ ≠ gb149))) (fun _ hk => hk.2) (.int .i64 t175)) (fun _ hk => hk.1)⟩, ⟨by (with_reducible repeat (first | apply Kd.R_alloc | apply Kd.R_drewN | apply Kd.R_drew)); exact Kd.R_mono (Kd.R_far (p := ⟨gb149, 8, none⟩) (Kd.R_types aa.out BK149.out (by decide)) (fun _ hk => hk.2) (.int .i64 t175)) (fun _ hk => trivial)⟩, ⟨gZ ac.out BK146.out⟩, ⟨gZ ae.out BK148.out⟩, ⟨bZ BK149.out⟩, ⟨z4_1⟩⟩
                ·rw [if_neg c160] at H
                 clear c160
                 by_cases c166 : x42_4 = 5
                 ·rw [if_pos c166] at H
                  subst c166
                  replace H := Option.bind_eq_some_iff.mp H
                  obtain ⟨t176, A1670, H⟩ := H
                  have A167 := Aside0.mk A1670
                  clear A1670
                  have H' := Aside0.mk H
                  clear H
                  have hnb168 := ag.out
                  have hnc168 := ac.out
                  have hnb169 := ap.out
                  have hnc169 := ae.out
                  have hcz170_9 : wr.cell? ⟨gb149, 9, none⟩ = some (.int .i64 am) := bA4 BK149 rfl
                  have hfz170_9 := blk_frozen BK149.out 9
                  go_wp2_with (first | ((with_reducible refine gate_callee (f := 104) rfl ?_); refine goesL_ (some 51) rfl rfl Try.func104 (by kernel_rfl) rfl #[.int .i64 am, .int .i64 x8_84] rfl z4_4 ?_; (with_reducible refine (impl_element_times.calls am x8_84 t176 _ A167.out).mono ?_); rintro e w' ⟨rfl, ⟨nd, rfl⟩⟩; refine ⟨_, rfl, ?_⟩; (try (rw [drewN_self wr]; generalize hq_ : World.drewN wr _ = wr; have n0_ : Aside0 (Kd.R k102 102 wr w.heap.size (fun k_ => k_ ≠ gb149) u147000 af) := ⟨z4_18⟩; have n1_ : Aside0 (Kd.R (Kd.int .i64) 3 wr w.heap.size (fun _ => True) u147001 ad) := ⟨z4_19⟩; have n2_ : Aside0 (wr.heap[gb146]? = some (.cells #[u147000, u147001] 81 (0, 0))) := ⟨z4_14⟩; have n3_ : Aside0 (wr.heap[gb148]? = some (.cells #[.int .i64 ((rd_T70 l0 x14_1).f0), .int .i64 ((rd_T70 l0 x14_1).f1), .int .i64 ((rd_T70 l0 x14_1).f2), .int .i64 ((rd_T70 l0 x14_1).f3)] 70 (0, 0))) := ⟨z4_15⟩; have n4_ : Aside0 (wr.heap[gb149]? = some (.cells #[.int .i64 t167, .int .i64 t168, .int .i64 t169, .int .i64 t170, .int .i64 ah, .int .i64 ai, .int .i64 aj, .int .i64 ak, .int .i64 al, .int .i64 am, .int .i64 an, .int .i64 ao] 102 (0, 0))) := ⟨z4_16⟩; have n5_ : Aside0 (Below w.heap.size w wr) := ⟨z4_20⟩; clear ab aa BK146 BK148 BK149 HB hq_; have ab := n0_; have aa := n1_; have BK146 := n2_; have BK148 := n3_; have BK149 := n4_; have HB := n5_; clear n0_ n1_ n2_ n3_ n4_ n5_; have hcr149_9 : wr.cell? ⟨gb149, 9, none⟩ = some (.int .i64 am) := bA4 BK149 rfl; have hfr149_9 := blk_frozen BK149.out 9))))
                  go_roundg k4
                  case measure => have := HK1.out; have := HJ5.out; have := HJ84.out; have := HK4.out; omega
                  case rel => exact ⟨(wrap64 ((5 : Int) + 1)), (ah), (ai), (aj), (ak), (al), (t176), (an), (ao), z4_10, H', ⟨z4_9⟩, ⟨by (with_reducible repeat (first | apply Kd.R_alloc | apply Kd.R_drewN | apply Kd.R_drew)); exact Kd.R_mono (Kd.R_far (p := ⟨gb149, 9, none⟩) (Kd.R_mono ab.out (fun k_ hk => (⟨hk, hk⟩ : _ ∧ k_ ≠ gb149))) (fun _ hk => hk.2) (.int .i64 t176)) (fun _ hk => hk.1)⟩, ⟨by (with_reducible repeat (first | apply Kd.R_alloc | apply Kd.R_drewN | apply Kd.R_drew)); exact Kd.R_mono (Kd.R_far (p := ⟨gb149, 9, none⟩) (Kd.R_types aa.out BK149.out (by decide)) (fun _ hk => hk.2) (.int .i64 t176)) (fun _ hk => trivial)⟩, ⟨gZ ac.out BK146.out⟩, ⟨gZ ae.out BK148.out⟩, ⟨bZ BK149.out⟩, ⟨z4_1⟩⟩
                 ·rw [if_neg c166] at H
                  clear c166
                  by_cases c172 : x42_4 = 6
                  ·rw [if_pos c172] at H
                   subst c172
                   replace H := Option.bind_eq_some_iff.mp H
                   obtain ⟨t177, A1730, H⟩ := H
                   have A173 := Aside0.mk A1730
                   clear A1730
                   have H' := Aside0.mk H
                   clear H
                   have hnb174 := ag.out
                   have hnc174 := ac.out
                   have hnb175 := ap.out
                   have hnc175 := ae.out
                   have hcz176_10 : wr.cell? ⟨gb149, 10, none⟩ = some (.int .i64 an) := bA4 BK149 rfl
                   have hfz176_10 := blk_frozen BK149.out 10
                   go_wp2_with (first | ((with_reducible refine gate_callee (f := 104) rfl ?_); refine goesL_ (some 51) rfl rfl Try.func104 (by kernel_rfl) rfl #[.int .i64 an, .int .i64 x8_84] rfl z4_4 ?_; (with_reducible refine (impl_element_times.calls an x8_84 t177 _ A173.out).mono ?_); rintro e w' ⟨rfl, ⟨nd, rfl⟩⟩; refine ⟨_, rfl, ?_⟩; (try (rw [drewN_self wr]; generalize hq_ : World.drewN wr _ = wr; have n0_ : Aside0 (Kd.R k102 102 wr w.heap.size (fun k_ => k_ ≠ gb149) u147000 af) := ⟨z4_18⟩; have n1_ : Aside0 (Kd.R (Kd.int .i64) 3 wr w.heap.size (fun _ => True) u147001 ad) := ⟨z4_19⟩; have n2_ : Aside0 (wr.heap[gb146]? = some (.cells #[u147000, u147001] 81 (0, 0))) := ⟨z4_14⟩; have n3_ : Aside0 (wr.heap[gb148]? = some (.cells #[.int .i64 ((rd_T70 l0 x14_1).f0), .int .i64 ((rd_T70 l0 x14_1).f1), .int .i64 ((rd_T70 l0 x14_1).f2), .int .i64 ((rd_T70 l0 x14_1).f3)] 70 (0, 0))) := ⟨z4_15⟩; have n4_ : Aside0 (wr.heap[gb149]? = some (.cells #[.int .i64 t167, .int .i64 t168, .int .i64 t169, .int .i64 t170, .int .i64 ah, .int .i64 ai, .int .i64 aj, .int .i64 ak, .int .i64 al, .int .i64 am, .int .i64 an, .int .i64 ao] 102 (0, 0))) := ⟨z4_16⟩; have n5_ : Aside0 (Below w.heap.size w wr) := ⟨z4_20⟩; clear ab aa BK146 BK148 BK149 HB hq_; have ab := n0_; have aa := n1_; have BK146 := n2_; have BK148 := n3_; have BK149 := n4_; have HB := n5_; clear n0_ n1_ n2_ n3_ n4_ n5_; have hcr149_10 : wr.cell? ⟨gb149, 10, none⟩ = some (.int .i64 an) := bA4 BK149 rfl; have hfr149_10 := blk_frozen BK149.out 10))))
                   go_roundg k4
                   case measure => have := HK1.out; have := HJ5.out; have := HJ84.out; have := HK4.out; omega
                   case rel => exact ⟨(wrap64 ((6 : Int) + 1)), (ah), (ai), (aj), (ak), (al), (am), (t177), (ao), z4_10, H', ⟨z4_9⟩, ⟨by (with_reducible repeat (first | apply Kd.R_alloc | apply Kd.R_drewN | apply Kd.R_drew)); exact Kd.R_mono (Kd.R_far (p := ⟨gb149, 10, none⟩) (Kd.R_mono ab.out (fun k_ hk => (⟨hk, hk⟩ : _ ∧ k_ ≠ gb149))) (fun _ hk => hk.2) (.int .i64 t177)) (fun _ hk => hk.1)⟩, ⟨by (with_reducible repeat (first | apply Kd.R_alloc | apply Kd.R_drewN | apply Kd.R_drew)); exact Kd.R_mono (Kd.R_far (p := ⟨gb149, 10, none⟩) (Kd.R_types aa.out BK149.out (by decide)) (fun _ hk => hk.2) (.int .i64 t177)) (fun _ hk => trivial)⟩, ⟨gZ ac.out BK146.out⟩, ⟨gZ ae.out BK148.out⟩, ⟨bZ BK149.out⟩, ⟨z4_1⟩⟩
                  ·rw [if_neg c172] at H
                   clear c172; obtain ⟨c178, H⟩ := ifP H; subst c178
                   replace H := Option.bind_eq_some_iff.mp H
                   obtain ⟨t178, A1790, H⟩ := H
                   have A179 := Aside0.mk A1790
                   clear A1790
                   have H' := Aside0.mk H
                   clear H
                   have hnb180 := ag.out
                   have hnc180 := ac.out
                   have hnb181 := ap.out
                   have hnc181 := ae.out
                   have hcz182_11 : wr.cell? ⟨gb149, 11, none⟩ = some (.int .i64 ao) := bA4 BK149 rfl
                   have hfz182_11 := blk_frozen BK149.out 11
                   go_wp2_with (first | ((with_reducible refine gate_callee (f := 104) rfl ?_); refine goesL_ (some 51) rfl rfl Try.func104 (by kernel_rfl) rfl #[.int .i64 ao, .int .i64 x8_84] rfl z4_4 ?_; (with_reducible refine (impl_element_times.calls ao x8_84 t178 _ A179.out).mono ?_); rintro e w' ⟨rfl, ⟨nd, rfl⟩⟩; refine ⟨_, rfl, ?_⟩; (try (rw [drewN_self wr]; generalize hq_ : World.drewN wr _ = wr; have n0_ : Aside0 (Kd.R k102 102 wr w.heap.size (fun k_ => k_ ≠ gb149) u147000 af) := ⟨z4_18⟩; have n1_ : Aside0 (Kd.R (Kd.int .i64) 3 wr w.heap.size (fun _ => True) u147001 ad) := ⟨z4_19⟩; have n2_ : Aside0 (wr.heap[gb146]? = some (.cells #[u147000, u147001] 81 (0, 0))) := ⟨z4_14⟩; have n3_ : Aside0 (wr.heap[gb148]? = some (.cells #[.int .i64 ((rd_T70 l0 x14_1).f0), .int .i64 ((rd_T70 l0 x14_1).f1), .int .i64 ((rd_T70 l0 x14_1).f2), .int .i64 ((rd_T70 l0 x14_1).f3)] 70 (0, 0))) := ⟨z4_15⟩; have n4_ : Aside0 (wr.heap[gb149]? = some (.cells #[.int .i64 t167, .int .i64 t168, .int .i64 t169, .int .i64 t170, .int .i64 ah, .int .i64 ai, .int .i64 aj, .int .i64 ak, .int .i64 al, .int .i64 am, .int .i64 an, .int .i64 ao] 102 (0, 0))) := ⟨z4_16⟩; have n5_ : Aside0 (Below w.heap.size w wr) := ⟨z4_20⟩; clear ab aa BK146 BK148 BK149 HB hq_; have ab := n0_; have aa := n1_; have BK146 := n2_; have BK148 := n3_; have BK149 := n4_; have HB := n5_; clear n0_ n1_ n2_ n3_ n4_ n5_; have hcr149_11 : wr.cell? ⟨gb149, 11, none⟩ = some (.int .i64 ao) := bA4 BK149 rfl; have hfr149_11 := blk_frozen BK149.out 11))))
                   go_roundg k4
                   case measure => have := HK1.out; have := HJ5.out; have := HJ84.out; have := HK4.out; omega
                   case rel => exact ⟨(wrap64 ((7 : Int) + 1)), (ah), (ai), (aj), (ak), (al), (am), (an), (t178), z4_10, H', ⟨z4_9⟩, ⟨by (with_reducible repeat (first | apply Kd.R_alloc | apply Kd.R_drewN | apply Kd.R_drew)); exact Kd.R_mono (Kd.R_far (p := ⟨gb149, 11, none⟩) (Kd.R_mono ab.out (fun k_ hk => (⟨hk, hk⟩ : _ ∧ k_ ≠ gb149))) (fun _ hk => hk.2) (.int .i64 t178)) (fun _ hk => hk.1)⟩, ⟨by (with_reducible repeat (first | apply Kd.R_alloc | apply Kd.R_drewN | apply Kd.R_drew)); exact Kd.R_mono (Kd.R_far (p := ⟨gb149, 11, none⟩) (Kd.R_types aa.out BK149.out (by decide)) (fun _ hk => hk.2) (.int .i64 t178)) (fun _ hk => trivial)⟩, ⟨gZ ac.out BK146.out⟩, ⟨gZ ae.out BK148.out⟩, ⟨bZ BK149.out⟩, ⟨z4_1⟩⟩
           ·rw [if_neg c135] at H
            have c135b0 : decide (x42_4 < 8) = false := decide_eq_false c135; clear c135; obtain ⟨c184, H⟩ := ifP H
            have LMc184 := Aside0.mk c184
            clear c184
            obtain ⟨y179, hy179⟩ : ∃ y_ : List (S102), y_ = (af ++ [(⟨(⟨t167, t168, t169, t170⟩ : S70), (⟨ah, ai, aj, ak, al, am, an, ao⟩ : S100)⟩ : S102)]) := ⟨_, rfl⟩
            replace H : (if ad.length < 17592186044416 then (impl_spanOf.l0 k4 l0 (l0.length : Int) (wrap64 (x14_1 + 1)) y179 (ad ++ [x14_1])) else (none)) = some (r1, r2) := yZZ_ hy179 H
            have Ny179 := Aside0.mk hy179
            clear hy179; obtain ⟨c185, H⟩ := ifP H
            have LMc185 := Aside0.mk c185
            clear c185
            obtain ⟨y182, hy182⟩ : ∃ y_ : List Int, y_ = (ad ++ [x14_1]) := ⟨_, rfl⟩
            replace H : (impl_spanOf.l0 k4 l0 (l0.length : Int) (wrap64 (x14_1 + 1)) y179 y182) = some (r1, r2) := yZZ_ hy182 H
            have Ny182 := Aside0.mk hy182
            clear hy182
            have H' := Aside0.mk H
            clear H
            try go_wp2
            replace ab := Aside0.mk (Kd.R_drew ab.out)
            replace aa := Aside0.mk (Kd.R_drew aa.out)
            replace BK146 := Aside0.mk (blk_drew BK146.out)
            replace BK148 := Aside0.mk (blk_drew BK148.out)
            replace BK149 := Aside0.mk (blk_drew BK149.out)
            replace HB := Aside0.mk (below_drew1 HB.out)
            refine start_ (n := 11) (S := fun w' => w'.cell? ⟨gb146, 0, none⟩ = some (u147000) ∧ w'.cell? ⟨gb149, 0, none⟩ = some (.int .i64 t167) ∧ w'.cell? ⟨gb149, 1, none⟩ = some (.int .i64 t168) ∧ w'.cell? ⟨gb149, 2, none⟩ = some (.int .i64 t169) ∧ w'.cell? ⟨gb149, 3, none⟩ = some (.int .i64 t170) ∧ w'.cell? ⟨gb149, 4, none⟩ = some (.int .i64 ah) ∧ w'.cell? ⟨gb149, 5, none⟩ = some (.int .i64 ai) ∧ w'.cell? ⟨gb149, 6, none⟩ = some (.int .i64 aj) ∧ w'.cell? ⟨gb149, 7, none⟩ = some (.int .i64 ak) ∧ w'.cell? ⟨gb149, 8, none⟩ = some (.int .i64 al) ∧ w'.cell? ⟨gb149, 9, none⟩ = some (.int .i64 am) ∧ w'.cell? ⟨gb149, 10, none⟩ = some (.int .i64 an) ∧ w'.cell? ⟨gb149, 11, none⟩ = some (.int .i64 ao)) (ds := [10]) #[false, false, false, false, false, false, false, false, false, false, false] (by kernel_rfl) rfl rfl ⟨bA4 BK146 rfl, bA4 BK149 rfl, bA4 BK149 rfl, bA4 BK149 rfl, bA4 BK149 rfl, bA4 BK149 rfl, bA4 BK149 rfl, bA4 BK149 rfl, bA4 BK149 rfl, bA4 BK149 rfl, bA4 BK149 rfl, bA4 BK149 rfl, bA4 BK149 rfl⟩ (fun hHeld => ?_); refine with_tabW impl_spanOf.tab17 impl_spanOf.bits17 (fun HT_ HW_ => ?_); generalize wr.drew = w186 at ab aa BK146 BK148 BK149 HB hHeld ⊢; refine pZ 0 HT_ ?_; refine pZ 1 HT_ ?_; refine pZ 2 HT_ ?_; refine pZ 3 HT_ ?_; refine tZ 4 hHeld HT_ HW_ ?_; refine tZ 5 hHeld HT_ HW_ ?_; refine oZ 6 HT_ (fun K hK => ?_); refine value_ (w1 := ?_) (v := ?_) (by rfl) rfl ?_ ?_; rotate_left 2
            ·go_simp
             constructor
             ·rfl
             ·rfl
            refine hK.out _ _ ⟨(blk_cell (blk_alloc BK146.out _) 0).trans rfl, (blk_cell (blk_alloc BK149.out _) 0).trans rfl, (blk_cell (blk_alloc BK149.out _) 1).trans rfl, (blk_cell (blk_alloc BK149.out _) 2).trans rfl, (blk_cell (blk_alloc BK149.out _) 3).trans rfl, (blk_cell (blk_alloc BK149.out _) 4).trans rfl, (blk_cell (blk_alloc BK149.out _) 5).trans rfl, (blk_cell (blk_alloc BK149.out _) 6).trans rfl, (blk_cell (blk_alloc BK149.out _) 7).trans rfl, (blk_cell (blk_alloc BK149.out _) 8).trans rfl, (blk_cell (blk_alloc BK149.out _) 9).trans rfl, (blk_cell (blk_alloc BK149.out _) 10).trans rfl, (blk_cell (blk_alloc BK149.out _) 11).trans rfl⟩ (fun hHeld => ?_); clear hK K; refine nZ ?_; refine oZ 7 HT_ (fun K hK => ?_); refine Kd.R_append_step k102 (w0 := w) w.heap.size (by rfl) (.tmp 59) (.tmp 61) 79 102 (.agg #[(.int .i64 0), (.int .i64 0), (.int .i64 0), (.int .i64 0), (.int .i64 0), (.int .i64 0), (.int .i64 0), (.int .i64 0), (.int .i64 0), (.int .i64 0), (.int .i64 0), (.int .i64 0)]) 96 rfl Try.underlying79 info102 rfl (by decide) (by omega) u147000 af (⟨(⟨t167, t168, t169, t170⟩ : S70), (⟨ah, ai, aj, ak, al, am, an, ao⟩ : S100)⟩ : S102) [.int .i64 t167, .int .i64 t168, .int .i64 t169, .int .i64 t170, .int .i64 ah, .int .i64 ai, .int .i64 aj, .int .i64 ak, .int .i64 al, .int .i64 am, .int .i64 an, .int .i64 ao] (fun k_ => k_ ≠ gb149) (fun _ => False) rfl rfl ?aP (fun _ hk => hk.elim) ?aF ?aO ?aB ?aS ?aL ?_; (case aP => exact k102_mkM _ _ _ (⟨(⟨t167, t168, t169, t170⟩ : S70), (⟨ah, ai, aj, ak, al, am, an, ao⟩ : S100)⟩ : S102)); (case aB => exact z4_1); (case aF => exact (fun k_ hk => Kd.freshB (g := gb149) (o := .cells #[.int .i64 t167, .int .i64 t168, .int .i64 t169, .int .i64 t170, .int .i64 ah, .int .i64 ai, .int .i64 aj, .int .i64 ak, .int .i64 al, .int .i64 am, .int .i64 an, .int .i64 ao] 102 (0, 0)) (zL4 BK149.out) k_ hk)); (case aO => exact z4_2); (case aS => exact (below_size z4_1)); (case aL => have := LMc184.out; omega); intro v180 w187 ho hb hg hat; rw [← Ny179.out] at ho
            have n0_ := Aside0.mk (Kd.R_over' z4_3 (Kd.R_typed z4_2) (by decide) hg)
            have n1_ := Aside0.mk (blk_grown (g := gb146) (o := .cells #[u147000, u147001] 81 (0, 0)) (zL4 BK146.out) hg (Kd.R_ne ab.out BK146.out (by decide)))
            have n2_ := Aside0.mk (blk_grown (g := gb148) (o := .cells #[.int .i64 ((rd_T70 l0 x14_1).f0), .int .i64 ((rd_T70 l0 x14_1).f1), .int .i64 ((rd_T70 l0 x14_1).f2), .int .i64 ((rd_T70 l0 x14_1).f3)] 70 (0, 0)) (zL4 BK148.out) hg (Kd.R_ne ab.out BK148.out (by decide)))
            have n3_ := Aside0.mk (blk_grown (g := gb149) (o := .cells #[.int .i64 t167, .int .i64 t168, .int .i64 t169, .int .i64 t170, .int .i64 ah, .int .i64 ai, .int .i64 aj, .int .i64 ak, .int .i64 al, .int .i64 am, .int .i64 an, .int .i64 ao] 102 (0, 0)) (zL4 BK149.out) hg (Kd.R_away ab.out (fun _ hk => hk)))
            have n4_ := Aside0.mk (hb)
            have n5_ := Aside0.mk (ho)
            clear aa; clear BK146; clear BK148; clear BK149; clear HB; clear ab
            have aa := n0_
            have BK146 := n1_
            have BK148 := n2_
            have BK149 := n3_
            have HB := n4_
            have HO181 := n5_
            clear n0_ n1_ n2_ n3_ n4_ n5_; clear ho hb hg hat; obtain ⟨Ao188, co188, eo188⟩ := Kd.R_slice HO181.out; (first | subst eo188 | (injection eo188 with f1_ f2_ f3_; have f4_ := f1_.symm; have f5_ := f3_.symm; clear f1_ f2_ f3_; subst f4_; subst f5_)); refine hK.out _ _ ⟨bA4 BK146 rfl, bA4 BK149 rfl, bA4 BK149 rfl, bA4 BK149 rfl, bA4 BK149 rfl, bA4 BK149 rfl, bA4 BK149 rfl, bA4 BK149 rfl, bA4 BK149 rfl, bA4 BK149 rfl, bA4 BK149 rfl, bA4 BK149 rfl, bA4 BK149 rfl⟩ (fun hHeld => ?_); clear hK K; refine nZ ?_; refine pZ 8 HT_ ?_; refine pZ 9 HT_ ?_; refine lZ 10 HT_ (fun K hK => ?_); have hs189 : w187.cell? ⟨gb146, 0, none⟩ = some (u147000) := bA4 BK146 rfl
            have hfs189 := blk_frozen BK146.out 0
            have hns189_1 := aC.out
            have hns189_2 := ag.out
            have hms189_1 := aA.out
            have hms189_2 := ac.out
            refine skip_ (w1 := ?_) (by rfl) rfl ?_ ?_; rotate_left
            ·go_simp
             rfl
            refine hK.out _ _ ?_; clear hK K; refine done_ (done_of HT_.out (by kernel_rfl)) ?_
            have hnb190 := aA.out
            have hnc190 := aC.out
            have hnb191 := ac.out
            have hnc191 := ag.out
            have hcz192_1 : w187.cell? ⟨gb146, 1, none⟩ = some (u147001) := bA4 BK146 rfl
            have hfz192_1 := blk_frozen BK146.out 1
            try go_wp2_with (first | ((with_reducible refine gate_builtin (b := .append) (xs := #[.tmp 69, .tmp 71]) rfl ?_); at_builtin; refine Kd.R_append (Kd.int .i64) (w0 := w) w.heap.size rfl (.tmp 69) (.tmp 71) 28 3 (.int .i64 0) 8 rfl Try.underlying28 info3 rfl (by decide) (by omega) u147001 ad x14_1 [.int .i64 x14_1] (fun _ => True) (fun _ => False) rfl (by first | (go_simp; done) | (go_simp; rfl)) ?aP (fun _ hk => hk.elim) ?aF ?aO ?aB ?aS ?aL ?_; (case aP => exact rfl); (case aB => exact z4_1); (case aF => exact (fun _ _ => trivial)); (case aO => exact (by (with_reducible repeat (first | apply Kd.R_alloc | apply Kd.R_drewN | apply Kd.R_drew)); exact Kd.R_mono (Kd.R_far (p := ⟨gb146, 0, none⟩) (Kd.R_types aa.out BK146.out (by decide)) (fun _ hk => hk.2) (.slice Ao188 y179.length co188)) (fun _ hk => trivial))); (case aS => exact (below_size z4_1)); (case aL => have := LMc185.out; omega); intro v183 w193 ho hb hg hat; rw [← Ny182.out] at ho; have n0_ := Aside0.mk (blk_grown (g := gb146) (o := .cells #[.slice Ao188 y179.length co188, u147001] 81 (0, 0)) (bZ BK146.out) hg (Kd.R_ne aa.out BK146.out (by decide))); have n1_ := Aside0.mk (blk_grown (g := gb148) (o := .cells #[.int .i64 ((rd_T70 l0 x14_1).f0), .int .i64 ((rd_T70 l0 x14_1).f1), .int .i64 ((rd_T70 l0 x14_1).f2), .int .i64 ((rd_T70 l0 x14_1).f3)] 70 (0, 0)) (gZ aC.out BK148.out) hg (Kd.R_ne aa.out BK148.out (by decide))); have n2_ := Aside0.mk (blk_grown (g := gb149) (o := .cells #[.int .i64 t167, .int .i64 t168, .int .i64 t169, .int .i64 t170, .int .i64 ah, .int .i64 ai, .int .i64 aj, .int .i64 ak, .int .i64 al, .int .i64 am, .int .i64 an, .int .i64 ao] 102 (0, 0)) (gZ ag.out BK149.out) hg (Kd.R_ne aa.out BK149.out (by decide))); have n3_ := Aside0.mk (Kd.R_over' (by (with_reducible repeat (first | apply Kd.R_alloc | apply Kd.R_drewN | apply Kd.R_drew)); exact (Kd.R_mono (Kd.R_far (p := ⟨gb146, 0, none⟩) (Kd.R_types HO181.out BK146.out (by decide)) (fun _ hk => hk.2) (.slice Ao188 y179.length co188)) (fun _ h_ => h_.1))) (Kd.R_typed (by (with_reducible repeat (first | apply Kd.R_alloc | apply Kd.R_drewN | apply Kd.R_drew)); exact (Kd.R_mono (Kd.R_far (p := ⟨gb146, 0, none⟩) (Kd.R_types aa.out BK146.out (by decide)) (fun _ hk => hk.2) (.slice Ao188 y179.length co188)) (fun _ h_ => h_.1)))) (by decide) hg); have n4_ := Aside0.mk (hb); have n5_ := Aside0.mk (ho); clear BK146; clear BK148; clear BK149; clear HO181; clear HB; clear aa; have BK146 := n0_; have BK148 := n1_; have BK149 := n2_; have HO181 := n3_; have HB := n4_; have HO184 := n5_; clear n0_ n1_ n2_ n3_ n4_ n5_; clear ho hb hg hat; obtain ⟨Ao194, co194, eo194⟩ := Kd.R_slice HO184.out; subst eo194; have hcz195_1 : w193.cell? ⟨gb146, 1, none⟩ = some (u147001) := bA4 BK146 rfl; have hfz195_1 := blk_frozen BK146.out 1))
            go_roundg k4
            case measure => have := HK1.out; have := HJ5.out; have := HJ84.out; have := HK4.out; omega
            case rel => exact ⟨(wrap64 (x14_1 + 1)), (y179), (y182), (.slice Ao188 y179.length co188), (.slice Ao194 y182.length co194), z4_12, H', ⟨z4_9⟩, ⟨by (with_reducible repeat (first | apply Kd.R_alloc | apply Kd.R_drewN | apply Kd.R_drew)); exact Kd.R_mono (Kd.R_far (p := ⟨gb146, 1, none⟩) (Kd.R_types HO181.out BK146.out (by decide)) (fun _ hk => hk.2) (.slice Ao194 y182.length co194)) (fun _ hk => trivial)⟩, ⟨by (with_reducible repeat (first | apply Kd.R_alloc | apply Kd.R_drewN | apply Kd.R_drew)); exact Kd.R_mono (Kd.R_far (p := ⟨gb146, 1, none⟩) (Kd.R_types HO184.out BK146.out (by decide)) (fun _ hk => hk.2) (.slice Ao194 y182.length co194)) (fun _ hk => trivial)⟩, ⟨bZ BK146.out⟩, ⟨z4_1⟩⟩
   ·rw [if_neg c3] at H
    have c3b0 : decide (x14_1 < (l0.length : Int)) = false := decide_eq_false c3; clear c3; simp only [Option.some.injEq, Prod.mk.injEq] at H; obtain ⟨rfl, rfl⟩ := H
    go_wp2
    go_ret; exact ⟨_, _, gb146, rfl, zL4 BK146.out, GW146.out, z4_2, z4_3, z4_7⟩

end Go.Proofs.Ytamaejafddmagaa.PA
namespace Go.Proofs.Ytamaejafddmagaa.PA
open Go.RowKit Go.Proofs.YtamaejafddmagaaW.PrintWords Go.Proofs.YtamaejafddmagaaW.PrintLast Go.Proofs.YtamaejafddmagaaW.PrintMore
attribute [local go_sem] max2_int min2_int max_two min_two max_three min_three max_four min_four   -- for this text's walks alone
set_option linter.unusedVariables false
set_option linter.unusedSimpArgs false

/-! ### impl_rank: function 61 -/
theorem zL5 {p q : Prop} (h : q) (t : q → p := by intro h_; (with_reducible repeat first|refine blk_drewN ?_ _|refine blk_drew ?_|refine blk_alloc ?_ _); exact h_) : p := t h
theorem z5_1 {p : Prop} (h : p := by repeat (first | (with_reducible first | exact HB.out | apply below_alloc | apply pw_below_drewN | apply below_drew1) | exact HB.out)) : p := h
theorem z5_2 {p : Prop} (h : p := by repeat (first | (with_reducible first | exact HB.out | apply below_alloc | apply pw_below_drewN | apply below_drew1 | refine below_set ?_ GE192.out) | exact HB.out)) : p := h
theorem z5_3 {p : Prop} (h : p := by (try simp only [List.map_toArray, List.map_cons, List.map_nil]); first | done | rfl | (simp only [List.length_drop, List.length_take]; rfl)) : p := h
theorem z5_4 {p : Prop} (h : p := by first | rfl | (simp [errW_none, errW_some] <;> rfl) | (simp [*, errW_none, errW_some] <;> rfl)) : p := h
theorem z5_5 {p : Prop} (h : p := by (with_reducible repeat (first | apply Kd.R_alloc | apply Kd.R_drewN | apply Kd.R_drew)); exact HO_5.out) : p := h
theorem z5_6 {p : Prop} (h : p := by first | (with_reducible assumption) | assumption) : p := h
theorem z5_7 {p : Prop} (h : p := by rw [hw]; exact (bZ BK192.out)) : p := h
def impl_rank.f (k : Nat) (l0 : List (S70)) : Option (Int) := (impl_spanOf.f k l0).bind fun bt185 => (some (bt185.2.length : Int))
set_option maxHeartbeats 8000000 in
set_option maxRecDepth 100000 in
theorem impl_rank.calls (k : Nat) (A0 : Option Addr) (c0 : Nat) (l0 : List (S70)) (r : Int) (w : World) (hr0 : Kd.C k70 w A0 l0.length l0) (hc0 : l0.length ≤ c0) (h : impl_rank.f k l0 = some r) :
  Calls Try.prog 61 #[.slice A0 l0.length c0] w fun e w' => e = .returned (.int .i64 r) ∧ Below w.heap.size w w' := by
 have HR0 := Aside0.mk hr0
 have HC0 := Aside0.mk hc0
 clear hr0 hc0
 have HB := Aside0.mk (Below.refl w.heap.size w)
 unfold impl_rank.f at h
 have H := h
 clear h
 replace H := Option.bind_eq_some_iff.mp H
 obtain ⟨⟨t185, t188⟩, A20, H⟩ := H
 dsimp only at H
 have A2 := Aside0.mk A20
 clear A20
 obtain rfl := Option.some.inj H
 go_enter Try.func61, Try.ntmps61
 go_wp2_with (first | ((with_reducible refine gate_callee (f := 65) rfl ?_); refine goesL_ (some 4) rfl rfl Try.func65 (by kernel_rfl) rfl #[.slice A0 l0.length c0] rfl z5_3 ?_; (with_reducible refine (impl_spanOf.calls k _ _ l0 t185 t188 _ ?side1 ?side2 A2.out).mono ?_); (case side1 => exact cZ (HR0.out)); (case side2 => exact HC0.out); rintro e w3 ⟨v186, v189, gb191, rfl, hbox, hgr, ho0, ho1, hb⟩; refine ⟨_, rfl, ?_⟩; have HO187 := Aside0.mk (Kd.R_lower ho0 (below_size z5_1)); have HO190 := Aside0.mk (Kd.R_lower ho1 (below_size z5_1)); have BK191 := Aside0.mk (hbox); have GW191 := Aside0.mk ((Nat.le_trans ((below_size z5_1) : w.heap.size ≤ _) hgr : w.heap.size ≤ gb191)); have GE191 := Aside0.mk ((Nat.le_trans ((below_size z5_1) : w.heap.size ≤ _) hgr : w.heap.size ≤ gb191)); replace HB := Aside0.mk (below_step z5_1 hb); (try clear hb); (try clear ho0); (try clear ho1); have hcz4_1 : w3.cell? ⟨gb191, 1, none⟩ = some (v189) := (blk_cell BK191.out 1).trans rfl; have hfz4_1 := blk_frozen BK191.out 1; obtain ⟨Ao5, co5, eo5⟩ := Kd.R_slice HO190.out; subst eo5))
 go_ret
 exact ⟨z5_4, by repeat (first | (with_reducible first | exact HB.out | apply below_alloc | apply pw_below_drewN | apply below_drew1 | refine below_set ?_ GE191.out) | exact HB.out)⟩

-- GIVEN: function 128 (impl_powers)

-- GIVEN: function 129 (impl_unit)

/-! ### impl_rowOf: function 111 -/
def impl_rowOf.f (a0 : Int) (a1 : Int) : Option (Int × Int × Int × Int) := if a0 = 2 then ((impl_powers.f (wrap64 (a1 + 1))).bind fun bt193 => (some (bt193.1, bt193.2.1, bt193.2.2.1, bt193.2.2.2))) else (if a1 < 4 then ((impl_unit.f a1).bind fun bt197 => (some (bt197.1, bt197.2.1, bt197.2.2.1, bt197.2.2.2))) else (if a1 = 4 then ((impl_unit.f 0).bind fun bt201 => ((impl_unit.f 1).bind fun bt205 => ((impl_vector_plus.f bt201.1 bt201.2.1 bt201.2.2.1 bt201.2.2.2 bt205.1 bt205.2.1 bt205.2.2.1 bt205.2.2.2).bind fun bt209 => (some (bt209.1, bt209.2.1, bt209.2.2.1, bt209.2.2.2))))) else (if a1 = 5 then ((impl_unit.f 2).bind fun bt213 => ((impl_unit.f 3).bind fun bt217 => ((impl_vector_plus.f bt213.1 bt213.2.1 bt213.2.2.1 bt213.2.2.2 bt217.1 bt217.2.1 bt217.2.2.1 bt217.2.2.2).bind fun bt221 => (some (bt221.1, bt221.2.1, bt221.2.2.1, bt221.2.2.2))))) else ((impl_powers.f (wrap64 (a1 - 4))).bind fun bt225 => (some (bt225.1, bt225.2.1, bt225.2.2.1, bt225.2.2.2))))))
set_option maxHeartbeats 8000000 in
set_option maxRecDepth 100000 in
theorem impl_rowOf.calls (a0 : Int) (a1 : Int) (r1 : Int) (r2 : Int) (r3 : Int) (r4 : Int) (w : World) (h : impl_rowOf.f a0 a1 = some (r1, r2, r3, r4)) :
  Calls Try.prog 111 #[.int .i64 a0, .int .i64 a1] w fun e w' => e = .returned (.agg #[.int .i64 r1, .int .i64 r2, .int .i64 r3, .int .i64 r4]) ∧ Below w.heap.size w w' := by
 have hu70 := Try.underlying70
 have HB := Aside0.mk (Below.refl w.heap.size w)
 unfold impl_rowOf.f at h
 have H := h
 clear h
 by_cases c3 : a0 = 2
 ·rw [if_pos c3] at H
  have c3b0 : (a0 == 2) = true := beq_iff_eq.mpr c3
  have c3b1 : (a0 != 2) = false := bne_eq_false_iff_eq.mpr c3
  clear c3
  replace H := Option.bind_eq_some_iff.mp H
  obtain ⟨⟨t193, t194, t195, t196⟩, A40, H⟩ := H
  dsimp only at H
  have A4 := Aside0.mk A40
  clear A40; simp only [Option.some.injEq, Prod.mk.injEq] at H; obtain ⟨rfl, rfl, rfl, rfl⟩ := H; go_enter Try.func111, Try.ntmps111
  go_wp2_with (first | ((with_reducible refine gate_dst (N := 4) rfl ?_); refine box_event ?hg (N := 4) ?hd (cs := #[.int .i64 0, .int .i64 0, .int .i64 0, .int .i64 0]) (t := 70) ?hr ?_; (case hd => rfl); (case hg => rfl); (case hr => first | (go_simp; done) | (go_simp; rfl)); intro gb192 hg w5 hbox hb; have BK192 := Aside0.mk (hbox); have GW192 := Aside0.mk ((by rw [hg]; exact (below_size z5_1) : w.heap.size ≤ gb192)); have GE192 := Aside0.mk ((by rw [hg]; exact (below_size z5_1) : w.heap.size ≤ gb192)); replace HB := Aside0.mk (below_step z5_1 hb); clear hb hbox hg) | ((with_reducible refine gate_callee (f := 128) rfl ?_); refine goesL_ (some 9) rfl rfl Try.func128 (by kernel_rfl) rfl #[.int .i64 (wrap64 (a1 + 1))] rfl z5_3 ?_; (with_reducible refine (impl_powers.calls (wrap64 (a1 + 1)) t193 t194 t195 t196 _ A4.out).mono ?_); rintro e w6 ⟨rfl, hb⟩; refine ⟨_, rfl, ?_⟩; replace BK192 := bBZ_ BK192 hb; replace HB := Aside0.mk (below_step z5_2 hb); (try clear hb); obtain ⟨hcz7_0, hfz7_0, hcz8_1, hfz8_1, hcz9_2, hfz9_2, hcz10_3, hfz10_3⟩ := cAZ4_ BK192) | ((with_reducible refine gate_store (t := 70) (p := 4) rfl ?_); refine store_event (t := 70) (p := 4) (v := ?vo_w11) (w1 := ((((w6.setCell ⟨gb192, 0, none⟩ (.int .i64 t193)).setCell ⟨gb192, 1, none⟩ (.int .i64 t194)).setCell ⟨gb192, 2, none⟩ (.int .i64 t195)).setCell ⟨gb192, 3, none⟩ (.int .i64 t196))) ?hg ?ho ?hn ?hr ?_; (case ho => rfl); (case hg => rfl); (case hn => rfl); (case hr => first | (go_simp; done) | (go_simp; rfl)); intro w11 hw; have n0_ : Aside0 (w11.heap[gb192]? = some (.cells #[.int .i64 t193, .int .i64 t194, .int .i64 t195, .int .i64 t196] 70 (0, 0))) := ⟨z5_7⟩; have n1_ : Aside0 (Below w.heap.size w w11) := ⟨(by rw [hw]; exact z5_2)⟩; clear hw; clear BK192; clear HB; have BK192 := n0_; have HB := n1_; clear n0_ n1_))
  refine bodyPost_ret (results_cell_row rfl _ _ gb192 70 #[.int .i64 t193, .int .i64 t194, .int .i64 t195, .int .i64 t196] (0, 0) _ rfl (zL5 BK192.out) Try.underlying70 rfl (by kernel_rfl)) rfl ?_; exact ⟨z5_4, z5_2⟩
 ·rw [if_neg c3] at H
  have c3b0 : (a0 == 2) = false := beq_eq_false_iff_ne.mpr c3
  have c3b1 : (a0 != 2) = true := bne_iff_ne.mpr c3
  by_cases c12 : a1 < 4
  ·rw [if_pos c12] at H
   have c12b0 : decide (a1 < 4) = true := decide_eq_true c12; clear c12
   replace H := Option.bind_eq_some_iff.mp H
   obtain ⟨⟨t197, t198, t199, t200⟩, A130, H⟩ := H
   dsimp only at H
   have A13 := Aside0.mk A130
   clear A130; simp only [Option.some.injEq, Prod.mk.injEq] at H; obtain ⟨rfl, rfl, rfl, rfl⟩ := H; go_enter Try.func111, Try.ntmps111
   go_wp2_with (first | ((with_reducible refine gate_dst (N := 4) rfl ?_); refine box_event ?hg (N := 4) ?hd (cs := #[.int .i64 0, .int .i64 0, .int .i64 0, .int .i64 0]) (t := 70) ?hr ?_; (case hd => rfl); (case hg => rfl); (case hr => first | (go_simp; done) | (go_simp; rfl)); intro gb192 hg w14 hbox hb; have BK192 := Aside0.mk (hbox); have GW192 := Aside0.mk ((by rw [hg]; exact (below_size z5_1) : w.heap.size ≤ gb192)); have GE192 := Aside0.mk ((by rw [hg]; exact (below_size z5_1) : w.heap.size ≤ gb192)); replace HB := Aside0.mk (below_step z5_1 hb); clear hb hbox hg) | ((with_reducible refine gate_callee (f := 129) rfl ?_); refine goesL_ (some 14) rfl rfl Try.func129 (by kernel_rfl) rfl #[.int .i64 a1] rfl z5_3 ?_; (with_reducible refine (impl_unit.calls a1 t197 t198 t199 t200 _ A13.out).mono ?_); rintro e w15 ⟨rfl, hb⟩; refine ⟨_, rfl, ?_⟩; replace BK192 := bBZ_ BK192 hb; replace HB := Aside0.mk (below_step z5_2 hb); (try clear hb); obtain ⟨hcz16_0, hfz16_0, hcz17_1, hfz17_1, hcz18_2, hfz18_2, hcz19_3, hfz19_3⟩ := cAZ4_ BK192) | ((with_reducible refine gate_store (t := 70) (p := 4) rfl ?_); refine store_event (t := 70) (p := 4) (v := ?vo_w20) (w1 := ((((w15.setCell ⟨gb192, 0, none⟩ (.int .i64 t197)).setCell ⟨gb192, 1, none⟩ (.int .i64 t198)).setCell ⟨gb192, 2, none⟩ (.int .i64 t199)).setCell ⟨gb192, 3, none⟩ (.int .i64 t200))) ?hg ?ho ?hn ?hr ?_; (case ho => rfl); (case hg => rfl); (case hn => rfl); (case hr => first | (go_simp; done) | (go_simp; rfl)); intro w20 hw; have n0_ : Aside0 (w20.heap[gb192]? = some (.cells #[.int .i64 t197, .int .i64 t198, .int .i64 t199, .int .i64 t200] 70 (0, 0))) := ⟨z5_7⟩; have n1_ : Aside0 (Below w.heap.size w w20) := ⟨(by rw [hw]; exact z5_2)⟩; clear hw; clear BK192; clear HB; have BK192 := n0_; have HB := n1_; clear n0_ n1_))
   refine bodyPost_ret (results_cell_row rfl _ _ gb192 70 #[.int .i64 t197, .int .i64 t198, .int .i64 t199, .int .i64 t200] (0, 0) _ rfl (zL5 BK192.out) Try.underlying70 rfl (by kernel_rfl)) rfl ?_; exact ⟨z5_4, z5_2⟩
  ·rw [if_neg c12] at H
   have c12b0 : decide (a1 < 4) = false := decide_eq_false c12; clear c12
   by_cases c21 : a1 = 4
   ·rw [if_pos c21] at H
    have c21b0 : (a1 == 4) = true := beq_iff_eq.mpr c21
    have c21b1 : (a1 != 4) = false := bne_eq_false_iff_eq.mpr c21
    clear c21
    replace H := Option.bind_eq_some_iff.mp H
    obtain ⟨⟨t201, t202, t203, t204⟩, A220, H⟩ := H
    dsimp only at H
    have A22 := Aside0.mk A220
    clear A220
    replace H := Option.bind_eq_some_iff.mp H
    obtain ⟨⟨t205, t206, t207, t208⟩, A230, H⟩ := H
    dsimp only at H
    have A23 := Aside0.mk A230
    clear A230
    replace H := Option.bind_eq_some_iff.mp H
    obtain ⟨⟨t209, t210, t211, t212⟩, A240, H⟩ := H
    dsimp only at H
    have A24 := Aside0.mk A240
    clear A240; simp only [Option.some.injEq, Prod.mk.injEq] at H; obtain ⟨rfl, rfl, rfl, rfl⟩ := H; go_enter Try.func111, Try.ntmps111
    go_wp2_with (first | ((with_reducible refine gate_dst (N := 4) rfl ?_); refine box_event ?hg (N := 4) ?hd (cs := #[.int .i64 0, .int .i64 0, .int .i64 0, .int .i64 0]) (t := 70) ?hr ?_; (case hd => rfl); (case hg => rfl); (case hr => first | (go_simp; done) | (go_simp; rfl)); intro gb192 hg w25 hbox hb; have BK192 := Aside0.mk (hbox); have GW192 := Aside0.mk ((by rw [hg]; exact (below_size z5_1) : w.heap.size ≤ gb192)); have GE192 := Aside0.mk ((by rw [hg]; exact (below_size z5_1) : w.heap.size ≤ gb192)); replace HB := Aside0.mk (below_step z5_1 hb); clear hb hbox hg) | ((with_reducible refine gate_callee (f := 129) rfl ?_); refine goesL_ (some 18) rfl rfl Try.func129 (by kernel_rfl) rfl #[.int .i64 0] rfl z5_3 ?_; (with_reducible refine (impl_unit.calls 0 t201 t202 t203 t204 _ A22.out).mono ?_); rintro e w26 ⟨rfl, hb⟩; refine ⟨_, rfl, ?_⟩; replace BK192 := bBZ_ BK192 hb; replace HB := Aside0.mk (below_step z5_2 hb); (try clear hb)) | ((with_reducible refine gate_callee (f := 129) rfl ?_); refine goesL_ (some 19) rfl rfl Try.func129 (by kernel_rfl) rfl #[.int .i64 1] rfl z5_3 ?_; (with_reducible refine (impl_unit.calls 1 t205 t206 t207 t208 _ A23.out).mono ?_); rintro e w27 ⟨rfl, hb⟩; refine ⟨_, rfl, ?_⟩; replace BK192 := bBZ_ BK192 hb; replace HB := Aside0.mk (below_step z5_2 hb); (try clear hb)) | ((with_reducible refine gate_callee (f := 119) rfl ?_); refine goesL_ (some 20) rfl rfl Try.func119 (by kernel_rfl) rfl #[.agg #[.int .i64 t201, .int .i64 t202, .int .i64 t203, .int .i64 t204], .agg #[.int .i64 t205, .int .i64 t206, .int .i64 t207, .int .i64 t208]] rfl z5_3 ?_; (with_reducible refine (impl_vector_plus.calls t201 t202 t203 t204 t205 t206 t207 t208 t209 t210 t211 t212 _ A24.out).mono ?_); rintro e w28 ⟨rfl, hb⟩; refine ⟨_, rfl, ?_⟩; replace BK192 := bBZ_ BK192 hb; replace HB := Aside0.mk (below_step z5_2 hb); (try clear hb); obtain ⟨hcz29_0, hfz29_0, hcz30_1, hfz30_1, hcz31_2, hfz31_2, hcz32_3, hfz32_3⟩ := cAZ4_ BK192) | ((with_reducible refine gate_store (t := 70) (p := 4) rfl ?_); refine store_event (t := 70) (p := 4) (v := ?vo_w33) (w1 := ((((w28.setCell ⟨gb192, 0, none⟩ (.int .i64 t209)).setCell ⟨gb192, 1, none⟩ (.int .i64 t210)).setCell ⟨gb192, 2, none⟩ (.int .i64 t211)).setCell ⟨gb192, 3, none⟩ (.int .i64 t212))) ?hg ?ho ?hn ?hr ?_; (case ho => rfl); (case hg => rfl); (case hn => rfl); (case hr => first | (go_simp; done) | (go_simp; rfl)); intro w33 hw; have n0_ : Aside0 (w33.heap[gb192]? = some (.cells #[.int .i64 t209, .int .i64 t210, .int .i64 t211, .int .i64 t212] 70 (0, 0))) := ⟨z5_7⟩; have n1_ : Aside0 (Below w.heap.size w w33) := ⟨(by rw [hw]; exact z5_2)⟩; clear hw; clear BK192; clear HB; have BK192 := n0_; have HB := n1_; clear n0_ n1_))
    refine bodyPost_ret (results_cell_row rfl _ _ gb192 70 #[.int .i64 t209, .int .i64 t210, .int .i64 t211, .int .i64 t212] (0, 0) _ rfl (zL5 BK192.out) Try.underlying70 rfl (by kernel_rfl)) rfl ?_; exact ⟨z5_4, z5_2⟩
   ·rw [if_neg c21] at H
    have c21b0 : (a1 == 4) = false := beq_eq_false_iff_ne.mpr c21
    have c21b1 : (a1 != 4) = true := bne_iff_ne.mpr c21
    by_cases c34 : a1 = 5
    ·rw [if_pos c34] at H
     have c34b0 : (a1 == 5) = true := beq_iff_eq.mpr c34
     have c34b1 : (a1 != 5) = false := bne_eq_false_iff_eq.mpr c34
     clear c34
     replace H := Option.bind_eq_some_iff.mp H
     obtain ⟨⟨t213, t214, t215, t216⟩, A350, H⟩ := H
     dsimp only at H
     have A35 := Aside0.mk A350
     clear A350
     replace H := Option.bind_eq_some_iff.mp H
     obtain ⟨⟨t217, t218, t219, t220⟩, A360, H⟩ := H
     dsimp only at H
     have A36 := Aside0.mk A360
     clear A360
     replace H := Option.bind_eq_some_iff.mp H
     obtain ⟨⟨t221, t222, t223, t224⟩, A370, H⟩ := H
     dsimp only at H
     have A37 := Aside0.mk A370
     clear A370; simp only [Option.some.injEq, Prod.mk.injEq] at H; obtain ⟨rfl, rfl, rfl, rfl⟩ := H; go_enter Try.func111, Try.ntmps111
     go_wp2_with (first | ((with_reducible refine gate_dst (N := 4) rfl ?_); refine box_event ?hg (N := 4) ?hd (cs := #[.int .i64 0, .int .i64 0, .int .i64 0, .int .i64 0]) (t := 70) ?hr ?_; (case hd => rfl); (case hg => rfl); (case hr => first | (go_simp; done) | (go_simp; rfl)); intro gb192 hg w38 hbox hb; have BK192 := Aside0.mk (hbox); have GW192 := Aside0.mk ((by rw [hg]; exact (below_size z5_1) : w.heap.size ≤ gb192)); have GE192 := Aside0.mk ((by rw [hg]; exact (below_size z5_1) : w.heap.size ≤ gb192)); replace HB := Aside0.mk (below_step z5_1 hb); clear hb hbox hg) | ((with_reducible refine gate_callee (f := 129) rfl ?_); refine goesL_ (some 24) rfl rfl Try.func129 (by kernel_rfl) rfl #[.int .i64 2] rfl z5_3 ?_; (with_reducible refine (impl_unit.calls 2 t213 t214 t215 t216 _ A35.out).mono ?_); rintro e w39 ⟨rfl, hb⟩; refine ⟨_, rfl, ?_⟩; replace BK192 := bBZ_ BK192 hb; replace HB := Aside0.mk (below_step z5_2 hb); (try clear hb)) | ((with_reducible refine gate_callee (f := 129) rfl ?_); refine goesL_ (some 25) rfl rfl Try.func129 (by kernel_rfl) rfl #[.int .i64 3] rfl z5_3 ?_; (with_reducible refine (impl_unit.calls 3 t217 t218 t219 t220 _ A36.out).mono ?_); rintro e w40 ⟨rfl, hb⟩; refine ⟨_, rfl, ?_⟩; replace BK192 := bBZ_ BK192 hb; replace HB := Aside0.mk (below_step z5_2 hb); (try clear hb)) | ((with_reducible refine gate_callee (f := 119) rfl ?_); refine goesL_ (some 26) rfl rfl Try.func119 (by kernel_rfl) rfl #[.agg #[.int .i64 t213, .int .i64 t214, .int .i64 t215, .int .i64 t216], .agg #[.int .i64 t217, .int .i64 t218, .int .i64 t219, .int .i64 t220]] rfl z5_3 ?_; (with_reducible refine (impl_vector_plus.calls t213 t214 t215 t216 t217 t218 t219 t220 t221 t222 t223 t224 _ A37.out).mono ?_); rintro e w41 ⟨rfl, hb⟩; refine ⟨_, rfl, ?_⟩; replace BK192 := bBZ_ BK192 hb; replace HB := Aside0.mk (below_step z5_2 hb); (try clear hb); obtain ⟨hcz42_0, hfz42_0, hcz43_1, hfz43_1, hcz44_2, hfz44_2, hcz45_3, hfz45_3⟩ := cAZ4_ BK192) | ((with_reducible refine gate_store (t := 70) (p := 4) rfl ?_); refine store_event (t := 70) (p := 4) (v := ?vo_w46) (w1 := ((((w41.setCell ⟨gb192, 0, none⟩ (.int .i64 t221)).setCell ⟨gb192, 1, none⟩ (.int .i64 t222)).setCell ⟨gb192, 2, none⟩ (.int .i64 t223)).setCell ⟨gb192, 3, none⟩ (.int .i64 t224))) ?hg ?ho ?hn ?hr ?_; (case ho => rfl); (case hg => rfl); (case hn => rfl); (case hr => first | (go_simp; done) | (go_simp; rfl)); intro w46 hw; have n0_ : Aside0 (w46.heap[gb192]? = some (.cells #[.int .i64 t221, .int .i64 t222, .int .i64 t223, .int .i64 t224] 70 (0, 0))) := ⟨z5_7⟩; have n1_ : Aside0 (Below w.heap.size w w46) := ⟨(by rw [hw]; exact z5_2)⟩; clear hw; clear BK192; clear HB; have BK192 := n0_; have HB := n1_; clear n0_ n1_))
     refine bodyPost_ret (results_cell_row rfl _ _ gb192 70 #[.int .i64 t221, .int .i64 t222, .int .i64 t223, .int .i64 t224] (0, 0) _ rfl (zL5 BK192.out) Try.underlying70 rfl (by kernel_rfl)) rfl ?_; exact ⟨z5_4, z5_2⟩
    ·rw [if_neg c34] at H
     have c34b0 : (a1 == 5) = false := beq_eq_false_iff_ne.mpr c34
     have c34b1 : (a1 != 5) = true := bne_iff_ne.mpr c34
     replace H := Option.bind_eq_some_iff.mp H
     obtain ⟨⟨t225, t226, t227, t228⟩, A470, H⟩ := H
     dsimp only at H
     have A47 := Aside0.mk A470
     clear A470; simp only [Option.some.injEq, Prod.mk.injEq] at H; obtain ⟨rfl, rfl, rfl, rfl⟩ := H; go_enter Try.func111, Try.ntmps111
     go_wp2_with (first | ((with_reducible refine gate_dst (N := 4) rfl ?_); refine box_event ?hg (N := 4) ?hd (cs := #[.int .i64 0, .int .i64 0, .int .i64 0, .int .i64 0]) (t := 70) ?hr ?_; (case hd => rfl); (case hg => rfl); (case hr => first | (go_simp; done) | (go_simp; rfl)); intro gb192 hg w48 hbox hb; have BK192 := Aside0.mk (hbox); have GW192 := Aside0.mk ((by rw [hg]; exact (below_size z5_1) : w.heap.size ≤ gb192)); have GE192 := Aside0.mk ((by rw [hg]; exact (below_size z5_1) : w.heap.size ≤ gb192)); replace HB := Aside0.mk (below_step z5_1 hb); clear hb hbox hg) | ((with_reducible refine gate_callee (f := 128) rfl ?_); refine goesL_ (some 29) rfl rfl Try.func128 (by kernel_rfl) rfl #[.int .i64 (wrap64 (a1 - 4))] rfl z5_3 ?_; (with_reducible refine (impl_powers.calls (wrap64 (a1 - 4)) t225 t226 t227 t228 _ A47.out).mono ?_); rintro e w49 ⟨rfl, hb⟩; refine ⟨_, rfl, ?_⟩; replace BK192 := bBZ_ BK192 hb; replace HB := Aside0.mk (below_step z5_2 hb); (try clear hb); obtain ⟨hcz50_0, hfz50_0, hcz51_1, hfz51_1, hcz52_2, hfz52_2, hcz53_3, hfz53_3⟩ := cAZ4_ BK192) | ((with_reducible refine gate_store (t := 70) (p := 4) rfl ?_); refine store_event (t := 70) (p := 4) (v := ?vo_w54) (w1 := ((((w49.setCell ⟨gb192, 0, none⟩ (.int .i64 t225)).setCell ⟨gb192, 1, none⟩ (.int .i64 t226)).setCell ⟨gb192, 2, none⟩ (.int .i64 t227)).setCell ⟨gb192, 3, none⟩ (.int .i64 t228))) ?hg ?ho ?hn ?hr ?_; (case ho => rfl); (case hg => rfl); (case hn => rfl); (case hr => first | (go_simp; done) | (go_simp; rfl)); intro w54 hw; have n0_ : Aside0 (w54.heap[gb192]? = some (.cells #[.int .i64 t225, .int .i64 t226, .int .i64 t227, .int .i64 t228] 70 (0, 0))) := ⟨z5_7⟩; have n1_ : Aside0 (Below w.heap.size w w54) := ⟨(by rw [hw]; exact z5_2)⟩; clear hw; clear BK192; clear HB; have BK192 := n0_; have HB := n1_; clear n0_ n1_))
     refine bodyPost_ret (results_cell_row rfl _ _ gb192 70 #[.int .i64 t225, .int .i64 t226, .int .i64 t227, .int .i64 t228] (0, 0) _ rfl (zL5 BK192.out) Try.underlying70 rfl (by kernel_rfl)) rfl ?_; exact ⟨z5_4, z5_2⟩

/-! ### impl_rowsOf: function 108 -/
def impl_rowsOf.l0 : Nat → Int → List (S70) → List Int → Int → Int → Option ((List (S70)))
  | 0, _, _, _, _, _ => none
  | k + 1, x0, x5, x11, x12, x13 => if x13 < x12 then (if 0 ≤ x13 then (if x13 < (x11.length : Int) then ((impl_rowOf.f x0 (rd x11 x13)).bind fun bt233 => (if x5.length < 4398046511104 then (impl_rowsOf.l0 k x0 (x5 ++ [(⟨bt233.1, bt233.2.1, bt233.2.2.1, bt233.2.2.2⟩ : S70)]) x11 x12 (wrap64 (x13 + 1))) else (none))) else (none)) else (none)) else (some x5)
def impl_rowsOf.f (k : Nat) (a0 : Int) (l1 : List Int) : Option ((List (S70))) := if 0 ≤ (l1.length : Int) then (if ((l1.length : Int) : Int).toNat ≤ 8796093022208 then (impl_rowsOf.l0 k a0 (([] : List (S70))) l1 (l1.length : Int) 0) else (none)) else (none)
set_option maxHeartbeats 8000000 in
set_option maxRecDepth 100000 in
theorem impl_rowsOf.calls (k : Nat) (a0 : Int) (A1 : Option Addr) (c1 : Nat) (l1 : List Int) (r : List (S70)) (w : World) (hr1 : Kd.C (Kd.int .i64) w A1 l1.length l1) (hc1 : l1.length ≤ c1) (h : impl_rowsOf.f k a0 l1 = some r) :
  Calls Try.prog 108 #[.int .i64 a0, .slice A1 l1.length c1] w fun e w' => ∃ v0_ : Value, e = .returned (v0_) ∧ Kd.R k70 70 w' w.heap.size (fun _ => True) v0_ r ∧ Below w.heap.size w w' := by
 have HR1 := Aside0.mk hr1
 have HC1 := Aside0.mk hc1
 clear hr1 hc1
 have HB := Aside0.mk (Below.refl w.heap.size w)
 unfold impl_rowsOf.f at h
 have H := h
 clear h
 obtain ⟨c3, H⟩ := ifP H
 have c3b0 := eq_true c3
 have c3b1 : decide (0 ≤ (l1.length : Int)) = true := decide_eq_true c3
 clear c3
 obtain ⟨c4, H⟩ := ifP H
 have c4b0 := eq_true c4
 have c4b1 : decide (((l1.length : Int) : Int).toNat ≤ 8796093022208) = true := decide_eq_true c4
 clear c4
 obtain ⟨y229, hy229⟩ : ∃ y_ : List (S70), y_ = (([] : List (S70))) := ⟨_, rfl⟩
 replace H : (impl_rowsOf.l0 k a0 y229 l1 (l1.length : Int) 0) = some r := yZZ_ hy229 H
 have Ny229 := Aside0.mk hy229
 clear hy229
 have H' := Aside0.mk H
 clear H
 go_enter Try.func108, Try.ntmps108
 go_wp2_with (first | ((with_reducible refine gate_dst (N := 10) rfl ?_); refine R_make0 k70 _ 70 rfl (N := 10) rfl 64 _ _ rfl (l1.length : Int) rfl rfl Try.underlying64 (.agg #[(.int .i64 0), (.int .i64 0), (.int .i64 0), (.int .i64 0)]) 32 info70 (by decide) (ok := fun _ => True) (okp := fun _ => True) (fun _ hk => hk) trivial (of_decide_eq_true z5_6) (Nat.le_trans (Nat.mul_le_mul_right _ (of_decide_eq_true z5_6 : (l1.length : Int).toNat ≤ 8796093022208)) (by omega)) (Below.refl _ _) (Nat.le_refl _) ?_; intro v230 w5 ho6 hb hg_ hnew_; clear hg_ hnew_; (first | rw [← Ny229.out] at ho6 | (simp only [Int.reduceToNat] at ho6; rw [← Ny229.out] at ho6)); have HO231 := Aside0.mk (Kd.R_lower ho6 (below_size z5_1)); replace HB := Aside0.mk (below_step z5_1 hb); clear hb ho6))
 go_loopg [5, 13] k (fun kq v5 v13 w' => ∃ (x5_1 : List (S70)) (x13_1 : Int), v13 = .int .i64 x13_1 ∧ Aside0 (impl_rowsOf.l0 kq a0 x5_1 l1 (l1.length : Int) x13_1 = some r) ∧ Aside0 (kq ≤ k) ∧ Aside0 (Kd.R k70 70 w' w.heap.size (fun _ => True) v5 x5_1) ∧ Aside0 (Below w.heap.size w w'))
 case atStart => exact ⟨(y229), (0), (by first | rfl | (simp; done) | (simp [*]; done)), H', ⟨Nat.le_refl _⟩, ⟨by (with_reducible repeat (first | apply Kd.R_alloc | apply Kd.R_drewN | apply Kd.R_drew)); exact HO231.out⟩, ⟨z5_1⟩⟩
 case round =>
  clear H'
  try clear c1
  try clear c3
  try clear c3b0
  try clear c3b1
  try clear c4
  try clear c4b0
  try clear c4b1
  obtain ⟨x5_1, x13_1, rfl, HA, HK1, HO_5, HB⟩ := hrel
  cases gk with
  | zero => exact absurd HA.out (by simp [impl_rowsOf.l0])
  | succ k1 =>
   have H := HA.out
   clear HA; simp only [impl_rowsOf.l0] at H
   by_cases c7 : x13_1 < (l1.length : Int)
   ·rw [if_pos c7] at H
    have c7b0 : decide (x13_1 < (l1.length : Int)) = true := decide_eq_true c7; clear c7; obtain ⟨c8, H⟩ := ifP H; have c8b0 : decide (0 ≤ x13_1) = true := decide_eq_true c8; clear c8; obtain ⟨c9, H⟩ := ifP H; have c9b0 : decide (x13_1 < (l1.length : Int)) = true := decide_eq_true c9; clear c9
    replace H := Option.bind_eq_some_iff.mp H
    obtain ⟨⟨t233, t234, t235, t236⟩, A100, H⟩ := H
    dsimp only at H
    have A10 := Aside0.mk A100
    clear A100; obtain ⟨c11, H⟩ := ifP H
    have LMc11 := Aside0.mk c11
    clear c11
    obtain ⟨y237, hy237⟩ : ∃ y_ : List (S70), y_ = (x5_1 ++ [(⟨t233, t234, t235, t236⟩ : S70)]) := ⟨_, rfl⟩
    replace H : (impl_rowsOf.l0 k1 a0 y237 l1 (l1.length : Int) (wrap64 (x13_1 + 1))) = some r := yZZ_ hy237 H
    have Ny237 := Aside0.mk hy237
    clear hy237
    have H' := Aside0.mk H
    clear H; have p232 : 0 ≤ (x13_1 : Int) := of_decide_eq_true z5_6; have q232 : x13_1 < (l1.length : Int) := of_decide_eq_true z5_6; obtain ⟨ad232, e232, hx232_0⟩ := Kd.at_int HR1.out x13_1 p232 q232; cases e232
    replace hx232_0 := (HB.out.cell (World.block_lt_of_cell? w _ hx232_0)).trans hx232_0
    replace p232 := eq_true p232
    replace q232 := eq_true q232
    go_wp2_with (first | ((with_reducible refine gate_callee (f := 111) rfl ?_); refine goesL_ (some 20) rfl rfl Try.func111 (by kernel_rfl) rfl #[.int .i64 a0, .int .i64 (rd l1 x13_1)] rfl z5_3 ?_; (with_reducible refine (impl_rowOf.calls a0 (rd l1 x13_1) t233 t234 t235 t236 _ A10.out).mono ?_); rintro e w12 ⟨rfl, hb⟩; refine ⟨_, rfl, ?_⟩; replace HO_5 := Aside0.mk (Kd.R_below z5_5 hb); replace HB := Aside0.mk (below_step z5_1 hb); (try clear hb)) | ((with_reducible refine gate_builtin (b := .append) (xs := #[.tmp 17, .tmp 21]) rfl ?_); at_builtin; refine Kd.R_append k70 (w0 := w) w.heap.size rfl (.tmp 17) (.tmp 21) 64 70 (.agg #[(.int .i64 0), (.int .i64 0), (.int .i64 0), (.int .i64 0)]) 32 rfl Try.underlying64 info70 rfl (by decide) (by omega) u5 x5_1 (⟨t233, t234, t235, t236⟩ : S70) [.int .i64 t233, .int .i64 t234, .int .i64 t235, .int .i64 t236] (fun _ => True) (fun _ => False) rfl rfl ?aP (fun _ hk => hk.elim) ?aF ?aO ?aB ?aS ?aL ?_; (case aP => exact k70_mkM _ _ _ (⟨t233, t234, t235, t236⟩ : S70)); (case aB => exact z5_1); (case aF => exact (fun _ _ => trivial)); (case aO => exact z5_5); (case aS => exact (below_size z5_1)); (case aL => have := LMc11.out; omega); intro v238 w13 ho hb hg hat; rw [← Ny237.out] at ho; have n0_ := Aside0.mk (hb); have n1_ := Aside0.mk (ho); clear HB; clear HO_5; have HB := n0_; have HO239 := n1_; clear n0_ n1_; clear ho hb hg hat))
    go_roundg k1
    case measure => have := HK1.out; omega
    case rel => exact ⟨(y237), (wrap64 (x13_1 + 1)), (by first | rfl | (simp; done) | (simp [*]; done)), H', ⟨by have := HK1.out; omega⟩, ⟨by (with_reducible repeat (first | apply Kd.R_alloc | apply Kd.R_drewN | apply Kd.R_drew)); exact HO239.out⟩, ⟨z5_1⟩⟩
   ·rw [if_neg c7] at H
    have c7b0 : decide (x13_1 < (l1.length : Int)) = false := decide_eq_false c7; clear c7
    obtain rfl := Option.some.inj H
    go_wp2
    go_ret; exact ⟨_, z5_4, z5_5, z5_1⟩

end Go.Proofs.Ytamaejafddmagaa.PA
