-- Written by a program of this session (after the manner of the kit's print, several laws in one text).
import Derived.Test.YtbhmgbeebhmfkaaHy
import Derived.Test.YtbhmgbeebhmfkaaPAx0
import Derived.Test.YtbhmgbeebhmfkaaPAx2
import Derived.Test.YtbhmgbeebhmfkaaPAx5
import Derived.Test.YtbhmgbeebhmfkaaPAx12
import Derived.Test.YtbhmgbeebhmfkaaGw
import Derived.Test.YtbhmgbeebhmfkaaGm
namespace Go.Proofs.Ytbhmgbeebhmfkaa.PA
open Go.RowKit Go.Proofs.YtbhmgbeebhmfkaaW.PrintWords Go.Proofs.YtbhmgbeebhmfkaaW.PrintLast Go.Proofs.YtbhmgbeebhmfkaaW.PrintMore
attribute [local go_sem] max2_int min2_int max_two min_two max_three min_three max_four min_four   -- for this text's walks alone
set_option linter.unusedVariables false
set_option linter.unusedSimpArgs false

/-! ### impl_SpanBy: function 30 -/
theorem zL13 {p q : Prop} (h : q) (t : q → p := by intro h_; (with_reducible repeat first|refine blk_drewN ?_ _|refine blk_drew ?_|refine blk_alloc ?_ _); exact h_) : p := t h
theorem z13_1 {p : Prop} (h : p := by repeat (first | (with_reducible first | exact HB.out | apply below_alloc | apply pw_below_drewN | apply below_drew1 | refine below_set ?_ GE399.out | refine below_set ?_ GE406.out | refine below_set ?_ GE416.out) | exact HB.out)) : p := h
theorem z13_2 {p : Prop} (h : p := by repeat (first | (with_reducible first | exact HB.out | apply below_alloc | apply pw_below_drewN | apply below_drew1 | refine below_set ?_ GE399.out) | exact HB.out)) : p := h
theorem z13_3 {p : Prop} (h : p := by repeat (first | (with_reducible first | exact HB.out | apply below_alloc | apply pw_below_drewN | apply below_drew1 | refine below_set ?_ GE399.out | refine below_set ?_ GE406.out) | exact HB.out)) : p := h
theorem z13_4 {p : Prop} (h : p := by (with_reducible repeat (first | apply Kd.R_alloc | apply Kd.R_drewN | apply Kd.R_drew)); exact HO402.out) : p := h
theorem z13_5 {p : Prop} (h : p := by (with_reducible repeat (first | apply Kd.R_alloc | apply Kd.R_drewN | apply Kd.R_drew)); exact HO405.out) : p := h
theorem z13_6 {p : Prop} (h : p := by (with_reducible repeat (first | apply Kd.R_alloc | apply Kd.R_drewN | apply Kd.R_drew)); exact HO_6.out) : p := h
theorem z13_7 {p : Prop} (h : p := by repeat (first | (with_reducible first | exact HB.out | apply below_alloc | apply pw_below_drewN | apply below_drew1 | refine below_set ?_ GE399.out | refine below_set ?_ GE416.out) | exact HB.out)) : p := h
theorem z13_8 {p : Prop} (h : p := by (with_reducible repeat (first | apply Kd.R_alloc | apply Kd.R_drewN | apply Kd.R_drew)); exact ae.out) : p := h
theorem z13_9 {p : Prop} (h : p := by (with_reducible repeat (first | apply Kd.R_alloc | apply Kd.R_drewN | apply Kd.R_drew)); exact HO_12.out) : p := h
theorem z13_10 {p : Prop} (h : p := by (try simp only [List.map_toArray, List.map_cons, List.map_nil]); first | done | rfl | (simp only [List.length_drop, List.length_take]; rfl)) : p := h
theorem z13_11 {p : Prop} (h : p := by (with_reducible repeat (first | apply Kd.R_alloc | apply Kd.R_drewN | apply Kd.R_drew)); exact Kd.R_mono af.out (fun _ hk => ⟨trivial, hk⟩)) : p := h
theorem z13_12 {p : Prop} (h : p := by (with_reducible repeat (first | apply Kd.R_alloc | apply Kd.R_drewN | apply Kd.R_drew)); exact Kd.R_mono af.out (fun _ hk => hk.2)) : p := h
theorem z13_13 {p : Prop} (h : p := by (with_reducible repeat (first | apply Kd.R_alloc | apply Kd.R_drewN | apply Kd.R_drew)); exact af.out) : p := h
theorem z13_14 {p : Prop} (h : p := by (with_reducible repeat (first | apply Kd.R_alloc | apply Kd.R_drewN | apply Kd.R_drew)); exact (Kd.R_mono (Kd.R_far (p := ⟨gb416, 7, none⟩) (Kd.R_far (p := ⟨gb416, 6, none⟩) (Kd.R_far (p := ⟨gb416, 5, none⟩) (Kd.R_far (p := ⟨gb416, 4, none⟩) (Kd.R_far (p := ⟨gb416, 3, none⟩) (Kd.R_far (p := ⟨gb416, 2, none⟩) (Kd.R_far (p := ⟨gb416, 1, none⟩) (Kd.R_far (p := ⟨gb416, 0, none⟩) (Kd.R_types HO405.out BK416.out (by decide)) (fun _ hk => hk.2) (.int .i64 t407)) (fun _ hk => hk.2) (.int .i64 t408)) (fun _ hk => hk.2) (.int .i64 t409)) (fun _ hk => hk.2) (.int .i64 t410)) (fun _ hk => hk.2) (.int .i64 t411)) (fun _ hk => hk.2) (.int .i64 t412)) (fun _ hk => hk.2) (.int .i64 t413)) (fun _ hk => hk.2) (.int .i64 t414)) (fun _ h_ => h_.1))) : p := h
theorem z13_15 {p : Prop} (h : p := by repeat (first | (with_reducible first | exact HB.out | apply below_alloc | apply pw_below_drewN | apply below_drew1 | refine below_set ?_ GE399.out | refine below_set ?_ GE416.out | refine below_set ?_ GE406.out) | exact HB.out)) : p := h
theorem z13_16 {p : Prop} (h : p := by repeat (first | (with_reducible first | exact HB.out | apply below_alloc | apply pw_below_drewN | apply below_drew1) | exact HB.out)) : p := h
theorem z13_17 {p : Prop} (h : p := by first | rfl | (simp; done) | (simp [*]; done) | (simp; unfold wrap64; omega)) : p := h
theorem z13_18 {p : Prop} (h : p := by simp only [putAll, Act.put, List.setIfInBounds_toArray, List.set_cons_zero, List.set_cons_succ]) : p := h
theorem z13_19 {p : Prop} (h : p := by (with_reducible repeat (first | apply Kd.R_alloc | apply Kd.R_drewN | apply Kd.R_drew)); exact HO393.out) : p := h
theorem z13_20 {p : Prop} (h : p := by have := HJ4.out; have := HK2.out; omega) : p := h
theorem z13_21 {p : Prop} (h : p := by first | rfl | (simp [errW_none, errW_some] <;> rfl) | (simp [*, errW_none, errW_some] <;> rfl)) : p := h
theorem z13_22 {p : Prop} (h : p := by first | exact Kd.R_nil _ _ _ _ _ | exact Kd.N_nil _ _ _ _ _ | exact Kd.V_nil _ _ _ _ _ | exact Kd.Q_nil _ _ _ _ _ | exact Kd.S_nil _ _ _ _ _) : p := h
mutual
def impl_SpanBy.j0 : Nat → List (List Int) → List (S59) → Bool → Int → Int → Int → Int → Option (List Int × Bool)
  | 0, _, _, _, _, _, _, _ => none
  | k + 1, x0, x6, x29, x400000, x400001, x400002, x400003 => if x29 = true then (some (([] : List Int), false)) else ((impl_spanOf.f k x6).bind fun bt400 => ((impl_span_by.f k bt400.1 bt400.2 x400000 x400001 x400002 x400003).bind fun bt407 => (if bt407.2.2.2.2.2.2.2.2 = true then (if 0 ≤ (x0.length : Int) then (if ((x0.length : Int) : Int).toNat ≤ 35184372088832 then (impl_SpanBy.l0 k (([] : List Int)) (x0.length : Int) 0 bt407.1 bt407.2.1 bt407.2.2.1 bt407.2.2.2.1 bt407.2.2.2.2.1 bt407.2.2.2.2.2.1 bt407.2.2.2.2.2.2.1 bt407.2.2.2.2.2.2.2.1) else (none)) else (none)) else (some (([] : List Int), false)))))
def impl_SpanBy.l0 : Nat → List Int → Int → Int → Int → Int → Int → Int → Int → Int → Int → Int → Option (List Int × Bool)
  | 0, _, _, _, _, _, _, _, _, _, _, _ => none
  | k + 1, x12, x43, x44, x417000, x417001, x417002, x417003, x417004, x417005, x417006, x417007 => if x44 < x43 then (if x44 = 0 then (if x12.length < 17592186044416 then (impl_SpanBy.l0 k (x12 ++ [x417000]) x43 (wrap64 (x44 + 1)) x417000 x417001 x417002 x417003 x417004 x417005 x417006 x417007) else (none)) else (if x44 = 1 then (if x12.length < 17592186044416 then (impl_SpanBy.l0 k (x12 ++ [x417001]) x43 (wrap64 (x44 + 1)) x417000 x417001 x417002 x417003 x417004 x417005 x417006 x417007) else (none)) else (if x44 = 2 then (if x12.length < 17592186044416 then (impl_SpanBy.l0 k (x12 ++ [x417002]) x43 (wrap64 (x44 + 1)) x417000 x417001 x417002 x417003 x417004 x417005 x417006 x417007) else (none)) else (if x44 = 3 then (if x12.length < 17592186044416 then (impl_SpanBy.l0 k (x12 ++ [x417003]) x43 (wrap64 (x44 + 1)) x417000 x417001 x417002 x417003 x417004 x417005 x417006 x417007) else (none)) else (if x44 = 4 then (if x12.length < 17592186044416 then (impl_SpanBy.l0 k (x12 ++ [x417004]) x43 (wrap64 (x44 + 1)) x417000 x417001 x417002 x417003 x417004 x417005 x417006 x417007) else (none)) else (if x44 = 5 then (if x12.length < 17592186044416 then (impl_SpanBy.l0 k (x12 ++ [x417005]) x43 (wrap64 (x44 + 1)) x417000 x417001 x417002 x417003 x417004 x417005 x417006 x417007) else (none)) else (if x44 = 6 then (if x12.length < 17592186044416 then (impl_SpanBy.l0 k (x12 ++ [x417006]) x43 (wrap64 (x44 + 1)) x417000 x417001 x417002 x417003 x417004 x417005 x417006 x417007) else (none)) else (if x44 = 7 then (if x12.length < 17592186044416 then (impl_SpanBy.l0 k (x12 ++ [x417007]) x43 (wrap64 (x44 + 1)) x417000 x417001 x417002 x417003 x417004 x417005 x417006 x417007) else (none)) else (none))))))))) else (some (x12, true))
end
def impl_SpanBy.f (k : Nat) (l0 : List (List Int)) (l1 : List Int) : Option (List Int × Bool) := (impl_matrixOf.f k l0).bind fun bt390 => ((impl_vectorOf.f l1).bind fun bt394 => (if bt390.2 = true then (impl_SpanBy.j0 k l0 bt390.1 (!bt394.2.2.2.2) bt394.1 bt394.2.1 bt394.2.2.1 bt394.2.2.2.1) else (impl_SpanBy.j0 k l0 bt390.1 true bt394.1 bt394.2.1 bt394.2.2.1 bt394.2.2.2.1)))
def impl_SpanBy.T5 : Bool × List (List Nat × List Nat) := (true, [([], []), ([0], [0]), ([], []), ([1, 2, 1], [1, 2]), ([3], [3]), ([4], [4]), ([4], [4]), ([], []), ([7, 5, 3, 0, 1, 2, 3, 4, 5, 7], [5, 7]), ([6, 8, 0, 1, 2, 3, 4, 5, 6, 7, 8], [6])])
def impl_SpanBy.B5 : List Nat := [0, 1, 0, 7, 15, 31, 31, 0, 191, 511]
theorem impl_SpanBy.tab5 : rtab .any (opsOf Try.f30 5) = impl_SpanBy.T5 := by kernel_rfl
theorem impl_SpanBy.bits5 : waitsOk impl_SpanBy.T5.2 impl_SpanBy.B5 = true := by kernel_rfl
theorem bA13 {W : World} {g : Nat} {cs : Array Value} {ty : TypeId} {j : Nat} {v : Value} (h : Aside0 (W.heap[g]? = some (.cells cs ty (0, 0)))) (e : cs[j]? = some v) : W.cell? ⟨g, j, none⟩ = some v := (blk_cell h.out j).trans e
set_option maxHeartbeats 8000000 in
set_option maxRecDepth 100000 in
theorem impl_SpanBy.calls (k : Nat) (A0 : Option Addr) (c0 : Nat) (l0 : List (List Int)) (A1 : Option Addr) (c1 : Nat) (l1 : List Int) (r1 : List Int) (r2 : Bool) (w : World) (hr0 : Kd.C (Kd.slice 3 (Kd.int .i64)) w A0 l0.length l0) (hc0 : l0.length ≤ c0) (hr1 : Kd.C (Kd.int .i64) w A1 l1.length l1) (hc1 : l1.length ≤ c1) (h : impl_SpanBy.f k l0 l1 = some (r1, r2)) :
  Calls Try.prog 30 #[.slice A0 l0.length c0, .slice A1 l1.length c1] w fun e w' => ∃ v0_ : Value, e = .returned (.tuple #[v0_, .bool r2]) ∧ Kd.R (Kd.int .i64) 3 w' w.heap.size (fun _ => True) v0_ r1 ∧ Below w.heap.size w w' := by
 have hu59 := Try.underlying59
 have hu62 := Try.underlying62
 have HR0 := Aside0.mk hr0
 have HC0 := Aside0.mk hc0
 clear hr0 hc0
 have HR1 := Aside0.mk hr1
 have HC1 := Aside0.mk hc1
 clear hr1 hc1
 have HB := Aside0.mk (Below.refl w.heap.size w)
 have H : ((impl_matrixOf.f k l0).bind fun bt390 => ((impl_vectorOf.f l1).bind fun bt394 => (if bt390.2 = true then (impl_SpanBy.j0 k l0 bt390.1 (!bt394.2.2.2.2) bt394.1 bt394.2.1 bt394.2.2.1 bt394.2.2.2.1) else (impl_SpanBy.j0 k l0 bt390.1 true bt394.1 bt394.2.1 bt394.2.2.1 bt394.2.2.2.1)))) = some (r1, r2) := h
 clear h
 replace H := Option.bind_eq_some_iff.mp H
 obtain ⟨⟨t390, t391⟩, A30, H⟩ := H
 replace H : ((impl_vectorOf.f l1).bind fun bt394 => (if t391 = true then (impl_SpanBy.j0 k l0 t390 (!bt394.2.2.2.2) bt394.1 bt394.2.1 bt394.2.2.1 bt394.2.2.2.1) else (impl_SpanBy.j0 k l0 t390 true bt394.1 bt394.2.1 bt394.2.2.1 bt394.2.2.2.1))) = some (r1, r2) := H
 have A3 := Aside0.mk A30
 clear A30
 replace H := Option.bind_eq_some_iff.mp H
 obtain ⟨⟨t394, t395, t396, t397, t398⟩, A40, H⟩ := H
 replace H : (if t391 = true then (impl_SpanBy.j0 k l0 t390 (!t398) t394 t395 t396 t397) else (impl_SpanBy.j0 k l0 t390 true t394 t395 t396 t397)) = some (r1, r2) := H
 have A4 := Aside0.mk A40
 clear A40
 have HC5 := Aside0.mk H
 clear H
 go_enter Try.func30, Try.ntmps30
 go_upto_region 3 with (first | ((with_reducible refine gate_callee (f := 49) rfl ?_); refine goesL_ (some 16) rfl rfl Try.func49 (by kernel_rfl) rfl #[.slice A0 l0.length c0] rfl z13_10 ?_; (with_reducible refine (impl_matrixOf.calls k _ _ l0 t390 t391 _ ?side1 ?side2 A3.out).mono ?_); (case side1 => exact cZ (HR0.out)); (case side2 => exact HC0.out); rintro e w6 ⟨v392, rfl, ho0, hb⟩; refine ⟨_, rfl, ?_⟩; have HO393 := Aside0.mk (Kd.R_lower ho0 (below_size z13_16)); replace HB := Aside0.mk (below_step z13_16 hb); (try clear hb); (try clear ho0)) | ((with_reducible refine gate_callee (f := 56) rfl ?_); refine goesL_ (some 21) rfl rfl Try.func56 (by kernel_rfl) rfl #[.slice A1 l1.length c1] rfl z13_10 ?_; (with_reducible refine (impl_vectorOf.calls _ _ l1 t394 t395 t396 t397 t398 _ ?side1 ?side2 A4.out).mono ?_); (case side1 => exact cZ ((Kd.C_below HR1.out HB.out))); (case side2 => exact HC1.out); rintro e w7 ⟨rfl, hb⟩; refine ⟨_, rfl, ?_⟩; replace HO393 := Aside0.mk (Kd.R_below z13_19 hb); replace HB := Aside0.mk (below_step z13_16 hb); (try clear hb)) | ((with_reducible refine gate_dst (N := 8) rfl ?_); refine box_event ?hg (N := 8) ?hd (cs := #[.int .i64 0, .int .i64 0, .int .i64 0, .int .i64 0]) (t := 59) ?hr ?_; (case hd => rfl); (case hg => rfl); (case hr => first | (go_simp; done) | (go_simp; rfl)); intro gb399 hg w8 hbox hb; replace HO393 := Aside0.mk (Kd.R_below (Kd.R_elderB z13_19 gb399 (Nat.le_of_eq hg.symm)) hb); have BK399 := Aside0.mk (hbox); have GW399 := Aside0.mk ((by rw [hg]; exact (below_size z13_16) : w.heap.size ≤ gb399)); have GE399 := Aside0.mk ((by rw [hg]; exact (below_size z13_16) : w.heap.size ≤ gb399)); replace HB := Aside0.mk (below_step z13_16 hb); clear hb hbox hg; have hcz9_0 : w8.cell? ⟨gb399, 0, none⟩ = some (.int .i64 0) := bA13 BK399 rfl; have hfz9_0 := blk_frozen BK399.out 0; have hcz10_1 : w8.cell? ⟨gb399, 1, none⟩ = some (.int .i64 0) := bA13 BK399 rfl; have hfz10_1 := blk_frozen BK399.out 1; have hcz11_2 : w8.cell? ⟨gb399, 2, none⟩ = some (.int .i64 0) := bA13 BK399 rfl; have hfz11_2 := blk_frozen BK399.out 2; have hcz12_3 : w8.cell? ⟨gb399, 3, none⟩ = some (.int .i64 0) := bA13 BK399 rfl; have hfz12_3 := blk_frozen BK399.out 3) | ((with_reducible refine gate_store (t := 59) (p := 8) rfl ?_); refine store_event (t := 59) (p := 8) (v := ?vo_w13) (w1 := ((((w8.setCell ⟨gb399, 0, none⟩ (.int .i64 t394)).setCell ⟨gb399, 1, none⟩ (.int .i64 t395)).setCell ⟨gb399, 2, none⟩ (.int .i64 t396)).setCell ⟨gb399, 3, none⟩ (.int .i64 t397))) ?hg ?ho ?hn ?hr ?_; (case ho => rfl); (case hg => rfl); (case hn => rfl); (case hr => first | (go_simp; done) | (go_simp; rfl)); intro w13 hw; have n0_ : Aside0 (Kd.R k59 59 w13 w.heap.size (fun k_ => k_ ≠ gb399) v392 t390) := ⟨(by rw [hw]; exact (by (with_reducible repeat (first | apply Kd.R_alloc | apply Kd.R_drewN | apply Kd.R_drew)); exact Kd.R_mono (Kd.R_far (p := ⟨gb399, 3, none⟩) (Kd.R_far (p := ⟨gb399, 2, none⟩) (Kd.R_far (p := ⟨gb399, 1, none⟩) (Kd.R_far (p := ⟨gb399, 0, none⟩) (Kd.R_mono HO393.out (fun k_ hk => (⟨hk, hk.2⟩ : _ ∧ k_ ≠ gb399))) (fun _ hk => hk.2) (.int .i64 t394)) (fun _ hk => hk.2) (.int .i64 t395)) (fun _ hk => hk.2) (.int .i64 t396)) (fun _ hk => hk.2) (.int .i64 t397)) (fun _ hk => hk.1.2)))⟩; have n1_ : Aside0 (w13.heap[gb399]? = some (.cells #[.int .i64 t394, .int .i64 t395, .int .i64 t396, .int .i64 t397] 59 (0, 0))) := ⟨(by rw [hw]; exact (bZ BK399.out))⟩; have n2_ : Aside0 (Below w.heap.size w w13) := ⟨(by rw [hw]; exact z13_2)⟩; clear hw; clear HO393; clear BK399; clear HB; have HO393 := n0_; have BK399 := n1_; have HB := n2_; clear n0_ n1_ n2_))
 (try simp only [Act.put, List.setIfInBounds_toArray, List.set_cons_zero, List.set_cons_succ])
 go_cut [29] (fun v29 wc => ∃ (kq : Nat) (x29_4 : Bool), v29 = .bool x29_4 ∧ Aside0 (impl_SpanBy.j0 kq l0 t390 x29_4 t394 t395 t396 t397 = some (r1, r2)) ∧ Aside0 (kq ≤ k) ∧ Aside0 (Kd.R k59 59 wc w.heap.size (fun k_ => k_ ≠ gb399) v392 t390) ∧ Aside0 (wc.heap[gb399]? = some (.cells #[.int .i64 t394, .int .i64 t395, .int .i64 t396, .int .i64 t397] 59 (0, 0))) ∧ Aside0 (Below w.heap.size w wc))
 case first =>
  have H := HC5.out
  clear HC5
  by_cases c14 : t391 = true
  ·subst c14
   have H1 : (impl_SpanBy.j0 k l0 t390 (!t398) t394 t395 t396 t397) = some (r1, r2) := by rw [if_pos rfl] at H; exact H
   clear H
   have H := H1
   clear H1
   have H' := Aside0.mk H
   clear H
   go_wp2
   go_meet
   case rel => exact ⟨_, (!t398), (by first | rfl | (simp; done) | (simp [*]; done)), H', ⟨by first | omega | exact Nat.le_refl _⟩, ⟨z13_19⟩, ⟨zL13 BK399.out⟩, ⟨z13_2⟩⟩
  ·replace c14 := Bool.eq_false_iff.mpr c14
   subst c14
   have H1 : (impl_SpanBy.j0 k l0 t390 true t394 t395 t396 t397) = some (r1, r2) := by rw [if_neg (show ¬ (false = true) by decide)] at H; exact H
   clear H
   have H := H1
   clear H1
   have H' := Aside0.mk H
   clear H
   go_wp2
   go_meet
   case rel => exact ⟨_, (true), (by first | rfl | (simp; done) | (simp [*]; done)), H', ⟨by first | omega | exact Nat.le_refl _⟩, ⟨z13_19⟩, ⟨zL13 BK399.out⟩, ⟨z13_2⟩⟩
 case rest =>
  clear HC5
  try clear c1
  try clear hcz10_1
  try clear hcz11_2
  try clear hcz12_3
  try clear hcz9_0
  try clear hfz10_1
  try clear hfz11_2
  try clear hfz12_3
  try clear hfz9_0
  obtain ⟨kq, x29_4, rfl, HA, HJ4, HO_6, BK399, HB⟩ := hcut
  cases kq with
  | zero => exact absurd HA.out (by simp [impl_SpanBy.j0])
  | succ kj4 =>
   have H := HA.out
   clear HA
   simp only [impl_SpanBy.j0] at H
   by_cases c15 : x29_4 = true
   ·subst c15
    have H1 : (some (([] : List Int), false)) = some (r1, r2) := by rw [if_pos rfl] at H; exact H
    clear H
    have H := H1
    clear H1
    simp only [Option.some.injEq, Prod.mk.injEq] at H
    obtain ⟨rfl, rfl⟩ := H
    go_wp2
    go_ret2
    exact ⟨_, z13_21, z13_22, z13_2⟩
   ·replace c15 := Bool.eq_false_iff.mpr c15
    subst c15
    have H1 : ((impl_spanOf.f kj4 t390).bind fun bt400 => ((impl_span_by.f kj4 bt400.1 bt400.2 t394 t395 t396 t397).bind fun bt407 => (if bt407.2.2.2.2.2.2.2.2 = true then (if 0 ≤ (l0.length : Int) then (if ((l0.length : Int) : Int).toNat ≤ 35184372088832 then (impl_SpanBy.l0 kj4 (([] : List Int)) (l0.length : Int) 0 bt407.1 bt407.2.1 bt407.2.2.1 bt407.2.2.2.1 bt407.2.2.2.2.1 bt407.2.2.2.2.2.1 bt407.2.2.2.2.2.2.1 bt407.2.2.2.2.2.2.2.1) else (none)) else (none)) else (some (([] : List Int), false))))) = some (r1, r2) := by rw [if_neg (show ¬ (false = true) by decide)] at H; exact H
    clear H
    have H := H1
    clear H1
    replace H := Option.bind_eq_some_iff.mp H
    obtain ⟨⟨t400, t403⟩, A160, H⟩ := H
    replace H : ((impl_span_by.f kj4 t400 t403 t394 t395 t396 t397).bind fun bt407 => (if bt407.2.2.2.2.2.2.2.2 = true then (if 0 ≤ (l0.length : Int) then (if ((l0.length : Int) : Int).toNat ≤ 35184372088832 then (impl_SpanBy.l0 kj4 (([] : List Int)) (l0.length : Int) 0 bt407.1 bt407.2.1 bt407.2.2.1 bt407.2.2.2.1 bt407.2.2.2.2.1 bt407.2.2.2.2.2.1 bt407.2.2.2.2.2.2.1 bt407.2.2.2.2.2.2.2.1) else (none)) else (none)) else (some (([] : List Int), false)))) = some (r1, r2) := H
    have A16 := Aside0.mk A160
    clear A160
    replace H := Option.bind_eq_some_iff.mp H
    obtain ⟨⟨t407, t408, t409, t410, t411, t412, t413, t414, t415⟩, A170, H⟩ := H
    replace H : (if t415 = true then (if 0 ≤ (l0.length : Int) then (if ((l0.length : Int) : Int).toNat ≤ 35184372088832 then (impl_SpanBy.l0 kj4 (([] : List Int)) (l0.length : Int) 0 t407 t408 t409 t410 t411 t412 t413 t414) else (none)) else (none)) else (some (([] : List Int), false))) = some (r1, r2) := H
    have A17 := Aside0.mk A170
    clear A170
    by_cases c18 : t415 = true
    ·subst c18
     have H1 : (if 0 ≤ (l0.length : Int) then (if ((l0.length : Int) : Int).toNat ≤ 35184372088832 then (impl_SpanBy.l0 kj4 (([] : List Int)) (l0.length : Int) 0 t407 t408 t409 t410 t411 t412 t413 t414) else (none)) else (none)) = some (r1, r2) := by rw [if_pos rfl] at H; exact H
     clear H
     have H := H1
     clear H1
     obtain ⟨c19, H⟩ := ifP H
     have c19b0 := eq_true c19
     have c19b1 : decide (0 ≤ (l0.length : Int)) = true := decide_eq_true c19
     clear c19
     obtain ⟨c20, H⟩ := ifP H
     have c20b0 := eq_true c20
     have c20b1 : decide (((l0.length : Int) : Int).toNat ≤ 35184372088832) = true := decide_eq_true c20
     clear c20
     obtain ⟨y417, hy417⟩ : ∃ y_ : List Int, y_ = (([] : List Int)) := ⟨_, rfl⟩
     replace H : (impl_SpanBy.l0 kj4 y417 (l0.length : Int) 0 t407 t408 t409 t410 t411 t412 t413 t414) = some (r1, r2) := by first | (rw [hy417]; with_reducible exact H) | (have H2_ := (Option.bind_some _ _).symm.trans H; rw [hy417]; with_reducible exact H2_) | (have H2_ := (Option.bind_some _ _).symm.trans H; with_reducible exact H2_) | with_reducible exact H | (rw [hy417]; exact H) | exact H
     have Ny417 := Aside0.mk hy417
     clear hy417
     have H' := Aside0.mk H
     clear H
     obtain ⟨Ao21, co21, eo21⟩ := Kd.R_slice HO_6.out
     subst eo21
     try go_wp2
     replace HO_6 := Aside0.mk (Kd.R_drew HO_6.out)
     replace BK399 := Aside0.mk (blk_drew BK399.out)
     replace HB := Aside0.mk (below_drew1 HB.out)
     refine start_ (n := 10) (S := fun w' => w'.cell? ⟨gb399, 0, none⟩ = some (.int .i64 t394) ∧ w'.cell? ⟨gb399, 1, none⟩ = some (.int .i64 t395) ∧ w'.cell? ⟨gb399, 2, none⟩ = some (.int .i64 t396) ∧ w'.cell? ⟨gb399, 3, none⟩ = some (.int .i64 t397)) (ds := []) #[false, false, false, false, false, false, false, false, false, false] (by kernel_rfl) rfl rfl ⟨bA13 BK399 rfl, bA13 BK399 rfl, bA13 BK399 rfl, bA13 BK399 rfl⟩ (fun hHeld => ?_); refine with_tabW impl_SpanBy.tab5 impl_SpanBy.bits5 (fun HT_ HW_ => ?_)
     generalize wc.drew = w22 at HO_6 BK399 HB hHeld ⊢
     refine pZ 0 HT_ ?_
     refine tZ 2 hHeld HT_ HW_ ?_
     refine join_ (σ := Nat × Value × Value × Nat) 2 #[true, true, true, true, true, true, true, true, false, false] (fun s_ => [(32, .pointer (some ⟨s_.1, 0, none⟩)), (34, .tuple #[.agg #[.int .i64 t407, .int .i64 t408, .int .i64 t409, .int .i64 t410, .int .i64 t411, .int .i64 t412, .int .i64 t413, .int .i64 t414], .bool true]), (10, .pointer (some ⟨s_.2.2.2, 0, none⟩)), (30, .tuple #[.agg #[.int .i64 t407, .int .i64 t408, .int .i64 t409, .int .i64 t410, .int .i64 t411, .int .i64 t412, .int .i64 t413, .int .i64 t414], .bool true]), (35, .agg #[.int .i64 t407, .int .i64 t408, .int .i64 t409, .int .i64 t410, .int .i64 t411, .int .i64 t412, .int .i64 t413, .int .i64 t414]), (36, .bool true)]) (fun s_ w' => (w'.cell? ⟨gb399, 0, none⟩ = some (.int .i64 t394) ∧ w'.cell? ⟨gb399, 1, none⟩ = some (.int .i64 t395) ∧ w'.cell? ⟨gb399, 2, none⟩ = some (.int .i64 t396) ∧ w'.cell? ⟨gb399, 3, none⟩ = some (.int .i64 t397)) ∧ (Kd.R k77 77 w' w.heap.size (fun _ => True) s_.2.1 t400) ∧ (Kd.R (Kd.int .i64) 3 w' w.heap.size (fun _ => True) s_.2.2.1 t403) ∧ (Kd.R k59 59 w' w.heap.size (fun k_ => k_ ≠ gb399) (.slice Ao21 t390.length co21) t390) ∧ (w'.heap[gb399]? = some (.cells #[.int .i64 t394, .int .i64 t395, .int .i64 t396, .int .i64 t397] 59 (0, 0))) ∧ (w'.heap[s_.1]? = some (.cells #[s_.2.1, s_.2.2.1] 54 (0, 0))) ∧ (w'.heap[s_.2.2.2]? = some (.cells #[.int .i64 0, .int .i64 0, .int .i64 0, .int .i64 0, .int .i64 0, .int .i64 0, .int .i64 0, .int .i64 0] 62 (0, 0))) ∧ (w.heap.size ≤ s_.1) ∧ (w.heap.size ≤ s_.1) ∧ (gb399 ≠ s_.1) ∧ (s_.1 ≠ gb399) ∧ (s_.2.2.2 ≠ s_.1) ∧ (s_.1 ≠ s_.2.2.2) ∧ (w.heap.size ≤ s_.2.2.2) ∧ (w.heap.size ≤ s_.2.2.2) ∧ (gb399 ≠ s_.2.2.2) ∧ (s_.2.2.2 ≠ gb399) ∧ (Below w.heap.size w w')) ?_ ?_
     rotate_left
     ·intro hCont
      refine two_ (i := 1) (j := 7) (Ni := some 32) (Nj := some 10) #[true, true, true, false, false, false, false, false, false, false] #[true, false, true, false, false, false, false, true, false, false] rfl rfl rfl rfl (two_of HT_.out (by kernel_rfl)) (by decide) (by decide) (fun K hK => ?_) (fun K hK => ?_)
      ·skip
       refine goes_ Try.func54 (by kernel_rfl) rfl #[.slice Ao21 t390.length co21] (by rfl) rfl rfl z13_10 ?_
       with_reducible refine (impl_spanOf.calls kj4 _ _ t390 t400 t403 _ ?side1 ?side2 A16.out).mono ?_
       (case side1 => exact cZ ((Kd.R_reads' HO_6.out).2.2))
       (case side2 => exact (Kd.R_reads' HO_6.out).2.1)
       rintro e w23 ⟨v401, v404, gb406, rfl, hbox, hgr, ho0, ho1, hb⟩
       refine ⟨_, rfl, ?_⟩
       replace HO_6 := Aside0.mk (Kd.R_below z13_6 hb)
       have HO402 := Aside0.mk (Kd.R_lower ho0 (below_size z13_2))
       have HO405 := Aside0.mk (Kd.R_lower ho1 (below_size z13_2))
       have BK406 := Aside0.mk (hbox)
       have GW406 := Aside0.mk ((Nat.le_trans ((below_size z13_2) : w.heap.size ≤ _) hgr : w.heap.size ≤ gb406))
       have GE406 := Aside0.mk ((Nat.le_trans ((below_size z13_2) : w.heap.size ≤ _) hgr : w.heap.size ≤ gb406))
       have ag := Aside0.mk ((Nat.ne_of_lt (Nat.lt_of_lt_of_le (blk_lt (g := gb399) (o := .cells #[.int .i64 t394, .int .i64 t395, .int .i64 t396, .int .i64 t397] 59 (0, 0)) (zL13 BK399.out)) hgr) : gb399 ≠ gb406))
       have ah := Aside0.mk ((Nat.ne_of_gt (Nat.lt_of_lt_of_le (blk_lt (g := gb399) (o := .cells #[.int .i64 t394, .int .i64 t395, .int .i64 t396, .int .i64 t397] 59 (0, 0)) (zL13 BK399.out)) hgr) : gb406 ≠ gb399))
       replace BK399 := Aside0.mk (blk_below (g := gb399) (o := .cells #[.int .i64 t394, .int .i64 t395, .int .i64 t396, .int .i64 t397] 59 (0, 0)) (zL13 BK399.out) hb)
       replace HB := Aside0.mk (below_step z13_2 hb)
       (try clear hb)
       (try clear hb2)
       (try clear hk)
       (try clear hi)
       (try clear ho0)
       (try clear ho1)
       refine hK.out _ _ ⟨bA13 BK399 rfl, bA13 BK399 rfl, bA13 BK399 rfl, bA13 BK399 rfl⟩ (fun hHeld => ?_)
       clear hK K
       refine nZ ?_
       refine two_ (i := 3) (j := 7) (Ni := some 34) (Nj := some 10) #[true, true, true, true, false, false, false, false, false, false] #[true, true, true, false, false, false, false, true, false, false] rfl rfl rfl rfl (two_of HT_.out (by kernel_rfl)) (by decide) (by decide) (fun K hK => ?_) (fun K hK => ?_)
       ·skip
        refine goes_ Try.func57 (by kernel_rfl) rfl #[.pointer (some ⟨gb406, 0, none⟩), .agg #[.int .i64 t394, .int .i64 t395, .int .i64 t396, .int .i64 t397]] (by rfl) rfl rfl z13_10 ?_
        with_reducible refine (impl_span_byB.calls kj4 v401 t400 v404 t403 t394 t395 t396 t397 t407 t408 t409 t410 t411 t412 t413 t414 true _ ?side1 ?side2 ?side3 A17.out).mono ?_
        (case side1 => (with_reducible repeat first|refine blk_drewN ?_ _|refine blk_drew ?_|refine blk_alloc ?_ _); exact BK406.out)
        (case side2 => exact own_open z13_4)
        (case side3 => exact own_open z13_5)
        rintro e w24 ⟨rfl, hb⟩
        refine ⟨_, rfl, ?_⟩
        replace HO_6 := Aside0.mk (Kd.R_below z13_6 hb)
        replace HO402 := Aside0.mk (Kd.R_below z13_4 hb)
        replace HO405 := Aside0.mk (Kd.R_below z13_5 hb)
        replace BK399 := Aside0.mk (blk_below (g := gb399) (o := .cells #[.int .i64 t394, .int .i64 t395, .int .i64 t396, .int .i64 t397] 59 (0, 0)) (zL13 BK399.out) hb)
        replace BK406 := Aside0.mk (blk_below (g := gb406) (o := .cells #[v401, v404] 54 (0, 0)) (zL13 BK406.out) hb)
        replace HB := Aside0.mk (below_step z13_3 hb)
        (try clear hb)
        (try clear hb2)
        (try clear hk)
        (try clear hi)
        refine hK.out _ _ ⟨bA13 BK399 rfl, bA13 BK399 rfl, bA13 BK399 rfl, bA13 BK399 rfl⟩ (fun hHeld => ?_)
        clear hK K
        refine nZ ?_
        refine pZ 4 HT_ ?_
        refine pZ 5 HT_ ?_
        refine pZ 6 HT_ ?_
        refine oZ 7 HT_ (fun K hK => ?_)
        refine box_step ?hg (N := 10) ?hd (cs := #[.int .i64 0, .int .i64 0, .int .i64 0, .int .i64 0, .int .i64 0, .int .i64 0, .int .i64 0, .int .i64 0]) (t := 62) ?hr ?_; (case hd => rfl); (case hg => rfl); (case hr => first | (go_simp; done) | (go_simp; rfl))
        intro gb416 hg w25 hbox hb
        replace HO_6 := Aside0.mk (Kd.R_below z13_6 hb)
        replace HO402 := Aside0.mk (Kd.R_below z13_4 hb)
        replace HO405 := Aside0.mk (Kd.R_below z13_5 hb)
        have BK416 := Aside0.mk (hbox)
        have GW416 := Aside0.mk ((by rw [hg]; exact (below_size z13_3) : w.heap.size ≤ gb416))
        have GE416 := Aside0.mk ((by rw [hg]; exact (below_size z13_3) : w.heap.size ≤ gb416))
        replace HB := Aside0.mk (below_step z13_3 hb)
        have aa := Aside0.mk ((by rw [hg]; exact Nat.ne_of_lt (blk_lt (g := gb399) (o := .cells #[.int .i64 t394, .int .i64 t395, .int .i64 t396, .int .i64 t397] 59 (0, 0)) (zL13 BK399.out)) : gb399 ≠ gb416))
        have ac := Aside0.mk ((by rw [hg]; exact Nat.ne_of_gt (blk_lt (g := gb399) (o := .cells #[.int .i64 t394, .int .i64 t395, .int .i64 t396, .int .i64 t397] 59 (0, 0)) (zL13 BK399.out)) : gb416 ≠ gb399))
        replace BK399 := Aside0.mk (blk_below (g := gb399) (o := .cells #[.int .i64 t394, .int .i64 t395, .int .i64 t396, .int .i64 t397] 59 (0, 0)) (zL13 BK399.out) hb)
        have ab := Aside0.mk ((by rw [hg]; exact Nat.ne_of_lt (blk_lt (g := gb406) (o := .cells #[v401, v404] 54 (0, 0)) (zL13 BK406.out)) : gb406 ≠ gb416))
        have ad := Aside0.mk ((by rw [hg]; exact Nat.ne_of_gt (blk_lt (g := gb406) (o := .cells #[v401, v404] 54 (0, 0)) (zL13 BK406.out)) : gb416 ≠ gb406))
        replace BK406 := Aside0.mk (blk_below (g := gb406) (o := .cells #[v401, v404] 54 (0, 0)) (zL13 BK406.out) hb)
        clear hb hbox hg
        refine hK.out _ _ ⟨bA13 BK399 rfl, bA13 BK399 rfl, bA13 BK399 rfl, bA13 BK399 rfl⟩ (fun hHeld => ?_)
        clear hK K
        refine nZ ?_
        exact norm_ z13_18 (hCont (gb406, v401, v404, gb416) _ ⟨hHeld, z13_4, z13_5, z13_6, (zL13 BK399.out), (zL13 BK406.out), (zL13 BK416.out), GW406.out, GE406.out, ag.out, ah.out, ad.out, ab.out, GW416.out, GE416.out, aa.out, ac.out, z13_1⟩)
       ·skip
        refine box_step ?hg (N := 10) ?hd (cs := #[.int .i64 0, .int .i64 0, .int .i64 0, .int .i64 0, .int .i64 0, .int .i64 0, .int .i64 0, .int .i64 0]) (t := 62) ?hr ?_; (case hd => rfl); (case hg => rfl); (case hr => first | (go_simp; done) | (go_simp; rfl))
        intro gb416 hg w24 hbox hb
        replace HO_6 := Aside0.mk (Kd.R_below z13_6 hb)
        replace HO402 := Aside0.mk (Kd.R_below z13_4 hb)
        replace HO405 := Aside0.mk (Kd.R_below z13_5 hb)
        have BK416 := Aside0.mk (hbox)
        have GW416 := Aside0.mk ((by rw [hg]; exact (below_size z13_3) : w.heap.size ≤ gb416))
        have GE416 := Aside0.mk ((by rw [hg]; exact (below_size z13_3) : w.heap.size ≤ gb416))
        replace HB := Aside0.mk (below_step z13_3 hb)
        have aa := Aside0.mk ((by rw [hg]; exact Nat.ne_of_lt (blk_lt (g := gb399) (o := .cells #[.int .i64 t394, .int .i64 t395, .int .i64 t396, .int .i64 t397] 59 (0, 0)) (zL13 BK399.out)) : gb399 ≠ gb416))
        have ac := Aside0.mk ((by rw [hg]; exact Nat.ne_of_gt (blk_lt (g := gb399) (o := .cells #[.int .i64 t394, .int .i64 t395, .int .i64 t396, .int .i64 t397] 59 (0, 0)) (zL13 BK399.out)) : gb416 ≠ gb399))
        replace BK399 := Aside0.mk (blk_below (g := gb399) (o := .cells #[.int .i64 t394, .int .i64 t395, .int .i64 t396, .int .i64 t397] 59 (0, 0)) (zL13 BK399.out) hb)
        have ab := Aside0.mk ((by rw [hg]; exact Nat.ne_of_lt (blk_lt (g := gb406) (o := .cells #[v401, v404] 54 (0, 0)) (zL13 BK406.out)) : gb406 ≠ gb416))
        have ad := Aside0.mk ((by rw [hg]; exact Nat.ne_of_gt (blk_lt (g := gb406) (o := .cells #[v401, v404] 54 (0, 0)) (zL13 BK406.out)) : gb416 ≠ gb406))
        replace BK406 := Aside0.mk (blk_below (g := gb406) (o := .cells #[v401, v404] 54 (0, 0)) (zL13 BK406.out) hb)
        clear hb hbox hg
        refine hK.out _ _ ⟨bA13 BK399 rfl, bA13 BK399 rfl, bA13 BK399 rfl, bA13 BK399 rfl⟩ (fun hHeld => ?_)
        clear hK K
        refine nZ ?_
        refine oZ 3 HT_ (fun K hK => ?_)
        refine goes_ Try.func57 (by kernel_rfl) rfl #[.pointer (some ⟨gb406, 0, none⟩), .agg #[.int .i64 t394, .int .i64 t395, .int .i64 t396, .int .i64 t397]] (by rfl) rfl rfl z13_10 ?_
        with_reducible refine (impl_span_byB.calls kj4 v401 t400 v404 t403 t394 t395 t396 t397 t407 t408 t409 t410 t411 t412 t413 t414 true _ ?side1 ?side2 ?side3 A17.out).mono ?_
        (case side1 => (with_reducible repeat first|refine blk_drewN ?_ _|refine blk_drew ?_|refine blk_alloc ?_ _); exact BK406.out)
        (case side2 => exact own_open z13_4)
        (case side3 => exact own_open z13_5)
        rintro e w25 ⟨rfl, hb⟩
        refine ⟨_, rfl, ?_⟩
        replace HO_6 := Aside0.mk (Kd.R_below z13_6 hb)
        replace HO402 := Aside0.mk (Kd.R_below z13_4 hb)
        replace HO405 := Aside0.mk (Kd.R_below z13_5 hb)
        replace BK399 := Aside0.mk (blk_below (g := gb399) (o := .cells #[.int .i64 t394, .int .i64 t395, .int .i64 t396, .int .i64 t397] 59 (0, 0)) (zL13 BK399.out) hb)
        replace BK406 := Aside0.mk (blk_below (g := gb406) (o := .cells #[v401, v404] 54 (0, 0)) (zL13 BK406.out) hb)
        replace BK416 := Aside0.mk (blk_below (g := gb416) (o := .cells #[.int .i64 0, .int .i64 0, .int .i64 0, .int .i64 0, .int .i64 0, .int .i64 0, .int .i64 0, .int .i64 0] 62 (0, 0)) (zL13 BK416.out) hb)
        replace HB := Aside0.mk (below_step z13_1 hb)
        (try clear hb)
        (try clear hb2)
        (try clear hk)
        (try clear hi)
        refine hK.out _ _ ⟨bA13 BK399 rfl, bA13 BK399 rfl, bA13 BK399 rfl, bA13 BK399 rfl⟩ (fun hHeld => ?_)
        clear hK K
        refine nZ ?_
        refine pZ 4 HT_ ?_
        refine pZ 5 HT_ ?_
        refine pZ 6 HT_ ?_
        exact norm_ z13_18 (hCont (gb406, v401, v404, gb416) _ ⟨hHeld, z13_4, z13_5, z13_6, (zL13 BK399.out), (zL13 BK406.out), (zL13 BK416.out), GW406.out, GE406.out, ag.out, ah.out, ad.out, ab.out, GW416.out, GE416.out, aa.out, ac.out, z13_1⟩)
      ·skip
       refine box_step ?hg (N := 10) ?hd (cs := #[.int .i64 0, .int .i64 0, .int .i64 0, .int .i64 0, .int .i64 0, .int .i64 0, .int .i64 0, .int .i64 0]) (t := 62) ?hr ?_; (case hd => rfl); (case hg => rfl); (case hr => first | (go_simp; done) | (go_simp; rfl))
       intro gb416 hg w23 hbox hb
       replace HO_6 := Aside0.mk (Kd.R_below z13_6 hb)
       have BK416 := Aside0.mk (hbox)
       have GW416 := Aside0.mk ((by rw [hg]; exact (below_size z13_2) : w.heap.size ≤ gb416))
       have GE416 := Aside0.mk ((by rw [hg]; exact (below_size z13_2) : w.heap.size ≤ gb416))
       replace HB := Aside0.mk (below_step z13_2 hb)
       have aa := Aside0.mk ((by rw [hg]; exact Nat.ne_of_lt (blk_lt (g := gb399) (o := .cells #[.int .i64 t394, .int .i64 t395, .int .i64 t396, .int .i64 t397] 59 (0, 0)) (zL13 BK399.out)) : gb399 ≠ gb416))
       have ac := Aside0.mk ((by rw [hg]; exact Nat.ne_of_gt (blk_lt (g := gb399) (o := .cells #[.int .i64 t394, .int .i64 t395, .int .i64 t396, .int .i64 t397] 59 (0, 0)) (zL13 BK399.out)) : gb416 ≠ gb399))
       replace BK399 := Aside0.mk (blk_below (g := gb399) (o := .cells #[.int .i64 t394, .int .i64 t395, .int .i64 t396, .int .i64 t397] 59 (0, 0)) (zL13 BK399.out) hb)
       clear hb hbox hg
       refine hK.out _ _ ⟨bA13 BK399 rfl, bA13 BK399 rfl, bA13 BK399 rfl, bA13 BK399 rfl⟩ (fun hHeld => ?_)
       clear hK K
       refine nZ ?_
       refine oZ 1 HT_ (fun K hK => ?_)
       refine goes_ Try.func54 (by kernel_rfl) rfl #[.slice Ao21 t390.length co21] (by rfl) rfl rfl z13_10 ?_
       with_reducible refine (impl_spanOf.calls kj4 _ _ t390 t400 t403 _ ?side1 ?side2 A16.out).mono ?_
       (case side1 => exact cZ ((Kd.R_reads' HO_6.out).2.2))
       (case side2 => exact (Kd.R_reads' HO_6.out).2.1)
       rintro e w24 ⟨v401, v404, gb406, rfl, hbox, hgr, ho0, ho1, hb⟩
       refine ⟨_, rfl, ?_⟩
       replace HO_6 := Aside0.mk (Kd.R_below z13_6 hb)
       have HO402 := Aside0.mk (Kd.R_lower ho0 (below_size z13_7))
       have HO405 := Aside0.mk (Kd.R_lower ho1 (below_size z13_7))
       have BK406 := Aside0.mk (hbox)
       have GW406 := Aside0.mk ((Nat.le_trans ((below_size z13_7) : w.heap.size ≤ _) hgr : w.heap.size ≤ gb406))
       have GE406 := Aside0.mk ((Nat.le_trans ((below_size z13_7) : w.heap.size ≤ _) hgr : w.heap.size ≤ gb406))
       have ag := Aside0.mk ((Nat.ne_of_lt (Nat.lt_of_lt_of_le (blk_lt (g := gb399) (o := .cells #[.int .i64 t394, .int .i64 t395, .int .i64 t396, .int .i64 t397] 59 (0, 0)) (zL13 BK399.out)) hgr) : gb399 ≠ gb406))
       have ah := Aside0.mk ((Nat.ne_of_gt (Nat.lt_of_lt_of_le (blk_lt (g := gb399) (o := .cells #[.int .i64 t394, .int .i64 t395, .int .i64 t396, .int .i64 t397] 59 (0, 0)) (zL13 BK399.out)) hgr) : gb406 ≠ gb399))
       replace BK399 := Aside0.mk (blk_below (g := gb399) (o := .cells #[.int .i64 t394, .int .i64 t395, .int .i64 t396, .int .i64 t397] 59 (0, 0)) (zL13 BK399.out) hb)
       have ad := Aside0.mk ((Nat.ne_of_lt (Nat.lt_of_lt_of_le (blk_lt (g := gb416) (o := .cells #[.int .i64 0, .int .i64 0, .int .i64 0, .int .i64 0, .int .i64 0, .int .i64 0, .int .i64 0, .int .i64 0] 62 (0, 0)) (zL13 BK416.out)) hgr) : gb416 ≠ gb406))
       have ab := Aside0.mk ((Nat.ne_of_gt (Nat.lt_of_lt_of_le (blk_lt (g := gb416) (o := .cells #[.int .i64 0, .int .i64 0, .int .i64 0, .int .i64 0, .int .i64 0, .int .i64 0, .int .i64 0, .int .i64 0] 62 (0, 0)) (zL13 BK416.out)) hgr) : gb406 ≠ gb416))
       replace BK416 := Aside0.mk (blk_below (g := gb416) (o := .cells #[.int .i64 0, .int .i64 0, .int .i64 0, .int .i64 0, .int .i64 0, .int .i64 0, .int .i64 0, .int .i64 0] 62 (0, 0)) (zL13 BK416.out) hb)
       replace HB := Aside0.mk (below_step z13_7 hb)
       (try clear hb)
       (try clear hb2)
       (try clear hk)
       (try clear hi)
       (try clear ho0)
       (try clear ho1)
       refine hK.out _ _ ⟨bA13 BK399 rfl, bA13 BK399 rfl, bA13 BK399 rfl, bA13 BK399 rfl⟩ (fun hHeld => ?_)
       clear hK K
       refine nZ ?_
       refine oZ 3 HT_ (fun K hK => ?_)
       refine goes_ Try.func57 (by kernel_rfl) rfl #[.pointer (some ⟨gb406, 0, none⟩), .agg #[.int .i64 t394, .int .i64 t395, .int .i64 t396, .int .i64 t397]] (by rfl) rfl rfl z13_10 ?_
       with_reducible refine (impl_span_byB.calls kj4 v401 t400 v404 t403 t394 t395 t396 t397 t407 t408 t409 t410 t411 t412 t413 t414 true _ ?side1 ?side2 ?side3 A17.out).mono ?_
       (case side1 => (with_reducible repeat first|refine blk_drewN ?_ _|refine blk_drew ?_|refine blk_alloc ?_ _); exact BK406.out)
       (case side2 => exact own_open z13_4)
       (case side3 => exact own_open z13_5)
       rintro e w25 ⟨rfl, hb⟩
       refine ⟨_, rfl, ?_⟩
       replace HO_6 := Aside0.mk (Kd.R_below z13_6 hb)
       replace HO402 := Aside0.mk (Kd.R_below z13_4 hb)
       replace HO405 := Aside0.mk (Kd.R_below z13_5 hb)
       replace BK399 := Aside0.mk (blk_below (g := gb399) (o := .cells #[.int .i64 t394, .int .i64 t395, .int .i64 t396, .int .i64 t397] 59 (0, 0)) (zL13 BK399.out) hb)
       replace BK416 := Aside0.mk (blk_below (g := gb416) (o := .cells #[.int .i64 0, .int .i64 0, .int .i64 0, .int .i64 0, .int .i64 0, .int .i64 0, .int .i64 0, .int .i64 0] 62 (0, 0)) (zL13 BK416.out) hb)
       replace BK406 := Aside0.mk (blk_below (g := gb406) (o := .cells #[v401, v404] 54 (0, 0)) (zL13 BK406.out) hb)
       replace HB := Aside0.mk (below_step z13_15 hb)
       (try clear hb)
       (try clear hb2)
       (try clear hk)
       (try clear hi)
       refine hK.out _ _ ⟨bA13 BK399 rfl, bA13 BK399 rfl, bA13 BK399 rfl, bA13 BK399 rfl⟩ (fun hHeld => ?_)
       clear hK K
       refine nZ ?_
       refine pZ 4 HT_ ?_
       refine pZ 5 HT_ ?_
       refine pZ 6 HT_ ?_
       exact norm_ z13_18 (hCont (gb406, v401, v404, gb416) _ ⟨hHeld, z13_4, z13_5, z13_6, (zL13 BK399.out), (zL13 BK406.out), (zL13 BK416.out), GW406.out, GE406.out, ag.out, ah.out, ad.out, ab.out, GW416.out, GE416.out, aa.out, ac.out, z13_15⟩)
     rintro ⟨gb406, v401, v404, gb416⟩ w26 ⟨hS_, h0_, h1_, h2_, h3_, h4_, h5_, h6_, h7_, h8_, h9_, h10_, h11_, h12_, h13_, h14_, h15_, h16_⟩
     have n0_ : Aside0 (Kd.R k77 77 w26 w.heap.size (fun _ => True) v401 t400) := ⟨h0_⟩
     have n1_ : Aside0 (Kd.R (Kd.int .i64) 3 w26 w.heap.size (fun _ => True) v404 t403) := ⟨h1_⟩
     have n2_ : Aside0 (Kd.R k59 59 w26 w.heap.size (fun k_ => k_ ≠ gb399) (.slice Ao21 t390.length co21) t390) := ⟨h2_⟩
     have n3_ : Aside0 (w26.heap[gb399]? = some (.cells #[.int .i64 t394, .int .i64 t395, .int .i64 t396, .int .i64 t397] 59 (0, 0))) := ⟨h3_⟩
     have n4_ : Aside0 (w26.heap[gb406]? = some (.cells #[v401, v404] 54 (0, 0))) := ⟨h4_⟩
     have n5_ : Aside0 (w26.heap[gb416]? = some (.cells #[.int .i64 0, .int .i64 0, .int .i64 0, .int .i64 0, .int .i64 0, .int .i64 0, .int .i64 0, .int .i64 0] 62 (0, 0))) := ⟨h5_⟩
     have n6_ : Aside0 (w.heap.size ≤ gb406) := ⟨h6_⟩
     have n7_ : Aside0 (w.heap.size ≤ gb406) := ⟨h7_⟩
     have n8_ : Aside0 (gb399 ≠ gb406) := ⟨h8_⟩
     have n9_ : Aside0 (gb406 ≠ gb399) := ⟨h9_⟩
     have n10_ : Aside0 (gb416 ≠ gb406) := ⟨h10_⟩
     have n11_ : Aside0 (gb406 ≠ gb416) := ⟨h11_⟩
     have n12_ : Aside0 (w.heap.size ≤ gb416) := ⟨h12_⟩
     have n13_ : Aside0 (w.heap.size ≤ gb416) := ⟨h13_⟩
     have n14_ : Aside0 (gb399 ≠ gb416) := ⟨h14_⟩
     have n15_ : Aside0 (gb416 ≠ gb399) := ⟨h15_⟩
     have n16_ : Aside0 (Below w.heap.size w w26) := ⟨h16_⟩
     clear HO_6
     clear BK399
     clear HB
     clear h0_ h1_ h2_ h3_ h4_ h5_ h6_ h7_ h8_ h9_ h10_ h11_ h12_ h13_ h14_ h15_ h16_
     have HO402 := n0_
     have HO405 := n1_
     have HO_6 := n2_
     have BK399 := n3_
     have BK406 := n4_
     have BK416 := n5_
     have GW406 := n6_
     have GE406 := n7_
     have ag := n8_
     have ah := n9_
     have ad := n10_
     have ab := n11_
     have GW416 := n12_
     have GE416 := n13_
     have aa := n14_
     have ac := n15_
     have HB := n16_
     clear n0_ n1_ n2_ n3_ n4_ n5_ n6_ n7_ n8_ n9_ n10_ n11_ n12_ n13_ n14_ n15_ n16_
     have hHeld : w26.cell? ⟨gb399, 0, none⟩ = some (.int .i64 t394) ∧ w26.cell? ⟨gb399, 1, none⟩ = some (.int .i64 t395) ∧ w26.cell? ⟨gb399, 2, none⟩ = some (.int .i64 t396) ∧ w26.cell? ⟨gb399, 3, none⟩ = some (.int .i64 t397) := hS_
     refine norm_ (a' := ?_) ?_ ?_
     rotate_left
     ·simp only [putAll, Act.put, List.setIfInBounds_toArray, List.set_cons_zero, List.set_cons_succ]
      rfl
     refine one_ (i := 8) (N := none) #[true, true, true, true, true, true, true, true, true, false] rfl rfl (one_of HT_.out (by kernel_rfl)) (by decide) (fun K hK => ?_)
     have hs27 : w26.cell? ⟨gb416, 0, none⟩ = some (.int .i64 0) := bA13 BK416 rfl
     have hfs27 := blk_frozen BK416.out 0
     have hns27_0 := aa.out
     have hns27_1 := ab.out
     have hms27_0 := ac.out
     have hms27_1 := ad.out
     have hs28 : w26.cell? ⟨gb416, 1, none⟩ = some (.int .i64 0) := bA13 BK416 rfl
     have hfs28 := blk_frozen BK416.out 1
     have hns28_0 := aa.out
     have hns28_1 := ab.out
     have hms28_0 := ac.out
     have hms28_1 := ad.out
     have hs29 : w26.cell? ⟨gb416, 2, none⟩ = some (.int .i64 0) := bA13 BK416 rfl
     have hfs29 := blk_frozen BK416.out 2
     have hns29_0 := aa.out
     have hns29_1 := ab.out
     have hms29_0 := ac.out
     have hms29_1 := ad.out
     have hs30 : w26.cell? ⟨gb416, 3, none⟩ = some (.int .i64 0) := bA13 BK416 rfl
     have hfs30 := blk_frozen BK416.out 3
     have hns30_0 := aa.out
     have hns30_1 := ab.out
     have hms30_0 := ac.out
     have hms30_1 := ad.out
     have hs31 : w26.cell? ⟨gb416, 4, none⟩ = some (.int .i64 0) := bA13 BK416 rfl
     have hfs31 := blk_frozen BK416.out 4
     have hns31_0 := aa.out
     have hns31_1 := ab.out
     have hms31_0 := ac.out
     have hms31_1 := ad.out
     have hs32 : w26.cell? ⟨gb416, 5, none⟩ = some (.int .i64 0) := bA13 BK416 rfl
     have hfs32 := blk_frozen BK416.out 5
     have hns32_0 := aa.out
     have hns32_1 := ab.out
     have hms32_0 := ac.out
     have hms32_1 := ad.out
     have hs33 : w26.cell? ⟨gb416, 6, none⟩ = some (.int .i64 0) := bA13 BK416 rfl
     have hfs33 := blk_frozen BK416.out 6
     have hns33_0 := aa.out
     have hns33_1 := ab.out
     have hms33_0 := ac.out
     have hms33_1 := ad.out
     have hs34 : w26.cell? ⟨gb416, 7, none⟩ = some (.int .i64 0) := bA13 BK416 rfl
     have hfs34 := blk_frozen BK416.out 7
     have hns34_0 := aa.out
     have hns34_1 := ab.out
     have hms34_0 := ac.out
     have hms34_1 := ad.out
     refine skip_ (w1 := ?_) (by rfl) rfl ?_ ?_
     rotate_left
     ·go_simp
      rfl
     refine hK.out _ _ ⟨((cell_far (p := ⟨gb416, _, none⟩) aa.out _).trans (((cell_far (p := ⟨gb416, _, none⟩) aa.out _).trans (((cell_far (p := ⟨gb416, _, none⟩) aa.out _).trans (((cell_far (p := ⟨gb416, _, none⟩) aa.out _).trans (((cell_far (p := ⟨gb416, _, none⟩) aa.out _).trans (((cell_far (p := ⟨gb416, _, none⟩) aa.out _).trans (((cell_far (p := ⟨gb416, _, none⟩) aa.out _).trans (((cell_far (p := ⟨gb416, _, none⟩) aa.out _).trans (hHeld.1)))))))))))))))), ((cell_far (p := ⟨gb416, _, none⟩) aa.out _).trans (((cell_far (p := ⟨gb416, _, none⟩) aa.out _).trans (((cell_far (p := ⟨gb416, _, none⟩) aa.out _).trans (((cell_far (p := ⟨gb416, _, none⟩) aa.out _).trans (((cell_far (p := ⟨gb416, _, none⟩) aa.out _).trans (((cell_far (p := ⟨gb416, _, none⟩) aa.out _).trans (((cell_far (p := ⟨gb416, _, none⟩) aa.out _).trans (((cell_far (p := ⟨gb416, _, none⟩) aa.out _).trans (hHeld.2.1)))))))))))))))), ((cell_far (p := ⟨gb416, _, none⟩) aa.out _).trans (((cell_far (p := ⟨gb416, _, none⟩) aa.out _).trans (((cell_far (p := ⟨gb416, _, none⟩) aa.out _).trans (((cell_far (p := ⟨gb416, _, none⟩) aa.out _).trans (((cell_far (p := ⟨gb416, _, none⟩) aa.out _).trans (((cell_far (p := ⟨gb416, _, none⟩) aa.out _).trans (((cell_far (p := ⟨gb416, _, none⟩) aa.out _).trans (((cell_far (p := ⟨gb416, _, none⟩) aa.out _).trans (hHeld.2.2.1)))))))))))))))), ((cell_far (p := ⟨gb416, _, none⟩) aa.out _).trans (((cell_far (p := ⟨gb416, _, none⟩) aa.out _).trans (((cell_far (p := ⟨gb416, _, none⟩) aa.out _).trans (((cell_far (p := ⟨gb416, _, none⟩) aa.out _).trans (((cell_far (p := ⟨gb416, _, none⟩) aa.out _).trans (((cell_far (p := ⟨gb416, _, none⟩) aa.out _).trans (((cell_far (p := ⟨gb416, _, none⟩) aa.out _).trans (((cell_far (p := ⟨gb416, _, none⟩) aa.out _).trans (hHeld.2.2.2))))))))))))))))⟩ (fun hHeld => ?_)
     clear hK K
     refine pZ 9 HT_ ?_
     refine done_ (done_of HT_.out (by kernel_rfl)) ?_
     try go_wp2_with (first | ((with_reducible refine gate_dst (N := 41) rfl ?_); refine R_make0 (Kd.int .i64) _ 3 rfl (N := 41) rfl 28 _ _ rfl (l0.length : Int) rfl rfl Try.underlying28 (.int .i64 0) 8 info3 (by decide) (ok := fun _ => True) (okp := fun _ => True) (fun _ hk => hk) trivial (of_decide_eq_true (by first | (with_reducible assumption) | assumption)) (Nat.le_trans (Nat.mul_le_mul_right _ (of_decide_eq_true (by first | (with_reducible assumption) | assumption) : (l0.length : Int).toNat ≤ 35184372088832)) (by omega)) (Below.refl _ _) (Nat.le_refl _) ?_; intro v418 w35 ho36 hb hg_ hnew_; clear hg_ hnew_; (first | rw [← Ny417.out] at ho36 | (simp only [Int.reduceToNat] at ho36; rw [← Ny417.out] at ho36)); replace HO_6 := Aside0.mk (Kd.R_below (by (with_reducible repeat (first | apply Kd.R_alloc | apply Kd.R_drewN | apply Kd.R_drew)); exact (Kd.R_mono (Kd.R_far (p := ⟨gb416, 7, none⟩) (Kd.R_far (p := ⟨gb416, 6, none⟩) (Kd.R_far (p := ⟨gb416, 5, none⟩) (Kd.R_far (p := ⟨gb416, 4, none⟩) (Kd.R_far (p := ⟨gb416, 3, none⟩) (Kd.R_far (p := ⟨gb416, 2, none⟩) (Kd.R_far (p := ⟨gb416, 1, none⟩) (Kd.R_far (p := ⟨gb416, 0, none⟩) (Kd.R_types HO_6.out BK416.out (by decide)) (fun _ hk => hk.2) (.int .i64 t407)) (fun _ hk => hk.2) (.int .i64 t408)) (fun _ hk => hk.2) (.int .i64 t409)) (fun _ hk => hk.2) (.int .i64 t410)) (fun _ hk => hk.2) (.int .i64 t411)) (fun _ hk => hk.2) (.int .i64 t412)) (fun _ hk => hk.2) (.int .i64 t413)) (fun _ hk => hk.2) (.int .i64 t414)) (fun _ h_ => h_.1))) hb); replace HO402 := Aside0.mk (Kd.R_below (by (with_reducible repeat (first | apply Kd.R_alloc | apply Kd.R_drewN | apply Kd.R_drew)); exact (Kd.R_mono (Kd.R_far (p := ⟨gb416, 7, none⟩) (Kd.R_far (p := ⟨gb416, 6, none⟩) (Kd.R_far (p := ⟨gb416, 5, none⟩) (Kd.R_far (p := ⟨gb416, 4, none⟩) (Kd.R_far (p := ⟨gb416, 3, none⟩) (Kd.R_far (p := ⟨gb416, 2, none⟩) (Kd.R_far (p := ⟨gb416, 1, none⟩) (Kd.R_far (p := ⟨gb416, 0, none⟩) (Kd.R_types HO402.out BK416.out (by decide)) (fun _ hk => hk.2) (.int .i64 t407)) (fun _ hk => hk.2) (.int .i64 t408)) (fun _ hk => hk.2) (.int .i64 t409)) (fun _ hk => hk.2) (.int .i64 t410)) (fun _ hk => hk.2) (.int .i64 t411)) (fun _ hk => hk.2) (.int .i64 t412)) (fun _ hk => hk.2) (.int .i64 t413)) (fun _ hk => hk.2) (.int .i64 t414)) (fun _ h_ => h_.1))) hb); have HO419 := Aside0.mk (Kd.R_lower (Kd.R_new' ho36 (Kd.R_lt z13_14)) (below_size z13_1)); replace HO405 := Aside0.mk (Kd.R_elder' z13_14 (Kd.R_base ho36) hb); replace BK399 := Aside0.mk (blk_below (g := gb399) (o := .cells #[.int .i64 t394, .int .i64 t395, .int .i64 t396, .int .i64 t397] 59 (0, 0)) (by (with_reducible repeat first|refine blk_drewN ?_ _|refine blk_drew ?_|refine blk_alloc ?_ _); refine blk_far ?_ aa.out _; (with_reducible repeat first|refine blk_drewN ?_ _|refine blk_drew ?_|refine blk_alloc ?_ _); refine blk_far ?_ aa.out _; (with_reducible repeat first|refine blk_drewN ?_ _|refine blk_drew ?_|refine blk_alloc ?_ _); refine blk_far ?_ aa.out _; (with_reducible repeat first|refine blk_drewN ?_ _|refine blk_drew ?_|refine blk_alloc ?_ _); refine blk_far ?_ aa.out _; (with_reducible repeat first|refine blk_drewN ?_ _|refine blk_drew ?_|refine blk_alloc ?_ _); refine blk_far ?_ aa.out _; (with_reducible repeat first|refine blk_drewN ?_ _|refine blk_drew ?_|refine blk_alloc ?_ _); refine blk_far ?_ aa.out _; (with_reducible repeat first|refine blk_drewN ?_ _|refine blk_drew ?_|refine blk_alloc ?_ _); refine blk_far ?_ aa.out _; (with_reducible repeat first|refine blk_drewN ?_ _|refine blk_drew ?_|refine blk_alloc ?_ _); refine blk_far ?_ aa.out _; (with_reducible repeat first|refine blk_drewN ?_ _|refine blk_drew ?_|refine blk_alloc ?_ _); exact BK399.out) hb); replace BK406 := Aside0.mk (blk_below (g := gb406) (o := .cells #[v401, v404] 54 (0, 0)) (by (with_reducible repeat first|refine blk_drewN ?_ _|refine blk_drew ?_|refine blk_alloc ?_ _); refine blk_far ?_ ab.out _; (with_reducible repeat first|refine blk_drewN ?_ _|refine blk_drew ?_|refine blk_alloc ?_ _); refine blk_far ?_ ab.out _; (with_reducible repeat first|refine blk_drewN ?_ _|refine blk_drew ?_|refine blk_alloc ?_ _); refine blk_far ?_ ab.out _; (with_reducible repeat first|refine blk_drewN ?_ _|refine blk_drew ?_|refine blk_alloc ?_ _); refine blk_far ?_ ab.out _; (with_reducible repeat first|refine blk_drewN ?_ _|refine blk_drew ?_|refine blk_alloc ?_ _); refine blk_far ?_ ab.out _; (with_reducible repeat first|refine blk_drewN ?_ _|refine blk_drew ?_|refine blk_alloc ?_ _); refine blk_far ?_ ab.out _; (with_reducible repeat first|refine blk_drewN ?_ _|refine blk_drew ?_|refine blk_alloc ?_ _); refine blk_far ?_ ab.out _; (with_reducible repeat first|refine blk_drewN ?_ _|refine blk_drew ?_|refine blk_alloc ?_ _); refine blk_far ?_ ab.out _; (with_reducible repeat first|refine blk_drewN ?_ _|refine blk_drew ?_|refine blk_alloc ?_ _); exact BK406.out) hb); replace BK416 := Aside0.mk (blk_below (g := gb416) (o := .cells #[.int .i64 t407, .int .i64 t408, .int .i64 t409, .int .i64 t410, .int .i64 t411, .int .i64 t412, .int .i64 t413, .int .i64 t414] 62 (0, 0)) (bZ BK416.out) hb); replace HB := Aside0.mk (below_step z13_1 hb); clear hb ho36))
     go_loopg [12, 44] kj4 (fun kq v12 v44 w' => ∃ (x12_2 : List Int) (x44_2 : Int), v44 = .int .i64 x44_2 ∧ Aside0 (impl_SpanBy.l0 kq x12_2 (l0.length : Int) x44_2 t407 t408 t409 t410 t411 t412 t413 t414 = some (r1, r2)) ∧ Aside0 (kq ≤ kj4) ∧ Aside0 (Kd.R (Kd.int .i64) 3 w' w.heap.size (fun k_ => some k_ ≠ (v404 : Value).ownBlock) v12 x12_2) ∧ Aside0 (Kd.R k77 77 w' w.heap.size (fun _ => True) v401 t400) ∧ Aside0 (Kd.R (Kd.int .i64) 3 w' w.heap.size (fun k_ => some k_ ≠ (v12 : Value).ownBlock) v404 t403) ∧ Aside0 (w'.heap[gb399]? = some (.cells #[.int .i64 t394, .int .i64 t395, .int .i64 t396, .int .i64 t397] 59 (0, 0))) ∧ Aside0 (w'.heap[gb406]? = some (.cells #[v401, v404] 54 (0, 0))) ∧ Aside0 (w'.heap[gb416]? = some (.cells #[.int .i64 t407, .int .i64 t408, .int .i64 t409, .int .i64 t410, .int .i64 t411, .int .i64 t412, .int .i64 t413, .int .i64 t414] 62 (0, 0))) ∧ Aside0 (Below w.heap.size w w'))
     case atStart => exact ⟨(y417), (0), (by first | rfl | (simp; done) | (simp [*]; done)), H', ⟨Nat.le_refl _⟩, ⟨by (with_reducible repeat (first | apply Kd.R_alloc | apply Kd.R_drewN | apply Kd.R_drew)); exact Kd.R_mono HO419.out (fun _ hk => hk.2)⟩, ⟨z13_4⟩, ⟨by (with_reducible repeat (first | apply Kd.R_alloc | apply Kd.R_drewN | apply Kd.R_drew)); exact Kd.R_mono HO405.out (fun _ hk => hk.2)⟩, ⟨zL13 BK399.out⟩, ⟨zL13 BK406.out⟩, ⟨zL13 BK416.out⟩, ⟨z13_1⟩⟩
     case round =>
      clear H'
      try clear c1
      try clear c15
      try clear c18
      try clear c19
      try clear c19b0
      try clear c19b1
      try clear c20
      try clear c20b0
      try clear c20b1
      obtain ⟨x12_2, x44_2, rfl, HA, HK2, HO_12, ae, af, BK399, BK406, BK416, HB⟩ := hrel
      cases gk with
      | zero => exact absurd HA.out (by simp [impl_SpanBy.l0])
      | succ k2 =>
       have H := HA.out
       clear HA
       simp only [impl_SpanBy.l0] at H
       by_cases c37 : x44_2 < (l0.length : Int)
       ·rw [if_pos c37] at H
        have c37b0 : decide (x44_2 < (l0.length : Int)) = true := decide_eq_true c37
        clear c37
        by_cases c38 : x44_2 = 0
        ·rw [if_pos c38] at H
         subst c38
         (try have hz_ := eq_true (Int.natCast_pos.1 (of_decide_eq_true c37b0) : 0 < l0.length))
         replace H : (if x12_2.length < 17592186044416 then (impl_SpanBy.l0 k2 (x12_2 ++ [t407]) (l0.length : Int) (wrap64 ((0 : Int) + 1)) t407 t408 t409 t410 t411 t412 t413 t414) else (none)) = some (r1, r2) := H
         obtain ⟨c39, H⟩ := ifP H
         have LMc39 := Aside0.mk c39
         clear c39
         obtain ⟨y420, hy420⟩ : ∃ y_ : List Int, y_ = (x12_2 ++ [t407]) := ⟨_, rfl⟩
         replace H : (impl_SpanBy.l0 k2 y420 (l0.length : Int) (wrap64 ((0 : Int) + 1)) t407 t408 t409 t410 t411 t412 t413 t414) = some (r1, r2) := by first | (rw [hy420]; with_reducible exact H) | (have H2_ := (Option.bind_some _ _).symm.trans H; rw [hy420]; with_reducible exact H2_) | (have H2_ := (Option.bind_some _ _).symm.trans H; with_reducible exact H2_) | with_reducible exact H | (rw [hy420]; exact H) | exact H
         have Ny420 := Aside0.mk hy420
         clear hy420
         have H' := Aside0.mk H
         clear H
         have hnb40 := ac.out
         have hnc40 := aa.out
         have hnb41 := ad.out
         have hnc41 := ab.out
         have hcz42_0 : wr.cell? ⟨gb416, 0, none⟩ = some (.int .i64 t407) := bA13 BK416 rfl
         have hfz42_0 := blk_frozen BK416.out 0
         go_wp2_with (first | ((with_reducible refine gate_builtin (b := .append) (xs := #[.tmp 47, .tmp 51]) rfl ?_); at_builtin; refine Kd.R_append (Kd.int .i64) (w0 := w) w.heap.size rfl (.tmp 47) (.tmp 51) 28 3 (.int .i64 0) 8 rfl Try.underlying28 info3 rfl (by decide) (by omega) u12 x12_2 t407 [.int .i64 t407] (fun k_ => some k_ ≠ (v404 : Value).ownBlock) (fun _ => False) rfl rfl ?aP (fun _ hk => hk.elim) ?aF ?aO ?aB ?aS ?aL ?_; (case aP => exact rfl); (case aB => exact z13_1); (case aF => exact (fun k_ hk => Kd.fresh' (Kd.R_lt z13_13) k_ hk)); (case aO => exact z13_9); (case aS => exact (below_size z13_1)); (case aL => have := LMc39.out; omega); intro v421 w43 ho hb hg hat; rw [← Ny420.out] at ho; have n0_ := Aside0.mk (Kd.R_over' z13_8 (Kd.R_typed z13_9) (by decide) hg); have n1_ := Aside0.mk (Kd.R_after (ok := (fun _ => True)) z13_11 hg hat); have n2_ := Aside0.mk (blk_grown (g := gb399) (o := .cells #[.int .i64 t394, .int .i64 t395, .int .i64 t396, .int .i64 t397] 59 (0, 0)) (zL13 BK399.out) hg (Kd.R_ne HO_12.out BK399.out (by decide))); have n3_ := Aside0.mk (blk_grown (g := gb406) (o := .cells #[v401, v404] 54 (0, 0)) (zL13 BK406.out) hg (Kd.R_ne HO_12.out BK406.out (by decide))); have n4_ := Aside0.mk (blk_grown (g := gb416) (o := .cells #[.int .i64 t407, .int .i64 t408, .int .i64 t409, .int .i64 t410, .int .i64 t411, .int .i64 t412, .int .i64 t413, .int .i64 t414] 62 (0, 0)) (zL13 BK416.out) hg (Kd.R_ne HO_12.out BK416.out (by decide))); have n5_ := Aside0.mk (hb); have n6_ := Aside0.mk (ho); clear ae; clear af; clear BK399; clear BK406; clear BK416; clear HB; clear HO_12; have ae := n0_; have af := n1_; have BK399 := n2_; have BK406 := n3_; have BK416 := n4_; have HB := n5_; have HO422 := n6_; clear n0_ n1_ n2_ n3_ n4_ n5_ n6_; clear ho hb hg hat))
         go_roundg k2
         case measure => have := HJ4.out; have := HK2.out; omega
         case rel => exact ⟨(y420), (wrap64 ((0 : Int) + 1)), z13_17, H', ⟨z13_20⟩, ⟨by (with_reducible repeat (first | apply Kd.R_alloc | apply Kd.R_drewN | apply Kd.R_drew)); exact HO422.out⟩, ⟨z13_8⟩, ⟨z13_12⟩, ⟨zL13 BK399.out⟩, ⟨zL13 BK406.out⟩, ⟨zL13 BK416.out⟩, ⟨z13_1⟩⟩
        ·rw [if_neg c38] at H
         clear c38
         by_cases c44 : x44_2 = 1
         ·rw [if_pos c44] at H
          subst c44
          replace H : (if x12_2.length < 17592186044416 then (impl_SpanBy.l0 k2 (x12_2 ++ [t408]) (l0.length : Int) (wrap64 ((1 : Int) + 1)) t407 t408 t409 t410 t411 t412 t413 t414) else (none)) = some (r1, r2) := H
          obtain ⟨c45, H⟩ := ifP H
          have LMc45 := Aside0.mk c45
          clear c45
          obtain ⟨y423, hy423⟩ : ∃ y_ : List Int, y_ = (x12_2 ++ [t408]) := ⟨_, rfl⟩
          replace H : (impl_SpanBy.l0 k2 y423 (l0.length : Int) (wrap64 ((1 : Int) + 1)) t407 t408 t409 t410 t411 t412 t413 t414) = some (r1, r2) := by first | (rw [hy423]; with_reducible exact H) | (have H2_ := (Option.bind_some _ _).symm.trans H; rw [hy423]; with_reducible exact H2_) | (have H2_ := (Option.bind_some _ _).symm.trans H; with_reducible exact H2_) | with_reducible exact H | (rw [hy423]; exact H) | exact H
          have Ny423 := Aside0.mk hy423
          clear hy423
          have H' := Aside0.mk H
          clear H
          have hnb46 := ac.out
          have hnc46 := aa.out
          have hnb47 := ad.out
          have hnc47 := ab.out
          have hcz48_1 : wr.cell? ⟨gb416, 1, none⟩ = some (.int .i64 t408) := bA13 BK416 rfl
          have hfz48_1 := blk_frozen BK416.out 1
          go_wp2_with (first | ((with_reducible refine gate_builtin (b := .append) (xs := #[.tmp 47, .tmp 51]) rfl ?_); at_builtin; refine Kd.R_append (Kd.int .i64) (w0 := w) w.heap.size rfl (.tmp 47) (.tmp 51) 28 3 (.int .i64 0) 8 rfl Try.underlying28 info3 rfl (by decide) (by omega) u12 x12_2 t408 [.int .i64 t408] (fun k_ => some k_ ≠ (v404 : Value).ownBlock) (fun _ => False) rfl rfl ?aP (fun _ hk => hk.elim) ?aF ?aO ?aB ?aS ?aL ?_; (case aP => exact rfl); (case aB => exact z13_1); (case aF => exact (fun k_ hk => Kd.fresh' (Kd.R_lt z13_13) k_ hk)); (case aO => exact z13_9); (case aS => exact (below_size z13_1)); (case aL => have := LMc45.out; omega); intro v424 w49 ho hb hg hat; rw [← Ny423.out] at ho; have n0_ := Aside0.mk (Kd.R_over' z13_8 (Kd.R_typed z13_9) (by decide) hg); have n1_ := Aside0.mk (Kd.R_after (ok := (fun _ => True)) z13_11 hg hat); have n2_ := Aside0.mk (blk_grown (g := gb399) (o := .cells #[.int .i64 t394, .int .i64 t395, .int .i64 t396, .int .i64 t397] 59 (0, 0)) (zL13 BK399.out) hg (Kd.R_ne HO_12.out BK399.out (by decide))); have n3_ := Aside0.mk (blk_grown (g := gb406) (o := .cells #[v401, v404] 54 (0, 0)) (zL13 BK406.out) hg (Kd.R_ne HO_12.out BK406.out (by decide))); have n4_ := Aside0.mk (blk_grown (g := gb416) (o := .cells #[.int .i64 t407, .int .i64 t408, .int .i64 t409, .int .i64 t410, .int .i64 t411, .int .i64 t412, .int .i64 t413, .int .i64 t414] 62 (0, 0)) (zL13 BK416.out) hg (Kd.R_ne HO_12.out BK416.out (by decide))); have n5_ := Aside0.mk (hb); have n6_ := Aside0.mk (ho); clear ae; clear af; clear BK399; clear BK406; clear BK416; clear HB; clear HO_12; have ae := n0_; have af := n1_; have BK399 := n2_; have BK406 := n3_; have BK416 := n4_; have HB := n5_; have HO425 := n6_; clear n0_ n1_ n2_ n3_ n4_ n5_ n6_; clear ho hb hg hat))
          go_roundg k2
          case measure => have := HJ4.out; have := HK2.out; omega
          case rel => exact ⟨(y423), (wrap64 ((1 : Int) + 1)), z13_17, H', ⟨z13_20⟩, ⟨by (with_reducible repeat (first | apply Kd.R_alloc | apply Kd.R_drewN | apply Kd.R_drew)); exact HO425.out⟩, ⟨z13_8⟩, ⟨z13_12⟩, ⟨zL13 BK399.out⟩, ⟨zL13 BK406.out⟩, ⟨zL13 BK416.out⟩, ⟨z13_1⟩⟩
         ·rw [if_neg c44] at H
          clear c44
          by_cases c50 : x44_2 = 2
          ·rw [if_pos c50] at H
           subst c50
           replace H : (if x12_2.length < 17592186044416 then (impl_SpanBy.l0 k2 (x12_2 ++ [t409]) (l0.length : Int) (wrap64 ((2 : Int) + 1)) t407 t408 t409 t410 t411 t412 t413 t414) else (none)) = some (r1, r2) := H
           obtain ⟨c51, H⟩ := ifP H
           have LMc51 := Aside0.mk c51
           clear c51
           obtain ⟨y426, hy426⟩ : ∃ y_ : List Int, y_ = (x12_2 ++ [t409]) := ⟨_, rfl⟩
           replace H : (impl_SpanBy.l0 k2 y426 (l0.length : Int) (wrap64 ((2 : Int) + 1)) t407 t408 t409 t410 t411 t412 t413 t414) = some (r1, r2) := by first | (rw [hy426]; with_reducible exact H) | (have H2_ := (Option.bind_some _ _).symm.trans H; rw [hy426]; with_reducible exact H2_) | (have H2_ := (Option.bind_some _ _).symm.trans H; with_reducible exact H2_) | with_reducible exact H | (rw [hy426]; exact H) | exact H
           have Ny426 := Aside0.mk hy426
           clear hy426
           have H' := Aside0.mk H
           clear H
           have hnb52 := ac.out
           have hnc52 := aa.out
           have hnb53 := ad.out
           have hnc53 := ab.out
           have hcz54_2 : wr.cell? ⟨gb416, 2, none⟩ = some (.int .i64 t409) := bA13 BK416 rfl
           have hfz54_2 := blk_frozen BK416.out 2
           go_wp2_with (first | ((with_reducible refine gate_builtin (b := .append) (xs := #[.tmp 47, .tmp 51]) rfl ?_); at_builtin; refine Kd.R_append (Kd.int .i64) (w0 := w) w.heap.size rfl (.tmp 47) (.tmp 51) 28 3 (.int .i64 0) 8 rfl Try.underlying28 info3 rfl (by decide) (by omega) u12 x12_2 t409 [.int .i64 t409] (fun k_ => some k_ ≠ (v404 : Value).ownBlock) (fun _ => False) rfl rfl ?aP (fun _ hk => hk.elim) ?aF ?aO ?aB ?aS ?aL ?_; (case aP => exact rfl); (case aB => exact z13_1); (case aF => exact (fun k_ hk => Kd.fresh' (Kd.R_lt z13_13) k_ hk)); (case aO => exact z13_9); (case aS => exact (below_size z13_1)); (case aL => have := LMc51.out; omega); intro v427 w55 ho hb hg hat; rw [← Ny426.out] at ho; have n0_ := Aside0.mk (Kd.R_over' z13_8 (Kd.R_typed z13_9) (by decide) hg); have n1_ := Aside0.mk (Kd.R_after (ok := (fun _ => True)) z13_11 hg hat); have n2_ := Aside0.mk (blk_grown (g := gb399) (o := .cells #[.int .i64 t394, .int .i64 t395, .int .i64 t396, .int .i64 t397] 59 (0, 0)) (zL13 BK399.out) hg (Kd.R_ne HO_12.out BK399.out (by decide))); have n3_ := Aside0.mk (blk_grown (g := gb406) (o := .cells #[v401, v404] 54 (0, 0)) (zL13 BK406.out) hg (Kd.R_ne HO_12.out BK406.out (by decide))); have n4_ := Aside0.mk (blk_grown (g := gb416) (o := .cells #[.int .i64 t407, .int .i64 t408, .int .i64 t409, .int .i64 t410, .int .i64 t411, .int .i64 t412, .int .i64 t413, .int .i64 t414] 62 (0, 0)) (zL13 BK416.out) hg (Kd.R_ne HO_12.out BK416.out (by decide))); have n5_ := Aside0.mk (hb); have n6_ := Aside0.mk (ho); clear ae; clear af; clear BK399; clear BK406; clear BK416; clear HB; clear HO_12; have ae := n0_; have af := n1_; have BK399 := n2_; have BK406 := n3_; have BK416 := n4_; have HB := n5_; have HO428 := n6_; clear n0_ n1_ n2_ n3_ n4_ n5_ n6_; clear ho hb hg hat))
           go_roundg k2
           case measure => have := HJ4.out; have := HK2.out; omega
           case rel => exact ⟨(y426), (wrap64 ((2 : Int) + 1)), z13_17, H', ⟨z13_20⟩, ⟨by (with_reducible repeat (first | apply Kd.R_alloc | apply Kd.R_drewN | apply Kd.R_drew)); exact HO428.out⟩, ⟨z13_8⟩, ⟨z13_12⟩, ⟨zL13 BK399.out⟩, ⟨zL13 BK406.out⟩, ⟨zL13 BK416.out⟩, ⟨z13_1⟩⟩
          ·rw [if_neg c50] at H
           clear c50
           by_cases c56 : x44_2 = 3
           ·rw [if_pos c56] at H
            subst c56
            replace H : (if x12_2.length < 17592186044416 then (impl_SpanBy.l0 k2 (x12_2 ++ [t410]) (l0.length : Int) (wrap64 ((3 : Int) + 1)) t407 t408 t409 t410 t411 t412 t413 t414) else (none)) = some (r1, r2) := H
            obtain ⟨c57, H⟩ := ifP H
            have LMc57 := Aside0.mk c57
            clear c57
            obtain ⟨y429, hy429⟩ : ∃ y_ : List Int, y_ = (x12_2 ++ [t410]) := ⟨_, rfl⟩
            replace H : (impl_SpanBy.l0 k2 y429 (l0.length : Int) (wrap64 ((3 : Int) + 1)) t407 t408 t409 t410 t411 t412 t413 t414) = some (r1, r2) := by first | (rw [hy429]; with_reducible exact H) | (have H2_ := (Option.bind_some _ _).symm.trans H; rw [hy429]; with_reducible exact H2_) | (have H2_ := (Option.bind_some _ _).symm.trans H; with_reducible exact H2_) | with_reducible exact H | (rw [hy429]; exact H) | exact H
            have Ny429 := Aside0.mk hy429
            clear hy429
            have H' := Aside0.mk H
            clear H
            have hnb58 := ac.out
            have hnc58 := aa.out
            have hnb59 := ad.out
            have hnc59 := ab.out
            have hcz60_3 : wr.cell? ⟨gb416, 3, none⟩ = some (.int .i64 t410) := bA13 BK416 rfl
            have hfz60_3 := blk_frozen BK416.out 3
            go_wp2_with (first | ((with_reducible refine gate_builtin (b := .append) (xs := #[.tmp 47, .tmp 51]) rfl ?_); at_builtin; refine Kd.R_append (Kd.int .i64) (w0 := w) w.heap.size rfl (.tmp 47) (.tmp 51) 28 3 (.int .i64 0) 8 rfl Try.underlying28 info3 rfl (by decide) (by omega) u12 x12_2 t410 [.int .i64 t410] (fun k_ => some k_ ≠ (v404 : Value).ownBlock) (fun _ => False) rfl rfl ?aP (fun _ hk => hk.elim) ?aF ?aO ?aB ?aS ?aL ?_; (case aP => exact rfl); (case aB => exact z13_1); (case aF => exact (fun k_ hk => Kd.fresh' (Kd.R_lt z13_13) k_ hk)); (case aO => exact z13_9); (case aS => exact (below_size z13_1)); (case aL => have := LMc57.out; omega); intro v430 w61 ho hb hg hat; rw [← Ny429.out] at ho; have n0_ := Aside0.mk (Kd.R_over' z13_8 (Kd.R_typed z13_9) (by decide) hg); have n1_ := Aside0.mk (Kd.R_after (ok := (fun _ => True)) z13_11 hg hat); have n2_ := Aside0.mk (blk_grown (g := gb399) (o := .cells #[.int .i64 t394, .int .i64 t395, .int .i64 t396, .int .i64 t397] 59 (0, 0)) (zL13 BK399.out) hg (Kd.R_ne HO_12.out BK399.out (by decide))); have n3_ := Aside0.mk (blk_grown (g := gb406) (o := .cells #[v401, v404] 54 (0, 0)) (zL13 BK406.out) hg (Kd.R_ne HO_12.out BK406.out (by decide))); have n4_ := Aside0.mk (blk_grown (g := gb416) (o := .cells #[.int .i64 t407, .int .i64 t408, .int .i64 t409, .int .i64 t410, .int .i64 t411, .int .i64 t412, .int .i64 t413, .int .i64 t414] 62 (0, 0)) (zL13 BK416.out) hg (Kd.R_ne HO_12.out BK416.out (by decide))); have n5_ := Aside0.mk (hb); have n6_ := Aside0.mk (ho); clear ae; clear af; clear BK399; clear BK406; clear BK416; clear HB; clear HO_12; have ae := n0_; have af := n1_; have BK399 := n2_; have BK406 := n3_; have BK416 := n4_; have HB := n5_; have HO431 := n6_; clear n0_ n1_ n2_ n3_ n4_ n5_ n6_; clear ho hb hg hat))
            go_roundg k2
            case measure => have := HJ4.out; have := HK2.out; omega
            case rel => exact ⟨(y429), (wrap64 ((3 : Int) + 1)), z13_17, H', ⟨z13_20⟩, ⟨by (with_reducible repeat (first | apply Kd.R_alloc | apply Kd.R_drewN | apply Kd.R_drew)); exact HO431.out⟩, ⟨z13_8⟩, ⟨z13_12⟩, ⟨zL13 BK399.out⟩, ⟨zL13 BK406.out⟩, ⟨zL13 BK416.out⟩, ⟨z13_1⟩⟩
           ·rw [if_neg c56] at H
            clear c56
            by_cases c62 : x44_2 = 4
            ·rw [if_pos c62] at H
             subst c62
             replace H : (if x12_2.length < 17592186044416 then (impl_SpanBy.l0 k2 (x12_2 ++ [t411]) (l0.length : Int) (wrap64 ((4 : Int) + 1)) t407 t408 t409 t410 t411 t412 t413 t414) else (none)) = some (r1, r2) := H
             obtain ⟨c63, H⟩ := ifP H
             have LMc63 := Aside0.mk c63
             clear c63
             obtain ⟨y432, hy432⟩ : ∃ y_ : List Int, y_ = (x12_2 ++ [t411]) := ⟨_, rfl⟩
             replace H : (impl_SpanBy.l0 k2 y432 (l0.length : Int) (wrap64 ((4 : Int) + 1)) t407 t408 t409 t410 t411 t412 t413 t414) = some (r1, r2) := by first | (rw [hy432]; with_reducible exact H) | (have H2_ := (Option.bind_some _ _).symm.trans H; rw [hy432]; with_reducible exact H2_) | (have H2_ := (Option.bind_some _ _).symm.trans H; with_reducible exact H2_) | with_reducible exact H | (rw [hy432]; exact H) | exact H
             have Ny432 := Aside0.mk hy432
             clear hy432
             have H' := Aside0.mk H
             clear H
             have hnb64 := ac.out
             have hnc64 := aa.out
             have hnb65 := ad.out
             have hnc65 := ab.out
             have hcz66_4 : wr.cell? ⟨gb416, 4, none⟩ = some (.int .i64 t411) := bA13 BK416 rfl
             have hfz66_4 := blk_frozen BK416.out 4
             go_wp2_with (first | ((with_reducible refine gate_builtin (b := .append) (xs := #[.tmp 47, .tmp 51]) rfl ?_); at_builtin; refine Kd.R_append (Kd.int .i64) (w0 := w) w.heap.size rfl (.tmp 47) (.tmp 51) 28 3 (.int .i64 0) 8 rfl Try.underlying28 info3 rfl (by decide) (by omega) u12 x12_2 t411 [.int .i64 t411] (fun k_ => some k_ ≠ (v404 : Value).ownBlock) (fun _ => False) rfl rfl ?aP (fun _ hk => hk.elim) ?aF ?aO ?aB ?aS ?aL ?_; (case aP => exact rfl); (case aB => exact z13_1); (case aF => exact (fun k_ hk => Kd.fresh' (Kd.R_lt z13_13) k_ hk)); (case aO => exact z13_9); (case aS => exact (below_size z13_1)); (case aL => have := LMc63.out; omega); intro v433 w67 ho hb hg hat; rw [← Ny432.out] at ho; have n0_ := Aside0.mk (Kd.R_over' z13_8 (Kd.R_typed z13_9) (by decide) hg); have n1_ := Aside0.mk (Kd.R_after (ok := (fun _ => True)) z13_11 hg hat); have n2_ := Aside0.mk (blk_grown (g := gb399) (o := .cells #[.int .i64 t394, .int .i64 t395, .int .i64 t396, .int .i64 t397] 59 (0, 0)) (zL13 BK399.out) hg (Kd.R_ne HO_12.out BK399.out (by decide))); have n3_ := Aside0.mk (blk_grown (g := gb406) (o := .cells #[v401, v404] 54 (0, 0)) (zL13 BK406.out) hg (Kd.R_ne HO_12.out BK406.out (by decide))); have n4_ := Aside0.mk (blk_grown (g := gb416) (o := .cells #[.int .i64 t407, .int .i64 t408, .int .i64 t409, .int .i64 t410, .int .i64 t411, .int .i64 t412, .int .i64 t413, .int .i64 t414] 62 (0, 0)) (zL13 BK416.out) hg (Kd.R_ne HO_12.out BK416.out (by decide))); have n5_ := Aside0.mk (hb); have n6_ := Aside0.mk (ho); clear ae; clear af; clear BK399; clear BK406; clear BK416; clear HB; clear HO_12; have ae := n0_; have af := n1_; have BK399 := n2_; have BK406 := n3_; have BK416 := n4_; have HB := n5_; have HO434 := n6_; clear n0_ n1_ n2_ n3_ n4_ n5_ n6_; clear ho hb hg hat))
             go_roundg k2
             case measure => have := HJ4.out; have := HK2.out; omega
             case rel => exact ⟨(y432), (wrap64 ((4 : Int) + 1)), z13_17, H', ⟨z13_20⟩, ⟨by (with_reducible repeat (first | apply Kd.R_alloc | apply Kd.R_drewN | apply Kd.R_drew)); exact HO434.out⟩, ⟨z13_8⟩, ⟨z13_12⟩, ⟨zL13 BK399.out⟩, ⟨zL13 BK406.out⟩, ⟨zL13 BK416.out⟩, ⟨z13_1⟩⟩
            ·rw [if_neg c62] at H
             clear c62
             by_cases c68 : x44_2 = 5
             ·rw [if_pos c68] at H
              subst c68
              replace H : (if x12_2.length < 17592186044416 then (impl_SpanBy.l0 k2 (x12_2 ++ [t412]) (l0.length : Int) (wrap64 ((5 : Int) + 1)) t407 t408 t409 t410 t411 t412 t413 t414) else (none)) = some (r1, r2) := H
              obtain ⟨c69, H⟩ := ifP H
              have LMc69 := Aside0.mk c69
              clear c69
              obtain ⟨y435, hy435⟩ : ∃ y_ : List Int, y_ = (x12_2 ++ [t412]) := ⟨_, rfl⟩
              replace H : (impl_SpanBy.l0 k2 y435 (l0.length : Int) (wrap64 ((5 : Int) + 1)) t407 t408 t409 t410 t411 t412 t413 t414) = some (r1, r2) := by first | (rw [hy435]; with_reducible exact H) | (have H2_ := (Option.bind_some _ _).symm.trans H; rw [hy435]; with_reducible exact H2_) | (have H2_ := (Option.bind_some _ _).symm.trans H; with_reducible exact H2_) | with_reducible exact H | (rw [hy435]; exact H) | exact H
              have Ny435 := Aside0.mk hy435
              clear hy435
              have H' := Aside0.mk H
              clear H
              have hnb70 := ac.out
              have hnc70 := aa.out
              have hnb71 := ad.out
              have hnc71 := ab.out
              have hcz72_5 : wr.cell? ⟨gb416, 5, none⟩ = some (.int .i64 t412) := bA13 BK416 rfl
              have hfz72_5 := blk_frozen BK416.out 5
              go_wp2_with (first | ((with_reducible refine gate_builtin (b := .append) (xs := #[.tmp 47, .tmp 51]) rfl ?_); at_builtin; refine Kd.R_append (Kd.int .i64) (w0 := w) w.heap.size rfl (.tmp 47) (.tmp 51) 28 3 (.int .i64 0) 8 rfl Try.underlying28 info3 rfl (by decide) (by omega) u12 x12_2 t412 [.int .i64 t412] (fun k_ => some k_ ≠ (v404 : Value).ownBlock) (fun _ => False) rfl rfl ?aP (fun _ hk => hk.elim) ?aF ?aO ?aB ?aS ?aL ?_; (case aP => exact rfl); (case aB => exact z13_1); (case aF => exact (fun k_ hk => Kd.fresh' (Kd.R_lt z13_13) k_ hk)); (case aO => exact z13_9); (case aS => exact (below_size z13_1)); (case aL => have := LMc69.out; omega); intro v436 w73 ho hb hg hat; rw [← Ny435.out] at ho; have n0_ := Aside0.mk (Kd.R_over' z13_8 (Kd.R_typed z13_9) (by decide) hg); have n1_ := Aside0.mk (Kd.R_after (ok := (fun _ => True)) z13_11 hg hat); have n2_ := Aside0.mk (blk_grown (g := gb399) (o := .cells #[.int .i64 t394, .int .i64 t395, .int .i64 t396, .int .i64 t397] 59 (0, 0)) (zL13 BK399.out) hg (Kd.R_ne HO_12.out BK399.out (by decide))); have n3_ := Aside0.mk (blk_grown (g := gb406) (o := .cells #[v401, v404] 54 (0, 0)) (zL13 BK406.out) hg (Kd.R_ne HO_12.out BK406.out (by decide))); have n4_ := Aside0.mk (blk_grown (g := gb416) (o := .cells #[.int .i64 t407, .int .i64 t408, .int .i64 t409, .int .i64 t410, .int .i64 t411, .int .i64 t412, .int .i64 t413, .int .i64 t414] 62 (0, 0)) (zL13 BK416.out) hg (Kd.R_ne HO_12.out BK416.out (by decide))); have n5_ := Aside0.mk (hb); have n6_ := Aside0.mk (ho); clear ae; clear af; clear BK399; clear BK406; clear BK416; clear HB; clear HO_12; have ae := n0_; have af := n1_; have BK399 := n2_; have BK406 := n3_; have BK416 := n4_; have HB := n5_; have HO437 := n6_; clear n0_ n1_ n2_ n3_ n4_ n5_ n6_; clear ho hb hg hat))
              go_roundg k2
              case measure => have := HJ4.out; have := HK2.out; omega
              case rel => exact ⟨(y435), (wrap64 ((5 : Int) + 1)), z13_17, H', ⟨z13_20⟩, ⟨by (with_reducible repeat (first | apply Kd.R_alloc | apply Kd.R_drewN | apply Kd.R_drew)); exact HO437.out⟩, ⟨z13_8⟩, ⟨z13_12⟩, ⟨zL13 BK399.out⟩, ⟨zL13 BK406.out⟩, ⟨zL13 BK416.out⟩, ⟨z13_1⟩⟩
             ·rw [if_neg c68] at H
              clear c68
              by_cases c74 : x44_2 = 6
              ·rw [if_pos c74] at H
               subst c74
               replace H : (if x12_2.length < 17592186044416 then (impl_SpanBy.l0 k2 (x12_2 ++ [t413]) (l0.length : Int) (wrap64 ((6 : Int) + 1)) t407 t408 t409 t410 t411 t412 t413 t414) else (none)) = some (r1, r2) := H
               obtain ⟨c75, H⟩ := ifP H
               have LMc75 := Aside0.mk c75
               clear c75
               obtain ⟨y438, hy438⟩ : ∃ y_ : List Int, y_ = (x12_2 ++ [t413]) := ⟨_, rfl⟩
               replace H : (impl_SpanBy.l0 k2 y438 (l0.length : Int) (wrap64 ((6 : Int) + 1)) t407 t408 t409 t410 t411 t412 t413 t414) = some (r1, r2) := by first | (rw [hy438]; with_reducible exact H) | (have H2_ := (Option.bind_some _ _).symm.trans H; rw [hy438]; with_reducible exact H2_) | (have H2_ := (Option.bind_some _ _).symm.trans H; with_reducible exact H2_) | with_reducible exact H | (rw [hy438]; exact H) | exact H
               have Ny438 := Aside0.mk hy438
               clear hy438
               have H' := Aside0.mk H
               clear H
               have hnb76 := ac.out
               have hnc76 := aa.out
               have hnb77 := ad.out
               have hnc77 := ab.out
               have hcz78_6 : wr.cell? ⟨gb416, 6, none⟩ = some (.int .i64 t413) := bA13 BK416 rfl
               have hfz78_6 := blk_frozen BK416.out 6
               go_wp2_with (first | ((with_reducible refine gate_builtin (b := .append) (xs := #[.tmp 47, .tmp 51]) rfl ?_); at_builtin; refine Kd.R_append (Kd.int .i64) (w0 := w) w.heap.size rfl (.tmp 47) (.tmp 51) 28 3 (.int .i64 0) 8 rfl Try.underlying28 info3 rfl (by decide) (by omega) u12 x12_2 t413 [.int .i64 t413] (fun k_ => some k_ ≠ (v404 : Value).ownBlock) (fun _ => False) rfl rfl ?aP (fun _ hk => hk.elim) ?aF ?aO ?aB ?aS ?aL ?_; (case aP => exact rfl); (case aB => exact z13_1); (case aF => exact (fun k_ hk => Kd.fresh' (Kd.R_lt z13_13) k_ hk)); (case aO => exact z13_9); (case aS => exact (below_size z13_1)); (case aL => have := LMc75.out; omega); intro v439 w79 ho hb hg hat; rw [← Ny438.out] at ho; have n0_ := Aside0.mk (Kd.R_over' z13_8 (Kd.R_typed z13_9) (by decide) hg); have n1_ := Aside0.mk (Kd.R_after (ok := (fun _ => True)) z13_11 hg hat); have n2_ := Aside0.mk (blk_grown (g := gb399) (o := .cells #[.int .i64 t394, .int .i64 t395, .int .i64 t396, .int .i64 t397] 59 (0, 0)) (zL13 BK399.out) hg (Kd.R_ne HO_12.out BK399.out (by decide))); have n3_ := Aside0.mk (blk_grown (g := gb406) (o := .cells #[v401, v404] 54 (0, 0)) (zL13 BK406.out) hg (Kd.R_ne HO_12.out BK406.out (by decide))); have n4_ := Aside0.mk (blk_grown (g := gb416) (o := .cells #[.int .i64 t407, .int .i64 t408, .int .i64 t409, .int .i64 t410, .int .i64 t411, .int .i64 t412, .int .i64 t413, .int .i64 t414] 62 (0, 0)) (zL13 BK416.out) hg (Kd.R_ne HO_12.out BK416.out (by decide))); have n5_ := Aside0.mk (hb); have n6_ := Aside0.mk (ho); clear ae; clear af; clear BK399; clear BK406; clear BK416; clear HB; clear HO_12; have ae := n0_; have af := n1_; have BK399 := n2_; have BK406 := n3_; have BK416 := n4_; have HB := n5_; have HO440 := n6_; clear n0_ n1_ n2_ n3_ n4_ n5_ n6_; clear ho hb hg hat))
               go_roundg k2
               case measure => have := HJ4.out; have := HK2.out; omega
               case rel => exact ⟨(y438), (wrap64 ((6 : Int) + 1)), z13_17, H', ⟨z13_20⟩, ⟨by (with_reducible repeat (first | apply Kd.R_alloc | apply Kd.R_drewN | apply Kd.R_drew)); exact HO440.out⟩, ⟨z13_8⟩, ⟨z13_12⟩, ⟨zL13 BK399.out⟩, ⟨zL13 BK406.out⟩, ⟨zL13 BK416.out⟩, ⟨z13_1⟩⟩
              ·rw [if_neg c74] at H
               clear c74
               obtain ⟨c80, H⟩ := ifP H
               subst c80
               replace H : (if x12_2.length < 17592186044416 then (impl_SpanBy.l0 k2 (x12_2 ++ [t414]) (l0.length : Int) (wrap64 ((7 : Int) + 1)) t407 t408 t409 t410 t411 t412 t413 t414) else (none)) = some (r1, r2) := H
               obtain ⟨c81, H⟩ := ifP H
               have LMc81 := Aside0.mk c81
               clear c81
               obtain ⟨y441, hy441⟩ : ∃ y_ : List Int, y_ = (x12_2 ++ [t414]) := ⟨_, rfl⟩
               replace H : (impl_SpanBy.l0 k2 y441 (l0.length : Int) (wrap64 ((7 : Int) + 1)) t407 t408 t409 t410 t411 t412 t413 t414) = some (r1, r2) := by first | (rw [hy441]; with_reducible exact H) | (have H2_ := (Option.bind_some _ _).symm.trans H; rw [hy441]; with_reducible exact H2_) | (have H2_ := (Option.bind_some _ _).symm.trans H; with_reducible exact H2_) | with_reducible exact H | (rw [hy441]; exact H) | exact H
               have Ny441 := Aside0.mk hy441
               clear hy441
               have H' := Aside0.mk H
               clear H
               have hnb82 := ac.out
               have hnc82 := aa.out
               have hnb83 := ad.out
               have hnc83 := ab.out
               have hcz84_7 : wr.cell? ⟨gb416, 7, none⟩ = some (.int .i64 t414) := bA13 BK416 rfl
               have hfz84_7 := blk_frozen BK416.out 7
               go_wp2_with (first | ((with_reducible refine gate_builtin (b := .append) (xs := #[.tmp 47, .tmp 51]) rfl ?_); at_builtin; refine Kd.R_append (Kd.int .i64) (w0 := w) w.heap.size rfl (.tmp 47) (.tmp 51) 28 3 (.int .i64 0) 8 rfl Try.underlying28 info3 rfl (by decide) (by omega) u12 x12_2 t414 [.int .i64 t414] (fun k_ => some k_ ≠ (v404 : Value).ownBlock) (fun _ => False) rfl rfl ?aP (fun _ hk => hk.elim) ?aF ?aO ?aB ?aS ?aL ?_; (case aP => exact rfl); (case aB => exact z13_1); (case aF => exact (fun k_ hk => Kd.fresh' (Kd.R_lt z13_13) k_ hk)); (case aO => exact z13_9); (case aS => exact (below_size z13_1)); (case aL => have := LMc81.out; omega); intro v442 w85 ho hb hg hat; rw [← Ny441.out] at ho; have n0_ := Aside0.mk (Kd.R_over' z13_8 (Kd.R_typed z13_9) (by decide) hg); have n1_ := Aside0.mk (Kd.R_after (ok := (fun _ => True)) z13_11 hg hat); have n2_ := Aside0.mk (blk_grown (g := gb399) (o := .cells #[.int .i64 t394, .int .i64 t395, .int .i64 t396, .int .i64 t397] 59 (0, 0)) (zL13 BK399.out) hg (Kd.R_ne HO_12.out BK399.out (by decide))); have n3_ := Aside0.mk (blk_grown (g := gb406) (o := .cells #[v401, v404] 54 (0, 0)) (zL13 BK406.out) hg (Kd.R_ne HO_12.out BK406.out (by decide))); have n4_ := Aside0.mk (blk_grown (g := gb416) (o := .cells #[.int .i64 t407, .int .i64 t408, .int .i64 t409, .int .i64 t410, .int .i64 t411, .int .i64 t412, .int .i64 t413, .int .i64 t414] 62 (0, 0)) (zL13 BK416.out) hg (Kd.R_ne HO_12.out BK416.out (by decide))); have n5_ := Aside0.mk (hb); have n6_ := Aside0.mk (ho); clear ae; clear af; clear BK399; clear BK406; clear BK416; clear HB; clear HO_12; have ae := n0_; have af := n1_; have BK399 := n2_; have BK406 := n3_; have BK416 := n4_; have HB := n5_; have HO443 := n6_; clear n0_ n1_ n2_ n3_ n4_ n5_ n6_; clear ho hb hg hat))
               go_roundg k2
               case measure => have := HJ4.out; have := HK2.out; omega
               case rel => exact ⟨(y441), (wrap64 ((7 : Int) + 1)), z13_17, H', ⟨z13_20⟩, ⟨by (with_reducible repeat (first | apply Kd.R_alloc | apply Kd.R_drewN | apply Kd.R_drew)); exact HO443.out⟩, ⟨z13_8⟩, ⟨z13_12⟩, ⟨zL13 BK399.out⟩, ⟨zL13 BK406.out⟩, ⟨zL13 BK416.out⟩, ⟨z13_1⟩⟩
       ·rw [if_neg c37] at H
        have c37b0 : decide (x44_2 < (l0.length : Int)) = false := decide_eq_false c37
        clear c37
        simp only [Option.some.injEq, Prod.mk.injEq] at H
        obtain ⟨rfl, rfl⟩ := H
        go_wp2
        go_ret2
        exact ⟨_, z13_21, by (with_reducible repeat (first | apply Kd.R_alloc | apply Kd.R_drewN | apply Kd.R_drew)); exact Kd.R_mono HO_12.out (fun _ hk => trivial), z13_1⟩
    ·replace c18 := Bool.eq_false_iff.mpr c18
     subst c18
     have H1 : (some (([] : List Int), false)) = some (r1, r2) := by rw [if_neg (show ¬ (false = true) by decide)] at H; exact H
     clear H
     have H := H1
     clear H1
     simp only [Option.some.injEq, Prod.mk.injEq] at H
     obtain ⟨rfl, rfl⟩ := H
     obtain ⟨Ao86, co86, eo86⟩ := Kd.R_slice HO_6.out
     subst eo86
     try go_wp2
     replace HO_6 := Aside0.mk (Kd.R_drew HO_6.out)
     replace BK399 := Aside0.mk (blk_drew BK399.out)
     replace HB := Aside0.mk (below_drew1 HB.out)
     refine start_ (n := 10) (S := fun w' => w'.cell? ⟨gb399, 0, none⟩ = some (.int .i64 t394) ∧ w'.cell? ⟨gb399, 1, none⟩ = some (.int .i64 t395) ∧ w'.cell? ⟨gb399, 2, none⟩ = some (.int .i64 t396) ∧ w'.cell? ⟨gb399, 3, none⟩ = some (.int .i64 t397)) (ds := []) #[false, false, false, false, false, false, false, false, false, false] (by kernel_rfl) rfl rfl ⟨bA13 BK399 rfl, bA13 BK399 rfl, bA13 BK399 rfl, bA13 BK399 rfl⟩ (fun hHeld => ?_); refine with_tabW impl_SpanBy.tab5 impl_SpanBy.bits5 (fun HT_ HW_ => ?_)
     generalize wc.drew = w87 at HO_6 BK399 HB hHeld ⊢
     refine pZ 0 HT_ ?_
     refine tZ 2 hHeld HT_ HW_ ?_
     refine join_ (σ := Nat × Value × Value × Nat) 2 #[true, true, true, true, true, true, true, true, false, false] (fun s_ => [(32, .pointer (some ⟨s_.1, 0, none⟩)), (34, .tuple #[.agg #[.int .i64 t407, .int .i64 t408, .int .i64 t409, .int .i64 t410, .int .i64 t411, .int .i64 t412, .int .i64 t413, .int .i64 t414], .bool false]), (10, .pointer (some ⟨s_.2.2.2, 0, none⟩)), (30, .tuple #[.agg #[.int .i64 t407, .int .i64 t408, .int .i64 t409, .int .i64 t410, .int .i64 t411, .int .i64 t412, .int .i64 t413, .int .i64 t414], .bool false]), (35, .agg #[.int .i64 t407, .int .i64 t408, .int .i64 t409, .int .i64 t410, .int .i64 t411, .int .i64 t412, .int .i64 t413, .int .i64 t414]), (36, .bool false)]) (fun s_ w' => (w'.cell? ⟨gb399, 0, none⟩ = some (.int .i64 t394) ∧ w'.cell? ⟨gb399, 1, none⟩ = some (.int .i64 t395) ∧ w'.cell? ⟨gb399, 2, none⟩ = some (.int .i64 t396) ∧ w'.cell? ⟨gb399, 3, none⟩ = some (.int .i64 t397)) ∧ (Kd.R k77 77 w' w.heap.size (fun _ => True) s_.2.1 t400) ∧ (Kd.R (Kd.int .i64) 3 w' w.heap.size (fun _ => True) s_.2.2.1 t403) ∧ (Kd.R k59 59 w' w.heap.size (fun k_ => k_ ≠ gb399) (.slice Ao86 t390.length co86) t390) ∧ (w'.heap[gb399]? = some (.cells #[.int .i64 t394, .int .i64 t395, .int .i64 t396, .int .i64 t397] 59 (0, 0))) ∧ (w'.heap[s_.1]? = some (.cells #[s_.2.1, s_.2.2.1] 54 (0, 0))) ∧ (w'.heap[s_.2.2.2]? = some (.cells #[.int .i64 0, .int .i64 0, .int .i64 0, .int .i64 0, .int .i64 0, .int .i64 0, .int .i64 0, .int .i64 0] 62 (0, 0))) ∧ (w.heap.size ≤ s_.1) ∧ (w.heap.size ≤ s_.1) ∧ (gb399 ≠ s_.1) ∧ (s_.1 ≠ gb399) ∧ (s_.2.2.2 ≠ s_.1) ∧ (s_.1 ≠ s_.2.2.2) ∧ (w.heap.size ≤ s_.2.2.2) ∧ (w.heap.size ≤ s_.2.2.2) ∧ (gb399 ≠ s_.2.2.2) ∧ (s_.2.2.2 ≠ gb399) ∧ (Below w.heap.size w w')) ?_ ?_
     rotate_left
     ·intro hCont
      refine two_ (i := 1) (j := 7) (Ni := some 32) (Nj := some 10) #[true, true, true, false, false, false, false, false, false, false] #[true, false, true, false, false, false, false, true, false, false] rfl rfl rfl rfl (two_of HT_.out (by kernel_rfl)) (by decide) (by decide) (fun K hK => ?_) (fun K hK => ?_)
      ·skip
       refine goes_ Try.func54 (by kernel_rfl) rfl #[.slice Ao86 t390.length co86] (by rfl) rfl rfl z13_10 ?_
       with_reducible refine (impl_spanOf.calls kj4 _ _ t390 t400 t403 _ ?side1 ?side2 A16.out).mono ?_
       (case side1 => exact cZ ((Kd.R_reads' HO_6.out).2.2))
       (case side2 => exact (Kd.R_reads' HO_6.out).2.1)
       rintro e w88 ⟨v401, v404, gb406, rfl, hbox, hgr, ho0, ho1, hb⟩
       refine ⟨_, rfl, ?_⟩
       replace HO_6 := Aside0.mk (Kd.R_below z13_6 hb)
       have HO402 := Aside0.mk (Kd.R_lower ho0 (below_size z13_2))
       have HO405 := Aside0.mk (Kd.R_lower ho1 (below_size z13_2))
       have BK406 := Aside0.mk (hbox)
       have GW406 := Aside0.mk ((Nat.le_trans ((below_size z13_2) : w.heap.size ≤ _) hgr : w.heap.size ≤ gb406))
       have GE406 := Aside0.mk ((Nat.le_trans ((below_size z13_2) : w.heap.size ≤ _) hgr : w.heap.size ≤ gb406))
       have ag := Aside0.mk ((Nat.ne_of_lt (Nat.lt_of_lt_of_le (blk_lt (g := gb399) (o := .cells #[.int .i64 t394, .int .i64 t395, .int .i64 t396, .int .i64 t397] 59 (0, 0)) (zL13 BK399.out)) hgr) : gb399 ≠ gb406))
       have ah := Aside0.mk ((Nat.ne_of_gt (Nat.lt_of_lt_of_le (blk_lt (g := gb399) (o := .cells #[.int .i64 t394, .int .i64 t395, .int .i64 t396, .int .i64 t397] 59 (0, 0)) (zL13 BK399.out)) hgr) : gb406 ≠ gb399))
       replace BK399 := Aside0.mk (blk_below (g := gb399) (o := .cells #[.int .i64 t394, .int .i64 t395, .int .i64 t396, .int .i64 t397] 59 (0, 0)) (zL13 BK399.out) hb)
       replace HB := Aside0.mk (below_step z13_2 hb)
       (try clear hb)
       (try clear hb2)
       (try clear hk)
       (try clear hi)
       (try clear ho0)
       (try clear ho1)
       refine hK.out _ _ ⟨bA13 BK399 rfl, bA13 BK399 rfl, bA13 BK399 rfl, bA13 BK399 rfl⟩ (fun hHeld => ?_)
       clear hK K
       refine nZ ?_
       refine two_ (i := 3) (j := 7) (Ni := some 34) (Nj := some 10) #[true, true, true, true, false, false, false, false, false, false] #[true, true, true, false, false, false, false, true, false, false] rfl rfl rfl rfl (two_of HT_.out (by kernel_rfl)) (by decide) (by decide) (fun K hK => ?_) (fun K hK => ?_)
       ·skip
        refine goes_ Try.func57 (by kernel_rfl) rfl #[.pointer (some ⟨gb406, 0, none⟩), .agg #[.int .i64 t394, .int .i64 t395, .int .i64 t396, .int .i64 t397]] (by rfl) rfl rfl z13_10 ?_
        with_reducible refine (impl_span_byB.calls kj4 v401 t400 v404 t403 t394 t395 t396 t397 t407 t408 t409 t410 t411 t412 t413 t414 false _ ?side1 ?side2 ?side3 A17.out).mono ?_
        (case side1 => (with_reducible repeat first|refine blk_drewN ?_ _|refine blk_drew ?_|refine blk_alloc ?_ _); exact BK406.out)
        (case side2 => exact own_open z13_4)
        (case side3 => exact own_open z13_5)
        rintro e w89 ⟨rfl, hb⟩
        refine ⟨_, rfl, ?_⟩
        replace HO_6 := Aside0.mk (Kd.R_below z13_6 hb)
        replace HO402 := Aside0.mk (Kd.R_below z13_4 hb)
        replace HO405 := Aside0.mk (Kd.R_below z13_5 hb)
        replace BK399 := Aside0.mk (blk_below (g := gb399) (o := .cells #[.int .i64 t394, .int .i64 t395, .int .i64 t396, .int .i64 t397] 59 (0, 0)) (zL13 BK399.out) hb)
        replace BK406 := Aside0.mk (blk_below (g := gb406) (o := .cells #[v401, v404] 54 (0, 0)) (zL13 BK406.out) hb)
        replace HB := Aside0.mk (below_step z13_3 hb)
        (try clear hb)
        (try clear hb2)
        (try clear hk)
        (try clear hi)
        refine hK.out _ _ ⟨bA13 BK399 rfl, bA13 BK399 rfl, bA13 BK399 rfl, bA13 BK399 rfl⟩ (fun hHeld => ?_)
        clear hK K
        refine nZ ?_
        refine pZ 4 HT_ ?_
        refine pZ 5 HT_ ?_
        refine pZ 6 HT_ ?_
        refine oZ 7 HT_ (fun K hK => ?_)
        refine box_step ?hg (N := 10) ?hd (cs := #[.int .i64 0, .int .i64 0, .int .i64 0, .int .i64 0, .int .i64 0, .int .i64 0, .int .i64 0, .int .i64 0]) (t := 62) ?hr ?_; (case hd => rfl); (case hg => rfl); (case hr => first | (go_simp; done) | (go_simp; rfl))
        intro gb416 hg w90 hbox hb
        replace HO_6 := Aside0.mk (Kd.R_below z13_6 hb)
        replace HO402 := Aside0.mk (Kd.R_below z13_4 hb)
        replace HO405 := Aside0.mk (Kd.R_below z13_5 hb)
        have BK416 := Aside0.mk (hbox)
        have GW416 := Aside0.mk ((by rw [hg]; exact (below_size z13_3) : w.heap.size ≤ gb416))
        have GE416 := Aside0.mk ((by rw [hg]; exact (below_size z13_3) : w.heap.size ≤ gb416))
        replace HB := Aside0.mk (below_step z13_3 hb)
        have aa := Aside0.mk ((by rw [hg]; exact Nat.ne_of_lt (blk_lt (g := gb399) (o := .cells #[.int .i64 t394, .int .i64 t395, .int .i64 t396, .int .i64 t397] 59 (0, 0)) (zL13 BK399.out)) : gb399 ≠ gb416))
        have ac := Aside0.mk ((by rw [hg]; exact Nat.ne_of_gt (blk_lt (g := gb399) (o := .cells #[.int .i64 t394, .int .i64 t395, .int .i64 t396, .int .i64 t397] 59 (0, 0)) (zL13 BK399.out)) : gb416 ≠ gb399))
        replace BK399 := Aside0.mk (blk_below (g := gb399) (o := .cells #[.int .i64 t394, .int .i64 t395, .int .i64 t396, .int .i64 t397] 59 (0, 0)) (zL13 BK399.out) hb)
        have ab := Aside0.mk ((by rw [hg]; exact Nat.ne_of_lt (blk_lt (g := gb406) (o := .cells #[v401, v404] 54 (0, 0)) (zL13 BK406.out)) : gb406 ≠ gb416))
        have ad := Aside0.mk ((by rw [hg]; exact Nat.ne_of_gt (blk_lt (g := gb406) (o := .cells #[v401, v404] 54 (0, 0)) (zL13 BK406.out)) : gb416 ≠ gb406))
        replace BK406 := Aside0.mk (blk_below (g := gb406) (o := .cells #[v401, v404] 54 (0, 0)) (zL13 BK406.out) hb)
        clear hb hbox hg
        refine hK.out _ _ ⟨bA13 BK399 rfl, bA13 BK399 rfl, bA13 BK399 rfl, bA13 BK399 rfl⟩ (fun hHeld => ?_)
        clear hK K
        refine nZ ?_
        exact norm_ z13_18 (hCont (gb406, v401, v404, gb416) _ ⟨hHeld, z13_4, z13_5, z13_6, (zL13 BK399.out), (zL13 BK406.out), (zL13 BK416.out), GW406.out, GE406.out, ag.out, ah.out, ad.out, ab.out, GW416.out, GE416.out, aa.out, ac.out, z13_1⟩)
       ·skip
        refine box_step ?hg (N := 10) ?hd (cs := #[.int .i64 0, .int .i64 0, .int .i64 0, .int .i64 0, .int .i64 0, .int .i64 0, .int .i64 0, .int .i64 0]) (t := 62) ?hr ?_; (case hd => rfl); (case hg => rfl); (case hr => first | (go_simp; done) | (go_simp; rfl))
        intro gb416 hg w89 hbox hb
        replace HO_6 := Aside0.mk (Kd.R_below z13_6 hb)
        replace HO402 := Aside0.mk (Kd.R_below z13_4 hb)
        replace HO405 := Aside0.mk (Kd.R_below z13_5 hb)
        have BK416 := Aside0.mk (hbox)
        have GW416 := Aside0.mk ((by rw [hg]; exact (below_size z13_3) : w.heap.size ≤ gb416))
        have GE416 := Aside0.mk ((by rw [hg]; exact (below_size z13_3) : w.heap.size ≤ gb416))
        replace HB := Aside0.mk (below_step z13_3 hb)
        have aa := Aside0.mk ((by rw [hg]; exact Nat.ne_of_lt (blk_lt (g := gb399) (o := .cells #[.int .i64 t394, .int .i64 t395, .int .i64 t396, .int .i64 t397] 59 (0, 0)) (zL13 BK399.out)) : gb399 ≠ gb416))
        have ac := Aside0.mk ((by rw [hg]; exact Nat.ne_of_gt (blk_lt (g := gb399) (o := .cells #[.int .i64 t394, .int .i64 t395, .int .i64 t396, .int .i64 t397] 59 (0, 0)) (zL13 BK399.out)) : gb416 ≠ gb399))
        replace BK399 := Aside0.mk (blk_below (g := gb399) (o := .cells #[.int .i64 t394, .int .i64 t395, .int .i64 t396, .int .i64 t397] 59 (0, 0)) (zL13 BK399.out) hb)
        have ab := Aside0.mk ((by rw [hg]; exact Nat.ne_of_lt (blk_lt (g := gb406) (o := .cells #[v401, v404] 54 (0, 0)) (zL13 BK406.out)) : gb406 ≠ gb416))
        have ad := Aside0.mk ((by rw [hg]; exact Nat.ne_of_gt (blk_lt (g := gb406) (o := .cells #[v401, v404] 54 (0, 0)) (zL13 BK406.out)) : gb416 ≠ gb406))
        replace BK406 := Aside0.mk (blk_below (g := gb406) (o := .cells #[v401, v404] 54 (0, 0)) (zL13 BK406.out) hb)
        clear hb hbox hg
        refine hK.out _ _ ⟨bA13 BK399 rfl, bA13 BK399 rfl, bA13 BK399 rfl, bA13 BK399 rfl⟩ (fun hHeld => ?_)
        clear hK K
        refine nZ ?_
        refine oZ 3 HT_ (fun K hK => ?_)
        refine goes_ Try.func57 (by kernel_rfl) rfl #[.pointer (some ⟨gb406, 0, none⟩), .agg #[.int .i64 t394, .int .i64 t395, .int .i64 t396, .int .i64 t397]] (by rfl) rfl rfl z13_10 ?_
        with_reducible refine (impl_span_byB.calls kj4 v401 t400 v404 t403 t394 t395 t396 t397 t407 t408 t409 t410 t411 t412 t413 t414 false _ ?side1 ?side2 ?side3 A17.out).mono ?_
        (case side1 => (with_reducible repeat first|refine blk_drewN ?_ _|refine blk_drew ?_|refine blk_alloc ?_ _); exact BK406.out)
        (case side2 => exact own_open z13_4)
        (case side3 => exact own_open z13_5)
        rintro e w90 ⟨rfl, hb⟩
        refine ⟨_, rfl, ?_⟩
        replace HO_6 := Aside0.mk (Kd.R_below z13_6 hb)
        replace HO402 := Aside0.mk (Kd.R_below z13_4 hb)
        replace HO405 := Aside0.mk (Kd.R_below z13_5 hb)
        replace BK399 := Aside0.mk (blk_below (g := gb399) (o := .cells #[.int .i64 t394, .int .i64 t395, .int .i64 t396, .int .i64 t397] 59 (0, 0)) (zL13 BK399.out) hb)
        replace BK406 := Aside0.mk (blk_below (g := gb406) (o := .cells #[v401, v404] 54 (0, 0)) (zL13 BK406.out) hb)
        replace BK416 := Aside0.mk (blk_below (g := gb416) (o := .cells #[.int .i64 0, .int .i64 0, .int .i64 0, .int .i64 0, .int .i64 0, .int .i64 0, .int .i64 0, .int .i64 0] 62 (0, 0)) (zL13 BK416.out) hb)
        replace HB := Aside0.mk (below_step z13_1 hb)
        (try clear hb)
        (try clear hb2)
        (try clear hk)
        (try clear hi)
        refine hK.out _ _ ⟨bA13 BK399 rfl, bA13 BK399 rfl, bA13 BK399 rfl, bA13 BK399 rfl⟩ (fun hHeld => ?_)
        clear hK K
        refine nZ ?_
        refine pZ 4 HT_ ?_
        refine pZ 5 HT_ ?_
        refine pZ 6 HT_ ?_
        exact norm_ z13_18 (hCont (gb406, v401, v404, gb416) _ ⟨hHeld, z13_4, z13_5, z13_6, (zL13 BK399.out), (zL13 BK406.out), (zL13 BK416.out), GW406.out, GE406.out, ag.out, ah.out, ad.out, ab.out, GW416.out, GE416.out, aa.out, ac.out, z13_1⟩)
      ·skip
       refine box_step ?hg (N := 10) ?hd (cs := #[.int .i64 0, .int .i64 0, .int .i64 0, .int .i64 0, .int .i64 0, .int .i64 0, .int .i64 0, .int .i64 0]) (t := 62) ?hr ?_; (case hd => rfl); (case hg => rfl); (case hr => first | (go_simp; done) | (go_simp; rfl))
       intro gb416 hg w88 hbox hb
       replace HO_6 := Aside0.mk (Kd.R_below z13_6 hb)
       have BK416 := Aside0.mk (hbox)
       have GW416 := Aside0.mk ((by rw [hg]; exact (below_size z13_2) : w.heap.size ≤ gb416))
       have GE416 := Aside0.mk ((by rw [hg]; exact (below_size z13_2) : w.heap.size ≤ gb416))
       replace HB := Aside0.mk (below_step z13_2 hb)
       have aa := Aside0.mk ((by rw [hg]; exact Nat.ne_of_lt (blk_lt (g := gb399) (o := .cells #[.int .i64 t394, .int .i64 t395, .int .i64 t396, .int .i64 t397] 59 (0, 0)) (zL13 BK399.out)) : gb399 ≠ gb416))
       have ac := Aside0.mk ((by rw [hg]; exact Nat.ne_of_gt (blk_lt (g := gb399) (o := .cells #[.int .i64 t394, .int .i64 t395, .int .i64 t396, .int .i64 t397] 59 (0, 0)) (zL13 BK399.out)) : gb416 ≠ gb399))
       replace BK399 := Aside0.mk (blk_below (g := gb399) (o := .cells #[.int .i64 t394, .int .i64 t395, .int .i64 t396, .int .i64 t397] 59 (0, 0)) (zL13 BK399.out) hb)
       clear hb hbox hg
       refine hK.out _ _ ⟨bA13 BK399 rfl, bA13 BK399 rfl, bA13 BK399 rfl, bA13 BK399 rfl⟩ (fun hHeld => ?_)
       clear hK K
       refine nZ ?_
       refine oZ 1 HT_ (fun K hK => ?_)
       refine goes_ Try.func54 (by kernel_rfl) rfl #[.slice Ao86 t390.length co86] (by rfl) rfl rfl z13_10 ?_
       with_reducible refine (impl_spanOf.calls kj4 _ _ t390 t400 t403 _ ?side1 ?side2 A16.out).mono ?_
       (case side1 => exact cZ ((Kd.R_reads' HO_6.out).2.2))
       (case side2 => exact (Kd.R_reads' HO_6.out).2.1)
       rintro e w89 ⟨v401, v404, gb406, rfl, hbox, hgr, ho0, ho1, hb⟩
       refine ⟨_, rfl, ?_⟩
       replace HO_6 := Aside0.mk (Kd.R_below z13_6 hb)
       have HO402 := Aside0.mk (Kd.R_lower ho0 (below_size z13_7))
       have HO405 := Aside0.mk (Kd.R_lower ho1 (below_size z13_7))
       have BK406 := Aside0.mk (hbox)
       have GW406 := Aside0.mk ((Nat.le_trans ((below_size z13_7) : w.heap.size ≤ _) hgr : w.heap.size ≤ gb406))
       have GE406 := Aside0.mk ((Nat.le_trans ((below_size z13_7) : w.heap.size ≤ _) hgr : w.heap.size ≤ gb406))
       have ag := Aside0.mk ((Nat.ne_of_lt (Nat.lt_of_lt_of_le (blk_lt (g := gb399) (o := .cells #[.int .i64 t394, .int .i64 t395, .int .i64 t396, .int .i64 t397] 59 (0, 0)) (zL13 BK399.out)) hgr) : gb399 ≠ gb406))
       have ah := Aside0.mk ((Nat.ne_of_gt (Nat.lt_of_lt_of_le (blk_lt (g := gb399) (o := .cells #[.int .i64 t394, .int .i64 t395, .int .i64 t396, .int .i64 t397] 59 (0, 0)) (zL13 BK399.out)) hgr) : gb406 ≠ gb399))
       replace BK399 := Aside0.mk (blk_below (g := gb399) (o := .cells #[.int .i64 t394, .int .i64 t395, .int .i64 t396, .int .i64 t397] 59 (0, 0)) (zL13 BK399.out) hb)
       have ad := Aside0.mk ((Nat.ne_of_lt (Nat.lt_of_lt_of_le (blk_lt (g := gb416) (o := .cells #[.int .i64 0, .int .i64 0, .int .i64 0, .int .i64 0, .int .i64 0, .int .i64 0, .int .i64 0, .int .i64 0] 62 (0, 0)) (zL13 BK416.out)) hgr) : gb416 ≠ gb406))
       have ab := Aside0.mk ((Nat.ne_of_gt (Nat.lt_of_lt_of_le (blk_lt (g := gb416) (o := .cells #[.int .i64 0, .int .i64 0, .int .i64 0, .int .i64 0, .int .i64 0, .int .i64 0, .int .i64 0, .int .i64 0] 62 (0, 0)) (zL13 BK416.out)) hgr) : gb406 ≠ gb416))
       replace BK416 := Aside0.mk (blk_below (g := gb416) (o := .cells #[.int .i64 0, .int .i64 0, .int .i64 0, .int .i64 0, .int .i64 0, .int .i64 0, .int .i64 0, .int .i64 0] 62 (0, 0)) (zL13 BK416.out) hb)
       replace HB := Aside0.mk (below_step z13_7 hb)
       (try clear hb)
       (try clear hb2)
       (try clear hk)
       (try clear hi)
       (try clear ho0)
       (try clear ho1)
       refine hK.out _ _ ⟨bA13 BK399 rfl, bA13 BK399 rfl, bA13 BK399 rfl, bA13 BK399 rfl⟩ (fun hHeld => ?_)
       clear hK K
       refine nZ ?_
       refine oZ 3 HT_ (fun K hK => ?_)
       refine goes_ Try.func57 (by kernel_rfl) rfl #[.pointer (some ⟨gb406, 0, none⟩), .agg #[.int .i64 t394, .int .i64 t395, .int .i64 t396, .int .i64 t397]] (by rfl) rfl rfl z13_10 ?_
       with_reducible refine (impl_span_byB.calls kj4 v401 t400 v404 t403 t394 t395 t396 t397 t407 t408 t409 t410 t411 t412 t413 t414 false _ ?side1 ?side2 ?side3 A17.out).mono ?_
       (case side1 => (with_reducible repeat first|refine blk_drewN ?_ _|refine blk_drew ?_|refine blk_alloc ?_ _); exact BK406.out)
       (case side2 => exact own_open z13_4)
       (case side3 => exact own_open z13_5)
       rintro e w90 ⟨rfl, hb⟩
       refine ⟨_, rfl, ?_⟩
       replace HO_6 := Aside0.mk (Kd.R_below z13_6 hb)
       replace HO402 := Aside0.mk (Kd.R_below z13_4 hb)
       replace HO405 := Aside0.mk (Kd.R_below z13_5 hb)
       replace BK399 := Aside0.mk (blk_below (g := gb399) (o := .cells #[.int .i64 t394, .int .i64 t395, .int .i64 t396, .int .i64 t397] 59 (0, 0)) (zL13 BK399.out) hb)
       replace BK416 := Aside0.mk (blk_below (g := gb416) (o := .cells #[.int .i64 0, .int .i64 0, .int .i64 0, .int .i64 0, .int .i64 0, .int .i64 0, .int .i64 0, .int .i64 0] 62 (0, 0)) (zL13 BK416.out) hb)
       replace BK406 := Aside0.mk (blk_below (g := gb406) (o := .cells #[v401, v404] 54 (0, 0)) (zL13 BK406.out) hb)
       replace HB := Aside0.mk (below_step z13_15 hb)
       (try clear hb)
       (try clear hb2)
       (try clear hk)
       (try clear hi)
       refine hK.out _ _ ⟨bA13 BK399 rfl, bA13 BK399 rfl, bA13 BK399 rfl, bA13 BK399 rfl⟩ (fun hHeld => ?_)
       clear hK K
       refine nZ ?_
       refine pZ 4 HT_ ?_
       refine pZ 5 HT_ ?_
       refine pZ 6 HT_ ?_
       exact norm_ z13_18 (hCont (gb406, v401, v404, gb416) _ ⟨hHeld, z13_4, z13_5, z13_6, (zL13 BK399.out), (zL13 BK406.out), (zL13 BK416.out), GW406.out, GE406.out, ag.out, ah.out, ad.out, ab.out, GW416.out, GE416.out, aa.out, ac.out, z13_15⟩)
     rintro ⟨gb406, v401, v404, gb416⟩ w91 ⟨hS_, h0_, h1_, h2_, h3_, h4_, h5_, h6_, h7_, h8_, h9_, h10_, h11_, h12_, h13_, h14_, h15_, h16_⟩
     have n0_ : Aside0 (Kd.R k77 77 w91 w.heap.size (fun _ => True) v401 t400) := ⟨h0_⟩
     have n1_ : Aside0 (Kd.R (Kd.int .i64) 3 w91 w.heap.size (fun _ => True) v404 t403) := ⟨h1_⟩
     have n2_ : Aside0 (Kd.R k59 59 w91 w.heap.size (fun k_ => k_ ≠ gb399) (.slice Ao86 t390.length co86) t390) := ⟨h2_⟩
     have n3_ : Aside0 (w91.heap[gb399]? = some (.cells #[.int .i64 t394, .int .i64 t395, .int .i64 t396, .int .i64 t397] 59 (0, 0))) := ⟨h3_⟩
     have n4_ : Aside0 (w91.heap[gb406]? = some (.cells #[v401, v404] 54 (0, 0))) := ⟨h4_⟩
     have n5_ : Aside0 (w91.heap[gb416]? = some (.cells #[.int .i64 0, .int .i64 0, .int .i64 0, .int .i64 0, .int .i64 0, .int .i64 0, .int .i64 0, .int .i64 0] 62 (0, 0))) := ⟨h5_⟩
     have n6_ : Aside0 (w.heap.size ≤ gb406) := ⟨h6_⟩
     have n7_ : Aside0 (w.heap.size ≤ gb406) := ⟨h7_⟩
     have n8_ : Aside0 (gb399 ≠ gb406) := ⟨h8_⟩
     have n9_ : Aside0 (gb406 ≠ gb399) := ⟨h9_⟩
     have n10_ : Aside0 (gb416 ≠ gb406) := ⟨h10_⟩
     have n11_ : Aside0 (gb406 ≠ gb416) := ⟨h11_⟩
     have n12_ : Aside0 (w.heap.size ≤ gb416) := ⟨h12_⟩
     have n13_ : Aside0 (w.heap.size ≤ gb416) := ⟨h13_⟩
     have n14_ : Aside0 (gb399 ≠ gb416) := ⟨h14_⟩
     have n15_ : Aside0 (gb416 ≠ gb399) := ⟨h15_⟩
     have n16_ : Aside0 (Below w.heap.size w w91) := ⟨h16_⟩
     clear HO_6
     clear BK399
     clear HB
     clear h0_ h1_ h2_ h3_ h4_ h5_ h6_ h7_ h8_ h9_ h10_ h11_ h12_ h13_ h14_ h15_ h16_
     have HO402 := n0_
     have HO405 := n1_
     have HO_6 := n2_
     have BK399 := n3_
     have BK406 := n4_
     have BK416 := n5_
     have GW406 := n6_
     have GE406 := n7_
     have ag := n8_
     have ah := n9_
     have ad := n10_
     have ab := n11_
     have GW416 := n12_
     have GE416 := n13_
     have aa := n14_
     have ac := n15_
     have HB := n16_
     clear n0_ n1_ n2_ n3_ n4_ n5_ n6_ n7_ n8_ n9_ n10_ n11_ n12_ n13_ n14_ n15_ n16_
     have hHeld : w91.cell? ⟨gb399, 0, none⟩ = some (.int .i64 t394) ∧ w91.cell? ⟨gb399, 1, none⟩ = some (.int .i64 t395) ∧ w91.cell? ⟨gb399, 2, none⟩ = some (.int .i64 t396) ∧ w91.cell? ⟨gb399, 3, none⟩ = some (.int .i64 t397) := hS_
     refine norm_ (a' := ?_) ?_ ?_
     rotate_left
     ·simp only [putAll, Act.put, List.setIfInBounds_toArray, List.set_cons_zero, List.set_cons_succ]
      rfl
     refine one_ (i := 8) (N := none) #[true, true, true, true, true, true, true, true, true, false] rfl rfl (one_of HT_.out (by kernel_rfl)) (by decide) (fun K hK => ?_)
     have hs92 : w91.cell? ⟨gb416, 0, none⟩ = some (.int .i64 0) := bA13 BK416 rfl
     have hfs92 := blk_frozen BK416.out 0
     have hns92_0 := aa.out
     have hns92_1 := ab.out
     have hms92_0 := ac.out
     have hms92_1 := ad.out
     have hs93 : w91.cell? ⟨gb416, 1, none⟩ = some (.int .i64 0) := bA13 BK416 rfl
     have hfs93 := blk_frozen BK416.out 1
     have hns93_0 := aa.out
     have hns93_1 := ab.out
     have hms93_0 := ac.out
     have hms93_1 := ad.out
     have hs94 : w91.cell? ⟨gb416, 2, none⟩ = some (.int .i64 0) := bA13 BK416 rfl
     have hfs94 := blk_frozen BK416.out 2
     have hns94_0 := aa.out
     have hns94_1 := ab.out
     have hms94_0 := ac.out
     have hms94_1 := ad.out
     have hs95 : w91.cell? ⟨gb416, 3, none⟩ = some (.int .i64 0) := bA13 BK416 rfl
     have hfs95 := blk_frozen BK416.out 3
     have hns95_0 := aa.out
     have hns95_1 := ab.out
     have hms95_0 := ac.out
     have hms95_1 := ad.out
     have hs96 : w91.cell? ⟨gb416, 4, none⟩ = some (.int .i64 0) := bA13 BK416 rfl
     have hfs96 := blk_frozen BK416.out 4
     have hns96_0 := aa.out
     have hns96_1 := ab.out
     have hms96_0 := ac.out
     have hms96_1 := ad.out
     have hs97 : w91.cell? ⟨gb416, 5, none⟩ = some (.int .i64 0) := bA13 BK416 rfl
     have hfs97 := blk_frozen BK416.out 5
     have hns97_0 := aa.out
     have hns97_1 := ab.out
     have hms97_0 := ac.out
     have hms97_1 := ad.out
     have hs98 : w91.cell? ⟨gb416, 6, none⟩ = some (.int .i64 0) := bA13 BK416 rfl
     have hfs98 := blk_frozen BK416.out 6
     have hns98_0 := aa.out
     have hns98_1 := ab.out
     have hms98_0 := ac.out
     have hms98_1 := ad.out
     have hs99 : w91.cell? ⟨gb416, 7, none⟩ = some (.int .i64 0) := bA13 BK416 rfl
     have hfs99 := blk_frozen BK416.out 7
     have hns99_0 := aa.out
     have hns99_1 := ab.out
     have hms99_0 := ac.out
     have hms99_1 := ad.out
     refine skip_ (w1 := ?_) (by rfl) rfl ?_ ?_
     rotate_left
     ·go_simp
      rfl
     refine hK.out _ _ ⟨((cell_far (p := ⟨gb416, _, none⟩) aa.out _).trans (((cell_far (p := ⟨gb416, _, none⟩) aa.out _).trans (((cell_far (p := ⟨gb416, _, none⟩) aa.out _).trans (((cell_far (p := ⟨gb416, _, none⟩) aa.out _).trans (((cell_far (p := ⟨gb416, _, none⟩) aa.out _).trans (((cell_far (p := ⟨gb416, _, none⟩) aa.out _).trans (((cell_far (p := ⟨gb416, _, none⟩) aa.out _).trans (((cell_far (p := ⟨gb416, _, none⟩) aa.out _).trans (hHeld.1)))))))))))))))), ((cell_far (p := ⟨gb416, _, none⟩) aa.out _).trans (((cell_far (p := ⟨gb416, _, none⟩) aa.out _).trans (((cell_far (p := ⟨gb416, _, none⟩) aa.out _).trans (((cell_far (p := ⟨gb416, _, none⟩) aa.out _).trans (((cell_far (p := ⟨gb416, _, none⟩) aa.out _).trans (((cell_far (p := ⟨gb416, _, none⟩) aa.out _).trans (((cell_far (p := ⟨gb416, _, none⟩) aa.out _).trans (((cell_far (p := ⟨gb416, _, none⟩) aa.out _).trans (hHeld.2.1)))))))))))))))), ((cell_far (p := ⟨gb416, _, none⟩) aa.out _).trans (((cell_far (p := ⟨gb416, _, none⟩) aa.out _).trans (((cell_far (p := ⟨gb416, _, none⟩) aa.out _).trans (((cell_far (p := ⟨gb416, _, none⟩) aa.out _).trans (((cell_far (p := ⟨gb416, _, none⟩) aa.out _).trans (((cell_far (p := ⟨gb416, _, none⟩) aa.out _).trans (((cell_far (p := ⟨gb416, _, none⟩) aa.out _).trans (((cell_far (p := ⟨gb416, _, none⟩) aa.out _).trans (hHeld.2.2.1)))))))))))))))), ((cell_far (p := ⟨gb416, _, none⟩) aa.out _).trans (((cell_far (p := ⟨gb416, _, none⟩) aa.out _).trans (((cell_far (p := ⟨gb416, _, none⟩) aa.out _).trans (((cell_far (p := ⟨gb416, _, none⟩) aa.out _).trans (((cell_far (p := ⟨gb416, _, none⟩) aa.out _).trans (((cell_far (p := ⟨gb416, _, none⟩) aa.out _).trans (((cell_far (p := ⟨gb416, _, none⟩) aa.out _).trans (((cell_far (p := ⟨gb416, _, none⟩) aa.out _).trans (hHeld.2.2.2))))))))))))))))⟩ (fun hHeld => ?_)
     clear hK K
     refine pZ 9 HT_ ?_
     refine done_ (done_of HT_.out (by kernel_rfl)) ?_
     try go_wp2
     go_ret2
     exact ⟨_, z13_21, z13_22, z13_1⟩

end Go.Proofs.Ytbhmgbeebhmfkaa.PA
