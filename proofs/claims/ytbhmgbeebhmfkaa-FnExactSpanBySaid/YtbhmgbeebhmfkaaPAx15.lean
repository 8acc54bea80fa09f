-- Written by a program of this session (after the manner of the kit's print, several laws in one text).
import Derived.Test.YtbhmgbeebhmfkaaHy
import Derived.Test.YtbhmgbeebhmfkaaPAx0
import Derived.Test.YtbhmgbeebhmfkaaPAx10
import Derived.Test.YtbhmgbeebhmfkaaPAx13
import Derived.Test.YtbhmgbeebhmfkaaPAx14
import Derived.Test.YtbhmgbeebhmfkaaGw
import Derived.Test.YtbhmgbeebhmfkaaGm
namespace Go.Proofs.Ytbhmgbeebhmfkaa.PA
open Go.RowKit Go.Proofs.YtbhmgbeebhmfkaaW.PrintWords Go.Proofs.YtbhmgbeebhmfkaaW.PrintLast Go.Proofs.YtbhmgbeebhmfkaaW.PrintMore
attribute [local go_sem] max2_int min2_int max_two min_two max_three min_three max_four min_four   -- for this text's walks alone
set_option linter.unusedVariables false
set_option linter.unusedSimpArgs false

/-! ### impl_SpanBy: function 30 -/
theorem zL15 {p q : Prop} (h : q) (t : q → p := by intro h_; (with_reducible repeat first|refine blk_drewN ?_ _|refine blk_drew ?_|refine blk_alloc ?_ _); exact h_) : p := t h
theorem z15_1 {p : Prop} (h : p := by repeat (first | (with_reducible first | exact HB.out | apply below_alloc | apply pw_below_drewN | apply below_drew1 | refine below_set ?_ GE421.out | refine below_set ?_ GE428.out | refine below_set ?_ GE438.out) | exact HB.out)) : p := h
theorem z15_2 {p : Prop} (h : p := by repeat (first | (with_reducible first | exact HB.out | apply below_alloc | apply pw_below_drewN | apply below_drew1 | refine below_set ?_ GE421.out) | exact HB.out)) : p := h
theorem z15_3 {p : Prop} (h : p := by repeat (first | (with_reducible first | exact HB.out | apply below_alloc | apply pw_below_drewN | apply below_drew1 | refine below_set ?_ GE421.out | refine below_set ?_ GE428.out) | exact HB.out)) : p := h
theorem z15_4 {p : Prop} (h : p := by (with_reducible repeat (first | apply Kd.R_alloc | apply Kd.R_drewN | apply Kd.R_drew)); exact HO424.out) : p := h
theorem z15_5 {p : Prop} (h : p := by (with_reducible repeat (first | apply Kd.R_alloc | apply Kd.R_drewN | apply Kd.R_drew)); exact HO427.out) : p := h
theorem z15_6 {p : Prop} (h : p := by (with_reducible repeat (first | apply Kd.R_alloc | apply Kd.R_drewN | apply Kd.R_drew)); exact HO_6.out) : p := h
theorem z15_7 {p : Prop} (h : p := by repeat (first | (with_reducible first | exact HB.out | apply below_alloc | apply pw_below_drewN | apply below_drew1 | refine below_set ?_ GE421.out | refine below_set ?_ GE438.out) | exact HB.out)) : p := h
theorem z15_8 {p : Prop} (h : p := by (with_reducible repeat (first | apply Kd.R_alloc | apply Kd.R_drewN | apply Kd.R_drew)); exact ae.out) : p := h
theorem z15_9 {p : Prop} (h : p := by (with_reducible repeat (first | apply Kd.R_alloc | apply Kd.R_drewN | apply Kd.R_drew)); exact HO_12.out) : p := h
theorem z15_10 {p : Prop} (h : p := by (try simp only [List.map_toArray, List.map_cons, List.map_nil]); first | done | rfl | (simp only [List.length_drop, List.length_take]; rfl)) : p := h
theorem z15_11 {p : Prop} (h : p := by (with_reducible repeat (first | apply Kd.R_alloc | apply Kd.R_drewN | apply Kd.R_drew)); exact Kd.R_mono af.out (fun _ hk => ⟨trivial, hk⟩)) : p := h
theorem z15_12 {p : Prop} (h : p := by (with_reducible repeat (first | apply Kd.R_alloc | apply Kd.R_drewN | apply Kd.R_drew)); exact Kd.R_mono af.out (fun _ hk => hk.2)) : p := h
theorem z15_13 {p : Prop} (h : p := by (with_reducible repeat (first | apply Kd.R_alloc | apply Kd.R_drewN | apply Kd.R_drew)); exact af.out) : p := h
theorem z15_14 {p : Prop} (h : p := by (with_reducible repeat (first | apply Kd.R_alloc | apply Kd.R_drewN | apply Kd.R_drew)); exact (Kd.R_mono (Kd.R_far (p := ⟨gb438, 7, none⟩) (Kd.R_far (p := ⟨gb438, 6, none⟩) (Kd.R_far (p := ⟨gb438, 5, none⟩) (Kd.R_far (p := ⟨gb438, 4, none⟩) (Kd.R_far (p := ⟨gb438, 3, none⟩) (Kd.R_far (p := ⟨gb438, 2, none⟩) (Kd.R_far (p := ⟨gb438, 1, none⟩) (Kd.R_far (p := ⟨gb438, 0, none⟩) (Kd.R_types HO427.out BK438.out (by decide)) (fun _ hk => hk.2) (.int .i64 t429)) (fun _ hk => hk.2) (.int .i64 t430)) (fun _ hk => hk.2) (.int .i64 t431)) (fun _ hk => hk.2) (.int .i64 t432)) (fun _ hk => hk.2) (.int .i64 t433)) (fun _ hk => hk.2) (.int .i64 t434)) (fun _ hk => hk.2) (.int .i64 t435)) (fun _ hk => hk.2) (.int .i64 t436)) (fun _ h_ => h_.1))) : p := h
theorem z15_15 {p : Prop} (h : p := by repeat (first | (with_reducible first | exact HB.out | apply below_alloc | apply pw_below_drewN | apply below_drew1 | refine below_set ?_ GE421.out | refine below_set ?_ GE438.out | refine below_set ?_ GE428.out) | exact HB.out)) : p := h
theorem z15_16 {p : Prop} (h : p := by repeat (first | (with_reducible first | exact HB.out | apply below_alloc | apply pw_below_drewN | apply below_drew1) | exact HB.out)) : p := h
theorem z15_17 {p : Prop} (h : p := by first | rfl | (simp; done) | (simp [*]; done) | (simp; unfold wrap64; omega)) : p := h
theorem z15_18 {p : Prop} (h : p := by simp only [putAll, Act.put, List.setIfInBounds_toArray, List.set_cons_zero, List.set_cons_succ]) : p := h
theorem z15_19 {p : Prop} (h : p := by (with_reducible repeat (first | apply Kd.R_alloc | apply Kd.R_drewN | apply Kd.R_drew)); exact HO415.out) : p := h
theorem z15_20 {p : Prop} (h : p := by have := HJ4.out; have := HK2.out; omega) : p := h
theorem z15_21 {p : Prop} (h : p := by first | rfl | (simp [errW_none, errW_some] <;> rfl) | (simp [*, errW_none, errW_some] <;> rfl)) : p := h
theorem z15_22 {p : Prop} (h : p := by first | exact Kd.R_nil _ _ _ _ _ | exact Kd.N_nil _ _ _ _ _ | exact Kd.V_nil _ _ _ _ _ | exact Kd.Q_nil _ _ _ _ _ | exact Kd.S_nil _ _ _ _ _) : p := h
mutual
def impl_SpanBy.j0 : Nat → List (List Int) → List (S59) → Bool → Int → Int → Int → Int → Option (List Int × Bool)
  | 0, _, _, _, _, _, _, _ => none
  | k + 1, x0, x6, x29, x422000, x422001, x422002, x422003 => if x29 = true then (some (([] : List Int), false)) else ((impl_spanOf.f k x6).bind fun bt422 => ((impl_span_by.f k bt422.1 bt422.2 x422000 x422001 x422002 x422003).bind fun bt429 => (if bt429.2.2.2.2.2.2.2.2 = true then (if 0 ≤ (x0.length : Int) then (if ((x0.length : Int) : Int).toNat ≤ 35184372088832 then (impl_SpanBy.l0 k (([] : List Int)) (x0.length : Int) 0 bt429.1 bt429.2.1 bt429.2.2.1 bt429.2.2.2.1 bt429.2.2.2.2.1 bt429.2.2.2.2.2.1 bt429.2.2.2.2.2.2.1 bt429.2.2.2.2.2.2.2.1) else (none)) else (none)) else (some (([] : List Int), false)))))
def impl_SpanBy.l0 : Nat → List Int → Int → Int → Int → Int → Int → Int → Int → Int → Int → Int → Option (List Int × Bool)
  | 0, _, _, _, _, _, _, _, _, _, _, _ => none
  | k + 1, x12, x43, x44, x439000, x439001, x439002, x439003, x439004, x439005, x439006, x439007 => if x44 < x43 then (if x44 = 0 then (if x12.length < 17592186044416 then (impl_SpanBy.l0 k (x12 ++ [x439000]) x43 (wrap64 (x44 + 1)) x439000 x439001 x439002 x439003 x439004 x439005 x439006 x439007) else (none)) else (if x44 = 1 then (if x12.length < 17592186044416 then (impl_SpanBy.l0 k (x12 ++ [x439001]) x43 (wrap64 (x44 + 1)) x439000 x439001 x439002 x439003 x439004 x439005 x439006 x439007) else (none)) else (if x44 = 2 then (if x12.length < 17592186044416 then (impl_SpanBy.l0 k (x12 ++ [x439002]) x43 (wrap64 (x44 + 1)) x439000 x439001 x439002 x439003 x439004 x439005 x439006 x439007) else (none)) else (if x44 = 3 then (if x12.length < 17592186044416 then (impl_SpanBy.l0 k (x12 ++ [x439003]) x43 (wrap64 (x44 + 1)) x439000 x439001 x439002 x439003 x439004 x439005 x439006 x439007) else (none)) else (if x44 = 4 then (if x12.length < 17592186044416 then (impl_SpanBy.l0 k (x12 ++ [x439004]) x43 (wrap64 (x44 + 1)) x439000 x439001 x439002 x439003 x439004 x439005 x439006 x439007) else (none)) else (if x44 = 5 then (if x12.length < 17592186044416 then (impl_SpanBy.l0 k (x12 ++ [x439005]) x43 (wrap64 (x44 + 1)) x439000 x439001 x439002 x439003 x439004 x439005 x439006 x439007) else (none)) else (if x44 = 6 then (if x12.length < 17592186044416 then (impl_SpanBy.l0 k (x12 ++ [x439006]) x43 (wrap64 (x44 + 1)) x439000 x439001 x439002 x439003 x439004 x439005 x439006 x439007) else (none)) else (if x44 = 7 then (if x12.length < 17592186044416 then (impl_SpanBy.l0 k (x12 ++ [x439007]) x43 (wrap64 (x44 + 1)) x439000 x439001 x439002 x439003 x439004 x439005 x439006 x439007) else (none)) else (none))))))))) else (some (x12, true))
end
def impl_SpanBy.f (k : Nat) (l0 : List (List Int)) (l1 : List Int) : Option (List Int × Bool) := (impl_matrixOf.f k l0).bind fun bt412 => ((impl_vectorOf.f l1).bind fun bt416 => (if bt412.2 = true then (impl_SpanBy.j0 k l0 bt412.1 (!bt416.2.2.2.2) bt416.1 bt416.2.1 bt416.2.2.1 bt416.2.2.2.1) else (impl_SpanBy.j0 k l0 bt412.1 true bt416.1 bt416.2.1 bt416.2.2.1 bt416.2.2.2.1)))
def impl_SpanBy.T5 : Bool × List (List Nat × List Nat) := (true, [([], []), ([0], [0]), ([], []), ([1, 2, 1], [1, 2]), ([3], [3]), ([4], [4]), ([4], [4]), ([], []), ([7, 5, 3, 0, 1, 2, 3, 4, 5, 7], [5, 7]), ([6, 8, 0, 1, 2, 3, 4, 5, 6, 7, 8], [6])])
def impl_SpanBy.B5 : List Nat := [0, 1, 0, 7, 15, 31, 31, 0, 191, 511]
theorem impl_SpanBy.tab5 : rtab .any (opsOf Try.f30 5) = impl_SpanBy.T5 := by kernel_rfl
theorem impl_SpanBy.bits5 : waitsOk impl_SpanBy.T5.2 impl_SpanBy.B5 = true := by kernel_rfl
theorem bA15 {W : World} {g : Nat} {cs : Array Value} {ty : TypeId} {j : Nat} {v : Value} (h : Aside0 (W.heap[g]? = some (.cells cs ty (0, 0)))) (e : cs[j]? = some v) : W.cell? ⟨g, j, none⟩ = some v := (blk_cell h.out j).trans e
set_option maxHeartbeats 8000000 in
set_option maxRecDepth 100000 in
theorem impl_SpanBy.calls (k : Nat) (A0 : Option Addr) (c0 : Nat) (l0 : List (List Int)) (A1 : Option Addr) (c1 : Nat) (l1 : List Int) (r1 : List Int) (r2 : Bool) (w : World) (hr0 : Kd.C (Kd.slice 3 (Kd.int .i64)) w A0 l0.length l0) (hc0 : l0.length ≤ c0) (hr1 : Kd.C (Kd.int .i64) w A1 l1.length l1) (hc1 : l1.length ≤ c1) (h : impl_SpanBy.f k l0 l1 = some (r1, r2)) :
  Calls Try.prog 30 #[.slice A0 l0.length c0, .slice A1 l1.length c1] w fun e w' => ∃ v0_ : Value, e = .returned (.tuple #[v0_, .bool r2]) ∧ Kd.R (Kd.int .i64) 3 w' w.heap.size (fun _ => True) v0_ r1 ∧ Below w.heap.size w w' := by
 have hu59 := Try.underlying59
 have hu62 := Try.underlying62
 have HR0 := Aside0.mk hr0
 have HC0 := Aside0.mk hc0
 clear hr0 hc0
 have HR1 := Aside0.mk hr1
 have HC1 := Aside0.mk hc1
 clear hr1 hc1
 have HB := Aside0.mk (Below.refl w.heap.size w)
 have H : ((impl_matrixOf.f k l0).bind fun bt412 => ((impl_vectorOf.f l1).bind fun bt416 => (if bt412.2 = true then (impl_SpanBy.j0 k l0 bt412.1 (!bt416.2.2.2.2) bt416.1 bt416.2.1 bt416.2.2.1 bt416.2.2.2.1) else (impl_SpanBy.j0 k l0 bt412.1 true bt416.1 bt416.2.1 bt416.2.2.1 bt416.2.2.2.1)))) = some (r1, r2) := h
 clear h
 replace H := Option.bind_eq_some_iff.mp H
 obtain ⟨⟨t412, t413⟩, A30, H⟩ := H
 replace H : ((impl_vectorOf.f l1).bind fun bt416 => (if t413 = true then (impl_SpanBy.j0 k l0 t412 (!bt416.2.2.2.2) bt416.1 bt416.2.1 bt416.2.2.1 bt416.2.2.2.1) else (impl_SpanBy.j0 k l0 t412 true bt416.1 bt416.2.1 bt416.2.2.1 bt416.2.2.2.1))) = some (r1, r2) := H
 have A3 := Aside0.mk A30
 clear A30
 replace H := Option.bind_eq_some_iff.mp H
 obtain ⟨⟨t416, t417, t418, t419, t420⟩, A40, H⟩ := H
 replace H : (if t413 = true then (impl_SpanBy.j0 k l0 t412 (!t420) t416 t417 t418 t419) else (impl_SpanBy.j0 k l0 t412 true t416 t417 t418 t419)) = some (r1, r2) := H
 have A4 := Aside0.mk A40
 clear A40
 have HC5 := Aside0.mk H
 clear H
 go_enter Try.func30, Try.ntmps30
 go_upto_region 3 with (first | ((with_reducible refine gate_callee (f := 49) rfl ?_); refine goesL_ (some 16) rfl rfl Try.func49 (by kernel_rfl) rfl #[.slice A0 l0.length c0] rfl z15_10 ?_; (with_reducible refine (impl_matrixOf.calls k _ _ l0 t412 t413 _ ?side1 ?side2 A3.out).mono ?_); (case side1 => exact cZ (HR0.out)); (case side2 => exact HC0.out); rintro e w6 ⟨v414, rfl, ho0, hb⟩; refine ⟨_, rfl, ?_⟩; have HO415 := Aside0.mk (Kd.R_lower ho0 (below_size z15_16)); replace HB := Aside0.mk (below_step z15_16 hb); (try clear hb); (try clear ho0)) | ((with_reducible refine gate_callee (f := 56) rfl ?_); refine goesL_ (some 21) rfl rfl Try.func56 (by kernel_rfl) rfl #[.slice A1 l1.length c1] rfl z15_10 ?_; (with_reducible refine (impl_vectorOf.calls _ _ l1 t416 t417 t418 t419 t420 _ ?side1 ?side2 A4.out).mono ?_); (case side1 => exact cZ ((Kd.C_below HR1.out HB.out))); (case side2 => exact HC1.out); rintro e w7 ⟨rfl, hb⟩; refine ⟨_, rfl, ?_⟩; replace HO415 := Aside0.mk (Kd.R_below z15_19 hb); replace HB := Aside0.mk (below_step z15_16 hb); (try clear hb)) | ((with_reducible refine gate_dst (N := 8) rfl ?_); refine box_event ?hg (N := 8) ?hd (cs := #[.int .i64 0, .int .i64 0, .int .i64 0, .int .i64 0]) (t := 59) ?hr ?_; (case hd => rfl); (case hg => rfl); (case hr => first | (go_simp; done) | (go_simp; rfl)); intro gb421 hg w8 hbox hb; replace HO415 := Aside0.mk (Kd.R_below (Kd.R_elderB z15_19 gb421 (Nat.le_of_eq hg.symm)) hb); have BK421 := Aside0.mk (hbox); have GW421 := Aside0.mk ((by rw [hg]; exact (below_size z15_16) : w.heap.size ≤ gb421)); have GE421 := Aside0.mk ((by rw [hg]; exact (below_size z15_16) : w.heap.size ≤ gb421)); replace HB := Aside0.mk (below_step z15_16 hb); clear hb hbox hg; have hcz9_0 : w8.cell? ⟨gb421, 0, none⟩ = some (.int .i64 0) := bA15 BK421 rfl; have hfz9_0 := blk_frozen BK421.out 0; have hcz10_1 : w8.cell? ⟨gb421, 1, none⟩ = some (.int .i64 0) := bA15 BK421 rfl; have hfz10_1 := blk_frozen BK421.out 1; have hcz11_2 : w8.cell? ⟨gb421, 2, none⟩ = some (.int .i64 0) := bA15 BK421 rfl; have hfz11_2 := blk_frozen BK421.out 2; have hcz12_3 : w8.cell? ⟨gb421, 3, none⟩ = some (.int .i64 0) := bA15 BK421 rfl; have hfz12_3 := blk_frozen BK421.out 3) | ((with_reducible refine gate_store (t := 59) (p := 8) rfl ?_); refine store_event (t := 59) (p := 8) (v := ?vo_w13) (w1 := ((((w8.setCell ⟨gb421, 0, none⟩ (.int .i64 t416)).setCell ⟨gb421, 1, none⟩ (.int .i64 t417)).setCell ⟨gb421, 2, none⟩ (.int .i64 t418)).setCell ⟨gb421, 3, none⟩ (.int .i64 t419))) ?hg ?ho ?hn ?hr ?_; (case ho => rfl); (case hg => rfl); (case hn => rfl); (case hr => first | (go_simp; done) | (go_simp; rfl)); intro w13 hw; have n0_ : Aside0 (Kd.R k59 59 w13 w.heap.size (fun k_ => k_ ≠ gb421) v414 t412) := ⟨(by rw [hw]; exact (by (with_reducible repeat (first | apply Kd.R_alloc | apply Kd.R_drewN | apply Kd.R_drew)); exact Kd.R_mono (Kd.R_far (p := ⟨gb421, 3, none⟩) (Kd.R_far (p := ⟨gb421, 2, none⟩) (Kd.R_far (p := ⟨gb421, 1, none⟩) (Kd.R_far (p := ⟨gb421, 0, none⟩) (Kd.R_mono HO415.out (fun k_ hk => (⟨hk, hk.2⟩ : _ ∧ k_ ≠ gb421))) (fun _ hk => hk.2) (.int .i64 t416)) (fun _ hk => hk.2) (.int .i64 t417)) (fun _ hk => hk.2) (.int .i64 t418)) (fun _ hk => hk.2) (.int .i64 t419)) (fun _ hk => hk.1.2)))⟩; have n1_ : Aside0 (w13.heap[gb421]? = some (.cells #[.int .i64 t416, .int .i64 t417, .int .i64 t418, .int .i64 t419] 59 (0, 0))) := ⟨(by rw [hw]; exact (bZ BK421.out))⟩; have n2_ : Aside0 (Below w.heap.size w w13) := ⟨(by rw [hw]; exact z15_2)⟩; clear hw; clear HO415; clear BK421; clear HB; have HO415 := n0_; have BK421 := n1_; have HB := n2_; clear n0_ n1_ n2_))
 (try simp only [Act.put, List.setIfInBounds_toArray, List.set_cons_zero, List.set_cons_succ])
 go_cut [29] (fun v29 wc => ∃ (kq : Nat) (x29_4 : Bool), v29 = .bool x29_4 ∧ Aside0 (impl_SpanBy.j0 kq l0 t412 x29_4 t416 t417 t418 t419 = some (r1, r2)) ∧ Aside0 (kq ≤ k) ∧ Aside0 (Kd.R k59 59 wc w.heap.size (fun k_ => k_ ≠ gb421) v414 t412) ∧ Aside0 (wc.heap[gb421]? = some (.cells #[.int .i64 t416, .int .i64 t417, .int .i64 t418, .int .i64 t419] 59 (0, 0))) ∧ Aside0 (Below w.heap.size w wc))
 case first =>
  have H := HC5.out
  clear HC5
  by_cases c14 : t413 = true
  ·subst c14
   have H1 : (impl_SpanBy.j0 k l0 t412 (!t420) t416 t417 t418 t419) = some (r1, r2) := by rw [if_pos rfl] at H; exact H
   clear H
   have H := H1
   clear H1
   have H' := Aside0.mk H
   clear H
   go_wp2
   go_meet
   case rel => exact ⟨_, (!t420), (by first | rfl | (simp; done) | (simp [*]; done)), H', ⟨by first | omega | exact Nat.le_refl _⟩, ⟨z15_19⟩, ⟨zL15 BK421.out⟩, ⟨z15_2⟩⟩
  ·replace c14 := Bool.eq_false_iff.mpr c14
   subst c14
   have H1 : (impl_SpanBy.j0 k l0 t412 true t416 t417 t418 t419) = some (r1, r2) := by rw [if_neg (show ¬ (false = true) by decide)] at H; exact H
   clear H
   have H := H1
   clear H1
   have H' := Aside0.mk H
   clear H
   go_wp2
   go_meet
   case rel => exact ⟨_, (true), (by first | rfl | (simp; done) | (simp [*]; done)), H', ⟨by first | omega | exact Nat.le_refl _⟩, ⟨z15_19⟩, ⟨zL15 BK421.out⟩, ⟨z15_2⟩⟩
 case rest =>
  clear HC5
  try clear c1
  try clear hcz10_1
  try clear hcz11_2
  try clear hcz12_3
  try clear hcz9_0
  try clear hfz10_1
  try clear hfz11_2
  try clear hfz12_3
  try clear hfz9_0
  obtain ⟨kq, x29_4, rfl, HA, HJ4, HO_6, BK421, HB⟩ := hcut
  cases kq with
  | zero => exact absurd HA.out (by simp [impl_SpanBy.j0])
  | succ kj4 =>
   have H := HA.out
   clear HA
   simp only [impl_SpanBy.j0] at H
   by_cases c15 : x29_4 = true
   ·subst c15
    have H1 : (some (([] : List Int), false)) = some (r1, r2) := by rw [if_pos rfl] at H; exact H
    clear H
    have H := H1
    clear H1
    simp only [Option.some.injEq, Prod.mk.injEq] at H
    obtain ⟨rfl, rfl⟩ := H
    go_wp2
    go_ret2
    exact ⟨_, z15_21, z15_22, z15_2⟩
   ·replace c15 := Bool.eq_false_iff.mpr c15
    subst c15
    have H1 : ((impl_spanOf.f kj4 t412).bind fun bt422 => ((impl_span_by.f kj4 bt422.1 bt422.2 t416 t417 t418 t419).bind fun bt429 => (if bt429.2.2.2.2.2.2.2.2 = true then (if 0 ≤ (l0.length : Int) then (if ((l0.length : Int) : Int).toNat ≤ 35184372088832 then (impl_SpanBy.l0 kj4 (([] : List Int)) (l0.length : Int) 0 bt429.1 bt429.2.1 bt429.2.2.1 bt429.2.2.2.1 bt429.2.2.2.2.1 bt429.2.2.2.2.2.1 bt429.2.2.2.2.2.2.1 bt429.2.2.2.2.2.2.2.1) else (none)) else (none)) else (some (([] : List Int), false))))) = some (r1, r2) := by rw [if_neg (show ¬ (false = true) by decide)] at H; exact H
    clear H
    have H := H1
    clear H1
    replace H := Option.bind_eq_some_iff.mp H
    obtain ⟨⟨t422, t425⟩, A160, H⟩ := H
    replace H : ((impl_span_by.f kj4 t422 t425 t416 t417 t418 t419).bind fun bt429 => (if bt429.2.2.2.2.2.2.2.2 = true then (if 0 ≤ (l0.length : Int) then (if ((l0.length : Int) : Int).toNat ≤ 35184372088832 then (impl_SpanBy.l0 kj4 (([] : List Int)) (l0.length : Int) 0 bt429.1 bt429.2.1 bt429.2.2.1 bt429.2.2.2.1 bt429.2.2.2.2.1 bt429.2.2.2.2.2.1 bt429.2.2.2.2.2.2.1 bt429.2.2.2.2.2.2.2.1) else (none)) else (none)) else (some (([] : List Int), false)))) = some (r1, r2) := H
    have A16 := Aside0.mk A160
    clear A160
    replace H := Option.bind_eq_some_iff.mp H
    obtain ⟨⟨t429, t430, t431, t432, t433, t434, t435, t436, t437⟩, A170, H⟩ := H
    replace H : (if t437 = true then (if 0 ≤ (l0.length : Int) then (if ((l0.length : Int) : Int).toNat ≤ 35184372088832 then (impl_SpanBy.l0 kj4 (([] : List Int)) (l0.length : Int) 0 t429 t430 t431 t432 t433 t434 t435 t436) else (none)) else (none)) else (some (([] : List Int), false))) = some (r1, r2) := H
    have A17 := Aside0.mk A170
    clear A170
    by_cases c18 : t437 = true
    ·subst c18
     have H1 : (if 0 ≤ (l0.length : Int) then (if ((l0.length : Int) : Int).toNat ≤ 35184372088832 then (impl_SpanBy.l0 kj4 (([] : List Int)) (l0.length : Int) 0 t429 t430 t431 t432 t433 t434 t435 t436) else (none)) else (none)) = some (r1, r2) := by rw [if_pos rfl] at H; exact H
     clear H
     have H := H1
     clear H1
     obtain ⟨c19, H⟩ := ifP H
     have c19b0 := eq_true c19
     have c19b1 : decide (0 ≤ (l0.length : Int)) = true := decide_eq_true c19
     clear c19
     obtain ⟨c20, H⟩ := ifP H
     have c20b0 := eq_true c20
     have c20b1 : decide (((l0.length : Int) : Int).toNat ≤ 35184372088832) = true := decide_eq_true c20
     clear c20
     obtain ⟨y439, hy439⟩ : ∃ y_ : List Int, y_ = (([] : List Int)) := ⟨_, rfl⟩
     replace H : (impl_SpanBy.l0 kj4 y439 (l0.length : Int) 0 t429 t430 t431 t432 t433 t434 t435 t436) = some (r1, r2) := by first | (rw [hy439]; with_reducible exact H) | (have H2_ := (Option.bind_some _ _).symm.trans H; rw [hy439]; with_reducible exact H2_) | (have H2_ := (Option.bind_some _ _).symm.trans H; with_reducible exact H2_) | with_reducible exact H | (rw [hy439]; exact H) | exact H
     have Ny439 := Aside0.mk hy439
     clear hy439
     have H' := Aside0.mk H
     clear H
     obtain ⟨Ao21, co21, eo21⟩ := Kd.R_slice HO_6.out
     subst eo21
     try go_wp2
     replace HO_6 := Aside0.mk (Kd.R_drew HO_6.out)
     replace BK421 := Aside0.mk (blk_drew BK421.out)
     replace HB := Aside0.mk (below_drew1 HB.out)
     refine start_ (n := 10) (S := fun w' => w'.cell? ⟨gb421, 0, none⟩ = some (.int .i64 t416) ∧ w'.cell? ⟨gb421, 1, none⟩ = some (.int .i64 t417) ∧ w'.cell? ⟨gb421, 2, none⟩ = some (.int .i64 t418) ∧ w'.cell? ⟨gb421, 3, none⟩ = some (.int .i64 t419)) (ds := []) #[false, false, false, false, false, false, false, false, false, false] (by kernel_rfl) rfl rfl ⟨bA15 BK421 rfl, bA15 BK421 rfl, bA15 BK421 rfl, bA15 BK421 rfl⟩ (fun hHeld => ?_); refine with_tabW impl_SpanBy.tab5 impl_SpanBy.bits5 (fun HT_ HW_ => ?_)
     generalize wc.drew = w22 at HO_6 BK421 HB hHeld ⊢
     refine pZ 0 HT_ ?_
     refine tZ 2 hHeld HT_ HW_ ?_
     refine join_ (σ := Nat × Value × Value × Nat) 2 #[true, true, true, true, true, true, true, true, false, false] (fun s_ => [(32, .pointer (some ⟨s_.1, 0, none⟩)), (34, .tuple #[.agg #[.int .i64 t429, .int .i64 t430, .int .i64 t431, .int .i64 t432, .int .i64 t433, .int .i64 t434, .int .i64 t435, .int .i64 t436], .bool true]), (10, .pointer (some ⟨s_.2.2.2, 0, none⟩)), (30, .tuple #[.agg #[.int .i64 t429, .int .i64 t430, .int .i64 t431, .int .i64 t432, .int .i64 t433, .int .i64 t434, .int .i64 t435, .int .i64 t436], .bool true]), (35, .agg #[.int .i64 t429, .int .i64 t430, .int .i64 t431, .int .i64 t432, .int .i64 t433, .int .i64 t434, .int .i64 t435, .int .i64 t436]), (36, .bool true)]) (fun s_ w' => (w'.cell? ⟨gb421, 0, none⟩ = some (.int .i64 t416) ∧ w'.cell? ⟨gb421, 1, none⟩ = some (.int .i64 t417) ∧ w'.cell? ⟨gb421, 2, none⟩ = some (.int .i64 t418) ∧ w'.cell? ⟨gb421, 3, none⟩ = some (.int .i64 t419)) ∧ (Kd.R k77 77 w' w.heap.size (fun _ => True) s_.2.1 t422) ∧ (Kd.R (Kd.int .i64) 3 w' w.heap.size (fun _ => True) s_.2.2.1 t425) ∧ (Kd.R k59 59 w' w.heap.size (fun k_ => k_ ≠ gb421) (.slice Ao21 t412.length co21) t412) ∧ (w'.heap[gb421]? = some (.cells #[.int .i64 t416, .int .i64 t417, .int .i64 t418, .int .i64 t419] 59 (0, 0))) ∧ (w'.heap[s_.1]? = some (.cells #[s_.2.1, s_.2.2.1] 54 (0, 0))) ∧ (w'.heap[s_.2.2.2]? = some (.cells #[.int .i64 0, .int .i64 0, .int .i64 0, .int .i64 0, .int .i64 0, .int .i64 0, .int .i64 0, .int .i64 0] 62 (0, 0))) ∧ (w.heap.size ≤ s_.1) ∧ (w.heap.size ≤ s_.1) ∧ (gb421 ≠ s_.1) ∧ (s_.1 ≠ gb421) ∧ (s_.2.2.2 ≠ s_.1) ∧ (s_.1 ≠ s_.2.2.2) ∧ (w.heap.size ≤ s_.2.2.2) ∧ (w.heap.size ≤ s_.2.2.2) ∧ (gb421 ≠ s_.2.2.2) ∧ (s_.2.2.2 ≠ gb421) ∧ (Below w.heap.size w w')) ?_ ?_
     rotate_left
     ·intro hCont
      refine two_ (i := 1) (j := 7) (Ni := some 32) (Nj := some 10) #[true, true, true, false, false, false, false, false, false, false] #[true, false, true, false, false, false, false, true, false, false] rfl rfl rfl rfl (two_of HT_.out (by kernel_rfl)) (by decide) (by decide) (fun K hK => ?_) (fun K hK => ?_)
      ·skip
       refine goes_ Try.func54 (by kernel_rfl) rfl #[.slice Ao21 t412.length co21] (by rfl) rfl rfl z15_10 ?_
       with_reducible refine (impl_spanOf.calls kj4 _ _ t412 t422 t425 _ ?side1 ?side2 A16.out).mono ?_
       (case side1 => exact cZ ((Kd.R_reads' HO_6.out).2.2))
       (case side2 => exact (Kd.R_reads' HO_6.out).2.1)
       rintro e w23 ⟨v423, v426, gb428, rfl, hbox, hgr, ho0, ho1, hb⟩
       refine ⟨_, rfl, ?_⟩
       replace HO_6 := Aside0.mk (Kd.R_below z15_6 hb)
       have HO424 := Aside0.mk (Kd.R_lower ho0 (below_size z15_2))
       have HO427 := Aside0.mk (Kd.R_lower ho1 (below_size z15_2))
       have BK428 := Aside0.mk (hbox)
       have GW428 := Aside0.mk ((Nat.le_trans ((below_size z15_2) : w.heap.size ≤ _) hgr : w.heap.size ≤ gb428))
       have GE428 := Aside0.mk ((Nat.le_trans ((below_size z15_2) : w.heap.size ≤ _) hgr : w.heap.size ≤ gb428))
       have ag := Aside0.mk ((Nat.ne_of_lt (Nat.lt_of_lt_of_le (blk_lt (g := gb421) (o := .cells #[.int .i64 t416, .int .i64 t417, .int .i64 t418, .int .i64 t419] 59 (0, 0)) (zL15 BK421.out)) hgr) : gb421 ≠ gb428))
       have ah := Aside0.mk ((Nat.ne_of_gt (Nat.lt_of_lt_of_le (blk_lt (g := gb421) (o := .cells #[.int .i64 t416, .int .i64 t417, .int .i64 t418, .int .i64 t419] 59 (0, 0)) (zL15 BK421.out)) hgr) : gb428 ≠ gb421))
       replace BK421 := Aside0.mk (blk_below (g := gb421) (o := .cells #[.int .i64 t416, .int .i64 t417, .int .i64 t418, .int .i64 t419] 59 (0, 0)) (zL15 BK421.out) hb)
       replace HB := Aside0.mk (below_step z15_2 hb)
       (try clear hb)
       (try clear hb2)
       (try clear hk)
       (try clear hi)
       (try clear ho0)
       (try clear ho1)
       refine hK.out _ _ ⟨bA15 BK421 rfl, bA15 BK421 rfl, bA15 BK421 rfl, bA15 BK421 rfl⟩ (fun hHeld => ?_)
       clear hK K
       refine nZ ?_
       refine two_ (i := 3) (j := 7) (Ni := some 34) (Nj := some 10) #[true, true, true, true, false, false, false, false, false, false] #[true, true, true, false, false, false, false, true, false, false] rfl rfl rfl rfl (two_of HT_.out (by kernel_rfl)) (by decide) (by decide) (fun K hK => ?_) (fun K hK => ?_)
       ·skip
        refine goes_ Try.func57 (by kernel_rfl) rfl #[.pointer (some ⟨gb428, 0, none⟩), .agg #[.int .i64 t416, .int .i64 t417, .int .i64 t418, .int .i64 t419]] (by rfl) rfl rfl z15_10 ?_
        with_reducible refine (impl_span_byB.calls kj4 v423 t422 v426 t425 t416 t417 t418 t419 t429 t430 t431 t432 t433 t434 t435 t436 true _ ?side1 ?side2 ?side3 A17.out).mono ?_
        (case side1 => (with_reducible repeat first|refine blk_drewN ?_ _|refine blk_drew ?_|refine blk_alloc ?_ _); exact BK428.out)
        (case side2 => exact own_open z15_4)
        (case side3 => exact own_open z15_5)
        rintro e w24 ⟨rfl, hb⟩
        refine ⟨_, rfl, ?_⟩
        replace HO_6 := Aside0.mk (Kd.R_below z15_6 hb)
        replace HO424 := Aside0.mk (Kd.R_below z15_4 hb)
        replace HO427 := Aside0.mk (Kd.R_below z15_5 hb)
        replace BK421 := Aside0.mk (blk_below (g := gb421) (o := .cells #[.int .i64 t416, .int .i64 t417, .int .i64 t418, .int .i64 t419] 59 (0, 0)) (zL15 BK421.out) hb)
        replace BK428 := Aside0.mk (blk_below (g := gb428) (o := .cells #[v423, v426] 54 (0, 0)) (zL15 BK428.out) hb)
        replace HB := Aside0.mk (below_step z15_3 hb)
        (try clear hb)
        (try clear hb2)
        (try clear hk)
        (try clear hi)
        refine hK.out _ _ ⟨bA15 BK421 rfl, bA15 BK421 rfl, bA15 BK421 rfl, bA15 BK421 rfl⟩ (fun hHeld => ?_)
        clear hK K
        refine nZ ?_
        refine pZ 4 HT_ ?_
        refine pZ 5 HT_ ?_
        refine pZ 6 HT_ ?_
        refine oZ 7 HT_ (fun K hK => ?_)
        refine box_step ?hg (N := 10) ?hd (cs := #[.int .i64 0, .int .i64 0, .int .i64 0, .int .i64 0, .int .i64 0, .int .i64 0, .int .i64 0, .int .i64 0]) (t := 62) ?hr ?_; (case hd => rfl); (case hg => rfl); (case hr => first | (go_simp; done) | (go_simp; rfl))
        intro gb438 hg w25 hbox hb
        replace HO_6 := Aside0.mk (Kd.R_below z15_6 hb)
        replace HO424 := Aside0.mk (Kd.R_below z15_4 hb)
        replace HO427 := Aside0.mk (Kd.R_below z15_5 hb)
        have BK438 := Aside0.mk (hbox)
        have GW438 := Aside0.mk ((by rw [hg]; exact (below_size z15_3) : w.heap.size ≤ gb438))
        have GE438 := Aside0.mk ((by rw [hg]; exact (below_size z15_3) : w.heap.size ≤ gb438))
        replace HB := Aside0.mk (below_step z15_3 hb)
        have aa := Aside0.mk ((by rw [hg]; exact Nat.ne_of_lt (blk_lt (g := gb421) (o := .cells #[.int .i64 t416, .int .i64 t417, .int .i64 t418, .int .i64 t419] 59 (0, 0)) (zL15 BK421.out)) : gb421 ≠ gb438))
        have ac := Aside0.mk ((by rw [hg]; exact Nat.ne_of_gt (blk_lt (g := gb421) (o := .cells #[.int .i64 t416, .int .i64 t417, .int .i64 t418, .int .i64 t419] 59 (0, 0)) (zL15 BK421.out)) : gb438 ≠ gb421))
        replace BK421 := Aside0.mk (blk_below (g := gb421) (o := .cells #[.int .i64 t416, .int .i64 t417, .int .i64 t418, .int .i64 t419] 59 (0, 0)) (zL15 BK421.out) hb)
        have ab := Aside0.mk ((by rw [hg]; exact Nat.ne_of_lt (blk_lt (g := gb428) (o := .cells #[v423, v426] 54 (0, 0)) (zL15 BK428.out)) : gb428 ≠ gb438))
        have ad := Aside0.mk ((by rw [hg]; exact Nat.ne_of_gt (blk_lt (g := gb428) (o := .cells #[v423, v426] 54 (0, 0)) (zL15 BK428.out)) : gb438 ≠ gb428))
        replace BK428 := Aside0.mk (blk_below (g := gb428) (o := .cells #[v423, v426] 54 (0, 0)) (zL15 BK428.out) hb)
        clear hb hbox hg
        refine hK.out _ _ ⟨bA15 BK421 rfl, bA15 BK421 rfl, bA15 BK421 rfl, bA15 BK421 rfl⟩ (fun hHeld => ?_)
        clear hK K
        refine nZ ?_
        exact norm_ z15_18 (hCont (gb428, v423, v426, gb438) _ ⟨hHeld, z15_4, z15_5, z15_6, (zL15 BK421.out), (zL15 BK428.out), (zL15 BK438.out), GW428.out, GE428.out, ag.out, ah.out, ad.out, ab.out, GW438.out, GE438.out, aa.out, ac.out, z15_1⟩)
       ·skip
        refine box_step ?hg (N := 10) ?hd (cs := #[.int .i64 0, .int .i64 0, .int .i64 0, .int .i64 0, .int .i64 0, .int .i64 0, .int .i64 0, .int .i64 0]) (t := 62) ?hr ?_; (case hd => rfl); (case hg => rfl); (case hr => first | (go_simp; done) | (go_simp; rfl))
        intro gb438 hg w24 hbox hb
        replace HO_6 := Aside0.mk (Kd.R_below z15_6 hb)
        replace HO424 := Aside0.mk (Kd.R_below z15_4 hb)
        replace HO427 := Aside0.mk (Kd.R_below z15_5 hb)
        have BK438 := Aside0.mk (hbox)
        have GW438 := Aside0.mk ((by rw [hg]; exact (below_size z15_3) : w.heap.size ≤ gb438))
        have GE438 := Aside0.mk ((by rw [hg]; exact (below_size z15_3) : w.heap.size ≤ gb438))
        replace HB := Aside0.mk (below_step z15_3 hb)
        have aa := Aside0.mk ((by rw [hg]; exact Nat.ne_of_lt (blk_lt (g := gb421) (o := .cells #[.int .i64 t416, .int .i64 t417, .int .i64 t418, .int .i64 t419] 59 (0, 0)) (zL15 BK421.out)) : gb421 ≠ gb438))
        have ac := Aside0.mk ((by rw [hg]; exact Nat.ne_of_gt (blk_lt (g := gb421) (o := .cells #[.int .i64 t416, .int .i64 t417, .int .i64 t418, .int .i64 t419] 59 (0, 0)) (zL15 BK421.out)) : gb438 ≠ gb421))
        replace BK421 := Aside0.mk (blk_below (g := gb421) (o := .cells #[.int .i64 t416, .int .i64 t417, .int .i64 t418, .int .i64 t419] 59 (0, 0)) (zL15 BK421.out) hb)
        have ab := Aside0.mk ((by rw [hg]; exact Nat.ne_of_lt (blk_lt (g := gb428) (o := .cells #[v423, v426] 54 (0, 0)) (zL15 BK428.out)) : gb428 ≠ gb438))
        have ad := Aside0.mk ((by rw [hg]; exact Nat.ne_of_gt (blk_lt (g := gb428) (o := .cells #[v423, v426] 54 (0, 0)) (zL15 BK428.out)) : gb438 ≠ gb428))
        replace BK428 := Aside0.mk (blk_below (g := gb428) (o := .cells #[v423, v426] 54 (0, 0)) (zL15 BK428.out) hb)
        clear hb hbox hg
        refine hK.out _ _ ⟨bA15 BK421 rfl, bA15 BK421 rfl, bA15 BK421 rfl, bA15 BK421 rfl⟩ (fun hHeld => ?_)
        clear hK K
        refine nZ ?_
        refine oZ 3 HT_ (fun K hK => ?_)
        refine goes_ Try.func57 (by kernel_rfl) rfl #[.pointer (some ⟨gb428, 0, none⟩), .agg #[.int .i64 t416, .int .i64 t417, .int .i64 t418, .int .i64 t419]] (by rfl) rfl rfl z15_10 ?_
        with_reducible refine (impl_span_byB.calls kj4 v423 t422 v426 t425 t416 t417 t418 t419 t429 t430 t431 t432 t433 t434 t435 t436 true _ ?side1 ?side2 ?side3 A17.out).mono ?_
        (case side1 => (with_reducible repeat first|refine blk_drewN ?_ _|refine blk_drew ?_|refine blk_alloc ?_ _); exact BK428.out)
        (case side2 => exact own_open z15_4)
        (case side3 => exact own_open z15_5)
        rintro e w25 ⟨rfl, hb⟩
        refine ⟨_, rfl, ?_⟩
        replace HO_6 := Aside0.mk (Kd.R_below z15_6 hb)
        replace HO424 := Aside0.mk (Kd.R_below z15_4 hb)
        replace HO427 := Aside0.mk (Kd.R_below z15_5 hb)
        replace BK421 := Aside0.mk (blk_below (g := gb421) (o := .cells #[.int .i64 t416, .int .i64 t417, .int .i64 t418, .int .i64 t419] 59 (0, 0)) (zL15 BK421.out) hb)
        replace BK428 := Aside0.mk (blk_below (g := gb428) (o := .cells #[v423, v426] 54 (0, 0)) (zL15 BK428.out) hb)
        replace BK438 := Aside0.mk (blk_below (g := gb438) (o := .cells #[.int .i64 0, .int .i64 0, .int .i64 0, .int .i64 0, .int .i64 0, .int .i64 0, .int .i64 0, .int .i64 0] 62 (0, 0)) (zL15 BK438.out) hb)
        replace HB := Aside0.mk (below_step z15_1 hb)
        (try clear hb)
        (try clear hb2)
        (try clear hk)
        (try clear hi)
        refine hK.out _ _ ⟨bA15 BK421 rfl, bA15 BK421 rfl, bA15 BK421 rfl, bA15 BK421 rfl⟩ (fun hHeld => ?_)
        clear hK K
        refine nZ ?_
        refine pZ 4 HT_ ?_
        refine pZ 5 HT_ ?_
        refine pZ 6 HT_ ?_
        exact norm_ z15_18 (hCont (gb428, v423, v426, gb438) _ ⟨hHeld, z15_4, z15_5, z15_6, (zL15 BK421.out), (zL15 BK428.out), (zL15 BK438.out), GW428.out, GE428.out, ag.out, ah.out, ad.out, ab.out, GW438.out, GE438.out, aa.out, ac.out, z15_1⟩)
      ·skip
       refine box_step ?hg (N := 10) ?hd (cs := #[.int .i64 0, .int .i64 0, .int .i64 0, .int .i64 0, .int .i64 0, .int .i64 0, .int .i64 0, .int .i64 0]) (t := 62) ?hr ?_; (case hd => rfl); (case hg => rfl); (case hr => first | (go_simp; done) | (go_simp; rfl))
       intro gb438 hg w23 hbox hb
       replace HO_6 := Aside0.mk (Kd.R_below z15_6 hb)
       have BK438 := Aside0.mk (hbox)
       have GW438 := Aside0.mk ((by rw [hg]; exact (below_size z15_2) : w.heap.size ≤ gb438))
       have GE438 := Aside0.mk ((by rw [hg]; exact (below_size z15_2) : w.heap.size ≤ gb438))
       replace HB := Aside0.mk (below_step z15_2 hb)
       have aa := Aside0.mk ((by rw [hg]; exact Nat.ne_of_lt (blk_lt (g := gb421) (o := .cells #[.int .i64 t416, .int .i64 t417, .int .i64 t418, .int .i64 t419] 59 (0, 0)) (zL15 BK421.out)) : gb421 ≠ gb438))
       have ac := Aside0.mk ((by rw [hg]; exact Nat.ne_of_gt (blk_lt (g := gb421) (o := .cells #[.int .i64 t416, .int .i64 t417, .int .i64 t418, .int .i64 t419] 59 (0, 0)) (zL15 BK421.out)) : gb438 ≠ gb421))
       replace BK421 := Aside0.mk (blk_below (g := gb421) (o := .cells #[.int .i64 t416, .int .i64 t417, .int .i64 t418, .int .i64 t419] 59 (0, 0)) (zL15 BK421.out) hb)
       clear hb hbox hg
       refine hK.out _ _ ⟨bA15 BK421 rfl, bA15 BK421 rfl, bA15 BK421 rfl, bA15 BK421 rfl⟩ (fun hHeld => ?_)
       clear hK K
       refine nZ ?_
       refine oZ 1 HT_ (fun K hK => ?_)
       refine goes_ Try.func54 (by kernel_rfl) rfl #[.slice Ao21 t412.length co21] (by rfl) rfl rfl z15_10 ?_
       with_reducible refine (impl_spanOf.calls kj4 _ _ t412 t422 t425 _ ?side1 ?side2 A16.out).mono ?_
       (case side1 => exact cZ ((Kd.R_reads' HO_6.out).2.2))
       (case side2 => exact (Kd.R_reads' HO_6.out).2.1)
       rintro e w24 ⟨v423, v426, gb428, rfl, hbox, hgr, ho0, ho1, hb⟩
       refine ⟨_, rfl, ?_⟩
       replace HO_6 := Aside0.mk (Kd.R_below z15_6 hb)
       have HO424 := Aside0.mk (Kd.R_lower ho0 (below_size z15_7))
       have HO427 := Aside0.mk (Kd.R_lower ho1 (below_size z15_7))
       have BK428 := Aside0.mk (hbox)
       have GW428 := Aside0.mk ((Nat.le_trans ((below_size z15_7) : w.heap.size ≤ _) hgr : w.heap.size ≤ gb428))
       have GE428 := Aside0.mk ((Nat.le_trans ((below_size z15_7) : w.heap.size ≤ _) hgr : w.heap.size ≤ gb428))
       have ag := Aside0.mk ((Nat.ne_of_lt (Nat.lt_of_lt_of_le (blk_lt (g := gb421) (o := .cells #[.int .i64 t416, .int .i64 t417, .int .i64 t418, .int .i64 t419] 59 (0, 0)) (zL15 BK421.out)) hgr) : gb421 ≠ gb428))
       have ah := Aside0.mk ((Nat.ne_of_gt (Nat.lt_of_lt_of_le (blk_lt (g := gb421) (o := .cells #[.int .i64 t416, .int .i64 t417, .int .i64 t418, .int .i64 t419] 59 (0, 0)) (zL15 BK421.out)) hgr) : gb428 ≠ gb421))
       replace BK421 := Aside0.mk (blk_below (g := gb421) (o := .cells #[.int .i64 t416, .int .i64 t417, .int .i64 t418, .int .i64 t419] 59 (0, 0)) (zL15 BK421.out) hb)
       have ad := Aside0.mk ((Nat.ne_of_lt (Nat.lt_of_lt_of_le (blk_lt (g := gb438) (o := .cells #[.int .i64 0, .int .i64 0, .int .i64 0, .int .i64 0, .int .i64 0, .int .i64 0, .int .i64 0, .int .i64 0] 62 (0, 0)) (zL15 BK438.out)) hgr) : gb438 ≠ gb428))
       have ab := Aside0.mk ((Nat.ne_of_gt (Nat.lt_of_lt_of_le (blk_lt (g := gb438) (o := .cells #[.int .i64 0, .int .i64 0, .int .i64 0, .int .i64 0, .int .i64 0, .int .i64 0, .int .i64 0, .int .i64 0] 62 (0, 0)) (zL15 BK438.out)) hgr) : gb428 ≠ gb438))
       replace BK438 := Aside0.mk (blk_below (g := gb438) (o := .cells #[.int .i64 0, .int .i64 0, .int .i64 0, .int .i64 0, .int .i64 0, .int .i64 0, .int .i64 0, .int .i64 0] 62 (0, 0)) (zL15 BK438.out) hb)
       replace HB := Aside0.mk (below_step z15_7 hb)
       (try clear hb)
       (try clear hb2)
       (try clear hk)
       (try clear hi)
       (try clear ho0)
       (try clear ho1)
       refine hK.out _ _ ⟨bA15 BK421 rfl, bA15 BK421 rfl, bA15 BK421 rfl, bA15 BK421 rfl⟩ (fun hHeld => ?_)
       clear hK K
       refine nZ ?_
       refine oZ 3 HT_ (fun K hK => ?_)
       refine goes_ Try.func57 (by kernel_rfl) rfl #[.pointer (some ⟨gb428, 0, none⟩), .agg #[.int .i64 t416, .int .i64 t417, .int .i64 t418, .int .i64 t419]] (by rfl) rfl rfl z15_10 ?_
       with_reducible refine (impl_span_byB.calls kj4 v423 t422 v426 t425 t416 t417 t418 t419 t429 t430 t431 t432 t433 t434 t435 t436 true _ ?side1 ?side2 ?side3 A17.out).mono ?_
       (case side1 => (with_reducible repeat first|refine blk_drewN ?_ _|refine blk_drew ?_|refine blk_alloc ?_ _); exact BK428.out)
       (case side2 => exact own_open z15_4)
       (case side3 => exact own_open z15_5)
       rintro e w25 ⟨rfl, hb⟩
       refine ⟨_, rfl, ?_⟩
       replace HO_6 := Aside0.mk (Kd.R_below z15_6 hb)
       replace HO424 := Aside0.mk (Kd.R_below z15_4 hb)
       replace HO427 := Aside0.mk (Kd.R_below z15_5 hb)
       replace BK421 := Aside0.mk (blk_below (g := gb421) (o := .cells #[.int .i64 t416, .int .i64 t417, .int .i64 t418, .int .i64 t419] 59 (0, 0)) (zL15 BK421.out) hb)
       replace BK438 := Aside0.mk (blk_below (g := gb438) (o := .cells #[.int .i64 0, .int .i64 0, .int .i64 0, .int .i64 0, .int .i64 0, .int .i64 0, .int .i64 0, .int .i64 0] 62 (0, 0)) (zL15 BK438.out) hb)
       replace BK428 := Aside0.mk (blk_below (g := gb428) (o := .cells #[v423, v426] 54 (0, 0)) (zL15 BK428.out) hb)
       replace HB := Aside0.mk (below_step z15_15 hb)
       (try clear hb)
       (try clear hb2)
       (try clear hk)
       (try clear hi)
       refine hK.out _ _ ⟨bA15 BK421 rfl, bA15 BK421 rfl, bA15 BK421 rfl, bA15 BK421 rfl⟩ (fun hHeld => ?_)
       clear hK K
       refine nZ ?_
       refine pZ 4 HT_ ?_
       refine pZ 5 HT_ ?_
       refine pZ 6 HT_ ?_
       exact norm_ z15_18 (hCont (gb428, v423, v426, gb438) _ ⟨hHeld, z15_4, z15_5, z15_6, (zL15 BK421.out), (zL15 BK428.out), (zL15 BK438.out), GW428.out, GE428.out, ag.out, ah.out, ad.out, ab.out, GW438.out, GE438.out, aa.out, ac.out, z15_15⟩)
     rintro ⟨gb428, v423, v426, gb438⟩ w26 ⟨hS_, h0_, h1_, h2_, h3_, h4_, h5_, h6_, h7_, h8_, h9_, h10_, h11_, h12_, h13_, h14_, h15_, h16_⟩
     have n0_ : Aside0 (Kd.R k77 77 w26 w.heap.size (fun _ => True) v423 t422) := ⟨h0_⟩
     have n1_ : Aside0 (Kd.R (Kd.int .i64) 3 w26 w.heap.size (fun _ => True) v426 t425) := ⟨h1_⟩
     have n2_ : Aside0 (Kd.R k59 59 w26 w.heap.size (fun k_ => k_ ≠ gb421) (.slice Ao21 t412.length co21) t412) := ⟨h2_⟩
     have n3_ : Aside0 (w26.heap[gb421]? = some (.cells #[.int .i64 t416, .int .i64 t417, .int .i64 t418, .int .i64 t419] 59 (0, 0))) := ⟨h3_⟩
     have n4_ : Aside0 (w26.heap[gb428]? = some (.cells #[v423, v426] 54 (0, 0))) := ⟨h4_⟩
     have n5_ : Aside0 (w26.heap[gb438]? = some (.cells #[.int .i64 0, .int .i64 0, .int .i64 0, .int .i64 0, .int .i64 0, .int .i64 0, .int .i64 0, .int .i64 0] 62 (0, 0))) := ⟨h5_⟩
     have n6_ : Aside0 (w.heap.size ≤ gb428) := ⟨h6_⟩
     have n7_ : Aside0 (w.heap.size ≤ gb428) := ⟨h7_⟩
     have n8_ : Aside0 (gb421 ≠ gb428) := ⟨h8_⟩
     have n9_ : Aside0 (gb428 ≠ gb421) := ⟨h9_⟩
     have n10_ : Aside0 (gb438 ≠ gb428) := ⟨h10_⟩
     have n11_ : Aside0 (gb428 ≠ gb438) := ⟨h11_⟩
     have n12_ : Aside0 (w.heap.size ≤ gb438) := ⟨h12_⟩
     have n13_ : Aside0 (w.heap.size ≤ gb438) := ⟨h13_⟩
     have n14_ : Aside0 (gb421 ≠ gb438) := ⟨h14_⟩
     have n15_ : Aside0 (gb438 ≠ gb421) := ⟨h15_⟩
     have n16_ : Aside0 (Below w.heap.size w w26) := ⟨h16_⟩
     clear HO_6
     clear BK421
     clear HB
     clear h0_ h1_ h2_ h3_ h4_ h5_ h6_ h7_ h8_ h9_ h10_ h11_ h12_ h13_ h14_ h15_ h16_
     have HO424 := n0_
     have HO427 := n1_
     have HO_6 := n2_
     have BK421 := n3_
     have BK428 := n4_
     have BK438 := n5_
     have GW428 := n6_
     have GE428 := n7_
     have ag := n8_
     have ah := n9_
     have ad := n10_
     have ab := n11_
     have GW438 := n12_
     have GE438 := n13_
     have aa := n14_
     have ac := n15_
     have HB := n16_
     clear n0_ n1_ n2_ n3_ n4_ n5_ n6_ n7_ n8_ n9_ n10_ n11_ n12_ n13_ n14_ n15_ n16_
     have hHeld : w26.cell? ⟨gb421, 0, none⟩ = some (.int .i64 t416) ∧ w26.cell? ⟨gb421, 1, none⟩ = some (.int .i64 t417) ∧ w26.cell? ⟨gb421, 2, none⟩ = some (.int .i64 t418) ∧ w26.cell? ⟨gb421, 3, none⟩ = some (.int .i64 t419) := hS_
     refine norm_ (a' := ?_) ?_ ?_
     rotate_left
     ·simp only [putAll, Act.put, List.setIfInBounds_toArray, List.set_cons_zero, List.set_cons_succ]
      rfl
     refine one_ (i := 8) (N := none) #[true, true, true, true, true, true, true, true, true, false] rfl rfl (one_of HT_.out (by kernel_rfl)) (by decide) (fun K hK => ?_)
     have hs27 : w26.cell? ⟨gb438, 0, none⟩ = some (.int .i64 0) := bA15 BK438 rfl
     have hfs27 := blk_frozen BK438.out 0
     have hns27_0 := aa.out
     have hns27_1 := ab.out
     have hms27_0 := ac.out
     have hms27_1 := ad.out
     have hs28 : w26.cell? ⟨gb438, 1, none⟩ = some (.int .i64 0) := bA15 BK438 rfl
     have hfs28 := blk_frozen BK438.out 1
     have hns28_0 := aa.out
     have hns28_1 := ab.out
     have hms28_0 := ac.out
     have hms28_1 := ad.out
     have hs29 : w26.cell? ⟨gb438, 2, none⟩ = some (.int .i64 0) := bA15 BK438 rfl
     have hfs29 := blk_frozen BK438.out 2
     have hns29_0 := aa.out
     have hns29_1 := ab.out
     have hms29_0 := ac.out
     have hms29_1 := ad.out
     have hs30 : w26.cell? ⟨gb438, 3, none⟩ = some (.int .i64 0) := bA15 BK438 rfl
     have hfs30 := blk_frozen BK438.out 3
     have hns30_0 := aa.out
     have hns30_1 := ab.out
     have hms30_0 := ac.out
     have hms30_1 := ad.out
     have hs31 : w26.cell? ⟨gb438, 4, none⟩ = some (.int .i64 0) := bA15 BK438 rfl
     have hfs31 := blk_frozen BK438.out 4
     have hns31_0 := aa.out
     have hns31_1 := ab.out
     have hms31_0 := ac.out
     have hms31_1 := ad.out
     have hs32 : w26.cell? ⟨gb438, 5, none⟩ = some (.int .i64 0) := bA15 BK438 rfl
     have hfs32 := blk_frozen BK438.out 5
     have hns32_0 := aa.out
     have hns32_1 := ab.out
     have hms32_0 := ac.out
     have hms32_1 := ad.out
     have hs33 : w26.cell? ⟨gb438, 6, none⟩ = some (.int .i64 0) := bA15 BK438 rfl
     have hfs33 := blk_frozen BK438.out 6
     have hns33_0 := aa.out
     have hns33_1 := ab.out
     have hms33_0 := ac.out
     have hms33_1 := ad.out
     have hs34 : w26.cell? ⟨gb438, 7, none⟩ = some (.int .i64 0) := bA15 BK438 rfl
     have hfs34 := blk_frozen BK438.out 7
     have hns34_0 := aa.out
     have hns34_1 := ab.out
     have hms34_0 := ac.out
     have hms34_1 := ad.out
     refine skip_ (w1 := ?_) (by rfl) rfl ?_ ?_
     rotate_left
     ·go_simp
      rfl
     refine hK.out _ _ ⟨((cell_far (p := ⟨gb438, _, none⟩) aa.out _).trans (((cell_far (p := ⟨gb438, _, none⟩) aa.out _).trans (((cell_far (p := ⟨gb438, _, none⟩) aa.out _).trans (((cell_far (p := ⟨gb438, _, none⟩) aa.out _).trans (((cell_far (p := ⟨gb438, _, none⟩) aa.out _).trans (((cell_far (p := ⟨gb438, _, none⟩) aa.out _).trans (((cell_far (p := ⟨gb438, _, none⟩) aa.out _).trans (((cell_far (p := ⟨gb438, _, none⟩) aa.out _).trans (hHeld.1)))))))))))))))), ((cell_far (p := ⟨gb438, _, none⟩) aa.out _).trans (((cell_far (p := ⟨gb438, _, none⟩) aa.out _).trans (((cell_far (p := ⟨gb438, _, none⟩) aa.out _).trans (((cell_far (p := ⟨gb438, _, none⟩) aa.out _).trans (((cell_far (p := ⟨gb438, _, none⟩) aa.out _).trans (((cell_far (p := ⟨gb438, _, none⟩) aa.out _).trans (((cell_far (p := ⟨gb438, _, none⟩) aa.out _).trans (((cell_far (p := ⟨gb438, _, none⟩) aa.out _).trans (hHeld.2.1)))))))))))))))), ((cell_far (p := ⟨gb438, _, none⟩) aa.out _).trans (((cell_far (p := ⟨gb438, _, none⟩) aa.out _).trans (((cell_far (p := ⟨gb438, _, none⟩) aa.out _).trans (((cell_far (p := ⟨gb438, _, none⟩) aa.out _).trans (((cell_far (p := ⟨gb438, _, none⟩) aa.out _).trans (((cell_far (p := ⟨gb438, _, none⟩) aa.out _).trans (((cell_far (p := ⟨gb438, _, none⟩) aa.out _).trans (((cell_far (p := ⟨gb438, _, none⟩) aa.out _).trans (hHeld.2.2.1)))))))))))))))), ((cell_far (p := ⟨gb438, _, none⟩) aa.out _).trans (((cell_far (p := ⟨gb438, _, none⟩) aa.out _).trans (((cell_far (p := ⟨gb438, _, none⟩) aa.out _).trans (((cell_far (p := ⟨gb438, _, none⟩) aa.out _).trans (((cell_far (p := ⟨gb438, _, none⟩) aa.out _).trans (((cell_far (p := ⟨gb438, _, none⟩) aa.out _).trans (((cell_far (p := ⟨gb438, _, none⟩) aa.out _).trans (((cell_far (p := ⟨gb438, _, none⟩) aa.out _).trans (hHeld.2.2.2))))))))))))))))⟩ (fun hHeld => ?_)
     clear hK K
     refine pZ 9 HT_ ?_
     refine done_ (done_of HT_.out (by kernel_rfl)) ?_
     try go_wp2_with (first | ((with_reducible refine gate_dst (N := 41) rfl ?_); refine R_make0 (Kd.int .i64) _ 3 rfl (N := 41) rfl 28 _ _ rfl (l0.length : Int) rfl rfl Try.underlying28 (.int .i64 0) 8 info3 (by decide) (ok := fun _ => True) (okp := fun _ => True) (fun _ hk => hk) trivial (of_decide_eq_true (by first | (with_reducible assumption) | assumption)) (Nat.le_trans (Nat.mul_le_mul_right _ (of_decide_eq_true (by first | (with_reducible assumption) | assumption) : (l0.length : Int).toNat ≤ 35184372088832)) (by omega)) (Below.refl _ _) (Nat.le_refl _) ?_; intro v440 w35 ho36 hb hg_ hnew_; clear hg_ hnew_; (first | rw [← Ny439.out] at ho36 | (simp only [Int.reduceToNat] at ho36; rw [← Ny439.out] at ho36)); replace HO_6 := Aside0.mk (Kd.R_below (by (with_reducible repeat (first | apply Kd.R_alloc | apply Kd.R_drewN | apply Kd.R_drew)); exact (Kd.R_mono (Kd.R_far (p := ⟨gb438, 7, none⟩) (Kd.R_far (p := ⟨gb438, 6, none⟩) (Kd.R_far (p := ⟨gb438, 5, none⟩) (Kd.R_far (p := ⟨gb438, 4, none⟩) (Kd.R_far (p := ⟨gb438, 3, none⟩) (Kd.R_far (p := ⟨gb438, 2, none⟩) (Kd.R_far (p := ⟨gb438, 1, none⟩) (Kd.R_far (p := ⟨gb438, 0, none⟩) (Kd.R_types HO_6.out BK438.out (by decide)) (fun _ hk => hk.2) (.int .i64 t429)) (fun _ hk => hk.2) (.int .i64 t430)) (fun _ hk => hk.2) (.int .i64 t431)) (fun _ hk => hk.2) (.int .i64 t432)) (fun _ hk => hk.2) (.int .i64 t433)) (fun _ hk => hk.2) (.int .i64 t434)) (fun _ hk => hk.2) (.int .i64 t435)) (fun _ hk => hk.2) (.int .i64 t436)) (fun _ h_ => h_.1))) hb); replace HO424 := Aside0.mk (Kd.R_below (by (with_reducible repeat (first | apply Kd.R_alloc | apply Kd.R_drewN | apply Kd.R_drew)); exact (Kd.R_mono (Kd.R_far (p := ⟨gb438, 7, none⟩) (Kd.R_far (p := ⟨gb438, 6, none⟩) (Kd.R_far (p := ⟨gb438, 5, none⟩) (Kd.R_far (p := ⟨gb438, 4, none⟩) (Kd.R_far (p := ⟨gb438, 3, none⟩) (Kd.R_far (p := ⟨gb438, 2, none⟩) (Kd.R_far (p := ⟨gb438, 1, none⟩) (Kd.R_far (p := ⟨gb438, 0, none⟩) (Kd.R_types HO424.out BK438.out (by decide)) (fun _ hk => hk.2) (.int .i64 t429)) (fun _ hk => hk.2) (.int .i64 t430)) (fun _ hk => hk.2) (.int .i64 t431)) (fun _ hk => hk.2) (.int .i64 t432)) (fun _ hk => hk.2) (.int .i64 t433)) (fun _ hk => hk.2) (.int .i64 t434)) (fun _ hk => hk.2) (.int .i64 t435)) (fun _ hk => hk.2) (.int .i64 t436)) (fun _ h_ => h_.1))) hb); have HO441 := Aside0.mk (Kd.R_lower (Kd.R_new' ho36 (Kd.R_lt z15_14)) (below_size z15_1)); replace HO427 := Aside0.mk (Kd.R_elder' z15_14 (Kd.R_base ho36) hb); replace BK421 := Aside0.mk (blk_below (g := gb421) (o := .cells #[.int .i64 t416, .int .i64 t417, .int .i64 t418, .int .i64 t419] 59 (0, 0)) (by (with_reducible repeat first|refine blk_drewN ?_ _|refine blk_drew ?_|refine blk_alloc ?_ _); refine blk_far ?_ aa.out _; (with_reducible repeat first|refine blk_drewN ?_ _|refine blk_drew ?_|refine blk_alloc ?_ _); refine blk_far ?_ aa.out _; (with_reducible repeat first|refine blk_drewN ?_ _|refine blk_drew ?_|refine blk_alloc ?_ _); refine blk_far ?_ aa.out _; (with_reducible repeat first|refine blk_drewN ?_ _|refine blk_drew ?_|refine blk_alloc ?_ _); refine blk_far ?_ aa.out _; (with_reducible repeat first|refine blk_drewN ?_ _|refine blk_drew ?_|refine blk_alloc ?_ _); refine blk_far ?_ aa.out _; (with_reducible repeat first|refine blk_drewN ?_ _|refine blk_drew ?_|refine blk_alloc ?_ _); refine blk_far ?_ aa.out _; (with_reducible repeat first|refine blk_drewN ?_ _|refine blk_drew ?_|refine blk_alloc ?_ _); refine blk_far ?_ aa.out _; (with_reducible repeat first|refine blk_drewN ?_ _|refine blk_drew ?_|refine blk_alloc ?_ _); refine blk_far ?_ aa.out _; (with_reducible repeat first|refine blk_drewN ?_ _|refine blk_drew ?_|refine blk_alloc ?_ _); exact BK421.out) hb); replace BK428 := Aside0.mk (blk_below (g := gb428) (o := .cells #[v423, v426] 54 (0, 0)) (by (with_reducible repeat first|refine blk_drewN ?_ _|refine blk_drew ?_|refine blk_alloc ?_ _); refine blk_far ?_ ab.out _; (with_reducible repeat first|refine blk_drewN ?_ _|refine blk_drew ?_|refine blk_alloc ?_ _); refine blk_far ?_ ab.out _; (with_reducible repeat first|refine blk_drewN ?_ _|refine blk_drew ?_|refine blk_alloc ?_ _); refine blk_far ?_ ab.out _; (with_reducible repeat first|refine blk_drewN ?_ _|refine blk_drew ?_|refine blk_alloc ?_ _); refine blk_far ?_ ab.out _; (with_reducible repeat first|refine blk_drewN ?_ _|refine blk_drew ?_|refine blk_alloc ?_ _); refine blk_far ?_ ab.out _; (with_reducible repeat first|refine blk_drewN ?_ _|refine blk_drew ?_|refine blk_alloc ?_ _); refine blk_far ?_ ab.out _; (with_reducible repeat first|refine blk_drewN ?_ _|refine blk_drew ?_|refine blk_alloc ?_ _); refine blk_far ?_ ab.out _; (with_reducible repeat first|refine blk_drewN ?_ _|refine blk_drew ?_|refine blk_alloc ?_ _); refine blk_far ?_ ab.out _; (with_reducible repeat first|refine blk_drewN ?_ _|refine blk_drew ?_|refine blk_alloc ?_ _); exact BK428.out) hb); replace BK438 := Aside0.mk (blk_below (g := gb438) (o := .cells #[.int .i64 t429, .int .i64 t430, .int .i64 t431, .int .i64 t432, .int .i64 t433, .int .i64 t434, .int .i64 t435, .int .i64 t436] 62 (0, 0)) (bZ BK438.out) hb); replace HB := Aside0.mk (below_step z15_1 hb); clear hb ho36))
     go_loopg [12, 44] kj4 (fun kq v12 v44 w' => ∃ (x12_2 : List Int) (x44_2 : Int), v44 = .int .i64 x44_2 ∧ Aside0 (impl_SpanBy.l0 kq x12_2 (l0.length : Int) x44_2 t429 t430 t431 t432 t433 t434 t435 t436 = some (r1, r2)) ∧ Aside0 (kq ≤ kj4) ∧ Aside0 (Kd.R (Kd.int .i64) 3 w' w.heap.size (fun k_ => some k_ ≠ (v426 : Value).ownBlock) v12 x12_2) ∧ Aside0 (Kd.R k77 77 w' w.heap.size (fun _ => True) v423 t422) ∧ Aside0 (Kd.R (Kd.int .i64) 3 w' w.heap.size (fun k_ => some k_ ≠ (v12 : Value).ownBlock) v426 t425) ∧ Aside0 (w'.heap[gb421]? = some (.cells #[.int .i64 t416, .int .i64 t417, .int .i64 t418, .int .i64 t419] 59 (0, 0))) ∧ Aside0 (w'.heap[gb428]? = some (.cells #[v423, v426] 54 (0, 0))) ∧ Aside0 (w'.heap[gb438]? = some (.cells #[.int .i64 t429, .int .i64 t430, .int .i64 t431, .int .i64 t432, .int .i64 t433, .int .i64 t434, .int .i64 t435, .int .i64 t436] 62 (0, 0))) ∧ Aside0 (Below w.heap.size w w'))
     case atStart => exact ⟨(y439), (0), (by first | rfl | (simp; done) | (simp [*]; done)), H', ⟨Nat.le_refl _⟩, ⟨by (with_reducible repeat (first | apply Kd.R_alloc | apply Kd.R_drewN | apply Kd.R_drew)); exact Kd.R_mono HO441.out (fun _ hk => hk.2)⟩, ⟨z15_4⟩, ⟨by (with_reducible repeat (first | apply Kd.R_alloc | apply Kd.R_drewN | apply Kd.R_drew)); exact Kd.R_mono HO427.out (fun _ hk => hk.2)⟩, ⟨zL15 BK421.out⟩, ⟨zL15 BK428.out⟩, ⟨zL15 BK438.out⟩, ⟨z15_1⟩⟩
     case round =>
      clear H'
      try clear c1
      try clear c15
      try clear c18
      try clear c19
      try clear c19b0
      try clear c19b1
      try clear c20
      try clear c20b0
      try clear c20b1
      obtain ⟨x12_2, x44_2, rfl, HA, HK2, HO_12, ae, af, BK421, BK428, BK438, HB⟩ := hrel
      cases gk with
      | zero => exact absurd HA.out (by simp [impl_SpanBy.l0])
      | succ k2 =>
       have H := HA.out
       clear HA
       simp only [impl_SpanBy.l0] at H
       by_cases c37 : x44_2 < (l0.length : Int)
       ·rw [if_pos c37] at H
        have c37b0 : decide (x44_2 < (l0.length : Int)) = true := decide_eq_true c37
        clear c37
        by_cases c38 : x44_2 = 0
        ·rw [if_pos c38] at H
         subst c38
         (try have hz_ := eq_true (Int.natCast_pos.1 (of_decide_eq_true c37b0) : 0 < l0.length))
         replace H : (if x12_2.length < 17592186044416 then (impl_SpanBy.l0 k2 (x12_2 ++ [t429]) (l0.length : Int) (wrap64 ((0 : Int) + 1)) t429 t430 t431 t432 t433 t434 t435 t436) else (none)) = some (r1, r2) := H
         obtain ⟨c39, H⟩ := ifP H
         have LMc39 := Aside0.mk c39
         clear c39
         obtain ⟨y442, hy442⟩ : ∃ y_ : List Int, y_ = (x12_2 ++ [t429]) := ⟨_, rfl⟩
         replace H : (impl_SpanBy.l0 k2 y442 (l0.length : Int) (wrap64 ((0 : Int) + 1)) t429 t430 t431 t432 t433 t434 t435 t436) = some (r1, r2) := by first | (rw [hy442]; with_reducible exact H) | (have H2_ := (Option.bind_some _ _).symm.trans H; rw [hy442]; with_reducible exact H2_) | (have H2_ := (Option.bind_some _ _).symm.trans H; with_reducible exact H2_) | with_reducible exact H | (rw [hy442]; exact H) | exact H
         have Ny442 := Aside0.mk hy442
         clear hy442
         have H' := Aside0.mk H
         clear H
         have hnb40 := ac.out
         have hnc40 := aa.out
         have hnb41 := ad.out
         have hnc41 := ab.out
         have hcz42_0 : wr.cell? ⟨gb438, 0, none⟩ = some (.int .i64 t429) := bA15 BK438 rfl
         have hfz42_0 := blk_frozen BK438.out 0
         go_wp2_with (first | ((with_reducible refine gate_builtin (b := .append) (xs := #[.tmp 47, .tmp 51]) rfl ?_); at_builtin; refine Kd.R_append (Kd.int .i64) (w0 := w) w.heap.size rfl (.tmp 47) (.tmp 51) 28 3 (.int .i64 0) 8 rfl Try.underlying28 info3 rfl (by decide) (by omega) u12 x12_2 t429 [.int .i64 t429] (fun k_ => some k_ ≠ (v426 : Value).ownBlock) (fun _ => False) rfl rfl ?aP (fun _ hk => hk.elim) ?aF ?aO ?aB ?aS ?aL ?_; (case aP => exact rfl); (case aB => exact z15_1); (case aF => exact (fun k_ hk => Kd.fresh' (Kd.R_lt z15_13) k_ hk)); (case aO => exact z15_9); (case aS => exact (below_size z15_1)); (case aL => have := LMc39.out; omega); intro v443 w43 ho hb hg hat; rw [← Ny442.out] at ho; have n0_ := Aside0.mk (Kd.R_over' z15_8 (Kd.R_typed z15_9) (by decide) hg); have n1_ := Aside0.mk (Kd.R_after (ok := (fun _ => True)) z15_11 hg hat); have n2_ := Aside0.mk (blk_grown (g := gb421) (o := .cells #[.int .i64 t416, .int .i64 t417, .int .i64 t418, .int .i64 t419] 59 (0, 0)) (zL15 BK421.out) hg (Kd.R_ne HO_12.out BK421.out (by decide))); have n3_ := Aside0.mk (blk_grown (g := gb428) (o := .cells #[v423, v426] 54 (0, 0)) (zL15 BK428.out) hg (Kd.R_ne HO_12.out BK428.out (by decide))); have n4_ := Aside0.mk (blk_grown (g := gb438) (o := .cells #[.int .i64 t429, .int .i64 t430, .int .i64 t431, .int .i64 t432, .int .i64 t433, .int .i64 t434, .int .i64 t435, .int .i64 t436] 62 (0, 0)) (zL15 BK438.out) hg (Kd.R_ne HO_12.out BK438.out (by decide))); have n5_ := Aside0.mk (hb); have n6_ := Aside0.mk (ho); clear ae; clear af; clear BK421; clear BK428; clear BK438; clear HB; clear HO_12; have ae := n0_; have af := n1_; have BK421 := n2_; have BK428 := n3_; have BK438 := n4_; have HB := n5_; have HO444 := n6_; clear n0_ n1_ n2_ n3_ n4_ n5_ n6_; clear ho hb hg hat))
         go_roundg k2
         case measure => have := HJ4.out; have := HK2.out; omega
         case rel => exact ⟨(y442), (wrap64 ((0 : Int) + 1)), z15_17, H', ⟨z15_20⟩, ⟨by (with_reducible repeat (first | apply Kd.R_alloc | apply Kd.R_drewN | apply Kd.R_drew)); exact HO444.out⟩, ⟨z15_8⟩, ⟨z15_12⟩, ⟨zL15 BK421.out⟩, ⟨zL15 BK428.out⟩, ⟨zL15 BK438.out⟩, ⟨z15_1⟩⟩
        ·rw [if_neg c38] at H
         clear c38
         by_cases c44 : x44_2 = 1
         ·rw [if_pos c44] at H
          subst c44
          replace H : (if x12_2.length < 17592186044416 then (impl_SpanBy.l0 k2 (x12_2 ++ [t430]) (l0.length : Int) (wrap64 ((1 : Int) + 1)) t429 t430 t431 t432 t433 t434 t435 t436) else (none)) = some (r1, r2) := H
          obtain ⟨c45, H⟩ := ifP H
          have LMc45 := Aside0.mk c45
          clear c45
          obtain ⟨y445, hy445⟩ : ∃ y_ : List Int, y_ = (x12_2 ++ [t430]) := ⟨_, rfl⟩
          replace H : (impl_SpanBy.l0 k2 y445 (l0.length : Int) (wrap64 ((1 : Int) + 1)) t429 t430 t431 t432 t433 t434 t435 t436) = some (r1, r2) := by first | (rw [hy445]; with_reducible exact H) | (have H2_ := (Option.bind_some _ _).symm.trans H; rw [hy445]; with_reducible exact H2_) | (have H2_ := (Option.bind_some _ _).symm.trans H; with_reducible exact H2_) | with_reducible exact H | (rw [hy445]; exact H) | exact H
          have Ny445 := Aside0.mk hy445
          clear hy445
          have H' := Aside0.mk H
          clear H
          have hnb46 := ac.out
          have hnc46 := aa.out
          have hnb47 := ad.out
          have hnc47 := ab.out
          have hcz48_1 : wr.cell? ⟨gb438, 1, none⟩ = some (.int .i64 t430) := bA15 BK438 rfl
          have hfz48_1 := blk_frozen BK438.out 1
          go_wp2_with (first | ((with_reducible refine gate_builtin (b := .append) (xs := #[.tmp 47, .tmp 51]) rfl ?_); at_builtin; refine Kd.R_append (Kd.int .i64) (w0 := w) w.heap.size rfl (.tmp 47) (.tmp 51) 28 3 (.int .i64 0) 8 rfl Try.underlying28 info3 rfl (by decide) (by omega) u12 x12_2 t430 [.int .i64 t430] (fun k_ => some k_ ≠ (v426 : Value).ownBlock) (fun _ => False) rfl rfl ?aP (fun _ hk => hk.elim) ?aF ?aO ?aB ?aS ?aL ?_; (case aP => exact rfl); (case aB => exact z15_1); (case aF => exact (fun k_ hk => Kd.fresh' (Kd.R_lt z15_13) k_ hk)); (case aO => exact z15_9); (case aS => exact (below_size z15_1)); (case aL => have := LMc45.out; omega); intro v446 w49 ho hb hg hat; rw [← Ny445.out] at ho; have n0_ := Aside0.mk (Kd.R_over' z15_8 (Kd.R_typed z15_9) (by decide) hg); have n1_ := Aside0.mk (Kd.R_after (ok := (fun _ => True)) z15_11 hg hat); have n2_ := Aside0.mk (blk_grown (g := gb421) (o := .cells #[.int .i64 t416, .int .i64 t417, .int .i64 t418, .int .i64 t419] 59 (0, 0)) (zL15 BK421.out) hg (Kd.R_ne HO_12.out BK421.out (by decide))); have n3_ := Aside0.mk (blk_grown (g := gb428) (o := .cells #[v423, v426] 54 (0, 0)) (zL15 BK428.out) hg (Kd.R_ne HO_12.out BK428.out (by decide))); have n4_ := Aside0.mk (blk_grown (g := gb438) (o := .cells #[.int .i64 t429, .int .i64 t430, .int .i64 t431, .int .i64 t432, .int .i64 t433, .int .i64 t434, .int .i64 t435, .int .i64 t436] 62 (0, 0)) (zL15 BK438.out) hg (Kd.R_ne HO_12.out BK438.out (by decide))); have n5_ := Aside0.mk (hb); have n6_ := Aside0.mk (ho); clear ae; clear af; clear BK421; clear BK428; clear BK438; clear HB; clear HO_12; have ae := n0_; have af := n1_; have BK421 := n2_; have BK428 := n3_; have BK438 := n4_; have HB := n5_; have HO447 := n6_; clear n0_ n1_ n2_ n3_ n4_ n5_ n6_; clear ho hb hg hat))
          go_roundg k2
          case measure => have := HJ4.out; have := HK2.out; omega
          case rel => exact ⟨(y445), (wrap64 ((1 : Int) + 1)), z15_17, H', ⟨z15_20⟩, ⟨by (with_reducible repeat (first | apply Kd.R_alloc | apply Kd.R_drewN | apply Kd.R_drew)); exact HO447.out⟩, ⟨z15_8⟩, ⟨z15_12⟩, ⟨zL15 BK421.out⟩, ⟨zL15 BK428.out⟩, ⟨zL15 BK438.out⟩, ⟨z15_1⟩⟩
         ·rw [if_neg c44] at H
          clear c44
          by_cases c50 : x44_2 = 2
          ·rw [if_pos c50] at H
           subst c50
           replace H : (if x12_2.length < 17592186044416 then (impl_SpanBy.l0 k2 (x12_2 ++ [t431]) (l0.length : Int) (wrap64 ((2 : Int) + 1)) t429 t430 t431 t432 t433 t434 t435 t436) else (none)) = some (r1, r2) := H
           obtain ⟨c51, H⟩ := ifP H
           have LMc51 := Aside0.mk c51
           clear c51
           obtain ⟨y448, hy448⟩ : ∃ y_ : List Int, y_ = (x12_2 ++ [t431]) := ⟨_, rfl⟩
           replace H : (impl_SpanBy.l0 k2 y448 (l0.length : Int) (wrap64 ((2 : Int) + 1)) t429 t430 t431 t432 t433 t434 t435 t436) = some (r1, r2) := by first | (rw [hy448]; with_reducible exact H) | (have H2_ := (Option.bind_some _ _).symm.trans H; rw [hy448]; with_reducible exact H2_) | (have H2_ := (Option.bind_some _ _).symm.trans H; with_reducible exact H2_) | with_reducible exact H | (rw [hy448]; exact H) | exact H
           have Ny448 := Aside0.mk hy448
           clear hy448
           have H' := Aside0.mk H
           clear H
           have hnb52 := ac.out
           have hnc52 := aa.out
           have hnb53 := ad.out
           have hnc53 := ab.out
           have hcz54_2 : wr.cell? ⟨gb438, 2, none⟩ = some (.int .i64 t431) := bA15 BK438 rfl
           have hfz54_2 := blk_frozen BK438.out 2
           go_wp2_with (first | ((with_reducible refine gate_builtin (b := .append) (xs := #[.tmp 47, .tmp 51]) rfl ?_); at_builtin; refine Kd.R_append (Kd.int .i64) (w0 := w) w.heap.size rfl (.tmp 47) (.tmp 51) 28 3 (.int .i64 0) 8 rfl Try.underlying28 info3 rfl (by decide) (by omega) u12 x12_2 t431 [.int .i64 t431] (fun k_ => some k_ ≠ (v426 : Value).ownBlock) (fun _ => False) rfl rfl ?aP (fun _ hk => hk.elim) ?aF ?aO ?aB ?aS ?aL ?_; (case aP => exact rfl); (case aB => exact z15_1); (case aF => exact (fun k_ hk => Kd.fresh' (Kd.R_lt z15_13) k_ hk)); (case aO => exact z15_9); (case aS => exact (below_size z15_1)); (case aL => have := LMc51.out; omega); intro v449 w55 ho hb hg hat; rw [← Ny448.out] at ho; have n0_ := Aside0.mk (Kd.R_over' z15_8 (Kd.R_typed z15_9) (by decide) hg); have n1_ := Aside0.mk (Kd.R_after (ok := (fun _ => True)) z15_11 hg hat); have n2_ := Aside0.mk (blk_grown (g := gb421) (o := .cells #[.int .i64 t416, .int .i64 t417, .int .i64 t418, .int .i64 t419] 59 (0, 0)) (zL15 BK421.out) hg (Kd.R_ne HO_12.out BK421.out (by decide))); have n3_ := Aside0.mk (blk_grown (g := gb428) (o := .cells #[v423, v426] 54 (0, 0)) (zL15 BK428.out) hg (Kd.R_ne HO_12.out BK428.out (by decide))); have n4_ := Aside0.mk (blk_grown (g := gb438) (o := .cells #[.int .i64 t429, .int .i64 t430, .int .i64 t431, .int .i64 t432, .int .i64 t433, .int .i64 t434, .int .i64 t435, .int .i64 t436] 62 (0, 0)) (zL15 BK438.out) hg (Kd.R_ne HO_12.out BK438.out (by decide))); have n5_ := Aside0.mk (hb); have n6_ := Aside0.mk (ho); clear ae; clear af; clear BK421; clear BK428; clear BK438; clear HB; clear HO_12; have ae := n0_; have af := n1_; have BK421 := n2_; have BK428 := n3_; have BK438 := n4_; have HB := n5_; have HO450 := n6_; clear n0_ n1_ n2_ n3_ n4_ n5_ n6_; clear ho hb hg hat))
           go_roundg k2
           case measure => have := HJ4.out; have := HK2.out; omega
           case rel => exact ⟨(y448), (wrap64 ((2 : Int) + 1)), z15_17, H', ⟨z15_20⟩, ⟨by (with_reducible repeat (first | apply Kd.R_alloc | apply Kd.R_drewN | apply Kd.R_drew)); exact HO450.out⟩, ⟨z15_8⟩, ⟨z15_12⟩, ⟨zL15 BK421.out⟩, ⟨zL15 BK428.out⟩, ⟨zL15 BK438.out⟩, ⟨z15_1⟩⟩
          ·rw [if_neg c50] at H
           clear c50
           by_cases c56 : x44_2 = 3
           ·rw [if_pos c56] at H
            subst c56
            replace H : (if x12_2.length < 17592186044416 then (impl_SpanBy.l0 k2 (x12_2 ++ [t432]) (l0.length : Int) (wrap64 ((3 : Int) + 1)) t429 t430 t431 t432 t433 t434 t435 t436) else (none)) = some (r1, r2) := H
            obtain ⟨c57, H⟩ := ifP H
            have LMc57 := Aside0.mk c57
            clear c57
            obtain ⟨y451, hy451⟩ : ∃ y_ : List Int, y_ = (x12_2 ++ [t432]) := ⟨_, rfl⟩
            replace H : (impl_SpanBy.l0 k2 y451 (l0.length : Int) (wrap64 ((3 : Int) + 1)) t429 t430 t431 t432 t433 t434 t435 t436) = some (r1, r2) := by first | (rw [hy451]; with_reducible exact H) | (have H2_ := (Option.bind_some _ _).symm.trans H; rw [hy451]; with_reducible exact H2_) | (have H2_ := (Option.bind_some _ _).symm.trans H; with_reducible exact H2_) | with_reducible exact H | (rw [hy451]; exact H) | exact H
            have Ny451 := Aside0.mk hy451
            clear hy451
            have H' := Aside0.mk H
            clear H
            have hnb58 := ac.out
            have hnc58 := aa.out
            have hnb59 := ad.out
            have hnc59 := ab.out
            have hcz60_3 : wr.cell? ⟨gb438, 3, none⟩ = some (.int .i64 t432) := bA15 BK438 rfl
            have hfz60_3 := blk_frozen BK438.out 3
            go_wp2_with (first | ((with_reducible refine gate_builtin (b := .append) (xs := #[.tmp 47, .tmp 51]) rfl ?_); at_builtin; refine Kd.R_append (Kd.int .i64) (w0 := w) w.heap.size rfl (.tmp 47) (.tmp 51) 28 3 (.int .i64 0) 8 rfl Try.underlying28 info3 rfl (by decide) (by omega) u12 x12_2 t432 [.int .i64 t432] (fun k_ => some k_ ≠ (v426 : Value).ownBlock) (fun _ => False) rfl rfl ?aP (fun _ hk => hk.elim) ?aF ?aO ?aB ?aS ?aL ?_; (case aP => exact rfl); (case aB => exact z15_1); (case aF => exact (fun k_ hk => Kd.fresh' (Kd.R_lt z15_13) k_ hk)); (case aO => exact z15_9); (case aS => exact (below_size z15_1)); (case aL => have := LMc57.out; omega); intro v452 w61 ho hb hg hat; rw [← Ny451.out] at ho; have n0_ := Aside0.mk (Kd.R_over' z15_8 (Kd.R_typed z15_9) (by decide) hg); have n1_ := Aside0.mk (Kd.R_after (ok := (fun _ => True)) z15_11 hg hat); have n2_ := Aside0.mk (blk_grown (g := gb421) (o := .cells #[.int .i64 t416, .int .i64 t417, .int .i64 t418, .int .i64 t419] 59 (0, 0)) (zL15 BK421.out) hg (Kd.R_ne HO_12.out BK421.out (by decide))); have n3_ := Aside0.mk (blk_grown (g := gb428) (o := .cells #[v423, v426] 54 (0, 0)) (zL15 BK428.out) hg (Kd.R_ne HO_12.out BK428.out (by decide))); have n4_ := Aside0.mk (blk_grown (g := gb438) (o := .cells #[.int .i64 t429, .int .i64 t430, .int .i64 t431, .int .i64 t432, .int .i64 t433, .int .i64 t434, .int .i64 t435, .int .i64 t436] 62 (0, 0)) (zL15 BK438.out) hg (Kd.R_ne HO_12.out BK438.out (by decide))); have n5_ := Aside0.mk (hb); have n6_ := Aside0.mk (ho); clear ae; clear af; clear BK421; clear BK428; clear BK438; clear HB; clear HO_12; have ae := n0_; have af := n1_; have BK421 := n2_; have BK428 := n3_; have BK438 := n4_; have HB := n5_; have HO453 := n6_; clear n0_ n1_ n2_ n3_ n4_ n5_ n6_; clear ho hb hg hat))
            go_roundg k2
            case measure => have := HJ4.out; have := HK2.out; omega
            case rel => exact ⟨(y451), (wrap64 ((3 : Int) + 1)), z15_17, H', ⟨z15_20⟩, ⟨by (with_reducible repeat (first | apply Kd.R_alloc | apply Kd.R_drewN | apply Kd.R_drew)); exact HO453.out⟩, ⟨z15_8⟩, ⟨z15_12⟩, ⟨zL15 BK421.out⟩, ⟨zL15 BK428.out⟩, ⟨zL15 BK438.out⟩, ⟨z15_1⟩⟩
           ·rw [if_neg c56] at H
            clear c56
            by_cases c62 : x44_2 = 4
            ·rw [if_pos c62] at H
             subst c62
             replace H : (if x12_2.length < 17592186044416 then (impl_SpanBy.l0 k2 (x12_2 ++ [t433]) (l0.length : Int) (wrap64 ((4 : Int) + 1)) t429 t430 t431 t432 t433 t434 t435 t436) else (none)) = some (r1, r2) := H
             obtain ⟨c63, H⟩ := ifP H
             have LMc63 := Aside0.mk c63
             clear c63
             obtain ⟨y454, hy454⟩ : ∃ y_ : List Int, y_ = (x12_2 ++ [t433]) := ⟨_, rfl⟩
             replace H : (impl_SpanBy.l0 k2 y454 (l0.length : Int) (wrap64 ((4 : Int) + 1)) t429 t430 t431 t432 t433 t434 t435 t436) = some (r1, r2) := by first | (rw [hy454]; with_reducible exact H) | (have H2_ := (Option.bind_some _ _).symm.trans H; rw [hy454]; with_reducible exact H2_) | (have H2_ := (Option.bind_some _ _).symm.trans H; with_reducible exact H2_) | with_reducible exact H | (rw [hy454]; exact H) | exact H
             have Ny454 := Aside0.mk hy454
             clear hy454
             have H' := Aside0.mk H
             clear H
             have hnb64 := ac.out
             have hnc64 := aa.out
             have hnb65 := ad.out
             have hnc65 := ab.out
             have hcz66_4 : wr.cell? ⟨gb438, 4, none⟩ = some (.int .i64 t433) := bA15 BK438 rfl
             have hfz66_4 := blk_frozen BK438.out 4
             go_wp2_with (first | ((with_reducible refine gate_builtin (b := .append) (xs := #[.tmp 47, .tmp 51]) rfl ?_); at_builtin; refine Kd.R_append (Kd.int .i64) (w0 := w) w.heap.size rfl (.tmp 47) (.tmp 51) 28 3 (.int .i64 0) 8 rfl Try.underlying28 info3 rfl (by decide) (by omega) u12 x12_2 t433 [.int .i64 t433] (fun k_ => some k_ ≠ (v426 : Value).ownBlock) (fun _ => False) rfl rfl ?aP (fun _ hk => hk.elim) ?aF ?aO ?aB ?aS ?aL ?_; (case aP => exact rfl); (case aB => exact z15_1); (case aF => exact (fun k_ hk => Kd.fresh' (Kd.R_lt z15_13) k_ hk)); (case aO => exact z15_9); (case aS => exact (below_size z15_1)); (case aL => have := LMc63.out; omega); intro v455 w67 ho hb hg hat; rw [← Ny454.out] at ho; have n0_ := Aside0.mk (Kd.R_over' z15_8 (Kd.R_typed z15_9) (by decide) hg); have n1_ := Aside0.mk (Kd.R_after (ok := (fun _ => True)) z15_11 hg hat); have n2_ := Aside0.mk (blk_grown (g := gb421) (o := .cells #[.int .i64 t416, .int .i64 t417, .int .i64 t418, .int .i64 t419] 59 (0, 0)) (zL15 BK421.out) hg (Kd.R_ne HO_12.out BK421.out (by decide))); have n3_ := Aside0.mk (blk_grown (g := gb428) (o := .cells #[v423, v426] 54 (0, 0)) (zL15 BK428.out) hg (Kd.R_ne HO_12.out BK428.out (by decide))); have n4_ := Aside0.mk (blk_grown (g := gb438) (o := .cells #[.int .i64 t429, .int .i64 t430, .int .i64 t431, .int .i64 t432, .int .i64 t433, .int .i64 t434, .int .i64 t435, .int .i64 t436] 62 (0, 0)) (zL15 BK438.out) hg (Kd.R_ne HO_12.out BK438.out (by decide))); have n5_ := Aside0.mk (hb); have n6_ := Aside0.mk (ho); clear ae; clear af; clear BK421; clear BK428; clear BK438; clear HB; clear HO_12; have ae := n0_; have af := n1_; have BK421 := n2_; have BK428 := n3_; have BK438 := n4_; have HB := n5_; have HO456 := n6_; clear n0_ n1_ n2_ n3_ n4_ n5_ n6_; clear ho hb hg hat))
             go_roundg k2
             case measure => have := HJ4.out; have := HK2.out; omega
             case rel => exact ⟨(y454), (wrap64 ((4 : Int) + 1)), z15_17, H', ⟨z15_20⟩, ⟨by (with_reducible repeat (first | apply Kd.R_alloc | apply Kd.R_drewN | apply Kd.R_drew)); exact HO456.out⟩, ⟨z15_8⟩, ⟨z15_12⟩, ⟨zL15 BK421.out⟩, ⟨zL15 BK428.out⟩, ⟨zL15 BK438.out⟩, ⟨z15_1⟩⟩
            ·rw [if_neg c62] at H
             clear c62
             by_cases c68 : x44_2 = 5
             ·rw [if_pos c68] at H
              subst c68
              replace H : (if x12_2.length < 17592186044416 then (impl_SpanBy.l0 k2 (x12_2 ++ [t434]) (l0.length : Int) (wrap64 ((5 : Int) + 1)) t429 t430 t431 t432 t433 t434 t435 t436) else (none)) = some (r1, r2) := H
              obtain ⟨c69, H⟩ := ifP H
              have LMc69 := Aside0.mk c69
              clear c69
              obtain ⟨y457, hy457⟩ : ∃ y_ : List Int, y_ = (x12_2 ++ [t434]) := ⟨_, rfl⟩
              replace H : (impl_SpanBy.l0 k2 y457 (l0.length : Int) (wrap64 ((5 : Int) + 1)) t429 t430 t431 t432 t433 t434 t435 t436) = some (r1, r2) := by first | (rw [hy457]; with_reducible exact H) | (have H2_ := (Option.bind_some _ _).symm.trans H; rw [hy457]; with_reducible exact H2_) | (have H2_ := (Option.bind_some _ _).symm.trans H; with_reducible exact H2_) | with_reducible exact H | (rw [hy457]; exact H) | exact H
              have Ny457 := Aside0.mk hy457
              clear hy457
              have H' := Aside0.mk H
              clear H
              have hnb70 := ac.out
              have hnc70 := aa.out
              have hnb71 := ad.out
              have hnc71 := ab.out
              have hcz72_5 : wr.cell? ⟨gb438, 5, none⟩ = some (.int .i64 t434) := bA15 BK438 rfl
              have hfz72_5 := blk_frozen BK438.out 5
              go_wp2_with (first | ((with_reducible refine gate_builtin (b := .append) (xs := #[.tmp 47, .tmp 51]) rfl ?_); at_builtin; refine Kd.R_append (Kd.int .i64) (w0 := w) w.heap.size rfl (.tmp 47) (.tmp 51) 28 3 (.int .i64 0) 8 rfl Try.underlying28 info3 rfl (by decide) (by omega) u12 x12_2 t434 [.int .i64 t434] (fun k_ => some k_ ≠ (v426 : Value).ownBlock) (fun _ => False) rfl rfl ?aP (fun _ hk => hk.elim) ?aF ?aO ?aB ?aS ?aL ?_; (case aP => exact rfl); (case aB => exact z15_1); (case aF => exact (fun k_ hk => Kd.fresh' (Kd.R_lt z15_13) k_ hk)); (case aO => exact z15_9); (case aS => exact (below_size z15_1)); (case aL => have := LMc69.out; omega); intro v458 w73 ho hb hg hat; rw [← Ny457.out] at ho; have n0_ := Aside0.mk (Kd.R_over' z15_8 (Kd.R_typed z15_9) (by decide) hg); have n1_ := Aside0.mk (Kd.R_after (ok := (fun _ => True)) z15_11 hg hat); have n2_ := Aside0.mk (blk_grown (g := gb421) (o := .cells #[.int .i64 t416, .int .i64 t417, .int .i64 t418, .int .i64 t419] 59 (0, 0)) (zL15 BK421.out) hg (Kd.R_ne HO_12.out BK421.out (by decide))); have n3_ := Aside0.mk (blk_grown (g := gb428) (o := .cells #[v423, v426] 54 (0, 0)) (zL15 BK428.out) hg (Kd.R_ne HO_12.out BK428.out (by decide))); have n4_ := Aside0.mk (blk_grown (g := gb438) (o := .cells #[.int .i64 t429, .int .i64 t430, .int .i64 t431, .int .i64 t432, .int .i64 t433, .int .i64 t434, .int .i64 t435, .int .i64 t436] 62 (0, 0)) (zL15 BK438.out) hg (Kd.R_ne HO_12.out BK438.out (by decide))); have n5_ := Aside0.mk (hb); have n6_ := Aside0.mk (ho); clear ae; clear af; clear BK421; clear BK428; clear BK438; clear HB; clear HO_12; have ae := n0_; have af := n1_; have BK421 := n2_; have BK428 := n3_; have BK438 := n4_; have HB := n5_; have HO459 := n6_; clear n0_ n1_ n2_ n3_ n4_ n5_ n6_; clear ho hb hg hat))
              go_roundg k2
              case measure => have := HJ4.out; have := HK2.out; omega
              case rel => exact ⟨(y457), (wrap64 ((5 : Int) + 1)), z15_17, H', ⟨z15_20⟩, ⟨by (with_reducible repeat (first | apply Kd.R_alloc | apply Kd.R_drewN | apply Kd.R_drew)); exact HO459.out⟩, ⟨z15_8⟩, ⟨z15_12⟩, ⟨zL15 BK421.out⟩, ⟨zL15 BK428.out⟩, ⟨zL15 BK438.out⟩, ⟨z15_1⟩⟩
             ·rw [if_neg c68] at H
              clear c68
              by_cases c74 : x44_2 = 6
              ·rw [if_pos c74] at H
               subst c74
               replace H : (if x12_2.length < 17592186044416 then (impl_SpanBy.l0 k2 (x12_2 ++ [t435]) (l0.length : Int) (wrap64 ((6 : Int) + 1)) t429 t430 t431 t432 t433 t434 t435 t436) else (none)) = some (r1, r2) := H
               obtain ⟨c75, H⟩ := ifP H
               have LMc75 := Aside0.mk c75
               clear c75
               obtain ⟨y460, hy460⟩ : ∃ y_ : List Int, y_ = (x12_2 ++ [t435]) := ⟨_, rfl⟩
               replace H : (impl_SpanBy.l0 k2 y460 (l0.length : Int) (wrap64 ((6 : Int) + 1)) t429 t430 t431 t432 t433 t434 t435 t436) = some (r1, r2) := by first | (rw [hy460]; with_reducible exact H) | (have H2_ := (Option.bind_some _ _).symm.trans H; rw [hy460]; with_reducible exact H2_) | (have H2_ := (Option.bind_some _ _).symm.trans H; with_reducible exact H2_) | with_reducible exact H | (rw [hy460]; exact H) | exact H
               have Ny460 := Aside0.mk hy460
               clear hy460
               have H' := Aside0.mk H
               clear H
               have hnb76 := ac.out
               have hnc76 := aa.out
               have hnb77 := ad.out
               have hnc77 := ab.out
               have hcz78_6 : wr.cell? ⟨gb438, 6, none⟩ = some (.int .i64 t435) := bA15 BK438 rfl
               have hfz78_6 := blk_frozen BK438.out 6
               go_wp2_with (first | ((with_reducible refine gate_builtin (b := .append) (xs := #[.tmp 47, .tmp 51]) rfl ?_); at_builtin; refine Kd.R_append (Kd.int .i64) (w0 := w) w.heap.size rfl (.tmp 47) (.tmp 51) 28 3 (.int .i64 0) 8 rfl Try.underlying28 info3 rfl (by decide) (by omega) u12 x12_2 t435 [.int .i64 t435] (fun k_ => some k_ ≠ (v426 : Value).ownBlock) (fun _ => False) rfl rfl ?aP (fun _ hk => hk.elim) ?aF ?aO ?aB ?aS ?aL ?_; (case aP => exact rfl); (case aB => exact z15_1); (case aF => exact (fun k_ hk => Kd.fresh' (Kd.R_lt z15_13) k_ hk)); (case aO => exact z15_9); (case aS => exact (below_size z15_1)); (case aL => have := LMc75.out; omega); intro v461 w79 ho hb hg hat; rw [← Ny460.out] at ho; have n0_ := Aside0.mk (Kd.R_over' z15_8 (Kd.R_typed z15_9) (by decide) hg); have n1_ := Aside0.mk (Kd.R_after (ok := (fun _ => True)) z15_11 hg hat); have n2_ := Aside0.mk (blk_grown (g := gb421) (o := .cells #[.int .i64 t416, .int .i64 t417, .int .i64 t418, .int .i64 t419] 59 (0, 0)) (zL15 BK421.out) hg (Kd.R_ne HO_12.out BK421.out (by decide))); have n3_ := Aside0.mk (blk_grown (g := gb428) (o := .cells #[v423, v426] 54 (0, 0)) (zL15 BK428.out) hg (Kd.R_ne HO_12.out BK428.out (by decide))); have n4_ := Aside0.mk (blk_grown (g := gb438) (o := .cells #[.int .i64 t429, .int .i64 t430, .int .i64 t431, .int .i64 t432, .int .i64 t433, .int .i64 t434, .int .i64 t435, .int .i64 t436] 62 (0, 0)) (zL15 BK438.out) hg (Kd.R_ne HO_12.out BK438.out (by decide))); have n5_ := Aside0.mk (hb); have n6_ := Aside0.mk (ho); clear ae; clear af; clear BK421; clear BK428; clear BK438; clear HB; clear HO_12; have ae := n0_; have af := n1_; have BK421 := n2_; have BK428 := n3_; have BK438 := n4_; have HB := n5_; have HO462 := n6_; clear n0_ n1_ n2_ n3_ n4_ n5_ n6_; clear ho hb hg hat))
               go_roundg k2
               case measure => have := HJ4.out; have := HK2.out; omega
               case rel => exact ⟨(y460), (wrap64 ((6 : Int) + 1)), z15_17, H', ⟨z15_20⟩, ⟨by (with_reducible repeat (first | apply Kd.R_alloc | apply Kd.R_drewN | apply Kd.R_drew)); exact HO462.out⟩, ⟨z15_8⟩, ⟨z15_12⟩, ⟨zL15 BK421.out⟩, ⟨zL15 BK428.out⟩, ⟨zL15 BK438.out⟩, ⟨z15_1⟩⟩
              ·rw [if_neg c74] at H
               clear c74
               obtain ⟨c80, H⟩ := ifP H
               subst c80
               replace H : (if x12_2.length < 17592186044416 then (impl_SpanBy.l0 k2 (x12_2 ++ [t436]) (l0.length : Int) (wrap64 ((7 : Int) + 1)) t429 t430 t431 t432 t433 t434 t435 t436) else (none)) = some (r1, r2) := H
               obtain ⟨c81, H⟩ := ifP H
               have LMc81 := Aside0.mk c81
               clear c81
               obtain ⟨y463, hy463⟩ : ∃ y_ : List Int, y_ = (x12_2 ++ [t436]) := ⟨_, rfl⟩
               replace H : (impl_SpanBy.l0 k2 y463 (l0.length : Int) (wrap64 ((7 : Int) + 1)) t429 t430 t431 t432 t433 t434 t435 t436) = some (r1, r2) := by first | (rw [hy463]; with_reducible exact H) | (have H2_ := (Option.bind_some _ _).symm.trans H; rw [hy463]; with_reducible exact H2_) | (have H2_ := (Option.bind_some _ _).symm.trans H; with_reducible exact H2_) | with_reducible exact H | (rw [hy463]; exact H) | exact H
               have Ny463 := Aside0.mk hy463
               clear hy463
               have H' := Aside0.mk H
               clear H
               have hnb82 := ac.out
               have hnc82 := aa.out
               have hnb83 := ad.out
               have hnc83 := ab.out
               have hcz84_7 : wr.cell? ⟨gb438, 7, none⟩ = some (.int .i64 t436) := bA15 BK438 rfl
               have hfz84_7 := blk_frozen BK438.out 7
               go_wp2_with (first | ((with_reducible refine gate_builtin (b := .append) (xs := #[.tmp 47, .tmp 51]) rfl ?_); at_builtin; refine Kd.R_append (Kd.int .i64) (w0 := w) w.heap.size rfl (.tmp 47) (.tmp 51) 28 3 (.int .i64 0) 8 rfl Try.underlying28 info3 rfl (by decide) (by omega) u12 x12_2 t436 [.int .i64 t436] (fun k_ => some k_ ≠ (v426 : Value).ownBlock) (fun _ => False) rfl rfl ?aP (fun _ hk => hk.elim) ?aF ?aO ?aB ?aS ?aL ?_; (case aP => exact rfl); (case aB => exact z15_1); (case aF => exact (fun k_ hk => Kd.fresh' (Kd.R_lt z15_13) k_ hk)); (case aO => exact z15_9); (case aS => exact (below_size z15_1)); (case aL => have := LMc81.out; omega); intro v464 w85 ho hb hg hat; rw [← Ny463.out] at ho; have n0_ := Aside0.mk (Kd.R_over' z15_8 (Kd.R_typed z15_9) (by decide) hg); have n1_ := Aside0.mk (Kd.R_after (ok := (fun _ => True)) z15_11 hg hat); have n2_ := Aside0.mk (blk_grown (g := gb421) (o := .cells #[.int .i64 t416, .int .i64 t417, .int .i64 t418, .int .i64 t419] 59 (0, 0)) (zL15 BK421.out) hg (Kd.R_ne HO_12.out BK421.out (by decide))); have n3_ := Aside0.mk (blk_grown (g := gb428) (o := .cells #[v423, v426] 54 (0, 0)) (zL15 BK428.out) hg (Kd.R_ne HO_12.out BK428.out (by decide))); have n4_ := Aside0.mk (blk_grown (g := gb438) (o := .cells #[.int .i64 t429, .int .i64 t430, .int .i64 t431, .int .i64 t432, .int .i64 t433, .int .i64 t434, .int .i64 t435, .int .i64 t436] 62 (0, 0)) (zL15 BK438.out) hg (Kd.R_ne HO_12.out BK438.out (by decide))); have n5_ := Aside0.mk (hb); have n6_ := Aside0.mk (ho); clear ae; clear af; clear BK421; clear BK428; clear BK438; clear HB; clear HO_12; have ae := n0_; have af := n1_; have BK421 := n2_; have BK428 := n3_; have BK438 := n4_; have HB := n5_; have HO465 := n6_; clear n0_ n1_ n2_ n3_ n4_ n5_ n6_; clear ho hb hg hat))
               go_roundg k2
               case measure => have := HJ4.out; have := HK2.out; omega
               case rel => exact ⟨(y463), (wrap64 ((7 : Int) + 1)), z15_17, H', ⟨z15_20⟩, ⟨by (with_reducible repeat (first | apply Kd.R_alloc | apply Kd.R_drewN | apply Kd.R_drew)); exact HO465.out⟩, ⟨z15_8⟩, ⟨z15_12⟩, ⟨zL15 BK421.out⟩, ⟨zL15 BK428.out⟩, ⟨zL15 BK438.out⟩, ⟨z15_1⟩⟩
       ·rw [if_neg c37] at H
        have c37b0 : decide (x44_2 < (l0.length : Int)) = false := decide_eq_false c37
        clear c37
        simp only [Option.some.injEq, Prod.mk.injEq] at H
        obtain ⟨rfl, rfl⟩ := H
        go_wp2
        go_ret2
        exact ⟨_, z15_21, by (with_reducible repeat (first | apply Kd.R_alloc | apply Kd.R_drewN | apply Kd.R_drew)); exact Kd.R_mono HO_12.out (fun _ hk => trivial), z15_1⟩
    ·replace c18 := Bool.eq_false_iff.mpr c18
     subst c18
     have H1 : (some (([] : List Int), false)) = some (r1, r2) := by rw [if_neg (show ¬ (false = true) by decide)] at H; exact H
     clear H
     have H := H1
     clear H1
     simp only [Option.some.injEq, Prod.mk.injEq] at H
     obtain ⟨rfl, rfl⟩ := H
     obtain ⟨Ao86, co86, eo86⟩ := Kd.R_slice HO_6.out
     subst eo86
     try go_wp2
     replace HO_6 := Aside0.mk (Kd.R_drew HO_6.out)
     replace BK421 := Aside0.mk (blk_drew BK421.out)
     replace HB := Aside0.mk (below_drew1 HB.out)
     refine start_ (n := 10) (S := fun w' => w'.cell? ⟨gb421, 0, none⟩ = some (.int .i64 t416) ∧ w'.cell? ⟨gb421, 1, none⟩ = some (.int .i64 t417) ∧ w'.cell? ⟨gb421, 2, none⟩ = some (.int .i64 t418) ∧ w'.cell? ⟨gb421, 3, none⟩ = some (.int .i64 t419)) (ds := []) #[false, false, false, false, false, false, false, false, false, false] (by kernel_rfl) rfl rfl ⟨bA15 BK421 rfl, bA15 BK421 rfl, bA15 BK421 rfl, bA15 BK421 rfl⟩ (fun hHeld => ?_); refine with_tabW impl_SpanBy.tab5 impl_SpanBy.bits5 (fun HT_ HW_ => ?_)
     generalize wc.drew = w87 at HO_6 BK421 HB hHeld ⊢
     refine pZ 0 HT_ ?_
     refine tZ 2 hHeld HT_ HW_ ?_
     refine join_ (σ := Nat × Value × Value × Nat) 2 #[true, true, true, true, true, true, true, true, false, false] (fun s_ => [(32, .pointer (some ⟨s_.1, 0, none⟩)), (34, .tuple #[.agg #[.int .i64 t429, .int .i64 t430, .int .i64 t431, .int .i64 t432, .int .i64 t433, .int .i64 t434, .int .i64 t435, .int .i64 t436], .bool false]), (10, .pointer (some ⟨s_.2.2.2, 0, none⟩)), (30, .tuple #[.agg #[.int .i64 t429, .int .i64 t430, .int .i64 t431, .int .i64 t432, .int .i64 t433, .int .i64 t434, .int .i64 t435, .int .i64 t436], .bool false]), (35, .agg #[.int .i64 t429, .int .i64 t430, .int .i64 t431, .int .i64 t432, .int .i64 t433, .int .i64 t434, .int .i64 t435, .int .i64 t436]), (36, .bool false)]) (fun s_ w' => (w'.cell? ⟨gb421, 0, none⟩ = some (.int .i64 t416) ∧ w'.cell? ⟨gb421, 1, none⟩ = some (.int .i64 t417) ∧ w'.cell? ⟨gb421, 2, none⟩ = some (.int .i64 t418) ∧ w'.cell? ⟨gb421, 3, none⟩ = some (.int .i64 t419)) ∧ (Kd.R k77 77 w' w.heap.size (fun _ => True) s_.2.1 t422) ∧ (Kd.R (Kd.int .i64) 3 w' w.heap.size (fun _ => True) s_.2.2.1 t425) ∧ (Kd.R k59 59 w' w.heap.size (fun k_ => k_ ≠ gb421) (.slice Ao86 t412.length co86) t412) ∧ (w'.heap[gb421]? = some (.cells #[.int .i64 t416, .int .i64 t417, .int .i64 t418, .int .i64 t419] 59 (0, 0))) ∧ (w'.heap[s_.1]? = some (.cells #[s_.2.1, s_.2.2.1] 54 (0, 0))) ∧ (w'.heap[s_.2.2.2]? = some (.cells #[.int .i64 0, .int .i64 0, .int .i64 0, .int .i64 0, .int .i64 0, .int .i64 0, .int .i64 0, .int .i64 0] 62 (0, 0))) ∧ (w.heap.size ≤ s_.1) ∧ (w.heap.size ≤ s_.1) ∧ (gb421 ≠ s_.1) ∧ (s_.1 ≠ gb421) ∧ (s_.2.2.2 ≠ s_.1) ∧ (s_.1 ≠ s_.2.2.2) ∧ (w.heap.size ≤ s_.2.2.2) ∧ (w.heap.size ≤ s_.2.2.2) ∧ (gb421 ≠ s_.2.2.2) ∧ (s_.2.2.2 ≠ gb421) ∧ (Below w.heap.size w w')) ?_ ?_
     rotate_left
     ·intro hCont
      refine two_ (i := 1) (j := 7) (Ni := some 32) (Nj := some 10) #[true, true, true, false, false, false, false, false, false, false] #[true, false, true, false, false, false, false, true, false, false] rfl rfl rfl rfl (two_of HT_.out (by kernel_rfl)) (by decide) (by decide) (fun K hK => ?_) (fun K hK => ?_)
      ·skip
       refine goes_ Try.func54 (by kernel_rfl) rfl #[.slice Ao86 t412.length co86] (by rfl) rfl rfl z15_10 ?_
       with_reducible refine (impl_spanOf.calls kj4 _ _ t412 t422 t425 _ ?side1 ?side2 A16.out).mono ?_
       (case side1 => exact cZ ((Kd.R_reads' HO_6.out).2.2))
       (case side2 => exact (Kd.R_reads' HO_6.out).2.1)
       rintro e w88 ⟨v423, v426, gb428, rfl, hbox, hgr, ho0, ho1, hb⟩
       refine ⟨_, rfl, ?_⟩
       replace HO_6 := Aside0.mk (Kd.R_below z15_6 hb)
       have HO424 := Aside0.mk (Kd.R_lower ho0 (below_size z15_2))
       have HO427 := Aside0.mk (Kd.R_lower ho1 (below_size z15_2))
       have BK428 := Aside0.mk (hbox)
       have GW428 := Aside0.mk ((Nat.le_trans ((below_size z15_2) : w.heap.size ≤ _) hgr : w.heap.size ≤ gb428))
       have GE428 := Aside0.mk ((Nat.le_trans ((below_size z15_2) : w.heap.size ≤ _) hgr : w.heap.size ≤ gb428))
       have ag := Aside0.mk ((Nat.ne_of_lt (Nat.lt_of_lt_of_le (blk_lt (g := gb421) (o := .cells #[.int .i64 t416, .int .i64 t417, .int .i64 t418, .int .i64 t419] 59 (0, 0)) (zL15 BK421.out)) hgr) : gb421 ≠ gb428))
       have ah := Aside0.mk ((Nat.ne_of_gt (Nat.lt_of_lt_of_le (blk_lt (g := gb421) (o := .cells #[.int .i64 t416, .int .i64 t417, .int .i64 t418, .int .i64 t419] 59 (0, 0)) (zL15 BK421.out)) hgr) : gb428 ≠ gb421))
       replace BK421 := Aside0.mk (blk_below (g := gb421) (o := .cells #[.int .i64 t416, .int .i64 t417, .int .i64 t418, .int .i64 t419] 59 (0, 0)) (zL15 BK421.out) hb)
       replace HB := Aside0.mk (below_step z15_2 hb)
       (try clear hb)
       (try clear hb2)
       (try clear hk)
       (try clear hi)
       (try clear ho0)
       (try clear ho1)
       refine hK.out _ _ ⟨bA15 BK421 rfl, bA15 BK421 rfl, bA15 BK421 rfl, bA15 BK421 rfl⟩ (fun hHeld => ?_)
       clear hK K
       refine nZ ?_
       refine two_ (i := 3) (j := 7) (Ni := some 34) (Nj := some 10) #[true, true, true, true, false, false, false, false, false, false] #[true, true, true, false, false, false, false, true, false, false] rfl rfl rfl rfl (two_of HT_.out (by kernel_rfl)) (by decide) (by decide) (fun K hK => ?_) (fun K hK => ?_)
       ·skip
        refine goes_ Try.func57 (by kernel_rfl) rfl #[.pointer (some ⟨gb428, 0, none⟩), .agg #[.int .i64 t416, .int .i64 t417, .int .i64 t418, .int .i64 t419]] (by rfl) rfl rfl z15_10 ?_
        with_reducible refine (impl_span_byB.calls kj4 v423 t422 v426 t425 t416 t417 t418 t419 t429 t430 t431 t432 t433 t434 t435 t436 false _ ?side1 ?side2 ?side3 A17.out).mono ?_
        (case side1 => (with_reducible repeat first|refine blk_drewN ?_ _|refine blk_drew ?_|refine blk_alloc ?_ _); exact BK428.out)
        (case side2 => exact own_open z15_4)
        (case side3 => exact own_open z15_5)
        rintro e w89 ⟨rfl, hb⟩
        refine ⟨_, rfl, ?_⟩
        replace HO_6 := Aside0.mk (Kd.R_below z15_6 hb)
        replace HO424 := Aside0.mk (Kd.R_below z15_4 hb)
        replace HO427 := Aside0.mk (Kd.R_below z15_5 hb)
        replace BK421 := Aside0.mk (blk_below (g := gb421) (o := .cells #[.int .i64 t416, .int .i64 t417, .int .i64 t418, .int .i64 t419] 59 (0, 0)) (zL15 BK421.out) hb)
        replace BK428 := Aside0.mk (blk_below (g := gb428) (o := .cells #[v423, v426] 54 (0, 0)) (zL15 BK428.out) hb)
        replace HB := Aside0.mk (below_step z15_3 hb)
        (try clear hb)
        (try clear hb2)
        (try clear hk)
        (try clear hi)
        refine hK.out _ _ ⟨bA15 BK421 rfl, bA15 BK421 rfl, bA15 BK421 rfl, bA15 BK421 rfl⟩ (fun hHeld => ?_)
        clear hK K
        refine nZ ?_
        refine pZ 4 HT_ ?_
        refine pZ 5 HT_ ?_
        refine pZ 6 HT_ ?_
        refine oZ 7 HT_ (fun K hK => ?_)
        refine box_step ?hg (N := 10) ?hd (cs := #[.int .i64 0, .int .i64 0, .int .i64 0, .int .i64 0, .int .i64 0, .int .i64 0, .int .i64 0, .int .i64 0]) (t := 62) ?hr ?_; (case hd => rfl); (case hg => rfl); (case hr => first | (go_simp; done) | (go_simp; rfl))
        intro gb438 hg w90 hbox hb
        replace HO_6 := Aside0.mk (Kd.R_below z15_6 hb)
        replace HO424 := Aside0.mk (Kd.R_below z15_4 hb)
        replace HO427 := Aside0.mk (Kd.R_below z15_5 hb)
        have BK438 := Aside0.mk (hbox)
        have GW438 := Aside0.mk ((by rw [hg]; exact (below_size z15_3) : w.heap.size ≤ gb438))
        have GE438 := Aside0.mk ((by rw [hg]; exact (below_size z15_3) : w.heap.size ≤ gb438))
        replace HB := Aside0.mk (below_step z15_3 hb)
        have aa := Aside0.mk ((by rw [hg]; exact Nat.ne_of_lt (blk_lt (g := gb421) (o := .cells #[.int .i64 t416, .int .i64 t417, .int .i64 t418, .int .i64 t419] 59 (0, 0)) (zL15 BK421.out)) : gb421 ≠ gb438))
        have ac := Aside0.mk ((by rw [hg]; exact Nat.ne_of_gt (blk_lt (g := gb421) (o := .cells #[.int .i64 t416, .int .i64 t417, .int .i64 t418, .int .i64 t419] 59 (0, 0)) (zL15 BK421.out)) : gb438 ≠ gb421))
        replace BK421 := Aside0.mk (blk_below (g := gb421) (o := .cells #[.int .i64 t416, .int .i64 t417, .int .i64 t418, .int .i64 t419] 59 (0, 0)) (zL15 BK421.out) hb)
        have ab := Aside0.mk ((by rw [hg]; exact Nat.ne_of_lt (blk_lt (g := gb428) (o := .cells #[v423, v426] 54 (0, 0)) (zL15 BK428.out)) : gb428 ≠ gb438))
        have ad := Aside0.mk ((by rw [hg]; exact Nat.ne_of_gt (blk_lt (g := gb428) (o := .cells #[v423, v426] 54 (0, 0)) (zL15 BK428.out)) : gb438 ≠ gb428))
        replace BK428 := Aside0.mk (blk_below (g := gb428) (o := .cells #[v423, v426] 54 (0, 0)) (zL15 BK428.out) hb)
        clear hb hbox hg
        refine hK.out _ _ ⟨bA15 BK421 rfl, bA15 BK421 rfl, bA15 BK421 rfl, bA15 BK421 rfl⟩ (fun hHeld => ?_)
        clear hK K
        refine nZ ?_
        exact norm_ z15_18 (hCont (gb428, v423, v426, gb438) _ ⟨hHeld, z15_4, z15_5, z15_6, (zL15 BK421.out), (zL15 BK428.out), (zL15 BK438.out), GW428.out, GE428.out, ag.out, ah.out, ad.out, ab.out, GW438.out, GE438.out, aa.out, ac.out, z15_1⟩)
       ·skip
        refine box_step ?hg (N := 10) ?hd (cs := #[.int .i64 0, .int .i64 0, .int .i64 0, .int .i64 0, .int .i64 0, .int .i64 0, .int .i64 0, .int .i64 0]) (t := 62) ?hr ?_; (case hd => rfl); (case hg => rfl); (case hr => first | (go_simp; done) | (go_simp; rfl))
        intro gb438 hg w89 hbox hb
        replace HO_6 := Aside0.mk (Kd.R_below z15_6 hb)
        replace HO424 := Aside0.mk (Kd.R_below z15_4 hb)
        replace HO427 := Aside0.mk (Kd.R_below z15_5 hb)
        have BK438 := Aside0.mk (hbox)
        have GW438 := Aside0.mk ((by rw [hg]; exact (below_size z15_3) : w.heap.size ≤ gb438))
        have GE438 := Aside0.mk ((by rw [hg]; exact (below_size z15_3) : w.heap.size ≤ gb438))
        replace HB := Aside0.mk (below_step z15_3 hb)
        have aa := Aside0.mk ((by rw [hg]; exact Nat.ne_of_lt (blk_lt (g := gb421) (o := .cells #[.int .i64 t416, .int .i64 t417, .int .i64 t418, .int .i64 t419] 59 (0, 0)) (zL15 BK421.out)) : gb421 ≠ gb438))
        have ac := Aside0.mk ((by rw [hg]; exact Nat.ne_of_gt (blk_lt (g := gb421) (o := .cells #[.int .i64 t416, .int .i64 t417, .int .i64 t418, .int .i64 t419] 59 (0, 0)) (zL15 BK421.out)) : gb438 ≠ gb421))
        replace BK421 := Aside0.mk (blk_below (g := gb421) (o := .cells #[.int .i64 t416, .int .i64 t417, .int .i64 t418, .int .i64 t419] 59 (0, 0)) (zL15 BK421.out) hb)
        have ab := Aside0.mk ((by rw [hg]; exact Nat.ne_of_lt (blk_lt (g := gb428) (o := .cells #[v423, v426] 54 (0, 0)) (zL15 BK428.out)) : gb428 ≠ gb438))
        have ad := Aside0.mk ((by rw [hg]; exact Nat.ne_of_gt (blk_lt (g := gb428) (o := .cells #[v423, v426] 54 (0, 0)) (zL15 BK428.out)) : gb438 ≠ gb428))
        replace BK428 := Aside0.mk (blk_below (g := gb428) (o := .cells #[v423, v426] 54 (0, 0)) (zL15 BK428.out) hb)
        clear hb hbox hg
        refine hK.out _ _ ⟨bA15 BK421 rfl, bA15 BK421 rfl, bA15 BK421 rfl, bA15 BK421 rfl⟩ (fun hHeld => ?_)
        clear hK K
        refine nZ ?_
        refine oZ 3 HT_ (fun K hK => ?_)
        refine goes_ Try.func57 (by kernel_rfl) rfl #[.pointer (some ⟨gb428, 0, none⟩), .agg #[.int .i64 t416, .int .i64 t417, .int .i64 t418, .int .i64 t419]] (by rfl) rfl rfl z15_10 ?_
        with_reducible refine (impl_span_byB.calls kj4 v423 t422 v426 t425 t416 t417 t418 t419 t429 t430 t431 t432 t433 t434 t435 t436 false _ ?side1 ?side2 ?side3 A17.out).mono ?_
        (case side1 => (with_reducible repeat first|refine blk_drewN ?_ _|refine blk_drew ?_|refine blk_alloc ?_ _); exact BK428.out)
        (case side2 => exact own_open z15_4)
        (case side3 => exact own_open z15_5)
        rintro e w90 ⟨rfl, hb⟩
        refine ⟨_, rfl, ?_⟩
        replace HO_6 := Aside0.mk (Kd.R_below z15_6 hb)
        replace HO424 := Aside0.mk (Kd.R_below z15_4 hb)
        replace HO427 := Aside0.mk (Kd.R_below z15_5 hb)
        replace BK421 := Aside0.mk (blk_below (g := gb421) (o := .cells #[.int .i64 t416, .int .i64 t417, .int .i64 t418, .int .i64 t419] 59 (0, 0)) (zL15 BK421.out) hb)
        replace BK428 := Aside0.mk (blk_below (g := gb428) (o := .cells #[v423, v426] 54 (0, 0)) (zL15 BK428.out) hb)
        replace BK438 := Aside0.mk (blk_below (g := gb438) (o := .cells #[.int .i64 0, .int .i64 0, .int .i64 0, .int .i64 0, .int .i64 0, .int .i64 0, .int .i64 0, .int .i64 0] 62 (0, 0)) (zL15 BK438.out) hb)
        replace HB := Aside0.mk (below_step z15_1 hb)
        (try clear hb)
        (try clear hb2)
        (try clear hk)
        (try clear hi)
        refine hK.out _ _ ⟨bA15 BK421 rfl, bA15 BK421 rfl, bA15 BK421 rfl, bA15 BK421 rfl⟩ (fun hHeld => ?_)
        clear hK K
        refine nZ ?_
        refine pZ 4 HT_ ?_
        refine pZ 5 HT_ ?_
        refine pZ 6 HT_ ?_
        exact norm_ z15_18 (hCont (gb428, v423, v426, gb438) _ ⟨hHeld, z15_4, z15_5, z15_6, (zL15 BK421.out), (zL15 BK428.out), (zL15 BK438.out), GW428.out, GE428.out, ag.out, ah.out, ad.out, ab.out, GW438.out, GE438.out, aa.out, ac.out, z15_1⟩)
      ·skip
       refine box_step ?hg (N := 10) ?hd (cs := #[.int .i64 0, .int .i64 0, .int .i64 0, .int .i64 0, .int .i64 0, .int .i64 0, .int .i64 0, .int .i64 0]) (t := 62) ?hr ?_; (case hd => rfl); (case hg => rfl); (case hr => first | (go_simp; done) | (go_simp; rfl))
       intro gb438 hg w88 hbox hb
       replace HO_6 := Aside0.mk (Kd.R_below z15_6 hb)
       have BK438 := Aside0.mk (hbox)
       have GW438 := Aside0.mk ((by rw [hg]; exact (below_size z15_2) : w.heap.size ≤ gb438))
       have GE438 := Aside0.mk ((by rw [hg]; exact (below_size z15_2) : w.heap.size ≤ gb438))
       replace HB := Aside0.mk (below_step z15_2 hb)
       have aa := Aside0.mk ((by rw [hg]; exact Nat.ne_of_lt (blk_lt (g := gb421) (o := .cells #[.int .i64 t416, .int .i64 t417, .int .i64 t418, .int .i64 t419] 59 (0, 0)) (zL15 BK421.out)) : gb421 ≠ gb438))
       have ac := Aside0.mk ((by rw [hg]; exact Nat.ne_of_gt (blk_lt (g := gb421) (o := .cells #[.int .i64 t416, .int .i64 t417, .int .i64 t418, .int .i64 t419] 59 (0, 0)) (zL15 BK421.out)) : gb438 ≠ gb421))
       replace BK421 := Aside0.mk (blk_below (g := gb421) (o := .cells #[.int .i64 t416, .int .i64 t417, .int .i64 t418, .int .i64 t419] 59 (0, 0)) (zL15 BK421.out) hb)
       clear hb hbox hg
       refine hK.out _ _ ⟨bA15 BK421 rfl, bA15 BK421 rfl, bA15 BK421 rfl, bA15 BK421 rfl⟩ (fun hHeld => ?_)
       clear hK K
       refine nZ ?_
       refine oZ 1 HT_ (fun K hK => ?_)
       refine goes_ Try.func54 (by kernel_rfl) rfl #[.slice Ao86 t412.length co86] (by rfl) rfl rfl z15_10 ?_
       with_reducible refine (impl_spanOf.calls kj4 _ _ t412 t422 t425 _ ?side1 ?side2 A16.out).mono ?_
       (case side1 => exact cZ ((Kd.R_reads' HO_6.out).2.2))
       (case side2 => exact (Kd.R_reads' HO_6.out).2.1)
       rintro e w89 ⟨v423, v426, gb428, rfl, hbox, hgr, ho0, ho1, hb⟩
       refine ⟨_, rfl, ?_⟩
       replace HO_6 := Aside0.mk (Kd.R_below z15_6 hb)
       have HO424 := Aside0.mk (Kd.R_lower ho0 (below_size z15_7))
       have HO427 := Aside0.mk (Kd.R_lower ho1 (below_size z15_7))
       have BK428 := Aside0.mk (hbox)
       have GW428 := Aside0.mk ((Nat.le_trans ((below_size z15_7) : w.heap.size ≤ _) hgr : w.heap.size ≤ gb428))
       have GE428 := Aside0.mk ((Nat.le_trans ((below_size z15_7) : w.heap.size ≤ _) hgr : w.heap.size ≤ gb428))
       have ag := Aside0.mk ((Nat.ne_of_lt (Nat.lt_of_lt_of_le (blk_lt (g := gb421) (o := .cells #[.int .i64 t416, .int .i64 t417, .int .i64 t418, .int .i64 t419] 59 (0, 0)) (zL15 BK421.out)) hgr) : gb421 ≠ gb428))
       have ah := Aside0.mk ((Nat.ne_of_gt (Nat.lt_of_lt_of_le (blk_lt (g := gb421) (o := .cells #[.int .i64 t416, .int .i64 t417, .int .i64 t418, .int .i64 t419] 59 (0, 0)) (zL15 BK421.out)) hgr) : gb428 ≠ gb421))
       replace BK421 := Aside0.mk (blk_below (g := gb421) (o := .cells #[.int .i64 t416, .int .i64 t417, .int .i64 t418, .int .i64 t419] 59 (0, 0)) (zL15 BK421.out) hb)
       have ad := Aside0.mk ((Nat.ne_of_lt (Nat.lt_of_lt_of_le (blk_lt (g := gb438) (o := .cells #[.int .i64 0, .int .i64 0, .int .i64 0, .int .i64 0, .int .i64 0, .int .i64 0, .int .i64 0, .int .i64 0] 62 (0, 0)) (zL15 BK438.out)) hgr) : gb438 ≠ gb428))
       have ab := Aside0.mk ((Nat.ne_of_gt (Nat.lt_of_lt_of_le (blk_lt (g := gb438) (o := .cells #[.int .i64 0, .int .i64 0, .int .i64 0, .int .i64 0, .int .i64 0, .int .i64 0, .int .i64 0, .int .i64 0] 62 (0, 0)) (zL15 BK438.out)) hgr) : gb428 ≠ gb438))
       replace BK438 := Aside0.mk (blk_below (g := gb438) (o := .cells #[.int .i64 0, .int .i64 0, .int .i64 0, .int .i64 0, .int .i64 0, .int .i64 0, .int .i64 0, .int .i64 0] 62 (0, 0)) (zL15 BK438.out) hb)
       replace HB := Aside0.mk (below_step z15_7 hb)
       (try clear hb)
       (try clear hb2)
       (try clear hk)
       (try clear hi)
       (try clear ho0)
       (try clear ho1)
       refine hK.out _ _ ⟨bA15 BK421 rfl, bA15 BK421 rfl, bA15 BK421 rfl, bA15 BK421 rfl⟩ (fun hHeld => ?_)
       clear hK K
       refine nZ ?_
       refine oZ 3 HT_ (fun K hK => ?_)
       refine goes_ Try.func57 (by kernel_rfl) rfl #[.pointer (some ⟨gb428, 0, none⟩), .agg #[.int .i64 t416, .int .i64 t417, .int .i64 t418, .int .i64 t419]] (by rfl) rfl rfl z15_10 ?_
       with_reducible refine (impl_span_byB.calls kj4 v423 t422 v426 t425 t416 t417 t418 t419 t429 t430 t431 t432 t433 t434 t435 t436 false _ ?side1 ?side2 ?side3 A17.out).mono ?_
       (case side1 => (with_reducible repeat first|refine blk_drewN ?_ _|refine blk_drew ?_|refine blk_alloc ?_ _); exact BK428.out)
       (case side2 => exact own_open z15_4)
       (case side3 => exact own_open z15_5)
       rintro e w90 ⟨rfl, hb⟩
       refine ⟨_, rfl, ?_⟩
       replace HO_6 := Aside0.mk (Kd.R_below z15_6 hb)
       replace HO424 := Aside0.mk (Kd.R_below z15_4 hb)
       replace HO427 := Aside0.mk (Kd.R_below z15_5 hb)
       replace BK421 := Aside0.mk (blk_below (g := gb421) (o := .cells #[.int .i64 t416, .int .i64 t417, .int .i64 t418, .int .i64 t419] 59 (0, 0)) (zL15 BK421.out) hb)
       replace BK438 := Aside0.mk (blk_below (g := gb438) (o := .cells #[.int .i64 0, .int .i64 0, .int .i64 0, .int .i64 0, .int .i64 0, .int .i64 0, .int .i64 0, .int .i64 0] 62 (0, 0)) (zL15 BK438.out) hb)
       replace BK428 := Aside0.mk (blk_below (g := gb428) (o := .cells #[v423, v426] 54 (0, 0)) (zL15 BK428.out) hb)
       replace HB := Aside0.mk (below_step z15_15 hb)
       (try clear hb)
       (try clear hb2)
       (try clear hk)
       (try clear hi)
       refine hK.out _ _ ⟨bA15 BK421 rfl, bA15 BK421 rfl, bA15 BK421 rfl, bA15 BK421 rfl⟩ (fun hHeld => ?_)
       clear hK K
       refine nZ ?_
       refine pZ 4 HT_ ?_
       refine pZ 5 HT_ ?_
       refine pZ 6 HT_ ?_
       exact norm_ z15_18 (hCont (gb428, v423, v426, gb438) _ ⟨hHeld, z15_4, z15_5, z15_6, (zL15 BK421.out), (zL15 BK428.out), (zL15 BK438.out), GW428.out, GE428.out, ag.out, ah.out, ad.out, ab.out, GW438.out, GE438.out, aa.out, ac.out, z15_15⟩)
     rintro ⟨gb428, v423, v426, gb438⟩ w91 ⟨hS_, h0_, h1_, h2_, h3_, h4_, h5_, h6_, h7_, h8_, h9_, h10_, h11_, h12_, h13_, h14_, h15_, h16_⟩
     have n0_ : Aside0 (Kd.R k77 77 w91 w.heap.size (fun _ => True) v423 t422) := ⟨h0_⟩
     have n1_ : Aside0 (Kd.R (Kd.int .i64) 3 w91 w.heap.size (fun _ => True) v426 t425) := ⟨h1_⟩
     have n2_ : Aside0 (Kd.R k59 59 w91 w.heap.size (fun k_ => k_ ≠ gb421) (.slice Ao86 t412.length co86) t412) := ⟨h2_⟩
     have n3_ : Aside0 (w91.heap[gb421]? = some (.cells #[.int .i64 t416, .int .i64 t417, .int .i64 t418, .int .i64 t419] 59 (0, 0))) := ⟨h3_⟩
     have n4_ : Aside0 (w91.heap[gb428]? = some (.cells #[v423, v426] 54 (0, 0))) := ⟨h4_⟩
     have n5_ : Aside0 (w91.heap[gb438]? = some (.cells #[.int .i64 0, .int .i64 0, .int .i64 0, .int .i64 0, .int .i64 0, .int .i64 0, .int .i64 0, .int .i64 0] 62 (0, 0))) := ⟨h5_⟩
     have n6_ : Aside0 (w.heap.size ≤ gb428) := ⟨h6_⟩
     have n7_ : Aside0 (w.heap.size ≤ gb428) := ⟨h7_⟩
     have n8_ : Aside0 (gb421 ≠ gb428) := ⟨h8_⟩
     have n9_ : Aside0 (gb428 ≠ gb421) := ⟨h9_⟩
     have n10_ : Aside0 (gb438 ≠ gb428) := ⟨h10_⟩
     have n11_ : Aside0 (gb428 ≠ gb438) := ⟨h11_⟩
     have n12_ : Aside0 (w.heap.size ≤ gb438) := ⟨h12_⟩
     have n13_ : Aside0 (w.heap.size ≤ gb438) := ⟨h13_⟩
     have n14_ : Aside0 (gb421 ≠ gb438) := ⟨h14_⟩
     have n15_ : Aside0 (gb438 ≠ gb421) := ⟨h15_⟩
     have n16_ : Aside0 (Below w.heap.size w w91) := ⟨h16_⟩
     clear HO_6
     clear BK421
     clear HB
     clear h0_ h1_ h2_ h3_ h4_ h5_ h6_ h7_ h8_ h9_ h10_ h11_ h12_ h13_ h14_ h15_ h16_
     have HO424 := n0_
     have HO427 := n1_
     have HO_6 := n2_
     have BK421 := n3_
     have BK428 := n4_
     have BK438 := n5_
     have GW428 := n6_
     have GE428 := n7_
     have ag := n8_
     have ah := n9_
     have ad := n10_
     have ab := n11_
     have GW438 := n12_
     have GE438 := n13_
     have aa := n14_
     have ac := n15_
     have HB := n16_
     clear n0_ n1_ n2_ n3_ n4_ n5_ n6_ n7_ n8_ n9_ n10_ n11_ n12_ n13_ n14_ n15_ n16_
     have hHeld : w91.cell? ⟨gb421, 0, none⟩ = some (.int .i64 t416) ∧ w91.cell? ⟨gb421, 1, none⟩ = some (.int .i64 t417) ∧ w91.cell? ⟨gb421, 2, none⟩ = some (.int .i64 t418) ∧ w91.cell? ⟨gb421, 3, none⟩ = some (.int .i64 t419) := hS_
     refine norm_ (a' := ?_) ?_ ?_
     rotate_left
     ·simp only [putAll, Act.put, List.setIfInBounds_toArray, List.set_cons_zero, List.set_cons_succ]
      rfl
     refine one_ (i := 8) (N := none) #[true, true, true, true, true, true, true, true, true, false] rfl rfl (one_of HT_.out (by kernel_rfl)) (by decide) (fun K hK => ?_)
     have hs92 : w91.cell? ⟨gb438, 0, none⟩ = some (.int .i64 0) := bA15 BK438 rfl
     have hfs92 := blk_frozen BK438.out 0
     have hns92_0 := aa.out
     have hns92_1 := ab.out
     have hms92_0 := ac.out
     have hms92_1 := ad.out
     have hs93 : w91.cell? ⟨gb438, 1, none⟩ = some (.int .i64 0) := bA15 BK438 rfl
     have hfs93 := blk_frozen BK438.out 1
     have hns93_0 := aa.out
     have hns93_1 := ab.out
     have hms93_0 := ac.out
     have hms93_1 := ad.out
     have hs94 : w91.cell? ⟨gb438, 2, none⟩ = some (.int .i64 0) := bA15 BK438 rfl
     have hfs94 := blk_frozen BK438.out 2
     have hns94_0 := aa.out
     have hns94_1 := ab.out
     have hms94_0 := ac.out
     have hms94_1 := ad.out
     have hs95 : w91.cell? ⟨gb438, 3, none⟩ = some (.int .i64 0) := bA15 BK438 rfl
     have hfs95 := blk_frozen BK438.out 3
     have hns95_0 := aa.out
     have hns95_1 := ab.out
     have hms95_0 := ac.out
     have hms95_1 := ad.out
     have hs96 : w91.cell? ⟨gb438, 4, none⟩ = some (.int .i64 0) := bA15 BK438 rfl
     have hfs96 := blk_frozen BK438.out 4
     have hns96_0 := aa.out
     have hns96_1 := ab.out
     have hms96_0 := ac.out
     have hms96_1 := ad.out
     have hs97 : w91.cell? ⟨gb438, 5, none⟩ = some (.int .i64 0) := bA15 BK438 rfl
     have hfs97 := blk_frozen BK438.out 5
     have hns97_0 := aa.out
     have hns97_1 := ab.out
     have hms97_0 := ac.out
     have hms97_1 := ad.out
     have hs98 : w91.cell? ⟨gb438, 6, none⟩ = some (.int .i64 0) := bA15 BK438 rfl
     have hfs98 := blk_frozen BK438.out 6
     have hns98_0 := aa.out
     have hns98_1 := ab.out
     have hms98_0 := ac.out
     have hms98_1 := ad.out
     have hs99 : w91.cell? ⟨gb438, 7, none⟩ = some (.int .i64 0) := bA15 BK438 rfl
     have hfs99 := blk_frozen BK438.out 7
     have hns99_0 := aa.out
     have hns99_1 := ab.out
     have hms99_0 := ac.out
     have hms99_1 := ad.out
     refine skip_ (w1 := ?_) (by rfl) rfl ?_ ?_
     rotate_left
     ·go_simp
      rfl
     refine hK.out _ _ ⟨((cell_far (p := ⟨gb438, _, none⟩) aa.out _).trans (((cell_far (p := ⟨gb438, _, none⟩) aa.out _).trans (((cell_far (p := ⟨gb438, _, none⟩) aa.out _).trans (((cell_far (p := ⟨gb438, _, none⟩) aa.out _).trans (((cell_far (p := ⟨gb438, _, none⟩) aa.out _).trans (((cell_far (p := ⟨gb438, _, none⟩) aa.out _).trans (((cell_far (p := ⟨gb438, _, none⟩) aa.out _).trans (((cell_far (p := ⟨gb438, _, none⟩) aa.out _).trans (hHeld.1)))))))))))))))), ((cell_far (p := ⟨gb438, _, none⟩) aa.out _).trans (((cell_far (p := ⟨gb438, _, none⟩) aa.out _).trans (((cell_far (p := ⟨gb438, _, none⟩) aa.out _).trans (((cell_far (p := ⟨gb438, _, none⟩) aa.out _).trans (((cell_far (p := ⟨gb438, _, none⟩) aa.out _).trans (((cell_far (p := ⟨gb438, _, none⟩) aa.out _).trans (((cell_far (p := ⟨gb438, _, none⟩) aa.out _).trans (((cell_far (p := ⟨gb438, _, none⟩) aa.out _).trans (hHeld.2.1)))))))))))))))), ((cell_far (p := ⟨gb438, _, none⟩) aa.out _).trans (((cell_far (p := ⟨gb438, _, none⟩) aa.out _).trans (((cell_far (p := ⟨gb438, _, none⟩) aa.out _).trans (((cell_far (p := ⟨gb438, _, none⟩) aa.out _).trans (((cell_far (p := ⟨gb438, _, none⟩) aa.out _).trans (((cell_far (p := ⟨gb438, _, none⟩) aa.out _).trans (((cell_far (p := ⟨gb438, _, none⟩) aa.out _).trans (((cell_far (p := ⟨gb438, _, none⟩) aa.out _).trans (hHeld.2.2.1)))))))))))))))), ((cell_far (p := ⟨gb438, _, none⟩) aa.out _).trans (((cell_far (p := ⟨gb438, _, none⟩) aa.out _).trans (((cell_far (p := ⟨gb438, _, none⟩) aa.out _).trans (((cell_far (p := ⟨gb438, _, none⟩) aa.out _).trans (((cell_far (p := ⟨gb438, _, none⟩) aa.out _).trans (((cell_far (p := ⟨gb438, _, none⟩) aa.out _).trans (((cell_far (p := ⟨gb438, _, none⟩) aa.out _).trans (((cell_far (p := ⟨gb438, _, none⟩) aa.out _).trans (hHeld.2.2.2))))))))))))))))⟩ (fun hHeld => ?_)
     clear hK K
     refine pZ 9 HT_ ?_
     refine done_ (done_of HT_.out (by kernel_rfl)) ?_
     try go_wp2
     go_ret2
     exact ⟨_, z15_21, z15_22, z15_1⟩

end Go.Proofs.Ytbhmgbeebhmfkaa.PA
