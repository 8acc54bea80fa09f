-- Written by a program of this session (after the manner of the kit's print, several laws in one text).
import Derived.Test.YtbhmgbeebhmfkaaPAx0
import Derived.Test.YtbhmgbeebhmfkaaPAx22
import Derived.Test.YtbhmgbeebhmfkaaPAx25
import Derived.Test.YtbhmgbeebhmfkaaGw
import Derived.Test.YtbhmgbeebhmfkaaGm
namespace Go.Proofs.Ytbhmgbeebhmfkaa.PA
open Go.RowKit Go.Proofs.YtbhmgbeebhmfkaaW.PrintWords Go.Proofs.YtbhmgbeebhmfkaaW.PrintLast Go.Proofs.YtbhmgbeebhmfkaaW.PrintMore
attribute [local go_sem] max2_int min2_int max_two min_two max_three min_three max_four min_four   -- for this text's walks alone
set_option linter.unusedVariables false
set_option linter.unusedSimpArgs false

/-! ### spec_DrawSpanHas: function 42 -/
theorem z26_0 {p : Prop} (h : p := by repeat (first | (with_reducible first | exact HB.out | apply below_alloc | apply pw_below_drewN | apply below_drew1 | refine below_set ?_ GE604.out | refine below_set ?_ GE610.out) | exact HB.out)) : p := h
theorem z26_1 {p : Prop} (h : p := by (try simp only [List.map_toArray, List.map_cons, List.map_nil]); first | done | rfl | (simp only [List.length_drop, List.length_take]; rfl)) : p := h
theorem z26_2 {p : Prop} (h : p := by (with_reducible repeat (first | refine blk_drewN ?_ _ | refine blk_drew ?_ | refine blk_alloc ?_ _)); exact BK604.out) : p := h
theorem z26_3 {p : Prop} (h : p := by repeat (first | (with_reducible first | exact HB.out | apply below_alloc | apply pw_below_drewN | apply below_drew1 | refine below_set ?_ (IsS92.ge HI591.out)) | exact HB.out)) : p := h
theorem z26_4 {p : Prop} (h : p := by repeat (first | (with_reducible first | exact HB.out | apply below_alloc | apply pw_below_drewN | apply below_drew1 | refine below_set ?_ GE604.out) | exact HB.out)) : p := h
theorem z26_5 {p : Prop} (h : p := by repeat (first | (with_reducible first | exact HB.out | apply below_alloc | apply pw_below_drewN | apply below_drew1) | exact HB.out)) : p := h
theorem z26_6 {p : Prop} (h : p := by (with_reducible repeat (first | refine blk_drewN ?_ _ | refine blk_drew ?_ | refine blk_alloc ?_ _)); exact BK610.out) : p := h
theorem z26_7 {p : Prop} (h : p := by first | rfl | (simp; done) | (simp [*]; done)) : p := h
theorem z26_8 {p : Prop} (h : p := by first | rfl | (simp [errW_none, errW_some] <;> rfl) | (simp [*, errW_none, errW_some] <;> rfl)) : p := h
theorem z26_9 {p : Prop} (h : p := by repeat (first | exact Drawn0.refl _ | apply Drawn0.step)) : p := h
def spec_DrawSpanHas.f (k : Nat) (l0 : List Int) : Option ((List (List Int)) × List Int) := (spec_l6Open.f l0).bind fun bt589 => ((spec_l91Made.f k bt589.1 bt589.2).bind fun bt592 => (some (bt592.1, bt592.2.1)))
set_option maxHeartbeats 8000000 in
set_option maxRecDepth 100000 in
theorem spec_DrawSpanHas.calls (k : Nat) (A0 : Option Addr) (c0 : Nat) (l0 : List Int) (r1 : List (List Int)) (r2 : List Int) (w : World) (hr0 : Kd.C (Kd.int .u8) w A0 l0.length l0) (hc0 : l0.length ≤ c0) (h : spec_DrawSpanHas.f k l0 = some (r1, r2)) :
  Calls Try.prog 42 #[.slice A0 l0.length c0] w fun e w' => ∃ v0_ v1_ : Value, e = .returned (.tuple #[v0_, v1_]) ∧ Kd.N (Kd.slice 3 (Kd.int .i64)) 28 w' w.heap.size (fun k_ => (w.heap.size ≤ k_) ∧ some k_ ≠ (v1_ : Value).ownBlock) v0_ r1 ∧ Kd.Q (Kd.int .i64) 3 w' w.heap.size (fun k_ => (w.heap.size ≤ k_)) v1_ r2 ∧ Below w.heap.size w w' := by
 have HR0 := Aside0.mk hr0
 have HC0 := Aside0.mk hc0
 clear hr0 hc0
 have HB := Aside0.mk (Below.refl w.heap.size w)
 have H : ((spec_l6Open.f l0).bind fun bt589 => ((spec_l91Made.f k bt589.1 bt589.2).bind fun bt592 => (some (bt592.1, bt592.2.1)))) = some (r1, r2) := h
 clear h
 replace H := Option.bind_eq_some_iff.mp H
 obtain ⟨⟨t589, t590⟩, A20, H⟩ := H
 replace H : ((spec_l91Made.f k t589 t590).bind fun bt592 => (some (bt592.1, bt592.2.1))) = some (r1, r2) := H
 have A2 := Aside0.mk A20
 clear A20
 replace H := Option.bind_eq_some_iff.mp H
 obtain ⟨⟨t592, t595, t598⟩, A30, H⟩ := H
 replace H : (some (t592, t595)) = some (r1, r2) := H
 have A3 := Aside0.mk A30
 clear A30
 simp only [Option.some.injEq, Prod.mk.injEq] at H
 obtain ⟨rfl, rfl⟩ := H
 go_enter Try.func42, Try.ntmps42
 go_wp2_with (first | ((with_reducible refine gate_callee (f := 64) rfl ?_); refine goesL_ (some 5) rfl rfl Try.func64 (by kernel_rfl) rfl #[.slice A0 l0.length c0] rfl z26_1 ?_; (with_reducible refine (spec_l6Open.calls _ _ l0 t589 t590 w _ ?side1 ?side2 ?side3 A2.out).mono ?_); (case side1 => repeat (first | (with_reducible first | exact HB.out | apply below_alloc | apply pw_below_drewN | apply below_drew1) | exact HB.out)); (case side2 => exact HR0.out); (case side3 => exact HC0.out); rintro e w4 ⟨g591, rfl, hi, hb, hb2⟩; refine ⟨_, rfl, ?_⟩; have n0_ := Aside0.mk (hb); have n1_ := Aside0.mk (hi); clear HB; have HB := n0_; have HI591 := n1_; clear n0_ n1_; (try clear hb); (try clear hb2); (try clear hk); (try clear hi)) | ((with_reducible refine gate_callee (f := 66) rfl ?_); refine goesL_ (some 6) rfl rfl Try.func66 (by kernel_rfl) rfl #[.pointer (some ⟨g591, 0, none⟩)] rfl z26_1 ?_; (with_reducible refine (spec_l91Made.calls k g591 t589 t590 t592 t595 t598 w _ ?side1 ?side2 A3.out).mono ?_); (case side1 => repeat (first | (with_reducible first | exact HI591.out | apply IsS92.alloc | apply IsS92.drewN | apply IsS92.drew | apply IsS92.set_1) | exact HI591.out)); (case side2 => repeat (first | (with_reducible first | exact HB.out | apply below_alloc | apply pw_below_drewN | apply below_drew1 | refine below_set ?_ (IsS92.ge HI591.out)) | exact HB.out)); rintro e w5 ⟨v593, v596, rfl, ho0, ho1, hi, hb, hk⟩; refine ⟨_, rfl, ?_⟩; have n0_ := Aside0.mk (Kd.N_lower (Kd.N_mono (ok' := fun k_ => (w.heap.size ≤ k_) ∧ some k_ ≠ (v596 : Value).ownBlock ∧ k_ ≠ g591) ho0 (fun k_ hk_ => ⟨(Nat.le_trans (below_size z26_3) hk_.1), hk_.2, (IsS92.fresh (by repeat (first | (with_reducible first | exact HI591.out | apply IsS92.alloc | apply IsS92.drewN | apply IsS92.drew | apply IsS92.set_1) | exact HI591.out)) k_ hk_.1)⟩)) (below_size z26_3)); have n1_ := Aside0.mk (Kd.Q_lower (Kd.Q_newM (M := fun k_ => (w.heap.size ≤ k_)) (Kd.Q_mono (ok' := fun k_ => True) ho1 (fun _ hk_ => trivial)) (below_size z26_3) (fun k_ h_ => h_)) (below_size z26_3)); have n2_ := Aside0.mk (hb); have n3_ := Aside0.mk (hi); clear HB; clear HI591; have HO594 := n0_; have HO597 := n1_; have HB := n2_; have HI591 := n3_; clear n0_ n1_ n2_ n3_; (try clear hb); (try clear hb2); (try clear hk); (try clear hi); (try clear ho0); (try clear ho1)))
 go_ret2
 exact ⟨_, _, z26_8, by (with_reducible repeat (first | apply Kd.N_alloc | apply Kd.N_drewN | apply Kd.N_drew)); exact Kd.N_mono HO594.out (fun _ hk => ⟨hk.1, hk.2.1⟩), by (with_reducible repeat (first | apply Kd.Q_alloc | apply Kd.Q_drewN | apply Kd.Q_drew)); exact Kd.Q_mono HO597.out (fun _ hk => hk.1), z26_3⟩

/-! ### laws_lkNum: function 44 -/
def laws_lkNum.f (a0 : Int) : Option (Int) := some (Int.tmod a0 31)
set_option maxHeartbeats 8000000 in
set_option maxRecDepth 100000 in
theorem laws_lkNum.calls (a0 : Int) (r : Int) (w : World) (h : laws_lkNum.f a0 = some r) :
  Calls Try.prog 44 #[.int .i64 a0] w fun e w' => e = .returned (.int .i64 r) ∧ Drawn0 w w' := by
 have H : (some (Int.tmod a0 31)) = some r := h
 clear h
 obtain rfl := Option.some.inj H
 go_enter Try.func44, Try.ntmps44
 go_wp2
 go_ret
 exact ⟨z26_7, z26_9⟩

-- GIVEN: function 61 (impl_vector_list)

/-! ### impl_VecSum: function 68 -/
def impl_VecSum.j0 : Nat → Bool → Int → Int → Int → Int → Int → Int → Int → Int → Option (List Int)
  | 0, _, _, _, _, _, _, _, _, _ => none
  | k + 1, x24, x605000, x605001, x605002, x605003, x611000, x611001, x611002, x611003 => if x24 = true then (some ([] : List Int)) else ((impl_vector_plus.f x605000 x605001 x605002 x605003 x611000 x611001 x611002 x611003).bind fun bt611 => ((impl_vector_list.f bt611.1 bt611.2.1 bt611.2.2.1 bt611.2.2.2).bind fun t615 => (some t615)))
def impl_VecSum.f (k : Nat) (l0 : List Int) (l1 : List Int) : Option (List Int) := (impl_vectorOf.f l0).bind fun bt599 => ((impl_vectorOf.f l1).bind fun bt605 => (if bt599.2.2.2.2 = true then (impl_VecSum.j0 k (!bt605.2.2.2.2) bt599.1 bt599.2.1 bt599.2.2.1 bt599.2.2.2.1 bt605.1 bt605.2.1 bt605.2.2.1 bt605.2.2.2.1) else (impl_VecSum.j0 k true bt599.1 bt599.2.1 bt599.2.2.1 bt599.2.2.2.1 bt605.1 bt605.2.1 bt605.2.2.1 bt605.2.2.2.1)))
set_option maxHeartbeats 8000000 in
set_option maxRecDepth 100000 in
theorem impl_VecSum.calls (k : Nat) (A0 : Option Addr) (c0 : Nat) (l0 : List Int) (A1 : Option Addr) (c1 : Nat) (l1 : List Int) (r : List Int) (w : World) (hr0 : Kd.C (Kd.int .i64) w A0 l0.length l0) (hc0 : l0.length ≤ c0) (hr1 : Kd.C (Kd.int .i64) w A1 l1.length l1) (hc1 : l1.length ≤ c1) (h : impl_VecSum.f k l0 l1 = some r) :
  Calls Try.prog 68 #[.slice A0 l0.length c0, .slice A1 l1.length c1] w fun e w' => ∃ v0_ : Value, e = .returned (v0_) ∧ Kd.R (Kd.int .i64) 3 w' w.heap.size (fun _ => True) v0_ r ∧ Below w.heap.size w w' := by
 have hu59 := Try.underlying59
 have HR0 := Aside0.mk hr0
 have HC0 := Aside0.mk hc0
 clear hr0 hc0
 have HR1 := Aside0.mk hr1
 have HC1 := Aside0.mk hc1
 clear hr1 hc1
 have HB := Aside0.mk (Below.refl w.heap.size w)
 have H : ((impl_vectorOf.f l0).bind fun bt599 => ((impl_vectorOf.f l1).bind fun bt605 => (if bt599.2.2.2.2 = true then (impl_VecSum.j0 k (!bt605.2.2.2.2) bt599.1 bt599.2.1 bt599.2.2.1 bt599.2.2.2.1 bt605.1 bt605.2.1 bt605.2.2.1 bt605.2.2.2.1) else (impl_VecSum.j0 k true bt599.1 bt599.2.1 bt599.2.2.1 bt599.2.2.2.1 bt605.1 bt605.2.1 bt605.2.2.1 bt605.2.2.2.1)))) = some r := h
 clear h
 replace H := Option.bind_eq_some_iff.mp H
 obtain ⟨⟨t599, t600, t601, t602, t603⟩, A30, H⟩ := H
 replace H : ((impl_vectorOf.f l1).bind fun bt605 => (if t603 = true then (impl_VecSum.j0 k (!bt605.2.2.2.2) t599 t600 t601 t602 bt605.1 bt605.2.1 bt605.2.2.1 bt605.2.2.2.1) else (impl_VecSum.j0 k true t599 t600 t601 t602 bt605.1 bt605.2.1 bt605.2.2.1 bt605.2.2.2.1))) = some r := H
 have A3 := Aside0.mk A30
 clear A30
 replace H := Option.bind_eq_some_iff.mp H
 obtain ⟨⟨t605, t606, t607, t608, t609⟩, A40, H⟩ := H
 replace H : (if t603 = true then (impl_VecSum.j0 k (!t609) t599 t600 t601 t602 t605 t606 t607 t608) else (impl_VecSum.j0 k true t599 t600 t601 t602 t605 t606 t607 t608)) = some r := H
 have A4 := Aside0.mk A40
 clear A40
 have HC5 := Aside0.mk H
 clear H
 go_enter Try.func68, Try.ntmps68
 go_upto_region 3 with (first | ((with_reducible refine gate_callee (f := 56) rfl ?_); refine goesL_ (some 11) rfl rfl Try.func56 (by kernel_rfl) rfl #[.slice A0 l0.length c0] rfl z26_1 ?_; (with_reducible refine (impl_vectorOf.calls _ _ l0 t599 t600 t601 t602 t603 _ ?side1 ?side2 A3.out).mono ?_); (case side1 => repeat (first | exact HR0.out | (with_reducible refine Kd.C_alloc ?_ _) | (with_reducible refine Kd.C_drewN ?_ _) | (with_reducible refine Kd.C_drew ?_))); (case side2 => exact HC0.out); rintro e w6 ⟨rfl, hb⟩; refine ⟨_, rfl, ?_⟩; have n0_ := Aside0.mk (below_step z26_5 hb); clear HB; have HB := n0_; clear n0_; (try clear hb); (try clear hb2); (try clear hk); (try clear hi)) | ((with_reducible refine gate_dst (N := 5) rfl ?_); refine box_event ?hg (N := 5) ?hd (cs := #[.int .i64 0, .int .i64 0, .int .i64 0, .int .i64 0]) (t := 59) ?hr ?_; (case hd => rfl); (case hg => rfl); (case hr => first | (go_simp; done) | (go_simp; rfl)); intro gb604 hg w7 hbox hb; have n0_ := Aside0.mk (below_step z26_5 hb); have n1_ := Aside0.mk (hbox); have n2_ := Aside0.mk ((by rw [hg]; exact (below_size z26_5) : w.heap.size ≤ gb604)); have n3_ := Aside0.mk ((by rw [hg]; exact (below_size z26_5) : w.heap.size ≤ gb604)); clear HB; have HB := n0_; have BK604 := n1_; have GW604 := n2_; have GE604 := n3_; clear n0_ n1_ n2_ n3_; clear hb hbox hg; have hcz8_0 : w7.cell? ⟨gb604, 0, none⟩ = some (.int .i64 0) := (blk_cell BK604.out 0).trans rfl; have hfz8_0 := blk_frozen BK604.out 0; have hcz9_1 : w7.cell? ⟨gb604, 1, none⟩ = some (.int .i64 0) := (blk_cell BK604.out 1).trans rfl; have hfz9_1 := blk_frozen BK604.out 1; have hcz10_2 : w7.cell? ⟨gb604, 2, none⟩ = some (.int .i64 0) := (blk_cell BK604.out 2).trans rfl; have hfz10_2 := blk_frozen BK604.out 2; have hcz11_3 : w7.cell? ⟨gb604, 3, none⟩ = some (.int .i64 0) := (blk_cell BK604.out 3).trans rfl; have hfz11_3 := blk_frozen BK604.out 3) | ((with_reducible refine gate_store (t := 59) (p := 5) rfl ?_); refine store_event (t := 59) (p := 5) (v := ?vo_w12) (w1 := ((((w7.setCell ⟨gb604, 0, none⟩ (.int .i64 t599)).setCell ⟨gb604, 1, none⟩ (.int .i64 t600)).setCell ⟨gb604, 2, none⟩ (.int .i64 t601)).setCell ⟨gb604, 3, none⟩ (.int .i64 t602))) ?hg ?ho ?hn ?hr ?_; (case ho => rfl); (case hg => rfl); (case hn => rfl); (case hr => first | (go_simp; done) | (go_simp; rfl)); intro w12 hw; have n0_ : Aside0 (w12.heap[gb604]? = some (.cells #[.int .i64 t599, .int .i64 t600, .int .i64 t601, .int .i64 t602] 59 (0, 0))) := ⟨(by rw [hw]; exact (by (with_reducible repeat first|refine blk_drewN ?_ _|refine blk_drew ?_|refine blk_alloc ?_ _); refine blk_put (cs := #[.int .i64 t599, .int .i64 t600, .int .i64 t601, .int .i64 0]) ?_ 3 _ rfl; (with_reducible repeat first|refine blk_drewN ?_ _|refine blk_drew ?_|refine blk_alloc ?_ _); refine blk_put (cs := #[.int .i64 t599, .int .i64 t600, .int .i64 0, .int .i64 0]) ?_ 2 _ rfl; (with_reducible repeat first|refine blk_drewN ?_ _|refine blk_drew ?_|refine blk_alloc ?_ _); refine blk_put (cs := #[.int .i64 t599, .int .i64 0, .int .i64 0, .int .i64 0]) ?_ 1 _ rfl; (with_reducible repeat first|refine blk_drewN ?_ _|refine blk_drew ?_|refine blk_alloc ?_ _); refine blk_put (cs := #[.int .i64 0, .int .i64 0, .int .i64 0, .int .i64 0]) ?_ 0 _ rfl; (with_reducible repeat first|refine blk_drewN ?_ _|refine blk_drew ?_|refine blk_alloc ?_ _); exact BK604.out))⟩; have n1_ : Aside0 (Below w.heap.size w w12) := ⟨(by rw [hw]; exact z26_4)⟩; clear hw; clear BK604; clear HB; have BK604 := n0_; have HB := n1_; clear n0_ n1_) | ((with_reducible refine gate_callee (f := 56) rfl ?_); refine goesL_ (some 16) rfl rfl Try.func56 (by kernel_rfl) rfl #[.slice A1 l1.length c1] rfl z26_1 ?_; (with_reducible refine (impl_vectorOf.calls _ _ l1 t605 t606 t607 t608 t609 _ ?side1 ?side2 A4.out).mono ?_); (case side1 => repeat (first | exact (Kd.C_below HR1.out HB.out) | (with_reducible refine Kd.C_alloc ?_ _) | (with_reducible refine Kd.C_drewN ?_ _) | (with_reducible refine Kd.C_drew ?_))); (case side2 => exact HC1.out); rintro e w13 ⟨rfl, hb⟩; refine ⟨_, rfl, ?_⟩; have n0_ := Aside0.mk (blk_below (g := gb604) (o := .cells #[.int .i64 t599, .int .i64 t600, .int .i64 t601, .int .i64 t602] 59 (0, 0)) z26_2 hb); have n1_ := Aside0.mk (below_step z26_4 hb); clear BK604; clear HB; have BK604 := n0_; have HB := n1_; clear n0_ n1_; (try clear hb); (try clear hb2); (try clear hk); (try clear hi)) | ((with_reducible refine gate_dst (N := 7) rfl ?_); refine box_event ?hg (N := 7) ?hd (cs := #[.int .i64 0, .int .i64 0, .int .i64 0, .int .i64 0]) (t := 59) ?hr ?_; (case hd => rfl); (case hg => rfl); (case hr => first | (go_simp; done) | (go_simp; rfl)); intro gb610 hg w14 hbox hb; have n0_ := Aside0.mk (blk_below (g := gb604) (o := .cells #[.int .i64 t599, .int .i64 t600, .int .i64 t601, .int .i64 t602] 59 (0, 0)) z26_2 hb); have n1_ := Aside0.mk (below_step z26_4 hb); have n2_ := Aside0.mk (hbox); have n3_ := Aside0.mk ((by rw [hg]; exact (below_size z26_4) : w.heap.size ≤ gb610)); have n4_ := Aside0.mk ((by rw [hg]; exact (below_size z26_4) : w.heap.size ≤ gb610)); have n5_ := Aside0.mk ((by rw [hg]; exact Nat.ne_of_lt (blk_lt (g := gb604) (o := .cells #[.int .i64 t599, .int .i64 t600, .int .i64 t601, .int .i64 t602] 59 (0, 0)) z26_2) : gb604 ≠ gb610)); have n6_ := Aside0.mk ((by rw [hg]; exact Nat.ne_of_gt (blk_lt (g := gb604) (o := .cells #[.int .i64 t599, .int .i64 t600, .int .i64 t601, .int .i64 t602] 59 (0, 0)) z26_2) : gb610 ≠ gb604)); clear BK604; clear HB; have BK604 := n0_; have HB := n1_; have BK610 := n2_; have GW610 := n3_; have GE610 := n4_; have aa := n5_; have ab := n6_; clear n0_ n1_ n2_ n3_ n4_ n5_ n6_; clear hb hbox hg; have hnb15 := ab.out; have hnc15 := aa.out; have hcz16_0 : w14.cell? ⟨gb610, 0, none⟩ = some (.int .i64 0) := (blk_cell BK610.out 0).trans rfl; have hfz16_0 := blk_frozen BK610.out 0; have hcz17_1 : w14.cell? ⟨gb610, 1, none⟩ = some (.int .i64 0) := (blk_cell BK610.out 1).trans rfl; have hfz17_1 := blk_frozen BK610.out 1; have hcz18_2 : w14.cell? ⟨gb610, 2, none⟩ = some (.int .i64 0) := (blk_cell BK610.out 2).trans rfl; have hfz18_2 := blk_frozen BK610.out 2; have hcz19_3 : w14.cell? ⟨gb610, 3, none⟩ = some (.int .i64 0) := (blk_cell BK610.out 3).trans rfl; have hfz19_3 := blk_frozen BK610.out 3) | ((with_reducible refine gate_store (t := 59) (p := 7) rfl ?_); refine store_event (t := 59) (p := 7) (v := ?vo_w20) (w1 := ((((w14.setCell ⟨gb610, 0, none⟩ (.int .i64 t605)).setCell ⟨gb610, 1, none⟩ (.int .i64 t606)).setCell ⟨gb610, 2, none⟩ (.int .i64 t607)).setCell ⟨gb610, 3, none⟩ (.int .i64 t608))) ?hg ?ho ?hn ?hr ?_; (case ho => rfl); (case hg => rfl); (case hn => rfl); (case hr => first | (go_simp; done) | (go_simp; rfl)); intro w20 hw; have n0_ : Aside0 (w20.heap[gb604]? = some (.cells #[.int .i64 t599, .int .i64 t600, .int .i64 t601, .int .i64 t602] 59 (0, 0))) := ⟨(by rw [hw]; exact (by (with_reducible repeat first|refine blk_drewN ?_ _|refine blk_drew ?_|refine blk_alloc ?_ _); refine blk_far ?_ aa.out _; (with_reducible repeat first|refine blk_drewN ?_ _|refine blk_drew ?_|refine blk_alloc ?_ _); refine blk_far ?_ aa.out _; (with_reducible repeat first|refine blk_drewN ?_ _|refine blk_drew ?_|refine blk_alloc ?_ _); refine blk_far ?_ aa.out _; (with_reducible repeat first|refine blk_drewN ?_ _|refine blk_drew ?_|refine blk_alloc ?_ _); refine blk_far ?_ aa.out _; (with_reducible repeat first|refine blk_drewN ?_ _|refine blk_drew ?_|refine blk_alloc ?_ _); exact BK604.out))⟩; have n1_ : Aside0 (w20.heap[gb610]? = some (.cells #[.int .i64 t605, .int .i64 t606, .int .i64 t607, .int .i64 t608] 59 (0, 0))) := ⟨(by rw [hw]; exact (by (with_reducible repeat first|refine blk_drewN ?_ _|refine blk_drew ?_|refine blk_alloc ?_ _); refine blk_put (cs := #[.int .i64 t605, .int .i64 t606, .int .i64 t607, .int .i64 0]) ?_ 3 _ rfl; (with_reducible repeat first|refine blk_drewN ?_ _|refine blk_drew ?_|refine blk_alloc ?_ _); refine blk_put (cs := #[.int .i64 t605, .int .i64 t606, .int .i64 0, .int .i64 0]) ?_ 2 _ rfl; (with_reducible repeat first|refine blk_drewN ?_ _|refine blk_drew ?_|refine blk_alloc ?_ _); refine blk_put (cs := #[.int .i64 t605, .int .i64 0, .int .i64 0, .int .i64 0]) ?_ 1 _ rfl; (with_reducible repeat first|refine blk_drewN ?_ _|refine blk_drew ?_|refine blk_alloc ?_ _); refine blk_put (cs := #[.int .i64 0, .int .i64 0, .int .i64 0, .int .i64 0]) ?_ 0 _ rfl; (with_reducible repeat first|refine blk_drewN ?_ _|refine blk_drew ?_|refine blk_alloc ?_ _); exact BK610.out))⟩; have n2_ : Aside0 (Below w.heap.size w w20) := ⟨(by rw [hw]; exact z26_0)⟩; clear hw; clear BK604; clear BK610; clear HB; have BK604 := n0_; have BK610 := n1_; have HB := n2_; clear n0_ n1_ n2_))
 (try simp only [Act.put, List.setIfInBounds_toArray, List.set_cons_zero, List.set_cons_succ])
 go_cut [24] (fun v24 wc => ∃ (kq : Nat) (x24_4 : Bool), v24 = .bool x24_4 ∧ Aside0 (impl_VecSum.j0 kq x24_4 t599 t600 t601 t602 t605 t606 t607 t608 = some r) ∧ Aside0 (kq ≤ k) ∧ Aside0 (wc.heap[gb604]? = some (.cells #[.int .i64 t599, .int .i64 t600, .int .i64 t601, .int .i64 t602] 59 (0, 0))) ∧ Aside0 (wc.heap[gb610]? = some (.cells #[.int .i64 t605, .int .i64 t606, .int .i64 t607, .int .i64 t608] 59 (0, 0))) ∧ Aside0 (Below w.heap.size w wc))
 case first =>
  have H := HC5.out
  clear HC5
  by_cases c21 : t603 = true
  ·subst c21
   have H1 : (impl_VecSum.j0 k (!t609) t599 t600 t601 t602 t605 t606 t607 t608) = some r := by rw [if_pos rfl] at H; exact H
   clear H
   have H := H1
   clear H1
   have H' := Aside0.mk H
   clear H
   go_wp2
   go_meet
   case rel => exact ⟨_, (!t609), z26_7, H', ⟨by first | omega | exact Nat.le_refl _⟩, ⟨z26_2⟩, ⟨z26_6⟩, ⟨z26_0⟩⟩
  ·replace c21 := Bool.eq_false_iff.mpr c21
   subst c21
   have H1 : (impl_VecSum.j0 k true t599 t600 t601 t602 t605 t606 t607 t608) = some r := by rw [if_neg (show ¬ (false = true) by decide)] at H; exact H
   clear H
   have H := H1
   clear H1
   have H' := Aside0.mk H
   clear H
   go_wp2
   go_meet
   case rel => exact ⟨_, (true), z26_7, H', ⟨by first | omega | exact Nat.le_refl _⟩, ⟨z26_2⟩, ⟨z26_6⟩, ⟨z26_0⟩⟩
 case rest =>
  clear HC5
  try clear c1
  try clear hcz10_2
  try clear hcz11_3
  try clear hcz16_0
  try clear hcz17_1
  try clear hcz18_2
  try clear hcz19_3
  try clear hcz8_0
  try clear hcz9_1
  try clear hfz10_2
  try clear hfz11_3
  try clear hfz16_0
  try clear hfz17_1
  try clear hfz18_2
  try clear hfz19_3
  try clear hfz8_0
  try clear hfz9_1
  obtain ⟨kq, x24_4, rfl, HA, HJ4, BK604, BK610, HB⟩ := hcut
  cases kq with
  | zero => exact absurd HA.out (by simp [impl_VecSum.j0])
  | succ kj4 =>
   have H := HA.out
   clear HA
   simp only [impl_VecSum.j0] at H
   by_cases c22 : x24_4 = true
   ·subst c22
    have H1 : (some ([] : List Int)) = some r := by rw [if_pos rfl] at H; exact H
    clear H
    have H := H1
    clear H1
    obtain rfl := Option.some.inj H
    go_wp2
    go_ret
    exact ⟨_, z26_8, by first | exact Kd.R_nil _ _ _ _ _ | exact Kd.N_nil _ _ _ _ _ | exact Kd.V_nil _ _ _ _ _ | exact Kd.Q_nil _ _ _ _ _ | exact Kd.S_nil _ _ _ _ _, z26_0⟩
   ·replace c22 := Bool.eq_false_iff.mpr c22
    subst c22
    have H1 : ((impl_vector_plus.f t599 t600 t601 t602 t605 t606 t607 t608).bind fun bt611 => ((impl_vector_list.f bt611.1 bt611.2.1 bt611.2.2.1 bt611.2.2.2).bind fun t615 => (some t615))) = some r := by rw [if_neg (show ¬ (false = true) by decide)] at H; exact H
    clear H
    have H := H1
    clear H1
    replace H := Option.bind_eq_some_iff.mp H
    obtain ⟨⟨t611, t612, t613, t614⟩, A230, H⟩ := H
    replace H : ((impl_vector_list.f t611 t612 t613 t614).bind fun t615 => (some t615)) = some r := H
    have A23 := Aside0.mk A230
    clear A230
    replace H := Option.bind_eq_some_iff.mp H
    obtain ⟨t615, A240, H⟩ := H
    replace H : (some t615) = some r := H
    have A24 := Aside0.mk A240
    clear A240
    obtain rfl := Option.some.inj H
    have hnb25 := aa.out
    have hnc25 := ab.out
    have hcz26_0 : wc.cell? ⟨gb604, 0, none⟩ = some (.int .i64 t599) := (blk_cell BK604.out 0).trans rfl
    have hcz26_1 : wc.cell? ⟨gb604, 1, none⟩ = some (.int .i64 t600) := (blk_cell BK604.out 1).trans rfl
    have hcz26_2 : wc.cell? ⟨gb604, 2, none⟩ = some (.int .i64 t601) := (blk_cell BK604.out 2).trans rfl
    have hcz26_3 : wc.cell? ⟨gb604, 3, none⟩ = some (.int .i64 t602) := (blk_cell BK604.out 3).trans rfl
    have hfz26_0 := blk_frozen BK604.out 0
    have hfz26_1 := blk_frozen BK604.out 1
    have hfz26_2 := blk_frozen BK604.out 2
    have hfz26_3 := blk_frozen BK604.out 3
    have hcz27_0 : wc.cell? ⟨gb610, 0, none⟩ = some (.int .i64 t605) := (blk_cell BK610.out 0).trans rfl
    have hcz27_1 : wc.cell? ⟨gb610, 1, none⟩ = some (.int .i64 t606) := (blk_cell BK610.out 1).trans rfl
    have hcz27_2 : wc.cell? ⟨gb610, 2, none⟩ = some (.int .i64 t607) := (blk_cell BK610.out 2).trans rfl
    have hcz27_3 : wc.cell? ⟨gb610, 3, none⟩ = some (.int .i64 t608) := (blk_cell BK610.out 3).trans rfl
    have hfz27_0 := blk_frozen BK610.out 0
    have hfz27_1 := blk_frozen BK610.out 1
    have hfz27_2 := blk_frozen BK610.out 2
    have hfz27_3 := blk_frozen BK610.out 3
    go_wp2_with (first | ((with_reducible refine gate_callee (f := 87) rfl ?_); refine goesL_ (some 27) rfl rfl Try.func87 (by kernel_rfl) rfl #[.agg #[.int .i64 t599, .int .i64 t600, .int .i64 t601, .int .i64 t602], .agg #[.int .i64 t605, .int .i64 t606, .int .i64 t607, .int .i64 t608]] rfl z26_1 ?_; (with_reducible refine (impl_vector_plus.calls t599 t600 t601 t602 t605 t606 t607 t608 t611 t612 t613 t614 _ A23.out).mono ?_); rintro e w28 ⟨rfl, hb⟩; refine ⟨_, rfl, ?_⟩; have n0_ := Aside0.mk (blk_below (g := gb604) (o := .cells #[.int .i64 t599, .int .i64 t600, .int .i64 t601, .int .i64 t602] 59 (0, 0)) z26_2 hb); have n1_ := Aside0.mk (blk_below (g := gb610) (o := .cells #[.int .i64 t605, .int .i64 t606, .int .i64 t607, .int .i64 t608] 59 (0, 0)) z26_6 hb); have n2_ := Aside0.mk (below_step z26_0 hb); clear BK604; clear BK610; clear HB; have BK604 := n0_; have BK610 := n1_; have HB := n2_; clear n0_ n1_ n2_; (try clear hb); (try clear hb2); (try clear hk); (try clear hi)) | ((with_reducible refine gate_callee (f := 61) rfl ?_); refine goesL_ (some 28) rfl rfl Try.func61 (by kernel_rfl) rfl #[.agg #[.int .i64 t611, .int .i64 t612, .int .i64 t613, .int .i64 t614]] rfl z26_1 ?_; (with_reducible refine (impl_vector_list.calls t611 t612 t613 t614 t615 _ A24.out).mono ?_); rintro e w29 ⟨v616, rfl, ho0, hb⟩; refine ⟨_, rfl, ?_⟩; have n0_ := Aside0.mk (Kd.R_lower ho0 (below_size z26_0)); have n1_ := Aside0.mk (blk_below (g := gb604) (o := .cells #[.int .i64 t599, .int .i64 t600, .int .i64 t601, .int .i64 t602] 59 (0, 0)) z26_2 hb); have n2_ := Aside0.mk (blk_below (g := gb610) (o := .cells #[.int .i64 t605, .int .i64 t606, .int .i64 t607, .int .i64 t608] 59 (0, 0)) z26_6 hb); have n3_ := Aside0.mk (below_step z26_0 hb); clear BK604; clear BK610; clear HB; have HO617 := n0_; have BK604 := n1_; have BK610 := n2_; have HB := n3_; clear n0_ n1_ n2_ n3_; (try clear hb); (try clear hb2); (try clear hk); (try clear hi); (try clear ho0)))
    go_ret
    exact ⟨_, z26_8, by (with_reducible repeat (first | apply Kd.R_alloc | apply Kd.R_drewN | apply Kd.R_drew)); exact HO617.out, z26_0⟩

/-! ### impl_within: function 98 -/
def impl_within.f (a0 : Int) (a1 : Int) (a2 : Int) : Option (Bool) := if a0 ≥ a1 then (some (decide (a0 ≤ a2))) else (some false)
set_option maxHeartbeats 8000000 in
set_option maxRecDepth 100000 in
theorem impl_within.calls (a0 : Int) (a1 : Int) (a2 : Int) (r : Bool) (w : World) (h : impl_within.f a0 a1 a2 = some r) :
  Calls Try.prog 98 #[.int .i64 a0, .int .i64 a1, .int .i64 a2] w fun e w' => e = .returned (.bool r) ∧ Drawn0 w w' := by
 have H : (if a0 ≥ a1 then (some (decide (a0 ≤ a2))) else (some false)) = some r := h
 clear h
 by_cases c4 : a0 ≥ a1
 ·rw [if_pos c4] at H
  have c4b0 : decide (a1 ≤ a0) = true := decide_eq_true c4
  clear c4
  obtain rfl := Option.some.inj H
  go_enter Try.func98, Try.ntmps98
  go_wp2
  go_ret
  exact ⟨z26_7, z26_9⟩
 ·rw [if_neg c4] at H
  have c4b0 : decide (a1 ≤ a0) = false := decide_eq_false c4
  clear c4
  obtain rfl := Option.some.inj H
  go_enter Try.func98, Try.ntmps98
  go_wp2
  go_ret
  exact ⟨z26_7, z26_9⟩

/-! ### impl_FieldOk: function 88 -/
def impl_FieldOk.f (a0 : Int) : Option (Bool) := (impl_within.f a0 0 30).bind fun t618 => (some t618)
set_option maxHeartbeats 8000000 in
set_option maxRecDepth 100000 in
theorem impl_FieldOk.calls (a0 : Int) (r : Bool) (w : World) (h : impl_FieldOk.f a0 = some r) :
  Calls Try.prog 88 #[.int .i64 a0] w fun e w' => e = .returned (.bool r) ∧ Drawn0 w w' := by
 have H : ((impl_within.f a0 0 30).bind fun t618 => (some t618)) = some r := h
 clear h
 replace H := Option.bind_eq_some_iff.mp H
 obtain ⟨t618, A20, H⟩ := H
 replace H : (some t618) = some r := H
 have A2 := Aside0.mk A20
 clear A20
 obtain rfl := Option.some.inj H
 go_enter Try.func88, Try.ntmps88
 go_wp2_with (first | ((with_reducible refine gate_callee (f := 98) rfl ?_); refine goesL_ (some 4) rfl rfl Try.func98 (by kernel_rfl) rfl #[.int .i64 a0, .int .i64 0, .int .i64 30] rfl z26_1 ?_; (with_reducible refine (impl_within.calls a0 0 30 t618 _ A2.out).mono ?_); rintro e w' ⟨rfl, ⟨nd, rfl⟩⟩; refine ⟨_, rfl, ?_⟩))
 go_ret
 exact ⟨z26_7, z26_9⟩

end Go.Proofs.Ytbhmgbeebhmfkaa.PA
