-- Written by a program of this session (after the manner of the kit's print, several laws in one text).
import Derived.Test.YtamaejafddmagaaPAx0
import Derived.Test.YtamaejafddmagaaPAx4
import Derived.Test.YtamaejafddmagaaPAx7
import Derived.Test.YtamaejafddmagaaPAx13
import Derived.Test.YtamaejafddmagaaGw
import Derived.Test.YtamaejafddmagaaGm
import Derived.Test.YtamaejafddmagaaGc
namespace Go.Proofs.Ytamaejafddmagaa.PA
open Go.RowKit Go.Proofs.YtamaejafddmagaaW.PrintWords Go.Proofs.YtamaejafddmagaaW.PrintLast Go.Proofs.YtamaejafddmagaaW.PrintMore
attribute [local go_sem] max2_int min2_int max_two min_two max_three min_three max_four min_four   -- for this text's walks alone
set_option linter.unusedVariables false
set_option linter.unusedSimpArgs false

/-! ### impl_fits: function 84 -/
theorem zL14 {p q : Prop} (h : q) (t : q → p := by intro h_; (with_reducible repeat first|refine blk_drewN ?_ _|refine blk_drew ?_|refine blk_alloc ?_ _); exact h_) : p := t h
theorem z14_1 {p : Prop} (h : p := by repeat (first | (with_reducible first | exact HB.out | apply below_alloc | apply pw_below_drewN | apply below_drew1) | exact HB.out)) : p := h
theorem z14_2 {p : Prop} (h : p := by repeat (first | (with_reducible first | exact HB.out | apply below_alloc | apply pw_below_drewN | apply below_drew1 | refine below_set ?_ GE458.out) | exact HB.out)) : p := h
theorem z14_3 {p : Prop} (h : p := by (try simp only [List.map_toArray, List.map_cons, List.map_nil]); first | done | rfl | (simp only [List.length_drop, List.length_take]; rfl)) : p := h
theorem z14_4 {p : Prop} (h : p := by first | rfl | (simp [errW_none, errW_some] <;> rfl) | (simp [*, errW_none, errW_some] <;> rfl)) : p := h
theorem z14_5 {p : Prop} (h : p := by first | (with_reducible assumption) | assumption) : p := h
def impl_fits.l0 : Nat → Int → List Int → List Int → Int → Int → Int → Int → Int → Int → Option (Bool)
  | 0, _, _, _, _, _, _, _, _, _ => none
  | k + 1, x0, x1, x14, x15, x16, x459000, x459001, x459002, x459003 => if x16 < x15 then (if 0 ≤ x16 then (if x16 < (x14.length : Int) then ((impl_rowOf.f x0 (rd x14 x16)).bind fun bt460 => ((impl_vector_dot.f bt460.1 bt460.2.1 bt460.2.2.1 bt460.2.2.2 x459000 x459001 x459002 x459003).bind fun t464 => (if 0 ≤ (rd x14 x16) then (if (rd x14 x16) < (x1.length : Int) then (if t464 = (rd x1 (rd x14 x16)) then (impl_fits.l0 k x0 x1 x14 x15 (wrap64 (x16 + 1)) x459000 x459001 x459002 x459003) else (some false)) else (none)) else (none)))) else (none)) else (none)) else (some true)
def impl_fits.f (k : Nat) (a0 : Int) (l1 : List Int) (l2 : List Int) : Option (Bool) := (impl_solve.f k a0 l1 l2).bind fun bt454 => (impl_fits.l0 k a0 l1 l2 (l2.length : Int) 0 bt454.1 bt454.2.1 bt454.2.2.1 bt454.2.2.2)
def impl_fits.T5 : Bool × List (List Nat × List Nat) := (true, [([], []), ([], []), ([0, 1], [0, 1]), ([], []), ([2, 3, 2], [2, 3]), ([], []), ([], []), ([5, 6], [5, 6]), ([7], [7]), ([4, 8], [4, 8])])
def impl_fits.B5 : List Nat := [0, 0, 3, 0, 15, 0, 0, 96, 224, 511]
theorem impl_fits.tab5 : rtab .any (opsOf Try.f84 5) = impl_fits.T5 := by kernel_rfl
theorem impl_fits.bits5 : waitsOk impl_fits.T5.2 impl_fits.B5 = true := by kernel_rfl
set_option maxHeartbeats 8000000 in
set_option maxRecDepth 100000 in
theorem impl_fits.calls (k : Nat) (a0 : Int) (A1 : Option Addr) (c1 : Nat) (l1 : List Int) (A2 : Option Addr) (c2 : Nat) (l2 : List Int) (r : Bool) (w : World) (hr1 : Kd.C (Kd.int .i64) w A1 l1.length l1) (hc1 : l1.length ≤ c1) (hr2 : Kd.C (Kd.int .i64) w A2 l2.length l2) (hc2 : l2.length ≤ c2) (h : impl_fits.f k a0 l1 l2 = some r) :
  Calls Try.prog 84 #[.int .i64 a0, .slice A1 l1.length c1, .slice A2 l2.length c2] w fun e w' => e = .returned (.bool r) ∧ Below w.heap.size w w' := by
 have hu70 := Try.underlying70
 have HR1 := Aside0.mk hr1
 have HC1 := Aside0.mk hc1
 clear hr1 hc1
 have HR2 := Aside0.mk hr2
 have HC2 := Aside0.mk hc2
 clear hr2 hc2
 have HB := Aside0.mk (Below.refl w.heap.size w)
 have H : ((impl_solve.f k a0 l1 l2).bind fun bt454 => (impl_fits.l0 k a0 l1 l2 (l2.length : Int) 0 bt454.1 bt454.2.1 bt454.2.2.1 bt454.2.2.2)) = some r := h
 clear h
 replace H := Option.bind_eq_some_iff.mp H
 obtain ⟨⟨t454, t455, t456, t457⟩, A40, H⟩ := H
 replace H : (impl_fits.l0 k a0 l1 l2 (l2.length : Int) 0 t454 t455 t456 t457) = some r := H
 have A4 := Aside0.mk A40
 clear A40
 have H' := Aside0.mk H
 clear H
 go_enter Try.func84, Try.ntmps84
 go_wp2_with (first | ((with_reducible refine gate_callee (f := 114) rfl ?_); refine goesL_ (some 13) rfl rfl Try.func114 (by kernel_rfl) rfl #[.int .i64 a0, .slice A1 l1.length c1, .slice A2 l2.length c2] rfl z14_3 ?_; (with_reducible refine (impl_solve.calls k a0 _ _ l1 _ _ l2 t454 t455 t456 t457 _ ?side1 ?side2 ?side3 ?side4 A4.out).mono ?_); (case side1 => exact cZ (HR1.out)); (case side2 => exact HC1.out); (case side3 => exact cZ (HR2.out)); (case side4 => exact HC2.out); rintro e w5 ⟨rfl, hb⟩; refine ⟨_, rfl, ?_⟩; replace HB := Aside0.mk (below_step z14_1 hb); (try clear hb)) | ((with_reducible refine gate_dst (N := 7) rfl ?_); refine box_event ?hg (N := 7) ?hd (cs := #[.int .i64 0, .int .i64 0, .int .i64 0, .int .i64 0]) (t := 70) ?hr ?_; (case hd => rfl); (case hg => rfl); (case hr => first | (go_simp; done) | (go_simp; rfl)); intro gb458 hg w6 hbox hb; have BK458 := Aside0.mk (hbox); have GW458 := Aside0.mk ((by rw [hg]; exact (below_size z14_1) : w.heap.size ≤ gb458)); have GE458 := Aside0.mk ((by rw [hg]; exact (below_size z14_1) : w.heap.size ≤ gb458)); replace HB := Aside0.mk (below_step z14_1 hb); clear hb hbox hg; have hcz7_0 : w6.cell? ⟨gb458, 0, none⟩ = some (.int .i64 0) := (blk_cell BK458.out 0).trans rfl; have hfz7_0 := blk_frozen BK458.out 0; have hcz8_1 : w6.cell? ⟨gb458, 1, none⟩ = some (.int .i64 0) := (blk_cell BK458.out 1).trans rfl; have hfz8_1 := blk_frozen BK458.out 1; have hcz9_2 : w6.cell? ⟨gb458, 2, none⟩ = some (.int .i64 0) := (blk_cell BK458.out 2).trans rfl; have hfz9_2 := blk_frozen BK458.out 2; have hcz10_3 : w6.cell? ⟨gb458, 3, none⟩ = some (.int .i64 0) := (blk_cell BK458.out 3).trans rfl; have hfz10_3 := blk_frozen BK458.out 3) | ((with_reducible refine gate_store (t := 70) (p := 7) rfl ?_); refine store_event (t := 70) (p := 7) (v := ?vo_w11) (w1 := ((((w6.setCell ⟨gb458, 0, none⟩ (.int .i64 t454)).setCell ⟨gb458, 1, none⟩ (.int .i64 t455)).setCell ⟨gb458, 2, none⟩ (.int .i64 t456)).setCell ⟨gb458, 3, none⟩ (.int .i64 t457))) ?hg ?ho ?hn ?hr ?_; (case ho => rfl); (case hg => rfl); (case hn => rfl); (case hr => first | (go_simp; done) | (go_simp; rfl)); intro w11 hw; have n0_ : Aside0 (w11.heap[gb458]? = some (.cells #[.int .i64 t454, .int .i64 t455, .int .i64 t456, .int .i64 t457] 70 (0, 0))) := ⟨(by rw [hw]; exact (bZ BK458.out))⟩; have n1_ : Aside0 (Below w.heap.size w w11) := ⟨(by rw [hw]; exact z14_2)⟩; clear hw; clear BK458; clear HB; have BK458 := n0_; have HB := n1_; clear n0_ n1_))
 go_loopg [16] k (fun kq v16 w' => ∃ (x16_1 : Int), v16 = .int .i64 x16_1 ∧ Aside0 (impl_fits.l0 kq a0 l1 l2 (l2.length : Int) x16_1 t454 t455 t456 t457 = some r) ∧ Aside0 (kq ≤ k) ∧ Aside0 (w'.heap[gb458]? = some (.cells #[.int .i64 t454, .int .i64 t455, .int .i64 t456, .int .i64 t457] 70 (0, 0))) ∧ Aside0 (Below w.heap.size w w'))
 case atStart => exact ⟨(0), (by first | rfl | (simp; done) | (simp [*]; done)), H', ⟨Nat.le_refl _⟩, ⟨zL14 BK458.out⟩, ⟨z14_2⟩⟩
 case round =>
  clear H'
  try clear c1
  try clear c2
  try clear hcz10_3
  try clear hcz7_0
  try clear hcz8_1
  try clear hcz9_2
  try clear hfz10_3
  try clear hfz7_0
  try clear hfz8_1
  try clear hfz9_2
  obtain ⟨x16_1, rfl, HA, HK1, BK458, HB⟩ := hrel
  cases gk with
  | zero => exact absurd HA.out (by simp [impl_fits.l0])
  | succ k1 =>
   have H := HA.out
   clear HA
   simp only [impl_fits.l0] at H
   by_cases c12 : x16_1 < (l2.length : Int)
   ·rw [if_pos c12] at H
    have c12b0 : decide (x16_1 < (l2.length : Int)) = true := decide_eq_true c12
    clear c12
    obtain ⟨c13, H⟩ := ifP H
    have c13b0 : decide (0 ≤ x16_1) = true := decide_eq_true c13
    clear c13
    obtain ⟨c14, H⟩ := ifP H
    have c14b0 : decide (x16_1 < (l2.length : Int)) = true := decide_eq_true c14
    clear c14
    replace H := Option.bind_eq_some_iff.mp H
    obtain ⟨⟨t460, t461, t462, t463⟩, A150, H⟩ := H
    replace H : ((impl_vector_dot.f t460 t461 t462 t463 t454 t455 t456 t457).bind fun t464 => (if 0 ≤ (rd l2 x16_1) then (if (rd l2 x16_1) < (l1.length : Int) then (if t464 = (rd l1 (rd l2 x16_1)) then (impl_fits.l0 k1 a0 l1 l2 (l2.length : Int) (wrap64 (x16_1 + 1)) t454 t455 t456 t457) else (some false)) else (none)) else (none))) = some r := H
    have A15 := Aside0.mk A150
    clear A150
    replace H := Option.bind_eq_some_iff.mp H
    obtain ⟨t464, A160, H⟩ := H
    replace H : (if 0 ≤ (rd l2 x16_1) then (if (rd l2 x16_1) < (l1.length : Int) then (if t464 = (rd l1 (rd l2 x16_1)) then (impl_fits.l0 k1 a0 l1 l2 (l2.length : Int) (wrap64 (x16_1 + 1)) t454 t455 t456 t457) else (some false)) else (none)) else (none)) = some r := H
    have A16 := Aside0.mk A160
    clear A160
    obtain ⟨c17, H⟩ := ifP H
    have c17b0 : decide (0 ≤ (rd l2 x16_1)) = true := decide_eq_true c17
    clear c17
    obtain ⟨c18, H⟩ := ifP H
    have c18b0 : decide ((rd l2 x16_1) < (l1.length : Int)) = true := decide_eq_true c18
    clear c18
    by_cases c19 : t464 = (rd l1 (rd l2 x16_1))
    ·rw [if_pos c19] at H
     have c19b0 : (t464 == (rd l1 (rd l2 x16_1))) = true := beq_iff_eq.mpr c19
     have c19b1 : (t464 != (rd l1 (rd l2 x16_1))) = false := bne_eq_false_iff_eq.mpr c19
     clear c19
     have H' := Aside0.mk H
     clear H
     have p459 : 0 ≤ (x16_1 : Int) := of_decide_eq_true z14_5
     have q459 : x16_1 < (l2.length : Int) := of_decide_eq_true z14_5
     obtain ⟨ad459, e459, hx459_0⟩ := Kd.at_int HR2.out x16_1 p459 q459
     cases e459
     replace hx459_0 := (HB.out.cell (World.block_lt_of_cell? w _ hx459_0)).trans hx459_0
     replace p459 := eq_true p459
     replace q459 := eq_true q459
     try go_wp2
     replace BK458 := Aside0.mk (blk_drew BK458.out)
     replace HB := Aside0.mk (below_drew1 HB.out)
     have p465 : 0 ≤ ((rd l2 x16_1) : Int) := of_decide_eq_true z14_5
     have q465 : (rd l2 x16_1) < (l1.length : Int) := of_decide_eq_true z14_5
     obtain ⟨ad465, e465, hx465_0⟩ := Kd.at_int HR1.out (rd l2 x16_1) p465 q465
     have hw465_0 := hx465_0
     cases e465
     replace hx465_0 := (HB.out.cell (World.block_lt_of_cell? w _ hx465_0)).trans hx465_0
     replace p465 := eq_true p465
     replace q465 := eq_true q465
     refine start_ (n := 10) (S := fun w' => w'.cell? ⟨gb458, 0, none⟩ = some (.int .i64 t454) ∧ w'.cell? ⟨gb458, 1, none⟩ = some (.int .i64 t455) ∧ w'.cell? ⟨gb458, 2, none⟩ = some (.int .i64 t456) ∧ w'.cell? ⟨gb458, 3, none⟩ = some (.int .i64 t457) ∧ w'.cell? (ad465.add ((rd l2 x16_1)).toNat) = some (.int .i64 (rd l1 (rd l2 x16_1)))) (ds := []) #[false, false, false, false, false, false, false, false, false, false] (by kernel_rfl) rfl rfl ⟨(blk_cell BK458.out 0).trans rfl, (blk_cell BK458.out 1).trans rfl, (blk_cell BK458.out 2).trans rfl, (blk_cell BK458.out 3).trans rfl, ((HB.out.cell (World.block_lt_of_cell? w _ hw465_0)).trans hw465_0)⟩ (fun hHeld => ?_); refine with_tabW impl_fits.tab5 impl_fits.bits5 (fun HT_ HW_ => ?_)
     generalize wr.drew = w20 at BK458 HB hx465_0 hHeld ⊢
     refine pZ 0 HT_ ?_
     refine pZ 1 HT_ ?_
     refine pZ 5 HT_ ?_
     refine pZ 6 HT_ ?_
     refine pZ 7 HT_ ?_
     refine tZ 3 hHeld HT_ HW_ ?_
     refine tZ 8 hHeld HT_ HW_ ?_
     refine oZ 2 HT_ (fun K hK => ?_)
     refine goes_ Try.func111 (by kernel_rfl) rfl #[.int .i64 a0, .int .i64 (rd l2 x16_1)] (by rfl) rfl rfl z14_3 ?_
     with_reducible refine (impl_rowOf.calls a0 (rd l2 x16_1) t460 t461 t462 t463 _ A15.out).mono ?_
     rintro e w21 ⟨rfl, hb⟩
     refine ⟨_, rfl, ?_⟩
     replace BK458 := Aside0.mk (blk_below (g := gb458) (o := .cells #[.int .i64 t454, .int .i64 t455, .int .i64 t456, .int .i64 t457] 70 (0, 0)) (zL14 BK458.out) hb)
     replace HB := Aside0.mk (below_step z14_2 hb)
     (try clear hb)
     (try clear hb2)
     (try clear hk)
     (try clear hi)
     refine hK.out _ _ ⟨(blk_cell BK458.out 0).trans rfl, (blk_cell BK458.out 1).trans rfl, (blk_cell BK458.out 2).trans rfl, (blk_cell BK458.out 3).trans rfl, ((HB.out.cell (World.block_lt_of_cell? w _ hw465_0)).trans hw465_0)⟩ (fun hHeld => ?_)
     clear hK K
     refine nZ ?_
     refine oZ 4 HT_ (fun K hK => ?_)
     refine goes_ Try.func113 (by kernel_rfl) rfl #[.agg #[.int .i64 t460, .int .i64 t461, .int .i64 t462, .int .i64 t463], .agg #[.int .i64 t454, .int .i64 t455, .int .i64 t456, .int .i64 t457]] (by rfl) rfl rfl z14_3 ?_
     with_reducible refine (impl_vector_dot.calls t460 t461 t462 t463 t454 t455 t456 t457 t464 _ A16.out).mono ?_
     rintro e w22 ⟨rfl, hb⟩
     refine ⟨_, rfl, ?_⟩
     replace BK458 := Aside0.mk (blk_below (g := gb458) (o := .cells #[.int .i64 t454, .int .i64 t455, .int .i64 t456, .int .i64 t457] 70 (0, 0)) (zL14 BK458.out) hb)
     replace HB := Aside0.mk (below_step z14_2 hb)
     (try clear hb)
     (try clear hb2)
     (try clear hk)
     (try clear hi)
     refine hK.out _ _ ⟨(blk_cell BK458.out 0).trans rfl, (blk_cell BK458.out 1).trans rfl, (blk_cell BK458.out 2).trans rfl, (blk_cell BK458.out 3).trans rfl, ((HB.out.cell (World.block_lt_of_cell? w _ hw465_0)).trans hw465_0)⟩ (fun hHeld => ?_)
     clear hK K
     refine nZ ?_
     refine pZ 9 HT_ ?_
     refine done_ (done_of HT_.out (by kernel_rfl)) ?_
     try go_wp2
     go_roundg k1
     case measure => have := HK1.out; omega
     case rel => exact ⟨(wrap64 (x16_1 + 1)), (by first | rfl | (simp; done) | (simp [*]; done)), H', ⟨by have := HK1.out; omega⟩, ⟨zL14 BK458.out⟩, ⟨z14_2⟩⟩
    ·rw [if_neg c19] at H
     have c19b0 : (t464 == (rd l1 (rd l2 x16_1))) = false := beq_eq_false_iff_ne.mpr c19
     have c19b1 : (t464 != (rd l1 (rd l2 x16_1))) = true := bne_iff_ne.mpr c19
     obtain rfl := Option.some.inj H
     have p459 : 0 ≤ (x16_1 : Int) := of_decide_eq_true z14_5
     have q459 : x16_1 < (l2.length : Int) := of_decide_eq_true z14_5
     obtain ⟨ad459, e459, hx459_0⟩ := Kd.at_int HR2.out x16_1 p459 q459
     cases e459
     replace hx459_0 := (HB.out.cell (World.block_lt_of_cell? w _ hx459_0)).trans hx459_0
     replace p459 := eq_true p459
     replace q459 := eq_true q459
     try go_wp2
     replace BK458 := Aside0.mk (blk_drew BK458.out)
     replace HB := Aside0.mk (below_drew1 HB.out)
     have p465 : 0 ≤ ((rd l2 x16_1) : Int) := of_decide_eq_true z14_5
     have q465 : (rd l2 x16_1) < (l1.length : Int) := of_decide_eq_true z14_5
     obtain ⟨ad465, e465, hx465_0⟩ := Kd.at_int HR1.out (rd l2 x16_1) p465 q465
     have hw465_0 := hx465_0
     cases e465
     replace hx465_0 := (HB.out.cell (World.block_lt_of_cell? w _ hx465_0)).trans hx465_0
     replace p465 := eq_true p465
     replace q465 := eq_true q465
     refine start_ (n := 10) (S := fun w' => w'.cell? ⟨gb458, 0, none⟩ = some (.int .i64 t454) ∧ w'.cell? ⟨gb458, 1, none⟩ = some (.int .i64 t455) ∧ w'.cell? ⟨gb458, 2, none⟩ = some (.int .i64 t456) ∧ w'.cell? ⟨gb458, 3, none⟩ = some (.int .i64 t457) ∧ w'.cell? (ad465.add ((rd l2 x16_1)).toNat) = some (.int .i64 (rd l1 (rd l2 x16_1)))) (ds := []) #[false, false, false, false, false, false, false, false, false, false] (by kernel_rfl) rfl rfl ⟨(blk_cell BK458.out 0).trans rfl, (blk_cell BK458.out 1).trans rfl, (blk_cell BK458.out 2).trans rfl, (blk_cell BK458.out 3).trans rfl, ((HB.out.cell (World.block_lt_of_cell? w _ hw465_0)).trans hw465_0)⟩ (fun hHeld => ?_); refine with_tabW impl_fits.tab5 impl_fits.bits5 (fun HT_ HW_ => ?_)
     generalize wr.drew = w23 at BK458 HB hx465_0 hHeld ⊢
     refine pZ 0 HT_ ?_
     refine pZ 1 HT_ ?_
     refine pZ 5 HT_ ?_
     refine pZ 6 HT_ ?_
     refine pZ 7 HT_ ?_
     refine tZ 3 hHeld HT_ HW_ ?_
     refine tZ 8 hHeld HT_ HW_ ?_
     refine oZ 2 HT_ (fun K hK => ?_)
     refine goes_ Try.func111 (by kernel_rfl) rfl #[.int .i64 a0, .int .i64 (rd l2 x16_1)] (by rfl) rfl rfl z14_3 ?_
     with_reducible refine (impl_rowOf.calls a0 (rd l2 x16_1) t460 t461 t462 t463 _ A15.out).mono ?_
     rintro e w24 ⟨rfl, hb⟩
     refine ⟨_, rfl, ?_⟩
     replace BK458 := Aside0.mk (blk_below (g := gb458) (o := .cells #[.int .i64 t454, .int .i64 t455, .int .i64 t456, .int .i64 t457] 70 (0, 0)) (zL14 BK458.out) hb)
     replace HB := Aside0.mk (below_step z14_2 hb)
     (try clear hb)
     (try clear hb2)
     (try clear hk)
     (try clear hi)
     refine hK.out _ _ ⟨(blk_cell BK458.out 0).trans rfl, (blk_cell BK458.out 1).trans rfl, (blk_cell BK458.out 2).trans rfl, (blk_cell BK458.out 3).trans rfl, ((HB.out.cell (World.block_lt_of_cell? w _ hw465_0)).trans hw465_0)⟩ (fun hHeld => ?_)
     clear hK K
     refine nZ ?_
     refine oZ 4 HT_ (fun K hK => ?_)
     refine goes_ Try.func113 (by kernel_rfl) rfl #[.agg #[.int .i64 t460, .int .i64 t461, .int .i64 t462, .int .i64 t463], .agg #[.int .i64 t454, .int .i64 t455, .int .i64 t456, .int .i64 t457]] (by rfl) rfl rfl z14_3 ?_
     with_reducible refine (impl_vector_dot.calls t460 t461 t462 t463 t454 t455 t456 t457 t464 _ A16.out).mono ?_
     rintro e w25 ⟨rfl, hb⟩
     refine ⟨_, rfl, ?_⟩
     replace BK458 := Aside0.mk (blk_below (g := gb458) (o := .cells #[.int .i64 t454, .int .i64 t455, .int .i64 t456, .int .i64 t457] 70 (0, 0)) (zL14 BK458.out) hb)
     replace HB := Aside0.mk (below_step z14_2 hb)
     (try clear hb)
     (try clear hb2)
     (try clear hk)
     (try clear hi)
     refine hK.out _ _ ⟨(blk_cell BK458.out 0).trans rfl, (blk_cell BK458.out 1).trans rfl, (blk_cell BK458.out 2).trans rfl, (blk_cell BK458.out 3).trans rfl, ((HB.out.cell (World.block_lt_of_cell? w _ hw465_0)).trans hw465_0)⟩ (fun hHeld => ?_)
     clear hK K
     refine nZ ?_
     refine pZ 9 HT_ ?_
     refine done_ (done_of HT_.out (by kernel_rfl)) ?_
     try go_wp2
     go_ret
     exact ⟨z14_4, z14_2⟩
   ·rw [if_neg c12] at H
    have c12b0 : decide (x16_1 < (l2.length : Int)) = false := decide_eq_false c12
    clear c12
    obtain rfl := Option.some.inj H
    go_wp2
    go_ret
    exact ⟨z14_4, z14_2⟩

/-! ### impl_CodeFits: function 45 -/
def impl_CodeFits.f (k : Nat) (a0 : Int) (l1 : List Int) (l2 : List Bool) : Option (Bool) := (impl_kindOk.f a0).bind fun t466 => (if t466 = true then ((impl_valsOk.f l1).bind fun t467 => (if t467 = true then (if (l2.length : Int) = 8 then ((impl_flagged.f k l2).bind fun t468 => ((impl_fits.f k a0 l1 t468).bind fun t471 => (some t471))) else (some false)) else (some false))) else (some false))
set_option maxHeartbeats 8000000 in
set_option maxRecDepth 100000 in
theorem impl_CodeFits.calls (k : Nat) (a0 : Int) (A1 : Option Addr) (c1 : Nat) (l1 : List Int) (A2 : Option Addr) (c2 : Nat) (l2 : List Bool) (r : Bool) (w : World) (hr1 : Kd.C (Kd.int .i64) w A1 l1.length l1) (hc1 : l1.length ≤ c1) (hr2 : Kd.C Kd.bool w A2 l2.length l2) (hc2 : l2.length ≤ c2) (h : impl_CodeFits.f k a0 l1 l2 = some r) :
  Calls Try.prog 45 #[.int .i64 a0, .slice A1 l1.length c1, .slice A2 l2.length c2] w fun e w' => e = .returned (.bool r) ∧ Below w.heap.size w w' := by
 have HR1 := Aside0.mk hr1
 have HC1 := Aside0.mk hc1
 clear hr1 hc1
 have HR2 := Aside0.mk hr2
 have HC2 := Aside0.mk hc2
 clear hr2 hc2
 have HB := Aside0.mk (Below.refl w.heap.size w)
 have H : ((impl_kindOk.f a0).bind fun t466 => (if t466 = true then ((impl_valsOk.f l1).bind fun t467 => (if t467 = true then (if (l2.length : Int) = 8 then ((impl_flagged.f k l2).bind fun t468 => ((impl_fits.f k a0 l1 t468).bind fun t471 => (some t471))) else (some false)) else (some false))) else (some false))) = some r := h
 clear h
 replace H := Option.bind_eq_some_iff.mp H
 obtain ⟨t466, A40, H⟩ := H
 replace H : (if t466 = true then ((impl_valsOk.f l1).bind fun t467 => (if t467 = true then (if (l2.length : Int) = 8 then ((impl_flagged.f k l2).bind fun t468 => ((impl_fits.f k a0 l1 t468).bind fun t471 => (some t471))) else (some false)) else (some false))) else (some false)) = some r := H
 have A4 := Aside0.mk A40
 clear A40
 by_cases c5 : t466 = true
 ·subst c5
  have H1 : ((impl_valsOk.f l1).bind fun t467 => (if t467 = true then (if (l2.length : Int) = 8 then ((impl_flagged.f k l2).bind fun t468 => ((impl_fits.f k a0 l1 t468).bind fun t471 => (some t471))) else (some false)) else (some false))) = some r := by rw [if_pos rfl] at H; exact H
  clear H
  have H := H1
  clear H1
  replace H := Option.bind_eq_some_iff.mp H
  obtain ⟨t467, A60, H⟩ := H
  replace H : (if t467 = true then (if (l2.length : Int) = 8 then ((impl_flagged.f k l2).bind fun t468 => ((impl_fits.f k a0 l1 t468).bind fun t471 => (some t471))) else (some false)) else (some false)) = some r := H
  have A6 := Aside0.mk A60
  clear A60
  by_cases c7 : t467 = true
  ·subst c7
   have H1 : (if (l2.length : Int) = 8 then ((impl_flagged.f k l2).bind fun t468 => ((impl_fits.f k a0 l1 t468).bind fun t471 => (some t471))) else (some false)) = some r := by rw [if_pos rfl] at H; exact H
   clear H
   have H := H1
   clear H1
   by_cases c8 : (l2.length : Int) = 8
   ·rw [if_pos c8] at H
    have c8b0 : ((l2.length : Int) == 8) = true := beq_iff_eq.mpr c8
    have c8b1 : ((l2.length : Int) != 8) = false := bne_eq_false_iff_eq.mpr c8
    clear c8
    replace H := Option.bind_eq_some_iff.mp H
    obtain ⟨t468, A90, H⟩ := H
    replace H : ((impl_fits.f k a0 l1 t468).bind fun t471 => (some t471)) = some r := H
    have A9 := Aside0.mk A90
    clear A90
    replace H := Option.bind_eq_some_iff.mp H
    obtain ⟨t471, A100, H⟩ := H
    replace H : (some t471) = some r := H
    have A10 := Aside0.mk A100
    clear A100
    obtain rfl := Option.some.inj H
    go_enter Try.func45, Try.ntmps45
    go_wp2_with (first | ((with_reducible refine gate_callee (f := 68) rfl ?_); refine goesL_ (some 8) rfl rfl Try.func68 (by kernel_rfl) rfl #[.int .i64 a0] rfl z14_3 ?_; (with_reducible refine (impl_kindOk.calls a0 true _ A4.out).mono ?_); rintro e w' ⟨rfl, ⟨nd, rfl⟩⟩; refine ⟨_, rfl, ?_⟩) | (go_at_call 83; (with_reducible refine (impl_valsOk.calls _ _ l1 true _ ?side1 ?side2 A6.out).mono ?_); (case side1 => exact cZ (HR1.out)); (case side2 => exact HC1.out); rintro e w' ⟨rfl, ⟨nd, rfl⟩⟩) | (go_at_call 70; (with_reducible refine (impl_flagged.calls k _ _ l2 t468 _ ?side1 ?side2 A9.out).mono ?_); (case side1 => exact cZ (HR2.out)); (case side2 => exact HC2.out); rintro e w11 ⟨v469, rfl, ho0, hb⟩; have HO470 := Aside0.mk (Kd.R_lower ho0 (below_size z14_1)); replace HB := Aside0.mk (below_step z14_1 hb); (try clear hb); (try clear ho0); obtain ⟨Ao12, co12, eo12⟩ := Kd.R_slice HO470.out; subst eo12) | (go_at_call 84; (with_reducible refine (impl_fits.calls k a0 _ _ l1 _ _ t468 t471 _ ?side1 ?side2 ?side3 ?side4 A10.out).mono ?_); (case side1 => exact cZ ((Kd.C_below HR1.out HB.out))); (case side2 => exact HC1.out); (case side3 => exact cZ ((Kd.R_reads' HO470.out).2.2)); (case side4 => exact (Kd.R_reads' HO470.out).2.1); rintro e w13 ⟨rfl, hb⟩; replace HO470 := Aside0.mk (Kd.R_below (by (with_reducible repeat (first | apply Kd.R_alloc | apply Kd.R_drewN | apply Kd.R_drew)); exact HO470.out) hb); replace HB := Aside0.mk (below_step z14_1 hb); (try clear hb)))
    go_ret
    exact ⟨z14_4, z14_1⟩
   ·rw [if_neg c8] at H
    have c8b0 : ((l2.length : Int) == 8) = false := beq_eq_false_iff_ne.mpr c8
    have c8b1 : ((l2.length : Int) != 8) = true := bne_iff_ne.mpr c8
    obtain rfl := Option.some.inj H
    go_enter Try.func45, Try.ntmps45
    go_wp2_with (first | ((with_reducible refine gate_callee (f := 68) rfl ?_); refine goesL_ (some 8) rfl rfl Try.func68 (by kernel_rfl) rfl #[.int .i64 a0] rfl z14_3 ?_; (with_reducible refine (impl_kindOk.calls a0 true _ A4.out).mono ?_); rintro e w' ⟨rfl, ⟨nd, rfl⟩⟩; refine ⟨_, rfl, ?_⟩) | (go_at_call 83; (with_reducible refine (impl_valsOk.calls _ _ l1 true _ ?side1 ?side2 A6.out).mono ?_); (case side1 => exact cZ (HR1.out)); (case side2 => exact HC1.out); rintro e w' ⟨rfl, ⟨nd, rfl⟩⟩))
    go_ret
    exact ⟨z14_4, z14_1⟩
  ·replace c7 := Bool.eq_false_iff.mpr c7
   subst c7
   have H1 : (some false) = some r := by rw [if_neg (show ¬ (false = true) by decide)] at H; exact H
   clear H
   have H := H1
   clear H1
   obtain rfl := Option.some.inj H
   go_enter Try.func45, Try.ntmps45
   go_wp2_with (first | ((with_reducible refine gate_callee (f := 68) rfl ?_); refine goesL_ (some 8) rfl rfl Try.func68 (by kernel_rfl) rfl #[.int .i64 a0] rfl z14_3 ?_; (with_reducible refine (impl_kindOk.calls a0 true _ A4.out).mono ?_); rintro e w' ⟨rfl, ⟨nd, rfl⟩⟩; refine ⟨_, rfl, ?_⟩) | (go_at_call 83; (with_reducible refine (impl_valsOk.calls _ _ l1 false _ ?side1 ?side2 A6.out).mono ?_); (case side1 => exact cZ (HR1.out)); (case side2 => exact HC1.out); rintro e w' ⟨rfl, ⟨nd, rfl⟩⟩))
   go_ret
   exact ⟨z14_4, z14_1⟩
 ·replace c5 := Bool.eq_false_iff.mpr c5
  subst c5
  have H1 : (some false) = some r := by rw [if_neg (show ¬ (false = true) by decide)] at H; exact H
  clear H
  have H := H1
  clear H1
  obtain rfl := Option.some.inj H
  go_enter Try.func45, Try.ntmps45
  go_wp2_with (first | ((with_reducible refine gate_callee (f := 68) rfl ?_); refine goesL_ (some 8) rfl rfl Try.func68 (by kernel_rfl) rfl #[.int .i64 a0] rfl z14_3 ?_; (with_reducible refine (impl_kindOk.calls a0 false _ A4.out).mono ?_); rintro e w' ⟨rfl, ⟨nd, rfl⟩⟩; refine ⟨_, rfl, ?_⟩))
  go_ret
  exact ⟨z14_4, z14_1⟩

end Go.Proofs.Ytamaejafddmagaa.PA
