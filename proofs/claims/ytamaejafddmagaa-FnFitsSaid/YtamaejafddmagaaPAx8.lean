import Derived.Test.YtamaejafddmagaaPAx0
import Derived.Test.YtamaejafddmagaaPAx1
import Derived.Test.YtamaejafddmagaaPAx4
import Derived.Test.YtamaejafddmagaaPAx6
import Derived.Test.YtamaejafddmagaaPAx7
import Derived.Test.YtamaejafddmagaaGw
import Derived.Test.YtamaejafddmagaaGm
import Derived.Test.YtamaejafddmagaaGc
namespace Go.Proofs.Ytamaejafddmagaa.PA
open Go.RowKit Go.Proofs.YtamaejafddmagaaW.PrintWords Go.Proofs.YtamaejafddmagaaW.PrintLast Go.Proofs.YtamaejafddmagaaW.PrintMore
attribute [local go_sem] max2_int min2_int max_two min_two max_three min_three max_four min_four   -- for this text's walks alone
set_option linter.unusedVariables false
set_option linter.unusedSimpArgs false

/-! ### impl_fits: function 84 -/
theorem zL8 {p q : Prop} (h : q) (t : q → p := by intro h_; (with_reducible repeat first|refine blk_drewN ?_ _|refine blk_drew ?_|refine blk_alloc ?_ _); exact h_) : p := t h
theorem z8_1 {p : Prop} (h : p := by (try simp only [List.map_toArray, List.map_cons, List.map_nil]); first | done | rfl | (simp only [List.length_drop, List.length_take]; rfl)) : p := h
theorem z8_2 {p : Prop} (h : p := by repeat (first | (with_reducible first | exact HB.out | apply below_alloc | apply pw_below_drewN | apply below_drew1) | exact HB.out)) : p := h
theorem z8_3 {p : Prop} (h : p := by repeat (first | (with_reducible first | exact HB.out | apply below_alloc | apply pw_below_drewN | apply below_drew1 | refine below_set ?_ GE329.out) | exact HB.out)) : p := h
theorem z8_4 {p : Prop} (h : p := by first | rfl | (simp [errW_none, errW_some] <;> rfl) | (simp [*, errW_none, errW_some] <;> rfl)) : p := h
theorem z8_5 {p : Prop} (h : p := by first | (with_reducible assumption) | assumption) : p := h
theorem z8_6 {p : Prop} (h : p := by first | rfl | (simp; done) | (simp [*]; done)) : p := h
theorem z8_7 {p : Prop} (h : p := by repeat (first | exact Drawn0.refl _ | apply Drawn0.step)) : p := h
def impl_fits.l0 : Nat → Int → List Int → List Int → Int → Int → Int → Int → Int → Int → Option (Bool)
  | 0, _, _, _, _, _, _, _, _, _ => none
  | k + 1, x0, x1, x14, x15, x16, x330000, x330001, x330002, x330003 => if x16 < x15 then (if 0 ≤ x16 then (if x16 < (x14.length : Int) then ((impl_rowOf.f x0 (rd x14 x16)).bind fun bt331 => ((impl_vector_dot.f bt331.1 bt331.2.1 bt331.2.2.1 bt331.2.2.2 x330000 x330001 x330002 x330003).bind fun t335 => (if 0 ≤ (rd x14 x16) then (if (rd x14 x16) < (x1.length : Int) then (if t335 = (rd x1 (rd x14 x16)) then (impl_fits.l0 k x0 x1 x14 x15 (wrap64 (x16 + 1)) x330000 x330001 x330002 x330003) else (some false)) else (none)) else (none)))) else (none)) else (none)) else (some true)
def impl_fits.f (k : Nat) (a0 : Int) (l1 : List Int) (l2 : List Int) : Option (Bool) := (impl_solve.f k a0 l1 l2).bind fun bt325 => (impl_fits.l0 k a0 l1 l2 (l2.length : Int) 0 bt325.1 bt325.2.1 bt325.2.2.1 bt325.2.2.2)
def impl_fits.T5 : Bool × List (List Nat × List Nat) := (true, [([], []), ([], []), ([0, 1], [0, 1]), ([], []), ([2, 3, 2], [2, 3]), ([], []), ([], []), ([5, 6], [5, 6]), ([7], [7]), ([4, 8], [4, 8])])
def impl_fits.B5 : List Nat := [0, 0, 3, 0, 15, 0, 0, 96, 224, 511]
theorem impl_fits.tab5 : rtab .any (opsOf Try.f84 5) = impl_fits.T5 := by kernel_rfl
theorem impl_fits.bits5 : waitsOk impl_fits.T5.2 impl_fits.B5 = true := by kernel_rfl
set_option maxHeartbeats 8000000 in
set_option maxRecDepth 100000 in
theorem impl_fits.calls (k : Nat) (a0 : Int) (A1 : Option Addr) (c1 : Nat) (l1 : List Int) (A2 : Option Addr) (c2 : Nat) (l2 : List Int) (r : Bool) (w : World) (hr1 : Kd.C (Kd.int .i64) w A1 l1.length l1) (hc1 : l1.length ≤ c1) (hr2 : Kd.C (Kd.int .i64) w A2 l2.length l2) (hc2 : l2.length ≤ c2) (h : impl_fits.f k a0 l1 l2 = some r) :
  Calls Try.prog 84 #[.int .i64 a0, .slice A1 l1.length c1, .slice A2 l2.length c2] w fun e w' => e = .returned (.bool r) ∧ Below w.heap.size w w' := by
 have hu70 := Try.underlying70
 have HR1 := Aside0.mk hr1
 have HC1 := Aside0.mk hc1
 clear hr1 hc1
 have HR2 := Aside0.mk hr2
 have HC2 := Aside0.mk hc2
 clear hr2 hc2
 have HB := Aside0.mk (Below.refl w.heap.size w)
 unfold impl_fits.f at h
 have H := h
 clear h
 replace H := Option.bind_eq_some_iff.mp H
 obtain ⟨⟨t325, t326, t327, t328⟩, A40, H⟩ := H
 dsimp only at H
 have A4 := Aside0.mk A40
 clear A40
 have H' := Aside0.mk H
 clear H
 go_enter Try.func84, Try.ntmps84
 go_wp2_with (first | ((with_reducible refine gate_callee (f := 114) rfl ?_); refine goesL_ (some 13) rfl rfl Try.func114 (by kernel_rfl) rfl #[.int .i64 a0, .slice A1 l1.length c1, .slice A2 l2.length c2] rfl z8_1 ?_; (with_reducible refine (impl_solve.calls k a0 _ _ l1 _ _ l2 t325 t326 t327 t328 _ ?side1 ?side2 ?side3 ?side4 A4.out).mono ?_); (case side1 => exact cZ (HR1.out)); (case side2 => exact HC1.out); (case side3 => exact cZ (HR2.out)); (case side4 => exact HC2.out); rintro e w5 ⟨rfl, hb⟩; refine ⟨_, rfl, ?_⟩; replace HB := Aside0.mk (below_step z8_2 hb); (try clear hb)) | ((with_reducible refine gate_dst (N := 7) rfl ?_); refine box_event ?hg (N := 7) ?hd (cs := #[.int .i64 0, .int .i64 0, .int .i64 0, .int .i64 0]) (t := 70) ?hr ?_; (case hd => rfl); (case hg => rfl); (case hr => first | (go_simp; done) | (go_simp; rfl)); intro gb329 hg w6 hbox hb; have BK329 := Aside0.mk (hbox); have GW329 := Aside0.mk ((by rw [hg]; exact (below_size z8_2) : w.heap.size ≤ gb329)); have GE329 := Aside0.mk ((by rw [hg]; exact (below_size z8_2) : w.heap.size ≤ gb329)); replace HB := Aside0.mk (below_step z8_2 hb); clear hb hbox hg; obtain ⟨hcz7_0, hfz7_0, hcz8_1, hfz8_1, hcz9_2, hfz9_2, hcz10_3, hfz10_3⟩ := cAZ4_ BK329) | ((with_reducible refine gate_store (t := 70) (p := 7) rfl ?_); refine store_event (t := 70) (p := 7) (v := ?vo_w11) (w1 := ((((w6.setCell ⟨gb329, 0, none⟩ (.int .i64 t325)).setCell ⟨gb329, 1, none⟩ (.int .i64 t326)).setCell ⟨gb329, 2, none⟩ (.int .i64 t327)).setCell ⟨gb329, 3, none⟩ (.int .i64 t328))) ?hg ?ho ?hn ?hr ?_; (case ho => rfl); (case hg => rfl); (case hn => rfl); (case hr => first | (go_simp; done) | (go_simp; rfl)); intro w11 hw; have n0_ : Aside0 (w11.heap[gb329]? = some (.cells #[.int .i64 t325, .int .i64 t326, .int .i64 t327, .int .i64 t328] 70 (0, 0))) := ⟨(by rw [hw]; exact (bZ BK329.out))⟩; have n1_ : Aside0 (Below w.heap.size w w11) := ⟨(by rw [hw]; exact z8_3)⟩; clear hw; clear BK329; clear HB; have BK329 := n0_; have HB := n1_; clear n0_ n1_))
 go_loopg [16] k (fun kq v16 w' => ∃ (x16_1 : Int), v16 = .int .i64 x16_1 ∧ Aside0 (impl_fits.l0 kq a0 l1 l2 (l2.length : Int) x16_1 t325 t326 t327 t328 = some r) ∧ Aside0 (kq ≤ k) ∧ Aside0 (w'.heap[gb329]? = some (.cells #[.int .i64 t325, .int .i64 t326, .int .i64 t327, .int .i64 t328] 70 (0, 0))) ∧ Aside0 (Below w.heap.size w w'))
 case atStart => exact ⟨(0), z8_6, H', ⟨Nat.le_refl _⟩, ⟨zL8 BK329.out⟩, ⟨z8_3⟩⟩
 case round =>
  clear H'
  try clear c1
  try clear c2
  try clear hcz10_3
  try clear hcz7_0
  try clear hcz8_1
  try clear hcz9_2
  try clear hfz10_3
  try clear hfz7_0
  try clear hfz8_1
  try clear hfz9_2
  obtain ⟨x16_1, rfl, HA, HK1, BK329, HB⟩ := hrel
  cases gk with
  | zero => exact absurd HA.out (by simp [impl_fits.l0])
  | succ k1 =>
   have H := HA.out
   clear HA; simp only [impl_fits.l0] at H
   by_cases c12 : x16_1 < (l2.length : Int)
   ·rw [if_pos c12] at H
    have c12b0 : decide (x16_1 < (l2.length : Int)) = true := decide_eq_true c12; clear c12; obtain ⟨c13, H⟩ := ifP H; have c13b0 : decide (0 ≤ x16_1) = true := decide_eq_true c13; clear c13; obtain ⟨c14, H⟩ := ifP H; have c14b0 : decide (x16_1 < (l2.length : Int)) = true := decide_eq_true c14; clear c14
    replace H := Option.bind_eq_some_iff.mp H
    obtain ⟨⟨t331, t332, t333, t334⟩, A150, H⟩ := H
    replace H : ((impl_vector_dot.f t331 t332 t333 t334 t325 t326 t327 t328).bind fun t335 => (if 0 ≤ (rd l2 x16_1) then (if (rd l2 x16_1) < (l1.length : Int) then (if t335 = (rd l1 (rd l2 x16_1)) then (impl_fits.l0 k1 a0 l1 l2 (l2.length : Int) (wrap64 (x16_1 + 1)) t325 t326 t327 t328) else (some false)) else (none)) else (none))) = some r := H
    have A15 := Aside0.mk A150
    clear A150
    replace H := Option.bind_eq_some_iff.mp H
    obtain ⟨t335, A160, H⟩ := H
    have A16 := Aside0.mk A160
    clear A160; obtain ⟨c17, H⟩ := ifP H; have c17b0 : decide (0 ≤ (rd l2 x16_1)) = true := decide_eq_true c17; clear c17; obtain ⟨c18, H⟩ := ifP H; have c18b0 : decide ((rd l2 x16_1) < (l1.length : Int)) = true := decide_eq_true c18; clear c18
    by_cases c19 : t335 = (rd l1 (rd l2 x16_1))
    ·rw [if_pos c19] at H
     have c19b0 : (t335 == (rd l1 (rd l2 x16_1))) = true := beq_iff_eq.mpr c19
     have c19b1 : (t335 != (rd l1 (rd l2 x16_1))) = false := bne_eq_false_iff_eq.mpr c19
     clear c19
     have H' := Aside0.mk H
     clear H; have p330 : 0 ≤ (x16_1 : Int) := of_decide_eq_true z8_5; have q330 : x16_1 < (l2.length : Int) := of_decide_eq_true z8_5; obtain ⟨ad330, e330, hx330_0⟩ := Kd.at_int HR2.out x16_1 p330 q330; cases e330
     replace hx330_0 := (HB.out.cell (World.block_lt_of_cell? w _ hx330_0)).trans hx330_0
     replace p330 := eq_true p330
     replace q330 := eq_true q330
     try go_wp2
     replace BK329 := Aside0.mk (blk_drew BK329.out)
     replace HB := Aside0.mk (below_drew1 HB.out)
     have p336 : 0 ≤ ((rd l2 x16_1) : Int) := of_decide_eq_true z8_5
     have q336 : (rd l2 x16_1) < (l1.length : Int) := of_decide_eq_true z8_5
     obtain ⟨ad336, e336, hx336_0⟩ := Kd.at_int HR1.out (rd l2 x16_1) p336 q336
     have hw336_0 := hx336_0
     cases e336
     replace hx336_0 := (HB.out.cell (World.block_lt_of_cell? w _ hx336_0)).trans hx336_0
     replace p336 := eq_true p336
     replace q336 := eq_true q336
     refine start_ (n := 10) (S := fun w' => w'.cell? ⟨gb329, 0, none⟩ = some (.int .i64 t325) ∧ w'.cell? ⟨gb329, 1, none⟩ = some (.int .i64 t326) ∧ w'.cell? ⟨gb329, 2, none⟩ = some (.int .i64 t327) ∧ w'.cell? ⟨gb329, 3, none⟩ = some (.int .i64 t328) ∧ w'.cell? (ad336.add ((rd l2 x16_1)).toNat) = some (.int .i64 (rd l1 (rd l2 x16_1)))) (ds := []) #[false, false, false, false, false, false, false, false, false, false] (by kernel_rfl) rfl rfl ⟨(blk_cell BK329.out 0).trans rfl, (blk_cell BK329.out 1).trans rfl, (blk_cell BK329.out 2).trans rfl, (blk_cell BK329.out 3).trans rfl, ((HB.out.cell (World.block_lt_of_cell? w _ hw336_0)).trans hw336_0)⟩ (fun hHeld => ?_); refine with_tabW impl_fits.tab5 impl_fits.bits5 (fun HT_ HW_ => ?_); generalize wr.drew = w20 at BK329 HB hx336_0 hHeld ⊢; refine pZ 0 HT_ ?_; refine pZ 1 HT_ ?_; refine pZ 5 HT_ ?_; refine pZ 6 HT_ ?_; refine pZ 7 HT_ ?_; refine tZ 3 hHeld HT_ HW_ ?_; refine tZ 8 hHeld HT_ HW_ ?_; refine oZ 2 HT_ (fun K hK => ?_); refine goes_ Try.func111 (by kernel_rfl) rfl #[.int .i64 a0, .int .i64 (rd l2 x16_1)] (by rfl) rfl rfl z8_1 ?_
     with_reducible refine (impl_rowOf.calls a0 (rd l2 x16_1) t331 t332 t333 t334 _ A15.out).mono ?_
     rintro e w21 ⟨rfl, hb⟩
     refine ⟨_, rfl, ?_⟩
     replace BK329 := bBZ_ BK329 hb
     replace HB := Aside0.mk (below_step z8_3 hb)
     (try clear hb); (try clear hb2); (try clear hk); (try clear hi); refine hK.out _ _ ⟨(blk_cell BK329.out 0).trans rfl, (blk_cell BK329.out 1).trans rfl, (blk_cell BK329.out 2).trans rfl, (blk_cell BK329.out 3).trans rfl, ((HB.out.cell (World.block_lt_of_cell? w _ hw336_0)).trans hw336_0)⟩ (fun hHeld => ?_); clear hK K; refine nZ ?_; refine oZ 4 HT_ (fun K hK => ?_); refine goes_ Try.func113 (by kernel_rfl) rfl #[.agg #[.int .i64 t331, .int .i64 t332, .int .i64 t333, .int .i64 t334], .agg #[.int .i64 t325, .int .i64 t326, .int .i64 t327, .int .i64 t328]] (by rfl) rfl rfl z8_1 ?_
     with_reducible refine (impl_vector_dot.calls t331 t332 t333 t334 t325 t326 t327 t328 t335 _ A16.out).mono ?_
     rintro e w22 ⟨rfl, hb⟩
     refine ⟨_, rfl, ?_⟩
     replace BK329 := bBZ_ BK329 hb
     replace HB := Aside0.mk (below_step z8_3 hb)
     (try clear hb); (try clear hb2); (try clear hk); (try clear hi); refine hK.out _ _ ⟨(blk_cell BK329.out 0).trans rfl, (blk_cell BK329.out 1).trans rfl, (blk_cell BK329.out 2).trans rfl, (blk_cell BK329.out 3).trans rfl, ((HB.out.cell (World.block_lt_of_cell? w _ hw336_0)).trans hw336_0)⟩ (fun hHeld => ?_); clear hK K; refine nZ ?_; refine pZ 9 HT_ ?_; refine done_ (done_of HT_.out (by kernel_rfl)) ?_
     try go_wp2
     go_roundg k1
     case measure => have := HK1.out; omega
     case rel => exact ⟨(wrap64 (x16_1 + 1)), z8_6, H', ⟨by have := HK1.out; omega⟩, ⟨zL8 BK329.out⟩, ⟨z8_3⟩⟩
    ·rw [if_neg c19] at H
     have c19b0 : (t335 == (rd l1 (rd l2 x16_1))) = false := beq_eq_false_iff_ne.mpr c19
     have c19b1 : (t335 != (rd l1 (rd l2 x16_1))) = true := bne_iff_ne.mpr c19
     obtain rfl := Option.some.inj H
     have p330 : 0 ≤ (x16_1 : Int) := of_decide_eq_true z8_5; have q330 : x16_1 < (l2.length : Int) := of_decide_eq_true z8_5; obtain ⟨ad330, e330, hx330_0⟩ := Kd.at_int HR2.out x16_1 p330 q330; cases e330
     replace hx330_0 := (HB.out.cell (World.block_lt_of_cell? w _ hx330_0)).trans hx330_0
     replace p330 := eq_true p330
     replace q330 := eq_true q330
     try go_wp2
     replace BK329 := Aside0.mk (blk_drew BK329.out)
     replace HB := Aside0.mk (below_drew1 HB.out)
     have p336 : 0 ≤ ((rd l2 x16_1) : Int) := of_decide_eq_true z8_5
     have q336 : (rd l2 x16_1) < (l1.length : Int) := of_decide_eq_true z8_5
     obtain ⟨ad336, e336, hx336_0⟩ := Kd.at_int HR1.out (rd l2 x16_1) p336 q336
     have hw336_0 := hx336_0
     cases e336
     replace hx336_0 := (HB.out.cell (World.block_lt_of_cell? w _ hx336_0)).trans hx336_0
     replace p336 := eq_true p336
     replace q336 := eq_true q336
     refine start_ (n := 10) (S := fun w' => w'.cell? ⟨gb329, 0, none⟩ = some (.int .i64 t325) ∧ w'.cell? ⟨gb329, 1, none⟩ = some (.int .i64 t326) ∧ w'.cell? ⟨gb329, 2, none⟩ = some (.int .i64 t327) ∧ w'.cell? ⟨gb329, 3, none⟩ = some (.int .i64 t328) ∧ w'.cell? (ad336.add ((rd l2 x16_1)).toNat) = some (.int .i64 (rd l1 (rd l2 x16_1)))) (ds := []) #[false, false, false, false, false, false, false, false, false, false] (by kernel_rfl) rfl rfl ⟨(blk_cell BK329.out 0).trans rfl, (blk_cell BK329.out 1).trans rfl, (blk_cell BK329.out 2).trans rfl, (blk_cell BK329.out 3).trans rfl, ((HB.out.cell (World.block_lt_of_cell? w _ hw336_0)).trans hw336_0)⟩ (fun hHeld => ?_); refine with_tabW impl_fits.tab5 impl_fits.bits5 (fun HT_ HW_ => ?_); generalize wr.drew = w23 at BK329 HB hx336_0 hHeld ⊢; refine pZ 0 HT_ ?_; refine pZ 1 HT_ ?_; refine pZ 5 HT_ ?_; refine pZ 6 HT_ ?_; refine pZ 7 HT_ ?_; refine tZ 3 hHeld HT_ HW_ ?_; refine tZ 8 hHeld HT_ HW_ ?_; refine oZ 2 HT_ (fun K hK => ?_); refine goes_ Try.func111 (by kernel_rfl) rfl #[.int .i64 a0, .int .i64 (rd l2 x16_1)] (by rfl) rfl rfl z8_1 ?_
     with_reducible refine (impl_rowOf.calls a0 (rd l2 x16_1) t331 t332 t333 t334 _ A15.out).mono ?_
     rintro e w24 ⟨rfl, hb⟩
     refine ⟨_, rfl, ?_⟩
     replace BK329 := bBZ_ BK329 hb
     replace HB := Aside0.mk (below_step z8_3 hb)
     (try clear hb); (try clear hb2); (try clear hk); (try clear hi); refine hK.out _ _ ⟨(blk_cell BK329.out 0).trans rfl, (blk_cell BK329.out 1).trans rfl, (blk_cell BK329.out 2).trans rfl, (blk_cell BK329.out 3).trans rfl, ((HB.out.cell (World.block_lt_of_cell? w _ hw336_0)).trans hw336_0)⟩ (fun hHeld => ?_); clear hK K; refine nZ ?_; refine oZ 4 HT_ (fun K hK => ?_); refine goes_ Try.func113 (by kernel_rfl) rfl #[.agg #[.int .i64 t331, .int .i64 t332, .int .i64 t333, .int .i64 t334], .agg #[.int .i64 t325, .int .i64 t326, .int .i64 t327, .int .i64 t328]] (by rfl) rfl rfl z8_1 ?_
     with_reducible refine (impl_vector_dot.calls t331 t332 t333 t334 t325 t326 t327 t328 t335 _ A16.out).mono ?_
     rintro e w25 ⟨rfl, hb⟩
     refine ⟨_, rfl, ?_⟩
     replace BK329 := bBZ_ BK329 hb
     replace HB := Aside0.mk (below_step z8_3 hb)
     (try clear hb); (try clear hb2); (try clear hk); (try clear hi); refine hK.out _ _ ⟨(blk_cell BK329.out 0).trans rfl, (blk_cell BK329.out 1).trans rfl, (blk_cell BK329.out 2).trans rfl, (blk_cell BK329.out 3).trans rfl, ((HB.out.cell (World.block_lt_of_cell? w _ hw336_0)).trans hw336_0)⟩ (fun hHeld => ?_); clear hK K; refine nZ ?_; refine pZ 9 HT_ ?_; refine done_ (done_of HT_.out (by kernel_rfl)) ?_
     try go_wp2
     go_ret; exact ⟨z8_4, z8_3⟩
   ·rw [if_neg c12] at H
    have c12b0 : decide (x16_1 < (l2.length : Int)) = false := decide_eq_false c12; clear c12
    obtain rfl := Option.some.inj H
    go_wp2
    go_ret; exact ⟨z8_4, z8_3⟩

/-! ### impl_CodeFits: function 45 -/
def impl_CodeFits.f (k : Nat) (a0 : Int) (l1 : List Int) (l2 : List Bool) : Option (Bool) := (impl_kindOk.f a0).bind fun t337 => (if t337 = true then ((impl_valsOk.f l1).bind fun t338 => (if t338 = true then (if (l2.length : Int) = 8 then ((impl_flagged.f k l2).bind fun t339 => ((impl_fits.f k a0 l1 t339).bind fun t342 => (some t342))) else (some false)) else (some false))) else (some false))
set_option maxHeartbeats 8000000 in
set_option maxRecDepth 100000 in
theorem impl_CodeFits.calls (k : Nat) (a0 : Int) (A1 : Option Addr) (c1 : Nat) (l1 : List Int) (A2 : Option Addr) (c2 : Nat) (l2 : List Bool) (r : Bool) (w : World) (hr1 : Kd.C (Kd.int .i64) w A1 l1.length l1) (hc1 : l1.length ≤ c1) (hr2 : Kd.C Kd.bool w A2 l2.length l2) (hc2 : l2.length ≤ c2) (h : impl_CodeFits.f k a0 l1 l2 = some r) :
  Calls Try.prog 45 #[.int .i64 a0, .slice A1 l1.length c1, .slice A2 l2.length c2] w fun e w' => e = .returned (.bool r) ∧ Below w.heap.size w w' := by
 have HR1 := Aside0.mk hr1
 have HC1 := Aside0.mk hc1
 clear hr1 hc1
 have HR2 := Aside0.mk hr2
 have HC2 := Aside0.mk hc2
 clear hr2 hc2
 have HB := Aside0.mk (Below.refl w.heap.size w)
 unfold impl_CodeFits.f at h
 have H := h
 clear h
 replace H := Option.bind_eq_some_iff.mp H
 obtain ⟨t337, A40, H⟩ := H
 have A4 := Aside0.mk A40
 clear A40
 by_cases c5 : t337 = true
 ·subst c5
  rw [if_pos rfl] at H
  replace H := Option.bind_eq_some_iff.mp H
  obtain ⟨t338, A60, H⟩ := H
  have A6 := Aside0.mk A60
  clear A60
  by_cases c7 : t338 = true
  ·subst c7
   rw [if_pos rfl] at H
   by_cases c8 : (l2.length : Int) = 8
   ·rw [if_pos c8] at H
    have c8b0 : ((l2.length : Int) == 8) = true := beq_iff_eq.mpr c8
    have c8b1 : ((l2.length : Int) != 8) = false := bne_eq_false_iff_eq.mpr c8
    clear c8
    replace H := Option.bind_eq_some_iff.mp H
    obtain ⟨t339, A90, H⟩ := H
    have A9 := Aside0.mk A90
    clear A90
    replace H := Option.bind_eq_some_iff.mp H
    obtain ⟨t342, A100, H⟩ := H
    have A10 := Aside0.mk A100
    clear A100
    obtain rfl := Option.some.inj H
    go_enter Try.func45, Try.ntmps45
    go_wp2_with (first | ((with_reducible refine gate_callee (f := 68) rfl ?_); refine goesL_ (some 8) rfl rfl Try.func68 (by kernel_rfl) rfl #[.int .i64 a0] rfl z8_1 ?_; (with_reducible refine (impl_kindOk.calls a0 true _ A4.out).mono ?_); rintro e w' ⟨rfl, ⟨nd, rfl⟩⟩; refine ⟨_, rfl, ?_⟩) | (go_at_call 83; (with_reducible refine (impl_valsOk.calls _ _ l1 true _ ?side1 ?side2 A6.out).mono ?_); (case side1 => exact cZ (HR1.out)); (case side2 => exact HC1.out); rintro e w' ⟨rfl, ⟨nd, rfl⟩⟩) | (go_at_call 70; (with_reducible refine (impl_flagged.calls k _ _ l2 t339 _ ?side1 ?side2 A9.out).mono ?_); (case side1 => exact cZ (HR2.out)); (case side2 => exact HC2.out); rintro e w11 ⟨v340, rfl, ho0, hb⟩; have HO341 := Aside0.mk (Kd.R_lower ho0 (below_size z8_2)); replace HB := Aside0.mk (below_step z8_2 hb); (try clear hb); (try clear ho0); obtain ⟨Ao12, co12, eo12⟩ := Kd.R_slice HO341.out; subst eo12) | (go_at_call 84; (with_reducible refine (impl_fits.calls k a0 _ _ l1 _ _ t339 t342 _ ?side1 ?side2 ?side3 ?side4 A10.out).mono ?_); (case side1 => exact cZ ((Kd.C_below HR1.out HB.out))); (case side2 => exact HC1.out); (case side3 => exact cZ ((Kd.R_reads' HO341.out).2.2)); (case side4 => exact (Kd.R_reads' HO341.out).2.1); rintro e w13 ⟨rfl, hb⟩; replace HO341 := Aside0.mk (Kd.R_below (by (with_reducible repeat (first | apply Kd.R_alloc | apply Kd.R_drewN | apply Kd.R_drew)); exact HO341.out) hb); replace HB := Aside0.mk (below_step z8_2 hb); (try clear hb)))
    go_ret; exact ⟨z8_4, z8_2⟩
   ·rw [if_neg c8] at H
    have c8b0 : ((l2.length : Int) == 8) = false := beq_eq_false_iff_ne.mpr c8
    have c8b1 : ((l2.length : Int) != 8) = true := bne_iff_ne.mpr c8
    obtain rfl := Option.some.inj H
    go_enter Try.func45, Try.ntmps45
    go_wp2_with (first | ((with_reducible refine gate_callee (f := 68) rfl ?_); refine goesL_ (some 8) rfl rfl Try.func68 (by kernel_rfl) rfl #[.int .i64 a0] rfl z8_1 ?_; (with_reducible refine (impl_kindOk.calls a0 true _ A4.out).mono ?_); rintro e w' ⟨rfl, ⟨nd, rfl⟩⟩; refine ⟨_, rfl, ?_⟩) | (go_at_call 83; (with_reducible refine (impl_valsOk.calls _ _ l1 true _ ?side1 ?side2 A6.out).mono ?_); (case side1 => exact cZ (HR1.out)); (case side2 => exact HC1.out); rintro e w' ⟨rfl, ⟨nd, rfl⟩⟩))
    go_ret; exact ⟨z8_4, z8_2⟩
  ·replace c7 := Bool.eq_false_iff.mpr c7
   subst c7; rw [if_neg (show ¬ (false = true) by decide)] at H
   obtain rfl := Option.some.inj H
   go_enter Try.func45, Try.ntmps45
   go_wp2_with (first | ((with_reducible refine gate_callee (f := 68) rfl ?_); refine goesL_ (some 8) rfl rfl Try.func68 (by kernel_rfl) rfl #[.int .i64 a0] rfl z8_1 ?_; (with_reducible refine (impl_kindOk.calls a0 true _ A4.out).mono ?_); rintro e w' ⟨rfl, ⟨nd, rfl⟩⟩; refine ⟨_, rfl, ?_⟩) | (go_at_call 83; (with_reducible refine (impl_valsOk.calls _ _ l1 false _ ?side1 ?side2 A6.out).mono ?_); (case side1 => exact cZ (HR1.out)); (case side2 => exact HC1.out); rintro e w' ⟨rfl, ⟨nd, rfl⟩⟩))
   go_ret; exact ⟨z8_4, z8_2⟩
 ·replace c5 := Bool.eq_false_iff.mpr c5
  subst c5; rw [if_neg (show ¬ (false = true) by decide)] at H
  obtain rfl := Option.some.inj H
  go_enter Try.func45, Try.ntmps45
  go_wp2_with (first | ((with_reducible refine gate_callee (f := 68) rfl ?_); refine goesL_ (some 8) rfl rfl Try.func68 (by kernel_rfl) rfl #[.int .i64 a0] rfl z8_1 ?_; (with_reducible refine (impl_kindOk.calls a0 false _ A4.out).mono ?_); rintro e w' ⟨rfl, ⟨nd, rfl⟩⟩; refine ⟨_, rfl, ?_⟩))
  go_ret; exact ⟨z8_4, z8_2⟩

/-! ### spec_l6In: function 105 -/
def spec_l6In.f (a0 : Int) (a1 : Int) (a2 : Int) : Option (Bool) := if a0 ≥ a1 then (some (decide (a0 ≤ a2))) else (some false)
set_option maxHeartbeats 8000000 in
set_option maxRecDepth 100000 in
theorem spec_l6In.calls (a0 : Int) (a1 : Int) (a2 : Int) (r : Bool) (w : World) (h : spec_l6In.f a0 a1 a2 = some r) :
  Calls Try.prog 105 #[.int .i64 a0, .int .i64 a1, .int .i64 a2] w fun e w' => e = .returned (.bool r) ∧ Drawn0 w w' := by
 unfold spec_l6In.f at h
 have H := h
 clear h
 by_cases c4 : a0 ≥ a1
 ·rw [if_pos c4] at H
  have c4b0 : decide (a1 ≤ a0) = true := decide_eq_true c4; clear c4
  obtain rfl := Option.some.inj H
  go_enter Try.func105, Try.ntmps105
  go_wp2
  go_ret; exact ⟨z8_6, z8_7⟩
 ·rw [if_neg c4] at H
  have c4b0 : decide (a1 ≤ a0) = false := decide_eq_false c4; clear c4
  obtain rfl := Option.some.inj H
  go_enter Try.func105, Try.ntmps105
  go_wp2
  go_ret; exact ⟨z8_6, z8_7⟩

/-! ### spec_l4Kind: function 66 -/
def spec_l4Kind.f (a0 : Int) : Option (Bool) := (spec_l6In.f a0 1 2).bind fun t343 => (some t343)
set_option maxHeartbeats 8000000 in
set_option maxRecDepth 100000 in
theorem spec_l4Kind.calls (a0 : Int) (r : Bool) (w : World) (h : spec_l4Kind.f a0 = some r) :
  Calls Try.prog 66 #[.int .i64 a0] w fun e w' => e = .returned (.bool r) ∧ Drawn0 w w' := by
 unfold spec_l4Kind.f at h
 have H := h
 clear h
 replace H := Option.bind_eq_some_iff.mp H
 obtain ⟨t343, A20, H⟩ := H
 have A2 := Aside0.mk A20
 clear A20
 obtain rfl := Option.some.inj H
 go_enter Try.func66, Try.ntmps66
 go_wp2_with (first | ((with_reducible refine gate_callee (f := 105) rfl ?_); refine goesL_ (some 4) rfl rfl Try.func105 (by kernel_rfl) rfl #[.int .i64 a0, .int .i64 1, .int .i64 2] rfl z8_1 ?_; (with_reducible refine (spec_l6In.calls a0 1 2 t343 _ A2.out).mono ?_); rintro e w' ⟨rfl, ⟨nd, rfl⟩⟩; refine ⟨_, rfl, ?_⟩))
 go_ret
 exact ⟨z8_6, z8_7⟩

/-! ### spec_FieldOk: function 97 -/
def spec_FieldOk.f (a0 : Int) : Option (Bool) := (spec_l6In.f a0 0 30).bind fun t344 => (some t344)
set_option maxHeartbeats 8000000 in
set_option maxRecDepth 100000 in
theorem spec_FieldOk.calls (a0 : Int) (r : Bool) (w : World) (h : spec_FieldOk.f a0 = some r) :
  Calls Try.prog 97 #[.int .i64 a0] w fun e w' => e = .returned (.bool r) ∧ Drawn0 w w' := by
 unfold spec_FieldOk.f at h
 have H := h
 clear h
 replace H := Option.bind_eq_some_iff.mp H
 obtain ⟨t344, A20, H⟩ := H
 have A2 := Aside0.mk A20
 clear A20
 obtain rfl := Option.some.inj H
 go_enter Try.func97, Try.ntmps97
 go_wp2_with (first | ((with_reducible refine gate_callee (f := 105) rfl ?_); refine goesL_ (some 4) rfl rfl Try.func105 (by kernel_rfl) rfl #[.int .i64 a0, .int .i64 0, .int .i64 30] rfl z8_1 ?_; (with_reducible refine (spec_l6In.calls a0 0 30 t344 _ A2.out).mono ?_); rintro e w' ⟨rfl, ⟨nd, rfl⟩⟩; refine ⟨_, rfl, ?_⟩))
 go_ret
 exact ⟨z8_6, z8_7⟩

end Go.Proofs.Ytamaejafddmagaa.PA
namespace Go.Proofs.Ytamaejafddmagaa.PA
open Go.RowKit Go.Proofs.YtamaejafddmagaaW.PrintWords Go.Proofs.YtamaejafddmagaaW.PrintLast Go.Proofs.YtamaejafddmagaaW.PrintMore
attribute [local go_sem] max2_int min2_int max_two min_two max_three min_three max_four min_four   -- for this text's walks alone
set_option linter.unusedVariables false
set_option linter.unusedSimpArgs false

/-! ### spec_l4Vals: function 85 -/
theorem z9_0 {p : Prop} (h : p := by repeat (first | (with_reducible first | exact HB.out | apply below_alloc | apply pw_below_drewN | apply below_drew1) | exact HB.out)) : p := h
theorem z9_1 {p : Prop} (h : p := by (with_reducible repeat (first | apply Kd.R_alloc | apply Kd.R_drewN | apply Kd.R_drew)); exact HO349.out) : p := h
theorem z9_2 {p : Prop} (h : p := by (with_reducible repeat (first | apply Kd.R_alloc | apply Kd.R_drewN | apply Kd.R_drew)); exact HO352.out) : p := h
theorem z9_3 {p : Prop} (h : p := by (with_reducible repeat (first | apply Kd.R_alloc | apply Kd.R_drewN | apply Kd.R_drew)); exact HO355.out) : p := h
theorem z9_4 {p : Prop} (h : p := by (with_reducible repeat (first | apply Kd.R_alloc | apply Kd.R_drewN | apply Kd.R_drew)); exact HO358.out) : p := h
theorem z9_5 {p : Prop} (h : p := by (with_reducible repeat (first | apply Kd.R_alloc | apply Kd.R_drewN | apply Kd.R_drew)); exact HO361.out) : p := h
theorem z9_6 {p : Prop} (h : p := by first | (with_reducible assumption) | assumption) : p := h
theorem z9_7 {p : Prop} (h : p := by (with_reducible repeat (first | apply Kd.R_alloc | apply Kd.R_drewN | apply Kd.R_drew)); exact HO364.out) : p := h
theorem z9_8 {p : Prop} (h : p := by first | rfl | (simp; done) | (simp [*]; done)) : p := h
theorem z9_9 {p : Prop} (h : p := by repeat (first | exact Drawn0.refl _ | apply Drawn0.step)) : p := h
theorem z9_10 {p : Prop} (h : p := by first | rfl | (simp [errW_none, errW_some] <;> rfl) | (simp [*, errW_none, errW_some] <;> rfl)) : p := h
theorem z9_11 {p : Prop} (h : p := by (try simp only [List.map_toArray, List.map_cons, List.map_nil]); first | done | rfl | (simp only [List.length_drop, List.length_take]; rfl)) : p := h
def spec_l4Vals.l0 : Nat → List Int → List Bool → Int → Option (Bool)
  | 0, _, _, _ => none
  | k + 1, x0, x1, x5 => if x5 < (x0.length : Int) then (if 0 ≤ x5 then ((spec_FieldOk.f (rd x0 x5)).bind fun t346 => (if t346 = true then (spec_l4Vals.l0 k x0 x1 (wrap64 (x5 + 1))) else (some false))) else (none)) else (if (x0.length : Int) = 8 then (some ((x1.length : Int) == 8)) else (some false))
def spec_l4Vals.f (k : Nat) (l0 : List Int) (l1 : List Bool) : Option (Bool) := spec_l4Vals.l0 k l0 l1 0
set_option maxHeartbeats 8000000 in
set_option maxRecDepth 100000 in
theorem spec_l4Vals.calls (k : Nat) (A0 : Option Addr) (c0 : Nat) (l0 : List Int) (A1 : Option Addr) (c1 : Nat) (l1 : List Bool) (r : Bool) (w : World) (hr0 : Kd.C (Kd.int .i64) w A0 l0.length l0) (hc0 : l0.length ≤ c0) (hr1 : Kd.C Kd.bool w A1 l1.length l1) (hc1 : l1.length ≤ c1) (h : spec_l4Vals.f k l0 l1 = some r) :
  Calls Try.prog 85 #[.slice A0 l0.length c0, .slice A1 l1.length c1] w fun e w' => e = .returned (.bool r) ∧ Drawn0 w w' := by
 have HR0 := Aside0.mk hr0
 have HC0 := Aside0.mk hc0
 clear hr0 hc0
 have HR1 := Aside0.mk hr1
 have HC1 := Aside0.mk hc1
 clear hr1 hc1
 unfold spec_l4Vals.f at h
 have H := h
 clear h
 have H' := Aside0.mk H
 clear H
 go_enter Try.func85, Try.ntmps85
 go_wp2
 go_loopg [5] k (fun kq v5 w' => ∃ (x5_1 : Int), v5 = .int .i64 x5_1 ∧ Aside0 (spec_l4Vals.l0 kq l0 l1 x5_1 = some r) ∧ Aside0 (kq ≤ k) ∧ Drawn0 w w')
 case atStart => exact ⟨(0), z9_8, H', ⟨Nat.le_refl _⟩, z9_9⟩
 case round =>
  clear H'
  try clear c1
  obtain ⟨x5_1, rfl, HA, HK1, ⟨m1, rfl⟩⟩ := hrel
  cases gk with
  | zero => exact absurd HA.out (by simp [spec_l4Vals.l0])
  | succ k1 =>
   have H := HA.out
   clear HA; simp only [spec_l4Vals.l0] at H
   by_cases c3 : x5_1 < (l0.length : Int)
   ·rw [if_pos c3] at H
    have c3b0 : decide (x5_1 < (l0.length : Int)) = true := decide_eq_true c3; clear c3; obtain ⟨c4, H⟩ := ifP H; have c4b0 : decide (0 ≤ x5_1) = true := decide_eq_true c4; clear c4
    replace H := Option.bind_eq_some_iff.mp H
    obtain ⟨t346, A50, H⟩ := H
    have A5 := Aside0.mk A50
    clear A50
    by_cases c6 : t346 = true
    ·subst c6
     rw [if_pos rfl] at H
     have H' := Aside0.mk H
     clear H; have p345 : 0 ≤ (x5_1 : Int) := of_decide_eq_true z9_6; have q345 : x5_1 < (l0.length : Int) := of_decide_eq_true z9_6; obtain ⟨ad345, e345, hx345_0⟩ := Kd.at_int HR0.out x5_1 p345 q345; cases e345
     replace p345 := eq_true p345
     replace q345 := eq_true q345
     go_wp2_with (first | ((with_reducible refine gate_callee (f := 97) rfl ?_); refine goesL_ (some 16) rfl rfl Try.func97 (by kernel_rfl) rfl #[.int .i64 (rd l0 x5_1)] rfl z9_11 ?_; (with_reducible refine (spec_FieldOk.calls (rd l0 x5_1) true _ A5.out).mono ?_); rintro e w' ⟨rfl, ⟨nd, rfl⟩⟩; refine ⟨_, rfl, ?_⟩))
     go_roundg k1
     case measure => have := HK1.out; omega
     case rel => exact ⟨(wrap64 (x5_1 + 1)), z9_8, H', ⟨by have := HK1.out; omega⟩, z9_9⟩
    ·replace c6 := Bool.eq_false_iff.mpr c6
     subst c6; rw [if_neg (show ¬ (false = true) by decide)] at H
     obtain rfl := Option.some.inj H
     have p345 : 0 ≤ (x5_1 : Int) := of_decide_eq_true z9_6; have q345 : x5_1 < (l0.length : Int) := of_decide_eq_true z9_6; obtain ⟨ad345, e345, hx345_0⟩ := Kd.at_int HR0.out x5_1 p345 q345; cases e345
     replace p345 := eq_true p345
     replace q345 := eq_true q345
     go_wp2_with (first | ((with_reducible refine gate_callee (f := 97) rfl ?_); refine goesL_ (some 16) rfl rfl Try.func97 (by kernel_rfl) rfl #[.int .i64 (rd l0 x5_1)] rfl z9_11 ?_; (with_reducible refine (spec_FieldOk.calls (rd l0 x5_1) false _ A5.out).mono ?_); rintro e w' ⟨rfl, ⟨nd, rfl⟩⟩; refine ⟨_, rfl, ?_⟩))
     go_ret; exact ⟨z9_8, z9_9⟩
   ·rw [if_neg c3] at H
    have c3b0 : decide (x5_1 < (l0.length : Int)) = false := decide_eq_false c3; clear c3
    by_cases c7 : (l0.length : Int) = 8
    ·rw [if_pos c7] at H
     have c7b0 : ((l0.length : Int) == 8) = true := beq_iff_eq.mpr c7
     have c7b1 : ((l0.length : Int) != 8) = false := bne_eq_false_iff_eq.mpr c7
     clear c7
     obtain rfl := Option.some.inj H
     go_wp2
     go_ret; exact ⟨z9_8, z9_9⟩
    ·rw [if_neg c7] at H
     have c7b0 : ((l0.length : Int) == 8) = false := beq_eq_false_iff_ne.mpr c7
     have c7b1 : ((l0.length : Int) != 8) = true := bne_iff_ne.mpr c7
     obtain rfl := Option.some.inj H
     go_wp2
     go_ret; exact ⟨z9_8, z9_9⟩

/-! ### spec_l4Row: function 106 -/
def spec_l4Row.f (a0 : Int) (a1 : Int) : Option (List Int) := if a0 = 1 then ((some (([(([1, 0, 0, 0] : List Int)), (([0, 1, 0, 0] : List Int)), (([0, 0, 1, 0] : List Int)), (([0, 0, 0, 1] : List Int)), (([1, 1, 0, 0] : List Int)), (([0, 0, 1, 1] : List Int)), (([1, 2, 4, 8] : List Int)), (([1, 3, 9, 27] : List Int))] : List (List Int)) : List (List Int))).bind fun y371 => (if 0 ≤ a1 then (if a1 < (y371.length : Int) then (some (rd_L5 y371 a1)) else (none)) else (none))) else (some (([1, wrap64 (a1 + 1), Int.tmod (wrap64 ((wrap64 (a1 + 1)) * (wrap64 (a1 + 1)))) 31, Int.tmod (wrap64 ((wrap64 ((wrap64 (a1 + 1)) * (wrap64 (a1 + 1)))) * (wrap64 (a1 + 1)))) 31] : List Int)))
set_option maxHeartbeats 8000000 in
set_option maxRecDepth 100000 in
theorem spec_l4Row.calls (a0 : Int) (a1 : Int) (r : List Int) (w : World) (h : spec_l4Row.f a0 a1 = some r) :
  Calls Try.prog 106 #[.int .i64 a0, .int .i64 a1] w fun e w' => ∃ v0_ : Value, e = .returned (v0_) ∧ Kd.V (Kd.int .i64) 3 w' w.heap.size (fun k_ => (w.heap.size ≤ k_)) v0_ r ∧ Below w.heap.size w w' := by
 have HB := Aside0.mk (Below.refl w.heap.size w)
 unfold spec_l4Row.f at h
 have H := h
 clear h
 by_cases c3 : a0 = 1
 ·rw [if_pos c3] at H
  have c3b0 : (a0 == 1) = true := beq_iff_eq.mpr c3
  have c3b1 : (a0 != 1) = false := bne_eq_false_iff_eq.mpr c3
  clear c3
  obtain ⟨y347, hy347⟩ : ∃ y_ : List Int, y_ = (([1, 0, 0, 0] : List Int)) := ⟨_, rfl⟩
  replace H : ((some (([y347, (([0, 1, 0, 0] : List Int)), (([0, 0, 1, 0] : List Int)), (([0, 0, 0, 1] : List Int)), (([1, 1, 0, 0] : List Int)), (([0, 0, 1, 1] : List Int)), (([1, 2, 4, 8] : List Int)), (([1, 3, 9, 27] : List Int))] : List (List Int)) : List (List Int))).bind fun y371 => (if 0 ≤ a1 then (if a1 < (y371.length : Int) then (some (rd_L5 y371 a1)) else (none)) else (none))) = some r := yZZ_ hy347 H
  have Ny347 := Aside0.mk hy347
  clear hy347
  obtain ⟨y350, hy350⟩ : ∃ y_ : List Int, y_ = (([0, 1, 0, 0] : List Int)) := ⟨_, rfl⟩
  replace H : ((some (([y347, y350, (([0, 0, 1, 0] : List Int)), (([0, 0, 0, 1] : List Int)), (([1, 1, 0, 0] : List Int)), (([0, 0, 1, 1] : List Int)), (([1, 2, 4, 8] : List Int)), (([1, 3, 9, 27] : List Int))] : List (List Int)) : List (List Int))).bind fun y371 => (if 0 ≤ a1 then (if a1 < (y371.length : Int) then (some (rd_L5 y371 a1)) else (none)) else (none))) = some r := yZZ_ hy350 H
  have Ny350 := Aside0.mk hy350
  clear hy350
  obtain ⟨y353, hy353⟩ : ∃ y_ : List Int, y_ = (([0, 0, 1, 0] : List Int)) := ⟨_, rfl⟩
  replace H : ((some (([y347, y350, y353, (([0, 0, 0, 1] : List Int)), (([1, 1, 0, 0] : List Int)), (([0, 0, 1, 1] : List Int)), (([1, 2, 4, 8] : List Int)), (([1, 3, 9, 27] : List Int))] : List (List Int)) : List (List Int))).bind fun y371 => (if 0 ≤ a1 then (if a1 < (y371.length : Int) then (some (rd_L5 y371 a1)) else (none)) else (none))) = some r := yZZ_ hy353 H
  have Ny353 := Aside0.mk hy353
  clear hy353
  obtain ⟨y356, hy356⟩ : ∃ y_ : List Int, y_ = (([0, 0, 0, 1] : List Int)) := ⟨_, rfl⟩
  replace H : ((some (([y347, y350, y353, y356, (([1, 1, 0, 0] : List Int)), (([0, 0, 1, 1] : List Int)), (([1, 2, 4, 8] : List Int)), (([1, 3, 9, 27] : List Int))] : List (List Int)) : List (List Int))).bind fun y371 => (if 0 ≤ a1 then (if a1 < (y371.length : Int) then (some (rd_L5 y371 a1)) else (none)) else (none))) = some r := yZZ_ hy356 H
  have Ny356 := Aside0.mk hy356
  clear hy356
  obtain ⟨y359, hy359⟩ : ∃ y_ : List Int, y_ = (([1, 1, 0, 0] : List Int)) := ⟨_, rfl⟩
  replace H : ((some (([y347, y350, y353, y356, y359, (([0, 0, 1, 1] : List Int)), (([1, 2, 4, 8] : List Int)), (([1, 3, 9, 27] : List Int))] : List (List Int)) : List (List Int))).bind fun y371 => (if 0 ≤ a1 then (if a1 < (y371.length : Int) then (some (rd_L5 y371 a1)) else (none)) else (none))) = some r := yZZ_ hy359 H
  have Ny359 := Aside0.mk hy359
  clear hy359
  obtain ⟨y362, hy362⟩ : ∃ y_ : List Int, y_ = (([0, 0, 1, 1] : List Int)) := ⟨_, rfl⟩
  replace H : ((some (([y347, y350, y353, y356, y359, y362, (([1, 2, 4, 8] : List Int)), (([1, 3, 9, 27] : List Int))] : List (List Int)) : List (List Int))).bind fun y371 => (if 0 ≤ a1 then (if a1 < (y371.length : Int) then (some (rd_L5 y371 a1)) else (none)) else (none))) = some r := yZZ_ hy362 H
  have Ny362 := Aside0.mk hy362
  clear hy362
  obtain ⟨y365, hy365⟩ : ∃ y_ : List Int, y_ = (([1, 2, 4, 8] : List Int)) := ⟨_, rfl⟩
  replace H : ((some (([y347, y350, y353, y356, y359, y362, y365, (([1, 3, 9, 27] : List Int))] : List (List Int)) : List (List Int))).bind fun y371 => (if 0 ≤ a1 then (if a1 < (y371.length : Int) then (some (rd_L5 y371 a1)) else (none)) else (none))) = some r := yZZ_ hy365 H
  have Ny365 := Aside0.mk hy365
  clear hy365
  obtain ⟨y368, hy368⟩ : ∃ y_ : List Int, y_ = (([1, 3, 9, 27] : List Int)) := ⟨_, rfl⟩
  replace H : ((some (([y347, y350, y353, y356, y359, y362, y365, y368] : List (List Int)) : List (List Int))).bind fun y371 => (if 0 ≤ a1 then (if a1 < (y371.length : Int) then (some (rd_L5 y371 a1)) else (none)) else (none))) = some r := yZZ_ hy368 H
  have Ny368 := Aside0.mk hy368
  clear hy368
  obtain ⟨y371, hy371⟩ : ∃ y_ : List (List Int), y_ = (([y347, y350, y353, y356, y359, y362, y365, y368] : List (List Int))) := ⟨_, rfl⟩
  replace H : (if 0 ≤ a1 then (if a1 < (y371.length : Int) then (some (rd_L5 y371 a1)) else (none)) else (none)) = some r := yZZ_ hy371 H
  have Ny371 := Aside0.mk hy371
  clear hy371; obtain ⟨c4, H⟩ := ifP H; have c4b0 : decide (0 ≤ a1) = true := decide_eq_true c4; clear c4; obtain ⟨c5, H⟩ := ifP H; have c5b0 : decide (a1 < (y371.length : Int)) = true := decide_eq_true c5; clear c5
  obtain rfl := Option.some.inj H
  go_enter Try.func106, Try.ntmps106
  go_wp2_with (first | ((with_reducible refine gate_dst (N := 8) rfl ?_); refine Kd.R_lit (Kd.int .i64) _ 3 ?hg (N := 8) ?hd (xs := ([1, 0, 0, 0] : List Int)) (inner := [.int .i64 1, .int .i64 0, .int .i64 0, .int .i64 0]) (ok := fun _ => True) (okp := fun _ => True) ?hr ?hp (fun _ hk => hk) trivial (Below.refl _ _) (Nat.le_refl _) (by simp) ?_; (case hd => rfl); (case hg => rfl); (case hr => first | (go_simp; done) | (go_simp; rfl)); (case hp => exact (Reps.one (show Kd.M (Kd.int .i64) _ _ _ 1 [.int .i64 1] from rfl) (Reps.one (show Kd.M (Kd.int .i64) _ _ _ 0 [.int .i64 0] from rfl) (Reps.one (show Kd.M (Kd.int .i64) _ _ _ 0 [.int .i64 0] from rfl) (Reps.one (show Kd.M (Kd.int .i64) _ _ _ 0 [.int .i64 0] from rfl) (Reps.none _ _)))))); intro v348 w6 ho7 hb hg_ hnew_; clear hg_ hnew_; (first | rw [← Ny347.out] at ho7 | (simp only [Int.reduceToNat] at ho7; rw [← Ny347.out] at ho7)); have HO349 := Aside0.mk (Kd.R_lower (Kd.R_newM (M := fun k_ => (w.heap.size ≤ k_)) ho7 (below_size z9_0) (fun k_ h_ => h_)) (below_size z9_0)); replace HB := Aside0.mk (below_step z9_0 hb); clear hb ho7) | ((with_reducible refine gate_dst (N := 9) rfl ?_); refine Kd.R_lit (Kd.int .i64) _ 3 ?hg (N := 9) ?hd (xs := ([0, 1, 0, 0] : List Int)) (inner := [.int .i64 0, .int .i64 1, .int .i64 0, .int .i64 0]) (ok := fun _ => True) (okp := fun _ => True) ?hr ?hp (fun _ hk => hk) trivial (Below.refl _ _) (Nat.le_refl _) (by simp) ?_; (case hd => rfl); (case hg => rfl); (case hr => first | (go_simp; done) | (go_simp; rfl)); (case hp => exact (Reps.one (show Kd.M (Kd.int .i64) _ _ _ 0 [.int .i64 0] from rfl) (Reps.one (show Kd.M (Kd.int .i64) _ _ _ 1 [.int .i64 1] from rfl) (Reps.one (show Kd.M (Kd.int .i64) _ _ _ 0 [.int .i64 0] from rfl) (Reps.one (show Kd.M (Kd.int .i64) _ _ _ 0 [.int .i64 0] from rfl) (Reps.none _ _)))))); intro v351 w8 ho9 hb hg_ hnew_; clear hg_ hnew_; (first | rw [← Ny350.out] at ho9 | (simp only [Int.reduceToNat] at ho9; rw [← Ny350.out] at ho9)); have HO352 := Aside0.mk (Kd.R_lower (Kd.R_new' (Kd.R_newM (M := fun k_ => (w.heap.size ≤ k_)) ho9 (below_size z9_0) (fun k_ h_ => h_)) (Kd.R_lt z9_1)) (below_size z9_0)); replace HO349 := Aside0.mk (Kd.R_elder' z9_1 (Kd.R_base ho9) hb); replace HB := Aside0.mk (below_step z9_0 hb); clear hb ho9) | ((with_reducible refine gate_dst (N := 10) rfl ?_); refine Kd.R_lit (Kd.int .i64) _ 3 ?hg (N := 10) ?hd (xs := ([0, 0, 1, 0] : List Int)) (inner := [.int .i64 0, .int .i64 0, .int .i64 1, .int .i64 0]) (ok := fun _ => True) (okp := fun _ => True) ?hr ?hp (fun _ hk => hk) trivial (Below.refl _ _) (Nat.le_refl _) (by simp) ?_; (case hd => rfl); (case hg => rfl); (case hr => first | (go_simp; done) | (go_simp; rfl)); (case hp => exact (Reps.one (show Kd.M (Kd.int .i64) _ _ _ 0 [.int .i64 0] from rfl) (Reps.one (show Kd.M (Kd.int .i64) _ _ _ 0 [.int .i64 0] from rfl) (Reps.one (show Kd.M (Kd.int .i64) _ _ _ 1 [.int .i64 1] from rfl) (Reps.one (show Kd.M (Kd.int .i64) _ _ _ 0 [.int .i64 0] from rfl) (Reps.none _ _)))))); intro v354 w10 ho11 hb hg_ hnew_; clear hg_ hnew_; (first | rw [← Ny353.out] at ho11 | (simp only [Int.reduceToNat] at ho11; rw [← Ny353.out] at ho11)); have HO355 := Aside0.mk (Kd.R_lower (Kd.R_new' (Kd.R_new' (Kd.R_newM (M := fun k_ => (w.heap.size ≤ k_)) ho11 (below_size z9_0) (fun k_ h_ => h_)) (Kd.R_lt z9_1)) (Kd.R_lt z9_2)) (below_size z9_0)); replace HO349 := Aside0.mk (Kd.R_elder' z9_1 (Kd.R_base ho11) hb); replace HO352 := Aside0.mk (Kd.R_elder' z9_2 (Kd.R_base ho11) hb); replace HB := Aside0.mk (below_step z9_0 hb); clear hb ho11) | ((with_reducible refine gate_dst (N := 11) rfl ?_); refine Kd.R_lit (Kd.int .i64) _ 3 ?hg (N := 11) ?hd (xs := ([0, 0, 0, 1] : List Int)) (inner := [.int .i64 0, .int .i64 0, .int .i64 0, .int .i64 1]) (ok := fun _ => True) (okp := fun _ => True) ?hr ?hp (fun _ hk => hk) trivial (Below.refl _ _) (Nat.le_refl _) (by simp) ?_; (case hd => rfl); (case hg => rfl); (case hr => first | (go_simp; done) | (go_simp; rfl)); (case hp => exact (Reps.one (show Kd.M (Kd.int .i64) _ _ _ 0 [.int .i64 0] from rfl) (Reps.one (show Kd.M (Kd.int .i64) _ _ _ 0 [.int .i64 0] from rfl) (Reps.one (show Kd.M (Kd.int .i64) _ _ _ 0 [.int .i64 0] from rfl) (Reps.one (show Kd.M (Kd.int .i64) _ _ _ 1 [.int .i64 1] from rfl) (Reps.none _ _)))))); intro v357 w12 ho13 hb hg_ hnew_; clear hg_ hnew_; (first | rw [← Ny356.out] at ho13 | (simp only [Int.reduceToNat] at ho13; rw [← Ny356.out] at ho13)); have HO358 := Aside0.mk (Kd.R_lower (Kd.R_new' (Kd.R_new' (Kd.R_new' (Kd.R_newM (M := fun k_ => (w.heap.size ≤ k_)) ho13 (below_size z9_0) (fun k_ h_ => h_)) (Kd.R_lt z9_1)) (Kd.R_lt z9_2)) (Kd.R_lt z9_3)) (below_size z9_0)); replace HO349 := Aside0.mk (Kd.R_elder' z9_1 (Kd.R_base ho13) hb); replace HO352 := Aside0.mk (Kd.R_elder' z9_2 (Kd.R_base ho13) hb); replace HO355 := Aside0.mk (Kd.R_elder' z9_3 (Kd.R_base ho13) hb); replace HB := Aside0.mk (below_step z9_0 hb); clear hb ho13) | ((with_reducible refine gate_dst (N := 12) rfl ?_); refine Kd.R_lit (Kd.int .i64) _ 3 ?hg (N := 12) ?hd (xs := ([1, 1, 0, 0] : List Int)) (inner := [.int .i64 1, .int .i64 1, .int .i64 0, .int .i64 0]) (ok := fun _ => True) (okp := fun _ => True) ?hr ?hp (fun _ hk => hk) trivial (Below.refl _ _) (Nat.le_refl _) (by simp) ?_; (case hd => rfl); (case hg => rfl); (case hr => first | (go_simp; done) | (go_simp; rfl)); (case hp => exact (Reps.one (show Kd.M (Kd.int .i64) _ _ _ 1 [.int .i64 1] from rfl) (Reps.one (show Kd.M (Kd.int .i64) _ _ _ 1 [.int .i64 1] from rfl) (Reps.one (show Kd.M (Kd.int .i64) _ _ _ 0 [.int .i64 0] from rfl) (Reps.one (show Kd.M (Kd.int .i64) _ _ _ 0 [.int .i64 0] from rfl) (Reps.none _ _)))))); intro v360 w14 ho15 hb hg_ hnew_; clear hg_ hnew_; (first | rw [← Ny359.out] at ho15 | (simp only [Int.reduceToNat] at ho15; rw [← Ny359.out] at ho15)); have HO361 := Aside0.mk (Kd.R_lower (Kd.R_new' (Kd.R_new' (Kd.R_new' (Kd.R_new' (Kd.R_newM (M := fun k_ => (w.heap.size ≤ k_)) ho15 (below_size z9_0) (fun k_ h_ => h_)) (Kd.R_lt z9_1)) (Kd.R_lt z9_2)) (Kd.R_lt z9_3)) (Kd.R_lt z9_4)) (below_size z9_0)); replace HO349 := Aside0.mk (Kd.R_elder' z9_1 (Kd.R_base ho15) hb); replace HO352 := Aside0.mk (Kd.R_elder' z9_2 (Kd.R_base ho15) hb); replace HO355 := Aside0.mk (Kd.R_elder' z9_3 (Kd.R_base ho15) hb); replace HO358 := Aside0.mk (Kd.R_elder' z9_4 (Kd.R_base ho15) hb); replace HB := Aside0.mk (below_step z9_0 hb); clear hb ho15) | ((with_reducible refine gate_dst (N := 13) rfl ?_); refine Kd.R_lit (Kd.int .i64) _ 3 ?hg (N := 13) ?hd (xs := ([0, 0, 1, 1] : List Int)) (inner := [.int .i64 0, .int .i64 0, .int .i64 1, .int .i64 1]) (ok := fun _ => True) (okp := fun _ => True) ?hr ?hp (fun _ hk => hk) trivial (Below.refl _ _) (Nat.le_refl _) (by simp) ?_; (case hd => rfl); (case hg => rfl); (case hr => first | (go_simp; done) | (go_simp; rfl)); (case hp => exact (Reps.one (show Kd.M (Kd.int .i64) _ _ _ 0 [.int .i64 0] from rfl) (Reps.one (show Kd.M (Kd.int .i64) _ _ _ 0 [.int .i64 0] from rfl) (Reps.one (show Kd.M (Kd.int .i64) _ _ _ 1 [.int .i64 1] from rfl) (Reps.one (show Kd.M (Kd.int .i64) _ _ _ 1 [.int .i64 1] from rfl) (Reps.none _ _)))))); intro v363 w16 ho17 hb hg_ hnew_; clear hg_ hnew_; (first | rw [← Ny362.out] at ho17 | (simp only [Int.reduceToNat] at ho17; rw [← Ny362.out] at ho17)); have HO364 := Aside0.mk (Kd.R_lower (Kd.R_new' (Kd.R_new' (Kd.R_new' (Kd.R_new' (Kd.R_new' (Kd.R_newM (M := fun k_ => (w.heap.size ≤ k_)) ho17 (below_size z9_0) (fun k_ h_ => h_)) (Kd.R_lt z9_1)) (Kd.R_lt z9_2)) (Kd.R_lt z9_3)) (Kd.R_lt z9_4)) (Kd.R_lt z9_5)) (below_size z9_0)); replace HO349 := Aside0.mk (Kd.R_elder' z9_1 (Kd.R_base ho17) hb); replace HO352 := Aside0.mk (Kd.R_elder' z9_2 (Kd.R_base ho17) hb); replace HO355 := Aside0.mk (Kd.R_elder' z9_3 (Kd.R_base ho17) hb); replace HO358 := Aside0.mk (Kd.R_elder' z9_4 (Kd.R_base ho17) hb); replace HO361 := Aside0.mk (Kd.R_elder' z9_5 (Kd.R_base ho17) hb); replace HB := Aside0.mk (below_step z9_0 hb); clear hb ho17) | ((with_reducible refine gate_dst (N := 14) rfl ?_); refine Kd.R_lit (Kd.int .i64) _ 3 ?hg (N := 14) ?hd (xs := ([1, 2, 4, 8] : List Int)) (inner := [.int .i64 1, .int .i64 2, .int .i64 4, .int .i64 8]) (ok := fun _ => True) (okp := fun _ => True) ?hr ?hp (fun _ hk => hk) trivial (Below.refl _ _) (Nat.le_refl _) (by simp) ?_; (case hd => rfl); (case hg => rfl); (case hr => first | (go_simp; done) | (go_simp; rfl)); (case hp => exact (Reps.one (show Kd.M (Kd.int .i64) _ _ _ 1 [.int .i64 1] from rfl) (Reps.one (show Kd.M (Kd.int .i64) _ _ _ 2 [.int .i64 2] from rfl) (Reps.one (show Kd.M (Kd.int .i64) _ _ _ 4 [.int .i64 4] from rfl) (Reps.one (show Kd.M (Kd.int .i64) _ _ _ 8 [.int .i64 8] from rfl) (Reps.none _ _)))))); intro v366 w18 ho19 hb hg_ hnew_; clear hg_ hnew_; (first | rw [← Ny365.out] at ho19 | (simp only [Int.reduceToNat] at ho19; rw [← Ny365.out] at ho19)); have HO367 := Aside0.mk (Kd.R_lower (Kd.R_new' (Kd.R_new' (Kd.R_new' (Kd.R_new' (Kd.R_new' (Kd.R_new' (Kd.R_newM (M := fun k_ => (w.heap.size ≤ k_)) ho19 (below_size z9_0) (fun k_ h_ => h_)) (Kd.R_lt z9_1)) (Kd.R_lt z9_2)) (Kd.R_lt z9_3)) (Kd.R_lt z9_4)) (Kd.R_lt z9_5)) (Kd.R_lt z9_7)) (below_size z9_0)); replace HO349 := Aside0.mk (Kd.R_elder' z9_1 (Kd.R_base ho19) hb); replace HO352 := Aside0.mk (Kd.R_elder' z9_2 (Kd.R_base ho19) hb); replace HO355 := Aside0.mk (Kd.R_elder' z9_3 (Kd.R_base ho19) hb); replace HO358 := Aside0.mk (Kd.R_elder' z9_4 (Kd.R_base ho19) hb); replace HO361 := Aside0.mk (Kd.R_elder' z9_5 (Kd.R_base ho19) hb); replace HO364 := Aside0.mk (Kd.R_elder' z9_7 (Kd.R_base ho19) hb); replace HB := Aside0.mk (below_step z9_0 hb); clear hb ho19) | ((with_reducible refine gate_dst (N := 15) rfl ?_); refine Kd.R_lit (Kd.int .i64) _ 3 ?hg (N := 15) ?hd (xs := ([1, 3, 9, 27] : List Int)) (inner := [.int .i64 1, .int .i64 3, .int .i64 9, .int .i64 27]) (ok := fun _ => True) (okp := fun _ => True) ?hr ?hp (fun _ hk => hk) trivial (Below.refl _ _) (Nat.le_refl _) (by simp) ?_; (case hd => rfl); (case hg => rfl); (case hr => first | (go_simp; done) | (go_simp; rfl)); (case hp => exact (Reps.one (show Kd.M (Kd.int .i64) _ _ _ 1 [.int .i64 1] from rfl) (Reps.one (show Kd.M (Kd.int .i64) _ _ _ 3 [.int .i64 3] from rfl) (Reps.one (show Kd.M (Kd.int .i64) _ _ _ 9 [.int .i64 9] from rfl) (Reps.one (show Kd.M (Kd.int .i64) _ _ _ 27 [.int .i64 27] from rfl) (Reps.none _ _)))))); intro v369 w20 ho21 hb hg_ hnew_; clear hg_ hnew_; (first | rw [← Ny368.out] at ho21 | (simp only [Int.reduceToNat] at ho21; rw [← Ny368.out] at ho21)); have HO370 := Aside0.mk (Kd.R_lower (Kd.R_new' (Kd.R_new' (Kd.R_new' (Kd.R_new' (Kd.R_new' (Kd.R_new' (Kd.R_new' (Kd.R_newM (M := fun k_ => (w.heap.size ≤ k_)) ho21 (below_size z9_0) (fun k_ h_ => h_)) (Kd.R_lt z9_1)) (Kd.R_lt z9_2)) (Kd.R_lt z9_3)) (Kd.R_lt z9_4)) (Kd.R_lt z9_5)) (Kd.R_lt z9_7)) (Kd.R_lt (by (with_reducible repeat (first | apply Kd.R_alloc | apply Kd.R_drewN | apply Kd.R_drew)); exact HO367.out))) (below_size z9_0)); replace HO349 := Aside0.mk (Kd.R_elder' z9_1 (Kd.R_base ho21) hb); replace HO352 := Aside0.mk (Kd.R_elder' z9_2 (Kd.R_base ho21) hb); replace HO355 := Aside0.mk (Kd.R_elder' z9_3 (Kd.R_base ho21) hb); replace HO358 := Aside0.mk (Kd.R_elder' z9_4 (Kd.R_base ho21) hb); replace HO361 := Aside0.mk (Kd.R_elder' z9_5 (Kd.R_base ho21) hb); replace HO364 := Aside0.mk (Kd.R_elder' z9_7 (Kd.R_base ho21) hb); replace HO367 := Aside0.mk (Kd.R_elder' (by (with_reducible repeat (first | apply Kd.R_alloc | apply Kd.R_drewN | apply Kd.R_drew)); exact HO367.out) (Kd.R_base ho21) hb); replace HB := Aside0.mk (below_step z9_0 hb); clear hb ho21; obtain ⟨Ao22, co22, eo22⟩ := Kd.R_slice HO349.out; subst eo22; obtain ⟨Ao23, co23, eo23⟩ := Kd.R_slice HO352.out; subst eo23; obtain ⟨Ao24, co24, eo24⟩ := Kd.R_slice HO355.out; subst eo24; obtain ⟨Ao25, co25, eo25⟩ := Kd.R_slice HO358.out; subst eo25; obtain ⟨Ao26, co26, eo26⟩ := Kd.R_slice HO361.out; subst eo26; obtain ⟨Ao27, co27, eo27⟩ := Kd.R_slice HO364.out; subst eo27; obtain ⟨Ao28, co28, eo28⟩ := Kd.R_slice HO367.out; subst eo28; obtain ⟨Ao29, co29, eo29⟩ := Kd.R_slice HO370.out; subst eo29) | ((with_reducible refine gate_dst (N := 16) rfl ?_); refine Kd.N_lit (Kd.slice 3 (Kd.int .i64)) _ 28 ?hg (N' := 16) ?hd (xs := ([y347, y350, y353, y356, y359, y362, y365, y368] : List (List Int))) (inner := [.slice Ao22 y347.length co22, .slice Ao23 y350.length co23, .slice Ao24 y353.length co24, .slice Ao25 y356.length co25, .slice Ao26 y359.length co26, .slice Ao27 y362.length co27, .slice Ao28 y365.length co28, .slice Ao29 y368.length co29]) (ok := (fun k_ => (w.heap.size ≤ k_))) (okp := (fun k_ => (w.heap.size ≤ k_))) ?hr ?hp (fun _ hk => hk) ((show ∀ k_, w20.heap.size ≤ k_ → (fun k_ => (w.heap.size ≤ k_)) k_ from fun k_ hk => (Nat.le_trans (below_size z9_0) hk)) _ (Nat.le_refl _)) (Below.refl _ _) (Nat.le_refl _) (by simp) ?_; (case hd => rfl); (case hg => rfl); (case hr => first | (go_simp; done) | (go_simp; rfl)); (case hp => exact (Reps.one (show Kd.FK (Kd.slice 3 (Kd.int .i64)) _ _ y347 [.slice Ao22 y347.length co22] from (Kd.FK_slice_mk (Kd.R_reads' (Kd.R_mono (ok' := (fun k_ => (w.heap.size ≤ k_))) (HO349.out) (fun k_ hk => hk.1.1.1.1.1.1.1.1))).2.1 (Kd.R_F (Kd.R_mono (ok' := (fun k_ => (w.heap.size ≤ k_))) (HO349.out) (fun k_ hk => hk.1.1.1.1.1.1.1.1))))) (Reps.one (show Kd.FK (Kd.slice 3 (Kd.int .i64)) _ _ y350 [.slice Ao23 y350.length co23] from (Kd.FK_slice_mk (Kd.R_reads' (Kd.R_mono (ok' := (fun k_ => (w.heap.size ≤ k_))) (HO352.out) (fun k_ hk => hk.1.1.1.1.1.1.1.1))).2.1 (Kd.R_F (Kd.R_mono (ok' := (fun k_ => (w.heap.size ≤ k_))) (HO352.out) (fun k_ hk => hk.1.1.1.1.1.1.1.1))))) (Reps.one (show Kd.FK (Kd.slice 3 (Kd.int .i64)) _ _ y353 [.slice Ao24 y353.length co24] from (Kd.FK_slice_mk (Kd.R_reads' (Kd.R_mono (ok' := (fun k_ => (w.heap.size ≤ k_))) (HO355.out) (fun k_ hk => hk.1.1.1.1.1.1.1.1))).2.1 (Kd.R_F (Kd.R_mono (ok' := (fun k_ => (w.heap.size ≤ k_))) (HO355.out) (fun k_ hk => hk.1.1.1.1.1.1.1.1))))) (Reps.one (show Kd.FK (Kd.slice 3 (Kd.int .i64)) _ _ y356 [.slice Ao25 y356.length co25] from (Kd.FK_slice_mk (Kd.R_reads' (Kd.R_mono (ok' := (fun k_ => (w.heap.size ≤ k_))) (HO358.out) (fun k_ hk => hk.1.1.1.1.1.1.1.1))).2.1 (Kd.R_F (Kd.R_mono (ok' := (fun k_ => (w.heap.size ≤ k_))) (HO358.out) (fun k_ hk => hk.1.1.1.1.1.1.1.1))))) (Reps.one (show Kd.FK (Kd.slice 3 (Kd.int .i64)) _ _ y359 [.slice Ao26 y359.length co26] from (Kd.FK_slice_mk (Kd.R_reads' (Kd.R_mono (ok' := (fun k_ => (w.heap.size ≤ k_))) (HO361.out) (fun k_ hk => hk.1.1.1.1.1.1.1.1))).2.1 (Kd.R_F (Kd.R_mono (ok' := (fun k_ => (w.heap.size ≤ k_))) (HO361.out) (fun k_ hk => hk.1.1.1.1.1.1.1.1))))) (Reps.one (show Kd.FK (Kd.slice 3 (Kd.int .i64)) _ _ y362 [.slice Ao27 y362.length co27] from (Kd.FK_slice_mk (Kd.R_reads' (Kd.R_mono (ok' := (fun k_ => (w.heap.size ≤ k_))) (HO364.out) (fun k_ hk => hk.1.1.1.1.1.1.1.1))).2.1 (Kd.R_F (Kd.R_mono (ok' := (fun k_ => (w.heap.size ≤ k_))) (HO364.out) (fun k_ hk => hk.1.1.1.1.1.1.1.1))))) (Reps.one (show Kd.FK (Kd.slice 3 (Kd.int .i64)) _ _ y365 [.slice Ao28 y365.length co28] from (Kd.FK_slice_mk (Kd.R_reads' (Kd.R_mono (ok' := (fun k_ => (w.heap.size ≤ k_))) (HO367.out) (fun k_ hk => hk.1.1.1.1.1.1.1.1))).2.1 (Kd.R_F (Kd.R_mono (ok' := (fun k_ => (w.heap.size ≤ k_))) (HO367.out) (fun k_ hk => hk.1.1.1.1.1.1.1.1))))) (Reps.one (show Kd.FK (Kd.slice 3 (Kd.int .i64)) _ _ y368 [.slice Ao29 y368.length co29] from (Kd.FK_slice_mk (Kd.R_reads' (Kd.R_mono (ok' := (fun k_ => (w.heap.size ≤ k_))) (HO370.out) (fun k_ hk => hk.1.1.1.1.1.1.1.1))).2.1 (Kd.R_F (Kd.R_mono (ok' := (fun k_ => (w.heap.size ≤ k_))) (HO370.out) (fun k_ hk => hk.1.1.1.1.1.1.1.1))))) (Reps.none _ _)))))))))); intro v372 w30 ho31 hb hg_ hnew_; clear hg_ hnew_; (first | rw [← Ny371.out] at ho31 | (simp only [Int.reduceToNat] at ho31; rw [← Ny371.out] at ho31)); have n0_ := Aside0.mk (Kd.N_lower ho31 (below_size z9_0)); have n1_ := Aside0.mk (below_step z9_0 hb); clear HB; clear HO349; clear HO352; clear HO355; clear HO358; clear HO361; clear HO364; clear HO367; clear HO370; have HO373 := n0_; have HB := n1_; clear n0_ n1_; clear hb ho31; obtain ⟨Ao32, co32, eo32⟩ := Kd.N_slice HO373.out; subst eo32; have p374 : 0 ≤ (a1 : Int) := of_decide_eq_true z9_6; have q374 : a1 < (y371.length : Int) := of_decide_eq_true z9_6; obtain ⟨ad374, A374_0, c374_0, e374, hx374_0, hl374_0, hi374_0⟩ := at_L5 (Kd.N_reads' HO373.out).2.2 a1 p374 q374; cases e374; obtain ⟨ce374, hce374, hMe374, hcc374⟩ := Kd.N_get HO373.out [] a1 p374 (by first | exact q374 | exact of_decide_eq_true z9_6 | (have e_ := (Kd.N_reads' HO373.out).1; omega)); obtain ⟨ua374_0, uc374_0, rfl, ul374_0, ge374_0⟩ := Kd.FK_slice_open hMe374; have hv374_0 := hcc374 0 _ rfl; rw [Nat.add_zero, show ((Kd.slice 3 (Kd.int .i64))).sz = 1 from rfl, Nat.mul_one] at hv374_0; replace hv374_0 := Option.some.inj (hv374_0.symm.trans hx374_0); injection hv374_0 with hva_ hvn_ hvc_; rw [hva_] at ge374_0; rw [hvc_] at ul374_0; have HL374_0 := Aside0.mk (show Kd.V (Kd.int .i64) 3 _ w.heap.size _ _ (rd_L5 y371 a1) from Kd.V_mk ul374_0 ge374_0); clear hva_ hvn_ hvc_ ge374_0 ul374_0; clear hcc374 hce374; have HR374_0 := Aside0.mk hi374_0; have HC374_0 := Aside0.mk hl374_0; clear hi374_0 hl374_0; replace p374 := eq_true p374; replace q374 := eq_true q374))
  go_ret; exact ⟨_, z9_10, by (with_reducible repeat (first | apply Kd.V_alloc | apply Kd.V_drewN | apply Kd.V_drew)); exact Kd.V_mono HL374_0.out (fun _ hk => hk.1), z9_0⟩
 ·rw [if_neg c3] at H
  have c3b0 : (a0 == 1) = false := beq_eq_false_iff_ne.mpr c3
  have c3b1 : (a0 != 1) = true := bne_iff_ne.mpr c3
  obtain ⟨y375, hy375⟩ : ∃ y_ : List Int, y_ = (([1, wrap64 (a1 + 1), Int.tmod (wrap64 ((wrap64 (a1 + 1)) * (wrap64 (a1 + 1)))) 31, Int.tmod (wrap64 ((wrap64 ((wrap64 (a1 + 1)) * (wrap64 (a1 + 1)))) * (wrap64 (a1 + 1)))) 31] : List Int)) := ⟨_, rfl⟩
  replace H : (some y375) = some r := yZZ_ hy375 H
  have Ny375 := Aside0.mk hy375
  clear hy375
  obtain rfl := Option.some.inj H
  go_enter Try.func106, Try.ntmps106
  go_wp2_with (first | ((with_reducible refine gate_dst (N := 33) rfl ?_); refine Kd.R_lit (Kd.int .i64) _ 3 ?hg (N := 33) ?hd (xs := ([1, wrap64 (a1 + 1), Int.tmod (wrap64 ((wrap64 (a1 + 1)) * (wrap64 (a1 + 1)))) 31, Int.tmod (wrap64 ((wrap64 ((wrap64 (a1 + 1)) * (wrap64 (a1 + 1)))) * (wrap64 (a1 + 1)))) 31] : List Int)) (inner := [.int .i64 1, .int .i64 (wrap64 (a1 + 1)), .int .i64 (Int.tmod (wrap64 ((wrap64 (a1 + 1)) * (wrap64 (a1 + 1)))) 31), .int .i64 (Int.tmod (wrap64 ((wrap64 ((wrap64 (a1 + 1)) * (wrap64 (a1 + 1)))) * (wrap64 (a1 + 1)))) 31)]) (ok := fun _ => True) (okp := fun _ => True) ?hr ?hp (fun _ hk => hk) trivial (Below.refl _ _) (Nat.le_refl _) (by simp) ?_; (case hd => rfl); (case hg => rfl); (case hr => first | (go_simp; done) | (go_simp; rfl)); (case hp => exact (Reps.one (show Kd.M (Kd.int .i64) _ _ _ 1 [.int .i64 1] from rfl) (Reps.one (show Kd.M (Kd.int .i64) _ _ _ (wrap64 (a1 + 1)) [.int .i64 (wrap64 (a1 + 1))] from rfl) (Reps.one (show Kd.M (Kd.int .i64) _ _ _ (Int.tmod (wrap64 ((wrap64 (a1 + 1)) * (wrap64 (a1 + 1)))) 31) [.int .i64 (Int.tmod (wrap64 ((wrap64 (a1 + 1)) * (wrap64 (a1 + 1)))) 31)] from rfl) (Reps.one (show Kd.M (Kd.int .i64) _ _ _ (Int.tmod (wrap64 ((wrap64 ((wrap64 (a1 + 1)) * (wrap64 (a1 + 1)))) * (wrap64 (a1 + 1)))) 31) [.int .i64 (Int.tmod (wrap64 ((wrap64 ((wrap64 (a1 + 1)) * (wrap64 (a1 + 1)))) * (wrap64 (a1 + 1)))) 31)] from rfl) (Reps.none _ _)))))); intro v376 w33 ho34 hb hg_ hnew_; clear hg_ hnew_; (first | rw [← Ny375.out] at ho34 | (simp only [Int.reduceToNat] at ho34; rw [← Ny375.out] at ho34)); have HO377 := Aside0.mk (Kd.R_lower (Kd.R_newM (M := fun k_ => (w.heap.size ≤ k_)) ho34 (below_size z9_0) (fun k_ h_ => h_)) (below_size z9_0)); replace HB := Aside0.mk (below_step z9_0 hb); clear hb ho34))
  go_ret; exact ⟨_, z9_10, Kd.R_V (by (with_reducible repeat (first | apply Kd.R_alloc | apply Kd.R_drewN | apply Kd.R_drew)); exact Kd.R_mono HO377.out (fun _ hk => hk.1)), z9_0⟩

/-! ### spec_l2Scale: function 91 -/
def spec_l2Scale.l0 : Nat → List Int → Int → List Int → Int → Option (List Int)
  | 0, _, _, _, _ => none
  | k + 1, x0, x1, x5, x6 => if x6 < (x0.length : Int) then (if 0 ≤ x6 then (if x5.length < 17592186044416 then (spec_l2Scale.l0 k x0 x1 (x5 ++ [Int.tmod (wrap64 ((rd x0 x6) * x1)) 31]) (wrap64 (x6 + 1))) else (none)) else (none)) else (some x5)
def spec_l2Scale.f (k : Nat) (l0 : List Int) (a1 : Int) : Option (List Int) := spec_l2Scale.l0 k l0 a1 (([] : List Int)) 0
set_option maxHeartbeats 8000000 in
set_option maxRecDepth 100000 in
theorem spec_l2Scale.calls (k : Nat) (A0 : Option Addr) (c0 : Nat) (l0 : List Int) (a1 : Int) (r : List Int) (w : World) (hr0 : Kd.C (Kd.int .i64) w A0 l0.length l0) (hc0 : l0.length ≤ c0) (h : spec_l2Scale.f k l0 a1 = some r) :
  Calls Try.prog 91 #[.slice A0 l0.length c0, .int .i64 a1] w fun e w' => ∃ v0_ : Value, e = .returned (v0_) ∧ Kd.R (Kd.int .i64) 3 w' w.heap.size (fun _ => True) v0_ r ∧ Below w.heap.size w w' := by
 have HR0 := Aside0.mk hr0
 have HC0 := Aside0.mk hc0
 clear hr0 hc0
 have HB := Aside0.mk (Below.refl w.heap.size w)
 unfold spec_l2Scale.f at h
 have H := h
 clear h
 obtain ⟨y378, hy378⟩ : ∃ y_ : List Int, y_ = (([] : List Int)) := ⟨_, rfl⟩
 replace H : (spec_l2Scale.l0 k l0 a1 y378 0) = some r := yZZ_ hy378 H
 have Ny378 := Aside0.mk hy378
 clear hy378
 have H' := Aside0.mk H
 clear H
 go_enter Try.func91, Try.ntmps91
 go_wp2_with (first | ((with_reducible refine gate_dst (N := 7) rfl ?_); refine Kd.R_lit (Kd.int .i64) _ 3 ?hg (N := 7) ?hd (xs := ([] : List Int)) (inner := []) (ok := fun _ => True) (okp := fun _ => True) ?hr ?hp (fun _ hk => hk) trivial (Below.refl _ _) (Nat.le_refl _) (by simp) ?_; (case hd => rfl); (case hg => rfl); (case hr => first | (go_simp; done) | (go_simp; rfl)); (case hp => exact (Reps.none _ _)); intro v379 w3 ho4 hb hg_ hnew_; clear hg_ hnew_; (first | rw [← Ny378.out] at ho4 | (simp only [Int.reduceToNat] at ho4; rw [← Ny378.out] at ho4)); have HO380 := Aside0.mk (Kd.R_lower ho4 (below_size z9_0)); replace HB := Aside0.mk (below_step z9_0 hb); clear hb ho4))
 go_loopg [5, 6] k (fun kq v5 v6 w' => ∃ (x5_1 : List Int) (x6_1 : Int), v6 = .int .i64 x6_1 ∧ Aside0 (spec_l2Scale.l0 kq l0 a1 x5_1 x6_1 = some r) ∧ Aside0 (kq ≤ k) ∧ Aside0 (Kd.R (Kd.int .i64) 3 w' w.heap.size (fun _ => True) v5 x5_1) ∧ Aside0 (Below w.heap.size w w'))
 case atStart => exact ⟨(y378), (0), z9_8, H', ⟨Nat.le_refl _⟩, ⟨by (with_reducible repeat (first | apply Kd.R_alloc | apply Kd.R_drewN | apply Kd.R_drew)); exact HO380.out⟩, ⟨z9_0⟩⟩
 case round =>
  clear H'; obtain ⟨x5_1, x6_1, rfl, HA, HK1, HO_5, HB⟩ := hrel
  cases gk with
  | zero => exact absurd HA.out (by simp [spec_l2Scale.l0])
  | succ k1 =>
   have H := HA.out
   clear HA; simp only [spec_l2Scale.l0] at H
   by_cases c5 : x6_1 < (l0.length : Int)
   ·rw [if_pos c5] at H
    have c5b0 : decide (x6_1 < (l0.length : Int)) = true := decide_eq_true c5; clear c5; obtain ⟨c6, H⟩ := ifP H; have c6b0 : decide (0 ≤ x6_1) = true := decide_eq_true c6; clear c6; obtain ⟨c7, H⟩ := ifP H
    have LMc7 := Aside0.mk c7
    clear c7
    obtain ⟨y382, hy382⟩ : ∃ y_ : List Int, y_ = (x5_1 ++ [Int.tmod (wrap64 ((rd l0 x6_1) * a1)) 31]) := ⟨_, rfl⟩
    replace H : (spec_l2Scale.l0 k1 l0 a1 y382 (wrap64 (x6_1 + 1))) = some r := yZZ_ hy382 H
    have Ny382 := Aside0.mk hy382
    clear hy382
    have H' := Aside0.mk H
    clear H; have p381 : 0 ≤ (x6_1 : Int) := of_decide_eq_true z9_6; have q381 : x6_1 < (l0.length : Int) := of_decide_eq_true z9_6; obtain ⟨ad381, e381, hx381_0⟩ := Kd.at_int HR0.out x6_1 p381 q381; cases e381
    replace hx381_0 := (HB.out.cell (World.block_lt_of_cell? w _ hx381_0)).trans hx381_0
    replace p381 := eq_true p381
    replace q381 := eq_true q381
    go_wp2_with (first | ((with_reducible refine gate_builtin (b := .append) (xs := #[.tmp 14, .tmp 22]) rfl ?_); at_builtin; refine Kd.R_append (Kd.int .i64) (w0 := w) w.heap.size rfl (.tmp 14) (.tmp 22) 28 3 (.int .i64 0) 8 rfl Try.underlying28 info3 rfl (by decide) (by omega) u5 x5_1 (Int.tmod (wrap64 ((rd l0 x6_1) * a1)) 31) [.int .i64 (Int.tmod (wrap64 ((rd l0 x6_1) * a1)) 31)] (fun _ => True) (fun _ => False) rfl rfl ?aP (fun _ hk => hk.elim) ?aF ?aO ?aB ?aS ?aL ?_; (case aP => exact rfl); (case aB => exact z9_0); (case aF => exact (fun _ _ => trivial)); (case aO => exact (by (with_reducible repeat (first | apply Kd.R_alloc | apply Kd.R_drewN | apply Kd.R_drew)); exact HO_5.out)); (case aS => exact (below_size z9_0)); (case aL => have := LMc7.out; omega); intro v383 w8 ho hb hg hat; rw [← Ny382.out] at ho; have n0_ := Aside0.mk (hb); have n1_ := Aside0.mk (ho); clear HB; clear HO_5; have HB := n0_; have HO384 := n1_; clear n0_ n1_; clear ho hb hg hat))
    go_roundg k1
    case measure => have := HK1.out; omega
    case rel => exact ⟨(y382), (wrap64 (x6_1 + 1)), z9_8, H', ⟨by have := HK1.out; omega⟩, ⟨by (with_reducible repeat (first | apply Kd.R_alloc | apply Kd.R_drewN | apply Kd.R_drew)); exact HO384.out⟩, ⟨z9_0⟩⟩
   ·rw [if_neg c5] at H
    have c5b0 : decide (x6_1 < (l0.length : Int)) = false := decide_eq_false c5; clear c5
    obtain rfl := Option.some.inj H
    go_wp2
    go_ret; exact ⟨_, z9_10, by (with_reducible repeat (first | apply Kd.R_alloc | apply Kd.R_drewN | apply Kd.R_drew)); exact HO_5.out, z9_0⟩

end Go.Proofs.Ytamaejafddmagaa.PA
namespace Go.Proofs.Ytamaejafddmagaa.PA
open Go.RowKit Go.Proofs.YtamaejafddmagaaW.PrintWords Go.Proofs.YtamaejafddmagaaW.PrintLast Go.Proofs.YtamaejafddmagaaW.PrintMore
attribute [local go_sem] max2_int min2_int max_two min_two max_three min_three max_four min_four   -- for this text's walks alone
set_option linter.unusedVariables false
set_option linter.unusedSimpArgs false

/-! ### spec_l2Sum: function 90 -/
theorem z10_0 {p : Prop} (h : p := by repeat (first | (with_reducible first | exact HB.out | apply below_alloc | apply pw_below_drewN | apply below_drew1) | exact HB.out | (with_reducible exact Below.refl _ _))) : p := h
theorem z10_1 {p : Prop} (h : p := by repeat (first | (with_reducible first | exact HB.out | apply below_alloc | apply pw_below_drewN | apply below_drew1) | exact HB.out)) : p := h
theorem z10_2 {p : Prop} (h : p := by first | (with_reducible assumption) | assumption) : p := h
theorem z10_3 {p : Prop} (h : p := by (try simp only [List.map_toArray, List.map_cons, List.map_nil]); first | done | rfl | (simp only [List.length_drop, List.length_take]; rfl)) : p := h
theorem z10_4 {p : Prop} (h : p := by first | rfl | (simp; done) | (simp [*]; done)) : p := h
theorem z10_5 {p : Prop} (h : p := by first | exact ((HB.out.cell (World.block_lt_of_cell? w _ hw395_0)).trans hw395_0) | (have h_ := (HB.out.cell (World.block_lt_of_cell? w _ hw395_0)).trans hw395_0; simpa using h_) | simpa using hw395_0) : p := h
theorem z10_6 {p : Prop} (h : p := by first | exact ((HB.out.cell (World.block_lt_of_cell? w _ hw396_0)).trans hw396_0) | (have h_ := (HB.out.cell (World.block_lt_of_cell? w _ hw396_0)).trans hw396_0; simpa using h_) | simpa using hw396_0) : p := h
theorem z10_7 {p : Prop} (h : p := by repeat (first | exact Drawn0.refl _ | apply Drawn0.step)) : p := h
def spec_l2Sum.l0 : Nat → List Int → List Int → List Int → Int → Option (List Int)
  | 0, _, _, _, _ => none
  | k + 1, x0, x1, x5, x6 => if x6 < (x0.length : Int) then (if 0 ≤ x6 then (if x6 < (x1.length : Int) then (if x5.length < 17592186044416 then (spec_l2Sum.l0 k x0 x1 (x5 ++ [Int.tmod (wrap64 ((rd x0 x6) + (rd x1 x6))) 31]) (wrap64 (x6 + 1))) else (none)) else (none)) else (none)) else (some x5)
def spec_l2Sum.f (k : Nat) (l0 : List Int) (l1 : List Int) : Option (List Int) := spec_l2Sum.l0 k l0 l1 (([] : List Int)) 0
def spec_l2Sum.T5 : Bool × List (List Nat × List Nat) := (true, [([], []), ([], []), ([], []), ([1, 2], [1, 2]), ([3], [3]), ([], []), ([], []), ([5, 6], [5, 6]), ([7], [7]), ([4, 8], [4, 8]), ([9], [9]), ([10], [10]), ([0, 11], [0, 11]), ([12, 12, 0, 1, 2, 3, 4, 5, 6, 7, 8, 9, 10, 11, 12], [0, 12])])
def spec_l2Sum.B5 : List Nat := [0, 0, 0, 6, 14, 0, 0, 96, 224, 510, 1022, 2046, 4095, 8191]
theorem spec_l2Sum.tab5 : rtab .any (opsOf Try.f90 5) = spec_l2Sum.T5 := by kernel_rfl
theorem spec_l2Sum.bits5 : waitsOk spec_l2Sum.T5.2 spec_l2Sum.B5 = true := by kernel_rfl
set_option maxHeartbeats 8000000 in
set_option maxRecDepth 100000 in
theorem spec_l2Sum.calls (k : Nat) (A0 : Option Addr) (c0 : Nat) (l0 : List Int) (A1 : Option Addr) (c1 : Nat) (l1 : List Int) (r : List Int) (w : World) (hr0 : Kd.C (Kd.int .i64) w A0 l0.length l0) (hc0 : l0.length ≤ c0) (hr1 : Kd.C (Kd.int .i64) w A1 l1.length l1) (hc1 : l1.length ≤ c1) (h : spec_l2Sum.f k l0 l1 = some r) :
  Calls Try.prog 90 #[.slice A0 l0.length c0, .slice A1 l1.length c1] w fun e w' => ∃ v0_ : Value, e = .returned (v0_) ∧ Kd.R (Kd.int .i64) 3 w' w.heap.size (fun _ => True) v0_ r ∧ Below w.heap.size w w' := by
 have HR0 := Aside0.mk hr0
 have HC0 := Aside0.mk hc0
 clear hr0 hc0
 have HR1 := Aside0.mk hr1
 have HC1 := Aside0.mk hc1
 clear hr1 hc1
 have HB := Aside0.mk (Below.refl w.heap.size w)
 unfold spec_l2Sum.f at h
 have H := h
 clear h
 obtain ⟨y385, hy385⟩ : ∃ y_ : List Int, y_ = (([] : List Int)) := ⟨_, rfl⟩
 replace H : (spec_l2Sum.l0 k l0 l1 y385 0) = some r := yZZ_ hy385 H
 have Ny385 := Aside0.mk hy385
 clear hy385
 have H' := Aside0.mk H
 clear H
 go_enter Try.func90, Try.ntmps90
 go_wp2_with (first | ((with_reducible refine gate_dst (N := 7) rfl ?_); refine Kd.R_lit (Kd.int .i64) _ 3 ?hg (N := 7) ?hd (xs := ([] : List Int)) (inner := []) (ok := fun _ => True) (okp := fun _ => True) ?hr ?hp (fun _ hk => hk) trivial (Below.refl _ _) (Nat.le_refl _) (by simp) ?_; (case hd => rfl); (case hg => rfl); (case hr => first | (go_simp; done) | (go_simp; rfl)); (case hp => exact (Reps.none _ _)); intro v386 w3 ho4 hb hg_ hnew_; clear hg_ hnew_; (first | rw [← Ny385.out] at ho4 | (simp only [Int.reduceToNat] at ho4; rw [← Ny385.out] at ho4)); have HO387 := Aside0.mk (Kd.R_lower ho4 (below_size z10_1)); replace HB := Aside0.mk (below_step z10_1 hb); clear hb ho4))
 go_loopg [5, 6] k (fun kq v5 v6 w' => ∃ (x5_1 : List Int) (x6_1 : Int), v6 = .int .i64 x6_1 ∧ Aside0 (spec_l2Sum.l0 kq l0 l1 x5_1 x6_1 = some r) ∧ Aside0 (kq ≤ k) ∧ Aside0 (Kd.R (Kd.int .i64) 3 w' w.heap.size (fun _ => True) v5 x5_1) ∧ Aside0 (Below w.heap.size w w'))
 case atStart => exact ⟨(y385), (0), z10_4, H', ⟨Nat.le_refl _⟩, ⟨by (with_reducible repeat (first | apply Kd.R_alloc | apply Kd.R_drewN | apply Kd.R_drew)); exact HO387.out⟩, ⟨z10_1⟩⟩
 case round =>
  clear H'
  try clear c1
  obtain ⟨x5_1, x6_1, rfl, HA, HK1, HO_5, HB⟩ := hrel
  cases gk with
  | zero => exact absurd HA.out (by simp [spec_l2Sum.l0])
  | succ k1 =>
   have H := HA.out
   clear HA; simp only [spec_l2Sum.l0] at H
   by_cases c5 : x6_1 < (l0.length : Int)
   ·rw [if_pos c5] at H
    have c5b0 : decide (x6_1 < (l0.length : Int)) = true := decide_eq_true c5; clear c5; obtain ⟨c6, H⟩ := ifP H; have c6b0 : decide (0 ≤ x6_1) = true := decide_eq_true c6; clear c6; obtain ⟨c7, H⟩ := ifP H; have c7b0 : decide (x6_1 < (l1.length : Int)) = true := decide_eq_true c7; clear c7; obtain ⟨c8, H⟩ := ifP H
    have LMc8 := Aside0.mk c8
    clear c8
    obtain ⟨y390, hy390⟩ : ∃ y_ : List Int, y_ = (x5_1 ++ [Int.tmod (wrap64 ((rd l0 x6_1) + (rd l1 x6_1))) 31]) := ⟨_, rfl⟩
    replace H : (spec_l2Sum.l0 k1 l0 l1 y390 (wrap64 (x6_1 + 1))) = some r := yZZ_ hy390 H
    have Ny390 := Aside0.mk hy390
    clear hy390
    have H' := Aside0.mk H
    clear H
    try go_wp2
    replace HO_5 := Aside0.mk (Kd.R_drew HO_5.out)
    replace HB := Aside0.mk (below_drew1 HB.out)
    have p388 : 0 ≤ (x6_1 : Int) := of_decide_eq_true z10_2; have q388 : x6_1 < (l0.length : Int) := of_decide_eq_true z10_2; obtain ⟨ad388, e388, hx388_0⟩ := Kd.at_int HR0.out x6_1 p388 q388
    have hw388_0 := hx388_0
    cases e388
    replace hx388_0 := (HB.out.cell (World.block_lt_of_cell? w _ hx388_0)).trans hx388_0
    replace p388 := eq_true p388
    replace q388 := eq_true q388
    have p389 : 0 ≤ (x6_1 : Int) := of_decide_eq_true z10_2; have q389 : x6_1 < (l1.length : Int) := of_decide_eq_true z10_2; obtain ⟨ad389, e389, hx389_0⟩ := Kd.at_int HR1.out x6_1 p389 q389
    have hw389_0 := hx389_0
    cases e389
    replace hx389_0 := (HB.out.cell (World.block_lt_of_cell? w _ hx389_0)).trans hx389_0
    replace p389 := eq_true p389
    replace q389 := eq_true q389
    refine start_ (n := 14) (S := fun w' => w'.cell? (ad388.add (x6_1).toNat) = some (.int .i64 (rd l0 x6_1)) ∧ w'.cell? (ad389.add (x6_1).toNat) = some (.int .i64 (rd l1 x6_1))) (ds := []) #[false, false, false, false, false, false, false, false, false, false, false, false, false, false] (by kernel_rfl) rfl rfl ⟨((HB.out.cell (World.block_lt_of_cell? w _ hw388_0)).trans hw388_0), ((HB.out.cell (World.block_lt_of_cell? w _ hw389_0)).trans hw389_0)⟩ (fun hHeld => ?_); refine with_tabW spec_l2Sum.tab5 spec_l2Sum.bits5 (fun HT_ HW_ => ?_); generalize wr.drew = w9 at HO_5 HB hx388_0 hx389_0 hHeld ⊢; refine pZ 0 HT_ ?_; refine pZ 1 HT_ ?_; refine pZ 2 HT_ ?_; refine pZ 3 HT_ ?_; refine pZ 5 HT_ ?_; refine pZ 6 HT_ ?_; refine pZ 7 HT_ ?_; refine tZ 4 hHeld HT_ HW_ ?_; refine tZ 8 hHeld HT_ HW_ ?_; refine pZ 9 HT_ ?_; refine pZ 10 HT_ ?_; refine oZ 11 HT_ (fun K hK => ?_); refine value_ (w1 := ?_) (v := ?_) (by rfl) rfl ?_ ?_; rotate_left 2
    ·go_simp
     constructor
     ·rfl
     ·rfl
    refine hK.out _ _ ⟨(World.cell?_alloc_lt _ _ _ (World.block_lt_of_cell? _ _ (((HB.out.cell (World.block_lt_of_cell? w _ hw388_0)).trans hw388_0)))).trans (((HB.out.cell (World.block_lt_of_cell? w _ hw388_0)).trans hw388_0)), (World.cell?_alloc_lt _ _ _ (World.block_lt_of_cell? _ _ (((HB.out.cell (World.block_lt_of_cell? w _ hw389_0)).trans hw389_0)))).trans (((HB.out.cell (World.block_lt_of_cell? w _ hw389_0)).trans hw389_0))⟩ (fun hHeld => ?_); clear hK K; refine nZ ?_; refine oZ 12 HT_ (fun K hK => ?_); refine Kd.R_append_step (Kd.int .i64) (w0 := w) w.heap.size (by rfl) (.tmp 14) (.tmp 25) 28 3 (.int .i64 0) 8 rfl Try.underlying28 info3 rfl (by decide) (by omega) u5 x5_1 (Int.tmod (wrap64 ((rd l0 x6_1) + (rd l1 x6_1))) 31) [.int .i64 (Int.tmod (wrap64 ((rd l0 x6_1) + (rd l1 x6_1))) 31)] (fun _ => True) (fun _ => False) rfl rfl ?aP (fun _ hk => hk.elim) ?aF ?aO ?aB ?aS ?aL ?_; (case aP => exact rfl); (case aB => exact z10_1); (case aF => exact (fun _ _ => trivial)); (case aO => exact (by (with_reducible repeat (first | apply Kd.R_alloc | apply Kd.R_drewN | apply Kd.R_drew)); exact HO_5.out)); (case aS => exact (below_size z10_1)); (case aL => have := LMc8.out; omega); intro v391 w10 ho hb hg hat; rw [← Ny390.out] at ho
    have n0_ := Aside0.mk (hb)
    have n1_ := Aside0.mk (ho)
    clear HB; clear HO_5
    have HB := n0_
    have HO392 := n1_
    clear n0_ n1_; clear ho hb hg hat; refine hK.out _ _ ⟨(by first | exact ((HB.out.cell (World.block_lt_of_cell? w _ hw388_0)).trans hw388_0) | (have h_ := (HB.out.cell (World.block_lt_of_cell? w _ hw388_0)).trans hw388_0; simpa using h_) | simpa using hw388_0), (by first | exact ((HB.out.cell (World.block_lt_of_cell? w _ hw389_0)).trans hw389_0) | (have h_ := (HB.out.cell (World.block_lt_of_cell? w _ hw389_0)).trans hw389_0; simpa using h_) | simpa using hw389_0)⟩ (fun hHeld => ?_); clear hK K; refine nZ ?_; refine pZ 13 HT_ ?_; refine done_ (done_of HT_.out (by kernel_rfl)) ?_
    try go_wp2
    go_roundg k1
    case measure => have := HK1.out; omega
    case rel => exact ⟨(y390), (wrap64 (x6_1 + 1)), z10_4, H', ⟨by have := HK1.out; omega⟩, ⟨by (with_reducible repeat (first | apply Kd.R_alloc | apply Kd.R_drewN | apply Kd.R_drew)); exact HO392.out⟩, ⟨z10_1⟩⟩
   ·rw [if_neg c5] at H
    have c5b0 : decide (x6_1 < (l0.length : Int)) = false := decide_eq_false c5; clear c5
    obtain rfl := Option.some.inj H
    go_wp2
    go_ret; exact ⟨_, by first | rfl | (simp [errW_none, errW_some] <;> rfl) | (simp [*, errW_none, errW_some] <;> rfl), by (with_reducible repeat (first | apply Kd.R_alloc | apply Kd.R_drewN | apply Kd.R_drew)); exact HO_5.out, z10_1⟩

/-! ### spec_l2Lead: function 123 -/
def spec_l2Lead.l0 : Nat → List Int → Int → Option (Int)
  | 0, _, _ => none
  | k + 1, x0, x3 => if x3 < (x0.length : Int) then (if 0 ≤ x3 then (if (rd x0 x3) = 0 then (spec_l2Lead.l0 k x0 (wrap64 (x3 + 1))) else (some x3)) else (none)) else (some (-1))
def spec_l2Lead.f (k : Nat) (l0 : List Int) : Option (Int) := spec_l2Lead.l0 k l0 0
set_option maxHeartbeats 8000000 in
set_option maxRecDepth 100000 in
theorem spec_l2Lead.calls (k : Nat) (A0 : Option Addr) (c0 : Nat) (l0 : List Int) (r : Int) (w : World) (hr0 : Kd.C (Kd.int .i64) w A0 l0.length l0) (hc0 : l0.length ≤ c0) (h : spec_l2Lead.f k l0 = some r) :
  Calls Try.prog 123 #[.slice A0 l0.length c0] w fun e w' => e = .returned (.int .i64 r) ∧ Drawn0 w w' := by
 have HR0 := Aside0.mk hr0
 have HC0 := Aside0.mk hc0
 clear hr0 hc0
 unfold spec_l2Lead.f at h
 have H := h
 clear h
 have H' := Aside0.mk H
 clear H
 go_enter Try.func123, Try.ntmps123
 go_wp2
 go_loopg [3] k (fun kq v3 w' => ∃ (x3_1 : Int), v3 = .int .i64 x3_1 ∧ Aside0 (spec_l2Lead.l0 kq l0 x3_1 = some r) ∧ Aside0 (kq ≤ k) ∧ Drawn0 w w')
 case atStart => exact ⟨(0), z10_4, H', ⟨Nat.le_refl _⟩, z10_7⟩
 case round =>
  clear H'; obtain ⟨x3_1, rfl, HA, HK1, ⟨m1, rfl⟩⟩ := hrel
  cases gk with
  | zero => exact absurd HA.out (by simp [spec_l2Lead.l0])
  | succ k1 =>
   have H := HA.out
   clear HA; simp only [spec_l2Lead.l0] at H
   by_cases c2 : x3_1 < (l0.length : Int)
   ·rw [if_pos c2] at H
    have c2b0 : decide (x3_1 < (l0.length : Int)) = true := decide_eq_true c2; clear c2; obtain ⟨c3, H⟩ := ifP H; have c3b0 : decide (0 ≤ x3_1) = true := decide_eq_true c3; clear c3
    by_cases c4 : (rd l0 x3_1) = 0
    ·rw [if_pos c4] at H
     have c4b0 : ((rd l0 x3_1) == 0) = true := beq_iff_eq.mpr c4
     have c4b1 : ((rd l0 x3_1) != 0) = false := bne_eq_false_iff_eq.mpr c4
     clear c4
     have H' := Aside0.mk H
     clear H; have p393 : 0 ≤ (x3_1 : Int) := of_decide_eq_true z10_2; have q393 : x3_1 < (l0.length : Int) := of_decide_eq_true z10_2; obtain ⟨ad393, e393, hx393_0⟩ := Kd.at_int HR0.out x3_1 p393 q393; cases e393
     replace p393 := eq_true p393
     replace q393 := eq_true q393
     go_wp2
     go_roundg k1
     case measure => have := HK1.out; omega
     case rel => exact ⟨(wrap64 (x3_1 + 1)), z10_4, H', ⟨by have := HK1.out; omega⟩, z10_7⟩
    ·rw [if_neg c4] at H
     have c4b0 : ((rd l0 x3_1) == 0) = false := beq_eq_false_iff_ne.mpr c4
     have c4b1 : ((rd l0 x3_1) != 0) = true := bne_iff_ne.mpr c4
     obtain rfl := Option.some.inj H
     have p393 : 0 ≤ (x3_1 : Int) := of_decide_eq_true z10_2; have q393 : x3_1 < (l0.length : Int) := of_decide_eq_true z10_2; obtain ⟨ad393, e393, hx393_0⟩ := Kd.at_int HR0.out x3_1 p393 q393; cases e393
     replace p393 := eq_true p393
     replace q393 := eq_true q393
     go_wp2
     go_ret; exact ⟨z10_4, z10_7⟩
   ·rw [if_neg c2] at H
    have c2b0 : decide (x3_1 < (l0.length : Int)) = false := decide_eq_false c2; clear c2
    obtain rfl := Option.some.inj H
    go_wp2
    go_ret; exact ⟨z10_4, z10_7⟩

/-! ### spec_l1Inv: function 124 -/
def spec_l1Inv.l0 : Nat → Int → Int → Option (Int)
  | 0, _, _ => none
  | k + 1, x0, x3 => if x3 < 31 then (if (Int.tmod (wrap64 (x0 * x3)) 31) = 1 then (some x3) else (spec_l1Inv.l0 k x0 (wrap64 (x3 + 1)))) else (some 0)
def spec_l1Inv.f (k : Nat) (a0 : Int) : Option (Int) := spec_l1Inv.l0 k a0 1
theorem spec_l1Inv.mono_l : ∀ k, (∀ y0 y1, LeO (spec_l1Inv.l0 k y0 y1) (spec_l1Inv.l0 (k + 1) y0 y1))
  | 0 => fun _ _ r h => by simp [spec_l1Inv.l0] at h
  | k + 1 => by
    have ih0 := spec_l1Inv.mono_l k
    · intro y0 y1
      unfold spec_l1Inv.l0
      repeat' first
      | (with_reducible exact ih0 _ _)
      | (with_reducible exact LeO.refl _)
      | (with_reducible exact LeO.none _)
      | (with_reducible refine LeO.ite ?_ ?_)
      | (with_reducible refine LeO.bind ?_ (fun _ => ?_))
      | exact ih0 _ _
      | exact LeO.none _
      | refine LeO.ite ?_ ?_
      | refine LeO.bind ?_ (fun _ => ?_)
theorem spec_l1Inv.mono : ∀ a0 k, LeO (spec_l1Inv.f k a0) (spec_l1Inv.f (k + 1) a0) := by
  intro a0 k
  have ih0 := spec_l1Inv.mono_l k
  unfold spec_l1Inv.f
  repeat' first
      | (with_reducible exact ih0 _ _)
      | (with_reducible exact LeO.refl _)
      | (with_reducible exact LeO.none _)
      | (with_reducible refine LeO.ite ?_ ?_)
      | (with_reducible refine LeO.bind ?_ (fun _ => ?_))
      | exact ih0 _ _
      | exact LeO.none _
      | refine LeO.ite ?_ ?_
      | refine LeO.bind ?_ (fun _ => ?_)
set_option maxHeartbeats 8000000 in
set_option maxRecDepth 100000 in
theorem spec_l1Inv.calls (k : Nat) (a0 : Int) (r : Int) (w : World) (h : spec_l1Inv.f k a0 = some r) :
  Calls Try.prog 124 #[.int .i64 a0] w fun e w' => e = .returned (.int .i64 r) ∧ Drawn0 w w' := by
 unfold spec_l1Inv.f at h
 have H := h
 clear h
 have H' := Aside0.mk H
 clear H
 go_enter Try.func124, Try.ntmps124
 go_wp2
 go_loopg [3] k (fun kq v3 w' => ∃ (x3_1 : Int), v3 = .int .i64 x3_1 ∧ Aside0 (spec_l1Inv.l0 kq a0 x3_1 = some r) ∧ Aside0 (kq ≤ k) ∧ Drawn0 w w')
 case atStart => exact ⟨(1), z10_4, H', ⟨Nat.le_refl _⟩, z10_7⟩
 case round =>
  clear H'; obtain ⟨x3_1, rfl, HA, HK1, ⟨m1, rfl⟩⟩ := hrel
  cases gk with
  | zero => exact absurd HA.out (by simp [spec_l1Inv.l0])
  | succ k1 =>
   have H := HA.out
   clear HA; simp only [spec_l1Inv.l0] at H
   by_cases c2 : x3_1 < 31
   ·rw [if_pos c2] at H
    have c2b0 : decide (x3_1 < 31) = true := decide_eq_true c2; clear c2
    by_cases c3 : (Int.tmod (wrap64 (a0 * x3_1)) 31) = 1
    ·rw [if_pos c3] at H
     have c3b0 : ((Int.tmod (wrap64 (a0 * x3_1)) 31) == 1) = true := beq_iff_eq.mpr c3
     have c3b1 : ((Int.tmod (wrap64 (a0 * x3_1)) 31) != 1) = false := bne_eq_false_iff_eq.mpr c3
     clear c3
     obtain rfl := Option.some.inj H
     go_wp2
     go_ret; exact ⟨z10_4, z10_7⟩
    ·rw [if_neg c3] at H
     have c3b0 : ((Int.tmod (wrap64 (a0 * x3_1)) 31) == 1) = false := beq_eq_false_iff_ne.mpr c3
     have c3b1 : ((Int.tmod (wrap64 (a0 * x3_1)) 31) != 1) = true := bne_iff_ne.mpr c3
     have H' := Aside0.mk H
     clear H
     go_wp2
     go_roundg k1
     case measure => have := HK1.out; omega
     case rel => exact ⟨(wrap64 (x3_1 + 1)), z10_4, H', ⟨by have := HK1.out; omega⟩, z10_7⟩
   ·rw [if_neg c2] at H
    have c2b0 : decide (x3_1 < 31) = false := decide_eq_false c2; clear c2
    obtain rfl := Option.some.inj H
    go_wp2
    go_ret; exact ⟨z10_4, z10_7⟩

/-! ### spec_l3Less: function 122 -/
def spec_l3Less.f (k : Nat) (l0 : List Int) (l1 : List Int) : Option (List Int) := (spec_l2Lead.f k l1).bind fun t394 => (if 0 ≤ t394 then (if t394 < (l0.length : Int) then (if t394 < (l1.length : Int) then ((spec_l1Inv.f k (rd l1 t394)).bind fun t397 => ((spec_l2Scale.f k l1 (Int.tmod (wrap64 (31 - (Int.tmod (wrap64 ((rd l0 t394) * t397)) 31))) 31)).bind fun t398 => ((spec_l2Sum.f k l0 t398).bind fun t401 => (some t401)))) else (none)) else (none)) else (none))
def spec_l3Less.T2 : Bool × List (List Nat × List Nat) := (true, [([], []), ([], []), ([], []), ([], []), ([2, 3], [2, 3]), ([4], [4]), ([], []), ([], []), ([6, 7], [6, 7]), ([8], [8]), ([9], [9]), ([5, 10], [5, 10]), ([11], [11]), ([12], [12]), ([13], [13]), ([1, 14, 10], [1, 14]), ([0, 15, 15], [0, 15]), ([16, 16, 0, 1, 2, 3, 4, 5, 6, 7, 8, 9, 10, 11, 12, 13, 14, 15, 16], [16])])
def spec_l3Less.B2 : List Nat := [0, 0, 0, 0, 12, 28, 0, 0, 192, 448, 960, 2044, 4092, 8188, 16380, 32766, 65535, 131071]
theorem spec_l3Less.tab2 : rtab .any (opsOf Try.f122 2) = spec_l3Less.T2 := by kernel_rfl
theorem spec_l3Less.bits2 : waitsOk spec_l3Less.T2.2 spec_l3Less.B2 = true := by kernel_rfl
set_option maxHeartbeats 8000000 in
set_option maxRecDepth 100000 in
theorem spec_l3Less.calls (k : Nat) (A0 : Option Addr) (c0 : Nat) (l0 : List Int) (A1 : Option Addr) (c1 : Nat) (l1 : List Int) (r : List Int) (w : World) (hr0 : Kd.C (Kd.int .i64) w A0 l0.length l0) (hc0 : l0.length ≤ c0) (hr1 : Kd.C (Kd.int .i64) w A1 l1.length l1) (hc1 : l1.length ≤ c1) (h : spec_l3Less.f k l0 l1 = some r) :
  Calls Try.prog 122 #[.slice A0 l0.length c0, .slice A1 l1.length c1] w fun e w' => ∃ v0_ : Value, e = .returned (v0_) ∧ Kd.R (Kd.int .i64) 3 w' w.heap.size (fun _ => True) v0_ r ∧ Below w.heap.size w w' := by
 have HR0 := Aside0.mk hr0
 have HC0 := Aside0.mk hc0
 clear hr0 hc0
 have HR1 := Aside0.mk hr1
 have HC1 := Aside0.mk hc1
 clear hr1 hc1
 have HB := Aside0.mk (Below.refl w.heap.size w)
 unfold spec_l3Less.f at h
 have H := h
 clear h
 replace H := Option.bind_eq_some_iff.mp H
 obtain ⟨t394, A30, H⟩ := H
 have A3 := Aside0.mk A30
 clear A30
 obtain ⟨c4, H⟩ := ifP H
 have c4b0 : decide (0 ≤ t394) = true := decide_eq_true c4
 clear c4
 obtain ⟨c5, H⟩ := ifP H
 have c5b0 : decide (t394 < (l0.length : Int)) = true := decide_eq_true c5
 clear c5
 obtain ⟨c6, H⟩ := ifP H
 have c6b0 : decide (t394 < (l1.length : Int)) = true := decide_eq_true c6
 clear c6
 replace H := Option.bind_eq_some_iff.mp H
 obtain ⟨t397, A70, H⟩ := H
 have A7 := Aside0.mk A70
 clear A70
 replace H := Option.bind_eq_some_iff.mp H
 obtain ⟨t398, A80, H⟩ := H
 have A8 := Aside0.mk A80
 clear A80
 replace H := Option.bind_eq_some_iff.mp H
 obtain ⟨t401, A90, H⟩ := H
 have A9 := Aside0.mk A90
 clear A90
 obtain rfl := Option.some.inj H
 go_enter Try.func122, Try.ntmps122
 try go_wp2_with (first | ((with_reducible refine gate_callee (f := 123) rfl ?_); refine goesL_ (some 7) rfl rfl Try.func123 (by kernel_rfl) rfl #[.slice A1 l1.length c1] rfl z10_3 ?_; (with_reducible refine (spec_l2Lead.calls k _ _ l1 t394 _ ?side1 ?side2 A3.out).mono ?_); (case side1 => exact cZ (HR1.out)); (case side2 => exact HC1.out); rintro e w' ⟨rfl, ⟨nd, rfl⟩⟩; refine ⟨_, rfl, ?_⟩))
 replace HB := Aside0.mk (below_drew1 HB.out)
 have p395 : 0 ≤ (t394 : Int) := of_decide_eq_true z10_2
 have q395 : t394 < (l0.length : Int) := of_decide_eq_true z10_2
 obtain ⟨ad395, e395, hx395_0⟩ := Kd.at_int HR0.out t394 p395 q395
 have hw395_0 := hx395_0
 cases e395
 replace hx395_0 := (HB.out.cell (World.block_lt_of_cell? w _ hx395_0)).trans hx395_0
 replace p395 := eq_true p395
 replace q395 := eq_true q395
 have p396 : 0 ≤ (t394 : Int) := of_decide_eq_true z10_2
 have q396 : t394 < (l1.length : Int) := of_decide_eq_true z10_2
 obtain ⟨ad396, e396, hx396_0⟩ := Kd.at_int HR1.out t394 p396 q396
 have hw396_0 := hx396_0
 cases e396
 replace hx396_0 := (HB.out.cell (World.block_lt_of_cell? w _ hx396_0)).trans hx396_0
 replace p396 := eq_true p396
 replace q396 := eq_true q396
 refine start_ (n := 18) (S := fun w' => w'.cell? (ad395.add (t394).toNat) = some (.int .i64 (rd l0 t394)) ∧ w'.cell? (ad396.add (t394).toNat) = some (.int .i64 (rd l1 t394))) (ds := []) #[false, false, false, false, false, false, false, false, false, false, false, false, false, false, false, false, false, false] (by kernel_rfl) rfl rfl ⟨((HB.out.cell (World.block_lt_of_cell? w _ hw395_0)).trans hw395_0), ((HB.out.cell (World.block_lt_of_cell? w _ hw396_0)).trans hw396_0)⟩ (fun hHeld => ?_); refine with_tabW spec_l3Less.tab2 spec_l3Less.bits2 (fun HT_ HW_ => ?_)
 generalize w.drew = w10 at HB hx395_0 hx396_0 hHeld ⊢
 refine pZ 0 HT_ ?_
 refine pZ 1 HT_ ?_
 refine pZ 2 HT_ ?_
 refine pZ 3 HT_ ?_
 refine pZ 4 HT_ ?_
 refine pZ 6 HT_ ?_
 refine pZ 7 HT_ ?_
 refine pZ 8 HT_ ?_
 refine tZ 5 hHeld HT_ HW_ ?_
 refine tZ 9 hHeld HT_ HW_ ?_
 refine oZ 10 HT_ (fun K hK => ?_)
 refine goes_ Try.func124 (by kernel_rfl) rfl #[.int .i64 (rd l1 t394)] (by rfl) rfl rfl z10_3 ?_
 with_reducible refine (spec_l1Inv.calls k (rd l1 t394) t397 _ A7.out).mono ?_
 rintro e w' ⟨rfl, ⟨nd, rfl⟩⟩
 refine ⟨_, rfl, ?_⟩
 refine hK.out _ _ ⟨z10_5, z10_6⟩ (fun hHeld => ?_)
 clear hK K
 refine nZ ?_
 refine pZ 11 HT_ ?_
 refine pZ 12 HT_ ?_
 refine pZ 13 HT_ ?_
 refine pZ 14 HT_ ?_
 refine oZ 15 HT_ (fun K hK => ?_)
 refine goes_ Try.func91 (by kernel_rfl) rfl #[.slice (some ad396) l1.length c1, .int .i64 (Int.tmod (wrap64 (31 - (Int.tmod (wrap64 ((rd l0 t394) * t397)) 31))) 31)] (by rfl) rfl rfl z10_3 ?_
 with_reducible refine (spec_l2Scale.calls k _ _ l1 (Int.tmod (wrap64 (31 - (Int.tmod (wrap64 ((rd l0 t394) * t397)) 31))) 31) t398 _ ?side1 ?side2 A8.out).mono ?_
 (case side1 => repeat (first | exact (Kd.C_below HR1.out z10_0) | (with_reducible refine Kd.C_alloc ?_ _) | (with_reducible refine Kd.C_drewN ?_ _) | (with_reducible refine Kd.C_drew ?_)))
 (case side2 => exact HC1.out)
 rintro e w11 ⟨v399, rfl, ho0, hb⟩
 refine ⟨_, rfl, ?_⟩
 have HO400 := Aside0.mk (Kd.R_lower ho0 (below_size z10_0))
 replace HB := Aside0.mk (below_step z10_0 hb)
 (try clear hb)
 (try clear hb2)
 (try clear hk)
 (try clear hi)
 (try clear ho0)
 obtain ⟨Ao12, co12, eo12⟩ := Kd.R_slice HO400.out
 (first | subst eo12 | (injection eo12 with f1_ f2_ f3_; have f4_ := f1_.symm; have f5_ := f3_.symm; clear f1_ f2_ f3_; subst f4_; subst f5_))
 refine hK.out _ _ ⟨z10_5, z10_6⟩ (fun hHeld => ?_)
 clear hK K
 refine nZ ?_
 refine oZ 16 HT_ (fun K hK => ?_)
 refine goes_ Try.func90 (by kernel_rfl) rfl #[.slice (some ad395) l0.length c0, .slice Ao12 t398.length co12] (by rfl) rfl rfl z10_3 ?_
 with_reducible refine (spec_l2Sum.calls k _ _ l0 _ _ t398 t401 _ ?side1 ?side2 ?side3 ?side4 A9.out).mono ?_
 (case side1 => exact cZ ((Kd.C_below HR0.out HB.out)))
 (case side2 => exact HC0.out)
 (case side3 => exact cZ ((Kd.R_reads' HO400.out).2.2))
 (case side4 => exact (Kd.R_reads' HO400.out).2.1)
 rintro e w13 ⟨v402, rfl, ho0, hb⟩
 refine ⟨_, rfl, ?_⟩
 have HO403 := Aside0.mk (Kd.R_lower (Kd.R_new' ho0 (Kd.R_lt (by (with_reducible repeat (first | apply Kd.R_alloc | apply Kd.R_drewN | apply Kd.R_drew)); exact HO400.out))) (below_size z10_0))
 replace HO400 := Aside0.mk (Kd.R_elder' (by (with_reducible repeat (first | apply Kd.R_alloc | apply Kd.R_drewN | apply Kd.R_drew)); exact HO400.out) (Kd.R_base ho0) hb)
 replace HB := Aside0.mk (below_step z10_0 hb)
 (try clear hb)
 (try clear hb2)
 (try clear hk)
 (try clear hi)
 (try clear ho0)
 refine hK.out _ _ ⟨z10_5, z10_6⟩ (fun hHeld => ?_)
 clear hK K
 refine nZ ?_
 refine pZ 17 HT_ ?_
 refine done_ (done_of HT_.out (by kernel_rfl)) ?_
 try go_wp2
 go_ret
 exact ⟨_, by first | rfl | (simp [errW_none, errW_some] <;> rfl) | (simp [*, errW_none, errW_some] <;> rfl), by (with_reducible repeat (first | apply Kd.R_alloc | apply Kd.R_drewN | apply Kd.R_drew)); exact Kd.R_mono HO403.out (fun _ hk => trivial), z10_0⟩

-- NOT PRINTED: function 96 (spec_l3Add)

end Go.Proofs.Ytamaejafddmagaa.PA
