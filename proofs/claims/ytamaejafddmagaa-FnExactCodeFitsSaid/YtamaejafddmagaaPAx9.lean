-- Written by a program of this session (after the manner of the kit's print, several laws in one text).
import Derived.Test.YtamaejafddmagaaPAx0
import Derived.Test.YtamaejafddmagaaPAx1
import Derived.Test.YtamaejafddmagaaPAx2
import Derived.Test.YtamaejafddmagaaPAx8
import Derived.Test.YtamaejafddmagaaGw
import Derived.Test.YtamaejafddmagaaGm
import Derived.Test.YtamaejafddmagaaGc
namespace Go.Proofs.Ytamaejafddmagaa.PA
open Go.RowKit Go.Proofs.YtamaejafddmagaaW.PrintWords Go.Proofs.YtamaejafddmagaaW.PrintLast Go.Proofs.YtamaejafddmagaaW.PrintMore
attribute [local go_sem] max2_int min2_int max_two min_two max_three min_three max_four min_four   -- for this text's walks alone
set_option linter.unusedVariables false
set_option linter.unusedSimpArgs false

/-! ### impl_fits: function 84 -/
theorem zL9 {p q : Prop} (h : q) (t : q → p := by intro h_; (with_reducible repeat first|refine blk_drewN ?_ _|refine blk_drew ?_|refine blk_alloc ?_ _); exact h_) : p := t h
theorem z9_1 {p : Prop} (h : p := by (try simp only [List.map_toArray, List.map_cons, List.map_nil]); first | done | rfl | (simp only [List.length_drop, List.length_take]; rfl)) : p := h
theorem z9_2 {p : Prop} (h : p := by repeat (first | (with_reducible first | exact HB.out | apply below_alloc | apply pw_below_drewN | apply below_drew1) | exact HB.out)) : p := h
theorem z9_3 {p : Prop} (h : p := by repeat (first | (with_reducible first | exact HB.out | apply below_alloc | apply pw_below_drewN | apply below_drew1 | refine below_set ?_ GE320.out) | exact HB.out)) : p := h
theorem z9_4 {p : Prop} (h : p := by first | rfl | (simp [errW_none, errW_some] <;> rfl) | (simp [*, errW_none, errW_some] <;> rfl)) : p := h
theorem z9_5 {p : Prop} (h : p := by first | (with_reducible assumption) | assumption) : p := h
theorem z9_6 {p : Prop} (h : p := by first | rfl | (simp; done) | (simp [*]; done)) : p := h
theorem z9_7 {p : Prop} (h : p := by repeat (first | exact Drawn0.refl _ | apply Drawn0.step)) : p := h
def impl_fits.l0 : Nat → Int → List Int → List Int → Int → Int → Int → Int → Int → Int → Option (Bool)
  | 0, _, _, _, _, _, _, _, _, _ => none
  | k + 1, x0, x1, x14, x15, x16, x321000, x321001, x321002, x321003 => if x16 < x15 then (if 0 ≤ x16 then (if x16 < (x14.length : Int) then ((impl_rowOf.f x0 (rd x14 x16)).bind fun bt322 => ((impl_vector_dot.f bt322.1 bt322.2.1 bt322.2.2.1 bt322.2.2.2 x321000 x321001 x321002 x321003).bind fun t326 => (if 0 ≤ (rd x14 x16) then (if (rd x14 x16) < (x1.length : Int) then (if t326 = (rd x1 (rd x14 x16)) then (impl_fits.l0 k x0 x1 x14 x15 (wrap64 (x16 + 1)) x321000 x321001 x321002 x321003) else (some false)) else (none)) else (none)))) else (none)) else (none)) else (some true)
def impl_fits.f (k : Nat) (a0 : Int) (l1 : List Int) (l2 : List Int) : Option (Bool) := (impl_solve.f k a0 l1 l2).bind fun bt316 => (impl_fits.l0 k a0 l1 l2 (l2.length : Int) 0 bt316.1 bt316.2.1 bt316.2.2.1 bt316.2.2.2)
def impl_fits.T5 : Bool × List (List Nat × List Nat) := (true, [([], []), ([], []), ([0, 1], [0, 1]), ([], []), ([2, 3, 2], [2, 3]), ([], []), ([], []), ([5, 6], [5, 6]), ([7], [7]), ([4, 8], [4, 8])])
def impl_fits.B5 : List Nat := [0, 0, 3, 0, 15, 0, 0, 96, 224, 511]
theorem impl_fits.tab5 : rtab .any (opsOf Try.f84 5) = impl_fits.T5 := by kernel_rfl
theorem impl_fits.bits5 : waitsOk impl_fits.T5.2 impl_fits.B5 = true := by kernel_rfl
set_option maxHeartbeats 8000000 in
set_option maxRecDepth 100000 in
theorem impl_fits.calls (k : Nat) (a0 : Int) (A1 : Option Addr) (c1 : Nat) (l1 : List Int) (A2 : Option Addr) (c2 : Nat) (l2 : List Int) (r : Bool) (w : World) (hr1 : Kd.C (Kd.int .i64) w A1 l1.length l1) (hc1 : l1.length ≤ c1) (hr2 : Kd.C (Kd.int .i64) w A2 l2.length l2) (hc2 : l2.length ≤ c2) (h : impl_fits.f k a0 l1 l2 = some r) :
  Calls Try.prog 84 #[.int .i64 a0, .slice A1 l1.length c1, .slice A2 l2.length c2] w fun e w' => e = .returned (.bool r) ∧ Below w.heap.size w w' := by
 have hu70 := Try.underlying70
 have HR1 := Aside0.mk hr1
 have HC1 := Aside0.mk hc1
 clear hr1 hc1
 have HR2 := Aside0.mk hr2
 have HC2 := Aside0.mk hc2
 clear hr2 hc2
 have HB := Aside0.mk (Below.refl w.heap.size w)
 have H : ((impl_solve.f k a0 l1 l2).bind fun bt316 => (impl_fits.l0 k a0 l1 l2 (l2.length : Int) 0 bt316.1 bt316.2.1 bt316.2.2.1 bt316.2.2.2)) = some r := h
 clear h
 replace H := Option.bind_eq_some_iff.mp H
 obtain ⟨⟨t316, t317, t318, t319⟩, A40, H⟩ := H
 replace H : (impl_fits.l0 k a0 l1 l2 (l2.length : Int) 0 t316 t317 t318 t319) = some r := H
 have A4 := Aside0.mk A40
 clear A40
 have H' := Aside0.mk H
 clear H
 go_enter Try.func84, Try.ntmps84
 go_wp2_with (first | ((with_reducible refine gate_callee (f := 114) rfl ?_); refine goesL_ (some 13) rfl rfl Try.func114 (by kernel_rfl) rfl #[.int .i64 a0, .slice A1 l1.length c1, .slice A2 l2.length c2] rfl z9_1 ?_; (with_reducible refine (impl_solve.calls k a0 _ _ l1 _ _ l2 t316 t317 t318 t319 _ ?side1 ?side2 ?side3 ?side4 A4.out).mono ?_); (case side1 => exact cZ (HR1.out)); (case side2 => exact HC1.out); (case side3 => exact cZ (HR2.out)); (case side4 => exact HC2.out); rintro e w5 ⟨rfl, hb⟩; refine ⟨_, rfl, ?_⟩; replace HB := Aside0.mk (below_step z9_2 hb); (try clear hb)) | ((with_reducible refine gate_dst (N := 7) rfl ?_); refine box_event ?hg (N := 7) ?hd (cs := #[.int .i64 0, .int .i64 0, .int .i64 0, .int .i64 0]) (t := 70) ?hr ?_; (case hd => rfl); (case hg => rfl); (case hr => first | (go_simp; done) | (go_simp; rfl)); intro gb320 hg w6 hbox hb; have BK320 := Aside0.mk (hbox); have GW320 := Aside0.mk ((by rw [hg]; exact (below_size z9_2) : w.heap.size ≤ gb320)); have GE320 := Aside0.mk ((by rw [hg]; exact (below_size z9_2) : w.heap.size ≤ gb320)); replace HB := Aside0.mk (below_step z9_2 hb); clear hb hbox hg; have hcz7_0 : w6.cell? ⟨gb320, 0, none⟩ = some (.int .i64 0) := (blk_cell BK320.out 0).trans rfl; have hfz7_0 := blk_frozen BK320.out 0; have hcz8_1 : w6.cell? ⟨gb320, 1, none⟩ = some (.int .i64 0) := (blk_cell BK320.out 1).trans rfl; have hfz8_1 := blk_frozen BK320.out 1; have hcz9_2 : w6.cell? ⟨gb320, 2, none⟩ = some (.int .i64 0) := (blk_cell BK320.out 2).trans rfl; have hfz9_2 := blk_frozen BK320.out 2; have hcz10_3 : w6.cell? ⟨gb320, 3, none⟩ = some (.int .i64 0) := (blk_cell BK320.out 3).trans rfl; have hfz10_3 := blk_frozen BK320.out 3) | ((with_reducible refine gate_store (t := 70) (p := 7) rfl ?_); refine store_event (t := 70) (p := 7) (v := ?vo_w11) (w1 := ((((w6.setCell ⟨gb320, 0, none⟩ (.int .i64 t316)).setCell ⟨gb320, 1, none⟩ (.int .i64 t317)).setCell ⟨gb320, 2, none⟩ (.int .i64 t318)).setCell ⟨gb320, 3, none⟩ (.int .i64 t319))) ?hg ?ho ?hn ?hr ?_; (case ho => rfl); (case hg => rfl); (case hn => rfl); (case hr => first | (go_simp; done) | (go_simp; rfl)); intro w11 hw; have n0_ : Aside0 (w11.heap[gb320]? = some (.cells #[.int .i64 t316, .int .i64 t317, .int .i64 t318, .int .i64 t319] 70 (0, 0))) := ⟨(by rw [hw]; exact (bZ BK320.out))⟩; have n1_ : Aside0 (Below w.heap.size w w11) := ⟨(by rw [hw]; exact z9_3)⟩; clear hw; clear BK320; clear HB; have BK320 := n0_; have HB := n1_; clear n0_ n1_))
 go_loopg [16] k (fun kq v16 w' => ∃ (x16_1 : Int), v16 = .int .i64 x16_1 ∧ Aside0 (impl_fits.l0 kq a0 l1 l2 (l2.length : Int) x16_1 t316 t317 t318 t319 = some r) ∧ Aside0 (kq ≤ k) ∧ Aside0 (w'.heap[gb320]? = some (.cells #[.int .i64 t316, .int .i64 t317, .int .i64 t318, .int .i64 t319] 70 (0, 0))) ∧ Aside0 (Below w.heap.size w w'))
 case atStart => exact ⟨(0), z9_6, H', ⟨Nat.le_refl _⟩, ⟨zL9 BK320.out⟩, ⟨z9_3⟩⟩
 case round =>
  clear H'
  try clear c1
  try clear c2
  try clear hcz10_3
  try clear hcz7_0
  try clear hcz8_1
  try clear hcz9_2
  try clear hfz10_3
  try clear hfz7_0
  try clear hfz8_1
  try clear hfz9_2
  obtain ⟨x16_1, rfl, HA, HK1, BK320, HB⟩ := hrel
  cases gk with
  | zero => exact absurd HA.out (by simp [impl_fits.l0])
  | succ k1 =>
   have H := HA.out
   clear HA
   simp only [impl_fits.l0] at H
   by_cases c12 : x16_1 < (l2.length : Int)
   ·rw [if_pos c12] at H
    have c12b0 : decide (x16_1 < (l2.length : Int)) = true := decide_eq_true c12
    clear c12
    obtain ⟨c13, H⟩ := ifP H
    have c13b0 : decide (0 ≤ x16_1) = true := decide_eq_true c13
    clear c13
    obtain ⟨c14, H⟩ := ifP H
    have c14b0 : decide (x16_1 < (l2.length : Int)) = true := decide_eq_true c14
    clear c14
    replace H := Option.bind_eq_some_iff.mp H
    obtain ⟨⟨t322, t323, t324, t325⟩, A150, H⟩ := H
    replace H : ((impl_vector_dot.f t322 t323 t324 t325 t316 t317 t318 t319).bind fun t326 => (if 0 ≤ (rd l2 x16_1) then (if (rd l2 x16_1) < (l1.length : Int) then (if t326 = (rd l1 (rd l2 x16_1)) then (impl_fits.l0 k1 a0 l1 l2 (l2.length : Int) (wrap64 (x16_1 + 1)) t316 t317 t318 t319) else (some false)) else (none)) else (none))) = some r := H
    have A15 := Aside0.mk A150
    clear A150
    replace H := Option.bind_eq_some_iff.mp H
    obtain ⟨t326, A160, H⟩ := H
    replace H : (if 0 ≤ (rd l2 x16_1) then (if (rd l2 x16_1) < (l1.length : Int) then (if t326 = (rd l1 (rd l2 x16_1)) then (impl_fits.l0 k1 a0 l1 l2 (l2.length : Int) (wrap64 (x16_1 + 1)) t316 t317 t318 t319) else (some false)) else (none)) else (none)) = some r := H
    have A16 := Aside0.mk A160
    clear A160
    obtain ⟨c17, H⟩ := ifP H
    have c17b0 : decide (0 ≤ (rd l2 x16_1)) = true := decide_eq_true c17
    clear c17
    obtain ⟨c18, H⟩ := ifP H
    have c18b0 : decide ((rd l2 x16_1) < (l1.length : Int)) = true := decide_eq_true c18
    clear c18
    by_cases c19 : t326 = (rd l1 (rd l2 x16_1))
    ·rw [if_pos c19] at H
     have c19b0 : (t326 == (rd l1 (rd l2 x16_1))) = true := beq_iff_eq.mpr c19
     have c19b1 : (t326 != (rd l1 (rd l2 x16_1))) = false := bne_eq_false_iff_eq.mpr c19
     clear c19
     have H' := Aside0.mk H
     clear H
     have p321 : 0 ≤ (x16_1 : Int) := of_decide_eq_true z9_5
     have q321 : x16_1 < (l2.length : Int) := of_decide_eq_true z9_5
     obtain ⟨ad321, e321, hx321_0⟩ := Kd.at_int HR2.out x16_1 p321 q321
     cases e321
     replace hx321_0 := (HB.out.cell (World.block_lt_of_cell? w _ hx321_0)).trans hx321_0
     replace p321 := eq_true p321
     replace q321 := eq_true q321
     try go_wp2
     replace BK320 := Aside0.mk (blk_drew BK320.out)
     replace HB := Aside0.mk (below_drew1 HB.out)
     have p327 : 0 ≤ ((rd l2 x16_1) : Int) := of_decide_eq_true z9_5
     have q327 : (rd l2 x16_1) < (l1.length : Int) := of_decide_eq_true z9_5
     obtain ⟨ad327, e327, hx327_0⟩ := Kd.at_int HR1.out (rd l2 x16_1) p327 q327
     have hw327_0 := hx327_0
     cases e327
     replace hx327_0 := (HB.out.cell (World.block_lt_of_cell? w _ hx327_0)).trans hx327_0
     replace p327 := eq_true p327
     replace q327 := eq_true q327
     refine start_ (n := 10) (S := fun w' => w'.cell? ⟨gb320, 0, none⟩ = some (.int .i64 t316) ∧ w'.cell? ⟨gb320, 1, none⟩ = some (.int .i64 t317) ∧ w'.cell? ⟨gb320, 2, none⟩ = some (.int .i64 t318) ∧ w'.cell? ⟨gb320, 3, none⟩ = some (.int .i64 t319) ∧ w'.cell? (ad327.add ((rd l2 x16_1)).toNat) = some (.int .i64 (rd l1 (rd l2 x16_1)))) (ds := []) #[false, false, false, false, false, false, false, false, false, false] (by kernel_rfl) rfl rfl ⟨(blk_cell BK320.out 0).trans rfl, (blk_cell BK320.out 1).trans rfl, (blk_cell BK320.out 2).trans rfl, (blk_cell BK320.out 3).trans rfl, ((HB.out.cell (World.block_lt_of_cell? w _ hw327_0)).trans hw327_0)⟩ (fun hHeld => ?_); refine with_tabW impl_fits.tab5 impl_fits.bits5 (fun HT_ HW_ => ?_)
     generalize wr.drew = w20 at BK320 HB hx327_0 hHeld ⊢
     refine pZ 0 HT_ ?_
     refine pZ 1 HT_ ?_
     refine pZ 5 HT_ ?_
     refine pZ 6 HT_ ?_
     refine pZ 7 HT_ ?_
     refine tZ 3 hHeld HT_ HW_ ?_
     refine tZ 8 hHeld HT_ HW_ ?_
     refine oZ 2 HT_ (fun K hK => ?_)
     refine goes_ Try.func111 (by kernel_rfl) rfl #[.int .i64 a0, .int .i64 (rd l2 x16_1)] (by rfl) rfl rfl z9_1 ?_
     with_reducible refine (impl_rowOf.calls a0 (rd l2 x16_1) t322 t323 t324 t325 _ A15.out).mono ?_
     rintro e w21 ⟨rfl, hb⟩
     refine ⟨_, rfl, ?_⟩
     replace BK320 := Aside0.mk (blk_below (g := gb320) (o := .cells #[.int .i64 t316, .int .i64 t317, .int .i64 t318, .int .i64 t319] 70 (0, 0)) (zL9 BK320.out) hb)
     replace HB := Aside0.mk (below_step z9_3 hb)
     (try clear hb)
     (try clear hb2)
     (try clear hk)
     (try clear hi)
     refine hK.out _ _ ⟨(blk_cell BK320.out 0).trans rfl, (blk_cell BK320.out 1).trans rfl, (blk_cell BK320.out 2).trans rfl, (blk_cell BK320.out 3).trans rfl, ((HB.out.cell (World.block_lt_of_cell? w _ hw327_0)).trans hw327_0)⟩ (fun hHeld => ?_)
     clear hK K
     refine nZ ?_
     refine oZ 4 HT_ (fun K hK => ?_)
     refine goes_ Try.func113 (by kernel_rfl) rfl #[.agg #[.int .i64 t322, .int .i64 t323, .int .i64 t324, .int .i64 t325], .agg #[.int .i64 t316, .int .i64 t317, .int .i64 t318, .int .i64 t319]] (by rfl) rfl rfl z9_1 ?_
     with_reducible refine (impl_vector_dot.calls t322 t323 t324 t325 t316 t317 t318 t319 t326 _ A16.out).mono ?_
     rintro e w22 ⟨rfl, hb⟩
     refine ⟨_, rfl, ?_⟩
     replace BK320 := Aside0.mk (blk_below (g := gb320) (o := .cells #[.int .i64 t316, .int .i64 t317, .int .i64 t318, .int .i64 t319] 70 (0, 0)) (zL9 BK320.out) hb)
     replace HB := Aside0.mk (below_step z9_3 hb)
     (try clear hb)
     (try clear hb2)
     (try clear hk)
     (try clear hi)
     refine hK.out _ _ ⟨(blk_cell BK320.out 0).trans rfl, (blk_cell BK320.out 1).trans rfl, (blk_cell BK320.out 2).trans rfl, (blk_cell BK320.out 3).trans rfl, ((HB.out.cell (World.block_lt_of_cell? w _ hw327_0)).trans hw327_0)⟩ (fun hHeld => ?_)
     clear hK K
     refine nZ ?_
     refine pZ 9 HT_ ?_
     refine done_ (done_of HT_.out (by kernel_rfl)) ?_
     try go_wp2
     go_roundg k1
     case measure => have := HK1.out; omega
     case rel => exact ⟨(wrap64 (x16_1 + 1)), z9_6, H', ⟨by have := HK1.out; omega⟩, ⟨zL9 BK320.out⟩, ⟨z9_3⟩⟩
    ·rw [if_neg c19] at H
     have c19b0 : (t326 == (rd l1 (rd l2 x16_1))) = false := beq_eq_false_iff_ne.mpr c19
     have c19b1 : (t326 != (rd l1 (rd l2 x16_1))) = true := bne_iff_ne.mpr c19
     obtain rfl := Option.some.inj H
     have p321 : 0 ≤ (x16_1 : Int) := of_decide_eq_true z9_5
     have q321 : x16_1 < (l2.length : Int) := of_decide_eq_true z9_5
     obtain ⟨ad321, e321, hx321_0⟩ := Kd.at_int HR2.out x16_1 p321 q321
     cases e321
     replace hx321_0 := (HB.out.cell (World.block_lt_of_cell? w _ hx321_0)).trans hx321_0
     replace p321 := eq_true p321
     replace q321 := eq_true q321
     try go_wp2
     replace BK320 := Aside0.mk (blk_drew BK320.out)
     replace HB := Aside0.mk (below_drew1 HB.out)
     have p327 : 0 ≤ ((rd l2 x16_1) : Int) := of_decide_eq_true z9_5
     have q327 : (rd l2 x16_1) < (l1.length : Int) := of_decide_eq_true z9_5
     obtain ⟨ad327, e327, hx327_0⟩ := Kd.at_int HR1.out (rd l2 x16_1) p327 q327
     have hw327_0 := hx327_0
     cases e327
     replace hx327_0 := (HB.out.cell (World.block_lt_of_cell? w _ hx327_0)).trans hx327_0
     replace p327 := eq_true p327
     replace q327 := eq_true q327
     refine start_ (n := 10) (S := fun w' => w'.cell? ⟨gb320, 0, none⟩ = some (.int .i64 t316) ∧ w'.cell? ⟨gb320, 1, none⟩ = some (.int .i64 t317) ∧ w'.cell? ⟨gb320, 2, none⟩ = some (.int .i64 t318) ∧ w'.cell? ⟨gb320, 3, none⟩ = some (.int .i64 t319) ∧ w'.cell? (ad327.add ((rd l2 x16_1)).toNat) = some (.int .i64 (rd l1 (rd l2 x16_1)))) (ds := []) #[false, false, false, false, false, false, false, false, false, false] (by kernel_rfl) rfl rfl ⟨(blk_cell BK320.out 0).trans rfl, (blk_cell BK320.out 1).trans rfl, (blk_cell BK320.out 2).trans rfl, (blk_cell BK320.out 3).trans rfl, ((HB.out.cell (World.block_lt_of_cell? w _ hw327_0)).trans hw327_0)⟩ (fun hHeld => ?_); refine with_tabW impl_fits.tab5 impl_fits.bits5 (fun HT_ HW_ => ?_)
     generalize wr.drew = w23 at BK320 HB hx327_0 hHeld ⊢
     refine pZ 0 HT_ ?_
     refine pZ 1 HT_ ?_
     refine pZ 5 HT_ ?_
     refine pZ 6 HT_ ?_
     refine pZ 7 HT_ ?_
     refine tZ 3 hHeld HT_ HW_ ?_
     refine tZ 8 hHeld HT_ HW_ ?_
     refine oZ 2 HT_ (fun K hK => ?_)
     refine goes_ Try.func111 (by kernel_rfl) rfl #[.int .i64 a0, .int .i64 (rd l2 x16_1)] (by rfl) rfl rfl z9_1 ?_
     with_reducible refine (impl_rowOf.calls a0 (rd l2 x16_1) t322 t323 t324 t325 _ A15.out).mono ?_
     rintro e w24 ⟨rfl, hb⟩
     refine ⟨_, rfl, ?_⟩
     replace BK320 := Aside0.mk (blk_below (g := gb320) (o := .cells #[.int .i64 t316, .int .i64 t317, .int .i64 t318, .int .i64 t319] 70 (0, 0)) (zL9 BK320.out) hb)
     replace HB := Aside0.mk (below_step z9_3 hb)
     (try clear hb)
     (try clear hb2)
     (try clear hk)
     (try clear hi)
     refine hK.out _ _ ⟨(blk_cell BK320.out 0).trans rfl, (blk_cell BK320.out 1).trans rfl, (blk_cell BK320.out 2).trans rfl, (blk_cell BK320.out 3).trans rfl, ((HB.out.cell (World.block_lt_of_cell? w _ hw327_0)).trans hw327_0)⟩ (fun hHeld => ?_)
     clear hK K
     refine nZ ?_
     refine oZ 4 HT_ (fun K hK => ?_)
     refine goes_ Try.func113 (by kernel_rfl) rfl #[.agg #[.int .i64 t322, .int .i64 t323, .int .i64 t324, .int .i64 t325], .agg #[.int .i64 t316, .int .i64 t317, .int .i64 t318, .int .i64 t319]] (by rfl) rfl rfl z9_1 ?_
     with_reducible refine (impl_vector_dot.calls t322 t323 t324 t325 t316 t317 t318 t319 t326 _ A16.out).mono ?_
     rintro e w25 ⟨rfl, hb⟩
     refine ⟨_, rfl, ?_⟩
     replace BK320 := Aside0.mk (blk_below (g := gb320) (o := .cells #[.int .i64 t316, .int .i64 t317, .int .i64 t318, .int .i64 t319] 70 (0, 0)) (zL9 BK320.out) hb)
     replace HB := Aside0.mk (below_step z9_3 hb)
     (try clear hb)
     (try clear hb2)
     (try clear hk)
     (try clear hi)
     refine hK.out _ _ ⟨(blk_cell BK320.out 0).trans rfl, (blk_cell BK320.out 1).trans rfl, (blk_cell BK320.out 2).trans rfl, (blk_cell BK320.out 3).trans rfl, ((HB.out.cell (World.block_lt_of_cell? w _ hw327_0)).trans hw327_0)⟩ (fun hHeld => ?_)
     clear hK K
     refine nZ ?_
     refine pZ 9 HT_ ?_
     refine done_ (done_of HT_.out (by kernel_rfl)) ?_
     try go_wp2
     go_ret
     exact ⟨z9_4, z9_3⟩
   ·rw [if_neg c12] at H
    have c12b0 : decide (x16_1 < (l2.length : Int)) = false := decide_eq_false c12
    clear c12
    obtain rfl := Option.some.inj H
    go_wp2
    go_ret
    exact ⟨z9_4, z9_3⟩

/-! ### impl_CodeFits: function 45 -/
def impl_CodeFits.f (k : Nat) (a0 : Int) (l1 : List Int) (l2 : List Bool) : Option (Bool) := (impl_kindOk.f a0).bind fun t328 => (if t328 = true then ((impl_valsOk.f l1).bind fun t329 => (if t329 = true then (if (l2.length : Int) = 8 then ((impl_flagged.f k l2).bind fun t330 => ((impl_fits.f k a0 l1 t330).bind fun t333 => (some t333))) else (some false)) else (some false))) else (some false))
set_option maxHeartbeats 8000000 in
set_option maxRecDepth 100000 in
theorem impl_CodeFits.calls (k : Nat) (a0 : Int) (A1 : Option Addr) (c1 : Nat) (l1 : List Int) (A2 : Option Addr) (c2 : Nat) (l2 : List Bool) (r : Bool) (w : World) (hr1 : Kd.C (Kd.int .i64) w A1 l1.length l1) (hc1 : l1.length ≤ c1) (hr2 : Kd.C Kd.bool w A2 l2.length l2) (hc2 : l2.length ≤ c2) (h : impl_CodeFits.f k a0 l1 l2 = some r) :
  Calls Try.prog 45 #[.int .i64 a0, .slice A1 l1.length c1, .slice A2 l2.length c2] w fun e w' => e = .returned (.bool r) ∧ Below w.heap.size w w' := by
 have HR1 := Aside0.mk hr1
 have HC1 := Aside0.mk hc1
 clear hr1 hc1
 have HR2 := Aside0.mk hr2
 have HC2 := Aside0.mk hc2
 clear hr2 hc2
 have HB := Aside0.mk (Below.refl w.heap.size w)
 have H : ((impl_kindOk.f a0).bind fun t328 => (if t328 = true then ((impl_valsOk.f l1).bind fun t329 => (if t329 = true then (if (l2.length : Int) = 8 then ((impl_flagged.f k l2).bind fun t330 => ((impl_fits.f k a0 l1 t330).bind fun t333 => (some t333))) else (some false)) else (some false))) else (some false))) = some r := h
 clear h
 replace H := Option.bind_eq_some_iff.mp H
 obtain ⟨t328, A40, H⟩ := H
 replace H : (if t328 = true then ((impl_valsOk.f l1).bind fun t329 => (if t329 = true then (if (l2.length : Int) = 8 then ((impl_flagged.f k l2).bind fun t330 => ((impl_fits.f k a0 l1 t330).bind fun t333 => (some t333))) else (some false)) else (some false))) else (some false)) = some r := H
 have A4 := Aside0.mk A40
 clear A40
 by_cases c5 : t328 = true
 ·subst c5
  have H1 : ((impl_valsOk.f l1).bind fun t329 => (if t329 = true then (if (l2.length : Int) = 8 then ((impl_flagged.f k l2).bind fun t330 => ((impl_fits.f k a0 l1 t330).bind fun t333 => (some t333))) else (some false)) else (some false))) = some r := by rw [if_pos rfl] at H; exact H
  clear H
  have H := H1
  clear H1
  replace H := Option.bind_eq_some_iff.mp H
  obtain ⟨t329, A60, H⟩ := H
  replace H : (if t329 = true then (if (l2.length : Int) = 8 then ((impl_flagged.f k l2).bind fun t330 => ((impl_fits.f k a0 l1 t330).bind fun t333 => (some t333))) else (some false)) else (some false)) = some r := H
  have A6 := Aside0.mk A60
  clear A60
  by_cases c7 : t329 = true
  ·subst c7
   have H1 : (if (l2.length : Int) = 8 then ((impl_flagged.f k l2).bind fun t330 => ((impl_fits.f k a0 l1 t330).bind fun t333 => (some t333))) else (some false)) = some r := by rw [if_pos rfl] at H; exact H
   clear H
   have H := H1
   clear H1
   by_cases c8 : (l2.length : Int) = 8
   ·rw [if_pos c8] at H
    have c8b0 : ((l2.length : Int) == 8) = true := beq_iff_eq.mpr c8
    have c8b1 : ((l2.length : Int) != 8) = false := bne_eq_false_iff_eq.mpr c8
    clear c8
    replace H := Option.bind_eq_some_iff.mp H
    obtain ⟨t330, A90, H⟩ := H
    replace H : ((impl_fits.f k a0 l1 t330).bind fun t333 => (some t333)) = some r := H
    have A9 := Aside0.mk A90
    clear A90
    replace H := Option.bind_eq_some_iff.mp H
    obtain ⟨t333, A100, H⟩ := H
    replace H : (some t333) = some r := H
    have A10 := Aside0.mk A100
    clear A100
    obtain rfl := Option.some.inj H
    go_enter Try.func45, Try.ntmps45
    go_wp2_with (first | ((with_reducible refine gate_callee (f := 68) rfl ?_); refine goesL_ (some 8) rfl rfl Try.func68 (by kernel_rfl) rfl #[.int .i64 a0] rfl z9_1 ?_; (with_reducible refine (impl_kindOk.calls a0 true _ A4.out).mono ?_); rintro e w' ⟨rfl, ⟨nd, rfl⟩⟩; refine ⟨_, rfl, ?_⟩) | (go_at_call 83; (with_reducible refine (impl_valsOk.calls _ _ l1 true _ ?side1 ?side2 A6.out).mono ?_); (case side1 => exact cZ (HR1.out)); (case side2 => exact HC1.out); rintro e w' ⟨rfl, ⟨nd, rfl⟩⟩) | (go_at_call 70; (with_reducible refine (impl_flagged.calls k _ _ l2 t330 _ ?side1 ?side2 A9.out).mono ?_); (case side1 => exact cZ (HR2.out)); (case side2 => exact HC2.out); rintro e w11 ⟨v331, rfl, ho0, hb⟩; have HO332 := Aside0.mk (Kd.R_lower ho0 (below_size z9_2)); replace HB := Aside0.mk (below_step z9_2 hb); (try clear hb); (try clear ho0); obtain ⟨Ao12, co12, eo12⟩ := Kd.R_slice HO332.out; subst eo12) | (go_at_call 84; (with_reducible refine (impl_fits.calls k a0 _ _ l1 _ _ t330 t333 _ ?side1 ?side2 ?side3 ?side4 A10.out).mono ?_); (case side1 => exact cZ ((Kd.C_below HR1.out HB.out))); (case side2 => exact HC1.out); (case side3 => exact cZ ((Kd.R_reads' HO332.out).2.2)); (case side4 => exact (Kd.R_reads' HO332.out).2.1); rintro e w13 ⟨rfl, hb⟩; replace HO332 := Aside0.mk (Kd.R_below (by (with_reducible repeat (first | apply Kd.R_alloc | apply Kd.R_drewN | apply Kd.R_drew)); exact HO332.out) hb); replace HB := Aside0.mk (below_step z9_2 hb); (try clear hb)))
    go_ret
    exact ⟨z9_4, z9_2⟩
   ·rw [if_neg c8] at H
    have c8b0 : ((l2.length : Int) == 8) = false := beq_eq_false_iff_ne.mpr c8
    have c8b1 : ((l2.length : Int) != 8) = true := bne_iff_ne.mpr c8
    obtain rfl := Option.some.inj H
    go_enter Try.func45, Try.ntmps45
    go_wp2_with (first | ((with_reducible refine gate_callee (f := 68) rfl ?_); refine goesL_ (some 8) rfl rfl Try.func68 (by kernel_rfl) rfl #[.int .i64 a0] rfl z9_1 ?_; (with_reducible refine (impl_kindOk.calls a0 true _ A4.out).mono ?_); rintro e w' ⟨rfl, ⟨nd, rfl⟩⟩; refine ⟨_, rfl, ?_⟩) | (go_at_call 83; (with_reducible refine (impl_valsOk.calls _ _ l1 true _ ?side1 ?side2 A6.out).mono ?_); (case side1 => exact cZ (HR1.out)); (case side2 => exact HC1.out); rintro e w' ⟨rfl, ⟨nd, rfl⟩⟩))
    go_ret
    exact ⟨z9_4, z9_2⟩
  ·replace c7 := Bool.eq_false_iff.mpr c7
   subst c7
   have H1 : (some false) = some r := by rw [if_neg (show ¬ (false = true) by decide)] at H; exact H
   clear H
   have H := H1
   clear H1
   obtain rfl := Option.some.inj H
   go_enter Try.func45, Try.ntmps45
   go_wp2_with (first | ((with_reducible refine gate_callee (f := 68) rfl ?_); refine goesL_ (some 8) rfl rfl Try.func68 (by kernel_rfl) rfl #[.int .i64 a0] rfl z9_1 ?_; (with_reducible refine (impl_kindOk.calls a0 true _ A4.out).mono ?_); rintro e w' ⟨rfl, ⟨nd, rfl⟩⟩; refine ⟨_, rfl, ?_⟩) | (go_at_call 83; (with_reducible refine (impl_valsOk.calls _ _ l1 false _ ?side1 ?side2 A6.out).mono ?_); (case side1 => exact cZ (HR1.out)); (case side2 => exact HC1.out); rintro e w' ⟨rfl, ⟨nd, rfl⟩⟩))
   go_ret
   exact ⟨z9_4, z9_2⟩
 ·replace c5 := Bool.eq_false_iff.mpr c5
  subst c5
  have H1 : (some false) = some r := by rw [if_neg (show ¬ (false = true) by decide)] at H; exact H
  clear H
  have H := H1
  clear H1
  obtain rfl := Option.some.inj H
  go_enter Try.func45, Try.ntmps45
  go_wp2_with (first | ((with_reducible refine gate_callee (f := 68) rfl ?_); refine goesL_ (some 8) rfl rfl Try.func68 (by kernel_rfl) rfl #[.int .i64 a0] rfl z9_1 ?_; (with_reducible refine (impl_kindOk.calls a0 false _ A4.out).mono ?_); rintro e w' ⟨rfl, ⟨nd, rfl⟩⟩; refine ⟨_, rfl, ?_⟩))
  go_ret
  exact ⟨z9_4, z9_2⟩

/-! ### spec_l6In: function 105 -/
def spec_l6In.f (a0 : Int) (a1 : Int) (a2 : Int) : Option (Bool) := if a0 ≥ a1 then (some (decide (a0 ≤ a2))) else (some false)
set_option maxHeartbeats 8000000 in
set_option maxRecDepth 100000 in
theorem spec_l6In.calls (a0 : Int) (a1 : Int) (a2 : Int) (r : Bool) (w : World) (h : spec_l6In.f a0 a1 a2 = some r) :
  Calls Try.prog 105 #[.int .i64 a0, .int .i64 a1, .int .i64 a2] w fun e w' => e = .returned (.bool r) ∧ Drawn0 w w' := by
 have H : (if a0 ≥ a1 then (some (decide (a0 ≤ a2))) else (some false)) = some r := h
 clear h
 by_cases c4 : a0 ≥ a1
 ·rw [if_pos c4] at H
  have c4b0 : decide (a1 ≤ a0) = true := decide_eq_true c4
  clear c4
  obtain rfl := Option.some.inj H
  go_enter Try.func105, Try.ntmps105
  go_wp2
  go_ret
  exact ⟨z9_6, z9_7⟩
 ·rw [if_neg c4] at H
  have c4b0 : decide (a1 ≤ a0) = false := decide_eq_false c4
  clear c4
  obtain rfl := Option.some.inj H
  go_enter Try.func105, Try.ntmps105
  go_wp2
  go_ret
  exact ⟨z9_6, z9_7⟩

/-! ### spec_l4Kind: function 66 -/
def spec_l4Kind.f (a0 : Int) : Option (Bool) := (spec_l6In.f a0 1 2).bind fun t334 => (some t334)
set_option maxHeartbeats 8000000 in
set_option maxRecDepth 100000 in
theorem spec_l4Kind.calls (a0 : Int) (r : Bool) (w : World) (h : spec_l4Kind.f a0 = some r) :
  Calls Try.prog 66 #[.int .i64 a0] w fun e w' => e = .returned (.bool r) ∧ Drawn0 w w' := by
 have H : ((spec_l6In.f a0 1 2).bind fun t334 => (some t334)) = some r := h
 clear h
 replace H := Option.bind_eq_some_iff.mp H
 obtain ⟨t334, A20, H⟩ := H
 replace H : (some t334) = some r := H
 have A2 := Aside0.mk A20
 clear A20
 obtain rfl := Option.some.inj H
 go_enter Try.func66, Try.ntmps66
 go_wp2_with (first | ((with_reducible refine gate_callee (f := 105) rfl ?_); refine goesL_ (some 4) rfl rfl Try.func105 (by kernel_rfl) rfl #[.int .i64 a0, .int .i64 1, .int .i64 2] rfl z9_1 ?_; (with_reducible refine (spec_l6In.calls a0 1 2 t334 _ A2.out).mono ?_); rintro e w' ⟨rfl, ⟨nd, rfl⟩⟩; refine ⟨_, rfl, ?_⟩))
 go_ret
 exact ⟨z9_6, z9_7⟩

/-! ### spec_FieldOk: function 97 -/
def spec_FieldOk.f (a0 : Int) : Option (Bool) := (spec_l6In.f a0 0 30).bind fun t335 => (some t335)
set_option maxHeartbeats 8000000 in
set_option maxRecDepth 100000 in
theorem spec_FieldOk.calls (a0 : Int) (r : Bool) (w : World) (h : spec_FieldOk.f a0 = some r) :
  Calls Try.prog 97 #[.int .i64 a0] w fun e w' => e = .returned (.bool r) ∧ Drawn0 w w' := by
 have H : ((spec_l6In.f a0 0 30).bind fun t335 => (some t335)) = some r := h
 clear h
 replace H := Option.bind_eq_some_iff.mp H
 obtain ⟨t335, A20, H⟩ := H
 replace H : (some t335) = some r := H
 have A2 := Aside0.mk A20
 clear A20
 obtain rfl := Option.some.inj H
 go_enter Try.func97, Try.ntmps97
 go_wp2_with (first | ((with_reducible refine gate_callee (f := 105) rfl ?_); refine goesL_ (some 4) rfl rfl Try.func105 (by kernel_rfl) rfl #[.int .i64 a0, .int .i64 0, .int .i64 30] rfl z9_1 ?_; (with_reducible refine (spec_l6In.calls a0 0 30 t335 _ A2.out).mono ?_); rintro e w' ⟨rfl, ⟨nd, rfl⟩⟩; refine ⟨_, rfl, ?_⟩))
 go_ret
 exact ⟨z9_6, z9_7⟩

end Go.Proofs.Ytamaejafddmagaa.PA
