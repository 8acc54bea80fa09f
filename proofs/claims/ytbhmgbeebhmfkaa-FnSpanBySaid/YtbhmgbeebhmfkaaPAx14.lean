-- Written by a program of this session (after the manner of the kit's print, several laws in one text).
import Derived.Test.YtbhmgbeebhmfkaaPAx0
import Derived.Test.YtbhmgbeebhmfkaaGw
import Derived.Test.YtbhmgbeebhmfkaaGm
namespace Go.Proofs.Ytbhmgbeebhmfkaa.PA
open Go.RowKit Go.Proofs.YtbhmgbeebhmfkaaW.PrintWords Go.Proofs.YtbhmgbeebhmfkaaW.PrintLast Go.Proofs.YtbhmgbeebhmfkaaW.PrintMore
attribute [local go_sem] max2_int min2_int max_two min_two max_three min_three max_four min_four   -- for this text's walks alone
set_option linter.unusedVariables false
set_option linter.unusedSimpArgs false

/-! ### laws_lkInts: function 37 -/
theorem zL14 {p q : Prop} (h : q) (t : q → p := by intro h_; (with_reducible repeat first|refine blk_drewN ?_ _|refine blk_drew ?_|refine blk_alloc ?_ _); exact h_) : p := t h
theorem z14_1 {p : Prop} (h : p := by repeat (first | (with_reducible first | exact HB.out | apply below_alloc | apply pw_below_drewN | apply below_drew1 | refine below_set ?_ GE451.out | refine below_set ?_ GE457.out) | exact HB.out)) : p := h
theorem z14_2 {p : Prop} (h : p := by repeat (first | (with_reducible first | exact HB.out | apply below_alloc | apply pw_below_drewN | apply below_drew1 | refine below_set ?_ GE471.out) | exact HB.out)) : p := h
theorem z14_3 {p : Prop} (h : p := by (try simp only [List.map_toArray, List.map_cons, List.map_nil]); first | done | rfl | (simp only [List.length_drop, List.length_take]; rfl)) : p := h
theorem z14_4 {p : Prop} (h : p := by repeat (first | (with_reducible first | exact HB.out | apply below_alloc | apply pw_below_drewN | apply below_drew1) | exact HB.out)) : p := h
theorem z14_5 {p : Prop} (h : p := by repeat (first | (with_reducible first | exact HB.out | apply below_alloc | apply pw_below_drewN | apply below_drew1 | refine below_set ?_ GE451.out) | exact HB.out)) : p := h
theorem z14_6 {p : Prop} (h : p := by first | rfl | (simp; done) | (simp [*]; done)) : p := h
theorem z14_7 {p : Prop} (h : p := by repeat (first | exact Drawn0.refl _ | apply Drawn0.step)) : p := h
theorem z14_8 {p : Prop} (h : p := by first | (with_reducible assumption) | assumption) : p := h
theorem z14_9 {p : Prop} (h : p := by first | rfl | (simp [errW_none, errW_some] <;> rfl) | (simp [*, errW_none, errW_some] <;> rfl)) : p := h
theorem z14_10 {p : Prop} (h : p := by first | exact Kd.R_nil _ _ _ _ _ | exact Kd.N_nil _ _ _ _ _ | exact Kd.V_nil _ _ _ _ _ | exact Kd.Q_nil _ _ _ _ _ | exact Kd.S_nil _ _ _ _ _) : p := h
def laws_lkInts.l0 : Nat → List Int → List Int → Int → Option (Bool)
  | 0, _, _, _ => none
  | k + 1, x0, x1, x5 => if x5 < (x0.length : Int) then (if 0 ≤ x5 then (if x5 < (x1.length : Int) then (if (rd x0 x5) = (rd x1 x5) then (laws_lkInts.l0 k x0 x1 (wrap64 (x5 + 1))) else (some false)) else (none)) else (none)) else (some true)
def laws_lkInts.f (k : Nat) (l0 : List Int) (l1 : List Int) : Option (Bool) := if (l0.length : Int) = (l1.length : Int) then (laws_lkInts.l0 k l0 l1 0) else (some false)
set_option maxHeartbeats 8000000 in
set_option maxRecDepth 100000 in
theorem laws_lkInts.calls (k : Nat) (A0 : Option Addr) (c0 : Nat) (l0 : List Int) (A1 : Option Addr) (c1 : Nat) (l1 : List Int) (r : Bool) (w : World) (hr0 : Kd.C (Kd.int .i64) w A0 l0.length l0) (hc0 : l0.length ≤ c0) (hr1 : Kd.C (Kd.int .i64) w A1 l1.length l1) (hc1 : l1.length ≤ c1) (h : laws_lkInts.f k l0 l1 = some r) :
  Calls Try.prog 37 #[.slice A0 l0.length c0, .slice A1 l1.length c1] w fun e w' => e = .returned (.bool r) ∧ Drawn0 w w' := by
 have HR0 := Aside0.mk hr0
 have HC0 := Aside0.mk hc0
 clear hr0 hc0
 have HR1 := Aside0.mk hr1
 have HC1 := Aside0.mk hc1
 clear hr1 hc1
 have H : (if (l0.length : Int) = (l1.length : Int) then (laws_lkInts.l0 k l0 l1 0) else (some false)) = some r := h
 clear h
 by_cases c3 : (l0.length : Int) = (l1.length : Int)
 ·rw [if_pos c3] at H
  have c3b0 : ((l0.length : Int) == (l1.length : Int)) = true := beq_iff_eq.mpr c3
  have c3b1 : ((l0.length : Int) != (l1.length : Int)) = false := bne_eq_false_iff_eq.mpr c3
  have c3b2 : (l0.length == l1.length) = true := by first | simpa using c3 | (simp at c3 ⊢; omega)
  clear c3
  have H' := Aside0.mk H
  clear H
  go_enter Try.func37, Try.ntmps37
  go_wp2
  repeat (go_quiet (fail); try go_wp2)
  go_loopg [5] k (fun kq v5 w' => ∃ (x5_1 : Int), v5 = .int .i64 x5_1 ∧ Aside0 (laws_lkInts.l0 kq l0 l1 x5_1 = some r) ∧ Aside0 (kq ≤ k) ∧ Drawn0 w w')
  case atStart => exact ⟨(0), z14_6, H', ⟨Nat.le_refl _⟩, z14_7⟩
  case round =>
   clear H'
   try clear c1
   try clear c3
   try clear c3b0
   try clear c3b1
   try clear c3b2
   obtain ⟨x5_1, rfl, HA, HK1, ⟨m1, rfl⟩⟩ := hrel
   cases gk with
   | zero => exact absurd HA.out (by simp [laws_lkInts.l0])
   | succ k1 =>
    have H := HA.out
    clear HA
    simp only [laws_lkInts.l0] at H
    by_cases c4 : x5_1 < (l0.length : Int)
    ·rw [if_pos c4] at H
     have c4b0 : decide (x5_1 < (l0.length : Int)) = true := decide_eq_true c4
     clear c4
     obtain ⟨c5, H⟩ := ifP H
     have c5b0 : decide (0 ≤ x5_1) = true := decide_eq_true c5
     clear c5
     obtain ⟨c6, H⟩ := ifP H
     have c6b0 : decide (x5_1 < (l1.length : Int)) = true := decide_eq_true c6
     clear c6
     by_cases c7 : (rd l0 x5_1) = (rd l1 x5_1)
     ·rw [if_pos c7] at H
      have c7b0 : ((rd l0 x5_1) == (rd l1 x5_1)) = true := beq_iff_eq.mpr c7
      have c7b1 : ((rd l0 x5_1) != (rd l1 x5_1)) = false := bne_eq_false_iff_eq.mpr c7
      clear c7
      have H' := Aside0.mk H
      clear H
      have p444 : 0 ≤ (x5_1 : Int) := of_decide_eq_true z14_8
      have q444 : x5_1 < (l0.length : Int) := of_decide_eq_true z14_8
      obtain ⟨ad444, e444, hx444_0⟩ := Kd.at_int HR0.out x5_1 p444 q444
      cases e444
      replace p444 := eq_true p444
      replace q444 := eq_true q444
      have p445 : 0 ≤ (x5_1 : Int) := of_decide_eq_true z14_8
      have q445 : x5_1 < (l1.length : Int) := of_decide_eq_true z14_8
      obtain ⟨ad445, e445, hx445_0⟩ := Kd.at_int HR1.out x5_1 p445 q445
      cases e445
      replace p445 := eq_true p445
      replace q445 := eq_true q445
      go_wp2
      repeat (go_quiet (fail); try go_wp2)
      go_roundg k1
      case measure => have := HK1.out; omega
      case rel => exact ⟨(wrap64 (x5_1 + 1)), z14_6, H', ⟨by have := HK1.out; omega⟩, z14_7⟩
     ·rw [if_neg c7] at H
      have c7b0 : ((rd l0 x5_1) == (rd l1 x5_1)) = false := beq_eq_false_iff_ne.mpr c7
      have c7b1 : ((rd l0 x5_1) != (rd l1 x5_1)) = true := bne_iff_ne.mpr c7
      obtain rfl := Option.some.inj H
      have p444 : 0 ≤ (x5_1 : Int) := of_decide_eq_true z14_8
      have q444 : x5_1 < (l0.length : Int) := of_decide_eq_true z14_8
      obtain ⟨ad444, e444, hx444_0⟩ := Kd.at_int HR0.out x5_1 p444 q444
      cases e444
      replace p444 := eq_true p444
      replace q444 := eq_true q444
      have p445 : 0 ≤ (x5_1 : Int) := of_decide_eq_true z14_8
      have q445 : x5_1 < (l1.length : Int) := of_decide_eq_true z14_8
      obtain ⟨ad445, e445, hx445_0⟩ := Kd.at_int HR1.out x5_1 p445 q445
      cases e445
      replace p445 := eq_true p445
      replace q445 := eq_true q445
      go_wp2
      repeat (go_quiet (fail); try go_wp2)
      go_ret
      exact ⟨z14_6, z14_7⟩
    ·rw [if_neg c4] at H
     have c4b0 : decide (x5_1 < (l0.length : Int)) = false := decide_eq_false c4
     clear c4
     obtain rfl := Option.some.inj H
     go_wp2
     repeat (go_quiet (fail); try go_wp2)
     go_ret
     exact ⟨z14_6, z14_7⟩
 ·rw [if_neg c3] at H
  have c3b0 : ((l0.length : Int) == (l1.length : Int)) = false := beq_eq_false_iff_ne.mpr c3
  have c3b1 : ((l0.length : Int) != (l1.length : Int)) = true := bne_iff_ne.mpr c3
  have c3b2 : (l0.length == l1.length) = false := by first | simpa using c3 | (simp at c3 ⊢; omega)
  obtain rfl := Option.some.inj H
  go_enter Try.func37, Try.ntmps37
  go_wp2
  repeat (go_quiet (fail); try go_wp2)
  go_ret
  exact ⟨z14_6, z14_7⟩

-- GIVEN: function 61 (impl_vector_list)

/-! ### impl_VecSum: function 68 -/
def impl_VecSum.j0 : Nat → Bool → Int → Int → Int → Int → Int → Int → Int → Int → Option (List Int)
  | 0, _, _, _, _, _, _, _, _, _ => none
  | k + 1, x24, x452000, x452001, x452002, x452003, x458000, x458001, x458002, x458003 => if x24 = true then (some ([] : List Int)) else ((impl_vector_plus.f x452000 x452001 x452002 x452003 x458000 x458001 x458002 x458003).bind fun bt458 => ((impl_vector_list.f bt458.1 bt458.2.1 bt458.2.2.1 bt458.2.2.2).bind fun t462 => (some t462)))
def impl_VecSum.f (k : Nat) (l0 : List Int) (l1 : List Int) : Option (List Int) := (impl_vectorOf.f l0).bind fun bt446 => ((impl_vectorOf.f l1).bind fun bt452 => (if bt446.2.2.2.2 = true then (impl_VecSum.j0 k (!bt452.2.2.2.2) bt446.1 bt446.2.1 bt446.2.2.1 bt446.2.2.2.1 bt452.1 bt452.2.1 bt452.2.2.1 bt452.2.2.2.1) else (impl_VecSum.j0 k true bt446.1 bt446.2.1 bt446.2.2.1 bt446.2.2.2.1 bt452.1 bt452.2.1 bt452.2.2.1 bt452.2.2.2.1)))
set_option maxHeartbeats 8000000 in
set_option maxRecDepth 100000 in
theorem impl_VecSum.calls (k : Nat) (A0 : Option Addr) (c0 : Nat) (l0 : List Int) (A1 : Option Addr) (c1 : Nat) (l1 : List Int) (r : List Int) (w : World) (hr0 : Kd.C (Kd.int .i64) w A0 l0.length l0) (hc0 : l0.length ≤ c0) (hr1 : Kd.C (Kd.int .i64) w A1 l1.length l1) (hc1 : l1.length ≤ c1) (h : impl_VecSum.f k l0 l1 = some r) :
  Calls Try.prog 68 #[.slice A0 l0.length c0, .slice A1 l1.length c1] w fun e w' => ∃ v0_ : Value, e = .returned (v0_) ∧ Kd.R (Kd.int .i64) 3 w' w.heap.size (fun _ => True) v0_ r ∧ Below w.heap.size w w' := by
 have hu59 := Try.underlying59
 have HR0 := Aside0.mk hr0
 have HC0 := Aside0.mk hc0
 clear hr0 hc0
 have HR1 := Aside0.mk hr1
 have HC1 := Aside0.mk hc1
 clear hr1 hc1
 have HB := Aside0.mk (Below.refl w.heap.size w)
 have H : ((impl_vectorOf.f l0).bind fun bt446 => ((impl_vectorOf.f l1).bind fun bt452 => (if bt446.2.2.2.2 = true then (impl_VecSum.j0 k (!bt452.2.2.2.2) bt446.1 bt446.2.1 bt446.2.2.1 bt446.2.2.2.1 bt452.1 bt452.2.1 bt452.2.2.1 bt452.2.2.2.1) else (impl_VecSum.j0 k true bt446.1 bt446.2.1 bt446.2.2.1 bt446.2.2.2.1 bt452.1 bt452.2.1 bt452.2.2.1 bt452.2.2.2.1)))) = some r := h
 clear h
 replace H := Option.bind_eq_some_iff.mp H
 obtain ⟨⟨t446, t447, t448, t449, t450⟩, A30, H⟩ := H
 replace H : ((impl_vectorOf.f l1).bind fun bt452 => (if t450 = true then (impl_VecSum.j0 k (!bt452.2.2.2.2) t446 t447 t448 t449 bt452.1 bt452.2.1 bt452.2.2.1 bt452.2.2.2.1) else (impl_VecSum.j0 k true t446 t447 t448 t449 bt452.1 bt452.2.1 bt452.2.2.1 bt452.2.2.2.1))) = some r := H
 have A3 := Aside0.mk A30
 clear A30
 replace H := Option.bind_eq_some_iff.mp H
 obtain ⟨⟨t452, t453, t454, t455, t456⟩, A40, H⟩ := H
 replace H : (if t450 = true then (impl_VecSum.j0 k (!t456) t446 t447 t448 t449 t452 t453 t454 t455) else (impl_VecSum.j0 k true t446 t447 t448 t449 t452 t453 t454 t455)) = some r := H
 have A4 := Aside0.mk A40
 clear A40
 have HC5 := Aside0.mk H
 clear H
 go_enter Try.func68, Try.ntmps68
 go_upto_region 3 with (first | ((with_reducible refine gate_callee (f := 56) rfl ?_); refine goesL_ (some 11) rfl rfl Try.func56 (by kernel_rfl) rfl #[.slice A0 l0.length c0] rfl z14_3 ?_; (with_reducible refine (impl_vectorOf.calls _ _ l0 t446 t447 t448 t449 t450 _ ?side1 ?side2 A3.out).mono ?_); (case side1 => exact cZ (HR0.out)); (case side2 => exact HC0.out); rintro e w6 ⟨rfl, hb⟩; refine ⟨_, rfl, ?_⟩; replace HB := Aside0.mk (below_step z14_4 hb); (try clear hb)) | ((with_reducible refine gate_dst (N := 5) rfl ?_); refine box_event ?hg (N := 5) ?hd (cs := #[.int .i64 0, .int .i64 0, .int .i64 0, .int .i64 0]) (t := 59) ?hr ?_; (case hd => rfl); (case hg => rfl); (case hr => first | (go_simp; done) | (go_simp; rfl)); intro gb451 hg w7 hbox hb; have BK451 := Aside0.mk (hbox); have GW451 := Aside0.mk ((by rw [hg]; exact (below_size z14_4) : w.heap.size ≤ gb451)); have GE451 := Aside0.mk ((by rw [hg]; exact (below_size z14_4) : w.heap.size ≤ gb451)); replace HB := Aside0.mk (below_step z14_4 hb); clear hb hbox hg; have hcz8_0 : w7.cell? ⟨gb451, 0, none⟩ = some (.int .i64 0) := (blk_cell BK451.out 0).trans rfl; have hfz8_0 := blk_frozen BK451.out 0; have hcz9_1 : w7.cell? ⟨gb451, 1, none⟩ = some (.int .i64 0) := (blk_cell BK451.out 1).trans rfl; have hfz9_1 := blk_frozen BK451.out 1; have hcz10_2 : w7.cell? ⟨gb451, 2, none⟩ = some (.int .i64 0) := (blk_cell BK451.out 2).trans rfl; have hfz10_2 := blk_frozen BK451.out 2; have hcz11_3 : w7.cell? ⟨gb451, 3, none⟩ = some (.int .i64 0) := (blk_cell BK451.out 3).trans rfl; have hfz11_3 := blk_frozen BK451.out 3) | ((with_reducible refine gate_store (t := 59) (p := 5) rfl ?_); refine store_event (t := 59) (p := 5) (v := ?vo_w12) (w1 := ((((w7.setCell ⟨gb451, 0, none⟩ (.int .i64 t446)).setCell ⟨gb451, 1, none⟩ (.int .i64 t447)).setCell ⟨gb451, 2, none⟩ (.int .i64 t448)).setCell ⟨gb451, 3, none⟩ (.int .i64 t449))) ?hg ?ho ?hn ?hr ?_; (case ho => rfl); (case hg => rfl); (case hn => rfl); (case hr => first | (go_simp; done) | (go_simp; rfl)); intro w12 hw; have n0_ : Aside0 (w12.heap[gb451]? = some (.cells #[.int .i64 t446, .int .i64 t447, .int .i64 t448, .int .i64 t449] 59 (0, 0))) := ⟨(by rw [hw]; exact (bZ BK451.out))⟩; have n1_ : Aside0 (Below w.heap.size w w12) := ⟨(by rw [hw]; exact z14_5)⟩; clear hw; clear BK451; clear HB; have BK451 := n0_; have HB := n1_; clear n0_ n1_) | ((with_reducible refine gate_callee (f := 56) rfl ?_); refine goesL_ (some 16) rfl rfl Try.func56 (by kernel_rfl) rfl #[.slice A1 l1.length c1] rfl z14_3 ?_; (with_reducible refine (impl_vectorOf.calls _ _ l1 t452 t453 t454 t455 t456 _ ?side1 ?side2 A4.out).mono ?_); (case side1 => exact cZ ((Kd.C_below HR1.out HB.out))); (case side2 => exact HC1.out); rintro e w13 ⟨rfl, hb⟩; refine ⟨_, rfl, ?_⟩; replace BK451 := Aside0.mk (blk_below (g := gb451) (o := .cells #[.int .i64 t446, .int .i64 t447, .int .i64 t448, .int .i64 t449] 59 (0, 0)) (zL14 BK451.out) hb); replace HB := Aside0.mk (below_step z14_5 hb); (try clear hb)) | ((with_reducible refine gate_dst (N := 7) rfl ?_); refine box_event ?hg (N := 7) ?hd (cs := #[.int .i64 0, .int .i64 0, .int .i64 0, .int .i64 0]) (t := 59) ?hr ?_; (case hd => rfl); (case hg => rfl); (case hr => first | (go_simp; done) | (go_simp; rfl)); intro gb457 hg w14 hbox hb; have BK457 := Aside0.mk (hbox); have GW457 := Aside0.mk ((by rw [hg]; exact (below_size z14_5) : w.heap.size ≤ gb457)); have GE457 := Aside0.mk ((by rw [hg]; exact (below_size z14_5) : w.heap.size ≤ gb457)); replace HB := Aside0.mk (below_step z14_5 hb); have aa := Aside0.mk ((by rw [hg]; exact Nat.ne_of_lt (blk_lt (g := gb451) (o := .cells #[.int .i64 t446, .int .i64 t447, .int .i64 t448, .int .i64 t449] 59 (0, 0)) (zL14 BK451.out)) : gb451 ≠ gb457)); have ab := Aside0.mk ((by rw [hg]; exact Nat.ne_of_gt (blk_lt (g := gb451) (o := .cells #[.int .i64 t446, .int .i64 t447, .int .i64 t448, .int .i64 t449] 59 (0, 0)) (zL14 BK451.out)) : gb457 ≠ gb451)); replace BK451 := Aside0.mk (blk_below (g := gb451) (o := .cells #[.int .i64 t446, .int .i64 t447, .int .i64 t448, .int .i64 t449] 59 (0, 0)) (zL14 BK451.out) hb); clear hb hbox hg; have hnb15 := ab.out; have hnc15 := aa.out; have hcz16_0 : w14.cell? ⟨gb457, 0, none⟩ = some (.int .i64 0) := (blk_cell BK457.out 0).trans rfl; have hfz16_0 := blk_frozen BK457.out 0; have ac : w14.cell? ⟨gb457, 1, none⟩ = some (.int .i64 0) := (blk_cell BK457.out 1).trans rfl; have ad := blk_frozen BK457.out 1; have hcz18_2 : w14.cell? ⟨gb457, 2, none⟩ = some (.int .i64 0) := (blk_cell BK457.out 2).trans rfl; have hfz18_2 := blk_frozen BK457.out 2; have hcz19_3 : w14.cell? ⟨gb457, 3, none⟩ = some (.int .i64 0) := (blk_cell BK457.out 3).trans rfl; have hfz19_3 := blk_frozen BK457.out 3) | ((with_reducible refine gate_store (t := 59) (p := 7) rfl ?_); refine store_event (t := 59) (p := 7) (v := ?vo_w20) (w1 := ((((w14.setCell ⟨gb457, 0, none⟩ (.int .i64 t452)).setCell ⟨gb457, 1, none⟩ (.int .i64 t453)).setCell ⟨gb457, 2, none⟩ (.int .i64 t454)).setCell ⟨gb457, 3, none⟩ (.int .i64 t455))) ?hg ?ho ?hn ?hr ?_; (case ho => rfl); (case hg => rfl); (case hn => rfl); (case hr => first | (go_simp; done) | (go_simp; rfl)); intro w20 hw; have n0_ : Aside0 (w20.heap[gb451]? = some (.cells #[.int .i64 t446, .int .i64 t447, .int .i64 t448, .int .i64 t449] 59 (0, 0))) := ⟨(by rw [hw]; exact (by (with_reducible repeat first|refine blk_drewN ?_ _|refine blk_drew ?_|refine blk_alloc ?_ _); refine blk_far ?_ aa.out _; (with_reducible repeat first|refine blk_drewN ?_ _|refine blk_drew ?_|refine blk_alloc ?_ _); refine blk_far ?_ aa.out _; (with_reducible repeat first|refine blk_drewN ?_ _|refine blk_drew ?_|refine blk_alloc ?_ _); refine blk_far ?_ aa.out _; (with_reducible repeat first|refine blk_drewN ?_ _|refine blk_drew ?_|refine blk_alloc ?_ _); refine blk_far ?_ aa.out _; (with_reducible repeat first|refine blk_drewN ?_ _|refine blk_drew ?_|refine blk_alloc ?_ _); exact BK451.out))⟩; have n1_ : Aside0 (w20.heap[gb457]? = some (.cells #[.int .i64 t452, .int .i64 t453, .int .i64 t454, .int .i64 t455] 59 (0, 0))) := ⟨(by rw [hw]; exact (bZ BK457.out))⟩; have n2_ : Aside0 (Below w.heap.size w w20) := ⟨(by rw [hw]; exact z14_1)⟩; clear hw; clear BK451; clear BK457; clear HB; have BK451 := n0_; have BK457 := n1_; have HB := n2_; clear n0_ n1_ n2_))
 (try simp only [Act.put, List.setIfInBounds_toArray, List.set_cons_zero, List.set_cons_succ])
 go_cut [24] (fun v24 wc => ∃ (kq : Nat) (x24_4 : Bool), v24 = .bool x24_4 ∧ Aside0 (impl_VecSum.j0 kq x24_4 t446 t447 t448 t449 t452 t453 t454 t455 = some r) ∧ Aside0 (kq ≤ k) ∧ Aside0 (wc.heap[gb451]? = some (.cells #[.int .i64 t446, .int .i64 t447, .int .i64 t448, .int .i64 t449] 59 (0, 0))) ∧ Aside0 (wc.heap[gb457]? = some (.cells #[.int .i64 t452, .int .i64 t453, .int .i64 t454, .int .i64 t455] 59 (0, 0))) ∧ Aside0 (Below w.heap.size w wc))
 case first =>
  have H := HC5.out
  clear HC5
  by_cases c21 : t450 = true
  ·subst c21
   have H1 : (impl_VecSum.j0 k (!t456) t446 t447 t448 t449 t452 t453 t454 t455) = some r := by rw [if_pos rfl] at H; exact H
   clear H
   have H := H1
   clear H1
   have H' := Aside0.mk H
   clear H
   go_wp2
   go_meet
   case rel => exact ⟨_, (!t456), z14_6, H', ⟨by first | omega | exact Nat.le_refl _⟩, ⟨zL14 BK451.out⟩, ⟨zL14 BK457.out⟩, ⟨z14_1⟩⟩
  ·replace c21 := Bool.eq_false_iff.mpr c21
   subst c21
   have H1 : (impl_VecSum.j0 k true t446 t447 t448 t449 t452 t453 t454 t455) = some r := by rw [if_neg (show ¬ (false = true) by decide)] at H; exact H
   clear H
   have H := H1
   clear H1
   have H' := Aside0.mk H
   clear H
   go_wp2
   go_meet
   case rel => exact ⟨_, (true), z14_6, H', ⟨by first | omega | exact Nat.le_refl _⟩, ⟨zL14 BK451.out⟩, ⟨zL14 BK457.out⟩, ⟨z14_1⟩⟩
 case rest =>
  clear HC5
  try clear c1
  try clear hcz10_2
  try clear hcz11_3
  try clear hcz16_0
  try clear ac
  try clear hcz18_2
  try clear hcz19_3
  try clear hcz8_0
  try clear hcz9_1
  try clear hfz10_2
  try clear hfz11_3
  try clear hfz16_0
  try clear ad
  try clear hfz18_2
  try clear hfz19_3
  try clear hfz8_0
  try clear hfz9_1
  obtain ⟨kq, x24_4, rfl, HA, HJ4, BK451, BK457, HB⟩ := hcut
  cases kq with
  | zero => exact absurd HA.out (by simp [impl_VecSum.j0])
  | succ kj4 =>
   have H := HA.out
   clear HA
   simp only [impl_VecSum.j0] at H
   by_cases c22 : x24_4 = true
   ·subst c22
    have H1 : (some ([] : List Int)) = some r := by rw [if_pos rfl] at H; exact H
    clear H
    have H := H1
    clear H1
    obtain rfl := Option.some.inj H
    go_wp2
    go_ret
    exact ⟨_, z14_9, z14_10, z14_1⟩
   ·replace c22 := Bool.eq_false_iff.mpr c22
    subst c22
    have H1 : ((impl_vector_plus.f t446 t447 t448 t449 t452 t453 t454 t455).bind fun bt458 => ((impl_vector_list.f bt458.1 bt458.2.1 bt458.2.2.1 bt458.2.2.2).bind fun t462 => (some t462))) = some r := by rw [if_neg (show ¬ (false = true) by decide)] at H; exact H
    clear H
    have H := H1
    clear H1
    replace H := Option.bind_eq_some_iff.mp H
    obtain ⟨⟨t458, t459, t460, t461⟩, A230, H⟩ := H
    replace H : ((impl_vector_list.f t458 t459 t460 t461).bind fun t462 => (some t462)) = some r := H
    have A23 := Aside0.mk A230
    clear A230
    replace H := Option.bind_eq_some_iff.mp H
    obtain ⟨t462, A240, H⟩ := H
    replace H : (some t462) = some r := H
    have A24 := Aside0.mk A240
    clear A240
    obtain rfl := Option.some.inj H
    have hnb25 := aa.out
    have hnc25 := ab.out
    have hcz26_0 : wc.cell? ⟨gb451, 0, none⟩ = some (.int .i64 t446) := (blk_cell BK451.out 0).trans rfl
    have hcz26_1 : wc.cell? ⟨gb451, 1, none⟩ = some (.int .i64 t447) := (blk_cell BK451.out 1).trans rfl
    have hcz26_2 : wc.cell? ⟨gb451, 2, none⟩ = some (.int .i64 t448) := (blk_cell BK451.out 2).trans rfl
    have hcz26_3 : wc.cell? ⟨gb451, 3, none⟩ = some (.int .i64 t449) := (blk_cell BK451.out 3).trans rfl
    have hfz26_0 := blk_frozen BK451.out 0
    have hfz26_1 := blk_frozen BK451.out 1
    have hfz26_2 := blk_frozen BK451.out 2
    have hfz26_3 := blk_frozen BK451.out 3
    have hcz27_0 : wc.cell? ⟨gb457, 0, none⟩ = some (.int .i64 t452) := (blk_cell BK457.out 0).trans rfl
    have hcz27_1 : wc.cell? ⟨gb457, 1, none⟩ = some (.int .i64 t453) := (blk_cell BK457.out 1).trans rfl
    have hcz27_2 : wc.cell? ⟨gb457, 2, none⟩ = some (.int .i64 t454) := (blk_cell BK457.out 2).trans rfl
    have hcz27_3 : wc.cell? ⟨gb457, 3, none⟩ = some (.int .i64 t455) := (blk_cell BK457.out 3).trans rfl
    have hfz27_0 := blk_frozen BK457.out 0
    have hfz27_1 := blk_frozen BK457.out 1
    have hfz27_2 := blk_frozen BK457.out 2
    have hfz27_3 := blk_frozen BK457.out 3
    go_wp2_with (first | ((with_reducible refine gate_callee (f := 87) rfl ?_); refine goesL_ (some 27) rfl rfl Try.func87 (by kernel_rfl) rfl #[.agg #[.int .i64 t446, .int .i64 t447, .int .i64 t448, .int .i64 t449], .agg #[.int .i64 t452, .int .i64 t453, .int .i64 t454, .int .i64 t455]] rfl z14_3 ?_; (with_reducible refine (impl_vector_plus.calls t446 t447 t448 t449 t452 t453 t454 t455 t458 t459 t460 t461 _ A23.out).mono ?_); rintro e w28 ⟨rfl, hb⟩; refine ⟨_, rfl, ?_⟩; replace BK451 := Aside0.mk (blk_below (g := gb451) (o := .cells #[.int .i64 t446, .int .i64 t447, .int .i64 t448, .int .i64 t449] 59 (0, 0)) (zL14 BK451.out) hb); replace BK457 := Aside0.mk (blk_below (g := gb457) (o := .cells #[.int .i64 t452, .int .i64 t453, .int .i64 t454, .int .i64 t455] 59 (0, 0)) (zL14 BK457.out) hb); replace HB := Aside0.mk (below_step z14_1 hb); (try clear hb)) | ((with_reducible refine gate_callee (f := 61) rfl ?_); refine goesL_ (some 28) rfl rfl Try.func61 (by kernel_rfl) rfl #[.agg #[.int .i64 t458, .int .i64 t459, .int .i64 t460, .int .i64 t461]] rfl z14_3 ?_; (with_reducible refine (impl_vector_list.calls t458 t459 t460 t461 t462 _ A24.out).mono ?_); rintro e w29 ⟨v463, rfl, ho0, hb⟩; refine ⟨_, rfl, ?_⟩; have HO464 := Aside0.mk (Kd.R_lower ho0 (below_size z14_1)); replace BK451 := Aside0.mk (blk_below (g := gb451) (o := .cells #[.int .i64 t446, .int .i64 t447, .int .i64 t448, .int .i64 t449] 59 (0, 0)) (zL14 BK451.out) hb); replace BK457 := Aside0.mk (blk_below (g := gb457) (o := .cells #[.int .i64 t452, .int .i64 t453, .int .i64 t454, .int .i64 t455] 59 (0, 0)) (zL14 BK457.out) hb); replace HB := Aside0.mk (below_step z14_1 hb); (try clear hb); (try clear ho0)))
    go_ret
    exact ⟨_, z14_9, by (with_reducible repeat (first | apply Kd.R_alloc | apply Kd.R_drewN | apply Kd.R_drew)); exact HO464.out, z14_1⟩

/-! ### impl_within: function 98 -/
def impl_within.f (a0 : Int) (a1 : Int) (a2 : Int) : Option (Bool) := if a0 ≥ a1 then (some (decide (a0 ≤ a2))) else (some false)
set_option maxHeartbeats 8000000 in
set_option maxRecDepth 100000 in
theorem impl_within.calls (a0 : Int) (a1 : Int) (a2 : Int) (r : Bool) (w : World) (h : impl_within.f a0 a1 a2 = some r) :
  Calls Try.prog 98 #[.int .i64 a0, .int .i64 a1, .int .i64 a2] w fun e w' => e = .returned (.bool r) ∧ Drawn0 w w' := by
 have H : (if a0 ≥ a1 then (some (decide (a0 ≤ a2))) else (some false)) = some r := h
 clear h
 by_cases c4 : a0 ≥ a1
 ·rw [if_pos c4] at H
  have c4b0 : decide (a1 ≤ a0) = true := decide_eq_true c4
  clear c4
  obtain rfl := Option.some.inj H
  go_enter Try.func98, Try.ntmps98
  go_wp2
  go_ret
  exact ⟨z14_6, z14_7⟩
 ·rw [if_neg c4] at H
  have c4b0 : decide (a1 ≤ a0) = false := decide_eq_false c4
  clear c4
  obtain rfl := Option.some.inj H
  go_enter Try.func98, Try.ntmps98
  go_wp2
  go_ret
  exact ⟨z14_6, z14_7⟩

/-! ### impl_FieldOk: function 88 -/
def impl_FieldOk.f (a0 : Int) : Option (Bool) := (impl_within.f a0 0 30).bind fun t465 => (some t465)
set_option maxHeartbeats 8000000 in
set_option maxRecDepth 100000 in
theorem impl_FieldOk.calls (a0 : Int) (r : Bool) (w : World) (h : impl_FieldOk.f a0 = some r) :
  Calls Try.prog 88 #[.int .i64 a0] w fun e w' => e = .returned (.bool r) ∧ Drawn0 w w' := by
 have H : ((impl_within.f a0 0 30).bind fun t465 => (some t465)) = some r := h
 clear h
 replace H := Option.bind_eq_some_iff.mp H
 obtain ⟨t465, A20, H⟩ := H
 replace H : (some t465) = some r := H
 have A2 := Aside0.mk A20
 clear A20
 obtain rfl := Option.some.inj H
 go_enter Try.func88, Try.ntmps88
 go_wp2_with (first | ((with_reducible refine gate_callee (f := 98) rfl ?_); refine goesL_ (some 4) rfl rfl Try.func98 (by kernel_rfl) rfl #[.int .i64 a0, .int .i64 0, .int .i64 30] rfl z14_3 ?_; (with_reducible refine (impl_within.calls a0 0 30 t465 _ A2.out).mono ?_); rintro e w' ⟨rfl, ⟨nd, rfl⟩⟩; refine ⟨_, rfl, ?_⟩))
 go_ret
 exact ⟨z14_6, z14_7⟩

/-! ### impl_VecScale: function 69 -/
def impl_VecScale.j0 : Nat → Int → Bool → Int → Int → Int → Int → Option (List Int)
  | 0, _, _, _, _, _, _ => none
  | k + 1, x1, x18, x472000, x472001, x472002, x472003 => if x18 = true then (some ([] : List Int)) else ((impl_vector_times.f x472000 x472001 x472002 x472003 x1).bind fun bt473 => ((impl_vector_list.f bt473.1 bt473.2.1 bt473.2.2.1 bt473.2.2.2).bind fun t477 => (some t477)))
def impl_VecScale.f (k : Nat) (l0 : List Int) (a1 : Int) : Option (List Int) := (impl_vectorOf.f l0).bind fun bt466 => (if bt466.2.2.2.2 = true then ((impl_FieldOk.f a1).bind fun t472 => (impl_VecScale.j0 k a1 (!t472) bt466.1 bt466.2.1 bt466.2.2.1 bt466.2.2.2.1)) else (impl_VecScale.j0 k a1 true bt466.1 bt466.2.1 bt466.2.2.1 bt466.2.2.2.1))
set_option maxHeartbeats 8000000 in
set_option maxRecDepth 100000 in
theorem impl_VecScale.calls (k : Nat) (A0 : Option Addr) (c0 : Nat) (l0 : List Int) (a1 : Int) (r : List Int) (w : World) (hr0 : Kd.C (Kd.int .i64) w A0 l0.length l0) (hc0 : l0.length ≤ c0) (h : impl_VecScale.f k l0 a1 = some r) :
  Calls Try.prog 69 #[.slice A0 l0.length c0, .int .i64 a1] w fun e w' => ∃ v0_ : Value, e = .returned (v0_) ∧ Kd.R (Kd.int .i64) 3 w' w.heap.size (fun _ => True) v0_ r ∧ Below w.heap.size w w' := by
 have hu59 := Try.underlying59
 have HR0 := Aside0.mk hr0
 have HC0 := Aside0.mk hc0
 clear hr0 hc0
 have HB := Aside0.mk (Below.refl w.heap.size w)
 have H : ((impl_vectorOf.f l0).bind fun bt466 => (if bt466.2.2.2.2 = true then ((impl_FieldOk.f a1).bind fun t472 => (impl_VecScale.j0 k a1 (!t472) bt466.1 bt466.2.1 bt466.2.2.1 bt466.2.2.2.1)) else (impl_VecScale.j0 k a1 true bt466.1 bt466.2.1 bt466.2.2.1 bt466.2.2.2.1))) = some r := h
 clear h
 replace H := Option.bind_eq_some_iff.mp H
 obtain ⟨⟨t466, t467, t468, t469, t470⟩, A30, H⟩ := H
 replace H : (if t470 = true then ((impl_FieldOk.f a1).bind fun t472 => (impl_VecScale.j0 k a1 (!t472) t466 t467 t468 t469)) else (impl_VecScale.j0 k a1 true t466 t467 t468 t469)) = some r := H
 have A3 := Aside0.mk A30
 clear A30
 have HC4 := Aside0.mk H
 clear H
 go_enter Try.func69, Try.ntmps69
 go_upto_region 2 with (first | ((with_reducible refine gate_callee (f := 56) rfl ?_); refine goesL_ (some 9) rfl rfl Try.func56 (by kernel_rfl) rfl #[.slice A0 l0.length c0] rfl z14_3 ?_; (with_reducible refine (impl_vectorOf.calls _ _ l0 t466 t467 t468 t469 t470 _ ?side1 ?side2 A3.out).mono ?_); (case side1 => exact cZ (HR0.out)); (case side2 => exact HC0.out); rintro e w5 ⟨rfl, hb⟩; refine ⟨_, rfl, ?_⟩; replace HB := Aside0.mk (below_step z14_4 hb); (try clear hb)) | ((with_reducible refine gate_dst (N := 5) rfl ?_); refine box_event ?hg (N := 5) ?hd (cs := #[.int .i64 0, .int .i64 0, .int .i64 0, .int .i64 0]) (t := 59) ?hr ?_; (case hd => rfl); (case hg => rfl); (case hr => first | (go_simp; done) | (go_simp; rfl)); intro gb471 hg w6 hbox hb; have BK471 := Aside0.mk (hbox); have GW471 := Aside0.mk ((by rw [hg]; exact (below_size z14_4) : w.heap.size ≤ gb471)); have GE471 := Aside0.mk ((by rw [hg]; exact (below_size z14_4) : w.heap.size ≤ gb471)); replace HB := Aside0.mk (below_step z14_4 hb); clear hb hbox hg; have hcz7_0 : w6.cell? ⟨gb471, 0, none⟩ = some (.int .i64 0) := (blk_cell BK471.out 0).trans rfl; have hfz7_0 := blk_frozen BK471.out 0; have hcz8_1 : w6.cell? ⟨gb471, 1, none⟩ = some (.int .i64 0) := (blk_cell BK471.out 1).trans rfl; have hfz8_1 := blk_frozen BK471.out 1; have hcz9_2 : w6.cell? ⟨gb471, 2, none⟩ = some (.int .i64 0) := (blk_cell BK471.out 2).trans rfl; have hfz9_2 := blk_frozen BK471.out 2; have hcz10_3 : w6.cell? ⟨gb471, 3, none⟩ = some (.int .i64 0) := (blk_cell BK471.out 3).trans rfl; have hfz10_3 := blk_frozen BK471.out 3) | ((with_reducible refine gate_store (t := 59) (p := 5) rfl ?_); refine store_event (t := 59) (p := 5) (v := ?vo_w11) (w1 := ((((w6.setCell ⟨gb471, 0, none⟩ (.int .i64 t466)).setCell ⟨gb471, 1, none⟩ (.int .i64 t467)).setCell ⟨gb471, 2, none⟩ (.int .i64 t468)).setCell ⟨gb471, 3, none⟩ (.int .i64 t469))) ?hg ?ho ?hn ?hr ?_; (case ho => rfl); (case hg => rfl); (case hn => rfl); (case hr => first | (go_simp; done) | (go_simp; rfl)); intro w11 hw; have n0_ : Aside0 (w11.heap[gb471]? = some (.cells #[.int .i64 t466, .int .i64 t467, .int .i64 t468, .int .i64 t469] 59 (0, 0))) := ⟨(by rw [hw]; exact (bZ BK471.out))⟩; have n1_ : Aside0 (Below w.heap.size w w11) := ⟨(by rw [hw]; exact z14_2)⟩; clear hw; clear BK471; clear HB; have BK471 := n0_; have HB := n1_; clear n0_ n1_))
 (try simp only [Act.put, List.setIfInBounds_toArray, List.set_cons_zero, List.set_cons_succ])
 go_cut [18] (fun v18 wc => ∃ (kq : Nat) (x18_3 : Bool), v18 = .bool x18_3 ∧ Aside0 (impl_VecScale.j0 kq a1 x18_3 t466 t467 t468 t469 = some r) ∧ Aside0 (kq ≤ k) ∧ Aside0 (wc.heap[gb471]? = some (.cells #[.int .i64 t466, .int .i64 t467, .int .i64 t468, .int .i64 t469] 59 (0, 0))) ∧ Aside0 (Below w.heap.size w wc))
 case first =>
  have H := HC4.out
  clear HC4
  by_cases c12 : t470 = true
  ·subst c12
   have H1 : ((impl_FieldOk.f a1).bind fun t472 => (impl_VecScale.j0 k a1 (!t472) t466 t467 t468 t469)) = some r := by rw [if_pos rfl] at H; exact H
   clear H
   have H := H1
   clear H1
   replace H := Option.bind_eq_some_iff.mp H
   obtain ⟨t472, A130, H⟩ := H
   replace H : (impl_VecScale.j0 k a1 (!t472) t466 t467 t468 t469) = some r := H
   have A13 := Aside0.mk A130
   clear A130
   have H' := Aside0.mk H
   clear H
   go_wp2_with (first | (go_at_call 88; (with_reducible refine (impl_FieldOk.calls a1 t472 _ A13.out).mono ?_); rintro e w' ⟨rfl, ⟨nd, rfl⟩⟩))
   go_meet
   case rel => exact ⟨_, (!t472), z14_6, H', ⟨by first | omega | exact Nat.le_refl _⟩, ⟨zL14 BK471.out⟩, ⟨z14_2⟩⟩
  ·replace c12 := Bool.eq_false_iff.mpr c12
   subst c12
   have H1 : (impl_VecScale.j0 k a1 true t466 t467 t468 t469) = some r := by rw [if_neg (show ¬ (false = true) by decide)] at H; exact H
   clear H
   have H := H1
   clear H1
   have H' := Aside0.mk H
   clear H
   go_wp2
   go_meet
   case rel => exact ⟨_, (true), z14_6, H', ⟨by first | omega | exact Nat.le_refl _⟩, ⟨zL14 BK471.out⟩, ⟨z14_2⟩⟩
 case rest =>
  clear HC4
  try clear hcz10_3
  try clear hcz7_0
  try clear hcz8_1
  try clear hcz9_2
  try clear hfz10_3
  try clear hfz7_0
  try clear hfz8_1
  try clear hfz9_2
  obtain ⟨kq, x18_3, rfl, HA, HJ3, BK471, HB⟩ := hcut
  cases kq with
  | zero => exact absurd HA.out (by simp [impl_VecScale.j0])
  | succ kj3 =>
   have H := HA.out
   clear HA
   simp only [impl_VecScale.j0] at H
   by_cases c14 : x18_3 = true
   ·subst c14
    have H1 : (some ([] : List Int)) = some r := by rw [if_pos rfl] at H; exact H
    clear H
    have H := H1
    clear H1
    obtain rfl := Option.some.inj H
    go_wp2
    go_ret
    exact ⟨_, z14_9, z14_10, z14_2⟩
   ·replace c14 := Bool.eq_false_iff.mpr c14
    subst c14
    have H1 : ((impl_vector_times.f t466 t467 t468 t469 a1).bind fun bt473 => ((impl_vector_list.f bt473.1 bt473.2.1 bt473.2.2.1 bt473.2.2.2).bind fun t477 => (some t477))) = some r := by rw [if_neg (show ¬ (false = true) by decide)] at H; exact H
    clear H
    have H := H1
    clear H1
    replace H := Option.bind_eq_some_iff.mp H
    obtain ⟨⟨t473, t474, t475, t476⟩, A150, H⟩ := H
    replace H : ((impl_vector_list.f t473 t474 t475 t476).bind fun t477 => (some t477)) = some r := H
    have A15 := Aside0.mk A150
    clear A150
    replace H := Option.bind_eq_some_iff.mp H
    obtain ⟨t477, A160, H⟩ := H
    replace H : (some t477) = some r := H
    have A16 := Aside0.mk A160
    clear A160
    obtain rfl := Option.some.inj H
    have hcz17_0 : wc.cell? ⟨gb471, 0, none⟩ = some (.int .i64 t466) := (blk_cell BK471.out 0).trans rfl
    have ac : wc.cell? ⟨gb471, 1, none⟩ = some (.int .i64 t467) := (blk_cell BK471.out 1).trans rfl
    have hcz17_2 : wc.cell? ⟨gb471, 2, none⟩ = some (.int .i64 t468) := (blk_cell BK471.out 2).trans rfl
    have hcz17_3 : wc.cell? ⟨gb471, 3, none⟩ = some (.int .i64 t469) := (blk_cell BK471.out 3).trans rfl
    have hfz17_0 := blk_frozen BK471.out 0
    have ad := blk_frozen BK471.out 1
    have hfz17_2 := blk_frozen BK471.out 2
    have hfz17_3 := blk_frozen BK471.out 3
    go_wp2_with (first | ((with_reducible refine gate_callee (f := 74) rfl ?_); refine goesL_ (some 21) rfl rfl Try.func74 (by kernel_rfl) rfl #[.agg #[.int .i64 t466, .int .i64 t467, .int .i64 t468, .int .i64 t469], .int .i64 a1] rfl z14_3 ?_; (with_reducible refine (impl_vector_times.calls t466 t467 t468 t469 a1 t473 t474 t475 t476 _ A15.out).mono ?_); rintro e w18 ⟨rfl, hb⟩; refine ⟨_, rfl, ?_⟩; replace BK471 := Aside0.mk (blk_below (g := gb471) (o := .cells #[.int .i64 t466, .int .i64 t467, .int .i64 t468, .int .i64 t469] 59 (0, 0)) (zL14 BK471.out) hb); replace HB := Aside0.mk (below_step z14_2 hb); (try clear hb)) | ((with_reducible refine gate_callee (f := 61) rfl ?_); refine goesL_ (some 22) rfl rfl Try.func61 (by kernel_rfl) rfl #[.agg #[.int .i64 t473, .int .i64 t474, .int .i64 t475, .int .i64 t476]] rfl z14_3 ?_; (with_reducible refine (impl_vector_list.calls t473 t474 t475 t476 t477 _ A16.out).mono ?_); rintro e w19 ⟨v478, rfl, ho0, hb⟩; refine ⟨_, rfl, ?_⟩; have HO479 := Aside0.mk (Kd.R_lower ho0 (below_size z14_2)); replace BK471 := Aside0.mk (blk_below (g := gb471) (o := .cells #[.int .i64 t466, .int .i64 t467, .int .i64 t468, .int .i64 t469] 59 (0, 0)) (zL14 BK471.out) hb); replace HB := Aside0.mk (below_step z14_2 hb); (try clear hb); (try clear ho0)))
    go_ret
    exact ⟨_, z14_9, by (with_reducible repeat (first | apply Kd.R_alloc | apply Kd.R_drewN | apply Kd.R_drew)); exact HO479.out, z14_2⟩

end Go.Proofs.Ytbhmgbeebhmfkaa.PA
