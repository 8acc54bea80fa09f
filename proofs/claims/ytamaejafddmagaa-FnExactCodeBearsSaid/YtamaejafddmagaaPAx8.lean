-- Written by a program of this session (after the manner of the kit's print, several laws in one text).
import Derived.Test.YtamaejafddmagaaPAx0
import Derived.Test.YtamaejafddmagaaPAx7
import Derived.Test.YtamaejafddmagaaGw
import Derived.Test.YtamaejafddmagaaGm
import Derived.Test.YtamaejafddmagaaGc
import Derived.Test.YtamaejafddmagaaPAx8d
namespace Go.Proofs.Ytamaejafddmagaa.PA
open Go.RowKit Go.Proofs.YtamaejafddmagaaW.PrintWords Go.Proofs.YtamaejafddmagaaW.PrintLast Go.Proofs.YtamaejafddmagaaW.PrintMore
attribute [local go_sem] max2_int min2_int max_two min_two max_three min_three max_four min_four   -- for this text's walks alone
set_option linter.unusedVariables false
set_option linter.unusedSimpArgs false

set_option maxHeartbeats 8000000 in
set_option maxRecDepth 100000 in
theorem impl_span_less.calls (k : Nat) (g : Nat) (s_ : List (S102)) (s0_1 : List Int) (a1_0 : Int) (a1_1 : Int) (a1_2 : Int) (a1_3 : Int) (a1_4 : Int) (a1_5 : Int) (a1_6 : Int) (a1_7 : Int) (a1_8 : Int) (a1_9 : Int) (a1_10 : Int) (a1_11 : Int) (r1 : Int) (r2 : Int) (r3 : Int) (r4 : Int) (r5 : Int) (r6 : Int) (r7 : Int) (r8 : Int) (r9 : Int) (r10 : Int) (r11 : Int) (r12 : Int) (w0 w : World) (hI : IsS81 w0 w g s_ s0_1) (hB : Below w0.heap.size w0 w) (h : impl_span_less.f k s_ s0_1 a1_0 a1_1 a1_2 a1_3 a1_4 a1_5 a1_6 a1_7 a1_8 a1_9 a1_10 a1_11 = some (r1, r2, r3, r4, r5, r6, r7, r8, r9, r10, r11, r12)) :
  Calls Try.prog 102 #[.pointer (some ⟨g, 0, none⟩), .agg #[.int .i64 a1_0, .int .i64 a1_1, .int .i64 a1_2, .int .i64 a1_3, .int .i64 a1_4, .int .i64 a1_5, .int .i64 a1_6, .int .i64 a1_7, .int .i64 a1_8, .int .i64 a1_9, .int .i64 a1_10, .int .i64 a1_11]] w fun e w' => e = .returned (.agg #[.int .i64 r1, .int .i64 r2, .int .i64 r3, .int .i64 r4, .int .i64 r5, .int .i64 r6, .int .i64 r7, .int .i64 r8, .int .i64 r9, .int .i64 r10, .int .i64 r11, .int .i64 r12]) ∧ IsS81 w0 w' g s_ s0_1 ∧ Below w0.heap.size w0 w' ∧ KeepBut w w' g none := by
 have hu102 := Try.underlying102
 have hu70 := Try.underlying70
 have HI0 := Aside0.mk hI
 have HK := Aside0.mk (KeepBut.refl w g none)
 have HL := Aside0.mk hB.size
 clear hI
 have HW0 := Aside0.mk hB.size
 have HB := Aside0.mk hB
 clear hB
 have H : (impl_span_less.l0 k s_ (s_.length : Int) 0 a1_0 a1_1 a1_2 a1_3 a1_4 a1_5 a1_6 a1_7 a1_8 a1_9 a1_10 a1_11) = some (r1, r2, r3, r4, r5, r6, r7, r8, r9, r10, r11, r12) := h
 clear h
 have H' := Aside0.mk H
 clear H
 go_enter Try.func102, Try.ntmps102
 go_wp2_with (first | ((with_reducible refine gate_dst (N := 3) rfl ?_); refine box_event ?hg (N := 3) ?hd (cs := #[.int .i64 a1_0, .int .i64 a1_1, .int .i64 a1_2, .int .i64 a1_3, .int .i64 a1_4, .int .i64 a1_5, .int .i64 a1_6, .int .i64 a1_7, .int .i64 a1_8, .int .i64 a1_9, .int .i64 a1_10, .int .i64 a1_11]) (t := 102) ?hr ?_; (case hd => rfl); (case hg => rfl); (case hr => first | (go_simp; done) | (go_simp; rfl)); intro gb238 hg w3 hbox hb; have n0_ := Aside0.mk (IsS81.below (by repeat (first | (with_reducible first | exact HI0.out | apply IsS81.alloc | apply IsS81.drewN | apply IsS81.drew) | exact HI0.out)) hb); have n1_ := Aside0.mk (KeepBut.trans (by repeat (first | (with_reducible first | exact HK.out | apply KeepBut.set_ | apply keep_drewN | apply keep_drew | apply keep_alloc) | exact HK.out)) (KeepBut.of_below hb g none) (.inl rfl)); have n2_ := Aside0.mk (below_step (by repeat (first | (with_reducible first | exact HB.out | apply below_alloc | apply pw_below_drewN | apply below_drew1 | refine below_set ?_ (IsS81.ge HI0.out)) | exact HB.out)) hb); have n3_ := Aside0.mk (hbox); have n4_ := Aside0.mk ((by rw [hg]; exact (keep_size (w := w) (g := g) (row := none) (by repeat (first | (with_reducible first | exact HK.out | apply KeepBut.set_ | apply keep_drewN | apply keep_drew | apply keep_alloc) | exact HK.out))) : w.heap.size ≤ gb238)); have n5_ := Aside0.mk ((Nat.le_trans HW0.out (by rw [hg]; exact (keep_size (w := w) (g := g) (row := none) (by repeat (first | (with_reducible first | exact HK.out | apply KeepBut.set_ | apply keep_drewN | apply keep_drew | apply keep_alloc) | exact HK.out))) : w.heap.size ≤ gb238) : w0.heap.size ≤ gb238)); have n6_ := Aside0.mk ((by rw [hg]; exact Nat.ne_of_lt (IsS81.lt (show IsS81 w0 _ g s_ s0_1 from by repeat (first | (with_reducible first | exact HI0.out | apply IsS81.alloc | apply IsS81.drewN | apply IsS81.drew) | exact HI0.out))) : g ≠ gb238)); have n7_ := Aside0.mk ((by rw [hg]; exact Nat.ne_of_gt (IsS81.lt (show IsS81 w0 _ g s_ s0_1 from by repeat (first | (with_reducible first | exact HI0.out | apply IsS81.alloc | apply IsS81.drewN | apply IsS81.drew) | exact HI0.out))) : gb238 ≠ g)); clear HI0; clear HK; clear HB; have HI0 := n0_; have HK := n1_; have HB := n2_; have BK238 := n3_; have GW238 := n4_; have GE238 := n5_; have NB0_238 := n6_; have NB238_0 := n7_; clear n0_ n1_ n2_ n3_ n4_ n5_ n6_ n7_; clear hb hbox hg) | ((with_reducible refine gate_dst (N := 4) rfl ?_); refine box_event ?hg (N := 4) ?hd (cs := #[.int .i64 0, .int .i64 0, .int .i64 0, .int .i64 0, .int .i64 0, .int .i64 0, .int .i64 0, .int .i64 0, .int .i64 0, .int .i64 0, .int .i64 0, .int .i64 0]) (t := 102) ?hr ?_; (case hd => rfl); (case hg => rfl); (case hr => first | (go_simp; done) | (go_simp; rfl)); intro gb239 hg w4 hbox hb; have n0_ := Aside0.mk (IsS81.below (by repeat (first | (with_reducible first | exact HI0.out | apply IsS81.alloc | apply IsS81.drewN | apply IsS81.drew | refine IsS81.far ?_ NB0_238.out _) | exact HI0.out)) hb); have n1_ := Aside0.mk (blk_below (g := gb238) (o := .cells #[.int .i64 a1_0, .int .i64 a1_1, .int .i64 a1_2, .int .i64 a1_3, .int .i64 a1_4, .int .i64 a1_5, .int .i64 a1_6, .int .i64 a1_7, .int .i64 a1_8, .int .i64 a1_9, .int .i64 a1_10, .int .i64 a1_11] 102 (0, 0)) (by (with_reducible repeat first|refine blk_drewN ?_ _|refine blk_drew ?_|refine blk_alloc ?_ _); exact BK238.out) hb); have n2_ := Aside0.mk (KeepBut.trans (by repeat (first | (with_reducible first | exact HK.out | apply KeepBut.set_ | apply keep_drewN | apply keep_drew | apply keep_alloc | refine keep_far ?_ GW238.out _) | exact HK.out)) (KeepBut.of_below hb g none) (.inl rfl)); have n3_ := Aside0.mk (below_step (by repeat (first | (with_reducible first | exact HB.out | apply below_alloc | apply pw_below_drewN | apply below_drew1 | refine below_set ?_ (IsS81.ge HI0.out) | refine below_set ?_ GE238.out) | exact HB.out)) hb); have n4_ := Aside0.mk (hbox); have n5_ := Aside0.mk ((by rw [hg]; exact (keep_size (w := w) (g := g) (row := none) (by repeat (first | (with_reducible first | exact HK.out | apply KeepBut.set_ | apply keep_drewN | apply keep_drew | apply keep_alloc | refine keep_far ?_ GW238.out _) | exact HK.out))) : w.heap.size ≤ gb239)); have n6_ := Aside0.mk ((Nat.le_trans HW0.out (by rw [hg]; exact (keep_size (w := w) (g := g) (row := none) (by repeat (first | (with_reducible first | exact HK.out | apply KeepBut.set_ | apply keep_drewN | apply keep_drew | apply keep_alloc | refine keep_far ?_ GW238.out _) | exact HK.out))) : w.heap.size ≤ gb239) : w0.heap.size ≤ gb239)); have n7_ := Aside0.mk ((by rw [hg]; exact Nat.ne_of_lt (blk_lt (g := gb238) (o := .cells #[.int .i64 a1_0, .int .i64 a1_1, .int .i64 a1_2, .int .i64 a1_3, .int .i64 a1_4, .int .i64 a1_5, .int .i64 a1_6, .int .i64 a1_7, .int .i64 a1_8, .int .i64 a1_9, .int .i64 a1_10, .int .i64 a1_11] 102 (0, 0)) (by (with_reducible repeat first|refine blk_drewN ?_ _|refine blk_drew ?_|refine blk_alloc ?_ _); exact BK238.out)) : gb238 ≠ gb239)); have n8_ := Aside0.mk ((by rw [hg]; exact Nat.ne_of_gt (blk_lt (g := gb238) (o := .cells #[.int .i64 a1_0, .int .i64 a1_1, .int .i64 a1_2, .int .i64 a1_3, .int .i64 a1_4, .int .i64 a1_5, .int .i64 a1_6, .int .i64 a1_7, .int .i64 a1_8, .int .i64 a1_9, .int .i64 a1_10, .int .i64 a1_11] 102 (0, 0)) (by (with_reducible repeat first|refine blk_drewN ?_ _|refine blk_drew ?_|refine blk_alloc ?_ _); exact BK238.out)) : gb239 ≠ gb238)); have n9_ := Aside0.mk ((by rw [hg]; exact Nat.ne_of_lt (IsS81.lt (show IsS81 w0 _ g s_ s0_1 from by repeat (first | (with_reducible first | exact HI0.out | apply IsS81.alloc | apply IsS81.drewN | apply IsS81.drew | refine IsS81.far ?_ NB0_238.out _) | exact HI0.out))) : g ≠ gb239)); have n10_ := Aside0.mk ((by rw [hg]; exact Nat.ne_of_gt (IsS81.lt (show IsS81 w0 _ g s_ s0_1 from by repeat (first | (with_reducible first | exact HI0.out | apply IsS81.alloc | apply IsS81.drewN | apply IsS81.drew | refine IsS81.far ?_ NB0_238.out _) | exact HI0.out))) : gb239 ≠ g)); clear HI0; clear BK238; clear HK; clear HB; have HI0 := n0_; have BK238 := n1_; have HK := n2_; have HB := n3_; have BK239 := n4_; have GW239 := n5_; have GE239 := n6_; have NB238_239 := n7_; have NB239_238 := n8_; have NB0_239 := n9_; have NB239_0 := n10_; clear n0_ n1_ n2_ n3_ n4_ n5_ n6_ n7_ n8_ n9_ n10_; clear hb hbox hg; obtain ⟨ASz5_0, cSz5_0, ASz5_1, cSz5_1, HGz5, hgz5, HSz5_0, HSz5_1⟩ := HI0.out; have hcz5_0 := cellS81_0 HGz5; have hcz5_1 := cellS81_1 HGz5; clear HGz5 hgz5))
 go_loopg [14] k (fun kq v14 w' => ∃ (i_ : Int) (x_00_1 : Int) (x_01_1 : Int) (x_02_1 : Int) (x_03_1 : Int) (x_04_1 : Int) (x_05_1 : Int) (x_06_1 : Int) (x_07_1 : Int) (x_08_1 : Int) (x_09_1 : Int) (x_10_1 : Int) (x_11_1 : Int), v14 = .int .i64 i_ ∧ Aside0 (impl_span_less.l0 kq s_ (s_.length : Int) i_ x_00_1 x_01_1 x_02_1 x_03_1 x_04_1 x_05_1 x_06_1 x_07_1 x_08_1 x_09_1 x_10_1 x_11_1 = some (r1, r2, r3, r4, r5, r6, r7, r8, r9, r10, r11, r12)) ∧ Aside0 (kq ≤ k) ∧ Aside0 (w'.heap[gb238]? = some (.cells #[.int .i64 x_00_1, .int .i64 x_01_1, .int .i64 x_02_1, .int .i64 x_03_1, .int .i64 x_04_1, .int .i64 x_05_1, .int .i64 x_06_1, .int .i64 x_07_1, .int .i64 x_08_1, .int .i64 x_09_1, .int .i64 x_10_1, .int .i64 x_11_1] 102 (0, 0))) ∧ Aside0 (w'.heap[gb239]? = some (.cells #[.int .i64 0, .int .i64 0, .int .i64 0, .int .i64 0, .int .i64 0, .int .i64 0, .int .i64 0, .int .i64 0, .int .i64 0, .int .i64 0, .int .i64 0, .int .i64 0] 102 (0, 0))) ∧ Aside0 (IsS81 w0 w' g s_ s0_1) ∧ Aside0 (KeepBut w w' g none) ∧ Aside0 (Below w0.heap.size w0 w'))
 case atStart => exact ⟨(0), (a1_0), (a1_1), (a1_2), (a1_3), (a1_4), (a1_5), (a1_6), (a1_7), (a1_8), (a1_9), (a1_10), (a1_11), (by first | rfl | (simp; done) | (simp [*]; done)), H', ⟨Nat.le_refl _⟩, ⟨by (with_reducible repeat first|refine blk_drewN ?_ _|refine blk_drew ?_|refine blk_alloc ?_ _); exact BK238.out⟩, ⟨by (with_reducible repeat first|refine blk_drewN ?_ _|refine blk_drew ?_|refine blk_alloc ?_ _); exact BK239.out⟩, ⟨by repeat (first | (with_reducible first | exact HI0.out | apply IsS81.alloc | apply IsS81.drewN | apply IsS81.drew | refine IsS81.far ?_ NB0_238.out _ | refine IsS81.far ?_ NB0_239.out _) | exact HI0.out)⟩, ⟨by repeat (first | (with_reducible first | exact HK.out | apply KeepBut.set_ | apply keep_drewN | apply keep_drew | apply keep_alloc | refine keep_far ?_ GW238.out _ | refine keep_far ?_ GW239.out _) | exact HK.out)⟩, ⟨by repeat (first | (with_reducible first | exact HB.out | apply below_alloc | apply pw_below_drewN | apply below_drew1 | refine below_set ?_ (IsS81.ge HI0.out) | refine below_set ?_ GE238.out | refine below_set ?_ GE239.out) | exact HB.out)⟩⟩
 case round =>
  clear H'
  try clear c1
  try clear p2
  try clear hcz5_0 hcz5_1
  obtain ⟨i_, x_00_1, x_01_1, x_02_1, x_03_1, x_04_1, x_05_1, x_06_1, x_07_1, x_08_1, x_09_1, x_10_1, x_11_1, rfl, HA, HK1, BK238, BK239, HI0, HK, HB⟩ := hrel
  cases gk with
  | zero => exact absurd HA.out (by simp [impl_span_less.l0])
  | succ k1 =>
   have H := HA.out
   clear HA
   simp only [impl_span_less.l0] at H
   by_cases c6 : i_ < (s_.length : Int)
   ·rw [if_pos c6] at H
    have c6b0 : decide (i_ < (s_.length : Int)) = true := decide_eq_true c6
    clear c6
    by_cases c7 : 0 ≤ i_
    ·rw [if_pos c7] at H
     have c7b0 : decide (0 ≤ i_) = true := decide_eq_true c7
     clear c7
     by_cases c8 : i_ < (s_.length : Int)
     ·rw [if_pos c8] at H
      have c8b0 : decide (i_ < (s_.length : Int)) = true := decide_eq_true c8
      clear c8
      have HC9 := Aside0.mk H
      clear H
      obtain ⟨ASz10_0, cSz10_0, ASz10_1, cSz10_1, HGz10, hgz10, HSz10_0, HSz10_1⟩ := HI0.out
      have hcz10_0 := cellS81_0 HGz10
      have hcz10_1 := cellS81_1 HGz10
      clear HGz10 hgz10
      have p240 : 0 ≤ (i_ : Int) := of_decide_eq_true (by first | (with_reducible assumption) | assumption)
      have q240 : i_ < (s_.length : Int) := of_decide_eq_true (by first | (with_reducible assumption) | assumption)
      obtain ⟨ad240, e240, hx240_0, hx240_1, hx240_2, hx240_3, hx240_4, hx240_5, hx240_6, hx240_7, hx240_8, hx240_9, hx240_10, hx240_11⟩ := at_T102 HSz5_0 i_ p240 q240
      cases e240
      replace hx240_0 := pw_cell_below HB.out hx240_0
      replace hx240_1 := pw_cell_below HB.out hx240_1
      replace hx240_2 := pw_cell_below HB.out hx240_2
      replace hx240_3 := pw_cell_below HB.out hx240_3
      replace hx240_4 := pw_cell_below HB.out hx240_4
      replace hx240_5 := pw_cell_below HB.out hx240_5
      replace hx240_6 := pw_cell_below HB.out hx240_6
      replace hx240_7 := pw_cell_below HB.out hx240_7
      replace hx240_8 := pw_cell_below HB.out hx240_8
      replace hx240_9 := pw_cell_below HB.out hx240_9
      replace hx240_10 := pw_cell_below HB.out hx240_10
      replace hx240_11 := pw_cell_below HB.out hx240_11
      replace p240 := eq_true p240
      replace q240 := eq_true q240
      go_upto_region 4 with (first | ((with_reducible refine gate_dst (N := 6) rfl ?_); refine box_event ?hg (N := 6) ?hd (cs := #[.int .i64 0, .int .i64 0, .int .i64 0, .int .i64 0, .int .i64 0, .int .i64 0, .int .i64 0, .int .i64 0, .int .i64 0, .int .i64 0, .int .i64 0, .int .i64 0]) (t := 102) ?hr ?_; (case hd => rfl); (case hg => rfl); (case hr => first | (go_simp; done) | (go_simp; rfl)); intro gb241 hg w11 hbox hb; have n0_ := Aside0.mk (blk_below (g := gb238) (o := .cells #[.int .i64 x_00_1, .int .i64 x_01_1, .int .i64 x_02_1, .int .i64 x_03_1, .int .i64 x_04_1, .int .i64 x_05_1, .int .i64 x_06_1, .int .i64 x_07_1, .int .i64 x_08_1, .int .i64 x_09_1, .int .i64 x_10_1, .int .i64 x_11_1] 102 (0, 0)) (by (with_reducible repeat first|refine blk_drewN ?_ _|refine blk_drew ?_|refine blk_alloc ?_ _); exact BK238.out) hb); have n1_ := Aside0.mk (blk_below (g := gb239) (o := .cells #[.int .i64 0, .int .i64 0, .int .i64 0, .int .i64 0, .int .i64 0, .int .i64 0, .int .i64 0, .int .i64 0, .int .i64 0, .int .i64 0, .int .i64 0, .int .i64 0] 102 (0, 0)) (by (with_reducible repeat first|refine blk_drewN ?_ _|refine blk_drew ?_|refine blk_alloc ?_ _); exact BK239.out) hb); have n2_ := Aside0.mk (IsS81.below (by repeat (first | (with_reducible first | exact HI0.out | apply IsS81.alloc | apply IsS81.drewN | apply IsS81.drew | refine IsS81.far ?_ NB0_238.out _ | refine IsS81.far ?_ NB0_239.out _) | exact HI0.out)) hb); have n3_ := Aside0.mk (KeepBut.trans (by repeat (first | (with_reducible first | exact HK.out | apply KeepBut.set_ | apply keep_drewN | apply keep_drew | apply keep_alloc | refine keep_far ?_ GW238.out _ | refine keep_far ?_ GW239.out _) | exact HK.out)) (KeepBut.of_below hb g none) (.inl rfl)); have n4_ := Aside0.mk (below_step (by repeat (first | (with_reducible first | exact HB.out | apply below_alloc | apply pw_below_drewN | apply below_drew1 | refine below_set ?_ (IsS81.ge HI0.out) | refine below_set ?_ GE238.out | refine below_set ?_ GE239.out) | exact HB.out)) hb); have n5_ := Aside0.mk (hbox); have n6_ := Aside0.mk ((by rw [hg]; exact (keep_size (w := w) (g := g) (row := none) (by repeat (first | (with_reducible first | exact HK.out | apply KeepBut.set_ | apply keep_drewN | apply keep_drew | apply keep_alloc | refine keep_far ?_ GW238.out _ | refine keep_far ?_ GW239.out _) | exact HK.out))) : w.heap.size ≤ gb241)); have n7_ := Aside0.mk ((Nat.le_trans HW0.out (by rw [hg]; exact (keep_size (w := w) (g := g) (row := none) (by repeat (first | (with_reducible first | exact HK.out | apply KeepBut.set_ | apply keep_drewN | apply keep_drew | apply keep_alloc | refine keep_far ?_ GW238.out _ | refine keep_far ?_ GW239.out _) | exact HK.out))) : w.heap.size ≤ gb241) : w0.heap.size ≤ gb241)); have n8_ := Aside0.mk ((by rw [hg]; exact Nat.ne_of_lt (blk_lt (g := gb238) (o := .cells #[.int .i64 x_00_1, .int .i64 x_01_1, .int .i64 x_02_1, .int .i64 x_03_1, .int .i64 x_04_1, .int .i64 x_05_1, .int .i64 x_06_1, .int .i64 x_07_1, .int .i64 x_08_1, .int .i64 x_09_1, .int .i64 x_10_1, .int .i64 x_11_1] 102 (0, 0)) (by (with_reducible repeat first|refine blk_drewN ?_ _|refine blk_drew ?_|refine blk_alloc ?_ _); exact BK238.out)) : gb238 ≠ gb241)); have n9_ := Aside0.mk ((by rw [hg]; exact Nat.ne_of_gt (blk_lt (g := gb238) (o := .cells #[.int .i64 x_00_1, .int .i64 x_01_1, .int .i64 x_02_1, .int .i64 x_03_1, .int .i64 x_04_1, .int .i64 x_05_1, .int .i64 x_06_1, .int .i64 x_07_1, .int .i64 x_08_1, .int .i64 x_09_1, .int .i64 x_10_1, .int .i64 x_11_1] 102 (0, 0)) (by (with_reducible repeat first|refine blk_drewN ?_ _|refine blk_drew ?_|refine blk_alloc ?_ _); exact BK238.out)) : gb241 ≠ gb238)); have n10_ := Aside0.mk ((by rw [hg]; exact Nat.ne_of_lt (blk_lt (g := gb239) (o := .cells #[.int .i64 0, .int .i64 0, .int .i64 0, .int .i64 0, .int .i64 0, .int .i64 0, .int .i64 0, .int .i64 0, .int .i64 0, .int .i64 0, .int .i64 0, .int .i64 0] 102 (0, 0)) (by (with_reducible repeat first|refine blk_drewN ?_ _|refine blk_drew ?_|refine blk_alloc ?_ _); exact BK239.out)) : gb239 ≠ gb241)); have n11_ := Aside0.mk ((by rw [hg]; exact Nat.ne_of_gt (blk_lt (g := gb239) (o := .cells #[.int .i64 0, .int .i64 0, .int .i64 0, .int .i64 0, .int .i64 0, .int .i64 0, .int .i64 0, .int .i64 0, .int .i64 0, .int .i64 0, .int .i64 0, .int .i64 0] 102 (0, 0)) (by (with_reducible repeat first|refine blk_drewN ?_ _|refine blk_drew ?_|refine blk_alloc ?_ _); exact BK239.out)) : gb241 ≠ gb239)); have n12_ := Aside0.mk ((by rw [hg]; exact Nat.ne_of_lt (IsS81.lt (show IsS81 w0 _ g s_ s0_1 from by repeat (first | (with_reducible first | exact HI0.out | apply IsS81.alloc | apply IsS81.drewN | apply IsS81.drew | refine IsS81.far ?_ NB0_238.out _ | refine IsS81.far ?_ NB0_239.out _) | exact HI0.out))) : g ≠ gb241)); have n13_ := Aside0.mk ((by rw [hg]; exact Nat.ne_of_gt (IsS81.lt (show IsS81 w0 _ g s_ s0_1 from by repeat (first | (with_reducible first | exact HI0.out | apply IsS81.alloc | apply IsS81.drewN | apply IsS81.drew | refine IsS81.far ?_ NB0_238.out _ | refine IsS81.far ?_ NB0_239.out _) | exact HI0.out))) : gb241 ≠ g)); clear BK238; clear BK239; clear HI0; clear HK; clear HB; have BK238 := n0_; have BK239 := n1_; have HI0 := n2_; have HK := n3_; have HB := n4_; have BK241 := n5_; have GW241 := n6_; have GE241 := n7_; have NB238_241 := n8_; have NB241_238 := n9_; have NB239_241 := n10_; have NB241_239 := n11_; have NB0_241 := n12_; have NB241_0 := n13_; clear n0_ n1_ n2_ n3_ n4_ n5_ n6_ n7_ n8_ n9_ n10_ n11_ n12_ n13_; clear hb hbox hg; have hnb12 := NB241_238.out; have hnc12 := NB238_241.out; have hnb13 := NB241_239.out; have hnc13 := NB239_241.out; have hnb14 := NB241_0.out; have hnc14 := NB0_241.out; have hcz15_0 : w11.cell? ⟨gb241, 0, none⟩ = some (.int .i64 0) := bA8 BK241 rfl; have hfz15_0 := blk_frozen BK241.out 0; have hcz16_1 : w11.cell? ⟨gb241, 1, none⟩ = some (.int .i64 0) := bA8 BK241 rfl; have hfz16_1 := blk_frozen BK241.out 1; have hcz17_2 : w11.cell? ⟨gb241, 2, none⟩ = some (.int .i64 0) := bA8 BK241 rfl; have hfz17_2 := blk_frozen BK241.out 2; have hcz18_3 : w11.cell? ⟨gb241, 3, none⟩ = some (.int .i64 0) := bA8 BK241 rfl; have hfz18_3 := blk_frozen BK241.out 3; have hcz19_4 : w11.cell? ⟨gb241, 4, none⟩ = some (.int .i64 0) := bA8 BK241 rfl; have hfz19_4 := blk_frozen BK241.out 4; have hcz20_5 : w11.cell? ⟨gb241, 5, none⟩ = some (.int .i64 0) := bA8 BK241 rfl; have hfz20_5 := blk_frozen BK241.out 5; have hcz21_6 : w11.cell? ⟨gb241, 6, none⟩ = some (.int .i64 0) := bA8 BK241 rfl; have hfz21_6 := blk_frozen BK241.out 6; have hcz22_7 : w11.cell? ⟨gb241, 7, none⟩ = some (.int .i64 0) := bA8 BK241 rfl; have hfz22_7 := blk_frozen BK241.out 7; have hcz23_8 : w11.cell? ⟨gb241, 8, none⟩ = some (.int .i64 0) := bA8 BK241 rfl; have hfz23_8 := blk_frozen BK241.out 8; have hcz24_9 : w11.cell? ⟨gb241, 9, none⟩ = some (.int .i64 0) := bA8 BK241 rfl; have hfz24_9 := blk_frozen BK241.out 9; have hcz25_10 : w11.cell? ⟨gb241, 10, none⟩ = some (.int .i64 0) := bA8 BK241 rfl; have hfz25_10 := blk_frozen BK241.out 10; have hcz26_11 : w11.cell? ⟨gb241, 11, none⟩ = some (.int .i64 0) := bA8 BK241 rfl; have hfz26_11 := blk_frozen BK241.out 11) | ((with_reducible refine gate_store (t := 102) (p := 6) rfl ?_); refine store_event (t := 102) (p := 6) (v := ?vo_w27) (w1 := ((((((((((((w11.setCell ⟨gb241, 0, none⟩ (.int .i64 ((rd_T102 s_ i_).f0.f0))).setCell ⟨gb241, 1, none⟩ (.int .i64 ((rd_T102 s_ i_).f0.f1))).setCell ⟨gb241, 2, none⟩ (.int .i64 ((rd_T102 s_ i_).f0.f2))).setCell ⟨gb241, 3, none⟩ (.int .i64 ((rd_T102 s_ i_).f0.f3))).setCell ⟨gb241, 4, none⟩ (.int .i64 ((rd_T102 s_ i_).f1.f0))).setCell ⟨gb241, 5, none⟩ (.int .i64 ((rd_T102 s_ i_).f1.f1))).setCell ⟨gb241, 6, none⟩ (.int .i64 ((rd_T102 s_ i_).f1.f2))).setCell ⟨gb241, 7, none⟩ (.int .i64 ((rd_T102 s_ i_).f1.f3))).setCell ⟨gb241, 8, none⟩ (.int .i64 ((rd_T102 s_ i_).f1.f4))).setCell ⟨gb241, 9, none⟩ (.int .i64 ((rd_T102 s_ i_).f1.f5))).setCell ⟨gb241, 10, none⟩ (.int .i64 ((rd_T102 s_ i_).f1.f6))).setCell ⟨gb241, 11, none⟩ (.int .i64 ((rd_T102 s_ i_).f1.f7)))) ?hg ?ho ?hn ?hr ?_; (case ho => rfl); (case hg => rfl); (case hn => rfl); (case hr => first | (go_simp; done) | (go_simp; rfl)); intro w27 hw; have n0_ : Aside0 (w27.heap[gb238]? = some (.cells #[.int .i64 x_00_1, .int .i64 x_01_1, .int .i64 x_02_1, .int .i64 x_03_1, .int .i64 x_04_1, .int .i64 x_05_1, .int .i64 x_06_1, .int .i64 x_07_1, .int .i64 x_08_1, .int .i64 x_09_1, .int .i64 x_10_1, .int .i64 x_11_1] 102 (0, 0))) := ⟨(by rw [hw]; exact (by (with_reducible repeat first|refine blk_drewN ?_ _|refine blk_drew ?_|refine blk_alloc ?_ _); refine blk_far ?_ NB238_241.out _; (with_reducible repeat first|refine blk_drewN ?_ _|refine blk_drew ?_|refine blk_alloc ?_ _); refine blk_far ?_ NB238_241.out _; (with_reducible repeat first|refine blk_drewN ?_ _|refine blk_drew ?_|refine blk_alloc ?_ _); refine blk_far ?_ NB238_241.out _; (with_reducible repeat first|refine blk_drewN ?_ _|refine blk_drew ?_|refine blk_alloc ?_ _); refine blk_far ?_ NB238_241.out _; (with_reducible repeat first|refine blk_drewN ?_ _|refine blk_drew ?_|refine blk_alloc ?_ _); refine blk_far ?_ NB238_241.out _; (with_reducible repeat first|refine blk_drewN ?_ _|refine blk_drew ?_|refine blk_alloc ?_ _); refine blk_far ?_ NB238_241.out _; (with_reducible repeat first|refine blk_drewN ?_ _|refine blk_drew ?_|refine blk_alloc ?_ _); refine blk_far ?_ NB238_241.out _; (with_reducible repeat first|refine blk_drewN ?_ _|refine blk_drew ?_|refine blk_alloc ?_ _); refine blk_far ?_ NB238_241.out _; (with_reducible repeat first|refine blk_drewN ?_ _|refine blk_drew ?_|refine blk_alloc ?_ _); refine blk_far ?_ NB238_241.out _; (with_reducible repeat first|refine blk_drewN ?_ _|refine blk_drew ?_|refine blk_alloc ?_ _); refine blk_far ?_ NB238_241.out _; (with_reducible repeat first|refine blk_drewN ?_ _|refine blk_drew ?_|refine blk_alloc ?_ _); refine blk_far ?_ NB238_241.out _; (with_reducible repeat first|refine blk_drewN ?_ _|refine blk_drew ?_|refine blk_alloc ?_ _); refine blk_far ?_ NB238_241.out _; (with_reducible repeat first|refine blk_drewN ?_ _|refine blk_drew ?_|refine blk_alloc ?_ _); exact BK238.out))⟩; have n1_ : Aside0 (w27.heap[gb239]? = some (.cells #[.int .i64 0, .int .i64 0, .int .i64 0, .int .i64 0, .int .i64 0, .int .i64 0, .int .i64 0, .int .i64 0, .int .i64 0, .int .i64 0, .int .i64 0, .int .i64 0] 102 (0, 0))) := ⟨(by rw [hw]; exact (by (with_reducible repeat first|refine blk_drewN ?_ _|refine blk_drew ?_|refine blk_alloc ?_ _); refine blk_far ?_ NB239_241.out _; (with_reducible repeat first|refine blk_drewN ?_ _|refine blk_drew ?_|refine blk_alloc ?_ _); refine blk_far ?_ NB239_241.out _; (with_reducible repeat first|refine blk_drewN ?_ _|refine blk_drew ?_|refine blk_alloc ?_ _); refine blk_far ?_ NB239_241.out _; (with_reducible repeat first|refine blk_drewN ?_ _|refine blk_drew ?_|refine blk_alloc ?_ _); refine blk_far ?_ NB239_241.out _; (with_reducible repeat first|refine blk_drewN ?_ _|refine blk_drew ?_|refine blk_alloc ?_ _); refine blk_far ?_ NB239_241.out _; (with_reducible repeat first|refine blk_drewN ?_ _|refine blk_drew ?_|refine blk_alloc ?_ _); refine blk_far ?_ NB239_241.out _; (with_reducible repeat first|refine blk_drewN ?_ _|refine blk_drew ?_|refine blk_alloc ?_ _); refine blk_far ?_ NB239_241.out _; (with_reducible repeat first|refine blk_drewN ?_ _|refine blk_drew ?_|refine blk_alloc ?_ _); refine blk_far ?_ NB239_241.out _; (with_reducible repeat first|refine blk_drewN ?_ _|refine blk_drew ?_|refine blk_alloc ?_ _); refine blk_far ?_ NB239_241.out _; (with_reducible repeat first|refine blk_drewN ?_ _|refine blk_drew ?_|refine blk_alloc ?_ _); refine blk_far ?_ NB239_241.out _; (with_reducible repeat first|refine blk_drewN ?_ _|refine blk_drew ?_|refine blk_alloc ?_ _); refine blk_far ?_ NB239_241.out _; (with_reducible repeat first|refine blk_drewN ?_ _|refine blk_drew ?_|refine blk_alloc ?_ _); refine blk_far ?_ NB239_241.out _; (with_reducible repeat first|refine blk_drewN ?_ _|refine blk_drew ?_|refine blk_alloc ?_ _); exact BK239.out))⟩; have n2_ : Aside0 (w27.heap[gb241]? = some (.cells #[.int .i64 ((rd_T102 s_ i_).f0.f0), .int .i64 ((rd_T102 s_ i_).f0.f1), .int .i64 ((rd_T102 s_ i_).f0.f2), .int .i64 ((rd_T102 s_ i_).f0.f3), .int .i64 ((rd_T102 s_ i_).f1.f0), .int .i64 ((rd_T102 s_ i_).f1.f1), .int .i64 ((rd_T102 s_ i_).f1.f2), .int .i64 ((rd_T102 s_ i_).f1.f3), .int .i64 ((rd_T102 s_ i_).f1.f4), .int .i64 ((rd_T102 s_ i_).f1.f5), .int .i64 ((rd_T102 s_ i_).f1.f6), .int .i64 ((rd_T102 s_ i_).f1.f7)] 102 (0, 0))) := ⟨(by rw [hw]; exact (by (with_reducible repeat first|refine blk_drewN ?_ _|refine blk_drew ?_|refine blk_alloc ?_ _); refine blk_put (cs := #[.int .i64 ((rd_T102 s_ i_).f0.f0), .int .i64 ((rd_T102 s_ i_).f0.f1), .int .i64 ((rd_T102 s_ i_).f0.f2), .int .i64 ((rd_T102 s_ i_).f0.f3), .int .i64 ((rd_T102 s_ i_).f1.f0), .int .i64 ((rd_T102 s_ i_).f1.f1), .int .i64 ((rd_T102 s_ i_).f1.f2), .int .i64 ((rd_T102 s_ i_).f1.f3), .int .i64 ((rd_T102 s_ i_).f1.f4), .int .i64 ((rd_T102 s_ i_).f1.f5), .int .i64 ((rd_T102 s_ i_).f1.f6), .int .i64 0]) ?_ 11 _ rfl; (with_reducible repeat first|refine blk_drewN ?_ _|refine blk_drew ?_|refine blk_alloc ?_ _); refine blk_put (cs := #[.int .i64 ((rd_T102 s_ i_).f0.f0), .int .i64 ((rd_T102 s_ i_).f0.f1), .int .i64 ((rd_T102 s_ i_).f0.f2), .int .i64 ((rd_T102 s_ i_).f0.f3), .int .i64 ((rd_T102 s_ i_).f1.f0), .int .i64 ((rd_T102 s_ i_).f1.f1), .int .i64 ((rd_T102 s_ i_).f1.f2), .int .i64 ((rd_T102 s_ i_).f1.f3), .int .i64 ((rd_T102 s_ i_).f1.f4), .int .i64 ((rd_T102 s_ i_).f1.f5), .int .i64 0, .int .i64 0]) ?_ 10 _ rfl; (with_reducible repeat first|refine blk_drewN ?_ _|refine blk_drew ?_|refine blk_alloc ?_ _); refine blk_put (cs := #[.int .i64 ((rd_T102 s_ i_).f0.f0), .int .i64 ((rd_T102 s_ i_).f0.f1), .int .i64 ((rd_T102 s_ i_).f0.f2), .int .i64 ((rd_T102 s_ i_).f0.f3), .int .i64 ((rd_T102 s_ i_).f1.f0), .int .i64 ((rd_T102 s_ i_).f1.f1), .int .i64 ((rd_T102 s_ i_).f1.f2), .int .i64 ((rd_T102 s_ i_).f1.f3), .int .i64 ((rd_T102 s_ i_).f1.f4), .int .i64 0, .int .i64 0, .int .i64 0]) ?_ 9 _ rfl; (with_reducible repeat first|refine blk_drewN ?_ _|refine blk_drew ?_|refine blk_alloc ?_ _); refine blk_put (cs := #[.int .i64 ((rd_T102 s_ i_).f0.f0), .int .i64 ((rd_T102 s_ i_).f0.f1), .int .i64 ((rd_T102 s_ i_).f0.f2), .int .i64 ((rd_T102 s_ i_).f0.f3), .int .i64 ((rd_T102 s_ i_).f1.f0), .int .i64 ((rd_T102 s_ i_).f1.f1), .int .i64 ((rd_T102 s_ i_).f1.f2), .int .i64 ((rd_T102 s_ i_).f1.f3), .int .i64 0, .int .i64 0, .int .i64 0, .int .i64 0]) ?_ 8 _ rfl; (with_reducible repeat first|refine blk_drewN ?_ _|refine blk_drew ?_|refine blk_alloc ?_ _); refine blk_put (cs := #[.int .i64 ((rd_T102 s_ i_).f0.f0), .int .i64 ((rd_T102 s_ i_).f0.f1), .int .i64 ((rd_T102 s_ i_).f0.f2), .int .i64 ((rd_T102 s_ i_).f0.f3), .int .i64 ((rd_T102 s_ i_).f1.f0), .int .i64 ((rd_T102 s_ i_).f1.f1), .int .i64 ((rd_T102 s_ i_).f1.f2), .int .i64 0, .int .i64 0, .int .i64 0, .int .i64 0, .int .i64 0]) ?_ 7 _ rfl; (with_reducible repeat first|refine blk_drewN ?_ _|refine blk_drew ?_|refine blk_alloc ?_ _); refine blk_put (cs := #[.int .i64 ((rd_T102 s_ i_).f0.f0), .int .i64 ((rd_T102 s_ i_).f0.f1), .int .i64 ((rd_T102 s_ i_).f0.f2), .int .i64 ((rd_T102 s_ i_).f0.f3), .int .i64 ((rd_T102 s_ i_).f1.f0), .int .i64 ((rd_T102 s_ i_).f1.f1), .int .i64 0, .int .i64 0, .int .i64 0, .int .i64 0, .int .i64 0, .int .i64 0]) ?_ 6 _ rfl; (with_reducible repeat first|refine blk_drewN ?_ _|refine blk_drew ?_|refine blk_alloc ?_ _); refine blk_put (cs := #[.int .i64 ((rd_T102 s_ i_).f0.f0), .int .i64 ((rd_T102 s_ i_).f0.f1), .int .i64 ((rd_T102 s_ i_).f0.f2), .int .i64 ((rd_T102 s_ i_).f0.f3), .int .i64 ((rd_T102 s_ i_).f1.f0), .int .i64 0, .int .i64 0, .int .i64 0, .int .i64 0, .int .i64 0, .int .i64 0, .int .i64 0]) ?_ 5 _ rfl; (with_reducible repeat first|refine blk_drewN ?_ _|refine blk_drew ?_|refine blk_alloc ?_ _); refine blk_put (cs := #[.int .i64 ((rd_T102 s_ i_).f0.f0), .int .i64 ((rd_T102 s_ i_).f0.f1), .int .i64 ((rd_T102 s_ i_).f0.f2), .int .i64 ((rd_T102 s_ i_).f0.f3), .int .i64 0, .int .i64 0, .int .i64 0, .int .i64 0, .int .i64 0, .int .i64 0, .int .i64 0, .int .i64 0]) ?_ 4 _ rfl; (with_reducible repeat first|refine blk_drewN ?_ _|refine blk_drew ?_|refine blk_alloc ?_ _); refine blk_put (cs := #[.int .i64 ((rd_T102 s_ i_).f0.f0), .int .i64 ((rd_T102 s_ i_).f0.f1), .int .i64 ((rd_T102 s_ i_).f0.f2), .int .i64 0, .int .i64 0, .int .i64 0, .int .i64 0, .int .i64 0, .int .i64 0, .int .i64 0, .int .i64 0, .int .i64 0]) ?_ 3 _ rfl; (with_reducible repeat first|refine blk_drewN ?_ _|refine blk_drew ?_|refine blk_alloc ?_ _); refine blk_put (cs := #[.int .i64 ((rd_T102 s_ i_).f0.f0), .int .i64 ((rd_T102 s_ i_).f0.f1), .int .i64 0, .int .i64 0, .int .i64 0, .int .i64 0, .int .i64 0, .int .i64 0, .int .i64 0, .int .i64 0, .int .i64 0, .int .i64 0]) ?_ 2 _ rfl; (with_reducible repeat first|refine blk_drewN ?_ _|refine blk_drew ?_|refine blk_alloc ?_ _); refine blk_put (cs := #[.int .i64 ((rd_T102 s_ i_).f0.f0), .int .i64 0, .int .i64 0, .int .i64 0, .int .i64 0, .int .i64 0, .int .i64 0, .int .i64 0, .int .i64 0, .int .i64 0, .int .i64 0, .int .i64 0]) ?_ 1 _ rfl; (with_reducible repeat first|refine blk_drewN ?_ _|refine blk_drew ?_|refine blk_alloc ?_ _); refine blk_put (cs := #[.int .i64 0, .int .i64 0, .int .i64 0, .int .i64 0, .int .i64 0, .int .i64 0, .int .i64 0, .int .i64 0, .int .i64 0, .int .i64 0, .int .i64 0, .int .i64 0]) ?_ 0 _ rfl; (with_reducible repeat first|refine blk_drewN ?_ _|refine blk_drew ?_|refine blk_alloc ?_ _); exact BK241.out))⟩; have n3_ : Aside0 (IsS81 w0 w27 g s_ s0_1) := ⟨(by rw [hw]; exact (by repeat (first | (with_reducible first | exact HI0.out | apply IsS81.alloc | apply IsS81.drewN | apply IsS81.drew | refine IsS81.far ?_ NB0_238.out _ | refine IsS81.far ?_ NB0_239.out _ | refine IsS81.far ?_ NB0_241.out _) | exact HI0.out)))⟩; have n4_ : Aside0 (KeepBut w w27 g none) := ⟨(by rw [hw]; exact (by repeat (first | (with_reducible first | exact HK.out | apply KeepBut.set_ | apply keep_drewN | apply keep_drew | apply keep_alloc | refine keep_far ?_ GW238.out _ | refine keep_far ?_ GW239.out _ | refine keep_far ?_ GW241.out _) | exact HK.out)))⟩; have n5_ : Aside0 (Below w0.heap.size w0 w27) := ⟨(by rw [hw]; exact (by repeat (first | (with_reducible first | exact HB.out | apply below_alloc | apply pw_below_drewN | apply below_drew1 | refine below_set ?_ (IsS81.ge HI0.out) | refine below_set ?_ GE238.out | refine below_set ?_ GE239.out | refine below_set ?_ GE241.out) | exact HB.out)))⟩; clear hw; clear BK238; clear BK239; clear BK241; clear HI0; clear HK; clear HB; have BK238 := n0_; have BK239 := n1_; have BK241 := n2_; have HI0 := n3_; have HK := n4_; have HB := n5_; clear n0_ n1_ n2_ n3_ n4_ n5_))
      (try simp only [Act.put, List.setIfInBounds_toArray, List.set_cons_zero, List.set_cons_succ])
      go_cut [7] (fun v7 wc => ∃ (kq : Nat) (x7_8 : Int), v7 = .int .i64 x7_8 ∧ Aside0 (impl_span_less.j1 kq x7_8 s_ (s_.length : Int) i_ x_00_1 x_01_1 x_02_1 x_03_1 x_04_1 x_05_1 x_06_1 x_07_1 x_08_1 x_09_1 x_10_1 x_11_1 ((rd_T102 s_ i_).f0.f0) ((rd_T102 s_ i_).f0.f1) ((rd_T102 s_ i_).f0.f2) ((rd_T102 s_ i_).f0.f3) ((rd_T102 s_ i_).f1.f0) ((rd_T102 s_ i_).f1.f1) ((rd_T102 s_ i_).f1.f2) ((rd_T102 s_ i_).f1.f3) ((rd_T102 s_ i_).f1.f4) ((rd_T102 s_ i_).f1.f5) ((rd_T102 s_ i_).f1.f6) ((rd_T102 s_ i_).f1.f7) = some (r1, r2, r3, r4, r5, r6, r7, r8, r9, r10, r11, r12)) ∧ Aside0 (kq ≤ k1) ∧ Aside0 (wc.heap[gb238]? = some (.cells #[.int .i64 x_00_1, .int .i64 x_01_1, .int .i64 x_02_1, .int .i64 x_03_1, .int .i64 x_04_1, .int .i64 x_05_1, .int .i64 x_06_1, .int .i64 x_07_1, .int .i64 x_08_1, .int .i64 x_09_1, .int .i64 x_10_1, .int .i64 x_11_1] 102 (0, 0))) ∧ Aside0 (wc.heap[gb239]? = some (.cells #[.int .i64 0, .int .i64 0, .int .i64 0, .int .i64 0, .int .i64 0, .int .i64 0, .int .i64 0, .int .i64 0, .int .i64 0, .int .i64 0, .int .i64 0, .int .i64 0] 102 (0, 0))) ∧ Aside0 (wc.heap[gb241]? = some (.cells #[.int .i64 ((rd_T102 s_ i_).f0.f0), .int .i64 ((rd_T102 s_ i_).f0.f1), .int .i64 ((rd_T102 s_ i_).f0.f2), .int .i64 ((rd_T102 s_ i_).f0.f3), .int .i64 ((rd_T102 s_ i_).f1.f0), .int .i64 ((rd_T102 s_ i_).f1.f1), .int .i64 ((rd_T102 s_ i_).f1.f2), .int .i64 ((rd_T102 s_ i_).f1.f3), .int .i64 ((rd_T102 s_ i_).f1.f4), .int .i64 ((rd_T102 s_ i_).f1.f5), .int .i64 ((rd_T102 s_ i_).f1.f6), .int .i64 ((rd_T102 s_ i_).f1.f7)] 102 (0, 0))) ∧ Aside0 (IsS81 w0 wc g s_ s0_1) ∧ Aside0 (KeepBut w wc g none) ∧ Aside0 (Below w0.heap.size w0 wc))
      case first =>
       have H := HC9.out
       clear HC9
       replace H := Option.bind_eq_some_iff.mp H
       obtain ⟨t242, A280, H⟩ := H
       replace H : (if t242 = 0 then (impl_span_less.j1 k1 x_00_1 s_ (s_.length : Int) i_ x_00_1 x_01_1 x_02_1 x_03_1 x_04_1 x_05_1 x_06_1 x_07_1 x_08_1 x_09_1 x_10_1 x_11_1 ((rd_T102 s_ i_).f0.f0) ((rd_T102 s_ i_).f0.f1) ((rd_T102 s_ i_).f0.f2) ((rd_T102 s_ i_).f0.f3) ((rd_T102 s_ i_).f1.f0) ((rd_T102 s_ i_).f1.f1) ((rd_T102 s_ i_).f1.f2) ((rd_T102 s_ i_).f1.f3) ((rd_T102 s_ i_).f1.f4) ((rd_T102 s_ i_).f1.f5) ((rd_T102 s_ i_).f1.f6) ((rd_T102 s_ i_).f1.f7)) else (if t242 = 1 then (impl_span_less.j1 k1 x_01_1 s_ (s_.length : Int) i_ x_00_1 x_01_1 x_02_1 x_03_1 x_04_1 x_05_1 x_06_1 x_07_1 x_08_1 x_09_1 x_10_1 x_11_1 ((rd_T102 s_ i_).f0.f0) ((rd_T102 s_ i_).f0.f1) ((rd_T102 s_ i_).f0.f2) ((rd_T102 s_ i_).f0.f3) ((rd_T102 s_ i_).f1.f0) ((rd_T102 s_ i_).f1.f1) ((rd_T102 s_ i_).f1.f2) ((rd_T102 s_ i_).f1.f3) ((rd_T102 s_ i_).f1.f4) ((rd_T102 s_ i_).f1.f5) ((rd_T102 s_ i_).f1.f6) ((rd_T102 s_ i_).f1.f7)) else (if t242 = 2 then (impl_span_less.j1 k1 x_02_1 s_ (s_.length : Int) i_ x_00_1 x_01_1 x_02_1 x_03_1 x_04_1 x_05_1 x_06_1 x_07_1 x_08_1 x_09_1 x_10_1 x_11_1 ((rd_T102 s_ i_).f0.f0) ((rd_T102 s_ i_).f0.f1) ((rd_T102 s_ i_).f0.f2) ((rd_T102 s_ i_).f0.f3) ((rd_T102 s_ i_).f1.f0) ((rd_T102 s_ i_).f1.f1) ((rd_T102 s_ i_).f1.f2) ((rd_T102 s_ i_).f1.f3) ((rd_T102 s_ i_).f1.f4) ((rd_T102 s_ i_).f1.f5) ((rd_T102 s_ i_).f1.f6) ((rd_T102 s_ i_).f1.f7)) else (if t242 = 3 then (impl_span_less.j1 k1 x_03_1 s_ (s_.length : Int) i_ x_00_1 x_01_1 x_02_1 x_03_1 x_04_1 x_05_1 x_06_1 x_07_1 x_08_1 x_09_1 x_10_1 x_11_1 ((rd_T102 s_ i_).f0.f0) ((rd_T102 s_ i_).f0.f1) ((rd_T102 s_ i_).f0.f2) ((rd_T102 s_ i_).f0.f3) ((rd_T102 s_ i_).f1.f0) ((rd_T102 s_ i_).f1.f1) ((rd_T102 s_ i_).f1.f2) ((rd_T102 s_ i_).f1.f3) ((rd_T102 s_ i_).f1.f4) ((rd_T102 s_ i_).f1.f5) ((rd_T102 s_ i_).f1.f6) ((rd_T102 s_ i_).f1.f7)) else (none))))) = some (r1, r2, r3, r4, r5, r6, r7, r8, r9, r10, r11, r12) := H
       have A28 := Aside0.mk A280
       clear A280
       by_cases c29 : t242 = 0
       ·rw [if_pos c29] at H
        subst c29
        replace H : (impl_span_less.j1 k1 x_00_1 s_ (s_.length : Int) i_ x_00_1 x_01_1 x_02_1 x_03_1 x_04_1 x_05_1 x_06_1 x_07_1 x_08_1 x_09_1 x_10_1 x_11_1 ((rd_T102 s_ i_).f0.f0) ((rd_T102 s_ i_).f0.f1) ((rd_T102 s_ i_).f0.f2) ((rd_T102 s_ i_).f0.f3) ((rd_T102 s_ i_).f1.f0) ((rd_T102 s_ i_).f1.f1) ((rd_T102 s_ i_).f1.f2) ((rd_T102 s_ i_).f1.f3) ((rd_T102 s_ i_).f1.f4) ((rd_T102 s_ i_).f1.f5) ((rd_T102 s_ i_).f1.f6) ((rd_T102 s_ i_).f1.f7)) = some (r1, r2, r3, r4, r5, r6, r7, r8, r9, r10, r11, r12) := H
        have H' := Aside0.mk H
        clear H
        have hnb30 := NB241_238.out
        have hnc30 := NB238_241.out
        have hnb31 := NB241_239.out
        have hnc31 := NB239_241.out
        have hnb32 := NB241_0.out
        have hnc32 := NB0_241.out
        have hcz33_0 : w27.cell? ⟨gb241, 0, none⟩ = some (.int .i64 ((rd_T102 s_ i_).f0.f0)) := bA8 BK241 rfl
        have hcz33_1 : w27.cell? ⟨gb241, 1, none⟩ = some (.int .i64 ((rd_T102 s_ i_).f0.f1)) := bA8 BK241 rfl
        have hcz33_2 : w27.cell? ⟨gb241, 2, none⟩ = some (.int .i64 ((rd_T102 s_ i_).f0.f2)) := bA8 BK241 rfl
        have hcz33_3 : w27.cell? ⟨gb241, 3, none⟩ = some (.int .i64 ((rd_T102 s_ i_).f0.f3)) := bA8 BK241 rfl
        have hfz33_0 := blk_frozen BK241.out 0
        have hfz33_1 := blk_frozen BK241.out 1
        have hfz33_2 := blk_frozen BK241.out 2
        have hfz33_3 := blk_frozen BK241.out 3
        go_wp2_with (first | ((with_reducible refine gate_callee (f := 60) rfl ?_); refine goesL_ (some 20) rfl rfl Try.func60 (by kernel_rfl) rfl #[.agg #[.int .i64 ((rd_T102 s_ i_).f0.f0), .int .i64 ((rd_T102 s_ i_).f0.f1), .int .i64 ((rd_T102 s_ i_).f0.f2), .int .i64 ((rd_T102 s_ i_).f0.f3)]] rfl (by (try simp only [List.map_toArray, List.map_cons, List.map_nil]); first | done | rfl | (simp only [List.length_drop, List.length_take]; rfl)) ?_; (with_reducible refine (impl_vector_lead.calls ((rd_T102 s_ i_).f0.f0) ((rd_T102 s_ i_).f0.f1) ((rd_T102 s_ i_).f0.f2) ((rd_T102 s_ i_).f0.f3) (0 : Int) _ A28.out).mono ?_); rintro e w34 ⟨rfl, hb⟩; refine ⟨_, rfl, ?_⟩; have n0_ := Aside0.mk (blk_below (g := gb238) (o := .cells #[.int .i64 x_00_1, .int .i64 x_01_1, .int .i64 x_02_1, .int .i64 x_03_1, .int .i64 x_04_1, .int .i64 x_05_1, .int .i64 x_06_1, .int .i64 x_07_1, .int .i64 x_08_1, .int .i64 x_09_1, .int .i64 x_10_1, .int .i64 x_11_1] 102 (0, 0)) (by (with_reducible repeat first|refine blk_drewN ?_ _|refine blk_drew ?_|refine blk_alloc ?_ _); exact BK238.out) hb); have n1_ := Aside0.mk (blk_below (g := gb239) (o := .cells #[.int .i64 0, .int .i64 0, .int .i64 0, .int .i64 0, .int .i64 0, .int .i64 0, .int .i64 0, .int .i64 0, .int .i64 0, .int .i64 0, .int .i64 0, .int .i64 0] 102 (0, 0)) (by (with_reducible repeat first|refine blk_drewN ?_ _|refine blk_drew ?_|refine blk_alloc ?_ _); exact BK239.out) hb); have n2_ := Aside0.mk (IsS81.below (by repeat (first | (with_reducible first | exact HI0.out | apply IsS81.alloc | apply IsS81.drewN | apply IsS81.drew | refine IsS81.far ?_ NB0_238.out _ | refine IsS81.far ?_ NB0_239.out _ | refine IsS81.far ?_ NB0_241.out _) | exact HI0.out)) hb); have n3_ := Aside0.mk (blk_below (g := gb241) (o := .cells #[.int .i64 ((rd_T102 s_ i_).f0.f0), .int .i64 ((rd_T102 s_ i_).f0.f1), .int .i64 ((rd_T102 s_ i_).f0.f2), .int .i64 ((rd_T102 s_ i_).f0.f3), .int .i64 ((rd_T102 s_ i_).f1.f0), .int .i64 ((rd_T102 s_ i_).f1.f1), .int .i64 ((rd_T102 s_ i_).f1.f2), .int .i64 ((rd_T102 s_ i_).f1.f3), .int .i64 ((rd_T102 s_ i_).f1.f4), .int .i64 ((rd_T102 s_ i_).f1.f5), .int .i64 ((rd_T102 s_ i_).f1.f6), .int .i64 ((rd_T102 s_ i_).f1.f7)] 102 (0, 0)) (by (with_reducible repeat first|refine blk_drewN ?_ _|refine blk_drew ?_|refine blk_alloc ?_ _); exact BK241.out) hb); have n4_ := Aside0.mk (KeepBut.trans (by repeat (first | (with_reducible first | exact HK.out | apply KeepBut.set_ | apply keep_drewN | apply keep_drew | apply keep_alloc | refine keep_far ?_ GW238.out _ | refine keep_far ?_ GW239.out _ | refine keep_far ?_ GW241.out _) | exact HK.out)) (KeepBut.of_below hb g none) (.inl rfl)); have n5_ := Aside0.mk (below_step (by repeat (first | (with_reducible first | exact HB.out | apply below_alloc | apply pw_below_drewN | apply below_drew1 | refine below_set ?_ (IsS81.ge HI0.out) | refine below_set ?_ GE238.out | refine below_set ?_ GE239.out | refine below_set ?_ GE241.out) | exact HB.out)) hb); clear BK238; clear BK239; clear HI0; clear BK241; clear HK; clear HB; have BK238 := n0_; have BK239 := n1_; have HI0 := n2_; have BK241 := n3_; have HK := n4_; have HB := n5_; clear n0_ n1_ n2_ n3_ n4_ n5_; (try clear hb); (try clear hb2); (try clear hk); (try clear hi); have hnb35 := NB238_239.out; have hnc35 := NB239_238.out; have hnb36 := NB238_0.out; have hnc36 := NB0_238.out; have hcz37_0 : w34.cell? ⟨gb238, 0, none⟩ = some (.int .i64 x_00_1) := bA8 BK238 rfl; have hfz37_0 := blk_frozen BK238.out 0))
        go_meet
        case rel => exact ⟨_, (x_00_1), (by first | rfl | (simp; done) | (simp [*]; done)), H', ⟨by have := HK1.out; first | omega | exact Nat.le_refl _⟩, ⟨by (with_reducible repeat first|refine blk_drewN ?_ _|refine blk_drew ?_|refine blk_alloc ?_ _); exact BK238.out⟩, ⟨by (with_reducible repeat first|refine blk_drewN ?_ _|refine blk_drew ?_|refine blk_alloc ?_ _); exact BK239.out⟩, ⟨by (with_reducible repeat first|refine blk_drewN ?_ _|refine blk_drew ?_|refine blk_alloc ?_ _); exact BK241.out⟩, ⟨by repeat (first | (with_reducible first | exact HI0.out | apply IsS81.alloc | apply IsS81.drewN | apply IsS81.drew | refine IsS81.far ?_ NB0_238.out _ | refine IsS81.far ?_ NB0_239.out _ | refine IsS81.far ?_ NB0_241.out _) | exact HI0.out)⟩, ⟨by repeat (first | (with_reducible first | exact HK.out | apply KeepBut.set_ | apply keep_drewN | apply keep_drew | apply keep_alloc | refine keep_far ?_ GW238.out _ | refine keep_far ?_ GW239.out _ | refine keep_far ?_ GW241.out _) | exact HK.out)⟩, ⟨by repeat (first | (with_reducible first | exact HB.out | apply below_alloc | apply pw_below_drewN | apply below_drew1 | refine below_set ?_ (IsS81.ge HI0.out) | refine below_set ?_ GE238.out | refine below_set ?_ GE239.out | refine below_set ?_ GE241.out) | exact HB.out)⟩⟩
       ·rw [if_neg c29] at H
        clear c29
        by_cases c38 : t242 = 1
        ·rw [if_pos c38] at H
         subst c38
         replace H : (impl_span_less.j1 k1 x_01_1 s_ (s_.length : Int) i_ x_00_1 x_01_1 x_02_1 x_03_1 x_04_1 x_05_1 x_06_1 x_07_1 x_08_1 x_09_1 x_10_1 x_11_1 ((rd_T102 s_ i_).f0.f0) ((rd_T102 s_ i_).f0.f1) ((rd_T102 s_ i_).f0.f2) ((rd_T102 s_ i_).f0.f3) ((rd_T102 s_ i_).f1.f0) ((rd_T102 s_ i_).f1.f1) ((rd_T102 s_ i_).f1.f2) ((rd_T102 s_ i_).f1.f3) ((rd_T102 s_ i_).f1.f4) ((rd_T102 s_ i_).f1.f5) ((rd_T102 s_ i_).f1.f6) ((rd_T102 s_ i_).f1.f7)) = some (r1, r2, r3, r4, r5, r6, r7, r8, r9, r10, r11, r12) := H
         have H' := Aside0.mk H
         clear H
         have hnb39 := NB241_238.out
         have hnc39 := NB238_241.out
         have hnb40 := NB241_239.out
         have hnc40 := NB239_241.out
         have hnb41 := NB241_0.out
         have hnc41 := NB0_241.out
         have hcz42_0 : w27.cell? ⟨gb241, 0, none⟩ = some (.int .i64 ((rd_T102 s_ i_).f0.f0)) := bA8 BK241 rfl
         have hcz42_1 : w27.cell? ⟨gb241, 1, none⟩ = some (.int .i64 ((rd_T102 s_ i_).f0.f1)) := bA8 BK241 rfl
         have hcz42_2 : w27.cell? ⟨gb241, 2, none⟩ = some (.int .i64 ((rd_T102 s_ i_).f0.f2)) := bA8 BK241 rfl
         have hcz42_3 : w27.cell? ⟨gb241, 3, none⟩ = some (.int .i64 ((rd_T102 s_ i_).f0.f3)) := bA8 BK241 rfl
         have hfz42_0 := blk_frozen BK241.out 0
         have hfz42_1 := blk_frozen BK241.out 1
         have hfz42_2 := blk_frozen BK241.out 2
         have hfz42_3 := blk_frozen BK241.out 3
         go_wp2_with (first | ((with_reducible refine gate_callee (f := 60) rfl ?_); refine goesL_ (some 20) rfl rfl Try.func60 (by kernel_rfl) rfl #[.agg #[.int .i64 ((rd_T102 s_ i_).f0.f0), .int .i64 ((rd_T102 s_ i_).f0.f1), .int .i64 ((rd_T102 s_ i_).f0.f2), .int .i64 ((rd_T102 s_ i_).f0.f3)]] rfl (by (try simp only [List.map_toArray, List.map_cons, List.map_nil]); first | done | rfl | (simp only [List.length_drop, List.length_take]; rfl)) ?_; (with_reducible refine (impl_vector_lead.calls ((rd_T102 s_ i_).f0.f0) ((rd_T102 s_ i_).f0.f1) ((rd_T102 s_ i_).f0.f2) ((rd_T102 s_ i_).f0.f3) (1 : Int) _ A28.out).mono ?_); rintro e w43 ⟨rfl, hb⟩; refine ⟨_, rfl, ?_⟩; have n0_ := Aside0.mk (blk_below (g := gb238) (o := .cells #[.int .i64 x_00_1, .int .i64 x_01_1, .int .i64 x_02_1, .int .i64 x_03_1, .int .i64 x_04_1, .int .i64 x_05_1, .int .i64 x_06_1, .int .i64 x_07_1, .int .i64 x_08_1, .int .i64 x_09_1, .int .i64 x_10_1, .int .i64 x_11_1] 102 (0, 0)) (by (with_reducible repeat first|refine blk_drewN ?_ _|refine blk_drew ?_|refine blk_alloc ?_ _); exact BK238.out) hb); have n1_ := Aside0.mk (blk_below (g := gb239) (o := .cells #[.int .i64 0, .int .i64 0, .int .i64 0, .int .i64 0, .int .i64 0, .int .i64 0, .int .i64 0, .int .i64 0, .int .i64 0, .int .i64 0, .int .i64 0, .int .i64 0] 102 (0, 0)) (by (with_reducible repeat first|refine blk_drewN ?_ _|refine blk_drew ?_|refine blk_alloc ?_ _); exact BK239.out) hb); have n2_ := Aside0.mk (IsS81.below (by repeat (first | (with_reducible first | exact HI0.out | apply IsS81.alloc | apply IsS81.drewN | apply IsS81.drew | refine IsS81.far ?_ NB0_238.out _ | refine IsS81.far ?_ NB0_239.out _ | refine IsS81.far ?_ NB0_241.out _) | exact HI0.out)) hb); have n3_ := Aside0.mk (blk_below (g := gb241) (o := .cells #[.int .i64 ((rd_T102 s_ i_).f0.f0), .int .i64 ((rd_T102 s_ i_).f0.f1), .int .i64 ((rd_T102 s_ i_).f0.f2), .int .i64 ((rd_T102 s_ i_).f0.f3), .int .i64 ((rd_T102 s_ i_).f1.f0), .int .i64 ((rd_T102 s_ i_).f1.f1), .int .i64 ((rd_T102 s_ i_).f1.f2), .int .i64 ((rd_T102 s_ i_).f1.f3), .int .i64 ((rd_T102 s_ i_).f1.f4), .int .i64 ((rd_T102 s_ i_).f1.f5), .int .i64 ((rd_T102 s_ i_).f1.f6), .int .i64 ((rd_T102 s_ i_).f1.f7)] 102 (0, 0)) (by (with_reducible repeat first|refine blk_drewN ?_ _|refine blk_drew ?_|refine blk_alloc ?_ _); exact BK241.out) hb); have n4_ := Aside0.mk (KeepBut.trans (by repeat (first | (with_reducible first | exact HK.out | apply KeepBut.set_ | apply keep_drewN | apply keep_drew | apply keep_alloc | refine keep_far ?_ GW238.out _ | refine keep_far ?_ GW239.out _ | refine keep_far ?_ GW241.out _) | exact HK.out)) (KeepBut.of_below hb g none) (.inl rfl)); have n5_ := Aside0.mk (below_step (by repeat (first | (with_reducible first | exact HB.out | apply below_alloc | apply pw_below_drewN | apply below_drew1 | refine below_set ?_ (IsS81.ge HI0.out) | refine below_set ?_ GE238.out | refine below_set ?_ GE239.out | refine below_set ?_ GE241.out) | exact HB.out)) hb); clear BK238; clear BK239; clear HI0; clear BK241; clear HK; clear HB; have BK238 := n0_; have BK239 := n1_; have HI0 := n2_; have BK241 := n3_; have HK := n4_; have HB := n5_; clear n0_ n1_ n2_ n3_ n4_ n5_; (try clear hb); (try clear hb2); (try clear hk); (try clear hi); have hnb44 := NB238_239.out; have hnc44 := NB239_238.out; have hnb45 := NB238_0.out; have hnc45 := NB0_238.out; have hcz46_1 : w43.cell? ⟨gb238, 1, none⟩ = some (.int .i64 x_01_1) := bA8 BK238 rfl; have hfz46_1 := blk_frozen BK238.out 1))
         go_meet
         case rel => exact ⟨_, (x_01_1), (by first | rfl | (simp; done) | (simp [*]; done)), H', ⟨by have := HK1.out; first | omega | exact Nat.le_refl _⟩, ⟨by (with_reducible repeat first|refine blk_drewN ?_ _|refine blk_drew ?_|refine blk_alloc ?_ _); exact BK238.out⟩, ⟨by (with_reducible repeat first|refine blk_drewN ?_ _|refine blk_drew ?_|refine blk_alloc ?_ _); exact BK239.out⟩, ⟨by (with_reducible repeat first|refine blk_drewN ?_ _|refine blk_drew ?_|refine blk_alloc ?_ _); exact BK241.out⟩, ⟨by repeat (first | (with_reducible first | exact HI0.out | apply IsS81.alloc | apply IsS81.drewN | apply IsS81.drew | refine IsS81.far ?_ NB0_238.out _ | refine IsS81.far ?_ NB0_239.out _ | refine IsS81.far ?_ NB0_241.out _) | exact HI0.out)⟩, ⟨by repeat (first | (with_reducible first | exact HK.out | apply KeepBut.set_ | apply keep_drewN | apply keep_drew | apply keep_alloc | refine keep_far ?_ GW238.out _ | refine keep_far ?_ GW239.out _ | refine keep_far ?_ GW241.out _) | exact HK.out)⟩, ⟨by repeat (first | (with_reducible first | exact HB.out | apply below_alloc | apply pw_below_drewN | apply below_drew1 | refine below_set ?_ (IsS81.ge HI0.out) | refine below_set ?_ GE238.out | refine below_set ?_ GE239.out | refine below_set ?_ GE241.out) | exact HB.out)⟩⟩
        ·rw [if_neg c38] at H
         clear c38
         by_cases c47 : t242 = 2
         ·rw [if_pos c47] at H
          subst c47
          replace H : (impl_span_less.j1 k1 x_02_1 s_ (s_.length : Int) i_ x_00_1 x_01_1 x_02_1 x_03_1 x_04_1 x_05_1 x_06_1 x_07_1 x_08_1 x_09_1 x_10_1 x_11_1 ((rd_T102 s_ i_).f0.f0) ((rd_T102 s_ i_).f0.f1) ((rd_T102 s_ i_).f0.f2) ((rd_T102 s_ i_).f0.f3) ((rd_T102 s_ i_).f1.f0) ((rd_T102 s_ i_).f1.f1) ((rd_T102 s_ i_).f1.f2) ((rd_T102 s_ i_).f1.f3) ((rd_T102 s_ i_).f1.f4) ((rd_T102 s_ i_).f1.f5) ((rd_T102 s_ i_).f1.f6) ((rd_T102 s_ i_).f1.f7)) = some (r1, r2, r3, r4, r5, r6, r7, r8, r9, r10, r11, r12) := H
          have H' := Aside0.mk H
          clear H
          have hnb48 := NB241_238.out
          have hnc48 := NB238_241.out
          have hnb49 := NB241_239.out
          have hnc49 := NB239_241.out
          have hnb50 := NB241_0.out
          have hnc50 := NB0_241.out
          have hcz51_0 : w27.cell? ⟨gb241, 0, none⟩ = some (.int .i64 ((rd_T102 s_ i_).f0.f0)) := bA8 BK241 rfl
          have hcz51_1 : w27.cell? ⟨gb241, 1, none⟩ = some (.int .i64 ((rd_T102 s_ i_).f0.f1)) := bA8 BK241 rfl
          have hcz51_2 : w27.cell? ⟨gb241, 2, none⟩ = some (.int .i64 ((rd_T102 s_ i_).f0.f2)) := bA8 BK241 rfl
          have hcz51_3 : w27.cell? ⟨gb241, 3, none⟩ = some (.int .i64 ((rd_T102 s_ i_).f0.f3)) := bA8 BK241 rfl
          have hfz51_0 := blk_frozen BK241.out 0
          have hfz51_1 := blk_frozen BK241.out 1
          have hfz51_2 := blk_frozen BK241.out 2
          have hfz51_3 := blk_frozen BK241.out 3
          go_wp2_with (first | ((with_reducible refine gate_callee (f := 60) rfl ?_); refine goesL_ (some 20) rfl rfl Try.func60 (by kernel_rfl) rfl #[.agg #[.int .i64 ((rd_T102 s_ i_).f0.f0), .int .i64 ((rd_T102 s_ i_).f0.f1), .int .i64 ((rd_T102 s_ i_).f0.f2), .int .i64 ((rd_T102 s_ i_).f0.f3)]] rfl (by (try simp only [List.map_toArray, List.map_cons, List.map_nil]); first | done | rfl | (simp only [List.length_drop, List.length_take]; rfl)) ?_; (with_reducible refine (impl_vector_lead.calls ((rd_T102 s_ i_).f0.f0) ((rd_T102 s_ i_).f0.f1) ((rd_T102 s_ i_).f0.f2) ((rd_T102 s_ i_).f0.f3) (2 : Int) _ A28.out).mono ?_); rintro e w52 ⟨rfl, hb⟩; refine ⟨_, rfl, ?_⟩; have n0_ := Aside0.mk (blk_below (g := gb238) (o := .cells #[.int .i64 x_00_1, .int .i64 x_01_1, .int .i64 x_02_1, .int .i64 x_03_1, .int .i64 x_04_1, .int .i64 x_05_1, .int .i64 x_06_1, .int .i64 x_07_1, .int .i64 x_08_1, .int .i64 x_09_1, .int .i64 x_10_1, .int .i64 x_11_1] 102 (0, 0)) (by (with_reducible repeat first|refine blk_drewN ?_ _|refine blk_drew ?_|refine blk_alloc ?_ _); exact BK238.out) hb); have n1_ := Aside0.mk (blk_below (g := gb239) (o := .cells #[.int .i64 0, .int .i64 0, .int .i64 0, .int .i64 0, .int .i64 0, .int .i64 0, .int .i64 0, .int .i64 0, .int .i64 0, .int .i64 0, .int .i64 0, .int .i64 0] 102 (0, 0)) (by (with_reducible repeat first|refine blk_drewN ?_ _|refine blk_drew ?_|refine blk_alloc ?_ _); exact BK239.out) hb); have n2_ := Aside0.mk (IsS81.below (by repeat (first | (with_reducible first | exact HI0.out | apply IsS81.alloc | apply IsS81.drewN | apply IsS81.drew | refine IsS81.far ?_ NB0_238.out _ | refine IsS81.far ?_ NB0_239.out _ | refine IsS81.far ?_ NB0_241.out _) | exact HI0.out)) hb); have n3_ := Aside0.mk (blk_below (g := gb241) (o := .cells #[.int .i64 ((rd_T102 s_ i_).f0.f0), .int .i64 ((rd_T102 s_ i_).f0.f1), .int .i64 ((rd_T102 s_ i_).f0.f2), .int .i64 ((rd_T102 s_ i_).f0.f3), .int .i64 ((rd_T102 s_ i_).f1.f0), .int .i64 ((rd_T102 s_ i_).f1.f1), .int .i64 ((rd_T102 s_ i_).f1.f2), .int .i64 ((rd_T102 s_ i_).f1.f3), .int .i64 ((rd_T102 s_ i_).f1.f4), .int .i64 ((rd_T102 s_ i_).f1.f5), .int .i64 ((rd_T102 s_ i_).f1.f6), .int .i64 ((rd_T102 s_ i_).f1.f7)] 102 (0, 0)) (by (with_reducible repeat first|refine blk_drewN ?_ _|refine blk_drew ?_|refine blk_alloc ?_ _); exact BK241.out) hb); have n4_ := Aside0.mk (KeepBut.trans (by repeat (first | (with_reducible first | exact HK.out | apply KeepBut.set_ | apply keep_drewN | apply keep_drew | apply keep_alloc | refine keep_far ?_ GW238.out _ | refine keep_far ?_ GW239.out _ | refine keep_far ?_ GW241.out _) | exact HK.out)) (KeepBut.of_below hb g none) (.inl rfl)); have n5_ := Aside0.mk (below_step (by repeat (first | (with_reducible first | exact HB.out | apply below_alloc | apply pw_below_drewN | apply below_drew1 | refine below_set ?_ (IsS81.ge HI0.out) | refine below_set ?_ GE238.out | refine below_set ?_ GE239.out | refine below_set ?_ GE241.out) | exact HB.out)) hb); clear BK238; clear BK239; clear HI0; clear BK241; clear HK; clear HB; have BK238 := n0_; have BK239 := n1_; have HI0 := n2_; have BK241 := n3_; have HK := n4_; have HB := n5_; clear n0_ n1_ n2_ n3_ n4_ n5_; (try clear hb); (try clear hb2); (try clear hk); (try clear hi); have hnb53 := NB238_239.out; have hnc53 := NB239_238.out; have hnb54 := NB238_0.out; have hnc54 := NB0_238.out; have hcz55_2 : w52.cell? ⟨gb238, 2, none⟩ = some (.int .i64 x_02_1) := bA8 BK238 rfl; have hfz55_2 := blk_frozen BK238.out 2))
          go_meet
          case rel => exact ⟨_, (x_02_1), (by first | rfl | (simp; done) | (simp [*]; done)), H', ⟨by have := HK1.out; first | omega | exact Nat.le_refl _⟩, ⟨by (with_reducible repeat first|refine blk_drewN ?_ _|refine blk_drew ?_|refine blk_alloc ?_ _); exact BK238.out⟩, ⟨by (with_reducible repeat first|refine blk_drewN ?_ _|refine blk_drew ?_|refine blk_alloc ?_ _); exact BK239.out⟩, ⟨by (with_reducible repeat first|refine blk_drewN ?_ _|refine blk_drew ?_|refine blk_alloc ?_ _); exact BK241.out⟩, ⟨by repeat (first | (with_reducible first | exact HI0.out | apply IsS81.alloc | apply IsS81.drewN | apply IsS81.drew | refine IsS81.far ?_ NB0_238.out _ | refine IsS81.far ?_ NB0_239.out _ | refine IsS81.far ?_ NB0_241.out _) | exact HI0.out)⟩, ⟨by repeat (first | (with_reducible first | exact HK.out | apply KeepBut.set_ | apply keep_drewN | apply keep_drew | apply keep_alloc | refine keep_far ?_ GW238.out _ | refine keep_far ?_ GW239.out _ | refine keep_far ?_ GW241.out _) | exact HK.out)⟩, ⟨by repeat (first | (with_reducible first | exact HB.out | apply below_alloc | apply pw_below_drewN | apply below_drew1 | refine below_set ?_ (IsS81.ge HI0.out) | refine below_set ?_ GE238.out | refine below_set ?_ GE239.out | refine below_set ?_ GE241.out) | exact HB.out)⟩⟩
         ·rw [if_neg c47] at H
          clear c47
          by_cases c56 : t242 = 3
          ·rw [if_pos c56] at H
           subst c56
           replace H : (impl_span_less.j1 k1 x_03_1 s_ (s_.length : Int) i_ x_00_1 x_01_1 x_02_1 x_03_1 x_04_1 x_05_1 x_06_1 x_07_1 x_08_1 x_09_1 x_10_1 x_11_1 ((rd_T102 s_ i_).f0.f0) ((rd_T102 s_ i_).f0.f1) ((rd_T102 s_ i_).f0.f2) ((rd_T102 s_ i_).f0.f3) ((rd_T102 s_ i_).f1.f0) ((rd_T102 s_ i_).f1.f1) ((rd_T102 s_ i_).f1.f2) ((rd_T102 s_ i_).f1.f3) ((rd_T102 s_ i_).f1.f4) ((rd_T102 s_ i_).f1.f5) ((rd_T102 s_ i_).f1.f6) ((rd_T102 s_ i_).f1.f7)) = some (r1, r2, r3, r4, r5, r6, r7, r8, r9, r10, r11, r12) := H
           have H' := Aside0.mk H
           clear H
           have hnb57 := NB241_238.out
           have hnc57 := NB238_241.out
           have hnb58 := NB241_239.out
           have hnc58 := NB239_241.out
           have hnb59 := NB241_0.out
           have hnc59 := NB0_241.out
           have hcz60_0 : w27.cell? ⟨gb241, 0, none⟩ = some (.int .i64 ((rd_T102 s_ i_).f0.f0)) := bA8 BK241 rfl
           have hcz60_1 : w27.cell? ⟨gb241, 1, none⟩ = some (.int .i64 ((rd_T102 s_ i_).f0.f1)) := bA8 BK241 rfl
           have hcz60_2 : w27.cell? ⟨gb241, 2, none⟩ = some (.int .i64 ((rd_T102 s_ i_).f0.f2)) := bA8 BK241 rfl
           have hcz60_3 : w27.cell? ⟨gb241, 3, none⟩ = some (.int .i64 ((rd_T102 s_ i_).f0.f3)) := bA8 BK241 rfl
           have hfz60_0 := blk_frozen BK241.out 0
           have hfz60_1 := blk_frozen BK241.out 1
           have hfz60_2 := blk_frozen BK241.out 2
           have hfz60_3 := blk_frozen BK241.out 3
           go_wp2_with (first | ((with_reducible refine gate_callee (f := 60) rfl ?_); refine goesL_ (some 20) rfl rfl Try.func60 (by kernel_rfl) rfl #[.agg #[.int .i64 ((rd_T102 s_ i_).f0.f0), .int .i64 ((rd_T102 s_ i_).f0.f1), .int .i64 ((rd_T102 s_ i_).f0.f2), .int .i64 ((rd_T102 s_ i_).f0.f3)]] rfl (by (try simp only [List.map_toArray, List.map_cons, List.map_nil]); first | done | rfl | (simp only [List.length_drop, List.length_take]; rfl)) ?_; (with_reducible refine (impl_vector_lead.calls ((rd_T102 s_ i_).f0.f0) ((rd_T102 s_ i_).f0.f1) ((rd_T102 s_ i_).f0.f2) ((rd_T102 s_ i_).f0.f3) (3 : Int) _ A28.out).mono ?_); rintro e w61 ⟨rfl, hb⟩; refine ⟨_, rfl, ?_⟩; have n0_ := Aside0.mk (blk_below (g := gb238) (o := .cells #[.int .i64 x_00_1, .int .i64 x_01_1, .int .i64 x_02_1, .int .i64 x_03_1, .int .i64 x_04_1, .int .i64 x_05_1, .int .i64 x_06_1, .int .i64 x_07_1, .int .i64 x_08_1, .int .i64 x_09_1, .int .i64 x_10_1, .int .i64 x_11_1] 102 (0, 0)) (by (with_reducible repeat first|refine blk_drewN ?_ _|refine blk_drew ?_|refine blk_alloc ?_ _); exact BK238.out) hb); have n1_ := Aside0.mk (blk_below (g := gb239) (o := .cells #[.int .i64 0, .int .i64 0, .int .i64 0, .int .i64 0, .int .i64 0, .int .i64 0, .int .i64 0, .int .i64 0, .int .i64 0, .int .i64 0, .int .i64 0, .int .i64 0] 102 (0, 0)) (by (with_reducible repeat first|refine blk_drewN ?_ _|refine blk_drew ?_|refine blk_alloc ?_ _); exact BK239.out) hb); have n2_ := Aside0.mk (IsS81.below (by repeat (first | (with_reducible first | exact HI0.out | apply IsS81.alloc | apply IsS81.drewN | apply IsS81.drew | refine IsS81.far ?_ NB0_238.out _ | refine IsS81.far ?_ NB0_239.out _ | refine IsS81.far ?_ NB0_241.out _) | exact HI0.out)) hb); have n3_ := Aside0.mk (blk_below (g := gb241) (o := .cells #[.int .i64 ((rd_T102 s_ i_).f0.f0), .int .i64 ((rd_T102 s_ i_).f0.f1), .int .i64 ((rd_T102 s_ i_).f0.f2), .int .i64 ((rd_T102 s_ i_).f0.f3), .int .i64 ((rd_T102 s_ i_).f1.f0), .int .i64 ((rd_T102 s_ i_).f1.f1), .int .i64 ((rd_T102 s_ i_).f1.f2), .int .i64 ((rd_T102 s_ i_).f1.f3), .int .i64 ((rd_T102 s_ i_).f1.f4), .int .i64 ((rd_T102 s_ i_).f1.f5), .int .i64 ((rd_T102 s_ i_).f1.f6), .int .i64 ((rd_T102 s_ i_).f1.f7)] 102 (0, 0)) (by (with_reducible repeat first|refine blk_drewN ?_ _|refine blk_drew ?_|refine blk_alloc ?_ _); exact BK241.out) hb); have n4_ := Aside0.mk (KeepBut.trans (by repeat (first | (with_reducible first | exact HK.out | apply KeepBut.set_ | apply keep_drewN | apply keep_drew | apply keep_alloc | refine keep_far ?_ GW238.out _ | refine keep_far ?_ GW239.out _ | refine keep_far ?_ GW241.out _) | exact HK.out)) (KeepBut.of_below hb g none) (.inl rfl)); have n5_ := Aside0.mk (below_step (by repeat (first | (with_reducible first | exact HB.out | apply below_alloc | apply pw_below_drewN | apply below_drew1 | refine below_set ?_ (IsS81.ge HI0.out) | refine below_set ?_ GE238.out | refine below_set ?_ GE239.out | refine below_set ?_ GE241.out) | exact HB.out)) hb); clear BK238; clear BK239; clear HI0; clear BK241; clear HK; clear HB; have BK238 := n0_; have BK239 := n1_; have HI0 := n2_; have BK241 := n3_; have HK := n4_; have HB := n5_; clear n0_ n1_ n2_ n3_ n4_ n5_; (try clear hb); (try clear hb2); (try clear hk); (try clear hi); have hnb62 := NB238_239.out; have hnc62 := NB239_238.out; have hnb63 := NB238_0.out; have hnc63 := NB0_238.out; have hcz64_3 : w61.cell? ⟨gb238, 3, none⟩ = some (.int .i64 x_03_1) := bA8 BK238 rfl; have hfz64_3 := blk_frozen BK238.out 3))
           go_meet
           case rel => exact ⟨_, (x_03_1), (by first | rfl | (simp; done) | (simp [*]; done)), H', ⟨by have := HK1.out; first | omega | exact Nat.le_refl _⟩, ⟨by (with_reducible repeat first|refine blk_drewN ?_ _|refine blk_drew ?_|refine blk_alloc ?_ _); exact BK238.out⟩, ⟨by (with_reducible repeat first|refine blk_drewN ?_ _|refine blk_drew ?_|refine blk_alloc ?_ _); exact BK239.out⟩, ⟨by (with_reducible repeat first|refine blk_drewN ?_ _|refine blk_drew ?_|refine blk_alloc ?_ _); exact BK241.out⟩, ⟨by repeat (first | (with_reducible first | exact HI0.out | apply IsS81.alloc | apply IsS81.drewN | apply IsS81.drew | refine IsS81.far ?_ NB0_238.out _ | refine IsS81.far ?_ NB0_239.out _ | refine IsS81.far ?_ NB0_241.out _) | exact HI0.out)⟩, ⟨by repeat (first | (with_reducible first | exact HK.out | apply KeepBut.set_ | apply keep_drewN | apply keep_drew | apply keep_alloc | refine keep_far ?_ GW238.out _ | refine keep_far ?_ GW239.out _ | refine keep_far ?_ GW241.out _) | exact HK.out)⟩, ⟨by repeat (first | (with_reducible first | exact HB.out | apply below_alloc | apply pw_below_drewN | apply below_drew1 | refine below_set ?_ (IsS81.ge HI0.out) | refine below_set ?_ GE238.out | refine below_set ?_ GE239.out | refine below_set ?_ GE241.out) | exact HB.out)⟩⟩
          ·rw [if_neg c56] at H
           clear c56
           exact absurd H (by simp)
      case rest =>
       clear HC9
       try clear c1
       try clear c2
       try clear p2
       try clear q2
       try clear hx2
       try clear c3
       try clear c4
       try clear c5
       try clear c6
       try clear c6b0
       try clear c7
       try clear c7b0
       try clear c8
       try clear c8b0
       try clear c10
       try clear c12
       try clear c13
       try clear c14
       try clear p24
       try clear q24
       try clear hx24
       try clear c29
       try clear c30
       try clear c31
       try clear c32
       try clear c35
       try clear c36
       try clear c38
       try clear c39
       try clear c40
       try clear c41
       try clear c44
       try clear c45
       try clear c47
       try clear c48
       try clear c49
       try clear c50
       try clear c53
       try clear c54
       try clear c56
       try clear c57
       try clear c58
       try clear c59
       try clear c60
       try clear c62
       try clear c63
       try clear hcz10_0 hcz10_1
       try clear hcz15_0
       try clear hcz16_1
       try clear hcz17_2
       try clear hcz18_3
       try clear hcz19_4
       try clear hcz20_5
       try clear hcz21_6
       try clear hcz22_7
       try clear hcz23_8
       try clear hcz24_9
       try clear hcz25_10
       try clear hcz26_11
       try clear hcz33_0 hcz33_1 hcz33_2 hcz33_3
       try clear hcz37_0
       try clear hcz42_0 hcz42_1 hcz42_2 hcz42_3
       try clear hcz46_1
       try clear hcz51_0 hcz51_1 hcz51_2 hcz51_3
       try clear hcz55_2
       try clear hcz5_0 hcz5_1
       try clear hcz60_0 hcz60_1 hcz60_2 hcz60_3
       try clear hcz64_3
       try clear hfz15_0
       try clear hfz16_1
       try clear hfz17_2
       try clear hfz18_3
       try clear hfz19_4
       try clear hfz20_5
       try clear hfz21_6
       try clear hfz22_7
       try clear hfz23_8
       try clear hfz24_9
       try clear hfz25_10
       try clear hfz26_11
       try clear hfz33_0 hfz33_1 hfz33_2 hfz33_3
       try clear hfz37_0
       try clear hfz42_0 hfz42_1 hfz42_2 hfz42_3
       try clear hfz46_1
       try clear hfz51_0 hfz51_1 hfz51_2 hfz51_3
       try clear hfz55_2
       try clear hfz60_0 hfz60_1 hfz60_2 hfz60_3
       try clear hfz64_3
       try clear hx240_0 hx240_1 hx240_10 hx240_11 hx240_2 hx240_3 hx240_4 hx240_5 hx240_6 hx240_7 hx240_8 hx240_9
       try clear p2
       try clear p240
       try clear q240
       obtain ⟨kq, x7_8, rfl, HA, HJ8, BK238, BK239, BK241, HI0, HK, HB⟩ := hcut
       cases kq with
       | zero => exact absurd HA.out (by simp [impl_span_less.j1])
       | succ kj8 =>
        have H := HA.out
        clear HA
        simp only [impl_span_less.j1] at H
        replace H := Option.bind_eq_some_iff.mp H
        obtain ⟨⟨t243, t244, t245, t246⟩, A650, H⟩ := H
        replace H : ((impl_vector_minus.f x_00_1 x_01_1 x_02_1 x_03_1 t243 t244 t245 t246).bind fun bt247 => (impl_span_less.l1 kj8 x7_8 s_ (s_.length : Int) i_ 0 bt247.1 bt247.2.1 bt247.2.2.1 bt247.2.2.2 x_04_1 x_05_1 x_06_1 x_07_1 x_08_1 x_09_1 x_10_1 x_11_1 ((rd_T102 s_ i_).f0.f0) ((rd_T102 s_ i_).f0.f1) ((rd_T102 s_ i_).f0.f2) ((rd_T102 s_ i_).f0.f3) ((rd_T102 s_ i_).f1.f0) ((rd_T102 s_ i_).f1.f1) ((rd_T102 s_ i_).f1.f2) ((rd_T102 s_ i_).f1.f3) ((rd_T102 s_ i_).f1.f4) ((rd_T102 s_ i_).f1.f5) ((rd_T102 s_ i_).f1.f6) ((rd_T102 s_ i_).f1.f7))) = some (r1, r2, r3, r4, r5, r6, r7, r8, r9, r10, r11, r12) := H
        have A65 := Aside0.mk A650
        clear A650
        replace H := Option.bind_eq_some_iff.mp H
        obtain ⟨⟨t247, t248, t249, t250⟩, A660, H⟩ := H
        replace H : (impl_span_less.l1 kj8 x7_8 s_ (s_.length : Int) i_ 0 t247 t248 t249 t250 x_04_1 x_05_1 x_06_1 x_07_1 x_08_1 x_09_1 x_10_1 x_11_1 ((rd_T102 s_ i_).f0.f0) ((rd_T102 s_ i_).f0.f1) ((rd_T102 s_ i_).f0.f2) ((rd_T102 s_ i_).f0.f3) ((rd_T102 s_ i_).f1.f0) ((rd_T102 s_ i_).f1.f1) ((rd_T102 s_ i_).f1.f2) ((rd_T102 s_ i_).f1.f3) ((rd_T102 s_ i_).f1.f4) ((rd_T102 s_ i_).f1.f5) ((rd_T102 s_ i_).f1.f6) ((rd_T102 s_ i_).f1.f7)) = some (r1, r2, r3, r4, r5, r6, r7, r8, r9, r10, r11, r12) := H
        have A66 := Aside0.mk A660
        clear A660
        have H' := Aside0.mk H
        clear H
        try go_wp2
        have n0_ := Aside0.mk (blk_drew BK238.out)
        have n1_ := Aside0.mk (blk_drew BK239.out)
        have n2_ := Aside0.mk (blk_drew BK241.out)
        have n3_ := Aside0.mk (IsS81.drew HI0.out)
        have n4_ := Aside0.mk (keep_drew HK.out)
        have n5_ := Aside0.mk (below_drew1 HB.out)
        clear BK238
        clear BK239
        clear BK241
        clear HI0
        clear HK
        clear HB
        have BK238 := n0_
        have BK239 := n1_
        have BK241 := n2_
        have HI0 := n3_
        have HK := n4_
        have HB := n5_
        clear n0_ n1_ n2_ n3_ n4_ n5_
        refine start_ (n := 9) (S := fun w' => w'.cell? ⟨gb238, 0, none⟩ = some (.int .i64 x_00_1) ∧ w'.cell? ⟨gb238, 1, none⟩ = some (.int .i64 x_01_1) ∧ w'.cell? ⟨gb238, 2, none⟩ = some (.int .i64 x_02_1) ∧ w'.cell? ⟨gb238, 3, none⟩ = some (.int .i64 x_03_1) ∧ w'.cell? ⟨gb241, 0, none⟩ = some (.int .i64 ((rd_T102 s_ i_).f0.f0)) ∧ w'.cell? ⟨gb241, 1, none⟩ = some (.int .i64 ((rd_T102 s_ i_).f0.f1)) ∧ w'.cell? ⟨gb241, 2, none⟩ = some (.int .i64 ((rd_T102 s_ i_).f0.f2)) ∧ w'.cell? ⟨gb241, 3, none⟩ = some (.int .i64 ((rd_T102 s_ i_).f0.f3))) (ds := [8]) #[false, false, false, false, false, false, false, false, false] (by kernel_rfl) rfl rfl ⟨bA8 BK238 rfl, bA8 BK238 rfl, bA8 BK238 rfl, bA8 BK238 rfl, bA8 BK241 rfl, bA8 BK241 rfl, bA8 BK241 rfl, bA8 BK241 rfl⟩ (fun hHeld => ?_); refine with_tabW impl_span_less.tab5 impl_span_less.bits5 (fun HT_ HW_ => ?_)
        generalize wc.drew = w67 at BK238 BK239 BK241 HI0 HK HB hHeld ⊢
        refine pure_ (i := 0) (N := some 24) (v := ?_) (a' := ?_) #[true, false, false, false, false, false, false, false, false] rfl rfl (any_of HT_.out (by kernel_rfl)) (fun _ _ _ h => h) (Or.inl ⟨by rfl, ?_⟩) ?_ ?_
        rotate_left
        ·intro w'
         go_simp
         with_reducible rfl
        rotate_left
        ·simp only [Act.put, List.setIfInBounds_toArray, List.set_cons_zero, List.set_cons_succ, i64_w, i32_w]
         rfl
        refine pure_ (i := 2) (N := some 26) (v := ?_) (a' := ?_) #[true, false, true, false, false, false, false, false, false] rfl rfl (any_of HT_.out (by kernel_rfl)) (fun _ _ _ h => h) (Or.inl ⟨by rfl, ?_⟩) ?_ ?_
        rotate_left
        ·intro w'
         go_simp
         with_reducible rfl
        rotate_left
        ·simp only [Act.put, List.setIfInBounds_toArray, List.set_cons_zero, List.set_cons_succ, i64_w, i32_w]
         rfl
        refine pure_ (i := 4) (N := some 28) (v := ?_) (a' := ?_) #[true, false, true, false, true, false, false, false, false] rfl rfl (any_of HT_.out (by kernel_rfl)) (fun _ _ _ h => h) (Or.inl ⟨by rfl, ?_⟩) ?_ ?_
        rotate_left
        ·intro w'
         go_simp
         with_reducible rfl
        rotate_left
        ·simp only [Act.put, List.setIfInBounds_toArray, List.set_cons_zero, List.set_cons_succ, i64_w, i32_w]
         rfl
        refine take_ (i := 1) (N := some 25) (v := ?_) (a' := ?_) #[true, true, true, false, true, false, false, false, false] rfl rfl (take_ofW HT_.out HW_.out (by kernel_rfl)) (fun _ _ _ h => h) (Or.inl ⟨by rfl, ?_⟩) hHeld ?_ ?_
        rotate_left
        ·rintro w' ⟨s0, s1, s2, s3, s4, s5, s6, s7⟩
         go_simp
         with_reducible rfl
        rotate_left
        ·simp only [Act.put, List.setIfInBounds_toArray, List.set_cons_zero, List.set_cons_succ, i64_w, i32_w]
         rfl
        refine take_ (i := 3) (N := some 27) (v := ?_) (a' := ?_) #[true, true, true, true, true, false, false, false, false] rfl rfl (take_ofW HT_.out HW_.out (by kernel_rfl)) (fun _ _ _ h => h) (Or.inl ⟨by rfl, ?_⟩) hHeld ?_ ?_
        rotate_left
        ·rintro w' ⟨s0, s1, s2, s3, s4, s5, s6, s7⟩
         go_simp
         with_reducible rfl
        rotate_left
        ·simp only [Act.put, List.setIfInBounds_toArray, List.set_cons_zero, List.set_cons_succ, i64_w, i32_w]
         rfl
        refine one_ (i := 5) (N := some 29) #[true, true, true, true, true, true, false, false, false] rfl rfl (one_of HT_.out (by kernel_rfl)) (by decide) (fun K hK => ?_)
        refine goes_ Try.func93 (by kernel_rfl) rfl #[.agg #[.int .i64 ((rd_T102 s_ i_).f0.f0), .int .i64 ((rd_T102 s_ i_).f0.f1), .int .i64 ((rd_T102 s_ i_).f0.f2), .int .i64 ((rd_T102 s_ i_).f0.f3)], .int .i64 x7_8] (by rfl) rfl rfl (by (try simp only [List.map_toArray, List.map_cons, List.map_nil]); first | done | rfl | (simp only [List.length_drop, List.length_take]; rfl)) ?_
        with_reducible refine (impl_vector_times.calls ((rd_T102 s_ i_).f0.f0) ((rd_T102 s_ i_).f0.f1) ((rd_T102 s_ i_).f0.f2) ((rd_T102 s_ i_).f0.f3) x7_8 t243 t244 t245 t246 _ A65.out).mono ?_
        rintro e w68 ⟨rfl, hb⟩
        refine ⟨_, rfl, ?_⟩
        have n0_ := Aside0.mk (blk_below (g := gb238) (o := .cells #[.int .i64 x_00_1, .int .i64 x_01_1, .int .i64 x_02_1, .int .i64 x_03_1, .int .i64 x_04_1, .int .i64 x_05_1, .int .i64 x_06_1, .int .i64 x_07_1, .int .i64 x_08_1, .int .i64 x_09_1, .int .i64 x_10_1, .int .i64 x_11_1] 102 (0, 0)) (by (with_reducible repeat first|refine blk_drewN ?_ _|refine blk_drew ?_|refine blk_alloc ?_ _); exact BK238.out) hb)
        have n1_ := Aside0.mk (blk_below (g := gb239) (o := .cells #[.int .i64 0, .int .i64 0, .int .i64 0, .int .i64 0, .int .i64 0, .int .i64 0, .int .i64 0, .int .i64 0, .int .i64 0, .int .i64 0, .int .i64 0, .int .i64 0] 102 (0, 0)) (by (with_reducible repeat first|refine blk_drewN ?_ _|refine blk_drew ?_|refine blk_alloc ?_ _); exact BK239.out) hb)
        have n2_ := Aside0.mk (blk_below (g := gb241) (o := .cells #[.int .i64 ((rd_T102 s_ i_).f0.f0), .int .i64 ((rd_T102 s_ i_).f0.f1), .int .i64 ((rd_T102 s_ i_).f0.f2), .int .i64 ((rd_T102 s_ i_).f0.f3), .int .i64 ((rd_T102 s_ i_).f1.f0), .int .i64 ((rd_T102 s_ i_).f1.f1), .int .i64 ((rd_T102 s_ i_).f1.f2), .int .i64 ((rd_T102 s_ i_).f1.f3), .int .i64 ((rd_T102 s_ i_).f1.f4), .int .i64 ((rd_T102 s_ i_).f1.f5), .int .i64 ((rd_T102 s_ i_).f1.f6), .int .i64 ((rd_T102 s_ i_).f1.f7)] 102 (0, 0)) (by (with_reducible repeat first|refine blk_drewN ?_ _|refine blk_drew ?_|refine blk_alloc ?_ _); exact BK241.out) hb)
        have n3_ := Aside0.mk (IsS81.below (by repeat (first | (with_reducible first | exact HI0.out | apply IsS81.alloc | apply IsS81.drewN | apply IsS81.drew | refine IsS81.far ?_ NB0_238.out _ | refine IsS81.far ?_ NB0_239.out _ | refine IsS81.far ?_ NB0_241.out _) | exact HI0.out)) hb)
        have n4_ := Aside0.mk (KeepBut.trans (by repeat (first | (with_reducible first | exact HK.out | apply KeepBut.set_ | apply keep_drewN | apply keep_drew | apply keep_alloc | refine keep_far ?_ GW238.out _ | refine keep_far ?_ GW239.out _ | refine keep_far ?_ GW241.out _) | exact HK.out)) (KeepBut.of_below hb g none) (.inl rfl))
        have n5_ := Aside0.mk (below_step (by repeat (first | (with_reducible first | exact HB.out | apply below_alloc | apply pw_below_drewN | apply below_drew1 | refine below_set ?_ (IsS81.ge HI0.out) | refine below_set ?_ GE238.out | refine below_set ?_ GE239.out | refine below_set ?_ GE241.out) | exact HB.out)) hb)
        clear BK238
        clear BK239
        clear BK241
        clear HI0
        clear HK
        clear HB
        have BK238 := n0_
        have BK239 := n1_
        have BK241 := n2_
        have HI0 := n3_
        have HK := n4_
        have HB := n5_
        clear n0_ n1_ n2_ n3_ n4_ n5_
        (try clear hb)
        (try clear hb2)
        (try clear hk)
        (try clear hi)
        refine hK.out _ _ ⟨bA8 BK238 rfl, bA8 BK238 rfl, bA8 BK238 rfl, bA8 BK238 rfl, bA8 BK241 rfl, bA8 BK241 rfl, bA8 BK241 rfl, bA8 BK241 rfl⟩ (fun hHeld => ?_)
        clear hK K
        refine norm_ (a' := ?_) ?_ ?_
        rotate_left
        ·show Act.put _ (some 29) _ = _
         simp only [Act.put, List.setIfInBounds_toArray, List.set_cons_zero, List.set_cons_succ, i64_w, i32_w]
         rfl
        refine one_ (i := 6) (N := some 30) #[true, true, true, true, true, true, true, false, false] rfl rfl (one_of HT_.out (by kernel_rfl)) (by decide) (fun K hK => ?_)
        refine goes_ Try.func92 (by kernel_rfl) rfl #[.agg #[.int .i64 x_00_1, .int .i64 x_01_1, .int .i64 x_02_1, .int .i64 x_03_1], .agg #[.int .i64 t243, .int .i64 t244, .int .i64 t245, .int .i64 t246]] (by rfl) rfl rfl (by (try simp only [List.map_toArray, List.map_cons, List.map_nil]); first | done | rfl | (simp only [List.length_drop, List.length_take]; rfl)) ?_
        with_reducible refine (impl_vector_minus.calls x_00_1 x_01_1 x_02_1 x_03_1 t243 t244 t245 t246 t247 t248 t249 t250 _ A66.out).mono ?_
        rintro e w69 ⟨rfl, hb⟩
        refine ⟨_, rfl, ?_⟩
        have n0_ := Aside0.mk (blk_below (g := gb238) (o := .cells #[.int .i64 x_00_1, .int .i64 x_01_1, .int .i64 x_02_1, .int .i64 x_03_1, .int .i64 x_04_1, .int .i64 x_05_1, .int .i64 x_06_1, .int .i64 x_07_1, .int .i64 x_08_1, .int .i64 x_09_1, .int .i64 x_10_1, .int .i64 x_11_1] 102 (0, 0)) (by (with_reducible repeat first|refine blk_drewN ?_ _|refine blk_drew ?_|refine blk_alloc ?_ _); exact BK238.out) hb)
        have n1_ := Aside0.mk (blk_below (g := gb239) (o := .cells #[.int .i64 0, .int .i64 0, .int .i64 0, .int .i64 0, .int .i64 0, .int .i64 0, .int .i64 0, .int .i64 0, .int .i64 0, .int .i64 0, .int .i64 0, .int .i64 0] 102 (0, 0)) (by (with_reducible repeat first|refine blk_drewN ?_ _|refine blk_drew ?_|refine blk_alloc ?_ _); exact BK239.out) hb)
        have n2_ := Aside0.mk (blk_below (g := gb241) (o := .cells #[.int .i64 ((rd_T102 s_ i_).f0.f0), .int .i64 ((rd_T102 s_ i_).f0.f1), .int .i64 ((rd_T102 s_ i_).f0.f2), .int .i64 ((rd_T102 s_ i_).f0.f3), .int .i64 ((rd_T102 s_ i_).f1.f0), .int .i64 ((rd_T102 s_ i_).f1.f1), .int .i64 ((rd_T102 s_ i_).f1.f2), .int .i64 ((rd_T102 s_ i_).f1.f3), .int .i64 ((rd_T102 s_ i_).f1.f4), .int .i64 ((rd_T102 s_ i_).f1.f5), .int .i64 ((rd_T102 s_ i_).f1.f6), .int .i64 ((rd_T102 s_ i_).f1.f7)] 102 (0, 0)) (by (with_reducible repeat first|refine blk_drewN ?_ _|refine blk_drew ?_|refine blk_alloc ?_ _); exact BK241.out) hb)
        have n3_ := Aside0.mk (IsS81.below (by repeat (first | (with_reducible first | exact HI0.out | apply IsS81.alloc | apply IsS81.drewN | apply IsS81.drew | refine IsS81.far ?_ NB0_238.out _ | refine IsS81.far ?_ NB0_239.out _ | refine IsS81.far ?_ NB0_241.out _) | exact HI0.out)) hb)
        have n4_ := Aside0.mk (KeepBut.trans (by repeat (first | (with_reducible first | exact HK.out | apply KeepBut.set_ | apply keep_drewN | apply keep_drew | apply keep_alloc | refine keep_far ?_ GW238.out _ | refine keep_far ?_ GW239.out _ | refine keep_far ?_ GW241.out _) | exact HK.out)) (KeepBut.of_below hb g none) (.inl rfl))
        have n5_ := Aside0.mk (below_step (by repeat (first | (with_reducible first | exact HB.out | apply below_alloc | apply pw_below_drewN | apply below_drew1 | refine below_set ?_ (IsS81.ge HI0.out) | refine below_set ?_ GE238.out | refine below_set ?_ GE239.out | refine below_set ?_ GE241.out) | exact HB.out)) hb)
        clear BK238
        clear BK239
        clear BK241
        clear HI0
        clear HK
        clear HB
        have BK238 := n0_
        have BK239 := n1_
        have BK241 := n2_
        have HI0 := n3_
        have HK := n4_
        have HB := n5_
        clear n0_ n1_ n2_ n3_ n4_ n5_
        (try clear hb)
        (try clear hb2)
        (try clear hk)
        (try clear hi)
        refine hK.out _ _ ⟨bA8 BK238 rfl, bA8 BK238 rfl, bA8 BK238 rfl, bA8 BK238 rfl, bA8 BK241 rfl, bA8 BK241 rfl, bA8 BK241 rfl, bA8 BK241 rfl⟩ (fun hHeld => ?_)
        clear hK K
        refine norm_ (a' := ?_) ?_ ?_
        rotate_left
        ·show Act.put _ (some 30) _ = _
         simp only [Act.put, List.setIfInBounds_toArray, List.set_cons_zero, List.set_cons_succ, i64_w, i32_w]
         rfl
        refine pure_ (i := 7) (N := some 31) (v := ?_) (a' := ?_) #[true, true, true, true, true, true, true, true, false] rfl rfl (any_of HT_.out (by kernel_rfl)) (fun _ _ _ h => h) (Or.inl ⟨by rfl, ?_⟩) ?_ ?_
        rotate_left
        ·intro w'
         go_simp
         with_reducible rfl
        rotate_left
        ·simp only [Act.put, List.setIfInBounds_toArray, List.set_cons_zero, List.set_cons_succ, i64_w, i32_w]
         rfl
        refine last_ (i := 8) (N := none) #[true, true, true, true, true, true, true, true, true] rfl rfl (one_of HT_.out (by kernel_rfl)) (by decide) (fun K hK => ?_)
        have hs70 : w69.cell? ⟨gb238, 0, none⟩ = some (.int .i64 x_00_1) := bA8 BK238 rfl
        have hfs70 := blk_frozen BK238.out 0
        have hns70_1 := NB239_238.out
        have hns70_2 := NB241_238.out
        have hms70_1 := NB238_239.out
        have hms70_2 := NB238_241.out
        have hs71 : w69.cell? ⟨gb238, 1, none⟩ = some (.int .i64 x_01_1) := bA8 BK238 rfl
        have hfs71 := blk_frozen BK238.out 1
        have hns71_1 := NB239_238.out
        have hns71_2 := NB241_238.out
        have hms71_1 := NB238_239.out
        have hms71_2 := NB238_241.out
        have hs72 : w69.cell? ⟨gb238, 2, none⟩ = some (.int .i64 x_02_1) := bA8 BK238 rfl
        have hfs72 := blk_frozen BK238.out 2
        have hns72_1 := NB239_238.out
        have hns72_2 := NB241_238.out
        have hms72_1 := NB238_239.out
        have hms72_2 := NB238_241.out
        have hs73 : w69.cell? ⟨gb238, 3, none⟩ = some (.int .i64 x_03_1) := bA8 BK238 rfl
        have hfs73 := blk_frozen BK238.out 3
        have hns73_1 := NB239_238.out
        have hns73_2 := NB241_238.out
        have hms73_1 := NB238_239.out
        have hms73_2 := NB238_241.out
        refine skip_ (w1 := ?_) (by rfl) rfl ?_ ?_
        rotate_left
        ·go_simp
         rfl
        refine hK.out _ _ ?_
        clear hK K
        refine done_ (done_of HT_.out (by kernel_rfl)) ?_
        try go_wp2
        go_loopg [32] kj8 (fun kq v32 w' => ∃ (x32_3 : Int) (x_04_3 : Int) (x_05_3 : Int) (x_06_3 : Int) (x_07_3 : Int) (x_08_3 : Int) (x_09_3 : Int) (x_10_3 : Int) (x_11_3 : Int), v32 = .int .i64 x32_3 ∧ Aside0 (impl_span_less.l1 kq x7_8 s_ (s_.length : Int) i_ x32_3 t247 t248 t249 t250 x_04_3 x_05_3 x_06_3 x_07_3 x_08_3 x_09_3 x_10_3 x_11_3 ((rd_T102 s_ i_).f0.f0) ((rd_T102 s_ i_).f0.f1) ((rd_T102 s_ i_).f0.f2) ((rd_T102 s_ i_).f0.f3) ((rd_T102 s_ i_).f1.f0) ((rd_T102 s_ i_).f1.f1) ((rd_T102 s_ i_).f1.f2) ((rd_T102 s_ i_).f1.f3) ((rd_T102 s_ i_).f1.f4) ((rd_T102 s_ i_).f1.f5) ((rd_T102 s_ i_).f1.f6) ((rd_T102 s_ i_).f1.f7) = some (r1, r2, r3, r4, r5, r6, r7, r8, r9, r10, r11, r12)) ∧ Aside0 (kq ≤ kj8) ∧ Aside0 (w'.heap[gb238]? = some (.cells #[.int .i64 t247, .int .i64 t248, .int .i64 t249, .int .i64 t250, .int .i64 x_04_3, .int .i64 x_05_3, .int .i64 x_06_3, .int .i64 x_07_3, .int .i64 x_08_3, .int .i64 x_09_3, .int .i64 x_10_3, .int .i64 x_11_3] 102 (0, 0))) ∧ Aside0 (w'.heap[gb239]? = some (.cells #[.int .i64 0, .int .i64 0, .int .i64 0, .int .i64 0, .int .i64 0, .int .i64 0, .int .i64 0, .int .i64 0, .int .i64 0, .int .i64 0, .int .i64 0, .int .i64 0] 102 (0, 0))) ∧ Aside0 (w'.heap[gb241]? = some (.cells #[.int .i64 ((rd_T102 s_ i_).f0.f0), .int .i64 ((rd_T102 s_ i_).f0.f1), .int .i64 ((rd_T102 s_ i_).f0.f2), .int .i64 ((rd_T102 s_ i_).f0.f3), .int .i64 ((rd_T102 s_ i_).f1.f0), .int .i64 ((rd_T102 s_ i_).f1.f1), .int .i64 ((rd_T102 s_ i_).f1.f2), .int .i64 ((rd_T102 s_ i_).f1.f3), .int .i64 ((rd_T102 s_ i_).f1.f4), .int .i64 ((rd_T102 s_ i_).f1.f5), .int .i64 ((rd_T102 s_ i_).f1.f6), .int .i64 ((rd_T102 s_ i_).f1.f7)] 102 (0, 0))) ∧ Aside0 (IsS81 w0 w' g s_ s0_1) ∧ Aside0 (KeepBut w w' g none) ∧ Aside0 (Below w0.heap.size w0 w'))
        case atStart => exact ⟨(0), (x_04_1), (x_05_1), (x_06_1), (x_07_1), (x_08_1), (x_09_1), (x_10_1), (x_11_1), (by first | rfl | (simp; done) | (simp [*]; done)), H', ⟨Nat.le_refl _⟩, ⟨by (with_reducible repeat first|refine blk_drewN ?_ _|refine blk_drew ?_|refine blk_alloc ?_ _); refine blk_put (cs := #[.int .i64 t247, .int .i64 t248, .int .i64 t249, .int .i64 x_03_1, .int .i64 x_04_1, .int .i64 x_05_1, .int .i64 x_06_1, .int .i64 x_07_1, .int .i64 x_08_1, .int .i64 x_09_1, .int .i64 x_10_1, .int .i64 x_11_1]) ?_ 3 _ rfl; (with_reducible repeat first|refine blk_drewN ?_ _|refine blk_drew ?_|refine blk_alloc ?_ _); refine blk_put (cs := #[.int .i64 t247, .int .i64 t248, .int .i64 x_02_1, .int .i64 x_03_1, .int .i64 x_04_1, .int .i64 x_05_1, .int .i64 x_06_1, .int .i64 x_07_1, .int .i64 x_08_1, .int .i64 x_09_1, .int .i64 x_10_1, .int .i64 x_11_1]) ?_ 2 _ rfl; (with_reducible repeat first|refine blk_drewN ?_ _|refine blk_drew ?_|refine blk_alloc ?_ _); refine blk_put (cs := #[.int .i64 t247, .int .i64 x_01_1, .int .i64 x_02_1, .int .i64 x_03_1, .int .i64 x_04_1, .int .i64 x_05_1, .int .i64 x_06_1, .int .i64 x_07_1, .int .i64 x_08_1, .int .i64 x_09_1, .int .i64 x_10_1, .int .i64 x_11_1]) ?_ 1 _ rfl; (with_reducible repeat first|refine blk_drewN ?_ _|refine blk_drew ?_|refine blk_alloc ?_ _); refine blk_put (cs := #[.int .i64 x_00_1, .int .i64 x_01_1, .int .i64 x_02_1, .int .i64 x_03_1, .int .i64 x_04_1, .int .i64 x_05_1, .int .i64 x_06_1, .int .i64 x_07_1, .int .i64 x_08_1, .int .i64 x_09_1, .int .i64 x_10_1, .int .i64 x_11_1]) ?_ 0 _ rfl; (with_reducible repeat first|refine blk_drewN ?_ _|refine blk_drew ?_|refine blk_alloc ?_ _); exact BK238.out⟩, ⟨by (with_reducible repeat first|refine blk_drewN ?_ _|refine blk_drew ?_|refine blk_alloc ?_ _); refine blk_far ?_ NB239_238.out _; (with_reducible repeat first|refine blk_drewN ?_ _|refine blk_drew ?_|refine blk_alloc ?_ _); refine blk_far ?_ NB239_238.out _; (with_reducible repeat first|refine blk_drewN ?_ _|refine blk_drew ?_|refine blk_alloc ?_ _); refine blk_far ?_ NB239_238.out _; (with_reducible repeat first|refine blk_drewN ?_ _|refine blk_drew ?_|refine blk_alloc ?_ _); refine blk_far ?_ NB239_238.out _; (with_reducible repeat first|refine blk_drewN ?_ _|refine blk_drew ?_|refine blk_alloc ?_ _); exact BK239.out⟩, ⟨by (with_reducible repeat first|refine blk_drewN ?_ _|refine blk_drew ?_|refine blk_alloc ?_ _); refine blk_far ?_ NB241_238.out _; (with_reducible repeat first|refine blk_drewN ?_ _|refine blk_drew ?_|refine blk_alloc ?_ _); refine blk_far ?_ NB241_238.out _; (with_reducible repeat first|refine blk_drewN ?_ _|refine blk_drew ?_|refine blk_alloc ?_ _); refine blk_far ?_ NB241_238.out _; (with_reducible repeat first|refine blk_drewN ?_ _|refine blk_drew ?_|refine blk_alloc ?_ _); refine blk_far ?_ NB241_238.out _; (with_reducible repeat first|refine blk_drewN ?_ _|refine blk_drew ?_|refine blk_alloc ?_ _); exact BK241.out⟩, ⟨by repeat (first | (with_reducible first | exact HI0.out | apply IsS81.alloc | apply IsS81.drewN | apply IsS81.drew | refine IsS81.far ?_ NB0_238.out _ | refine IsS81.far ?_ NB0_239.out _ | refine IsS81.far ?_ NB0_241.out _) | exact HI0.out)⟩, ⟨by repeat (first | (with_reducible first | exact HK.out | apply KeepBut.set_ | apply keep_drewN | apply keep_drew | apply keep_alloc | refine keep_far ?_ GW238.out _ | refine keep_far ?_ GW239.out _ | refine keep_far ?_ GW241.out _) | exact HK.out)⟩, ⟨by repeat (first | (with_reducible first | exact HB.out | apply below_alloc | apply pw_below_drewN | apply below_drew1 | refine below_set ?_ (IsS81.ge HI0.out) | refine below_set ?_ GE238.out | refine below_set ?_ GE239.out | refine below_set ?_ GE241.out) | exact HB.out)⟩⟩
        case round =>
         clear H'
         try clear c1
         try clear c2
         try clear p2
         try clear q2
         try clear hx2
         try clear c3
         try clear c4
         try clear c5
         try clear c6
         try clear c6b0
         try clear c7
         try clear c7b0
         try clear c8
         try clear c8b0
         try clear c9
         try clear c10
         try clear c12
         try clear c13
         try clear c14
         try clear p24
         try clear q24
         try clear hx24
         try clear c29
         try clear c30
         try clear c31
         try clear c32
         try clear c35
         try clear c36
         try clear c38
         try clear c39
         try clear c40
         try clear c41
         try clear c44
         try clear c45
         try clear c47
         try clear c48
         try clear c49
         try clear c50
         try clear c53
         try clear c54
         try clear c56
         try clear c57
         try clear c58
         try clear c59
         try clear c60
         try clear c62
         try clear c63
         try clear hcz10_0 hcz10_1
         try clear hcz15_0
         try clear hcz16_1
         try clear hcz17_2
         try clear hcz18_3
         try clear hcz19_4
         try clear hcz20_5
         try clear hcz21_6
         try clear hcz22_7
         try clear hcz23_8
         try clear hcz24_9
         try clear hcz25_10
         try clear hcz26_11
         try clear hcz33_0 hcz33_1 hcz33_2 hcz33_3
         try clear hcz37_0
         try clear hcz42_0 hcz42_1 hcz42_2 hcz42_3
         try clear hcz46_1
         try clear hcz51_0 hcz51_1 hcz51_2 hcz51_3
         try clear hcz55_2
         try clear hcz5_0 hcz5_1
         try clear hcz60_0 hcz60_1 hcz60_2 hcz60_3
         try clear hcz64_3
         try clear hfz15_0
         try clear hfz16_1
         try clear hfz17_2
         try clear hfz18_3
         try clear hfz19_4
         try clear hfz20_5
         try clear hfz21_6
         try clear hfz22_7
         try clear hfz23_8
         try clear hfz24_9
         try clear hfz25_10
         try clear hfz26_11
         try clear hfz33_0 hfz33_1 hfz33_2 hfz33_3
         try clear hfz37_0
         try clear hfz42_0 hfz42_1 hfz42_2 hfz42_3
         try clear hfz46_1
         try clear hfz51_0 hfz51_1 hfz51_2 hfz51_3
         try clear hfz55_2
         try clear hfz60_0 hfz60_1 hfz60_2 hfz60_3
         try clear hfz64_3
         try clear hx240_0 hx240_1 hx240_10 hx240_11 hx240_2 hx240_3 hx240_4 hx240_5 hx240_6 hx240_7 hx240_8 hx240_9
         try clear p2
         try clear p24
         try clear p240
         try clear q2
         try clear q24
         try clear q240
         obtain ⟨x32_3, x_04_3, x_05_3, x_06_3, x_07_3, x_08_3, x_09_3, x_10_3, x_11_3, rfl, HA, HK3, BK238, BK239, BK241, HI0, HK, HB⟩ := hrel
         cases gk with
         | zero => exact absurd HA.out (by simp [impl_span_less.l1])
         | succ k3 =>
          have H := HA.out
          clear HA
          simp only [impl_span_less.l1] at H
          by_cases c74 : x32_3 < 8
          ·rw [if_pos c74] at H
           have c74b0 : decide (x32_3 < 8) = true := decide_eq_true c74
           clear c74
           by_cases c75 : x32_3 = 0
           ·rw [if_pos c75] at H
            subst c75
            replace H : ((impl_element_times.f ((rd_T102 s_ i_).f1.f0) x7_8).bind fun t251 => ((impl_element_minus.f x_04_3 t251).bind fun t252 => (impl_span_less.l1 k3 x7_8 s_ (s_.length : Int) i_ (wrap64 ((0 : Int) + 1)) t247 t248 t249 t250 t252 x_05_3 x_06_3 x_07_3 x_08_3 x_09_3 x_10_3 x_11_3 ((rd_T102 s_ i_).f0.f0) ((rd_T102 s_ i_).f0.f1) ((rd_T102 s_ i_).f0.f2) ((rd_T102 s_ i_).f0.f3) ((rd_T102 s_ i_).f1.f0) ((rd_T102 s_ i_).f1.f1) ((rd_T102 s_ i_).f1.f2) ((rd_T102 s_ i_).f1.f3) ((rd_T102 s_ i_).f1.f4) ((rd_T102 s_ i_).f1.f5) ((rd_T102 s_ i_).f1.f6) ((rd_T102 s_ i_).f1.f7)))) = some (r1, r2, r3, r4, r5, r6, r7, r8, r9, r10, r11, r12) := H
            replace H := Option.bind_eq_some_iff.mp H
            obtain ⟨t251, A760, H⟩ := H
            replace H : ((impl_element_minus.f x_04_3 t251).bind fun t252 => (impl_span_less.l1 k3 x7_8 s_ (s_.length : Int) i_ (wrap64 ((0 : Int) + 1)) t247 t248 t249 t250 t252 x_05_3 x_06_3 x_07_3 x_08_3 x_09_3 x_10_3 x_11_3 ((rd_T102 s_ i_).f0.f0) ((rd_T102 s_ i_).f0.f1) ((rd_T102 s_ i_).f0.f2) ((rd_T102 s_ i_).f0.f3) ((rd_T102 s_ i_).f1.f0) ((rd_T102 s_ i_).f1.f1) ((rd_T102 s_ i_).f1.f2) ((rd_T102 s_ i_).f1.f3) ((rd_T102 s_ i_).f1.f4) ((rd_T102 s_ i_).f1.f5) ((rd_T102 s_ i_).f1.f6) ((rd_T102 s_ i_).f1.f7))) = some (r1, r2, r3, r4, r5, r6, r7, r8, r9, r10, r11, r12) := H
            have A76 := Aside0.mk A760
            clear A760
            replace H := Option.bind_eq_some_iff.mp H
            obtain ⟨t252, A770, H⟩ := H
            replace H : (impl_span_less.l1 k3 x7_8 s_ (s_.length : Int) i_ (wrap64 ((0 : Int) + 1)) t247 t248 t249 t250 t252 x_05_3 x_06_3 x_07_3 x_08_3 x_09_3 x_10_3 x_11_3 ((rd_T102 s_ i_).f0.f0) ((rd_T102 s_ i_).f0.f1) ((rd_T102 s_ i_).f0.f2) ((rd_T102 s_ i_).f0.f3) ((rd_T102 s_ i_).f1.f0) ((rd_T102 s_ i_).f1.f1) ((rd_T102 s_ i_).f1.f2) ((rd_T102 s_ i_).f1.f3) ((rd_T102 s_ i_).f1.f4) ((rd_T102 s_ i_).f1.f5) ((rd_T102 s_ i_).f1.f6) ((rd_T102 s_ i_).f1.f7)) = some (r1, r2, r3, r4, r5, r6, r7, r8, r9, r10, r11, r12) := H
            have A77 := Aside0.mk A770
            clear A770
            have H' := Aside0.mk H
            clear H
            try go_wp2
            have n0_ := Aside0.mk (blk_drew BK238.out)
            have n1_ := Aside0.mk (blk_drew BK239.out)
            have n2_ := Aside0.mk (blk_drew BK241.out)
            have n3_ := Aside0.mk (IsS81.drew HI0.out)
            have n4_ := Aside0.mk (keep_drew HK.out)
            have n5_ := Aside0.mk (below_drew1 HB.out)
            clear BK238
            clear BK239
            clear BK241
            clear HI0
            clear HK
            clear HB
            have BK238 := n0_
            have BK239 := n1_
            have BK241 := n2_
            have HI0 := n3_
            have HK := n4_
            have HB := n5_
            clear n0_ n1_ n2_ n3_ n4_ n5_
            refine start_ (n := 15) (S := fun w' => w'.cell? ⟨gb238, 4, none⟩ = some (.int .i64 x_04_3) ∧ w'.cell? ⟨gb241, 4, none⟩ = some (.int .i64 ((rd_T102 s_ i_).f1.f0))) (ds := [14]) #[false, false, false, false, false, false, false, false, false, false, false, false, false, false, false] (by kernel_rfl) rfl rfl ⟨bA8 BK238 rfl, bA8 BK241 rfl⟩ (fun hHeld => ?_); refine with_tabW impl_span_less.tab9 impl_span_less.bits9 (fun HT_ HW_ => ?_)
            generalize wr.drew = w78 at BK238 BK239 BK241 HI0 HK HB hHeld ⊢
            refine pure_ (i := 0) (N := some 35) (v := ?_) (a' := ?_) #[true, false, false, false, false, false, false, false, false, false, false, false, false, false, false] rfl rfl (any_of HT_.out (by kernel_rfl)) (fun _ _ _ h => h) (Or.inl ⟨by rfl, ?_⟩) ?_ ?_
            rotate_left
            ·intro w'
             go_simp
             with_reducible rfl
            rotate_left
            ·simp only [Act.put, List.setIfInBounds_toArray, List.set_cons_zero, List.set_cons_succ, i64_w, i32_w]
             rfl
            refine pure_ (i := 1) (N := some 36) (v := ?_) (a' := ?_) #[true, true, false, false, false, false, false, false, false, false, false, false, false, false, false] rfl rfl (any_of HT_.out (by kernel_rfl)) (fun _ _ _ h => h) (Or.inl ⟨by rfl, ?_⟩) ?_ ?_
            rotate_left
            ·intro w'
             go_simp
             with_reducible rfl
            rotate_left
            ·simp only [Act.put, List.setIfInBounds_toArray, List.set_cons_zero, List.set_cons_succ, i64_w, i32_w]
             rfl
            refine pure_ (i := 2) (N := some 37) (v := ?_) (a' := ?_) #[true, true, true, false, false, false, false, false, false, false, false, false, false, false, false] rfl rfl (any_of HT_.out (by kernel_rfl)) (fun _ _ _ h => h) (Or.inl ⟨by rfl, ?_⟩) ?_ ?_
            rotate_left
            ·intro w'
             go_simp
             with_reducible rfl
            rotate_left
            ·simp only [Act.put, List.setIfInBounds_toArray, List.set_cons_zero, List.set_cons_succ, i64_w, i32_w]
             rfl
            refine pure_ (i := 3) (N := some 38) (v := ?_) (a' := ?_) #[true, true, true, true, false, false, false, false, false, false, false, false, false, false, false] rfl rfl (any_of HT_.out (by kernel_rfl)) (fun _ _ _ h => h) (Or.inl ⟨by rfl, ?_⟩) ?_ ?_
            rotate_left
            ·intro w'
             go_simp
             with_reducible rfl
            rotate_left
            ·simp only [Act.put, List.setIfInBounds_toArray, List.set_cons_zero, List.set_cons_succ, i64_w, i32_w]
             rfl
            refine pure_ (i := 5) (N := some 40) (v := ?_) (a' := ?_) #[true, true, true, true, false, true, false, false, false, false, false, false, false, false, false] rfl rfl (any_of HT_.out (by kernel_rfl)) (fun _ _ _ h => h) (Or.inl ⟨by rfl, ?_⟩) ?_ ?_
            rotate_left
            ·intro w'
             go_simp
             with_reducible rfl
            rotate_left
            ·simp only [Act.put, List.setIfInBounds_toArray, List.set_cons_zero, List.set_cons_succ, i64_w, i32_w]
             rfl
            refine pure_ (i := 6) (N := some 41) (v := ?_) (a' := ?_) #[true, true, true, true, false, true, true, false, false, false, false, false, false, false, false] rfl rfl (any_of HT_.out (by kernel_rfl)) (fun _ _ _ h => h) (Or.inl ⟨by rfl, ?_⟩) ?_ ?_
            rotate_left
            ·intro w'
             go_simp
             with_reducible rfl
            rotate_left
            ·simp only [Act.put, List.setIfInBounds_toArray, List.set_cons_zero, List.set_cons_succ, i64_w, i32_w]
             rfl
            refine pure_ (i := 7) (N := some 42) (v := ?_) (a' := ?_) #[true, true, true, true, false, true, true, true, false, false, false, false, false, false, false] rfl rfl (any_of HT_.out (by kernel_rfl)) (fun _ _ _ h => h) (Or.inl ⟨by rfl, ?_⟩) ?_ ?_
            rotate_left
            ·intro w'
             go_simp
             with_reducible rfl
            rotate_left
            ·simp only [Act.put, List.setIfInBounds_toArray, List.set_cons_zero, List.set_cons_succ, i64_w, i32_w]
             rfl
            refine pure_ (i := 9) (N := some 44) (v := ?_) (a' := ?_) #[true, true, true, true, false, true, true, true, false, true, false, false, false, false, false] rfl rfl (any_of HT_.out (by kernel_rfl)) (fun _ _ _ h => h) (Or.inl ⟨by rfl, ?_⟩) ?_ ?_
            rotate_left
            ·intro w'
             go_simp
             with_reducible rfl
            rotate_left
            ·simp only [Act.put, List.setIfInBounds_toArray, List.set_cons_zero, List.set_cons_succ, i64_w, i32_w]
             rfl
            refine pure_ (i := 12) (N := some 47) (v := ?_) (a' := ?_) #[true, true, true, true, false, true, true, true, false, true, false, false, true, false, false] rfl rfl (any_of HT_.out (by kernel_rfl)) (fun _ _ _ h => h) (Or.inl ⟨by rfl, ?_⟩) ?_ ?_
            rotate_left
            ·intro w'
             go_simp
             with_reducible rfl
            rotate_left
            ·simp only [Act.put, List.setIfInBounds_toArray, List.set_cons_zero, List.set_cons_succ, i64_w, i32_w]
             rfl
            refine take_ (i := 4) (N := some 39) (v := ?_) (a' := ?_) #[true, true, true, true, true, true, true, true, false, true, false, false, true, false, false] rfl rfl (take_ofW HT_.out HW_.out (by kernel_rfl)) (fun _ _ _ h => h) (Or.inl ⟨by rfl, ?_⟩) hHeld ?_ ?_
            rotate_left
            ·rintro w' ⟨s0, s1⟩
             go_simp
             with_reducible rfl
            rotate_left
            ·simp only [Act.put, List.setIfInBounds_toArray, List.set_cons_zero, List.set_cons_succ, i64_w, i32_w]
             rfl
            refine take_ (i := 8) (N := some 43) (v := ?_) (a' := ?_) #[true, true, true, true, true, true, true, true, true, true, false, false, true, false, false] rfl rfl (take_ofW HT_.out HW_.out (by kernel_rfl)) (fun _ _ _ h => h) (Or.inl ⟨by rfl, ?_⟩) hHeld ?_ ?_
            rotate_left
            ·rintro w' ⟨s0, s1⟩
             go_simp
             with_reducible rfl
            rotate_left
            ·simp only [Act.put, List.setIfInBounds_toArray, List.set_cons_zero, List.set_cons_succ, i64_w, i32_w]
             rfl
            refine one_ (i := 10) (N := some 45) #[true, true, true, true, true, true, true, true, true, true, true, false, true, false, false] rfl rfl (one_of HT_.out (by kernel_rfl)) (by decide) (fun K hK => ?_)
            refine goes_ Try.func104 (by kernel_rfl) rfl #[.int .i64 ((rd_T102 s_ i_).f1.f0), .int .i64 x7_8] (by rfl) rfl rfl (by (try simp only [List.map_toArray, List.map_cons, List.map_nil]); first | done | rfl | (simp only [List.length_drop, List.length_take]; rfl)) ?_
            with_reducible refine (impl_element_times.calls ((rd_T102 s_ i_).f1.f0) x7_8 t251 _ A76.out).mono ?_
            rintro e w' ⟨rfl, ⟨nd, rfl⟩⟩
            refine ⟨_, rfl, ?_⟩
            refine hK.out _ _ ⟨bA8 BK238 rfl, bA8 BK241 rfl⟩ (fun hHeld => ?_)
            clear hK K
            refine norm_ (a' := ?_) ?_ ?_
            rotate_left
            ·show Act.put _ (some 45) _ = _
             simp only [Act.put, List.setIfInBounds_toArray, List.set_cons_zero, List.set_cons_succ, i64_w, i32_w]
             rfl
            refine one_ (i := 11) (N := some 46) #[true, true, true, true, true, true, true, true, true, true, true, true, true, false, false] rfl rfl (one_of HT_.out (by kernel_rfl)) (by decide) (fun K hK => ?_)
            refine goes_ Try.func127 (by kernel_rfl) rfl #[.int .i64 x_04_3, .int .i64 t251] (by rfl) rfl rfl (by (try simp only [List.map_toArray, List.map_cons, List.map_nil]); first | done | rfl | (simp only [List.length_drop, List.length_take]; rfl)) ?_
            with_reducible refine (impl_element_minus.calls x_04_3 t251 t252 _ A77.out).mono ?_
            rintro e w' ⟨rfl, ⟨nd, rfl⟩⟩
            refine ⟨_, rfl, ?_⟩
            refine hK.out _ _ ⟨bA8 BK238 rfl, bA8 BK241 rfl⟩ (fun hHeld => ?_)
            clear hK K
            refine norm_ (a' := ?_) ?_ ?_
            rotate_left
            ·show Act.put _ (some 46) _ = _
             simp only [Act.put, List.setIfInBounds_toArray, List.set_cons_zero, List.set_cons_succ, i64_w, i32_w]
             rfl
            refine pure_ (i := 13) (N := some 48) (v := ?_) (a' := ?_) #[true, true, true, true, true, true, true, true, true, true, true, true, true, true, false] rfl rfl (any_of HT_.out (by kernel_rfl)) (fun _ _ _ h => h) (Or.inl ⟨by rfl, ?_⟩) ?_ ?_
            rotate_left
            ·intro w'
             go_simp
             with_reducible rfl
            rotate_left
            ·simp only [Act.put, List.setIfInBounds_toArray, List.set_cons_zero, List.set_cons_succ, i64_w, i32_w]
             rfl
            refine last_ (i := 14) (N := none) #[true, true, true, true, true, true, true, true, true, true, true, true, true, true, true] rfl rfl (one_of HT_.out (by kernel_rfl)) (by decide) (fun K hK => ?_)
            have hs79 : w78.cell? ⟨gb238, 4, none⟩ = some (.int .i64 x_04_3) := bA8 BK238 rfl
            have hfs79 := blk_frozen BK238.out 4
            have hns79_1 := NB239_238.out
            have hns79_2 := NB241_238.out
            have hms79_1 := NB238_239.out
            have hms79_2 := NB238_241.out
            refine skip_ (w1 := ?_) (by rfl) rfl ?_ ?_
            rotate_left
            ·go_simp
             rfl
            refine hK.out _ _ ?_
            clear hK K
            refine done_ (done_of HT_.out (by kernel_rfl)) ?_
            try go_wp2
            go_roundg k3
            case measure => have := HK1.out; have := HJ8.out; have := HK3.out; omega
            case rel => exact ⟨(wrap64 ((0 : Int) + 1)), (t252), (x_05_3), (x_06_3), (x_07_3), (x_08_3), (x_09_3), (x_10_3), (x_11_3), (by first | rfl | (simp; done) | (simp [*]; done) | (simp; unfold wrap64; omega)), H', ⟨by have := HK1.out; have := HJ8.out; have := HK3.out; omega⟩, ⟨by (with_reducible repeat first|refine blk_drewN ?_ _|refine blk_drew ?_|refine blk_alloc ?_ _); refine blk_put (cs := #[.int .i64 t247, .int .i64 t248, .int .i64 t249, .int .i64 t250, .int .i64 x_04_3, .int .i64 x_05_3, .int .i64 x_06_3, .int .i64 x_07_3, .int .i64 x_08_3, .int .i64 x_09_3, .int .i64 x_10_3, .int .i64 x_11_3]) ?_ 4 _ rfl; (with_reducible repeat first|refine blk_drewN ?_ _|refine blk_drew ?_|refine blk_alloc ?_ _); exact BK238.out⟩, ⟨by (with_reducible repeat first|refine blk_drewN ?_ _|refine blk_drew ?_|refine blk_alloc ?_ _); refine blk_far ?_ NB239_238.out _; (with_reducible repeat first|refine blk_drewN ?_ _|refine blk_drew ?_|refine blk_alloc ?_ _); exact BK239.out⟩, ⟨by (with_reducible repeat first|refine blk_drewN ?_ _|refine blk_drew ?_|refine blk_alloc ?_ _); refine blk_far ?_ NB241_238.out _; (with_reducible repeat first|refine blk_drewN ?_ _|refine blk_drew ?_|refine blk_alloc ?_ _); exact BK241.out⟩, ⟨by repeat (first | (with_reducible first | exact HI0.out | apply IsS81.alloc | apply IsS81.drewN | apply IsS81.drew | refine IsS81.far ?_ NB0_238.out _ | refine IsS81.far ?_ NB0_239.out _ | refine IsS81.far ?_ NB0_241.out _) | exact HI0.out)⟩, ⟨by repeat (first | (with_reducible first | exact HK.out | apply KeepBut.set_ | apply keep_drewN | apply keep_drew | apply keep_alloc | refine keep_far ?_ GW238.out _ | refine keep_far ?_ GW239.out _ | refine keep_far ?_ GW241.out _) | exact HK.out)⟩, ⟨by repeat (first | (with_reducible first | exact HB.out | apply below_alloc | apply pw_below_drewN | apply below_drew1 | refine below_set ?_ (IsS81.ge HI0.out) | refine below_set ?_ GE238.out | refine below_set ?_ GE239.out | refine below_set ?_ GE241.out) | exact HB.out)⟩⟩
           ·rw [if_neg c75] at H
            clear c75
            by_cases c80 : x32_3 = 1
            ·rw [if_pos c80] at H
             subst c80
             replace H : ((impl_element_times.f ((rd_T102 s_ i_).f1.f1) x7_8).bind fun t253 => ((impl_element_minus.f x_05_3 t253).bind fun t254 => (impl_span_less.l1 k3 x7_8 s_ (s_.length : Int) i_ (wrap64 ((1 : Int) + 1)) t247 t248 t249 t250 x_04_3 t254 x_06_3 x_07_3 x_08_3 x_09_3 x_10_3 x_11_3 ((rd_T102 s_ i_).f0.f0) ((rd_T102 s_ i_).f0.f1) ((rd_T102 s_ i_).f0.f2) ((rd_T102 s_ i_).f0.f3) ((rd_T102 s_ i_).f1.f0) ((rd_T102 s_ i_).f1.f1) ((rd_T102 s_ i_).f1.f2) ((rd_T102 s_ i_).f1.f3) ((rd_T102 s_ i_).f1.f4) ((rd_T102 s_ i_).f1.f5) ((rd_T102 s_ i_).f1.f6) ((rd_T102 s_ i_).f1.f7)))) = some (r1, r2, r3, r4, r5, r6, r7, r8, r9, r10, r11, r12) := H
             replace H := Option.bind_eq_some_iff.mp H
             obtain ⟨t253, A810, H⟩ := H
             replace H : ((impl_element_minus.f x_05_3 t253).bind fun t254 => (impl_span_less.l1 k3 x7_8 s_ (s_.length : Int) i_ (wrap64 ((1 : Int) + 1)) t247 t248 t249 t250 x_04_3 t254 x_06_3 x_07_3 x_08_3 x_09_3 x_10_3 x_11_3 ((rd_T102 s_ i_).f0.f0) ((rd_T102 s_ i_).f0.f1) ((rd_T102 s_ i_).f0.f2) ((rd_T102 s_ i_).f0.f3) ((rd_T102 s_ i_).f1.f0) ((rd_T102 s_ i_).f1.f1) ((rd_T102 s_ i_).f1.f2) ((rd_T102 s_ i_).f1.f3) ((rd_T102 s_ i_).f1.f4) ((rd_T102 s_ i_).f1.f5) ((rd_T102 s_ i_).f1.f6) ((rd_T102 s_ i_).f1.f7))) = some (r1, r2, r3, r4, r5, r6, r7, r8, r9, r10, r11, r12) := H
             have A81 := Aside0.mk A810
             clear A810
             replace H := Option.bind_eq_some_iff.mp H
             obtain ⟨t254, A820, H⟩ := H
             replace H : (impl_span_less.l1 k3 x7_8 s_ (s_.length : Int) i_ (wrap64 ((1 : Int) + 1)) t247 t248 t249 t250 x_04_3 t254 x_06_3 x_07_3 x_08_3 x_09_3 x_10_3 x_11_3 ((rd_T102 s_ i_).f0.f0) ((rd_T102 s_ i_).f0.f1) ((rd_T102 s_ i_).f0.f2) ((rd_T102 s_ i_).f0.f3) ((rd_T102 s_ i_).f1.f0) ((rd_T102 s_ i_).f1.f1) ((rd_T102 s_ i_).f1.f2) ((rd_T102 s_ i_).f1.f3) ((rd_T102 s_ i_).f1.f4) ((rd_T102 s_ i_).f1.f5) ((rd_T102 s_ i_).f1.f6) ((rd_T102 s_ i_).f1.f7)) = some (r1, r2, r3, r4, r5, r6, r7, r8, r9, r10, r11, r12) := H
             have A82 := Aside0.mk A820
             clear A820
             have H' := Aside0.mk H
             clear H
             try go_wp2
             have n0_ := Aside0.mk (blk_drew BK238.out)
             have n1_ := Aside0.mk (blk_drew BK239.out)
             have n2_ := Aside0.mk (blk_drew BK241.out)
             have n3_ := Aside0.mk (IsS81.drew HI0.out)
             have n4_ := Aside0.mk (keep_drew HK.out)
             have n5_ := Aside0.mk (below_drew1 HB.out)
             clear BK238
             clear BK239
             clear BK241
             clear HI0
             clear HK
             clear HB
             have BK238 := n0_
             have BK239 := n1_
             have BK241 := n2_
             have HI0 := n3_
             have HK := n4_
             have HB := n5_
             clear n0_ n1_ n2_ n3_ n4_ n5_
             refine start_ (n := 15) (S := fun w' => w'.cell? ⟨gb238, 5, none⟩ = some (.int .i64 x_05_3) ∧ w'.cell? ⟨gb241, 5, none⟩ = some (.int .i64 ((rd_T102 s_ i_).f1.f1))) (ds := [14]) #[false, false, false, false, false, false, false, false, false, false, false, false, false, false, false] (by kernel_rfl) rfl rfl ⟨bA8 BK238 rfl, bA8 BK241 rfl⟩ (fun hHeld => ?_); refine with_tabW impl_span_less.tab9 impl_span_less.bits9 (fun HT_ HW_ => ?_)
             generalize wr.drew = w83 at BK238 BK239 BK241 HI0 HK HB hHeld ⊢
             refine pure_ (i := 0) (N := some 35) (v := ?_) (a' := ?_) #[true, false, false, false, false, false, false, false, false, false, false, false, false, false, false] rfl rfl (any_of HT_.out (by kernel_rfl)) (fun _ _ _ h => h) (Or.inl ⟨by rfl, ?_⟩) ?_ ?_
             rotate_left
             ·intro w'
              go_simp
              with_reducible rfl
             rotate_left
             ·simp only [Act.put, List.setIfInBounds_toArray, List.set_cons_zero, List.set_cons_succ, i64_w, i32_w]
              rfl
             refine pure_ (i := 1) (N := some 36) (v := ?_) (a' := ?_) #[true, true, false, false, false, false, false, false, false, false, false, false, false, false, false] rfl rfl (any_of HT_.out (by kernel_rfl)) (fun _ _ _ h => h) (Or.inl ⟨by rfl, ?_⟩) ?_ ?_
             rotate_left
             ·intro w'
              go_simp
              with_reducible rfl
             rotate_left
             ·simp only [Act.put, List.setIfInBounds_toArray, List.set_cons_zero, List.set_cons_succ, i64_w, i32_w]
              rfl
             refine pure_ (i := 2) (N := some 37) (v := ?_) (a' := ?_) #[true, true, true, false, false, false, false, false, false, false, false, false, false, false, false] rfl rfl (any_of HT_.out (by kernel_rfl)) (fun _ _ _ h => h) (Or.inl ⟨by rfl, ?_⟩) ?_ ?_
             rotate_left
             ·intro w'
              go_simp
              with_reducible rfl
             rotate_left
             ·simp only [Act.put, List.setIfInBounds_toArray, List.set_cons_zero, List.set_cons_succ, i64_w, i32_w]
              rfl
             refine pure_ (i := 3) (N := some 38) (v := ?_) (a' := ?_) #[true, true, true, true, false, false, false, false, false, false, false, false, false, false, false] rfl rfl (any_of HT_.out (by kernel_rfl)) (fun _ _ _ h => h) (Or.inl ⟨by rfl, ?_⟩) ?_ ?_
             rotate_left
             ·intro w'
              go_simp
              with_reducible rfl
             rotate_left
             ·simp only [Act.put, List.setIfInBounds_toArray, List.set_cons_zero, List.set_cons_succ, i64_w, i32_w]
              rfl
             refine pure_ (i := 5) (N := some 40) (v := ?_) (a' := ?_) #[true, true, true, true, false, true, false, false, false, false, false, false, false, false, false] rfl rfl (any_of HT_.out (by kernel_rfl)) (fun _ _ _ h => h) (Or.inl ⟨by rfl, ?_⟩) ?_ ?_
             rotate_left
             ·intro w'
              go_simp
              with_reducible rfl
             rotate_left
             ·simp only [Act.put, List.setIfInBounds_toArray, List.set_cons_zero, List.set_cons_succ, i64_w, i32_w]
              rfl
             refine pure_ (i := 6) (N := some 41) (v := ?_) (a' := ?_) #[true, true, true, true, false, true, true, false, false, false, false, false, false, false, false] rfl rfl (any_of HT_.out (by kernel_rfl)) (fun _ _ _ h => h) (Or.inl ⟨by rfl, ?_⟩) ?_ ?_
             rotate_left
             ·intro w'
              go_simp
              with_reducible rfl
             rotate_left
             ·simp only [Act.put, List.setIfInBounds_toArray, List.set_cons_zero, List.set_cons_succ, i64_w, i32_w]
              rfl
             refine pure_ (i := 7) (N := some 42) (v := ?_) (a' := ?_) #[true, true, true, true, false, true, true, true, false, false, false, false, false, false, false] rfl rfl (any_of HT_.out (by kernel_rfl)) (fun _ _ _ h => h) (Or.inl ⟨by rfl, ?_⟩) ?_ ?_
             rotate_left
             ·intro w'
              go_simp
              with_reducible rfl
             rotate_left
             ·simp only [Act.put, List.setIfInBounds_toArray, List.set_cons_zero, List.set_cons_succ, i64_w, i32_w]
              rfl
             refine pure_ (i := 9) (N := some 44) (v := ?_) (a' := ?_) #[true, true, true, true, false, true, true, true, false, true, false, false, false, false, false] rfl rfl (any_of HT_.out (by kernel_rfl)) (fun _ _ _ h => h) (Or.inl ⟨by rfl, ?_⟩) ?_ ?_
             rotate_left
             ·intro w'
              go_simp
              with_reducible rfl
             rotate_left
             ·simp only [Act.put, List.setIfInBounds_toArray, List.set_cons_zero, List.set_cons_succ, i64_w, i32_w]
              rfl
             refine pure_ (i := 12) (N := some 47) (v := ?_) (a' := ?_) #[true, true, true, true, false, true, true, true, false, true, false, false, true, false, false] rfl rfl (any_of HT_.out (by kernel_rfl)) (fun _ _ _ h => h) (Or.inl ⟨by rfl, ?_⟩) ?_ ?_
             rotate_left
             ·intro w'
              go_simp
              with_reducible rfl
             rotate_left
             ·simp only [Act.put, List.setIfInBounds_toArray, List.set_cons_zero, List.set_cons_succ, i64_w, i32_w]
              rfl
             refine take_ (i := 4) (N := some 39) (v := ?_) (a' := ?_) #[true, true, true, true, true, true, true, true, false, true, false, false, true, false, false] rfl rfl (take_ofW HT_.out HW_.out (by kernel_rfl)) (fun _ _ _ h => h) (Or.inl ⟨by rfl, ?_⟩) hHeld ?_ ?_
             rotate_left
             ·rintro w' ⟨s0, s1⟩
              go_simp
              with_reducible rfl
             rotate_left
             ·simp only [Act.put, List.setIfInBounds_toArray, List.set_cons_zero, List.set_cons_succ, i64_w, i32_w]
              rfl
             refine take_ (i := 8) (N := some 43) (v := ?_) (a' := ?_) #[true, true, true, true, true, true, true, true, true, true, false, false, true, false, false] rfl rfl (take_ofW HT_.out HW_.out (by kernel_rfl)) (fun _ _ _ h => h) (Or.inl ⟨by rfl, ?_⟩) hHeld ?_ ?_
             rotate_left
             ·rintro w' ⟨s0, s1⟩
              go_simp
              with_reducible rfl
             rotate_left
             ·simp only [Act.put, List.setIfInBounds_toArray, List.set_cons_zero, List.set_cons_succ, i64_w, i32_w]
              rfl
             refine one_ (i := 10) (N := some 45) #[true, true, true, true, true, true, true, true, true, true, true, false, true, false, false] rfl rfl (one_of HT_.out (by kernel_rfl)) (by decide) (fun K hK => ?_)
             refine goes_ Try.func104 (by kernel_rfl) rfl #[.int .i64 ((rd_T102 s_ i_).f1.f1), .int .i64 x7_8] (by rfl) rfl rfl (by (try simp only [List.map_toArray, List.map_cons, List.map_nil]); first | done | rfl | (simp only [List.length_drop, List.length_take]; rfl)) ?_
             with_reducible refine (impl_element_times.calls ((rd_T102 s_ i_).f1.f1) x7_8 t253 _ A81.out).mono ?_
             rintro e w' ⟨rfl, ⟨nd, rfl⟩⟩
             refine ⟨_, rfl, ?_⟩
             refine hK.out _ _ ⟨bA8 BK238 rfl, bA8 BK241 rfl⟩ (fun hHeld => ?_)
             clear hK K
             refine norm_ (a' := ?_) ?_ ?_
             rotate_left
             ·show Act.put _ (some 45) _ = _
              simp only [Act.put, List.setIfInBounds_toArray, List.set_cons_zero, List.set_cons_succ, i64_w, i32_w]
              rfl
             refine one_ (i := 11) (N := some 46) #[true, true, true, true, true, true, true, true, true, true, true, true, true, false, false] rfl rfl (one_of HT_.out (by kernel_rfl)) (by decide) (fun K hK => ?_)
             refine goes_ Try.func127 (by kernel_rfl) rfl #[.int .i64 x_05_3, .int .i64 t253] (by rfl) rfl rfl (by (try simp only [List.map_toArray, List.map_cons, List.map_nil]); first | done | rfl | (simp only [List.length_drop, List.length_take]; rfl)) ?_
             with_reducible refine (impl_element_minus.calls x_05_3 t253 t254 _ A82.out).mono ?_
             rintro e w' ⟨rfl, ⟨nd, rfl⟩⟩
             refine ⟨_, rfl, ?_⟩
             refine hK.out _ _ ⟨bA8 BK238 rfl, bA8 BK241 rfl⟩ (fun hHeld => ?_)
             clear hK K
             refine norm_ (a' := ?_) ?_ ?_
             rotate_left
             ·show Act.put _ (some 46) _ = _
              simp only [Act.put, List.setIfInBounds_toArray, List.set_cons_zero, List.set_cons_succ, i64_w, i32_w]
              rfl
             refine pure_ (i := 13) (N := some 48) (v := ?_) (a' := ?_) #[true, true, true, true, true, true, true, true, true, true, true, true, true, true, false] rfl rfl (any_of HT_.out (by kernel_rfl)) (fun _ _ _ h => h) (Or.inl ⟨by rfl, ?_⟩) ?_ ?_
             rotate_left
             ·intro w'
              go_simp
              with_reducible rfl
             rotate_left
             ·simp only [Act.put, List.setIfInBounds_toArray, List.set_cons_zero, List.set_cons_succ, i64_w, i32_w]
              rfl
             refine last_ (i := 14) (N := none) #[true, true, true, true, true, true, true, true, true, true, true, true, true, true, true] rfl rfl (one_of HT_.out (by kernel_rfl)) (by decide) (fun K hK => ?_)
             have hs84 : w83.cell? ⟨gb238, 5, none⟩ = some (.int .i64 x_05_3) := bA8 BK238 rfl
             have hfs84 := blk_frozen BK238.out 5
             have hns84_1 := NB239_238.out
             have hns84_2 := NB241_238.out
             have hms84_1 := NB238_239.out
             have hms84_2 := NB238_241.out
             refine skip_ (w1 := ?_) (by rfl) rfl ?_ ?_
             rotate_left
             ·go_simp
              rfl
             refine hK.out _ _ ?_
             clear hK K
             refine done_ (done_of HT_.out (by kernel_rfl)) ?_
             try go_wp2
             go_roundg k3
             case measure => have := HK1.out; have := HJ8.out; have := HK3.out; omega
             case rel => exact ⟨(wrap64 ((1 : Int) + 1)), (x_04_3), (t254), (x_06_3), (x_07_3), (x_08_3), (x_09_3), (x_10_3), (x_11_3), (by first | rfl | (simp; done) | (simp [*]; done) | (simp; unfold wrap64; omega)), H', ⟨by have := HK1.out; have := HJ8.out; have := HK3.out; omega⟩, ⟨by (with_reducible repeat first|refine blk_drewN ?_ _|refine blk_drew ?_|refine blk_alloc ?_ _); refine blk_put (cs := #[.int .i64 t247, .int .i64 t248, .int .i64 t249, .int .i64 t250, .int .i64 x_04_3, .int .i64 x_05_3, .int .i64 x_06_3, .int .i64 x_07_3, .int .i64 x_08_3, .int .i64 x_09_3, .int .i64 x_10_3, .int .i64 x_11_3]) ?_ 5 _ rfl; (with_reducible repeat first|refine blk_drewN ?_ _|refine blk_drew ?_|refine blk_alloc ?_ _); exact BK238.out⟩, ⟨by (with_reducible repeat first|refine blk_drewN ?_ _|refine blk_drew ?_|refine blk_alloc ?_ _); refine blk_far ?_ NB239_238.out _; (with_reducible repeat first|refine blk_drewN ?_ _|refine blk_drew ?_|refine blk_alloc ?_ _); exact BK239.out⟩, ⟨by (with_reducible repeat first|refine blk_drewN ?_ _|refine blk_drew ?_|refine blk_alloc ?_ _); refine blk_far ?_ NB241_238.out _; (with_reducible repeat first|refine blk_drewN ?_ _|refine blk_drew ?_|refine blk_alloc ?_ _); exact BK241.out⟩, ⟨by repeat (first | (with_reducible first | exact HI0.out | apply IsS81.alloc | apply IsS81.drewN | apply IsS81.drew | refine IsS81.far ?_ NB0_238.out _ | refine IsS81.far ?_ NB0_239.out _ | refine IsS81.far ?_ NB0_241.out _) | exact HI0.out)⟩, ⟨by repeat (first | (with_reducible first | exact HK.out | apply KeepBut.set_ | apply keep_drewN | apply keep_drew | apply keep_alloc | refine keep_far ?_ GW238.out _ | refine keep_far ?_ GW239.out _ | refine keep_far ?_ GW241.out _) | exact HK.out)⟩, ⟨by repeat (first | (with_reducible first | exact HB.out | apply below_alloc | apply pw_below_drewN | apply below_drew1 | refine below_set ?_ (IsS81.ge HI0.out) | refine below_set ?_ GE238.out | refine below_set ?_ GE239.out | refine below_set ?_ GE241.out) | exact HB.out)⟩⟩
            ·rw [if_neg c80] at H
             clear c80
             by_cases c85 : x32_3 = 2
             ·rw [if_pos c85] at H
              subst c85
              replace H : ((impl_element_times.f ((rd_T102 s_ i_).f1.f2) x7_8).bind fun t255 => ((impl_element_minus.f x_06_3 t255).bind fun t256 => (impl_span_less.l1 k3 x7_8 s_ (s_.length : Int) i_ (wrap64 ((2 : Int) + 1)) t247 t248 t249 t250 x_04_3 x_05_3 t256 x_07_3 x_08_3 x_09_3 x_10_3 x_11_3 ((rd_T102 s_ i_).f0.f0) ((rd_T102 s_ i_).f0.f1) ((rd_T102 s_ i_).f0.f2) ((rd_T102 s_ i_).f0.f3) ((rd_T102 s_ i_).f1.f0) ((rd_T102 s_ i_).f1.f1) ((rd_T102 s_ i_).f1.f2) ((rd_T102 s_ i_).f1.f3) ((rd_T102 s_ i_).f1.f4) ((rd_T102 s_ i_).f1.f5) ((rd_T102 s_ i_).f1.f6) ((rd_T102 s_ i_).f1.f7)))) = some (r1, r2, r3, r4, r5, r6, r7, r8, r9, r10, r11, r12) := H
              replace H := Option.bind_eq_some_iff.mp H
              obtain ⟨t255, A860, H⟩ := H
              replace H : ((impl_element_minus.f x_06_3 t255).bind fun t256 => (impl_span_less.l1 k3 x7_8 s_ (s_.length : Int) i_ (wrap64 ((2 : Int) + 1)) t247 t248 t249 t250 x_04_3 x_05_3 t256 x_07_3 x_08_3 x_09_3 x_10_3 x_11_3 ((rd_T102 s_ i_).f0.f0) ((rd_T102 s_ i_).f0.f1) ((rd_T102 s_ i_).f0.f2) ((rd_T102 s_ i_).f0.f3) ((rd_T102 s_ i_).f1.f0) ((rd_T102 s_ i_).f1.f1) ((rd_T102 s_ i_).f1.f2) ((rd_T102 s_ i_).f1.f3) ((rd_T102 s_ i_).f1.f4) ((rd_T102 s_ i_).f1.f5) ((rd_T102 s_ i_).f1.f6) ((rd_T102 s_ i_).f1.f7))) = some (r1, r2, r3, r4, r5, r6, r7, r8, r9, r10, r11, r12) := H
              have A86 := Aside0.mk A860
              clear A860
              replace H := Option.bind_eq_some_iff.mp H
              obtain ⟨t256, A870, H⟩ := H
              replace H : (impl_span_less.l1 k3 x7_8 s_ (s_.length : Int) i_ (wrap64 ((2 : Int) + 1)) t247 t248 t249 t250 x_04_3 x_05_3 t256 x_07_3 x_08_3 x_09_3 x_10_3 x_11_3 ((rd_T102 s_ i_).f0.f0) ((rd_T102 s_ i_).f0.f1) ((rd_T102 s_ i_).f0.f2) ((rd_T102 s_ i_).f0.f3) ((rd_T102 s_ i_).f1.f0) ((rd_T102 s_ i_).f1.f1) ((rd_T102 s_ i_).f1.f2) ((rd_T102 s_ i_).f1.f3) ((rd_T102 s_ i_).f1.f4) ((rd_T102 s_ i_).f1.f5) ((rd_T102 s_ i_).f1.f6) ((rd_T102 s_ i_).f1.f7)) = some (r1, r2, r3, r4, r5, r6, r7, r8, r9, r10, r11, r12) := H
              have A87 := Aside0.mk A870
              clear A870
              have H' := Aside0.mk H
              clear H
              try go_wp2
              have n0_ := Aside0.mk (blk_drew BK238.out)
              have n1_ := Aside0.mk (blk_drew BK239.out)
              have n2_ := Aside0.mk (blk_drew BK241.out)
              have n3_ := Aside0.mk (IsS81.drew HI0.out)
              have n4_ := Aside0.mk (keep_drew HK.out)
              have n5_ := Aside0.mk (below_drew1 HB.out)
              clear BK238
              clear BK239
              clear BK241
              clear HI0
              clear HK
              clear HB
              have BK238 := n0_
              have BK239 := n1_
              have BK241 := n2_
              have HI0 := n3_
              have HK := n4_
              have HB := n5_
              clear n0_ n1_ n2_ n3_ n4_ n5_
              refine start_ (n := 15) (S := fun w' => w'.cell? ⟨gb238, 6, none⟩ = some (.int .i64 x_06_3) ∧ w'.cell? ⟨gb241, 6, none⟩ = some (.int .i64 ((rd_T102 s_ i_).f1.f2))) (ds := [14]) #[false, false, false, false, false, false, false, false, false, false, false, false, false, false, false] (by kernel_rfl) rfl rfl ⟨bA8 BK238 rfl, bA8 BK241 rfl⟩ (fun hHeld => ?_); refine with_tabW impl_span_less.tab9 impl_span_less.bits9 (fun HT_ HW_ => ?_)
              generalize wr.drew = w88 at BK238 BK239 BK241 HI0 HK HB hHeld ⊢
              refine pure_ (i := 0) (N := some 35) (v := ?_) (a' := ?_) #[true, false, false, false, false, false, false, false, false, false, false, false, false, false, false] rfl rfl (any_of HT_.out (by kernel_rfl)) (fun _ _ _ h => h) (Or.inl ⟨by rfl, ?_⟩) ?_ ?_
              rotate_left
              ·intro w'
               go_simp
               with_reducible rfl
              rotate_left
              ·simp only [Act.put, List.setIfInBounds_toArray, List.set_cons_zero, List.set_cons_succ, i64_w, i32_w]
               rfl
              refine pure_ (i := 1) (N := some 36) (v := ?_) (a' := ?_) #[true, true, false, false, false, false, false, false, false, false, false, false, false, false, false] rfl rfl (any_of HT_.out (by kernel_rfl)) (fun _ _ _ h => h) (Or.inl ⟨by rfl, ?_⟩) ?_ ?_
              rotate_left
              ·intro w'
               go_simp
               with_reducible rfl
              rotate_left
              ·simp only [Act.put, List.setIfInBounds_toArray, List.set_cons_zero, List.set_cons_succ, i64_w, i32_w]
               rfl
              refine pure_ (i := 2) (N := some 37) (v := ?_) (a' := ?_) #[true, true, true, false, false, false, false, false, false, false, false, false, false, false, false] rfl rfl (any_of HT_.out (by kernel_rfl)) (fun _ _ _ h => h) (Or.inl ⟨by rfl, ?_⟩) ?_ ?_
              rotate_left
              ·intro w'
               go_simp
               with_reducible rfl
              rotate_left
              ·simp only [Act.put, List.setIfInBounds_toArray, List.set_cons_zero, List.set_cons_succ, i64_w, i32_w]
               rfl
              refine pure_ (i := 3) (N := some 38) (v := ?_) (a' := ?_) #[true, true, true, true, false, false, false, false, false, false, false, false, false, false, false] rfl rfl (any_of HT_.out (by kernel_rfl)) (fun _ _ _ h => h) (Or.inl ⟨by rfl, ?_⟩) ?_ ?_
              rotate_left
              ·intro w'
               go_simp
               with_reducible rfl
              rotate_left
              ·simp only [Act.put, List.setIfInBounds_toArray, List.set_cons_zero, List.set_cons_succ, i64_w, i32_w]
               rfl
              refine pure_ (i := 5) (N := some 40) (v := ?_) (a' := ?_) #[true, true, true, true, false, true, false, false, false, false, false, false, false, false, false] rfl rfl (any_of HT_.out (by kernel_rfl)) (fun _ _ _ h => h) (Or.inl ⟨by rfl, ?_⟩) ?_ ?_
              rotate_left
              ·intro w'
               go_simp
               with_reducible rfl
              rotate_left
              ·simp only [Act.put, List.setIfInBounds_toArray, List.set_cons_zero, List.set_cons_succ, i64_w, i32_w]
               rfl
              refine pure_ (i := 6) (N := some 41) (v := ?_) (a' := ?_) #[true, true, true, true, false, true, true, false, false, false, false, false, false, false, false] rfl rfl (any_of HT_.out (by kernel_rfl)) (fun _ _ _ h => h) (Or.inl ⟨by rfl, ?_⟩) ?_ ?_
              rotate_left
              ·intro w'
               go_simp
               with_reducible rfl
              rotate_left
              ·simp only [Act.put, List.setIfInBounds_toArray, List.set_cons_zero, List.set_cons_succ, i64_w, i32_w]
               rfl
              refine pure_ (i := 7) (N := some 42) (v := ?_) (a' := ?_) #[true, true, true, true, false, true, true, true, false, false, false, false, false, false, false] rfl rfl (any_of HT_.out (by kernel_rfl)) (fun _ _ _ h => h) (Or.inl ⟨by rfl, ?_⟩) ?_ ?_
              rotate_left
              ·intro w'
               go_simp
               with_reducible rfl
              rotate_left
              ·simp only [Act.put, List.setIfInBounds_toArray, List.set_cons_zero, List.set_cons_succ, i64_w, i32_w]
               rfl
              refine pure_ (i := 9) (N := some 44) (v := ?_) (a' := ?_) #[true, true, true, true, false, true, true, true, false, true, false, false, false, false, false] rfl rfl (any_of HT_.out (by kernel_rfl)) (fun _ _ _ h => h) (Or.inl ⟨by rfl, ?_⟩) ?_ ?_
              rotate_left
              ·intro w'
               go_simp
               with_reducible rfl
              rotate_left
              ·simp only [Act.put, List.setIfInBounds_toArray, List.set_cons_zero, List.set_cons_succ, i64_w, i32_w]
               rfl
              refine pure_ (i := 12) (N := some 47) (v := ?_) (a' := ?_) #[true, true, true, true, false, true, true, true, false, true, false, false, true, false, false] rfl rfl (any_of HT_.out (by kernel_rfl)) (fun _ _ _ h => h) (Or.inl ⟨by rfl, ?_⟩) ?_ ?_
              rotate_left
              ·intro w'
               go_simp
               with_reducible rfl
              rotate_left
              ·simp only [Act.put, List.setIfInBounds_toArray, List.set_cons_zero, List.set_cons_succ, i64_w, i32_w]
               rfl
              refine take_ (i := 4) (N := some 39) (v := ?_) (a' := ?_) #[true, true, true, true, true, true, true, true, false, true, false, false, true, false, false] rfl rfl (take_ofW HT_.out HW_.out (by kernel_rfl)) (fun _ _ _ h => h) (Or.inl ⟨by rfl, ?_⟩) hHeld ?_ ?_
              rotate_left
              ·rintro w' ⟨s0, s1⟩
               go_simp
               with_reducible rfl
              rotate_left
              ·simp only [Act.put, List.setIfInBounds_toArray, List.set_cons_zero, List.set_cons_succ, i64_w, i32_w]
               rfl
              refine take_ (i := 8) (N := some 43) (v := ?_) (a' := ?_) #[true, true, true, true, true, true, true, true, true, true, false, false, true, false, false] rfl rfl (take_ofW HT_.out HW_.out (by kernel_rfl)) (fun _ _ _ h => h) (Or.inl ⟨by rfl, ?_⟩) hHeld ?_ ?_
              rotate_left
              ·rintro w' ⟨s0, s1⟩
               go_simp
               with_reducible rfl
              rotate_left
              ·simp only [Act.put, List.setIfInBounds_toArray, List.set_cons_zero, List.set_cons_succ, i64_w, i32_w]
               rfl
              refine one_ (i := 10) (N := some 45) #[true, true, true, true, true, true, true, true, true, true, true, false, true, false, false] rfl rfl (one_of HT_.out (by kernel_rfl)) (by decide) (fun K hK => ?_)
              refine goes_ Try.func104 (by kernel_rfl) rfl #[.int .i64 ((rd_T102 s_ i_).f1.f2), .int .i64 x7_8] (by rfl) rfl rfl (by (try simp only [List.map_toArray, List.map_cons, List.map_nil]); first | done | rfl | (simp only [List.length_drop, List.length_take]; rfl)) ?_
              with_reducible refine (impl_element_times.calls ((rd_T102 s_ i_).f1.f2) x7_8 t255 _ A86.out).mono ?_
              rintro e w' ⟨rfl, ⟨nd, rfl⟩⟩
              refine ⟨_, rfl, ?_⟩
              refine hK.out _ _ ⟨bA8 BK238 rfl, bA8 BK241 rfl⟩ (fun hHeld => ?_)
              clear hK K
              refine norm_ (a' := ?_) ?_ ?_
              rotate_left
              ·show Act.put _ (some 45) _ = _
               simp only [Act.put, List.setIfInBounds_toArray, List.set_cons_zero, List.set_cons_succ, i64_w, i32_w]
               rfl
              refine one_ (i := 11) (N := some 46) #[true, true, true, true, true, true, true, true, true, true, true, true, true, false, false] rfl rfl (one_of HT_.out (by kernel_rfl)) (by decide) (fun K hK => ?_)
              refine goes_ Try.func127 (by kernel_rfl) rfl #[.int .i64 x_06_3, .int .i64 t255] (by rfl) rfl rfl (by (try simp only [List.map_toArray, List.map_cons, List.map_nil]); first | done | rfl | (simp only [List.length_drop, List.length_take]; rfl)) ?_
              with_reducible refine (impl_element_minus.calls x_06_3 t255 t256 _ A87.out).mono ?_
              rintro e w' ⟨rfl, ⟨nd, rfl⟩⟩
              refine ⟨_, rfl, ?_⟩
              refine hK.out _ _ ⟨bA8 BK238 rfl, bA8 BK241 rfl⟩ (fun hHeld => ?_)
              clear hK K
              refine norm_ (a' := ?_) ?_ ?_
              rotate_left
              ·show Act.put _ (some 46) _ = _
               simp only [Act.put, List.setIfInBounds_toArray, List.set_cons_zero, List.set_cons_succ, i64_w, i32_w]
               rfl
              refine pure_ (i := 13) (N := some 48) (v := ?_) (a' := ?_) #[true, true, true, true, true, true, true, true, true, true, true, true, true, true, false] rfl rfl (any_of HT_.out (by kernel_rfl)) (fun _ _ _ h => h) (Or.inl ⟨by rfl, ?_⟩) ?_ ?_
              rotate_left
              ·intro w'
               go_simp
               with_reducible rfl
              rotate_left
              ·simp only [Act.put, List.setIfInBounds_toArray, List.set_cons_zero, List.set_cons_succ, i64_w, i32_w]
               rfl
              refine last_ (i := 14) (N := none) #[true, true, true, true, true, true, true, true, true, true, true, true, true, true, true] rfl rfl (one_of HT_.out (by kernel_rfl)) (by decide) (fun K hK => ?_)
              have hs89 : w88.cell? ⟨gb238, 6, none⟩ = some (.int .i64 x_06_3) := bA8 BK238 rfl
              have hfs89 := blk_frozen BK238.out 6
              have hns89_1 := NB239_238.out
              have hns89_2 := NB241_238.out
              have hms89_1 := NB238_239.out
              have hms89_2 := NB238_241.out
              refine skip_ (w1 := ?_) (by rfl) rfl ?_ ?_
              rotate_left
              ·go_simp
               rfl
              refine hK.out _ _ ?_
              clear hK K
              refine done_ (done_of HT_.out (by kernel_rfl)) ?_
              try go_wp2
              go_roundg k3
              case measure => have := HK1.out; have := HJ8.out; have := HK3.out; omega
              case rel => exact ⟨(wrap64 ((2 : Int) + 1)), (x_04_3), (x_05_3), (t256), (x_07_3), (x_08_3), (x_09_3), (x_10_3), (x_11_3), (by first | rfl | (simp; done) | (simp [*]; done) | (simp; unfold wrap64; omega)), H', ⟨by have := HK1.out; have := HJ8.out; have := HK3.out; omega⟩, ⟨by (with_reducible repeat first|refine blk_drewN ?_ _|refine blk_drew ?_|refine blk_alloc ?_ _); refine blk_put (cs := #[.int .i64 t247, .int .i64 t248, .int .i64 t249, .int .i64 t250, .int .i64 x_04_3, .int .i64 x_05_3, .int .i64 x_06_3, .int .i64 x_07_3, .int .i64 x_08_3, .int .i64 x_09_3, .int .i64 x_10_3, .int .i64 x_11_3]) ?_ 6 _ rfl; (with_reducible repeat first|refine blk_drewN ?_ _|refine blk_drew ?_|refine blk_alloc ?_ _); exact BK238.out⟩, ⟨by (with_reducible repeat first|refine blk_drewN ?_ _|refine blk_drew ?_|refine blk_alloc ?_ _); refine blk_far ?_ NB239_238.out _; (with_reducible repeat first|refine blk_drewN ?_ _|refine blk_drew ?_|refine blk_alloc ?_ _); exact BK239.out⟩, ⟨by (with_reducible repeat first|refine blk_drewN ?_ _|refine blk_drew ?_|refine blk_alloc ?_ _); refine blk_far ?_ NB241_238.out _; (with_reducible repeat first|refine blk_drewN ?_ _|refine blk_drew ?_|refine blk_alloc ?_ _); exact BK241.out⟩, ⟨by repeat (first | (with_reducible first | exact HI0.out | apply IsS81.alloc | apply IsS81.drewN | apply IsS81.drew | refine IsS81.far ?_ NB0_238.out _ | refine IsS81.far ?_ NB0_239.out _ | refine IsS81.far ?_ NB0_241.out _) | exact HI0.out)⟩, ⟨by repeat (first | (with_reducible first | exact HK.out | apply KeepBut.set_ | apply keep_drewN | apply keep_drew | apply keep_alloc | refine keep_far ?_ GW238.out _ | refine keep_far ?_ GW239.out _ | refine keep_far ?_ GW241.out _) | exact HK.out)⟩, ⟨by repeat (first | (with_reducible first | exact HB.out | apply below_alloc | apply pw_below_drewN | apply below_drew1 | refine below_set ?_ (IsS81.ge HI0.out) | refine below_set ?_ GE238.out | refine below_set ?_ GE239.out | refine below_set ?_ GE241.out) | exact HB.out)⟩⟩
             ·rw [if_neg c85] at H
              clear c85
              by_cases c90 : x32_3 = 3
              ·rw [if_pos c90] at H
               subst c90
               replace H : ((impl_element_times.f ((rd_T102 s_ i_).f1.f3) x7_8).bind fun t257 => ((impl_element_minus.f x_07_3 t257).bind fun t258 => (impl_span_less.l1 k3 x7_8 s_ (s_.length : Int) i_ (wrap64 ((3 : Int) + 1)) t247 t248 t249 t250 x_04_3 x_05_3 x_06_3 t258 x_08_3 x_09_3 x_10_3 x_11_3 ((rd_T102 s_ i_).f0.f0) ((rd_T102 s_ i_).f0.f1) ((rd_T102 s_ i_).f0.f2) ((rd_T102 s_ i_).f0.f3) ((rd_T102 s_ i_).f1.f0) ((rd_T102 s_ i_).f1.f1) ((rd_T102 s_ i_).f1.f2) ((rd_T102 s_ i_).f1.f3) ((rd_T102 s_ i_).f1.f4) ((rd_T102 s_ i_).f1.f5) ((rd_T102 s_ i_).f1.f6) ((rd_T102 s_ i_).f1.f7)))) = some (r1, r2, r3, r4, r5, r6, r7, r8, r9, r10, r11, r12) := H
               replace H := Option.bind_eq_some_iff.mp H
               obtain ⟨t257, A910, H⟩ := H
               replace H : ((impl_element_minus.f x_07_3 t257).bind fun t258 => (impl_span_less.l1 k3 x7_8 s_ (s_.length : Int) i_ (wrap64 ((3 : Int) + 1)) t247 t248 t249 t250 x_04_3 x_05_3 x_06_3 t258 x_08_3 x_09_3 x_10_3 x_11_3 ((rd_T102 s_ i_).f0.f0) ((rd_T102 s_ i_).f0.f1) ((rd_T102 s_ i_).f0.f2) ((rd_T102 s_ i_).f0.f3) ((rd_T102 s_ i_).f1.f0) ((rd_T102 s_ i_).f1.f1) ((rd_T102 s_ i_).f1.f2) ((rd_T102 s_ i_).f1.f3) ((rd_T102 s_ i_).f1.f4) ((rd_T102 s_ i_).f1.f5) ((rd_T102 s_ i_).f1.f6) ((rd_T102 s_ i_).f1.f7))) = some (r1, r2, r3, r4, r5, r6, r7, r8, r9, r10, r11, r12) := H
               have A91 := Aside0.mk A910
               clear A910
               replace H := Option.bind_eq_some_iff.mp H
               obtain ⟨t258, A920, H⟩ := H
               replace H : (impl_span_less.l1 k3 x7_8 s_ (s_.length : Int) i_ (wrap64 ((3 : Int) + 1)) t247 t248 t249 t250 x_04_3 x_05_3 x_06_3 t258 x_08_3 x_09_3 x_10_3 x_11_3 ((rd_T102 s_ i_).f0.f0) ((rd_T102 s_ i_).f0.f1) ((rd_T102 s_ i_).f0.f2) ((rd_T102 s_ i_).f0.f3) ((rd_T102 s_ i_).f1.f0) ((rd_T102 s_ i_).f1.f1) ((rd_T102 s_ i_).f1.f2) ((rd_T102 s_ i_).f1.f3) ((rd_T102 s_ i_).f1.f4) ((rd_T102 s_ i_).f1.f5) ((rd_T102 s_ i_).f1.f6) ((rd_T102 s_ i_).f1.f7)) = some (r1, r2, r3, r4, r5, r6, r7, r8, r9, r10, r11, r12) := H
               have A92 := Aside0.mk A920
               clear A920
               have H' := Aside0.mk H
               clear H
               try go_wp2
               have n0_ := Aside0.mk (blk_drew BK238.out)
               have n1_ := Aside0.mk (blk_drew BK239.out)
               have n2_ := Aside0.mk (blk_drew BK241.out)
               have n3_ := Aside0.mk (IsS81.drew HI0.out)
               have n4_ := Aside0.mk (keep_drew HK.out)
               have n5_ := Aside0.mk (below_drew1 HB.out)
               clear BK238
               clear BK239
               clear BK241
               clear HI0
               clear HK
               clear HB
               have BK238 := n0_
               have BK239 := n1_
               have BK241 := n2_
               have HI0 := n3_
               have HK := n4_
               have HB := n5_
               clear n0_ n1_ n2_ n3_ n4_ n5_
               refine start_ (n := 15) (S := fun w' => w'.cell? ⟨gb238, 7, none⟩ = some (.int .i64 x_07_3) ∧ w'.cell? ⟨gb241, 7, none⟩ = some (.int .i64 ((rd_T102 s_ i_).f1.f3))) (ds := [14]) #[false, false, false, false, false, false, false, false, false, false, false, false, false, false, false] (by kernel_rfl) rfl rfl ⟨bA8 BK238 rfl, bA8 BK241 rfl⟩ (fun hHeld => ?_); refine with_tabW impl_span_less.tab9 impl_span_less.bits9 (fun HT_ HW_ => ?_)
               generalize wr.drew = w93 at BK238 BK239 BK241 HI0 HK HB hHeld ⊢
               refine pure_ (i := 0) (N := some 35) (v := ?_) (a' := ?_) #[true, false, false, false, false, false, false, false, false, false, false, false, false, false, false] rfl rfl (any_of HT_.out (by kernel_rfl)) (fun _ _ _ h => h) (Or.inl ⟨by rfl, ?_⟩) ?_ ?_
               rotate_left
               ·intro w'
                go_simp
                with_reducible rfl
               rotate_left
               ·simp only [Act.put, List.setIfInBounds_toArray, List.set_cons_zero, List.set_cons_succ, i64_w, i32_w]
                rfl
               refine pure_ (i := 1) (N := some 36) (v := ?_) (a' := ?_) #[true, true, false, false, false, false, false, false, false, false, false, false, false, false, false] rfl rfl (any_of HT_.out (by kernel_rfl)) (fun _ _ _ h => h) (Or.inl ⟨by rfl, ?_⟩) ?_ ?_
               rotate_left
               ·intro w'
                go_simp
                with_reducible rfl
               rotate_left
               ·simp only [Act.put, List.setIfInBounds_toArray, List.set_cons_zero, List.set_cons_succ, i64_w, i32_w]
                rfl
               refine pure_ (i := 2) (N := some 37) (v := ?_) (a' := ?_) #[true, true, true, false, false, false, false, false, false, false, false, false, false, false, false] rfl rfl (any_of HT_.out (by kernel_rfl)) (fun _ _ _ h => h) (Or.inl ⟨by rfl, ?_⟩) ?_ ?_
               rotate_left
               ·intro w'
                go_simp
                with_reducible rfl
               rotate_left
               ·simp only [Act.put, List.setIfInBounds_toArray, List.set_cons_zero, List.set_cons_succ, i64_w, i32_w]
                rfl
               refine pure_ (i := 3) (N := some 38) (v := ?_) (a' := ?_) #[true, true, true, true, false, false, false, false, false, false, false, false, false, false, false] rfl rfl (any_of HT_.out (by kernel_rfl)) (fun _ _ _ h => h) (Or.inl ⟨by rfl, ?_⟩) ?_ ?_
               rotate_left
               ·intro w'
                go_simp
                with_reducible rfl
               rotate_left
               ·simp only [Act.put, List.setIfInBounds_toArray, List.set_cons_zero, List.set_cons_succ, i64_w, i32_w]
                rfl
               refine pure_ (i := 5) (N := some 40) (v := ?_) (a' := ?_) #[true, true, true, true, false, true, false, false, false, false, false, false, false, false, false] rfl rfl (any_of HT_.out (by kernel_rfl)) (fun _ _ _ h => h) (Or.inl ⟨by rfl, ?_⟩) ?_ ?_
               rotate_left
               ·intro w'
                go_simp
                with_reducible rfl
               rotate_left
               ·simp only [Act.put, List.setIfInBounds_toArray, List.set_cons_zero, List.set_cons_succ, i64_w, i32_w]
                rfl
               refine pure_ (i := 6) (N := some 41) (v := ?_) (a' := ?_) #[true, true, true, true, false, true, true, false, false, false, false, false, false, false, false] rfl rfl (any_of HT_.out (by kernel_rfl)) (fun _ _ _ h => h) (Or.inl ⟨by rfl, ?_⟩) ?_ ?_
               rotate_left
               ·intro w'
                go_simp
                with_reducible rfl
               rotate_left
               ·simp only [Act.put, List.setIfInBounds_toArray, List.set_cons_zero, List.set_cons_succ, i64_w, i32_w]
                rfl
               refine pure_ (i := 7) (N := some 42) (v := ?_) (a' := ?_) #[true, true, true, true, false, true, true, true, false, false, false, false, false, false, false] rfl rfl (any_of HT_.out (by kernel_rfl)) (fun _ _ _ h => h) (Or.inl ⟨by rfl, ?_⟩) ?_ ?_
               rotate_left
               ·intro w'
                go_simp
                with_reducible rfl
               rotate_left
               ·simp only [Act.put, List.setIfInBounds_toArray, List.set_cons_zero, List.set_cons_succ, i64_w, i32_w]
                rfl
               refine pure_ (i := 9) (N := some 44) (v := ?_) (a' := ?_) #[true, true, true, true, false, true, true, true, false, true, false, false, false, false, false] rfl rfl (any_of HT_.out (by kernel_rfl)) (fun _ _ _ h => h) (Or.inl ⟨by rfl, ?_⟩) ?_ ?_
               rotate_left
               ·intro w'
                go_simp
                with_reducible rfl
               rotate_left
               ·simp only [Act.put, List.setIfInBounds_toArray, List.set_cons_zero, List.set_cons_succ, i64_w, i32_w]
                rfl
               refine pure_ (i := 12) (N := some 47) (v := ?_) (a' := ?_) #[true, true, true, true, false, true, true, true, false, true, false, false, true, false, false] rfl rfl (any_of HT_.out (by kernel_rfl)) (fun _ _ _ h => h) (Or.inl ⟨by rfl, ?_⟩) ?_ ?_
               rotate_left
               ·intro w'
                go_simp
                with_reducible rfl
               rotate_left
               ·simp only [Act.put, List.setIfInBounds_toArray, List.set_cons_zero, List.set_cons_succ, i64_w, i32_w]
                rfl
               refine take_ (i := 4) (N := some 39) (v := ?_) (a' := ?_) #[true, true, true, true, true, true, true, true, false, true, false, false, true, false, false] rfl rfl (take_ofW HT_.out HW_.out (by kernel_rfl)) (fun _ _ _ h => h) (Or.inl ⟨by rfl, ?_⟩) hHeld ?_ ?_
               rotate_left
               ·rintro w' ⟨s0, s1⟩
                go_simp
                with_reducible rfl
               rotate_left
               ·simp only [Act.put, List.setIfInBounds_toArray, List.set_cons_zero, List.set_cons_succ, i64_w, i32_w]
                rfl
               refine take_ (i := 8) (N := some 43) (v := ?_) (a' := ?_) #[true, true, true, true, true, true, true, true, true, true, false, false, true, false, false] rfl rfl (take_ofW HT_.out HW_.out (by kernel_rfl)) (fun _ _ _ h => h) (Or.inl ⟨by rfl, ?_⟩) hHeld ?_ ?_
               rotate_left
               ·rintro w' ⟨s0, s1⟩
                go_simp
                with_reducible rfl
               rotate_left
               ·simp only [Act.put, List.setIfInBounds_toArray, List.set_cons_zero, List.set_cons_succ, i64_w, i32_w]
                rfl
               refine one_ (i := 10) (N := some 45) #[true, true, true, true, true, true, true, true, true, true, true, false, true, false, false] rfl rfl (one_of HT_.out (by kernel_rfl)) (by decide) (fun K hK => ?_)
               refine goes_ Try.func104 (by kernel_rfl) rfl #[.int .i64 ((rd_T102 s_ i_).f1.f3), .int .i64 x7_8] (by rfl) rfl rfl (by (try simp only [List.map_toArray, List.map_cons, List.map_nil]); first | done | rfl | (simp only [List.length_drop, List.length_take]; rfl)) ?_
               with_reducible refine (impl_element_times.calls ((rd_T102 s_ i_).f1.f3) x7_8 t257 _ A91.out).mono ?_
               rintro e w' ⟨rfl, ⟨nd, rfl⟩⟩
               refine ⟨_, rfl, ?_⟩
               refine hK.out _ _ ⟨bA8 BK238 rfl, bA8 BK241 rfl⟩ (fun hHeld => ?_)
               clear hK K
               refine norm_ (a' := ?_) ?_ ?_
               rotate_left
               ·show Act.put _ (some 45) _ = _
                simp only [Act.put, List.setIfInBounds_toArray, List.set_cons_zero, List.set_cons_succ, i64_w, i32_w]
                rfl
               refine one_ (i := 11) (N := some 46) #[true, true, true, true, true, true, true, true, true, true, true, true, true, false, false] rfl rfl (one_of HT_.out (by kernel_rfl)) (by decide) (fun K hK => ?_)
               refine goes_ Try.func127 (by kernel_rfl) rfl #[.int .i64 x_07_3, .int .i64 t257] (by rfl) rfl rfl (by (try simp only [List.map_toArray, List.map_cons, List.map_nil]); first | done | rfl | (simp only [List.length_drop, List.length_take]; rfl)) ?_
               with_reducible refine (impl_element_minus.calls x_07_3 t257 t258 _ A92.out).mono ?_
               rintro e w' ⟨rfl, ⟨nd, rfl⟩⟩
               refine ⟨_, rfl, ?_⟩
               refine hK.out _ _ ⟨bA8 BK238 rfl, bA8 BK241 rfl⟩ (fun hHeld => ?_)
               clear hK K
               refine norm_ (a' := ?_) ?_ ?_
               rotate_left
               ·show Act.put _ (some 46) _ = _
                simp only [Act.put, List.setIfInBounds_toArray, List.set_cons_zero, List.set_cons_succ, i64_w, i32_w]
                rfl
               refine pure_ (i := 13) (N := some 48) (v := ?_) (a' := ?_) #[true, true, true, true, true, true, true, true, true, true, true, true, true, true, false] rfl rfl (any_of HT_.out (by kernel_rfl)) (fun _ _ _ h => h) (Or.inl ⟨by rfl, ?_⟩) ?_ ?_
               rotate_left
               ·intro w'
                go_simp
                with_reducible rfl
               rotate_left
               ·simp only [Act.put, List.setIfInBounds_toArray, List.set_cons_zero, List.set_cons_succ, i64_w, i32_w]
                rfl
               refine last_ (i := 14) (N := none) #[true, true, true, true, true, true, true, true, true, true, true, true, true, true, true] rfl rfl (one_of HT_.out (by kernel_rfl)) (by decide) (fun K hK => ?_)
               have hs94 : w93.cell? ⟨gb238, 7, none⟩ = some (.int .i64 x_07_3) := bA8 BK238 rfl
               have hfs94 := blk_frozen BK238.out 7
               have hns94_1 := NB239_238.out
               have hns94_2 := NB241_238.out
               have hms94_1 := NB238_239.out
               have hms94_2 := NB238_241.out
               refine skip_ (w1 := ?_) (by rfl) rfl ?_ ?_
               rotate_left
               ·go_simp
                rfl
               refine hK.out _ _ ?_
               clear hK K
               refine done_ (done_of HT_.out (by kernel_rfl)) ?_
               try go_wp2
               go_roundg k3
               case measure => have := HK1.out; have := HJ8.out; have := HK3.out; omega
               case rel => exact ⟨(wrap64 ((3 : Int) + 1)), (x_04_3), (x_05_3), (x_06_3), (t258), (x_08_3), (x_09_3), (x_10_3), (x_11_3), (by first | rfl | (simp; done) | (simp [*]; done) | (simp; unfold wrap64; omega)), H', ⟨by have := HK1.out; have := HJ8.out; have := HK3.out; omega⟩, ⟨by (with_reducible repeat first|refine blk_drewN ?_ _|refine blk_drew ?_|refine blk_alloc ?_ _); refine blk_put (cs := #[.int .i64 t247, .int .i64 t248, .int .i64 t249, .int .i64 t250, .int .i64 x_04_3, .int .i64 x_05_3, .int .i64 x_06_3, .int .i64 x_07_3, .int .i64 x_08_3, .int .i64 x_09_3, .int .i64 x_10_3, .int .i64 x_11_3]) ?_ 7 _ rfl; (with_reducible repeat first|refine blk_drewN ?_ _|refine blk_drew ?_|refine blk_alloc ?_ _); exact BK238.out⟩, ⟨by (with_reducible repeat first|refine blk_drewN ?_ _|refine blk_drew ?_|refine blk_alloc ?_ _); refine blk_far ?_ NB239_238.out _; (with_reducible repeat first|refine blk_drewN ?_ _|refine blk_drew ?_|refine blk_alloc ?_ _); exact BK239.out⟩, ⟨by (with_reducible repeat first|refine blk_drewN ?_ _|refine blk_drew ?_|refine blk_alloc ?_ _); refine blk_far ?_ NB241_238.out _; (with_reducible repeat first|refine blk_drewN ?_ _|refine blk_drew ?_|refine blk_alloc ?_ _); exact BK241.out⟩, ⟨by repeat (first | (with_reducible first | exact HI0.out | apply IsS81.alloc | apply IsS81.drewN | apply IsS81.drew | refine IsS81.far ?_ NB0_238.out _ | refine IsS81.far ?_ NB0_239.out _ | refine IsS81.far ?_ NB0_241.out _) | exact HI0.out)⟩, ⟨by repeat (first | (with_reducible first | exact HK.out | apply KeepBut.set_ | apply keep_drewN | apply keep_drew | apply keep_alloc | refine keep_far ?_ GW238.out _ | refine keep_far ?_ GW239.out _ | refine keep_far ?_ GW241.out _) | exact HK.out)⟩, ⟨by repeat (first | (with_reducible first | exact HB.out | apply below_alloc | apply pw_below_drewN | apply below_drew1 | refine below_set ?_ (IsS81.ge HI0.out) | refine below_set ?_ GE238.out | refine below_set ?_ GE239.out | refine below_set ?_ GE241.out) | exact HB.out)⟩⟩
              ·rw [if_neg c90] at H
               clear c90
               by_cases c95 : x32_3 = 4
               ·rw [if_pos c95] at H
                subst c95
                replace H : ((impl_element_times.f ((rd_T102 s_ i_).f1.f4) x7_8).bind fun t259 => ((impl_element_minus.f x_08_3 t259).bind fun t260 => (impl_span_less.l1 k3 x7_8 s_ (s_.length : Int) i_ (wrap64 ((4 : Int) + 1)) t247 t248 t249 t250 x_04_3 x_05_3 x_06_3 x_07_3 t260 x_09_3 x_10_3 x_11_3 ((rd_T102 s_ i_).f0.f0) ((rd_T102 s_ i_).f0.f1) ((rd_T102 s_ i_).f0.f2) ((rd_T102 s_ i_).f0.f3) ((rd_T102 s_ i_).f1.f0) ((rd_T102 s_ i_).f1.f1) ((rd_T102 s_ i_).f1.f2) ((rd_T102 s_ i_).f1.f3) ((rd_T102 s_ i_).f1.f4) ((rd_T102 s_ i_).f1.f5) ((rd_T102 s_ i_).f1.f6) ((rd_T102 s_ i_).f1.f7)))) = some (r1, r2, r3, r4, r5, r6, r7, r8, r9, r10, r11, r12) := H
                replace H := Option.bind_eq_some_iff.mp H
                obtain ⟨t259, A960, H⟩ := H
                replace H : ((impl_element_minus.f x_08_3 t259).bind fun t260 => (impl_span_less.l1 k3 x7_8 s_ (s_.length : Int) i_ (wrap64 ((4 : Int) + 1)) t247 t248 t249 t250 x_04_3 x_05_3 x_06_3 x_07_3 t260 x_09_3 x_10_3 x_11_3 ((rd_T102 s_ i_).f0.f0) ((rd_T102 s_ i_).f0.f1) ((rd_T102 s_ i_).f0.f2) ((rd_T102 s_ i_).f0.f3) ((rd_T102 s_ i_).f1.f0) ((rd_T102 s_ i_).f1.f1) ((rd_T102 s_ i_).f1.f2) ((rd_T102 s_ i_).f1.f3) ((rd_T102 s_ i_).f1.f4) ((rd_T102 s_ i_).f1.f5) ((rd_T102 s_ i_).f1.f6) ((rd_T102 s_ i_).f1.f7))) = some (r1, r2, r3, r4, r5, r6, r7, r8, r9, r10, r11, r12) := H
                have A96 := Aside0.mk A960
                clear A960
                replace H := Option.bind_eq_some_iff.mp H
                obtain ⟨t260, A970, H⟩ := H
                replace H : (impl_span_less.l1 k3 x7_8 s_ (s_.length : Int) i_ (wrap64 ((4 : Int) + 1)) t247 t248 t249 t250 x_04_3 x_05_3 x_06_3 x_07_3 t260 x_09_3 x_10_3 x_11_3 ((rd_T102 s_ i_).f0.f0) ((rd_T102 s_ i_).f0.f1) ((rd_T102 s_ i_).f0.f2) ((rd_T102 s_ i_).f0.f3) ((rd_T102 s_ i_).f1.f0) ((rd_T102 s_ i_).f1.f1) ((rd_T102 s_ i_).f1.f2) ((rd_T102 s_ i_).f1.f3) ((rd_T102 s_ i_).f1.f4) ((rd_T102 s_ i_).f1.f5) ((rd_T102 s_ i_).f1.f6) ((rd_T102 s_ i_).f1.f7)) = some (r1, r2, r3, r4, r5, r6, r7, r8, r9, r10, r11, r12) := H
                have A97 := Aside0.mk A970
                clear A970
                have H' := Aside0.mk H
                clear H
                try go_wp2
                have n0_ := Aside0.mk (blk_drew BK238.out)
                have n1_ := Aside0.mk (blk_drew BK239.out)
                have n2_ := Aside0.mk (blk_drew BK241.out)
                have n3_ := Aside0.mk (IsS81.drew HI0.out)
                have n4_ := Aside0.mk (keep_drew HK.out)
                have n5_ := Aside0.mk (below_drew1 HB.out)
                clear BK238
                clear BK239
                clear BK241
                clear HI0
                clear HK
                clear HB
                have BK238 := n0_
                have BK239 := n1_
                have BK241 := n2_
                have HI0 := n3_
                have HK := n4_
                have HB := n5_
                clear n0_ n1_ n2_ n3_ n4_ n5_
                refine start_ (n := 15) (S := fun w' => w'.cell? ⟨gb238, 8, none⟩ = some (.int .i64 x_08_3) ∧ w'.cell? ⟨gb241, 8, none⟩ = some (.int .i64 ((rd_T102 s_ i_).f1.f4))) (ds := [14]) #[false, false, false, false, false, false, false, false, false, false, false, false, false, false, false] (by kernel_rfl) rfl rfl ⟨bA8 BK238 rfl, bA8 BK241 rfl⟩ (fun hHeld => ?_); refine with_tabW impl_span_less.tab9 impl_span_less.bits9 (fun HT_ HW_ => ?_)
                generalize wr.drew = w98 at BK238 BK239 BK241 HI0 HK HB hHeld ⊢
                refine pure_ (i := 0) (N := some 35) (v := ?_) (a' := ?_) #[true, false, false, false, false, false, false, false, false, false, false, false, false, false, false] rfl rfl (any_of HT_.out (by kernel_rfl)) (fun _ _ _ h => h) (Or.inl ⟨by rfl, ?_⟩) ?_ ?_
                rotate_left
                ·intro w'
                 go_simp
                 with_reducible rfl
                rotate_left
                ·simp only [Act.put, List.setIfInBounds_toArray, List.set_cons_zero, List.set_cons_succ, i64_w, i32_w]
                 rfl
                refine pure_ (i := 1) (N := some 36) (v := ?_) (a' := ?_) #[true, true, false, false, false, false, false, false, false, false, false, false, false, false, false] rfl rfl (any_of HT_.out (by kernel_rfl)) (fun _ _ _ h => h) (Or.inl ⟨by rfl, ?_⟩) ?_ ?_
                rotate_left
                ·intro w'
                 go_simp
                 with_reducible rfl
                rotate_left
                ·simp only [Act.put, List.setIfInBounds_toArray, List.set_cons_zero, List.set_cons_succ, i64_w, i32_w]
                 rfl
                refine pure_ (i := 2) (N := some 37) (v := ?_) (a' := ?_) #[true, true, true, false, false, false, false, false, false, false, false, false, false, false, false] rfl rfl (any_of HT_.out (by kernel_rfl)) (fun _ _ _ h => h) (Or.inl ⟨by rfl, ?_⟩) ?_ ?_
                rotate_left
                ·intro w'
                 go_simp
                 with_reducible rfl
                rotate_left
                ·simp only [Act.put, List.setIfInBounds_toArray, List.set_cons_zero, List.set_cons_succ, i64_w, i32_w]
                 rfl
                refine pure_ (i := 3) (N := some 38) (v := ?_) (a' := ?_) #[true, true, true, true, false, false, false, false, false, false, false, false, false, false, false] rfl rfl (any_of HT_.out (by kernel_rfl)) (fun _ _ _ h => h) (Or.inl ⟨by rfl, ?_⟩) ?_ ?_
                rotate_left
                ·intro w'
                 go_simp
                 with_reducible rfl
                rotate_left
                ·simp only [Act.put, List.setIfInBounds_toArray, List.set_cons_zero, List.set_cons_succ, i64_w, i32_w]
                 rfl
                refine pure_ (i := 5) (N := some 40) (v := ?_) (a' := ?_) #[true, true, true, true, false, true, false, false, false, false, false, false, false, false, false] rfl rfl (any_of HT_.out (by kernel_rfl)) (fun _ _ _ h => h) (Or.inl ⟨by rfl, ?_⟩) ?_ ?_
                rotate_left
                ·intro w'
                 go_simp
                 with_reducible rfl
                rotate_left
                ·simp only [Act.put, List.setIfInBounds_toArray, List.set_cons_zero, List.set_cons_succ, i64_w, i32_w]
                 rfl
                refine pure_ (i := 6) (N := some 41) (v := ?_) (a' := ?_) #[true, true, true, true, false, true, true, false, false, false, false, false, false, false, false] rfl rfl (any_of HT_.out (by kernel_rfl)) (fun _ _ _ h => h) (Or.inl ⟨by rfl, ?_⟩) ?_ ?_
                rotate_left
                ·intro w'
                 go_simp
                 with_reducible rfl
                rotate_left
                ·simp only [Act.put, List.setIfInBounds_toArray, List.set_cons_zero, List.set_cons_succ, i64_w, i32_w]
                 rfl
                refine pure_ (i := 7) (N := some 42) (v := ?_) (a' := ?_) #[true, true, true, true, false, true, true, true, false, false, false, false, false, false, false] rfl rfl (any_of HT_.out (by kernel_rfl)) (fun _ _ _ h => h) (Or.inl ⟨by rfl, ?_⟩) ?_ ?_
                rotate_left
                ·intro w'
                 go_simp
                 with_reducible rfl
                rotate_left
                ·simp only [Act.put, List.setIfInBounds_toArray, List.set_cons_zero, List.set_cons_succ, i64_w, i32_w]
                 rfl
                refine pure_ (i := 9) (N := some 44) (v := ?_) (a' := ?_) #[true, true, true, true, false, true, true, true, false, true, false, false, false, false, false] rfl rfl (any_of HT_.out (by kernel_rfl)) (fun _ _ _ h => h) (Or.inl ⟨by rfl, ?_⟩) ?_ ?_
                rotate_left
                ·intro w'
                 go_simp
                 with_reducible rfl
                rotate_left
                ·simp only [Act.put, List.setIfInBounds_toArray, List.set_cons_zero, List.set_cons_succ, i64_w, i32_w]
                 rfl
                refine pure_ (i := 12) (N := some 47) (v := ?_) (a' := ?_) #[true, true, true, true, false, true, true, true, false, true, false, false, true, false, false] rfl rfl (any_of HT_.out (by kernel_rfl)) (fun _ _ _ h => h) (Or.inl ⟨by rfl, ?_⟩) ?_ ?_
                rotate_left
                ·intro w'
                 go_simp
                 with_reducible rfl
                rotate_left
                ·simp only [Act.put, List.setIfInBounds_toArray, List.set_cons_zero, List.set_cons_succ, i64_w, i32_w]
                 rfl
                refine take_ (i := 4) (N := some 39) (v := ?_) (a' := ?_) #[true, true, true, true, true, true, true, true, false, true, false, false, true, false, false] rfl rfl (take_ofW HT_.out HW_.out (by kernel_rfl)) (fun _ _ _ h => h) (Or.inl ⟨by rfl, ?_⟩) hHeld ?_ ?_
                rotate_left
                ·rintro w' ⟨s0, s1⟩
                 go_simp
                 with_reducible rfl
                rotate_left
                ·simp only [Act.put, List.setIfInBounds_toArray, List.set_cons_zero, List.set_cons_succ, i64_w, i32_w]
                 rfl
                refine take_ (i := 8) (N := some 43) (v := ?_) (a' := ?_) #[true, true, true, true, true, true, true, true, true, true, false, false, true, false, false] rfl rfl (take_ofW HT_.out HW_.out (by kernel_rfl)) (fun _ _ _ h => h) (Or.inl ⟨by rfl, ?_⟩) hHeld ?_ ?_
                rotate_left
                ·rintro w' ⟨s0, s1⟩
                 go_simp
                 with_reducible rfl
                rotate_left
                ·simp only [Act.put, List.setIfInBounds_toArray, List.set_cons_zero, List.set_cons_succ, i64_w, i32_w]
                 rfl
                refine one_ (i := 10) (N := some 45) #[true, true, true, true, true, true, true, true, true, true, true, false, true, false, false] rfl rfl (one_of HT_.out (by kernel_rfl)) (by decide) (fun K hK => ?_)
                refine goes_ Try.func104 (by kernel_rfl) rfl #[.int .i64 ((rd_T102 s_ i_).f1.f4), .int .i64 x7_8] (by rfl) rfl rfl (by (try simp only [List.map_toArray, List.map_cons, List.map_nil]); first | done | rfl | (simp only [List.length_drop, List.length_take]; rfl)) ?_
                with_reducible refine (impl_element_times.calls ((rd_T102 s_ i_).f1.f4) x7_8 t259 _ A96.out).mono ?_
                rintro e w' ⟨rfl, ⟨nd, rfl⟩⟩
                refine ⟨_, rfl, ?_⟩
                refine hK.out _ _ ⟨bA8 BK238 rfl, bA8 BK241 rfl⟩ (fun hHeld => ?_)
                clear hK K
                refine norm_ (a' := ?_) ?_ ?_
                rotate_left
                ·show Act.put _ (some 45) _ = _
                 simp only [Act.put, List.setIfInBounds_toArray, List.set_cons_zero, List.set_cons_succ, i64_w, i32_w]
                 rfl
                refine one_ (i := 11) (N := some 46) #[true, true, true, true, true, true, true, true, true, true, true, true, true, false, false] rfl rfl (one_of HT_.out (by kernel_rfl)) (by decide) (fun K hK => ?_)
                refine goes_ Try.func127 (by kernel_rfl) rfl #[.int .i64 x_08_3, .int .i64 t259] (by rfl) rfl rfl (by (try simp only [List.map_toArray, List.map_cons, List.map_nil]); first | done | rfl | (simp only [List.length_drop, List.length_take]; rfl)) ?_
                with_reducible refine (impl_element_minus.calls x_08_3 t259 t260 _ A97.out).mono ?_
                rintro e w' ⟨rfl, ⟨nd, rfl⟩⟩
                refine ⟨_, rfl, ?_⟩
                refine hK.out _ _ ⟨bA8 BK238 rfl, bA8 BK241 rfl⟩ (fun hHeld => ?_)
                clear hK K
                refine norm_ (a' := ?_) ?_ ?_
                rotate_left
                ·show Act.put _ (some 46) _ = _
                 simp only [Act.put, List.setIfInBounds_toArray, List.set_cons_zero, List.set_cons_succ, i64_w, i32_w]
                 rfl
                refine pure_ (i := 13) (N := some 48) (v := ?_) (a' := ?_) #[true, true, true, true, true, true, true, true, true, true, true, true, true, true, false] rfl rfl (any_of HT_.out (by kernel_rfl)) (fun _ _ _ h => h) (Or.inl ⟨by rfl, ?_⟩) ?_ ?_
                rotate_left
                ·intro w'
                 go_simp
                 with_reducible rfl
                rotate_left
                ·simp only [Act.put, List.setIfInBounds_toArray, List.set_cons_zero, List.set_cons_succ, i64_w, i32_w]
                 rfl
                refine last_ (i := 14) (N := none) #[true, true, true, true, true, true, true, true, true, true, true, true, true, true, true] rfl rfl (one_of HT_.out (by kernel_rfl)) (by decide) (fun K hK => ?_)
                have hs99 : w98.cell? ⟨gb238, 8, none⟩ = some (.int .i64 x_08_3) := bA8 BK238 rfl
                have hfs99 := blk_frozen BK238.out 8
                have hns99_1 := NB239_238.out
                have hns99_2 := NB241_238.out
                have hms99_1 := NB238_239.out
                have hms99_2 := NB238_241.out
                refine skip_ (w1 := ?_) (by rfl) rfl ?_ ?_
                rotate_left
                ·go_simp
                 rfl
                refine hK.out _ _ ?_
                clear hK K
                refine done_ (done_of HT_.out (by kernel_rfl)) ?_
                try go_wp2
                go_roundg k3
                case measure => have := HK1.out; have := HJ8.out; have := HK3.out; omega
                case rel => exact ⟨(wrap64 ((4 : Int) + 1)), (x_04_3), (x_05_3), (x_06_3), (x_07_3), (t260), (x_09_3), (x_10_3), (x_11_3), (by first | rfl | (simp; done) | (simp [*]; done) | (simp; unfold wrap64; omega)), H', ⟨by have := HK1.out; have := HJ8.out; have := HK3.out; omega⟩, ⟨by (with_reducible repeat first|refine blk_drewN ?_ _|refine blk_drew ?_|refine blk_alloc ?_ _); refine blk_put (cs := #[.int .i64 t247, .int .i64 t248, .int .i64 t249, .int .i64 t250, .int .i64 x_04_3, .int .i64 x_05_3, .int .i64 x_06_3, .int .i64 x_07_3, .int .i64 x_08_3, .int .i64 x_09_3, .int .i64 x_10_3, .int .i64 x_11_3]) ?_ 8 _ rfl; (with_reducible repeat first|refine blk_drewN ?_ _|refine blk_drew ?_|refine blk_alloc ?_ _); exact BK238.out⟩, ⟨by (with_reducible repeat first|refine blk_drewN ?_ _|refine blk_drew ?_|refine blk_alloc ?_ _); refine blk_far ?_ NB239_238.out _; (with_reducible repeat first|refine blk_drewN ?_ _|refine blk_drew ?_|refine blk_alloc ?_ _); exact BK239.out⟩, ⟨by (with_reducible repeat first|refine blk_drewN ?_ _|refine blk_drew ?_|refine blk_alloc ?_ _); refine blk_far ?_ NB241_238.out _; (with_reducible repeat first|refine blk_drewN ?_ _|refine blk_drew ?_|refine blk_alloc ?_ _); exact BK241.out⟩, ⟨by repeat (first | (with_reducible first | exact HI0.out | apply IsS81.alloc | apply IsS81.drewN | apply IsS81.drew | refine IsS81.far ?_ NB0_238.out _ | refine IsS81.far ?_ NB0_239.out _ | refine IsS81.far ?_ NB0_241.out _) | exact HI0.out)⟩, ⟨by repeat (first | (with_reducible first | exact HK.out | apply KeepBut.set_ | apply keep_drewN | apply keep_drew | apply keep_alloc | refine keep_far ?_ GW238.out _ | refine keep_far ?_ GW239.out _ | refine keep_far ?_ GW241.out _) | exact HK.out)⟩, ⟨by repeat (first | (with_reducible first | exact HB.out | apply below_alloc | apply pw_below_drewN | apply below_drew1 | refine below_set ?_ (IsS81.ge HI0.out) | refine below_set ?_ GE238.out | refine below_set ?_ GE239.out | refine below_set ?_ GE241.out) | exact HB.out)⟩⟩
               ·rw [if_neg c95] at H
                clear c95
                by_cases c100 : x32_3 = 5
                ·rw [if_pos c100] at H
                 subst c100
                 replace H : ((impl_element_times.f ((rd_T102 s_ i_).f1.f5) x7_8).bind fun t261 => ((impl_element_minus.f x_09_3 t261).bind fun t262 => (impl_span_less.l1 k3 x7_8 s_ (s_.length : Int) i_ (wrap64 ((5 : Int) + 1)) t247 t248 t249 t250 x_04_3 x_05_3 x_06_3 x_07_3 x_08_3 t262 x_10_3 x_11_3 ((rd_T102 s_ i_).f0.f0) ((rd_T102 s_ i_).f0.f1) ((rd_T102 s_ i_).f0.f2) ((rd_T102 s_ i_).f0.f3) ((rd_T102 s_ i_).f1.f0) ((rd_T102 s_ i_).f1.f1) ((rd_T102 s_ i_).f1.f2) ((rd_T102 s_ i_).f1.f3) ((rd_T102 s_ i_).f1.f4) ((rd_T102 s_ i_).f1.f5) ((rd_T102 s_ i_).f1.f6) ((rd_T102 s_ i_).f1.f7)))) = some (r1, r2, r3, r4, r5, r6, r7, r8, r9, r10, r11, r12) := H
                 replace H := Option.bind_eq_some_iff.mp H
                 obtain ⟨t261, A1010, H⟩ := H
                 replace H : ((impl_element_minus.f x_09_3 t261).bind fun t262 => (impl_span_less.l1 k3 x7_8 s_ (s_.length : Int) i_ (wrap64 ((5 : Int) + 1)) t247 t248 t249 t250 x_04_3 x_05_3 x_06_3 x_07_3 x_08_3 t262 x_10_3 x_11_3 ((rd_T102 s_ i_).f0.f0) ((rd_T102 s_ i_).f0.f1) ((rd_T102 s_ i_).f0.f2) ((rd_T102 s_ i_).f0.f3) ((rd_T102 s_ i_).f1.f0) ((rd_T102 s_ i_).f1.f1) ((rd_T102 s_ i_).f1.f2) ((rd_T102 s_ i_).f1.f3) ((rd_T102 s_ i_).f1.f4) ((rd_T102 s_ i_).f1.f5) ((rd_T102 s_ i_).f1.f6) ((rd_T102 s_ i_).f1.f7))) = some (r1, r2, r3, r4, r5, r6, r7, r8, r9, r10, r11, r12) := H
                 have A101 := Aside0.mk A1010
                 clear A1010
                 replace H := Option.bind_eq_some_iff.mp H
                 obtain ⟨t262, A1020, H⟩ := H
                 replace H : (impl_span_less.l1 k3 x7_8 s_ (s_.length : Int) i_ (wrap64 ((5 : Int) + 1)) t247 t248 t249 t250 x_04_3 x_05_3 x_06_3 x_07_3 x_08_3 t262 x_10_3 x_11_3 ((rd_T102 s_ i_).f0.f0) ((rd_T102 s_ i_).f0.f1) ((rd_T102 s_ i_).f0.f2) ((rd_T102 s_ i_).f0.f3) ((rd_T102 s_ i_).f1.f0) ((rd_T102 s_ i_).f1.f1) ((rd_T102 s_ i_).f1.f2) ((rd_T102 s_ i_).f1.f3) ((rd_T102 s_ i_).f1.f4) ((rd_T102 s_ i_).f1.f5) ((rd_T102 s_ i_).f1.f6) ((rd_T102 s_ i_).f1.f7)) = some (r1, r2, r3, r4, r5, r6, r7, r8, r9, r10, r11, r12) := H
                 have A102 := Aside0.mk A1020
                 clear A1020
                 have H' := Aside0.mk H
                 clear H
                 try go_wp2
                 have n0_ := Aside0.mk (blk_drew BK238.out)
                 have n1_ := Aside0.mk (blk_drew BK239.out)
                 have n2_ := Aside0.mk (blk_drew BK241.out)
                 have n3_ := Aside0.mk (IsS81.drew HI0.out)
                 have n4_ := Aside0.mk (keep_drew HK.out)
                 have n5_ := Aside0.mk (below_drew1 HB.out)
                 clear BK238
                 clear BK239
                 clear BK241
                 clear HI0
                 clear HK
                 clear HB
                 have BK238 := n0_
                 have BK239 := n1_
                 have BK241 := n2_
                 have HI0 := n3_
                 have HK := n4_
                 have HB := n5_
                 clear n0_ n1_ n2_ n3_ n4_ n5_
                 refine start_ (n := 15) (S := fun w' => w'.cell? ⟨gb238, 9, none⟩ = some (.int .i64 x_09_3) ∧ w'.cell? ⟨gb241, 9, none⟩ = some (.int .i64 ((rd_T102 s_ i_).f1.f5))) (ds := [14]) #[false, false, false, false, false, false, false, false, false, false, false, false, false, false, false] (by kernel_rfl) rfl rfl ⟨bA8 BK238 rfl, bA8 BK241 rfl⟩ (fun hHeld => ?_); refine with_tabW impl_span_less.tab9 impl_span_less.bits9 (fun HT_ HW_ => ?_)
                 generalize wr.drew = w103 at BK238 BK239 BK241 HI0 HK HB hHeld ⊢
                 refine pure_ (i := 0) (N := some 35) (v := ?_) (a' := ?_) #[true, false, false, false, false, false, false, false, false, false, false, false, false, false, false] rfl rfl (any_of HT_.out (by kernel_rfl)) (fun _ _ _ h => h) (Or.inl ⟨by rfl, ?_⟩) ?_ ?_
                 rotate_left
                 ·intro w'
                  go_simp
                  with_reducible rfl
                 rotate_left
                 ·simp only [Act.put, List.setIfInBounds_toArray, List.set_cons_zero, List.set_cons_succ, i64_w, i32_w]
                  rfl
                 refine pure_ (i := 1) (N := some 36) (v := ?_) (a' := ?_) #[true, true, false, false, false, false, false, false, false, false, false, false, false, false, false] rfl rfl (any_of HT_.out (by kernel_rfl)) (fun _ _ _ h => h) (Or.inl ⟨by rfl, ?_⟩) ?_ ?_
                 rotate_left
                 ·intro w'
                  go_simp
                  with_reducible rfl
                 rotate_left
                 ·simp only [Act.put, List.setIfInBounds_toArray, List.set_cons_zero, List.set_cons_succ, i64_w, i32_w]
                  rfl
                 refine pure_ (i := 2) (N := some 37) (v := ?_) (a' := ?_) #[true, true, true, false, false, false, false, false, false, false, false, false, false, false, false] rfl rfl (any_of HT_.out (by kernel_rfl)) (fun _ _ _ h => h) (Or.inl ⟨by rfl, ?_⟩) ?_ ?_
                 rotate_left
                 ·intro w'
                  go_simp
                  with_reducible rfl
                 rotate_left
                 ·simp only [Act.put, List.setIfInBounds_toArray, List.set_cons_zero, List.set_cons_succ, i64_w, i32_w]
                  rfl
                 refine pure_ (i := 3) (N := some 38) (v := ?_) (a' := ?_) #[true, true, true, true, false, false, false, false, false, false, false, false, false, false, false] rfl rfl (any_of HT_.out (by kernel_rfl)) (fun _ _ _ h => h) (Or.inl ⟨by rfl, ?_⟩) ?_ ?_
                 rotate_left
                 ·intro w'
                  go_simp
                  with_reducible rfl
                 rotate_left
                 ·simp only [Act.put, List.setIfInBounds_toArray, List.set_cons_zero, List.set_cons_succ, i64_w, i32_w]
                  rfl
                 refine pure_ (i := 5) (N := some 40) (v := ?_) (a' := ?_) #[true, true, true, true, false, true, false, false, false, false, false, false, false, false, false] rfl rfl (any_of HT_.out (by kernel_rfl)) (fun _ _ _ h => h) (Or.inl ⟨by rfl, ?_⟩) ?_ ?_
                 rotate_left
                 ·intro w'
                  go_simp
                  with_reducible rfl
                 rotate_left
                 ·simp only [Act.put, List.setIfInBounds_toArray, List.set_cons_zero, List.set_cons_succ, i64_w, i32_w]
                  rfl
                 refine pure_ (i := 6) (N := some 41) (v := ?_) (a' := ?_) #[true, true, true, true, false, true, true, false, false, false, false, false, false, false, false] rfl rfl (any_of HT_.out (by kernel_rfl)) (fun _ _ _ h => h) (Or.inl ⟨by rfl, ?_⟩) ?_ ?_
                 rotate_left
                 ·intro w'
                  go_simp
                  with_reducible rfl
                 rotate_left
                 ·simp only [Act.put, List.setIfInBounds_toArray, List.set_cons_zero, List.set_cons_succ, i64_w, i32_w]
                  rfl
                 refine pure_ (i := 7) (N := some 42) (v := ?_) (a' := ?_) #[true, true, true, true, false, true, true, true, false, false, false, false, false, false, false] rfl rfl (any_of HT_.out (by kernel_rfl)) (fun _ _ _ h => h) (Or.inl ⟨by rfl, ?_⟩) ?_ ?_
                 rotate_left
                 ·intro w'
                  go_simp
                  with_reducible rfl
                 rotate_left
                 ·simp only [Act.put, List.setIfInBounds_toArray, List.set_cons_zero, List.set_cons_succ, i64_w, i32_w]
                  rfl
                 refine pure_ (i := 9) (N := some 44) (v := ?_) (a' := ?_) #[true, true, true, true, false, true, true, true, false, true, false, false, false, false, false] rfl rfl (any_of HT_.out (by kernel_rfl)) (fun _ _ _ h => h) (Or.inl ⟨by rfl, ?_⟩) ?_ ?_
                 rotate_left
                 ·intro w'
                  go_simp
                  with_reducible rfl
                 rotate_left
                 ·simp only [Act.put, List.setIfInBounds_toArray, List.set_cons_zero, List.set_cons_succ, i64_w, i32_w]
                  rfl
                 refine pure_ (i := 12) (N := some 47) (v := ?_) (a' := ?_) #[true, true, true, true, false, true, true, true, false, true, false, false, true, false, false] rfl rfl (any_of HT_.out (by kernel_rfl)) (fun _ _ _ h => h) (Or.inl ⟨by rfl, ?_⟩) ?_ ?_
                 rotate_left
                 ·intro w'
                  go_simp
                  with_reducible rfl
                 rotate_left
                 ·simp only [Act.put, List.setIfInBounds_toArray, List.set_cons_zero, List.set_cons_succ, i64_w, i32_w]
                  rfl
                 refine take_ (i := 4) (N := some 39) (v := ?_) (a' := ?_) #[true, true, true, true, true, true, true, true, false, true, false, false, true, false, false] rfl rfl (take_ofW HT_.out HW_.out (by kernel_rfl)) (fun _ _ _ h => h) (Or.inl ⟨by rfl, ?_⟩) hHeld ?_ ?_
                 rotate_left
                 ·rintro w' ⟨s0, s1⟩
                  go_simp
                  with_reducible rfl
                 rotate_left
                 ·simp only [Act.put, List.setIfInBounds_toArray, List.set_cons_zero, List.set_cons_succ, i64_w, i32_w]
                  rfl
                 refine take_ (i := 8) (N := some 43) (v := ?_) (a' := ?_) #[true, true, true, true, true, true, true, true, true, true, false, false, true, false, false] rfl rfl (take_ofW HT_.out HW_.out (by kernel_rfl)) (fun _ _ _ h => h) (Or.inl ⟨by rfl, ?_⟩) hHeld ?_ ?_
                 rotate_left
                 ·rintro w' ⟨s0, s1⟩
                  go_simp
                  with_reducible rfl
                 rotate_left
                 ·simp only [Act.put, List.setIfInBounds_toArray, List.set_cons_zero, List.set_cons_succ, i64_w, i32_w]
                  rfl
                 refine one_ (i := 10) (N := some 45) #[true, true, true, true, true, true, true, true, true, true, true, false, true, false, false] rfl rfl (one_of HT_.out (by kernel_rfl)) (by decide) (fun K hK => ?_)
                 refine goes_ Try.func104 (by kernel_rfl) rfl #[.int .i64 ((rd_T102 s_ i_).f1.f5), .int .i64 x7_8] (by rfl) rfl rfl (by (try simp only [List.map_toArray, List.map_cons, List.map_nil]); first | done | rfl | (simp only [List.length_drop, List.length_take]; rfl)) ?_
                 with_reducible refine (impl_element_times.calls ((rd_T102 s_ i_).f1.f5) x7_8 t261 _ A101.out).mono ?_
                 rintro e w' ⟨rfl, ⟨nd, rfl⟩⟩
                 refine ⟨_, rfl, ?_⟩
                 refine hK.out _ _ ⟨bA8 BK238 rfl, bA8 BK241 rfl⟩ (fun hHeld => ?_)
                 clear hK K
                 refine norm_ (a' := ?_) ?_ ?_
                 rotate_left
                 ·show Act.put _ (some 45) _ = _
                  simp only [Act.put, List.setIfInBounds_toArray, List.set_cons_zero, List.set_cons_succ, i64_w, i32_w]
                  rfl
                 refine one_ (i := 11) (N := some 46) #[true, true, true, true, true, true, true, true, true, true, true, true, true, false, false] rfl rfl (one_of HT_.out (by kernel_rfl)) (by decide) (fun K hK => ?_)
                 refine goes_ Try.func127 (by kernel_rfl) rfl #[.int .i64 x_09_3, .int .i64 t261] (by rfl) rfl rfl (by (try simp only [List.map_toArray, List.map_cons, List.map_nil]); first | done | rfl | (simp only [List.length_drop, List.length_take]; rfl)) ?_
                 with_reducible refine (impl_element_minus.calls x_09_3 t261 t262 _ A102.out).mono ?_
                 rintro e w' ⟨rfl, ⟨nd, rfl⟩⟩
                 refine ⟨_, rfl, ?_⟩
                 refine hK.out _ _ ⟨bA8 BK238 rfl, bA8 BK241 rfl⟩ (fun hHeld => ?_)
                 clear hK K
                 refine norm_ (a' := ?_) ?_ ?_
                 rotate_left
                 ·show Act.put _ (some 46) _ = _
                  simp only [Act.put, List.setIfInBounds_toArray, List.set_cons_zero, List.set_cons_succ, i64_w, i32_w]
                  rfl
                 refine pure_ (i := 13) (N := some 48) (v := ?_) (a' := ?_) #[true, true, true, true, true, true, true, true, true, true, true, true, true, true, false] rfl rfl (any_of HT_.out (by kernel_rfl)) (fun _ _ _ h => h) (Or.inl ⟨by rfl, ?_⟩) ?_ ?_
                 rotate_left
                 ·intro w'
                  go_simp
                  with_reducible rfl
                 rotate_left
                 ·simp only [Act.put, List.setIfInBounds_toArray, List.set_cons_zero, List.set_cons_succ, i64_w, i32_w]
                  rfl
                 refine last_ (i := 14) (N := none) #[true, true, true, true, true, true, true, true, true, true, true, true, true, true, true] rfl rfl (one_of HT_.out (by kernel_rfl)) (by decide) (fun K hK => ?_)
                 have hs104 : w103.cell? ⟨gb238, 9, none⟩ = some (.int .i64 x_09_3) := bA8 BK238 rfl
                 have hfs104 := blk_frozen BK238.out 9
                 have hns104_1 := NB239_238.out
                 have hns104_2 := NB241_238.out
                 have hms104_1 := NB238_239.out
                 have hms104_2 := NB238_241.out
                 refine skip_ (w1 := ?_) (by rfl) rfl ?_ ?_
                 rotate_left
                 ·go_simp
                  rfl
                 refine hK.out _ _ ?_
                 clear hK K
                 refine done_ (done_of HT_.out (by kernel_rfl)) ?_
                 try go_wp2
                 go_roundg k3
                 case measure => have := HK1.out; have := HJ8.out; have := HK3.out; omega
                 case rel => exact ⟨(wrap64 ((5 : Int) + 1)), (x_04_3), (x_05_3), (x_06_3), (x_07_3), (x_08_3), (t262), (x_10_3), (x_11_3), (by first | rfl | (simp; done) | (simp [*]; done) | (simp; unfold wrap64; omega)), H', ⟨by have := HK1.out; have := HJ8.out; have := HK3.out; omega⟩, ⟨by (with_reducible repeat first|refine blk_drewN ?_ _|refine blk_drew ?_|refine blk_alloc ?_ _); refine blk_put (cs := #[.int .i64 t247, .int .i64 t248, .int .i64 t249, .int .i64 t250, .int .i64 x_04_3, .int .i64 x_05_3, .int .i64 x_06_3, .int .i64 x_07_3, .int .i64 x_08_3, .int .i64 x_09_3, .int .i64 x_10_3, .int .i64 x_11_3]) ?_ 9 _ rfl; (with_reducible repeat first|refine blk_drewN ?_ _|refine blk_drew ?_|refine blk_alloc ?_ _); exact BK238.out⟩, ⟨by (with_reducible repeat first|refine blk_drewN ?_ _|refine blk_drew ?_|refine blk_alloc ?_ _); refine blk_far ?_ NB239_238.out _; (with_reducible repeat first|refine blk_drewN ?_ _|refine blk_drew ?_|refine blk_alloc ?_ _); exact BK239.out⟩, ⟨by (with_reducible repeat first|refine blk_drewN ?_ _|refine blk_drew ?_|refine blk_alloc ?_ _); refine blk_far ?_ NB241_238.out _; (with_reducible repeat first|refine blk_drewN ?_ _|refine blk_drew ?_|refine blk_alloc ?_ _); exact BK241.out⟩, ⟨by repeat (first | (with_reducible first | exact HI0.out | apply IsS81.alloc | apply IsS81.drewN | apply IsS81.drew | refine IsS81.far ?_ NB0_238.out _ | refine IsS81.far ?_ NB0_239.out _ | refine IsS81.far ?_ NB0_241.out _) | exact HI0.out)⟩, ⟨by repeat (first | (with_reducible first | exact HK.out | apply KeepBut.set_ | apply keep_drewN | apply keep_drew | apply keep_alloc | refine keep_far ?_ GW238.out _ | refine keep_far ?_ GW239.out _ | refine keep_far ?_ GW241.out _) | exact HK.out)⟩, ⟨by repeat (first | (with_reducible first | exact HB.out | apply below_alloc | apply pw_below_drewN | apply below_drew1 | refine below_set ?_ (IsS81.ge HI0.out) | refine below_set ?_ GE238.out | refine below_set ?_ GE239.out | refine below_set ?_ GE241.out) | exact HB.out)⟩⟩
                ·rw [if_neg c100] at H
                 clear c100
                 by_cases c105 : x32_3 = 6
                 ·rw [if_pos c105] at H
                  subst c105
                  replace H : ((impl_element_times.f ((rd_T102 s_ i_).f1.f6) x7_8).bind fun t263 => ((impl_element_minus.f x_10_3 t263).bind fun t264 => (impl_span_less.l1 k3 x7_8 s_ (s_.length : Int) i_ (wrap64 ((6 : Int) + 1)) t247 t248 t249 t250 x_04_3 x_05_3 x_06_3 x_07_3 x_08_3 x_09_3 t264 x_11_3 ((rd_T102 s_ i_).f0.f0) ((rd_T102 s_ i_).f0.f1) ((rd_T102 s_ i_).f0.f2) ((rd_T102 s_ i_).f0.f3) ((rd_T102 s_ i_).f1.f0) ((rd_T102 s_ i_).f1.f1) ((rd_T102 s_ i_).f1.f2) ((rd_T102 s_ i_).f1.f3) ((rd_T102 s_ i_).f1.f4) ((rd_T102 s_ i_).f1.f5) ((rd_T102 s_ i_).f1.f6) ((rd_T102 s_ i_).f1.f7)))) = some (r1, r2, r3, r4, r5, r6, r7, r8, r9, r10, r11, r12) := H
                  replace H := Option.bind_eq_some_iff.mp H
                  obtain ⟨t263, A1060, H⟩ := H
                  replace H : ((impl_element_minus.f x_10_3 t263).bind fun t264 => (impl_span_less.l1 k3 x7_8 s_ (s_.length : Int) i_ (wrap64 ((6 : Int) + 1)) t247 t248 t249 t250 x_04_3 x_05_3 x_06_3 x_07_3 x_08_3 x_09_3 t264 x_11_3 ((rd_T102 s_ i_).f0.f0) ((rd_T102 s_ i_).f0.f1) ((rd_T102 s_ i_).f0.f2) ((rd_T102 s_ i_).f0.f3) ((rd_T102 s_ i_).f1.f0) ((rd_T102 s_ i_).f1.f1) ((rd_T102 s_ i_).f1.f2) ((rd_T102 s_ i_).f1.f3) ((rd_T102 s_ i_).f1.f4) ((rd_T102 s_ i_).f1.f5) ((rd_T102 s_ i_).f1.f6) ((rd_T102 s_ i_).f1.f7))) = some (r1, r2, r3, r4, r5, r6, r7, r8, r9, r10, r11, r12) := H
                  have A106 := Aside0.mk A1060
                  clear A1060
                  replace H := Option.bind_eq_some_iff.mp H
                  obtain ⟨t264, A1070, H⟩ := H
                  replace H : (impl_span_less.l1 k3 x7_8 s_ (s_.length : Int) i_ (wrap64 ((6 : Int) + 1)) t247 t248 t249 t250 x_04_3 x_05_3 x_06_3 x_07_3 x_08_3 x_09_3 t264 x_11_3 ((rd_T102 s_ i_).f0.f0) ((rd_T102 s_ i_).f0.f1) ((rd_T102 s_ i_).f0.f2) ((rd_T102 s_ i_).f0.f3) ((rd_T102 s_ i_).f1.f0) ((rd_T102 s_ i_).f1.f1) ((rd_T102 s_ i_).f1.f2) ((rd_T102 s_ i_).f1.f3) ((rd_T102 s_ i_).f1.f4) ((rd_T102 s_ i_).f1.f5) ((rd_T102 s_ i_).f1.f6) ((rd_T102 s_ i_).f1.f7)) = some (r1, r2, r3, r4, r5, r6, r7, r8, r9, r10, r11, r12) := H
                  have A107 := Aside0.mk A1070
                  clear A1070
                  have H' := Aside0.mk H
                  clear H
                  try go_wp2
                  have n0_ := Aside0.mk (blk_drew BK238.out)
                  have n1_ := Aside0.mk (blk_drew BK239.out)
                  have n2_ := Aside0.mk (blk_drew BK241.out)
                  have n3_ := Aside0.mk (IsS81.drew HI0.out)
                  have n4_ := Aside0.mk (keep_drew HK.out)
                  have n5_ := Aside0.mk (below_drew1 HB.out)
                  clear BK238
                  clear BK239
                  clear BK241
                  clear HI0
                  clear HK
                  clear HB
                  have BK238 := n0_
                  have BK239 := n1_
                  have BK241 := n2_
                  have HI0 := n3_
                  have HK := n4_
                  have HB := n5_
                  clear n0_ n1_ n2_ n3_ n4_ n5_
                  refine start_ (n := 15) (S := fun w' => w'.cell? ⟨gb238, 10, none⟩ = some (.int .i64 x_10_3) ∧ w'.cell? ⟨gb241, 10, none⟩ = some (.int .i64 ((rd_T102 s_ i_).f1.f6))) (ds := [14]) #[false, false, false, false, false, false, false, false, false, false, false, false, false, false, false] (by kernel_rfl) rfl rfl ⟨bA8 BK238 rfl, bA8 BK241 rfl⟩ (fun hHeld => ?_); refine with_tabW impl_span_less.tab9 impl_span_less.bits9 (fun HT_ HW_ => ?_)
                  generalize wr.drew = w108 at BK238 BK239 BK241 HI0 HK HB hHeld ⊢
                  refine pure_ (i := 0) (N := some 35) (v := ?_) (a' := ?_) #[true, false, false, false, false, false, false, false, false, false, false, false, false, false, false] rfl rfl (any_of HT_.out (by kernel_rfl)) (fun _ _ _ h => h) (Or.inl ⟨by rfl, ?_⟩) ?_ ?_
                  rotate_left
                  ·intro w'
                   go_simp
                   with_reducible rfl
                  rotate_left
                  ·simp only [Act.put, List.setIfInBounds_toArray, List.set_cons_zero, List.set_cons_succ, i64_w, i32_w]
                   rfl
                  refine pure_ (i := 1) (N := some 36) (v := ?_) (a' := ?_) #[true, true, false, false, false, false, false, false, false, false, false, false, false, false, false] rfl rfl (any_of HT_.out (by kernel_rfl)) (fun _ _ _ h => h) (Or.inl ⟨by rfl, ?_⟩) ?_ ?_
                  rotate_left
                  ·intro w'
                   go_simp
                   with_reducible rfl
                  rotate_left
                  ·simp only [Act.put, List.setIfInBounds_toArray, List.set_cons_zero, List.set_cons_succ, i64_w, i32_w]
                   rfl
                  refine pure_ (i := 2) (N := some 37) (v := ?_) (a' := ?_) #[true, true, true, false, false, false, false, false, false, false, false, false, false, false, false] rfl rfl (any_of HT_.out (by kernel_rfl)) (fun _ _ _ h => h) (Or.inl ⟨by rfl, ?_⟩) ?_ ?_
                  rotate_left
                  ·intro w'
                   go_simp
                   with_reducible rfl
                  rotate_left
                  ·simp only [Act.put, List.setIfInBounds_toArray, List.set_cons_zero, List.set_cons_succ, i64_w, i32_w]
                   rfl
                  refine pure_ (i := 3) (N := some 38) (v := ?_) (a' := ?_) #[true, true, true, true, false, false, false, false, false, false, false, false, false, false, false] rfl rfl (any_of HT_.out (by kernel_rfl)) (fun _ _ _ h => h) (Or.inl ⟨by rfl, ?_⟩) ?_ ?_
                  rotate_left
                  ·intro w'
                   go_simp
                   with_reducible rfl
                  rotate_left
                  ·simp only [Act.put, List.setIfInBounds_toArray, List.set_cons_zero, List.set_cons_succ, i64_w, i32_w]
                   rfl
                  refine pure_ (i := 5) (N := some 40) (v := ?_) (a' := ?_) #[true, true, true, true, false, true, false, false, false, false, false, false, false, false, false] rfl rfl (any_of HT_.out (by kernel_rfl)) (fun _ _ _ h => h) (Or.inl ⟨by rfl, ?_⟩) ?_ ?_
                  rotate_left
                  ·intro w'
                   go_simp
                   with_reducible rfl
                  rotate_left
                  ·simp only [Act.put, List.setIfInBounds_toArray, List.set_cons_zero, List.set_cons_succ, i64_w, i32_w]
                   rfl
                  refine pure_ (i := 6) (N := some 41) (v := ?_) (a' := ?_) #[true, true, true, true, false, true, true, false, false, false, false, false, false, false, false] rfl rfl (any_of HT_.out (by kernel_rfl)) (fun _ _ _ h => h) (Or.inl ⟨by rfl, ?_⟩) ?_ ?_
                  rotate_left
                  ·intro w'
                   go_simp
                   with_reducible rfl
                  rotate_left
                  ·simp only [Act.put, List.setIfInBounds_toArray, List.set_cons_zero, List.set_cons_succ, i64_w, i32_w]
                   rfl
                  refine pure_ (i := 7) (N := some 42) (v := ?_) (a' := ?_) #[true, true, true, true, false, true, true, true, false, false, false, false, false, false, false] rfl rfl (any_of HT_.out (by kernel_rfl)) (fun _ _ _ h => h) (Or.inl ⟨by rfl, ?_⟩) ?_ ?_
                  rotate_left
                  ·intro w'
                   go_simp
                   with_reducible rfl
                  rotate_left
                  ·simp only [Act.put, List.setIfInBounds_toArray, List.set_cons_zero, List.set_cons_succ, i64_w, i32_w]
                   rfl
                  refine pure_ (i := 9) (N := some 44) (v := ?_) (a' := ?_) #[true, true, true, true, false, true, true, true, false, true, false, false, false, false, false] rfl rfl (any_of HT_.out (by kernel_rfl)) (fun _ _ _ h => h) (Or.inl ⟨by rfl, ?_⟩) ?_ ?_
                  rotate_left
                  ·intro w'
                   go_simp
                   with_reducible rfl
                  rotate_left
                  ·simp only [Act.put, List.setIfInBounds_toArray, List.set_cons_zero, List.set_cons_succ, i64_w, i32_w]
                   rfl
                  refine pure_ (i := 12) (N := some 47) (v := ?_) (a' := ?_) #[true, true, true, true, false, true, true, true, false, true, false, false, true, false, false] rfl rfl (any_of HT_.out (by kernel_rfl)) (fun _ _ _ h => h) (Or.inl ⟨by rfl, ?_⟩) ?_ ?_
                  rotate_left
                  ·intro w'
                   go_simp
                   with_reducible rfl
                  rotate_left
                  ·simp only [Act.put, List.setIfInBounds_toArray, List.set_cons_zero, List.set_cons_succ, i64_w, i32_w]
                   rfl
                  refine take_ (i := 4) (N := some 39) (v := ?_) (a' := ?_) #[true, true, true, true, true, true, true, true, false, true, false, false, true, false, false] rfl rfl (take_ofW HT_.out HW_.out (by kernel_rfl)) (fun _ _ _ h => h) (Or.inl ⟨by rfl, ?_⟩) hHeld ?_ ?_
                  rotate_left
                  ·rintro w' ⟨s0, s1⟩
                   go_simp
                   with_reducible rfl
                  rotate_left
                  ·simp only [Act.put, List.setIfInBounds_toArray, List.set_cons_zero, List.set_cons_succ, i64_w, i32_w]
                   rfl
                  refine take_ (i := 8) (N := some 43) (v := ?_) (a' := ?_) #[true, true, true, true, true, true, true, true, true, true, false, false, true, false, false] rfl rfl (take_ofW HT_.out HW_.out (by kernel_rfl)) (fun _ _ _ h => h) (Or.inl ⟨by rfl, ?_⟩) hHeld ?_ ?_
                  rotate_left
                  ·rintro w' ⟨s0, s1⟩
                   go_simp
                   with_reducible rfl
                  rotate_left
                  ·simp only [Act.put, List.setIfInBounds_toArray, List.set_cons_zero, List.set_cons_succ, i64_w, i32_w]
                   rfl
                  refine one_ (i := 10) (N := some 45) #[true, true, true, true, true, true, true, true, true, true, true, false, true, false, false] rfl rfl (one_of HT_.out (by kernel_rfl)) (by decide) (fun K hK => ?_)
                  refine goes_ Try.func104 (by kernel_rfl) rfl #[.int .i64 ((rd_T102 s_ i_).f1.f6), .int .i64 x7_8] (by rfl) rfl rfl (by (try simp only [List.map_toArray, List.map_cons, List.map_nil]); first | done | rfl | (simp only [List.length_drop, List.length_take]; rfl)) ?_
                  with_reducible refine (impl_element_times.calls ((rd_T102 s_ i_).f1.f6) x7_8 t263 _ A106.out).mono ?_
                  rintro e w' ⟨rfl, ⟨nd, rfl⟩⟩
                  refine ⟨_, rfl, ?_⟩
                  refine hK.out _ _ ⟨bA8 BK238 rfl, bA8 BK241 rfl⟩ (fun hHeld => ?_)
                  clear hK K
                  refine norm_ (a' := ?_) ?_ ?_
                  rotate_left
                  ·show Act.put _ (some 45) _ = _
                   simp only [Act.put, List.setIfInBounds_toArray, List.set_cons_zero, List.set_cons_succ, i64_w, i32_w]
                   rfl
                  refine one_ (i := 11) (N := some 46) #[true, true, true, true, true, true, true, true, true, true, true, true, true, false, false] rfl rfl (one_of HT_.out (by kernel_rfl)) (by decide) (fun K hK => ?_)
                  refine goes_ Try.func127 (by kernel_rfl) rfl #[.int .i64 x_10_3, .int .i64 t263] (by rfl) rfl rfl (by (try simp only [List.map_toArray, List.map_cons, List.map_nil]); first | done | rfl | (simp only [List.length_drop, List.length_take]; rfl)) ?_
                  with_reducible refine (impl_element_minus.calls x_10_3 t263 t264 _ A107.out).mono ?_
                  rintro e w' ⟨rfl, ⟨nd, rfl⟩⟩
                  refine ⟨_, rfl, ?_⟩
                  refine hK.out _ _ ⟨bA8 BK238 rfl, bA8 BK241 rfl⟩ (fun hHeld => ?_)
                  clear hK K
                  refine norm_ (a' := ?_) ?_ ?_
                  rotate_left
                  ·show Act.put _ (some 46) _ = _
                   simp only [Act.put, List.setIfInBounds_toArray, List.set_cons_zero, List.set_cons_succ, i64_w, i32_w]
                   rfl
                  refine pure_ (i := 13) (N := some 48) (v := ?_) (a' := ?_) #[true, true, true, true, true, true, true, true, true, true, true, true, true, true, false] rfl rfl (any_of HT_.out (by kernel_rfl)) (fun _ _ _ h => h) (Or.inl ⟨by rfl, ?_⟩) ?_ ?_
                  rotate_left
                  ·intro w'
                   go_simp
                   with_reducible rfl
                  rotate_left
                  ·simp only [Act.put, List.setIfInBounds_toArray, List.set_cons_zero, List.set_cons_succ, i64_w, i32_w]
                   rfl
                  refine last_ (i := 14) (N := none) #[true, true, true, true, true, true, true, true, true, true, true, true, true, true, true] rfl rfl (one_of HT_.out (by kernel_rfl)) (by decide) (fun K hK => ?_)
                  have hs109 : w108.cell? ⟨gb238, 10, none⟩ = some (.int .i64 x_10_3) := bA8 BK238 rfl
                  have hfs109 := blk_frozen BK238.out 10
                  have hns109_1 := NB239_238.out
                  have hns109_2 := NB241_238.out
                  have hms109_1 := NB238_239.out
                  have hms109_2 := NB238_241.out
                  refine skip_ (w1 := ?_) (by rfl) rfl ?_ ?_
                  rotate_left
                  ·go_simp
                   rfl
                  refine hK.out _ _ ?_
                  clear hK K
                  refine done_ (done_of HT_.out (by kernel_rfl)) ?_
                  try go_wp2
                  go_roundg k3
                  case measure => have := HK1.out; have := HJ8.out; have := HK3.out; omega
                  case rel => exact ⟨(wrap64 ((6 : Int) + 1)), (x_04_3), (x_05_3), (x_06_3), (x_07_3), (x_08_3), (x_09_3), (t264), (x_11_3), (by first | rfl | (simp; done) | (simp [*]; done) | (simp; unfold wrap64; omega)), H', ⟨by have := HK1.out; have := HJ8.out; have := HK3.out; omega⟩, ⟨by (with_reducible repeat first|refine blk_drewN ?_ _|refine blk_drew ?_|refine blk_alloc ?_ _); refine blk_put (cs := #[.int .i64 t247, .int .i64 t248, .int .i64 t249, .int .i64 t250, .int .i64 x_04_3, .int .i64 x_05_3, .int .i64 x_06_3, .int .i64 x_07_3, .int .i64 x_08_3, .int .i64 x_09_3, .int .i64 x_10_3, .int .i64 x_11_3]) ?_ 10 _ rfl; (with_reducible repeat first|refine blk_drewN ?_ _|refine blk_drew ?_|refine blk_alloc ?_ _); exact BK238.out⟩, ⟨by (with_reducible repeat first|refine blk_drewN ?_ _|refine blk_drew ?_|refine blk_alloc ?_ _); refine blk_far ?_ NB239_238.out _; (with_reducible repeat first|refine blk_drewN ?_ _|refine blk_drew ?_|refine blk_alloc ?_ _); exact BK239.out⟩, ⟨by (with_reducible repeat first|refine blk_drewN ?_ _|refine blk_drew ?_|refine blk_alloc ?_ _); refine blk_far ?_ NB241_238.out _; (with_reducible repeat first|refine blk_drewN ?_ _|refine blk_drew ?_|refine blk_alloc ?_ _); exact BK241.out⟩, ⟨by repeat (first | (with_reducible first | exact HI0.out | apply IsS81.alloc | apply IsS81.drewN | apply IsS81.drew | refine IsS81.far ?_ NB0_238.out _ | refine IsS81.far ?_ NB0_239.out _ | refine IsS81.far ?_ NB0_241.out _) | exact HI0.out)⟩, ⟨by repeat (first | (with_reducible first | exact HK.out | apply KeepBut.set_ | apply keep_drewN | apply keep_drew | apply keep_alloc | refine keep_far ?_ GW238.out _ | refine keep_far ?_ GW239.out _ | refine keep_far ?_ GW241.out _) | exact HK.out)⟩, ⟨by repeat (first | (with_reducible first | exact HB.out | apply below_alloc | apply pw_below_drewN | apply below_drew1 | refine below_set ?_ (IsS81.ge HI0.out) | refine below_set ?_ GE238.out | refine below_set ?_ GE239.out | refine below_set ?_ GE241.out) | exact HB.out)⟩⟩
                 ·rw [if_neg c105] at H
                  clear c105
                  by_cases c110 : x32_3 = 7
                  ·rw [if_pos c110] at H
                   subst c110
                   replace H : ((impl_element_times.f ((rd_T102 s_ i_).f1.f7) x7_8).bind fun t265 => ((impl_element_minus.f x_11_3 t265).bind fun t266 => (impl_span_less.l1 k3 x7_8 s_ (s_.length : Int) i_ (wrap64 ((7 : Int) + 1)) t247 t248 t249 t250 x_04_3 x_05_3 x_06_3 x_07_3 x_08_3 x_09_3 x_10_3 t266 ((rd_T102 s_ i_).f0.f0) ((rd_T102 s_ i_).f0.f1) ((rd_T102 s_ i_).f0.f2) ((rd_T102 s_ i_).f0.f3) ((rd_T102 s_ i_).f1.f0) ((rd_T102 s_ i_).f1.f1) ((rd_T102 s_ i_).f1.f2) ((rd_T102 s_ i_).f1.f3) ((rd_T102 s_ i_).f1.f4) ((rd_T102 s_ i_).f1.f5) ((rd_T102 s_ i_).f1.f6) ((rd_T102 s_ i_).f1.f7)))) = some (r1, r2, r3, r4, r5, r6, r7, r8, r9, r10, r11, r12) := H
                   replace H := Option.bind_eq_some_iff.mp H
                   obtain ⟨t265, A1110, H⟩ := H
                   replace H : ((impl_element_minus.f x_11_3 t265).bind fun t266 => (impl_span_less.l1 k3 x7_8 s_ (s_.length : Int) i_ (wrap64 ((7 : Int) + 1)) t247 t248 t249 t250 x_04_3 x_05_3 x_06_3 x_07_3 x_08_3 x_09_3 x_10_3 t266 ((rd_T102 s_ i_).f0.f0) ((rd_T102 s_ i_).f0.f1) ((rd_T102 s_ i_).f0.f2) ((rd_T102 s_ i_).f0.f3) ((rd_T102 s_ i_).f1.f0) ((rd_T102 s_ i_).f1.f1) ((rd_T102 s_ i_).f1.f2) ((rd_T102 s_ i_).f1.f3) ((rd_T102 s_ i_).f1.f4) ((rd_T102 s_ i_).f1.f5) ((rd_T102 s_ i_).f1.f6) ((rd_T102 s_ i_).f1.f7))) = some (r1, r2, r3, r4, r5, r6, r7, r8, r9, r10, r11, r12) := H
                   have A111 := Aside0.mk A1110
                   clear A1110
                   replace H := Option.bind_eq_some_iff.mp H
                   obtain ⟨t266, A1120, H⟩ := H
                   replace H : (impl_span_less.l1 k3 x7_8 s_ (s_.length : Int) i_ (wrap64 ((7 : Int) + 1)) t247 t248 t249 t250 x_04_3 x_05_3 x_06_3 x_07_3 x_08_3 x_09_3 x_10_3 t266 ((rd_T102 s_ i_).f0.f0) ((rd_T102 s_ i_).f0.f1) ((rd_T102 s_ i_).f0.f2) ((rd_T102 s_ i_).f0.f3) ((rd_T102 s_ i_).f1.f0) ((rd_T102 s_ i_).f1.f1) ((rd_T102 s_ i_).f1.f2) ((rd_T102 s_ i_).f1.f3) ((rd_T102 s_ i_).f1.f4) ((rd_T102 s_ i_).f1.f5) ((rd_T102 s_ i_).f1.f6) ((rd_T102 s_ i_).f1.f7)) = some (r1, r2, r3, r4, r5, r6, r7, r8, r9, r10, r11, r12) := H
                   have A112 := Aside0.mk A1120
                   clear A1120
                   have H' := Aside0.mk H
                   clear H
                   try go_wp2
                   have n0_ := Aside0.mk (blk_drew BK238.out)
                   have n1_ := Aside0.mk (blk_drew BK239.out)
                   have n2_ := Aside0.mk (blk_drew BK241.out)
                   have n3_ := Aside0.mk (IsS81.drew HI0.out)
                   have n4_ := Aside0.mk (keep_drew HK.out)
                   have n5_ := Aside0.mk (below_drew1 HB.out)
                   clear BK238
                   clear BK239
                   clear BK241
                   clear HI0
                   clear HK
                   clear HB
                   have BK238 := n0_
                   have BK239 := n1_
                   have BK241 := n2_
                   have HI0 := n3_
                   have HK := n4_
                   have HB := n5_
                   clear n0_ n1_ n2_ n3_ n4_ n5_
                   refine start_ (n := 15) (S := fun w' => w'.cell? ⟨gb238, 11, none⟩ = some (.int .i64 x_11_3) ∧ w'.cell? ⟨gb241, 11, none⟩ = some (.int .i64 ((rd_T102 s_ i_).f1.f7))) (ds := [14]) #[false, false, false, false, false, false, false, false, false, false, false, false, false, false, false] (by kernel_rfl) rfl rfl ⟨bA8 BK238 rfl, bA8 BK241 rfl⟩ (fun hHeld => ?_); refine with_tabW impl_span_less.tab9 impl_span_less.bits9 (fun HT_ HW_ => ?_)
                   generalize wr.drew = w113 at BK238 BK239 BK241 HI0 HK HB hHeld ⊢
                   refine pure_ (i := 0) (N := some 35) (v := ?_) (a' := ?_) #[true, false, false, false, false, false, false, false, false, false, false, false, false, false, false] rfl rfl (any_of HT_.out (by kernel_rfl)) (fun _ _ _ h => h) (Or.inl ⟨by rfl, ?_⟩) ?_ ?_
                   rotate_left
                   ·intro w'
                    go_simp
                    with_reducible rfl
                   rotate_left
                   ·simp only [Act.put, List.setIfInBounds_toArray, List.set_cons_zero, List.set_cons_succ, i64_w, i32_w]
                    rfl
                   refine pure_ (i := 1) (N := some 36) (v := ?_) (a' := ?_) #[true, true, false, false, false, false, false, false, false, false, false, false, false, false, false] rfl rfl (any_of HT_.out (by kernel_rfl)) (fun _ _ _ h => h) (Or.inl ⟨by rfl, ?_⟩) ?_ ?_
                   rotate_left
                   ·intro w'
                    go_simp
                    with_reducible rfl
                   rotate_left
                   ·simp only [Act.put, List.setIfInBounds_toArray, List.set_cons_zero, List.set_cons_succ, i64_w, i32_w]
                    rfl
                   refine pure_ (i := 2) (N := some 37) (v := ?_) (a' := ?_) #[true, true, true, false, false, false, false, false, false, false, false, false, false, false, false] rfl rfl (any_of HT_.out (by kernel_rfl)) (fun _ _ _ h => h) (Or.inl ⟨by rfl, ?_⟩) ?_ ?_
                   rotate_left
                   ·intro w'
                    go_simp
                    with_reducible rfl
                   rotate_left
                   ·simp only [Act.put, List.setIfInBounds_toArray, List.set_cons_zero, List.set_cons_succ, i64_w, i32_w]
                    rfl
                   refine pure_ (i := 3) (N := some 38) (v := ?_) (a' := ?_) #[true, true, true, true, false, false, false, false, false, false, false, false, false, false, false] rfl rfl (any_of HT_.out (by kernel_rfl)) (fun _ _ _ h => h) (Or.inl ⟨by rfl, ?_⟩) ?_ ?_
                   rotate_left
                   ·intro w'
                    go_simp
                    with_reducible rfl
                   rotate_left
                   ·simp only [Act.put, List.setIfInBounds_toArray, List.set_cons_zero, List.set_cons_succ, i64_w, i32_w]
                    rfl
                   refine pure_ (i := 5) (N := some 40) (v := ?_) (a' := ?_) #[true, true, true, true, false, true, false, false, false, false, false, false, false, false, false] rfl rfl (any_of HT_.out (by kernel_rfl)) (fun _ _ _ h => h) (Or.inl ⟨by rfl, ?_⟩) ?_ ?_
                   rotate_left
                   ·intro w'
                    go_simp
                    with_reducible rfl
                   rotate_left
                   ·simp only [Act.put, List.setIfInBounds_toArray, List.set_cons_zero, List.set_cons_succ, i64_w, i32_w]
                    rfl
                   refine pure_ (i := 6) (N := some 41) (v := ?_) (a' := ?_) #[true, true, true, true, false, true, true, false, false, false, false, false, false, false, false] rfl rfl (any_of HT_.out (by kernel_rfl)) (fun _ _ _ h => h) (Or.inl ⟨by rfl, ?_⟩) ?_ ?_
                   rotate_left
                   ·intro w'
                    go_simp
                    with_reducible rfl
                   rotate_left
                   ·simp only [Act.put, List.setIfInBounds_toArray, List.set_cons_zero, List.set_cons_succ, i64_w, i32_w]
                    rfl
                   refine pure_ (i := 7) (N := some 42) (v := ?_) (a' := ?_) #[true, true, true, true, false, true, true, true, false, false, false, false, false, false, false] rfl rfl (any_of HT_.out (by kernel_rfl)) (fun _ _ _ h => h) (Or.inl ⟨by rfl, ?_⟩) ?_ ?_
                   rotate_left
                   ·intro w'
                    go_simp
                    with_reducible rfl
                   rotate_left
                   ·simp only [Act.put, List.setIfInBounds_toArray, List.set_cons_zero, List.set_cons_succ, i64_w, i32_w]
                    rfl
                   refine pure_ (i := 9) (N := some 44) (v := ?_) (a' := ?_) #[true, true, true, true, false, true, true, true, false, true, false, false, false, false, false] rfl rfl (any_of HT_.out (by kernel_rfl)) (fun _ _ _ h => h) (Or.inl ⟨by rfl, ?_⟩) ?_ ?_
                   rotate_left
                   ·intro w'
                    go_simp
                    with_reducible rfl
                   rotate_left
                   ·simp only [Act.put, List.setIfInBounds_toArray, List.set_cons_zero, List.set_cons_succ, i64_w, i32_w]
                    rfl
                   refine pure_ (i := 12) (N := some 47) (v := ?_) (a' := ?_) #[true, true, true, true, false, true, true, true, false, true, false, false, true, false, false] rfl rfl (any_of HT_.out (by kernel_rfl)) (fun _ _ _ h => h) (Or.inl ⟨by rfl, ?_⟩) ?_ ?_
                   rotate_left
                   ·intro w'
                    go_simp
                    with_reducible rfl
                   rotate_left
                   ·simp only [Act.put, List.setIfInBounds_toArray, List.set_cons_zero, List.set_cons_succ, i64_w, i32_w]
                    rfl
                   refine take_ (i := 4) (N := some 39) (v := ?_) (a' := ?_) #[true, true, true, true, true, true, true, true, false, true, false, false, true, false, false] rfl rfl (take_ofW HT_.out HW_.out (by kernel_rfl)) (fun _ _ _ h => h) (Or.inl ⟨by rfl, ?_⟩) hHeld ?_ ?_
                   rotate_left
                   ·rintro w' ⟨s0, s1⟩
                    go_simp
                    with_reducible rfl
                   rotate_left
                   ·simp only [Act.put, List.setIfInBounds_toArray, List.set_cons_zero, List.set_cons_succ, i64_w, i32_w]
                    rfl
                   refine take_ (i := 8) (N := some 43) (v := ?_) (a' := ?_) #[true, true, true, true, true, true, true, true, true, true, false, false, true, false, false] rfl rfl (take_ofW HT_.out HW_.out (by kernel_rfl)) (fun _ _ _ h => h) (Or.inl ⟨by rfl, ?_⟩) hHeld ?_ ?_
                   rotate_left
                   ·rintro w' ⟨s0, s1⟩
                    go_simp
                    with_reducible rfl
                   rotate_left
                   ·simp only [Act.put, List.setIfInBounds_toArray, List.set_cons_zero, List.set_cons_succ, i64_w, i32_w]
                    rfl
                   refine one_ (i := 10) (N := some 45) #[true, true, true, true, true, true, true, true, true, true, true, false, true, false, false] rfl rfl (one_of HT_.out (by kernel_rfl)) (by decide) (fun K hK => ?_)
                   refine goes_ Try.func104 (by kernel_rfl) rfl #[.int .i64 ((rd_T102 s_ i_).f1.f7), .int .i64 x7_8] (by rfl) rfl rfl (by (try simp only [List.map_toArray, List.map_cons, List.map_nil]); first | done | rfl | (simp only [List.length_drop, List.length_take]; rfl)) ?_
                   with_reducible refine (impl_element_times.calls ((rd_T102 s_ i_).f1.f7) x7_8 t265 _ A111.out).mono ?_
                   rintro e w' ⟨rfl, ⟨nd, rfl⟩⟩
                   refine ⟨_, rfl, ?_⟩
                   refine hK.out _ _ ⟨bA8 BK238 rfl, bA8 BK241 rfl⟩ (fun hHeld => ?_)
                   clear hK K
                   refine norm_ (a' := ?_) ?_ ?_
                   rotate_left
                   ·show Act.put _ (some 45) _ = _
                    simp only [Act.put, List.setIfInBounds_toArray, List.set_cons_zero, List.set_cons_succ, i64_w, i32_w]
                    rfl
                   refine one_ (i := 11) (N := some 46) #[true, true, true, true, true, true, true, true, true, true, true, true, true, false, false] rfl rfl (one_of HT_.out (by kernel_rfl)) (by decide) (fun K hK => ?_)
                   refine goes_ Try.func127 (by kernel_rfl) rfl #[.int .i64 x_11_3, .int .i64 t265] (by rfl) rfl rfl (by (try simp only [List.map_toArray, List.map_cons, List.map_nil]); first | done | rfl | (simp only [List.length_drop, List.length_take]; rfl)) ?_
                   with_reducible refine (impl_element_minus.calls x_11_3 t265 t266 _ A112.out).mono ?_
                   rintro e w' ⟨rfl, ⟨nd, rfl⟩⟩
                   refine ⟨_, rfl, ?_⟩
                   refine hK.out _ _ ⟨bA8 BK238 rfl, bA8 BK241 rfl⟩ (fun hHeld => ?_)
                   clear hK K
                   refine norm_ (a' := ?_) ?_ ?_
                   rotate_left
                   ·show Act.put _ (some 46) _ = _
                    simp only [Act.put, List.setIfInBounds_toArray, List.set_cons_zero, List.set_cons_succ, i64_w, i32_w]
                    rfl
                   refine pure_ (i := 13) (N := some 48) (v := ?_) (a' := ?_) #[true, true, true, true, true, true, true, true, true, true, true, true, true, true, false] rfl rfl (any_of HT_.out (by kernel_rfl)) (fun _ _ _ h => h) (Or.inl ⟨by rfl, ?_⟩) ?_ ?_
                   rotate_left
                   ·intro w'
                    go_simp
                    with_reducible rfl
                   rotate_left
                   ·simp only [Act.put, List.setIfInBounds_toArray, List.set_cons_zero, List.set_cons_succ, i64_w, i32_w]
                    rfl
                   refine last_ (i := 14) (N := none) #[true, true, true, true, true, true, true, true, true, true, true, true, true, true, true] rfl rfl (one_of HT_.out (by kernel_rfl)) (by decide) (fun K hK => ?_)
                   have hs114 : w113.cell? ⟨gb238, 11, none⟩ = some (.int .i64 x_11_3) := bA8 BK238 rfl
                   have hfs114 := blk_frozen BK238.out 11
                   have hns114_1 := NB239_238.out
                   have hns114_2 := NB241_238.out
                   have hms114_1 := NB238_239.out
                   have hms114_2 := NB238_241.out
                   refine skip_ (w1 := ?_) (by rfl) rfl ?_ ?_
                   rotate_left
                   ·go_simp
                    rfl
                   refine hK.out _ _ ?_
                   clear hK K
                   refine done_ (done_of HT_.out (by kernel_rfl)) ?_
                   try go_wp2
                   go_roundg k3
                   case measure => have := HK1.out; have := HJ8.out; have := HK3.out; omega
                   case rel => exact ⟨(wrap64 ((7 : Int) + 1)), (x_04_3), (x_05_3), (x_06_3), (x_07_3), (x_08_3), (x_09_3), (x_10_3), (t266), (by first | rfl | (simp; done) | (simp [*]; done) | (simp; unfold wrap64; omega)), H', ⟨by have := HK1.out; have := HJ8.out; have := HK3.out; omega⟩, ⟨by (with_reducible repeat first|refine blk_drewN ?_ _|refine blk_drew ?_|refine blk_alloc ?_ _); refine blk_put (cs := #[.int .i64 t247, .int .i64 t248, .int .i64 t249, .int .i64 t250, .int .i64 x_04_3, .int .i64 x_05_3, .int .i64 x_06_3, .int .i64 x_07_3, .int .i64 x_08_3, .int .i64 x_09_3, .int .i64 x_10_3, .int .i64 x_11_3]) ?_ 11 _ rfl; (with_reducible repeat first|refine blk_drewN ?_ _|refine blk_drew ?_|refine blk_alloc ?_ _); exact BK238.out⟩, ⟨by (with_reducible repeat first|refine blk_drewN ?_ _|refine blk_drew ?_|refine blk_alloc ?_ _); refine blk_far ?_ NB239_238.out _; (with_reducible repeat first|refine blk_drewN ?_ _|refine blk_drew ?_|refine blk_alloc ?_ _); exact BK239.out⟩, ⟨by (with_reducible repeat first|refine blk_drewN ?_ _|refine blk_drew ?_|refine blk_alloc ?_ _); refine blk_far ?_ NB241_238.out _; (with_reducible repeat first|refine blk_drewN ?_ _|refine blk_drew ?_|refine blk_alloc ?_ _); exact BK241.out⟩, ⟨by repeat (first | (with_reducible first | exact HI0.out | apply IsS81.alloc | apply IsS81.drewN | apply IsS81.drew | refine IsS81.far ?_ NB0_238.out _ | refine IsS81.far ?_ NB0_239.out _ | refine IsS81.far ?_ NB0_241.out _) | exact HI0.out)⟩, ⟨by repeat (first | (with_reducible first | exact HK.out | apply KeepBut.set_ | apply keep_drewN | apply keep_drew | apply keep_alloc | refine keep_far ?_ GW238.out _ | refine keep_far ?_ GW239.out _ | refine keep_far ?_ GW241.out _) | exact HK.out)⟩, ⟨by repeat (first | (with_reducible first | exact HB.out | apply below_alloc | apply pw_below_drewN | apply below_drew1 | refine below_set ?_ (IsS81.ge HI0.out) | refine below_set ?_ GE238.out | refine below_set ?_ GE239.out | refine below_set ?_ GE241.out) | exact HB.out)⟩⟩
                  ·rw [if_neg c110] at H
                   clear c110
                   exact absurd H (by simp)
          ·rw [if_neg c74] at H
           have c74b0 : decide (x32_3 < 8) = false := decide_eq_false c74
           clear c74
           have H' := Aside0.mk H
           clear H
           go_wp2
           go_roundg k3
           case measure => have := HK1.out; have := HJ8.out; have := HK3.out; omega
           case rel => exact ⟨(wrap64 (i_ + 1)), (t247), (t248), (t249), (t250), (x_04_3), (x_05_3), (x_06_3), (x_07_3), (x_08_3), (x_09_3), (x_10_3), (x_11_3), (by first | rfl | (simp; done) | (simp [*]; done)), H', ⟨by have := HK1.out; have := HJ8.out; have := HK3.out; omega⟩, ⟨by (with_reducible repeat first|refine blk_drewN ?_ _|refine blk_drew ?_|refine blk_alloc ?_ _); exact BK238.out⟩, ⟨by (with_reducible repeat first|refine blk_drewN ?_ _|refine blk_drew ?_|refine blk_alloc ?_ _); exact BK239.out⟩, ⟨by repeat (first | (with_reducible first | exact HI0.out | apply IsS81.alloc | apply IsS81.drewN | apply IsS81.drew | refine IsS81.far ?_ NB0_238.out _ | refine IsS81.far ?_ NB0_239.out _ | refine IsS81.far ?_ NB0_241.out _) | exact HI0.out)⟩, ⟨by repeat (first | (with_reducible first | exact HK.out | apply KeepBut.set_ | apply keep_drewN | apply keep_drew | apply keep_alloc | refine keep_far ?_ GW238.out _ | refine keep_far ?_ GW239.out _ | refine keep_far ?_ GW241.out _) | exact HK.out)⟩, ⟨by repeat (first | (with_reducible first | exact HB.out | apply below_alloc | apply pw_below_drewN | apply below_drew1 | refine below_set ?_ (IsS81.ge HI0.out) | refine below_set ?_ GE238.out | refine below_set ?_ GE239.out | refine below_set ?_ GE241.out) | exact HB.out)⟩⟩
     ·rw [if_neg c8] at H
      exact absurd H (by simp)
    ·rw [if_neg c7] at H
     exact absurd H (by simp)
   ·rw [if_neg c6] at H
    have c6b0 : decide (i_ < (s_.length : Int)) = false := decide_eq_false c6
    clear c6
    simp only [Option.some.injEq, Prod.mk.injEq] at H
    obtain ⟨rfl, rfl, rfl, rfl, rfl, rfl, rfl, rfl, rfl, rfl, rfl, rfl⟩ := H
    have hnb115 := NB238_239.out
    have hnc115 := NB239_238.out
    have hnb116 := NB238_0.out
    have hnc116 := NB0_238.out
    have hcz117_0 : wr.cell? ⟨gb238, 0, none⟩ = some (.int .i64 x_00_1) := bA8 BK238 rfl
    have hcz117_1 : wr.cell? ⟨gb238, 1, none⟩ = some (.int .i64 x_01_1) := bA8 BK238 rfl
    have hcz117_2 : wr.cell? ⟨gb238, 2, none⟩ = some (.int .i64 x_02_1) := bA8 BK238 rfl
    have hcz117_3 : wr.cell? ⟨gb238, 3, none⟩ = some (.int .i64 x_03_1) := bA8 BK238 rfl
    have hcz117_4 : wr.cell? ⟨gb238, 4, none⟩ = some (.int .i64 x_04_1) := bA8 BK238 rfl
    have hcz117_5 : wr.cell? ⟨gb238, 5, none⟩ = some (.int .i64 x_05_1) := bA8 BK238 rfl
    have hcz117_6 : wr.cell? ⟨gb238, 6, none⟩ = some (.int .i64 x_06_1) := bA8 BK238 rfl
    have hcz117_7 : wr.cell? ⟨gb238, 7, none⟩ = some (.int .i64 x_07_1) := bA8 BK238 rfl
    have hcz117_8 : wr.cell? ⟨gb238, 8, none⟩ = some (.int .i64 x_08_1) := bA8 BK238 rfl
    have hcz117_9 : wr.cell? ⟨gb238, 9, none⟩ = some (.int .i64 x_09_1) := bA8 BK238 rfl
    have hcz117_10 : wr.cell? ⟨gb238, 10, none⟩ = some (.int .i64 x_10_1) := bA8 BK238 rfl
    have hcz117_11 : wr.cell? ⟨gb238, 11, none⟩ = some (.int .i64 x_11_1) := bA8 BK238 rfl
    have hfz117_0 := blk_frozen BK238.out 0
    have hfz117_1 := blk_frozen BK238.out 1
    have hfz117_2 := blk_frozen BK238.out 2
    have hfz117_3 := blk_frozen BK238.out 3
    have hfz117_4 := blk_frozen BK238.out 4
    have hfz117_5 := blk_frozen BK238.out 5
    have hfz117_6 := blk_frozen BK238.out 6
    have hfz117_7 := blk_frozen BK238.out 7
    have hfz117_8 := blk_frozen BK238.out 8
    have hfz117_9 := blk_frozen BK238.out 9
    have hfz117_10 := blk_frozen BK238.out 10
    have hfz117_11 := blk_frozen BK238.out 11
    have hnb118 := NB239_0.out
    have hnc118 := NB0_239.out
    have hcz119_0 : wr.cell? ⟨gb239, 0, none⟩ = some (.int .i64 0) := bA8 BK239 rfl
    have hfz119_0 := blk_frozen BK239.out 0
    have hcz120_1 : wr.cell? ⟨gb239, 1, none⟩ = some (.int .i64 0) := bA8 BK239 rfl
    have hfz120_1 := blk_frozen BK239.out 1
    have hcz121_2 : wr.cell? ⟨gb239, 2, none⟩ = some (.int .i64 0) := bA8 BK239 rfl
    have hfz121_2 := blk_frozen BK239.out 2
    have hcz122_3 : wr.cell? ⟨gb239, 3, none⟩ = some (.int .i64 0) := bA8 BK239 rfl
    have hfz122_3 := blk_frozen BK239.out 3
    have hcz123_4 : wr.cell? ⟨gb239, 4, none⟩ = some (.int .i64 0) := bA8 BK239 rfl
    have hfz123_4 := blk_frozen BK239.out 4
    have hcz124_5 : wr.cell? ⟨gb239, 5, none⟩ = some (.int .i64 0) := bA8 BK239 rfl
    have hfz124_5 := blk_frozen BK239.out 5
    have hcz125_6 : wr.cell? ⟨gb239, 6, none⟩ = some (.int .i64 0) := bA8 BK239 rfl
    have hfz125_6 := blk_frozen BK239.out 6
    have hcz126_7 : wr.cell? ⟨gb239, 7, none⟩ = some (.int .i64 0) := bA8 BK239 rfl
    have hfz126_7 := blk_frozen BK239.out 7
    have hcz127_8 : wr.cell? ⟨gb239, 8, none⟩ = some (.int .i64 0) := bA8 BK239 rfl
    have hfz127_8 := blk_frozen BK239.out 8
    have hcz128_9 : wr.cell? ⟨gb239, 9, none⟩ = some (.int .i64 0) := bA8 BK239 rfl
    have hfz128_9 := blk_frozen BK239.out 9
    have hcz129_10 : wr.cell? ⟨gb239, 10, none⟩ = some (.int .i64 0) := bA8 BK239 rfl
    have hfz129_10 := blk_frozen BK239.out 10
    have hcz130_11 : wr.cell? ⟨gb239, 11, none⟩ = some (.int .i64 0) := bA8 BK239 rfl
    have hfz130_11 := blk_frozen BK239.out 11
    go_wp2_with (first | ((with_reducible refine gate_store (t := 102) (p := 4) rfl ?_); refine store_event (t := 102) (p := 4) (v := ?vo_w131) (w1 := ((((((((((((wr.setCell ⟨gb239, 0, none⟩ (.int .i64 x_00_1)).setCell ⟨gb239, 1, none⟩ (.int .i64 x_01_1)).setCell ⟨gb239, 2, none⟩ (.int .i64 x_02_1)).setCell ⟨gb239, 3, none⟩ (.int .i64 x_03_1)).setCell ⟨gb239, 4, none⟩ (.int .i64 x_04_1)).setCell ⟨gb239, 5, none⟩ (.int .i64 x_05_1)).setCell ⟨gb239, 6, none⟩ (.int .i64 x_06_1)).setCell ⟨gb239, 7, none⟩ (.int .i64 x_07_1)).setCell ⟨gb239, 8, none⟩ (.int .i64 x_08_1)).setCell ⟨gb239, 9, none⟩ (.int .i64 x_09_1)).setCell ⟨gb239, 10, none⟩ (.int .i64 x_10_1)).setCell ⟨gb239, 11, none⟩ (.int .i64 x_11_1))) ?hg ?ho ?hn ?hr ?_; (case ho => rfl); (case hg => rfl); (case hn => rfl); (case hr => first | (go_simp; done) | (go_simp; rfl)); intro w131 hw; have n0_ : Aside0 (w131.heap[gb238]? = some (.cells #[.int .i64 x_00_1, .int .i64 x_01_1, .int .i64 x_02_1, .int .i64 x_03_1, .int .i64 x_04_1, .int .i64 x_05_1, .int .i64 x_06_1, .int .i64 x_07_1, .int .i64 x_08_1, .int .i64 x_09_1, .int .i64 x_10_1, .int .i64 x_11_1] 102 (0, 0))) := ⟨(by rw [hw]; exact (by (with_reducible repeat first|refine blk_drewN ?_ _|refine blk_drew ?_|refine blk_alloc ?_ _); refine blk_far ?_ NB238_239.out _; (with_reducible repeat first|refine blk_drewN ?_ _|refine blk_drew ?_|refine blk_alloc ?_ _); refine blk_far ?_ NB238_239.out _; (with_reducible repeat first|refine blk_drewN ?_ _|refine blk_drew ?_|refine blk_alloc ?_ _); refine blk_far ?_ NB238_239.out _; (with_reducible repeat first|refine blk_drewN ?_ _|refine blk_drew ?_|refine blk_alloc ?_ _); refine blk_far ?_ NB238_239.out _; (with_reducible repeat first|refine blk_drewN ?_ _|refine blk_drew ?_|refine blk_alloc ?_ _); refine blk_far ?_ NB238_239.out _; (with_reducible repeat first|refine blk_drewN ?_ _|refine blk_drew ?_|refine blk_alloc ?_ _); refine blk_far ?_ NB238_239.out _; (with_reducible repeat first|refine blk_drewN ?_ _|refine blk_drew ?_|refine blk_alloc ?_ _); refine blk_far ?_ NB238_239.out _; (with_reducible repeat first|refine blk_drewN ?_ _|refine blk_drew ?_|refine blk_alloc ?_ _); refine blk_far ?_ NB238_239.out _; (with_reducible repeat first|refine blk_drewN ?_ _|refine blk_drew ?_|refine blk_alloc ?_ _); refine blk_far ?_ NB238_239.out _; (with_reducible repeat first|refine blk_drewN ?_ _|refine blk_drew ?_|refine blk_alloc ?_ _); refine blk_far ?_ NB238_239.out _; (with_reducible repeat first|refine blk_drewN ?_ _|refine blk_drew ?_|refine blk_alloc ?_ _); refine blk_far ?_ NB238_239.out _; (with_reducible repeat first|refine blk_drewN ?_ _|refine blk_drew ?_|refine blk_alloc ?_ _); refine blk_far ?_ NB238_239.out _; (with_reducible repeat first|refine blk_drewN ?_ _|refine blk_drew ?_|refine blk_alloc ?_ _); exact BK238.out))⟩; have n1_ : Aside0 (w131.heap[gb239]? = some (.cells #[.int .i64 x_00_1, .int .i64 x_01_1, .int .i64 x_02_1, .int .i64 x_03_1, .int .i64 x_04_1, .int .i64 x_05_1, .int .i64 x_06_1, .int .i64 x_07_1, .int .i64 x_08_1, .int .i64 x_09_1, .int .i64 x_10_1, .int .i64 x_11_1] 102 (0, 0))) := ⟨(by rw [hw]; exact (by (with_reducible repeat first|refine blk_drewN ?_ _|refine blk_drew ?_|refine blk_alloc ?_ _); refine blk_put (cs := #[.int .i64 x_00_1, .int .i64 x_01_1, .int .i64 x_02_1, .int .i64 x_03_1, .int .i64 x_04_1, .int .i64 x_05_1, .int .i64 x_06_1, .int .i64 x_07_1, .int .i64 x_08_1, .int .i64 x_09_1, .int .i64 x_10_1, .int .i64 0]) ?_ 11 _ rfl; (with_reducible repeat first|refine blk_drewN ?_ _|refine blk_drew ?_|refine blk_alloc ?_ _); refine blk_put (cs := #[.int .i64 x_00_1, .int .i64 x_01_1, .int .i64 x_02_1, .int .i64 x_03_1, .int .i64 x_04_1, .int .i64 x_05_1, .int .i64 x_06_1, .int .i64 x_07_1, .int .i64 x_08_1, .int .i64 x_09_1, .int .i64 0, .int .i64 0]) ?_ 10 _ rfl; (with_reducible repeat first|refine blk_drewN ?_ _|refine blk_drew ?_|refine blk_alloc ?_ _); refine blk_put (cs := #[.int .i64 x_00_1, .int .i64 x_01_1, .int .i64 x_02_1, .int .i64 x_03_1, .int .i64 x_04_1, .int .i64 x_05_1, .int .i64 x_06_1, .int .i64 x_07_1, .int .i64 x_08_1, .int .i64 0, .int .i64 0, .int .i64 0]) ?_ 9 _ rfl; (with_reducible repeat first|refine blk_drewN ?_ _|refine blk_drew ?_|refine blk_alloc ?_ _); refine blk_put (cs := #[.int .i64 x_00_1, .int .i64 x_01_1, .int .i64 x_02_1, .int .i64 x_03_1, .int .i64 x_04_1, .int .i64 x_05_1, .int .i64 x_06_1, .int .i64 x_07_1, .int .i64 0, .int .i64 0, .int .i64 0, .int .i64 0]) ?_ 8 _ rfl; (with_reducible repeat first|refine blk_drewN ?_ _|refine blk_drew ?_|refine blk_alloc ?_ _); refine blk_put (cs := #[.int .i64 x_00_1, .int .i64 x_01_1, .int .i64 x_02_1, .int .i64 x_03_1, .int .i64 x_04_1, .int .i64 x_05_1, .int .i64 x_06_1, .int .i64 0, .int .i64 0, .int .i64 0, .int .i64 0, .int .i64 0]) ?_ 7 _ rfl; (with_reducible repeat first|refine blk_drewN ?_ _|refine blk_drew ?_|refine blk_alloc ?_ _); refine blk_put (cs := #[.int .i64 x_00_1, .int .i64 x_01_1, .int .i64 x_02_1, .int .i64 x_03_1, .int .i64 x_04_1, .int .i64 x_05_1, .int .i64 0, .int .i64 0, .int .i64 0, .int .i64 0, .int .i64 0, .int .i64 0]) ?_ 6 _ rfl; (with_reducible repeat first|refine blk_drewN ?_ _|refine blk_drew ?_|refine blk_alloc ?_ _); refine blk_put (cs := #[.int .i64 x_00_1, .int .i64 x_01_1, .int .i64 x_02_1, .int .i64 x_03_1, .int .i64 x_04_1, .int .i64 0, .int .i64 0, .int .i64 0, .int .i64 0, .int .i64 0, .int .i64 0, .int .i64 0]) ?_ 5 _ rfl; (with_reducible repeat first|refine blk_drewN ?_ _|refine blk_drew ?_|refine blk_alloc ?_ _); refine blk_put (cs := #[.int .i64 x_00_1, .int .i64 x_01_1, .int .i64 x_02_1, .int .i64 x_03_1, .int .i64 0, .int .i64 0, .int .i64 0, .int .i64 0, .int .i64 0, .int .i64 0, .int .i64 0, .int .i64 0]) ?_ 4 _ rfl; (with_reducible repeat first|refine blk_drewN ?_ _|refine blk_drew ?_|refine blk_alloc ?_ _); refine blk_put (cs := #[.int .i64 x_00_1, .int .i64 x_01_1, .int .i64 x_02_1, .int .i64 0, .int .i64 0, .int .i64 0, .int .i64 0, .int .i64 0, .int .i64 0, .int .i64 0, .int .i64 0, .int .i64 0]) ?_ 3 _ rfl; (with_reducible repeat first|refine blk_drewN ?_ _|refine blk_drew ?_|refine blk_alloc ?_ _); refine blk_put (cs := #[.int .i64 x_00_1, .int .i64 x_01_1, .int .i64 0, .int .i64 0, .int .i64 0, .int .i64 0, .int .i64 0, .int .i64 0, .int .i64 0, .int .i64 0, .int .i64 0, .int .i64 0]) ?_ 2 _ rfl; (with_reducible repeat first|refine blk_drewN ?_ _|refine blk_drew ?_|refine blk_alloc ?_ _); refine blk_put (cs := #[.int .i64 x_00_1, .int .i64 0, .int .i64 0, .int .i64 0, .int .i64 0, .int .i64 0, .int .i64 0, .int .i64 0, .int .i64 0, .int .i64 0, .int .i64 0, .int .i64 0]) ?_ 1 _ rfl; (with_reducible repeat first|refine blk_drewN ?_ _|refine blk_drew ?_|refine blk_alloc ?_ _); refine blk_put (cs := #[.int .i64 0, .int .i64 0, .int .i64 0, .int .i64 0, .int .i64 0, .int .i64 0, .int .i64 0, .int .i64 0, .int .i64 0, .int .i64 0, .int .i64 0, .int .i64 0]) ?_ 0 _ rfl; (with_reducible repeat first|refine blk_drewN ?_ _|refine blk_drew ?_|refine blk_alloc ?_ _); exact BK239.out))⟩; have n2_ : Aside0 (IsS81 w0 w131 g s_ s0_1) := ⟨(by rw [hw]; exact (by repeat (first | (with_reducible first | exact HI0.out | apply IsS81.alloc | apply IsS81.drewN | apply IsS81.drew | refine IsS81.far ?_ NB0_238.out _ | refine IsS81.far ?_ NB0_239.out _) | exact HI0.out)))⟩; have n3_ : Aside0 (KeepBut w w131 g none) := ⟨(by rw [hw]; exact (by repeat (first | (with_reducible first | exact HK.out | apply KeepBut.set_ | apply keep_drewN | apply keep_drew | apply keep_alloc | refine keep_far ?_ GW238.out _ | refine keep_far ?_ GW239.out _) | exact HK.out)))⟩; have n4_ : Aside0 (Below w0.heap.size w0 w131) := ⟨(by rw [hw]; exact (by repeat (first | (with_reducible first | exact HB.out | apply below_alloc | apply pw_below_drewN | apply below_drew1 | refine below_set ?_ (IsS81.ge HI0.out) | refine below_set ?_ GE238.out | refine below_set ?_ GE239.out) | exact HB.out)))⟩; clear hw; clear BK238; clear BK239; clear HI0; clear HK; clear HB; have BK238 := n0_; have BK239 := n1_; have HI0 := n2_; have HK := n3_; have HB := n4_; clear n0_ n1_ n2_ n3_ n4_))
    refine bodyPost_ret (results_cell_row rfl _ _ gb239 102 #[.int .i64 x_00_1, .int .i64 x_01_1, .int .i64 x_02_1, .int .i64 x_03_1, .int .i64 x_04_1, .int .i64 x_05_1, .int .i64 x_06_1, .int .i64 x_07_1, .int .i64 x_08_1, .int .i64 x_09_1, .int .i64 x_10_1, .int .i64 x_11_1] (0, 0) _ rfl (by (with_reducible repeat first|refine blk_drewN ?_ _|refine blk_drew ?_|refine blk_alloc ?_ _); exact BK239.out) Try.underlying102 rfl (by kernel_rfl)) rfl ?_
    exact ⟨by first | rfl | (simp [errW_none, errW_some] <;> rfl) | (simp [*, errW_none, errW_some] <;> rfl), by repeat (first | (with_reducible first | exact HI0.out | apply IsS81.alloc | apply IsS81.drewN | apply IsS81.drew | refine IsS81.far ?_ NB0_238.out _ | refine IsS81.far ?_ NB0_239.out _) | exact HI0.out), by repeat (first | (with_reducible first | exact HB.out | apply below_alloc | apply pw_below_drewN | apply below_drew1 | refine below_set ?_ (IsS81.ge HI0.out) | refine below_set ?_ GE238.out | refine below_set ?_ GE239.out) | exact HB.out), by repeat (first | (with_reducible first | exact HK.out | apply KeepBut.set_ | apply keep_drewN | apply keep_drew | apply keep_alloc | refine keep_far ?_ GW238.out _ | refine keep_far ?_ GW239.out _) | exact HK.out)⟩

end Go.Proofs.Ytamaejafddmagaa.PA
