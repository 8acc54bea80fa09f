import Derived.Test.YtfgpffocieegdaaPAx0
import Derived.Test.YtfgpffocieegdaaPAx2
import Derived.Test.YtfgpffocieegdaaPAx3
import Derived.Test.YtfgpffocieegdaaGw
import Derived.Test.YtfgpffocieegdaaGm
import Derived.Test.YtfgpffocieegdaaGc
import Derived.Test.YtfgpffocieegdaaPAx4d
namespace Go.Proofs.Ytfgpffocieegdaa.PA
open Go.RowKit Go.Proofs.YtfgpffocieegdaaW.PrintWords Go.Proofs.YtfgpffocieegdaaW.PrintLast Go.Proofs.YtfgpffocieegdaaW.PrintMore
attribute [local go_sem] max2_int min2_int max_two min_two max_three min_three max_four min_four   -- for this text's walks alone
set_option linter.unusedVariables false
set_option linter.unusedSimpArgs false

theorem zL4 {p q : Prop} (h : q) (t : q → p := by intro h_; (with_reducible repeat first|refine blk_drewN ?_ _|refine blk_drew ?_|refine blk_alloc ?_ _); exact h_) : p := t h
theorem z4_1 {p : Prop} (h : p := by repeat (first | (with_reducible first | exact HB.out | apply below_alloc | apply pw_below_drewN | apply below_drew1 | refine below_set ?_ (IsS79.ge HI0.out) | refine below_set ?_ GE163.out | refine below_set ?_ GE164.out | refine below_set ?_ GE166.out) | exact HB.out)) : p := h
theorem z4_2 {p : Prop} (h : p := by repeat (first | (with_reducible first | exact HK.out | apply KeepBut.set_ | apply keep_drewN | apply keep_drew | apply keep_alloc | refine keep_far ?_ GW163.out _ | refine keep_far ?_ GW164.out _ | refine keep_far ?_ GW166.out _) | exact HK.out)) : p := h
theorem z4_3 {p : Prop} (h : p := by repeat (first | (with_reducible first | exact HI0.out | apply IsS79.alloc | apply IsS79.drewN | apply IsS79.drew | refine IsS79.far ?_ aA.out _ | refine IsS79.far ?_ aG.out _ | refine IsS79.far ?_ aE.out _) | exact HI0.out)) : p := h
theorem z4_4 {p : Prop} (h : p := by (try simp only [List.map_toArray, List.map_cons, List.map_nil]); first | done | rfl | (simp only [List.length_drop, List.length_take]; rfl)) : p := h
theorem z4_5 {p : Prop} (h : p := by repeat (first | (with_reducible first | exact HK.out | apply KeepBut.set_ | apply keep_drewN | apply keep_drew | apply keep_alloc | refine keep_far ?_ GW163.out _ | refine keep_far ?_ GW164.out _) | exact HK.out)) : p := h
theorem z4_6 {p : Prop} (h : p := by repeat (first | (with_reducible first | exact HB.out | apply below_alloc | apply pw_below_drewN | apply below_drew1 | refine below_set ?_ (IsS79.ge HI0.out) | refine below_set ?_ GE163.out | refine below_set ?_ GE164.out) | exact HB.out)) : p := h
theorem z4_7 {p : Prop} (h : p := by repeat (first | (with_reducible first | exact HI0.out | apply IsS79.alloc | apply IsS79.drewN | apply IsS79.drew | refine IsS79.far ?_ aA.out _ | refine IsS79.far ?_ aG.out _) | exact HI0.out)) : p := h
theorem z4_8 {p : Prop} (h : p := by first | rfl | (simp; done) | (simp [*]; done) | (simp; unfold wrap64; omega)) : p := h
theorem z4_9 {p : Prop} (h : p := by have := HK1.out; have := HJ8.out; have := HK3.out; omega) : p := h
theorem z4_10 {p : Prop} (h : p := by repeat (first | (with_reducible first | exact HK.out | apply KeepBut.set_ | apply keep_drewN | apply keep_drew | apply keep_alloc | refine keep_far ?_ GW163.out _) | exact HK.out)) : p := h
theorem z4_11 {p : Prop} (h : p := by repeat (first | (with_reducible first | exact HK.out | apply KeepBut.set_ | apply keep_drewN | apply keep_drew | apply keep_alloc) | exact HK.out)) : p := h
theorem z4_12 {p : Prop} (h : p := by first | rfl | (simp; done) | (simp [*]; done)) : p := h
theorem z4_13 {p : Prop} (h : p := by have := HK1.out; first | omega | exact Nat.le_refl _) : p := h
set_option maxHeartbeats 8000000 in
set_option maxRecDepth 100000 in
theorem impl_span_less.calls (k : Nat) (g : Nat) (s_ : List (S81)) (s0_1 : List Int) (a1_0 : Int) (a1_1 : Int) (a1_2 : Int) (a1_3 : Int) (a1_4 : Int) (a1_5 : Int) (a1_6 : Int) (a1_7 : Int) (a1_8 : Int) (a1_9 : Int) (a1_10 : Int) (a1_11 : Int) (r1 : Int) (r2 : Int) (r3 : Int) (r4 : Int) (r5 : Int) (r6 : Int) (r7 : Int) (r8 : Int) (r9 : Int) (r10 : Int) (r11 : Int) (r12 : Int) (w0 w : World) (hI : IsS79 w0 w g s_ s0_1) (hB : Below w0.heap.size w0 w) (h : impl_span_less.f k s_ s0_1 a1_0 a1_1 a1_2 a1_3 a1_4 a1_5 a1_6 a1_7 a1_8 a1_9 a1_10 a1_11 = some (r1, r2, r3, r4, r5, r6, r7, r8, r9, r10, r11, r12)) :
  Calls Try.prog 55 #[.pointer (some ⟨g, 0, none⟩), .agg #[.int .i64 a1_0, .int .i64 a1_1, .int .i64 a1_2, .int .i64 a1_3, .int .i64 a1_4, .int .i64 a1_5, .int .i64 a1_6, .int .i64 a1_7, .int .i64 a1_8, .int .i64 a1_9, .int .i64 a1_10, .int .i64 a1_11]] w fun e w' => e = .returned (.agg #[.int .i64 r1, .int .i64 r2, .int .i64 r3, .int .i64 r4, .int .i64 r5, .int .i64 r6, .int .i64 r7, .int .i64 r8, .int .i64 r9, .int .i64 r10, .int .i64 r11, .int .i64 r12]) ∧ IsS79 w0 w' g s_ s0_1 ∧ Below w0.heap.size w0 w' ∧ KeepBut w w' g none := by
 have hu81 := Try.underlying81
 have hu54 := Try.underlying54
 have HI0 := Aside0.mk hI
 have HK := Aside0.mk (KeepBut.refl w g none)
 have HL := Aside0.mk hB.size
 clear hI
 have HW0 := Aside0.mk hB.size
 have HB := Aside0.mk hB
 clear hB
 try unfold impl_span_less.f at h
 have H := h
 clear h
 have H' := Aside0.mk H
 clear H
 go_enter Try.func55, Try.ntmps55
 go_wp2_with (first | ((with_reducible refine gate_dst (N := 3) rfl ?_); refine box_event ?hg (N := 3) ?hd (cs := #[.int .i64 a1_0, .int .i64 a1_1, .int .i64 a1_2, .int .i64 a1_3, .int .i64 a1_4, .int .i64 a1_5, .int .i64 a1_6, .int .i64 a1_7, .int .i64 a1_8, .int .i64 a1_9, .int .i64 a1_10, .int .i64 a1_11]) (t := 81) ?hr ?_; (case hd => rfl); (case hg => rfl); (case hr => first | (go_simp; done) | (go_simp; rfl)); intro gb163 hg w3 hbox hb; replace HB := Aside0.mk (below_step (by repeat (first | (with_reducible first | exact HB.out | apply below_alloc | apply pw_below_drewN | apply below_drew1 | refine below_set ?_ (IsS79.ge HI0.out)) | exact HB.out)) hb); have BK163 := Aside0.mk (hbox); have GW163 := Aside0.mk ((by rw [hg]; exact (keep_size (w := w) (g := g) (row := none) z4_11) : w.heap.size ≤ gb163)); have GE163 := Aside0.mk ((Nat.le_trans HW0.out (by rw [hg]; exact (keep_size (w := w) (g := g) (row := none) z4_11) : w.heap.size ≤ gb163) : w0.heap.size ≤ gb163)); replace HK := Aside0.mk (KeepBut.trans z4_11 (KeepBut.of_below hb g none) (.inl rfl)); have aA := Aside0.mk ((by rw [hg]; exact Nat.ne_of_lt (IsS79.lt (show IsS79 w0 _ g s_ s0_1 from by repeat (first | (with_reducible first | exact HI0.out | apply IsS79.alloc | apply IsS79.drewN | apply IsS79.drew) | exact HI0.out))) : g ≠ gb163)); have aD := Aside0.mk ((by rw [hg]; exact Nat.ne_of_gt (IsS79.lt (show IsS79 w0 _ g s_ s0_1 from by repeat (first | (with_reducible first | exact HI0.out | apply IsS79.alloc | apply IsS79.drewN | apply IsS79.drew) | exact HI0.out))) : gb163 ≠ g)); replace HI0 := Aside0.mk (IsS79.below (by repeat (first | (with_reducible first | exact HI0.out | apply IsS79.alloc | apply IsS79.drewN | apply IsS79.drew) | exact HI0.out)) hb); clear hb hbox hg) | ((with_reducible refine gate_dst (N := 4) rfl ?_); refine box_event ?hg (N := 4) ?hd (cs := #[.int .i64 0, .int .i64 0, .int .i64 0, .int .i64 0, .int .i64 0, .int .i64 0, .int .i64 0, .int .i64 0, .int .i64 0, .int .i64 0, .int .i64 0, .int .i64 0]) (t := 81) ?hr ?_; (case hd => rfl); (case hg => rfl); (case hr => first | (go_simp; done) | (go_simp; rfl)); intro gb164 hg w4 hbox hb; replace HB := Aside0.mk (below_step (by repeat (first | (with_reducible first | exact HB.out | apply below_alloc | apply pw_below_drewN | apply below_drew1 | refine below_set ?_ (IsS79.ge HI0.out) | refine below_set ?_ GE163.out) | exact HB.out)) hb); have BK164 := Aside0.mk (hbox); have GW164 := Aside0.mk ((by rw [hg]; exact (keep_size (w := w) (g := g) (row := none) z4_10) : w.heap.size ≤ gb164)); have GE164 := Aside0.mk ((Nat.le_trans HW0.out (by rw [hg]; exact (keep_size (w := w) (g := g) (row := none) z4_10) : w.heap.size ≤ gb164) : w0.heap.size ≤ gb164)); replace HK := Aside0.mk (KeepBut.trans z4_10 (KeepBut.of_below hb g none) (.inl rfl)); have ao := Aside0.mk ((by rw [hg]; exact bLZ_ BK163 : gb163 ≠ gb164)); have aa := Aside0.mk ((by rw [hg]; exact bGZ_ BK163 : gb164 ≠ gb163)); replace BK163 := bBZ_ BK163 hb; have aG := Aside0.mk ((by rw [hg]; exact Nat.ne_of_lt (IsS79.lt (show IsS79 w0 _ g s_ s0_1 from by repeat (first | (with_reducible first | exact HI0.out | apply IsS79.alloc | apply IsS79.drewN | apply IsS79.drew | refine IsS79.far ?_ aA.out _) | exact HI0.out))) : g ≠ gb164)); have NB164_0 := Aside0.mk ((by rw [hg]; exact Nat.ne_of_gt (IsS79.lt (show IsS79 w0 _ g s_ s0_1 from by repeat (first | (with_reducible first | exact HI0.out | apply IsS79.alloc | apply IsS79.drewN | apply IsS79.drew | refine IsS79.far ?_ aA.out _) | exact HI0.out))) : gb164 ≠ g)); replace HI0 := Aside0.mk (IsS79.below (by repeat (first | (with_reducible first | exact HI0.out | apply IsS79.alloc | apply IsS79.drewN | apply IsS79.drew | refine IsS79.far ?_ aA.out _) | exact HI0.out)) hb); clear hb hbox hg; obtain ⟨ASz5_0, cSz5_0, ASz5_1, cSz5_1, HGz5, hgz5, HSz5_0, HSz5_1⟩ := HI0.out; have aL := cellS79_0 HGz5; have aM := cellS79_1 HGz5; clear HGz5 hgz5))
 go_loopg [14] k (fun kq v14 w' => ∃ (i_ : Int) (ak : Int) (al : Int) (am : Int) (an : Int) (aq : Int) (ar : Int) (au : Int) (av : Int) (aw : Int) (ax : Int) (ay : Int) (az : Int), v14 = .int .i64 i_ ∧ Aside0 (impl_span_less.l0 kq s_ (s_.length : Int) i_ ak al am an aq ar au av aw ax ay az = some (r1, r2, r3, r4, r5, r6, r7, r8, r9, r10, r11, r12)) ∧ Aside0 (kq ≤ k) ∧ Aside0 (w'.heap[gb163]? = some (.cells #[.int .i64 ak, .int .i64 al, .int .i64 am, .int .i64 an, .int .i64 aq, .int .i64 ar, .int .i64 au, .int .i64 av, .int .i64 aw, .int .i64 ax, .int .i64 ay, .int .i64 az] 81 (0, 0))) ∧ Aside0 (w'.heap[gb164]? = some (.cells #[.int .i64 0, .int .i64 0, .int .i64 0, .int .i64 0, .int .i64 0, .int .i64 0, .int .i64 0, .int .i64 0, .int .i64 0, .int .i64 0, .int .i64 0, .int .i64 0] 81 (0, 0))) ∧ Aside0 (IsS79 w0 w' g s_ s0_1) ∧ Aside0 (KeepBut w w' g none) ∧ Aside0 (Below w0.heap.size w0 w'))
 case atStart => exact ⟨(0), (a1_0), (a1_1), (a1_2), (a1_3), (a1_4), (a1_5), (a1_6), (a1_7), (a1_8), (a1_9), (a1_10), (a1_11), z4_12, H', ⟨Nat.le_refl _⟩, ⟨zL4 BK163.out⟩, ⟨zL4 BK164.out⟩, ⟨z4_7⟩, ⟨z4_5⟩, ⟨z4_6⟩⟩
 case round =>
  clear H'
  try clear aL aM
  obtain ⟨i_, ak, al, am, an, aq, ar, au, av, aw, ax, ay, az, rfl, HA, HK1, BK163, BK164, HI0, HK, HB⟩ := hrel
  cases gk with
  | zero => exact absurd HA.out (by simp [impl_span_less.l0])
  | succ k1 =>
   have H := HA.out
   clear HA; simp only [impl_span_less.l0] at H
   by_cases c6 : i_ < (s_.length : Int)
   ·rw [if_pos c6] at H
    have c6b0 : decide (i_ < (s_.length : Int)) = true := decide_eq_true c6; clear c6; obtain ⟨c7, H⟩ := ifP H; have c7b0 : decide (0 ≤ i_) = true := decide_eq_true c7; clear c7; obtain ⟨c8, H⟩ := ifP H; have c8b0 : decide (i_ < (s_.length : Int)) = true := decide_eq_true c8; clear c8
    have HC9 := Aside0.mk H
    clear H; obtain ⟨ASz10_0, cSz10_0, ASz10_1, cSz10_1, HGz10, hgz10, HSz10_0, HSz10_1⟩ := HI0.out
    have aN := cellS79_0 HGz10
    have aO := cellS79_1 HGz10
    clear HGz10 hgz10; have p165 : 0 ≤ (i_ : Int) := of_decide_eq_true (by first | (with_reducible assumption) | assumption); have q165 : i_ < (s_.length : Int) := of_decide_eq_true (by first | (with_reducible assumption) | assumption); obtain ⟨ad165, e165, hx165_0, hx165_1, hx165_2, hx165_3, hx165_4, hx165_5, hx165_6, hx165_7, hx165_8, hx165_9, hx165_10, hx165_11⟩ := at_T81 HSz5_0 i_ p165 q165; cases e165
    replace hx165_0 := pw_cell_below HB.out hx165_0
    replace hx165_1 := pw_cell_below HB.out hx165_1
    replace hx165_2 := pw_cell_below HB.out hx165_2
    replace hx165_3 := pw_cell_below HB.out hx165_3
    replace hx165_4 := pw_cell_below HB.out hx165_4
    replace hx165_5 := pw_cell_below HB.out hx165_5
    replace hx165_6 := pw_cell_below HB.out hx165_6
    replace hx165_7 := pw_cell_below HB.out hx165_7
    replace hx165_8 := pw_cell_below HB.out hx165_8
    replace hx165_9 := pw_cell_below HB.out hx165_9
    replace hx165_10 := pw_cell_below HB.out hx165_10
    replace hx165_11 := pw_cell_below HB.out hx165_11
    replace p165 := eq_true p165
    replace q165 := eq_true q165
    go_upto_region 4 with (first | ((with_reducible refine gate_dst (N := 6) rfl ?_); refine box_event ?hg (N := 6) ?hd (cs := #[.int .i64 0, .int .i64 0, .int .i64 0, .int .i64 0, .int .i64 0, .int .i64 0, .int .i64 0, .int .i64 0, .int .i64 0, .int .i64 0, .int .i64 0, .int .i64 0]) (t := 81) ?hr ?_; (case hd => rfl); (case hg => rfl); (case hr => first | (go_simp; done) | (go_simp; rfl)); intro gb166 hg w11 hbox hb; replace HB := Aside0.mk (below_step z4_6 hb); have BK166 := Aside0.mk (hbox); have GW166 := Aside0.mk ((by rw [hg]; exact (keep_size (w := w) (g := g) (row := none) z4_5) : w.heap.size ≤ gb166)); have GE166 := Aside0.mk ((Nat.le_trans HW0.out (by rw [hg]; exact (keep_size (w := w) (g := g) (row := none) z4_5) : w.heap.size ≤ gb166) : w0.heap.size ≤ gb166)); replace HK := Aside0.mk (KeepBut.trans z4_5 (KeepBut.of_below hb g none) (.inl rfl)); have ap := Aside0.mk ((by rw [hg]; exact bLZ_ BK163 : gb163 ≠ gb166)); have ab := Aside0.mk ((by rw [hg]; exact bGZ_ BK163 : gb166 ≠ gb163)); replace BK163 := bBZ_ BK163 hb; have aB := Aside0.mk ((by rw [hg]; exact bLZ_ BK164 : gb164 ≠ gb166)); have aC := Aside0.mk ((by rw [hg]; exact bGZ_ BK164 : gb166 ≠ gb164)); replace BK164 := bBZ_ BK164 hb; have aE := Aside0.mk ((by rw [hg]; exact Nat.ne_of_lt (IsS79.lt (show IsS79 w0 _ g s_ s0_1 from by repeat (first | (with_reducible first | exact HI0.out | apply IsS79.alloc | apply IsS79.drewN | apply IsS79.drew | refine IsS79.far ?_ aA.out _ | refine IsS79.far ?_ aG.out _) | exact HI0.out))) : g ≠ gb166)); have aF := Aside0.mk ((by rw [hg]; exact Nat.ne_of_gt (IsS79.lt (show IsS79 w0 _ g s_ s0_1 from by repeat (first | (with_reducible first | exact HI0.out | apply IsS79.alloc | apply IsS79.drewN | apply IsS79.drew | refine IsS79.far ?_ aA.out _ | refine IsS79.far ?_ aG.out _) | exact HI0.out))) : gb166 ≠ g)); replace HI0 := Aside0.mk (IsS79.below z4_7 hb); clear hb hbox hg; have hnb12 := ab.out; have hnc12 := ap.out; have hnb13 := aC.out; have hnc13 := aB.out; have hnb14 := aF.out; have hnc14 := aE.out; have aP : w11.cell? ⟨gb166, 0, none⟩ = some (.int .i64 0) := bA4 BK166 rfl; have aQ := blk_frozen BK166.out 0; have aR : w11.cell? ⟨gb166, 1, none⟩ = some (.int .i64 0) := bA4 BK166 rfl; have aS := blk_frozen BK166.out 1; have aT : w11.cell? ⟨gb166, 2, none⟩ = some (.int .i64 0) := bA4 BK166 rfl; have aU := blk_frozen BK166.out 2; have aV : w11.cell? ⟨gb166, 3, none⟩ = some (.int .i64 0) := bA4 BK166 rfl; have aW := blk_frozen BK166.out 3; have aX : w11.cell? ⟨gb166, 4, none⟩ = some (.int .i64 0) := bA4 BK166 rfl; have aY := blk_frozen BK166.out 4; have aZ : w11.cell? ⟨gb166, 5, none⟩ = some (.int .i64 0) := bA4 BK166 rfl; have a0 := blk_frozen BK166.out 5; have a1 : w11.cell? ⟨gb166, 6, none⟩ = some (.int .i64 0) := bA4 BK166 rfl; have a2 := blk_frozen BK166.out 6; have a3 : w11.cell? ⟨gb166, 7, none⟩ = some (.int .i64 0) := bA4 BK166 rfl; have a4 := blk_frozen BK166.out 7; have a5 : w11.cell? ⟨gb166, 8, none⟩ = some (.int .i64 0) := bA4 BK166 rfl; have a6 := blk_frozen BK166.out 8; have a7 : w11.cell? ⟨gb166, 9, none⟩ = some (.int .i64 0) := bA4 BK166 rfl; have a8 := blk_frozen BK166.out 9; have aH : w11.cell? ⟨gb166, 10, none⟩ = some (.int .i64 0) := bA4 BK166 rfl; have aI := blk_frozen BK166.out 10; have aJ : w11.cell? ⟨gb166, 11, none⟩ = some (.int .i64 0) := bA4 BK166 rfl; have aK := blk_frozen BK166.out 11) | ((with_reducible refine gate_store (t := 81) (p := 6) rfl ?_); refine store_event (t := 81) (p := 6) (v := ?vo_w27) (w1 := ((((((((((((w11.setCell ⟨gb166, 0, none⟩ (.int .i64 ((rd_T81 s_ i_).f0.f0))).setCell ⟨gb166, 1, none⟩ (.int .i64 ((rd_T81 s_ i_).f0.f1))).setCell ⟨gb166, 2, none⟩ (.int .i64 ((rd_T81 s_ i_).f0.f2))).setCell ⟨gb166, 3, none⟩ (.int .i64 ((rd_T81 s_ i_).f0.f3))).setCell ⟨gb166, 4, none⟩ (.int .i64 ((rd_T81 s_ i_).f1.f0))).setCell ⟨gb166, 5, none⟩ (.int .i64 ((rd_T81 s_ i_).f1.f1))).setCell ⟨gb166, 6, none⟩ (.int .i64 ((rd_T81 s_ i_).f1.f2))).setCell ⟨gb166, 7, none⟩ (.int .i64 ((rd_T81 s_ i_).f1.f3))).setCell ⟨gb166, 8, none⟩ (.int .i64 ((rd_T81 s_ i_).f1.f4))).setCell ⟨gb166, 9, none⟩ (.int .i64 ((rd_T81 s_ i_).f1.f5))).setCell ⟨gb166, 10, none⟩ (.int .i64 ((rd_T81 s_ i_).f1.f6))).setCell ⟨gb166, 11, none⟩ (.int .i64 ((rd_T81 s_ i_).f1.f7)))) ?hg ?ho ?hn ?hr ?_; (case ho => rfl); (case hg => rfl); (case hn => rfl); (case hr => first | (go_simp; done) | (go_simp; rfl)); intro w27 hw; have n0_ : Aside0 (w27.heap[gb163]? = some (.cells #[.int .i64 ak, .int .i64 al, .int .i64 am, .int .i64 an, .int .i64 aq, .int .i64 ar, .int .i64 au, .int .i64 av, .int .i64 aw, .int .i64 ax, .int .i64 ay, .int .i64 az] 81 (0, 0))) := ⟨(by rw [hw]; exact (gZ ap.out BK163.out))⟩; have n1_ : Aside0 (w27.heap[gb164]? = some (.cells #[.int .i64 0, .int .i64 0, .int .i64 0, .int .i64 0, .int .i64 0, .int .i64 0, .int .i64 0, .int .i64 0, .int .i64 0, .int .i64 0, .int .i64 0, .int .i64 0] 81 (0, 0))) := ⟨(by rw [hw]; exact (gZ aB.out BK164.out))⟩; have n2_ : Aside0 (w27.heap[gb166]? = some (.cells #[.int .i64 ((rd_T81 s_ i_).f0.f0), .int .i64 ((rd_T81 s_ i_).f0.f1), .int .i64 ((rd_T81 s_ i_).f0.f2), .int .i64 ((rd_T81 s_ i_).f0.f3), .int .i64 ((rd_T81 s_ i_).f1.f0), .int .i64 ((rd_T81 s_ i_).f1.f1), .int .i64 ((rd_T81 s_ i_).f1.f2), .int .i64 ((rd_T81 s_ i_).f1.f3), .int .i64 ((rd_T81 s_ i_).f1.f4), .int .i64 ((rd_T81 s_ i_).f1.f5), .int .i64 ((rd_T81 s_ i_).f1.f6), .int .i64 ((rd_T81 s_ i_).f1.f7)] 81 (0, 0))) := ⟨(by rw [hw]; exact (bZ BK166.out))⟩; have n3_ : Aside0 (IsS79 w0 w27 g s_ s0_1) := ⟨(by rw [hw]; exact z4_3)⟩; have n4_ : Aside0 (KeepBut w w27 g none) := ⟨(by rw [hw]; exact z4_2)⟩; have n5_ : Aside0 (Below w0.heap.size w0 w27) := ⟨(by rw [hw]; exact z4_1)⟩; clear hw; clear BK163; clear BK164; clear BK166; clear HI0; clear HK; clear HB; have BK163 := n0_; have BK164 := n1_; have BK166 := n2_; have HI0 := n3_; have HK := n4_; have HB := n5_; clear n0_ n1_ n2_ n3_ n4_ n5_))
    (try simp only [Act.put, List.setIfInBounds_toArray, List.set_cons_zero, List.set_cons_succ])
    go_cut [7] (fun v7 wc => ∃ (kq : Nat) (x7_8 : Int), v7 = .int .i64 x7_8 ∧ Aside0 (impl_span_less.j1 kq x7_8 s_ (s_.length : Int) i_ ak al am an aq ar au av aw ax ay az ((rd_T81 s_ i_).f0.f0) ((rd_T81 s_ i_).f0.f1) ((rd_T81 s_ i_).f0.f2) ((rd_T81 s_ i_).f0.f3) ((rd_T81 s_ i_).f1.f0) ((rd_T81 s_ i_).f1.f1) ((rd_T81 s_ i_).f1.f2) ((rd_T81 s_ i_).f1.f3) ((rd_T81 s_ i_).f1.f4) ((rd_T81 s_ i_).f1.f5) ((rd_T81 s_ i_).f1.f6) ((rd_T81 s_ i_).f1.f7) = some (r1, r2, r3, r4, r5, r6, r7, r8, r9, r10, r11, r12)) ∧ Aside0 (kq ≤ k1) ∧ Aside0 (wc.heap[gb163]? = some (.cells #[.int .i64 ak, .int .i64 al, .int .i64 am, .int .i64 an, .int .i64 aq, .int .i64 ar, .int .i64 au, .int .i64 av, .int .i64 aw, .int .i64 ax, .int .i64 ay, .int .i64 az] 81 (0, 0))) ∧ Aside0 (wc.heap[gb164]? = some (.cells #[.int .i64 0, .int .i64 0, .int .i64 0, .int .i64 0, .int .i64 0, .int .i64 0, .int .i64 0, .int .i64 0, .int .i64 0, .int .i64 0, .int .i64 0, .int .i64 0] 81 (0, 0))) ∧ Aside0 (wc.heap[gb166]? = some (.cells #[.int .i64 ((rd_T81 s_ i_).f0.f0), .int .i64 ((rd_T81 s_ i_).f0.f1), .int .i64 ((rd_T81 s_ i_).f0.f2), .int .i64 ((rd_T81 s_ i_).f0.f3), .int .i64 ((rd_T81 s_ i_).f1.f0), .int .i64 ((rd_T81 s_ i_).f1.f1), .int .i64 ((rd_T81 s_ i_).f1.f2), .int .i64 ((rd_T81 s_ i_).f1.f3), .int .i64 ((rd_T81 s_ i_).f1.f4), .int .i64 ((rd_T81 s_ i_).f1.f5), .int .i64 ((rd_T81 s_ i_).f1.f6), .int .i64 ((rd_T81 s_ i_).f1.f7)] 81 (0, 0))) ∧ Aside0 (IsS79 w0 wc g s_ s0_1) ∧ Aside0 (KeepBut w wc g none) ∧ Aside0 (Below w0.heap.size w0 wc))
    case first =>
     have H := HC9.out
     clear HC9
     replace H := Option.bind_eq_some_iff.mp H
     obtain ⟨t167, A280, H⟩ := H
     have A28 := Aside0.mk A280
     clear A280
     by_cases c29 : t167 = 0
     ·rw [if_pos c29] at H
      subst c29
      have H' := Aside0.mk H
      clear H
      have hnb30 := ab.out
      have hnc30 := ap.out
      have hnb31 := aC.out
      have hnc31 := aB.out
      have hnb32 := aF.out
      have hnc32 := aE.out
      have a9 : w27.cell? ⟨gb166, 0, none⟩ = some (.int .i64 ((rd_T81 s_ i_).f0.f0)) := bA4 BK166 rfl; have ba : w27.cell? ⟨gb166, 1, none⟩ = some (.int .i64 ((rd_T81 s_ i_).f0.f1)) := bA4 BK166 rfl; have bb : w27.cell? ⟨gb166, 2, none⟩ = some (.int .i64 ((rd_T81 s_ i_).f0.f2)) := bA4 BK166 rfl; have bc : w27.cell? ⟨gb166, 3, none⟩ = some (.int .i64 ((rd_T81 s_ i_).f0.f3)) := bA4 BK166 rfl
      have bd := blk_frozen BK166.out 0
      have be := blk_frozen BK166.out 1
      have bf := blk_frozen BK166.out 2
      have bg := blk_frozen BK166.out 3
      go_wp2_with (first | ((with_reducible refine gate_callee (f := 56) rfl ?_); refine goesL_ (some 20) rfl rfl Try.func56 (by kernel_rfl) rfl #[.agg #[.int .i64 ((rd_T81 s_ i_).f0.f0), .int .i64 ((rd_T81 s_ i_).f0.f1), .int .i64 ((rd_T81 s_ i_).f0.f2), .int .i64 ((rd_T81 s_ i_).f0.f3)]] rfl z4_4 ?_; (with_reducible refine (impl_vector_lead.calls ((rd_T81 s_ i_).f0.f0) ((rd_T81 s_ i_).f0.f1) ((rd_T81 s_ i_).f0.f2) ((rd_T81 s_ i_).f0.f3) (0 : Int) _ A28.out).mono ?_); rintro e w34 ⟨rfl, hb⟩; refine ⟨_, rfl, ?_⟩; replace BK163 := bBZ_ BK163 hb; replace BK164 := bBZ_ BK164 hb; replace BK166 := bBZ_ BK166 hb; replace HK := Aside0.mk (KeepBut.trans z4_2 (KeepBut.of_below hb g none) (.inl rfl)); replace HB := Aside0.mk (below_step z4_1 hb); replace HI0 := Aside0.mk (IsS79.below z4_3 hb); (try clear hb); have hnb35 := ao.out; have hnc35 := aa.out; have hnb36 := aD.out; have hnc36 := aA.out; have bh : w34.cell? ⟨gb163, 0, none⟩ = some (.int .i64 ak) := bA4 BK163 rfl; have bi := blk_frozen BK163.out 0))
      go_meet
      case rel => exact ⟨_, (ak), z4_12, H', ⟨z4_13⟩, ⟨zL4 BK163.out⟩, ⟨zL4 BK164.out⟩, ⟨zL4 BK166.out⟩, ⟨z4_3⟩, ⟨z4_2⟩, ⟨z4_1⟩⟩
     ·rw [if_neg c29] at H
      clear c29
      by_cases c38 : t167 = 1
      ·rw [if_pos c38] at H
       subst c38
       have H' := Aside0.mk H
       clear H
       have hnb39 := ab.out
       have hnc39 := ap.out
       have hnb40 := aC.out
       have hnc40 := aB.out
       have hnb41 := aF.out
       have hnc41 := aE.out
       have bj : w27.cell? ⟨gb166, 0, none⟩ = some (.int .i64 ((rd_T81 s_ i_).f0.f0)) := bA4 BK166 rfl; have bk : w27.cell? ⟨gb166, 1, none⟩ = some (.int .i64 ((rd_T81 s_ i_).f0.f1)) := bA4 BK166 rfl; have bl : w27.cell? ⟨gb166, 2, none⟩ = some (.int .i64 ((rd_T81 s_ i_).f0.f2)) := bA4 BK166 rfl; have bm : w27.cell? ⟨gb166, 3, none⟩ = some (.int .i64 ((rd_T81 s_ i_).f0.f3)) := bA4 BK166 rfl
       have bn := blk_frozen BK166.out 0
       have bo := blk_frozen BK166.out 1
       have bp := blk_frozen BK166.out 2
       have bq := blk_frozen BK166.out 3
       go_wp2_with (first | ((with_reducible refine gate_callee (f := 56) rfl ?_); refine goesL_ (some 20) rfl rfl Try.func56 (by kernel_rfl) rfl #[.agg #[.int .i64 ((rd_T81 s_ i_).f0.f0), .int .i64 ((rd_T81 s_ i_).f0.f1), .int .i64 ((rd_T81 s_ i_).f0.f2), .int .i64 ((rd_T81 s_ i_).f0.f3)]] rfl z4_4 ?_; (with_reducible refine (impl_vector_lead.calls ((rd_T81 s_ i_).f0.f0) ((rd_T81 s_ i_).f0.f1) ((rd_T81 s_ i_).f0.f2) ((rd_T81 s_ i_).f0.f3) (1 : Int) _ A28.out).mono ?_); rintro e w43 ⟨rfl, hb⟩; refine ⟨_, rfl, ?_⟩; replace BK163 := bBZ_ BK163 hb; replace BK164 := bBZ_ BK164 hb; replace BK166 := bBZ_ BK166 hb; replace HK := Aside0.mk (KeepBut.trans z4_2 (KeepBut.of_below hb g none) (.inl rfl)); replace HB := Aside0.mk (below_step z4_1 hb); replace HI0 := Aside0.mk (IsS79.below z4_3 hb); (try clear hb); have hnb44 := ao.out; have hnc44 := aa.out; have hnb45 := aD.out; have hnc45 := aA.out; have br : w43.cell? ⟨gb163, 1, none⟩ = some (.int .i64 al) := bA4 BK163 rfl; have bs := blk_frozen BK163.out 1))
       go_meet
       case rel => exact ⟨_, (al), z4_12, H', ⟨z4_13⟩, ⟨zL4 BK163.out⟩, ⟨zL4 BK164.out⟩, ⟨zL4 BK166.out⟩, ⟨z4_3⟩, ⟨z4_2⟩, ⟨z4_1⟩⟩
      ·rw [if_neg c38] at H
       clear c38
       by_cases c47 : t167 = 2
       ·rw [if_pos c47] at H
        subst c47
        have H' := Aside0.mk H
        clear H
        have hnb48 := ab.out
        have hnc48 := ap.out
        have hnb49 := aC.out
        have hnc49 := aB.out
        have hnb50 := aF.out
        have hnc50 := aE.out
        have bt : w27.cell? ⟨gb166, 0, none⟩ = some (.int .i64 ((rd_T81 s_ i_).f0.f0)) := bA4 BK166 rfl; have bu : w27.cell? ⟨gb166, 1, none⟩ = some (.int .i64 ((rd_T81 s_ i_).f0.f1)) := bA4 BK166 rfl; have bv : w27.cell? ⟨gb166, 2, none⟩ = some (.int .i64 ((rd_T81 s_ i_).f0.f2)) := bA4 BK166 rfl; have bw : w27.cell? ⟨gb166, 3, none⟩ = some (.int .i64 ((rd_T81 s_ i_).f0.f3)) := bA4 BK166 rfl
        have bx := blk_frozen BK166.out 0
        have bz := blk_frozen BK166.out 1
        have bA := blk_frozen BK166.out 2
        have bB := blk_frozen BK166.out 3
        go_wp2_with (first | ((with_reducible refine gate_callee (f := 56) rfl ?_); refine goesL_ (some 20) rfl rfl Try.func56 (by kernel_rfl) rfl #[.agg #[.int .i64 ((rd_T81 s_ i_).f0.f0), .int .i64 ((rd_T81 s_ i_).f0.f1), .int .i64 ((rd_T81 s_ i_).f0.f2), .int .i64 ((rd_T81 s_ i_).f0.f3)]] rfl z4_4 ?_; (with_reducible refine (impl_vector_lead.calls ((rd_T81 s_ i_).f0.f0) ((rd_T81 s_ i_).f0.f1) ((rd_T81 s_ i_).f0.f2) ((rd_T81 s_ i_).f0.f3) (2 : Int) _ A28.out).mono ?_); rintro e w52 ⟨rfl, hb⟩; refine ⟨_, rfl, ?_⟩; replace BK163 := bBZ_ BK163 hb; replace BK164 := bBZ_ BK164 hb; replace BK166 := bBZ_ BK166 hb; replace HK := Aside0.mk (KeepBut.trans z4_2 (KeepBut.of_below hb g none) (.inl rfl)); replace HB := Aside0.mk (below_step z4_1 hb); replace HI0 := Aside0.mk (IsS79.below z4_3 hb); (try clear hb); have hnb53 := ao.out; have hnc53 := aa.out; have hnb54 := aD.out; have hnc54 := aA.out; have bC : w52.cell? ⟨gb163, 2, none⟩ = some (.int .i64 am) := bA4 BK163 rfl; have bD := blk_frozen BK163.out 2))
        go_meet
        case rel => exact ⟨_, (am), z4_12, H', ⟨z4_13⟩, ⟨zL4 BK163.out⟩, ⟨zL4 BK164.out⟩, ⟨zL4 BK166.out⟩, ⟨z4_3⟩, ⟨z4_2⟩, ⟨z4_1⟩⟩
       ·rw [if_neg c47] at H
        clear c47; obtain ⟨c56, H⟩ := ifP H; subst c56
        have H' := Aside0.mk H
        clear H
        have hnb57 := ab.out
        have hnc57 := ap.out
        have hnb58 := aC.out
        have hnc58 := aB.out
        have hnb59 := aF.out
        have hnc59 := aE.out
        have bE : w27.cell? ⟨gb166, 0, none⟩ = some (.int .i64 ((rd_T81 s_ i_).f0.f0)) := bA4 BK166 rfl; have bF : w27.cell? ⟨gb166, 1, none⟩ = some (.int .i64 ((rd_T81 s_ i_).f0.f1)) := bA4 BK166 rfl; have bG : w27.cell? ⟨gb166, 2, none⟩ = some (.int .i64 ((rd_T81 s_ i_).f0.f2)) := bA4 BK166 rfl; have bH : w27.cell? ⟨gb166, 3, none⟩ = some (.int .i64 ((rd_T81 s_ i_).f0.f3)) := bA4 BK166 rfl
        have bI := blk_frozen BK166.out 0
        have bJ := blk_frozen BK166.out 1
        have bK := blk_frozen BK166.out 2
        have bL := blk_frozen BK166.out 3
        go_wp2_with (first | ((with_reducible refine gate_callee (f := 56) rfl ?_); refine goesL_ (some 20) rfl rfl Try.func56 (by kernel_rfl) rfl #[.agg #[.int .i64 ((rd_T81 s_ i_).f0.f0), .int .i64 ((rd_T81 s_ i_).f0.f1), .int .i64 ((rd_T81 s_ i_).f0.f2), .int .i64 ((rd_T81 s_ i_).f0.f3)]] rfl z4_4 ?_; (with_reducible refine (impl_vector_lead.calls ((rd_T81 s_ i_).f0.f0) ((rd_T81 s_ i_).f0.f1) ((rd_T81 s_ i_).f0.f2) ((rd_T81 s_ i_).f0.f3) (3 : Int) _ A28.out).mono ?_); rintro e w61 ⟨rfl, hb⟩; refine ⟨_, rfl, ?_⟩; replace BK163 := bBZ_ BK163 hb; replace BK164 := bBZ_ BK164 hb; replace BK166 := bBZ_ BK166 hb; replace HK := Aside0.mk (KeepBut.trans z4_2 (KeepBut.of_below hb g none) (.inl rfl)); replace HB := Aside0.mk (below_step z4_1 hb); replace HI0 := Aside0.mk (IsS79.below z4_3 hb); (try clear hb); have hnb62 := ao.out; have hnc62 := aa.out; have hnb63 := aD.out; have hnc63 := aA.out; have bM : w61.cell? ⟨gb163, 3, none⟩ = some (.int .i64 an) := bA4 BK163 rfl; have bN := blk_frozen BK163.out 3))
        go_meet
        case rel => exact ⟨_, (an), z4_12, H', ⟨z4_13⟩, ⟨zL4 BK163.out⟩, ⟨zL4 BK164.out⟩, ⟨zL4 BK166.out⟩, ⟨z4_3⟩, ⟨z4_2⟩, ⟨z4_1⟩⟩
    case rest =>
     clear HC9
     try clear c6
     try clear c6b0
     try clear c7
     try clear c7b0
     try clear c8
     try clear c8b0
     try clear aN aO
     try clear aP
     try clear aR
     try clear aT
     try clear aV
     try clear aX
     try clear aZ
     try clear a1
     try clear a3
     try clear a5
     try clear a7
     try clear aH
     try clear aJ
     try clear aL aM
     try clear aQ
     try clear aS
     try clear aU
     try clear aW
     try clear aY
     try clear a0
     try clear a2
     try clear a4
     try clear a6
     try clear a8
     try clear aI
     try clear aK
     try clear hx165_0 hx165_1 hx165_10 hx165_11 hx165_2 hx165_3 hx165_4 hx165_5 hx165_6 hx165_7 hx165_8 hx165_9
     try clear p165
     try clear q165
     obtain ⟨kq, x7_8, rfl, HA, HJ8, BK163, BK164, BK166, HI0, HK, HB⟩ := hcut
     cases kq with
     | zero => exact absurd HA.out (by simp [impl_span_less.j1])
     | succ kj8 =>
      have H := HA.out
      clear HA; simp only [impl_span_less.j1] at H
      replace H := Option.bind_eq_some_iff.mp H
      obtain ⟨⟨t168, t169, t170, t171⟩, A650, H⟩ := H
      dsimp only at H
      have A65 := Aside0.mk A650
      clear A650
      replace H := Option.bind_eq_some_iff.mp H
      obtain ⟨⟨t172, t173, t174, t175⟩, A660, H⟩ := H
      dsimp only at H
      have A66 := Aside0.mk A660
      clear A660
      have H' := Aside0.mk H
      clear H
      try go_wp2
      replace BK163 := Aside0.mk (blk_drew BK163.out)
      replace BK164 := Aside0.mk (blk_drew BK164.out)
      replace BK166 := Aside0.mk (blk_drew BK166.out)
      replace HI0 := Aside0.mk (IsS79.drew HI0.out)
      replace HK := Aside0.mk (keep_drew HK.out)
      replace HB := Aside0.mk (below_drew1 HB.out)
      refine start_ (n := 9) (S := fun w' => w'.cell? ⟨gb163, 0, none⟩ = some (.int .i64 ak) ∧ w'.cell? ⟨gb163, 1, none⟩ = some (.int .i64 al) ∧ w'.cell? ⟨gb163, 2, none⟩ = some (.int .i64 am) ∧ w'.cell? ⟨gb163, 3, none⟩ = some (.int .i64 an) ∧ w'.cell? ⟨gb166, 0, none⟩ = some (.int .i64 ((rd_T81 s_ i_).f0.f0)) ∧ w'.cell? ⟨gb166, 1, none⟩ = some (.int .i64 ((rd_T81 s_ i_).f0.f1)) ∧ w'.cell? ⟨gb166, 2, none⟩ = some (.int .i64 ((rd_T81 s_ i_).f0.f2)) ∧ w'.cell? ⟨gb166, 3, none⟩ = some (.int .i64 ((rd_T81 s_ i_).f0.f3))) (ds := [8]) #[false, false, false, false, false, false, false, false, false] (by kernel_rfl) rfl rfl ⟨bA4 BK163 rfl, bA4 BK163 rfl, bA4 BK163 rfl, bA4 BK163 rfl, bA4 BK166 rfl, bA4 BK166 rfl, bA4 BK166 rfl, bA4 BK166 rfl⟩ (fun hHeld => ?_); refine with_tabW impl_span_less.tab5 impl_span_less.bits5 (fun HT_ HW_ => ?_); generalize wc.drew = w67 at BK163 BK164 BK166 HI0 HK HB hHeld ⊢; refine pZ 0 HT_ ?_; refine pZ 2 HT_ ?_; refine pZ 4 HT_ ?_; refine tZ 1 hHeld HT_ HW_ ?_; refine tZ 3 hHeld HT_ HW_ ?_; refine oZ 5 HT_ (fun K hK => ?_); refine goes_ Try.func34 (by kernel_rfl) rfl #[.agg #[.int .i64 ((rd_T81 s_ i_).f0.f0), .int .i64 ((rd_T81 s_ i_).f0.f1), .int .i64 ((rd_T81 s_ i_).f0.f2), .int .i64 ((rd_T81 s_ i_).f0.f3)], .int .i64 x7_8] (by rfl) rfl rfl z4_4 ?_
      with_reducible refine (impl_vector_times.calls ((rd_T81 s_ i_).f0.f0) ((rd_T81 s_ i_).f0.f1) ((rd_T81 s_ i_).f0.f2) ((rd_T81 s_ i_).f0.f3) x7_8 t168 t169 t170 t171 _ A65.out).mono ?_
      rintro e w68 ⟨rfl, hb⟩
      refine ⟨_, rfl, ?_⟩
      replace BK163 := bBZ_ BK163 hb
      replace BK164 := bBZ_ BK164 hb
      replace BK166 := bBZ_ BK166 hb
      replace HK := Aside0.mk (KeepBut.trans z4_2 (KeepBut.of_below hb g none) (.inl rfl))
      replace HB := Aside0.mk (below_step z4_1 hb)
      replace HI0 := Aside0.mk (IsS79.below z4_3 hb)
      (try clear hb); (try clear hb2); (try clear hk); (try clear hi); refine hK.out _ _ ⟨bA4 BK163 rfl, bA4 BK163 rfl, bA4 BK163 rfl, bA4 BK163 rfl, bA4 BK166 rfl, bA4 BK166 rfl, bA4 BK166 rfl, bA4 BK166 rfl⟩ (fun hHeld => ?_); clear hK K; refine nZ ?_; refine oZ 6 HT_ (fun K hK => ?_); refine goes_ Try.func61 (by kernel_rfl) rfl #[.agg #[.int .i64 ak, .int .i64 al, .int .i64 am, .int .i64 an], .agg #[.int .i64 t168, .int .i64 t169, .int .i64 t170, .int .i64 t171]] (by rfl) rfl rfl z4_4 ?_
      with_reducible refine (impl_vector_minus.calls ak al am an t168 t169 t170 t171 t172 t173 t174 t175 _ A66.out).mono ?_
      rintro e w69 ⟨rfl, hb⟩
      refine ⟨_, rfl, ?_⟩
      replace BK163 := bBZ_ BK163 hb
      replace BK164 := bBZ_ BK164 hb
      replace BK166 := bBZ_ BK166 hb
      replace HK := Aside0.mk (KeepBut.trans z4_2 (KeepBut.of_below hb g none) (.inl rfl))
      replace HB := Aside0.mk (below_step z4_1 hb)
      replace HI0 := Aside0.mk (IsS79.below z4_3 hb)
      (try clear hb); (try clear hb2); (try clear hk); (try clear hi); refine hK.out _ _ ⟨bA4 BK163 rfl, bA4 BK163 rfl, bA4 BK163 rfl, bA4 BK163 rfl, bA4 BK166 rfl, bA4 BK166 rfl, bA4 BK166 rfl, bA4 BK166 rfl⟩ (fun hHeld => ?_); clear hK K; refine nZ ?_; refine pZ 7 HT_ ?_; refine lZ 8 HT_ (fun K hK => ?_); have hs70 : w69.cell? ⟨gb163, 0, none⟩ = some (.int .i64 ak) := bA4 BK163 rfl
      have hfs70 := blk_frozen BK163.out 0
      have hns70_1 := aa.out
      have hns70_2 := ab.out
      have hms70_1 := ao.out
      have hms70_2 := ap.out
      have hs71 : w69.cell? ⟨gb163, 1, none⟩ = some (.int .i64 al) := bA4 BK163 rfl
      have hfs71 := blk_frozen BK163.out 1
      have hns71_1 := aa.out
      have hns71_2 := ab.out
      have hms71_1 := ao.out
      have hms71_2 := ap.out
      have hs72 : w69.cell? ⟨gb163, 2, none⟩ = some (.int .i64 am) := bA4 BK163 rfl
      have hfs72 := blk_frozen BK163.out 2
      have hns72_1 := aa.out
      have hns72_2 := ab.out
      have hms72_1 := ao.out
      have hms72_2 := ap.out
      have hs73 : w69.cell? ⟨gb163, 3, none⟩ = some (.int .i64 an) := bA4 BK163 rfl
      have hfs73 := blk_frozen BK163.out 3
      have hns73_1 := aa.out
      have hns73_2 := ab.out
      have hms73_1 := ao.out
      have hms73_2 := ap.out
      refine skip_ (w1 := ?_) (by rfl) rfl ?_ ?_; rotate_left
      ·go_simp
       rfl
      refine hK.out _ _ ?_; clear hK K; refine done_ (done_of HT_.out (by kernel_rfl)) ?_
      try go_wp2
      go_loopg [32] kj8 (fun kq v32 w' => ∃ (x32_3 : Int) (ac : Int) (ad : Int) (ae : Int) (af : Int) (ag : Int) (ah : Int) (ai : Int) (aj : Int), v32 = .int .i64 x32_3 ∧ Aside0 (impl_span_less.l1 kq x7_8 s_ (s_.length : Int) i_ x32_3 t172 t173 t174 t175 ac ad ae af ag ah ai aj ((rd_T81 s_ i_).f0.f0) ((rd_T81 s_ i_).f0.f1) ((rd_T81 s_ i_).f0.f2) ((rd_T81 s_ i_).f0.f3) ((rd_T81 s_ i_).f1.f0) ((rd_T81 s_ i_).f1.f1) ((rd_T81 s_ i_).f1.f2) ((rd_T81 s_ i_).f1.f3) ((rd_T81 s_ i_).f1.f4) ((rd_T81 s_ i_).f1.f5) ((rd_T81 s_ i_).f1.f6) ((rd_T81 s_ i_).f1.f7) = some (r1, r2, r3, r4, r5, r6, r7, r8, r9, r10, r11, r12)) ∧ Aside0 (kq ≤ kj8) ∧ Aside0 (w'.heap[gb163]? = some (.cells #[.int .i64 t172, .int .i64 t173, .int .i64 t174, .int .i64 t175, .int .i64 ac, .int .i64 ad, .int .i64 ae, .int .i64 af, .int .i64 ag, .int .i64 ah, .int .i64 ai, .int .i64 aj] 81 (0, 0))) ∧ Aside0 (w'.heap[gb164]? = some (.cells #[.int .i64 0, .int .i64 0, .int .i64 0, .int .i64 0, .int .i64 0, .int .i64 0, .int .i64 0, .int .i64 0, .int .i64 0, .int .i64 0, .int .i64 0, .int .i64 0] 81 (0, 0))) ∧ Aside0 (w'.heap[gb166]? = some (.cells #[.int .i64 ((rd_T81 s_ i_).f0.f0), .int .i64 ((rd_T81 s_ i_).f0.f1), .int .i64 ((rd_T81 s_ i_).f0.f2), .int .i64 ((rd_T81 s_ i_).f0.f3), .int .i64 ((rd_T81 s_ i_).f1.f0), .int .i64 ((rd_T81 s_ i_).f1.f1), .int .i64 ((rd_T81 s_ i_).f1.f2), .int .i64 ((rd_T81 s_ i_).f1.f3), .int .i64 ((rd_T81 s_ i_).f1.f4), .int .i64 ((rd_T81 s_ i_).f1.f5), .int .i64 ((rd_T81 s_ i_).f1.f6), .int .i64 ((rd_T81 s_ i_).f1.f7)] 81 (0, 0))) ∧ Aside0 (IsS79 w0 w' g s_ s0_1) ∧ Aside0 (KeepBut w w' g none) ∧ Aside0 (Below w0.heap.size w0 w'))
      case atStart => exact ⟨(0), (aq), (ar), (au), (av), (aw), (ax), (ay), (az), z4_12, H', ⟨Nat.le_refl _⟩, ⟨bZ BK163.out⟩, ⟨gZ aa.out BK164.out⟩, ⟨gZ ab.out BK166.out⟩, ⟨z4_3⟩, ⟨z4_2⟩, ⟨z4_1⟩⟩
      case round =>
       clear H'
       try clear c6
       try clear c6b0
       try clear c7
       try clear c7b0
       try clear c8
       try clear c8b0
       try clear aN aO
       try clear aP
       try clear aR
       try clear aT
       try clear aV
       try clear aX
       try clear aZ
       try clear a1
       try clear a3
       try clear a5
       try clear a7
       try clear aH
       try clear aJ
       try clear aL aM
       try clear aQ
       try clear aS
       try clear aU
       try clear aW
       try clear aY
       try clear a0
       try clear a2
       try clear a4
       try clear a6
       try clear a8
       try clear aI
       try clear aK
       try clear hx165_0 hx165_1 hx165_10 hx165_11 hx165_2 hx165_3 hx165_4 hx165_5 hx165_6 hx165_7 hx165_8 hx165_9
       try clear p165
       try clear q165
       obtain ⟨x32_3, ac, ad, ae, af, ag, ah, ai, aj, rfl, HA, HK3, BK163, BK164, BK166, HI0, HK, HB⟩ := hrel
       cases gk with
       | zero => exact absurd HA.out (by simp [impl_span_less.l1])
       | succ k3 =>
        have H := HA.out
        clear HA; simp only [impl_span_less.l1] at H
        by_cases c74 : x32_3 < 8
        ·rw [if_pos c74] at H
         have c74b0 : decide (x32_3 < 8) = true := decide_eq_true c74; clear c74
         by_cases c75 : x32_3 = 0
         ·rw [if_pos c75] at H
          subst c75
          replace H := Option.bind_eq_some_iff.mp H
          obtain ⟨t176, A760, H⟩ := H
          have A76 := Aside0.mk A760
          clear A760
          replace H := Option.bind_eq_some_iff.mp H
          obtain ⟨t177, A770, H⟩ := H
          have A77 := Aside0.mk A770
          clear A770
          have H' := Aside0.mk H
          clear H
          try go_wp2
          replace BK163 := Aside0.mk (blk_drew BK163.out)
          replace BK164 := Aside0.mk (blk_drew BK164.out)
          replace BK166 := Aside0.mk (blk_drew BK166.out)
          replace HI0 := Aside0.mk (IsS79.drew HI0.out)
          replace HK := Aside0.mk (keep_drew HK.out)
          replace HB := Aside0.mk (below_drew1 HB.out)
          refine start_ (n := 15) (S := fun w' => w'.cell? ⟨gb163, 4, none⟩ = some (.int .i64 ac) ∧ w'.cell? ⟨gb166, 4, none⟩ = some (.int .i64 ((rd_T81 s_ i_).f1.f0))) (ds := [14]) #[false, false, false, false, false, false, false, false, false, false, false, false, false, false, false] (by kernel_rfl) rfl rfl ⟨bA4 BK163 rfl, bA4 BK166 rfl⟩ (fun hHeld => ?_); refine with_tabW impl_span_less.tab9 impl_span_less.bits9 (fun HT_ HW_ => ?_); generalize wr.drew = w78 at BK163 BK164 BK166 HI0 HK HB hHeld ⊢; refine pZ 0 HT_ ?_; refine pZ 1 HT_ ?_; refine pZ 2 HT_ ?_; refine pZ 3 HT_ ?_; refine pZ 5 HT_ ?_; refine pZ 6 HT_ ?_; refine pZ 7 HT_ ?_; refine pZ 9 HT_ ?_; refine pZ 12 HT_ ?_; refine tZ 4 hHeld HT_ HW_ ?_; refine tZ 8 hHeld HT_ HW_ ?_; refine oZ 10 HT_ (fun K hK => ?_); refine goes_ Try.func46 (by kernel_rfl) rfl #[.int .i64 ((rd_T81 s_ i_).f1.f0), .int .i64 x7_8] (by rfl) rfl rfl z4_4 ?_
          with_reducible refine (impl_element_times.calls ((rd_T81 s_ i_).f1.f0) x7_8 t176 _ A76.out).mono ?_
          rintro e w' ⟨rfl, ⟨nd, rfl⟩⟩
          refine ⟨_, rfl, ?_⟩; refine hK.out _ _ ⟨bA4 BK163 rfl, bA4 BK166 rfl⟩ (fun hHeld => ?_); clear hK K; refine nZ ?_; refine oZ 11 HT_ (fun K hK => ?_); refine goes_ Try.func62 (by kernel_rfl) rfl #[.int .i64 ac, .int .i64 t176] (by rfl) rfl rfl z4_4 ?_
          with_reducible refine (impl_element_minus.calls ac t176 t177 _ A77.out).mono ?_
          rintro e w' ⟨rfl, ⟨nd, rfl⟩⟩
          refine ⟨_, rfl, ?_⟩; refine hK.out _ _ ⟨bA4 BK163 rfl, bA4 BK166 rfl⟩ (fun hHeld => ?_); clear hK K; refine nZ ?_; refine pZ 13 HT_ ?_; refine lZ 14 HT_ (fun K hK => ?_); have hs79 : w78.cell? ⟨gb163, 4, none⟩ = some (.int .i64 ac) := bA4 BK163 rfl
          have hfs79 := blk_frozen BK163.out 4
          have hns79_1 := aa.out
          have hns79_2 := ab.out
          have hms79_1 := ao.out
          have hms79_2 := ap.out
          refine skip_ (w1 := ?_) (by rfl) rfl ?_ ?_; rotate_left
          ·go_simp
           rfl
          refine hK.out _ _ ?_; clear hK K; refine done_ (done_of HT_.out (by kernel_rfl)) ?_
          try go_wp2
          go_roundg k3
          case measure => have := HK1.out; have := HJ8.out; have := HK3.out; omega
          case rel => exact ⟨(wrap64 ((0 : Int) + 1)), (t177), (ad), (ae), (af), (ag), (ah), (ai), (aj), z4_8, H', ⟨z4_9⟩, ⟨bZ BK163.out⟩, ⟨gZ aa.out BK164.out⟩, ⟨gZ ab.out BK166.out⟩, ⟨z4_3⟩, ⟨z4_2⟩, ⟨z4_1⟩⟩
         ·rw [if_neg c75] at H
          clear c75
          by_cases c80 : x32_3 = 1
          ·rw [if_pos c80] at H
           subst c80
           replace H := Option.bind_eq_some_iff.mp H
           obtain ⟨t178, A810, H⟩ := H
           have A81 := Aside0.mk A810
           clear A810
           replace H := Option.bind_eq_some_iff.mp H
           obtain ⟨t179, A820, H⟩ := H
           have A82 := Aside0.mk A820
           clear A820
           have H' := Aside0.mk H
           clear H
           try go_wp2
           replace BK163 := Aside0.mk (blk_drew BK163.out)
           replace BK164 := Aside0.mk (blk_drew BK164.out)
           replace BK166 := Aside0.mk (blk_drew BK166.out)
           replace HI0 := Aside0.mk (IsS79.drew HI0.out)
           replace HK := Aside0.mk (keep_drew HK.out)
           replace HB := Aside0.mk (below_drew1 HB.out)
           refine start_ (n := 15) (S := fun w' => w'.cell? ⟨gb163, 5, none⟩ = some (.int .i64 ad) ∧ w'.cell? ⟨gb166, 5, none⟩ = some (.int .i64 ((rd_T81 s_ i_).f1.f1))) (ds := [14]) #[false, false, false, false, false, false, false, false, false, false, false, false, false, false, false] (by kernel_rfl) rfl rfl ⟨bA4 BK163 rfl, bA4 BK166 rfl⟩ (fun hHeld => ?_); refine with_tabW impl_span_less.tab9 impl_span_less.bits9 (fun HT_ HW_ => ?_); generalize wr.drew = w83 at BK163 BK164 BK166 HI0 HK HB hHeld ⊢; refine pZ 0 HT_ ?_; refine pZ 1 HT_ ?_; refine pZ 2 HT_ ?_; refine pZ 3 HT_ ?_; refine pZ 5 HT_ ?_; refine pZ 6 HT_ ?_; refine pZ 7 HT_ ?_; refine pZ 9 HT_ ?_; refine pZ 12 HT_ ?_; refine tZ 4 hHeld HT_ HW_ ?_; refine tZ 8 hHeld HT_ HW_ ?_; refine oZ 10 HT_ (fun K hK => ?_); refine goes_ Try.func46 (by kernel_rfl) rfl #[.int .i64 ((rd_T81 s_ i_).f1.f1), .int .i64 x7_8] (by rfl) rfl rfl z4_4 ?_
           with_reducible refine (impl_element_times.calls ((rd_T81 s_ i_).f1.f1) x7_8 t178 _ A81.out).mono ?_
           rintro e w' ⟨rfl, ⟨nd, rfl⟩⟩
           refine ⟨_, rfl, ?_⟩; refine hK.out _ _ ⟨bA4 BK163 rfl, bA4 BK166 rfl⟩ (fun hHeld => ?_); clear hK K; refine nZ ?_; refine oZ 11 HT_ (fun K hK => ?_); refine goes_ Try.func62 (by kernel_rfl) rfl #[.int .i64 ad, .int .i64 t178] (by rfl) rfl rfl z4_4 ?_
           with_reducible refine (impl_element_minus.calls ad t178 t179 _ A82.out).mono ?_
           rintro e w' ⟨rfl, ⟨nd, rfl⟩⟩
           refine ⟨_, rfl, ?_⟩; refine hK.out _ _ ⟨bA4 BK163 rfl, bA4 BK166 rfl⟩ (fun hHeld => ?_); clear hK K; refine nZ ?_; refine pZ 13 HT_ ?_; refine lZ 14 HT_ (fun K hK => ?_); have hs84 : w83.cell? ⟨gb163, 5, none⟩ = some (.int .i64 ad) := bA4 BK163 rfl
           have hfs84 := blk_frozen BK163.out 5
           have hns84_1 := aa.out
           have hns84_2 := ab.out
           have hms84_1 := ao.out
           have hms84_2 := ap.out
           refine skip_ (w1 := ?_) (by rfl) rfl ?_ ?_; rotate_left
           ·go_simp
            rfl
           refine hK.out _ _ ?_; clear hK K; refine done_ (done_of HT_.out (by kernel_rfl)) ?_
           try go_wp2
           go_roundg k3
           case measure => have := HK1.out; have := HJ8.out; have := HK3.out; omega
           case rel => exact ⟨(wrap64 ((1 : Int) + 1)), (ac), (t179), (ae), (af), (ag), (ah), (ai), (aj), z4_8, H', ⟨z4_9⟩, ⟨bZ BK163.out⟩, ⟨gZ aa.out BK164.out⟩, ⟨gZ ab.out BK166.out⟩, ⟨z4_3⟩, ⟨z4_2⟩, ⟨z4_1⟩⟩
          ·rw [if_neg c80] at H
           clear c80
           by_cases c85 : x32_3 = 2
           ·rw [if_pos c85] at H
            subst c85
            replace H := Option.bind_eq_some_iff.mp H
            obtain ⟨t180, A860, H⟩ := H
            have A86 := Aside0.mk A860
            clear A860
            replace H := Option.bind_eq_some_iff.mp H
            obtain ⟨t181, A870, H⟩ := H
            have A87 := Aside0.mk A870
            clear A870
            have H' := Aside0.mk H
            clear H
            try go_wp2
            replace BK163 := Aside0.mk (blk_drew BK163.out)
            replace BK164 := Aside0.mk (blk_drew BK164.out)
            replace BK166 := Aside0.mk (blk_drew BK166.out)
            replace HI0 := Aside0.mk (IsS79.drew HI0.out)
            replace HK := Aside0.mk (keep_drew HK.out)
            replace HB := Aside0.mk (below_drew1 HB.out)
            refine start_ (n := 15) (S := fun w' => w'.cell? ⟨gb163, 6, none⟩ = some (.int .i64 ae) ∧ w'.cell? ⟨gb166, 6, none⟩ = some (.int .i64 ((rd_T81 s_ i_).f1.f2))) (ds := [14]) #[false, false, false, false, false, false, false, false, false, false, false, false, false, false, false] (by kernel_rfl) rfl rfl ⟨bA4 BK163 rfl, bA4 BK166 rfl⟩ (fun hHeld => ?_); refine with_tabW impl_span_less.tab9 impl_span_less.bits9 (fun HT_ HW_ => ?_); generalize wr.drew = w88 at BK163 BK164 BK166 HI0 HK HB hHeld ⊢; refine pZ 0 HT_ ?_; refine pZ 1 HT_ ?_; refine pZ 2 HT_ ?_; refine pZ 3 HT_ ?_; refine pZ 5 HT_ ?_; refine pZ 6 HT_ ?_; refine pZ 7 HT_ ?_; refine pZ 9 HT_ ?_; refine pZ 12 HT_ ?_; refine tZ 4 hHeld HT_ HW_ ?_; refine tZ 8 hHeld HT_ HW_ ?_; refine oZ 10 HT_ (fun K hK => ?_); refine goes_ Try.func46 (by kernel_rfl) rfl #[.int .i64 ((rd_T81 s_ i_).f1.f2), .int .i64 x7_8] (by rfl) rfl rfl z4_4 ?_
            with_reducible refine (impl_element_times.calls ((rd_T81 s_ i_).f1.f2) x7_8 t180 _ A86.out).mono ?_
            rintro e w' ⟨rfl, ⟨nd, rfl⟩⟩
            refine ⟨_, rfl, ?_⟩; refine hK.out _ _ ⟨bA4 BK163 rfl, bA4 BK166 rfl⟩ (fun hHeld => ?_); clear hK K; refine nZ ?_; refine oZ 11 HT_ (fun K hK => ?_); refine goes_ Try.func62 (by kernel_rfl) rfl #[.int .i64 ae, .int .i64 t180] (by rfl) rfl rfl z4_4 ?_
            with_reducible refine (impl_element_minus.calls ae t180 t181 _ A87.out).mono ?_
            rintro e w' ⟨rfl, ⟨nd, rfl⟩⟩
            refine ⟨_, rfl, ?_⟩; refine hK.out _ _ ⟨bA4 BK163 rfl, bA4 BK166 rfl⟩ (fun hHeld => ?_); clear hK K; refine nZ ?_; refine pZ 13 HT_ ?_; refine lZ 14 HT_ (fun K hK => ?_); have hs89 : w88.cell? ⟨gb163, 6, none⟩ = some (.int .i64 ae) := bA4 BK163 rfl
            have hfs89 := blk_frozen BK163.out 6
            have hns89_1 := aa.out
            have hns89_2 := ab.out
            have hms89_1 := ao.out
            have hms89_2 := ap.out
            refine skip_ (w1 := ?_) (by rfl) rfl ?_ ?_; rotate_left
            ·go_simp
             rfl
            refine hK.out _ _ ?_; clear hK K; refine done_ (done_of HT_.out (by kernel_rfl)) ?_
            try go_wp2
            go_roundg k3
            case measure => have := HK1.out; have := HJ8.out; have := HK3.out; omega
            case rel => exact ⟨(wrap64 ((2 : Int) + 1)), (ac), (ad), (t181), (af), (ag), (ah), (ai), (aj), z4_8, H', ⟨z4_9⟩, ⟨bZ BK163.out⟩, ⟨gZ aa.out BK164.out⟩, ⟨gZ ab.out BK166.out⟩, ⟨z4_3⟩, ⟨z4_2⟩, ⟨z4_1⟩⟩
           ·rw [if_neg c85] at H
            clear c85
            by_cases c90 : x32_3 = 3
            ·rw [if_pos c90] at H
             subst c90
             replace H := Option.bind_eq_some_iff.mp H
             obtain ⟨t182, A910, H⟩ := H
             have A91 := Aside0.mk A910
             clear A910
             replace H := Option.bind_eq_some_iff.mp H
             obtain ⟨t183, A920, H⟩ := H
             have A92 := Aside0.mk A920
             clear A920
             have H' := Aside0.mk H
             clear H
             try go_wp2
             replace BK163 := Aside0.mk (blk_drew BK163.out)
             replace BK164 := Aside0.mk (blk_drew BK164.out)
             replace BK166 := Aside0.mk (blk_drew BK166.out)
             replace HI0 := Aside0.mk (IsS79.drew HI0.out)
             replace HK := Aside0.mk (keep_drew HK.out)
             replace HB := Aside0.mk (below_drew1 HB.out)
             refine start_ (n := 15) (S := fun w' => w'.cell? ⟨gb163, 7, none⟩ = some (.int .i64 af) ∧ w'.cell? ⟨gb166, 7, none⟩ = some (.int .i64 ((rd_T81 s_ i_).f1.f3))) (ds := [14]) #[false, false, false, false, false, false, false, false, false, false, false, false, false, false, false] (by kernel_rfl) rfl rfl ⟨bA4 BK163 rfl, bA4 BK166 rfl⟩ (fun hHeld => ?_); refine with_tabW impl_span_less.tab9 impl_span_less.bits9 (fun HT_ HW_ => ?_); generalize wr.drew = w93 at BK163 BK164 BK166 HI0 HK HB hHeld ⊢; refine pZ 0 HT_ ?_; refine pZ 1 HT_ ?_; refine pZ 2 HT_ ?_; refine pZ 3 HT_ ?_; refine pZ 5 HT_ ?_; refine pZ 6 HT_ ?_; refine pZ 7 HT_ ?_; refine pZ 9 HT_ ?_; refine pZ 12 HT_ ?_; refine tZ 4 hHeld HT_ HW_ ?_; refine tZ 8 hHeld HT_ HW_ ?_; refine oZ 10 HT_ (fun K hK => ?_); refine goes_ Try.func46 (by kernel_rfl) rfl #[.int .i64 ((rd_T81 s_ i_).f1.f3), .int .i64 x7_8] (by rfl) rfl rfl z4_4 ?_
             with_reducible refine (impl_element_times.calls ((rd_T81 s_ i_).f1.f3) x7_8 t182 _ A91.out).mono ?_
             rintro e w' ⟨rfl, ⟨nd, rfl⟩⟩
             refine ⟨_, rfl, ?_⟩; refine hK.out _ _ ⟨bA4 BK163 rfl, bA4 BK166 rfl⟩ (fun hHeld => ?_); clear hK K; refine nZ ?_; refine oZ 11 HT_ (fun K hK => ?_); refine goes_ Try.func62 (by kernel_rfl) rfl #[.int .i64 af, .int .i64 t182] (by rfl) rfl rfl z4_4 ?_
             with_reducible refine (impl_element_minus.calls af t182 t183 _ A92.out).mono ?_
             rintro e w' ⟨rfl, ⟨nd, rfl⟩⟩
             refine ⟨_, rfl, ?_⟩; refine hK.out _ _ ⟨bA4 BK163 rfl, bA4 BK166 rfl⟩ (fun hHeld => ?_); clear hK K; refine nZ ?_; refine pZ 13 HT_ ?_; refine lZ 14 HT_ (fun K hK => ?_); have hs94 : w93.cell? ⟨gb163, 7, none⟩ = some (.int .i64 af) := bA4 BK163 rfl
             have hfs94 := blk_frozen BK163.out 7
             have hns94_1 := aa.out
             have hns94_2 := ab.out
             have hms94_1 := ao.out
             have hms94_2 := ap.out
             refine skip_ (w1 := ?_) (by rfl) rfl ?_ ?_; rotate_left
             ·go_simp
              rfl
             refine hK.out _ _ ?_; clear hK K; refine done_ (done_of HT_.out (by kernel_rfl)) ?_
             try go_wp2
             go_roundg k3
             case measure => have := HK1.out; have := HJ8.out; have := HK3.out; omega
             case rel => exact ⟨(wrap64 ((3 : Int) + 1)), (ac), (ad), (ae), (t183), (ag), (ah), (ai), (aj), z4_8, H', ⟨z4_9⟩, ⟨bZ BK163.out⟩, ⟨gZ aa.out BK164.out⟩, ⟨gZ ab.out BK166.out⟩, ⟨z4_3⟩, ⟨z4_2⟩, ⟨z4_1⟩⟩
            ·rw [if_neg c90] at H
             clear c90
             by_cases c95 : x32_3 = 4
             ·rw [if_pos c95] at H
              subst c95
              replace H := Option.bind_eq_some_iff.mp H
              obtain ⟨t184, A960, H⟩ := H
              have A96 := Aside0.mk A960
              clear A960
              replace H := Option.bind_eq_some_iff.mp H
              obtain ⟨t185, A970, H⟩ := H
              have A97 := Aside0.mk A970
              clear A970
              have H' := Aside0.mk H
              clear H
              try go_wp2
              replace BK163 := Aside0.mk (blk_drew BK163.out)
              replace BK164 := Aside0.mk (blk_drew BK164.out)
              replace BK166 := Aside0.mk (blk_drew BK166.out)
              replace HI0 := Aside0.mk (IsS79.drew HI0.out)
              replace HK := Aside0.mk (keep_drew HK.out)
              replace HB := Aside0.mk (below_drew1 HB.out)
              refine start_ (n := 15) (S := fun w' => w'.cell? ⟨gb163, 8, none⟩ = some (.int .i64 ag) ∧ w'.cell? ⟨gb166, 8, none⟩ = some (.int .i64 ((rd_T81 s_ i_).f1.f4))) (ds := [14]) #[false, false, false, false, false, false, false, false, false, false, false, false, false, false, false] (by kernel_rfl) rfl rfl ⟨bA4 BK163 rfl, bA4 BK166 rfl⟩ (fun hHeld => ?_); refine with_tabW impl_span_less.tab9 impl_span_less.bits9 (fun HT_ HW_ => ?_); generalize wr.drew = w98 at BK163 BK164 BK166 HI0 HK HB hHeld ⊢; refine pZ 0 HT_ ?_; refine pZ 1 HT_ ?_; refine pZ 2 HT_ ?_; refine pZ 3 HT_ ?_; refine pZ 5 HT_ ?_; refine pZ 6 HT_ ?_; refine pZ 7 HT_ ?_; refine pZ 9 HT_ ?_; refine pZ 12 HT_ ?_; refine tZ 4 hHeld HT_ HW_ ?_; refine tZ 8 hHeld HT_ HW_ ?_; refine oZ 10 HT_ (fun K hK => ?_); refine goes_ Try.func46 (by kernel_rfl) rfl #[.int .i64 ((rd_T81 s_ i_).f1.f4), .int .i64 x7_8] (by rfl) rfl rfl z4_4 ?_
              with_reducible refine (impl_element_times.calls ((rd_T81 s_ i_).f1.f4) x7_8 t184 _ A96.out).mono ?_
              rintro e w' ⟨rfl, ⟨nd, rfl⟩⟩
              refine ⟨_, rfl, ?_⟩; refine hK.out _ _ ⟨bA4 BK163 rfl, bA4 BK166 rfl⟩ (fun hHeld => ?_); clear hK K; refine nZ ?_; refine oZ 11 HT_ (fun K hK => ?_); refine goes_ Try.func62 (by kernel_rfl) rfl #[.int .i64 ag, .int .i64 t184] (by rfl) rfl rfl z4_4 ?_
              with_reducible refine (impl_element_minus.calls ag t184 t185 _ A97.out).mono ?_
              rintro e w' ⟨rfl, ⟨nd, rfl⟩⟩
              refine ⟨_, rfl, ?_⟩; refine hK.out _ _ ⟨bA4 BK163 rfl, bA4 BK166 rfl⟩ (fun hHeld => ?_); clear hK K; refine nZ ?_; refine pZ 13 HT_ ?_; refine lZ 14 HT_ (fun K hK => ?_); have hs99 : w98.cell? ⟨gb163, 8, none⟩ = some (.int .i64 ag) := bA4 BK163 rfl
              have hfs99 := blk_frozen BK163.out 8
              have hns99_1 := aa.out
              have hns99_2 := ab.out
              have hms99_1 := ao.out
              have hms99_2 := ap.out
              refine skip_ (w1 := ?_) (by rfl) rfl ?_ ?_; rotate_left
              ·go_simp
               rfl
              refine hK.out _ _ ?_; clear hK K; refine done_ (done_of HT_.out (by kernel_rfl)) ?_
              try go_wp2
              go_roundg k3
              case measure => have := HK1.out; have := HJ8.out; have := HK3.out; omega
              case rel => exact ⟨(wrap64 ((4 : Int) + 1)), (ac), (ad), (ae), (af), (t185), (ah), (ai), (aj), z4_8, H', ⟨z4_9⟩, ⟨bZ BK163.out⟩, ⟨gZ aa.out BK164.out⟩, ⟨gZ ab.out BK166.out⟩, ⟨z4_3⟩, ⟨z4_2⟩, ⟨z4_1⟩⟩
             ·rw [if_neg c95] at H
              clear c95
              by_cases c100 : x32_3 = 5
              ·rw [if_pos c100] at H
               subst c100
               replace H := Option.bind_eq_some_iff.mp H
               obtain ⟨t186, A1010, H⟩ := H
               have A101 := Aside0.mk A1010
               clear A1010
               replace H := Option.bind_eq_some_iff.mp H
               obtain ⟨t187, A1020, H⟩ := H
               have A102 := Aside0.mk A1020
               clear A1020
               have H' := Aside0.mk H
               clear H
               try go_wp2
               replace BK163 := Aside0.mk (blk_drew BK163.out)
               replace BK164 := Aside0.mk (blk_drew BK164.out)
               replace BK166 := Aside0.mk (blk_drew BK166.out)
               replace HI0 := Aside0.mk (IsS79.drew HI0.out)
               replace HK := Aside0.mk (keep_drew HK.out)
               replace HB := Aside0.mk (below_drew1 HB.out)
               refine start_ (n := 15) (S := fun w' => w'.cell? ⟨gb163, 9, none⟩ = some (.int .i64 ah) ∧ w'.cell? ⟨gb166, 9, none⟩ = some (.int .i64 ((rd_T81 s_ i_).f1.f5))) (ds := [14]) #[false, false, false, false, false, false, false, false, false, false, false, false, false, false, false] (by kernel_rfl) rfl rfl ⟨bA4 BK163 rfl, bA4 BK166 rfl⟩ (fun hHeld => ?_); refine with_tabW impl_span_less.tab9 impl_span_less.bits9 (fun HT_ HW_ => ?_); generalize wr.drew = w103 at BK163 BK164 BK166 HI0 HK HB hHeld ⊢; refine pZ 0 HT_ ?_; refine pZ 1 HT_ ?_; refine pZ 2 HT_ ?_; refine pZ 3 HT_ ?_; refine pZ 5 HT_ ?_; refine pZ 6 HT_ ?_; refine pZ 7 HT_ ?_; refine pZ 9 HT_ ?_; refine pZ 12 HT_ ?_; refine tZ 4 hHeld HT_ HW_ ?_; refine tZ 8 hHeld HT_ HW_ ?_; refine oZ 10 HT_ (fun K hK => ?_); refine goes_ Try.func46 (by kernel_rfl) rfl #[.int .i64 ((rd_T81 s_ i_).f1.f5), .int .i64 x7_8] (by rfl) rfl rfl z4_4 ?_
               with_reducible refine (impl_element_times.calls ((rd_T81 s_ i_).f1.f5) x7_8 t186 _ A101.out).mono ?_
               rintro e w' ⟨rfl, ⟨nd, rfl⟩⟩
               refine ⟨_, rfl, ?_⟩; refine hK.out _ _ ⟨bA4 BK163 rfl, bA4 BK166 rfl⟩ (fun hHeld => ?_); clear hK K; refine nZ ?_; refine oZ 11 HT_ (fun K hK => ?_); refine goes_ Try.func62 (by kernel_rfl) rfl #[.int .i64 ah, .int .i64 t186] (by rfl) rfl rfl z4_4 ?_
               with_reducible refine (impl_element_minus.calls ah t186 t187 _ A102.out).mono ?_
               rintro e w' ⟨rfl, ⟨nd, rfl⟩⟩
               refine ⟨_, rfl, ?_⟩; refine hK.out _ _ ⟨bA4 BK163 rfl, bA4 BK166 rfl⟩ (fun hHeld => ?_); clear hK K; refine nZ ?_; refine pZ 13 HT_ ?_; refine lZ 14 HT_ (fun K hK => ?_); have hs104 : w103.cell? ⟨gb163, 9, none⟩ = some (.int .i64 ah) := bA4 BK163 rfl
               have hfs104 := blk_frozen BK163.out 9
               have hns104_1 := aa.out
               have hns104_2 := ab.out
               have hms104_1 := ao.out
               have hms104_2 := ap.out
               refine skip_ (w1 := ?_) (by rfl) rfl ?_ ?_; rotate_left
               ·go_simp
                rfl
               refine hK.out _ _ ?_; clear hK K; refine done_ (done_of HT_.out (by kernel_rfl)) ?_
               try go_wp2
               go_roundg k3
               case measure => have := HK1.out; have := HJ8.out; have := HK3.out; omega
               case rel => exact ⟨(wrap64 ((5 : Int) + 1)), (ac), (ad), (ae), (af), (ag), (t187), (ai), (aj), z4_8, H', ⟨z4_9⟩, ⟨bZ BK163.out⟩, ⟨gZ aa.out BK164.out⟩, ⟨gZ ab.out BK166.out⟩, ⟨z4_3⟩, ⟨z4_2⟩, ⟨z4_1⟩⟩
              ·rw [if_neg c100] at H
               clear c100
               by_cases c105 : x32_3 = 6
               ·rw [if_pos c105] at H
                subst c105
                replace H := Option.bind_eq_some_iff.mp H
                obtain ⟨t188, A1060, H⟩ := H
                have A106 := Aside0.mk A1060
                clear A1060
                replace H := Option.bind_eq_some_iff.mp H
                obtain ⟨t189, A1070, H⟩ := H
                have A107 := Aside0.mk A1070
                clear A1070
                have H' := Aside0.mk H
                clear H
                try go_wp2
                replace BK163 := Aside0.mk (blk_drew BK163.out)
                replace BK164 := Aside0.mk (blk_drew BK164.out)
                replace BK166 := Aside0.mk (blk_drew BK166.out)
                replace HI0 := Aside0.mk (IsS79.drew HI0.out)
                replace HK := Aside0.mk (keep_drew HK.out)
                replace HB := Aside0.mk (below_drew1 HB.out)
                refine start_ (n := 15) (S := fun w' => w'.cell? ⟨gb163, 10, none⟩ = some (.int .i64 ai) ∧ w'.cell? ⟨gb166, 10, none⟩ = some (.int .i64 ((rd_T81 s_ i_).f1.f6))) (ds := [14]) #[false, false, false, false, false, false, false, false, false, false, false, false, false, false, false] (by kernel_rfl) rfl rfl ⟨bA4 BK163 rfl, bA4 BK166 rfl⟩ (fun hHeld => ?_); refine with_tabW impl_span_less.tab9 impl_span_less.bits9 (fun HT_ HW_ => ?_); generalize wr.drew = w108 at BK163 BK164 BK166 HI0 HK HB hHeld ⊢; refine pZ 0 HT_ ?_; refine pZ 1 HT_ ?_; refine pZ 2 HT_ ?_; refine pZ 3 HT_ ?_; refine pZ 5 HT_ ?_; refine pZ 6 HT_ ?_; refine pZ 7 HT_ ?_; refine pZ 9 HT_ ?_; refine pZ 12 HT_ ?_; refine tZ 4 hHeld HT_ HW_ ?_; refine tZ 8 hHeld HT_ HW_ ?_; refine oZ 10 HT_ (fun K hK => ?_); refine goes_ Try.func46 (by kernel_rfl) rfl #[.int .i64 ((rd_T81 s_ i_).f1.f6), .int .i64 x7_8] (by rfl) rfl rfl z4_4 ?_
                with_reducible refine (impl_element_times.calls ((rd_T81 s_ i_).f1.f6) x7_8 t188 _ A106.out).mono ?_
                rintro e w' ⟨rfl, ⟨nd, rfl⟩⟩
                refine ⟨_, rfl, ?_⟩; refine hK.out _ _ ⟨bA4 BK163 rfl, bA4 BK166 rfl⟩ (fun hHeld => ?_); clear hK K; refine nZ ?_; refine oZ 11 HT_ (fun K hK => ?_); refine goes_ Try.func62 (by kernel_rfl) rfl #[.int .i64 ai, .int .i64 t188] (by rfl) rfl rfl z4_4 ?_
                with_reducible refine (impl_element_minus.calls ai t188 t189 _ A107.out).mono ?_
                rintro e w' ⟨rfl, ⟨nd, rfl⟩⟩
                refine ⟨_, rfl, ?_⟩; refine hK.out _ _ ⟨bA4 BK163 rfl, bA4 BK166 rfl⟩ (fun hHeld => ?_); clear hK K; refine nZ ?_; refine pZ 13 HT_ ?_; refine lZ 14 HT_ (fun K hK => ?_); have hs109 : w108.cell? ⟨gb163, 10, none⟩ = some (.int .i64 ai) := bA4 BK163 rfl
                have hfs109 := blk_frozen BK163.out 10
                have hns109_1 := aa.out
                have hns109_2 := ab.out
                have hms109_1 := ao.out
                have hms109_2 := ap.out
                refine skip_ (w1 := ?_) (by rfl) rfl ?_ ?_; rotate_left
                ·go_simp
                 rfl
                refine hK.out _ _ ?_; clear hK K; refine done_ (done_of HT_.out (by kernel_rfl)) ?_
                try go_wp2
                go_roundg k3
                case measure => have := HK1.out; have := HJ8.out; have := HK3.out; omega
                case rel => exact ⟨(wrap64 ((6 : Int) + 1)), (ac), (ad), (ae), (af), (ag), (ah), (t189), (aj), z4_8, H', ⟨z4_9⟩, ⟨bZ BK163.out⟩, ⟨gZ aa.out BK164.out⟩, ⟨gZ ab.out BK166.out⟩, ⟨z4_3⟩, ⟨z4_2⟩, ⟨z4_1⟩⟩
               ·rw [if_neg c105] at H
                clear c105; obtain ⟨c110, H⟩ := ifP H; subst c110
                replace H := Option.bind_eq_some_iff.mp H
                obtain ⟨t190, A1110, H⟩ := H
                have A111 := Aside0.mk A1110
                clear A1110
                replace H := Option.bind_eq_some_iff.mp H
                obtain ⟨t191, A1120, H⟩ := H
                have A112 := Aside0.mk A1120
                clear A1120
                have H' := Aside0.mk H
                clear H
                try go_wp2
                replace BK163 := Aside0.mk (blk_drew BK163.out)
                replace BK164 := Aside0.mk (blk_drew BK164.out)
                replace BK166 := Aside0.mk (blk_drew BK166.out)
                replace HI0 := Aside0.mk (IsS79.drew HI0.out)
                replace HK := Aside0.mk (keep_drew HK.out)
                replace HB := Aside0.mk (below_drew1 HB.out)
                refine start_ (n := 15) (S := fun w' => w'.cell? ⟨gb163, 11, none⟩ = some (.int .i64 aj) ∧ w'.cell? ⟨gb166, 11, none⟩ = some (.int .i64 ((rd_T81 s_ i_).f1.f7))) (ds := [14]) #[false, false, false, false, false, false, false, false, false, false, false, false, false, false, false] (by kernel_rfl) rfl rfl ⟨bA4 BK163 rfl, bA4 BK166 rfl⟩ (fun hHeld => ?_); refine with_tabW impl_span_less.tab9 impl_span_less.bits9 (fun HT_ HW_ => ?_); generalize wr.drew = w113 at BK163 BK164 BK166 HI0 HK HB hHeld ⊢; refine pZ 0 HT_ ?_; refine pZ 1 HT_ ?_; refine pZ 2 HT_ ?_; refine pZ 3 HT_ ?_; refine pZ 5 HT_ ?_; refine pZ 6 HT_ ?_; refine pZ 7 HT_ ?_; refine pZ 9 HT_ ?_; refine pZ 12 HT_ ?_; refine tZ 4 hHeld HT_ HW_ ?_; refine tZ 8 hHeld HT_ HW_ ?_; refine oZ 10 HT_ (fun K hK => ?_); refine goes_ Try.func46 (by kernel_rfl) rfl #[.int .i64 ((rd_T81 s_ i_).f1.f7), .int .i64 x7_8] (by rfl) rfl rfl z4_4 ?_
                with_reducible refine (impl_element_times.calls ((rd_T81 s_ i_).f1.f7) x7_8 t190 _ A111.out).mono ?_
                rintro e w' ⟨rfl, ⟨nd, rfl⟩⟩
                refine ⟨_, rfl, ?_⟩; refine hK.out _ _ ⟨bA4 BK163 rfl, bA4 BK166 rfl⟩ (fun hHeld => ?_); clear hK K; refine nZ ?_; refine oZ 11 HT_ (fun K hK => ?_); refine goes_ Try.func62 (by kernel_rfl) rfl #[.int .i64 aj, .int .i64 t190] (by rfl) rfl rfl z4_4 ?_
                with_reducible refine (impl_element_minus.calls aj t190 t191 _ A112.out).mono ?_
                rintro e w' ⟨rfl, ⟨nd, rfl⟩⟩
                refine ⟨_, rfl, ?_⟩; refine hK.out _ _ ⟨bA4 BK163 rfl, bA4 BK166 rfl⟩ (fun hHeld => ?_); clear hK K; refine nZ ?_; refine pZ 13 HT_ ?_; refine lZ 14 HT_ (fun K hK => ?_); have hs114 : w113.cell? ⟨gb163, 11, none⟩ = some (.int .i64 aj) := bA4 BK163 rfl
                have hfs114 := blk_frozen BK163.out 11
                have hns114_1 := aa.out
                have hns114_2 := ab.out
                have hms114_1 := ao.out
                have hms114_2 := ap.out
                refine skip_ (w1 := ?_) (by rfl) rfl ?_ ?_; rotate_left
                ·go_simp
                 rfl
                refine hK.out _ _ ?_; clear hK K; refine done_ (done_of HT_.out (by kernel_rfl)) ?_
                try go_wp2
                go_roundg k3
                case measure => have := HK1.out; have := HJ8.out; have := HK3.out; omega
                case rel => exact ⟨(wrap64 ((7 : Int) + 1)), (ac), (ad), (ae), (af), (ag), (ah), (ai), (t191), z4_8, H', ⟨z4_9⟩, ⟨bZ BK163.out⟩, ⟨gZ aa.out BK164.out⟩, ⟨gZ ab.out BK166.out⟩, ⟨z4_3⟩, ⟨z4_2⟩, ⟨z4_1⟩⟩
        ·rw [if_neg c74] at H
         have c74b0 : decide (x32_3 < 8) = false := decide_eq_false c74; clear c74
         have H' := Aside0.mk H
         clear H
         go_wp2
         go_roundg k3
         case measure => have := HK1.out; have := HJ8.out; have := HK3.out; omega
         case rel => exact ⟨(wrap64 (i_ + 1)), (t172), (t173), (t174), (t175), (ac), (ad), (ae), (af), (ag), (ah), (ai), (aj), z4_12, H', ⟨z4_9⟩, ⟨zL4 BK163.out⟩, ⟨zL4 BK164.out⟩, ⟨z4_3⟩, ⟨z4_2⟩, ⟨z4_1⟩⟩
   ·rw [if_neg c6] at H
    have c6b0 : decide (i_ < (s_.length : Int)) = false := decide_eq_false c6; clear c6; simp only [Option.some.injEq, Prod.mk.injEq] at H; obtain ⟨rfl, rfl, rfl, rfl, rfl, rfl, rfl, rfl, rfl, rfl, rfl, rfl⟩ := H
    have hnb115 := ao.out
    have hnc115 := aa.out
    have hnb116 := aD.out
    have hnc116 := aA.out
    have hcz117_0 : wr.cell? ⟨gb163, 0, none⟩ = some (.int .i64 ak) := bA4 BK163 rfl; have hcz117_1 : wr.cell? ⟨gb163, 1, none⟩ = some (.int .i64 al) := bA4 BK163 rfl; have hcz117_2 : wr.cell? ⟨gb163, 2, none⟩ = some (.int .i64 am) := bA4 BK163 rfl; have hcz117_3 : wr.cell? ⟨gb163, 3, none⟩ = some (.int .i64 an) := bA4 BK163 rfl; have hcz117_4 : wr.cell? ⟨gb163, 4, none⟩ = some (.int .i64 aq) := bA4 BK163 rfl; have hcz117_5 : wr.cell? ⟨gb163, 5, none⟩ = some (.int .i64 ar) := bA4 BK163 rfl; have hcz117_6 : wr.cell? ⟨gb163, 6, none⟩ = some (.int .i64 au) := bA4 BK163 rfl; have hcz117_7 : wr.cell? ⟨gb163, 7, none⟩ = some (.int .i64 av) := bA4 BK163 rfl; have hcz117_8 : wr.cell? ⟨gb163, 8, none⟩ = some (.int .i64 aw) := bA4 BK163 rfl; have hcz117_9 : wr.cell? ⟨gb163, 9, none⟩ = some (.int .i64 ax) := bA4 BK163 rfl; have hcz117_10 : wr.cell? ⟨gb163, 10, none⟩ = some (.int .i64 ay) := bA4 BK163 rfl; have hcz117_11 : wr.cell? ⟨gb163, 11, none⟩ = some (.int .i64 az) := bA4 BK163 rfl
    have hfz117_0 := blk_frozen BK163.out 0
    have hfz117_1 := blk_frozen BK163.out 1
    have hfz117_2 := blk_frozen BK163.out 2
    have hfz117_3 := blk_frozen BK163.out 3
    have hfz117_4 := blk_frozen BK163.out 4
    have hfz117_5 := blk_frozen BK163.out 5
    have hfz117_6 := blk_frozen BK163.out 6
    have hfz117_7 := blk_frozen BK163.out 7
    have hfz117_8 := blk_frozen BK163.out 8
    have hfz117_9 := blk_frozen BK163.out 9
    have hfz117_10 := blk_frozen BK163.out 10
    have hfz117_11 := blk_frozen BK163.out 11
    have hnb118 := NB164_0.out
    have hnc118 := aG.out
    obtain ⟨hcz119_0, hfz119_0, hcz120_1, hfz120_1, hcz121_2, hfz121_2, hcz122_3, hfz122_3, hcz123_4, hfz123_4, hcz124_5, hfz124_5, hcz125_6, hfz125_6, hcz126_7, hfz126_7, hcz127_8, hfz127_8, hcz128_9, hfz128_9, hcz129_10, hfz129_10, hcz130_11, hfz130_11⟩ := cAZ12_ BK164
    go_wp2_with (first | ((with_reducible refine gate_store (t := 81) (p := 4) rfl ?_); refine store_event (t := 81) (p := 4) (v := ?vo_w131) (w1 := ((((((((((((wr.setCell ⟨gb164, 0, none⟩ (.int .i64 ak)).setCell ⟨gb164, 1, none⟩ (.int .i64 al)).setCell ⟨gb164, 2, none⟩ (.int .i64 am)).setCell ⟨gb164, 3, none⟩ (.int .i64 an)).setCell ⟨gb164, 4, none⟩ (.int .i64 aq)).setCell ⟨gb164, 5, none⟩ (.int .i64 ar)).setCell ⟨gb164, 6, none⟩ (.int .i64 au)).setCell ⟨gb164, 7, none⟩ (.int .i64 av)).setCell ⟨gb164, 8, none⟩ (.int .i64 aw)).setCell ⟨gb164, 9, none⟩ (.int .i64 ax)).setCell ⟨gb164, 10, none⟩ (.int .i64 ay)).setCell ⟨gb164, 11, none⟩ (.int .i64 az))) ?hg ?ho ?hn ?hr ?_; (case ho => rfl); (case hg => rfl); (case hn => rfl); (case hr => first | (go_simp; done) | (go_simp; rfl)); intro w131 hw; have n0_ : Aside0 (w131.heap[gb163]? = some (.cells #[.int .i64 ak, .int .i64 al, .int .i64 am, .int .i64 an, .int .i64 aq, .int .i64 ar, .int .i64 au, .int .i64 av, .int .i64 aw, .int .i64 ax, .int .i64 ay, .int .i64 az] 81 (0, 0))) := ⟨(by rw [hw]; exact (gZ ao.out BK163.out))⟩; have n1_ : Aside0 (w131.heap[gb164]? = some (.cells #[.int .i64 ak, .int .i64 al, .int .i64 am, .int .i64 an, .int .i64 aq, .int .i64 ar, .int .i64 au, .int .i64 av, .int .i64 aw, .int .i64 ax, .int .i64 ay, .int .i64 az] 81 (0, 0))) := ⟨(by rw [hw]; exact (bZ BK164.out))⟩; have n2_ : Aside0 (IsS79 w0 w131 g s_ s0_1) := ⟨(by rw [hw]; exact z4_7)⟩; have n3_ : Aside0 (KeepBut w w131 g none) := ⟨(by rw [hw]; exact z4_5)⟩; have n4_ : Aside0 (Below w0.heap.size w0 w131) := ⟨(by rw [hw]; exact z4_6)⟩; clear hw; clear BK163; clear BK164; clear HI0; clear HK; clear HB; have BK163 := n0_; have BK164 := n1_; have HI0 := n2_; have HK := n3_; have HB := n4_; clear n0_ n1_ n2_ n3_ n4_))
    refine bodyPost_ret (results_cell_row rfl _ _ gb164 81 #[.int .i64 ak, .int .i64 al, .int .i64 am, .int .i64 an, .int .i64 aq, .int .i64 ar, .int .i64 au, .int .i64 av, .int .i64 aw, .int .i64 ax, .int .i64 ay, .int .i64 az] (0, 0) _ rfl (zL4 BK164.out) Try.underlying81 rfl (by kernel_rfl)) rfl ?_; exact ⟨by first | rfl | (simp [errW_none, errW_some] <;> rfl) | (simp [*, errW_none, errW_some] <;> rfl), z4_7, z4_6, z4_5⟩

end Go.Proofs.Ytfgpffocieegdaa.PA
