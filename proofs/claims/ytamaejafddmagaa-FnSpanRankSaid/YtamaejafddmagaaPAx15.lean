-- Written by a program of this session (after the manner of the kit's print, several laws in one text).
import Derived.Test.YtamaejafddmagaaPAx0
import Derived.Test.YtamaejafddmagaaPAx1
import Derived.Test.YtamaejafddmagaaPAx2
import Derived.Test.YtamaejafddmagaaPAx3
import Derived.Test.YtamaejafddmagaaGw
import Derived.Test.YtamaejafddmagaaGm
namespace Go.Proofs.Ytamaejafddmagaa.PA
open Go.RowKit Go.Proofs.YtamaejafddmagaaW.PrintWords Go.Proofs.YtamaejafddmagaaW.PrintLast Go.Proofs.YtamaejafddmagaaW.PrintMore
attribute [local go_sem] max2_int min2_int max_two min_two max_three min_three max_four min_four   -- for this text's walks alone
set_option linter.unusedVariables false
set_option linter.unusedSimpArgs false

attribute [local go_sem high] eqA70
/-! ### impl_span_by: function 101 -/
theorem zL15 {p q : Prop} (h : q) (t : q → p := by intro h_; (with_reducible repeat first|refine blk_drewN ?_ _|refine blk_drew ?_|refine blk_alloc ?_ _); exact h_) : p := t h
theorem z15_1 {p : Prop} (h : p := by repeat (first | (with_reducible first | exact HB.out | apply below_alloc | apply pw_below_drewN | apply below_drew1 | refine below_set ?_ (IsS81.ge HI0.out) | refine below_set ?_ GE459.out | refine below_set ?_ GE460.out | refine below_set ?_ GE473.out) | exact HB.out)) : p := h
theorem z15_2 {p : Prop} (h : p := by repeat (first | (with_reducible first | exact HK.out | apply KeepBut.set_ | apply keep_drewN | apply keep_drew | apply keep_alloc | refine keep_far ?_ GW459.out _ | refine keep_far ?_ GW460.out _ | refine keep_far ?_ GW473.out _) | exact HK.out)) : p := h
theorem z15_3 {p : Prop} (h : p := by repeat (first | (with_reducible first | exact HI0.out | apply IsS81.alloc | apply IsS81.drewN | apply IsS81.drew | refine IsS81.far ?_ aq.out _ | refine IsS81.far ?_ ar.out _ | refine IsS81.far ?_ ao.out _) | exact HI0.out)) : p := h
theorem z15_4 {p : Prop} (h : p := by (with_reducible repeat first|refine blk_drewN ?_ _|refine blk_drew ?_|refine blk_alloc ?_ _); refine blk_far ?_ ak.out _; (with_reducible repeat first|refine blk_drewN ?_ _|refine blk_drew ?_|refine blk_alloc ?_ _); exact BK459.out) : p := h
theorem z15_5 {p : Prop} (h : p := by (with_reducible repeat first|refine blk_drewN ?_ _|refine blk_drew ?_|refine blk_alloc ?_ _); refine blk_far ?_ ab.out _; (with_reducible repeat first|refine blk_drewN ?_ _|refine blk_drew ?_|refine blk_alloc ?_ _); exact BK460.out) : p := h
theorem z15_6 {p : Prop} (h : p := by (try simp only [List.map_toArray, List.map_cons, List.map_nil]); first | done | rfl | (simp only [List.length_drop, List.length_take]; rfl)) : p := h
theorem z15_7 {p : Prop} (h : p := by repeat (first | (with_reducible first | exact HK.out | apply KeepBut.set_ | apply keep_drewN | apply keep_drew | apply keep_alloc | refine keep_far ?_ GW459.out _ | refine keep_far ?_ GW460.out _) | exact HK.out)) : p := h
theorem z15_8 {p : Prop} (h : p := by first | rfl | (simp; done) | (simp [*]; done) | (simp; unfold wrap64; omega)) : p := h
theorem z15_9 {p : Prop} (h : p := by repeat (first | (with_reducible first | exact HK.out | apply KeepBut.set_ | apply keep_drewN | apply keep_drew | apply keep_alloc | refine keep_far ?_ GW459.out _) | exact HK.out)) : p := h
theorem z15_10 {p : Prop} (h : p := by repeat (first | (with_reducible first | exact HK.out | apply KeepBut.set_ | apply keep_drewN | apply keep_drew | apply keep_alloc) | exact HK.out)) : p := h
theorem z15_11 {p : Prop} (h : p := by rw [← hq_]; exact (zL15 BK459.out)) : p := h
theorem z15_12 {p : Prop} (h : p := by rw [← hq_]; exact (zL15 BK460.out)) : p := h
theorem z15_13 {p : Prop} (h : p := by rw [← hq_]; exact (zL15 BK473.out)) : p := h
theorem z15_14 {p : Prop} (h : p := by rw [← hq_]; exact z15_3) : p := h
theorem z15_15 {p : Prop} (h : p := by rw [← hq_]; exact z15_2) : p := h
theorem z15_16 {p : Prop} (h : p := by rw [← hq_]; exact z15_1) : p := h
theorem z15_17 {p : Prop} (h : p := by have := HK1.out; omega) : p := h
def impl_span_by.l0 : Nat → Int → Int → Int → Int → Int → Int → Int → Int → Int → Int → Int → Int → Int → Option (Int × Int × Int × Int × Int × Int × Int × Int × Bool)
  | 0, _, _, _, _, _, _, _, _, _, _, _, _, _ => none
  | k + 1, x12, x474000, x474001, x474002, x474003, x474004, x474005, x474006, x474007, x474008, x474009, x474010, x474011 => if x12 < 8 then (if x12 = 0 then ((impl_elementOf.f (wrap64 (-x474004))).bind fun t474 => (impl_span_by.l0 k (wrap64 (x12 + 1)) x474000 x474001 x474002 x474003 t474 x474005 x474006 x474007 x474008 x474009 x474010 x474011)) else (if x12 = 1 then ((impl_elementOf.f (wrap64 (-x474005))).bind fun t475 => (impl_span_by.l0 k (wrap64 (x12 + 1)) x474000 x474001 x474002 x474003 x474004 t475 x474006 x474007 x474008 x474009 x474010 x474011)) else (if x12 = 2 then ((impl_elementOf.f (wrap64 (-x474006))).bind fun t476 => (impl_span_by.l0 k (wrap64 (x12 + 1)) x474000 x474001 x474002 x474003 x474004 x474005 t476 x474007 x474008 x474009 x474010 x474011)) else (if x12 = 3 then ((impl_elementOf.f (wrap64 (-x474007))).bind fun t477 => (impl_span_by.l0 k (wrap64 (x12 + 1)) x474000 x474001 x474002 x474003 x474004 x474005 x474006 t477 x474008 x474009 x474010 x474011)) else (if x12 = 4 then ((impl_elementOf.f (wrap64 (-x474008))).bind fun t478 => (impl_span_by.l0 k (wrap64 (x12 + 1)) x474000 x474001 x474002 x474003 x474004 x474005 x474006 x474007 t478 x474009 x474010 x474011)) else (if x12 = 5 then ((impl_elementOf.f (wrap64 (-x474009))).bind fun t479 => (impl_span_by.l0 k (wrap64 (x12 + 1)) x474000 x474001 x474002 x474003 x474004 x474005 x474006 x474007 x474008 t479 x474010 x474011)) else (if x12 = 6 then ((impl_elementOf.f (wrap64 (-x474010))).bind fun t480 => (impl_span_by.l0 k (wrap64 (x12 + 1)) x474000 x474001 x474002 x474003 x474004 x474005 x474006 x474007 x474008 x474009 t480 x474011)) else (if x12 = 7 then ((impl_elementOf.f (wrap64 (-x474011))).bind fun t481 => (impl_span_by.l0 k (wrap64 (x12 + 1)) x474000 x474001 x474002 x474003 x474004 x474005 x474006 x474007 x474008 x474009 x474010 t481)) else (none))))))))) else (some (x474004, x474005, x474006, x474007, x474008, x474009, x474010, x474011, (x474000 == 0 && (x474001 == 0 && (x474002 == 0 && (x474003 == 0))))))
def impl_span_by.f (k : Nat) (s0_0 : List (S102)) (s0_1 : List Int) (a1_0 : Int) (a1_1 : Int) (a1_2 : Int) (a1_3 : Int) : Option (Int × Int × Int × Int × Int × Int × Int × Int × Bool) := (impl_span_less.f k s0_0 s0_1 a1_0 a1_1 a1_2 a1_3 0 0 0 0 0 0 0 0).bind fun bt461 => (impl_span_by.l0 k 0 bt461.1 bt461.2.1 bt461.2.2.1 bt461.2.2.2.1 bt461.2.2.2.2.1 bt461.2.2.2.2.2.1 bt461.2.2.2.2.2.2.1 bt461.2.2.2.2.2.2.2.1 bt461.2.2.2.2.2.2.2.2.1 bt461.2.2.2.2.2.2.2.2.2.1 bt461.2.2.2.2.2.2.2.2.2.2.1 bt461.2.2.2.2.2.2.2.2.2.2.2)
def impl_span_by.T7 : Bool × List (List Nat × List Nat) := (true, [([], []), ([0], [0]), ([], []), ([2], [2]), ([], []), ([3, 4], [3, 4]), ([1, 0, 1], [1]), ([5, 6, 0, 1, 2, 3, 4, 5, 6], [5])])
def impl_span_by.B7 : List Nat := [0, 1, 0, 4, 0, 28, 3, 127]
theorem impl_span_by.tab7 : rtab .any (opsOf Try.f101 7) = impl_span_by.T7 := by kernel_rfl
theorem impl_span_by.bits7 : waitsOk impl_span_by.T7.2 impl_span_by.B7 = true := by kernel_rfl
theorem bA15 {W : World} {g : Nat} {cs : Array Value} {ty : TypeId} {j : Nat} {v : Value} (h : Aside0 (W.heap[g]? = some (.cells cs ty (0, 0)))) (e : cs[j]? = some v) : W.cell? ⟨g, j, none⟩ = some v := (blk_cell h.out j).trans e
set_option maxHeartbeats 8000000 in
set_option maxRecDepth 100000 in
theorem impl_span_by.calls (k : Nat) (g : Nat) (s0_0 : List (S102)) (s0_1 : List Int) (a1_0 : Int) (a1_1 : Int) (a1_2 : Int) (a1_3 : Int) (r1 : Int) (r2 : Int) (r3 : Int) (r4 : Int) (r5 : Int) (r6 : Int) (r7 : Int) (r8 : Int) (r9 : Bool) (w0 w : World) (hI : IsS81 w0 w g s0_0 s0_1) (hB : Below w0.heap.size w0 w) (h : impl_span_by.f k s0_0 s0_1 a1_0 a1_1 a1_2 a1_3 = some (r1, r2, r3, r4, r5, r6, r7, r8, r9)) :
  Calls Try.prog 101 #[.pointer (some ⟨g, 0, none⟩), .agg #[.int .i64 a1_0, .int .i64 a1_1, .int .i64 a1_2, .int .i64 a1_3]] w fun e w' => e = .returned (.tuple #[.agg #[.int .i64 r1, .int .i64 r2, .int .i64 r3, .int .i64 r4, .int .i64 r5, .int .i64 r6, .int .i64 r7, .int .i64 r8], .bool r9]) ∧ IsS81 w0 w' g s0_0 s0_1 ∧ Below w0.heap.size w0 w' ∧ KeepBut w w' g none := by
 have hu70 := Try.underlying70
 have hu100 := Try.underlying100
 have hu102 := Try.underlying102
 have HI0 := Aside0.mk hI
 have HK := Aside0.mk (KeepBut.refl w g none)
 have HL := Aside0.mk hB.size
 clear hI
 have HW0 := Aside0.mk hB.size
 have HB := Aside0.mk hB
 clear hB
 have H : ((impl_span_less.f k s0_0 s0_1 a1_0 a1_1 a1_2 a1_3 0 0 0 0 0 0 0 0).bind fun bt461 => (impl_span_by.l0 k 0 bt461.1 bt461.2.1 bt461.2.2.1 bt461.2.2.2.1 bt461.2.2.2.2.1 bt461.2.2.2.2.2.1 bt461.2.2.2.2.2.2.1 bt461.2.2.2.2.2.2.2.1 bt461.2.2.2.2.2.2.2.2.1 bt461.2.2.2.2.2.2.2.2.2.1 bt461.2.2.2.2.2.2.2.2.2.2.1 bt461.2.2.2.2.2.2.2.2.2.2.2)) = some (r1, r2, r3, r4, r5, r6, r7, r8, r9) := h
 clear h
 replace H := Option.bind_eq_some_iff.mp H
 obtain ⟨⟨t461, t462, t463, t464, t465, t466, t467, t468, t469, t470, t471, t472⟩, A30, H⟩ := H
 replace H : (impl_span_by.l0 k 0 t461 t462 t463 t464 t465 t466 t467 t468 t469 t470 t471 t472) = some (r1, r2, r3, r4, r5, r6, r7, r8, r9) := H
 have A3 := Aside0.mk A30
 clear A30
 have H' := Aside0.mk H
 clear H
 go_enter Try.func101, Try.ntmps101
 go_wp2_with (first | ((with_reducible refine gate_dst (N := 3) rfl ?_); refine box_event ?hg (N := 3) ?hd (cs := #[.int .i64 a1_0, .int .i64 a1_1, .int .i64 a1_2, .int .i64 a1_3]) (t := 70) ?hr ?_; (case hd => rfl); (case hg => rfl); (case hr => first | (go_simp; done) | (go_simp; rfl)); intro gb459 hg w4 hbox hb; replace HB := Aside0.mk (below_step (by repeat (first | (with_reducible first | exact HB.out | apply below_alloc | apply pw_below_drewN | apply below_drew1 | refine below_set ?_ (IsS81.ge HI0.out)) | exact HB.out)) hb); have BK459 := Aside0.mk (hbox); have GW459 := Aside0.mk ((by rw [hg]; exact (keep_size (w := w) (g := g) (row := none) z15_10) : w.heap.size ≤ gb459)); have GE459 := Aside0.mk ((Nat.le_trans HW0.out (by rw [hg]; exact (keep_size (w := w) (g := g) (row := none) z15_10) : w.heap.size ≤ gb459) : w0.heap.size ≤ gb459)); replace HK := Aside0.mk (KeepBut.trans z15_10 (KeepBut.of_below hb g none) (.inl rfl)); have aq := Aside0.mk ((by rw [hg]; exact Nat.ne_of_lt (IsS81.lt (show IsS81 w0 _ g s0_0 s0_1 from by repeat (first | (with_reducible first | exact HI0.out | apply IsS81.alloc | apply IsS81.drewN | apply IsS81.drew) | exact HI0.out))) : g ≠ gb459)); have au := Aside0.mk ((by rw [hg]; exact Nat.ne_of_gt (IsS81.lt (show IsS81 w0 _ g s0_0 s0_1 from by repeat (first | (with_reducible first | exact HI0.out | apply IsS81.alloc | apply IsS81.drewN | apply IsS81.drew) | exact HI0.out))) : gb459 ≠ g)); replace HI0 := Aside0.mk (IsS81.below (by repeat (first | (with_reducible first | exact HI0.out | apply IsS81.alloc | apply IsS81.drewN | apply IsS81.drew) | exact HI0.out)) hb); clear hb hbox hg) | ((with_reducible refine gate_dst (N := 4) rfl ?_); refine box_event ?hg (N := 4) ?hd (cs := #[.int .i64 0, .int .i64 0, .int .i64 0, .int .i64 0, .int .i64 0, .int .i64 0, .int .i64 0, .int .i64 0]) (t := 100) ?hr ?_; (case hd => rfl); (case hg => rfl); (case hr => first | (go_simp; done) | (go_simp; rfl)); intro gb460 hg w5 hbox hb; replace HB := Aside0.mk (below_step (by repeat (first | (with_reducible first | exact HB.out | apply below_alloc | apply pw_below_drewN | apply below_drew1 | refine below_set ?_ (IsS81.ge HI0.out) | refine below_set ?_ GE459.out) | exact HB.out)) hb); have BK460 := Aside0.mk (hbox); have GW460 := Aside0.mk ((by rw [hg]; exact (keep_size (w := w) (g := g) (row := none) z15_9) : w.heap.size ≤ gb460)); have GE460 := Aside0.mk ((Nat.le_trans HW0.out (by rw [hg]; exact (keep_size (w := w) (g := g) (row := none) z15_9) : w.heap.size ≤ gb460) : w0.heap.size ≤ gb460)); replace HK := Aside0.mk (KeepBut.trans z15_9 (KeepBut.of_below hb g none) (.inl rfl)); have al := Aside0.mk ((by rw [hg]; exact Nat.ne_of_lt (blk_lt (g := gb459) (o := .cells #[.int .i64 a1_0, .int .i64 a1_1, .int .i64 a1_2, .int .i64 a1_3] 70 (0, 0)) (zL15 BK459.out)) : gb459 ≠ gb460)); have am := Aside0.mk ((by rw [hg]; exact Nat.ne_of_gt (blk_lt (g := gb459) (o := .cells #[.int .i64 a1_0, .int .i64 a1_1, .int .i64 a1_2, .int .i64 a1_3] 70 (0, 0)) (zL15 BK459.out)) : gb460 ≠ gb459)); replace BK459 := Aside0.mk (blk_below (g := gb459) (o := .cells #[.int .i64 a1_0, .int .i64 a1_1, .int .i64 a1_2, .int .i64 a1_3] 70 (0, 0)) (zL15 BK459.out) hb); have ar := Aside0.mk ((by rw [hg]; exact Nat.ne_of_lt (IsS81.lt (show IsS81 w0 _ g s0_0 s0_1 from by repeat (first | (with_reducible first | exact HI0.out | apply IsS81.alloc | apply IsS81.drewN | apply IsS81.drew | refine IsS81.far ?_ aq.out _) | exact HI0.out))) : g ≠ gb460)); have NB460_0 := Aside0.mk ((by rw [hg]; exact Nat.ne_of_gt (IsS81.lt (show IsS81 w0 _ g s0_0 s0_1 from by repeat (first | (with_reducible first | exact HI0.out | apply IsS81.alloc | apply IsS81.drewN | apply IsS81.drew | refine IsS81.far ?_ aq.out _) | exact HI0.out))) : gb460 ≠ g)); replace HI0 := Aside0.mk (IsS81.below (by repeat (first | (with_reducible first | exact HI0.out | apply IsS81.alloc | apply IsS81.drewN | apply IsS81.drew | refine IsS81.far ?_ aq.out _) | exact HI0.out)) hb); clear hb hbox hg; have hnb6 := al.out; have hnc6 := am.out; have hnb7 := au.out; have hnc7 := aq.out; have hcz8_0 : w5.cell? ⟨gb459, 0, none⟩ = some (.int .i64 a1_0) := bA15 BK459 rfl; have hcz8_1 : w5.cell? ⟨gb459, 1, none⟩ = some (.int .i64 a1_1) := bA15 BK459 rfl; have hcz8_2 : w5.cell? ⟨gb459, 2, none⟩ = some (.int .i64 a1_2) := bA15 BK459 rfl; have hcz8_3 : w5.cell? ⟨gb459, 3, none⟩ = some (.int .i64 a1_3) := bA15 BK459 rfl; have hfz8_0 := blk_frozen BK459.out 0; have hfz8_1 := blk_frozen BK459.out 1; have hfz8_2 := blk_frozen BK459.out 2; have hfz8_3 := blk_frozen BK459.out 3) | ((with_reducible refine gate_callee (f := 102) rfl ?_); refine goesL_ (some 11) rfl rfl Try.func102 (by kernel_rfl) rfl #[.pointer (some ⟨g, 0, none⟩), .agg #[.int .i64 a1_0, .int .i64 a1_1, .int .i64 a1_2, .int .i64 a1_3, .int .i64 0, .int .i64 0, .int .i64 0, .int .i64 0, .int .i64 0, .int .i64 0, .int .i64 0, .int .i64 0]] rfl z15_6 ?_; (with_reducible refine (impl_span_less.calls k g s0_0 s0_1 a1_0 a1_1 a1_2 a1_3 0 0 0 0 0 0 0 0 t461 t462 t463 t464 t465 t466 t467 t468 t469 t470 t471 t472 w0 _ ?side1 ?side2 A3.out).mono ?_); (case side1 => repeat (first | (with_reducible first | exact HI0.out | apply IsS81.alloc | apply IsS81.drewN | apply IsS81.drew | refine IsS81.far ?_ aq.out _ | refine IsS81.far ?_ ar.out _) | exact HI0.out)); (case side2 => repeat (first | (with_reducible first | exact HB.out | apply below_alloc | apply pw_below_drewN | apply below_drew1 | refine below_set ?_ (IsS81.ge HI0.out) | refine below_set ?_ GE459.out | refine below_set ?_ GE460.out) | exact HB.out)); rintro e w9 ⟨rfl, hi, hb, hk⟩; refine ⟨_, rfl, ?_⟩; replace BK459 := Aside0.mk (KeepBut.blk hk (g' := gb459) (o := .cells #[.int .i64 a1_0, .int .i64 a1_1, .int .i64 a1_2, .int .i64 a1_3] 70 (0, 0)) (zL15 BK459.out) au.out (by simp)); replace BK460 := Aside0.mk (KeepBut.blk hk (g' := gb460) (o := .cells #[.int .i64 0, .int .i64 0, .int .i64 0, .int .i64 0, .int .i64 0, .int .i64 0, .int .i64 0, .int .i64 0] 100 (0, 0)) (zL15 BK460.out) NB460_0.out (by simp)); replace HK := Aside0.mk (KeepBut.trans z15_7 hk (.inl rfl)); replace HB := Aside0.mk (hb); replace HI0 := Aside0.mk (hi); (try clear hb)) | ((with_reducible refine gate_dst (N := 6) rfl ?_); refine box_event ?hg (N := 6) ?hd (cs := #[.int .i64 0, .int .i64 0, .int .i64 0, .int .i64 0, .int .i64 0, .int .i64 0, .int .i64 0, .int .i64 0, .int .i64 0, .int .i64 0, .int .i64 0, .int .i64 0]) (t := 102) ?hr ?_; (case hd => rfl); (case hg => rfl); (case hr => first | (go_simp; done) | (go_simp; rfl)); intro gb473 hg w10 hbox hb; replace HB := Aside0.mk (below_step (by repeat (first | (with_reducible first | exact HB.out | apply below_alloc | apply pw_below_drewN | apply below_drew1 | refine below_set ?_ (IsS81.ge HI0.out) | refine below_set ?_ GE459.out | refine below_set ?_ GE460.out) | exact HB.out)) hb); have BK473 := Aside0.mk (hbox); have GW473 := Aside0.mk ((by rw [hg]; exact (keep_size (w := w) (g := g) (row := none) z15_7) : w.heap.size ≤ gb473)); have GE473 := Aside0.mk ((Nat.le_trans HW0.out (by rw [hg]; exact (keep_size (w := w) (g := g) (row := none) z15_7) : w.heap.size ≤ gb473) : w0.heap.size ≤ gb473)); replace HK := Aside0.mk (KeepBut.trans z15_7 (KeepBut.of_below hb g none) (.inl rfl)); have ak := Aside0.mk ((by rw [hg]; exact Nat.ne_of_lt (blk_lt (g := gb459) (o := .cells #[.int .i64 a1_0, .int .i64 a1_1, .int .i64 a1_2, .int .i64 a1_3] 70 (0, 0)) (zL15 BK459.out)) : gb459 ≠ gb473)); have an := Aside0.mk ((by rw [hg]; exact Nat.ne_of_gt (blk_lt (g := gb459) (o := .cells #[.int .i64 a1_0, .int .i64 a1_1, .int .i64 a1_2, .int .i64 a1_3] 70 (0, 0)) (zL15 BK459.out)) : gb473 ≠ gb459)); replace BK459 := Aside0.mk (blk_below (g := gb459) (o := .cells #[.int .i64 a1_0, .int .i64 a1_1, .int .i64 a1_2, .int .i64 a1_3] 70 (0, 0)) (zL15 BK459.out) hb); have ab := Aside0.mk ((by rw [hg]; exact Nat.ne_of_lt (blk_lt (g := gb460) (o := .cells #[.int .i64 0, .int .i64 0, .int .i64 0, .int .i64 0, .int .i64 0, .int .i64 0, .int .i64 0, .int .i64 0] 100 (0, 0)) (zL15 BK460.out)) : gb460 ≠ gb473)); have aa := Aside0.mk ((by rw [hg]; exact Nat.ne_of_gt (blk_lt (g := gb460) (o := .cells #[.int .i64 0, .int .i64 0, .int .i64 0, .int .i64 0, .int .i64 0, .int .i64 0, .int .i64 0, .int .i64 0] 100 (0, 0)) (zL15 BK460.out)) : gb473 ≠ gb460)); replace BK460 := Aside0.mk (blk_below (g := gb460) (o := .cells #[.int .i64 0, .int .i64 0, .int .i64 0, .int .i64 0, .int .i64 0, .int .i64 0, .int .i64 0, .int .i64 0] 100 (0, 0)) (zL15 BK460.out) hb); have ao := Aside0.mk ((by rw [hg]; exact Nat.ne_of_lt (IsS81.lt (show IsS81 w0 _ g s0_0 s0_1 from by repeat (first | (with_reducible first | exact HI0.out | apply IsS81.alloc | apply IsS81.drewN | apply IsS81.drew | refine IsS81.far ?_ aq.out _ | refine IsS81.far ?_ ar.out _) | exact HI0.out))) : g ≠ gb473)); have ap := Aside0.mk ((by rw [hg]; exact Nat.ne_of_gt (IsS81.lt (show IsS81 w0 _ g s0_0 s0_1 from by repeat (first | (with_reducible first | exact HI0.out | apply IsS81.alloc | apply IsS81.drewN | apply IsS81.drew | refine IsS81.far ?_ aq.out _ | refine IsS81.far ?_ ar.out _) | exact HI0.out))) : gb473 ≠ g)); replace HI0 := Aside0.mk (IsS81.below (by repeat (first | (with_reducible first | exact HI0.out | apply IsS81.alloc | apply IsS81.drewN | apply IsS81.drew | refine IsS81.far ?_ aq.out _ | refine IsS81.far ?_ ar.out _) | exact HI0.out)) hb); clear hb hbox hg; have hnb11 := an.out; have hnc11 := ak.out; have hnb12 := aa.out; have hnc12 := ab.out; have hnb13 := ap.out; have hnc13 := ao.out; have hcz14_0 : w10.cell? ⟨gb473, 0, none⟩ = some (.int .i64 0) := bA15 BK473 rfl; have hfz14_0 := blk_frozen BK473.out 0; have hcz15_1 : w10.cell? ⟨gb473, 1, none⟩ = some (.int .i64 0) := bA15 BK473 rfl; have hfz15_1 := blk_frozen BK473.out 1; have hcz16_2 : w10.cell? ⟨gb473, 2, none⟩ = some (.int .i64 0) := bA15 BK473 rfl; have hfz16_2 := blk_frozen BK473.out 2; have hcz17_3 : w10.cell? ⟨gb473, 3, none⟩ = some (.int .i64 0) := bA15 BK473 rfl; have hfz17_3 := blk_frozen BK473.out 3; have hcz18_4 : w10.cell? ⟨gb473, 4, none⟩ = some (.int .i64 0) := bA15 BK473 rfl; have hfz18_4 := blk_frozen BK473.out 4; have hcz19_5 : w10.cell? ⟨gb473, 5, none⟩ = some (.int .i64 0) := bA15 BK473 rfl; have hfz19_5 := blk_frozen BK473.out 5; have hcz20_6 : w10.cell? ⟨gb473, 6, none⟩ = some (.int .i64 0) := bA15 BK473 rfl; have hfz20_6 := blk_frozen BK473.out 6; have hcz21_7 : w10.cell? ⟨gb473, 7, none⟩ = some (.int .i64 0) := bA15 BK473 rfl; have hfz21_7 := blk_frozen BK473.out 7; have hcz22_8 : w10.cell? ⟨gb473, 8, none⟩ = some (.int .i64 0) := bA15 BK473 rfl; have hfz22_8 := blk_frozen BK473.out 8; have hcz23_9 : w10.cell? ⟨gb473, 9, none⟩ = some (.int .i64 0) := bA15 BK473 rfl; have hfz23_9 := blk_frozen BK473.out 9; have av : w10.cell? ⟨gb473, 10, none⟩ = some (.int .i64 0) := bA15 BK473 rfl; have aw := blk_frozen BK473.out 10; have ax : w10.cell? ⟨gb473, 11, none⟩ = some (.int .i64 0) := bA15 BK473 rfl; have ay := blk_frozen BK473.out 11) | ((with_reducible refine gate_store (t := 102) (p := 6) rfl ?_); refine store_event (t := 102) (p := 6) (v := ?vo_w26) (w1 := ((((((((((((w10.setCell ⟨gb473, 0, none⟩ (.int .i64 t461)).setCell ⟨gb473, 1, none⟩ (.int .i64 t462)).setCell ⟨gb473, 2, none⟩ (.int .i64 t463)).setCell ⟨gb473, 3, none⟩ (.int .i64 t464)).setCell ⟨gb473, 4, none⟩ (.int .i64 t465)).setCell ⟨gb473, 5, none⟩ (.int .i64 t466)).setCell ⟨gb473, 6, none⟩ (.int .i64 t467)).setCell ⟨gb473, 7, none⟩ (.int .i64 t468)).setCell ⟨gb473, 8, none⟩ (.int .i64 t469)).setCell ⟨gb473, 9, none⟩ (.int .i64 t470)).setCell ⟨gb473, 10, none⟩ (.int .i64 t471)).setCell ⟨gb473, 11, none⟩ (.int .i64 t472))) ?hg ?ho ?hn ?hr ?_; (case ho => rfl); (case hg => rfl); (case hn => rfl); (case hr => first | (go_simp; done) | (go_simp; rfl)); intro w26 hw; have n0_ : Aside0 (w26.heap[gb459]? = some (.cells #[.int .i64 a1_0, .int .i64 a1_1, .int .i64 a1_2, .int .i64 a1_3] 70 (0, 0))) := ⟨(by rw [hw]; exact (by (with_reducible repeat first|refine blk_drewN ?_ _|refine blk_drew ?_|refine blk_alloc ?_ _); refine blk_far ?_ ak.out _; (with_reducible repeat first|refine blk_drewN ?_ _|refine blk_drew ?_|refine blk_alloc ?_ _); refine blk_far ?_ ak.out _; (with_reducible repeat first|refine blk_drewN ?_ _|refine blk_drew ?_|refine blk_alloc ?_ _); refine blk_far ?_ ak.out _; (with_reducible repeat first|refine blk_drewN ?_ _|refine blk_drew ?_|refine blk_alloc ?_ _); refine blk_far ?_ ak.out _; (with_reducible repeat first|refine blk_drewN ?_ _|refine blk_drew ?_|refine blk_alloc ?_ _); refine blk_far ?_ ak.out _; (with_reducible repeat first|refine blk_drewN ?_ _|refine blk_drew ?_|refine blk_alloc ?_ _); refine blk_far ?_ ak.out _; (with_reducible repeat first|refine blk_drewN ?_ _|refine blk_drew ?_|refine blk_alloc ?_ _); refine blk_far ?_ ak.out _; (with_reducible repeat first|refine blk_drewN ?_ _|refine blk_drew ?_|refine blk_alloc ?_ _); refine blk_far ?_ ak.out _; (with_reducible repeat first|refine blk_drewN ?_ _|refine blk_drew ?_|refine blk_alloc ?_ _); refine blk_far ?_ ak.out _; (with_reducible repeat first|refine blk_drewN ?_ _|refine blk_drew ?_|refine blk_alloc ?_ _); refine blk_far ?_ ak.out _; (with_reducible repeat first|refine blk_drewN ?_ _|refine blk_drew ?_|refine blk_alloc ?_ _); refine blk_far ?_ ak.out _; (with_reducible repeat first|refine blk_drewN ?_ _|refine blk_drew ?_|refine blk_alloc ?_ _); refine blk_far ?_ ak.out _; (with_reducible repeat first|refine blk_drewN ?_ _|refine blk_drew ?_|refine blk_alloc ?_ _); exact BK459.out))⟩; have n1_ : Aside0 (w26.heap[gb460]? = some (.cells #[.int .i64 0, .int .i64 0, .int .i64 0, .int .i64 0, .int .i64 0, .int .i64 0, .int .i64 0, .int .i64 0] 100 (0, 0))) := ⟨(by rw [hw]; exact (by (with_reducible repeat first|refine blk_drewN ?_ _|refine blk_drew ?_|refine blk_alloc ?_ _); refine blk_far ?_ ab.out _; (with_reducible repeat first|refine blk_drewN ?_ _|refine blk_drew ?_|refine blk_alloc ?_ _); refine blk_far ?_ ab.out _; (with_reducible repeat first|refine blk_drewN ?_ _|refine blk_drew ?_|refine blk_alloc ?_ _); refine blk_far ?_ ab.out _; (with_reducible repeat first|refine blk_drewN ?_ _|refine blk_drew ?_|refine blk_alloc ?_ _); refine blk_far ?_ ab.out _; (with_reducible repeat first|refine blk_drewN ?_ _|refine blk_drew ?_|refine blk_alloc ?_ _); refine blk_far ?_ ab.out _; (with_reducible repeat first|refine blk_drewN ?_ _|refine blk_drew ?_|refine blk_alloc ?_ _); refine blk_far ?_ ab.out _; (with_reducible repeat first|refine blk_drewN ?_ _|refine blk_drew ?_|refine blk_alloc ?_ _); refine blk_far ?_ ab.out _; (with_reducible repeat first|refine blk_drewN ?_ _|refine blk_drew ?_|refine blk_alloc ?_ _); refine blk_far ?_ ab.out _; (with_reducible repeat first|refine blk_drewN ?_ _|refine blk_drew ?_|refine blk_alloc ?_ _); refine blk_far ?_ ab.out _; (with_reducible repeat first|refine blk_drewN ?_ _|refine blk_drew ?_|refine blk_alloc ?_ _); refine blk_far ?_ ab.out _; (with_reducible repeat first|refine blk_drewN ?_ _|refine blk_drew ?_|refine blk_alloc ?_ _); refine blk_far ?_ ab.out _; (with_reducible repeat first|refine blk_drewN ?_ _|refine blk_drew ?_|refine blk_alloc ?_ _); refine blk_far ?_ ab.out _; (with_reducible repeat first|refine blk_drewN ?_ _|refine blk_drew ?_|refine blk_alloc ?_ _); exact BK460.out))⟩; have n2_ : Aside0 (w26.heap[gb473]? = some (.cells #[.int .i64 t461, .int .i64 t462, .int .i64 t463, .int .i64 t464, .int .i64 t465, .int .i64 t466, .int .i64 t467, .int .i64 t468, .int .i64 t469, .int .i64 t470, .int .i64 t471, .int .i64 t472] 102 (0, 0))) := ⟨(by rw [hw]; exact (bZ BK473.out))⟩; have n3_ : Aside0 (IsS81 w0 w26 g s0_0 s0_1) := ⟨(by rw [hw]; exact z15_3)⟩; have n4_ : Aside0 (KeepBut w w26 g none) := ⟨(by rw [hw]; exact z15_2)⟩; have n5_ : Aside0 (Below w0.heap.size w0 w26) := ⟨(by rw [hw]; exact z15_1)⟩; clear hw; clear BK459; clear BK460; clear BK473; clear HI0; clear HK; clear HB; have BK459 := n0_; have BK460 := n1_; have BK473 := n2_; have HI0 := n3_; have HK := n4_; have HB := n5_; clear n0_ n1_ n2_ n3_ n4_ n5_))
 go_loopg [12] k (fun kq v12 w' => ∃ (x12_1 : Int) (ac : Int) (ad : Int) (ae : Int) (af : Int) (ag : Int) (ah : Int) (ai : Int) (aj : Int), v12 = .int .i64 x12_1 ∧ Aside0 (impl_span_by.l0 kq x12_1 t461 t462 t463 t464 ac ad ae af ag ah ai aj = some (r1, r2, r3, r4, r5, r6, r7, r8, r9)) ∧ Aside0 (kq ≤ k) ∧ Aside0 (w'.heap[gb459]? = some (.cells #[.int .i64 a1_0, .int .i64 a1_1, .int .i64 a1_2, .int .i64 a1_3] 70 (0, 0))) ∧ Aside0 (w'.heap[gb460]? = some (.cells #[.int .i64 0, .int .i64 0, .int .i64 0, .int .i64 0, .int .i64 0, .int .i64 0, .int .i64 0, .int .i64 0] 100 (0, 0))) ∧ Aside0 (w'.heap[gb473]? = some (.cells #[.int .i64 t461, .int .i64 t462, .int .i64 t463, .int .i64 t464, .int .i64 ac, .int .i64 ad, .int .i64 ae, .int .i64 af, .int .i64 ag, .int .i64 ah, .int .i64 ai, .int .i64 aj] 102 (0, 0))) ∧ Aside0 (IsS81 w0 w' g s0_0 s0_1) ∧ Aside0 (KeepBut w w' g none) ∧ Aside0 (Below w0.heap.size w0 w'))
 case atStart => exact ⟨(0), (t465), (t466), (t467), (t468), (t469), (t470), (t471), (t472), (by first | rfl | (simp; done) | (simp [*]; done)), H', ⟨Nat.le_refl _⟩, ⟨zL15 BK459.out⟩, ⟨zL15 BK460.out⟩, ⟨zL15 BK473.out⟩, ⟨z15_3⟩, ⟨z15_2⟩, ⟨z15_1⟩⟩
 case round =>
  clear H'
  try clear hcz14_0
  try clear hcz15_1
  try clear hcz16_2
  try clear hcz17_3
  try clear hcz18_4
  try clear hcz19_5
  try clear hcz20_6
  try clear hcz21_7
  try clear hcz22_8
  try clear hcz23_9
  try clear av
  try clear ax
  try clear hcz8_0 hcz8_1 hcz8_2 hcz8_3
  try clear hfz14_0
  try clear hfz15_1
  try clear hfz16_2
  try clear hfz17_3
  try clear hfz18_4
  try clear hfz19_5
  try clear hfz20_6
  try clear hfz21_7
  try clear hfz22_8
  try clear hfz23_9
  try clear aw
  try clear ay
  try clear hfz8_0 hfz8_1 hfz8_2 hfz8_3
  obtain ⟨x12_1, ac, ad, ae, af, ag, ah, ai, aj, rfl, HA, HK1, BK459, BK460, BK473, HI0, HK, HB⟩ := hrel
  cases gk with
  | zero => exact absurd HA.out (by simp [impl_span_by.l0])
  | succ k1 =>
   have H := HA.out
   clear HA
   simp only [impl_span_by.l0] at H
   by_cases c27 : x12_1 < 8
   ·rw [if_pos c27] at H
    have c27b0 : decide (x12_1 < 8) = true := decide_eq_true c27
    clear c27
    by_cases c28 : x12_1 = 0
    ·rw [if_pos c28] at H
     subst c28
     replace H : ((impl_elementOf.f (wrap64 (-ac))).bind fun t474 => (impl_span_by.l0 k1 (wrap64 ((0 : Int) + 1)) t461 t462 t463 t464 t474 ad ae af ag ah ai aj)) = some (r1, r2, r3, r4, r5, r6, r7, r8, r9) := H
     replace H := Option.bind_eq_some_iff.mp H
     obtain ⟨t474, A290, H⟩ := H
     replace H : (impl_span_by.l0 k1 (wrap64 ((0 : Int) + 1)) t461 t462 t463 t464 t474 ad ae af ag ah ai aj) = some (r1, r2, r3, r4, r5, r6, r7, r8, r9) := H
     have A29 := Aside0.mk A290
     clear A290
     have H' := Aside0.mk H
     clear H
     have hnb30 := an.out
     have hnc30 := ak.out
     have hnb31 := aa.out
     have hnc31 := ab.out
     have hnb32 := ap.out
     have hnc32 := ao.out
     have hcz33_4 : wr.cell? ⟨gb473, 4, none⟩ = some (.int .i64 ac) := bA15 BK473 rfl
     have hfz33_4 := blk_frozen BK473.out 4
     go_wp2_with (first | ((with_reducible refine gate_callee (f := 118) rfl ?_); refine goesL_ (some 21) rfl rfl Try.func118 (by kernel_rfl) rfl #[.int .i64 (wrap64 (-ac))] rfl z15_6 ?_; (with_reducible refine (impl_elementOf.calls (wrap64 (-ac)) t474 _ A29.out).mono ?_); rintro e w' ⟨rfl, ⟨nd, rfl⟩⟩; refine ⟨_, rfl, ?_⟩; (try (rw [drewN_self wr]; generalize hq_ : World.drewN wr _ = wr; have n0_ : Aside0 (wr.heap[gb459]? = some (.cells #[.int .i64 a1_0, .int .i64 a1_1, .int .i64 a1_2, .int .i64 a1_3] 70 (0, 0))) := ⟨z15_11⟩; have n1_ : Aside0 (wr.heap[gb460]? = some (.cells #[.int .i64 0, .int .i64 0, .int .i64 0, .int .i64 0, .int .i64 0, .int .i64 0, .int .i64 0, .int .i64 0] 100 (0, 0))) := ⟨z15_12⟩; have n2_ : Aside0 (wr.heap[gb473]? = some (.cells #[.int .i64 t461, .int .i64 t462, .int .i64 t463, .int .i64 t464, .int .i64 ac, .int .i64 ad, .int .i64 ae, .int .i64 af, .int .i64 ag, .int .i64 ah, .int .i64 ai, .int .i64 aj] 102 (0, 0))) := ⟨z15_13⟩; have n3_ : Aside0 (IsS81 w0 wr g s0_0 s0_1) := ⟨z15_14⟩; have n4_ : Aside0 (KeepBut w wr g none) := ⟨z15_15⟩; have n5_ : Aside0 (Below w0.heap.size w0 wr) := ⟨z15_16⟩; clear BK459 BK460 BK473 HI0 HK HB hq_; have BK459 := n0_; have BK460 := n1_; have BK473 := n2_; have HI0 := n3_; have HK := n4_; have HB := n5_; clear n0_ n1_ n2_ n3_ n4_ n5_; have hcr473_4 : wr.cell? ⟨gb473, 4, none⟩ = some (.int .i64 ac) := bA15 BK473 rfl; have hfr473_4 := blk_frozen BK473.out 4))))
     go_roundg k1
     case measure => have := HK1.out; omega
     case rel => exact ⟨(wrap64 ((0 : Int) + 1)), (t474), (ad), (ae), (af), (ag), (ah), (ai), (aj), z15_8, H', ⟨z15_17⟩, ⟨z15_4⟩, ⟨z15_5⟩, ⟨bZ BK473.out⟩, ⟨z15_3⟩, ⟨z15_2⟩, ⟨z15_1⟩⟩
    ·rw [if_neg c28] at H
     clear c28
     by_cases c35 : x12_1 = 1
     ·rw [if_pos c35] at H
      subst c35
      replace H : ((impl_elementOf.f (wrap64 (-ad))).bind fun t475 => (impl_span_by.l0 k1 (wrap64 ((1 : Int) + 1)) t461 t462 t463 t464 ac t475 ae af ag ah ai aj)) = some (r1, r2, r3, r4, r5, r6, r7, r8, r9) := H
      replace H := Option.bind_eq_some_iff.mp H
      obtain ⟨t475, A360, H⟩ := H
      replace H : (impl_span_by.l0 k1 (wrap64 ((1 : Int) + 1)) t461 t462 t463 t464 ac t475 ae af ag ah ai aj) = some (r1, r2, r3, r4, r5, r6, r7, r8, r9) := H
      have A36 := Aside0.mk A360
      clear A360
      have H' := Aside0.mk H
      clear H
      have hnb37 := an.out
      have hnc37 := ak.out
      have hnb38 := aa.out
      have hnc38 := ab.out
      have hnb39 := ap.out
      have hnc39 := ao.out
      have hcz40_5 : wr.cell? ⟨gb473, 5, none⟩ = some (.int .i64 ad) := bA15 BK473 rfl
      have hfz40_5 := blk_frozen BK473.out 5
      go_wp2_with (first | ((with_reducible refine gate_callee (f := 118) rfl ?_); refine goesL_ (some 21) rfl rfl Try.func118 (by kernel_rfl) rfl #[.int .i64 (wrap64 (-ad))] rfl z15_6 ?_; (with_reducible refine (impl_elementOf.calls (wrap64 (-ad)) t475 _ A36.out).mono ?_); rintro e w' ⟨rfl, ⟨nd, rfl⟩⟩; refine ⟨_, rfl, ?_⟩; (try (rw [drewN_self wr]; generalize hq_ : World.drewN wr _ = wr; have n0_ : Aside0 (wr.heap[gb459]? = some (.cells #[.int .i64 a1_0, .int .i64 a1_1, .int .i64 a1_2, .int .i64 a1_3] 70 (0, 0))) := ⟨z15_11⟩; have n1_ : Aside0 (wr.heap[gb460]? = some (.cells #[.int .i64 0, .int .i64 0, .int .i64 0, .int .i64 0, .int .i64 0, .int .i64 0, .int .i64 0, .int .i64 0] 100 (0, 0))) := ⟨z15_12⟩; have n2_ : Aside0 (wr.heap[gb473]? = some (.cells #[.int .i64 t461, .int .i64 t462, .int .i64 t463, .int .i64 t464, .int .i64 ac, .int .i64 ad, .int .i64 ae, .int .i64 af, .int .i64 ag, .int .i64 ah, .int .i64 ai, .int .i64 aj] 102 (0, 0))) := ⟨z15_13⟩; have n3_ : Aside0 (IsS81 w0 wr g s0_0 s0_1) := ⟨z15_14⟩; have n4_ : Aside0 (KeepBut w wr g none) := ⟨z15_15⟩; have n5_ : Aside0 (Below w0.heap.size w0 wr) := ⟨z15_16⟩; clear BK459 BK460 BK473 HI0 HK HB hq_; have BK459 := n0_; have BK460 := n1_; have BK473 := n2_; have HI0 := n3_; have HK := n4_; have HB := n5_; clear n0_ n1_ n2_ n3_ n4_ n5_; have hcr473_5 : wr.cell? ⟨gb473, 5, none⟩ = some (.int .i64 ad) := bA15 BK473 rfl; have hfr473_5 := blk_frozen BK473.out 5))))
      go_roundg k1
      case measure => have := HK1.out; omega
      case rel => exact ⟨(wrap64 ((1 : Int) + 1)), (ac), (t475), (ae), (af), (ag), (ah), (ai), (aj), z15_8, H', ⟨z15_17⟩, ⟨z15_4⟩, ⟨z15_5⟩, ⟨bZ BK473.out⟩, ⟨z15_3⟩, ⟨z15_2⟩, ⟨z15_1⟩⟩
     ·rw [if_neg c35] at H
      clear c35
      by_cases c42 : x12_1 = 2
      ·rw [if_pos c42] at H
       subst c42
       replace H : ((impl_elementOf.f (wrap64 (-ae))).bind fun t476 => (impl_span_by.l0 k1 (wrap64 ((2 : Int) + 1)) t461 t462 t463 t464 ac ad t476 af ag ah ai aj)) = some (r1, r2, r3, r4, r5, r6, r7, r8, r9) := H
       replace H := Option.bind_eq_some_iff.mp H
       obtain ⟨t476, A430, H⟩ := H
       replace H : (impl_span_by.l0 k1 (wrap64 ((2 : Int) + 1)) t461 t462 t463 t464 ac ad t476 af ag ah ai aj) = some (r1, r2, r3, r4, r5, r6, r7, r8, r9) := H
       have A43 := Aside0.mk A430
       clear A430
       have H' := Aside0.mk H
       clear H
       have hnb44 := an.out
       have hnc44 := ak.out
       have hnb45 := aa.out
       have hnc45 := ab.out
       have hnb46 := ap.out
       have hnc46 := ao.out
       have hcz47_6 : wr.cell? ⟨gb473, 6, none⟩ = some (.int .i64 ae) := bA15 BK473 rfl
       have hfz47_6 := blk_frozen BK473.out 6
       go_wp2_with (first | ((with_reducible refine gate_callee (f := 118) rfl ?_); refine goesL_ (some 21) rfl rfl Try.func118 (by kernel_rfl) rfl #[.int .i64 (wrap64 (-ae))] rfl z15_6 ?_; (with_reducible refine (impl_elementOf.calls (wrap64 (-ae)) t476 _ A43.out).mono ?_); rintro e w' ⟨rfl, ⟨nd, rfl⟩⟩; refine ⟨_, rfl, ?_⟩; (try (rw [drewN_self wr]; generalize hq_ : World.drewN wr _ = wr; have n0_ : Aside0 (wr.heap[gb459]? = some (.cells #[.int .i64 a1_0, .int .i64 a1_1, .int .i64 a1_2, .int .i64 a1_3] 70 (0, 0))) := ⟨z15_11⟩; have n1_ : Aside0 (wr.heap[gb460]? = some (.cells #[.int .i64 0, .int .i64 0, .int .i64 0, .int .i64 0, .int .i64 0, .int .i64 0, .int .i64 0, .int .i64 0] 100 (0, 0))) := ⟨z15_12⟩; have n2_ : Aside0 (wr.heap[gb473]? = some (.cells #[.int .i64 t461, .int .i64 t462, .int .i64 t463, .int .i64 t464, .int .i64 ac, .int .i64 ad, .int .i64 ae, .int .i64 af, .int .i64 ag, .int .i64 ah, .int .i64 ai, .int .i64 aj] 102 (0, 0))) := ⟨z15_13⟩; have n3_ : Aside0 (IsS81 w0 wr g s0_0 s0_1) := ⟨z15_14⟩; have n4_ : Aside0 (KeepBut w wr g none) := ⟨z15_15⟩; have n5_ : Aside0 (Below w0.heap.size w0 wr) := ⟨z15_16⟩; clear BK459 BK460 BK473 HI0 HK HB hq_; have BK459 := n0_; have BK460 := n1_; have BK473 := n2_; have HI0 := n3_; have HK := n4_; have HB := n5_; clear n0_ n1_ n2_ n3_ n4_ n5_; have hcr473_6 : wr.cell? ⟨gb473, 6, none⟩ = some (.int .i64 ae) := bA15 BK473 rfl; have hfr473_6 := blk_frozen BK473.out 6))))
       go_roundg k1
       case measure => have := HK1.out; omega
       case rel => exact ⟨(wrap64 ((2 : Int) + 1)), (ac), (ad), (t476), (af), (ag), (ah), (ai), (aj), z15_8, H', ⟨z15_17⟩, ⟨z15_4⟩, ⟨z15_5⟩, ⟨bZ BK473.out⟩, ⟨z15_3⟩, ⟨z15_2⟩, ⟨z15_1⟩⟩
      ·rw [if_neg c42] at H
       clear c42
       by_cases c49 : x12_1 = 3
       ·rw [if_pos c49] at H
        subst c49
        replace H : ((impl_elementOf.f (wrap64 (-af))).bind fun t477 => (impl_span_by.l0 k1 (wrap64 ((3 : Int) + 1)) t461 t462 t463 t464 ac ad ae t477 ag ah ai aj)) = some (r1, r2, r3, r4, r5, r6, r7, r8, r9) := H
        replace H := Option.bind_eq_some_iff.mp H
        obtain ⟨t477, A500, H⟩ := H
        replace H : (impl_span_by.l0 k1 (wrap64 ((3 : Int) + 1)) t461 t462 t463 t464 ac ad ae t477 ag ah ai aj) = some (r1, r2, r3, r4, r5, r6, r7, r8, r9) := H
        have A50 := Aside0.mk A500
        clear A500
        have H' := Aside0.mk H
        clear H
        have hnb51 := an.out
        have hnc51 := ak.out
        have hnb52 := aa.out
        have hnc52 := ab.out
        have hnb53 := ap.out
        have hnc53 := ao.out
        have hcz54_7 : wr.cell? ⟨gb473, 7, none⟩ = some (.int .i64 af) := bA15 BK473 rfl
        have hfz54_7 := blk_frozen BK473.out 7
        go_wp2_with (first | ((with_reducible refine gate_callee (f := 118) rfl ?_); refine goesL_ (some 21) rfl rfl Try.func118 (by kernel_rfl) rfl #[.int .i64 (wrap64 (-af))] rfl z15_6 ?_; (with_reducible refine (impl_elementOf.calls (wrap64 (-af)) t477 _ A50.out).mono ?_); rintro e w' ⟨rfl, ⟨nd, rfl⟩⟩; refine ⟨_, rfl, ?_⟩; (try (rw [drewN_self wr]; generalize hq_ : World.drewN wr _ = wr; have n0_ : Aside0 (wr.heap[gb459]? = some (.cells #[.int .i64 a1_0, .int .i64 a1_1, .int .i64 a1_2, .int .i64 a1_3] 70 (0, 0))) := ⟨z15_11⟩; have n1_ : Aside0 (wr.heap[gb460]? = some (.cells #[.int .i64 0, .int .i64 0, .int .i64 0, .int .i64 0, .int .i64 0, .int .i64 0, .int .i64 0, .int .i64 0] 100 (0, 0))) := ⟨z15_12⟩; have n2_ : Aside0 (wr.heap[gb473]? = some (.cells #[.int .i64 t461, .int .i64 t462, .int .i64 t463, .int .i64 t464, .int .i64 ac, .int .i64 ad, .int .i64 ae, .int .i64 af, .int .i64 ag, .int .i64 ah, .int .i64 ai, .int .i64 aj] 102 (0, 0))) := ⟨z15_13⟩; have n3_ : Aside0 (IsS81 w0 wr g s0_0 s0_1) := ⟨z15_14⟩; have n4_ : Aside0 (KeepBut w wr g none) := ⟨z15_15⟩; have n5_ : Aside0 (Below w0.heap.size w0 wr) := ⟨z15_16⟩; clear BK459 BK460 BK473 HI0 HK HB hq_; have BK459 := n0_; have BK460 := n1_; have BK473 := n2_; have HI0 := n3_; have HK := n4_; have HB := n5_; clear n0_ n1_ n2_ n3_ n4_ n5_; have hcr473_7 : wr.cell? ⟨gb473, 7, none⟩ = some (.int .i64 af) := bA15 BK473 rfl; have hfr473_7 := blk_frozen BK473.out 7))))
        go_roundg k1
        case measure => have := HK1.out; omega
        case rel => exact ⟨(wrap64 ((3 : Int) + 1)), (ac), (ad), (ae), (t477), (ag), (ah), (ai), (aj), z15_8, H', ⟨z15_17⟩, ⟨z15_4⟩, ⟨z15_5⟩, ⟨bZ BK473.out⟩, ⟨z15_3⟩, ⟨z15_2⟩, ⟨z15_1⟩⟩
       ·rw [if_neg c49] at H
        clear c49
        by_cases c56 : x12_1 = 4
        ·rw [if_pos c56] at H
         subst c56
         replace H : ((impl_elementOf.f (wrap64 (-ag))).bind fun t478 => (impl_span_by.l0 k1 (wrap64 ((4 : Int) + 1)) t461 t462 t463 t464 ac ad ae af t478 ah ai aj)) = some (r1, r2, r3, r4, r5, r6, r7, r8, r9) := H
         replace H := Option.bind_eq_some_iff.mp H
         obtain ⟨t478, A570, H⟩ := H
         replace H : (impl_span_by.l0 k1 (wrap64 ((4 : Int) + 1)) t461 t462 t463 t464 ac ad ae af t478 ah ai aj) = some (r1, r2, r3, r4, r5, r6, r7, r8, r9) := H
         have A57 := Aside0.mk A570
         clear A570
         have H' := Aside0.mk H
         clear H
         have hnb58 := an.out
         have hnc58 := ak.out
         have hnb59 := aa.out
         have hnc59 := ab.out
         have hnb60 := ap.out
         have hnc60 := ao.out
         have hcz61_8 : wr.cell? ⟨gb473, 8, none⟩ = some (.int .i64 ag) := bA15 BK473 rfl
         have hfz61_8 := blk_frozen BK473.out 8
         go_wp2_with (first | ((with_reducible refine gate_callee (f := 118) rfl ?_); refine goesL_ (some 21) rfl rfl Try.func118 (by kernel_rfl) rfl #[.int .i64 (wrap64 (-ag))] rfl z15_6 ?_; (with_reducible refine (impl_elementOf.calls (wrap64 (-ag)) t478 _ A57.out).mono ?_); rintro e w' ⟨rfl, ⟨nd, rfl⟩⟩; refine ⟨_, rfl, ?_⟩; (try (rw [drewN_self wr]; generalize hq_ : World.drewN wr _ = wr; have n0_ : Aside0 (wr.heap[gb459]? = some (.cells #[.int .i64 a1_0, .int .i64 a1_1, .int .i64 a1_2, .int .i64 a1_3] 70 (0, 0))) := ⟨z15_11⟩; have n1_ : Aside0 (wr.heap[gb460]? = some (.cells #[.int .i64 0, .int .i64 0, .int .i64 0, .int .i64 0, .int .i64 0, .int .i64 0, .int .i64 0, .int .i64 0] 100 (0, 0))) := ⟨z15_12⟩; have n2_ : Aside0 (wr.heap[gb473]? = some (.cells #[.int .i64 t461, .int .i64 t462, .int .i64 t463, .int .i64 t464, .int .i64 ac, .int .i64 ad, .int .i64 ae, .int .i64 af, .int .i64 ag, .int .i64 ah, .int .i64 ai, .int .i64 aj] 102 (0, 0))) := ⟨z15_13⟩; have n3_ : Aside0 (IsS81 w0 wr g s0_0 s0_1) := ⟨z15_14⟩; have n4_ : Aside0 (KeepBut w wr g none) := ⟨z15_15⟩; have n5_ : Aside0 (Below w0.heap.size w0 wr) := ⟨z15_16⟩; clear BK459 BK460 BK473 HI0 HK HB hq_; have BK459 := n0_; have BK460 := n1_; have BK473 := n2_; have HI0 := n3_; have HK := n4_; have HB := n5_; clear n0_ n1_ n2_ n3_ n4_ n5_; have hcr473_8 : wr.cell? ⟨gb473, 8, none⟩ = some (.int .i64 ag) := bA15 BK473 rfl; have hfr473_8 := blk_frozen BK473.out 8))))
         go_roundg k1
         case measure => have := HK1.out; omega
         case rel => exact ⟨(wrap64 ((4 : Int) + 1)), (ac), (ad), (ae), (af), (t478), (ah), (ai), (aj), z15_8, H', ⟨z15_17⟩, ⟨z15_4⟩, ⟨z15_5⟩, ⟨bZ BK473.out⟩, ⟨z15_3⟩, ⟨z15_2⟩, ⟨z15_1⟩⟩
        ·rw [if_neg c56] at H
         clear c56
         by_cases c63 : x12_1 = 5
         ·rw [if_pos c63] at H
          subst c63
          replace H : ((impl_elementOf.f (wrap64 (-ah))).bind fun t479 => (impl_span_by.l0 k1 (wrap64 ((5 : Int) + 1)) t461 t462 t463 t464 ac ad ae af ag t479 ai aj)) = some (r1, r2, r3, r4, r5, r6, r7, r8, r9) := H
          replace H := Option.bind_eq_some_iff.mp H
          obtain ⟨t479, A640, H⟩ := H
          replace H : (impl_span_by.l0 k1 (wrap64 ((5 : Int) + 1)) t461 t462 t463 t464 ac ad ae af ag t479 ai aj) = some (r1, r2, r3, r4, r5, r6, r7, r8, r9) := H
          have A64 := Aside0.mk A640
          clear A640
          have H' := Aside0.mk H
          clear H
          have hnb65 := an.out
          have hnc65 := ak.out
          have hnb66 := aa.out
          have hnc66 := ab.out
          have hnb67 := ap.out
          have hnc67 := ao.out
          have hcz68_9 : wr.cell? ⟨gb473, 9, none⟩ = some (.int .i64 ah) := bA15 BK473 rfl
          have hfz68_9 := blk_frozen BK473.out 9
          go_wp2_with (first | ((with_reducible refine gate_callee (f := 118) rfl ?_); refine goesL_ (some 21) rfl rfl Try.func118 (by kernel_rfl) rfl #[.int .i64 (wrap64 (-ah))] rfl z15_6 ?_; (with_reducible refine (impl_elementOf.calls (wrap64 (-ah)) t479 _ A64.out).mono ?_); rintro e w' ⟨rfl, ⟨nd, rfl⟩⟩; refine ⟨_, rfl, ?_⟩; (try (rw [drewN_self wr]; generalize hq_ : World.drewN wr _ = wr; have n0_ : Aside0 (wr.heap[gb459]? = some (.cells #[.int .i64 a1_0, .int .i64 a1_1, .int .i64 a1_2, .int .i64 a1_3] 70 (0, 0))) := ⟨z15_11⟩; have n1_ : Aside0 (wr.heap[gb460]? = some (.cells #[.int .i64 0, .int .i64 0, .int .i64 0, .int .i64 0, .int .i64 0, .int .i64 0, .int .i64 0, .int .i64 0] 100 (0, 0))) := ⟨z15_12⟩; have n2_ : Aside0 (wr.heap[gb473]? = some (.cells #[.int .i64 t461, .int .i64 t462, .int .i64 t463, .int .i64 t464, .int .i64 ac, .int .i64 ad, .int .i64 ae, .int .i64 af, .int .i64 ag, .int .i64 ah, .int .i64 ai, .int .i64 aj] 102 (0, 0))) := ⟨z15_13⟩; have n3_ : Aside0 (IsS81 w0 wr g s0_0 s0_1) := ⟨z15_14⟩; have n4_ : Aside0 (KeepBut w wr g none) := ⟨z15_15⟩; have n5_ : Aside0 (Below w0.heap.size w0 wr) := ⟨z15_16⟩; clear BK459 BK460 BK473 HI0 HK HB hq_; have BK459 := n0_; have BK460 := n1_; have BK473 := n2_; have HI0 := n3_; have HK := n4_; have HB := n5_; clear n0_ n1_ n2_ n3_ n4_ n5_; have hcr473_9 : wr.cell? ⟨gb473, 9, none⟩ = some (.int .i64 ah) := bA15 BK473 rfl; have hfr473_9 := blk_frozen BK473.out 9))))
          go_roundg k1
          case measure => have := HK1.out; omega
          case rel => exact ⟨(wrap64 ((5 : Int) + 1)), (ac), (ad), (ae), (af), (ag), (t479), (ai), (aj), z15_8, H', ⟨z15_17⟩, ⟨z15_4⟩, ⟨z15_5⟩, ⟨bZ BK473.out⟩, ⟨z15_3⟩, ⟨z15_2⟩, ⟨z15_1⟩⟩
         ·rw [if_neg c63] at H
          clear c63
          by_cases c70 : x12_1 = 6
          ·rw [if_pos c70] at H
           subst c70
           replace H : ((impl_elementOf.f (wrap64 (-ai))).bind fun t480 => (impl_span_by.l0 k1 (wrap64 ((6 : Int) + 1)) t461 t462 t463 t464 ac ad ae af ag ah t480 aj)) = some (r1, r2, r3, r4, r5, r6, r7, r8, r9) := H
           replace H := Option.bind_eq_some_iff.mp H
           obtain ⟨t480, A710, H⟩ := H
           replace H : (impl_span_by.l0 k1 (wrap64 ((6 : Int) + 1)) t461 t462 t463 t464 ac ad ae af ag ah t480 aj) = some (r1, r2, r3, r4, r5, r6, r7, r8, r9) := H
           have A71 := Aside0.mk A710
           clear A710
           have H' := Aside0.mk H
           clear H
           have hnb72 := an.out
           have hnc72 := ak.out
           have hnb73 := aa.out
           have hnc73 := ab.out
           have hnb74 := ap.out
           have hnc74 := ao.out
           have hcz75_10 : wr.cell? ⟨gb473, 10, none⟩ = some (.int .i64 ai) := bA15 BK473 rfl
           have hfz75_10 := blk_frozen BK473.out 10
           go_wp2_with (first | ((with_reducible refine gate_callee (f := 118) rfl ?_); refine goesL_ (some 21) rfl rfl Try.func118 (by kernel_rfl) rfl #[.int .i64 (wrap64 (-ai))] rfl z15_6 ?_; (with_reducible refine (impl_elementOf.calls (wrap64 (-ai)) t480 _ A71.out).mono ?_); rintro e w' ⟨rfl, ⟨nd, rfl⟩⟩; refine ⟨_, rfl, ?_⟩; (try (rw [drewN_self wr]; generalize hq_ : World.drewN wr _ = wr; have n0_ : Aside0 (wr.heap[gb459]? = some (.cells #[.int .i64 a1_0, .int .i64 a1_1, .int .i64 a1_2, .int .i64 a1_3] 70 (0, 0))) := ⟨z15_11⟩; have n1_ : Aside0 (wr.heap[gb460]? = some (.cells #[.int .i64 0, .int .i64 0, .int .i64 0, .int .i64 0, .int .i64 0, .int .i64 0, .int .i64 0, .int .i64 0] 100 (0, 0))) := ⟨z15_12⟩; have n2_ : Aside0 (wr.heap[gb473]? = some (.cells #[.int .i64 t461, .int .i64 t462, .int .i64 t463, .int .i64 t464, .int .i64 ac, .int .i64 ad, .int .i64 ae, .int .i64 af, .int .i64 ag, .int .i64 ah, .int .i64 ai, .int .i64 aj] 102 (0, 0))) := ⟨z15_13⟩; have n3_ : Aside0 (IsS81 w0 wr g s0_0 s0_1) := ⟨z15_14⟩; have n4_ : Aside0 (KeepBut w wr g none) := ⟨z15_15⟩; have n5_ : Aside0 (Below w0.heap.size w0 wr) := ⟨z15_16⟩; clear BK459 BK460 BK473 HI0 HK HB hq_; have BK459 := n0_; have BK460 := n1_; have BK473 := n2_; have HI0 := n3_; have HK := n4_; have HB := n5_; clear n0_ n1_ n2_ n3_ n4_ n5_; have hcr473_10 : wr.cell? ⟨gb473, 10, none⟩ = some (.int .i64 ai) := bA15 BK473 rfl; have hfr473_10 := blk_frozen BK473.out 10))))
           go_roundg k1
           case measure => have := HK1.out; omega
           case rel => exact ⟨(wrap64 ((6 : Int) + 1)), (ac), (ad), (ae), (af), (ag), (ah), (t480), (aj), z15_8, H', ⟨z15_17⟩, ⟨z15_4⟩, ⟨z15_5⟩, ⟨bZ BK473.out⟩, ⟨z15_3⟩, ⟨z15_2⟩, ⟨z15_1⟩⟩
          ·rw [if_neg c70] at H
           clear c70
           obtain ⟨c77, H⟩ := ifP H
           subst c77
           replace H : ((impl_elementOf.f (wrap64 (-aj))).bind fun t481 => (impl_span_by.l0 k1 (wrap64 ((7 : Int) + 1)) t461 t462 t463 t464 ac ad ae af ag ah ai t481)) = some (r1, r2, r3, r4, r5, r6, r7, r8, r9) := H
           replace H := Option.bind_eq_some_iff.mp H
           obtain ⟨t481, A780, H⟩ := H
           replace H : (impl_span_by.l0 k1 (wrap64 ((7 : Int) + 1)) t461 t462 t463 t464 ac ad ae af ag ah ai t481) = some (r1, r2, r3, r4, r5, r6, r7, r8, r9) := H
           have A78 := Aside0.mk A780
           clear A780
           have H' := Aside0.mk H
           clear H
           have hnb79 := an.out
           have hnc79 := ak.out
           have hnb80 := aa.out
           have hnc80 := ab.out
           have hnb81 := ap.out
           have hnc81 := ao.out
           have hcz82_11 : wr.cell? ⟨gb473, 11, none⟩ = some (.int .i64 aj) := bA15 BK473 rfl
           have hfz82_11 := blk_frozen BK473.out 11
           go_wp2_with (first | ((with_reducible refine gate_callee (f := 118) rfl ?_); refine goesL_ (some 21) rfl rfl Try.func118 (by kernel_rfl) rfl #[.int .i64 (wrap64 (-aj))] rfl z15_6 ?_; (with_reducible refine (impl_elementOf.calls (wrap64 (-aj)) t481 _ A78.out).mono ?_); rintro e w' ⟨rfl, ⟨nd, rfl⟩⟩; refine ⟨_, rfl, ?_⟩; (try (rw [drewN_self wr]; generalize hq_ : World.drewN wr _ = wr; have n0_ : Aside0 (wr.heap[gb459]? = some (.cells #[.int .i64 a1_0, .int .i64 a1_1, .int .i64 a1_2, .int .i64 a1_3] 70 (0, 0))) := ⟨z15_11⟩; have n1_ : Aside0 (wr.heap[gb460]? = some (.cells #[.int .i64 0, .int .i64 0, .int .i64 0, .int .i64 0, .int .i64 0, .int .i64 0, .int .i64 0, .int .i64 0] 100 (0, 0))) := ⟨z15_12⟩; have n2_ : Aside0 (wr.heap[gb473]? = some (.cells #[.int .i64 t461, .int .i64 t462, .int .i64 t463, .int .i64 t464, .int .i64 ac, .int .i64 ad, .int .i64 ae, .int .i64 af, .int .i64 ag, .int .i64 ah, .int .i64 ai, .int .i64 aj] 102 (0, 0))) := ⟨z15_13⟩; have n3_ : Aside0 (IsS81 w0 wr g s0_0 s0_1) := ⟨z15_14⟩; have n4_ : Aside0 (KeepBut w wr g none) := ⟨z15_15⟩; have n5_ : Aside0 (Below w0.heap.size w0 wr) := ⟨z15_16⟩; clear BK459 BK460 BK473 HI0 HK HB hq_; have BK459 := n0_; have BK460 := n1_; have BK473 := n2_; have HI0 := n3_; have HK := n4_; have HB := n5_; clear n0_ n1_ n2_ n3_ n4_ n5_; have hcr473_11 : wr.cell? ⟨gb473, 11, none⟩ = some (.int .i64 aj) := bA15 BK473 rfl; have hfr473_11 := blk_frozen BK473.out 11))))
           go_roundg k1
           case measure => have := HK1.out; omega
           case rel => exact ⟨(wrap64 ((7 : Int) + 1)), (ac), (ad), (ae), (af), (ag), (ah), (ai), (t481), z15_8, H', ⟨z15_17⟩, ⟨z15_4⟩, ⟨z15_5⟩, ⟨bZ BK473.out⟩, ⟨z15_3⟩, ⟨z15_2⟩, ⟨z15_1⟩⟩
   ·rw [if_neg c27] at H
    have c27b0 : decide (x12_1 < 8) = false := decide_eq_false c27
    clear c27
    simp only [Option.some.injEq, Prod.mk.injEq] at H
    obtain ⟨rfl, rfl, rfl, rfl, rfl, rfl, rfl, rfl, rfl⟩ := H
    try go_wp2
    replace BK459 := Aside0.mk (blk_drew BK459.out)
    replace BK460 := Aside0.mk (blk_drew BK460.out)
    replace BK473 := Aside0.mk (blk_drew BK473.out)
    replace HI0 := Aside0.mk (IsS81.drew HI0.out)
    replace HK := Aside0.mk (keep_drew HK.out)
    replace HB := Aside0.mk (below_drew1 HB.out)
    refine start_ (n := 8) (S := fun w' => w'.cell? ⟨gb473, 0, none⟩ = some (.int .i64 t461) ∧ w'.cell? ⟨gb473, 1, none⟩ = some (.int .i64 t462) ∧ w'.cell? ⟨gb473, 2, none⟩ = some (.int .i64 t463) ∧ w'.cell? ⟨gb473, 3, none⟩ = some (.int .i64 t464) ∧ w'.cell? ⟨gb473, 4, none⟩ = some (.int .i64 ac) ∧ w'.cell? ⟨gb473, 5, none⟩ = some (.int .i64 ad) ∧ w'.cell? ⟨gb473, 6, none⟩ = some (.int .i64 ae) ∧ w'.cell? ⟨gb473, 7, none⟩ = some (.int .i64 af) ∧ w'.cell? ⟨gb473, 8, none⟩ = some (.int .i64 ag) ∧ w'.cell? ⟨gb473, 9, none⟩ = some (.int .i64 ah) ∧ w'.cell? ⟨gb473, 10, none⟩ = some (.int .i64 ai) ∧ w'.cell? ⟨gb473, 11, none⟩ = some (.int .i64 aj)) (ds := []) #[false, false, false, false, false, false, false, false] (by kernel_rfl) rfl rfl ⟨bA15 BK473 rfl, bA15 BK473 rfl, bA15 BK473 rfl, bA15 BK473 rfl, bA15 BK473 rfl, bA15 BK473 rfl, bA15 BK473 rfl, bA15 BK473 rfl, bA15 BK473 rfl, bA15 BK473 rfl, bA15 BK473 rfl, bA15 BK473 rfl⟩ (fun hHeld => ?_); refine with_tabW impl_span_by.tab7 impl_span_by.bits7 (fun HT_ HW_ => ?_)
    generalize wr.drew = w84 at BK459 BK460 BK473 HI0 HK HB hHeld ⊢
    refine pZ 0 HT_ ?_
    refine pZ 2 HT_ ?_
    refine pZ 4 HT_ ?_
    refine tZ 1 hHeld HT_ HW_ ?_
    refine tZ 3 hHeld HT_ HW_ ?_
    refine pZ 5 HT_ ?_
    refine one_ (i := 6) (N := none) #[true, true, true, true, true, true, true, false] rfl rfl (one_of HT_.out (by kernel_rfl)) (by decide) (fun K hK => ?_)
    have hs85 : w84.cell? ⟨gb460, 0, none⟩ = some (.int .i64 0) := bA15 BK460 rfl
    have hfs85 := blk_frozen BK460.out 0
    have hns85_0 := al.out
    have hns85_2 := aa.out
    have hms85_0 := am.out
    have hms85_2 := ab.out
    have hs86 : w84.cell? ⟨gb460, 1, none⟩ = some (.int .i64 0) := bA15 BK460 rfl
    have hfs86 := blk_frozen BK460.out 1
    have hns86_0 := al.out
    have hns86_2 := aa.out
    have hms86_0 := am.out
    have hms86_2 := ab.out
    have hs87 : w84.cell? ⟨gb460, 2, none⟩ = some (.int .i64 0) := bA15 BK460 rfl
    have hfs87 := blk_frozen BK460.out 2
    have hns87_0 := al.out
    have hns87_2 := aa.out
    have hms87_0 := am.out
    have hms87_2 := ab.out
    have hs88 : w84.cell? ⟨gb460, 3, none⟩ = some (.int .i64 0) := bA15 BK460 rfl
    have hfs88 := blk_frozen BK460.out 3
    have hns88_0 := al.out
    have hns88_2 := aa.out
    have hms88_0 := am.out
    have hms88_2 := ab.out
    have hs89 : w84.cell? ⟨gb460, 4, none⟩ = some (.int .i64 0) := bA15 BK460 rfl
    have hfs89 := blk_frozen BK460.out 4
    have hns89_0 := al.out
    have hns89_2 := aa.out
    have hms89_0 := am.out
    have hms89_2 := ab.out
    have hs90 : w84.cell? ⟨gb460, 5, none⟩ = some (.int .i64 0) := bA15 BK460 rfl
    have hfs90 := blk_frozen BK460.out 5
    have hns90_0 := al.out
    have hns90_2 := aa.out
    have hms90_0 := am.out
    have hms90_2 := ab.out
    have hs91 : w84.cell? ⟨gb460, 6, none⟩ = some (.int .i64 0) := bA15 BK460 rfl
    have hfs91 := blk_frozen BK460.out 6
    have hns91_0 := al.out
    have hns91_2 := aa.out
    have hms91_0 := am.out
    have hms91_2 := ab.out
    have hs92 : w84.cell? ⟨gb460, 7, none⟩ = some (.int .i64 0) := bA15 BK460 rfl
    have hfs92 := blk_frozen BK460.out 7
    have hns92_0 := al.out
    have hns92_2 := aa.out
    have hms92_0 := am.out
    have hms92_2 := ab.out
    refine skip_ (w1 := ?_) (by rfl) rfl ?_ ?_
    rotate_left
    ·go_simp
     rfl
    refine hK.out _ _ ⟨((cell_far (p := ⟨gb460, _, none⟩) aa.out _).trans (((cell_far (p := ⟨gb460, _, none⟩) aa.out _).trans (((cell_far (p := ⟨gb460, _, none⟩) aa.out _).trans (((cell_far (p := ⟨gb460, _, none⟩) aa.out _).trans (((cell_far (p := ⟨gb460, _, none⟩) aa.out _).trans (((cell_far (p := ⟨gb460, _, none⟩) aa.out _).trans (((cell_far (p := ⟨gb460, _, none⟩) aa.out _).trans (((cell_far (p := ⟨gb460, _, none⟩) aa.out _).trans (hHeld.1)))))))))))))))), ((cell_far (p := ⟨gb460, _, none⟩) aa.out _).trans (((cell_far (p := ⟨gb460, _, none⟩) aa.out _).trans (((cell_far (p := ⟨gb460, _, none⟩) aa.out _).trans (((cell_far (p := ⟨gb460, _, none⟩) aa.out _).trans (((cell_far (p := ⟨gb460, _, none⟩) aa.out _).trans (((cell_far (p := ⟨gb460, _, none⟩) aa.out _).trans (((cell_far (p := ⟨gb460, _, none⟩) aa.out _).trans (((cell_far (p := ⟨gb460, _, none⟩) aa.out _).trans (hHeld.2.1)))))))))))))))), ((cell_far (p := ⟨gb460, _, none⟩) aa.out _).trans (((cell_far (p := ⟨gb460, _, none⟩) aa.out _).trans (((cell_far (p := ⟨gb460, _, none⟩) aa.out _).trans (((cell_far (p := ⟨gb460, _, none⟩) aa.out _).trans (((cell_far (p := ⟨gb460, _, none⟩) aa.out _).trans (((cell_far (p := ⟨gb460, _, none⟩) aa.out _).trans (((cell_far (p := ⟨gb460, _, none⟩) aa.out _).trans (((cell_far (p := ⟨gb460, _, none⟩) aa.out _).trans (hHeld.2.2.1)))))))))))))))), ((cell_far (p := ⟨gb460, _, none⟩) aa.out _).trans (((cell_far (p := ⟨gb460, _, none⟩) aa.out _).trans (((cell_far (p := ⟨gb460, _, none⟩) aa.out _).trans (((cell_far (p := ⟨gb460, _, none⟩) aa.out _).trans (((cell_far (p := ⟨gb460, _, none⟩) aa.out _).trans (((cell_far (p := ⟨gb460, _, none⟩) aa.out _).trans (((cell_far (p := ⟨gb460, _, none⟩) aa.out _).trans (((cell_far (p := ⟨gb460, _, none⟩) aa.out _).trans (hHeld.2.2.2.1)))))))))))))))), ((cell_far (p := ⟨gb460, _, none⟩) aa.out _).trans (((cell_far (p := ⟨gb460, _, none⟩) aa.out _).trans (((cell_far (p := ⟨gb460, _, none⟩) aa.out _).trans (((cell_far (p := ⟨gb460, _, none⟩) aa.out _).trans (((cell_far (p := ⟨gb460, _, none⟩) aa.out _).trans (((cell_far (p := ⟨gb460, _, none⟩) aa.out _).trans (((cell_far (p := ⟨gb460, _, none⟩) aa.out _).trans (((cell_far (p := ⟨gb460, _, none⟩) aa.out _).trans (hHeld.2.2.2.2.1)))))))))))))))), ((cell_far (p := ⟨gb460, _, none⟩) aa.out _).trans (((cell_far (p := ⟨gb460, _, none⟩) aa.out _).trans (((cell_far (p := ⟨gb460, _, none⟩) aa.out _).trans (((cell_far (p := ⟨gb460, _, none⟩) aa.out _).trans (((cell_far (p := ⟨gb460, _, none⟩) aa.out _).trans (((cell_far (p := ⟨gb460, _, none⟩) aa.out _).trans (((cell_far (p := ⟨gb460, _, none⟩) aa.out _).trans (((cell_far (p := ⟨gb460, _, none⟩) aa.out _).trans (hHeld.2.2.2.2.2.1)))))))))))))))), ((cell_far (p := ⟨gb460, _, none⟩) aa.out _).trans (((cell_far (p := ⟨gb460, _, none⟩) aa.out _).trans (((cell_far (p := ⟨gb460, _, none⟩) aa.out _).trans (((cell_far (p := ⟨gb460, _, none⟩) aa.out _).trans (((cell_far (p := ⟨gb460, _, none⟩) aa.out _).trans (((cell_far (p := ⟨gb460, _, none⟩) aa.out _).trans (((cell_far (p := ⟨gb460, _, none⟩) aa.out _).trans (((cell_far (p := ⟨gb460, _, none⟩) aa.out _).trans (hHeld.2.2.2.2.2.2.1)))))))))))))))), ((cell_far (p := ⟨gb460, _, none⟩) aa.out _).trans (((cell_far (p := ⟨gb460, _, none⟩) aa.out _).trans (((cell_far (p := ⟨gb460, _, none⟩) aa.out _).trans (((cell_far (p := ⟨gb460, _, none⟩) aa.out _).trans (((cell_far (p := ⟨gb460, _, none⟩) aa.out _).trans (((cell_far (p := ⟨gb460, _, none⟩) aa.out _).trans (((cell_far (p := ⟨gb460, _, none⟩) aa.out _).trans (((cell_far (p := ⟨gb460, _, none⟩) aa.out _).trans (hHeld.2.2.2.2.2.2.2.1)))))))))))))))), ((cell_far (p := ⟨gb460, _, none⟩) aa.out _).trans (((cell_far (p := ⟨gb460, _, none⟩) aa.out _).trans (((cell_far (p := ⟨gb460, _, none⟩) aa.out _).trans (((cell_far (p := ⟨gb460, _, none⟩) aa.out _).trans (((cell_far (p := ⟨gb460, _, none⟩) aa.out _).trans (((cell_far (p := ⟨gb460, _, none⟩) aa.out _).trans (((cell_far (p := ⟨gb460, _, none⟩) aa.out _).trans (((cell_far (p := ⟨gb460, _, none⟩) aa.out _).trans (hHeld.2.2.2.2.2.2.2.2.1)))))))))))))))), ((cell_far (p := ⟨gb460, _, none⟩) aa.out _).trans (((cell_far (p := ⟨gb460, _, none⟩) aa.out _).trans (((cell_far (p := ⟨gb460, _, none⟩) aa.out _).trans (((cell_far (p := ⟨gb460, _, none⟩) aa.out _).trans (((cell_far (p := ⟨gb460, _, none⟩) aa.out _).trans (((cell_far (p := ⟨gb460, _, none⟩) aa.out _).trans (((cell_far (p := ⟨gb460, _, none⟩) aa.out _).trans (((cell_far (p := ⟨gb460, _, none⟩) aa.out _).trans (hHeld.2.2.2.2.2.2.2.2.2.1)))))))))))))))), ((cell_far (p := ⟨gb460, _, none⟩) aa.out _).trans (((cell_far (p := ⟨gb460, _, none⟩) aa.out _).trans (((cell_far (p := ⟨gb460, _, none⟩) aa.out _).trans (((cell_far (p := ⟨gb460, _, none⟩) aa.out _).trans (((cell_far (p := ⟨gb460, _, none⟩) aa.out _).trans (((cell_far (p := ⟨gb460, _, none⟩) aa.out _).trans (((cell_far (p := ⟨gb460, _, none⟩) aa.out _).trans (((cell_far (p := ⟨gb460, _, none⟩) aa.out _).trans (hHeld.2.2.2.2.2.2.2.2.2.2.1)))))))))))))))), ((cell_far (p := ⟨gb460, _, none⟩) aa.out _).trans (((cell_far (p := ⟨gb460, _, none⟩) aa.out _).trans (((cell_far (p := ⟨gb460, _, none⟩) aa.out _).trans (((cell_far (p := ⟨gb460, _, none⟩) aa.out _).trans (((cell_far (p := ⟨gb460, _, none⟩) aa.out _).trans (((cell_far (p := ⟨gb460, _, none⟩) aa.out _).trans (((cell_far (p := ⟨gb460, _, none⟩) aa.out _).trans (((cell_far (p := ⟨gb460, _, none⟩) aa.out _).trans (hHeld.2.2.2.2.2.2.2.2.2.2.2))))))))))))))))⟩ (fun hHeld => ?_)
    clear hK K
    refine pZ 7 HT_ ?_
    refine done_ (done_of HT_.out (by kernel_rfl)) ?_
    try go_wp2
    refine bodyPost_ret (results_ct rfl _ _ gb460 100 #[.int .i64 ac, .int .i64 ad, .int .i64 ae, .int .i64 af, .int .i64 ag, .int .i64 ah, .int .i64 ai, .int .i64 aj] (0, 0) _ rfl (bZ BK460.out) Try.underlying100 rfl (by kernel_rfl)) rfl ?_
    exact ⟨by first | rfl | (simp [errW_none, errW_some] <;> rfl) | (simp [*, errW_none, errW_some] <;> rfl), z15_3, z15_1, z15_2⟩

end Go.Proofs.Ytamaejafddmagaa.PA
