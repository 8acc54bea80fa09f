-- Written by a program of this session (after the manner of the kit's print, several laws in one text).
import Derived.Test.YtbhmgbeebhmfkaaPAx0
import Derived.Test.YtbhmgbeebhmfkaaPAx1
import Derived.Test.YtbhmgbeebhmfkaaPAx2
import Derived.Test.YtbhmgbeebhmfkaaPAx3
import Derived.Test.YtbhmgbeebhmfkaaGw
import Derived.Test.YtbhmgbeebhmfkaaGm
namespace Go.Proofs.Ytbhmgbeebhmfkaa.PA
open Go.RowKit Go.Proofs.YtbhmgbeebhmfkaaW.PrintWords Go.Proofs.YtbhmgbeebhmfkaaW.PrintLast Go.Proofs.YtbhmgbeebhmfkaaW.PrintMore
attribute [local go_sem] max2_int min2_int max_two min_two max_three min_three max_four min_four   -- for this text's walks alone
set_option linter.unusedVariables false
set_option linter.unusedSimpArgs false

attribute [local go_sem high] eqA59
/-! ### impl_span_by: function 57 -/
theorem zL6 {p q : Prop} (h : q) (t : q → p := by intro h_; (with_reducible repeat first|refine blk_drewN ?_ _|refine blk_drew ?_|refine blk_alloc ?_ _); exact h_) : p := t h
theorem z6_1 {p : Prop} (h : p := by repeat (first | (with_reducible first | exact HB.out | apply below_alloc | apply pw_below_drewN | apply below_drew1 | refine below_set ?_ (IsS54.ge HI0.out) | refine below_set ?_ GE197.out | refine below_set ?_ GE198.out | refine below_set ?_ GE211.out) | exact HB.out)) : p := h
theorem z6_2 {p : Prop} (h : p := by repeat (first | (with_reducible first | exact HK.out | apply KeepBut.set_ | apply keep_drewN | apply keep_drew | apply keep_alloc | refine keep_far ?_ GW197.out _ | refine keep_far ?_ GW198.out _ | refine keep_far ?_ GW211.out _) | exact HK.out)) : p := h
theorem z6_3 {p : Prop} (h : p := by repeat (first | (with_reducible first | exact HI0.out | apply IsS54.alloc | apply IsS54.drewN | apply IsS54.drew | refine IsS54.far ?_ aq.out _ | refine IsS54.far ?_ ar.out _ | refine IsS54.far ?_ ao.out _) | exact HI0.out)) : p := h
theorem z6_4 {p : Prop} (h : p := by (with_reducible repeat first|refine blk_drewN ?_ _|refine blk_drew ?_|refine blk_alloc ?_ _); refine blk_far ?_ ak.out _; (with_reducible repeat first|refine blk_drewN ?_ _|refine blk_drew ?_|refine blk_alloc ?_ _); exact BK197.out) : p := h
theorem z6_5 {p : Prop} (h : p := by (with_reducible repeat first|refine blk_drewN ?_ _|refine blk_drew ?_|refine blk_alloc ?_ _); refine blk_far ?_ ab.out _; (with_reducible repeat first|refine blk_drewN ?_ _|refine blk_drew ?_|refine blk_alloc ?_ _); exact BK198.out) : p := h
theorem z6_6 {p : Prop} (h : p := by (try simp only [List.map_toArray, List.map_cons, List.map_nil]); first | done | rfl | (simp only [List.length_drop, List.length_take]; rfl)) : p := h
theorem z6_7 {p : Prop} (h : p := by repeat (first | (with_reducible first | exact HK.out | apply KeepBut.set_ | apply keep_drewN | apply keep_drew | apply keep_alloc | refine keep_far ?_ GW197.out _ | refine keep_far ?_ GW198.out _) | exact HK.out)) : p := h
theorem z6_8 {p : Prop} (h : p := by first | rfl | (simp; done) | (simp [*]; done) | (simp; unfold wrap64; omega)) : p := h
theorem z6_9 {p : Prop} (h : p := by repeat (first | (with_reducible first | exact HK.out | apply KeepBut.set_ | apply keep_drewN | apply keep_drew | apply keep_alloc | refine keep_far ?_ GW197.out _) | exact HK.out)) : p := h
theorem z6_10 {p : Prop} (h : p := by repeat (first | (with_reducible first | exact HK.out | apply KeepBut.set_ | apply keep_drewN | apply keep_drew | apply keep_alloc) | exact HK.out)) : p := h
theorem z6_11 {p : Prop} (h : p := by rw [← hq_]; exact (zL6 BK197.out)) : p := h
theorem z6_12 {p : Prop} (h : p := by rw [← hq_]; exact (zL6 BK198.out)) : p := h
theorem z6_13 {p : Prop} (h : p := by rw [← hq_]; exact (zL6 BK211.out)) : p := h
theorem z6_14 {p : Prop} (h : p := by rw [← hq_]; exact z6_3) : p := h
theorem z6_15 {p : Prop} (h : p := by rw [← hq_]; exact z6_2) : p := h
theorem z6_16 {p : Prop} (h : p := by rw [← hq_]; exact z6_1) : p := h
theorem z6_17 {p : Prop} (h : p := by have := HK1.out; omega) : p := h
def impl_span_by.l0 : Nat → Int → Int → Int → Int → Int → Int → Int → Int → Int → Int → Int → Int → Int → Option (Int × Int × Int × Int × Int × Int × Int × Int × Bool)
  | 0, _, _, _, _, _, _, _, _, _, _, _, _, _ => none
  | k + 1, x12, x212000, x212001, x212002, x212003, x212004, x212005, x212006, x212007, x212008, x212009, x212010, x212011 => if x12 < 8 then (if x12 = 0 then ((impl_elementOf.f (wrap64 (-x212004))).bind fun t212 => (impl_span_by.l0 k (wrap64 (x12 + 1)) x212000 x212001 x212002 x212003 t212 x212005 x212006 x212007 x212008 x212009 x212010 x212011)) else (if x12 = 1 then ((impl_elementOf.f (wrap64 (-x212005))).bind fun t213 => (impl_span_by.l0 k (wrap64 (x12 + 1)) x212000 x212001 x212002 x212003 x212004 t213 x212006 x212007 x212008 x212009 x212010 x212011)) else (if x12 = 2 then ((impl_elementOf.f (wrap64 (-x212006))).bind fun t214 => (impl_span_by.l0 k (wrap64 (x12 + 1)) x212000 x212001 x212002 x212003 x212004 x212005 t214 x212007 x212008 x212009 x212010 x212011)) else (if x12 = 3 then ((impl_elementOf.f (wrap64 (-x212007))).bind fun t215 => (impl_span_by.l0 k (wrap64 (x12 + 1)) x212000 x212001 x212002 x212003 x212004 x212005 x212006 t215 x212008 x212009 x212010 x212011)) else (if x12 = 4 then ((impl_elementOf.f (wrap64 (-x212008))).bind fun t216 => (impl_span_by.l0 k (wrap64 (x12 + 1)) x212000 x212001 x212002 x212003 x212004 x212005 x212006 x212007 t216 x212009 x212010 x212011)) else (if x12 = 5 then ((impl_elementOf.f (wrap64 (-x212009))).bind fun t217 => (impl_span_by.l0 k (wrap64 (x12 + 1)) x212000 x212001 x212002 x212003 x212004 x212005 x212006 x212007 x212008 t217 x212010 x212011)) else (if x12 = 6 then ((impl_elementOf.f (wrap64 (-x212010))).bind fun t218 => (impl_span_by.l0 k (wrap64 (x12 + 1)) x212000 x212001 x212002 x212003 x212004 x212005 x212006 x212007 x212008 x212009 t218 x212011)) else (if x12 = 7 then ((impl_elementOf.f (wrap64 (-x212011))).bind fun t219 => (impl_span_by.l0 k (wrap64 (x12 + 1)) x212000 x212001 x212002 x212003 x212004 x212005 x212006 x212007 x212008 x212009 x212010 t219)) else (none))))))))) else (some (x212004, x212005, x212006, x212007, x212008, x212009, x212010, x212011, (x212000 == 0 && (x212001 == 0 && (x212002 == 0 && (x212003 == 0))))))
def impl_span_by.f (k : Nat) (s0_0 : List (S77)) (s0_1 : List Int) (a1_0 : Int) (a1_1 : Int) (a1_2 : Int) (a1_3 : Int) : Option (Int × Int × Int × Int × Int × Int × Int × Int × Bool) := (impl_span_less.f k s0_0 s0_1 a1_0 a1_1 a1_2 a1_3 0 0 0 0 0 0 0 0).bind fun bt199 => (impl_span_by.l0 k 0 bt199.1 bt199.2.1 bt199.2.2.1 bt199.2.2.2.1 bt199.2.2.2.2.1 bt199.2.2.2.2.2.1 bt199.2.2.2.2.2.2.1 bt199.2.2.2.2.2.2.2.1 bt199.2.2.2.2.2.2.2.2.1 bt199.2.2.2.2.2.2.2.2.2.1 bt199.2.2.2.2.2.2.2.2.2.2.1 bt199.2.2.2.2.2.2.2.2.2.2.2)
def impl_span_by.T7 : Bool × List (List Nat × List Nat) := (true, [([], []), ([0], [0]), ([], []), ([2], [2]), ([], []), ([3, 4], [3, 4]), ([1, 0, 1], [1]), ([5, 6, 0, 1, 2, 3, 4, 5, 6], [5])])
def impl_span_by.B7 : List Nat := [0, 1, 0, 4, 0, 28, 3, 127]
theorem impl_span_by.tab7 : rtab .any (opsOf Try.f57 7) = impl_span_by.T7 := by kernel_rfl
theorem impl_span_by.bits7 : waitsOk impl_span_by.T7.2 impl_span_by.B7 = true := by kernel_rfl
theorem bA6 {W : World} {g : Nat} {cs : Array Value} {ty : TypeId} {j : Nat} {v : Value} (h : Aside0 (W.heap[g]? = some (.cells cs ty (0, 0)))) (e : cs[j]? = some v) : W.cell? ⟨g, j, none⟩ = some v := (blk_cell h.out j).trans e
set_option maxHeartbeats 8000000 in
set_option maxRecDepth 100000 in
theorem impl_span_by.calls (k : Nat) (g : Nat) (s0_0 : List (S77)) (s0_1 : List Int) (a1_0 : Int) (a1_1 : Int) (a1_2 : Int) (a1_3 : Int) (r1 : Int) (r2 : Int) (r3 : Int) (r4 : Int) (r5 : Int) (r6 : Int) (r7 : Int) (r8 : Int) (r9 : Bool) (w0 w : World) (hI : IsS54 w0 w g s0_0 s0_1) (hB : Below w0.heap.size w0 w) (h : impl_span_by.f k s0_0 s0_1 a1_0 a1_1 a1_2 a1_3 = some (r1, r2, r3, r4, r5, r6, r7, r8, r9)) :
  Calls Try.prog 57 #[.pointer (some ⟨g, 0, none⟩), .agg #[.int .i64 a1_0, .int .i64 a1_1, .int .i64 a1_2, .int .i64 a1_3]] w fun e w' => e = .returned (.tuple #[.agg #[.int .i64 r1, .int .i64 r2, .int .i64 r3, .int .i64 r4, .int .i64 r5, .int .i64 r6, .int .i64 r7, .int .i64 r8], .bool r9]) ∧ IsS54 w0 w' g s0_0 s0_1 ∧ Below w0.heap.size w0 w' ∧ KeepBut w w' g none := by
 have hu59 := Try.underlying59
 have hu62 := Try.underlying62
 have hu77 := Try.underlying77
 have HI0 := Aside0.mk hI
 have HK := Aside0.mk (KeepBut.refl w g none)
 have HL := Aside0.mk hB.size
 clear hI
 have HW0 := Aside0.mk hB.size
 have HB := Aside0.mk hB
 clear hB
 have H : ((impl_span_less.f k s0_0 s0_1 a1_0 a1_1 a1_2 a1_3 0 0 0 0 0 0 0 0).bind fun bt199 => (impl_span_by.l0 k 0 bt199.1 bt199.2.1 bt199.2.2.1 bt199.2.2.2.1 bt199.2.2.2.2.1 bt199.2.2.2.2.2.1 bt199.2.2.2.2.2.2.1 bt199.2.2.2.2.2.2.2.1 bt199.2.2.2.2.2.2.2.2.1 bt199.2.2.2.2.2.2.2.2.2.1 bt199.2.2.2.2.2.2.2.2.2.2.1 bt199.2.2.2.2.2.2.2.2.2.2.2)) = some (r1, r2, r3, r4, r5, r6, r7, r8, r9) := h
 clear h
 replace H := Option.bind_eq_some_iff.mp H
 obtain ⟨⟨t199, t200, t201, t202, t203, t204, t205, t206, t207, t208, t209, t210⟩, A30, H⟩ := H
 replace H : (impl_span_by.l0 k 0 t199 t200 t201 t202 t203 t204 t205 t206 t207 t208 t209 t210) = some (r1, r2, r3, r4, r5, r6, r7, r8, r9) := H
 have A3 := Aside0.mk A30
 clear A30
 have H' := Aside0.mk H
 clear H
 go_enter Try.func57, Try.ntmps57
 go_wp2_with (first | ((with_reducible refine gate_dst (N := 3) rfl ?_); refine box_event ?hg (N := 3) ?hd (cs := #[.int .i64 a1_0, .int .i64 a1_1, .int .i64 a1_2, .int .i64 a1_3]) (t := 59) ?hr ?_; (case hd => rfl); (case hg => rfl); (case hr => first | (go_simp; done) | (go_simp; rfl)); intro gb197 hg w4 hbox hb; replace HB := Aside0.mk (below_step (by repeat (first | (with_reducible first | exact HB.out | apply below_alloc | apply pw_below_drewN | apply below_drew1 | refine below_set ?_ (IsS54.ge HI0.out)) | exact HB.out)) hb); have BK197 := Aside0.mk (hbox); have GW197 := Aside0.mk ((by rw [hg]; exact (keep_size (w := w) (g := g) (row := none) z6_10) : w.heap.size ≤ gb197)); have GE197 := Aside0.mk ((Nat.le_trans HW0.out (by rw [hg]; exact (keep_size (w := w) (g := g) (row := none) z6_10) : w.heap.size ≤ gb197) : w0.heap.size ≤ gb197)); replace HK := Aside0.mk (KeepBut.trans z6_10 (KeepBut.of_below hb g none) (.inl rfl)); have aq := Aside0.mk ((by rw [hg]; exact Nat.ne_of_lt (IsS54.lt (show IsS54 w0 _ g s0_0 s0_1 from by repeat (first | (with_reducible first | exact HI0.out | apply IsS54.alloc | apply IsS54.drewN | apply IsS54.drew) | exact HI0.out))) : g ≠ gb197)); have au := Aside0.mk ((by rw [hg]; exact Nat.ne_of_gt (IsS54.lt (show IsS54 w0 _ g s0_0 s0_1 from by repeat (first | (with_reducible first | exact HI0.out | apply IsS54.alloc | apply IsS54.drewN | apply IsS54.drew) | exact HI0.out))) : gb197 ≠ g)); replace HI0 := Aside0.mk (IsS54.below (by repeat (first | (with_reducible first | exact HI0.out | apply IsS54.alloc | apply IsS54.drewN | apply IsS54.drew) | exact HI0.out)) hb); clear hb hbox hg) | ((with_reducible refine gate_dst (N := 4) rfl ?_); refine box_event ?hg (N := 4) ?hd (cs := #[.int .i64 0, .int .i64 0, .int .i64 0, .int .i64 0, .int .i64 0, .int .i64 0, .int .i64 0, .int .i64 0]) (t := 62) ?hr ?_; (case hd => rfl); (case hg => rfl); (case hr => first | (go_simp; done) | (go_simp; rfl)); intro gb198 hg w5 hbox hb; replace HB := Aside0.mk (below_step (by repeat (first | (with_reducible first | exact HB.out | apply below_alloc | apply pw_below_drewN | apply below_drew1 | refine below_set ?_ (IsS54.ge HI0.out) | refine below_set ?_ GE197.out) | exact HB.out)) hb); have BK198 := Aside0.mk (hbox); have GW198 := Aside0.mk ((by rw [hg]; exact (keep_size (w := w) (g := g) (row := none) z6_9) : w.heap.size ≤ gb198)); have GE198 := Aside0.mk ((Nat.le_trans HW0.out (by rw [hg]; exact (keep_size (w := w) (g := g) (row := none) z6_9) : w.heap.size ≤ gb198) : w0.heap.size ≤ gb198)); replace HK := Aside0.mk (KeepBut.trans z6_9 (KeepBut.of_below hb g none) (.inl rfl)); have al := Aside0.mk ((by rw [hg]; exact Nat.ne_of_lt (blk_lt (g := gb197) (o := .cells #[.int .i64 a1_0, .int .i64 a1_1, .int .i64 a1_2, .int .i64 a1_3] 59 (0, 0)) (zL6 BK197.out)) : gb197 ≠ gb198)); have am := Aside0.mk ((by rw [hg]; exact Nat.ne_of_gt (blk_lt (g := gb197) (o := .cells #[.int .i64 a1_0, .int .i64 a1_1, .int .i64 a1_2, .int .i64 a1_3] 59 (0, 0)) (zL6 BK197.out)) : gb198 ≠ gb197)); replace BK197 := Aside0.mk (blk_below (g := gb197) (o := .cells #[.int .i64 a1_0, .int .i64 a1_1, .int .i64 a1_2, .int .i64 a1_3] 59 (0, 0)) (zL6 BK197.out) hb); have ar := Aside0.mk ((by rw [hg]; exact Nat.ne_of_lt (IsS54.lt (show IsS54 w0 _ g s0_0 s0_1 from by repeat (first | (with_reducible first | exact HI0.out | apply IsS54.alloc | apply IsS54.drewN | apply IsS54.drew | refine IsS54.far ?_ aq.out _) | exact HI0.out))) : g ≠ gb198)); have NB198_0 := Aside0.mk ((by rw [hg]; exact Nat.ne_of_gt (IsS54.lt (show IsS54 w0 _ g s0_0 s0_1 from by repeat (first | (with_reducible first | exact HI0.out | apply IsS54.alloc | apply IsS54.drewN | apply IsS54.drew | refine IsS54.far ?_ aq.out _) | exact HI0.out))) : gb198 ≠ g)); replace HI0 := Aside0.mk (IsS54.below (by repeat (first | (with_reducible first | exact HI0.out | apply IsS54.alloc | apply IsS54.drewN | apply IsS54.drew | refine IsS54.far ?_ aq.out _) | exact HI0.out)) hb); clear hb hbox hg; have hnb6 := al.out; have hnc6 := am.out; have hnb7 := au.out; have hnc7 := aq.out; have hcz8_0 : w5.cell? ⟨gb197, 0, none⟩ = some (.int .i64 a1_0) := bA6 BK197 rfl; have hcz8_1 : w5.cell? ⟨gb197, 1, none⟩ = some (.int .i64 a1_1) := bA6 BK197 rfl; have hcz8_2 : w5.cell? ⟨gb197, 2, none⟩ = some (.int .i64 a1_2) := bA6 BK197 rfl; have hcz8_3 : w5.cell? ⟨gb197, 3, none⟩ = some (.int .i64 a1_3) := bA6 BK197 rfl; have hfz8_0 := blk_frozen BK197.out 0; have hfz8_1 := blk_frozen BK197.out 1; have hfz8_2 := blk_frozen BK197.out 2; have hfz8_3 := blk_frozen BK197.out 3) | ((with_reducible refine gate_callee (f := 71) rfl ?_); refine goesL_ (some 11) rfl rfl Try.func71 (by kernel_rfl) rfl #[.pointer (some ⟨g, 0, none⟩), .agg #[.int .i64 a1_0, .int .i64 a1_1, .int .i64 a1_2, .int .i64 a1_3, .int .i64 0, .int .i64 0, .int .i64 0, .int .i64 0, .int .i64 0, .int .i64 0, .int .i64 0, .int .i64 0]] rfl z6_6 ?_; (with_reducible refine (impl_span_less.calls k g s0_0 s0_1 a1_0 a1_1 a1_2 a1_3 0 0 0 0 0 0 0 0 t199 t200 t201 t202 t203 t204 t205 t206 t207 t208 t209 t210 w0 _ ?side1 ?side2 A3.out).mono ?_); (case side1 => repeat (first | (with_reducible first | exact HI0.out | apply IsS54.alloc | apply IsS54.drewN | apply IsS54.drew | refine IsS54.far ?_ aq.out _ | refine IsS54.far ?_ ar.out _) | exact HI0.out)); (case side2 => repeat (first | (with_reducible first | exact HB.out | apply below_alloc | apply pw_below_drewN | apply below_drew1 | refine below_set ?_ (IsS54.ge HI0.out) | refine below_set ?_ GE197.out | refine below_set ?_ GE198.out) | exact HB.out)); rintro e w9 ⟨rfl, hi, hb, hk⟩; refine ⟨_, rfl, ?_⟩; replace BK197 := Aside0.mk (KeepBut.blk hk (g' := gb197) (o := .cells #[.int .i64 a1_0, .int .i64 a1_1, .int .i64 a1_2, .int .i64 a1_3] 59 (0, 0)) (zL6 BK197.out) au.out (by simp)); replace BK198 := Aside0.mk (KeepBut.blk hk (g' := gb198) (o := .cells #[.int .i64 0, .int .i64 0, .int .i64 0, .int .i64 0, .int .i64 0, .int .i64 0, .int .i64 0, .int .i64 0] 62 (0, 0)) (zL6 BK198.out) NB198_0.out (by simp)); replace HK := Aside0.mk (KeepBut.trans z6_7 hk (.inl rfl)); replace HB := Aside0.mk (hb); replace HI0 := Aside0.mk (hi); (try clear hb)) | ((with_reducible refine gate_dst (N := 6) rfl ?_); refine box_event ?hg (N := 6) ?hd (cs := #[.int .i64 0, .int .i64 0, .int .i64 0, .int .i64 0, .int .i64 0, .int .i64 0, .int .i64 0, .int .i64 0, .int .i64 0, .int .i64 0, .int .i64 0, .int .i64 0]) (t := 77) ?hr ?_; (case hd => rfl); (case hg => rfl); (case hr => first | (go_simp; done) | (go_simp; rfl)); intro gb211 hg w10 hbox hb; replace HB := Aside0.mk (below_step (by repeat (first | (with_reducible first | exact HB.out | apply below_alloc | apply pw_below_drewN | apply below_drew1 | refine below_set ?_ (IsS54.ge HI0.out) | refine below_set ?_ GE197.out | refine below_set ?_ GE198.out) | exact HB.out)) hb); have BK211 := Aside0.mk (hbox); have GW211 := Aside0.mk ((by rw [hg]; exact (keep_size (w := w) (g := g) (row := none) z6_7) : w.heap.size ≤ gb211)); have GE211 := Aside0.mk ((Nat.le_trans HW0.out (by rw [hg]; exact (keep_size (w := w) (g := g) (row := none) z6_7) : w.heap.size ≤ gb211) : w0.heap.size ≤ gb211)); replace HK := Aside0.mk (KeepBut.trans z6_7 (KeepBut.of_below hb g none) (.inl rfl)); have ak := Aside0.mk ((by rw [hg]; exact Nat.ne_of_lt (blk_lt (g := gb197) (o := .cells #[.int .i64 a1_0, .int .i64 a1_1, .int .i64 a1_2, .int .i64 a1_3] 59 (0, 0)) (zL6 BK197.out)) : gb197 ≠ gb211)); have an := Aside0.mk ((by rw [hg]; exact Nat.ne_of_gt (blk_lt (g := gb197) (o := .cells #[.int .i64 a1_0, .int .i64 a1_1, .int .i64 a1_2, .int .i64 a1_3] 59 (0, 0)) (zL6 BK197.out)) : gb211 ≠ gb197)); replace BK197 := Aside0.mk (blk_below (g := gb197) (o := .cells #[.int .i64 a1_0, .int .i64 a1_1, .int .i64 a1_2, .int .i64 a1_3] 59 (0, 0)) (zL6 BK197.out) hb); have ab := Aside0.mk ((by rw [hg]; exact Nat.ne_of_lt (blk_lt (g := gb198) (o := .cells #[.int .i64 0, .int .i64 0, .int .i64 0, .int .i64 0, .int .i64 0, .int .i64 0, .int .i64 0, .int .i64 0] 62 (0, 0)) (zL6 BK198.out)) : gb198 ≠ gb211)); have aa := Aside0.mk ((by rw [hg]; exact Nat.ne_of_gt (blk_lt (g := gb198) (o := .cells #[.int .i64 0, .int .i64 0, .int .i64 0, .int .i64 0, .int .i64 0, .int .i64 0, .int .i64 0, .int .i64 0] 62 (0, 0)) (zL6 BK198.out)) : gb211 ≠ gb198)); replace BK198 := Aside0.mk (blk_below (g := gb198) (o := .cells #[.int .i64 0, .int .i64 0, .int .i64 0, .int .i64 0, .int .i64 0, .int .i64 0, .int .i64 0, .int .i64 0] 62 (0, 0)) (zL6 BK198.out) hb); have ao := Aside0.mk ((by rw [hg]; exact Nat.ne_of_lt (IsS54.lt (show IsS54 w0 _ g s0_0 s0_1 from by repeat (first | (with_reducible first | exact HI0.out | apply IsS54.alloc | apply IsS54.drewN | apply IsS54.drew | refine IsS54.far ?_ aq.out _ | refine IsS54.far ?_ ar.out _) | exact HI0.out))) : g ≠ gb211)); have ap := Aside0.mk ((by rw [hg]; exact Nat.ne_of_gt (IsS54.lt (show IsS54 w0 _ g s0_0 s0_1 from by repeat (first | (with_reducible first | exact HI0.out | apply IsS54.alloc | apply IsS54.drewN | apply IsS54.drew | refine IsS54.far ?_ aq.out _ | refine IsS54.far ?_ ar.out _) | exact HI0.out))) : gb211 ≠ g)); replace HI0 := Aside0.mk (IsS54.below (by repeat (first | (with_reducible first | exact HI0.out | apply IsS54.alloc | apply IsS54.drewN | apply IsS54.drew | refine IsS54.far ?_ aq.out _ | refine IsS54.far ?_ ar.out _) | exact HI0.out)) hb); clear hb hbox hg; have hnb11 := an.out; have hnc11 := ak.out; have hnb12 := aa.out; have hnc12 := ab.out; have hnb13 := ap.out; have hnc13 := ao.out; have hcz14_0 : w10.cell? ⟨gb211, 0, none⟩ = some (.int .i64 0) := bA6 BK211 rfl; have hfz14_0 := blk_frozen BK211.out 0; have hcz15_1 : w10.cell? ⟨gb211, 1, none⟩ = some (.int .i64 0) := bA6 BK211 rfl; have hfz15_1 := blk_frozen BK211.out 1; have hcz16_2 : w10.cell? ⟨gb211, 2, none⟩ = some (.int .i64 0) := bA6 BK211 rfl; have hfz16_2 := blk_frozen BK211.out 2; have hcz17_3 : w10.cell? ⟨gb211, 3, none⟩ = some (.int .i64 0) := bA6 BK211 rfl; have hfz17_3 := blk_frozen BK211.out 3; have hcz18_4 : w10.cell? ⟨gb211, 4, none⟩ = some (.int .i64 0) := bA6 BK211 rfl; have hfz18_4 := blk_frozen BK211.out 4; have hcz19_5 : w10.cell? ⟨gb211, 5, none⟩ = some (.int .i64 0) := bA6 BK211 rfl; have hfz19_5 := blk_frozen BK211.out 5; have hcz20_6 : w10.cell? ⟨gb211, 6, none⟩ = some (.int .i64 0) := bA6 BK211 rfl; have hfz20_6 := blk_frozen BK211.out 6; have hcz21_7 : w10.cell? ⟨gb211, 7, none⟩ = some (.int .i64 0) := bA6 BK211 rfl; have hfz21_7 := blk_frozen BK211.out 7; have hcz22_8 : w10.cell? ⟨gb211, 8, none⟩ = some (.int .i64 0) := bA6 BK211 rfl; have hfz22_8 := blk_frozen BK211.out 8; have hcz23_9 : w10.cell? ⟨gb211, 9, none⟩ = some (.int .i64 0) := bA6 BK211 rfl; have hfz23_9 := blk_frozen BK211.out 9; have av : w10.cell? ⟨gb211, 10, none⟩ = some (.int .i64 0) := bA6 BK211 rfl; have aw := blk_frozen BK211.out 10; have ax : w10.cell? ⟨gb211, 11, none⟩ = some (.int .i64 0) := bA6 BK211 rfl; have ay := blk_frozen BK211.out 11) | ((with_reducible refine gate_store (t := 77) (p := 6) rfl ?_); refine store_event (t := 77) (p := 6) (v := ?vo_w26) (w1 := ((((((((((((w10.setCell ⟨gb211, 0, none⟩ (.int .i64 t199)).setCell ⟨gb211, 1, none⟩ (.int .i64 t200)).setCell ⟨gb211, 2, none⟩ (.int .i64 t201)).setCell ⟨gb211, 3, none⟩ (.int .i64 t202)).setCell ⟨gb211, 4, none⟩ (.int .i64 t203)).setCell ⟨gb211, 5, none⟩ (.int .i64 t204)).setCell ⟨gb211, 6, none⟩ (.int .i64 t205)).setCell ⟨gb211, 7, none⟩ (.int .i64 t206)).setCell ⟨gb211, 8, none⟩ (.int .i64 t207)).setCell ⟨gb211, 9, none⟩ (.int .i64 t208)).setCell ⟨gb211, 10, none⟩ (.int .i64 t209)).setCell ⟨gb211, 11, none⟩ (.int .i64 t210))) ?hg ?ho ?hn ?hr ?_; (case ho => rfl); (case hg => rfl); (case hn => rfl); (case hr => first | (go_simp; done) | (go_simp; rfl)); intro w26 hw; have n0_ : Aside0 (w26.heap[gb197]? = some (.cells #[.int .i64 a1_0, .int .i64 a1_1, .int .i64 a1_2, .int .i64 a1_3] 59 (0, 0))) := ⟨(by rw [hw]; exact (by (with_reducible repeat first|refine blk_drewN ?_ _|refine blk_drew ?_|refine blk_alloc ?_ _); refine blk_far ?_ ak.out _; (with_reducible repeat first|refine blk_drewN ?_ _|refine blk_drew ?_|refine blk_alloc ?_ _); refine blk_far ?_ ak.out _; (with_reducible repeat first|refine blk_drewN ?_ _|refine blk_drew ?_|refine blk_alloc ?_ _); refine blk_far ?_ ak.out _; (with_reducible repeat first|refine blk_drewN ?_ _|refine blk_drew ?_|refine blk_alloc ?_ _); refine blk_far ?_ ak.out _; (with_reducible repeat first|refine blk_drewN ?_ _|refine blk_drew ?_|refine blk_alloc ?_ _); refine blk_far ?_ ak.out _; (with_reducible repeat first|refine blk_drewN ?_ _|refine blk_drew ?_|refine blk_alloc ?_ _); refine blk_far ?_ ak.out _; (with_reducible repeat first|refine blk_drewN ?_ _|refine blk_drew ?_|refine blk_alloc ?_ _); refine blk_far ?_ ak.out _; (with_reducible repeat first|refine blk_drewN ?_ _|refine blk_drew ?_|refine blk_alloc ?_ _); refine blk_far ?_ ak.out _; (with_reducible repeat first|refine blk_drewN ?_ _|refine blk_drew ?_|refine blk_alloc ?_ _); refine blk_far ?_ ak.out _; (with_reducible repeat first|refine blk_drewN ?_ _|refine blk_drew ?_|refine blk_alloc ?_ _); refine blk_far ?_ ak.out _; (with_reducible repeat first|refine blk_drewN ?_ _|refine blk_drew ?_|refine blk_alloc ?_ _); refine blk_far ?_ ak.out _; (with_reducible repeat first|refine blk_drewN ?_ _|refine blk_drew ?_|refine blk_alloc ?_ _); refine blk_far ?_ ak.out _; (with_reducible repeat first|refine blk_drewN ?_ _|refine blk_drew ?_|refine blk_alloc ?_ _); exact BK197.out))⟩; have n1_ : Aside0 (w26.heap[gb198]? = some (.cells #[.int .i64 0, .int .i64 0, .int .i64 0, .int .i64 0, .int .i64 0, .int .i64 0, .int .i64 0, .int .i64 0] 62 (0, 0))) := ⟨(by rw [hw]; exact (by (with_reducible repeat first|refine blk_drewN ?_ _|refine blk_drew ?_|refine blk_alloc ?_ _); refine blk_far ?_ ab.out _; (with_reducible repeat first|refine blk_drewN ?_ _|refine blk_drew ?_|refine blk_alloc ?_ _); refine blk_far ?_ ab.out _; (with_reducible repeat first|refine blk_drewN ?_ _|refine blk_drew ?_|refine blk_alloc ?_ _); refine blk_far ?_ ab.out _; (with_reducible repeat first|refine blk_drewN ?_ _|refine blk_drew ?_|refine blk_alloc ?_ _); refine blk_far ?_ ab.out _; (with_reducible repeat first|refine blk_drewN ?_ _|refine blk_drew ?_|refine blk_alloc ?_ _); refine blk_far ?_ ab.out _; (with_reducible repeat first|refine blk_drewN ?_ _|refine blk_drew ?_|refine blk_alloc ?_ _); refine blk_far ?_ ab.out _; (with_reducible repeat first|refine blk_drewN ?_ _|refine blk_drew ?_|refine blk_alloc ?_ _); refine blk_far ?_ ab.out _; (with_reducible repeat first|refine blk_drewN ?_ _|refine blk_drew ?_|refine blk_alloc ?_ _); refine blk_far ?_ ab.out _; (with_reducible repeat first|refine blk_drewN ?_ _|refine blk_drew ?_|refine blk_alloc ?_ _); refine blk_far ?_ ab.out _; (with_reducible repeat first|refine blk_drewN ?_ _|refine blk_drew ?_|refine blk_alloc ?_ _); refine blk_far ?_ ab.out _; (with_reducible repeat first|refine blk_drewN ?_ _|refine blk_drew ?_|refine blk_alloc ?_ _); refine blk_far ?_ ab.out _; (with_reducible repeat first|refine blk_drewN ?_ _|refine blk_drew ?_|refine blk_alloc ?_ _); refine blk_far ?_ ab.out _; (with_reducible repeat first|refine blk_drewN ?_ _|refine blk_drew ?_|refine blk_alloc ?_ _); exact BK198.out))⟩; have n2_ : Aside0 (w26.heap[gb211]? = some (.cells #[.int .i64 t199, .int .i64 t200, .int .i64 t201, .int .i64 t202, .int .i64 t203, .int .i64 t204, .int .i64 t205, .int .i64 t206, .int .i64 t207, .int .i64 t208, .int .i64 t209, .int .i64 t210] 77 (0, 0))) := ⟨(by rw [hw]; exact (bZ BK211.out))⟩; have n3_ : Aside0 (IsS54 w0 w26 g s0_0 s0_1) := ⟨(by rw [hw]; exact z6_3)⟩; have n4_ : Aside0 (KeepBut w w26 g none) := ⟨(by rw [hw]; exact z6_2)⟩; have n5_ : Aside0 (Below w0.heap.size w0 w26) := ⟨(by rw [hw]; exact z6_1)⟩; clear hw; clear BK197; clear BK198; clear BK211; clear HI0; clear HK; clear HB; have BK197 := n0_; have BK198 := n1_; have BK211 := n2_; have HI0 := n3_; have HK := n4_; have HB := n5_; clear n0_ n1_ n2_ n3_ n4_ n5_))
 go_loopg [12] k (fun kq v12 w' => ∃ (x12_1 : Int) (ac : Int) (ad : Int) (ae : Int) (af : Int) (ag : Int) (ah : Int) (ai : Int) (aj : Int), v12 = .int .i64 x12_1 ∧ Aside0 (impl_span_by.l0 kq x12_1 t199 t200 t201 t202 ac ad ae af ag ah ai aj = some (r1, r2, r3, r4, r5, r6, r7, r8, r9)) ∧ Aside0 (kq ≤ k) ∧ Aside0 (w'.heap[gb197]? = some (.cells #[.int .i64 a1_0, .int .i64 a1_1, .int .i64 a1_2, .int .i64 a1_3] 59 (0, 0))) ∧ Aside0 (w'.heap[gb198]? = some (.cells #[.int .i64 0, .int .i64 0, .int .i64 0, .int .i64 0, .int .i64 0, .int .i64 0, .int .i64 0, .int .i64 0] 62 (0, 0))) ∧ Aside0 (w'.heap[gb211]? = some (.cells #[.int .i64 t199, .int .i64 t200, .int .i64 t201, .int .i64 t202, .int .i64 ac, .int .i64 ad, .int .i64 ae, .int .i64 af, .int .i64 ag, .int .i64 ah, .int .i64 ai, .int .i64 aj] 77 (0, 0))) ∧ Aside0 (IsS54 w0 w' g s0_0 s0_1) ∧ Aside0 (KeepBut w w' g none) ∧ Aside0 (Below w0.heap.size w0 w'))
 case atStart => exact ⟨(0), (t203), (t204), (t205), (t206), (t207), (t208), (t209), (t210), (by first | rfl | (simp; done) | (simp [*]; done)), H', ⟨Nat.le_refl _⟩, ⟨zL6 BK197.out⟩, ⟨zL6 BK198.out⟩, ⟨zL6 BK211.out⟩, ⟨z6_3⟩, ⟨z6_2⟩, ⟨z6_1⟩⟩
 case round =>
  clear H'
  try clear hcz14_0
  try clear hcz15_1
  try clear hcz16_2
  try clear hcz17_3
  try clear hcz18_4
  try clear hcz19_5
  try clear hcz20_6
  try clear hcz21_7
  try clear hcz22_8
  try clear hcz23_9
  try clear av
  try clear ax
  try clear hcz8_0 hcz8_1 hcz8_2 hcz8_3
  try clear hfz14_0
  try clear hfz15_1
  try clear hfz16_2
  try clear hfz17_3
  try clear hfz18_4
  try clear hfz19_5
  try clear hfz20_6
  try clear hfz21_7
  try clear hfz22_8
  try clear hfz23_9
  try clear aw
  try clear ay
  try clear hfz8_0 hfz8_1 hfz8_2 hfz8_3
  obtain ⟨x12_1, ac, ad, ae, af, ag, ah, ai, aj, rfl, HA, HK1, BK197, BK198, BK211, HI0, HK, HB⟩ := hrel
  cases gk with
  | zero => exact absurd HA.out (by simp [impl_span_by.l0])
  | succ k1 =>
   have H := HA.out
   clear HA
   simp only [impl_span_by.l0] at H
   by_cases c27 : x12_1 < 8
   ·rw [if_pos c27] at H
    have c27b0 : decide (x12_1 < 8) = true := decide_eq_true c27
    clear c27
    by_cases c28 : x12_1 = 0
    ·rw [if_pos c28] at H
     subst c28
     replace H : ((impl_elementOf.f (wrap64 (-ac))).bind fun t212 => (impl_span_by.l0 k1 (wrap64 ((0 : Int) + 1)) t199 t200 t201 t202 t212 ad ae af ag ah ai aj)) = some (r1, r2, r3, r4, r5, r6, r7, r8, r9) := H
     replace H := Option.bind_eq_some_iff.mp H
     obtain ⟨t212, A290, H⟩ := H
     replace H : (impl_span_by.l0 k1 (wrap64 ((0 : Int) + 1)) t199 t200 t201 t202 t212 ad ae af ag ah ai aj) = some (r1, r2, r3, r4, r5, r6, r7, r8, r9) := H
     have A29 := Aside0.mk A290
     clear A290
     have H' := Aside0.mk H
     clear H
     have hnb30 := an.out
     have hnc30 := ak.out
     have hnb31 := aa.out
     have hnc31 := ab.out
     have hnb32 := ap.out
     have hnc32 := ao.out
     have hcz33_4 : wr.cell? ⟨gb211, 4, none⟩ = some (.int .i64 ac) := bA6 BK211 rfl
     have hfz33_4 := blk_frozen BK211.out 4
     go_wp2_with (first | ((with_reducible refine gate_callee (f := 81) rfl ?_); refine goesL_ (some 21) rfl rfl Try.func81 (by kernel_rfl) rfl #[.int .i64 (wrap64 (-ac))] rfl z6_6 ?_; (with_reducible refine (impl_elementOf.calls (wrap64 (-ac)) t212 _ A29.out).mono ?_); rintro e w' ⟨rfl, ⟨nd, rfl⟩⟩; refine ⟨_, rfl, ?_⟩; (try (rw [drewN_self wr]; generalize hq_ : World.drewN wr _ = wr; have n0_ : Aside0 (wr.heap[gb197]? = some (.cells #[.int .i64 a1_0, .int .i64 a1_1, .int .i64 a1_2, .int .i64 a1_3] 59 (0, 0))) := ⟨z6_11⟩; have n1_ : Aside0 (wr.heap[gb198]? = some (.cells #[.int .i64 0, .int .i64 0, .int .i64 0, .int .i64 0, .int .i64 0, .int .i64 0, .int .i64 0, .int .i64 0] 62 (0, 0))) := ⟨z6_12⟩; have n2_ : Aside0 (wr.heap[gb211]? = some (.cells #[.int .i64 t199, .int .i64 t200, .int .i64 t201, .int .i64 t202, .int .i64 ac, .int .i64 ad, .int .i64 ae, .int .i64 af, .int .i64 ag, .int .i64 ah, .int .i64 ai, .int .i64 aj] 77 (0, 0))) := ⟨z6_13⟩; have n3_ : Aside0 (IsS54 w0 wr g s0_0 s0_1) := ⟨z6_14⟩; have n4_ : Aside0 (KeepBut w wr g none) := ⟨z6_15⟩; have n5_ : Aside0 (Below w0.heap.size w0 wr) := ⟨z6_16⟩; clear BK197 BK198 BK211 HI0 HK HB hq_; have BK197 := n0_; have BK198 := n1_; have BK211 := n2_; have HI0 := n3_; have HK := n4_; have HB := n5_; clear n0_ n1_ n2_ n3_ n4_ n5_; have hcr211_4 : wr.cell? ⟨gb211, 4, none⟩ = some (.int .i64 ac) := bA6 BK211 rfl; have hfr211_4 := blk_frozen BK211.out 4))))
     go_roundg k1
     case measure => have := HK1.out; omega
     case rel => exact ⟨(wrap64 ((0 : Int) + 1)), (t212), (ad), (ae), (af), (ag), (ah), (ai), (aj), z6_8, H', ⟨z6_17⟩, ⟨z6_4⟩, ⟨z6_5⟩, ⟨bZ BK211.out⟩, ⟨z6_3⟩, ⟨z6_2⟩, ⟨z6_1⟩⟩
    ·rw [if_neg c28] at H
     clear c28
     by_cases c35 : x12_1 = 1
     ·rw [if_pos c35] at H
      subst c35
      replace H : ((impl_elementOf.f (wrap64 (-ad))).bind fun t213 => (impl_span_by.l0 k1 (wrap64 ((1 : Int) + 1)) t199 t200 t201 t202 ac t213 ae af ag ah ai aj)) = some (r1, r2, r3, r4, r5, r6, r7, r8, r9) := H
      replace H := Option.bind_eq_some_iff.mp H
      obtain ⟨t213, A360, H⟩ := H
      replace H : (impl_span_by.l0 k1 (wrap64 ((1 : Int) + 1)) t199 t200 t201 t202 ac t213 ae af ag ah ai aj) = some (r1, r2, r3, r4, r5, r6, r7, r8, r9) := H
      have A36 := Aside0.mk A360
      clear A360
      have H' := Aside0.mk H
      clear H
      have hnb37 := an.out
      have hnc37 := ak.out
      have hnb38 := aa.out
      have hnc38 := ab.out
      have hnb39 := ap.out
      have hnc39 := ao.out
      have hcz40_5 : wr.cell? ⟨gb211, 5, none⟩ = some (.int .i64 ad) := bA6 BK211 rfl
      have hfz40_5 := blk_frozen BK211.out 5
      go_wp2_with (first | ((with_reducible refine gate_callee (f := 81) rfl ?_); refine goesL_ (some 21) rfl rfl Try.func81 (by kernel_rfl) rfl #[.int .i64 (wrap64 (-ad))] rfl z6_6 ?_; (with_reducible refine (impl_elementOf.calls (wrap64 (-ad)) t213 _ A36.out).mono ?_); rintro e w' ⟨rfl, ⟨nd, rfl⟩⟩; refine ⟨_, rfl, ?_⟩; (try (rw [drewN_self wr]; generalize hq_ : World.drewN wr _ = wr; have n0_ : Aside0 (wr.heap[gb197]? = some (.cells #[.int .i64 a1_0, .int .i64 a1_1, .int .i64 a1_2, .int .i64 a1_3] 59 (0, 0))) := ⟨z6_11⟩; have n1_ : Aside0 (wr.heap[gb198]? = some (.cells #[.int .i64 0, .int .i64 0, .int .i64 0, .int .i64 0, .int .i64 0, .int .i64 0, .int .i64 0, .int .i64 0] 62 (0, 0))) := ⟨z6_12⟩; have n2_ : Aside0 (wr.heap[gb211]? = some (.cells #[.int .i64 t199, .int .i64 t200, .int .i64 t201, .int .i64 t202, .int .i64 ac, .int .i64 ad, .int .i64 ae, .int .i64 af, .int .i64 ag, .int .i64 ah, .int .i64 ai, .int .i64 aj] 77 (0, 0))) := ⟨z6_13⟩; have n3_ : Aside0 (IsS54 w0 wr g s0_0 s0_1) := ⟨z6_14⟩; have n4_ : Aside0 (KeepBut w wr g none) := ⟨z6_15⟩; have n5_ : Aside0 (Below w0.heap.size w0 wr) := ⟨z6_16⟩; clear BK197 BK198 BK211 HI0 HK HB hq_; have BK197 := n0_; have BK198 := n1_; have BK211 := n2_; have HI0 := n3_; have HK := n4_; have HB := n5_; clear n0_ n1_ n2_ n3_ n4_ n5_; have hcr211_5 : wr.cell? ⟨gb211, 5, none⟩ = some (.int .i64 ad) := bA6 BK211 rfl; have hfr211_5 := blk_frozen BK211.out 5))))
      go_roundg k1
      case measure => have := HK1.out; omega
      case rel => exact ⟨(wrap64 ((1 : Int) + 1)), (ac), (t213), (ae), (af), (ag), (ah), (ai), (aj), z6_8, H', ⟨z6_17⟩, ⟨z6_4⟩, ⟨z6_5⟩, ⟨bZ BK211.out⟩, ⟨z6_3⟩, ⟨z6_2⟩, ⟨z6_1⟩⟩
     ·rw [if_neg c35] at H
      clear c35
      by_cases c42 : x12_1 = 2
      ·rw [if_pos c42] at H
       subst c42
       replace H : ((impl_elementOf.f (wrap64 (-ae))).bind fun t214 => (impl_span_by.l0 k1 (wrap64 ((2 : Int) + 1)) t199 t200 t201 t202 ac ad t214 af ag ah ai aj)) = some (r1, r2, r3, r4, r5, r6, r7, r8, r9) := H
       replace H := Option.bind_eq_some_iff.mp H
       obtain ⟨t214, A430, H⟩ := H
       replace H : (impl_span_by.l0 k1 (wrap64 ((2 : Int) + 1)) t199 t200 t201 t202 ac ad t214 af ag ah ai aj) = some (r1, r2, r3, r4, r5, r6, r7, r8, r9) := H
       have A43 := Aside0.mk A430
       clear A430
       have H' := Aside0.mk H
       clear H
       have hnb44 := an.out
       have hnc44 := ak.out
       have hnb45 := aa.out
       have hnc45 := ab.out
       have hnb46 := ap.out
       have hnc46 := ao.out
       have hcz47_6 : wr.cell? ⟨gb211, 6, none⟩ = some (.int .i64 ae) := bA6 BK211 rfl
       have hfz47_6 := blk_frozen BK211.out 6
       go_wp2_with (first | ((with_reducible refine gate_callee (f := 81) rfl ?_); refine goesL_ (some 21) rfl rfl Try.func81 (by kernel_rfl) rfl #[.int .i64 (wrap64 (-ae))] rfl z6_6 ?_; (with_reducible refine (impl_elementOf.calls (wrap64 (-ae)) t214 _ A43.out).mono ?_); rintro e w' ⟨rfl, ⟨nd, rfl⟩⟩; refine ⟨_, rfl, ?_⟩; (try (rw [drewN_self wr]; generalize hq_ : World.drewN wr _ = wr; have n0_ : Aside0 (wr.heap[gb197]? = some (.cells #[.int .i64 a1_0, .int .i64 a1_1, .int .i64 a1_2, .int .i64 a1_3] 59 (0, 0))) := ⟨z6_11⟩; have n1_ : Aside0 (wr.heap[gb198]? = some (.cells #[.int .i64 0, .int .i64 0, .int .i64 0, .int .i64 0, .int .i64 0, .int .i64 0, .int .i64 0, .int .i64 0] 62 (0, 0))) := ⟨z6_12⟩; have n2_ : Aside0 (wr.heap[gb211]? = some (.cells #[.int .i64 t199, .int .i64 t200, .int .i64 t201, .int .i64 t202, .int .i64 ac, .int .i64 ad, .int .i64 ae, .int .i64 af, .int .i64 ag, .int .i64 ah, .int .i64 ai, .int .i64 aj] 77 (0, 0))) := ⟨z6_13⟩; have n3_ : Aside0 (IsS54 w0 wr g s0_0 s0_1) := ⟨z6_14⟩; have n4_ : Aside0 (KeepBut w wr g none) := ⟨z6_15⟩; have n5_ : Aside0 (Below w0.heap.size w0 wr) := ⟨z6_16⟩; clear BK197 BK198 BK211 HI0 HK HB hq_; have BK197 := n0_; have BK198 := n1_; have BK211 := n2_; have HI0 := n3_; have HK := n4_; have HB := n5_; clear n0_ n1_ n2_ n3_ n4_ n5_; have hcr211_6 : wr.cell? ⟨gb211, 6, none⟩ = some (.int .i64 ae) := bA6 BK211 rfl; have hfr211_6 := blk_frozen BK211.out 6))))
       go_roundg k1
       case measure => have := HK1.out; omega
       case rel => exact ⟨(wrap64 ((2 : Int) + 1)), (ac), (ad), (t214), (af), (ag), (ah), (ai), (aj), z6_8, H', ⟨z6_17⟩, ⟨z6_4⟩, ⟨z6_5⟩, ⟨bZ BK211.out⟩, ⟨z6_3⟩, ⟨z6_2⟩, ⟨z6_1⟩⟩
      ·rw [if_neg c42] at H
       clear c42
       by_cases c49 : x12_1 = 3
       ·rw [if_pos c49] at H
        subst c49
        replace H : ((impl_elementOf.f (wrap64 (-af))).bind fun t215 => (impl_span_by.l0 k1 (wrap64 ((3 : Int) + 1)) t199 t200 t201 t202 ac ad ae t215 ag ah ai aj)) = some (r1, r2, r3, r4, r5, r6, r7, r8, r9) := H
        replace H := Option.bind_eq_some_iff.mp H
        obtain ⟨t215, A500, H⟩ := H
        replace H : (impl_span_by.l0 k1 (wrap64 ((3 : Int) + 1)) t199 t200 t201 t202 ac ad ae t215 ag ah ai aj) = some (r1, r2, r3, r4, r5, r6, r7, r8, r9) := H
        have A50 := Aside0.mk A500
        clear A500
        have H' := Aside0.mk H
        clear H
        have hnb51 := an.out
        have hnc51 := ak.out
        have hnb52 := aa.out
        have hnc52 := ab.out
        have hnb53 := ap.out
        have hnc53 := ao.out
        have hcz54_7 : wr.cell? ⟨gb211, 7, none⟩ = some (.int .i64 af) := bA6 BK211 rfl
        have hfz54_7 := blk_frozen BK211.out 7
        go_wp2_with (first | ((with_reducible refine gate_callee (f := 81) rfl ?_); refine goesL_ (some 21) rfl rfl Try.func81 (by kernel_rfl) rfl #[.int .i64 (wrap64 (-af))] rfl z6_6 ?_; (with_reducible refine (impl_elementOf.calls (wrap64 (-af)) t215 _ A50.out).mono ?_); rintro e w' ⟨rfl, ⟨nd, rfl⟩⟩; refine ⟨_, rfl, ?_⟩; (try (rw [drewN_self wr]; generalize hq_ : World.drewN wr _ = wr; have n0_ : Aside0 (wr.heap[gb197]? = some (.cells #[.int .i64 a1_0, .int .i64 a1_1, .int .i64 a1_2, .int .i64 a1_3] 59 (0, 0))) := ⟨z6_11⟩; have n1_ : Aside0 (wr.heap[gb198]? = some (.cells #[.int .i64 0, .int .i64 0, .int .i64 0, .int .i64 0, .int .i64 0, .int .i64 0, .int .i64 0, .int .i64 0] 62 (0, 0))) := ⟨z6_12⟩; have n2_ : Aside0 (wr.heap[gb211]? = some (.cells #[.int .i64 t199, .int .i64 t200, .int .i64 t201, .int .i64 t202, .int .i64 ac, .int .i64 ad, .int .i64 ae, .int .i64 af, .int .i64 ag, .int .i64 ah, .int .i64 ai, .int .i64 aj] 77 (0, 0))) := ⟨z6_13⟩; have n3_ : Aside0 (IsS54 w0 wr g s0_0 s0_1) := ⟨z6_14⟩; have n4_ : Aside0 (KeepBut w wr g none) := ⟨z6_15⟩; have n5_ : Aside0 (Below w0.heap.size w0 wr) := ⟨z6_16⟩; clear BK197 BK198 BK211 HI0 HK HB hq_; have BK197 := n0_; have BK198 := n1_; have BK211 := n2_; have HI0 := n3_; have HK := n4_; have HB := n5_; clear n0_ n1_ n2_ n3_ n4_ n5_; have hcr211_7 : wr.cell? ⟨gb211, 7, none⟩ = some (.int .i64 af) := bA6 BK211 rfl; have hfr211_7 := blk_frozen BK211.out 7))))
        go_roundg k1
        case measure => have := HK1.out; omega
        case rel => exact ⟨(wrap64 ((3 : Int) + 1)), (ac), (ad), (ae), (t215), (ag), (ah), (ai), (aj), z6_8, H', ⟨z6_17⟩, ⟨z6_4⟩, ⟨z6_5⟩, ⟨bZ BK211.out⟩, ⟨z6_3⟩, ⟨z6_2⟩, ⟨z6_1⟩⟩
       ·rw [if_neg c49] at H
        clear c49
        by_cases c56 : x12_1 = 4
        ·rw [if_pos c56] at H
         subst c56
         replace H : ((impl_elementOf.f (wrap64 (-ag))).bind fun t216 => (impl_span_by.l0 k1 (wrap64 ((4 : Int) + 1)) t199 t200 t201 t202 ac ad ae af t216 ah ai aj)) = some (r1, r2, r3, r4, r5, r6, r7, r8, r9) := H
         replace H := Option.bind_eq_some_iff.mp H
         obtain ⟨t216, A570, H⟩ := H
         replace H : (impl_span_by.l0 k1 (wrap64 ((4 : Int) + 1)) t199 t200 t201 t202 ac ad ae af t216 ah ai aj) = some (r1, r2, r3, r4, r5, r6, r7, r8, r9) := H
         have A57 := Aside0.mk A570
         clear A570
         have H' := Aside0.mk H
         clear H
         have hnb58 := an.out
         have hnc58 := ak.out
         have hnb59 := aa.out
         have hnc59 := ab.out
         have hnb60 := ap.out
         have hnc60 := ao.out
         have hcz61_8 : wr.cell? ⟨gb211, 8, none⟩ = some (.int .i64 ag) := bA6 BK211 rfl
         have hfz61_8 := blk_frozen BK211.out 8
         go_wp2_with (first | ((with_reducible refine gate_callee (f := 81) rfl ?_); refine goesL_ (some 21) rfl rfl Try.func81 (by kernel_rfl) rfl #[.int .i64 (wrap64 (-ag))] rfl z6_6 ?_; (with_reducible refine (impl_elementOf.calls (wrap64 (-ag)) t216 _ A57.out).mono ?_); rintro e w' ⟨rfl, ⟨nd, rfl⟩⟩; refine ⟨_, rfl, ?_⟩; (try (rw [drewN_self wr]; generalize hq_ : World.drewN wr _ = wr; have n0_ : Aside0 (wr.heap[gb197]? = some (.cells #[.int .i64 a1_0, .int .i64 a1_1, .int .i64 a1_2, .int .i64 a1_3] 59 (0, 0))) := ⟨z6_11⟩; have n1_ : Aside0 (wr.heap[gb198]? = some (.cells #[.int .i64 0, .int .i64 0, .int .i64 0, .int .i64 0, .int .i64 0, .int .i64 0, .int .i64 0, .int .i64 0] 62 (0, 0))) := ⟨z6_12⟩; have n2_ : Aside0 (wr.heap[gb211]? = some (.cells #[.int .i64 t199, .int .i64 t200, .int .i64 t201, .int .i64 t202, .int .i64 ac, .int .i64 ad, .int .i64 ae, .int .i64 af, .int .i64 ag, .int .i64 ah, .int .i64 ai, .int .i64 aj] 77 (0, 0))) := ⟨z6_13⟩; have n3_ : Aside0 (IsS54 w0 wr g s0_0 s0_1) := ⟨z6_14⟩; have n4_ : Aside0 (KeepBut w wr g none) := ⟨z6_15⟩; have n5_ : Aside0 (Below w0.heap.size w0 wr) := ⟨z6_16⟩; clear BK197 BK198 BK211 HI0 HK HB hq_; have BK197 := n0_; have BK198 := n1_; have BK211 := n2_; have HI0 := n3_; have HK := n4_; have HB := n5_; clear n0_ n1_ n2_ n3_ n4_ n5_; have hcr211_8 : wr.cell? ⟨gb211, 8, none⟩ = some (.int .i64 ag) := bA6 BK211 rfl; have hfr211_8 := blk_frozen BK211.out 8))))
         go_roundg k1
         case measure => have := HK1.out; omega
         case rel => exact ⟨(wrap64 ((4 : Int) + 1)), (ac), (ad), (ae), (af), (t216), (ah), (ai), (aj), z6_8, H', ⟨z6_17⟩, ⟨z6_4⟩, ⟨z6_5⟩, ⟨bZ BK211.out⟩, ⟨z6_3⟩, ⟨z6_2⟩, ⟨z6_1⟩⟩
        ·rw [if_neg c56] at H
         clear c56
         by_cases c63 : x12_1 = 5
         ·rw [if_pos c63] at H
          subst c63
          replace H : ((impl_elementOf.f (wrap64 (-ah))).bind fun t217 => (impl_span_by.l0 k1 (wrap64 ((5 : Int) + 1)) t199 t200 t201 t202 ac ad ae af ag t217 ai aj)) = some (r1, r2, r3, r4, r5, r6, r7, r8, r9) := H
          replace H := Option.bind_eq_some_iff.mp H
          obtain ⟨t217, A640, H⟩ := H
          replace H : (impl_span_by.l0 k1 (wrap64 ((5 : Int) + 1)) t199 t200 t201 t202 ac ad ae af ag t217 ai aj) = some (r1, r2, r3, r4, r5, r6, r7, r8, r9) := H
          have A64 := Aside0.mk A640
          clear A640
          have H' := Aside0.mk H
          clear H
          have hnb65 := an.out
          have hnc65 := ak.out
          have hnb66 := aa.out
          have hnc66 := ab.out
          have hnb67 := ap.out
          have hnc67 := ao.out
          have hcz68_9 : wr.cell? ⟨gb211, 9, none⟩ = some (.int .i64 ah) := bA6 BK211 rfl
          have hfz68_9 := blk_frozen BK211.out 9
          go_wp2_with (first | ((with_reducible refine gate_callee (f := 81) rfl ?_); refine goesL_ (some 21) rfl rfl Try.func81 (by kernel_rfl) rfl #[.int .i64 (wrap64 (-ah))] rfl z6_6 ?_; (with_reducible refine (impl_elementOf.calls (wrap64 (-ah)) t217 _ A64.out).mono ?_); rintro e w' ⟨rfl, ⟨nd, rfl⟩⟩; refine ⟨_, rfl, ?_⟩; (try (rw [drewN_self wr]; generalize hq_ : World.drewN wr _ = wr; have n0_ : Aside0 (wr.heap[gb197]? = some (.cells #[.int .i64 a1_0, .int .i64 a1_1, .int .i64 a1_2, .int .i64 a1_3] 59 (0, 0))) := ⟨z6_11⟩; have n1_ : Aside0 (wr.heap[gb198]? = some (.cells #[.int .i64 0, .int .i64 0, .int .i64 0, .int .i64 0, .int .i64 0, .int .i64 0, .int .i64 0, .int .i64 0] 62 (0, 0))) := ⟨z6_12⟩; have n2_ : Aside0 (wr.heap[gb211]? = some (.cells #[.int .i64 t199, .int .i64 t200, .int .i64 t201, .int .i64 t202, .int .i64 ac, .int .i64 ad, .int .i64 ae, .int .i64 af, .int .i64 ag, .int .i64 ah, .int .i64 ai, .int .i64 aj] 77 (0, 0))) := ⟨z6_13⟩; have n3_ : Aside0 (IsS54 w0 wr g s0_0 s0_1) := ⟨z6_14⟩; have n4_ : Aside0 (KeepBut w wr g none) := ⟨z6_15⟩; have n5_ : Aside0 (Below w0.heap.size w0 wr) := ⟨z6_16⟩; clear BK197 BK198 BK211 HI0 HK HB hq_; have BK197 := n0_; have BK198 := n1_; have BK211 := n2_; have HI0 := n3_; have HK := n4_; have HB := n5_; clear n0_ n1_ n2_ n3_ n4_ n5_; have hcr211_9 : wr.cell? ⟨gb211, 9, none⟩ = some (.int .i64 ah) := bA6 BK211 rfl; have hfr211_9 := blk_frozen BK211.out 9))))
          go_roundg k1
          case measure => have := HK1.out; omega
          case rel => exact ⟨(wrap64 ((5 : Int) + 1)), (ac), (ad), (ae), (af), (ag), (t217), (ai), (aj), z6_8, H', ⟨z6_17⟩, ⟨z6_4⟩, ⟨z6_5⟩, ⟨bZ BK211.out⟩, ⟨z6_3⟩, ⟨z6_2⟩, ⟨z6_1⟩⟩
         ·rw [if_neg c63] at H
          clear c63
          by_cases c70 : x12_1 = 6
          ·rw [if_pos c70] at H
           subst c70
           replace H : ((impl_elementOf.f (wrap64 (-ai))).bind fun t218 => (impl_span_by.l0 k1 (wrap64 ((6 : Int) + 1)) t199 t200 t201 t202 ac ad ae af ag ah t218 aj)) = some (r1, r2, r3, r4, r5, r6, r7, r8, r9) := H
           replace H := Option.bind_eq_some_iff.mp H
           obtain ⟨t218, A710, H⟩ := H
           replace H : (impl_span_by.l0 k1 (wrap64 ((6 : Int) + 1)) t199 t200 t201 t202 ac ad ae af ag ah t218 aj) = some (r1, r2, r3, r4, r5, r6, r7, r8, r9) := H
           have A71 := Aside0.mk A710
           clear A710
           have H' := Aside0.mk H
           clear H
           have hnb72 := an.out
           have hnc72 := ak.out
           have hnb73 := aa.out
           have hnc73 := ab.out
           have hnb74 := ap.out
           have hnc74 := ao.out
           have hcz75_10 : wr.cell? ⟨gb211, 10, none⟩ = some (.int .i64 ai) := bA6 BK211 rfl
           have hfz75_10 := blk_frozen BK211.out 10
           go_wp2_with (first | ((with_reducible refine gate_callee (f := 81) rfl ?_); refine goesL_ (some 21) rfl rfl Try.func81 (by kernel_rfl) rfl #[.int .i64 (wrap64 (-ai))] rfl z6_6 ?_; (with_reducible refine (impl_elementOf.calls (wrap64 (-ai)) t218 _ A71.out).mono ?_); rintro e w' ⟨rfl, ⟨nd, rfl⟩⟩; refine ⟨_, rfl, ?_⟩; (try (rw [drewN_self wr]; generalize hq_ : World.drewN wr _ = wr; have n0_ : Aside0 (wr.heap[gb197]? = some (.cells #[.int .i64 a1_0, .int .i64 a1_1, .int .i64 a1_2, .int .i64 a1_3] 59 (0, 0))) := ⟨z6_11⟩; have n1_ : Aside0 (wr.heap[gb198]? = some (.cells #[.int .i64 0, .int .i64 0, .int .i64 0, .int .i64 0, .int .i64 0, .int .i64 0, .int .i64 0, .int .i64 0] 62 (0, 0))) := ⟨z6_12⟩; have n2_ : Aside0 (wr.heap[gb211]? = some (.cells #[.int .i64 t199, .int .i64 t200, .int .i64 t201, .int .i64 t202, .int .i64 ac, .int .i64 ad, .int .i64 ae, .int .i64 af, .int .i64 ag, .int .i64 ah, .int .i64 ai, .int .i64 aj] 77 (0, 0))) := ⟨z6_13⟩; have n3_ : Aside0 (IsS54 w0 wr g s0_0 s0_1) := ⟨z6_14⟩; have n4_ : Aside0 (KeepBut w wr g none) := ⟨z6_15⟩; have n5_ : Aside0 (Below w0.heap.size w0 wr) := ⟨z6_16⟩; clear BK197 BK198 BK211 HI0 HK HB hq_; have BK197 := n0_; have BK198 := n1_; have BK211 := n2_; have HI0 := n3_; have HK := n4_; have HB := n5_; clear n0_ n1_ n2_ n3_ n4_ n5_; have hcr211_10 : wr.cell? ⟨gb211, 10, none⟩ = some (.int .i64 ai) := bA6 BK211 rfl; have hfr211_10 := blk_frozen BK211.out 10))))
           go_roundg k1
           case measure => have := HK1.out; omega
           case rel => exact ⟨(wrap64 ((6 : Int) + 1)), (ac), (ad), (ae), (af), (ag), (ah), (t218), (aj), z6_8, H', ⟨z6_17⟩, ⟨z6_4⟩, ⟨z6_5⟩, ⟨bZ BK211.out⟩, ⟨z6_3⟩, ⟨z6_2⟩, ⟨z6_1⟩⟩
          ·rw [if_neg c70] at H
           clear c70
           obtain ⟨c77, H⟩ := ifP H
           subst c77
           replace H : ((impl_elementOf.f (wrap64 (-aj))).bind fun t219 => (impl_span_by.l0 k1 (wrap64 ((7 : Int) + 1)) t199 t200 t201 t202 ac ad ae af ag ah ai t219)) = some (r1, r2, r3, r4, r5, r6, r7, r8, r9) := H
           replace H := Option.bind_eq_some_iff.mp H
           obtain ⟨t219, A780, H⟩ := H
           replace H : (impl_span_by.l0 k1 (wrap64 ((7 : Int) + 1)) t199 t200 t201 t202 ac ad ae af ag ah ai t219) = some (r1, r2, r3, r4, r5, r6, r7, r8, r9) := H
           have A78 := Aside0.mk A780
           clear A780
           have H' := Aside0.mk H
           clear H
           have hnb79 := an.out
           have hnc79 := ak.out
           have hnb80 := aa.out
           have hnc80 := ab.out
           have hnb81 := ap.out
           have hnc81 := ao.out
           have hcz82_11 : wr.cell? ⟨gb211, 11, none⟩ = some (.int .i64 aj) := bA6 BK211 rfl
           have hfz82_11 := blk_frozen BK211.out 11
           go_wp2_with (first | ((with_reducible refine gate_callee (f := 81) rfl ?_); refine goesL_ (some 21) rfl rfl Try.func81 (by kernel_rfl) rfl #[.int .i64 (wrap64 (-aj))] rfl z6_6 ?_; (with_reducible refine (impl_elementOf.calls (wrap64 (-aj)) t219 _ A78.out).mono ?_); rintro e w' ⟨rfl, ⟨nd, rfl⟩⟩; refine ⟨_, rfl, ?_⟩; (try (rw [drewN_self wr]; generalize hq_ : World.drewN wr _ = wr; have n0_ : Aside0 (wr.heap[gb197]? = some (.cells #[.int .i64 a1_0, .int .i64 a1_1, .int .i64 a1_2, .int .i64 a1_3] 59 (0, 0))) := ⟨z6_11⟩; have n1_ : Aside0 (wr.heap[gb198]? = some (.cells #[.int .i64 0, .int .i64 0, .int .i64 0, .int .i64 0, .int .i64 0, .int .i64 0, .int .i64 0, .int .i64 0] 62 (0, 0))) := ⟨z6_12⟩; have n2_ : Aside0 (wr.heap[gb211]? = some (.cells #[.int .i64 t199, .int .i64 t200, .int .i64 t201, .int .i64 t202, .int .i64 ac, .int .i64 ad, .int .i64 ae, .int .i64 af, .int .i64 ag, .int .i64 ah, .int .i64 ai, .int .i64 aj] 77 (0, 0))) := ⟨z6_13⟩; have n3_ : Aside0 (IsS54 w0 wr g s0_0 s0_1) := ⟨z6_14⟩; have n4_ : Aside0 (KeepBut w wr g none) := ⟨z6_15⟩; have n5_ : Aside0 (Below w0.heap.size w0 wr) := ⟨z6_16⟩; clear BK197 BK198 BK211 HI0 HK HB hq_; have BK197 := n0_; have BK198 := n1_; have BK211 := n2_; have HI0 := n3_; have HK := n4_; have HB := n5_; clear n0_ n1_ n2_ n3_ n4_ n5_; have hcr211_11 : wr.cell? ⟨gb211, 11, none⟩ = some (.int .i64 aj) := bA6 BK211 rfl; have hfr211_11 := blk_frozen BK211.out 11))))
           go_roundg k1
           case measure => have := HK1.out; omega
           case rel => exact ⟨(wrap64 ((7 : Int) + 1)), (ac), (ad), (ae), (af), (ag), (ah), (ai), (t219), z6_8, H', ⟨z6_17⟩, ⟨z6_4⟩, ⟨z6_5⟩, ⟨bZ BK211.out⟩, ⟨z6_3⟩, ⟨z6_2⟩, ⟨z6_1⟩⟩
   ·rw [if_neg c27] at H
    have c27b0 : decide (x12_1 < 8) = false := decide_eq_false c27
    clear c27
    simp only [Option.some.injEq, Prod.mk.injEq] at H
    obtain ⟨rfl, rfl, rfl, rfl, rfl, rfl, rfl, rfl, rfl⟩ := H
    try go_wp2
    replace BK197 := Aside0.mk (blk_drew BK197.out)
    replace BK198 := Aside0.mk (blk_drew BK198.out)
    replace BK211 := Aside0.mk (blk_drew BK211.out)
    replace HI0 := Aside0.mk (IsS54.drew HI0.out)
    replace HK := Aside0.mk (keep_drew HK.out)
    replace HB := Aside0.mk (below_drew1 HB.out)
    refine start_ (n := 8) (S := fun w' => w'.cell? ⟨gb211, 0, none⟩ = some (.int .i64 t199) ∧ w'.cell? ⟨gb211, 1, none⟩ = some (.int .i64 t200) ∧ w'.cell? ⟨gb211, 2, none⟩ = some (.int .i64 t201) ∧ w'.cell? ⟨gb211, 3, none⟩ = some (.int .i64 t202) ∧ w'.cell? ⟨gb211, 4, none⟩ = some (.int .i64 ac) ∧ w'.cell? ⟨gb211, 5, none⟩ = some (.int .i64 ad) ∧ w'.cell? ⟨gb211, 6, none⟩ = some (.int .i64 ae) ∧ w'.cell? ⟨gb211, 7, none⟩ = some (.int .i64 af) ∧ w'.cell? ⟨gb211, 8, none⟩ = some (.int .i64 ag) ∧ w'.cell? ⟨gb211, 9, none⟩ = some (.int .i64 ah) ∧ w'.cell? ⟨gb211, 10, none⟩ = some (.int .i64 ai) ∧ w'.cell? ⟨gb211, 11, none⟩ = some (.int .i64 aj)) (ds := []) #[false, false, false, false, false, false, false, false] (by kernel_rfl) rfl rfl ⟨bA6 BK211 rfl, bA6 BK211 rfl, bA6 BK211 rfl, bA6 BK211 rfl, bA6 BK211 rfl, bA6 BK211 rfl, bA6 BK211 rfl, bA6 BK211 rfl, bA6 BK211 rfl, bA6 BK211 rfl, bA6 BK211 rfl, bA6 BK211 rfl⟩ (fun hHeld => ?_); refine with_tabW impl_span_by.tab7 impl_span_by.bits7 (fun HT_ HW_ => ?_)
    generalize wr.drew = w84 at BK197 BK198 BK211 HI0 HK HB hHeld ⊢
    refine pZ 0 HT_ ?_
    refine pZ 2 HT_ ?_
    refine pZ 4 HT_ ?_
    refine tZ 1 hHeld HT_ HW_ ?_
    refine tZ 3 hHeld HT_ HW_ ?_
    refine pZ 5 HT_ ?_
    refine one_ (i := 6) (N := none) #[true, true, true, true, true, true, true, false] rfl rfl (one_of HT_.out (by kernel_rfl)) (by decide) (fun K hK => ?_)
    have hs85 : w84.cell? ⟨gb198, 0, none⟩ = some (.int .i64 0) := bA6 BK198 rfl
    have hfs85 := blk_frozen BK198.out 0
    have hns85_0 := al.out
    have hns85_2 := aa.out
    have hms85_0 := am.out
    have hms85_2 := ab.out
    have hs86 : w84.cell? ⟨gb198, 1, none⟩ = some (.int .i64 0) := bA6 BK198 rfl
    have hfs86 := blk_frozen BK198.out 1
    have hns86_0 := al.out
    have hns86_2 := aa.out
    have hms86_0 := am.out
    have hms86_2 := ab.out
    have hs87 : w84.cell? ⟨gb198, 2, none⟩ = some (.int .i64 0) := bA6 BK198 rfl
    have hfs87 := blk_frozen BK198.out 2
    have hns87_0 := al.out
    have hns87_2 := aa.out
    have hms87_0 := am.out
    have hms87_2 := ab.out
    have hs88 : w84.cell? ⟨gb198, 3, none⟩ = some (.int .i64 0) := bA6 BK198 rfl
    have hfs88 := blk_frozen BK198.out 3
    have hns88_0 := al.out
    have hns88_2 := aa.out
    have hms88_0 := am.out
    have hms88_2 := ab.out
    have hs89 : w84.cell? ⟨gb198, 4, none⟩ = some (.int .i64 0) := bA6 BK198 rfl
    have hfs89 := blk_frozen BK198.out 4
    have hns89_0 := al.out
    have hns89_2 := aa.out
    have hms89_0 := am.out
    have hms89_2 := ab.out
    have hs90 : w84.cell? ⟨gb198, 5, none⟩ = some (.int .i64 0) := bA6 BK198 rfl
    have hfs90 := blk_frozen BK198.out 5
    have hns90_0 := al.out
    have hns90_2 := aa.out
    have hms90_0 := am.out
    have hms90_2 := ab.out
    have hs91 : w84.cell? ⟨gb198, 6, none⟩ = some (.int .i64 0) := bA6 BK198 rfl
    have hfs91 := blk_frozen BK198.out 6
    have hns91_0 := al.out
    have hns91_2 := aa.out
    have hms91_0 := am.out
    have hms91_2 := ab.out
    have hs92 : w84.cell? ⟨gb198, 7, none⟩ = some (.int .i64 0) := bA6 BK198 rfl
    have hfs92 := blk_frozen BK198.out 7
    have hns92_0 := al.out
    have hns92_2 := aa.out
    have hms92_0 := am.out
    have hms92_2 := ab.out
    refine skip_ (w1 := ?_) (by rfl) rfl ?_ ?_
    rotate_left
    ·go_simp
     rfl
    refine hK.out _ _ ⟨((cell_far (p := ⟨gb198, _, none⟩) aa.out _).trans (((cell_far (p := ⟨gb198, _, none⟩) aa.out _).trans (((cell_far (p := ⟨gb198, _, none⟩) aa.out _).trans (((cell_far (p := ⟨gb198, _, none⟩) aa.out _).trans (((cell_far (p := ⟨gb198, _, none⟩) aa.out _).trans (((cell_far (p := ⟨gb198, _, none⟩) aa.out _).trans (((cell_far (p := ⟨gb198, _, none⟩) aa.out _).trans (((cell_far (p := ⟨gb198, _, none⟩) aa.out _).trans (hHeld.1)))))))))))))))), ((cell_far (p := ⟨gb198, _, none⟩) aa.out _).trans (((cell_far (p := ⟨gb198, _, none⟩) aa.out _).trans (((cell_far (p := ⟨gb198, _, none⟩) aa.out _).trans (((cell_far (p := ⟨gb198, _, none⟩) aa.out _).trans (((cell_far (p := ⟨gb198, _, none⟩) aa.out _).trans (((cell_far (p := ⟨gb198, _, none⟩) aa.out _).trans (((cell_far (p := ⟨gb198, _, none⟩) aa.out _).trans (((cell_far (p := ⟨gb198, _, none⟩) aa.out _).trans (hHeld.2.1)))))))))))))))), ((cell_far (p := ⟨gb198, _, none⟩) aa.out _).trans (((cell_far (p := ⟨gb198, _, none⟩) aa.out _).trans (((cell_far (p := ⟨gb198, _, none⟩) aa.out _).trans (((cell_far (p := ⟨gb198, _, none⟩) aa.out _).trans (((cell_far (p := ⟨gb198, _, none⟩) aa.out _).trans (((cell_far (p := ⟨gb198, _, none⟩) aa.out _).trans (((cell_far (p := ⟨gb198, _, none⟩) aa.out _).trans (((cell_far (p := ⟨gb198, _, none⟩) aa.out _).trans (hHeld.2.2.1)))))))))))))))), ((cell_far (p := ⟨gb198, _, none⟩) aa.out _).trans (((cell_far (p := ⟨gb198, _, none⟩) aa.out _).trans (((cell_far (p := ⟨gb198, _, none⟩) aa.out _).trans (((cell_far (p := ⟨gb198, _, none⟩) aa.out _).trans (((cell_far (p := ⟨gb198, _, none⟩) aa.out _).trans (((cell_far (p := ⟨gb198, _, none⟩) aa.out _).trans (((cell_far (p := ⟨gb198, _, none⟩) aa.out _).trans (((cell_far (p := ⟨gb198, _, none⟩) aa.out _).trans (hHeld.2.2.2.1)))))))))))))))), ((cell_far (p := ⟨gb198, _, none⟩) aa.out _).trans (((cell_far (p := ⟨gb198, _, none⟩) aa.out _).trans (((cell_far (p := ⟨gb198, _, none⟩) aa.out _).trans (((cell_far (p := ⟨gb198, _, none⟩) aa.out _).trans (((cell_far (p := ⟨gb198, _, none⟩) aa.out _).trans (((cell_far (p := ⟨gb198, _, none⟩) aa.out _).trans (((cell_far (p := ⟨gb198, _, none⟩) aa.out _).trans (((cell_far (p := ⟨gb198, _, none⟩) aa.out _).trans (hHeld.2.2.2.2.1)))))))))))))))), ((cell_far (p := ⟨gb198, _, none⟩) aa.out _).trans (((cell_far (p := ⟨gb198, _, none⟩) aa.out _).trans (((cell_far (p := ⟨gb198, _, none⟩) aa.out _).trans (((cell_far (p := ⟨gb198, _, none⟩) aa.out _).trans (((cell_far (p := ⟨gb198, _, none⟩) aa.out _).trans (((cell_far (p := ⟨gb198, _, none⟩) aa.out _).trans (((cell_far (p := ⟨gb198, _, none⟩) aa.out _).trans (((cell_far (p := ⟨gb198, _, none⟩) aa.out _).trans (hHeld.2.2.2.2.2.1)))))))))))))))), ((cell_far (p := ⟨gb198, _, none⟩) aa.out _).trans (((cell_far (p := ⟨gb198, _, none⟩) aa.out _).trans (((cell_far (p := ⟨gb198, _, none⟩) aa.out _).trans (((cell_far (p := ⟨gb198, _, none⟩) aa.out _).trans (((cell_far (p := ⟨gb198, _, none⟩) aa.out _).trans (((cell_far (p := ⟨gb198, _, none⟩) aa.out _).trans (((cell_far (p := ⟨gb198, _, none⟩) aa.out _).trans (((cell_far (p := ⟨gb198, _, none⟩) aa.out _).trans (hHeld.2.2.2.2.2.2.1)))))))))))))))), ((cell_far (p := ⟨gb198, _, none⟩) aa.out _).trans (((cell_far (p := ⟨gb198, _, none⟩) aa.out _).trans (((cell_far (p := ⟨gb198, _, none⟩) aa.out _).trans (((cell_far (p := ⟨gb198, _, none⟩) aa.out _).trans (((cell_far (p := ⟨gb198, _, none⟩) aa.out _).trans (((cell_far (p := ⟨gb198, _, none⟩) aa.out _).trans (((cell_far (p := ⟨gb198, _, none⟩) aa.out _).trans (((cell_far (p := ⟨gb198, _, none⟩) aa.out _).trans (hHeld.2.2.2.2.2.2.2.1)))))))))))))))), ((cell_far (p := ⟨gb198, _, none⟩) aa.out _).trans (((cell_far (p := ⟨gb198, _, none⟩) aa.out _).trans (((cell_far (p := ⟨gb198, _, none⟩) aa.out _).trans (((cell_far (p := ⟨gb198, _, none⟩) aa.out _).trans (((cell_far (p := ⟨gb198, _, none⟩) aa.out _).trans (((cell_far (p := ⟨gb198, _, none⟩) aa.out _).trans (((cell_far (p := ⟨gb198, _, none⟩) aa.out _).trans (((cell_far (p := ⟨gb198, _, none⟩) aa.out _).trans (hHeld.2.2.2.2.2.2.2.2.1)))))))))))))))), ((cell_far (p := ⟨gb198, _, none⟩) aa.out _).trans (((cell_far (p := ⟨gb198, _, none⟩) aa.out _).trans (((cell_far (p := ⟨gb198, _, none⟩) aa.out _).trans (((cell_far (p := ⟨gb198, _, none⟩) aa.out _).trans (((cell_far (p := ⟨gb198, _, none⟩) aa.out _).trans (((cell_far (p := ⟨gb198, _, none⟩) aa.out _).trans (((cell_far (p := ⟨gb198, _, none⟩) aa.out _).trans (((cell_far (p := ⟨gb198, _, none⟩) aa.out _).trans (hHeld.2.2.2.2.2.2.2.2.2.1)))))))))))))))), ((cell_far (p := ⟨gb198, _, none⟩) aa.out _).trans (((cell_far (p := ⟨gb198, _, none⟩) aa.out _).trans (((cell_far (p := ⟨gb198, _, none⟩) aa.out _).trans (((cell_far (p := ⟨gb198, _, none⟩) aa.out _).trans (((cell_far (p := ⟨gb198, _, none⟩) aa.out _).trans (((cell_far (p := ⟨gb198, _, none⟩) aa.out _).trans (((cell_far (p := ⟨gb198, _, none⟩) aa.out _).trans (((cell_far (p := ⟨gb198, _, none⟩) aa.out _).trans (hHeld.2.2.2.2.2.2.2.2.2.2.1)))))))))))))))), ((cell_far (p := ⟨gb198, _, none⟩) aa.out _).trans (((cell_far (p := ⟨gb198, _, none⟩) aa.out _).trans (((cell_far (p := ⟨gb198, _, none⟩) aa.out _).trans (((cell_far (p := ⟨gb198, _, none⟩) aa.out _).trans (((cell_far (p := ⟨gb198, _, none⟩) aa.out _).trans (((cell_far (p := ⟨gb198, _, none⟩) aa.out _).trans (((cell_far (p := ⟨gb198, _, none⟩) aa.out _).trans (((cell_far (p := ⟨gb198, _, none⟩) aa.out _).trans (hHeld.2.2.2.2.2.2.2.2.2.2.2))))))))))))))))⟩ (fun hHeld => ?_)
    clear hK K
    refine pZ 7 HT_ ?_
    refine done_ (done_of HT_.out (by kernel_rfl)) ?_
    try go_wp2
    refine bodyPost_ret (results_ct rfl _ _ gb198 62 #[.int .i64 ac, .int .i64 ad, .int .i64 ae, .int .i64 af, .int .i64 ag, .int .i64 ah, .int .i64 ai, .int .i64 aj] (0, 0) _ rfl (bZ BK198.out) Try.underlying62 rfl (by kernel_rfl)) rfl ?_
    exact ⟨by first | rfl | (simp [errW_none, errW_some] <;> rfl) | (simp [*, errW_none, errW_some] <;> rfl), z6_3, z6_1, z6_2⟩

end Go.Proofs.Ytbhmgbeebhmfkaa.PA
