import Derived.Test.YtfgpffocieegdaaPAx0
import Derived.Test.YtfgpffocieegdaaPAx1
import Derived.Test.YtfgpffocieegdaaPAx2
import Derived.Test.YtfgpffocieegdaaPAx4
import Derived.Test.YtfgpffocieegdaaGw
import Derived.Test.YtfgpffocieegdaaGm
import Derived.Test.YtfgpffocieegdaaGc
namespace Go.Proofs.Ytfgpffocieegdaa.PA
open Go.RowKit Go.Proofs.YtfgpffocieegdaaW.PrintWords Go.Proofs.YtfgpffocieegdaaW.PrintLast Go.Proofs.YtfgpffocieegdaaW.PrintMore
attribute [local go_sem] max2_int min2_int max_two min_two max_three min_three max_four min_four   -- for this text's walks alone
set_option linter.unusedVariables false
set_option linter.unusedSimpArgs false

attribute [local go_sem high] eqA54
/-! ### impl_span_by: function 51 -/
theorem zL7 {p q : Prop} (h : q) (t : q → p := by intro h_; (with_reducible repeat first|refine blk_drewN ?_ _|refine blk_drew ?_|refine blk_alloc ?_ _); exact h_) : p := t h
theorem z7_1 {p : Prop} (h : p := by repeat (first | (with_reducible first | exact HB.out | apply below_alloc | apply pw_below_drewN | apply below_drew1 | refine below_set ?_ (IsS79.ge HI0.out) | refine below_set ?_ GE232.out | refine below_set ?_ GE233.out | refine below_set ?_ GE246.out) | exact HB.out)) : p := h
theorem z7_2 {p : Prop} (h : p := by repeat (first | (with_reducible first | exact HK.out | apply KeepBut.set_ | apply keep_drewN | apply keep_drew | apply keep_alloc | refine keep_far ?_ GW232.out _ | refine keep_far ?_ GW233.out _ | refine keep_far ?_ GW246.out _) | exact HK.out)) : p := h
theorem z7_3 {p : Prop} (h : p := by repeat (first | (with_reducible first | exact HI0.out | apply IsS79.alloc | apply IsS79.drewN | apply IsS79.drew | refine IsS79.far ?_ aq.out _ | refine IsS79.far ?_ ar.out _ | refine IsS79.far ?_ ao.out _) | exact HI0.out)) : p := h
theorem z7_4 {p : Prop} (h : p := by (try simp only [List.map_toArray, List.map_cons, List.map_nil]); first | done | rfl | (simp only [List.length_drop, List.length_take]; rfl)) : p := h
theorem z7_5 {p : Prop} (h : p := by repeat (first | (with_reducible first | exact HK.out | apply KeepBut.set_ | apply keep_drewN | apply keep_drew | apply keep_alloc | refine keep_far ?_ GW232.out _ | refine keep_far ?_ GW233.out _) | exact HK.out)) : p := h
theorem z7_6 {p : Prop} (h : p := by first | rfl | (simp; done) | (simp [*]; done) | (simp; unfold wrap64; omega)) : p := h
theorem z7_7 {p : Prop} (h : p := by repeat (first | (with_reducible first | exact HK.out | apply KeepBut.set_ | apply keep_drewN | apply keep_drew | apply keep_alloc | refine keep_far ?_ GW232.out _) | exact HK.out)) : p := h
theorem z7_8 {p : Prop} (h : p := by repeat (first | (with_reducible first | exact HK.out | apply KeepBut.set_ | apply keep_drewN | apply keep_drew | apply keep_alloc) | exact HK.out)) : p := h
theorem z7_9 {p : Prop} (h : p := by rw [← hq_]; exact (zL7 BK232.out)) : p := h
theorem z7_10 {p : Prop} (h : p := by rw [← hq_]; exact (zL7 BK233.out)) : p := h
theorem z7_11 {p : Prop} (h : p := by rw [← hq_]; exact (zL7 BK246.out)) : p := h
theorem z7_12 {p : Prop} (h : p := by rw [← hq_]; exact z7_3) : p := h
theorem z7_13 {p : Prop} (h : p := by rw [← hq_]; exact z7_2) : p := h
theorem z7_14 {p : Prop} (h : p := by rw [← hq_]; exact z7_1) : p := h
theorem z7_15 {p : Prop} (h : p := by have := HK1.out; omega) : p := h
def impl_span_by.l0 : Nat → Int → Int → Int → Int → Int → Int → Int → Int → Int → Int → Int → Int → Int → Option (Int × Int × Int × Int × Int × Int × Int × Int × Bool)
  | 0, _, _, _, _, _, _, _, _, _, _, _, _, _ => none
  | k + 1, x12, x247000, x247001, x247002, x247003, x247004, x247005, x247006, x247007, x247008, x247009, x247010, x247011 => if x12 < 8 then (if x12 = 0 then ((impl_elementOf.f (wrap64 (-x247004))).bind fun t247 => (impl_span_by.l0 k (wrap64 (x12 + 1)) x247000 x247001 x247002 x247003 t247 x247005 x247006 x247007 x247008 x247009 x247010 x247011)) else (if x12 = 1 then ((impl_elementOf.f (wrap64 (-x247005))).bind fun t248 => (impl_span_by.l0 k (wrap64 (x12 + 1)) x247000 x247001 x247002 x247003 x247004 t248 x247006 x247007 x247008 x247009 x247010 x247011)) else (if x12 = 2 then ((impl_elementOf.f (wrap64 (-x247006))).bind fun t249 => (impl_span_by.l0 k (wrap64 (x12 + 1)) x247000 x247001 x247002 x247003 x247004 x247005 t249 x247007 x247008 x247009 x247010 x247011)) else (if x12 = 3 then ((impl_elementOf.f (wrap64 (-x247007))).bind fun t250 => (impl_span_by.l0 k (wrap64 (x12 + 1)) x247000 x247001 x247002 x247003 x247004 x247005 x247006 t250 x247008 x247009 x247010 x247011)) else (if x12 = 4 then ((impl_elementOf.f (wrap64 (-x247008))).bind fun t251 => (impl_span_by.l0 k (wrap64 (x12 + 1)) x247000 x247001 x247002 x247003 x247004 x247005 x247006 x247007 t251 x247009 x247010 x247011)) else (if x12 = 5 then ((impl_elementOf.f (wrap64 (-x247009))).bind fun t252 => (impl_span_by.l0 k (wrap64 (x12 + 1)) x247000 x247001 x247002 x247003 x247004 x247005 x247006 x247007 x247008 t252 x247010 x247011)) else (if x12 = 6 then ((impl_elementOf.f (wrap64 (-x247010))).bind fun t253 => (impl_span_by.l0 k (wrap64 (x12 + 1)) x247000 x247001 x247002 x247003 x247004 x247005 x247006 x247007 x247008 x247009 t253 x247011)) else (if x12 = 7 then ((impl_elementOf.f (wrap64 (-x247011))).bind fun t254 => (impl_span_by.l0 k (wrap64 (x12 + 1)) x247000 x247001 x247002 x247003 x247004 x247005 x247006 x247007 x247008 x247009 x247010 t254)) else (none))))))))) else (some (x247004, x247005, x247006, x247007, x247008, x247009, x247010, x247011, (x247000 == 0 && (x247001 == 0 && (x247002 == 0 && (x247003 == 0))))))
def impl_span_by.f (k : Nat) (s0_0 : List (S81)) (s0_1 : List Int) (a1_0 : Int) (a1_1 : Int) (a1_2 : Int) (a1_3 : Int) : Option (Int × Int × Int × Int × Int × Int × Int × Int × Bool) := (impl_span_less.f k s0_0 s0_1 a1_0 a1_1 a1_2 a1_3 0 0 0 0 0 0 0 0).bind fun bt234 => (impl_span_by.l0 k 0 bt234.1 bt234.2.1 bt234.2.2.1 bt234.2.2.2.1 bt234.2.2.2.2.1 bt234.2.2.2.2.2.1 bt234.2.2.2.2.2.2.1 bt234.2.2.2.2.2.2.2.1 bt234.2.2.2.2.2.2.2.2.1 bt234.2.2.2.2.2.2.2.2.2.1 bt234.2.2.2.2.2.2.2.2.2.2.1 bt234.2.2.2.2.2.2.2.2.2.2.2)
def impl_span_by.T7 : Bool × List (List Nat × List Nat) := (true, [([], []), ([0], [0]), ([], []), ([2], [2]), ([], []), ([3, 4], [3, 4]), ([1, 0, 1], [1]), ([5, 6, 0, 1, 2, 3, 4, 5, 6], [5])])
def impl_span_by.B7 : List Nat := [0, 1, 0, 4, 0, 28, 3, 127]
theorem impl_span_by.tab7 : rtab .any (opsOf Try.f51 7) = impl_span_by.T7 := by kernel_rfl
theorem impl_span_by.bits7 : waitsOk impl_span_by.T7.2 impl_span_by.B7 = true := by kernel_rfl
theorem bA7 {W : World} {g : Nat} {cs : Array Value} {ty : TypeId} {j : Nat} {v : Value} (h : Aside0 (W.heap[g]? = some (.cells cs ty (0, 0)))) (e : cs[j]? = some v) : W.cell? ⟨g, j, none⟩ = some v := (blk_cell h.out j).trans e
set_option maxHeartbeats 8000000 in
set_option maxRecDepth 100000 in
theorem impl_span_by.calls (k : Nat) (g : Nat) (s0_0 : List (S81)) (s0_1 : List Int) (a1_0 : Int) (a1_1 : Int) (a1_2 : Int) (a1_3 : Int) (r1 : Int) (r2 : Int) (r3 : Int) (r4 : Int) (r5 : Int) (r6 : Int) (r7 : Int) (r8 : Int) (r9 : Bool) (w0 w : World) (hI : IsS79 w0 w g s0_0 s0_1) (hB : Below w0.heap.size w0 w) (h : impl_span_by.f k s0_0 s0_1 a1_0 a1_1 a1_2 a1_3 = some (r1, r2, r3, r4, r5, r6, r7, r8, r9)) :
  Calls Try.prog 51 #[.pointer (some ⟨g, 0, none⟩), .agg #[.int .i64 a1_0, .int .i64 a1_1, .int .i64 a1_2, .int .i64 a1_3]] w fun e w' => e = .returned (.tuple #[.agg #[.int .i64 r1, .int .i64 r2, .int .i64 r3, .int .i64 r4, .int .i64 r5, .int .i64 r6, .int .i64 r7, .int .i64 r8], .bool r9]) ∧ IsS79 w0 w' g s0_0 s0_1 ∧ Below w0.heap.size w0 w' ∧ KeepBut w w' g none := by
 have hu54 := Try.underlying54
 have hu68 := Try.underlying68
 have hu81 := Try.underlying81
 have HI0 := Aside0.mk hI
 have HK := Aside0.mk (KeepBut.refl w g none)
 have HL := Aside0.mk hB.size
 clear hI
 have HW0 := Aside0.mk hB.size
 have HB := Aside0.mk hB
 clear hB
 try unfold impl_span_by.f at h
 have H := h
 clear h
 replace H := Option.bind_eq_some_iff.mp H
 obtain ⟨⟨t234, t235, t236, t237, t238, t239, t240, t241, t242, t243, t244, t245⟩, A30, H⟩ := H
 dsimp only at H
 have A3 := Aside0.mk A30
 clear A30
 have H' := Aside0.mk H
 clear H
 go_enter Try.func51, Try.ntmps51
 go_wp2_with (first | ((with_reducible refine gate_dst (N := 3) rfl ?_); refine box_event ?hg (N := 3) ?hd (cs := #[.int .i64 a1_0, .int .i64 a1_1, .int .i64 a1_2, .int .i64 a1_3]) (t := 54) ?hr ?_; (case hd => rfl); (case hg => rfl); (case hr => first | (go_simp; done) | (go_simp; rfl)); intro gb232 hg w4 hbox hb; replace HB := Aside0.mk (below_step (by repeat (first | (with_reducible first | exact HB.out | apply below_alloc | apply pw_below_drewN | apply below_drew1 | refine below_set ?_ (IsS79.ge HI0.out)) | exact HB.out)) hb); have BK232 := Aside0.mk (hbox); have GW232 := Aside0.mk ((by rw [hg]; exact (keep_size (w := w) (g := g) (row := none) z7_8) : w.heap.size ≤ gb232)); have GE232 := Aside0.mk ((Nat.le_trans HW0.out (by rw [hg]; exact (keep_size (w := w) (g := g) (row := none) z7_8) : w.heap.size ≤ gb232) : w0.heap.size ≤ gb232)); replace HK := Aside0.mk (KeepBut.trans z7_8 (KeepBut.of_below hb g none) (.inl rfl)); have aq := Aside0.mk ((by rw [hg]; exact Nat.ne_of_lt (IsS79.lt (show IsS79 w0 _ g s0_0 s0_1 from by repeat (first | (with_reducible first | exact HI0.out | apply IsS79.alloc | apply IsS79.drewN | apply IsS79.drew) | exact HI0.out))) : g ≠ gb232)); have au := Aside0.mk ((by rw [hg]; exact Nat.ne_of_gt (IsS79.lt (show IsS79 w0 _ g s0_0 s0_1 from by repeat (first | (with_reducible first | exact HI0.out | apply IsS79.alloc | apply IsS79.drewN | apply IsS79.drew) | exact HI0.out))) : gb232 ≠ g)); replace HI0 := Aside0.mk (IsS79.below (by repeat (first | (with_reducible first | exact HI0.out | apply IsS79.alloc | apply IsS79.drewN | apply IsS79.drew) | exact HI0.out)) hb); clear hb hbox hg) | ((with_reducible refine gate_dst (N := 4) rfl ?_); refine box_event ?hg (N := 4) ?hd (cs := #[.int .i64 0, .int .i64 0, .int .i64 0, .int .i64 0, .int .i64 0, .int .i64 0, .int .i64 0, .int .i64 0]) (t := 68) ?hr ?_; (case hd => rfl); (case hg => rfl); (case hr => first | (go_simp; done) | (go_simp; rfl)); intro gb233 hg w5 hbox hb; replace HB := Aside0.mk (below_step (by repeat (first | (with_reducible first | exact HB.out | apply below_alloc | apply pw_below_drewN | apply below_drew1 | refine below_set ?_ (IsS79.ge HI0.out) | refine below_set ?_ GE232.out) | exact HB.out)) hb); have BK233 := Aside0.mk (hbox); have GW233 := Aside0.mk ((by rw [hg]; exact (keep_size (w := w) (g := g) (row := none) z7_7) : w.heap.size ≤ gb233)); have GE233 := Aside0.mk ((Nat.le_trans HW0.out (by rw [hg]; exact (keep_size (w := w) (g := g) (row := none) z7_7) : w.heap.size ≤ gb233) : w0.heap.size ≤ gb233)); replace HK := Aside0.mk (KeepBut.trans z7_7 (KeepBut.of_below hb g none) (.inl rfl)); have al := Aside0.mk ((by rw [hg]; exact bLZ_ BK232 : gb232 ≠ gb233)); have am := Aside0.mk ((by rw [hg]; exact bGZ_ BK232 : gb233 ≠ gb232)); replace BK232 := bBZ_ BK232 hb; have ar := Aside0.mk ((by rw [hg]; exact Nat.ne_of_lt (IsS79.lt (show IsS79 w0 _ g s0_0 s0_1 from by repeat (first | (with_reducible first | exact HI0.out | apply IsS79.alloc | apply IsS79.drewN | apply IsS79.drew | refine IsS79.far ?_ aq.out _) | exact HI0.out))) : g ≠ gb233)); have NB233_0 := Aside0.mk ((by rw [hg]; exact Nat.ne_of_gt (IsS79.lt (show IsS79 w0 _ g s0_0 s0_1 from by repeat (first | (with_reducible first | exact HI0.out | apply IsS79.alloc | apply IsS79.drewN | apply IsS79.drew | refine IsS79.far ?_ aq.out _) | exact HI0.out))) : gb233 ≠ g)); replace HI0 := Aside0.mk (IsS79.below (by repeat (first | (with_reducible first | exact HI0.out | apply IsS79.alloc | apply IsS79.drewN | apply IsS79.drew | refine IsS79.far ?_ aq.out _) | exact HI0.out)) hb); clear hb hbox hg; have hnb6 := al.out; have hnc6 := am.out; have hnb7 := au.out; have hnc7 := aq.out; have hcz8_0 : w5.cell? ⟨gb232, 0, none⟩ = some (.int .i64 a1_0) := bA7 BK232 rfl; have hcz8_1 : w5.cell? ⟨gb232, 1, none⟩ = some (.int .i64 a1_1) := bA7 BK232 rfl; have hcz8_2 : w5.cell? ⟨gb232, 2, none⟩ = some (.int .i64 a1_2) := bA7 BK232 rfl; have hcz8_3 : w5.cell? ⟨gb232, 3, none⟩ = some (.int .i64 a1_3) := bA7 BK232 rfl; have hfz8_0 := blk_frozen BK232.out 0; have hfz8_1 := blk_frozen BK232.out 1; have hfz8_2 := blk_frozen BK232.out 2; have hfz8_3 := blk_frozen BK232.out 3) | ((with_reducible refine gate_callee (f := 55) rfl ?_); refine goesL_ (some 11) rfl rfl Try.func55 (by kernel_rfl) rfl #[.pointer (some ⟨g, 0, none⟩), .agg #[.int .i64 a1_0, .int .i64 a1_1, .int .i64 a1_2, .int .i64 a1_3, .int .i64 0, .int .i64 0, .int .i64 0, .int .i64 0, .int .i64 0, .int .i64 0, .int .i64 0, .int .i64 0]] rfl z7_4 ?_; (with_reducible refine (impl_span_less.calls k g s0_0 s0_1 a1_0 a1_1 a1_2 a1_3 0 0 0 0 0 0 0 0 t234 t235 t236 t237 t238 t239 t240 t241 t242 t243 t244 t245 w0 _ ?side1 ?side2 A3.out).mono ?_); (case side1 => repeat (first | (with_reducible first | exact HI0.out | apply IsS79.alloc | apply IsS79.drewN | apply IsS79.drew | refine IsS79.far ?_ aq.out _ | refine IsS79.far ?_ ar.out _) | exact HI0.out)); (case side2 => repeat (first | (with_reducible first | exact HB.out | apply below_alloc | apply pw_below_drewN | apply below_drew1 | refine below_set ?_ (IsS79.ge HI0.out) | refine below_set ?_ GE232.out | refine below_set ?_ GE233.out) | exact HB.out)); rintro e w9 ⟨rfl, hi, hb, hk⟩; refine ⟨_, rfl, ?_⟩; replace BK232 := Aside0.mk (KeepBut.blk hk (g' := gb232) (o := .cells #[.int .i64 a1_0, .int .i64 a1_1, .int .i64 a1_2, .int .i64 a1_3] 54 (0, 0)) (zL7 BK232.out) au.out (by simp)); replace BK233 := Aside0.mk (KeepBut.blk hk (g' := gb233) (o := .cells #[.int .i64 0, .int .i64 0, .int .i64 0, .int .i64 0, .int .i64 0, .int .i64 0, .int .i64 0, .int .i64 0] 68 (0, 0)) (zL7 BK233.out) NB233_0.out (by simp)); replace HK := Aside0.mk (KeepBut.trans z7_5 hk (.inl rfl)); replace HB := Aside0.mk (hb); replace HI0 := Aside0.mk (hi); (try clear hb)) | ((with_reducible refine gate_dst (N := 6) rfl ?_); refine box_event ?hg (N := 6) ?hd (cs := #[.int .i64 0, .int .i64 0, .int .i64 0, .int .i64 0, .int .i64 0, .int .i64 0, .int .i64 0, .int .i64 0, .int .i64 0, .int .i64 0, .int .i64 0, .int .i64 0]) (t := 81) ?hr ?_; (case hd => rfl); (case hg => rfl); (case hr => first | (go_simp; done) | (go_simp; rfl)); intro gb246 hg w10 hbox hb; replace HB := Aside0.mk (below_step (by repeat (first | (with_reducible first | exact HB.out | apply below_alloc | apply pw_below_drewN | apply below_drew1 | refine below_set ?_ (IsS79.ge HI0.out) | refine below_set ?_ GE232.out | refine below_set ?_ GE233.out) | exact HB.out)) hb); have BK246 := Aside0.mk (hbox); have GW246 := Aside0.mk ((by rw [hg]; exact (keep_size (w := w) (g := g) (row := none) z7_5) : w.heap.size ≤ gb246)); have GE246 := Aside0.mk ((Nat.le_trans HW0.out (by rw [hg]; exact (keep_size (w := w) (g := g) (row := none) z7_5) : w.heap.size ≤ gb246) : w0.heap.size ≤ gb246)); replace HK := Aside0.mk (KeepBut.trans z7_5 (KeepBut.of_below hb g none) (.inl rfl)); have ak := Aside0.mk ((by rw [hg]; exact bLZ_ BK232 : gb232 ≠ gb246)); have an := Aside0.mk ((by rw [hg]; exact bGZ_ BK232 : gb246 ≠ gb232)); replace BK232 := bBZ_ BK232 hb; have ab := Aside0.mk ((by rw [hg]; exact bLZ_ BK233 : gb233 ≠ gb246)); have aa := Aside0.mk ((by rw [hg]; exact bGZ_ BK233 : gb246 ≠ gb233)); replace BK233 := bBZ_ BK233 hb; have ao := Aside0.mk ((by rw [hg]; exact Nat.ne_of_lt (IsS79.lt (show IsS79 w0 _ g s0_0 s0_1 from by repeat (first | (with_reducible first | exact HI0.out | apply IsS79.alloc | apply IsS79.drewN | apply IsS79.drew | refine IsS79.far ?_ aq.out _ | refine IsS79.far ?_ ar.out _) | exact HI0.out))) : g ≠ gb246)); have ap := Aside0.mk ((by rw [hg]; exact Nat.ne_of_gt (IsS79.lt (show IsS79 w0 _ g s0_0 s0_1 from by repeat (first | (with_reducible first | exact HI0.out | apply IsS79.alloc | apply IsS79.drewN | apply IsS79.drew | refine IsS79.far ?_ aq.out _ | refine IsS79.far ?_ ar.out _) | exact HI0.out))) : gb246 ≠ g)); replace HI0 := Aside0.mk (IsS79.below (by repeat (first | (with_reducible first | exact HI0.out | apply IsS79.alloc | apply IsS79.drewN | apply IsS79.drew | refine IsS79.far ?_ aq.out _ | refine IsS79.far ?_ ar.out _) | exact HI0.out)) hb); clear hb hbox hg; have hnb11 := an.out; have hnc11 := ak.out; have hnb12 := aa.out; have hnc12 := ab.out; have hnb13 := ap.out; have hnc13 := ao.out; have hcz14_0 : w10.cell? ⟨gb246, 0, none⟩ = some (.int .i64 0) := bA7 BK246 rfl; have hfz14_0 := blk_frozen BK246.out 0; have hcz15_1 : w10.cell? ⟨gb246, 1, none⟩ = some (.int .i64 0) := bA7 BK246 rfl; have hfz15_1 := blk_frozen BK246.out 1; have hcz16_2 : w10.cell? ⟨gb246, 2, none⟩ = some (.int .i64 0) := bA7 BK246 rfl; have hfz16_2 := blk_frozen BK246.out 2; have hcz17_3 : w10.cell? ⟨gb246, 3, none⟩ = some (.int .i64 0) := bA7 BK246 rfl; have hfz17_3 := blk_frozen BK246.out 3; have hcz18_4 : w10.cell? ⟨gb246, 4, none⟩ = some (.int .i64 0) := bA7 BK246 rfl; have hfz18_4 := blk_frozen BK246.out 4; have hcz19_5 : w10.cell? ⟨gb246, 5, none⟩ = some (.int .i64 0) := bA7 BK246 rfl; have hfz19_5 := blk_frozen BK246.out 5; have hcz20_6 : w10.cell? ⟨gb246, 6, none⟩ = some (.int .i64 0) := bA7 BK246 rfl; have hfz20_6 := blk_frozen BK246.out 6; have hcz21_7 : w10.cell? ⟨gb246, 7, none⟩ = some (.int .i64 0) := bA7 BK246 rfl; have hfz21_7 := blk_frozen BK246.out 7; have hcz22_8 : w10.cell? ⟨gb246, 8, none⟩ = some (.int .i64 0) := bA7 BK246 rfl; have hfz22_8 := blk_frozen BK246.out 8; have hcz23_9 : w10.cell? ⟨gb246, 9, none⟩ = some (.int .i64 0) := bA7 BK246 rfl; have hfz23_9 := blk_frozen BK246.out 9; have av : w10.cell? ⟨gb246, 10, none⟩ = some (.int .i64 0) := bA7 BK246 rfl; have aw := blk_frozen BK246.out 10; have ax : w10.cell? ⟨gb246, 11, none⟩ = some (.int .i64 0) := bA7 BK246 rfl; have ay := blk_frozen BK246.out 11) | ((with_reducible refine gate_store (t := 81) (p := 6) rfl ?_); refine store_event (t := 81) (p := 6) (v := ?vo_w26) (w1 := ((((((((((((w10.setCell ⟨gb246, 0, none⟩ (.int .i64 t234)).setCell ⟨gb246, 1, none⟩ (.int .i64 t235)).setCell ⟨gb246, 2, none⟩ (.int .i64 t236)).setCell ⟨gb246, 3, none⟩ (.int .i64 t237)).setCell ⟨gb246, 4, none⟩ (.int .i64 t238)).setCell ⟨gb246, 5, none⟩ (.int .i64 t239)).setCell ⟨gb246, 6, none⟩ (.int .i64 t240)).setCell ⟨gb246, 7, none⟩ (.int .i64 t241)).setCell ⟨gb246, 8, none⟩ (.int .i64 t242)).setCell ⟨gb246, 9, none⟩ (.int .i64 t243)).setCell ⟨gb246, 10, none⟩ (.int .i64 t244)).setCell ⟨gb246, 11, none⟩ (.int .i64 t245))) ?hg ?ho ?hn ?hr ?_; (case ho => rfl); (case hg => rfl); (case hn => rfl); (case hr => first | (go_simp; done) | (go_simp; rfl)); intro w26 hw; have n0_ : Aside0 (w26.heap[gb232]? = some (.cells #[.int .i64 a1_0, .int .i64 a1_1, .int .i64 a1_2, .int .i64 a1_3] 54 (0, 0))) := ⟨(by rw [hw]; exact (gZ ak.out BK232.out))⟩; have n1_ : Aside0 (w26.heap[gb233]? = some (.cells #[.int .i64 0, .int .i64 0, .int .i64 0, .int .i64 0, .int .i64 0, .int .i64 0, .int .i64 0, .int .i64 0] 68 (0, 0))) := ⟨(by rw [hw]; exact (gZ ab.out BK233.out))⟩; have n2_ : Aside0 (w26.heap[gb246]? = some (.cells #[.int .i64 t234, .int .i64 t235, .int .i64 t236, .int .i64 t237, .int .i64 t238, .int .i64 t239, .int .i64 t240, .int .i64 t241, .int .i64 t242, .int .i64 t243, .int .i64 t244, .int .i64 t245] 81 (0, 0))) := ⟨(by rw [hw]; exact (bZ BK246.out))⟩; have n3_ : Aside0 (IsS79 w0 w26 g s0_0 s0_1) := ⟨(by rw [hw]; exact z7_3)⟩; have n4_ : Aside0 (KeepBut w w26 g none) := ⟨(by rw [hw]; exact z7_2)⟩; have n5_ : Aside0 (Below w0.heap.size w0 w26) := ⟨(by rw [hw]; exact z7_1)⟩; clear hw; clear BK232; clear BK233; clear BK246; clear HI0; clear HK; clear HB; have BK232 := n0_; have BK233 := n1_; have BK246 := n2_; have HI0 := n3_; have HK := n4_; have HB := n5_; clear n0_ n1_ n2_ n3_ n4_ n5_))
 go_loopg [12] k (fun kq v12 w' => ∃ (x12_1 : Int) (ac : Int) (ad : Int) (ae : Int) (af : Int) (ag : Int) (ah : Int) (ai : Int) (aj : Int), v12 = .int .i64 x12_1 ∧ Aside0 (impl_span_by.l0 kq x12_1 t234 t235 t236 t237 ac ad ae af ag ah ai aj = some (r1, r2, r3, r4, r5, r6, r7, r8, r9)) ∧ Aside0 (kq ≤ k) ∧ Aside0 (w'.heap[gb232]? = some (.cells #[.int .i64 a1_0, .int .i64 a1_1, .int .i64 a1_2, .int .i64 a1_3] 54 (0, 0))) ∧ Aside0 (w'.heap[gb233]? = some (.cells #[.int .i64 0, .int .i64 0, .int .i64 0, .int .i64 0, .int .i64 0, .int .i64 0, .int .i64 0, .int .i64 0] 68 (0, 0))) ∧ Aside0 (w'.heap[gb246]? = some (.cells #[.int .i64 t234, .int .i64 t235, .int .i64 t236, .int .i64 t237, .int .i64 ac, .int .i64 ad, .int .i64 ae, .int .i64 af, .int .i64 ag, .int .i64 ah, .int .i64 ai, .int .i64 aj] 81 (0, 0))) ∧ Aside0 (IsS79 w0 w' g s0_0 s0_1) ∧ Aside0 (KeepBut w w' g none) ∧ Aside0 (Below w0.heap.size w0 w'))
 case atStart => exact ⟨(0), (t238), (t239), (t240), (t241), (t242), (t243), (t244), (t245), (by first | rfl | (simp; done) | (simp [*]; done)), H', ⟨Nat.le_refl _⟩, ⟨zL7 BK232.out⟩, ⟨zL7 BK233.out⟩, ⟨zL7 BK246.out⟩, ⟨z7_3⟩, ⟨z7_2⟩, ⟨z7_1⟩⟩
 case round =>
  clear H'
  try clear hcz14_0
  try clear hcz15_1
  try clear hcz16_2
  try clear hcz17_3
  try clear hcz18_4
  try clear hcz19_5
  try clear hcz20_6
  try clear hcz21_7
  try clear hcz22_8
  try clear hcz23_9
  try clear av
  try clear ax
  try clear hcz8_0 hcz8_1 hcz8_2 hcz8_3
  try clear hfz14_0
  try clear hfz15_1
  try clear hfz16_2
  try clear hfz17_3
  try clear hfz18_4
  try clear hfz19_5
  try clear hfz20_6
  try clear hfz21_7
  try clear hfz22_8
  try clear hfz23_9
  try clear aw
  try clear ay
  try clear hfz8_0 hfz8_1 hfz8_2 hfz8_3
  obtain ⟨x12_1, ac, ad, ae, af, ag, ah, ai, aj, rfl, HA, HK1, BK232, BK233, BK246, HI0, HK, HB⟩ := hrel
  cases gk with
  | zero => exact absurd HA.out (by simp [impl_span_by.l0])
  | succ k1 =>
   have H := HA.out
   clear HA; simp only [impl_span_by.l0] at H
   by_cases c27 : x12_1 < 8
   ·rw [if_pos c27] at H
    have c27b0 : decide (x12_1 < 8) = true := decide_eq_true c27; clear c27
    by_cases c28 : x12_1 = 0
    ·rw [if_pos c28] at H
     subst c28
     replace H := Option.bind_eq_some_iff.mp H
     obtain ⟨t247, A290, H⟩ := H
     have A29 := Aside0.mk A290
     clear A290
     have H' := Aside0.mk H
     clear H
     have hnb30 := an.out
     have hnc30 := ak.out
     have hnb31 := aa.out
     have hnc31 := ab.out
     have hnb32 := ap.out
     have hnc32 := ao.out
     have hcz33_4 : wr.cell? ⟨gb246, 4, none⟩ = some (.int .i64 ac) := bA7 BK246 rfl
     have hfz33_4 := blk_frozen BK246.out 4
     go_wp2_with (first | ((with_reducible refine gate_callee (f := 54) rfl ?_); refine goesL_ (some 21) rfl rfl Try.func54 (by kernel_rfl) rfl #[.int .i64 (wrap64 (-ac))] rfl z7_4 ?_; (with_reducible refine (impl_elementOf.calls (wrap64 (-ac)) t247 _ A29.out).mono ?_); rintro e w' ⟨rfl, ⟨nd, rfl⟩⟩; refine ⟨_, rfl, ?_⟩; (try (rw [drewN_self wr]; generalize hq_ : World.drewN wr _ = wr; have n0_ : Aside0 (wr.heap[gb232]? = some (.cells #[.int .i64 a1_0, .int .i64 a1_1, .int .i64 a1_2, .int .i64 a1_3] 54 (0, 0))) := ⟨z7_9⟩; have n1_ : Aside0 (wr.heap[gb233]? = some (.cells #[.int .i64 0, .int .i64 0, .int .i64 0, .int .i64 0, .int .i64 0, .int .i64 0, .int .i64 0, .int .i64 0] 68 (0, 0))) := ⟨z7_10⟩; have n2_ : Aside0 (wr.heap[gb246]? = some (.cells #[.int .i64 t234, .int .i64 t235, .int .i64 t236, .int .i64 t237, .int .i64 ac, .int .i64 ad, .int .i64 ae, .int .i64 af, .int .i64 ag, .int .i64 ah, .int .i64 ai, .int .i64 aj] 81 (0, 0))) := ⟨z7_11⟩; have n3_ : Aside0 (IsS79 w0 wr g s0_0 s0_1) := ⟨z7_12⟩; have n4_ : Aside0 (KeepBut w wr g none) := ⟨z7_13⟩; have n5_ : Aside0 (Below w0.heap.size w0 wr) := ⟨z7_14⟩; clear BK232 BK233 BK246 HI0 HK HB hq_; have BK232 := n0_; have BK233 := n1_; have BK246 := n2_; have HI0 := n3_; have HK := n4_; have HB := n5_; clear n0_ n1_ n2_ n3_ n4_ n5_; have hcr246_4 : wr.cell? ⟨gb246, 4, none⟩ = some (.int .i64 ac) := bA7 BK246 rfl; have hfr246_4 := blk_frozen BK246.out 4))))
     go_roundg k1
     case measure => have := HK1.out; omega
     case rel => exact ⟨(wrap64 ((0 : Int) + 1)), (t247), (ad), (ae), (af), (ag), (ah), (ai), (aj), z7_6, H', ⟨z7_15⟩, ⟨gZ ak.out BK232.out⟩, ⟨gZ ab.out BK233.out⟩, ⟨bZ BK246.out⟩, ⟨z7_3⟩, ⟨z7_2⟩, ⟨z7_1⟩⟩
    ·rw [if_neg c28] at H
     clear c28
     by_cases c35 : x12_1 = 1
     ·rw [if_pos c35] at H
      subst c35
      replace H := Option.bind_eq_some_iff.mp H
      obtain ⟨t248, A360, H⟩ := H
      have A36 := Aside0.mk A360
      clear A360
      have H' := Aside0.mk H
      clear H
      have hnb37 := an.out
      have hnc37 := ak.out
      have hnb38 := aa.out
      have hnc38 := ab.out
      have hnb39 := ap.out
      have hnc39 := ao.out
      have hcz40_5 : wr.cell? ⟨gb246, 5, none⟩ = some (.int .i64 ad) := bA7 BK246 rfl
      have hfz40_5 := blk_frozen BK246.out 5
      go_wp2_with (first | ((with_reducible refine gate_callee (f := 54) rfl ?_); refine goesL_ (some 21) rfl rfl Try.func54 (by kernel_rfl) rfl #[.int .i64 (wrap64 (-ad))] rfl z7_4 ?_; (with_reducible refine (impl_elementOf.calls (wrap64 (-ad)) t248 _ A36.out).mono ?_); rintro e w' ⟨rfl, ⟨nd, rfl⟩⟩; refine ⟨_, rfl, ?_⟩; (try (rw [drewN_self wr]; generalize hq_ : World.drewN wr _ = wr; have n0_ : Aside0 (wr.heap[gb232]? = some (.cells #[.int .i64 a1_0, .int .i64 a1_1, .int .i64 a1_2, .int .i64 a1_3] 54 (0, 0))) := ⟨z7_9⟩; have n1_ : Aside0 (wr.heap[gb233]? = some (.cells #[.int .i64 0, .int .i64 0, .int .i64 0, .int .i64 0, .int .i64 0, .int .i64 0, .int .i64 0, .int .i64 0] 68 (0, 0))) := ⟨z7_10⟩; have n2_ : Aside0 (wr.heap[gb246]? = some (.cells #[.int .i64 t234, .int .i64 t235, .int .i64 t236, .int .i64 t237, .int .i64 ac, .int .i64 ad, .int .i64 ae, .int .i64 af, .int .i64 ag, .int .i64 ah, .int .i64 ai, .int .i64 aj] 81 (0, 0))) := ⟨z7_11⟩; have n3_ : Aside0 (IsS79 w0 wr g s0_0 s0_1) := ⟨z7_12⟩; have n4_ : Aside0 (KeepBut w wr g none) := ⟨z7_13⟩; have n5_ : Aside0 (Below w0.heap.size w0 wr) := ⟨z7_14⟩; clear BK232 BK233 BK246 HI0 HK HB hq_; have BK232 := n0_; have BK233 := n1_; have BK246 := n2_; have HI0 := n3_; have HK := n4_; have HB := n5_; clear n0_ n1_ n2_ n3_ n4_ n5_; have hcr246_5 : wr.cell? ⟨gb246, 5, none⟩ = some (.int .i64 ad) := bA7 BK246 rfl; have hfr246_5 := blk_frozen BK246.out 5))))
      go_roundg k1
      case measure => have := HK1.out; omega
      case rel => exact ⟨(wrap64 ((1 : Int) + 1)), (ac), (t248), (ae), (af), (ag), (ah), (ai), (aj), z7_6, H', ⟨z7_15⟩, ⟨gZ ak.out BK232.out⟩, ⟨gZ ab.out BK233.out⟩, ⟨bZ BK246.out⟩, ⟨z7_3⟩, ⟨z7_2⟩, ⟨z7_1⟩⟩
     ·rw [if_neg c35] at H
      clear c35
      by_cases c42 : x12_1 = 2
      ·rw [if_pos c42] at H
       subst c42
       replace H := Option.bind_eq_some_iff.mp H
       obtain ⟨t249, A430, H⟩ := H
       have A43 := Aside0.mk A430
       clear A430
       have H' := Aside0.mk H
       clear H
       have hnb44 := an.out
       have hnc44 := ak.out
       have hnb45 := aa.out
       have hnc45 := ab.out
       have hnb46 := ap.out
       have hnc46 := ao.out
       have hcz47_6 : wr.cell? ⟨gb246, 6, none⟩ = some (.int .i64 ae) := bA7 BK246 rfl
       have hfz47_6 := blk_frozen BK246.out 6
       go_wp2_with (first | ((with_reducible refine gate_callee (f := 54) rfl ?_); refine goesL_ (some 21) rfl rfl Try.func54 (by kernel_rfl) rfl #[.int .i64 (wrap64 (-ae))] rfl z7_4 ?_; (with_reducible refine (impl_elementOf.calls (wrap64 (-ae)) t249 _ A43.out).mono ?_); rintro e w' ⟨rfl, ⟨nd, rfl⟩⟩; refine ⟨_, rfl, ?_⟩; (try (rw [drewN_self wr]; generalize hq_ : World.drewN wr _ = wr; have n0_ : Aside0 (wr.heap[gb232]? = some (.cells #[.int .i64 a1_0, .int .i64 a1_1, .int .i64 a1_2, .int .i64 a1_3] 54 (0, 0))) := ⟨z7_9⟩; have n1_ : Aside0 (wr.heap[gb233]? = some (.cells #[.int .i64 0, .int .i64 0, .int .i64 0, .int .i64 0, .int .i64 0, .int .i64 0, .int .i64 0, .int .i64 0] 68 (0, 0))) := ⟨z7_10⟩; have n2_ : Aside0 (wr.heap[gb246]? = some (.cells #[.int .i64 t234, .int .i64 t235, .int .i64 t236, .int .i64 t237, .int .i64 ac, .int .i64 ad, .int .i64 ae, .int .i64 af, .int .i64 ag, .int .i64 ah, .int .i64 ai, .int .i64 aj] 81 (0, 0))) := ⟨z7_11⟩; have n3_ : Aside0 (IsS79 w0 wr g s0_0 s0_1) := ⟨z7_12⟩; have n4_ : Aside0 (KeepBut w wr g none) := ⟨z7_13⟩; have n5_ : Aside0 (Below w0.heap.size w0 wr) := ⟨z7_14⟩; clear BK232 BK233 BK246 HI0 HK HB hq_; have BK232 := n0_; have BK233 := n1_; have BK246 := n2_; have HI0 := n3_; have HK := n4_; have HB := n5_; clear n0_ n1_ n2_ n3_ n4_ n5_; have hcr246_6 : wr.cell? ⟨gb246, 6, none⟩ = some (.int .i64 ae) := bA7 BK246 rfl; have hfr246_6 := blk_frozen BK246.out 6))))
       go_roundg k1
       case measure => have := HK1.out; omega
       case rel => exact ⟨(wrap64 ((2 : Int) + 1)), (ac), (ad), (t249), (af), (ag), (ah), (ai), (aj), z7_6, H', ⟨z7_15⟩, ⟨gZ ak.out BK232.out⟩, ⟨gZ ab.out BK233.out⟩, ⟨bZ BK246.out⟩, ⟨z7_3⟩, ⟨z7_2⟩, ⟨z7_1⟩⟩
      ·rw [if_neg c42] at H
       clear c42
       by_cases c49 : x12_1 = 3
       ·rw [if_pos c49] at H
        subst c49
        replace H := Option.bind_eq_some_iff.mp H
        obtain ⟨t250, A500, H⟩ := H
        have A50 := Aside0.mk A500
        clear A500
        have H' := Aside0.mk H
        clear H
        have hnb51 := an.out
        have hnc51 := ak.out
        have hnb52 := aa.out
        have hnc52 := ab.out
        have hnb53 := ap.out
        have hnc53 := ao.out
        have hcz54_7 : wr.cell? ⟨gb246, 7, none⟩ = some (.int .i64 af) := bA7 BK246 rfl
        have hfz54_7 := blk_frozen BK246.out 7
        go_wp2_with (first | ((with_reducible refine gate_callee (f := 54) rfl ?_); refine goesL_ (some 21) rfl rfl Try.func54 (by kernel_rfl) rfl #[.int .i64 (wrap64 (-af))] rfl z7_4 ?_; (with_reducible refine (impl_elementOf.calls (wrap64 (-af)) t250 _ A50.out).mono ?_); rintro e w' ⟨rfl, ⟨nd, rfl⟩⟩; refine ⟨_, rfl, ?_⟩; (try (rw [drewN_self wr]; generalize hq_ : World.drewN wr _ = wr; have n0_ : Aside0 (wr.heap[gb232]? = some (.cells #[.int .i64 a1_0, .int .i64 a1_1, .int .i64 a1_2, .int .i64 a1_3] 54 (0, 0))) := ⟨z7_9⟩; have n1_ : Aside0 (wr.heap[gb233]? = some (.cells #[.int .i64 0, .int .i64 0, .int .i64 0, .int .i64 0, .int .i64 0, .int .i64 0, .int .i64 0, .int .i64 0] 68 (0, 0))) := ⟨z7_10⟩; have n2_ : Aside0 (wr.heap[gb246]? = some (.cells #[.int .i64 t234, .int .i64 t235, .int .i64 t236, .int .i64 t237, .int .i64 ac, .int .i64 ad, .int .i64 ae, .int .i64 af, .int .i64 ag, .int .i64 ah, .int .i64 ai, .int .i64 aj] 81 (0, 0))) := ⟨z7_11⟩; have n3_ : Aside0 (IsS79 w0 wr g s0_0 s0_1) := ⟨z7_12⟩; have n4_ : Aside0 (KeepBut w wr g none) := ⟨z7_13⟩; have n5_ : Aside0 (Below w0.heap.size w0 wr) := ⟨z7_14⟩; clear BK232 BK233 BK246 HI0 HK HB hq_; have BK232 := n0_; have BK233 := n1_; have BK246 := n2_; have HI0 := n3_; have HK := n4_; have HB := n5_; clear n0_ n1_ n2_ n3_ n4_ n5_; have hcr246_7 : wr.cell? ⟨gb246, 7, none⟩ = some (.int .i64 af) := bA7 BK246 rfl; have hfr246_7 := blk_frozen BK246.out 7))))
        go_roundg k1
        case measure => have := HK1.out; omega
        case rel => exact ⟨(wrap64 ((3 : Int) + 1)), (ac), (ad), (ae), (t250), (ag), (ah), (ai), (aj), z7_6, H', ⟨z7_15⟩, ⟨gZ ak.out BK232.out⟩, ⟨gZ ab.out BK233.out⟩, ⟨bZ BK246.out⟩, ⟨z7_3⟩, ⟨z7_2⟩, ⟨z7_1⟩⟩
       ·rw [if_neg c49] at H
        clear c49
        by_cases c56 : x12_1 = 4
        ·rw [if_pos c56] at H
         subst c56
         replace H := Option.bind_eq_some_iff.mp H
         obtain ⟨t251, A570, H⟩ := H
         have A57 := Aside0.mk A570
         clear A570
         have H' := Aside0.mk H
         clear H
         have hnb58 := an.out
         have hnc58 := ak.out
         have hnb59 := aa.out
         have hnc59 := ab.out
         have hnb60 := ap.out
         have hnc60 := ao.out
         have hcz61_8 : wr.cell? ⟨gb246, 8, none⟩ = some (.int .i64 ag) := bA7 BK246 rfl
         have hfz61_8 := blk_frozen BK246.out 8
         go_wp2_with (first | ((with_reducible refine gate_callee (f := 54) rfl ?_); refine goesL_ (some 21) rfl rfl Try.func54 (by kernel_rfl) rfl #[.int .i64 (wrap64 (-ag))] rfl z7_4 ?_; (with_reducible refine (impl_elementOf.calls (wrap64 (-ag)) t251 _ A57.out).mono ?_); rintro e w' ⟨rfl, ⟨nd, rfl⟩⟩; refine ⟨_, rfl, ?_⟩; (try (rw [drewN_self wr]; generalize hq_ : World.drewN wr _ = wr; have n0_ : Aside0 (wr.heap[gb232]? = some (.cells #[.int .i64 a1_0, .int .i64 a1_1, .int .i64 a1_2, .int .i64 a1_3] 54 (0, 0))) := ⟨z7_9⟩; have n1_ : Aside0 (wr.heap[gb233]? = some (.cells #[.int .i64 0, .int .i64 0, .int .i64 0, .int .i64 0, .int .i64 0, .int .i64 0, .int .i64 0, .int .i64 0] 68 (0, 0))) := ⟨z7_10⟩; have n2_ : Aside0 (wr.heap[gb246]? = some (.cells #[.int .i64 t234, .int .i64 t235, .int .i64 t236, .int .i64 t237, .int .i64 ac, .int .i64 ad, .int .i64 ae, .int .i64 af, .int .i64 ag, .int .i64 ah, .int .i64 ai, .int .i64 aj] 81 (0, 0))) := ⟨z7_11⟩; have n3_ : Aside0 (IsS79 w0 wr g s0_0 s0_1) := ⟨z7_12⟩; have n4_ : Aside0 (KeepBut w wr g none) := ⟨z7_13⟩; have n5_ : Aside0 (Below w0.heap.size w0 wr) := ⟨z7_14⟩; clear BK232 BK233 BK246 HI0 HK HB hq_; have BK232 := n0_; have BK233 := n1_; have BK246 := n2_; have HI0 := n3_; have HK := n4_; have HB := n5_; clear n0_ n1_ n2_ n3_ n4_ n5_; have hcr246_8 : wr.cell? ⟨gb246, 8, none⟩ = some (.int .i64 ag) := bA7 BK246 rfl; have hfr246_8 := blk_frozen BK246.out 8))))
         go_roundg k1
         case measure => have := HK1.out; omega
         case rel => exact ⟨(wrap64 ((4 : Int) + 1)), (ac), (ad), (ae), (af), (t251), (ah), (ai), (aj), z7_6, H', ⟨z7_15⟩, ⟨gZ ak.out BK232.out⟩, ⟨gZ ab.out BK233.out⟩, ⟨bZ BK246.out⟩, ⟨z7_3⟩, ⟨z7_2⟩, ⟨z7_1⟩⟩
        ·rw [if_neg c56] at H
         clear c56
         by_cases c63 : x12_1 = 5
         ·rw [if_pos c63] at H
          subst c63
          replace H := Option.bind_eq_some_iff.mp H
          obtain ⟨t252, A640, H⟩ := H
          have A64 := Aside0.mk A640
          clear A640
          have H' := Aside0.mk H
          clear H
          have hnb65 := an.out
          have hnc65 := ak.out
          have hnb66 := aa.out
          have hnc66 := ab.out
          have hnb67 := ap.out
          have hnc67 := ao.out
          have hcz68_9 : wr.cell? ⟨gb246, 9, none⟩ = some (.int .i64 ah) := bA7 BK246 rfl
          have hfz68_9 := blk_frozen BK246.out 9
          go_wp2_with (first | ((with_reducible refine gate_callee (f := 54) rfl ?_); refine goesL_ (some 21) rfl rfl Try.func54 (by kernel_rfl) rfl #[.int .i64 (wrap64 (-ah))] rfl z7_4 ?_; (with_reducible refine (impl_elementOf.calls (wrap64 (-ah)) t252 _ A64.out).mono ?_); rintro e w' ⟨rfl, ⟨nd, rfl⟩⟩; refine ⟨_, rfl, ?_⟩; (try (rw [drewN_self wr]; generalize hq_ : World.drewN wr _ = wr; have n0_ : Aside0 (wr.heap[gb232]? = some (.cells #[.int .i64 a1_0, .int .i64 a1_1, .int .i64 a1_2, .int .i64 a1_3] 54 (0, 0))) := ⟨z7_9⟩; have n1_ : Aside0 (wr.heap[gb233]? = some (.cells #[.int .i64 0, .int .i64 0, .int .i64 0, .int .i64 0, .int .i64 0, .int .i64 0, .int .i64 0, .int .i64 0] 68 (0, 0))) := ⟨z7_10⟩; have n2_ : Aside0 (wr.heap[gb246]? = some (.cells #[.int .i64 t234, .int .i64 t235, .int .i64 t236, .int .i64 t237, .int .i64 ac, .int .i64 ad, .int .i64 ae, .int .i64 af, .int .i64 ag, .int .i64 ah, .int .i64 ai, .int .i64 aj] 81 (0, 0))) := ⟨z7_11⟩; have n3_ : Aside0 (IsS79 w0 wr g s0_0 s0_1) := ⟨z7_12⟩; have n4_ : Aside0 (KeepBut w wr g none) := ⟨z7_13⟩; have n5_ : Aside0 (Below w0.heap.size w0 wr) := ⟨z7_14⟩; clear BK232 BK233 BK246 HI0 HK HB hq_; have BK232 := n0_; have BK233 := n1_; have BK246 := n2_; have HI0 := n3_; have HK := n4_; have HB := n5_; clear n0_ n1_ n2_ n3_ n4_ n5_; have hcr246_9 : wr.cell? ⟨gb246, 9, none⟩ = some (.int .i64 ah) := bA7 BK246 rfl; have hfr246_9 := blk_frozen BK246.out 9))))
          go_roundg k1
          case measure => have := HK1.out; omega
          case rel => exact ⟨(wrap64 ((5 : Int) + 1)), (ac), (ad), (ae), (af), (ag), (t252), (ai), (aj), z7_6, H', ⟨z7_15⟩, ⟨gZ ak.out BK232.out⟩, ⟨gZ ab.out BK233.out⟩, ⟨bZ BK246.out⟩, ⟨z7_3⟩, ⟨z7_2⟩, ⟨z7_1⟩⟩
         ·rw [if_neg c63] at H
          clear c63
          by_cases c70 : x12_1 = 6
          ·rw [if_pos c70] at H
           subst c70
           replace H := Option.bind_eq_some_iff.mp H
           obtain ⟨t253, A710, H⟩ := H
           have A71 := Aside0.mk A710
           clear A710
           have H' := Aside0.mk H
           clear H
           have hnb72 := an.out
           have hnc72 := ak.out
           have hnb73 := aa.out
           have hnc73 := ab.out
           have hnb74 := ap.out
           have hnc74 := ao.out
           have hcz75_10 : wr.cell? ⟨gb246, 10, none⟩ = some (.int .i64 ai) := bA7 BK246 rfl
           have hfz75_10 := blk_frozen BK246.out 10
           go_wp2_with (first | ((with_reducible refine gate_callee (f := 54) rfl ?_); refine goesL_ (some 21) rfl rfl Try.func54 (by kernel_rfl) rfl #[.int .i64 (wrap64 (-ai))] rfl z7_4 ?_; (with_reducible refine (impl_elementOf.calls (wrap64 (-ai)) t253 _ A71.out).mono ?_); rintro e w' ⟨rfl, ⟨nd, rfl⟩⟩; refine ⟨_, rfl, ?_⟩; (try (rw [drewN_self wr]; generalize hq_ : World.drewN wr _ = wr; have n0_ : Aside0 (wr.heap[gb232]? = some (.cells #[.int .i64 a1_0, .int .i64 a1_1, .int .i64 a1_2, .int .i64 a1_3] 54 (0, 0))) := ⟨z7_9⟩; have n1_ : Aside0 (wr.heap[gb233]? = some (.cells #[.int .i64 0, .int .i64 0, .int .i64 0, .int .i64 0, .int .i64 0, .int .i64 0, .int .i64 0, .int .i64 0] 68 (0, 0))) := ⟨z7_10⟩; have n2_ : Aside0 (wr.heap[gb246]? = some (.cells #[.int .i64 t234, .int .i64 t235, .int .i64 t236, .int .i64 t237, .int .i64 ac, .int .i64 ad, .int .i64 ae, .int .i64 af, .int .i64 ag, .int .i64 ah, .int .i64 ai, .int .i64 aj] 81 (0, 0))) := ⟨z7_11⟩; have n3_ : Aside0 (IsS79 w0 wr g s0_0 s0_1) := ⟨z7_12⟩; have n4_ : Aside0 (KeepBut w wr g none) := ⟨z7_13⟩; have n5_ : Aside0 (Below w0.heap.size w0 wr) := ⟨z7_14⟩; clear BK232 BK233 BK246 HI0 HK HB hq_; have BK232 := n0_; have BK233 := n1_; have BK246 := n2_; have HI0 := n3_; have HK := n4_; have HB := n5_; clear n0_ n1_ n2_ n3_ n4_ n5_; have hcr246_10 : wr.cell? ⟨gb246, 10, none⟩ = some (.int .i64 ai) := bA7 BK246 rfl; have hfr246_10 := blk_frozen BK246.out 10))))
           go_roundg k1
           case measure => have := HK1.out; omega
           case rel => exact ⟨(wrap64 ((6 : Int) + 1)), (ac), (ad), (ae), (af), (ag), (ah), (t253), (aj), z7_6, H', ⟨z7_15⟩, ⟨gZ ak.out BK232.out⟩, ⟨gZ ab.out BK233.out⟩, ⟨bZ BK246.out⟩, ⟨z7_3⟩, ⟨z7_2⟩, ⟨z7_1⟩⟩
          ·rw [if_neg c70] at H
           clear c70; obtain ⟨c77, H⟩ := ifP H; subst c77
           replace H := Option.bind_eq_some_iff.mp H
           obtain ⟨t254, A780, H⟩ := H
           have A78 := Aside0.mk A780
           clear A780
           have H' := Aside0.mk H
           clear H
           have hnb79 := an.out
           have hnc79 := ak.out
           have hnb80 := aa.out
           have hnc80 := ab.out
           have hnb81 := ap.out
           have hnc81 := ao.out
           have hcz82_11 : wr.cell? ⟨gb246, 11, none⟩ = some (.int .i64 aj) := bA7 BK246 rfl
           have hfz82_11 := blk_frozen BK246.out 11
           go_wp2_with (first | ((with_reducible refine gate_callee (f := 54) rfl ?_); refine goesL_ (some 21) rfl rfl Try.func54 (by kernel_rfl) rfl #[.int .i64 (wrap64 (-aj))] rfl z7_4 ?_; (with_reducible refine (impl_elementOf.calls (wrap64 (-aj)) t254 _ A78.out).mono ?_); rintro e w' ⟨rfl, ⟨nd, rfl⟩⟩; refine ⟨_, rfl, ?_⟩; (try (rw [drewN_self wr]; generalize hq_ : World.drewN wr _ = wr; have n0_ : Aside0 (wr.heap[gb232]? = some (.cells #[.int .i64 a1_0, .int .i64 a1_1, .int .i64 a1_2, .int .i64 a1_3] 54 (0, 0))) := ⟨z7_9⟩; have n1_ : Aside0 (wr.heap[gb233]? = some (.cells #[.int .i64 0, .int .i64 0, .int .i64 0, .int .i64 0, .int .i64 0, .int .i64 0, .int .i64 0, .int .i64 0] 68 (0, 0))) := ⟨z7_10⟩; have n2_ : Aside0 (wr.heap[gb246]? = some (.cells #[.int .i64 t234, .int .i64 t235, .int .i64 t236, .int .i64 t237, .int .i64 ac, .int .i64 ad, .int .i64 ae, .int .i64 af, .int .i64 ag, .int .i64 ah, .int .i64 ai, .int .i64 aj] 81 (0, 0))) := ⟨z7_11⟩; have n3_ : Aside0 (IsS79 w0 wr g s0_0 s0_1) := ⟨z7_12⟩; have n4_ : Aside0 (KeepBut w wr g none) := ⟨z7_13⟩; have n5_ : Aside0 (Below w0.heap.size w0 wr) := ⟨z7_14⟩; clear BK232 BK233 BK246 HI0 HK HB hq_; have BK232 := n0_; have BK233 := n1_; have BK246 := n2_; have HI0 := n3_; have HK := n4_; have HB := n5_; clear n0_ n1_ n2_ n3_ n4_ n5_; have hcr246_11 : wr.cell? ⟨gb246, 11, none⟩ = some (.int .i64 aj) := bA7 BK246 rfl; have hfr246_11 := blk_frozen BK246.out 11))))
           go_roundg k1
           case measure => have := HK1.out; omega
           case rel => exact ⟨(wrap64 ((7 : Int) + 1)), (ac), (ad), (ae), (af), (ag), (ah), (ai), (t254), z7_6, H', ⟨z7_15⟩, ⟨gZ ak.out BK232.out⟩, ⟨gZ ab.out BK233.out⟩, ⟨bZ BK246.out⟩, ⟨z7_3⟩, ⟨z7_2⟩, ⟨z7_1⟩⟩
   ·rw [if_neg c27] at H
    have c27b0 : decide (x12_1 < 8) = false := decide_eq_false c27; clear c27; simp only [Option.some.injEq, Prod.mk.injEq] at H; obtain ⟨rfl, rfl, rfl, rfl, rfl, rfl, rfl, rfl, rfl⟩ := H
    try go_wp2
    replace BK232 := Aside0.mk (blk_drew BK232.out)
    replace BK233 := Aside0.mk (blk_drew BK233.out)
    replace BK246 := Aside0.mk (blk_drew BK246.out)
    replace HI0 := Aside0.mk (IsS79.drew HI0.out)
    replace HK := Aside0.mk (keep_drew HK.out)
    replace HB := Aside0.mk (below_drew1 HB.out)
    refine start_ (n := 8) (S := fun w' => w'.cell? ⟨gb246, 0, none⟩ = some (.int .i64 t234) ∧ w'.cell? ⟨gb246, 1, none⟩ = some (.int .i64 t235) ∧ w'.cell? ⟨gb246, 2, none⟩ = some (.int .i64 t236) ∧ w'.cell? ⟨gb246, 3, none⟩ = some (.int .i64 t237) ∧ w'.cell? ⟨gb246, 4, none⟩ = some (.int .i64 ac) ∧ w'.cell? ⟨gb246, 5, none⟩ = some (.int .i64 ad) ∧ w'.cell? ⟨gb246, 6, none⟩ = some (.int .i64 ae) ∧ w'.cell? ⟨gb246, 7, none⟩ = some (.int .i64 af) ∧ w'.cell? ⟨gb246, 8, none⟩ = some (.int .i64 ag) ∧ w'.cell? ⟨gb246, 9, none⟩ = some (.int .i64 ah) ∧ w'.cell? ⟨gb246, 10, none⟩ = some (.int .i64 ai) ∧ w'.cell? ⟨gb246, 11, none⟩ = some (.int .i64 aj)) (ds := []) #[false, false, false, false, false, false, false, false] (by kernel_rfl) rfl rfl ⟨bA7 BK246 rfl, bA7 BK246 rfl, bA7 BK246 rfl, bA7 BK246 rfl, bA7 BK246 rfl, bA7 BK246 rfl, bA7 BK246 rfl, bA7 BK246 rfl, bA7 BK246 rfl, bA7 BK246 rfl, bA7 BK246 rfl, bA7 BK246 rfl⟩ (fun hHeld => ?_); refine with_tabW impl_span_by.tab7 impl_span_by.bits7 (fun HT_ HW_ => ?_); generalize wr.drew = w84 at BK232 BK233 BK246 HI0 HK HB hHeld ⊢; refine pZ 0 HT_ ?_; refine pZ 2 HT_ ?_; refine pZ 4 HT_ ?_; refine tZ 1 hHeld HT_ HW_ ?_; refine tZ 3 hHeld HT_ HW_ ?_; refine pZ 5 HT_ ?_; refine one_ (i := 6) (N := none) #[true, true, true, true, true, true, true, false] rfl rfl (one_of HT_.out (by kernel_rfl)) (by decide) (fun K hK => ?_); have hs85 : w84.cell? ⟨gb233, 0, none⟩ = some (.int .i64 0) := bA7 BK233 rfl
    have hfs85 := blk_frozen BK233.out 0
    have hns85_0 := al.out
    have hns85_2 := aa.out
    have hms85_0 := am.out
    have hms85_2 := ab.out
    have hs86 : w84.cell? ⟨gb233, 1, none⟩ = some (.int .i64 0) := bA7 BK233 rfl
    have hfs86 := blk_frozen BK233.out 1
    have hns86_0 := al.out
    have hns86_2 := aa.out
    have hms86_0 := am.out
    have hms86_2 := ab.out
    have hs87 : w84.cell? ⟨gb233, 2, none⟩ = some (.int .i64 0) := bA7 BK233 rfl
    have hfs87 := blk_frozen BK233.out 2
    have hns87_0 := al.out
    have hns87_2 := aa.out
    have hms87_0 := am.out
    have hms87_2 := ab.out
    have hs88 : w84.cell? ⟨gb233, 3, none⟩ = some (.int .i64 0) := bA7 BK233 rfl
    have hfs88 := blk_frozen BK233.out 3
    have hns88_0 := al.out
    have hns88_2 := aa.out
    have hms88_0 := am.out
    have hms88_2 := ab.out
    have hs89 : w84.cell? ⟨gb233, 4, none⟩ = some (.int .i64 0) := bA7 BK233 rfl
    have hfs89 := blk_frozen BK233.out 4
    have hns89_0 := al.out
    have hns89_2 := aa.out
    have hms89_0 := am.out
    have hms89_2 := ab.out
    have hs90 : w84.cell? ⟨gb233, 5, none⟩ = some (.int .i64 0) := bA7 BK233 rfl
    have hfs90 := blk_frozen BK233.out 5
    have hns90_0 := al.out
    have hns90_2 := aa.out
    have hms90_0 := am.out
    have hms90_2 := ab.out
    have hs91 : w84.cell? ⟨gb233, 6, none⟩ = some (.int .i64 0) := bA7 BK233 rfl
    have hfs91 := blk_frozen BK233.out 6
    have hns91_0 := al.out
    have hns91_2 := aa.out
    have hms91_0 := am.out
    have hms91_2 := ab.out
    have hs92 : w84.cell? ⟨gb233, 7, none⟩ = some (.int .i64 0) := bA7 BK233 rfl
    have hfs92 := blk_frozen BK233.out 7
    have hns92_0 := al.out
    have hns92_2 := aa.out
    have hms92_0 := am.out
    have hms92_2 := ab.out
    refine skip_ (w1 := ?_) (by rfl) rfl ?_ ?_; rotate_left
    ·go_simp
     rfl
    refine hK.out _ _ ⟨((cell_far (p := ⟨gb233, _, none⟩) aa.out _).trans (((cell_far (p := ⟨gb233, _, none⟩) aa.out _).trans (((cell_far (p := ⟨gb233, _, none⟩) aa.out _).trans (((cell_far (p := ⟨gb233, _, none⟩) aa.out _).trans (((cell_far (p := ⟨gb233, _, none⟩) aa.out _).trans (((cell_far (p := ⟨gb233, _, none⟩) aa.out _).trans (((cell_far (p := ⟨gb233, _, none⟩) aa.out _).trans (((cell_far (p := ⟨gb233, _, none⟩) aa.out _).trans (hHeld.1)))))))))))))))), ((cell_far (p := ⟨gb233, _, none⟩) aa.out _).trans (((cell_far (p := ⟨gb233, _, none⟩) aa.out _).trans (((cell_far (p := ⟨gb233, _, none⟩) aa.out _).trans (((cell_far (p := ⟨gb233, _, none⟩) aa.out _).trans (((cell_far (p := ⟨gb233, _, none⟩) aa.out _).trans (((cell_far (p := ⟨gb233, _, none⟩) aa.out _).trans (((cell_far (p := ⟨gb233, _, none⟩) aa.out _).trans (((cell_far (p := ⟨gb233, _, none⟩) aa.out _).trans (hHeld.2.1)))))))))))))))), ((cell_far (p := ⟨gb233, _, none⟩) aa.out _).trans (((cell_far (p := ⟨gb233, _, none⟩) aa.out _).trans (((cell_far (p := ⟨gb233, _, none⟩) aa.out _).trans (((cell_far (p := ⟨gb233, _, none⟩) aa.out _).trans (((cell_far (p := ⟨gb233, _, none⟩) aa.out _).trans (((cell_far (p := ⟨gb233, _, none⟩) aa.out _).trans (((cell_far (p := ⟨gb233, _, none⟩) aa.out _).trans (((cell_far (p := ⟨gb233, _, none⟩) aa.out _).trans (hHeld.2.2.1)))))))))))))))), ((cell_far (p := ⟨gb233, _, none⟩) aa.out _).trans (((cell_far (p := ⟨gb233, _, none⟩) aa.out _).trans (((cell_far (p := ⟨gb233, _, none⟩) aa.out _).trans (((cell_far (p := ⟨gb233, _, none⟩) aa.out _).trans (((cell_far (p := ⟨gb233, _, none⟩) aa.out _).trans (((cell_far (p := ⟨gb233, _, none⟩) aa.out _).trans (((cell_far (p := ⟨gb233, _, none⟩) aa.out _).trans (((cell_far (p := ⟨gb233, _, none⟩) aa.out _).trans (hHeld.2.2.2.1)))))))))))))))), ((cell_far (p := ⟨gb233, _, none⟩) aa.out _).trans (((cell_far (p := ⟨gb233, _, none⟩) aa.out _).trans (((cell_far (p := ⟨gb233, _, none⟩) aa.out _).trans (((cell_far (p := ⟨gb233, _, none⟩) aa.out _).trans (((cell_far (p := ⟨gb233, _, none⟩) aa.out _).trans (((cell_far (p := ⟨gb233, _, none⟩) aa.out _).trans (((cell_far (p := ⟨gb233, _, none⟩) aa.out _).trans (((cell_far (p := ⟨gb233, _, none⟩) aa.out _).trans (hHeld.2.2.2.2.1)))))))))))))))), ((cell_far (p := ⟨gb233, _, none⟩) aa.out _).trans (((cell_far (p := ⟨gb233, _, none⟩) aa.out _).trans (((cell_far (p := ⟨gb233, _, none⟩) aa.out _).trans (((cell_far (p := ⟨gb233, _, none⟩) aa.out _).trans (((cell_far (p := ⟨gb233, _, none⟩) aa.out _).trans (((cell_far (p := ⟨gb233, _, none⟩) aa.out _).trans (((cell_far (p := ⟨gb233, _, none⟩) aa.out _).trans (((cell_far (p := ⟨gb233, _, none⟩) aa.out _).trans (hHeld.2.2.2.2.2.1)))))))))))))))), ((cell_far (p := ⟨gb233, _, none⟩) aa.out _).trans (((cell_far (p := ⟨gb233, _, none⟩) aa.out _).trans (((cell_far (p := ⟨gb233, _, none⟩) aa.out _).trans (((cell_far (p := ⟨gb233, _, none⟩) aa.out _).trans (((cell_far (p := ⟨gb233, _, none⟩) aa.out _).trans (((cell_far (p := ⟨gb233, _, none⟩) aa.out _).trans (((cell_far (p := ⟨gb233, _, none⟩) aa.out _).trans (((cell_far (p := ⟨gb233, _, none⟩) aa.out _).trans (hHeld.2.2.2.2.2.2.1)))))))))))))))), ((cell_far (p := ⟨gb233, _, none⟩) aa.out _).trans (((cell_far (p := ⟨gb233, _, none⟩) aa.out _).trans (((cell_far (p := ⟨gb233, _, none⟩) aa.out _).trans (((cell_far (p := ⟨gb233, _, none⟩) aa.out _).trans (((cell_far (p := ⟨gb233, _, none⟩) aa.out _).trans (((cell_far (p := ⟨gb233, _, none⟩) aa.out _).trans (((cell_far (p := ⟨gb233, _, none⟩) aa.out _).trans (((cell_far (p := ⟨gb233, _, none⟩) aa.out _).trans (hHeld.2.2.2.2.2.2.2.1)))))))))))))))), ((cell_far (p := ⟨gb233, _, none⟩) aa.out _).trans (((cell_far (p := ⟨gb233, _, none⟩) aa.out _).trans (((cell_far (p := ⟨gb233, _, none⟩) aa.out _).trans (((cell_far (p := ⟨gb233, _, none⟩) aa.out _).trans (((cell_far (p := ⟨gb233, _, none⟩) aa.out _).trans (((cell_far (p := ⟨gb233, _, none⟩) aa.out _).trans (((cell_far (p := ⟨gb233, _, none⟩) aa.out _).trans (((cell_far (p := ⟨gb233, _, none⟩) aa.out _).trans (hHeld.2.2.2.2.2.2.2.2.1)))))))))))))))), ((cell_far (p := ⟨gb233, _, none⟩) aa.out _).trans (((cell_far (p := ⟨gb233, _, none⟩) aa.out _).trans (((cell_far (p := ⟨gb233, _, none⟩) aa.out _).trans (((cell_far (p := ⟨gb233, _, none⟩) aa.out _).trans (((cell_far (p := ⟨gb233, _, none⟩) aa.out _).trans (((cell_far (p := ⟨gb233, _, none⟩) aa.out _).trans (((cell_far (p := ⟨gb233, _, none⟩) aa.out _).trans (((cell_far (p := ⟨gb233, _, none⟩) aa.out _).trans (hHeld.2.2.2.2.2.2.2.2.2.1)))))))))))))))), ((cell_far (p := ⟨gb233, _, none⟩) aa.out _).trans (((cell_far (p := ⟨gb233, _, none⟩) aa.out _).trans (((cell_far (p := ⟨gb233, _, none⟩) aa.out _).trans (((cell_far (p := ⟨gb233, _, none⟩) aa.out _).trans (((cell_far (p := ⟨gb233, _, none⟩) aa.out _).trans (((cell_far (p := ⟨gb233, _, none⟩) aa.out _).trans (((cell_far (p := ⟨gb233, _, none⟩) aa.out _).trans (((cell_far (p := ⟨gb233, _, none⟩) aa.out _).trans (hHeld.2.2.2.2.2.2.2.2.2.2.1)))))))))))))))), ((cell_far (p := ⟨gb233, _, none⟩) aa.out _).trans (((cell_far (p := ⟨gb233, _, none⟩) aa.out _).trans (((cell_far (p := ⟨gb233, _, none⟩) aa.out _).trans (((cell_far (p := ⟨gb233, _, none⟩) aa.out _).trans (((cell_far (p := ⟨gb233, _, none⟩) aa.out _).trans (((cell_far (p := ⟨gb233, _, none⟩) aa.out _).trans (((cell_far (p := ⟨gb233, _, none⟩) aa.out _).trans (((cell_far (p := ⟨gb233, _, none⟩) aa.out _).trans (hHeld.2.2.2.2.2.2.2.2.2.2.2))))))))))))))))⟩ (fun hHeld => ?_); clear hK K; refine pZ 7 HT_ ?_; refine done_ (done_of HT_.out (by kernel_rfl)) ?_
    try go_wp2
    refine bodyPost_ret (results_ct rfl _ _ gb233 68 #[.int .i64 ac, .int .i64 ad, .int .i64 ae, .int .i64 af, .int .i64 ag, .int .i64 ah, .int .i64 ai, .int .i64 aj] (0, 0) _ rfl (bZ BK233.out) Try.underlying68 rfl (by kernel_rfl)) rfl ?_; exact ⟨by first | rfl | (simp [errW_none, errW_some] <;> rfl) | (simp [*, errW_none, errW_some] <;> rfl), z7_3, z7_1, z7_2⟩

end Go.Proofs.Ytfgpffocieegdaa.PA
