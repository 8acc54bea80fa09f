import Derived.Test.YtamaejafddmagaaPAx6
import Derived.Test.YtamaejafddmagaaPAx0
import Derived.Test.YtamaejafddmagaaPAx5
import Derived.Test.YtamaejafddmagaaPAx13
import Derived.Test.YtamaejafddmagaaGw
import Derived.Test.YtamaejafddmagaaGm
import Derived.Test.YtamaejafddmagaaGc
/- impl.CodeAll's contract told once more (of no shards: the nil slice), and impl.CodeApart's three ways. -/
set_option linter.unusedVariables false
set_option linter.unusedSimpArgs false
namespace Go.Proofs.Ytamaejafddmagaa.PA
open Go.RowKit Go.Proofs.YtamaejafddmagaaW.PrintWords Go.Proofs.YtamaejafddmagaaW.PrintLast Go.Proofs.YtamaejafddmagaaW.PrintMore
attribute [local go_sem] max2_int min2_int max_two min_two max_three min_three max_four min_four

theorem zLha {p q : Prop} (h : q) (t : q → p := by intro h_; (with_reducible repeat first|refine blk_drewN ?_ _|refine blk_drew ?_|refine blk_alloc ?_ _); exact h_) : p := t h
theorem zha_1 {p : Prop} (h : p := by repeat (first | (with_reducible first | exact HB.out | apply below_alloc | apply pw_below_drewN | apply below_drew1) | exact HB.out)) : p := h
theorem zha_2 {p : Prop} (h : p := by rw [hw]; exact (by (with_reducible repeat first|refine blk_drewN ?_ _|refine blk_drew ?_|refine blk_alloc ?_ _); refine blk_put (cs := #[.int .i64 t262, .int .i64 t263, .int .i64 t264, .int .i64 0]) ?_ 3 _ rfl; (with_reducible repeat first|refine blk_drewN ?_ _|refine blk_drew ?_|refine blk_alloc ?_ _); refine blk_put (cs := #[.int .i64 t262, .int .i64 t263, .int .i64 0, .int .i64 0]) ?_ 2 _ rfl; (with_reducible repeat first|refine blk_drewN ?_ _|refine blk_drew ?_|refine blk_alloc ?_ _); refine blk_put (cs := #[.int .i64 t262, .int .i64 0, .int .i64 0, .int .i64 0]) ?_ 1 _ rfl; (with_reducible repeat first|refine blk_drewN ?_ _|refine blk_drew ?_|refine blk_alloc ?_ _); refine blk_put (cs := #[.int .i64 0, .int .i64 0, .int .i64 0, .int .i64 0]) ?_ 0 _ rfl; (with_reducible repeat first|refine blk_drewN ?_ _|refine blk_drew ?_|refine blk_alloc ?_ _); exact BK267.out)) : p := h
theorem zha_3 {p : Prop} (h : p := by repeat (first | (with_reducible first | exact HB.out | apply below_alloc | apply pw_below_drewN | apply below_drew1 | refine below_set ?_ GE267.out) | exact HB.out)) : p := h
theorem zha_4 {p : Prop} (h : p := by (with_reducible repeat (first | apply Kd.R_alloc | apply Kd.R_drewN | apply Kd.R_drew)); exact HOx.out) : p := h
theorem zha_5 {p : Prop} (h : p := by (try simp only [List.map_toArray, List.map_cons, List.map_nil]); first | done | rfl | (simp only [List.length_drop, List.length_take]; rfl)) : p := h
theorem zha_6 {p : Prop} (h : p := by first | rfl | (simp; done) | (simp [*]; done)) : p := h
theorem zha_7 {p : Prop} (h : p := by (with_reducible repeat (first | apply Kd.R_alloc | apply Kd.R_drewN | apply Kd.R_drew)); exact HOy.out) : p := h
theorem zha_8 {p : Prop} (h : p := by first | rfl | (simp [errW_none, errW_some] <;> rfl) | (simp [*, errW_none, errW_some] <;> rfl)) : p := h
theorem zha_9 {p : Prop} (h : p := by first | exact Kd.R_nil _ _ _ _ _ | exact Kd.N_nil _ _ _ _ _ | exact Kd.V_nil _ _ _ _ _ | exact Kd.Q_nil _ _ _ _ _ | exact Kd.S_nil _ _ _ _ _) : p := h
set_option maxHeartbeats 8000000 in
set_option maxRecDepth 100000 in
theorem impl_CodeAllN.calls (k : Nat) (a0 : Int) (A1 : Option Addr) (c1 : Nat) (l1 : List Int) (r : List Int) (w : World) (hr1 : Kd.C (Kd.int .i64) w A1 l1.length l1) (hc1 : l1.length ≤ c1) (hne : ∀ a b c d, impl_vectorOf.f l1 = some (a, b, c, d, true) → impl_kindOk.f a0 = some true → r ≠ []) (h : impl_CodeAll.f k a0 l1 = some r) :
  Calls Try.prog 43 #[.int .i64 a0, .slice A1 l1.length c1] w fun e w' => ∃ v0_ : Value, e = .returned (v0_) ∧ (r = [] → v0_ = .slice none 0 0) ∧ Kd.R (Kd.int .i64) 3 w' w.heap.size (fun _ => True) v0_ r ∧ Below w.heap.size w w' := by
 have hu70 := Try.underlying70
 have HR1 := Aside0.mk hr1
 have HC1 := Aside0.mk hc1
 clear hr1 hc1
 have HB := Aside0.mk (Below.refl w.heap.size w)
 have H : ((impl_vectorOf.f l1).bind fun bt262 => (if bt262.2.2.2.2 = true then ((impl_kindOk.f a0).bind fun t268 => (if t268 = true then ((impl_encode.f k a0 bt262.1 bt262.2.1 bt262.2.2.1 bt262.2.2.2.1).bind fun t269 => (some t269)) else (some ([] : List Int)))) else (some ([] : List Int)))) = some r := h
 clear h
 replace H := Option.bind_eq_some_iff.mp H
 obtain ⟨⟨t262, t263, t264, t265, t266⟩, A30, H⟩ := H
 replace H : (if t266 = true then ((impl_kindOk.f a0).bind fun t268 => (if t268 = true then ((impl_encode.f k a0 t262 t263 t264 t265).bind fun t269 => (some t269)) else (some ([] : List Int)))) else (some ([] : List Int))) = some r := H
 have A3 := Aside0.mk A30
 clear A30
 by_cases c4 : t266 = true
 ·subst c4
  have H1 : ((impl_kindOk.f a0).bind fun t268 => (if t268 = true then ((impl_encode.f k a0 t262 t263 t264 t265).bind fun t269 => (some t269)) else (some ([] : List Int)))) = some r := by rw [if_pos rfl] at H; exact H
  clear H
  have H := H1
  clear H1
  replace H := Option.bind_eq_some_iff.mp H
  obtain ⟨t268, A50, H⟩ := H
  replace H : (if t268 = true then ((impl_encode.f k a0 t262 t263 t264 t265).bind fun t269 => (some t269)) else (some ([] : List Int))) = some r := H
  have A5 := Aside0.mk A50
  clear A50
  by_cases c6 : t268 = true
  ·subst c6
   have H1 : ((impl_encode.f k a0 t262 t263 t264 t265).bind fun t269 => (some t269)) = some r := by rw [if_pos rfl] at H; exact H
   clear H
   have H := H1
   clear H1
   replace H := Option.bind_eq_some_iff.mp H
   obtain ⟨t269, A70, H⟩ := H
   replace H : (some t269) = some r := H
   have A7 := Aside0.mk A70
   clear A70
   obtain rfl := Option.some.inj H
   go_enter Try.func43, Try.ntmps43
   go_wp2_with (first | ((with_reducible refine gate_callee (f := 59) rfl ?_); refine goesL_ (some 9) rfl rfl Try.func59 (by kernel_rfl) rfl #[.slice A1 l1.length c1] rfl zha_5 ?_; (with_reducible refine (impl_vectorOf.calls _ _ l1 t262 t263 t264 t265 true _ ?side1 ?side2 A3.out).mono ?_); (case side1 => repeat (first | exact HR1.out | (with_reducible refine Kd.C_alloc ?_ _) | (with_reducible refine Kd.C_drewN ?_ _) | (with_reducible refine Kd.C_drew ?_))); (case side2 => exact HC1.out); rintro e w8 ⟨rfl, hb⟩; refine ⟨_, rfl, ?_⟩; have n0_ := Aside0.mk (below_step zha_1 hb); clear HB; have HB := n0_; clear n0_; (try clear hb); (try clear hb2); (try clear hk); (try clear hi)) | ((with_reducible refine gate_dst (N := 5) rfl ?_); refine box_event ?hg (N := 5) ?hd (cs := #[.int .i64 0, .int .i64 0, .int .i64 0, .int .i64 0]) (t := 70) ?hr ?_; (case hd => rfl); (case hg => rfl); (case hr => first | (go_simp; done) | (go_simp; rfl)); intro gb267 hg w9 hbox hb; have n0_ := Aside0.mk (below_step zha_1 hb); have n1_ := Aside0.mk (hbox); have n2_ := Aside0.mk ((by rw [hg]; exact (below_size zha_1) : w.heap.size ≤ gb267)); have n3_ := Aside0.mk ((by rw [hg]; exact (below_size zha_1) : w.heap.size ≤ gb267)); clear HB; have HB := n0_; have BK267 := n1_; have GW267 := n2_; have GE267 := n3_; clear n0_ n1_ n2_ n3_; clear hb hbox hg; have hcz10_0 : w9.cell? ⟨gb267, 0, none⟩ = some (.int .i64 0) := (blk_cell BK267.out 0).trans rfl; have hfz10_0 := blk_frozen BK267.out 0; have hcz11_1 : w9.cell? ⟨gb267, 1, none⟩ = some (.int .i64 0) := (blk_cell BK267.out 1).trans rfl; have hfz11_1 := blk_frozen BK267.out 1; have hcz12_2 : w9.cell? ⟨gb267, 2, none⟩ = some (.int .i64 0) := (blk_cell BK267.out 2).trans rfl; have hfz12_2 := blk_frozen BK267.out 2; have hcz13_3 : w9.cell? ⟨gb267, 3, none⟩ = some (.int .i64 0) := (blk_cell BK267.out 3).trans rfl; have hfz13_3 := blk_frozen BK267.out 3) | ((with_reducible refine gate_store (t := 70) (p := 5) rfl ?_); refine store_event (t := 70) (p := 5) (v := ?vo_w14) (w1 := ((((w9.setCell ⟨gb267, 0, none⟩ (.int .i64 t262)).setCell ⟨gb267, 1, none⟩ (.int .i64 t263)).setCell ⟨gb267, 2, none⟩ (.int .i64 t264)).setCell ⟨gb267, 3, none⟩ (.int .i64 t265))) ?hg ?ho ?hn ?hr ?_; (case ho => rfl); (case hg => rfl); (case hn => rfl); (case hr => first | (go_simp; done) | (go_simp; rfl)); intro w14 hw; have n0_ : Aside0 (w14.heap[gb267]? = some (.cells #[.int .i64 t262, .int .i64 t263, .int .i64 t264, .int .i64 t265] 70 (0, 0))) := ⟨zha_2⟩; have n1_ : Aside0 (Below w.heap.size w w14) := ⟨(by rw [hw]; exact zha_3)⟩; clear hw; clear BK267; clear HB; have BK267 := n0_; have HB := n1_; clear n0_ n1_) | (go_at_call 68; (with_reducible refine (impl_kindOk.calls a0 true _ A5.out).mono ?_); rintro e w' ⟨rfl, ⟨nd, rfl⟩⟩; have hcz15_0 : w14.cell? ⟨gb267, 0, none⟩ = some (.int .i64 t262) := (blk_cell BK267.out 0).trans rfl; have hcz15_1 : w14.cell? ⟨gb267, 1, none⟩ = some (.int .i64 t263) := (blk_cell BK267.out 1).trans rfl; have hcz15_2 : w14.cell? ⟨gb267, 2, none⟩ = some (.int .i64 t264) := (blk_cell BK267.out 2).trans rfl; have hcz15_3 : w14.cell? ⟨gb267, 3, none⟩ = some (.int .i64 t265) := (blk_cell BK267.out 3).trans rfl; have hfz15_0 := blk_frozen BK267.out 0; have hfz15_1 := blk_frozen BK267.out 1; have hfz15_2 := blk_frozen BK267.out 2; have hfz15_3 := blk_frozen BK267.out 3) | ((with_reducible refine gate_callee (f := 82) rfl ?_); refine goesL_ (some 21) rfl rfl Try.func82 (by kernel_rfl) rfl #[.int .i64 a0, .agg #[.int .i64 t262, .int .i64 t263, .int .i64 t264, .int .i64 t265]] rfl zha_5 ?_; (with_reducible refine (impl_encode.calls k a0 t262 t263 t264 t265 t269 _ A7.out).mono ?_); rintro e w16 ⟨v270, rfl, ho0, hb⟩; refine ⟨_, rfl, ?_⟩; have n0_ := Aside0.mk (Kd.R_lower ho0 (below_size zha_3)); have n1_ := Aside0.mk (blk_below (g := gb267) (o := .cells #[.int .i64 t262, .int .i64 t263, .int .i64 t264, .int .i64 t265] 70 (0, 0)) (zLha BK267.out) hb); have n2_ := Aside0.mk (below_step zha_3 hb); clear BK267; clear HB; have HO271 := n0_; have BK267 := n1_; have HB := n2_; clear n0_ n1_ n2_; (try clear hb); (try clear hb2); (try clear hk); (try clear hi); (try clear ho0)))
   go_ret
   exact ⟨_, zha_8, (fun hz_ => absurd hz_ (hne _ _ _ _ A3.out A5.out)), by (with_reducible repeat (first | apply Kd.R_alloc | apply Kd.R_drewN | apply Kd.R_drew)); exact HO271.out, zha_3⟩
  ·replace c6 := Bool.eq_false_iff.mpr c6
   subst c6
   have H1 : (some ([] : List Int)) = some r := by rw [if_neg (show ¬ (false = true) by decide)] at H; exact H
   clear H
   have H := H1
   clear H1
   obtain rfl := Option.some.inj H
   go_enter Try.func43, Try.ntmps43
   go_wp2_with (first | ((with_reducible refine gate_callee (f := 59) rfl ?_); refine goesL_ (some 9) rfl rfl Try.func59 (by kernel_rfl) rfl #[.slice A1 l1.length c1] rfl zha_5 ?_; (with_reducible refine (impl_vectorOf.calls _ _ l1 t262 t263 t264 t265 true _ ?side1 ?side2 A3.out).mono ?_); (case side1 => repeat (first | exact HR1.out | (with_reducible refine Kd.C_alloc ?_ _) | (with_reducible refine Kd.C_drewN ?_ _) | (with_reducible refine Kd.C_drew ?_))); (case side2 => exact HC1.out); rintro e w17 ⟨rfl, hb⟩; refine ⟨_, rfl, ?_⟩; have n0_ := Aside0.mk (below_step zha_1 hb); clear HB; have HB := n0_; clear n0_; (try clear hb); (try clear hb2); (try clear hk); (try clear hi)) | ((with_reducible refine gate_dst (N := 5) rfl ?_); refine box_event ?hg (N := 5) ?hd (cs := #[.int .i64 0, .int .i64 0, .int .i64 0, .int .i64 0]) (t := 70) ?hr ?_; (case hd => rfl); (case hg => rfl); (case hr => first | (go_simp; done) | (go_simp; rfl)); intro gb267 hg w18 hbox hb; have n0_ := Aside0.mk (below_step zha_1 hb); have n1_ := Aside0.mk (hbox); have n2_ := Aside0.mk ((by rw [hg]; exact (below_size zha_1) : w.heap.size ≤ gb267)); have n3_ := Aside0.mk ((by rw [hg]; exact (below_size zha_1) : w.heap.size ≤ gb267)); clear HB; have HB := n0_; have BK267 := n1_; have GW267 := n2_; have GE267 := n3_; clear n0_ n1_ n2_ n3_; clear hb hbox hg; have hcz19_0 : w18.cell? ⟨gb267, 0, none⟩ = some (.int .i64 0) := (blk_cell BK267.out 0).trans rfl; have hfz19_0 := blk_frozen BK267.out 0; have hcz20_1 : w18.cell? ⟨gb267, 1, none⟩ = some (.int .i64 0) := (blk_cell BK267.out 1).trans rfl; have hfz20_1 := blk_frozen BK267.out 1; have hcz21_2 : w18.cell? ⟨gb267, 2, none⟩ = some (.int .i64 0) := (blk_cell BK267.out 2).trans rfl; have hfz21_2 := blk_frozen BK267.out 2; have hcz22_3 : w18.cell? ⟨gb267, 3, none⟩ = some (.int .i64 0) := (blk_cell BK267.out 3).trans rfl; have hfz22_3 := blk_frozen BK267.out 3) | ((with_reducible refine gate_store (t := 70) (p := 5) rfl ?_); refine store_event (t := 70) (p := 5) (v := ?vo_w23) (w1 := ((((w18.setCell ⟨gb267, 0, none⟩ (.int .i64 t262)).setCell ⟨gb267, 1, none⟩ (.int .i64 t263)).setCell ⟨gb267, 2, none⟩ (.int .i64 t264)).setCell ⟨gb267, 3, none⟩ (.int .i64 t265))) ?hg ?ho ?hn ?hr ?_; (case ho => rfl); (case hg => rfl); (case hn => rfl); (case hr => first | (go_simp; done) | (go_simp; rfl)); intro w23 hw; have n0_ : Aside0 (w23.heap[gb267]? = some (.cells #[.int .i64 t262, .int .i64 t263, .int .i64 t264, .int .i64 t265] 70 (0, 0))) := ⟨zha_2⟩; have n1_ : Aside0 (Below w.heap.size w w23) := ⟨(by rw [hw]; exact zha_3)⟩; clear hw; clear BK267; clear HB; have BK267 := n0_; have HB := n1_; clear n0_ n1_) | (go_at_call 68; (with_reducible refine (impl_kindOk.calls a0 false _ A5.out).mono ?_); rintro e w' ⟨rfl, ⟨nd, rfl⟩⟩))
   go_ret
   exact ⟨(.slice none 0 0), zha_8, (by first | exact (fun _ => rfl) | rfl), zha_9, zha_3⟩
 ·replace c4 := Bool.eq_false_iff.mpr c4
  subst c4
  have H1 : (some ([] : List Int)) = some r := by rw [if_neg (show ¬ (false = true) by decide)] at H; exact H
  clear H
  have H := H1
  clear H1
  obtain rfl := Option.some.inj H
  go_enter Try.func43, Try.ntmps43
  go_wp2_with (first | ((with_reducible refine gate_callee (f := 59) rfl ?_); refine goesL_ (some 9) rfl rfl Try.func59 (by kernel_rfl) rfl #[.slice A1 l1.length c1] rfl zha_5 ?_; (with_reducible refine (impl_vectorOf.calls _ _ l1 t262 t263 t264 t265 false _ ?side1 ?side2 A3.out).mono ?_); (case side1 => repeat (first | exact HR1.out | (with_reducible refine Kd.C_alloc ?_ _) | (with_reducible refine Kd.C_drewN ?_ _) | (with_reducible refine Kd.C_drew ?_))); (case side2 => exact HC1.out); rintro e w24 ⟨rfl, hb⟩; refine ⟨_, rfl, ?_⟩; have n0_ := Aside0.mk (below_step zha_1 hb); clear HB; have HB := n0_; clear n0_; (try clear hb); (try clear hb2); (try clear hk); (try clear hi)) | ((with_reducible refine gate_dst (N := 5) rfl ?_); refine box_event ?hg (N := 5) ?hd (cs := #[.int .i64 0, .int .i64 0, .int .i64 0, .int .i64 0]) (t := 70) ?hr ?_; (case hd => rfl); (case hg => rfl); (case hr => first | (go_simp; done) | (go_simp; rfl)); intro gb267 hg w25 hbox hb; have n0_ := Aside0.mk (below_step zha_1 hb); have n1_ := Aside0.mk (hbox); have n2_ := Aside0.mk ((by rw [hg]; exact (below_size zha_1) : w.heap.size ≤ gb267)); have n3_ := Aside0.mk ((by rw [hg]; exact (below_size zha_1) : w.heap.size ≤ gb267)); clear HB; have HB := n0_; have BK267 := n1_; have GW267 := n2_; have GE267 := n3_; clear n0_ n1_ n2_ n3_; clear hb hbox hg; have hcz26_0 : w25.cell? ⟨gb267, 0, none⟩ = some (.int .i64 0) := (blk_cell BK267.out 0).trans rfl; have hfz26_0 := blk_frozen BK267.out 0; have hcz27_1 : w25.cell? ⟨gb267, 1, none⟩ = some (.int .i64 0) := (blk_cell BK267.out 1).trans rfl; have hfz27_1 := blk_frozen BK267.out 1; have hcz28_2 : w25.cell? ⟨gb267, 2, none⟩ = some (.int .i64 0) := (blk_cell BK267.out 2).trans rfl; have hfz28_2 := blk_frozen BK267.out 2; have hcz29_3 : w25.cell? ⟨gb267, 3, none⟩ = some (.int .i64 0) := (blk_cell BK267.out 3).trans rfl; have hfz29_3 := blk_frozen BK267.out 3) | ((with_reducible refine gate_store (t := 70) (p := 5) rfl ?_); refine store_event (t := 70) (p := 5) (v := ?vo_w30) (w1 := ((((w25.setCell ⟨gb267, 0, none⟩ (.int .i64 t262)).setCell ⟨gb267, 1, none⟩ (.int .i64 t263)).setCell ⟨gb267, 2, none⟩ (.int .i64 t264)).setCell ⟨gb267, 3, none⟩ (.int .i64 t265))) ?hg ?ho ?hn ?hr ?_; (case ho => rfl); (case hg => rfl); (case hn => rfl); (case hr => first | (go_simp; done) | (go_simp; rfl)); intro w30 hw; have n0_ : Aside0 (w30.heap[gb267]? = some (.cells #[.int .i64 t262, .int .i64 t263, .int .i64 t264, .int .i64 t265] 70 (0, 0))) := ⟨zha_2⟩; have n1_ : Aside0 (Below w.heap.size w w30) := ⟨(by rw [hw]; exact zha_3)⟩; clear hw; clear BK267; clear HB; have BK267 := n0_; have HB := n1_; clear n0_ n1_))
  go_ret
  exact ⟨(.slice none 0 0), zha_8, (by first | exact (fun _ => rfl) | rfl), zha_9, zha_3⟩

-- NOT PRINTED: function 73 (impl_chosen)
/-- how many differ -/
def apartF.l0 : Nat → List Int → List Int → Int → Int → Option Int
  | 0, _, _, _, _ => none
  | k + 1, x, y, m, i => if i < (x.length : Int) then (if 0 ≤ i then (if i < (y.length : Int) then (if (rd x i) = (rd y i) then (apartF.l0 k x y m (wrap64 (i + 1))) else (apartF.l0 k x y (wrap64 (m + 1)) (wrap64 (i + 1)))) else none) else none) else some m
set_option maxHeartbeats 8000000 in
set_option maxRecDepth 100000 in
theorem impl_CodeApart.calls1 (a0 : Int) (A1 : Option Addr) (c1 : Nat) (l1 : List Int) (A2 : Option Addr) (c2 : Nat) (l2 : List Int) (x y : List Int) (r : Int) (k1 k2 : Nat) (w : World) (hr1 : Kd.C (Kd.int .i64) w A1 l1.length l1) (hc1 : l1.length ≤ c1) (hr2 : Kd.C (Kd.int .i64) w A2 l2.length l2) (hc2 : l2.length ≤ c2) (K1 : impl_CodeAll.f k1 a0 l1 = some x) (N1 : ∀ a b c d, impl_vectorOf.f l1 = some (a, b, c, d, true) → impl_kindOk.f a0 = some true → x ≠ []) (K2 : impl_CodeAll.f k2 a0 l2 = some y) (N2 : ∀ a b c d, impl_vectorOf.f l2 = some (a, b, c, d, true) → impl_kindOk.f a0 = some true → y ≠ []) (hx : x = []) :
    Calls Try.prog 39 #[.int .i64 a0, .slice A1 l1.length c1, .slice A2 l2.length c2] w fun e w' => e = .returned (.int .i64 (-1)) ∧ Below w.heap.size w w' := by
  have HR1 := Aside0.mk hr1
  have HC1 := Aside0.mk hc1
  have HR2 := Aside0.mk hr2
  have HC2 := Aside0.mk hc2
  clear hr1 hc1 hr2 hc2
  have HB := Aside0.mk (Below.refl w.heap.size w)
  have q0 : ∀ W : World, (Sem.run Try.prog (binOp BinOp.eql 28 (Value.slice none 0 0) (Value.slice none 0 0)) W) = Result.ok (.bool true) W := fun W => by rfl
  have q1 : ∀ (W : World) (a : Addr) (n c : Nat), (Sem.run Try.prog (binOp BinOp.eql 28 (Value.slice (some a) n c) (Value.slice none 0 0)) W) = Result.ok (.bool false) W := fun W a n c => by rfl
  subst hx
  go_enter Try.func39, Try.ntmps39
  go_wp2_with (first | (go_at_call 43; (with_reducible refine (impl_CodeAllN.calls k1 a0 _ _ l1 ([] : List Int) _ ?side1 ?side2 N1 K1).mono ?_); (case side1 => repeat (first | exact (Kd.C_below HR1.out zha_1) | (with_reducible refine Kd.C_alloc ?_ _) | (with_reducible refine Kd.C_drewN ?_ _) | (with_reducible refine Kd.C_drew ?_))); (case side2 => exact HC1.out); rintro e w1 ⟨v1, rfl, z1, ho0, hb⟩; have ez_ := z1 rfl; subst ez_; clear z1; have nA_ := Aside0.mk (Kd.R_lower ho0 (below_size zha_1)); have nB_ := Aside0.mk (below_step zha_1 hb); clear HB; have HOx := nA_; have HB := nB_; clear nA_ nB_; clear hb ho0) | (go_at_call 43; (with_reducible refine (impl_CodeAll.calls k2 a0 _ _ l2 y _ ?side1 ?side2 K2).mono ?_); (case side1 => repeat (first | exact (Kd.C_below HR2.out zha_1) | (with_reducible refine Kd.C_alloc ?_ _) | (with_reducible refine Kd.C_drewN ?_ _) | (with_reducible refine Kd.C_drew ?_))); (case side2 => exact HC2.out); rintro e w2 ⟨v2, rfl, ho0, hb⟩; have nB_ := Aside0.mk (below_step zha_1 hb); clear HB; have HB := nB_; clear nB_; clear hb ho0))
  repeat (go_quiet (first | (go_at_call 43; (with_reducible refine (impl_CodeAllN.calls k1 a0 _ _ l1 ([] : List Int) _ ?side1 ?side2 N1 K1).mono ?_); (case side1 => repeat (first | exact (Kd.C_below HR1.out zha_1) | (with_reducible refine Kd.C_alloc ?_ _) | (with_reducible refine Kd.C_drewN ?_ _) | (with_reducible refine Kd.C_drew ?_))); (case side2 => exact HC1.out); rintro e w1 ⟨v1, rfl, z1, ho0, hb⟩; have ez_ := z1 rfl; subst ez_; clear z1; have nA_ := Aside0.mk (Kd.R_lower ho0 (below_size zha_1)); have nB_ := Aside0.mk (below_step zha_1 hb); clear HB; have HOx := nA_; have HB := nB_; clear nA_ nB_; clear hb ho0) | (go_at_call 43; (with_reducible refine (impl_CodeAll.calls k2 a0 _ _ l2 y _ ?side1 ?side2 K2).mono ?_); (case side1 => repeat (first | exact (Kd.C_below HR2.out zha_1) | (with_reducible refine Kd.C_alloc ?_ _) | (with_reducible refine Kd.C_drewN ?_ _) | (with_reducible refine Kd.C_drew ?_))); (case side2 => exact HC2.out); rintro e w2 ⟨v2, rfl, ho0, hb⟩; have nB_ := Aside0.mk (below_step zha_1 hb); clear HB; have HB := nB_; clear nB_; clear hb ho0)); try go_wp2_with (first | (go_at_call 43; (with_reducible refine (impl_CodeAllN.calls k1 a0 _ _ l1 ([] : List Int) _ ?side1 ?side2 N1 K1).mono ?_); (case side1 => repeat (first | exact (Kd.C_below HR1.out zha_1) | (with_reducible refine Kd.C_alloc ?_ _) | (with_reducible refine Kd.C_drewN ?_ _) | (with_reducible refine Kd.C_drew ?_))); (case side2 => exact HC1.out); rintro e w1 ⟨v1, rfl, z1, ho0, hb⟩; have ez_ := z1 rfl; subst ez_; clear z1; have nA_ := Aside0.mk (Kd.R_lower ho0 (below_size zha_1)); have nB_ := Aside0.mk (below_step zha_1 hb); clear HB; have HOx := nA_; have HB := nB_; clear nA_ nB_; clear hb ho0) | (go_at_call 43; (with_reducible refine (impl_CodeAll.calls k2 a0 _ _ l2 y _ ?side1 ?side2 K2).mono ?_); (case side1 => repeat (first | exact (Kd.C_below HR2.out zha_1) | (with_reducible refine Kd.C_alloc ?_ _) | (with_reducible refine Kd.C_drewN ?_ _) | (with_reducible refine Kd.C_drew ?_))); (case side2 => exact HC2.out); rintro e w2 ⟨v2, rfl, ho0, hb⟩; have nB_ := Aside0.mk (below_step zha_1 hb); clear HB; have HB := nB_; clear nB_; clear hb ho0)))
  go_ret
  exact ⟨rfl, zha_1⟩
set_option maxHeartbeats 8000000 in
set_option maxRecDepth 100000 in
theorem impl_CodeApart.calls2 (a0 : Int) (A1 : Option Addr) (c1 : Nat) (l1 : List Int) (A2 : Option Addr) (c2 : Nat) (l2 : List Int) (x y : List Int) (r : Int) (k1 k2 : Nat) (w : World) (hr1 : Kd.C (Kd.int .i64) w A1 l1.length l1) (hc1 : l1.length ≤ c1) (hr2 : Kd.C (Kd.int .i64) w A2 l2.length l2) (hc2 : l2.length ≤ c2) (K1 : impl_CodeAll.f k1 a0 l1 = some x) (N1 : ∀ a b c d, impl_vectorOf.f l1 = some (a, b, c, d, true) → impl_kindOk.f a0 = some true → x ≠ []) (K2 : impl_CodeAll.f k2 a0 l2 = some y) (N2 : ∀ a b c d, impl_vectorOf.f l2 = some (a, b, c, d, true) → impl_kindOk.f a0 = some true → y ≠ []) (hx : 0 < x.length) (hy : y = []) :
    Calls Try.prog 39 #[.int .i64 a0, .slice A1 l1.length c1, .slice A2 l2.length c2] w fun e w' => e = .returned (.int .i64 (-1)) ∧ Below w.heap.size w w' := by
  have HR1 := Aside0.mk hr1
  have HC1 := Aside0.mk hc1
  have HR2 := Aside0.mk hr2
  have HC2 := Aside0.mk hc2
  clear hr1 hc1 hr2 hc2
  have HB := Aside0.mk (Below.refl w.heap.size w)
  have q0 : ∀ W : World, (Sem.run Try.prog (binOp BinOp.eql 28 (Value.slice none 0 0) (Value.slice none 0 0)) W) = Result.ok (.bool true) W := fun W => by rfl
  have q1 : ∀ (W : World) (a : Addr) (n c : Nat), (Sem.run Try.prog (binOp BinOp.eql 28 (Value.slice (some a) n c) (Value.slice none 0 0)) W) = Result.ok (.bool false) W := fun W a n c => by rfl
  subst hy
  have HX := Aside0.mk hx
  go_enter Try.func39, Try.ntmps39
  go_wp2_with (first | (go_at_call 43; (with_reducible refine (impl_CodeAllN.calls k1 a0 _ _ l1 x _ ?side1 ?side2 N1 K1).mono ?_); (case side1 => repeat (first | exact (Kd.C_below HR1.out zha_1) | (with_reducible refine Kd.C_alloc ?_ _) | (with_reducible refine Kd.C_drewN ?_ _) | (with_reducible refine Kd.C_drew ?_))); (case side2 => exact HC1.out); rintro e w1 ⟨v1, rfl, z1, ho0, hb⟩; clear z1; obtain ⟨ax, cx, eo_⟩ := Kd.R_slice1 ho0 HX.out; subst eo_; have nA_ := Aside0.mk (Kd.R_lower ho0 (below_size zha_1)); have nB_ := Aside0.mk (below_step zha_1 hb); clear HB; have HOx := nA_; have HB := nB_; clear nA_ nB_; clear hb ho0) | (go_at_call 43; (with_reducible refine (impl_CodeAllN.calls k2 a0 _ _ l2 ([] : List Int) _ ?side1 ?side2 N2 K2).mono ?_); (case side1 => repeat (first | exact (Kd.C_below HR2.out zha_1) | (with_reducible refine Kd.C_alloc ?_ _) | (with_reducible refine Kd.C_drewN ?_ _) | (with_reducible refine Kd.C_drew ?_))); (case side2 => exact HC2.out); rintro e w2 ⟨v2, rfl, z2, ho0, hb⟩; have ez_ := z2 rfl; subst ez_; clear z2; have nA_ := Aside0.mk (Kd.R_lower ho0 (below_size zha_1)); have nB_ := Aside0.mk (below_step zha_1 hb); have nK_ := Aside0.mk (Kd.R_below zha_4 hb); clear HB; clear HOx; have HOy := nA_; have HB := nB_; have HOx := nK_; clear nA_ nB_ nK_; clear hb ho0))
  repeat (go_quiet (first | (go_at_call 43; (with_reducible refine (impl_CodeAllN.calls k1 a0 _ _ l1 x _ ?side1 ?side2 N1 K1).mono ?_); (case side1 => repeat (first | exact (Kd.C_below HR1.out zha_1) | (with_reducible refine Kd.C_alloc ?_ _) | (with_reducible refine Kd.C_drewN ?_ _) | (with_reducible refine Kd.C_drew ?_))); (case side2 => exact HC1.out); rintro e w1 ⟨v1, rfl, z1, ho0, hb⟩; clear z1; obtain ⟨ax, cx, eo_⟩ := Kd.R_slice1 ho0 HX.out; subst eo_; have nA_ := Aside0.mk (Kd.R_lower ho0 (below_size zha_1)); have nB_ := Aside0.mk (below_step zha_1 hb); clear HB; have HOx := nA_; have HB := nB_; clear nA_ nB_; clear hb ho0) | (go_at_call 43; (with_reducible refine (impl_CodeAllN.calls k2 a0 _ _ l2 ([] : List Int) _ ?side1 ?side2 N2 K2).mono ?_); (case side1 => repeat (first | exact (Kd.C_below HR2.out zha_1) | (with_reducible refine Kd.C_alloc ?_ _) | (with_reducible refine Kd.C_drewN ?_ _) | (with_reducible refine Kd.C_drew ?_))); (case side2 => exact HC2.out); rintro e w2 ⟨v2, rfl, z2, ho0, hb⟩; have ez_ := z2 rfl; subst ez_; clear z2; have nA_ := Aside0.mk (Kd.R_lower ho0 (below_size zha_1)); have nB_ := Aside0.mk (below_step zha_1 hb); have nK_ := Aside0.mk (Kd.R_below zha_4 hb); clear HB; clear HOx; have HOy := nA_; have HB := nB_; have HOx := nK_; clear nA_ nB_ nK_; clear hb ho0)); try go_wp2_with (first | (go_at_call 43; (with_reducible refine (impl_CodeAllN.calls k1 a0 _ _ l1 x _ ?side1 ?side2 N1 K1).mono ?_); (case side1 => repeat (first | exact (Kd.C_below HR1.out zha_1) | (with_reducible refine Kd.C_alloc ?_ _) | (with_reducible refine Kd.C_drewN ?_ _) | (with_reducible refine Kd.C_drew ?_))); (case side2 => exact HC1.out); rintro e w1 ⟨v1, rfl, z1, ho0, hb⟩; clear z1; obtain ⟨ax, cx, eo_⟩ := Kd.R_slice1 ho0 HX.out; subst eo_; have nA_ := Aside0.mk (Kd.R_lower ho0 (below_size zha_1)); have nB_ := Aside0.mk (below_step zha_1 hb); clear HB; have HOx := nA_; have HB := nB_; clear nA_ nB_; clear hb ho0) | (go_at_call 43; (with_reducible refine (impl_CodeAllN.calls k2 a0 _ _ l2 ([] : List Int) _ ?side1 ?side2 N2 K2).mono ?_); (case side1 => repeat (first | exact (Kd.C_below HR2.out zha_1) | (with_reducible refine Kd.C_alloc ?_ _) | (with_reducible refine Kd.C_drewN ?_ _) | (with_reducible refine Kd.C_drew ?_))); (case side2 => exact HC2.out); rintro e w2 ⟨v2, rfl, z2, ho0, hb⟩; have ez_ := z2 rfl; subst ez_; clear z2; have nA_ := Aside0.mk (Kd.R_lower ho0 (below_size zha_1)); have nB_ := Aside0.mk (below_step zha_1 hb); have nK_ := Aside0.mk (Kd.R_below zha_4 hb); clear HB; clear HOx; have HOy := nA_; have HB := nB_; have HOx := nK_; clear nA_ nB_ nK_; clear hb ho0)))
  go_ret
  exact ⟨rfl, zha_1⟩
set_option maxHeartbeats 8000000 in
set_option maxRecDepth 100000 in
theorem impl_CodeApart.calls3 (a0 : Int) (A1 : Option Addr) (c1 : Nat) (l1 : List Int) (A2 : Option Addr) (c2 : Nat) (l2 : List Int) (x y : List Int) (r : Int) (k1 k2 : Nat) (w : World) (hr1 : Kd.C (Kd.int .i64) w A1 l1.length l1) (hc1 : l1.length ≤ c1) (hr2 : Kd.C (Kd.int .i64) w A2 l2.length l2) (hc2 : l2.length ≤ c2) (K1 : impl_CodeAll.f k1 a0 l1 = some x) (N1 : ∀ a b c d, impl_vectorOf.f l1 = some (a, b, c, d, true) → impl_kindOk.f a0 = some true → x ≠ []) (K2 : impl_CodeAll.f k2 a0 l2 = some y) (N2 : ∀ a b c d, impl_vectorOf.f l2 = some (a, b, c, d, true) → impl_kindOk.f a0 = some true → y ≠ []) (hx : 0 < x.length) (hy : 0 < y.length) (kk : Nat) (h : apartF.l0 kk x y 0 0 = some r) :
    Calls Try.prog 39 #[.int .i64 a0, .slice A1 l1.length c1, .slice A2 l2.length c2] w fun e w' => e = .returned (.int .i64 r) ∧ Below w.heap.size w w' := by
  have HR1 := Aside0.mk hr1
  have HC1 := Aside0.mk hc1
  have HR2 := Aside0.mk hr2
  have HC2 := Aside0.mk hc2
  clear hr1 hc1 hr2 hc2
  have HB := Aside0.mk (Below.refl w.heap.size w)
  have q0 : ∀ W : World, (Sem.run Try.prog (binOp BinOp.eql 28 (Value.slice none 0 0) (Value.slice none 0 0)) W) = Result.ok (.bool true) W := fun W => by rfl
  have q1 : ∀ (W : World) (a : Addr) (n c : Nat), (Sem.run Try.prog (binOp BinOp.eql 28 (Value.slice (some a) n c) (Value.slice none 0 0)) W) = Result.ok (.bool false) W := fun W a n c => by rfl
  have HX := Aside0.mk hx
  have HY := Aside0.mk hy
  have H' := Aside0.mk h
  clear h
  go_enter Try.func39, Try.ntmps39
  go_wp2_with (first | (go_at_call 43; (with_reducible refine (impl_CodeAllN.calls k1 a0 _ _ l1 x _ ?side1 ?side2 N1 K1).mono ?_); (case side1 => repeat (first | exact (Kd.C_below HR1.out zha_1) | (with_reducible refine Kd.C_alloc ?_ _) | (with_reducible refine Kd.C_drewN ?_ _) | (with_reducible refine Kd.C_drew ?_))); (case side2 => exact HC1.out); rintro e w1 ⟨v1, rfl, z1, ho0, hb⟩; clear z1; obtain ⟨ax, cx, eo_⟩ := Kd.R_slice1 ho0 HX.out; subst eo_; have nA_ := Aside0.mk (Kd.R_lower ho0 (below_size zha_1)); have nB_ := Aside0.mk (below_step zha_1 hb); clear HB; have HOx := nA_; have HB := nB_; clear nA_ nB_; clear hb ho0) | (go_at_call 43; (with_reducible refine (impl_CodeAllN.calls k2 a0 _ _ l2 y _ ?side1 ?side2 N2 K2).mono ?_); (case side1 => repeat (first | exact (Kd.C_below HR2.out zha_1) | (with_reducible refine Kd.C_alloc ?_ _) | (with_reducible refine Kd.C_drewN ?_ _) | (with_reducible refine Kd.C_drew ?_))); (case side2 => exact HC2.out); rintro e w2 ⟨v2, rfl, z2, ho0, hb⟩; clear z2; obtain ⟨ay, cy, eo_⟩ := Kd.R_slice1 ho0 HY.out; subst eo_; have nA_ := Aside0.mk (Kd.R_lower ho0 (below_size zha_1)); have nB_ := Aside0.mk (below_step zha_1 hb); have nK_ := Aside0.mk (Kd.R_below zha_4 hb); clear HB; clear HOx; have HOy := nA_; have HB := nB_; have HOx := nK_; clear nA_ nB_ nK_; clear hb ho0))
  repeat (go_quiet (first | (go_at_call 43; (with_reducible refine (impl_CodeAllN.calls k1 a0 _ _ l1 x _ ?side1 ?side2 N1 K1).mono ?_); (case side1 => repeat (first | exact (Kd.C_below HR1.out zha_1) | (with_reducible refine Kd.C_alloc ?_ _) | (with_reducible refine Kd.C_drewN ?_ _) | (with_reducible refine Kd.C_drew ?_))); (case side2 => exact HC1.out); rintro e w1 ⟨v1, rfl, z1, ho0, hb⟩; clear z1; obtain ⟨ax, cx, eo_⟩ := Kd.R_slice1 ho0 HX.out; subst eo_; have nA_ := Aside0.mk (Kd.R_lower ho0 (below_size zha_1)); have nB_ := Aside0.mk (below_step zha_1 hb); clear HB; have HOx := nA_; have HB := nB_; clear nA_ nB_; clear hb ho0) | (go_at_call 43; (with_reducible refine (impl_CodeAllN.calls k2 a0 _ _ l2 y _ ?side1 ?side2 N2 K2).mono ?_); (case side1 => repeat (first | exact (Kd.C_below HR2.out zha_1) | (with_reducible refine Kd.C_alloc ?_ _) | (with_reducible refine Kd.C_drewN ?_ _) | (with_reducible refine Kd.C_drew ?_))); (case side2 => exact HC2.out); rintro e w2 ⟨v2, rfl, z2, ho0, hb⟩; clear z2; obtain ⟨ay, cy, eo_⟩ := Kd.R_slice1 ho0 HY.out; subst eo_; have nA_ := Aside0.mk (Kd.R_lower ho0 (below_size zha_1)); have nB_ := Aside0.mk (below_step zha_1 hb); have nK_ := Aside0.mk (Kd.R_below zha_4 hb); clear HB; clear HOx; have HOy := nA_; have HB := nB_; have HOx := nK_; clear nA_ nB_ nK_; clear hb ho0)); try go_wp2_with (first | (go_at_call 43; (with_reducible refine (impl_CodeAllN.calls k1 a0 _ _ l1 x _ ?side1 ?side2 N1 K1).mono ?_); (case side1 => repeat (first | exact (Kd.C_below HR1.out zha_1) | (with_reducible refine Kd.C_alloc ?_ _) | (with_reducible refine Kd.C_drewN ?_ _) | (with_reducible refine Kd.C_drew ?_))); (case side2 => exact HC1.out); rintro e w1 ⟨v1, rfl, z1, ho0, hb⟩; clear z1; obtain ⟨ax, cx, eo_⟩ := Kd.R_slice1 ho0 HX.out; subst eo_; have nA_ := Aside0.mk (Kd.R_lower ho0 (below_size zha_1)); have nB_ := Aside0.mk (below_step zha_1 hb); clear HB; have HOx := nA_; have HB := nB_; clear nA_ nB_; clear hb ho0) | (go_at_call 43; (with_reducible refine (impl_CodeAllN.calls k2 a0 _ _ l2 y _ ?side1 ?side2 N2 K2).mono ?_); (case side1 => repeat (first | exact (Kd.C_below HR2.out zha_1) | (with_reducible refine Kd.C_alloc ?_ _) | (with_reducible refine Kd.C_drewN ?_ _) | (with_reducible refine Kd.C_drew ?_))); (case side2 => exact HC2.out); rintro e w2 ⟨v2, rfl, z2, ho0, hb⟩; clear z2; obtain ⟨ay, cy, eo_⟩ := Kd.R_slice1 ho0 HY.out; subst eo_; have nA_ := Aside0.mk (Kd.R_lower ho0 (below_size zha_1)); have nB_ := Aside0.mk (below_step zha_1 hb); have nK_ := Aside0.mk (Kd.R_below zha_4 hb); clear HB; clear HOx; have HOy := nA_; have HB := nB_; have HOx := nK_; clear nA_ nB_ nK_; clear hb ho0)))
  go_loopg [9, 25] kk (fun kq v9 v25 w' => ∃ (m i : Int), v9 = .int .i64 m ∧ v25 = .int .i64 i ∧ Aside0 (apartF.l0 kq x y m i = some r) ∧ Aside0 (kq ≤ kk) ∧ Aside0 (Kd.R (Kd.int .i64) 3 w' w.heap.size (fun _ => True) (.slice (some ax) x.length cx) x) ∧ Aside0 (Kd.R (Kd.int .i64) 3 w' w.heap.size (fun _ => True) (.slice (some ay) y.length cy) y) ∧ Aside0 (Below w.heap.size w w'))
  case atStart => exact ⟨0, 0, zha_6, zha_6, H', ⟨Nat.le_refl _⟩, ⟨zha_4⟩, ⟨zha_7⟩, ⟨zha_1⟩⟩
  case round =>
    clear H' HOx HOy HB
    obtain ⟨m, i, rfl, rfl, HA, HK2, HOx, HOy, HB⟩ := hrel
    cases gk with
    | zero => exact absurd HA.out (by simp [apartF.l0])
    | succ k2 =>
      have H := HA.out
      clear HA
      simp only [apartF.l0] at H
      by_cases c1 : i < (x.length : Int)
      · rw [if_pos c1] at H
        have c1b0 : decide (i < (x.length : Int)) = true := decide_eq_true c1
        clear c1
        by_cases c2 : 0 ≤ i
        · rw [if_pos c2] at H
          have c2b0 : decide (0 ≤ i) = true := decide_eq_true c2
          clear c2
          by_cases c3 : i < (y.length : Int)
          · rw [if_pos c3] at H
            have c3b0 : decide (i < (y.length : Int)) = true := decide_eq_true c3
            clear c3
            by_cases c4 : (rd x i) = (rd y i)
            · rw [if_pos c4] at H
              have c4b0 : ((rd x i) == (rd y i)) = true := beq_iff_eq.mpr c4
              have c4b1 : ((rd x i) != (rd y i)) = false := bne_eq_false_iff_eq.mpr c4
              clear c4
              have H' := Aside0.mk H
              clear H
              have px : 0 ≤ (i : Int) := of_decide_eq_true (by assumption)
              have qx : i < (x.length : Int) := of_decide_eq_true (by assumption)
              obtain ⟨adx, ex, hxx⟩ := Kd.at_int (Kd.R_reads' HOx.out).2.2 i px qx
              cases ex
              replace px := eq_true px
              replace qx := eq_true qx
              have py : 0 ≤ (i : Int) := of_decide_eq_true (by assumption)
              have qy : i < (y.length : Int) := of_decide_eq_true (by assumption)
              obtain ⟨ady, ey, hxy⟩ := Kd.at_int (Kd.R_reads' HOy.out).2.2 i py qy
              cases ey
              replace py := eq_true py
              replace qy := eq_true qy
              go_wp2
              repeat (go_quiet (fail); try go_wp2)
              go_roundg k2
              case measure => have := HK2.out; omega
              case rel => exact ⟨m, wrap64 (i + 1), zha_6, zha_6, H', ⟨by have := HK2.out; omega⟩, ⟨zha_4⟩, ⟨zha_7⟩, ⟨zha_1⟩⟩
            · rw [if_neg c4] at H
              have c4b0 : ((rd x i) == (rd y i)) = false := beq_eq_false_iff_ne.mpr c4
              have c4b1 : ((rd x i) != (rd y i)) = true := bne_iff_ne.mpr c4
              clear c4
              have H' := Aside0.mk H
              clear H
              have px : 0 ≤ (i : Int) := of_decide_eq_true (by assumption)
              have qx : i < (x.length : Int) := of_decide_eq_true (by assumption)
              obtain ⟨adx, ex, hxx⟩ := Kd.at_int (Kd.R_reads' HOx.out).2.2 i px qx
              cases ex
              replace px := eq_true px
              replace qx := eq_true qx
              have py : 0 ≤ (i : Int) := of_decide_eq_true (by assumption)
              have qy : i < (y.length : Int) := of_decide_eq_true (by assumption)
              obtain ⟨ady, ey, hxy⟩ := Kd.at_int (Kd.R_reads' HOy.out).2.2 i py qy
              cases ey
              replace py := eq_true py
              replace qy := eq_true qy
              go_wp2
              repeat (go_quiet (fail); try go_wp2)
              go_roundg k2
              case measure => have := HK2.out; omega
              case rel => exact ⟨wrap64 (m + 1), wrap64 (i + 1), zha_6, zha_6, H', ⟨by have := HK2.out; omega⟩, ⟨zha_4⟩, ⟨zha_7⟩, ⟨zha_1⟩⟩
          · rw [if_neg c3] at H
            exact absurd H (by simp)
        · rw [if_neg c2] at H
          exact absurd H (by simp)
      · rw [if_neg c1] at H
        have c1b0 : decide (i < (x.length : Int)) = false := decide_eq_false c1
        clear c1
        obtain rfl := Option.some.inj H
        go_wp2
        repeat (go_quiet (fail); try go_wp2)
        go_ret
        exact ⟨rfl, zha_1⟩
end Go.Proofs.Ytamaejafddmagaa.PA
