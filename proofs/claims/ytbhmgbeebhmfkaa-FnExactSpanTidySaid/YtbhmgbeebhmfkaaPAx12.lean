-- Written by a program of this session (after the manner of the kit's print, several laws in one text).
import Derived.Test.YtbhmgbeebhmfkaaHp
import Derived.Test.YtbhmgbeebhmfkaaPAx0
import Derived.Test.YtbhmgbeebhmfkaaPAx5
import Derived.Test.YtbhmgbeebhmfkaaPAx11
import Derived.Test.YtbhmgbeebhmfkaaGw
import Derived.Test.YtbhmgbeebhmfkaaGm
namespace Go.Proofs.Ytbhmgbeebhmfkaa.PA
open Go.RowKit Go.Proofs.YtbhmgbeebhmfkaaW.PrintWords Go.Proofs.YtbhmgbeebhmfkaaW.PrintLast Go.Proofs.YtbhmgbeebhmfkaaW.PrintMore
attribute [local go_sem] max2_int min2_int max_two min_two max_three min_three max_four min_four   -- for this text's walks alone
set_option linter.unusedVariables false
set_option linter.unusedSimpArgs false

-- GIVEN: function 61 (impl_vector_list)

-- NOT PRINTED: function 62 (slices_Clip_int_int)

/-! ### impl_SpanTidy: function 34 -/
theorem zL12 {p q : Prop} (h : q) (t : q → p := by intro h_; (with_reducible repeat first|refine blk_drewN ?_ _|refine blk_drew ?_|refine blk_alloc ?_ _); exact h_) : p := t h
theorem z12_1 {p : Prop} (h : p := by repeat (first | (with_reducible first | exact HB.out | apply below_alloc | apply pw_below_drewN | apply below_drew1) | exact HB.out)) : p := h
theorem z12_2 {p : Prop} (h : p := by repeat (first | (with_reducible first | exact HB.out | apply below_alloc | apply pw_below_drewN | apply below_drew1 | refine below_set ?_ GE368.out) | exact HB.out)) : p := h
theorem z12_3 {p : Prop} (h : p := by (try simp only [List.map_toArray, List.map_cons, List.map_nil]); first | done | rfl | (simp only [List.length_drop, List.length_take]; rfl)) : p := h
theorem z12_4 {p : Prop} (h : p := by first | rfl | (simp; done) | (simp [*]; done)) : p := h
theorem z12_5 {p : Prop} (h : p := by first | (with_reducible assumption) | assumption) : p := h
theorem z12_6 {p : Prop} (h : p := by repeat (first | exact Drawn0.refl _ | apply Drawn0.step)) : p := h
theorem z12_7 {p : Prop} (h : p := by (with_reducible repeat (first | apply Kd.S_alloc | apply Kd.S_drewN | apply Kd.S_drew)); exact HO_5.out) : p := h
theorem z12_8 {p : Prop} (h : p := by (with_reducible repeat (first | apply Kd.R_alloc | apply Kd.R_drewN | apply Kd.R_drew)); exact HO360.out) : p := h
theorem z12_9 {p : Prop} (h : p := by (with_reducible repeat (first | apply Kd.R_alloc | apply Kd.R_drewN | apply Kd.R_drew)); exact HO_19.out) : p := h
def impl_SpanTidy.l0 : Nat → List (List Int) → List (S59) → Int → Int → Option ((List (List Int)))
  | 0, _, _, _, _ => none
  | k + 1, x5, x19, x20, x21 => if x21 < x20 then (if 0 ≤ x21 then (if x21 < (x19.length : Int) then ((impl_vector_list.f ((rd_T59 x19 x21).f0) ((rd_T59 x19 x21).f1) ((rd_T59 x19 x21).f2) ((rd_T59 x19 x21).f3)).bind fun t369 => (if x5.length < 5864062014805 then (impl_SpanTidy.l0 k (x5 ++ [t369]) x19 x20 (wrap64 (x21 + 1))) else (none))) else (none)) else (none)) else (some x5)
def impl_SpanTidy.f (k : Nat) (l0 : List (List Int)) : Option ((List (List Int))) := (impl_matrixOf.f k l0).bind fun bt357 => (if bt357.2 = true then (if 0 ≤ (l0.length : Int) then (if ((l0.length : Int) : Int).toNat ≤ 11728124029610 then ((impl_tidy.f k bt357.1).bind fun t364 => (impl_SpanTidy.l0 k (([] : List (List Int))) t364 (t364.length : Int) 0)) else (none)) else (none)) else (some ([] : List (List Int))))
set_option maxHeartbeats 8000000 in
set_option maxRecDepth 100000 in
theorem impl_SpanTidy.calls (k : Nat) (A0 : Option Addr) (c0 : Nat) (l0 : List (List Int)) (r : List (List Int)) (w : World) (hr0 : Kd.C (Kd.slice 3 (Kd.int .i64)) w A0 l0.length l0) (hc0 : l0.length ≤ c0) (h : impl_SpanTidy.f k l0 = some r) :
  Calls Try.prog 34 #[.slice A0 l0.length c0] w fun e w' => ∃ v0_ : Value, e = .returned (clip v0_) ∧ Kd.S (Kd.slice 3 (Kd.int .i64)) 28 w' w.heap.size (fun _ => True) v0_ r ∧ Below w.heap.size w w' := by
 have hu59 := Try.underlying59
 have HR0 := Aside0.mk hr0
 have HC0 := Aside0.mk hc0
 clear hr0 hc0
 have HB := Aside0.mk (Below.refl w.heap.size w)
 have H : ((impl_matrixOf.f k l0).bind fun bt357 => (if bt357.2 = true then (if 0 ≤ (l0.length : Int) then (if ((l0.length : Int) : Int).toNat ≤ 11728124029610 then ((impl_tidy.f k bt357.1).bind fun t364 => (impl_SpanTidy.l0 k (([] : List (List Int))) t364 (t364.length : Int) 0)) else (none)) else (none)) else (some ([] : List (List Int))))) = some r := h
 clear h
 replace H := Option.bind_eq_some_iff.mp H
 obtain ⟨⟨t357, t358⟩, A20, H⟩ := H
 replace H : (if t358 = true then (if 0 ≤ (l0.length : Int) then (if ((l0.length : Int) : Int).toNat ≤ 11728124029610 then ((impl_tidy.f k t357).bind fun t364 => (impl_SpanTidy.l0 k (([] : List (List Int))) t364 (t364.length : Int) 0)) else (none)) else (none)) else (some ([] : List (List Int)))) = some r := H
 have A2 := Aside0.mk A20
 clear A20
 by_cases c3 : t358 = true
 ·subst c3
  have H1 : (if 0 ≤ (l0.length : Int) then (if ((l0.length : Int) : Int).toNat ≤ 11728124029610 then ((impl_tidy.f k t357).bind fun t364 => (impl_SpanTidy.l0 k (([] : List (List Int))) t364 (t364.length : Int) 0)) else (none)) else (none)) = some r := by rw [if_pos rfl] at H; exact H
  clear H
  have H := H1
  clear H1
  obtain ⟨c4, H⟩ := ifP H
  have c4b0 := eq_true c4
  have c4b1 : decide (0 ≤ (l0.length : Int)) = true := decide_eq_true c4
  clear c4
  obtain ⟨c5, H⟩ := ifP H
  have c5b0 := eq_true c5
  have c5b1 : decide (((l0.length : Int) : Int).toNat ≤ 11728124029610) = true := decide_eq_true c5
  clear c5
  obtain ⟨y361, hy361⟩ : ∃ y_ : List (List Int), y_ = (([] : List (List Int))) := ⟨_, rfl⟩
  replace H : ((impl_tidy.f k t357).bind fun t364 => (impl_SpanTidy.l0 k y361 t364 (t364.length : Int) 0)) = some r := by first | (rw [hy361]; with_reducible exact H) | (have H2_ := (Option.bind_some _ _).symm.trans H; rw [hy361]; with_reducible exact H2_) | (have H2_ := (Option.bind_some _ _).symm.trans H; with_reducible exact H2_) | with_reducible exact H | (rw [hy361]; exact H) | exact H
  have Ny361 := Aside0.mk hy361
  clear hy361
  replace H := Option.bind_eq_some_iff.mp H
  obtain ⟨t364, A60, H⟩ := H
  replace H : (impl_SpanTidy.l0 k y361 t364 (t364.length : Int) 0) = some r := H
  have A6 := Aside0.mk A60
  clear A60
  have H' := Aside0.mk H
  clear H
  go_enter Try.func34, Try.ntmps34
  go_wp2_with (first | ((with_reducible refine gate_callee (f := 49) rfl ?_); refine goesL_ (some 10) rfl rfl Try.func49 (by kernel_rfl) rfl #[.slice A0 l0.length c0] rfl z12_3 ?_; (with_reducible refine (impl_matrixOf.calls k _ _ l0 t357 true _ ?side1 ?side2 A2.out).mono ?_); (case side1 => exact cZ (HR0.out)); (case side2 => exact HC0.out); rintro e w7 ⟨v359, rfl, ho0, hb⟩; refine ⟨_, rfl, ?_⟩; have HO360 := Aside0.mk (Kd.R_lower ho0 (below_size z12_1)); replace HB := Aside0.mk (below_step z12_1 hb); (try clear hb); (try clear ho0)) | ((with_reducible refine gate_dst (N := 17) rfl ?_); refine R_make0 (Kd.slice 3 (Kd.int .i64)) _ 28 rfl (N := 17) rfl 22 _ _ rfl (l0.length : Int) rfl rfl Try.underlying22 (.slice none 0 0) 24 info28 (by decide) (ok := fun _ => True) (okp := fun _ => True) (fun _ hk => hk) trivial (of_decide_eq_true z12_5) (Nat.le_trans (Nat.mul_le_mul_right _ (of_decide_eq_true z12_5 : (l0.length : Int).toNat ≤ 11728124029610)) (by omega)) (Below.refl _ _) (Nat.le_refl _) ?_; intro v362 w8 ho9 hb hg_ hnew_; clear hg_ hnew_; replace ho9 := S_of_empty ho9; (first | rw [← Ny361.out] at ho9 | (simp only [Int.reduceToNat] at ho9; rw [← Ny361.out] at ho9)); replace HO360 := Aside0.mk (Kd.R_below z12_8 hb); have HO363 := Aside0.mk (Kd.S_lower ho9 (below_size z12_1)); replace HB := Aside0.mk (below_step z12_1 hb); clear hb ho9; obtain ⟨Ao10, co10, eo10⟩ := Kd.R_slice HO360.out; subst eo10) | ((with_reducible refine gate_callee (f := 60) rfl ?_); refine goesL_ (some 19) rfl rfl Try.func60 (by kernel_rfl) rfl #[.slice Ao10 t357.length co10] rfl z12_3 ?_; (with_reducible refine (impl_tidy.calls k _ _ t357 t364 _ ?side1 ?side2 A6.out).mono ?_); (case side1 => exact cZ ((Kd.R_reads' HO360.out).2.2)); (case side2 => exact (Kd.R_reads' HO360.out).2.1); rintro e w11 ⟨v365, rfl, ho0, hb⟩; refine ⟨_, rfl, ?_⟩; replace HO363 := Aside0.mk (Kd.S_below (by (with_reducible repeat (first | apply Kd.S_alloc | apply Kd.S_drewN | apply Kd.S_drew)); exact HO363.out) hb); have HO366 := Aside0.mk (Kd.R_lower (Kd.R_new' ho0 (Kd.R_lt z12_8)) (below_size z12_1)); replace HO360 := Aside0.mk (Kd.R_elder' z12_8 (Kd.R_base ho0) hb); replace HB := Aside0.mk (below_step z12_1 hb); (try clear hb); (try clear ho0); obtain ⟨Ao12, co12, eo12⟩ := Kd.R_slice HO366.out; subst eo12))
  go_loopg [5, 21] k (fun kq v5 v21 w' => ∃ (x5_1 : List (List Int)) (x21_1 : Int), v21 = .int .i64 x21_1 ∧ Aside0 (impl_SpanTidy.l0 kq x5_1 t364 (t364.length : Int) x21_1 = some r) ∧ Aside0 (kq ≤ k) ∧ Aside0 (Kd.S (Kd.slice 3 (Kd.int .i64)) 28 w' w.heap.size (fun _ => True) v5 x5_1) ∧ Aside0 (Kd.R k59 59 w' w.heap.size (fun _ => True) (.slice Ao12 t364.length co12) t364) ∧ Aside0 (Below w.heap.size w w'))
  case atStart => exact ⟨(y361), (0), z12_4, H', ⟨Nat.le_refl _⟩, ⟨by (with_reducible repeat (first | apply Kd.S_alloc | apply Kd.S_drewN | apply Kd.S_drew)); exact HO363.out⟩, ⟨by (with_reducible repeat (first | apply Kd.R_alloc | apply Kd.R_drewN | apply Kd.R_drew)); exact Kd.R_mono HO366.out (fun _ hk => trivial)⟩, ⟨z12_1⟩⟩
  case round =>
   clear H'
   try clear c3
   try clear c4
   try clear c4b0
   try clear c4b1
   try clear c5
   try clear c5b0
   try clear c5b1
   obtain ⟨x5_1, x21_1, rfl, HA, HK1, HO_5, HO_19, HB⟩ := hrel
   cases gk with
   | zero => exact absurd HA.out (by simp [impl_SpanTidy.l0])
   | succ k1 =>
    have H := HA.out
    clear HA
    simp only [impl_SpanTidy.l0] at H
    by_cases c13 : x21_1 < (t364.length : Int)
    ·rw [if_pos c13] at H
     have c13b0 : decide (x21_1 < (t364.length : Int)) = true := decide_eq_true c13
     clear c13
     obtain ⟨c14, H⟩ := ifP H
     have c14b0 : decide (0 ≤ x21_1) = true := decide_eq_true c14
     clear c14
     obtain ⟨c15, H⟩ := ifP H
     have c15b0 : decide (x21_1 < (t364.length : Int)) = true := decide_eq_true c15
     clear c15
     replace H := Option.bind_eq_some_iff.mp H
     obtain ⟨t369, A160, H⟩ := H
     replace H : (if x5_1.length < 5864062014805 then (impl_SpanTidy.l0 k1 (x5_1 ++ [t369]) t364 (t364.length : Int) (wrap64 (x21_1 + 1))) else (none)) = some r := H
     have A16 := Aside0.mk A160
     clear A160
     obtain ⟨c17, H⟩ := ifP H
     have LMc17 := Aside0.mk c17
     clear c17
     obtain ⟨y372, hy372⟩ : ∃ y_ : List (List Int), y_ = (x5_1 ++ [t369]) := ⟨_, rfl⟩
     replace H : (impl_SpanTidy.l0 k1 y372 t364 (t364.length : Int) (wrap64 (x21_1 + 1))) = some r := by first | (rw [hy372]; with_reducible exact H) | (have H2_ := (Option.bind_some _ _).symm.trans H; rw [hy372]; with_reducible exact H2_) | (have H2_ := (Option.bind_some _ _).symm.trans H; with_reducible exact H2_) | with_reducible exact H | (rw [hy372]; exact H) | exact H
     have Ny372 := Aside0.mk hy372
     clear hy372
     have H' := Aside0.mk H
     clear H
     have p367 : 0 ≤ (x21_1 : Int) := of_decide_eq_true z12_5
     have q367 : x21_1 < (t364.length : Int) := of_decide_eq_true z12_5
     obtain ⟨ad367, e367, hx367_0, hx367_1, hx367_2, hx367_3⟩ := at_T59 (Kd.R_reads' HO_19.out).2.2 x21_1 p367 q367
     cases e367
     replace p367 := eq_true p367
     replace q367 := eq_true q367
     go_wp2_with (first | ((with_reducible refine gate_dst (N := 7) rfl ?_); refine box_event ?hg (N := 7) ?hd (cs := #[.int .i64 0, .int .i64 0, .int .i64 0, .int .i64 0]) (t := 59) ?hr ?_; (case hd => rfl); (case hg => rfl); (case hr => first | (go_simp; done) | (go_simp; rfl)); intro gb368 hg w18 hbox hb; replace HO_5 := Aside0.mk (Kd.S_below z12_7 hb); replace HO_19 := Aside0.mk (Kd.R_below (Kd.R_elderB z12_9 gb368 (Nat.le_of_eq hg.symm)) hb); have BK368 := Aside0.mk (hbox); have GW368 := Aside0.mk ((by rw [hg]; exact (below_size z12_1) : w.heap.size ≤ gb368)); have GE368 := Aside0.mk ((by rw [hg]; exact (below_size z12_1) : w.heap.size ≤ gb368)); replace HB := Aside0.mk (below_step z12_1 hb); clear hb hbox hg; have hcz19_0 : w18.cell? ⟨gb368, 0, none⟩ = some (.int .i64 0) := (blk_cell BK368.out 0).trans rfl; have hfz19_0 := blk_frozen BK368.out 0; have hcz20_1 : w18.cell? ⟨gb368, 1, none⟩ = some (.int .i64 0) := (blk_cell BK368.out 1).trans rfl; have hfz20_1 := blk_frozen BK368.out 1; have hcz21_2 : w18.cell? ⟨gb368, 2, none⟩ = some (.int .i64 0) := (blk_cell BK368.out 2).trans rfl; have hfz21_2 := blk_frozen BK368.out 2; have hcz22_3 : w18.cell? ⟨gb368, 3, none⟩ = some (.int .i64 0) := (blk_cell BK368.out 3).trans rfl; have hfz22_3 := blk_frozen BK368.out 3) | ((with_reducible refine gate_store (t := 59) (p := 7) rfl ?_); refine store_event (t := 59) (p := 7) (v := ?vo_w23) (w1 := ((((w18.setCell ⟨gb368, 0, none⟩ (.int .i64 ((rd_T59 t364 x21_1).f0))).setCell ⟨gb368, 1, none⟩ (.int .i64 ((rd_T59 t364 x21_1).f1))).setCell ⟨gb368, 2, none⟩ (.int .i64 ((rd_T59 t364 x21_1).f2))).setCell ⟨gb368, 3, none⟩ (.int .i64 ((rd_T59 t364 x21_1).f3)))) ?hg ?ho ?hn ?hr ?_; (case ho => rfl); (case hg => rfl); (case hn => rfl); (case hr => first | (go_simp; done) | (go_simp; rfl)); intro w23 hw; have n0_ : Aside0 (Kd.S (Kd.slice 3 (Kd.int .i64)) 28 w23 w.heap.size (fun _ => True) u5 x5_1) := ⟨(by rw [hw]; exact (by (with_reducible repeat (first | apply Kd.S_alloc | apply Kd.S_drewN | apply Kd.S_drew)); exact Kd.S_mono (Kd.S_far (p := ⟨gb368, 3, none⟩) (Kd.S_far (p := ⟨gb368, 2, none⟩) (Kd.S_far (p := ⟨gb368, 1, none⟩) (Kd.S_far (p := ⟨gb368, 0, none⟩) (Kd.S_types HO_5.out BK368.out (by decide)) (fun _ hk => hk.2) (.int .i64 ((rd_T59 t364 x21_1).f0))) (fun _ hk => hk.2) (.int .i64 ((rd_T59 t364 x21_1).f1))) (fun _ hk => hk.2) (.int .i64 ((rd_T59 t364 x21_1).f2))) (fun _ hk => hk.2) (.int .i64 ((rd_T59 t364 x21_1).f3))) (fun _ hk => trivial)))⟩; have n1_ : Aside0 (Kd.R k59 59 w23 w.heap.size (fun k_ => k_ ≠ gb368) (.slice (some ad367) t364.length co12) t364) := ⟨(by rw [hw]; exact (by (with_reducible repeat (first | apply Kd.R_alloc | apply Kd.R_drewN | apply Kd.R_drew)); exact Kd.R_mono (Kd.R_far (p := ⟨gb368, 3, none⟩) (Kd.R_far (p := ⟨gb368, 2, none⟩) (Kd.R_far (p := ⟨gb368, 1, none⟩) (Kd.R_far (p := ⟨gb368, 0, none⟩) (Kd.R_mono HO_19.out (fun k_ hk => (⟨hk, hk.2⟩ : _ ∧ k_ ≠ gb368))) (fun _ hk => hk.2) (.int .i64 ((rd_T59 t364 x21_1).f0))) (fun _ hk => hk.2) (.int .i64 ((rd_T59 t364 x21_1).f1))) (fun _ hk => hk.2) (.int .i64 ((rd_T59 t364 x21_1).f2))) (fun _ hk => hk.2) (.int .i64 ((rd_T59 t364 x21_1).f3))) (fun _ hk => hk.1.2)))⟩; have n2_ : Aside0 (w23.heap[gb368]? = some (.cells #[.int .i64 ((rd_T59 t364 x21_1).f0), .int .i64 ((rd_T59 t364 x21_1).f1), .int .i64 ((rd_T59 t364 x21_1).f2), .int .i64 ((rd_T59 t364 x21_1).f3)] 59 (0, 0))) := ⟨(by rw [hw]; exact (bZ BK368.out))⟩; have n3_ : Aside0 (Below w.heap.size w w23) := ⟨(by rw [hw]; exact z12_2)⟩; clear hw; clear HO_5; clear HO_19; clear BK368; clear HB; have HO_5 := n0_; have HO_19 := n1_; have BK368 := n2_; have HB := n3_; clear n0_ n1_ n2_ n3_; have hcz24_0 : w23.cell? ⟨gb368, 0, none⟩ = some (.int .i64 ((rd_T59 t364 x21_1).f0)) := (blk_cell BK368.out 0).trans rfl; have hcz24_1 : w23.cell? ⟨gb368, 1, none⟩ = some (.int .i64 ((rd_T59 t364 x21_1).f1)) := (blk_cell BK368.out 1).trans rfl; have hcz24_2 : w23.cell? ⟨gb368, 2, none⟩ = some (.int .i64 ((rd_T59 t364 x21_1).f2)) := (blk_cell BK368.out 2).trans rfl; have hcz24_3 : w23.cell? ⟨gb368, 3, none⟩ = some (.int .i64 ((rd_T59 t364 x21_1).f3)) := (blk_cell BK368.out 3).trans rfl; have hfz24_0 := blk_frozen BK368.out 0; have hfz24_1 := blk_frozen BK368.out 1; have hfz24_2 := blk_frozen BK368.out 2; have hfz24_3 := blk_frozen BK368.out 3) | ((with_reducible refine gate_callee (f := 61) rfl ?_); refine goesL_ (some 27) rfl rfl Try.func61 (by kernel_rfl) rfl #[.agg #[.int .i64 ((rd_T59 t364 x21_1).f0), .int .i64 ((rd_T59 t364 x21_1).f1), .int .i64 ((rd_T59 t364 x21_1).f2), .int .i64 ((rd_T59 t364 x21_1).f3)]] rfl z12_3 ?_; (with_reducible refine (impl_vector_list.calls ((rd_T59 t364 x21_1).f0) ((rd_T59 t364 x21_1).f1) ((rd_T59 t364 x21_1).f2) ((rd_T59 t364 x21_1).f3) t369 _ A16.out).mono ?_); rintro e w25 ⟨v370, rfl, ho0, hb⟩; refine ⟨_, rfl, ?_⟩; replace HO_5 := Aside0.mk (Kd.S_elder' z12_7 (Kd.R_base ho0) hb); replace HO_19 := Aside0.mk (Kd.R_below z12_9 hb); have HO371 := Aside0.mk (Kd.R_lower ho0 (below_size z12_2)); replace BK368 := Aside0.mk (blk_below (g := gb368) (o := .cells #[.int .i64 ((rd_T59 t364 x21_1).f0), .int .i64 ((rd_T59 t364 x21_1).f1), .int .i64 ((rd_T59 t364 x21_1).f2), .int .i64 ((rd_T59 t364 x21_1).f3)] 59 (0, 0)) (zL12 BK368.out) hb); replace HB := Aside0.mk (below_step z12_2 hb); (try clear hb); (try clear ho0); obtain ⟨Ao27, co27, eo27⟩ := Kd.R_slice HO371.out; subst eo27) | ((with_reducible refine gate_builtin (b := .append) (xs := #[.tmp 25, .tmp 28]) rfl ?_); at_builtin; refine Kd.S_append (Kd.slice 3 (Kd.int .i64)) (w0 := w) w.heap.size rfl (.tmp 25) (.tmp 28) 22 28 (.slice none 0 0) 24 rfl Try.underlying22 info28 rfl (by decide) (by omega) u5 x5_1 t369 [.slice Ao27 t369.length co27] (fun _ => True) (fun k_ => some k_ = (.slice Ao27 t369.length co27 : Value).ownBlock) rfl rfl ?aP (fun k_ hk_ => ((Kd.R_mono (ok' := fun k_ => ((fun _ => True)) k_ ∧ some k_ ≠ (u5 : Value).ownBlock) (Kd.R_apart' (HO371.out) (Kd.S_typed HO_5.out) (by decide)) (fun k_ hk => ⟨trivial, hk.2⟩))).1 k_ hk_.symm) ?aF ?aO ?aB ?aS ?aL ?_; (case aP => exact Kd.M_row (Kd.R_mono (Kd.R_tight rfl (Kd.R_mono (ok' := fun k_ => ((fun _ => True)) k_ ∧ some k_ ≠ (u5 : Value).ownBlock) (Kd.R_apart' (HO371.out) (Kd.S_typed HO_5.out) (by decide)) (fun k_ hk => ⟨trivial, hk.2⟩))) (fun _ h_ => h_))); (case aB => exact z12_2); (case aF => exact (fun _ _ => trivial)); (case aO => exact (by (with_reducible repeat (first | apply Kd.S_alloc | apply Kd.S_drewN | apply Kd.S_drew)); exact Kd.S_mono HO_5.out (fun k_ hk => ⟨trivial, fun e_ => hk.2 e_⟩))); (case aS => exact (below_size z12_2)); (case aL => have := LMc17.out; omega); intro v373 w26 ho hb hg hat; rw [← Ny372.out] at ho; have n0_ := Aside0.mk (Kd.R_over' z12_9 (Kd.S_typed z12_7) (by decide) hg); have n1_ := Aside0.mk (blk_grown (g := gb368) (o := .cells #[.int .i64 ((rd_T59 t364 x21_1).f0), .int .i64 ((rd_T59 t364 x21_1).f1), .int .i64 ((rd_T59 t364 x21_1).f2), .int .i64 ((rd_T59 t364 x21_1).f3)] 59 (0, 0)) (zL12 BK368.out) hg (Kd.S_ne HO_5.out BK368.out (by decide))); have n2_ := Aside0.mk (hb); have n3_ := Aside0.mk (ho); clear HO_19; clear BK368; clear HB; clear HO_5; clear HO371; have HO_19 := n0_; have BK368 := n1_; have HB := n2_; have HO374 := n3_; clear n0_ n1_ n2_ n3_; clear ho hb hg hat))
     go_roundg k1
     case measure => have := HK1.out; omega
     case rel => exact ⟨(y372), (wrap64 (x21_1 + 1)), z12_4, H', ⟨by have := HK1.out; omega⟩, ⟨by (with_reducible repeat (first | apply Kd.S_alloc | apply Kd.S_drewN | apply Kd.S_drew)); exact HO374.out⟩, ⟨by (with_reducible repeat (first | apply Kd.R_alloc | apply Kd.R_drewN | apply Kd.R_drew)); exact Kd.R_mono HO_19.out (fun _ hk => trivial)⟩, ⟨z12_2⟩⟩
    ·rw [if_neg c13] at H
     have c13b0 : decide (x21_1 < (t364.length : Int)) = false := decide_eq_false c13
     clear c13
     obtain rfl := Option.some.inj H
     obtain ⟨AoC, coC, eoC⟩ := Kd.S_slice HO_5.out
     subst eoC
     go_wp2_with ((with_reducible refine gate_callee (f := 62) rfl ?_); refine goesL_ (some 32) rfl rfl Try.func62 (by kernel_rfl) rfl #[.slice AoC x5_1.length coC] rfl (by (try simp only [List.map_toArray, List.map_cons, List.map_nil]); first | done | rfl) ?_; (with_reducible refine (slices_Clip_rows.calls _ _ _ ?side1 _).mono ?_); (case side1 => exact (Kd.S_reads' HO_5.out).2.1); rintro e wC ⟨rfl, hbC⟩; refine ⟨_, rfl, ?_⟩; have HOC := Aside0.mk (Kd.S_below z12_7 hbC); have HBC := Aside0.mk (below_step z12_1 hbC); clear hbC HB HO_5; have HB := HBC)
     go_ret
     exact ⟨.slice AoC x5_1.length coC, by rfl, by (with_reducible repeat (first | apply Kd.S_alloc | apply Kd.S_drewN | apply Kd.S_drew)); exact HOC.out, z12_1⟩
 ·replace c3 := Bool.eq_false_iff.mpr c3
  subst c3
  have H1 : (some ([] : List (List Int))) = some r := by rw [if_neg (show ¬ (false = true) by decide)] at H; exact H
  clear H
  have H := H1
  clear H1
  obtain rfl := Option.some.inj H
  go_enter Try.func34, Try.ntmps34
  go_wp2_with (first | ((with_reducible refine gate_callee (f := 49) rfl ?_); refine goesL_ (some 10) rfl rfl Try.func49 (by kernel_rfl) rfl #[.slice A0 l0.length c0] rfl z12_3 ?_; (with_reducible refine (impl_matrixOf.calls k _ _ l0 t357 false _ ?side1 ?side2 A2.out).mono ?_); (case side1 => exact cZ (HR0.out)); (case side2 => exact HC0.out); rintro e w28 ⟨v359, rfl, ho0, hb⟩; refine ⟨_, rfl, ?_⟩; have HO360 := Aside0.mk (Kd.R_lower ho0 (below_size z12_1)); replace HB := Aside0.mk (below_step z12_1 hb); (try clear hb); (try clear ho0)))
  go_ret
  exact ⟨.slice none 0 0, by rfl, by first | exact Kd.S_nil _ _ _ _ _ | exact Kd.N_nil _ _ _ _ _ | exact Kd.V_nil _ _ _ _ _ | exact Kd.Q_nil _ _ _ _ _ | exact Kd.R_nil _ _ _ _ _, z12_1⟩

/-! ### laws_heldIntS: function 28 -/
def laws_heldIntS.l0 : Nat → List Int → Int → Int → Option (Int)
  | 0, _, _, _ => none
  | k + 1, x0, x1, x5 => if x5 < (x0.length : Int) then (if 0 ≤ x5 then (if (rd x0 x5) = x1 then (laws_heldIntS.l0 k x0 (wrap64 (x1 + 1)) (wrap64 (x5 + 1))) else (some (-1))) else (none)) else (some x1)
def laws_heldIntS.f (k : Nat) (l0 : List Int) (a1 : Int) : Option (Int) := laws_heldIntS.l0 k l0 a1 0
set_option maxHeartbeats 8000000 in
set_option maxRecDepth 100000 in
theorem laws_heldIntS.calls (k : Nat) (A0 : Option Addr) (c0 : Nat) (l0 : List Int) (a1 : Int) (r : Int) (w : World) (hr0 : Kd.C (Kd.int .i64) w A0 l0.length l0) (hc0 : l0.length ≤ c0) (h : laws_heldIntS.f k l0 a1 = some r) :
  Calls Try.prog 28 #[.slice A0 l0.length c0, .int .i64 a1] w fun e w' => e = .returned (.int .i64 r) ∧ Drawn0 w w' := by
 have HR0 := Aside0.mk hr0
 have HC0 := Aside0.mk hc0
 clear hr0 hc0
 have H : (laws_heldIntS.l0 k l0 a1 0) = some r := h
 clear h
 have H' := Aside0.mk H
 clear H
 go_enter Try.func28, Try.ntmps28
 go_wp2
 go_loopg [1, 5] k (fun kq v1 v5 w' => ∃ (x1_1 : Int) (x5_1 : Int), v1 = .int .i64 x1_1 ∧ v5 = .int .i64 x5_1 ∧ Aside0 (laws_heldIntS.l0 kq l0 x1_1 x5_1 = some r) ∧ Aside0 (kq ≤ k) ∧ Drawn0 w w')
 case atStart => exact ⟨(a1), (0), z12_4, z12_4, H', ⟨Nat.le_refl _⟩, z12_6⟩
 case round =>
  clear H'
  obtain ⟨x1_1, x5_1, rfl, rfl, HA, HK1, ⟨m1, rfl⟩⟩ := hrel
  cases gk with
  | zero => exact absurd HA.out (by simp [laws_heldIntS.l0])
  | succ k1 =>
   have H := HA.out
   clear HA
   simp only [laws_heldIntS.l0] at H
   by_cases c3 : x5_1 < (l0.length : Int)
   ·rw [if_pos c3] at H
    have c3b0 : decide (x5_1 < (l0.length : Int)) = true := decide_eq_true c3
    clear c3
    obtain ⟨c4, H⟩ := ifP H
    have c4b0 : decide (0 ≤ x5_1) = true := decide_eq_true c4
    clear c4
    by_cases c5 : (rd l0 x5_1) = x1_1
    ·rw [if_pos c5] at H
     have c5b0 : ((rd l0 x5_1) == x1_1) = true := beq_iff_eq.mpr c5
     have c5b1 : ((rd l0 x5_1) != x1_1) = false := bne_eq_false_iff_eq.mpr c5
     clear c5
     have H' := Aside0.mk H
     clear H
     have p375 : 0 ≤ (x5_1 : Int) := of_decide_eq_true z12_5
     have q375 : x5_1 < (l0.length : Int) := of_decide_eq_true z12_5
     obtain ⟨ad375, e375, hx375_0⟩ := Kd.at_int HR0.out x5_1 p375 q375
     cases e375
     replace p375 := eq_true p375
     replace q375 := eq_true q375
     go_wp2
     go_roundg k1
     case measure => have := HK1.out; omega
     case rel => exact ⟨(wrap64 (x1_1 + 1)), (wrap64 (x5_1 + 1)), z12_4, z12_4, H', ⟨by have := HK1.out; omega⟩, z12_6⟩
    ·rw [if_neg c5] at H
     have c5b0 : ((rd l0 x5_1) == x1_1) = false := beq_eq_false_iff_ne.mpr c5
     have c5b1 : ((rd l0 x5_1) != x1_1) = true := bne_iff_ne.mpr c5
     obtain rfl := Option.some.inj H
     have p375 : 0 ≤ (x5_1 : Int) := of_decide_eq_true z12_5
     have q375 : x5_1 < (l0.length : Int) := of_decide_eq_true z12_5
     obtain ⟨ad375, e375, hx375_0⟩ := Kd.at_int HR0.out x5_1 p375 q375
     cases e375
     replace p375 := eq_true p375
     replace q375 := eq_true q375
     go_wp2
     go_ret
     exact ⟨z12_4, z12_6⟩
   ·rw [if_neg c3] at H
    have c3b0 : decide (x5_1 < (l0.length : Int)) = false := decide_eq_false c3
    clear c3
    obtain rfl := Option.some.inj H
    go_wp2
    go_ret
    exact ⟨z12_4, z12_6⟩

/-! ### laws_heldIntSS: function 35 -/
def laws_heldIntSS.l0 : Nat → List (List Int) → Int → Int → Option (Int)
  | 0, _, _, _ => none
  | k + 1, x0, x1, x5 => if x5 < (x0.length : Int) then (if 0 ≤ x5 then ((laws_heldIntS.f k (rd_L1 x0 x5) x1).bind fun t377 => (if t377 < 0 then (some (-1)) else (laws_heldIntSS.l0 k x0 t377 (wrap64 (x5 + 1))))) else (none)) else (some x1)
def laws_heldIntSS.f (k : Nat) (l0 : List (List Int)) (a1 : Int) : Option (Int) := laws_heldIntSS.l0 k l0 a1 0
set_option maxHeartbeats 8000000 in
set_option maxRecDepth 100000 in
theorem laws_heldIntSS.calls (k : Nat) (A0 : Option Addr) (c0 : Nat) (l0 : List (List Int)) (a1 : Int) (r : Int) (w : World) (hr0 : Kd.C (Kd.slice 3 (Kd.int .i64)) w A0 l0.length l0) (hc0 : l0.length ≤ c0) (h : laws_heldIntSS.f k l0 a1 = some r) :
  Calls Try.prog 35 #[.slice A0 l0.length c0, .int .i64 a1] w fun e w' => e = .returned (.int .i64 r) ∧ Drawn0 w w' := by
 have HR0 := Aside0.mk hr0
 have HC0 := Aside0.mk hc0
 clear hr0 hc0
 have H : (laws_heldIntSS.l0 k l0 a1 0) = some r := h
 clear h
 have H' := Aside0.mk H
 clear H
 go_enter Try.func35, Try.ntmps35
 go_wp2
 go_loopg [1, 5] k (fun kq v1 v5 w' => ∃ (x1_1 : Int) (x5_1 : Int), v1 = .int .i64 x1_1 ∧ v5 = .int .i64 x5_1 ∧ Aside0 (laws_heldIntSS.l0 kq l0 x1_1 x5_1 = some r) ∧ Aside0 (kq ≤ k) ∧ Drawn0 w w')
 case atStart => exact ⟨(a1), (0), z12_4, z12_4, H', ⟨Nat.le_refl _⟩, z12_6⟩
 case round =>
  clear H'
  obtain ⟨x1_1, x5_1, rfl, rfl, HA, HK1, ⟨m1, rfl⟩⟩ := hrel
  cases gk with
  | zero => exact absurd HA.out (by simp [laws_heldIntSS.l0])
  | succ k1 =>
   have H := HA.out
   clear HA
   simp only [laws_heldIntSS.l0] at H
   by_cases c3 : x5_1 < (l0.length : Int)
   ·rw [if_pos c3] at H
    have c3b0 : decide (x5_1 < (l0.length : Int)) = true := decide_eq_true c3
    clear c3
    obtain ⟨c4, H⟩ := ifP H
    have c4b0 : decide (0 ≤ x5_1) = true := decide_eq_true c4
    clear c4
    replace H := Option.bind_eq_some_iff.mp H
    obtain ⟨t377, A50, H⟩ := H
    replace H : (if t377 < 0 then (some (-1)) else (laws_heldIntSS.l0 k1 l0 t377 (wrap64 (x5_1 + 1)))) = some r := H
    have A5 := Aside0.mk A50
    clear A50
    by_cases c6 : t377 < 0
    ·rw [if_pos c6] at H
     have c6b0 : decide (t377 < 0) = true := decide_eq_true c6
     clear c6
     obtain rfl := Option.some.inj H
     have p376 : 0 ≤ (x5_1 : Int) := of_decide_eq_true z12_5
     have q376 : x5_1 < (l0.length : Int) := of_decide_eq_true z12_5
     obtain ⟨ad376, A376_0, c376_0, e376, hx376_0, hl376_0, hi376_0⟩ := at_L1 HR0.out x5_1 p376 q376
     cases e376
     have HR376_0 := Aside0.mk hi376_0
     have HC376_0 := Aside0.mk hl376_0
     clear hi376_0 hl376_0
     replace p376 := eq_true p376
     replace q376 := eq_true q376
     go_wp2_with (first | ((with_reducible refine gate_callee (f := 28) rfl ?_); refine goesL_ (some 17) rfl rfl Try.func28 (by kernel_rfl) rfl #[.slice A376_0 (rd_L1 l0 x5_1).length c376_0, .int .i64 x1_1] rfl z12_3 ?_; (with_reducible refine (laws_heldIntS.calls k1 _ _ (rd_L1 l0 x5_1) x1_1 t377 _ ?side1 ?side2 A5.out).mono ?_); (case side1 => exact cZ (HR376_0.out)); (case side2 => exact HC376_0.out); rintro e w' ⟨rfl, ⟨nd, rfl⟩⟩; refine ⟨_, rfl, ?_⟩))
     go_ret
     exact ⟨z12_4, z12_6⟩
    ·rw [if_neg c6] at H
     have c6b0 : decide (t377 < 0) = false := decide_eq_false c6
     clear c6
     have H' := Aside0.mk H
     clear H
     have p376 : 0 ≤ (x5_1 : Int) := of_decide_eq_true z12_5
     have q376 : x5_1 < (l0.length : Int) := of_decide_eq_true z12_5
     obtain ⟨ad376, A376_0, c376_0, e376, hx376_0, hl376_0, hi376_0⟩ := at_L1 HR0.out x5_1 p376 q376
     cases e376
     have HR376_0 := Aside0.mk hi376_0
     have HC376_0 := Aside0.mk hl376_0
     clear hi376_0 hl376_0
     replace p376 := eq_true p376
     replace q376 := eq_true q376
     go_wp2_with (first | ((with_reducible refine gate_callee (f := 28) rfl ?_); refine goesL_ (some 17) rfl rfl Try.func28 (by kernel_rfl) rfl #[.slice A376_0 (rd_L1 l0 x5_1).length c376_0, .int .i64 x1_1] rfl z12_3 ?_; (with_reducible refine (laws_heldIntS.calls k1 _ _ (rd_L1 l0 x5_1) x1_1 t377 _ ?side1 ?side2 A5.out).mono ?_); (case side1 => exact cZ (HR376_0.out)); (case side2 => exact HC376_0.out); rintro e w' ⟨rfl, ⟨nd, rfl⟩⟩; refine ⟨_, rfl, ?_⟩))
     go_roundg k1
     case measure => have := HK1.out; omega
     case rel => exact ⟨(t377), (wrap64 (x5_1 + 1)), z12_4, z12_4, H', ⟨by have := HK1.out; omega⟩, z12_6⟩
   ·rw [if_neg c3] at H
    have c3b0 : decide (x5_1 < (l0.length : Int)) = false := decide_eq_false c3
    clear c3
    obtain rfl := Option.some.inj H
    go_wp2
    go_ret
    exact ⟨z12_4, z12_6⟩

end Go.Proofs.Ytbhmgbeebhmfkaa.PA
