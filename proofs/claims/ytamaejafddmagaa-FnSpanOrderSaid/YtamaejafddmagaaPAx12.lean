-- Written by a program of this session (after the manner of the kit's print, several laws in one text).
import Derived.Test.YtamaejafddmagaaHp
import Derived.Test.YtamaejafddmagaaPAx0
import Derived.Test.YtamaejafddmagaaPAx5
import Derived.Test.YtamaejafddmagaaPAx11
import Derived.Test.YtamaejafddmagaaGw
import Derived.Test.YtamaejafddmagaaGm
namespace Go.Proofs.Ytamaejafddmagaa.PA
open Go.RowKit Go.Proofs.YtamaejafddmagaaW.PrintWords Go.Proofs.YtamaejafddmagaaW.PrintLast Go.Proofs.YtamaejafddmagaaW.PrintMore
attribute [local go_sem] max2_int min2_int max_two min_two max_three min_three max_four min_four   -- for this text's walks alone
set_option linter.unusedVariables false
set_option linter.unusedSimpArgs false

-- GIVEN: function 55 (impl_vector_list)

-- NOT PRINTED: function 56 (slices_Clip_int_int)

/-! ### impl_SpanTidy: function 16 -/
theorem zL12 {p q : Prop} (h : q) (t : q → p := by intro h_; (with_reducible repeat first|refine blk_drewN ?_ _|refine blk_drew ?_|refine blk_alloc ?_ _); exact h_) : p := t h
theorem z12_1 {p : Prop} (h : p := by repeat (first | (with_reducible first | exact HB.out | apply below_alloc | apply pw_below_drewN | apply below_drew1) | exact HB.out)) : p := h
theorem z12_2 {p : Prop} (h : p := by first | (with_reducible assumption) | assumption) : p := h
theorem z12_3 {p : Prop} (h : p := by repeat (first | (with_reducible first | exact HB.out | apply below_alloc | apply pw_below_drewN | apply below_drew1 | refine below_set ?_ GE374.out) | exact HB.out)) : p := h
theorem z12_4 {p : Prop} (h : p := by first | rfl | (simp; done) | (simp [*]; done)) : p := h
theorem z12_5 {p : Prop} (h : p := by repeat (first | exact Drawn0.refl _ | apply Drawn0.step)) : p := h
theorem z12_6 {p : Prop} (h : p := by (try simp only [List.map_toArray, List.map_cons, List.map_nil]); first | done | rfl | (simp only [List.length_drop, List.length_take]; rfl)) : p := h
theorem z12_7 {p : Prop} (h : p := by (with_reducible repeat (first | apply Kd.S_alloc | apply Kd.S_drewN | apply Kd.S_drew)); exact HO_5.out) : p := h
theorem z12_8 {p : Prop} (h : p := by (with_reducible repeat (first | apply Kd.R_alloc | apply Kd.R_drewN | apply Kd.R_drew)); exact HO366.out) : p := h
theorem z12_9 {p : Prop} (h : p := by (with_reducible repeat (first | apply Kd.R_alloc | apply Kd.R_drewN | apply Kd.R_drew)); exact HO_19.out) : p := h
def impl_SpanTidy.l0 : Nat → List (List Int) → List (S70) → Int → Int → Option ((List (List Int)))
  | 0, _, _, _, _ => none
  | k + 1, x5, x19, x20, x21 => if x21 < x20 then (if 0 ≤ x21 then (if x21 < (x19.length : Int) then ((impl_vector_list.f ((rd_T70 x19 x21).f0) ((rd_T70 x19 x21).f1) ((rd_T70 x19 x21).f2) ((rd_T70 x19 x21).f3)).bind fun t375 => (if x5.length < 5864062014805 then (impl_SpanTidy.l0 k (x5 ++ [t375]) x19 x20 (wrap64 (x21 + 1))) else (none))) else (none)) else (none)) else (some x5)
def impl_SpanTidy.f (k : Nat) (l0 : List (List Int)) : Option ((List (List Int))) := (impl_matrixOf.f k l0).bind fun bt363 => (if bt363.2 = true then (if 0 ≤ (l0.length : Int) then (if ((l0.length : Int) : Int).toNat ≤ 11728124029610 then ((impl_tidy.f k bt363.1).bind fun t370 => (impl_SpanTidy.l0 k (([] : List (List Int))) t370 (t370.length : Int) 0)) else (none)) else (none)) else (some ([] : List (List Int))))
set_option maxHeartbeats 8000000 in
set_option maxRecDepth 100000 in
theorem impl_SpanTidy.calls (k : Nat) (A0 : Option Addr) (c0 : Nat) (l0 : List (List Int)) (r : List (List Int)) (w : World) (hr0 : Kd.C (Kd.slice 3 (Kd.int .i64)) w A0 l0.length l0) (hc0 : l0.length ≤ c0) (h : impl_SpanTidy.f k l0 = some r) :
  Calls Try.prog 16 #[.slice A0 l0.length c0] w fun e w' => ∃ v0_ : Value, e = .returned (clip v0_) ∧ Kd.S (Kd.slice 3 (Kd.int .i64)) 28 w' w.heap.size (fun _ => True) v0_ r ∧ Below w.heap.size w w' := by
 have hu70 := Try.underlying70
 have HR0 := Aside0.mk hr0
 have HC0 := Aside0.mk hc0
 clear hr0 hc0
 have HB := Aside0.mk (Below.refl w.heap.size w)
 have H : ((impl_matrixOf.f k l0).bind fun bt363 => (if bt363.2 = true then (if 0 ≤ (l0.length : Int) then (if ((l0.length : Int) : Int).toNat ≤ 11728124029610 then ((impl_tidy.f k bt363.1).bind fun t370 => (impl_SpanTidy.l0 k (([] : List (List Int))) t370 (t370.length : Int) 0)) else (none)) else (none)) else (some ([] : List (List Int))))) = some r := h
 clear h
 replace H := Option.bind_eq_some_iff.mp H
 obtain ⟨⟨t363, t364⟩, A20, H⟩ := H
 replace H : (if t364 = true then (if 0 ≤ (l0.length : Int) then (if ((l0.length : Int) : Int).toNat ≤ 11728124029610 then ((impl_tidy.f k t363).bind fun t370 => (impl_SpanTidy.l0 k (([] : List (List Int))) t370 (t370.length : Int) 0)) else (none)) else (none)) else (some ([] : List (List Int)))) = some r := H
 have A2 := Aside0.mk A20
 clear A20
 by_cases c3 : t364 = true
 ·subst c3
  have H1 : (if 0 ≤ (l0.length : Int) then (if ((l0.length : Int) : Int).toNat ≤ 11728124029610 then ((impl_tidy.f k t363).bind fun t370 => (impl_SpanTidy.l0 k (([] : List (List Int))) t370 (t370.length : Int) 0)) else (none)) else (none)) = some r := by rw [if_pos rfl] at H; exact H
  clear H
  have H := H1
  clear H1
  obtain ⟨c4, H⟩ := ifP H
  have c4b0 := eq_true c4
  have c4b1 : decide (0 ≤ (l0.length : Int)) = true := decide_eq_true c4
  clear c4
  obtain ⟨c5, H⟩ := ifP H
  have c5b0 := eq_true c5
  have c5b1 : decide (((l0.length : Int) : Int).toNat ≤ 11728124029610) = true := decide_eq_true c5
  clear c5
  obtain ⟨y367, hy367⟩ : ∃ y_ : List (List Int), y_ = (([] : List (List Int))) := ⟨_, rfl⟩
  replace H : ((impl_tidy.f k t363).bind fun t370 => (impl_SpanTidy.l0 k y367 t370 (t370.length : Int) 0)) = some r := by first | (rw [hy367]; with_reducible exact H) | (have H2_ := (Option.bind_some _ _).symm.trans H; rw [hy367]; with_reducible exact H2_) | (have H2_ := (Option.bind_some _ _).symm.trans H; with_reducible exact H2_) | with_reducible exact H | (rw [hy367]; exact H) | exact H
  have Ny367 := Aside0.mk hy367
  clear hy367
  replace H := Option.bind_eq_some_iff.mp H
  obtain ⟨t370, A60, H⟩ := H
  replace H : (impl_SpanTidy.l0 k y367 t370 (t370.length : Int) 0) = some r := H
  have A6 := Aside0.mk A60
  clear A60
  have H' := Aside0.mk H
  clear H
  go_enter Try.func16, Try.ntmps16
  go_wp2_with (first | ((with_reducible refine gate_callee (f := 53) rfl ?_); refine goesL_ (some 10) rfl rfl Try.func53 (by kernel_rfl) rfl #[.slice A0 l0.length c0] rfl z12_6 ?_; (with_reducible refine (impl_matrixOf.calls k _ _ l0 t363 true _ ?side1 ?side2 A2.out).mono ?_); (case side1 => exact cZ (HR0.out)); (case side2 => exact HC0.out); rintro e w7 ⟨v365, rfl, ho0, hb⟩; refine ⟨_, rfl, ?_⟩; have HO366 := Aside0.mk (Kd.R_lower ho0 (below_size z12_1)); replace HB := Aside0.mk (below_step z12_1 hb); (try clear hb); (try clear ho0)) | ((with_reducible refine gate_dst (N := 17) rfl ?_); refine R_make0 (Kd.slice 3 (Kd.int .i64)) _ 28 rfl (N := 17) rfl 23 _ _ rfl (l0.length : Int) rfl rfl Try.underlying23 (.slice none 0 0) 24 info28 (by decide) (ok := fun _ => True) (okp := fun _ => True) (fun _ hk => hk) trivial (of_decide_eq_true z12_2) (Nat.le_trans (Nat.mul_le_mul_right _ (of_decide_eq_true z12_2 : (l0.length : Int).toNat ≤ 11728124029610)) (by omega)) (Below.refl _ _) (Nat.le_refl _) ?_; intro v368 w8 ho9 hb hg_ hnew_; clear hg_ hnew_; replace ho9 := S_of_empty ho9; (first | rw [← Ny367.out] at ho9 | (simp only [Int.reduceToNat] at ho9; rw [← Ny367.out] at ho9)); replace HO366 := Aside0.mk (Kd.R_below z12_8 hb); have HO369 := Aside0.mk (Kd.S_lower ho9 (below_size z12_1)); replace HB := Aside0.mk (below_step z12_1 hb); clear hb ho9; obtain ⟨Ao10, co10, eo10⟩ := Kd.R_slice HO366.out; subst eo10) | ((with_reducible refine gate_callee (f := 54) rfl ?_); refine goesL_ (some 19) rfl rfl Try.func54 (by kernel_rfl) rfl #[.slice Ao10 t363.length co10] rfl z12_6 ?_; (with_reducible refine (impl_tidy.calls k _ _ t363 t370 _ ?side1 ?side2 A6.out).mono ?_); (case side1 => exact cZ ((Kd.R_reads' HO366.out).2.2)); (case side2 => exact (Kd.R_reads' HO366.out).2.1); rintro e w11 ⟨v371, rfl, ho0, hb⟩; refine ⟨_, rfl, ?_⟩; replace HO369 := Aside0.mk (Kd.S_below (by (with_reducible repeat (first | apply Kd.S_alloc | apply Kd.S_drewN | apply Kd.S_drew)); exact HO369.out) hb); have HO372 := Aside0.mk (Kd.R_lower (Kd.R_new' ho0 (Kd.R_lt z12_8)) (below_size z12_1)); replace HO366 := Aside0.mk (Kd.R_elder' z12_8 (Kd.R_base ho0) hb); replace HB := Aside0.mk (below_step z12_1 hb); (try clear hb); (try clear ho0); obtain ⟨Ao12, co12, eo12⟩ := Kd.R_slice HO372.out; subst eo12))
  go_loopg [5, 21] k (fun kq v5 v21 w' => ∃ (x5_1 : List (List Int)) (x21_1 : Int), v21 = .int .i64 x21_1 ∧ Aside0 (impl_SpanTidy.l0 kq x5_1 t370 (t370.length : Int) x21_1 = some r) ∧ Aside0 (kq ≤ k) ∧ Aside0 (Kd.S (Kd.slice 3 (Kd.int .i64)) 28 w' w.heap.size (fun _ => True) v5 x5_1) ∧ Aside0 (Kd.R k70 70 w' w.heap.size (fun _ => True) (.slice Ao12 t370.length co12) t370) ∧ Aside0 (Below w.heap.size w w'))
  case atStart => exact ⟨(y367), (0), z12_4, H', ⟨Nat.le_refl _⟩, ⟨by (with_reducible repeat (first | apply Kd.S_alloc | apply Kd.S_drewN | apply Kd.S_drew)); exact HO369.out⟩, ⟨by (with_reducible repeat (first | apply Kd.R_alloc | apply Kd.R_drewN | apply Kd.R_drew)); exact Kd.R_mono HO372.out (fun _ hk => trivial)⟩, ⟨z12_1⟩⟩
  case round =>
   clear H'
   try clear c3
   try clear c4
   try clear c4b0
   try clear c4b1
   try clear c5
   try clear c5b0
   try clear c5b1
   obtain ⟨x5_1, x21_1, rfl, HA, HK1, HO_5, HO_19, HB⟩ := hrel
   cases gk with
   | zero => exact absurd HA.out (by simp [impl_SpanTidy.l0])
   | succ k1 =>
    have H := HA.out
    clear HA
    simp only [impl_SpanTidy.l0] at H
    by_cases c13 : x21_1 < (t370.length : Int)
    ·rw [if_pos c13] at H
     have c13b0 : decide (x21_1 < (t370.length : Int)) = true := decide_eq_true c13
     clear c13
     obtain ⟨c14, H⟩ := ifP H
     have c14b0 : decide (0 ≤ x21_1) = true := decide_eq_true c14
     clear c14
     obtain ⟨c15, H⟩ := ifP H
     have c15b0 : decide (x21_1 < (t370.length : Int)) = true := decide_eq_true c15
     clear c15
     replace H := Option.bind_eq_some_iff.mp H
     obtain ⟨t375, A160, H⟩ := H
     replace H : (if x5_1.length < 5864062014805 then (impl_SpanTidy.l0 k1 (x5_1 ++ [t375]) t370 (t370.length : Int) (wrap64 (x21_1 + 1))) else (none)) = some r := H
     have A16 := Aside0.mk A160
     clear A160
     obtain ⟨c17, H⟩ := ifP H
     have LMc17 := Aside0.mk c17
     clear c17
     obtain ⟨y378, hy378⟩ : ∃ y_ : List (List Int), y_ = (x5_1 ++ [t375]) := ⟨_, rfl⟩
     replace H : (impl_SpanTidy.l0 k1 y378 t370 (t370.length : Int) (wrap64 (x21_1 + 1))) = some r := by first | (rw [hy378]; with_reducible exact H) | (have H2_ := (Option.bind_some _ _).symm.trans H; rw [hy378]; with_reducible exact H2_) | (have H2_ := (Option.bind_some _ _).symm.trans H; with_reducible exact H2_) | with_reducible exact H | (rw [hy378]; exact H) | exact H
     have Ny378 := Aside0.mk hy378
     clear hy378
     have H' := Aside0.mk H
     clear H
     have p373 : 0 ≤ (x21_1 : Int) := of_decide_eq_true z12_2
     have q373 : x21_1 < (t370.length : Int) := of_decide_eq_true z12_2
     obtain ⟨ad373, e373, hx373_0, hx373_1, hx373_2, hx373_3⟩ := at_T70 (Kd.R_reads' HO_19.out).2.2 x21_1 p373 q373
     cases e373
     replace p373 := eq_true p373
     replace q373 := eq_true q373
     go_wp2_with (first | ((with_reducible refine gate_dst (N := 7) rfl ?_); refine box_event ?hg (N := 7) ?hd (cs := #[.int .i64 0, .int .i64 0, .int .i64 0, .int .i64 0]) (t := 70) ?hr ?_; (case hd => rfl); (case hg => rfl); (case hr => first | (go_simp; done) | (go_simp; rfl)); intro gb374 hg w18 hbox hb; replace HO_5 := Aside0.mk (Kd.S_below z12_7 hb); replace HO_19 := Aside0.mk (Kd.R_below (Kd.R_elderB z12_9 gb374 (Nat.le_of_eq hg.symm)) hb); have BK374 := Aside0.mk (hbox); have GW374 := Aside0.mk ((by rw [hg]; exact (below_size z12_1) : w.heap.size ≤ gb374)); have GE374 := Aside0.mk ((by rw [hg]; exact (below_size z12_1) : w.heap.size ≤ gb374)); replace HB := Aside0.mk (below_step z12_1 hb); clear hb hbox hg; have hcz19_0 : w18.cell? ⟨gb374, 0, none⟩ = some (.int .i64 0) := (blk_cell BK374.out 0).trans rfl; have hfz19_0 := blk_frozen BK374.out 0; have hcz20_1 : w18.cell? ⟨gb374, 1, none⟩ = some (.int .i64 0) := (blk_cell BK374.out 1).trans rfl; have hfz20_1 := blk_frozen BK374.out 1; have hcz21_2 : w18.cell? ⟨gb374, 2, none⟩ = some (.int .i64 0) := (blk_cell BK374.out 2).trans rfl; have hfz21_2 := blk_frozen BK374.out 2; have hcz22_3 : w18.cell? ⟨gb374, 3, none⟩ = some (.int .i64 0) := (blk_cell BK374.out 3).trans rfl; have hfz22_3 := blk_frozen BK374.out 3) | ((with_reducible refine gate_store (t := 70) (p := 7) rfl ?_); refine store_event (t := 70) (p := 7) (v := ?vo_w23) (w1 := ((((w18.setCell ⟨gb374, 0, none⟩ (.int .i64 ((rd_T70 t370 x21_1).f0))).setCell ⟨gb374, 1, none⟩ (.int .i64 ((rd_T70 t370 x21_1).f1))).setCell ⟨gb374, 2, none⟩ (.int .i64 ((rd_T70 t370 x21_1).f2))).setCell ⟨gb374, 3, none⟩ (.int .i64 ((rd_T70 t370 x21_1).f3)))) ?hg ?ho ?hn ?hr ?_; (case ho => rfl); (case hg => rfl); (case hn => rfl); (case hr => first | (go_simp; done) | (go_simp; rfl)); intro w23 hw; have n0_ : Aside0 (Kd.S (Kd.slice 3 (Kd.int .i64)) 28 w23 w.heap.size (fun _ => True) u5 x5_1) := ⟨(by rw [hw]; exact (by (with_reducible repeat (first | apply Kd.S_alloc | apply Kd.S_drewN | apply Kd.S_drew)); exact Kd.S_mono (Kd.S_far (p := ⟨gb374, 3, none⟩) (Kd.S_far (p := ⟨gb374, 2, none⟩) (Kd.S_far (p := ⟨gb374, 1, none⟩) (Kd.S_far (p := ⟨gb374, 0, none⟩) (Kd.S_types HO_5.out BK374.out (by decide)) (fun _ hk => hk.2) (.int .i64 ((rd_T70 t370 x21_1).f0))) (fun _ hk => hk.2) (.int .i64 ((rd_T70 t370 x21_1).f1))) (fun _ hk => hk.2) (.int .i64 ((rd_T70 t370 x21_1).f2))) (fun _ hk => hk.2) (.int .i64 ((rd_T70 t370 x21_1).f3))) (fun _ hk => trivial)))⟩; have n1_ : Aside0 (Kd.R k70 70 w23 w.heap.size (fun k_ => k_ ≠ gb374) (.slice (some ad373) t370.length co12) t370) := ⟨(by rw [hw]; exact (by (with_reducible repeat (first | apply Kd.R_alloc | apply Kd.R_drewN | apply Kd.R_drew)); exact Kd.R_mono (Kd.R_far (p := ⟨gb374, 3, none⟩) (Kd.R_far (p := ⟨gb374, 2, none⟩) (Kd.R_far (p := ⟨gb374, 1, none⟩) (Kd.R_far (p := ⟨gb374, 0, none⟩) (Kd.R_mono HO_19.out (fun k_ hk => (⟨hk, hk.2⟩ : _ ∧ k_ ≠ gb374))) (fun _ hk => hk.2) (.int .i64 ((rd_T70 t370 x21_1).f0))) (fun _ hk => hk.2) (.int .i64 ((rd_T70 t370 x21_1).f1))) (fun _ hk => hk.2) (.int .i64 ((rd_T70 t370 x21_1).f2))) (fun _ hk => hk.2) (.int .i64 ((rd_T70 t370 x21_1).f3))) (fun _ hk => hk.1.2)))⟩; have n2_ : Aside0 (w23.heap[gb374]? = some (.cells #[.int .i64 ((rd_T70 t370 x21_1).f0), .int .i64 ((rd_T70 t370 x21_1).f1), .int .i64 ((rd_T70 t370 x21_1).f2), .int .i64 ((rd_T70 t370 x21_1).f3)] 70 (0, 0))) := ⟨(by rw [hw]; exact (bZ BK374.out))⟩; have n3_ : Aside0 (Below w.heap.size w w23) := ⟨(by rw [hw]; exact z12_3)⟩; clear hw; clear HO_5; clear HO_19; clear BK374; clear HB; have HO_5 := n0_; have HO_19 := n1_; have BK374 := n2_; have HB := n3_; clear n0_ n1_ n2_ n3_; have hcz24_0 : w23.cell? ⟨gb374, 0, none⟩ = some (.int .i64 ((rd_T70 t370 x21_1).f0)) := (blk_cell BK374.out 0).trans rfl; have hcz24_1 : w23.cell? ⟨gb374, 1, none⟩ = some (.int .i64 ((rd_T70 t370 x21_1).f1)) := (blk_cell BK374.out 1).trans rfl; have hcz24_2 : w23.cell? ⟨gb374, 2, none⟩ = some (.int .i64 ((rd_T70 t370 x21_1).f2)) := (blk_cell BK374.out 2).trans rfl; have hcz24_3 : w23.cell? ⟨gb374, 3, none⟩ = some (.int .i64 ((rd_T70 t370 x21_1).f3)) := (blk_cell BK374.out 3).trans rfl; have hfz24_0 := blk_frozen BK374.out 0; have hfz24_1 := blk_frozen BK374.out 1; have hfz24_2 := blk_frozen BK374.out 2; have hfz24_3 := blk_frozen BK374.out 3) | ((with_reducible refine gate_callee (f := 55) rfl ?_); refine goesL_ (some 27) rfl rfl Try.func55 (by kernel_rfl) rfl #[.agg #[.int .i64 ((rd_T70 t370 x21_1).f0), .int .i64 ((rd_T70 t370 x21_1).f1), .int .i64 ((rd_T70 t370 x21_1).f2), .int .i64 ((rd_T70 t370 x21_1).f3)]] rfl z12_6 ?_; (with_reducible refine (impl_vector_list.calls ((rd_T70 t370 x21_1).f0) ((rd_T70 t370 x21_1).f1) ((rd_T70 t370 x21_1).f2) ((rd_T70 t370 x21_1).f3) t375 _ A16.out).mono ?_); rintro e w25 ⟨v376, rfl, ho0, hb⟩; refine ⟨_, rfl, ?_⟩; replace HO_5 := Aside0.mk (Kd.S_elder' z12_7 (Kd.R_base ho0) hb); replace HO_19 := Aside0.mk (Kd.R_below z12_9 hb); have HO377 := Aside0.mk (Kd.R_lower ho0 (below_size z12_3)); replace BK374 := Aside0.mk (blk_below (g := gb374) (o := .cells #[.int .i64 ((rd_T70 t370 x21_1).f0), .int .i64 ((rd_T70 t370 x21_1).f1), .int .i64 ((rd_T70 t370 x21_1).f2), .int .i64 ((rd_T70 t370 x21_1).f3)] 70 (0, 0)) (zL12 BK374.out) hb); replace HB := Aside0.mk (below_step z12_3 hb); (try clear hb); (try clear ho0); obtain ⟨Ao27, co27, eo27⟩ := Kd.R_slice HO377.out; subst eo27) | ((with_reducible refine gate_builtin (b := .append) (xs := #[.tmp 25, .tmp 28]) rfl ?_); at_builtin; refine Kd.S_append (Kd.slice 3 (Kd.int .i64)) (w0 := w) w.heap.size rfl (.tmp 25) (.tmp 28) 23 28 (.slice none 0 0) 24 rfl Try.underlying23 info28 rfl (by decide) (by omega) u5 x5_1 t375 [.slice Ao27 t375.length co27] (fun _ => True) (fun k_ => some k_ = (.slice Ao27 t375.length co27 : Value).ownBlock) rfl rfl ?aP (fun k_ hk_ => ((Kd.R_mono (ok' := fun k_ => ((fun _ => True)) k_ ∧ some k_ ≠ (u5 : Value).ownBlock) (Kd.R_apart' (HO377.out) (Kd.S_typed HO_5.out) (by decide)) (fun k_ hk => ⟨trivial, hk.2⟩))).1 k_ hk_.symm) ?aF ?aO ?aB ?aS ?aL ?_; (case aP => exact Kd.M_row (Kd.R_mono (Kd.R_tight rfl (Kd.R_mono (ok' := fun k_ => ((fun _ => True)) k_ ∧ some k_ ≠ (u5 : Value).ownBlock) (Kd.R_apart' (HO377.out) (Kd.S_typed HO_5.out) (by decide)) (fun k_ hk => ⟨trivial, hk.2⟩))) (fun _ h_ => h_))); (case aB => exact z12_3); (case aF => exact (fun _ _ => trivial)); (case aO => exact (by (with_reducible repeat (first | apply Kd.S_alloc | apply Kd.S_drewN | apply Kd.S_drew)); exact Kd.S_mono HO_5.out (fun k_ hk => ⟨trivial, fun e_ => hk.2 e_⟩))); (case aS => exact (below_size z12_3)); (case aL => have := LMc17.out; omega); intro v379 w26 ho hb hg hat; rw [← Ny378.out] at ho; have n0_ := Aside0.mk (Kd.R_over' z12_9 (Kd.S_typed z12_7) (by decide) hg); have n1_ := Aside0.mk (blk_grown (g := gb374) (o := .cells #[.int .i64 ((rd_T70 t370 x21_1).f0), .int .i64 ((rd_T70 t370 x21_1).f1), .int .i64 ((rd_T70 t370 x21_1).f2), .int .i64 ((rd_T70 t370 x21_1).f3)] 70 (0, 0)) (zL12 BK374.out) hg (Kd.S_ne HO_5.out BK374.out (by decide))); have n2_ := Aside0.mk (hb); have n3_ := Aside0.mk (ho); clear HO_19; clear BK374; clear HB; clear HO_5; clear HO377; have HO_19 := n0_; have BK374 := n1_; have HB := n2_; have HO380 := n3_; clear n0_ n1_ n2_ n3_; clear ho hb hg hat))
     go_roundg k1
     case measure => have := HK1.out; omega
     case rel => exact ⟨(y378), (wrap64 (x21_1 + 1)), z12_4, H', ⟨by have := HK1.out; omega⟩, ⟨by (with_reducible repeat (first | apply Kd.S_alloc | apply Kd.S_drewN | apply Kd.S_drew)); exact HO380.out⟩, ⟨by (with_reducible repeat (first | apply Kd.R_alloc | apply Kd.R_drewN | apply Kd.R_drew)); exact Kd.R_mono HO_19.out (fun _ hk => trivial)⟩, ⟨z12_3⟩⟩
    ·rw [if_neg c13] at H
     have c13b0 : decide (x21_1 < (t370.length : Int)) = false := decide_eq_false c13
     clear c13
     obtain rfl := Option.some.inj H
     obtain ⟨AoC, coC, eoC⟩ := Kd.S_slice HO_5.out
     subst eoC
     go_wp2_with ((with_reducible refine gate_callee (f := 56) rfl ?_); refine goesL_ (some 32) rfl rfl Try.func56 (by kernel_rfl) rfl #[.slice AoC x5_1.length coC] rfl (by (try simp only [List.map_toArray, List.map_cons, List.map_nil]); first | done | rfl) ?_; (with_reducible refine (slices_Clip_rows.calls _ _ _ ?side1 _).mono ?_); (case side1 => exact (Kd.S_reads' HO_5.out).2.1); rintro e wC ⟨rfl, hbC⟩; refine ⟨_, rfl, ?_⟩; have HOC := Aside0.mk (Kd.S_below z12_7 hbC); have HBC := Aside0.mk (below_step z12_1 hbC); clear hbC HB HO_5; have HB := HBC)
     go_ret
     exact ⟨.slice AoC x5_1.length coC, by rfl, by (with_reducible repeat (first | apply Kd.S_alloc | apply Kd.S_drewN | apply Kd.S_drew)); exact HOC.out, z12_1⟩
 ·replace c3 := Bool.eq_false_iff.mpr c3
  subst c3
  have H1 : (some ([] : List (List Int))) = some r := by rw [if_neg (show ¬ (false = true) by decide)] at H; exact H
  clear H
  have H := H1
  clear H1
  obtain rfl := Option.some.inj H
  go_enter Try.func16, Try.ntmps16
  go_wp2_with (first | ((with_reducible refine gate_callee (f := 53) rfl ?_); refine goesL_ (some 10) rfl rfl Try.func53 (by kernel_rfl) rfl #[.slice A0 l0.length c0] rfl z12_6 ?_; (with_reducible refine (impl_matrixOf.calls k _ _ l0 t363 false _ ?side1 ?side2 A2.out).mono ?_); (case side1 => exact cZ (HR0.out)); (case side2 => exact HC0.out); rintro e w28 ⟨v365, rfl, ho0, hb⟩; refine ⟨_, rfl, ?_⟩; have HO366 := Aside0.mk (Kd.R_lower ho0 (below_size z12_1)); replace HB := Aside0.mk (below_step z12_1 hb); (try clear hb); (try clear ho0)))
  go_ret
  exact ⟨.slice none 0 0, by rfl, by first | exact Kd.S_nil _ _ _ _ _ | exact Kd.N_nil _ _ _ _ _ | exact Kd.V_nil _ _ _ _ _ | exact Kd.Q_nil _ _ _ _ _ | exact Kd.R_nil _ _ _ _ _, z12_1⟩

/-! ### laws_lkInts: function 41 -/
def laws_lkInts.l0 : Nat → List Int → List Int → Int → Option (Bool)
  | 0, _, _, _ => none
  | k + 1, x0, x1, x5 => if x5 < (x0.length : Int) then (if 0 ≤ x5 then (if x5 < (x1.length : Int) then (if (rd x0 x5) = (rd x1 x5) then (laws_lkInts.l0 k x0 x1 (wrap64 (x5 + 1))) else (some false)) else (none)) else (none)) else (some true)
def laws_lkInts.f (k : Nat) (l0 : List Int) (l1 : List Int) : Option (Bool) := if (l0.length : Int) = (l1.length : Int) then (laws_lkInts.l0 k l0 l1 0) else (some false)
set_option maxHeartbeats 8000000 in
set_option maxRecDepth 100000 in
theorem laws_lkInts.calls (k : Nat) (A0 : Option Addr) (c0 : Nat) (l0 : List Int) (A1 : Option Addr) (c1 : Nat) (l1 : List Int) (r : Bool) (w : World) (hr0 : Kd.C (Kd.int .i64) w A0 l0.length l0) (hc0 : l0.length ≤ c0) (hr1 : Kd.C (Kd.int .i64) w A1 l1.length l1) (hc1 : l1.length ≤ c1) (h : laws_lkInts.f k l0 l1 = some r) :
  Calls Try.prog 41 #[.slice A0 l0.length c0, .slice A1 l1.length c1] w fun e w' => e = .returned (.bool r) ∧ Drawn0 w w' := by
 have HR0 := Aside0.mk hr0
 have HC0 := Aside0.mk hc0
 clear hr0 hc0
 have HR1 := Aside0.mk hr1
 have HC1 := Aside0.mk hc1
 clear hr1 hc1
 have H : (if (l0.length : Int) = (l1.length : Int) then (laws_lkInts.l0 k l0 l1 0) else (some false)) = some r := h
 clear h
 by_cases c3 : (l0.length : Int) = (l1.length : Int)
 ·rw [if_pos c3] at H
  have c3b0 : ((l0.length : Int) == (l1.length : Int)) = true := beq_iff_eq.mpr c3
  have c3b1 : ((l0.length : Int) != (l1.length : Int)) = false := bne_eq_false_iff_eq.mpr c3
  have c3b2 : (l0.length == l1.length) = true := by first | simpa using c3 | (simp at c3 ⊢; omega)
  clear c3
  have H' := Aside0.mk H
  clear H
  go_enter Try.func41, Try.ntmps41
  go_wp2
  repeat (go_quiet (fail); try go_wp2)
  go_loopg [5] k (fun kq v5 w' => ∃ (x5_1 : Int), v5 = .int .i64 x5_1 ∧ Aside0 (laws_lkInts.l0 kq l0 l1 x5_1 = some r) ∧ Aside0 (kq ≤ k) ∧ Drawn0 w w')
  case atStart => exact ⟨(0), z12_4, H', ⟨Nat.le_refl _⟩, z12_5⟩
  case round =>
   clear H'
   try clear c1
   try clear c3
   try clear c3b0
   try clear c3b1
   try clear c3b2
   obtain ⟨x5_1, rfl, HA, HK1, ⟨m1, rfl⟩⟩ := hrel
   cases gk with
   | zero => exact absurd HA.out (by simp [laws_lkInts.l0])
   | succ k1 =>
    have H := HA.out
    clear HA
    simp only [laws_lkInts.l0] at H
    by_cases c4 : x5_1 < (l0.length : Int)
    ·rw [if_pos c4] at H
     have c4b0 : decide (x5_1 < (l0.length : Int)) = true := decide_eq_true c4
     clear c4
     obtain ⟨c5, H⟩ := ifP H
     have c5b0 : decide (0 ≤ x5_1) = true := decide_eq_true c5
     clear c5
     obtain ⟨c6, H⟩ := ifP H
     have c6b0 : decide (x5_1 < (l1.length : Int)) = true := decide_eq_true c6
     clear c6
     by_cases c7 : (rd l0 x5_1) = (rd l1 x5_1)
     ·rw [if_pos c7] at H
      have c7b0 : ((rd l0 x5_1) == (rd l1 x5_1)) = true := beq_iff_eq.mpr c7
      have c7b1 : ((rd l0 x5_1) != (rd l1 x5_1)) = false := bne_eq_false_iff_eq.mpr c7
      clear c7
      have H' := Aside0.mk H
      clear H
      have p381 : 0 ≤ (x5_1 : Int) := of_decide_eq_true z12_2
      have q381 : x5_1 < (l0.length : Int) := of_decide_eq_true z12_2
      obtain ⟨ad381, e381, hx381_0⟩ := Kd.at_int HR0.out x5_1 p381 q381
      cases e381
      replace p381 := eq_true p381
      replace q381 := eq_true q381
      have p382 : 0 ≤ (x5_1 : Int) := of_decide_eq_true z12_2
      have q382 : x5_1 < (l1.length : Int) := of_decide_eq_true z12_2
      obtain ⟨ad382, e382, hx382_0⟩ := Kd.at_int HR1.out x5_1 p382 q382
      cases e382
      replace p382 := eq_true p382
      replace q382 := eq_true q382
      go_wp2
      repeat (go_quiet (fail); try go_wp2)
      go_roundg k1
      case measure => have := HK1.out; omega
      case rel => exact ⟨(wrap64 (x5_1 + 1)), z12_4, H', ⟨by have := HK1.out; omega⟩, z12_5⟩
     ·rw [if_neg c7] at H
      have c7b0 : ((rd l0 x5_1) == (rd l1 x5_1)) = false := beq_eq_false_iff_ne.mpr c7
      have c7b1 : ((rd l0 x5_1) != (rd l1 x5_1)) = true := bne_iff_ne.mpr c7
      obtain rfl := Option.some.inj H
      have p381 : 0 ≤ (x5_1 : Int) := of_decide_eq_true z12_2
      have q381 : x5_1 < (l0.length : Int) := of_decide_eq_true z12_2
      obtain ⟨ad381, e381, hx381_0⟩ := Kd.at_int HR0.out x5_1 p381 q381
      cases e381
      replace p381 := eq_true p381
      replace q381 := eq_true q381
      have p382 : 0 ≤ (x5_1 : Int) := of_decide_eq_true z12_2
      have q382 : x5_1 < (l1.length : Int) := of_decide_eq_true z12_2
      obtain ⟨ad382, e382, hx382_0⟩ := Kd.at_int HR1.out x5_1 p382 q382
      cases e382
      replace p382 := eq_true p382
      replace q382 := eq_true q382
      go_wp2
      repeat (go_quiet (fail); try go_wp2)
      go_ret
      exact ⟨z12_4, z12_5⟩
    ·rw [if_neg c4] at H
     have c4b0 : decide (x5_1 < (l0.length : Int)) = false := decide_eq_false c4
     clear c4
     obtain rfl := Option.some.inj H
     go_wp2
     repeat (go_quiet (fail); try go_wp2)
     go_ret
     exact ⟨z12_4, z12_5⟩
 ·rw [if_neg c3] at H
  have c3b0 : ((l0.length : Int) == (l1.length : Int)) = false := beq_eq_false_iff_ne.mpr c3
  have c3b1 : ((l0.length : Int) != (l1.length : Int)) = true := bne_iff_ne.mpr c3
  have c3b2 : (l0.length == l1.length) = false := by first | simpa using c3 | (simp at c3 ⊢; omega)
  obtain rfl := Option.some.inj H
  go_enter Try.func41, Try.ntmps41
  go_wp2
  repeat (go_quiet (fail); try go_wp2)
  go_ret
  exact ⟨z12_4, z12_5⟩

/-! ### laws_lkRows: function 17 -/
def laws_lkRows.l0 : Nat → List (List Int) → List (List Int) → Int → Option (Bool)
  | 0, _, _, _ => none
  | k + 1, x0, x1, x5 => if x5 < (x0.length : Int) then (if 0 ≤ x5 then (if x5 < (x1.length : Int) then ((laws_lkInts.f k (rd_L2 x0 x5) (rd_L2 x1 x5)).bind fun t385 => (if t385 = true then (laws_lkRows.l0 k x0 x1 (wrap64 (x5 + 1))) else (some false))) else (none)) else (none)) else (some true)
def laws_lkRows.f (k : Nat) (l0 : List (List Int)) (l1 : List (List Int)) : Option (Bool) := if (l0.length : Int) = (l1.length : Int) then (laws_lkRows.l0 k l0 l1 0) else (some false)
set_option maxHeartbeats 8000000 in
set_option maxRecDepth 100000 in
theorem laws_lkRows.calls (k : Nat) (A0 : Option Addr) (c0 : Nat) (l0 : List (List Int)) (A1 : Option Addr) (c1 : Nat) (l1 : List (List Int)) (r : Bool) (w : World) (hr0 : Kd.C (Kd.slice 3 (Kd.int .i64)) w A0 l0.length l0) (hc0 : l0.length ≤ c0) (hr1 : Kd.C (Kd.slice 3 (Kd.int .i64)) w A1 l1.length l1) (hc1 : l1.length ≤ c1) (h : laws_lkRows.f k l0 l1 = some r) :
  Calls Try.prog 17 #[.slice A0 l0.length c0, .slice A1 l1.length c1] w fun e w' => e = .returned (.bool r) ∧ Drawn0 w w' := by
 have HR0 := Aside0.mk hr0
 have HC0 := Aside0.mk hc0
 clear hr0 hc0
 have HR1 := Aside0.mk hr1
 have HC1 := Aside0.mk hc1
 clear hr1 hc1
 have H : (if (l0.length : Int) = (l1.length : Int) then (laws_lkRows.l0 k l0 l1 0) else (some false)) = some r := h
 clear h
 by_cases c3 : (l0.length : Int) = (l1.length : Int)
 ·rw [if_pos c3] at H
  have c3b0 : ((l0.length : Int) == (l1.length : Int)) = true := beq_iff_eq.mpr c3
  have c3b1 : ((l0.length : Int) != (l1.length : Int)) = false := bne_eq_false_iff_eq.mpr c3
  have c3b2 : (l0.length == l1.length) = true := by first | simpa using c3 | (simp at c3 ⊢; omega)
  clear c3
  have H' := Aside0.mk H
  clear H
  go_enter Try.func17, Try.ntmps17
  go_wp2
  repeat (go_quiet (fail); try go_wp2)
  go_loopg [5] k (fun kq v5 w' => ∃ (x5_1 : Int), v5 = .int .i64 x5_1 ∧ Aside0 (laws_lkRows.l0 kq l0 l1 x5_1 = some r) ∧ Aside0 (kq ≤ k) ∧ Drawn0 w w')
  case atStart => exact ⟨(0), z12_4, H', ⟨Nat.le_refl _⟩, z12_5⟩
  case round =>
   clear H'
   try clear c1
   try clear c3
   try clear c3b0
   try clear c3b1
   try clear c3b2
   obtain ⟨x5_1, rfl, HA, HK1, ⟨m1, rfl⟩⟩ := hrel
   cases gk with
   | zero => exact absurd HA.out (by simp [laws_lkRows.l0])
   | succ k1 =>
    have H := HA.out
    clear HA
    simp only [laws_lkRows.l0] at H
    by_cases c4 : x5_1 < (l0.length : Int)
    ·rw [if_pos c4] at H
     have c4b0 : decide (x5_1 < (l0.length : Int)) = true := decide_eq_true c4
     clear c4
     obtain ⟨c5, H⟩ := ifP H
     have c5b0 : decide (0 ≤ x5_1) = true := decide_eq_true c5
     clear c5
     obtain ⟨c6, H⟩ := ifP H
     have c6b0 : decide (x5_1 < (l1.length : Int)) = true := decide_eq_true c6
     clear c6
     replace H := Option.bind_eq_some_iff.mp H
     obtain ⟨t385, A70, H⟩ := H
     replace H : (if t385 = true then (laws_lkRows.l0 k1 l0 l1 (wrap64 (x5_1 + 1))) else (some false)) = some r := H
     have A7 := Aside0.mk A70
     clear A70
     by_cases c8 : t385 = true
     ·subst c8
      have H1 : (laws_lkRows.l0 k1 l0 l1 (wrap64 (x5_1 + 1))) = some r := by rw [if_pos rfl] at H; exact H
      clear H
      have H := H1
      clear H1
      have H' := Aside0.mk H
      clear H
      have p383 : 0 ≤ (x5_1 : Int) := of_decide_eq_true z12_2
      have q383 : x5_1 < (l0.length : Int) := of_decide_eq_true z12_2
      obtain ⟨ad383, A383_0, c383_0, e383, hx383_0, hl383_0, hi383_0⟩ := at_L2 HR0.out x5_1 p383 q383
      cases e383
      have HR383_0 := Aside0.mk hi383_0
      have HC383_0 := Aside0.mk hl383_0
      clear hi383_0 hl383_0
      replace p383 := eq_true p383
      replace q383 := eq_true q383
      have p384 : 0 ≤ (x5_1 : Int) := of_decide_eq_true z12_2
      have q384 : x5_1 < (l1.length : Int) := of_decide_eq_true z12_2
      obtain ⟨ad384, A384_0, c384_0, e384, hx384_0, hl384_0, hi384_0⟩ := at_L2 HR1.out x5_1 p384 q384
      cases e384
      have HR384_0 := Aside0.mk hi384_0
      have HC384_0 := Aside0.mk hl384_0
      clear hi384_0 hl384_0
      replace p384 := eq_true p384
      replace q384 := eq_true q384
      go_wp2_with (first | (go_at_call 41; (with_reducible refine (laws_lkInts.calls k1 _ _ (rd_L2 l0 x5_1) _ _ (rd_L2 l1 x5_1) true _ ?side1 ?side2 ?side3 ?side4 A7.out).mono ?_); (case side1 => exact cZ (HR383_0.out)); (case side2 => exact HC383_0.out); (case side3 => exact cZ (HR384_0.out)); (case side4 => exact HC384_0.out); rintro e w' ⟨rfl, ⟨nd, rfl⟩⟩; (try first | exact ⟨rfl, _, World.drewN_drewN _ _ _⟩ | exact ⟨rfl, _, Eq.trans (World.drewN_drewN _ _ _) (congrArg (World.drewN _) (Nat.add_assoc _ _ _))⟩)))
      repeat (go_quiet (first | (go_at_call 41; (with_reducible refine (laws_lkInts.calls k1 _ _ (rd_L2 l0 x5_1) _ _ (rd_L2 l1 x5_1) true _ ?side1 ?side2 ?side3 ?side4 A7.out).mono ?_); (case side1 => exact cZ (HR383_0.out)); (case side2 => exact HC383_0.out); (case side3 => exact cZ (HR384_0.out)); (case side4 => exact HC384_0.out); rintro e w' ⟨rfl, ⟨nd, rfl⟩⟩; (try first | exact ⟨rfl, _, World.drewN_drewN _ _ _⟩ | exact ⟨rfl, _, Eq.trans (World.drewN_drewN _ _ _) (congrArg (World.drewN _) (Nat.add_assoc _ _ _))⟩))); try go_wp2_with (first | (go_at_call 41; (with_reducible refine (laws_lkInts.calls k1 _ _ (rd_L2 l0 x5_1) _ _ (rd_L2 l1 x5_1) true _ ?side1 ?side2 ?side3 ?side4 A7.out).mono ?_); (case side1 => exact cZ (HR383_0.out)); (case side2 => exact HC383_0.out); (case side3 => exact cZ (HR384_0.out)); (case side4 => exact HC384_0.out); rintro e w' ⟨rfl, ⟨nd, rfl⟩⟩; (try first | exact ⟨rfl, _, World.drewN_drewN _ _ _⟩ | exact ⟨rfl, _, Eq.trans (World.drewN_drewN _ _ _) (congrArg (World.drewN _) (Nat.add_assoc _ _ _))⟩))))
      go_roundg k1
      case measure => have := HK1.out; omega
      case rel => exact ⟨(wrap64 (x5_1 + 1)), z12_4, H', ⟨by have := HK1.out; omega⟩, z12_5⟩
     ·replace c8 := Bool.eq_false_iff.mpr c8
      subst c8
      have H1 : (some false) = some r := by rw [if_neg (show ¬ (false = true) by decide)] at H; exact H
      clear H
      have H := H1
      clear H1
      obtain rfl := Option.some.inj H
      have p383 : 0 ≤ (x5_1 : Int) := of_decide_eq_true z12_2
      have q383 : x5_1 < (l0.length : Int) := of_decide_eq_true z12_2
      obtain ⟨ad383, A383_0, c383_0, e383, hx383_0, hl383_0, hi383_0⟩ := at_L2 HR0.out x5_1 p383 q383
      cases e383
      have HR383_0 := Aside0.mk hi383_0
      have HC383_0 := Aside0.mk hl383_0
      clear hi383_0 hl383_0
      replace p383 := eq_true p383
      replace q383 := eq_true q383
      have p384 : 0 ≤ (x5_1 : Int) := of_decide_eq_true z12_2
      have q384 : x5_1 < (l1.length : Int) := of_decide_eq_true z12_2
      obtain ⟨ad384, A384_0, c384_0, e384, hx384_0, hl384_0, hi384_0⟩ := at_L2 HR1.out x5_1 p384 q384
      cases e384
      have HR384_0 := Aside0.mk hi384_0
      have HC384_0 := Aside0.mk hl384_0
      clear hi384_0 hl384_0
      replace p384 := eq_true p384
      replace q384 := eq_true q384
      go_wp2_with (first | (go_at_call 41; (with_reducible refine (laws_lkInts.calls k1 _ _ (rd_L2 l0 x5_1) _ _ (rd_L2 l1 x5_1) false _ ?side1 ?side2 ?side3 ?side4 A7.out).mono ?_); (case side1 => exact cZ (HR383_0.out)); (case side2 => exact HC383_0.out); (case side3 => exact cZ (HR384_0.out)); (case side4 => exact HC384_0.out); rintro e w' ⟨rfl, ⟨nd, rfl⟩⟩; (try first | exact ⟨rfl, _, World.drewN_drewN _ _ _⟩ | exact ⟨rfl, _, Eq.trans (World.drewN_drewN _ _ _) (congrArg (World.drewN _) (Nat.add_assoc _ _ _))⟩)))
      repeat (go_quiet (first | (go_at_call 41; (with_reducible refine (laws_lkInts.calls k1 _ _ (rd_L2 l0 x5_1) _ _ (rd_L2 l1 x5_1) false _ ?side1 ?side2 ?side3 ?side4 A7.out).mono ?_); (case side1 => exact cZ (HR383_0.out)); (case side2 => exact HC383_0.out); (case side3 => exact cZ (HR384_0.out)); (case side4 => exact HC384_0.out); rintro e w' ⟨rfl, ⟨nd, rfl⟩⟩; (try first | exact ⟨rfl, _, World.drewN_drewN _ _ _⟩ | exact ⟨rfl, _, Eq.trans (World.drewN_drewN _ _ _) (congrArg (World.drewN _) (Nat.add_assoc _ _ _))⟩))); try go_wp2_with (first | (go_at_call 41; (with_reducible refine (laws_lkInts.calls k1 _ _ (rd_L2 l0 x5_1) _ _ (rd_L2 l1 x5_1) false _ ?side1 ?side2 ?side3 ?side4 A7.out).mono ?_); (case side1 => exact cZ (HR383_0.out)); (case side2 => exact HC383_0.out); (case side3 => exact cZ (HR384_0.out)); (case side4 => exact HC384_0.out); rintro e w' ⟨rfl, ⟨nd, rfl⟩⟩; (try first | exact ⟨rfl, _, World.drewN_drewN _ _ _⟩ | exact ⟨rfl, _, Eq.trans (World.drewN_drewN _ _ _) (congrArg (World.drewN _) (Nat.add_assoc _ _ _))⟩))))
      go_ret
      exact ⟨z12_4, z12_5⟩
    ·rw [if_neg c4] at H
     have c4b0 : decide (x5_1 < (l0.length : Int)) = false := decide_eq_false c4
     clear c4
     obtain rfl := Option.some.inj H
     go_wp2
     repeat (go_quiet (fail); try go_wp2)
     go_ret
     exact ⟨z12_4, z12_5⟩
 ·rw [if_neg c3] at H
  have c3b0 : ((l0.length : Int) == (l1.length : Int)) = false := beq_eq_false_iff_ne.mpr c3
  have c3b1 : ((l0.length : Int) != (l1.length : Int)) = true := bne_iff_ne.mpr c3
  have c3b2 : (l0.length == l1.length) = false := by first | simpa using c3 | (simp at c3 ⊢; omega)
  obtain rfl := Option.some.inj H
  go_enter Try.func17, Try.ntmps17
  go_wp2
  repeat (go_quiet (fail); try go_wp2)
  go_ret
  exact ⟨z12_4, z12_5⟩

end Go.Proofs.Ytamaejafddmagaa.PA
