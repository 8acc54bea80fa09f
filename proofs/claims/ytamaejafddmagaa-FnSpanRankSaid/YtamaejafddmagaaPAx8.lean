-- Written by a program of this session (after the manner of the kit's print, several laws in one text).
import Derived.Test.YtamaejafddmagaaHp
import Derived.Test.YtamaejafddmagaaPAx0
import Derived.Test.YtamaejafddmagaaPAx2
import Derived.Test.YtamaejafddmagaaPAx7
import Derived.Test.YtamaejafddmagaaGw
import Derived.Test.YtamaejafddmagaaGm
namespace Go.Proofs.Ytamaejafddmagaa.PA
open Go.RowKit Go.Proofs.YtamaejafddmagaaW.PrintWords Go.Proofs.YtamaejafddmagaaW.PrintLast Go.Proofs.YtamaejafddmagaaW.PrintMore
attribute [local go_sem] max2_int min2_int max_two min_two max_three min_three max_four min_four   -- for this text's walks alone
set_option linter.unusedVariables false
set_option linter.unusedSimpArgs false

-- GIVEN: function 55 (impl_vector_list)

-- NOT PRINTED: function 56 (slices_Clip_int_int_56)

/-! ### impl_SpanTidy: function 16 -/
theorem zL8 {p q : Prop} (h : q) (t : q → p := by intro h_; (with_reducible repeat first|refine blk_drewN ?_ _|refine blk_drew ?_|refine blk_alloc ?_ _); exact h_) : p := t h
theorem z8_1 {p : Prop} (h : p := by repeat (first | (with_reducible first | exact HB.out | apply below_alloc | apply pw_below_drewN | apply below_drew1) | exact HB.out)) : p := h
theorem z8_2 {p : Prop} (h : p := by (try simp only [List.map_toArray, List.map_cons, List.map_nil]); first | done | rfl | (simp only [List.length_drop, List.length_take]; rfl)) : p := h
theorem z8_3 {p : Prop} (h : p := by repeat (first | (with_reducible first | exact HB.out | apply below_alloc | apply pw_below_drewN | apply below_drew1 | refine below_set ?_ GE267.out) | exact HB.out)) : p := h
theorem z8_4 {p : Prop} (h : p := by repeat (first | exact Drawn0.refl _ | apply Drawn0.step)) : p := h
theorem z8_5 {p : Prop} (h : p := by first | (with_reducible assumption) | assumption) : p := h
theorem z8_6 {p : Prop} (h : p := by first | rfl | (simp; done) | (simp [*]; done)) : p := h
theorem z8_7 {p : Prop} (h : p := by (with_reducible repeat (first | apply Kd.R_alloc | apply Kd.R_drewN | apply Kd.R_drew)); exact HO_5.out) : p := h
theorem z8_8 {p : Prop} (h : p := by (with_reducible repeat (first | apply Kd.R_alloc | apply Kd.R_drewN | apply Kd.R_drew)); exact HO259.out) : p := h
theorem z8_9 {p : Prop} (h : p := by (with_reducible repeat (first | apply Kd.R_alloc | apply Kd.R_drewN | apply Kd.R_drew)); exact HO_19.out) : p := h
def impl_SpanTidy.l0 : Nat → List (List Int) → List (S70) → Int → Int → Option ((List (List Int)))
  | 0, _, _, _, _ => none
  | k + 1, x5, x19, x20, x21 => if x21 < x20 then (if 0 ≤ x21 then (if x21 < (x19.length : Int) then ((impl_vector_list.f ((rd_T70 x19 x21).f0) ((rd_T70 x19 x21).f1) ((rd_T70 x19 x21).f2) ((rd_T70 x19 x21).f3)).bind fun t268 => (if x5.length < 5864062014805 then (impl_SpanTidy.l0 k (x5 ++ [t268]) x19 x20 (wrap64 (x21 + 1))) else (none))) else (none)) else (none)) else (some x5)
def impl_SpanTidy.f (k : Nat) (l0 : List (List Int)) : Option ((List (List Int))) := (impl_matrixOf.f k l0).bind fun bt256 => (if bt256.2 = true then (if 0 ≤ (l0.length : Int) then (if ((l0.length : Int) : Int).toNat ≤ 11728124029610 then ((impl_tidy.f k bt256.1).bind fun t263 => (impl_SpanTidy.l0 k (([] : List (List Int))) t263 (t263.length : Int) 0)) else (none)) else (none)) else (some ([] : List (List Int))))
set_option maxHeartbeats 8000000 in
set_option maxRecDepth 100000 in
theorem impl_SpanTidy.calls (k : Nat) (A0 : Option Addr) (c0 : Nat) (l0 : List (List Int)) (r : List (List Int)) (w : World) (hr0 : Kd.C (Kd.slice 3 (Kd.int .i64)) w A0 l0.length l0) (hc0 : l0.length ≤ c0) (h : impl_SpanTidy.f k l0 = some r) :
  Calls Try.prog 16 #[.slice A0 l0.length c0] w fun e w' => ∃ v0_ : Value, e = .returned (clip v0_) ∧ Kd.R (Kd.slice 3 (Kd.int .i64)) 28 w' w.heap.size (fun _ => True) v0_ r ∧ Below w.heap.size w w' := by
 have hu70 := Try.underlying70
 have HR0 := Aside0.mk hr0
 have HC0 := Aside0.mk hc0
 clear hr0 hc0
 have HB := Aside0.mk (Below.refl w.heap.size w)
 have H : ((impl_matrixOf.f k l0).bind fun bt256 => (if bt256.2 = true then (if 0 ≤ (l0.length : Int) then (if ((l0.length : Int) : Int).toNat ≤ 11728124029610 then ((impl_tidy.f k bt256.1).bind fun t263 => (impl_SpanTidy.l0 k (([] : List (List Int))) t263 (t263.length : Int) 0)) else (none)) else (none)) else (some ([] : List (List Int))))) = some r := h
 clear h
 replace H := Option.bind_eq_some_iff.mp H
 obtain ⟨⟨t256, t257⟩, A20, H⟩ := H
 replace H : (if t257 = true then (if 0 ≤ (l0.length : Int) then (if ((l0.length : Int) : Int).toNat ≤ 11728124029610 then ((impl_tidy.f k t256).bind fun t263 => (impl_SpanTidy.l0 k (([] : List (List Int))) t263 (t263.length : Int) 0)) else (none)) else (none)) else (some ([] : List (List Int)))) = some r := H
 have A2 := Aside0.mk A20
 clear A20
 by_cases c3 : t257 = true
 ·subst c3
  have H1 : (if 0 ≤ (l0.length : Int) then (if ((l0.length : Int) : Int).toNat ≤ 11728124029610 then ((impl_tidy.f k t256).bind fun t263 => (impl_SpanTidy.l0 k (([] : List (List Int))) t263 (t263.length : Int) 0)) else (none)) else (none)) = some r := by rw [if_pos rfl] at H; exact H
  clear H
  have H := H1
  clear H1
  obtain ⟨c4, H⟩ := ifP H
  have c4b0 := eq_true c4
  have c4b1 : decide (0 ≤ (l0.length : Int)) = true := decide_eq_true c4
  clear c4
  obtain ⟨c5, H⟩ := ifP H
  have c5b0 := eq_true c5
  have c5b1 : decide (((l0.length : Int) : Int).toNat ≤ 11728124029610) = true := decide_eq_true c5
  clear c5
  obtain ⟨y260, hy260⟩ : ∃ y_ : List (List Int), y_ = (([] : List (List Int))) := ⟨_, rfl⟩
  replace H : ((impl_tidy.f k t256).bind fun t263 => (impl_SpanTidy.l0 k y260 t263 (t263.length : Int) 0)) = some r := by first | (rw [hy260]; with_reducible exact H) | (have H2_ := (Option.bind_some _ _).symm.trans H; rw [hy260]; with_reducible exact H2_) | (have H2_ := (Option.bind_some _ _).symm.trans H; with_reducible exact H2_) | with_reducible exact H | (rw [hy260]; exact H) | exact H
  have Ny260 := Aside0.mk hy260
  clear hy260
  replace H := Option.bind_eq_some_iff.mp H
  obtain ⟨t263, A60, H⟩ := H
  replace H : (impl_SpanTidy.l0 k y260 t263 (t263.length : Int) 0) = some r := H
  have A6 := Aside0.mk A60
  clear A60
  have H' := Aside0.mk H
  clear H
  go_enter Try.func16, Try.ntmps16
  go_wp2_with (first | ((with_reducible refine gate_callee (f := 53) rfl ?_); refine goesL_ (some 10) rfl rfl Try.func53 (by kernel_rfl) rfl #[.slice A0 l0.length c0] rfl z8_2 ?_; (with_reducible refine (impl_matrixOf.calls k _ _ l0 t256 true _ ?side1 ?side2 A2.out).mono ?_); (case side1 => exact cZ (HR0.out)); (case side2 => exact HC0.out); rintro e w7 ⟨v258, rfl, ho0, hb⟩; refine ⟨_, rfl, ?_⟩; have HO259 := Aside0.mk (Kd.R_lower ho0 (below_size z8_1)); replace HB := Aside0.mk (below_step z8_1 hb); (try clear hb); (try clear ho0)) | ((with_reducible refine gate_dst (N := 17) rfl ?_); refine R_make0 (Kd.slice 3 (Kd.int .i64)) _ 28 rfl (N := 17) rfl 23 _ _ rfl (l0.length : Int) rfl rfl Try.underlying23 (.slice none 0 0) 24 info28 (by decide) (ok := fun _ => True) (okp := fun _ => True) (fun _ hk => hk) trivial (of_decide_eq_true z8_5) (Nat.le_trans (Nat.mul_le_mul_right _ (of_decide_eq_true z8_5 : (l0.length : Int).toNat ≤ 11728124029610)) (by omega)) (Below.refl _ _) (Nat.le_refl _) ?_; intro v261 w8 ho9 hb hg_ hnew_; clear hg_ hnew_; (first | rw [← Ny260.out] at ho9 | (simp only [Int.reduceToNat] at ho9; rw [← Ny260.out] at ho9)); replace HO259 := Aside0.mk (Kd.R_below z8_8 hb); have HO262 := Aside0.mk (Kd.R_lower ho9 (below_size z8_1)); replace HB := Aside0.mk (below_step z8_1 hb); clear hb ho9; obtain ⟨Ao10, co10, eo10⟩ := Kd.R_slice HO259.out; subst eo10) | ((with_reducible refine gate_callee (f := 54) rfl ?_); refine goesL_ (some 19) rfl rfl Try.func54 (by kernel_rfl) rfl #[.slice Ao10 t256.length co10] rfl z8_2 ?_; (with_reducible refine (impl_tidy.calls k _ _ t256 t263 _ ?side1 ?side2 A6.out).mono ?_); (case side1 => exact cZ ((Kd.R_reads' HO259.out).2.2)); (case side2 => exact (Kd.R_reads' HO259.out).2.1); rintro e w11 ⟨v264, rfl, ho0, hb⟩; refine ⟨_, rfl, ?_⟩; replace HO262 := Aside0.mk (Kd.R_below (by (with_reducible repeat (first | apply Kd.R_alloc | apply Kd.R_drewN | apply Kd.R_drew)); exact HO262.out) hb); have HO265 := Aside0.mk (Kd.R_lower (Kd.R_new' ho0 (Kd.R_lt z8_8)) (below_size z8_1)); replace HO259 := Aside0.mk (Kd.R_elder' z8_8 (Kd.R_base ho0) hb); replace HB := Aside0.mk (below_step z8_1 hb); (try clear hb); (try clear ho0); obtain ⟨Ao12, co12, eo12⟩ := Kd.R_slice HO265.out; subst eo12))
  go_loopg [5, 21] k (fun kq v5 v21 w' => ∃ (x5_1 : List (List Int)) (x21_1 : Int), v21 = .int .i64 x21_1 ∧ Aside0 (impl_SpanTidy.l0 kq x5_1 t263 (t263.length : Int) x21_1 = some r) ∧ Aside0 (kq ≤ k) ∧ Aside0 (Kd.R (Kd.slice 3 (Kd.int .i64)) 28 w' w.heap.size (fun _ => True) v5 x5_1) ∧ Aside0 (Kd.R k70 70 w' w.heap.size (fun _ => True) (.slice Ao12 t263.length co12) t263) ∧ Aside0 (Below w.heap.size w w'))
  case atStart => exact ⟨(y260), (0), z8_6, H', ⟨Nat.le_refl _⟩, ⟨by (with_reducible repeat (first | apply Kd.R_alloc | apply Kd.R_drewN | apply Kd.R_drew)); exact HO262.out⟩, ⟨by (with_reducible repeat (first | apply Kd.R_alloc | apply Kd.R_drewN | apply Kd.R_drew)); exact Kd.R_mono HO265.out (fun _ hk => trivial)⟩, ⟨z8_1⟩⟩
  case round =>
   clear H'
   try clear c3
   try clear c4
   try clear c4b0
   try clear c4b1
   try clear c5
   try clear c5b0
   try clear c5b1
   obtain ⟨x5_1, x21_1, rfl, HA, HK1, HO_5, HO_19, HB⟩ := hrel
   cases gk with
   | zero => exact absurd HA.out (by simp [impl_SpanTidy.l0])
   | succ k1 =>
    have H := HA.out
    clear HA
    simp only [impl_SpanTidy.l0] at H
    by_cases c13 : x21_1 < (t263.length : Int)
    ·rw [if_pos c13] at H
     have c13b0 : decide (x21_1 < (t263.length : Int)) = true := decide_eq_true c13
     clear c13
     obtain ⟨c14, H⟩ := ifP H
     have c14b0 : decide (0 ≤ x21_1) = true := decide_eq_true c14
     clear c14
     obtain ⟨c15, H⟩ := ifP H
     have c15b0 : decide (x21_1 < (t263.length : Int)) = true := decide_eq_true c15
     clear c15
     replace H := Option.bind_eq_some_iff.mp H
     obtain ⟨t268, A160, H⟩ := H
     replace H : (if x5_1.length < 5864062014805 then (impl_SpanTidy.l0 k1 (x5_1 ++ [t268]) t263 (t263.length : Int) (wrap64 (x21_1 + 1))) else (none)) = some r := H
     have A16 := Aside0.mk A160
     clear A160
     obtain ⟨c17, H⟩ := ifP H
     have LMc17 := Aside0.mk c17
     clear c17
     obtain ⟨y271, hy271⟩ : ∃ y_ : List (List Int), y_ = (x5_1 ++ [t268]) := ⟨_, rfl⟩
     replace H : (impl_SpanTidy.l0 k1 y271 t263 (t263.length : Int) (wrap64 (x21_1 + 1))) = some r := by first | (rw [hy271]; with_reducible exact H) | (have H2_ := (Option.bind_some _ _).symm.trans H; rw [hy271]; with_reducible exact H2_) | (have H2_ := (Option.bind_some _ _).symm.trans H; with_reducible exact H2_) | with_reducible exact H | (rw [hy271]; exact H) | exact H
     have Ny271 := Aside0.mk hy271
     clear hy271
     have H' := Aside0.mk H
     clear H
     have p266 : 0 ≤ (x21_1 : Int) := of_decide_eq_true z8_5
     have q266 : x21_1 < (t263.length : Int) := of_decide_eq_true z8_5
     obtain ⟨ad266, e266, hx266_0, hx266_1, hx266_2, hx266_3⟩ := at_T70 (Kd.R_reads' HO_19.out).2.2 x21_1 p266 q266
     cases e266
     replace p266 := eq_true p266
     replace q266 := eq_true q266
     go_wp2_with (first | ((with_reducible refine gate_dst (N := 7) rfl ?_); refine box_event ?hg (N := 7) ?hd (cs := #[.int .i64 0, .int .i64 0, .int .i64 0, .int .i64 0]) (t := 70) ?hr ?_; (case hd => rfl); (case hg => rfl); (case hr => first | (go_simp; done) | (go_simp; rfl)); intro gb267 hg w18 hbox hb; replace HO_5 := Aside0.mk (Kd.R_below z8_7 hb); replace HO_19 := Aside0.mk (Kd.R_below (Kd.R_elderB z8_9 gb267 (Nat.le_of_eq hg.symm)) hb); have BK267 := Aside0.mk (hbox); have GW267 := Aside0.mk ((by rw [hg]; exact (below_size z8_1) : w.heap.size ≤ gb267)); have GE267 := Aside0.mk ((by rw [hg]; exact (below_size z8_1) : w.heap.size ≤ gb267)); replace HB := Aside0.mk (below_step z8_1 hb); clear hb hbox hg; have hcz19_0 : w18.cell? ⟨gb267, 0, none⟩ = some (.int .i64 0) := (blk_cell BK267.out 0).trans rfl; have hfz19_0 := blk_frozen BK267.out 0; have hcz20_1 : w18.cell? ⟨gb267, 1, none⟩ = some (.int .i64 0) := (blk_cell BK267.out 1).trans rfl; have hfz20_1 := blk_frozen BK267.out 1; have hcz21_2 : w18.cell? ⟨gb267, 2, none⟩ = some (.int .i64 0) := (blk_cell BK267.out 2).trans rfl; have hfz21_2 := blk_frozen BK267.out 2; have hcz22_3 : w18.cell? ⟨gb267, 3, none⟩ = some (.int .i64 0) := (blk_cell BK267.out 3).trans rfl; have hfz22_3 := blk_frozen BK267.out 3) | ((with_reducible refine gate_store (t := 70) (p := 7) rfl ?_); refine store_event (t := 70) (p := 7) (v := ?vo_w23) (w1 := ((((w18.setCell ⟨gb267, 0, none⟩ (.int .i64 ((rd_T70 t263 x21_1).f0))).setCell ⟨gb267, 1, none⟩ (.int .i64 ((rd_T70 t263 x21_1).f1))).setCell ⟨gb267, 2, none⟩ (.int .i64 ((rd_T70 t263 x21_1).f2))).setCell ⟨gb267, 3, none⟩ (.int .i64 ((rd_T70 t263 x21_1).f3)))) ?hg ?ho ?hn ?hr ?_; (case ho => rfl); (case hg => rfl); (case hn => rfl); (case hr => first | (go_simp; done) | (go_simp; rfl)); intro w23 hw; have n0_ : Aside0 (Kd.R (Kd.slice 3 (Kd.int .i64)) 28 w23 w.heap.size (fun _ => True) u5 x5_1) := ⟨(by rw [hw]; exact (by (with_reducible repeat (first | apply Kd.R_alloc | apply Kd.R_drewN | apply Kd.R_drew)); exact Kd.R_mono (Kd.R_far (p := ⟨gb267, 3, none⟩) (Kd.R_far (p := ⟨gb267, 2, none⟩) (Kd.R_far (p := ⟨gb267, 1, none⟩) (Kd.R_far (p := ⟨gb267, 0, none⟩) (Kd.R_types HO_5.out BK267.out (by decide)) (fun _ hk => hk.2) (.int .i64 ((rd_T70 t263 x21_1).f0))) (fun _ hk => hk.2) (.int .i64 ((rd_T70 t263 x21_1).f1))) (fun _ hk => hk.2) (.int .i64 ((rd_T70 t263 x21_1).f2))) (fun _ hk => hk.2) (.int .i64 ((rd_T70 t263 x21_1).f3))) (fun _ hk => trivial)))⟩; have n1_ : Aside0 (Kd.R k70 70 w23 w.heap.size (fun k_ => k_ ≠ gb267) (.slice (some ad266) t263.length co12) t263) := ⟨(by rw [hw]; exact (by (with_reducible repeat (first | apply Kd.R_alloc | apply Kd.R_drewN | apply Kd.R_drew)); exact Kd.R_mono (Kd.R_far (p := ⟨gb267, 3, none⟩) (Kd.R_far (p := ⟨gb267, 2, none⟩) (Kd.R_far (p := ⟨gb267, 1, none⟩) (Kd.R_far (p := ⟨gb267, 0, none⟩) (Kd.R_mono HO_19.out (fun k_ hk => (⟨hk, hk.2⟩ : _ ∧ k_ ≠ gb267))) (fun _ hk => hk.2) (.int .i64 ((rd_T70 t263 x21_1).f0))) (fun _ hk => hk.2) (.int .i64 ((rd_T70 t263 x21_1).f1))) (fun _ hk => hk.2) (.int .i64 ((rd_T70 t263 x21_1).f2))) (fun _ hk => hk.2) (.int .i64 ((rd_T70 t263 x21_1).f3))) (fun _ hk => hk.1.2)))⟩; have n2_ : Aside0 (w23.heap[gb267]? = some (.cells #[.int .i64 ((rd_T70 t263 x21_1).f0), .int .i64 ((rd_T70 t263 x21_1).f1), .int .i64 ((rd_T70 t263 x21_1).f2), .int .i64 ((rd_T70 t263 x21_1).f3)] 70 (0, 0))) := ⟨(by rw [hw]; exact (bZ BK267.out))⟩; have n3_ : Aside0 (Below w.heap.size w w23) := ⟨(by rw [hw]; exact z8_3)⟩; clear hw; clear HO_5; clear HO_19; clear BK267; clear HB; have HO_5 := n0_; have HO_19 := n1_; have BK267 := n2_; have HB := n3_; clear n0_ n1_ n2_ n3_; have hcz24_0 : w23.cell? ⟨gb267, 0, none⟩ = some (.int .i64 ((rd_T70 t263 x21_1).f0)) := (blk_cell BK267.out 0).trans rfl; have hcz24_1 : w23.cell? ⟨gb267, 1, none⟩ = some (.int .i64 ((rd_T70 t263 x21_1).f1)) := (blk_cell BK267.out 1).trans rfl; have hcz24_2 : w23.cell? ⟨gb267, 2, none⟩ = some (.int .i64 ((rd_T70 t263 x21_1).f2)) := (blk_cell BK267.out 2).trans rfl; have hcz24_3 : w23.cell? ⟨gb267, 3, none⟩ = some (.int .i64 ((rd_T70 t263 x21_1).f3)) := (blk_cell BK267.out 3).trans rfl; have hfz24_0 := blk_frozen BK267.out 0; have hfz24_1 := blk_frozen BK267.out 1; have hfz24_2 := blk_frozen BK267.out 2; have hfz24_3 := blk_frozen BK267.out 3) | ((with_reducible refine gate_callee (f := 55) rfl ?_); refine goesL_ (some 27) rfl rfl Try.func55 (by kernel_rfl) rfl #[.agg #[.int .i64 ((rd_T70 t263 x21_1).f0), .int .i64 ((rd_T70 t263 x21_1).f1), .int .i64 ((rd_T70 t263 x21_1).f2), .int .i64 ((rd_T70 t263 x21_1).f3)]] rfl z8_2 ?_; (with_reducible refine (impl_vector_list.calls ((rd_T70 t263 x21_1).f0) ((rd_T70 t263 x21_1).f1) ((rd_T70 t263 x21_1).f2) ((rd_T70 t263 x21_1).f3) t268 _ A16.out).mono ?_); rintro e w25 ⟨v269, rfl, ho0, hb⟩; refine ⟨_, rfl, ?_⟩; replace HO_5 := Aside0.mk (Kd.R_elder' z8_7 (Kd.R_base ho0) hb); replace HO_19 := Aside0.mk (Kd.R_below z8_9 hb); have HO270 := Aside0.mk (Kd.R_lower ho0 (below_size z8_3)); replace BK267 := Aside0.mk (blk_below (g := gb267) (o := .cells #[.int .i64 ((rd_T70 t263 x21_1).f0), .int .i64 ((rd_T70 t263 x21_1).f1), .int .i64 ((rd_T70 t263 x21_1).f2), .int .i64 ((rd_T70 t263 x21_1).f3)] 70 (0, 0)) (zL8 BK267.out) hb); replace HB := Aside0.mk (below_step z8_3 hb); (try clear hb); (try clear ho0); obtain ⟨Ao27, co27, eo27⟩ := Kd.R_slice HO270.out; subst eo27) | ((with_reducible refine gate_builtin (b := .append) (xs := #[.tmp 25, .tmp 28]) rfl ?_); at_builtin; refine Kd.R_append (Kd.slice 3 (Kd.int .i64)) (w0 := w) w.heap.size rfl (.tmp 25) (.tmp 28) 23 28 (.slice none 0 0) 24 rfl Try.underlying23 info28 rfl (by decide) (by omega) u5 x5_1 t268 [.slice Ao27 t268.length co27] (fun _ => True) (fun k_ => ((fun _ => True)) k_ ∧ some k_ ≠ (u5 : Value).ownBlock) rfl rfl ?aP (fun _ hk => hk) ?aF ?aO ?aB ?aS ?aL ?_; (case aP => exact Kd.M_row (Kd.R_mono (Kd.R_apart' (HO270.out) (Kd.R_typed HO_5.out) (by decide)) (fun k_ hk => ⟨trivial, hk.2⟩))); (case aB => exact z8_3); (case aF => exact (fun _ _ => trivial)); (case aO => exact (by (with_reducible repeat (first | apply Kd.R_alloc | apply Kd.R_drewN | apply Kd.R_drew)); exact Kd.R_mono HO_5.out (fun _ hk => trivial))); (case aS => exact (below_size z8_3)); (case aL => have := LMc17.out; omega); intro v272 w26 ho hb hg hat; rw [← Ny271.out] at ho; have n0_ := Aside0.mk (Kd.R_over' z8_9 (Kd.R_typed z8_7) (by decide) hg); have n1_ := Aside0.mk (blk_grown (g := gb267) (o := .cells #[.int .i64 ((rd_T70 t263 x21_1).f0), .int .i64 ((rd_T70 t263 x21_1).f1), .int .i64 ((rd_T70 t263 x21_1).f2), .int .i64 ((rd_T70 t263 x21_1).f3)] 70 (0, 0)) (zL8 BK267.out) hg (Kd.R_ne HO_5.out BK267.out (by decide))); have n2_ := Aside0.mk (hb); have n3_ := Aside0.mk (ho); clear HO_19; clear BK267; clear HB; clear HO_5; clear HO270; have HO_19 := n0_; have BK267 := n1_; have HB := n2_; have HO273 := n3_; clear n0_ n1_ n2_ n3_; clear ho hb hg hat))
     go_roundg k1
     case measure => have := HK1.out; omega
     case rel => exact ⟨(y271), (wrap64 (x21_1 + 1)), z8_6, H', ⟨by have := HK1.out; omega⟩, ⟨by (with_reducible repeat (first | apply Kd.R_alloc | apply Kd.R_drewN | apply Kd.R_drew)); exact HO273.out⟩, ⟨by (with_reducible repeat (first | apply Kd.R_alloc | apply Kd.R_drewN | apply Kd.R_drew)); exact Kd.R_mono HO_19.out (fun _ hk => trivial)⟩, ⟨z8_3⟩⟩
    ·rw [if_neg c13] at H
     have c13b0 : decide (x21_1 < (t263.length : Int)) = false := decide_eq_false c13
     clear c13
     obtain rfl := Option.some.inj H
     obtain ⟨AoC, coC, eoC⟩ := Kd.R_slice HO_5.out
     subst eoC
     go_wp2_with ((with_reducible refine gate_callee (f := 56) rfl ?_); refine goesL_ (some 32) rfl rfl Try.func56 (by kernel_rfl) rfl #[.slice AoC x5_1.length coC] rfl (by (try simp only [List.map_toArray, List.map_cons, List.map_nil]); first | done | rfl) ?_; (with_reducible refine (slices_Clip_rows.calls _ _ _ ?side1 _).mono ?_); (case side1 => exact (Kd.R_reads' HO_5.out).2.1); rintro e wC ⟨rfl, hbC⟩; refine ⟨_, rfl, ?_⟩; have HOC := Aside0.mk (Kd.R_below z8_7 hbC); have HBC := Aside0.mk (below_step z8_1 hbC); clear hbC HB HO_5; have HB := HBC)
     go_ret
     exact ⟨.slice AoC x5_1.length coC, by rfl, by (with_reducible repeat (first | apply Kd.R_alloc | apply Kd.R_drewN | apply Kd.R_drew)); exact HOC.out, z8_1⟩
 ·replace c3 := Bool.eq_false_iff.mpr c3
  subst c3
  have H1 : (some ([] : List (List Int))) = some r := by rw [if_neg (show ¬ (false = true) by decide)] at H; exact H
  clear H
  have H := H1
  clear H1
  obtain rfl := Option.some.inj H
  go_enter Try.func16, Try.ntmps16
  go_wp2_with (first | ((with_reducible refine gate_callee (f := 53) rfl ?_); refine goesL_ (some 10) rfl rfl Try.func53 (by kernel_rfl) rfl #[.slice A0 l0.length c0] rfl z8_2 ?_; (with_reducible refine (impl_matrixOf.calls k _ _ l0 t256 false _ ?side1 ?side2 A2.out).mono ?_); (case side1 => exact cZ (HR0.out)); (case side2 => exact HC0.out); rintro e w28 ⟨v258, rfl, ho0, hb⟩; refine ⟨_, rfl, ?_⟩; have HO259 := Aside0.mk (Kd.R_lower ho0 (below_size z8_1)); replace HB := Aside0.mk (below_step z8_1 hb); (try clear hb); (try clear ho0)))
  go_ret
  exact ⟨.slice none 0 0, by rfl, by first | exact Kd.R_nil _ _ _ _ _ | exact Kd.N_nil _ _ _ _ _ | exact Kd.V_nil _ _ _ _ _ | exact Kd.Q_nil _ _ _ _ _ | exact Kd.S_nil _ _ _ _ _, z8_1⟩

/-! ### spec_l6In: function 105 -/
def spec_l6In.f (a0 : Int) (a1 : Int) (a2 : Int) : Option (Bool) := if a0 ≥ a1 then (some (decide (a0 ≤ a2))) else (some false)
set_option maxHeartbeats 8000000 in
set_option maxRecDepth 100000 in
theorem spec_l6In.calls (a0 : Int) (a1 : Int) (a2 : Int) (r : Bool) (w : World) (h : spec_l6In.f a0 a1 a2 = some r) :
  Calls Try.prog 105 #[.int .i64 a0, .int .i64 a1, .int .i64 a2] w fun e w' => e = .returned (.bool r) ∧ Drawn0 w w' := by
 have H : (if a0 ≥ a1 then (some (decide (a0 ≤ a2))) else (some false)) = some r := h
 clear h
 by_cases c4 : a0 ≥ a1
 ·rw [if_pos c4] at H
  have c4b0 : decide (a1 ≤ a0) = true := decide_eq_true c4
  clear c4
  obtain rfl := Option.some.inj H
  go_enter Try.func105, Try.ntmps105
  go_wp2
  go_ret
  exact ⟨z8_6, z8_4⟩
 ·rw [if_neg c4] at H
  have c4b0 : decide (a1 ≤ a0) = false := decide_eq_false c4
  clear c4
  obtain rfl := Option.some.inj H
  go_enter Try.func105, Try.ntmps105
  go_wp2
  go_ret
  exact ⟨z8_6, z8_4⟩

/-! ### spec_FieldOk: function 97 -/
def spec_FieldOk.f (a0 : Int) : Option (Bool) := (spec_l6In.f a0 0 30).bind fun t274 => (some t274)
set_option maxHeartbeats 8000000 in
set_option maxRecDepth 100000 in
theorem spec_FieldOk.calls (a0 : Int) (r : Bool) (w : World) (h : spec_FieldOk.f a0 = some r) :
  Calls Try.prog 97 #[.int .i64 a0] w fun e w' => e = .returned (.bool r) ∧ Drawn0 w w' := by
 have H : ((spec_l6In.f a0 0 30).bind fun t274 => (some t274)) = some r := h
 clear h
 replace H := Option.bind_eq_some_iff.mp H
 obtain ⟨t274, A20, H⟩ := H
 replace H : (some t274) = some r := H
 have A2 := Aside0.mk A20
 clear A20
 obtain rfl := Option.some.inj H
 go_enter Try.func97, Try.ntmps97
 go_wp2_with (first | ((with_reducible refine gate_callee (f := 105) rfl ?_); refine goesL_ (some 4) rfl rfl Try.func105 (by kernel_rfl) rfl #[.int .i64 a0, .int .i64 0, .int .i64 30] rfl z8_2 ?_; (with_reducible refine (spec_l6In.calls a0 0 30 t274 _ A2.out).mono ?_); rintro e w' ⟨rfl, ⟨nd, rfl⟩⟩; refine ⟨_, rfl, ?_⟩))
 go_ret
 exact ⟨z8_6, z8_4⟩

/-! ### spec_VecOk: function 58 -/
def spec_VecOk.l0 : Nat → List Int → Int → Option (Bool)
  | 0, _, _ => none
  | k + 1, x0, x3 => if x3 < (x0.length : Int) then (if 0 ≤ x3 then ((spec_FieldOk.f (rd x0 x3)).bind fun t276 => (if t276 = true then (spec_VecOk.l0 k x0 (wrap64 (x3 + 1))) else (some false))) else (none)) else (some ((x0.length : Int) == 4))
def spec_VecOk.f (k : Nat) (l0 : List Int) : Option (Bool) := spec_VecOk.l0 k l0 0
set_option maxHeartbeats 8000000 in
set_option maxRecDepth 100000 in
theorem spec_VecOk.calls (k : Nat) (A0 : Option Addr) (c0 : Nat) (l0 : List Int) (r : Bool) (w : World) (hr0 : Kd.C (Kd.int .i64) w A0 l0.length l0) (hc0 : l0.length ≤ c0) (h : spec_VecOk.f k l0 = some r) :
  Calls Try.prog 58 #[.slice A0 l0.length c0] w fun e w' => e = .returned (.bool r) ∧ Drawn0 w w' := by
 have HR0 := Aside0.mk hr0
 have HC0 := Aside0.mk hc0
 clear hr0 hc0
 have H : (spec_VecOk.l0 k l0 0) = some r := h
 clear h
 have H' := Aside0.mk H
 clear H
 go_enter Try.func58, Try.ntmps58
 go_wp2
 go_loopg [3] k (fun kq v3 w' => ∃ (x3_1 : Int), v3 = .int .i64 x3_1 ∧ Aside0 (spec_VecOk.l0 kq l0 x3_1 = some r) ∧ Aside0 (kq ≤ k) ∧ Drawn0 w w')
 case atStart => exact ⟨(0), z8_6, H', ⟨Nat.le_refl _⟩, z8_4⟩
 case round =>
  clear H'
  obtain ⟨x3_1, rfl, HA, HK1, ⟨m1, rfl⟩⟩ := hrel
  cases gk with
  | zero => exact absurd HA.out (by simp [spec_VecOk.l0])
  | succ k1 =>
   have H := HA.out
   clear HA
   simp only [spec_VecOk.l0] at H
   by_cases c2 : x3_1 < (l0.length : Int)
   ·rw [if_pos c2] at H
    have c2b0 : decide (x3_1 < (l0.length : Int)) = true := decide_eq_true c2
    clear c2
    obtain ⟨c3, H⟩ := ifP H
    have c3b0 : decide (0 ≤ x3_1) = true := decide_eq_true c3
    clear c3
    replace H := Option.bind_eq_some_iff.mp H
    obtain ⟨t276, A40, H⟩ := H
    replace H : (if t276 = true then (spec_VecOk.l0 k1 l0 (wrap64 (x3_1 + 1))) else (some false)) = some r := H
    have A4 := Aside0.mk A40
    clear A40
    by_cases c5 : t276 = true
    ·subst c5
     have H1 : (spec_VecOk.l0 k1 l0 (wrap64 (x3_1 + 1))) = some r := by rw [if_pos rfl] at H; exact H
     clear H
     have H := H1
     clear H1
     have H' := Aside0.mk H
     clear H
     have p275 : 0 ≤ (x3_1 : Int) := of_decide_eq_true z8_5
     have q275 : x3_1 < (l0.length : Int) := of_decide_eq_true z8_5
     obtain ⟨ad275, e275, hx275_0⟩ := Kd.at_int HR0.out x3_1 p275 q275
     cases e275
     replace p275 := eq_true p275
     replace q275 := eq_true q275
     go_wp2_with (first | ((with_reducible refine gate_callee (f := 97) rfl ?_); refine goesL_ (some 14) rfl rfl Try.func97 (by kernel_rfl) rfl #[.int .i64 (rd l0 x3_1)] rfl z8_2 ?_; (with_reducible refine (spec_FieldOk.calls (rd l0 x3_1) true _ A4.out).mono ?_); rintro e w' ⟨rfl, ⟨nd, rfl⟩⟩; refine ⟨_, rfl, ?_⟩))
     go_roundg k1
     case measure => have := HK1.out; omega
     case rel => exact ⟨(wrap64 (x3_1 + 1)), z8_6, H', ⟨by have := HK1.out; omega⟩, z8_4⟩
    ·replace c5 := Bool.eq_false_iff.mpr c5
     subst c5
     have H1 : (some false) = some r := by rw [if_neg (show ¬ (false = true) by decide)] at H; exact H
     clear H
     have H := H1
     clear H1
     obtain rfl := Option.some.inj H
     have p275 : 0 ≤ (x3_1 : Int) := of_decide_eq_true z8_5
     have q275 : x3_1 < (l0.length : Int) := of_decide_eq_true z8_5
     obtain ⟨ad275, e275, hx275_0⟩ := Kd.at_int HR0.out x3_1 p275 q275
     cases e275
     replace p275 := eq_true p275
     replace q275 := eq_true q275
     go_wp2_with (first | ((with_reducible refine gate_callee (f := 97) rfl ?_); refine goesL_ (some 14) rfl rfl Try.func97 (by kernel_rfl) rfl #[.int .i64 (rd l0 x3_1)] rfl z8_2 ?_; (with_reducible refine (spec_FieldOk.calls (rd l0 x3_1) false _ A4.out).mono ?_); rintro e w' ⟨rfl, ⟨nd, rfl⟩⟩; refine ⟨_, rfl, ?_⟩))
     go_ret
     exact ⟨z8_6, z8_4⟩
   ·rw [if_neg c2] at H
    have c2b0 : decide (x3_1 < (l0.length : Int)) = false := decide_eq_false c2
    clear c2
    obtain rfl := Option.some.inj H
    go_wp2
    go_ret
    exact ⟨z8_6, z8_4⟩

/-! ### spec_SpanOk: function 19 -/
def spec_SpanOk.l0 : Nat → List (List Int) → Int → Option (Bool)
  | 0, _, _ => none
  | k + 1, x0, x3 => if x3 < (x0.length : Int) then (if 0 ≤ x3 then ((spec_VecOk.f k (rd_L1 x0 x3)).bind fun t278 => (if t278 = true then (spec_SpanOk.l0 k x0 (wrap64 (x3 + 1))) else (some false))) else (none)) else (some (decide ((x0.length : Int) ≤ 8)))
def spec_SpanOk.f (k : Nat) (l0 : List (List Int)) : Option (Bool) := spec_SpanOk.l0 k l0 0
set_option maxHeartbeats 8000000 in
set_option maxRecDepth 100000 in
theorem spec_SpanOk.calls (k : Nat) (A0 : Option Addr) (c0 : Nat) (l0 : List (List Int)) (r : Bool) (w : World) (hr0 : Kd.C (Kd.slice 3 (Kd.int .i64)) w A0 l0.length l0) (hc0 : l0.length ≤ c0) (h : spec_SpanOk.f k l0 = some r) :
  Calls Try.prog 19 #[.slice A0 l0.length c0] w fun e w' => e = .returned (.bool r) ∧ Drawn0 w w' := by
 have HR0 := Aside0.mk hr0
 have HC0 := Aside0.mk hc0
 clear hr0 hc0
 have H : (spec_SpanOk.l0 k l0 0) = some r := h
 clear h
 have H' := Aside0.mk H
 clear H
 go_enter Try.func19, Try.ntmps19
 go_wp2
 go_loopg [3] k (fun kq v3 w' => ∃ (x3_1 : Int), v3 = .int .i64 x3_1 ∧ Aside0 (spec_SpanOk.l0 kq l0 x3_1 = some r) ∧ Aside0 (kq ≤ k) ∧ Drawn0 w w')
 case atStart => exact ⟨(0), z8_6, H', ⟨Nat.le_refl _⟩, z8_4⟩
 case round =>
  clear H'
  obtain ⟨x3_1, rfl, HA, HK1, ⟨m1, rfl⟩⟩ := hrel
  cases gk with
  | zero => exact absurd HA.out (by simp [spec_SpanOk.l0])
  | succ k1 =>
   have H := HA.out
   clear HA
   simp only [spec_SpanOk.l0] at H
   by_cases c2 : x3_1 < (l0.length : Int)
   ·rw [if_pos c2] at H
    have c2b0 : decide (x3_1 < (l0.length : Int)) = true := decide_eq_true c2
    clear c2
    obtain ⟨c3, H⟩ := ifP H
    have c3b0 : decide (0 ≤ x3_1) = true := decide_eq_true c3
    clear c3
    replace H := Option.bind_eq_some_iff.mp H
    obtain ⟨t278, A40, H⟩ := H
    replace H : (if t278 = true then (spec_SpanOk.l0 k1 l0 (wrap64 (x3_1 + 1))) else (some false)) = some r := H
    have A4 := Aside0.mk A40
    clear A40
    by_cases c5 : t278 = true
    ·subst c5
     have H1 : (spec_SpanOk.l0 k1 l0 (wrap64 (x3_1 + 1))) = some r := by rw [if_pos rfl] at H; exact H
     clear H
     have H := H1
     clear H1
     have H' := Aside0.mk H
     clear H
     have p277 : 0 ≤ (x3_1 : Int) := of_decide_eq_true z8_5
     have q277 : x3_1 < (l0.length : Int) := of_decide_eq_true z8_5
     obtain ⟨ad277, A277_0, c277_0, e277, hx277_0, hl277_0, hi277_0⟩ := at_L1 HR0.out x3_1 p277 q277
     cases e277
     have HR277_0 := Aside0.mk hi277_0
     have HC277_0 := Aside0.mk hl277_0
     clear hi277_0 hl277_0
     replace p277 := eq_true p277
     replace q277 := eq_true q277
     go_wp2_with (first | ((with_reducible refine gate_callee (f := 58) rfl ?_); refine goesL_ (some 14) rfl rfl Try.func58 (by kernel_rfl) rfl #[.slice A277_0 (rd_L1 l0 x3_1).length c277_0] rfl z8_2 ?_; (with_reducible refine (spec_VecOk.calls k1 _ _ (rd_L1 l0 x3_1) true _ ?side1 ?side2 A4.out).mono ?_); (case side1 => exact cZ (HR277_0.out)); (case side2 => exact HC277_0.out); rintro e w' ⟨rfl, ⟨nd, rfl⟩⟩; refine ⟨_, rfl, ?_⟩))
     go_roundg k1
     case measure => have := HK1.out; omega
     case rel => exact ⟨(wrap64 (x3_1 + 1)), z8_6, H', ⟨by have := HK1.out; omega⟩, z8_4⟩
    ·replace c5 := Bool.eq_false_iff.mpr c5
     subst c5
     have H1 : (some false) = some r := by rw [if_neg (show ¬ (false = true) by decide)] at H; exact H
     clear H
     have H := H1
     clear H1
     obtain rfl := Option.some.inj H
     have p277 : 0 ≤ (x3_1 : Int) := of_decide_eq_true z8_5
     have q277 : x3_1 < (l0.length : Int) := of_decide_eq_true z8_5
     obtain ⟨ad277, A277_0, c277_0, e277, hx277_0, hl277_0, hi277_0⟩ := at_L1 HR0.out x3_1 p277 q277
     cases e277
     have HR277_0 := Aside0.mk hi277_0
     have HC277_0 := Aside0.mk hl277_0
     clear hi277_0 hl277_0
     replace p277 := eq_true p277
     replace q277 := eq_true q277
     go_wp2_with (first | ((with_reducible refine gate_callee (f := 58) rfl ?_); refine goesL_ (some 14) rfl rfl Try.func58 (by kernel_rfl) rfl #[.slice A277_0 (rd_L1 l0 x3_1).length c277_0] rfl z8_2 ?_; (with_reducible refine (spec_VecOk.calls k1 _ _ (rd_L1 l0 x3_1) false _ ?side1 ?side2 A4.out).mono ?_); (case side1 => exact cZ (HR277_0.out)); (case side2 => exact HC277_0.out); rintro e w' ⟨rfl, ⟨nd, rfl⟩⟩; refine ⟨_, rfl, ?_⟩))
     go_ret
     exact ⟨z8_6, z8_4⟩
   ·rw [if_neg c2] at H
    have c2b0 : decide (x3_1 < (l0.length : Int)) = false := decide_eq_false c2
    clear c2
    obtain rfl := Option.some.inj H
    go_wp2
    go_ret
    exact ⟨z8_6, z8_4⟩

end Go.Proofs.Ytamaejafddmagaa.PA
