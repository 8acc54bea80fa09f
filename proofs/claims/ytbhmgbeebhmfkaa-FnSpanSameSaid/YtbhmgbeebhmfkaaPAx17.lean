-- Written by a program of this session (after the manner of the kit's print, several laws in one text).
import Derived.Test.YtbhmgbeebhmfkaaPAx0
import Derived.Test.YtbhmgbeebhmfkaaPAx14
import Derived.Test.YtbhmgbeebhmfkaaPAx16
import Derived.Test.YtbhmgbeebhmfkaaGw
import Derived.Test.YtbhmgbeebhmfkaaGm
namespace Go.Proofs.Ytbhmgbeebhmfkaa.PA
open Go.RowKit Go.Proofs.YtbhmgbeebhmfkaaW.PrintWords Go.Proofs.YtbhmgbeebhmfkaaW.PrintLast Go.Proofs.YtbhmgbeebhmfkaaW.PrintMore
attribute [local go_sem] max2_int min2_int max_two min_two max_three min_three max_four min_four   -- for this text's walks alone
set_option linter.unusedVariables false
set_option linter.unusedSimpArgs false

/-! ### spec_l6Open: function 64 -/
theorem zL17 {p q : Prop} (h : q) (t : q → p := by intro h_; (with_reducible repeat first|refine blk_drewN ?_ _|refine blk_drew ?_|refine blk_alloc ?_ _); exact h_) : p := t h
theorem z17_1 {p : Prop} (h : p := by repeat (first | (with_reducible first | exact HB.out | apply below_alloc | apply pw_below_drewN | apply below_drew1 | refine below_set ?_ (IsS92.ge HI554.out)) | exact HB.out)) : p := h
theorem z17_2 {p : Prop} (h : p := by (try simp only [List.map_toArray, List.map_cons, List.map_nil]); first | done | rfl | (simp only [List.length_drop, List.length_take]; rfl)) : p := h
theorem z17_3 {p : Prop} (h : p := by repeat (first | (with_reducible first | exact HI554.out | apply IsS92.alloc | apply IsS92.drewN | apply IsS92.drew | apply IsS92.set_1) | exact HI554.out)) : p := h
theorem z17_4 {p : Prop} (h : p := by (with_reducible repeat (first | apply Kd.N_alloc | apply Kd.N_drewN | apply Kd.N_drew)); exact HO557.out) : p := h
theorem z17_5 {p : Prop} (h : p := by repeat (first | (with_reducible first | exact HB.out | apply below_alloc | apply pw_below_drewN | apply below_drew1) | exact HB.out)) : p := h
theorem z17_6 {p : Prop} (h : p := by repeat (first | (with_reducible first | exact HBW.out | apply below_alloc | apply pw_below_drewN | apply below_drew1) | exact HBW.out)) : p := h
theorem z17_7 {p : Prop} (h : p := by (with_reducible repeat (first | apply Kd.N_alloc | apply Kd.N_drewN | apply Kd.N_drew)); exact HO_5.out) : p := h
theorem z17_8 {p : Prop} (h : p := by (with_reducible repeat (first | apply Kd.N_alloc | apply Kd.N_drewN | apply Kd.N_drew)); exact Kd.N_mono HO557.out (fun _ hk => ⟨hk.1.1, hk.2⟩)) : p := h
theorem z17_9 {p : Prop} (h : p := by first | rfl | (simp [errW_none, errW_some] <;> rfl) | (simp [*, errW_none, errW_some] <;> rfl)) : p := h
theorem z17_10 {p : Prop} (h : p := by first | (with_reducible assumption) | assumption) : p := h
def spec_l6Open.f (l0 : List Int) : Option (List Int × Int) := if (l0.length : Int) > 2000 then (if 2000 ≤ (l0.length : Int) then (some (l0.take 2000, 0)) else (none)) else (some (l0, 0))
set_option maxHeartbeats 8000000 in
set_option maxRecDepth 100000 in
theorem spec_l6Open.calls (A0 : Option Addr) (c0 : Nat) (l0 : List Int) (r1 : List Int) (r2 : Int) (w0 w : World) (hB : Below w0.heap.size w0 w) (hr0 : Kd.C (Kd.int .u8) w0 A0 l0.length l0) (hc0 : l0.length ≤ c0) (h : spec_l6Open.f l0 = some (r1, r2)) :
  Calls Try.prog 64 #[.slice A0 l0.length c0] w fun e w' => ∃ g_ : Nat, e = .returned (.pointer (some ⟨g_, 0, none⟩)) ∧ IsS92 w0 w' g_ r1 r2 ∧ Below w0.heap.size w0 w' ∧ Below w.heap.size w w' := by
 have hu92 := Try.underlying92
 have HR0 := Aside0.mk hr0
 have HC0 := Aside0.mk hc0
 clear hr0 hc0
 have HBW := Aside0.mk (Below.refl w.heap.size w)
 have HW0 := Aside0.mk hB.size
 have HB := Aside0.mk hB
 clear hB
 have H : (if (l0.length : Int) > 2000 then (if 2000 ≤ (l0.length : Int) then (some (l0.take 2000, 0)) else (none)) else (some (l0, 0))) = some (r1, r2) := h
 clear h
 by_cases c2 : (l0.length : Int) > 2000
 ·rw [if_pos c2] at H
  have c2b0 : decide (2000 < (l0.length : Int)) = true := decide_eq_true c2
  have c2b1 : decide (2000 < l0.length) = true := decide_eq_true (by omega)
  clear c2
  obtain ⟨c3, H⟩ := ifP H
  have c3b0 := eq_true c3
  have c3b1 : decide (2000 ≤ (l0.length : Int)) = true := decide_eq_true c3
  clear c3
  simp only [Option.some.injEq, Prod.mk.injEq] at H
  obtain ⟨rfl, rfl⟩ := H
  obtain ⟨i04, hi04, _, hsz4, _⟩ := info_parts info5
  obtain ⟨hcut4, hA4, hC4⟩ := print_take_of (P := Try.prog) (Value.int .u8) 0 36 5 .i64 Try.underlying36 hi04 hsz4 A0 c0 l0 2000 (by omega) (of_decide_eq_true z17_10) HC0.out
  have HR549 := Aside0.mk (Kd.C_of_reads (h1 := fun _ => rfl) (hA4 _ (Kd.reads_of_C HR0.out)))
  have HC549 := Aside0.mk hC4
  clear hA4 hC4 hi04 hsz4
  go_enter Try.func64, Try.ntmps64
  go_wp2_with (first | ((with_reducible refine gate_dst (N := 10) rfl ?_); refine box_event ?hg (N := 10) ?hd (cs := #[.slice A0 (l0.take 2000).length c0, .int .i64 0]) (t := 92) ?hr ?_; (case hd => rfl); (case hg => rfl); (case hr => first | (go_simp; done) | (go_simp; rfl)); intro gb550 hg w5 hbox hb; replace HB := Aside0.mk (below_step z17_5 hb); have BK550 := Aside0.mk (hbox); have GW550 := Aside0.mk ((by rw [hg]; exact (below_size z17_6) : w.heap.size ≤ gb550)); have GE550 := Aside0.mk ((Nat.le_trans HW0.out (by rw [hg]; exact (below_size z17_6) : w.heap.size ≤ gb550) : w0.heap.size ≤ gb550)); replace HBW := Aside0.mk (below_step HBW.out hb); clear hb hbox hg))
  go_ret
  exact ⟨_, rfl, (show IsS92 w0 _ gb550 (l0.take 2000) 0 from ⟨_, _, zL17 BK550.out, GE550.out, HR549.out⟩), by repeat (first | (with_reducible first | exact HB.out | apply below_alloc | apply pw_below_drewN | apply below_drew1 | refine below_set ?_ GE550.out) | exact HB.out), by repeat (first | (with_reducible first | exact HBW.out | apply below_alloc | apply pw_below_drewN | apply below_drew1 | refine below_set ?_ GW550.out) | exact HBW.out)⟩
 ·rw [if_neg c2] at H
  have c2b0 : decide (2000 < (l0.length : Int)) = false := decide_eq_false c2
  have c2b1 : decide (2000 < l0.length) = false := decide_eq_false (by omega)
  clear c2
  simp only [Option.some.injEq, Prod.mk.injEq] at H
  obtain ⟨rfl, rfl⟩ := H
  go_enter Try.func64, Try.ntmps64
  go_wp2_with (first | ((with_reducible refine gate_dst (N := 10) rfl ?_); refine box_event ?hg (N := 10) ?hd (cs := #[.slice A0 l0.length c0, .int .i64 0]) (t := 92) ?hr ?_; (case hd => rfl); (case hg => rfl); (case hr => first | (go_simp; done) | (go_simp; rfl)); intro gb551 hg w6 hbox hb; replace HB := Aside0.mk (below_step z17_5 hb); have BK551 := Aside0.mk (hbox); have GW551 := Aside0.mk ((by rw [hg]; exact (below_size z17_6) : w.heap.size ≤ gb551)); have GE551 := Aside0.mk ((Nat.le_trans HW0.out (by rw [hg]; exact (below_size z17_6) : w.heap.size ≤ gb551) : w0.heap.size ≤ gb551)); replace HBW := Aside0.mk (below_step HBW.out hb); clear hb hbox hg))
  go_ret
  exact ⟨_, rfl, (show IsS92 w0 _ gb551 l0 0 from ⟨_, _, zL17 BK551.out, GE551.out, HR0.out⟩), by repeat (first | (with_reducible first | exact HB.out | apply below_alloc | apply pw_below_drewN | apply below_drew1 | refine below_set ?_ GE551.out) | exact HB.out), by repeat (first | (with_reducible first | exact HBW.out | apply below_alloc | apply pw_below_drewN | apply below_drew1 | refine below_set ?_ GW551.out) | exact HBW.out)⟩

/-! ### spec_DrawSpanSame: function 41 -/
def spec_DrawSpanSame.l0 : Nat → List (List Int) → List (List Int) → Int → Option ((List (List Int)) × (List (List Int)))
  | 0, _, _, _ => none
  | k + 1, x5, x6, x7 => if x7 ≥ 0 then (if 0 ≤ x7 then (if x7 < (x5.length : Int) then (if x6.length < 5864062014805 then (spec_DrawSpanSame.l0 k x5 (x6 ++ [rd_L1 x5 x7]) (wrap64 (x7 - 1))) else (none)) else (none)) else (none)) else (some (x5, x6))
def spec_DrawSpanSame.f (k : Nat) (l0 : List Int) : Option ((List (List Int)) × (List (List Int))) := (spec_l6Open.f l0).bind fun bt552 => ((spec_l91Rows.f k bt552.1 bt552.2).bind fun bt555 => ((spec_l6Rd_pick.f k bt552.1 bt555.2 3).bind fun bt559 => (if bt559.1 = 0 then ((spec_SpanTidy.f k bt555.1).bind fun t561 => (some (bt555.1, t561))) else (if bt559.1 = 1 then (spec_DrawSpanSame.l0 k bt555.1 (([] : List (List Int))) (wrap64 ((bt555.1.length : Int) - 1))) else ((spec_l91Rows.f k bt552.1 bt559.2).bind fun bt571 => (some (bt555.1, bt571.1)))))))
set_option maxHeartbeats 8000000 in
set_option maxRecDepth 100000 in
theorem spec_DrawSpanSame.calls (k : Nat) (A0 : Option Addr) (c0 : Nat) (l0 : List Int) (r1 : List (List Int)) (r2 : List (List Int)) (w : World) (hr0 : Kd.C (Kd.int .u8) w A0 l0.length l0) (hc0 : l0.length ≤ c0) (h : spec_DrawSpanSame.f k l0 = some (r1, r2)) :
  Calls Try.prog 41 #[.slice A0 l0.length c0] w fun e w' => ∃ v0_ v1_ : Value, e = .returned (.tuple #[v0_, v1_]) ∧ Kd.N (Kd.slice 3 (Kd.int .i64)) 28 w' w.heap.size (fun k_ => (w.heap.size ≤ k_) ∧ some k_ ≠ (v1_ : Value).ownBlock) v0_ r1 ∧ Kd.N (Kd.slice 3 (Kd.int .i64)) 28 w' w.heap.size (fun k_ => (w.heap.size ≤ k_) ∧ some k_ ≠ (v0_ : Value).ownBlock) v1_ r2 ∧ Below w.heap.size w w' := by
 have HR0 := Aside0.mk hr0
 have HC0 := Aside0.mk hc0
 clear hr0 hc0
 have HB := Aside0.mk (Below.refl w.heap.size w)
 have H : ((spec_l6Open.f l0).bind fun bt552 => ((spec_l91Rows.f k bt552.1 bt552.2).bind fun bt555 => ((spec_l6Rd_pick.f k bt552.1 bt555.2 3).bind fun bt559 => (if bt559.1 = 0 then ((spec_SpanTidy.f k bt555.1).bind fun t561 => (some (bt555.1, t561))) else (if bt559.1 = 1 then (spec_DrawSpanSame.l0 k bt555.1 (([] : List (List Int))) (wrap64 ((bt555.1.length : Int) - 1))) else ((spec_l91Rows.f k bt552.1 bt559.2).bind fun bt571 => (some (bt555.1, bt571.1)))))))) = some (r1, r2) := h
 clear h
 replace H := Option.bind_eq_some_iff.mp H
 obtain ⟨⟨t552, t553⟩, A20, H⟩ := H
 replace H : ((spec_l91Rows.f k t552 t553).bind fun bt555 => ((spec_l6Rd_pick.f k t552 bt555.2 3).bind fun bt559 => (if bt559.1 = 0 then ((spec_SpanTidy.f k bt555.1).bind fun t561 => (some (bt555.1, t561))) else (if bt559.1 = 1 then (spec_DrawSpanSame.l0 k bt555.1 (([] : List (List Int))) (wrap64 ((bt555.1.length : Int) - 1))) else ((spec_l91Rows.f k t552 bt559.2).bind fun bt571 => (some (bt555.1, bt571.1))))))) = some (r1, r2) := H
 have A2 := Aside0.mk A20
 clear A20
 replace H := Option.bind_eq_some_iff.mp H
 obtain ⟨⟨t555, t558⟩, A30, H⟩ := H
 replace H : ((spec_l6Rd_pick.f k t552 t558 3).bind fun bt559 => (if bt559.1 = 0 then ((spec_SpanTidy.f k t555).bind fun t561 => (some (t555, t561))) else (if bt559.1 = 1 then (spec_DrawSpanSame.l0 k t555 (([] : List (List Int))) (wrap64 ((t555.length : Int) - 1))) else ((spec_l91Rows.f k t552 bt559.2).bind fun bt571 => (some (t555, bt571.1)))))) = some (r1, r2) := H
 have A3 := Aside0.mk A30
 clear A30
 replace H := Option.bind_eq_some_iff.mp H
 obtain ⟨⟨t559, t560⟩, A40, H⟩ := H
 replace H : (if t559 = 0 then ((spec_SpanTidy.f k t555).bind fun t561 => (some (t555, t561))) else (if t559 = 1 then (spec_DrawSpanSame.l0 k t555 (([] : List (List Int))) (wrap64 ((t555.length : Int) - 1))) else ((spec_l91Rows.f k t552 t560).bind fun bt571 => (some (t555, bt571.1))))) = some (r1, r2) := H
 have A4 := Aside0.mk A40
 clear A40
 by_cases c5 : t559 = 0
 ·rw [if_pos c5] at H
  have c5b0 : (t559 == 0) = true := beq_iff_eq.mpr c5
  have c5b1 : (t559 != 0) = false := bne_eq_false_iff_eq.mpr c5
  clear c5
  replace H := Option.bind_eq_some_iff.mp H
  obtain ⟨t561, A60, H⟩ := H
  replace H : (some (t555, t561)) = some (r1, r2) := H
  have A6 := Aside0.mk A60
  clear A60
  simp only [Option.some.injEq, Prod.mk.injEq] at H
  obtain ⟨rfl, rfl⟩ := H
  go_enter Try.func41, Try.ntmps41
  go_wp2_with (first | ((with_reducible refine gate_callee (f := 64) rfl ?_); refine goesL_ (some 9) rfl rfl Try.func64 (by kernel_rfl) rfl #[.slice A0 l0.length c0] rfl z17_2 ?_; (with_reducible refine (spec_l6Open.calls _ _ l0 t552 t553 w _ ?side1 ?side2 ?side3 A2.out).mono ?_); (case side1 => repeat (first | (with_reducible first | exact HB.out | apply below_alloc | apply pw_below_drewN | apply below_drew1) | exact HB.out)); (case side2 => exact HR0.out); (case side3 => exact HC0.out); rintro e w7 ⟨g554, rfl, hi, hb, hb2⟩; refine ⟨_, rfl, ?_⟩; replace HB := Aside0.mk (hb); have HI554 := Aside0.mk (hi); (try clear hb)) | ((with_reducible refine gate_callee (f := 63) rfl ?_); refine goesL_ (some 11) rfl rfl Try.func63 (by kernel_rfl) rfl #[.pointer (some ⟨g554, 0, none⟩)] rfl z17_2 ?_; (with_reducible refine (spec_l91Rows.calls k g554 t552 t553 t555 t558 w _ ?side1 ?side2 A3.out).mono ?_); (case side1 => repeat (first | (with_reducible first | exact HI554.out | apply IsS92.alloc | apply IsS92.drewN | apply IsS92.drew | apply IsS92.set_1) | exact HI554.out)); (case side2 => repeat (first | (with_reducible first | exact HB.out | apply below_alloc | apply pw_below_drewN | apply below_drew1 | refine below_set ?_ (IsS92.ge HI554.out)) | exact HB.out)); rintro e w8 ⟨v556, rfl, ho0, hi, hb, hk⟩; refine ⟨_, rfl, ?_⟩; have HO557 := Aside0.mk (Kd.N_lower (Kd.N_mono (ok' := fun k_ => (w.heap.size ≤ k_) ∧ k_ ≠ g554) ho0 (fun k_ hk_ => ⟨(Nat.le_trans (below_size z17_1) hk_), (IsS92.fresh z17_3 k_ hk_)⟩)) (below_size z17_1)); replace HB := Aside0.mk (hb); replace HI554 := Aside0.mk (hi); (try clear hb); (try clear ho0)) | ((with_reducible refine gate_callee (f := 65) rfl ?_); refine goesL_ (some 13) rfl rfl Try.func65 (by kernel_rfl) rfl #[.pointer (some ⟨g554, 0, none⟩), .int .i64 3] rfl z17_2 ?_; (with_reducible refine (spec_l6Rd_pick.calls k g554 t552 t558 3 t559 t560 w _ ?side1 ?side2 A4.out).mono ?_); (case side1 => repeat (first | (with_reducible first | exact HI554.out | apply IsS92.alloc | apply IsS92.drewN | apply IsS92.drew | apply IsS92.set_1) | exact HI554.out)); (case side2 => repeat (first | (with_reducible first | exact HB.out | apply below_alloc | apply pw_below_drewN | apply below_drew1 | refine below_set ?_ (IsS92.ge HI554.out)) | exact HB.out)); rintro e w9 ⟨rfl, hi, hb, hk⟩; refine ⟨_, rfl, ?_⟩; replace HO557 := Aside0.mk (Kd.N_mono (Kd.N_keep (Kd.N_mono (ok := fun k_ => (((w.heap.size ≤ k_)) ∧ k_ ≠ g554)) z17_4 (fun k_ hk_ => (⟨hk_, hk_.2⟩ : _ ∧ k_ ≠ g554))) hk (fun _ h => h.2)) (fun _ h => h.1)); replace HB := Aside0.mk (hb); replace HI554 := Aside0.mk (hi); (try clear hb); obtain ⟨Ao10, co10, eo10⟩ := Kd.N_slice HO557.out; subst eo10) | ((with_reducible refine gate_callee (f := 33) rfl ?_); refine goesL_ (some 18) rfl rfl Try.func33 (by kernel_rfl) rfl #[.slice Ao10 t555.length co10] rfl z17_2 ?_; (with_reducible refine (spec_SpanTidy.calls k _ _ t555 t561 _ ?side1 ?side2 A6.out).mono ?_); (case side1 => exact cZ ((Kd.N_reads' HO557.out).2.2)); (case side2 => exact (Kd.N_reads' HO557.out).2.1); rintro e w11 ⟨v562, rfl, ho0, hb⟩; refine ⟨_, rfl, ?_⟩; have HO563 := Aside0.mk (Kd.N_lower (Kd.N_mono (ok' := fun k_ => (w.heap.size ≤ k_) ∧ some k_ ≠ (.slice Ao10 t555.length co10 : Value).ownBlock ∧ k_ ≠ g554) (Kd.R_N (Kd.R_bound ho0)) (fun k_ hk_ => ⟨(Nat.le_trans (below_size z17_1) hk_.2.1), (Kd.fresh' (Kd.N_lt z17_4) k_ hk_.2.1), (IsS92.fresh z17_3 k_ hk_.2.1)⟩)) (below_size z17_1)); replace HO557 := Aside0.mk (Kd.N_elder' z17_4 (by first | exact Kd.N_base ho0 | exact Kd.R_base ho0) hb); replace HB := Aside0.mk (below_step z17_1 hb); replace HI554 := Aside0.mk (IsS92.below z17_3 hb); (try clear hb); (try clear ho0)))
  go_ret2
  exact ⟨_, _, z17_9, z17_8, by (with_reducible repeat (first | apply Kd.N_alloc | apply Kd.N_drewN | apply Kd.N_drew)); exact Kd.N_mono HO563.out (fun _ hk => ⟨hk.1, hk.2.1⟩), z17_1⟩
 ·rw [if_neg c5] at H
  have c5b0 : (t559 == 0) = false := beq_eq_false_iff_ne.mpr c5
  have c5b1 : (t559 != 0) = true := bne_iff_ne.mpr c5
  by_cases c12 : t559 = 1
  ·rw [if_pos c12] at H
   have c12b0 : (t559 == 1) = true := beq_iff_eq.mpr c12
   have c12b1 : (t559 != 1) = false := bne_eq_false_iff_eq.mpr c12
   clear c12
   obtain ⟨y564, hy564⟩ : ∃ y_ : List (List Int), y_ = (([] : List (List Int))) := ⟨_, rfl⟩
   replace H : (spec_DrawSpanSame.l0 k t555 y564 (wrap64 ((t555.length : Int) - 1))) = some (r1, r2) := by first | (rw [hy564]; with_reducible exact H) | (have H2_ := (Option.bind_some _ _).symm.trans H; rw [hy564]; with_reducible exact H2_) | (have H2_ := (Option.bind_some _ _).symm.trans H; with_reducible exact H2_) | with_reducible exact H | (rw [hy564]; exact H) | exact H
   have Ny564 := Aside0.mk hy564
   clear hy564
   have H' := Aside0.mk H
   clear H
   go_enter Try.func41, Try.ntmps41
   go_wp2_with (first | ((with_reducible refine gate_callee (f := 64) rfl ?_); refine goesL_ (some 9) rfl rfl Try.func64 (by kernel_rfl) rfl #[.slice A0 l0.length c0] rfl z17_2 ?_; (with_reducible refine (spec_l6Open.calls _ _ l0 t552 t553 w _ ?side1 ?side2 ?side3 A2.out).mono ?_); (case side1 => repeat (first | (with_reducible first | exact HB.out | apply below_alloc | apply pw_below_drewN | apply below_drew1) | exact HB.out)); (case side2 => exact HR0.out); (case side3 => exact HC0.out); rintro e w13 ⟨g554, rfl, hi, hb, hb2⟩; refine ⟨_, rfl, ?_⟩; replace HB := Aside0.mk (hb); have HI554 := Aside0.mk (hi); (try clear hb)) | ((with_reducible refine gate_callee (f := 63) rfl ?_); refine goesL_ (some 11) rfl rfl Try.func63 (by kernel_rfl) rfl #[.pointer (some ⟨g554, 0, none⟩)] rfl z17_2 ?_; (with_reducible refine (spec_l91Rows.calls k g554 t552 t553 t555 t558 w _ ?side1 ?side2 A3.out).mono ?_); (case side1 => repeat (first | (with_reducible first | exact HI554.out | apply IsS92.alloc | apply IsS92.drewN | apply IsS92.drew | apply IsS92.set_1) | exact HI554.out)); (case side2 => repeat (first | (with_reducible first | exact HB.out | apply below_alloc | apply pw_below_drewN | apply below_drew1 | refine below_set ?_ (IsS92.ge HI554.out)) | exact HB.out)); rintro e w14 ⟨v556, rfl, ho0, hi, hb, hk⟩; refine ⟨_, rfl, ?_⟩; have HO557 := Aside0.mk (Kd.N_lower (Kd.N_mono (ok' := fun k_ => (w.heap.size ≤ k_) ∧ k_ ≠ g554) ho0 (fun k_ hk_ => ⟨(Nat.le_trans (below_size z17_1) hk_), (IsS92.fresh z17_3 k_ hk_)⟩)) (below_size z17_1)); replace HB := Aside0.mk (hb); replace HI554 := Aside0.mk (hi); (try clear hb); (try clear ho0)) | ((with_reducible refine gate_callee (f := 65) rfl ?_); refine goesL_ (some 13) rfl rfl Try.func65 (by kernel_rfl) rfl #[.pointer (some ⟨g554, 0, none⟩), .int .i64 3] rfl z17_2 ?_; (with_reducible refine (spec_l6Rd_pick.calls k g554 t552 t558 3 t559 t560 w _ ?side1 ?side2 A4.out).mono ?_); (case side1 => repeat (first | (with_reducible first | exact HI554.out | apply IsS92.alloc | apply IsS92.drewN | apply IsS92.drew | apply IsS92.set_1) | exact HI554.out)); (case side2 => repeat (first | (with_reducible first | exact HB.out | apply below_alloc | apply pw_below_drewN | apply below_drew1 | refine below_set ?_ (IsS92.ge HI554.out)) | exact HB.out)); rintro e w15 ⟨rfl, hi, hb, hk⟩; refine ⟨_, rfl, ?_⟩; replace HO557 := Aside0.mk (Kd.N_mono (Kd.N_keep (Kd.N_mono (ok := fun k_ => (((w.heap.size ≤ k_)) ∧ k_ ≠ g554)) z17_4 (fun k_ hk_ => (⟨hk_, hk_.2⟩ : _ ∧ k_ ≠ g554))) hk (fun _ h => h.2)) (fun _ h => h.1)); replace HB := Aside0.mk (hb); replace HI554 := Aside0.mk (hi); (try clear hb)) | ((with_reducible refine gate_dst (N := 21) rfl ?_); refine Kd.N_lit (Kd.slice 3 (Kd.int .i64)) _ 28 ?hg (N' := 21) ?hd (xs := ([] : List (List Int))) (inner := []) (ok := (fun k_ => (w.heap.size ≤ k_) ∧ some k_ ≠ (v556 : Value).ownBlock ∧ k_ ≠ g554)) (okp := (fun k_ => (w.heap.size ≤ k_) ∧ some k_ ≠ (v556 : Value).ownBlock ∧ k_ ≠ g554)) ?hr ?hp (fun _ hk => hk) ((show ∀ k_, w15.heap.size ≤ k_ → (fun k_ => (w.heap.size ≤ k_) ∧ some k_ ≠ (v556 : Value).ownBlock ∧ k_ ≠ g554) k_ from fun k_ hk => ⟨(Nat.le_trans (below_size z17_1) hk), Kd.fresh' (Kd.N_lt z17_4) k_ hk, IsS92.fresh z17_3 k_ hk⟩) _ (Nat.le_refl _)) (Below.refl _ _) (Nat.le_refl _) (by simp) ?_; (case hd => rfl); (case hg => rfl); (case hr => first | (go_simp; done) | (go_simp; rfl)); (case hp => exact (Reps.none _ _)); intro v565 w16 ho17 hb hg_ hnew_; clear hg_ hnew_; (first | rw [← Ny564.out] at ho17 | (simp only [Int.reduceToNat] at ho17; rw [← Ny564.out] at ho17)); replace HO557 := Aside0.mk (Kd.N_elder' z17_4 (by first | exact Kd.N_base ho17 | exact Kd.R_base ho17) hb); have HO566 := Aside0.mk (Kd.N_lower ho17 (below_size z17_1)); replace HB := Aside0.mk (below_step z17_1 hb); replace HI554 := Aside0.mk (IsS92.below z17_3 hb); clear hb ho17; obtain ⟨Ao18, co18, eo18⟩ := Kd.N_slice HO557.out; subst eo18))
   go_loopg [6, 7] k (fun kq v6 v7 w' => ∃ (x6_1 : List (List Int)) (x7_1 : Int), v7 = .int .i64 x7_1 ∧ Aside0 (spec_DrawSpanSame.l0 kq t555 x6_1 x7_1 = some (r1, r2)) ∧ Aside0 (kq ≤ k) ∧ Aside0 (Kd.N (Kd.slice 3 (Kd.int .i64)) 28 w' w.heap.size (fun k_ => (w.heap.size ≤ k_) ∧ some k_ ≠ (v6 : Value).ownBlock) (.slice Ao18 t555.length co18) t555) ∧ Aside0 (Kd.N (Kd.slice 3 (Kd.int .i64)) 28 w' w.heap.size (fun k_ => (w.heap.size ≤ k_) ∧ some k_ ≠ ((.slice Ao18 t555.length co18) : Value).ownBlock) v6 x6_1) ∧ Aside0 (Below w.heap.size w w'))
   case atStart => exact ⟨(y564), (wrap64 ((t555.length : Int) - 1)), (by first | rfl | (simp; done) | (simp [*]; done)), H', ⟨Nat.le_refl _⟩, ⟨z17_8⟩, ⟨by (with_reducible repeat (first | apply Kd.N_alloc | apply Kd.N_drewN | apply Kd.N_drew)); exact Kd.N_mono HO566.out (fun _ hk => ⟨hk.1, hk.2.1⟩)⟩, ⟨z17_1⟩⟩
   case round =>
    clear H'
    try clear c5
    try clear c5b0
    try clear c5b1
    try clear c12
    try clear c12b0
    try clear c12b1
    obtain ⟨x6_1, x7_1, rfl, HA, HK1, HO_5, HO_6, HB⟩ := hrel
    cases gk with
    | zero => exact absurd HA.out (by simp [spec_DrawSpanSame.l0])
    | succ k1 =>
     have H := HA.out
     clear HA
     simp only [spec_DrawSpanSame.l0] at H
     by_cases c19 : x7_1 ≥ 0
     ·rw [if_pos c19] at H
      have c19b0 : decide (0 ≤ x7_1) = true := decide_eq_true c19
      clear c19
      obtain ⟨c20, H⟩ := ifP H
      have c20b0 : decide (0 ≤ x7_1) = true := decide_eq_true c20
      clear c20
      obtain ⟨c21, H⟩ := ifP H
      have c21b0 : decide (x7_1 < (t555.length : Int)) = true := decide_eq_true c21
      clear c21
      obtain ⟨c22, H⟩ := ifP H
      have LMc22 := Aside0.mk c22
      clear c22
      obtain ⟨y568, hy568⟩ : ∃ y_ : List (List Int), y_ = (x6_1 ++ [rd_L1 t555 x7_1]) := ⟨_, rfl⟩
      replace H : (spec_DrawSpanSame.l0 k1 t555 y568 (wrap64 (x7_1 - 1))) = some (r1, r2) := by first | (rw [hy568]; with_reducible exact H) | (have H2_ := (Option.bind_some _ _).symm.trans H; rw [hy568]; with_reducible exact H2_) | (have H2_ := (Option.bind_some _ _).symm.trans H; with_reducible exact H2_) | with_reducible exact H | (rw [hy568]; exact H) | exact H
      have Ny568 := Aside0.mk hy568
      clear hy568
      have H' := Aside0.mk H
      clear H
      have p567 : 0 ≤ (x7_1 : Int) := of_decide_eq_true z17_10
      have q567 : x7_1 < (t555.length : Int) := of_decide_eq_true z17_10
      obtain ⟨ad567, A567_0, c567_0, e567, hx567_0, hl567_0, hi567_0⟩ := at_L1 (Kd.N_reads' HO_5.out).2.2 x7_1 p567 q567
      cases e567
      obtain ⟨ce567, hce567, hMe567, hcc567⟩ := Kd.N_get HO_5.out [] x7_1 p567 (by first | exact q567 | exact of_decide_eq_true z17_10 | (have e_ := (Kd.N_reads' HO_5.out).1; omega))
      obtain ⟨ua567_0, uc567_0, rfl, ul567_0, ge567_0⟩ := Kd.FK_slice_open hMe567
      have hv567_0 := hcc567 0 _ rfl
      rw [Nat.add_zero, show ((Kd.slice 3 (Kd.int .i64))).sz = 1 from rfl, Nat.mul_one] at hv567_0
      replace hv567_0 := Option.some.inj (hv567_0.symm.trans hx567_0)
      injection hv567_0 with hva_ hvn_ hvc_
      rw [hva_] at ge567_0
      rw [hvc_] at ul567_0
      have HL567_0 := Aside0.mk (show Kd.V (Kd.int .i64) 3 _ w.heap.size _ _ (rd_L1 t555 x7_1) from Kd.V_mk ul567_0 ge567_0)
      clear hva_ hvn_ hvc_ ge567_0 ul567_0
      clear hcc567 hce567
      have HR567_0 := Aside0.mk hi567_0
      have HC567_0 := Aside0.mk hl567_0
      clear hi567_0 hl567_0
      replace p567 := eq_true p567
      replace q567 := eq_true q567
      go_wp2_with (first | ((with_reducible refine gate_builtin (b := .append) (xs := #[.tmp 29, .tmp 34]) rfl ?_); at_builtin; refine Kd.N_append (Kd.slice 3 (Kd.int .i64)) (w0 := w) w.heap.size rfl (.tmp 29) (.tmp 34) 22 28 (.slice none 0 0) 24 rfl Try.underlying22 info28 rfl (by decide) (by omega) u6 x6_1 (rd_L1 t555 x7_1) [.slice A567_0 (rd_L1 t555 x7_1).length c567_0] (fun k_ => (w.heap.size ≤ k_) ∧ some k_ ≠ (.slice (some ad567) t555.length co18 : Value).ownBlock) (fun k_ => ((fun k_ => (w.heap.size ≤ k_) ∧ some k_ ≠ (.slice (some ad567) t555.length co18 : Value).ownBlock)) k_ ∧ some k_ ≠ (u6 : Value).ownBlock) rfl rfl ?aP (fun _ hk => hk) ?aF ?aO ?aB ?aS ?aL ?_; (case aP => exact (Kd.FK_slice_mk (Kd.V_reads' (Kd.V_mono (ok' := (fun k_ => ((fun k_ => (w.heap.size ≤ k_) ∧ some k_ ≠ (.slice (some ad567) t555.length co18 : Value).ownBlock)) k_ ∧ some k_ ≠ (u6 : Value).ownBlock)) (HL567_0.out) (fun k_ hk => ⟨⟨hk.1.1, hk.2⟩, hk.1.2⟩))).2.1 (Kd.V_F (Kd.V_mono (ok' := (fun k_ => ((fun k_ => (w.heap.size ≤ k_) ∧ some k_ ≠ (.slice (some ad567) t555.length co18 : Value).ownBlock)) k_ ∧ some k_ ≠ (u6 : Value).ownBlock)) (HL567_0.out) (fun k_ hk => ⟨⟨hk.1.1, hk.2⟩, hk.1.2⟩))))); (case aB => exact z17_5); (case aF => exact (fun k_ hk => ⟨(Nat.le_trans (below_size z17_5) hk), Kd.fresh' (Kd.N_lt z17_7) k_ hk⟩)); (case aO => exact (by (with_reducible repeat (first | apply Kd.N_alloc | apply Kd.N_drewN | apply Kd.N_drew)); exact HO_6.out)); (case aS => exact (below_size z17_5)); (case aL => have := LMc22.out; omega); intro v569 w23 ho hb hg hat; rw [← Ny568.out] at ho; have n0_ := Aside0.mk (Kd.N_afterv (ok := (fun k_ => (w.heap.size ≤ k_))) z17_7 hg hat); have n1_ := Aside0.mk (Kd.V_afterv (ok := (fun k_ => (w.heap.size ≤ k_) ∧ some k_ ≠ (.slice (some ad567) t555.length co18 : Value).ownBlock)) (by (with_reducible repeat (first | apply Kd.V_alloc | apply Kd.V_drewN | apply Kd.V_drew)); exact Kd.V_mono HL567_0.out (fun _ hk => ⟨⟨hk.1.1, hk.2⟩, hk.1.2⟩)) hg hat); have n2_ := Aside0.mk (hb); have n3_ := Aside0.mk (ho); clear HO_5; clear HL567_0; clear HB; clear HO_6; have HO_5 := n0_; have HL567_0 := n1_; have HB := n2_; have HO570 := n3_; clear n0_ n1_ n2_ n3_; clear ho hb hg hat))
      go_roundg k1
      case measure => have := HK1.out; omega
      case rel => exact ⟨(y568), (wrap64 (x7_1 - 1)), (by first | rfl | (simp; done) | (simp [*]; done)), H', ⟨by have := HK1.out; omega⟩, ⟨z17_7⟩, ⟨by (with_reducible repeat (first | apply Kd.N_alloc | apply Kd.N_drewN | apply Kd.N_drew)); exact HO570.out⟩, ⟨z17_5⟩⟩
     ·rw [if_neg c19] at H
      have c19b0 : decide (0 ≤ x7_1) = false := decide_eq_false c19
      clear c19
      simp only [Option.some.injEq, Prod.mk.injEq] at H
      obtain ⟨rfl, rfl⟩ := H
      go_wp2
      go_ret2
      exact ⟨_, _, z17_9, z17_7, by (with_reducible repeat (first | apply Kd.N_alloc | apply Kd.N_drewN | apply Kd.N_drew)); exact HO_6.out, z17_5⟩
  ·rw [if_neg c12] at H
   have c12b0 : (t559 == 1) = false := beq_eq_false_iff_ne.mpr c12
   have c12b1 : (t559 != 1) = true := bne_iff_ne.mpr c12
   replace H := Option.bind_eq_some_iff.mp H
   obtain ⟨⟨t571, t574⟩, A240, H⟩ := H
   replace H : (some (t555, t571)) = some (r1, r2) := H
   have A24 := Aside0.mk A240
   clear A240
   simp only [Option.some.injEq, Prod.mk.injEq] at H
   obtain ⟨rfl, rfl⟩ := H
   go_enter Try.func41, Try.ntmps41
   go_wp2_with (first | ((with_reducible refine gate_callee (f := 64) rfl ?_); refine goesL_ (some 9) rfl rfl Try.func64 (by kernel_rfl) rfl #[.slice A0 l0.length c0] rfl z17_2 ?_; (with_reducible refine (spec_l6Open.calls _ _ l0 t552 t553 w _ ?side1 ?side2 ?side3 A2.out).mono ?_); (case side1 => repeat (first | (with_reducible first | exact HB.out | apply below_alloc | apply pw_below_drewN | apply below_drew1) | exact HB.out)); (case side2 => exact HR0.out); (case side3 => exact HC0.out); rintro e w25 ⟨g554, rfl, hi, hb, hb2⟩; refine ⟨_, rfl, ?_⟩; replace HB := Aside0.mk (hb); have HI554 := Aside0.mk (hi); (try clear hb)) | ((with_reducible refine gate_callee (f := 63) rfl ?_); refine goesL_ (some 11) rfl rfl Try.func63 (by kernel_rfl) rfl #[.pointer (some ⟨g554, 0, none⟩)] rfl z17_2 ?_; (with_reducible refine (spec_l91Rows.calls k g554 t552 t553 t555 t558 w _ ?side1 ?side2 A3.out).mono ?_); (case side1 => repeat (first | (with_reducible first | exact HI554.out | apply IsS92.alloc | apply IsS92.drewN | apply IsS92.drew | apply IsS92.set_1) | exact HI554.out)); (case side2 => repeat (first | (with_reducible first | exact HB.out | apply below_alloc | apply pw_below_drewN | apply below_drew1 | refine below_set ?_ (IsS92.ge HI554.out)) | exact HB.out)); rintro e w26 ⟨v556, rfl, ho0, hi, hb, hk⟩; refine ⟨_, rfl, ?_⟩; have HO557 := Aside0.mk (Kd.N_lower (Kd.N_mono (ok' := fun k_ => (w.heap.size ≤ k_) ∧ k_ ≠ g554) ho0 (fun k_ hk_ => ⟨(Nat.le_trans (below_size z17_1) hk_), (IsS92.fresh z17_3 k_ hk_)⟩)) (below_size z17_1)); replace HB := Aside0.mk (hb); replace HI554 := Aside0.mk (hi); (try clear hb); (try clear ho0)) | ((with_reducible refine gate_callee (f := 65) rfl ?_); refine goesL_ (some 13) rfl rfl Try.func65 (by kernel_rfl) rfl #[.pointer (some ⟨g554, 0, none⟩), .int .i64 3] rfl z17_2 ?_; (with_reducible refine (spec_l6Rd_pick.calls k g554 t552 t558 3 t559 t560 w _ ?side1 ?side2 A4.out).mono ?_); (case side1 => repeat (first | (with_reducible first | exact HI554.out | apply IsS92.alloc | apply IsS92.drewN | apply IsS92.drew | apply IsS92.set_1) | exact HI554.out)); (case side2 => repeat (first | (with_reducible first | exact HB.out | apply below_alloc | apply pw_below_drewN | apply below_drew1 | refine below_set ?_ (IsS92.ge HI554.out)) | exact HB.out)); rintro e w27 ⟨rfl, hi, hb, hk⟩; refine ⟨_, rfl, ?_⟩; replace HO557 := Aside0.mk (Kd.N_mono (Kd.N_keep (Kd.N_mono (ok := fun k_ => (((w.heap.size ≤ k_)) ∧ k_ ≠ g554)) z17_4 (fun k_ hk_ => (⟨hk_, hk_.2⟩ : _ ∧ k_ ≠ g554))) hk (fun _ h => h.2)) (fun _ h => h.1)); replace HB := Aside0.mk (hb); replace HI554 := Aside0.mk (hi); (try clear hb)) | ((with_reducible refine gate_callee (f := 63) rfl ?_); refine goesL_ (some 40) rfl rfl Try.func63 (by kernel_rfl) rfl #[.pointer (some ⟨g554, 0, none⟩)] rfl z17_2 ?_; (with_reducible refine (spec_l91Rows.calls k g554 t552 t560 t571 t574 w _ ?side1 ?side2 A24.out).mono ?_); (case side1 => repeat (first | (with_reducible first | exact HI554.out | apply IsS92.alloc | apply IsS92.drewN | apply IsS92.drew | apply IsS92.set_1) | exact HI554.out)); (case side2 => repeat (first | (with_reducible first | exact HB.out | apply below_alloc | apply pw_below_drewN | apply below_drew1 | refine below_set ?_ (IsS92.ge HI554.out)) | exact HB.out)); rintro e w28 ⟨v572, rfl, ho0, hi, hb, hk⟩; refine ⟨_, rfl, ?_⟩; have HO573 := Aside0.mk (Kd.N_lower (Kd.N_mono (ok' := fun k_ => (w.heap.size ≤ k_) ∧ some k_ ≠ (v556 : Value).ownBlock ∧ k_ ≠ g554) ho0 (fun k_ hk_ => ⟨(Nat.le_trans (below_size z17_1) hk_), (Kd.fresh' (Kd.N_lt z17_4) k_ hk_), (IsS92.fresh z17_3 k_ hk_)⟩)) (below_size z17_1)); replace HO557 := Aside0.mk (Kd.N_mono (Kd.N_told (Kd.N_oldK (Kd.N_mono (ok := fun k_ => (((w.heap.size ≤ k_)) ∧ k_ ≠ g554)) z17_4 (fun k_ hk_ => (⟨hk_, hk_.2⟩ : _ ∧ k_ ≠ g554))) hk) (Kd.N_base ho0)) (fun _ h_ => h_.1)); replace HB := Aside0.mk (hb); replace HI554 := Aside0.mk (hi); (try clear hb); (try clear ho0)))
   go_ret2
   exact ⟨_, _, z17_9, z17_8, by (with_reducible repeat (first | apply Kd.N_alloc | apply Kd.N_drewN | apply Kd.N_drew)); exact Kd.N_mono HO573.out (fun _ hk => ⟨hk.1, hk.2.1⟩), z17_1⟩

end Go.Proofs.Ytbhmgbeebhmfkaa.PA
