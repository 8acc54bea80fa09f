-- Written by a program of this session (after the manner of the kit's print, several laws in one text).
import Derived.Test.YtbhmgbeebhmfkaaPAx0
import Derived.Test.YtbhmgbeebhmfkaaPAx3
import Derived.Test.YtbhmgbeebhmfkaaGw
import Derived.Test.YtbhmgbeebhmfkaaGm
import Derived.Test.YtbhmgbeebhmfkaaHt
namespace Go.Proofs.Ytbhmgbeebhmfkaa.PA
open Go.RowKit Go.Proofs.YtbhmgbeebhmfkaaW.PrintWords Go.Proofs.YtbhmgbeebhmfkaaW.PrintLast Go.Proofs.YtbhmgbeebhmfkaaW.PrintMore
attribute [local go_sem] max2_int min2_int max_two min_two max_three min_three max_four min_four   -- for this text's walks alone
set_option linter.unusedVariables false
set_option linter.unusedSimpArgs false

-- BREAK
-- GIVEN: function 48 (spec_l3Tidy)

/-! ### spec_SpanTidy: function 33 -/
theorem zL5 {p q : Prop} (h : q) (t : q → p := by intro h_; (with_reducible repeat first|refine blk_drewN ?_ _|refine blk_drew ?_|refine blk_alloc ?_ _); exact h_) : p := t h
theorem z5_1 {p : Prop} (h : p := by repeat (first | (with_reducible first | exact HB.out | apply below_alloc | apply pw_below_drewN | apply below_drew1) | exact HB.out)) : p := h
theorem z5_2 {p : Prop} (h : p := by repeat (first | (with_reducible first | exact HB.out | apply below_alloc | apply pw_below_drewN | apply below_drew1 | refine below_set ?_ GE211.out) | exact HB.out)) : p := h
theorem z5_3 {p : Prop} (h : p := by (try simp only [List.map_toArray, List.map_cons, List.map_nil]); first | done | rfl | (simp only [List.length_drop, List.length_take]; rfl)) : p := h
theorem z5_4 {p : Prop} (h : p := by (with_reducible repeat (first | apply Kd.R_alloc | apply Kd.R_drewN | apply Kd.R_drew)); exact HO_4.out) : p := h
theorem z5_5 {p : Prop} (h : p := by rw [hw]; exact (by (with_reducible repeat (first | apply Kd.R_alloc | apply Kd.R_drewN | apply Kd.R_drew)); exact Kd.R_mono (Kd.R_far (p := ⟨gb211, 3, none⟩) (Kd.R_far (p := ⟨gb211, 2, none⟩) (Kd.R_far (p := ⟨gb211, 1, none⟩) (Kd.R_far (p := ⟨gb211, 0, none⟩) (Kd.R_mono HO_4.out (fun k_ hk => (⟨hk, hk.2⟩ : _ ∧ k_ ≠ gb211))) (fun _ hk => hk.2) (.int .i64 t206)) (fun _ hk => hk.2) (.int .i64 t207)) (fun _ hk => hk.2) (.int .i64 t208)) (fun _ hk => hk.2) (.int .i64 t209)) (fun _ hk => hk.1.2))) : p := h
theorem z5_6 {p : Prop} (h : p := by first | rfl | (simp [errW_none, errW_some] <;> rfl) | (simp [*, errW_none, errW_some] <;> rfl)) : p := h
theorem z5_7 {p : Prop} (h : p := by first | (with_reducible assumption) | assumption) : p := h
theorem z5_8 {p : Prop} (h : p := by first | rfl | (simp; done) | (simp [*]; done)) : p := h
def spec_SpanTidy.f (k : Nat) (l0 : List (List Int)) : Option ((List (List Int))) := (spec_SpanOk.f k l0).bind fun t195 => (if t195 = true then ((spec_l3Tidy.f l0).bind fun t196 => (some t196)) else (some (([] : List (List Int)))))
set_option maxHeartbeats 8000000 in
set_option maxRecDepth 100000 in
theorem spec_SpanTidy.calls (k : Nat) (A0 : Option Addr) (c0 : Nat) (l0 : List (List Int)) (r : List (List Int)) (w : World) (hr0 : Kd.C (Kd.slice 3 (Kd.int .i64)) w A0 l0.length l0) (hc0 : l0.length ≤ c0) (h : spec_SpanTidy.f k l0 = some r) :
  Calls Try.prog 33 #[.slice A0 l0.length c0] w fun e w' => ∃ v0_ : Value, e = .returned (v0_) ∧ Kd.S (Kd.slice 3 (Kd.int .i64)) 28 w' w.heap.size (fun _ => True) v0_ r ∧ Below w.heap.size w w' := by
 have HR0 := Aside0.mk hr0
 have HC0 := Aside0.mk hc0
 clear hr0 hc0
 have HB := Aside0.mk (Below.refl w.heap.size w)
 have H : ((spec_SpanOk.f k l0).bind fun t195 => (if t195 = true then ((spec_l3Tidy.f l0).bind fun t196 => (some t196)) else (some (([] : List (List Int)))))) = some r := h
 clear h
 replace H := Option.bind_eq_some_iff.mp H
 obtain ⟨t195, A20, H⟩ := H
 replace H : (if t195 = true then ((spec_l3Tidy.f l0).bind fun t196 => (some t196)) else (some (([] : List (List Int))))) = some r := H
 have A2 := Aside0.mk A20
 clear A20
 by_cases c3 : t195 = true
 ·subst c3
  have H1 : ((spec_l3Tidy.f l0).bind fun t196 => (some t196)) = some r := by rw [if_pos rfl] at H; exact H
  clear H
  have H := H1
  clear H1
  replace H := Option.bind_eq_some_iff.mp H
  obtain ⟨t196, A40, H⟩ := H
  replace H : (some t196) = some r := H
  have A4 := Aside0.mk A40
  clear A40
  obtain rfl := Option.some.inj H
  go_enter Try.func33, Try.ntmps33
  go_wp2_with (first | ((with_reducible refine gate_callee (f := 38) rfl ?_); refine goesL_ (some 4) rfl rfl Try.func38 (by kernel_rfl) rfl #[.slice A0 l0.length c0] rfl z5_3 ?_; (with_reducible refine (spec_SpanOk.calls k _ _ l0 true _ ?side1 ?side2 A2.out).mono ?_); (case side1 => exact cZ (HR0.out)); (case side2 => exact HC0.out); rintro e w' ⟨rfl, ⟨nd, rfl⟩⟩; refine ⟨_, rfl, ?_⟩) | ((with_reducible refine gate_callee (f := 48) rfl ?_); refine goesL_ (some 8) rfl rfl Try.func48 (by kernel_rfl) rfl #[.slice A0 l0.length c0] rfl z5_3 ?_; (with_reducible refine (spec_l3Tidy.calls _ _ l0 t196 _ ?side1 ?side2 A4.out).mono ?_); (case side1 => exact cZ (HR0.out)); (case side2 => exact HC0.out); rintro e w5 ⟨v197, rfl, ho0, hb⟩; refine ⟨_, rfl, ?_⟩; have HO198 := Aside0.mk (Kd.S_lower ho0 (below_size z5_1)); replace HB := Aside0.mk (below_step z5_1 hb); (try clear hb); (try clear ho0)))
  go_ret
  exact ⟨_, z5_6, by (with_reducible repeat (first | apply Kd.S_alloc | apply Kd.S_drewN | apply Kd.S_drew)); exact HO198.out, z5_1⟩
 ·replace c3 := Bool.eq_false_iff.mpr c3
  subst c3
  have H1 : (some (([] : List (List Int)))) = some r := by rw [if_neg (show ¬ (false = true) by decide)] at H; exact H
  clear H
  have H := H1
  clear H1
  obtain ⟨y199, hy199⟩ : ∃ y_ : List (List Int), y_ = (([] : List (List Int))) := ⟨_, rfl⟩
  replace H : (some y199) = some r := by first | (rw [hy199]; with_reducible exact H) | (have H2_ := (Option.bind_some _ _).symm.trans H; rw [hy199]; with_reducible exact H2_) | (have H2_ := (Option.bind_some _ _).symm.trans H; with_reducible exact H2_) | with_reducible exact H | (rw [hy199]; exact H) | exact H
  have Ny199 := Aside0.mk hy199
  clear hy199
  obtain rfl := Option.some.inj H
  go_enter Try.func33, Try.ntmps33
  go_wp2_with (first | ((with_reducible refine gate_callee (f := 38) rfl ?_); refine goesL_ (some 4) rfl rfl Try.func38 (by kernel_rfl) rfl #[.slice A0 l0.length c0] rfl z5_3 ?_; (with_reducible refine (spec_SpanOk.calls k _ _ l0 false _ ?side1 ?side2 A2.out).mono ?_); (case side1 => exact cZ (HR0.out)); (case side2 => exact HC0.out); rintro e w' ⟨rfl, ⟨nd, rfl⟩⟩; refine ⟨_, rfl, ?_⟩) | ((with_reducible refine gate_dst (N := 6) rfl ?_); refine Kd.S_lit (Kd.slice 3 (Kd.int .i64)) _ 28 ?hg (N := 6) ?hd (xs := ([] : List (List Int))) (inner := []) (ok := fun _ => True) (okp := fun _ => True) ?hr ?hp (fun _ hk => hk) trivial (Below.refl _ _) (Nat.le_refl _) (by simp) ?_; (case hd => rfl); (case hg => rfl); (case hr => first | (go_simp; done) | (go_simp; rfl)); (case hp => exact (Reps.none _ _)); intro v200 w6 ho7 hb hg_ hnew_; clear hg_ hnew_; (first | rw [← Ny199.out] at ho7 | (simp only [Int.reduceToNat] at ho7; rw [← Ny199.out] at ho7)); have HO201 := Aside0.mk (Kd.S_lower ho7 (below_size z5_1)); replace HB := Aside0.mk (below_step z5_1 hb); clear hb ho7))
  go_ret
  exact ⟨_, z5_6, by (with_reducible repeat (first | apply Kd.S_alloc | apply Kd.S_drewN | apply Kd.S_drew)); exact HO201.out, z5_1⟩

-- GIVEN: function 56 (impl_vectorOf)

/-! ### impl_matrixOf: function 49 -/
def impl_matrixOf.l0 : Nat → List (List Int) → List (S59) → List (List Int) → Int → Int → Option ((List (S59)) × Bool)
  | 0, _, _, _, _, _ => none
  | k + 1, x0, x4, x12, x13, x14 => if x14 < x13 then (if 0 ≤ x14 then (if x14 < (x12.length : Int) then ((impl_vectorOf.f (rd_L1 x12 x14)).bind fun bt206 => (if bt206.2.2.2.2 = true then (if x4.length < 4398046511104 then (impl_matrixOf.l0 k x0 (x4 ++ [(⟨bt206.1, bt206.2.1, bt206.2.2.1, bt206.2.2.2.1⟩ : S59)]) x12 x13 (wrap64 (x14 + 1))) else (none)) else (some (([] : List (S59)), false)))) else (none)) else (none)) else (some (x4, decide ((x0.length : Int) ≤ 8)))
def impl_matrixOf.f (k : Nat) (l0 : List (List Int)) : Option ((List (S59)) × Bool) := if 0 ≤ (l0.length : Int) then (if ((l0.length : Int) : Int).toNat ≤ 8796093022208 then (impl_matrixOf.l0 k l0 (([] : List (S59))) l0 (l0.length : Int) 0) else (none)) else (none)
set_option maxHeartbeats 8000000 in
set_option maxRecDepth 100000 in
theorem impl_matrixOf.calls (k : Nat) (A0 : Option Addr) (c0 : Nat) (l0 : List (List Int)) (r1 : List (S59)) (r2 : Bool) (w : World) (hr0 : Kd.C (Kd.slice 3 (Kd.int .i64)) w A0 l0.length l0) (hc0 : l0.length ≤ c0) (h : impl_matrixOf.f k l0 = some (r1, r2)) :
  Calls Try.prog 49 #[.slice A0 l0.length c0] w fun e w' => ∃ v0_ : Value, e = .returned (.tuple #[v0_, .bool r2]) ∧ Kd.R k59 59 w' w.heap.size (fun _ => True) v0_ r1 ∧ Below w.heap.size w w' := by
 have hu59 := Try.underlying59
 have HR0 := Aside0.mk hr0
 have HC0 := Aside0.mk hc0
 clear hr0 hc0
 have HB := Aside0.mk (Below.refl w.heap.size w)
 have H : (if 0 ≤ (l0.length : Int) then (if ((l0.length : Int) : Int).toNat ≤ 8796093022208 then (impl_matrixOf.l0 k l0 (([] : List (S59))) l0 (l0.length : Int) 0) else (none)) else (none)) = some (r1, r2) := h
 clear h
 obtain ⟨c2, H⟩ := ifP H
 have c2b0 := eq_true c2
 have c2b1 : decide (0 ≤ (l0.length : Int)) = true := decide_eq_true c2
 clear c2
 obtain ⟨c3, H⟩ := ifP H
 have c3b0 := eq_true c3
 have c3b1 : decide (((l0.length : Int) : Int).toNat ≤ 8796093022208) = true := decide_eq_true c3
 clear c3
 obtain ⟨y202, hy202⟩ : ∃ y_ : List (S59), y_ = (([] : List (S59))) := ⟨_, rfl⟩
 replace H : (impl_matrixOf.l0 k l0 y202 l0 (l0.length : Int) 0) = some (r1, r2) := by first | (rw [hy202]; with_reducible exact H) | (have H2_ := (Option.bind_some _ _).symm.trans H; rw [hy202]; with_reducible exact H2_) | (have H2_ := (Option.bind_some _ _).symm.trans H; with_reducible exact H2_) | with_reducible exact H | (rw [hy202]; exact H) | exact H
 have Ny202 := Aside0.mk hy202
 clear hy202
 have H' := Aside0.mk H
 clear H
 go_enter Try.func49, Try.ntmps49
 go_wp2_with (first | ((with_reducible refine gate_dst (N := 11) rfl ?_); refine R_make0 k59 _ 59 rfl (N := 11) rfl 48 _ _ rfl (l0.length : Int) rfl rfl Try.underlying48 (.agg #[(.int .i64 0), (.int .i64 0), (.int .i64 0), (.int .i64 0)]) 32 info59 (by decide) (ok := fun _ => True) (okp := fun _ => True) (fun _ hk => hk) trivial (of_decide_eq_true z5_7) (Nat.le_trans (Nat.mul_le_mul_right _ (of_decide_eq_true z5_7 : (l0.length : Int).toNat ≤ 8796093022208)) (by omega)) (Below.refl _ _) (Nat.le_refl _) ?_; intro v203 w4 ho5 hb hg_ hnew_; clear hg_ hnew_; (first | rw [← Ny202.out] at ho5 | (simp only [Int.reduceToNat] at ho5; rw [← Ny202.out] at ho5)); have HO204 := Aside0.mk (Kd.R_lower ho5 (below_size z5_1)); replace HB := Aside0.mk (below_step z5_1 hb); clear hb ho5))
 go_loopg [4, 14] k (fun kq v4 v14 w' => ∃ (x4_1 : List (S59)) (x14_1 : Int), v14 = .int .i64 x14_1 ∧ Aside0 (impl_matrixOf.l0 kq l0 x4_1 l0 (l0.length : Int) x14_1 = some (r1, r2)) ∧ Aside0 (kq ≤ k) ∧ Aside0 (Kd.R k59 59 w' w.heap.size (fun _ => True) v4 x4_1) ∧ Aside0 (Below w.heap.size w w'))
 case atStart => exact ⟨(y202), (0), z5_8, H', ⟨Nat.le_refl _⟩, ⟨by (with_reducible repeat (first | apply Kd.R_alloc | apply Kd.R_drewN | apply Kd.R_drew)); exact HO204.out⟩, ⟨z5_1⟩⟩
 case round =>
  clear H'
  try clear c2
  try clear c2b0
  try clear c2b1
  try clear c3
  try clear c3b0
  try clear c3b1
  obtain ⟨x4_1, x14_1, rfl, HA, HK1, HO_4, HB⟩ := hrel
  cases gk with
  | zero => exact absurd HA.out (by simp [impl_matrixOf.l0])
  | succ k1 =>
   have H := HA.out
   clear HA
   simp only [impl_matrixOf.l0] at H
   by_cases c6 : x14_1 < (l0.length : Int)
   ·rw [if_pos c6] at H
    have c6b0 : decide (x14_1 < (l0.length : Int)) = true := decide_eq_true c6
    clear c6
    obtain ⟨c7, H⟩ := ifP H
    have c7b0 : decide (0 ≤ x14_1) = true := decide_eq_true c7
    clear c7
    obtain ⟨c8, H⟩ := ifP H
    have c8b0 : decide (x14_1 < (l0.length : Int)) = true := decide_eq_true c8
    clear c8
    replace H := Option.bind_eq_some_iff.mp H
    obtain ⟨⟨t206, t207, t208, t209, t210⟩, A90, H⟩ := H
    replace H : (if t210 = true then (if x4_1.length < 4398046511104 then (impl_matrixOf.l0 k1 l0 (x4_1 ++ [(⟨t206, t207, t208, t209⟩ : S59)]) l0 (l0.length : Int) (wrap64 (x14_1 + 1))) else (none)) else (some (([] : List (S59)), false))) = some (r1, r2) := H
    have A9 := Aside0.mk A90
    clear A90
    by_cases c10 : t210 = true
    ·subst c10
     have H1 : (if x4_1.length < 4398046511104 then (impl_matrixOf.l0 k1 l0 (x4_1 ++ [(⟨t206, t207, t208, t209⟩ : S59)]) l0 (l0.length : Int) (wrap64 (x14_1 + 1))) else (none)) = some (r1, r2) := by rw [if_pos rfl] at H; exact H
     clear H
     have H := H1
     clear H1
     obtain ⟨c11, H⟩ := ifP H
     have LMc11 := Aside0.mk c11
     clear c11
     obtain ⟨y212, hy212⟩ : ∃ y_ : List (S59), y_ = (x4_1 ++ [(⟨t206, t207, t208, t209⟩ : S59)]) := ⟨_, rfl⟩
     replace H : (impl_matrixOf.l0 k1 l0 y212 l0 (l0.length : Int) (wrap64 (x14_1 + 1))) = some (r1, r2) := by first | (rw [hy212]; with_reducible exact H) | (have H2_ := (Option.bind_some _ _).symm.trans H; rw [hy212]; with_reducible exact H2_) | (have H2_ := (Option.bind_some _ _).symm.trans H; with_reducible exact H2_) | with_reducible exact H | (rw [hy212]; exact H) | exact H
     have Ny212 := Aside0.mk hy212
     clear hy212
     have H' := Aside0.mk H
     clear H
     have p205 : 0 ≤ (x14_1 : Int) := of_decide_eq_true z5_7
     have q205 : x14_1 < (l0.length : Int) := of_decide_eq_true z5_7
     obtain ⟨ad205, A205_0, c205_0, e205, hx205_0, hl205_0, hi205_0⟩ := at_L1 HR0.out x14_1 p205 q205
     cases e205
     replace hx205_0 := (HB.out.cell (World.block_lt_of_cell? w _ hx205_0)).trans hx205_0
     have HR205_0 := Aside0.mk hi205_0
     have HC205_0 := Aside0.mk hl205_0
     clear hi205_0 hl205_0
     replace p205 := eq_true p205
     replace q205 := eq_true q205
     go_wp2_with (first | ((with_reducible refine gate_callee (f := 56) rfl ?_); refine goesL_ (some 20) rfl rfl Try.func56 (by kernel_rfl) rfl #[.slice A205_0 (rd_L1 l0 x14_1).length c205_0] rfl z5_3 ?_; (with_reducible refine (impl_vectorOf.calls _ _ (rd_L1 l0 x14_1) t206 t207 t208 t209 true _ ?side1 ?side2 A9.out).mono ?_); (case side1 => exact cZ ((Kd.C_below HR205_0.out HB.out))); (case side2 => exact HC205_0.out); rintro e w12 ⟨rfl, hb⟩; refine ⟨_, rfl, ?_⟩; replace HO_4 := Aside0.mk (Kd.R_below z5_4 hb); replace HB := Aside0.mk (below_step z5_1 hb); (try clear hb)) | ((with_reducible refine gate_dst (N := 7) rfl ?_); refine box_event ?hg (N := 7) ?hd (cs := #[.int .i64 0, .int .i64 0, .int .i64 0, .int .i64 0]) (t := 59) ?hr ?_; (case hd => rfl); (case hg => rfl); (case hr => first | (go_simp; done) | (go_simp; rfl)); intro gb211 hg w13 hbox hb; replace HO_4 := Aside0.mk (Kd.R_below (Kd.R_elderB z5_4 gb211 (Nat.le_of_eq hg.symm)) hb); have BK211 := Aside0.mk (hbox); have GW211 := Aside0.mk ((by rw [hg]; exact (below_size z5_1) : w.heap.size ≤ gb211)); have GE211 := Aside0.mk ((by rw [hg]; exact (below_size z5_1) : w.heap.size ≤ gb211)); replace HB := Aside0.mk (below_step z5_1 hb); clear hb hbox hg; have hcz14_0 : w13.cell? ⟨gb211, 0, none⟩ = some (.int .i64 0) := (blk_cell BK211.out 0).trans rfl; have hfz14_0 := blk_frozen BK211.out 0; have hcz15_1 : w13.cell? ⟨gb211, 1, none⟩ = some (.int .i64 0) := (blk_cell BK211.out 1).trans rfl; have hfz15_1 := blk_frozen BK211.out 1; have hcz16_2 : w13.cell? ⟨gb211, 2, none⟩ = some (.int .i64 0) := (blk_cell BK211.out 2).trans rfl; have hfz16_2 := blk_frozen BK211.out 2; have hcz17_3 : w13.cell? ⟨gb211, 3, none⟩ = some (.int .i64 0) := (blk_cell BK211.out 3).trans rfl; have hfz17_3 := blk_frozen BK211.out 3) | ((with_reducible refine gate_store (t := 59) (p := 7) rfl ?_); refine store_event (t := 59) (p := 7) (v := ?vo_w18) (w1 := ((((w13.setCell ⟨gb211, 0, none⟩ (.int .i64 t206)).setCell ⟨gb211, 1, none⟩ (.int .i64 t207)).setCell ⟨gb211, 2, none⟩ (.int .i64 t208)).setCell ⟨gb211, 3, none⟩ (.int .i64 t209))) ?hg ?ho ?hn ?hr ?_; (case ho => rfl); (case hg => rfl); (case hn => rfl); (case hr => first | (go_simp; done) | (go_simp; rfl)); intro w18 hw; have n0_ : Aside0 (Kd.R k59 59 w18 w.heap.size (fun k_ => k_ ≠ gb211) u4 x4_1) := ⟨z5_5⟩; have n1_ : Aside0 (w18.heap[gb211]? = some (.cells #[.int .i64 t206, .int .i64 t207, .int .i64 t208, .int .i64 t209] 59 (0, 0))) := ⟨(by rw [hw]; exact (bZ BK211.out))⟩; have n2_ : Aside0 (Below w.heap.size w w18) := ⟨(by rw [hw]; exact z5_2)⟩; clear hw; clear HO_4; clear BK211; clear HB; have HO_4 := n0_; have BK211 := n1_; have HB := n2_; clear n0_ n1_ n2_; have hcz19_0 : w18.cell? ⟨gb211, 0, none⟩ = some (.int .i64 t206) := (blk_cell BK211.out 0).trans rfl; have hcz19_1 : w18.cell? ⟨gb211, 1, none⟩ = some (.int .i64 t207) := (blk_cell BK211.out 1).trans rfl; have hcz19_2 : w18.cell? ⟨gb211, 2, none⟩ = some (.int .i64 t208) := (blk_cell BK211.out 2).trans rfl; have hcz19_3 : w18.cell? ⟨gb211, 3, none⟩ = some (.int .i64 t209) := (blk_cell BK211.out 3).trans rfl; have hfz19_0 := blk_frozen BK211.out 0; have hfz19_1 := blk_frozen BK211.out 1; have hfz19_2 := blk_frozen BK211.out 2; have hfz19_3 := blk_frozen BK211.out 3) | ((with_reducible refine gate_builtin (b := .append) (xs := #[.tmp 25, .tmp 27]) rfl ?_); at_builtin; refine Kd.R_append k59 (w0 := w) w.heap.size rfl (.tmp 25) (.tmp 27) 48 59 (.agg #[(.int .i64 0), (.int .i64 0), (.int .i64 0), (.int .i64 0)]) 32 rfl Try.underlying48 info59 rfl (by decide) (by omega) u4 x4_1 (⟨t206, t207, t208, t209⟩ : S59) [.int .i64 t206, .int .i64 t207, .int .i64 t208, .int .i64 t209] (fun k_ => k_ ≠ gb211) (fun _ => False) rfl rfl ?aP (fun _ hk => hk.elim) ?aF ?aO ?aB ?aS ?aL ?_; (case aP => exact k59_mkM _ _ _ (⟨t206, t207, t208, t209⟩ : S59)); (case aB => exact z5_2); (case aF => exact (fun k_ hk => Kd.freshB (g := gb211) (o := .cells #[.int .i64 t206, .int .i64 t207, .int .i64 t208, .int .i64 t209] 59 (0, 0)) (zL5 BK211.out) k_ hk)); (case aO => exact z5_4); (case aS => exact (below_size z5_2)); (case aL => have := LMc11.out; omega); intro v213 w20 ho hb hg hat; rw [← Ny212.out] at ho; have n0_ := Aside0.mk (blk_grown (g := gb211) (o := .cells #[.int .i64 t206, .int .i64 t207, .int .i64 t208, .int .i64 t209] 59 (0, 0)) (zL5 BK211.out) hg (Kd.R_away HO_4.out (fun _ hk => hk))); have n1_ := Aside0.mk (hb); have n2_ := Aside0.mk (ho); clear BK211; clear HB; clear HO_4; have BK211 := n0_; have HB := n1_; have HO214 := n2_; clear n0_ n1_ n2_; clear ho hb hg hat))
     go_roundg k1
     case measure => have := HK1.out; omega
     case rel => exact ⟨(y212), (wrap64 (x14_1 + 1)), z5_8, H', ⟨by have := HK1.out; omega⟩, ⟨by (with_reducible repeat (first | apply Kd.R_alloc | apply Kd.R_drewN | apply Kd.R_drew)); exact Kd.R_mono HO214.out (fun _ hk => trivial)⟩, ⟨z5_2⟩⟩
    ·replace c10 := Bool.eq_false_iff.mpr c10
     subst c10
     have H1 : (some (([] : List (S59)), false)) = some (r1, r2) := by rw [if_neg (show ¬ (false = true) by decide)] at H; exact H
     clear H
     have H := H1
     clear H1
     simp only [Option.some.injEq, Prod.mk.injEq] at H
     obtain ⟨rfl, rfl⟩ := H
     have p205 : 0 ≤ (x14_1 : Int) := of_decide_eq_true z5_7
     have q205 : x14_1 < (l0.length : Int) := of_decide_eq_true z5_7
     obtain ⟨ad205, A205_0, c205_0, e205, hx205_0, hl205_0, hi205_0⟩ := at_L1 HR0.out x14_1 p205 q205
     cases e205
     replace hx205_0 := (HB.out.cell (World.block_lt_of_cell? w _ hx205_0)).trans hx205_0
     have HR205_0 := Aside0.mk hi205_0
     have HC205_0 := Aside0.mk hl205_0
     clear hi205_0 hl205_0
     replace p205 := eq_true p205
     replace q205 := eq_true q205
     go_wp2_with (first | ((with_reducible refine gate_callee (f := 56) rfl ?_); refine goesL_ (some 20) rfl rfl Try.func56 (by kernel_rfl) rfl #[.slice A205_0 (rd_L1 l0 x14_1).length c205_0] rfl z5_3 ?_; (with_reducible refine (impl_vectorOf.calls _ _ (rd_L1 l0 x14_1) t206 t207 t208 t209 false _ ?side1 ?side2 A9.out).mono ?_); (case side1 => exact cZ ((Kd.C_below HR205_0.out HB.out))); (case side2 => exact HC205_0.out); rintro e w21 ⟨rfl, hb⟩; refine ⟨_, rfl, ?_⟩; replace HO_4 := Aside0.mk (Kd.R_below z5_4 hb); replace HB := Aside0.mk (below_step z5_1 hb); (try clear hb)) | ((with_reducible refine gate_dst (N := 7) rfl ?_); refine box_event ?hg (N := 7) ?hd (cs := #[.int .i64 0, .int .i64 0, .int .i64 0, .int .i64 0]) (t := 59) ?hr ?_; (case hd => rfl); (case hg => rfl); (case hr => first | (go_simp; done) | (go_simp; rfl)); intro gb211 hg w22 hbox hb; replace HO_4 := Aside0.mk (Kd.R_below (Kd.R_elderB z5_4 gb211 (Nat.le_of_eq hg.symm)) hb); have BK211 := Aside0.mk (hbox); have GW211 := Aside0.mk ((by rw [hg]; exact (below_size z5_1) : w.heap.size ≤ gb211)); have GE211 := Aside0.mk ((by rw [hg]; exact (below_size z5_1) : w.heap.size ≤ gb211)); replace HB := Aside0.mk (below_step z5_1 hb); clear hb hbox hg; have hcz23_0 : w22.cell? ⟨gb211, 0, none⟩ = some (.int .i64 0) := (blk_cell BK211.out 0).trans rfl; have hfz23_0 := blk_frozen BK211.out 0; have hcz24_1 : w22.cell? ⟨gb211, 1, none⟩ = some (.int .i64 0) := (blk_cell BK211.out 1).trans rfl; have hfz24_1 := blk_frozen BK211.out 1; have hcz25_2 : w22.cell? ⟨gb211, 2, none⟩ = some (.int .i64 0) := (blk_cell BK211.out 2).trans rfl; have hfz25_2 := blk_frozen BK211.out 2; have hcz26_3 : w22.cell? ⟨gb211, 3, none⟩ = some (.int .i64 0) := (blk_cell BK211.out 3).trans rfl; have hfz26_3 := blk_frozen BK211.out 3) | ((with_reducible refine gate_store (t := 59) (p := 7) rfl ?_); refine store_event (t := 59) (p := 7) (v := ?vo_w27) (w1 := ((((w22.setCell ⟨gb211, 0, none⟩ (.int .i64 t206)).setCell ⟨gb211, 1, none⟩ (.int .i64 t207)).setCell ⟨gb211, 2, none⟩ (.int .i64 t208)).setCell ⟨gb211, 3, none⟩ (.int .i64 t209))) ?hg ?ho ?hn ?hr ?_; (case ho => rfl); (case hg => rfl); (case hn => rfl); (case hr => first | (go_simp; done) | (go_simp; rfl)); intro w27 hw; have n0_ : Aside0 (Kd.R k59 59 w27 w.heap.size (fun k_ => k_ ≠ gb211) u4 x4_1) := ⟨z5_5⟩; have n1_ : Aside0 (w27.heap[gb211]? = some (.cells #[.int .i64 t206, .int .i64 t207, .int .i64 t208, .int .i64 t209] 59 (0, 0))) := ⟨(by rw [hw]; exact (bZ BK211.out))⟩; have n2_ : Aside0 (Below w.heap.size w w27) := ⟨(by rw [hw]; exact z5_2)⟩; clear hw; clear HO_4; clear BK211; clear HB; have HO_4 := n0_; have BK211 := n1_; have HB := n2_; clear n0_ n1_ n2_))
     go_ret2
     exact ⟨_, z5_6, by first | exact Kd.R_nil _ _ _ _ _ | exact Kd.N_nil _ _ _ _ _ | exact Kd.V_nil _ _ _ _ _ | exact Kd.Q_nil _ _ _ _ _ | exact Kd.S_nil _ _ _ _ _, z5_2⟩
   ·rw [if_neg c6] at H
    have c6b0 : decide (x14_1 < (l0.length : Int)) = false := decide_eq_false c6
    clear c6
    simp only [Option.some.injEq, Prod.mk.injEq] at H
    obtain ⟨rfl, rfl⟩ := H
    go_wp2
    go_ret2
    exact ⟨_, z5_6, z5_4, z5_1⟩

-- GIVEN: function 72 (impl_vector_lead)

-- GIVEN: function 74 (impl_vector_times)

/-! ### impl_elementOf: function 81 -/
def impl_elementOf.f (a0 : Int) : Option (Int) := some (Int.tmod (wrap64 ((Int.tmod a0 31) + 31)) 31)
set_option maxHeartbeats 8000000 in
set_option maxRecDepth 100000 in
theorem impl_elementOf.calls (a0 : Int) (r : Int) (w : World) (h : impl_elementOf.f a0 = some r) :
  Calls Try.prog 81 #[.int .i64 a0] w fun e w' => e = .returned (.int .i64 r) ∧ Drawn0 w w' := by
 have H : (some (Int.tmod (wrap64 ((Int.tmod a0 31) + 31)) 31)) = some r := h
 clear h
 obtain rfl := Option.some.inj H
 go_enter Try.func81, Try.ntmps81
 go_wp2
 go_ret
 exact ⟨z5_8, by repeat (first | exact Drawn0.refl _ | apply Drawn0.step)⟩

/-! ### impl_element_times: function 75 -/
def impl_element_times.f (a0 : Int) (a1 : Int) : Option (Int) := (impl_elementOf.f (wrap64 (a0 * a1))).bind fun t215 => (some t215)
set_option maxHeartbeats 8000000 in
set_option maxRecDepth 100000 in
theorem impl_element_times.calls (a0 : Int) (a1 : Int) (r : Int) (w : World) (h : impl_element_times.f a0 a1 = some r) :
  Calls Try.prog 75 #[.int .i64 a0, .int .i64 a1] w fun e w' => e = .returned (.int .i64 r) ∧ Drawn0 w w' := by
 have H : ((impl_elementOf.f (wrap64 (a0 * a1))).bind fun t215 => (some t215)) = some r := h
 clear h
 replace H := Option.bind_eq_some_iff.mp H
 obtain ⟨t215, A30, H⟩ := H
 replace H : (some t215) = some r := H
 have A3 := Aside0.mk A30
 clear A30
 obtain rfl := Option.some.inj H
 go_enter Try.func75, Try.ntmps75
 go_wp2_with (first | ((with_reducible refine gate_callee (f := 81) rfl ?_); refine goesL_ (some 8) rfl rfl Try.func81 (by kernel_rfl) rfl #[.int .i64 (wrap64 (a0 * a1))] rfl z5_3 ?_; (with_reducible refine (impl_elementOf.calls (wrap64 (a0 * a1)) t215 _ A3.out).mono ?_); rintro e w' ⟨rfl, ⟨nd, rfl⟩⟩; refine ⟨_, rfl, ?_⟩))
 go_ret
 exact ⟨z5_8, by repeat (first | exact Drawn0.refl _ | apply Drawn0.step)⟩

-- GIVEN: function 87 (impl_vector_plus)

end Go.Proofs.Ytbhmgbeebhmfkaa.PA
