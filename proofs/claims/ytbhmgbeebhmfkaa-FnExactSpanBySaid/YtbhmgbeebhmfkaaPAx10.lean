-- Written by a program of this session (after the manner of the kit's print, several laws in one text).
import Derived.Test.YtbhmgbeebhmfkaaPAx0
import Derived.Test.YtbhmgbeebhmfkaaGw
import Derived.Test.YtbhmgbeebhmfkaaGm
namespace Go.Proofs.Ytbhmgbeebhmfkaa.PA
open Go.RowKit Go.Proofs.YtbhmgbeebhmfkaaW.PrintWords Go.Proofs.YtbhmgbeebhmfkaaW.PrintLast Go.Proofs.YtbhmgbeebhmfkaaW.PrintMore
attribute [local go_sem] max2_int min2_int max_two min_two max_three min_three max_four min_four   -- for this text's walks alone
set_option linter.unusedVariables false
set_option linter.unusedSimpArgs false

-- GIVEN: function 56 (impl_vectorOf)

/-! ### impl_matrixOf: function 49 -/
theorem zL10 {p q : Prop} (h : q) (t : q → p := by intro h_; (with_reducible repeat first|refine blk_drewN ?_ _|refine blk_drew ?_|refine blk_alloc ?_ _); exact h_) : p := t h
theorem z10_1 {p : Prop} (h : p := by repeat (first | (with_reducible first | exact HB.out | apply below_alloc | apply pw_below_drewN | apply below_drew1) | exact HB.out)) : p := h
theorem z10_2 {p : Prop} (h : p := by (try simp only [List.map_toArray, List.map_cons, List.map_nil]); first | done | rfl | (simp only [List.length_drop, List.length_take]; rfl)) : p := h
theorem z10_3 {p : Prop} (h : p := by repeat (first | (with_reducible first | exact HB.out | apply below_alloc | apply pw_below_drewN | apply below_drew1 | refine below_set ?_ GE302.out) | exact HB.out)) : p := h
theorem z10_4 {p : Prop} (h : p := by (with_reducible repeat (first | apply Kd.R_alloc | apply Kd.R_drewN | apply Kd.R_drew)); exact HO_4.out) : p := h
theorem z10_5 {p : Prop} (h : p := by rw [hw]; exact (by (with_reducible repeat (first | apply Kd.R_alloc | apply Kd.R_drewN | apply Kd.R_drew)); exact Kd.R_mono (Kd.R_far (p := ⟨gb302, 3, none⟩) (Kd.R_far (p := ⟨gb302, 2, none⟩) (Kd.R_far (p := ⟨gb302, 1, none⟩) (Kd.R_far (p := ⟨gb302, 0, none⟩) (Kd.R_mono HO_4.out (fun k_ hk => (⟨hk, hk.2⟩ : _ ∧ k_ ≠ gb302))) (fun _ hk => hk.2) (.int .i64 t297)) (fun _ hk => hk.2) (.int .i64 t298)) (fun _ hk => hk.2) (.int .i64 t299)) (fun _ hk => hk.2) (.int .i64 t300)) (fun _ hk => hk.1.2))) : p := h
theorem z10_6 {p : Prop} (h : p := by repeat (first | (with_reducible first | exact HB.out | apply below_alloc | apply pw_below_drewN | apply below_drew1 | refine below_set ?_ GE307.out | refine below_set ?_ GE308.out | refine below_set ?_ GE309.out) | exact HB.out)) : p := h
theorem z10_7 {p : Prop} (h : p := by repeat (first | (with_reducible first | exact HB.out | apply below_alloc | apply pw_below_drewN | apply below_drew1 | refine below_set ?_ GE307.out | refine below_set ?_ GE308.out) | exact HB.out)) : p := h
theorem z10_8 {p : Prop} (h : p := by repeat (first | (with_reducible first | exact HB.out | apply below_alloc | apply pw_below_drewN | apply below_drew1 | refine below_set ?_ GE307.out) | exact HB.out)) : p := h
theorem z10_9 {p : Prop} (h : p := by first | (with_reducible assumption) | assumption) : p := h
theorem z10_10 {p : Prop} (h : p := by first | rfl | (simp [errW_none, errW_some] <;> rfl) | (simp [*, errW_none, errW_some] <;> rfl)) : p := h
theorem z10_11 {p : Prop} (h : p := by first | rfl | (simp; done) | (simp [*]; done)) : p := h
theorem z10_12 {p : Prop} (h : p := by repeat (first | exact Drawn0.refl _ | apply Drawn0.step)) : p := h
def impl_matrixOf.l0 : Nat → List (List Int) → List (S59) → List (List Int) → Int → Int → Option ((List (S59)) × Bool)
  | 0, _, _, _, _, _ => none
  | k + 1, x0, x4, x12, x13, x14 => if x14 < x13 then (if 0 ≤ x14 then (if x14 < (x12.length : Int) then ((impl_vectorOf.f (rd_L1 x12 x14)).bind fun bt297 => (if bt297.2.2.2.2 = true then (if x4.length < 4398046511104 then (impl_matrixOf.l0 k x0 (x4 ++ [(⟨bt297.1, bt297.2.1, bt297.2.2.1, bt297.2.2.2.1⟩ : S59)]) x12 x13 (wrap64 (x14 + 1))) else (none)) else (some (([] : List (S59)), false)))) else (none)) else (none)) else (some (x4, decide ((x0.length : Int) ≤ 8)))
def impl_matrixOf.f (k : Nat) (l0 : List (List Int)) : Option ((List (S59)) × Bool) := if 0 ≤ (l0.length : Int) then (if ((l0.length : Int) : Int).toNat ≤ 8796093022208 then (impl_matrixOf.l0 k l0 (([] : List (S59))) l0 (l0.length : Int) 0) else (none)) else (none)
set_option maxHeartbeats 8000000 in
set_option maxRecDepth 100000 in
theorem impl_matrixOf.calls (k : Nat) (A0 : Option Addr) (c0 : Nat) (l0 : List (List Int)) (r1 : List (S59)) (r2 : Bool) (w : World) (hr0 : Kd.C (Kd.slice 3 (Kd.int .i64)) w A0 l0.length l0) (hc0 : l0.length ≤ c0) (h : impl_matrixOf.f k l0 = some (r1, r2)) :
  Calls Try.prog 49 #[.slice A0 l0.length c0] w fun e w' => ∃ v0_ : Value, e = .returned (.tuple #[v0_, .bool r2]) ∧ Kd.R k59 59 w' w.heap.size (fun _ => True) v0_ r1 ∧ Below w.heap.size w w' := by
 have hu59 := Try.underlying59
 have HR0 := Aside0.mk hr0
 have HC0 := Aside0.mk hc0
 clear hr0 hc0
 have HB := Aside0.mk (Below.refl w.heap.size w)
 have H : (if 0 ≤ (l0.length : Int) then (if ((l0.length : Int) : Int).toNat ≤ 8796093022208 then (impl_matrixOf.l0 k l0 (([] : List (S59))) l0 (l0.length : Int) 0) else (none)) else (none)) = some (r1, r2) := h
 clear h
 obtain ⟨c2, H⟩ := ifP H
 have c2b0 := eq_true c2
 have c2b1 : decide (0 ≤ (l0.length : Int)) = true := decide_eq_true c2
 clear c2
 obtain ⟨c3, H⟩ := ifP H
 have c3b0 := eq_true c3
 have c3b1 : decide (((l0.length : Int) : Int).toNat ≤ 8796093022208) = true := decide_eq_true c3
 clear c3
 obtain ⟨y293, hy293⟩ : ∃ y_ : List (S59), y_ = (([] : List (S59))) := ⟨_, rfl⟩
 replace H : (impl_matrixOf.l0 k l0 y293 l0 (l0.length : Int) 0) = some (r1, r2) := by first | (rw [hy293]; with_reducible exact H) | (have H2_ := (Option.bind_some _ _).symm.trans H; rw [hy293]; with_reducible exact H2_) | (have H2_ := (Option.bind_some _ _).symm.trans H; with_reducible exact H2_) | with_reducible exact H | (rw [hy293]; exact H) | exact H
 have Ny293 := Aside0.mk hy293
 clear hy293
 have H' := Aside0.mk H
 clear H
 go_enter Try.func49, Try.ntmps49
 go_wp2_with (first | ((with_reducible refine gate_dst (N := 11) rfl ?_); refine R_make0 k59 _ 59 rfl (N := 11) rfl 48 _ _ rfl (l0.length : Int) rfl rfl Try.underlying48 (.agg #[(.int .i64 0), (.int .i64 0), (.int .i64 0), (.int .i64 0)]) 32 info59 (by decide) (ok := fun _ => True) (okp := fun _ => True) (fun _ hk => hk) trivial (of_decide_eq_true z10_9) (Nat.le_trans (Nat.mul_le_mul_right _ (of_decide_eq_true z10_9 : (l0.length : Int).toNat ≤ 8796093022208)) (by omega)) (Below.refl _ _) (Nat.le_refl _) ?_; intro v294 w4 ho5 hb hg_ hnew_; clear hg_ hnew_; (first | rw [← Ny293.out] at ho5 | (simp only [Int.reduceToNat] at ho5; rw [← Ny293.out] at ho5)); have HO295 := Aside0.mk (Kd.R_lower ho5 (below_size z10_1)); replace HB := Aside0.mk (below_step z10_1 hb); clear hb ho5))
 go_loopg [4, 14] k (fun kq v4 v14 w' => ∃ (x4_1 : List (S59)) (x14_1 : Int), v14 = .int .i64 x14_1 ∧ Aside0 (impl_matrixOf.l0 kq l0 x4_1 l0 (l0.length : Int) x14_1 = some (r1, r2)) ∧ Aside0 (kq ≤ k) ∧ Aside0 (Kd.R k59 59 w' w.heap.size (fun _ => True) v4 x4_1) ∧ Aside0 (Below w.heap.size w w'))
 case atStart => exact ⟨(y293), (0), z10_11, H', ⟨Nat.le_refl _⟩, ⟨by (with_reducible repeat (first | apply Kd.R_alloc | apply Kd.R_drewN | apply Kd.R_drew)); exact HO295.out⟩, ⟨z10_1⟩⟩
 case round =>
  clear H'
  try clear c2
  try clear c2b0
  try clear c2b1
  try clear c3
  try clear c3b0
  try clear c3b1
  obtain ⟨x4_1, x14_1, rfl, HA, HK1, HO_4, HB⟩ := hrel
  cases gk with
  | zero => exact absurd HA.out (by simp [impl_matrixOf.l0])
  | succ k1 =>
   have H := HA.out
   clear HA
   simp only [impl_matrixOf.l0] at H
   by_cases c6 : x14_1 < (l0.length : Int)
   ·rw [if_pos c6] at H
    have c6b0 : decide (x14_1 < (l0.length : Int)) = true := decide_eq_true c6
    clear c6
    obtain ⟨c7, H⟩ := ifP H
    have c7b0 : decide (0 ≤ x14_1) = true := decide_eq_true c7
    clear c7
    obtain ⟨c8, H⟩ := ifP H
    have c8b0 : decide (x14_1 < (l0.length : Int)) = true := decide_eq_true c8
    clear c8
    replace H := Option.bind_eq_some_iff.mp H
    obtain ⟨⟨t297, t298, t299, t300, t301⟩, A90, H⟩ := H
    replace H : (if t301 = true then (if x4_1.length < 4398046511104 then (impl_matrixOf.l0 k1 l0 (x4_1 ++ [(⟨t297, t298, t299, t300⟩ : S59)]) l0 (l0.length : Int) (wrap64 (x14_1 + 1))) else (none)) else (some (([] : List (S59)), false))) = some (r1, r2) := H
    have A9 := Aside0.mk A90
    clear A90
    by_cases c10 : t301 = true
    ·subst c10
     have H1 : (if x4_1.length < 4398046511104 then (impl_matrixOf.l0 k1 l0 (x4_1 ++ [(⟨t297, t298, t299, t300⟩ : S59)]) l0 (l0.length : Int) (wrap64 (x14_1 + 1))) else (none)) = some (r1, r2) := by rw [if_pos rfl] at H; exact H
     clear H
     have H := H1
     clear H1
     obtain ⟨c11, H⟩ := ifP H
     have LMc11 := Aside0.mk c11
     clear c11
     obtain ⟨y303, hy303⟩ : ∃ y_ : List (S59), y_ = (x4_1 ++ [(⟨t297, t298, t299, t300⟩ : S59)]) := ⟨_, rfl⟩
     replace H : (impl_matrixOf.l0 k1 l0 y303 l0 (l0.length : Int) (wrap64 (x14_1 + 1))) = some (r1, r2) := by first | (rw [hy303]; with_reducible exact H) | (have H2_ := (Option.bind_some _ _).symm.trans H; rw [hy303]; with_reducible exact H2_) | (have H2_ := (Option.bind_some _ _).symm.trans H; with_reducible exact H2_) | with_reducible exact H | (rw [hy303]; exact H) | exact H
     have Ny303 := Aside0.mk hy303
     clear hy303
     have H' := Aside0.mk H
     clear H
     have p296 : 0 ≤ (x14_1 : Int) := of_decide_eq_true z10_9
     have q296 : x14_1 < (l0.length : Int) := of_decide_eq_true z10_9
     obtain ⟨ad296, A296_0, c296_0, e296, hx296_0, hl296_0, hi296_0⟩ := at_L1 HR0.out x14_1 p296 q296
     cases e296
     replace hx296_0 := (HB.out.cell (World.block_lt_of_cell? w _ hx296_0)).trans hx296_0
     have HR296_0 := Aside0.mk hi296_0
     have HC296_0 := Aside0.mk hl296_0
     clear hi296_0 hl296_0
     replace p296 := eq_true p296
     replace q296 := eq_true q296
     go_wp2_with (first | ((with_reducible refine gate_callee (f := 56) rfl ?_); refine goesL_ (some 20) rfl rfl Try.func56 (by kernel_rfl) rfl #[.slice A296_0 (rd_L1 l0 x14_1).length c296_0] rfl z10_2 ?_; (with_reducible refine (impl_vectorOf.calls _ _ (rd_L1 l0 x14_1) t297 t298 t299 t300 true _ ?side1 ?side2 A9.out).mono ?_); (case side1 => exact cZ ((Kd.C_below HR296_0.out HB.out))); (case side2 => exact HC296_0.out); rintro e w12 ⟨rfl, hb⟩; refine ⟨_, rfl, ?_⟩; replace HO_4 := Aside0.mk (Kd.R_below z10_4 hb); replace HB := Aside0.mk (below_step z10_1 hb); (try clear hb)) | ((with_reducible refine gate_dst (N := 7) rfl ?_); refine box_event ?hg (N := 7) ?hd (cs := #[.int .i64 0, .int .i64 0, .int .i64 0, .int .i64 0]) (t := 59) ?hr ?_; (case hd => rfl); (case hg => rfl); (case hr => first | (go_simp; done) | (go_simp; rfl)); intro gb302 hg w13 hbox hb; replace HO_4 := Aside0.mk (Kd.R_below (Kd.R_elderB z10_4 gb302 (Nat.le_of_eq hg.symm)) hb); have BK302 := Aside0.mk (hbox); have GW302 := Aside0.mk ((by rw [hg]; exact (below_size z10_1) : w.heap.size ≤ gb302)); have GE302 := Aside0.mk ((by rw [hg]; exact (below_size z10_1) : w.heap.size ≤ gb302)); replace HB := Aside0.mk (below_step z10_1 hb); clear hb hbox hg; have hcz14_0 : w13.cell? ⟨gb302, 0, none⟩ = some (.int .i64 0) := (blk_cell BK302.out 0).trans rfl; have hfz14_0 := blk_frozen BK302.out 0; have hcz15_1 : w13.cell? ⟨gb302, 1, none⟩ = some (.int .i64 0) := (blk_cell BK302.out 1).trans rfl; have hfz15_1 := blk_frozen BK302.out 1; have hcz16_2 : w13.cell? ⟨gb302, 2, none⟩ = some (.int .i64 0) := (blk_cell BK302.out 2).trans rfl; have hfz16_2 := blk_frozen BK302.out 2; have hcz17_3 : w13.cell? ⟨gb302, 3, none⟩ = some (.int .i64 0) := (blk_cell BK302.out 3).trans rfl; have hfz17_3 := blk_frozen BK302.out 3) | ((with_reducible refine gate_store (t := 59) (p := 7) rfl ?_); refine store_event (t := 59) (p := 7) (v := ?vo_w18) (w1 := ((((w13.setCell ⟨gb302, 0, none⟩ (.int .i64 t297)).setCell ⟨gb302, 1, none⟩ (.int .i64 t298)).setCell ⟨gb302, 2, none⟩ (.int .i64 t299)).setCell ⟨gb302, 3, none⟩ (.int .i64 t300))) ?hg ?ho ?hn ?hr ?_; (case ho => rfl); (case hg => rfl); (case hn => rfl); (case hr => first | (go_simp; done) | (go_simp; rfl)); intro w18 hw; have n0_ : Aside0 (Kd.R k59 59 w18 w.heap.size (fun k_ => k_ ≠ gb302) u4 x4_1) := ⟨z10_5⟩; have n1_ : Aside0 (w18.heap[gb302]? = some (.cells #[.int .i64 t297, .int .i64 t298, .int .i64 t299, .int .i64 t300] 59 (0, 0))) := ⟨(by rw [hw]; exact (bZ BK302.out))⟩; have n2_ : Aside0 (Below w.heap.size w w18) := ⟨(by rw [hw]; exact z10_3)⟩; clear hw; clear HO_4; clear BK302; clear HB; have HO_4 := n0_; have BK302 := n1_; have HB := n2_; clear n0_ n1_ n2_; have hcz19_0 : w18.cell? ⟨gb302, 0, none⟩ = some (.int .i64 t297) := (blk_cell BK302.out 0).trans rfl; have hcz19_1 : w18.cell? ⟨gb302, 1, none⟩ = some (.int .i64 t298) := (blk_cell BK302.out 1).trans rfl; have hcz19_2 : w18.cell? ⟨gb302, 2, none⟩ = some (.int .i64 t299) := (blk_cell BK302.out 2).trans rfl; have hcz19_3 : w18.cell? ⟨gb302, 3, none⟩ = some (.int .i64 t300) := (blk_cell BK302.out 3).trans rfl; have hfz19_0 := blk_frozen BK302.out 0; have hfz19_1 := blk_frozen BK302.out 1; have hfz19_2 := blk_frozen BK302.out 2; have hfz19_3 := blk_frozen BK302.out 3) | ((with_reducible refine gate_builtin (b := .append) (xs := #[.tmp 25, .tmp 27]) rfl ?_); at_builtin; refine Kd.R_append k59 (w0 := w) w.heap.size rfl (.tmp 25) (.tmp 27) 48 59 (.agg #[(.int .i64 0), (.int .i64 0), (.int .i64 0), (.int .i64 0)]) 32 rfl Try.underlying48 info59 rfl (by decide) (by omega) u4 x4_1 (⟨t297, t298, t299, t300⟩ : S59) [.int .i64 t297, .int .i64 t298, .int .i64 t299, .int .i64 t300] (fun k_ => k_ ≠ gb302) (fun _ => False) rfl rfl ?aP (fun _ hk => hk.elim) ?aF ?aO ?aB ?aS ?aL ?_; (case aP => exact k59_mkM _ _ _ (⟨t297, t298, t299, t300⟩ : S59)); (case aB => exact z10_3); (case aF => exact (fun k_ hk => Kd.freshB (g := gb302) (o := .cells #[.int .i64 t297, .int .i64 t298, .int .i64 t299, .int .i64 t300] 59 (0, 0)) (zL10 BK302.out) k_ hk)); (case aO => exact z10_4); (case aS => exact (below_size z10_3)); (case aL => have := LMc11.out; omega); intro v304 w20 ho hb hg hat; rw [← Ny303.out] at ho; have n0_ := Aside0.mk (blk_grown (g := gb302) (o := .cells #[.int .i64 t297, .int .i64 t298, .int .i64 t299, .int .i64 t300] 59 (0, 0)) (zL10 BK302.out) hg (Kd.R_away HO_4.out (fun _ hk => hk))); have n1_ := Aside0.mk (hb); have n2_ := Aside0.mk (ho); clear BK302; clear HB; clear HO_4; have BK302 := n0_; have HB := n1_; have HO305 := n2_; clear n0_ n1_ n2_; clear ho hb hg hat))
     go_roundg k1
     case measure => have := HK1.out; omega
     case rel => exact ⟨(y303), (wrap64 (x14_1 + 1)), z10_11, H', ⟨by have := HK1.out; omega⟩, ⟨by (with_reducible repeat (first | apply Kd.R_alloc | apply Kd.R_drewN | apply Kd.R_drew)); exact Kd.R_mono HO305.out (fun _ hk => trivial)⟩, ⟨z10_3⟩⟩
    ·replace c10 := Bool.eq_false_iff.mpr c10
     subst c10
     have H1 : (some (([] : List (S59)), false)) = some (r1, r2) := by rw [if_neg (show ¬ (false = true) by decide)] at H; exact H
     clear H
     have H := H1
     clear H1
     simp only [Option.some.injEq, Prod.mk.injEq] at H
     obtain ⟨rfl, rfl⟩ := H
     have p296 : 0 ≤ (x14_1 : Int) := of_decide_eq_true z10_9
     have q296 : x14_1 < (l0.length : Int) := of_decide_eq_true z10_9
     obtain ⟨ad296, A296_0, c296_0, e296, hx296_0, hl296_0, hi296_0⟩ := at_L1 HR0.out x14_1 p296 q296
     cases e296
     replace hx296_0 := (HB.out.cell (World.block_lt_of_cell? w _ hx296_0)).trans hx296_0
     have HR296_0 := Aside0.mk hi296_0
     have HC296_0 := Aside0.mk hl296_0
     clear hi296_0 hl296_0
     replace p296 := eq_true p296
     replace q296 := eq_true q296
     go_wp2_with (first | ((with_reducible refine gate_callee (f := 56) rfl ?_); refine goesL_ (some 20) rfl rfl Try.func56 (by kernel_rfl) rfl #[.slice A296_0 (rd_L1 l0 x14_1).length c296_0] rfl z10_2 ?_; (with_reducible refine (impl_vectorOf.calls _ _ (rd_L1 l0 x14_1) t297 t298 t299 t300 false _ ?side1 ?side2 A9.out).mono ?_); (case side1 => exact cZ ((Kd.C_below HR296_0.out HB.out))); (case side2 => exact HC296_0.out); rintro e w21 ⟨rfl, hb⟩; refine ⟨_, rfl, ?_⟩; replace HO_4 := Aside0.mk (Kd.R_below z10_4 hb); replace HB := Aside0.mk (below_step z10_1 hb); (try clear hb)) | ((with_reducible refine gate_dst (N := 7) rfl ?_); refine box_event ?hg (N := 7) ?hd (cs := #[.int .i64 0, .int .i64 0, .int .i64 0, .int .i64 0]) (t := 59) ?hr ?_; (case hd => rfl); (case hg => rfl); (case hr => first | (go_simp; done) | (go_simp; rfl)); intro gb302 hg w22 hbox hb; replace HO_4 := Aside0.mk (Kd.R_below (Kd.R_elderB z10_4 gb302 (Nat.le_of_eq hg.symm)) hb); have BK302 := Aside0.mk (hbox); have GW302 := Aside0.mk ((by rw [hg]; exact (below_size z10_1) : w.heap.size ≤ gb302)); have GE302 := Aside0.mk ((by rw [hg]; exact (below_size z10_1) : w.heap.size ≤ gb302)); replace HB := Aside0.mk (below_step z10_1 hb); clear hb hbox hg; have hcz23_0 : w22.cell? ⟨gb302, 0, none⟩ = some (.int .i64 0) := (blk_cell BK302.out 0).trans rfl; have hfz23_0 := blk_frozen BK302.out 0; have hcz24_1 : w22.cell? ⟨gb302, 1, none⟩ = some (.int .i64 0) := (blk_cell BK302.out 1).trans rfl; have hfz24_1 := blk_frozen BK302.out 1; have hcz25_2 : w22.cell? ⟨gb302, 2, none⟩ = some (.int .i64 0) := (blk_cell BK302.out 2).trans rfl; have hfz25_2 := blk_frozen BK302.out 2; have hcz26_3 : w22.cell? ⟨gb302, 3, none⟩ = some (.int .i64 0) := (blk_cell BK302.out 3).trans rfl; have hfz26_3 := blk_frozen BK302.out 3) | ((with_reducible refine gate_store (t := 59) (p := 7) rfl ?_); refine store_event (t := 59) (p := 7) (v := ?vo_w27) (w1 := ((((w22.setCell ⟨gb302, 0, none⟩ (.int .i64 t297)).setCell ⟨gb302, 1, none⟩ (.int .i64 t298)).setCell ⟨gb302, 2, none⟩ (.int .i64 t299)).setCell ⟨gb302, 3, none⟩ (.int .i64 t300))) ?hg ?ho ?hn ?hr ?_; (case ho => rfl); (case hg => rfl); (case hn => rfl); (case hr => first | (go_simp; done) | (go_simp; rfl)); intro w27 hw; have n0_ : Aside0 (Kd.R k59 59 w27 w.heap.size (fun k_ => k_ ≠ gb302) u4 x4_1) := ⟨z10_5⟩; have n1_ : Aside0 (w27.heap[gb302]? = some (.cells #[.int .i64 t297, .int .i64 t298, .int .i64 t299, .int .i64 t300] 59 (0, 0))) := ⟨(by rw [hw]; exact (bZ BK302.out))⟩; have n2_ : Aside0 (Below w.heap.size w w27) := ⟨(by rw [hw]; exact z10_3)⟩; clear hw; clear HO_4; clear BK302; clear HB; have HO_4 := n0_; have BK302 := n1_; have HB := n2_; clear n0_ n1_ n2_))
     go_ret2
     exact ⟨_, z10_10, by first | exact Kd.R_nil _ _ _ _ _ | exact Kd.N_nil _ _ _ _ _ | exact Kd.V_nil _ _ _ _ _ | exact Kd.Q_nil _ _ _ _ _ | exact Kd.S_nil _ _ _ _ _, z10_3⟩
   ·rw [if_neg c6] at H
    have c6b0 : decide (x14_1 < (l0.length : Int)) = false := decide_eq_false c6
    clear c6
    simp only [Option.some.injEq, Prod.mk.injEq] at H
    obtain ⟨rfl, rfl⟩ := H
    go_wp2
    go_ret2
    exact ⟨_, z10_10, z10_4, z10_1⟩

-- GIVEN: function 72 (impl_vector_lead)

-- GIVEN: function 74 (impl_vector_times)

/-! ### impl_elementOf: function 81 -/
def impl_elementOf.f (a0 : Int) : Option (Int) := some (Int.tmod (wrap64 ((Int.tmod a0 31) + 31)) 31)
set_option maxHeartbeats 8000000 in
set_option maxRecDepth 100000 in
theorem impl_elementOf.calls (a0 : Int) (r : Int) (w : World) (h : impl_elementOf.f a0 = some r) :
  Calls Try.prog 81 #[.int .i64 a0] w fun e w' => e = .returned (.int .i64 r) ∧ Drawn0 w w' := by
 have H : (some (Int.tmod (wrap64 ((Int.tmod a0 31) + 31)) 31)) = some r := h
 clear h
 obtain rfl := Option.some.inj H
 go_enter Try.func81, Try.ntmps81
 go_wp2
 go_ret
 exact ⟨z10_11, z10_12⟩

/-! ### impl_element_times: function 75 -/
def impl_element_times.f (a0 : Int) (a1 : Int) : Option (Int) := (impl_elementOf.f (wrap64 (a0 * a1))).bind fun t306 => (some t306)
set_option maxHeartbeats 8000000 in
set_option maxRecDepth 100000 in
theorem impl_element_times.calls (a0 : Int) (a1 : Int) (r : Int) (w : World) (h : impl_element_times.f a0 a1 = some r) :
  Calls Try.prog 75 #[.int .i64 a0, .int .i64 a1] w fun e w' => e = .returned (.int .i64 r) ∧ Drawn0 w w' := by
 have H : ((impl_elementOf.f (wrap64 (a0 * a1))).bind fun t306 => (some t306)) = some r := h
 clear h
 replace H := Option.bind_eq_some_iff.mp H
 obtain ⟨t306, A30, H⟩ := H
 replace H : (some t306) = some r := H
 have A3 := Aside0.mk A30
 clear A30
 obtain rfl := Option.some.inj H
 go_enter Try.func75, Try.ntmps75
 go_wp2_with (first | ((with_reducible refine gate_callee (f := 81) rfl ?_); refine goesL_ (some 8) rfl rfl Try.func81 (by kernel_rfl) rfl #[.int .i64 (wrap64 (a0 * a1))] rfl z10_2 ?_; (with_reducible refine (impl_elementOf.calls (wrap64 (a0 * a1)) t306 _ A3.out).mono ?_); rintro e w' ⟨rfl, ⟨nd, rfl⟩⟩; refine ⟨_, rfl, ?_⟩))
 go_ret
 exact ⟨z10_11, z10_12⟩

-- GIVEN: function 87 (impl_vector_plus)

/-! ### impl_vector_minus: function 82 -/
def impl_vector_minus.f (a0_0 : Int) (a0_1 : Int) (a0_2 : Int) (a0_3 : Int) (a1_0 : Int) (a1_1 : Int) (a1_2 : Int) (a1_3 : Int) : Option (Int × Int × Int × Int) := (impl_elementOf.f (-1)).bind fun t310 => ((impl_vector_times.f a1_0 a1_1 a1_2 a1_3 t310).bind fun bt311 => ((impl_vector_plus.f a0_0 a0_1 a0_2 a0_3 bt311.1 bt311.2.1 bt311.2.2.1 bt311.2.2.2).bind fun bt315 => (some (bt315.1, bt315.2.1, bt315.2.2.1, bt315.2.2.2))))
set_option maxHeartbeats 8000000 in
set_option maxRecDepth 100000 in
theorem impl_vector_minus.calls (a0_0 : Int) (a0_1 : Int) (a0_2 : Int) (a0_3 : Int) (a1_0 : Int) (a1_1 : Int) (a1_2 : Int) (a1_3 : Int) (r1 : Int) (r2 : Int) (r3 : Int) (r4 : Int) (w : World) (h : impl_vector_minus.f a0_0 a0_1 a0_2 a0_3 a1_0 a1_1 a1_2 a1_3 = some (r1, r2, r3, r4)) :
  Calls Try.prog 82 #[.agg #[.int .i64 a0_0, .int .i64 a0_1, .int .i64 a0_2, .int .i64 a0_3], .agg #[.int .i64 a1_0, .int .i64 a1_1, .int .i64 a1_2, .int .i64 a1_3]] w fun e w' => e = .returned (.agg #[.int .i64 r1, .int .i64 r2, .int .i64 r3, .int .i64 r4]) ∧ Below w.heap.size w w' := by
 have hu59 := Try.underlying59
 have HB := Aside0.mk (Below.refl w.heap.size w)
 have H : ((impl_elementOf.f (-1)).bind fun t310 => ((impl_vector_times.f a1_0 a1_1 a1_2 a1_3 t310).bind fun bt311 => ((impl_vector_plus.f a0_0 a0_1 a0_2 a0_3 bt311.1 bt311.2.1 bt311.2.2.1 bt311.2.2.2).bind fun bt315 => (some (bt315.1, bt315.2.1, bt315.2.2.1, bt315.2.2.2))))) = some (r1, r2, r3, r4) := h
 clear h
 replace H := Option.bind_eq_some_iff.mp H
 obtain ⟨t310, A30, H⟩ := H
 replace H : ((impl_vector_times.f a1_0 a1_1 a1_2 a1_3 t310).bind fun bt311 => ((impl_vector_plus.f a0_0 a0_1 a0_2 a0_3 bt311.1 bt311.2.1 bt311.2.2.1 bt311.2.2.2).bind fun bt315 => (some (bt315.1, bt315.2.1, bt315.2.2.1, bt315.2.2.2)))) = some (r1, r2, r3, r4) := H
 have A3 := Aside0.mk A30
 clear A30
 replace H := Option.bind_eq_some_iff.mp H
 obtain ⟨⟨t311, t312, t313, t314⟩, A40, H⟩ := H
 replace H : ((impl_vector_plus.f a0_0 a0_1 a0_2 a0_3 t311 t312 t313 t314).bind fun bt315 => (some (bt315.1, bt315.2.1, bt315.2.2.1, bt315.2.2.2))) = some (r1, r2, r3, r4) := H
 have A4 := Aside0.mk A40
 clear A40
 replace H := Option.bind_eq_some_iff.mp H
 obtain ⟨⟨t315, t316, t317, t318⟩, A50, H⟩ := H
 replace H : (some (t315, t316, t317, t318)) = some (r1, r2, r3, r4) := H
 have A5 := Aside0.mk A50
 clear A50
 simp only [Option.some.injEq, Prod.mk.injEq] at H
 obtain ⟨rfl, rfl, rfl, rfl⟩ := H
 go_enter Try.func82, Try.ntmps82
 try go_wp2_with (first | ((with_reducible refine gate_dst (N := 2) rfl ?_); refine box_event ?hg (N := 2) ?hd (cs := #[.int .i64 a0_0, .int .i64 a0_1, .int .i64 a0_2, .int .i64 a0_3]) (t := 59) ?hr ?_; (case hd => rfl); (case hg => rfl); (case hr => first | (go_simp; done) | (go_simp; rfl)); intro gb307 hg w6 hbox hb; have BK307 := Aside0.mk (hbox); have GW307 := Aside0.mk ((by rw [hg]; exact (below_size z10_1) : w.heap.size ≤ gb307)); have GE307 := Aside0.mk ((by rw [hg]; exact (below_size z10_1) : w.heap.size ≤ gb307)); replace HB := Aside0.mk (below_step z10_1 hb); clear hb hbox hg) | ((with_reducible refine gate_dst (N := 3) rfl ?_); refine box_event ?hg (N := 3) ?hd (cs := #[.int .i64 a1_0, .int .i64 a1_1, .int .i64 a1_2, .int .i64 a1_3]) (t := 59) ?hr ?_; (case hd => rfl); (case hg => rfl); (case hr => first | (go_simp; done) | (go_simp; rfl)); intro gb308 hg w7 hbox hb; have BK308 := Aside0.mk (hbox); have GW308 := Aside0.mk ((by rw [hg]; exact (below_size z10_8) : w.heap.size ≤ gb308)); have GE308 := Aside0.mk ((by rw [hg]; exact (below_size z10_8) : w.heap.size ≤ gb308)); replace HB := Aside0.mk (below_step z10_8 hb); have NB307_308 := Aside0.mk ((by rw [hg]; exact Nat.ne_of_lt (blk_lt (g := gb307) (o := .cells #[.int .i64 a0_0, .int .i64 a0_1, .int .i64 a0_2, .int .i64 a0_3] 59 (0, 0)) (zL10 BK307.out)) : gb307 ≠ gb308)); have NB308_307 := Aside0.mk ((by rw [hg]; exact Nat.ne_of_gt (blk_lt (g := gb307) (o := .cells #[.int .i64 a0_0, .int .i64 a0_1, .int .i64 a0_2, .int .i64 a0_3] 59 (0, 0)) (zL10 BK307.out)) : gb308 ≠ gb307)); replace BK307 := Aside0.mk (blk_below (g := gb307) (o := .cells #[.int .i64 a0_0, .int .i64 a0_1, .int .i64 a0_2, .int .i64 a0_3] 59 (0, 0)) (zL10 BK307.out) hb); clear hb hbox hg) | ((with_reducible refine gate_dst (N := 4) rfl ?_); refine box_event ?hg (N := 4) ?hd (cs := #[.int .i64 0, .int .i64 0, .int .i64 0, .int .i64 0]) (t := 59) ?hr ?_; (case hd => rfl); (case hg => rfl); (case hr => first | (go_simp; done) | (go_simp; rfl)); intro gb309 hg w8 hbox hb; have BK309 := Aside0.mk (hbox); have GW309 := Aside0.mk ((by rw [hg]; exact (below_size z10_7) : w.heap.size ≤ gb309)); have GE309 := Aside0.mk ((by rw [hg]; exact (below_size z10_7) : w.heap.size ≤ gb309)); replace HB := Aside0.mk (below_step z10_7 hb); have aa := Aside0.mk ((by rw [hg]; exact Nat.ne_of_lt (blk_lt (g := gb307) (o := .cells #[.int .i64 a0_0, .int .i64 a0_1, .int .i64 a0_2, .int .i64 a0_3] 59 (0, 0)) (zL10 BK307.out)) : gb307 ≠ gb309)); have ac := Aside0.mk ((by rw [hg]; exact Nat.ne_of_gt (blk_lt (g := gb307) (o := .cells #[.int .i64 a0_0, .int .i64 a0_1, .int .i64 a0_2, .int .i64 a0_3] 59 (0, 0)) (zL10 BK307.out)) : gb309 ≠ gb307)); replace BK307 := Aside0.mk (blk_below (g := gb307) (o := .cells #[.int .i64 a0_0, .int .i64 a0_1, .int .i64 a0_2, .int .i64 a0_3] 59 (0, 0)) (zL10 BK307.out) hb); have ab := Aside0.mk ((by rw [hg]; exact Nat.ne_of_lt (blk_lt (g := gb308) (o := .cells #[.int .i64 a1_0, .int .i64 a1_1, .int .i64 a1_2, .int .i64 a1_3] 59 (0, 0)) (zL10 BK308.out)) : gb308 ≠ gb309)); have ad := Aside0.mk ((by rw [hg]; exact Nat.ne_of_gt (blk_lt (g := gb308) (o := .cells #[.int .i64 a1_0, .int .i64 a1_1, .int .i64 a1_2, .int .i64 a1_3] 59 (0, 0)) (zL10 BK308.out)) : gb309 ≠ gb308)); replace BK308 := Aside0.mk (blk_below (g := gb308) (o := .cells #[.int .i64 a1_0, .int .i64 a1_1, .int .i64 a1_2, .int .i64 a1_3] 59 (0, 0)) (zL10 BK308.out) hb); clear hb hbox hg))
 replace BK307 := Aside0.mk (blk_drew BK307.out)
 replace BK308 := Aside0.mk (blk_drew BK308.out)
 replace BK309 := Aside0.mk (blk_drew BK309.out)
 replace HB := Aside0.mk (below_drew1 HB.out)
 refine start_ (n := 6) (S := fun w' => w'.cell? ⟨gb307, 0, none⟩ = some (.int .i64 a0_0) ∧ w'.cell? ⟨gb307, 1, none⟩ = some (.int .i64 a0_1) ∧ w'.cell? ⟨gb307, 2, none⟩ = some (.int .i64 a0_2) ∧ w'.cell? ⟨gb307, 3, none⟩ = some (.int .i64 a0_3) ∧ w'.cell? ⟨gb308, 0, none⟩ = some (.int .i64 a1_0) ∧ w'.cell? ⟨gb308, 1, none⟩ = some (.int .i64 a1_1) ∧ w'.cell? ⟨gb308, 2, none⟩ = some (.int .i64 a1_2) ∧ w'.cell? ⟨gb308, 3, none⟩ = some (.int .i64 a1_3)) (ds := []) #[false, false, false, false, false, false] (by kernel_rfl) rfl rfl ⟨(blk_cell BK307.out 0).trans rfl, (blk_cell BK307.out 1).trans rfl, (blk_cell BK307.out 2).trans rfl, (blk_cell BK307.out 3).trans rfl, (blk_cell BK308.out 0).trans rfl, (blk_cell BK308.out 1).trans rfl, (blk_cell BK308.out 2).trans rfl, (blk_cell BK308.out 3).trans rfl⟩ (fun hHeld => ?_)
 generalize w8.drew = w9 at BK307 BK308 BK309 HB hHeld ⊢
 refine take_ (i := 0) (N := some 5) (v := ?_) (a' := ?_) #[true, false, false, false, false, false] rfl rfl (by kernel_rfl) (fun _ _ _ h => h) (Or.inl ⟨by rfl, ?_⟩) hHeld ?_ ?_
 rotate_left
 ·rintro w' ⟨s0, s1, s2, s3, s4, s5, s6, s7⟩
  go_simp
  with_reducible rfl
 rotate_left
 ·simp only [Act.put, List.setIfInBounds_toArray, List.set_cons_zero, List.set_cons_succ, i64_w, i32_w]
  rfl
 refine take_ (i := 1) (N := some 6) (v := ?_) (a' := ?_) #[true, true, false, false, false, false] rfl rfl (by kernel_rfl) (fun _ _ _ h => h) (Or.inl ⟨by rfl, ?_⟩) hHeld ?_ ?_
 rotate_left
 ·rintro w' ⟨s0, s1, s2, s3, s4, s5, s6, s7⟩
  go_simp
  with_reducible rfl
 rotate_left
 ·simp only [Act.put, List.setIfInBounds_toArray, List.set_cons_zero, List.set_cons_succ, i64_w, i32_w]
  rfl
 refine one_ (i := 2) (N := some 7) #[true, true, true, false, false, false] rfl rfl (by kernel_rfl) (by decide) (fun K hK => ?_)
 refine goes_ Try.func81 (by kernel_rfl) rfl #[.int .i64 (-1)] (by rfl) rfl rfl z10_2 ?_
 with_reducible refine (impl_elementOf.calls (-1) t310 _ A3.out).mono ?_
 rintro e w' ⟨rfl, ⟨nd, rfl⟩⟩
 refine ⟨_, rfl, ?_⟩
 refine hK.out _ _ ⟨(blk_cell BK307.out 0).trans rfl, (blk_cell BK307.out 1).trans rfl, (blk_cell BK307.out 2).trans rfl, (blk_cell BK307.out 3).trans rfl, (blk_cell BK308.out 0).trans rfl, (blk_cell BK308.out 1).trans rfl, (blk_cell BK308.out 2).trans rfl, (blk_cell BK308.out 3).trans rfl⟩ (fun hHeld => ?_)
 clear hK K
 refine nZ ?_
 refine one_ (i := 3) (N := some 8) #[true, true, true, true, false, false] rfl rfl (by kernel_rfl) (by decide) (fun K hK => ?_)
 refine goes_ Try.func74 (by kernel_rfl) rfl #[.agg #[.int .i64 a1_0, .int .i64 a1_1, .int .i64 a1_2, .int .i64 a1_3], .int .i64 t310] (by rfl) rfl rfl z10_2 ?_
 with_reducible refine (impl_vector_times.calls a1_0 a1_1 a1_2 a1_3 t310 t311 t312 t313 t314 _ A4.out).mono ?_
 rintro e w10 ⟨rfl, hb⟩
 refine ⟨_, rfl, ?_⟩
 replace BK307 := Aside0.mk (blk_below (g := gb307) (o := .cells #[.int .i64 a0_0, .int .i64 a0_1, .int .i64 a0_2, .int .i64 a0_3] 59 (0, 0)) (zL10 BK307.out) hb)
 replace BK308 := Aside0.mk (blk_below (g := gb308) (o := .cells #[.int .i64 a1_0, .int .i64 a1_1, .int .i64 a1_2, .int .i64 a1_3] 59 (0, 0)) (zL10 BK308.out) hb)
 replace BK309 := Aside0.mk (blk_below (g := gb309) (o := .cells #[.int .i64 0, .int .i64 0, .int .i64 0, .int .i64 0] 59 (0, 0)) (zL10 BK309.out) hb)
 replace HB := Aside0.mk (below_step z10_6 hb)
 (try clear hb)
 (try clear hb2)
 (try clear hk)
 (try clear hi)
 refine hK.out _ _ ⟨(blk_cell BK307.out 0).trans rfl, (blk_cell BK307.out 1).trans rfl, (blk_cell BK307.out 2).trans rfl, (blk_cell BK307.out 3).trans rfl, (blk_cell BK308.out 0).trans rfl, (blk_cell BK308.out 1).trans rfl, (blk_cell BK308.out 2).trans rfl, (blk_cell BK308.out 3).trans rfl⟩ (fun hHeld => ?_)
 clear hK K
 refine nZ ?_
 refine one_ (i := 4) (N := some 9) #[true, true, true, true, true, false] rfl rfl (by kernel_rfl) (by decide) (fun K hK => ?_)
 refine goes_ Try.func87 (by kernel_rfl) rfl #[.agg #[.int .i64 a0_0, .int .i64 a0_1, .int .i64 a0_2, .int .i64 a0_3], .agg #[.int .i64 t311, .int .i64 t312, .int .i64 t313, .int .i64 t314]] (by rfl) rfl rfl z10_2 ?_
 with_reducible refine (impl_vector_plus.calls a0_0 a0_1 a0_2 a0_3 t311 t312 t313 t314 t315 t316 t317 t318 _ A5.out).mono ?_
 rintro e w11 ⟨rfl, hb⟩
 refine ⟨_, rfl, ?_⟩
 replace BK307 := Aside0.mk (blk_below (g := gb307) (o := .cells #[.int .i64 a0_0, .int .i64 a0_1, .int .i64 a0_2, .int .i64 a0_3] 59 (0, 0)) (zL10 BK307.out) hb)
 replace BK308 := Aside0.mk (blk_below (g := gb308) (o := .cells #[.int .i64 a1_0, .int .i64 a1_1, .int .i64 a1_2, .int .i64 a1_3] 59 (0, 0)) (zL10 BK308.out) hb)
 replace BK309 := Aside0.mk (blk_below (g := gb309) (o := .cells #[.int .i64 0, .int .i64 0, .int .i64 0, .int .i64 0] 59 (0, 0)) (zL10 BK309.out) hb)
 replace HB := Aside0.mk (below_step z10_6 hb)
 (try clear hb)
 (try clear hb2)
 (try clear hk)
 (try clear hi)
 refine hK.out _ _ ⟨(blk_cell BK307.out 0).trans rfl, (blk_cell BK307.out 1).trans rfl, (blk_cell BK307.out 2).trans rfl, (blk_cell BK307.out 3).trans rfl, (blk_cell BK308.out 0).trans rfl, (blk_cell BK308.out 1).trans rfl, (blk_cell BK308.out 2).trans rfl, (blk_cell BK308.out 3).trans rfl⟩ (fun hHeld => ?_)
 clear hK K
 refine nZ ?_
 refine one_ (i := 5) (N := none) #[true, true, true, true, true, true] rfl rfl (by kernel_rfl) (by decide) (fun K hK => ?_)
 have hs12 : w11.cell? ⟨gb309, 0, none⟩ = some (.int .i64 0) := (blk_cell BK309.out 0).trans rfl
 have hfs12 := blk_frozen BK309.out 0
 have hns12_0 := aa.out
 have hns12_1 := ab.out
 have hms12_0 := ac.out
 have hms12_1 := ad.out
 have hs13 : w11.cell? ⟨gb309, 1, none⟩ = some (.int .i64 0) := (blk_cell BK309.out 1).trans rfl
 have hfs13 := blk_frozen BK309.out 1
 have hns13_0 := aa.out
 have hns13_1 := ab.out
 have hms13_0 := ac.out
 have hms13_1 := ad.out
 have hs14 : w11.cell? ⟨gb309, 2, none⟩ = some (.int .i64 0) := (blk_cell BK309.out 2).trans rfl
 have hfs14 := blk_frozen BK309.out 2
 have hns14_0 := aa.out
 have hns14_1 := ab.out
 have hms14_0 := ac.out
 have hms14_1 := ad.out
 have hs15 : w11.cell? ⟨gb309, 3, none⟩ = some (.int .i64 0) := (blk_cell BK309.out 3).trans rfl
 have hfs15 := blk_frozen BK309.out 3
 have hns15_0 := aa.out
 have hns15_1 := ab.out
 have hms15_0 := ac.out
 have hms15_1 := ad.out
 refine skip_ (w1 := ?_) (by rfl) rfl ?_ ?_
 rotate_left
 ·go_simp
  rfl
 refine hK.out _ _ ⟨((cell_far (p := ⟨gb309, _, none⟩) aa.out _).trans (((cell_far (p := ⟨gb309, _, none⟩) aa.out _).trans (((cell_far (p := ⟨gb309, _, none⟩) aa.out _).trans (((cell_far (p := ⟨gb309, _, none⟩) aa.out _).trans (hHeld.1)))))))), ((cell_far (p := ⟨gb309, _, none⟩) aa.out _).trans (((cell_far (p := ⟨gb309, _, none⟩) aa.out _).trans (((cell_far (p := ⟨gb309, _, none⟩) aa.out _).trans (((cell_far (p := ⟨gb309, _, none⟩) aa.out _).trans (hHeld.2.1)))))))), ((cell_far (p := ⟨gb309, _, none⟩) aa.out _).trans (((cell_far (p := ⟨gb309, _, none⟩) aa.out _).trans (((cell_far (p := ⟨gb309, _, none⟩) aa.out _).trans (((cell_far (p := ⟨gb309, _, none⟩) aa.out _).trans (hHeld.2.2.1)))))))), ((cell_far (p := ⟨gb309, _, none⟩) aa.out _).trans (((cell_far (p := ⟨gb309, _, none⟩) aa.out _).trans (((cell_far (p := ⟨gb309, _, none⟩) aa.out _).trans (((cell_far (p := ⟨gb309, _, none⟩) aa.out _).trans (hHeld.2.2.2.1)))))))), ((cell_far (p := ⟨gb309, _, none⟩) ab.out _).trans (((cell_far (p := ⟨gb309, _, none⟩) ab.out _).trans (((cell_far (p := ⟨gb309, _, none⟩) ab.out _).trans (((cell_far (p := ⟨gb309, _, none⟩) ab.out _).trans (hHeld.2.2.2.2.1)))))))), ((cell_far (p := ⟨gb309, _, none⟩) ab.out _).trans (((cell_far (p := ⟨gb309, _, none⟩) ab.out _).trans (((cell_far (p := ⟨gb309, _, none⟩) ab.out _).trans (((cell_far (p := ⟨gb309, _, none⟩) ab.out _).trans (hHeld.2.2.2.2.2.1)))))))), ((cell_far (p := ⟨gb309, _, none⟩) ab.out _).trans (((cell_far (p := ⟨gb309, _, none⟩) ab.out _).trans (((cell_far (p := ⟨gb309, _, none⟩) ab.out _).trans (((cell_far (p := ⟨gb309, _, none⟩) ab.out _).trans (hHeld.2.2.2.2.2.2.1)))))))), ((cell_far (p := ⟨gb309, _, none⟩) ab.out _).trans (((cell_far (p := ⟨gb309, _, none⟩) ab.out _).trans (((cell_far (p := ⟨gb309, _, none⟩) ab.out _).trans (((cell_far (p := ⟨gb309, _, none⟩) ab.out _).trans (hHeld.2.2.2.2.2.2.2))))))))⟩ (fun hHeld => ?_)
 clear hK K
 refine done_ (by kernel_rfl) ?_
 try go_wp2
 refine bodyPost_ret (results_cell_row rfl _ _ gb309 59 #[.int .i64 t315, .int .i64 t316, .int .i64 t317, .int .i64 t318] (0, 0) _ rfl (bZ BK309.out) Try.underlying59 rfl (by kernel_rfl)) rfl ?_
 exact ⟨z10_10, z10_6⟩

/-! ### impl_element_minus: function 90 -/
def impl_element_minus.f (a0 : Int) (a1 : Int) : Option (Int) := (impl_elementOf.f (wrap64 (a0 - a1))).bind fun t319 => (some t319)
set_option maxHeartbeats 8000000 in
set_option maxRecDepth 100000 in
theorem impl_element_minus.calls (a0 : Int) (a1 : Int) (r : Int) (w : World) (h : impl_element_minus.f a0 a1 = some r) :
  Calls Try.prog 90 #[.int .i64 a0, .int .i64 a1] w fun e w' => e = .returned (.int .i64 r) ∧ Drawn0 w w' := by
 have H : ((impl_elementOf.f (wrap64 (a0 - a1))).bind fun t319 => (some t319)) = some r := h
 clear h
 replace H := Option.bind_eq_some_iff.mp H
 obtain ⟨t319, A30, H⟩ := H
 replace H : (some t319) = some r := H
 have A3 := Aside0.mk A30
 clear A30
 obtain rfl := Option.some.inj H
 go_enter Try.func90, Try.ntmps90
 go_wp2_with (first | ((with_reducible refine gate_callee (f := 81) rfl ?_); refine goesL_ (some 8) rfl rfl Try.func81 (by kernel_rfl) rfl #[.int .i64 (wrap64 (a0 - a1))] rfl z10_2 ?_; (with_reducible refine (impl_elementOf.calls (wrap64 (a0 - a1)) t319 _ A3.out).mono ?_); rintro e w' ⟨rfl, ⟨nd, rfl⟩⟩; refine ⟨_, rfl, ?_⟩))
 go_ret
 exact ⟨z10_11, z10_12⟩

end Go.Proofs.Ytbhmgbeebhmfkaa.PA
