-- Written by a program of this session (after the manner of the kit's print, several laws in one text).
import Derived.Test.YtbhmgbeebhmfkaaPAx0
import Derived.Test.YtbhmgbeebhmfkaaPAx8
import Derived.Test.YtbhmgbeebhmfkaaGw
import Derived.Test.YtbhmgbeebhmfkaaGm
import Derived.Test.YtbhmgbeebhmfkaaHt
namespace Go.Proofs.Ytbhmgbeebhmfkaa.PA
open Go.RowKit Go.Proofs.YtbhmgbeebhmfkaaW.PrintWords Go.Proofs.YtbhmgbeebhmfkaaW.PrintLast Go.Proofs.YtbhmgbeebhmfkaaW.PrintMore
attribute [local go_sem] max2_int min2_int max_two min_two max_three min_three max_four min_four   -- for this text's walks alone
set_option linter.unusedVariables false
set_option linter.unusedSimpArgs false

-- BREAK
-- GIVEN: function 51 (spec_l3Has)

/-! ### spec_l3First: function 52 -/
theorem z11_0 {p : Prop} (h : p := by repeat (first | (with_reducible first | exact HB.out | apply below_alloc | apply pw_below_drewN | apply below_drew1) | exact HB.out)) : p := h
theorem z11_1 {p : Prop} (h : p := by (try simp only [List.map_toArray, List.map_cons, List.map_nil]); first | done | rfl | (simp only [List.length_drop, List.length_take]; rfl)) : p := h
theorem z11_2 {p : Prop} (h : p := by (with_reducible repeat (first | apply Kd.R_alloc | apply Kd.R_drewN | apply Kd.R_drew)); exact HO_3.out) : p := h
theorem z11_3 {p : Prop} (h : p := by first | (with_reducible assumption) | assumption) : p := h
theorem z11_4 {p : Prop} (h : p := by first | rfl | (simp [errW_none, errW_some] <;> rfl) | (simp [*, errW_none, errW_some] <;> rfl)) : p := h
def spec_l3First.l0 : Nat → List (List Int) → List Int → Int → Option (List Int)
  | 0, _, _, _ => none
  | k + 1, x0, x3, x4 => if x4 < (x0.length : Int) then (if 0 ≤ x4 then (if x4 ≤ (x0.length : Int) then ((spec_l3Has.f (x0.take (x4 : Int).toNat) (rd_L1 x0 x4)).bind fun t359 => (if t359 = true then (spec_l3First.l0 k x0 x3 (wrap64 (x4 + 1))) else (if x3.length < 17592186044416 then (spec_l3First.l0 k x0 (x3 ++ [x4]) (wrap64 (x4 + 1))) else (none)))) else (none)) else (none)) else (some x3)
def spec_l3First.f (k : Nat) (l0 : List (List Int)) : Option (List Int) := spec_l3First.l0 k l0 (([] : List Int)) 0
def spec_l3First.T5 : Bool × List (List Nat × List Nat) := (true, [([], []), ([], []), ([0, 1], [0, 1]), ([], []), ([], []), ([3, 4], [3, 4]), ([5], [5]), ([2, 6], [2, 6]), ([7], [7])])
def spec_l3First.B5 : List Nat := [0, 0, 3, 0, 0, 24, 56, 127, 255]
theorem spec_l3First.tab5 : rtab .any (opsOf Try.f52 5) = spec_l3First.T5 := by kernel_rfl
theorem spec_l3First.bits5 : waitsOk spec_l3First.T5.2 spec_l3First.B5 = true := by kernel_rfl
set_option maxHeartbeats 8000000 in
set_option maxRecDepth 100000 in
theorem spec_l3First.calls (k : Nat) (A0 : Option Addr) (c0 : Nat) (l0 : List (List Int)) (r : List Int) (w : World) (hr0 : Kd.C (Kd.slice 3 (Kd.int .i64)) w A0 l0.length l0) (hc0 : l0.length ≤ c0) (h : spec_l3First.f k l0 = some r) :
  Calls Try.prog 52 #[.slice A0 l0.length c0] w fun e w' => ∃ v0_ : Value, e = .returned (v0_) ∧ Kd.R (Kd.int .i64) 3 w' w.heap.size (fun _ => True) v0_ r ∧ Below w.heap.size w w' := by
 have HR0 := Aside0.mk hr0
 have HC0 := Aside0.mk hc0
 clear hr0 hc0
 have HB := Aside0.mk (Below.refl w.heap.size w)
 have H : (spec_l3First.l0 k l0 (([] : List Int)) 0) = some r := h
 clear h
 obtain ⟨y351, hy351⟩ : ∃ y_ : List Int, y_ = (([] : List Int)) := ⟨_, rfl⟩
 replace H : (spec_l3First.l0 k l0 y351 0) = some r := by first | (rw [hy351]; with_reducible exact H) | (have H2_ := (Option.bind_some _ _).symm.trans H; rw [hy351]; with_reducible exact H2_) | (have H2_ := (Option.bind_some _ _).symm.trans H; with_reducible exact H2_) | with_reducible exact H | (rw [hy351]; exact H) | exact H
 have Ny351 := Aside0.mk hy351
 clear hy351
 have H' := Aside0.mk H
 clear H
 go_enter Try.func52, Try.ntmps52
 go_wp2_with (first | ((with_reducible refine gate_dst (N := 5) rfl ?_); refine Kd.R_lit (Kd.int .i64) _ 3 ?hg (N := 5) ?hd (xs := ([] : List Int)) (inner := []) (ok := fun _ => True) (okp := fun _ => True) ?hr ?hp (fun _ hk => hk) trivial (Below.refl _ _) (Nat.le_refl _) (by simp) ?_; (case hd => rfl); (case hg => rfl); (case hr => first | (go_simp; done) | (go_simp; rfl)); (case hp => exact (Reps.none _ _)); intro v352 w2 ho3 hb hg_ hnew_; clear hg_ hnew_; (first | rw [← Ny351.out] at ho3 | (simp only [Int.reduceToNat] at ho3; rw [← Ny351.out] at ho3)); have HO353 := Aside0.mk (Kd.R_lower ho3 (below_size z11_0)); replace HB := Aside0.mk (below_step z11_0 hb); clear hb ho3))
 go_loopg [3, 4] k (fun kq v3 v4 w' => ∃ (x3_1 : List Int) (x4_1 : Int), v4 = .int .i64 x4_1 ∧ Aside0 (spec_l3First.l0 kq l0 x3_1 x4_1 = some r) ∧ Aside0 (kq ≤ k) ∧ Aside0 (Kd.R (Kd.int .i64) 3 w' w.heap.size (fun _ => True) v3 x3_1) ∧ Aside0 (Below w.heap.size w w'))
 case atStart => exact ⟨(y351), (0), (by first | rfl | (simp; done) | (simp [*]; done)), H', ⟨Nat.le_refl _⟩, ⟨by (with_reducible repeat (first | apply Kd.R_alloc | apply Kd.R_drewN | apply Kd.R_drew)); exact HO353.out⟩, ⟨z11_0⟩⟩
 case round =>
  clear H'
  obtain ⟨x3_1, x4_1, rfl, HA, HK1, HO_3, HB⟩ := hrel
  cases gk with
  | zero => exact absurd HA.out (by simp [spec_l3First.l0])
  | succ k1 =>
   have H := HA.out
   clear HA
   simp only [spec_l3First.l0] at H
   by_cases c4 : x4_1 < (l0.length : Int)
   ·rw [if_pos c4] at H
    have c4b0 : decide (x4_1 < (l0.length : Int)) = true := decide_eq_true c4
    clear c4
    obtain ⟨c5, H⟩ := ifP H
    have c5b0 := eq_true c5
    have c5b1 : decide (0 ≤ x4_1) = true := decide_eq_true c5
    clear c5
    obtain ⟨c6, H⟩ := ifP H
    have c6b0 := eq_true c6
    have c6b1 : decide (x4_1 ≤ (l0.length : Int)) = true := decide_eq_true c6
    clear c6
    obtain ⟨y354, hy354⟩ : ∃ y_ : List (List Int), y_ = (l0.take (x4_1 : Int).toNat) := ⟨_, rfl⟩
    replace H : ((spec_l3Has.f y354 (rd_L1 l0 x4_1)).bind fun t359 => (if t359 = true then (spec_l3First.l0 k1 l0 x3_1 (wrap64 (x4_1 + 1))) else (if x3_1.length < 17592186044416 then (spec_l3First.l0 k1 l0 (x3_1 ++ [x4_1]) (wrap64 (x4_1 + 1))) else (none)))) = some r := by first | (rw [hy354]; with_reducible exact H) | (have H2_ := (Option.bind_some _ _).symm.trans H; rw [hy354]; with_reducible exact H2_) | (have H2_ := (Option.bind_some _ _).symm.trans H; with_reducible exact H2_) | with_reducible exact H | (rw [hy354]; exact H) | exact H
    have Ny354 := Aside0.mk hy354
    clear hy354
    replace H := Option.bind_eq_some_iff.mp H
    obtain ⟨t359, A70, H⟩ := H
    replace H : (if t359 = true then (spec_l3First.l0 k1 l0 x3_1 (wrap64 (x4_1 + 1))) else (if x3_1.length < 17592186044416 then (spec_l3First.l0 k1 l0 (x3_1 ++ [x4_1]) (wrap64 (x4_1 + 1))) else (none))) = some r := H
    have A7 := Aside0.mk A70
    clear A70
    by_cases c8 : t359 = true
    ·subst c8
     have H1 : (spec_l3First.l0 k1 l0 x3_1 (wrap64 (x4_1 + 1))) = some r := by rw [if_pos rfl] at H; exact H
     clear H
     have H := H1
     clear H1
     have H' := Aside0.mk H
     clear H
     try go_wp2
     replace HO_3 := Aside0.mk (Kd.R_drew HO_3.out)
     replace HB := Aside0.mk (below_drew1 HB.out)
     have q10 : (x4_1 : Int) ≤ ((l0.length : Int) : Int) := of_decide_eq_true z11_3
     obtain ⟨i010, hi010, _, hsz10, _⟩ := info_parts info28
     have hroom10 : l0.length ≤ c0 := HC0.out
     have hC10 : Kd.C (Kd.slice 3 (Kd.int .i64)) _ A0 l0.length l0 := HR0.out
     have hcut10 := cut_to (P := Try.prog) 22 28 .i64 Try.underlying22 hi010 A0 l0.length c0 x4_1 (of_decide_eq_true z11_3) q10 hroom10
     have hr10 := Kd.C_take (m := (x4_1 : Int).toNat) hC10 (by omega)
     have hy10 : y354.length = (x4_1 : Int).toNat := (by rw [Ny354.out, List.length_take]; omega)
     rw [← Ny354.out] at hr10
     rw [← hy10] at hcut10
     have HR357 := Aside0.mk hr10
     have HC357 := Aside0.mk (show y354.length ≤ c0 from by omega)
     clear hr10 hC10 hroom10 hi010 hsz10
     have KY10 := Aside0.mk hy10
     clear hy10
     replace q10 := eq_true q10
     have p358 : 0 ≤ (x4_1 : Int) := of_decide_eq_true z11_3
     have q358 : x4_1 < (l0.length : Int) := of_decide_eq_true z11_3
     obtain ⟨ad358, A358_0, c358_0, e358, hx358_0, hl358_0, hi358_0⟩ := at_L1 HR0.out x4_1 p358 q358
     have hw358_0 := hx358_0
     cases e358
     replace hx358_0 := (HB.out.cell (World.block_lt_of_cell? w _ hx358_0)).trans hx358_0
     have HR358_0 := Aside0.mk hi358_0
     have HC358_0 := Aside0.mk hl358_0
     clear hi358_0 hl358_0
     replace p358 := eq_true p358
     replace q358 := eq_true q358
     refine start_ (n := 9) (S := fun w' => w'.cell? (ad358.add (x4_1).toNat) = some (.slice A358_0 (rd_L1 l0 x4_1).length c358_0)) (ds := []) #[false, false, false, false, false, false, false, false, false] (by kernel_rfl) rfl rfl (((HB.out.cell (World.block_lt_of_cell? w _ hw358_0)).trans hw358_0)) (fun hHeld => ?_); refine with_tabW spec_l3First.tab5 spec_l3First.bits5 (fun HT_ HW_ => ?_)
     generalize wr.drew = w9 at HO_3 HB HR357 HR358_0 hx358_0 hHeld ⊢
     refine pZ 0 HT_ ?_
     refine pZ 1 HT_ ?_
     refine pZ 2 HT_ ?_
     refine pZ 3 HT_ ?_
     refine pZ 4 HT_ ?_
     refine pZ 5 HT_ ?_
     refine take_ (i := 6) (N := some 18) (v := ?_) (a' := ?_) #[true, true, true, true, true, true, true, false, false] rfl rfl (take_ofW HT_.out HW_.out (by kernel_rfl)) (fun _ _ _ h => h) (Or.inl ⟨by rfl, ?_⟩) hHeld ?_ ?_
     rotate_left
     ·intro w' s0
      go_simp
      with_reducible rfl
     rotate_left
     ·simp only [Act.put, List.setIfInBounds_toArray, List.set_cons_zero, List.set_cons_succ, i64_w, i32_w]
      rfl
     refine oZ 7 HT_ (fun K hK => ?_)
     refine goes_ Try.func51 (by kernel_rfl) rfl #[.slice (some ad358) y354.length c0, .slice A358_0 (rd_L1 l0 x4_1).length c358_0] (by rfl) rfl rfl z11_1 ?_
     with_reducible refine (spec_l3Has.calls _ _ y354 _ _ (rd_L1 l0 x4_1) true _ ?side1 ?side2 ?side3 ?side4 A7.out).mono ?_
     (case side1 => exact cZ ((Kd.C_below HR357.out HB.out)))
     (case side2 => exact HC357.out)
     (case side3 => exact cZ ((Kd.C_below HR358_0.out HB.out)))
     (case side4 => exact HC358_0.out)
     rintro e w11 ⟨rfl, hb⟩
     refine ⟨_, rfl, ?_⟩
     replace HO_3 := Aside0.mk (Kd.R_below z11_2 hb)
     replace HB := Aside0.mk (below_step z11_0 hb)
     (try clear hb)
     (try clear hb2)
     (try clear hk)
     (try clear hi)
     refine hK.out _ _ (((HB.out.cell (World.block_lt_of_cell? w _ hw358_0)).trans hw358_0)) (fun hHeld => ?_)
     clear hK K
     refine nZ ?_
     refine pZ 8 HT_ ?_
     refine done_ (done_of HT_.out (by kernel_rfl)) ?_
     try go_wp2
     go_roundg k1
     case measure => have := HK1.out; omega
     case rel => exact ⟨(x3_1), (wrap64 (x4_1 + 1)), (by first | rfl | (simp; done) | (simp [*]; done)), H', ⟨by have := HK1.out; omega⟩, ⟨z11_2⟩, ⟨z11_0⟩⟩
    ·replace c8 := Bool.eq_false_iff.mpr c8
     subst c8
     have H1 : (if x3_1.length < 17592186044416 then (spec_l3First.l0 k1 l0 (x3_1 ++ [x4_1]) (wrap64 (x4_1 + 1))) else (none)) = some r := by rw [if_neg (show ¬ (false = true) by decide)] at H; exact H
     clear H
     have H := H1
     clear H1
     obtain ⟨c12, H⟩ := ifP H
     have LMc12 := Aside0.mk c12
     clear c12
     obtain ⟨y360, hy360⟩ : ∃ y_ : List Int, y_ = (x3_1 ++ [x4_1]) := ⟨_, rfl⟩
     replace H : (spec_l3First.l0 k1 l0 y360 (wrap64 (x4_1 + 1))) = some r := by first | (rw [hy360]; with_reducible exact H) | (have H2_ := (Option.bind_some _ _).symm.trans H; rw [hy360]; with_reducible exact H2_) | (have H2_ := (Option.bind_some _ _).symm.trans H; with_reducible exact H2_) | with_reducible exact H | (rw [hy360]; exact H) | exact H
     have Ny360 := Aside0.mk hy360
     clear hy360
     have H' := Aside0.mk H
     clear H
     try go_wp2
     replace HO_3 := Aside0.mk (Kd.R_drew HO_3.out)
     replace HB := Aside0.mk (below_drew1 HB.out)
     have q14 : (x4_1 : Int) ≤ ((l0.length : Int) : Int) := of_decide_eq_true z11_3
     obtain ⟨i014, hi014, _, hsz14, _⟩ := info_parts info28
     have hroom14 : l0.length ≤ c0 := HC0.out
     have hC14 : Kd.C (Kd.slice 3 (Kd.int .i64)) _ A0 l0.length l0 := HR0.out
     have hcut14 := cut_to (P := Try.prog) 22 28 .i64 Try.underlying22 hi014 A0 l0.length c0 x4_1 (of_decide_eq_true z11_3) q14 hroom14
     have hr14 := Kd.C_take (m := (x4_1 : Int).toNat) hC14 (by omega)
     have hy14 : y354.length = (x4_1 : Int).toNat := (by rw [Ny354.out, List.length_take]; omega)
     rw [← Ny354.out] at hr14
     rw [← hy14] at hcut14
     have HR357 := Aside0.mk hr14
     have HC357 := Aside0.mk (show y354.length ≤ c0 from by omega)
     clear hr14 hC14 hroom14 hi014 hsz14
     have KY14 := Aside0.mk hy14
     clear hy14
     replace q14 := eq_true q14
     have p358 : 0 ≤ (x4_1 : Int) := of_decide_eq_true z11_3
     have q358 : x4_1 < (l0.length : Int) := of_decide_eq_true z11_3
     obtain ⟨ad358, A358_0, c358_0, e358, hx358_0, hl358_0, hi358_0⟩ := at_L1 HR0.out x4_1 p358 q358
     have hw358_0 := hx358_0
     cases e358
     replace hx358_0 := (HB.out.cell (World.block_lt_of_cell? w _ hx358_0)).trans hx358_0
     have HR358_0 := Aside0.mk hi358_0
     have HC358_0 := Aside0.mk hl358_0
     clear hi358_0 hl358_0
     replace p358 := eq_true p358
     replace q358 := eq_true q358
     refine start_ (n := 9) (S := fun w' => w'.cell? (ad358.add (x4_1).toNat) = some (.slice A358_0 (rd_L1 l0 x4_1).length c358_0)) (ds := []) #[false, false, false, false, false, false, false, false, false] (by kernel_rfl) rfl rfl (((HB.out.cell (World.block_lt_of_cell? w _ hw358_0)).trans hw358_0)) (fun hHeld => ?_); refine with_tabW spec_l3First.tab5 spec_l3First.bits5 (fun HT_ HW_ => ?_)
     generalize wr.drew = w13 at HO_3 HB HR357 HR358_0 hx358_0 hHeld ⊢
     refine pZ 0 HT_ ?_
     refine pZ 1 HT_ ?_
     refine pZ 2 HT_ ?_
     refine pZ 3 HT_ ?_
     refine pZ 4 HT_ ?_
     refine pZ 5 HT_ ?_
     refine take_ (i := 6) (N := some 18) (v := ?_) (a' := ?_) #[true, true, true, true, true, true, true, false, false] rfl rfl (take_ofW HT_.out HW_.out (by kernel_rfl)) (fun _ _ _ h => h) (Or.inl ⟨by rfl, ?_⟩) hHeld ?_ ?_
     rotate_left
     ·intro w' s0
      go_simp
      with_reducible rfl
     rotate_left
     ·simp only [Act.put, List.setIfInBounds_toArray, List.set_cons_zero, List.set_cons_succ, i64_w, i32_w]
      rfl
     refine oZ 7 HT_ (fun K hK => ?_)
     refine goes_ Try.func51 (by kernel_rfl) rfl #[.slice (some ad358) y354.length c0, .slice A358_0 (rd_L1 l0 x4_1).length c358_0] (by rfl) rfl rfl z11_1 ?_
     with_reducible refine (spec_l3Has.calls _ _ y354 _ _ (rd_L1 l0 x4_1) false _ ?side1 ?side2 ?side3 ?side4 A7.out).mono ?_
     (case side1 => exact cZ ((Kd.C_below HR357.out HB.out)))
     (case side2 => exact HC357.out)
     (case side3 => exact cZ ((Kd.C_below HR358_0.out HB.out)))
     (case side4 => exact HC358_0.out)
     rintro e w15 ⟨rfl, hb⟩
     refine ⟨_, rfl, ?_⟩
     replace HO_3 := Aside0.mk (Kd.R_below z11_2 hb)
     replace HB := Aside0.mk (below_step z11_0 hb)
     (try clear hb)
     (try clear hb2)
     (try clear hk)
     (try clear hi)
     refine hK.out _ _ (((HB.out.cell (World.block_lt_of_cell? w _ hw358_0)).trans hw358_0)) (fun hHeld => ?_)
     clear hK K
     refine nZ ?_
     refine pZ 8 HT_ ?_
     refine done_ (done_of HT_.out (by kernel_rfl)) ?_
     try go_wp2_with (first | ((with_reducible refine gate_builtin (b := .append) (xs := #[.tmp 21, .tmp 23]) rfl ?_); at_builtin; refine Kd.R_append (Kd.int .i64) (w0 := w) w.heap.size rfl (.tmp 21) (.tmp 23) 28 3 (.int .i64 0) 8 rfl Try.underlying28 info3 rfl (by decide) (by omega) u3 x3_1 x4_1 [.int .i64 x4_1] (fun _ => True) (fun _ => False) rfl rfl ?aP (fun _ hk => hk.elim) ?aF ?aO ?aB ?aS ?aL ?_; (case aP => exact rfl); (case aB => exact z11_0); (case aF => exact (fun _ _ => trivial)); (case aO => exact z11_2); (case aS => exact (below_size z11_0)); (case aL => have := LMc12.out; omega); intro v361 w16 ho hb hg hat; rw [← Ny360.out] at ho; have n0_ := Aside0.mk (hb); have n1_ := Aside0.mk (ho); clear HB; clear HO_3; have HB := n0_; have HO362 := n1_; clear n0_ n1_; clear ho hb hg hat))
     go_roundg k1
     case measure => have := HK1.out; omega
     case rel => exact ⟨(y360), (wrap64 (x4_1 + 1)), (by first | rfl | (simp; done) | (simp [*]; done)), H', ⟨by have := HK1.out; omega⟩, ⟨by (with_reducible repeat (first | apply Kd.R_alloc | apply Kd.R_drewN | apply Kd.R_drew)); exact HO362.out⟩, ⟨z11_0⟩⟩
   ·rw [if_neg c4] at H
    have c4b0 : decide (x4_1 < (l0.length : Int)) = false := decide_eq_false c4
    clear c4
    obtain rfl := Option.some.inj H
    go_wp2
    go_ret
    exact ⟨_, z11_4, z11_2, z11_0⟩

/-! ### spec_SpanFirst: function 24 -/
def spec_SpanFirst.f (k : Nat) (l0 : List (List Int)) : Option (List Int) := (spec_SpanOk.f k l0).bind fun t363 => (if t363 = true then ((spec_l3First.f k l0).bind fun t364 => (some t364)) else (some (([] : List Int))))
set_option maxHeartbeats 8000000 in
set_option maxRecDepth 100000 in
theorem spec_SpanFirst.calls (k : Nat) (A0 : Option Addr) (c0 : Nat) (l0 : List (List Int)) (r : List Int) (w : World) (hr0 : Kd.C (Kd.slice 3 (Kd.int .i64)) w A0 l0.length l0) (hc0 : l0.length ≤ c0) (h : spec_SpanFirst.f k l0 = some r) :
  Calls Try.prog 24 #[.slice A0 l0.length c0] w fun e w' => ∃ v0_ : Value, e = .returned (v0_) ∧ Kd.R (Kd.int .i64) 3 w' w.heap.size (fun _ => True) v0_ r ∧ Below w.heap.size w w' := by
 have HR0 := Aside0.mk hr0
 have HC0 := Aside0.mk hc0
 clear hr0 hc0
 have HB := Aside0.mk (Below.refl w.heap.size w)
 have H : ((spec_SpanOk.f k l0).bind fun t363 => (if t363 = true then ((spec_l3First.f k l0).bind fun t364 => (some t364)) else (some (([] : List Int))))) = some r := h
 clear h
 replace H := Option.bind_eq_some_iff.mp H
 obtain ⟨t363, A20, H⟩ := H
 replace H : (if t363 = true then ((spec_l3First.f k l0).bind fun t364 => (some t364)) else (some (([] : List Int)))) = some r := H
 have A2 := Aside0.mk A20
 clear A20
 by_cases c3 : t363 = true
 ·subst c3
  have H1 : ((spec_l3First.f k l0).bind fun t364 => (some t364)) = some r := by rw [if_pos rfl] at H; exact H
  clear H
  have H := H1
  clear H1
  replace H := Option.bind_eq_some_iff.mp H
  obtain ⟨t364, A40, H⟩ := H
  replace H : (some t364) = some r := H
  have A4 := Aside0.mk A40
  clear A40
  obtain rfl := Option.some.inj H
  go_enter Try.func24, Try.ntmps24
  go_wp2_with (first | ((with_reducible refine gate_callee (f := 38) rfl ?_); refine goesL_ (some 4) rfl rfl Try.func38 (by kernel_rfl) rfl #[.slice A0 l0.length c0] rfl z11_1 ?_; (with_reducible refine (spec_SpanOk.calls k _ _ l0 true _ ?side1 ?side2 A2.out).mono ?_); (case side1 => exact cZ (HR0.out)); (case side2 => exact HC0.out); rintro e w' ⟨rfl, ⟨nd, rfl⟩⟩; refine ⟨_, rfl, ?_⟩) | ((with_reducible refine gate_callee (f := 52) rfl ?_); refine goesL_ (some 8) rfl rfl Try.func52 (by kernel_rfl) rfl #[.slice A0 l0.length c0] rfl z11_1 ?_; (with_reducible refine (spec_l3First.calls k _ _ l0 t364 _ ?side1 ?side2 A4.out).mono ?_); (case side1 => exact cZ (HR0.out)); (case side2 => exact HC0.out); rintro e w5 ⟨v365, rfl, ho0, hb⟩; refine ⟨_, rfl, ?_⟩; have HO366 := Aside0.mk (Kd.R_lower ho0 (below_size z11_0)); replace HB := Aside0.mk (below_step z11_0 hb); (try clear hb); (try clear ho0)))
  go_ret
  exact ⟨_, z11_4, by (with_reducible repeat (first | apply Kd.R_alloc | apply Kd.R_drewN | apply Kd.R_drew)); exact HO366.out, z11_0⟩
 ·replace c3 := Bool.eq_false_iff.mpr c3
  subst c3
  have H1 : (some (([] : List Int))) = some r := by rw [if_neg (show ¬ (false = true) by decide)] at H; exact H
  clear H
  have H := H1
  clear H1
  obtain ⟨y367, hy367⟩ : ∃ y_ : List Int, y_ = (([] : List Int)) := ⟨_, rfl⟩
  replace H : (some y367) = some r := by first | (rw [hy367]; with_reducible exact H) | (have H2_ := (Option.bind_some _ _).symm.trans H; rw [hy367]; with_reducible exact H2_) | (have H2_ := (Option.bind_some _ _).symm.trans H; with_reducible exact H2_) | with_reducible exact H | (rw [hy367]; exact H) | exact H
  have Ny367 := Aside0.mk hy367
  clear hy367
  obtain rfl := Option.some.inj H
  go_enter Try.func24, Try.ntmps24
  go_wp2_with (first | ((with_reducible refine gate_callee (f := 38) rfl ?_); refine goesL_ (some 4) rfl rfl Try.func38 (by kernel_rfl) rfl #[.slice A0 l0.length c0] rfl z11_1 ?_; (with_reducible refine (spec_SpanOk.calls k _ _ l0 false _ ?side1 ?side2 A2.out).mono ?_); (case side1 => exact cZ (HR0.out)); (case side2 => exact HC0.out); rintro e w' ⟨rfl, ⟨nd, rfl⟩⟩; refine ⟨_, rfl, ?_⟩) | ((with_reducible refine gate_dst (N := 6) rfl ?_); refine Kd.R_lit (Kd.int .i64) _ 3 ?hg (N := 6) ?hd (xs := ([] : List Int)) (inner := []) (ok := fun _ => True) (okp := fun _ => True) ?hr ?hp (fun _ hk => hk) trivial (Below.refl _ _) (Nat.le_refl _) (by simp) ?_; (case hd => rfl); (case hg => rfl); (case hr => first | (go_simp; done) | (go_simp; rfl)); (case hp => exact (Reps.none _ _)); intro v368 w6 ho7 hb hg_ hnew_; clear hg_ hnew_; (first | rw [← Ny367.out] at ho7 | (simp only [Int.reduceToNat] at ho7; rw [← Ny367.out] at ho7)); have HO369 := Aside0.mk (Kd.R_lower ho7 (below_size z11_0)); replace HB := Aside0.mk (below_step z11_0 hb); clear hb ho7))
  go_ret
  exact ⟨_, z11_4, by (with_reducible repeat (first | apply Kd.R_alloc | apply Kd.R_drewN | apply Kd.R_drew)); exact HO369.out, z11_0⟩

-- NOT PRINTED: function 53 (slices_Clip_int_int)

end Go.Proofs.Ytbhmgbeebhmfkaa.PA
