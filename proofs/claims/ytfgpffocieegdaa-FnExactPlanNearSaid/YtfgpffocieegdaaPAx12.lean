import Derived.Test.YtfgpffocieegdaaPAx0
import Derived.Test.YtfgpffocieegdaaGw
import Derived.Test.YtfgpffocieegdaaGm
import Derived.Test.YtfgpffocieegdaaGc
import Derived.Test.YtfgpffocieegdaaHt
namespace Go.Proofs.Ytfgpffocieegdaa.PA
open Go.RowKit Go.Proofs.YtfgpffocieegdaaW.PrintWords Go.Proofs.YtfgpffocieegdaaW.PrintLast Go.Proofs.YtfgpffocieegdaaW.PrintMore
attribute [local go_sem] max2_int min2_int max_two min_two max_three min_three max_four min_four   -- for this text's walks alone
set_option linter.unusedVariables false
set_option linter.unusedSimpArgs false

-- BREAK
-- GIVEN: function 65 (spec_l3Has)

/-! ### spec_l3First: function 59 -/
theorem z12_0 {p : Prop} (h : p := by repeat (first | (with_reducible first | exact HB.out | apply below_alloc | apply pw_below_drewN | apply below_drew1) | exact HB.out)) : p := h
theorem z12_1 {p : Prop} (h : p := by (with_reducible repeat (first | apply Kd.R_alloc | apply Kd.R_drewN | apply Kd.R_drew)); exact HO_3.out) : p := h
theorem z12_2 {p : Prop} (h : p := by first | (with_reducible assumption) | assumption) : p := h
theorem z12_3 {p : Prop} (h : p := by (try simp only [List.map_toArray, List.map_cons, List.map_nil]); first | done | rfl | (simp only [List.length_drop, List.length_take]; rfl)) : p := h
def spec_l3First.l0 : Nat → List (List Int) → List Int → Int → Option (List Int)
  | 0, _, _, _ => none
  | k + 1, x0, x3, x4 => if x4 < (x0.length : Int) then (if 0 ≤ x4 then (if x4 ≤ (x0.length : Int) then ((spec_l3Has.f (x0.take (x4 : Int).toNat) (rd_L4 x0 x4)).bind fun t374 => (if t374 = true then (spec_l3First.l0 k x0 x3 (wrap64 (x4 + 1))) else (if x3.length < 17592186044416 then (spec_l3First.l0 k x0 (x3 ++ [x4]) (wrap64 (x4 + 1))) else (none)))) else (none)) else (none)) else (some x3)
def spec_l3First.f (k : Nat) (l0 : List (List Int)) : Option (List Int) := spec_l3First.l0 k l0 (([] : List Int)) 0
def spec_l3First.T5 : Bool × List (List Nat × List Nat) := (true, [([], []), ([], []), ([0, 1], [0, 1]), ([], []), ([], []), ([3, 4], [3, 4]), ([5], [5]), ([2, 6], [2, 6]), ([7], [7])])
def spec_l3First.B5 : List Nat := [0, 0, 3, 0, 0, 24, 56, 127, 255]
theorem spec_l3First.tab5 : rtab .any (opsOf Try.f59 5) = spec_l3First.T5 := by kernel_rfl
theorem spec_l3First.bits5 : waitsOk spec_l3First.T5.2 spec_l3First.B5 = true := by kernel_rfl
set_option maxHeartbeats 8000000 in
set_option maxRecDepth 100000 in
theorem spec_l3First.calls (k : Nat) (A0 : Option Addr) (c0 : Nat) (l0 : List (List Int)) (r : List Int) (w : World) (hr0 : Kd.C (Kd.slice 3 (Kd.int .i64)) w A0 l0.length l0) (hc0 : l0.length ≤ c0) (h : spec_l3First.f k l0 = some r) :
  Calls Try.prog 59 #[.slice A0 l0.length c0] w fun e w' => ∃ v0_ : Value, e = .returned (v0_) ∧ Kd.R (Kd.int .i64) 3 w' w.heap.size (fun _ => True) v0_ r ∧ Below w.heap.size w w' := by
 have HR0 := Aside0.mk hr0
 have HC0 := Aside0.mk hc0
 clear hr0 hc0
 have HB := Aside0.mk (Below.refl w.heap.size w)
 try unfold spec_l3First.f at h
 have H := h
 clear h
 obtain ⟨y366, hy366⟩ : ∃ y_ : List Int, y_ = (([] : List Int)) := ⟨_, rfl⟩
 replace H : (spec_l3First.l0 k l0 y366 0) = some r := yZZ_ hy366 H
 have Ny366 := Aside0.mk hy366
 clear hy366
 have H' := Aside0.mk H
 clear H
 go_enter Try.func59, Try.ntmps59
 go_wp2_with (first | ((with_reducible refine gate_dst (N := 5) rfl ?_); refine Kd.R_lit (Kd.int .i64) _ 3 ?hg (N := 5) ?hd (xs := ([] : List Int)) (inner := []) (ok := fun _ => True) (okp := fun _ => True) ?hr ?hp (fun _ hk => hk) trivial (Below.refl _ _) (Nat.le_refl _) (by simp) ?_; (case hd => rfl); (case hg => rfl); (case hr => first | (go_simp; done) | (go_simp; rfl)); (case hp => exact (Reps.none _ _)); intro v367 w2 ho3 hb hg_ hnew_; clear hg_ hnew_; (first | rw [← Ny366.out] at ho3 | (simp only [Int.reduceToNat] at ho3; rw [← Ny366.out] at ho3)); have HO368 := Aside0.mk (Kd.R_lower ho3 (below_size z12_0)); replace HB := Aside0.mk (below_step z12_0 hb); clear hb ho3))
 go_loopg [3, 4] k (fun kq v3 v4 w' => ∃ (x3_1 : List Int) (x4_1 : Int), v4 = .int .i64 x4_1 ∧ Aside0 (spec_l3First.l0 kq l0 x3_1 x4_1 = some r) ∧ Aside0 (kq ≤ k) ∧ Aside0 (Kd.R (Kd.int .i64) 3 w' w.heap.size (fun _ => True) v3 x3_1) ∧ Aside0 (Below w.heap.size w w'))
 case atStart => exact ⟨(y366), (0), (by first | rfl | (simp; done) | (simp [*]; done)), H', ⟨Nat.le_refl _⟩, ⟨by (with_reducible repeat (first | apply Kd.R_alloc | apply Kd.R_drewN | apply Kd.R_drew)); exact HO368.out⟩, ⟨z12_0⟩⟩
 case round =>
  clear H'; obtain ⟨x3_1, x4_1, rfl, HA, HK1, HO_3, HB⟩ := hrel
  cases gk with
  | zero => exact absurd HA.out (by simp [spec_l3First.l0])
  | succ k1 =>
   have H := HA.out
   clear HA; simp only [spec_l3First.l0] at H
   by_cases c4 : x4_1 < (l0.length : Int)
   ·rw [if_pos c4] at H
    have c4b0 : decide (x4_1 < (l0.length : Int)) = true := decide_eq_true c4; clear c4; obtain ⟨c5, H⟩ := ifP H
    have c5b0 := eq_true c5
    have c5b1 : decide (0 ≤ x4_1) = true := decide_eq_true c5; clear c5; obtain ⟨c6, H⟩ := ifP H
    have c6b0 := eq_true c6
    have c6b1 : decide (x4_1 ≤ (l0.length : Int)) = true := decide_eq_true c6; clear c6
    obtain ⟨y369, hy369⟩ : ∃ y_ : List (List Int), y_ = (l0.take (x4_1 : Int).toNat) := ⟨_, rfl⟩
    replace H : ((spec_l3Has.f y369 (rd_L4 l0 x4_1)).bind fun t374 => (if t374 = true then (spec_l3First.l0 k1 l0 x3_1 (wrap64 (x4_1 + 1))) else (if x3_1.length < 17592186044416 then (spec_l3First.l0 k1 l0 (x3_1 ++ [x4_1]) (wrap64 (x4_1 + 1))) else (none)))) = some r := yZZ_ hy369 H
    have Ny369 := Aside0.mk hy369
    clear hy369
    replace H := Option.bind_eq_some_iff.mp H
    obtain ⟨t374, A70, H⟩ := H
    have A7 := Aside0.mk A70
    clear A70
    by_cases c8 : t374 = true
    ·subst c8
     rw [if_pos rfl] at H
     have H' := Aside0.mk H
     clear H
     try go_wp2
     replace HO_3 := Aside0.mk (Kd.R_drew HO_3.out)
     replace HB := Aside0.mk (below_drew1 HB.out)
     have q10 : (x4_1 : Int) ≤ ((l0.length : Int) : Int) := of_decide_eq_true z12_2
     obtain ⟨i010, hi010, _, hsz10, _⟩ := info_parts info28; have hroom10 : l0.length ≤ c0 := HC0.out; have hC10 : Kd.C (Kd.slice 3 (Kd.int .i64)) _ A0 l0.length l0 := HR0.out
     have hcut10 := cut_to (P := Try.prog) 85 28 .i64 Try.underlying85 hi010 A0 l0.length c0 x4_1 (of_decide_eq_true z12_2) q10 hroom10
     have hr10 := Kd.C_take (m := (x4_1 : Int).toNat) hC10 (by omega)
     have hy10 : y369.length = (x4_1 : Int).toNat := (by rw [Ny369.out, List.length_take]; omega); rw [← Ny369.out] at hr10; rw [← hy10] at hcut10
     have HR372 := Aside0.mk hr10
     have HC372 := Aside0.mk (show y369.length ≤ c0 from by omega)
     clear hr10 hC10 hroom10 hi010 hsz10
     have KY10 := Aside0.mk hy10
     clear hy10
     replace q10 := eq_true q10
     have p373 : 0 ≤ (x4_1 : Int) := of_decide_eq_true z12_2; have q373 : x4_1 < (l0.length : Int) := of_decide_eq_true z12_2; obtain ⟨ad373, A373_0, c373_0, e373, hx373_0, hl373_0, hi373_0⟩ := at_L4 HR0.out x4_1 p373 q373
     have hw373_0 := hx373_0
     cases e373
     replace hx373_0 := (HB.out.cell (World.block_lt_of_cell? w _ hx373_0)).trans hx373_0
     have HR373_0 := Aside0.mk hi373_0
     have HC373_0 := Aside0.mk hl373_0
     clear hi373_0 hl373_0
     replace p373 := eq_true p373
     replace q373 := eq_true q373
     refine start_ (n := 9) (S := fun w' => w'.cell? (ad373.add (x4_1).toNat) = some (.slice A373_0 (rd_L4 l0 x4_1).length c373_0)) (ds := []) #[false, false, false, false, false, false, false, false, false] (by kernel_rfl) rfl rfl (((HB.out.cell (World.block_lt_of_cell? w _ hw373_0)).trans hw373_0)) (fun hHeld => ?_); refine with_tabW spec_l3First.tab5 spec_l3First.bits5 (fun HT_ HW_ => ?_); generalize wr.drew = w9 at HO_3 HB HR372 HR373_0 hx373_0 hHeld ⊢; refine pZ 0 HT_ ?_; refine pZ 1 HT_ ?_; refine pZ 2 HT_ ?_; refine pZ 3 HT_ ?_; refine pZ 4 HT_ ?_; refine pZ 5 HT_ ?_; refine take_ (i := 6) (N := some 18) (v := ?_) (a' := ?_) #[true, true, true, true, true, true, true, false, false] rfl rfl (take_ofW HT_.out HW_.out (by kernel_rfl)) (fun _ _ _ h => h) (Or.inl ⟨by rfl, ?_⟩) hHeld ?_ ?_; rotate_left
     ·intro w' s0
      go_simp
      with_reducible rfl
     rotate_left
     ·simp only [Act.put, List.setIfInBounds_toArray, List.set_cons_zero, List.set_cons_succ, i64_w, i32_w]
      rfl
     refine oZ 7 HT_ (fun K hK => ?_); refine goes_ Try.func65 (by kernel_rfl) rfl #[.slice (some ad373) y369.length c0, .slice A373_0 (rd_L4 l0 x4_1).length c373_0] (by rfl) rfl rfl z12_3 ?_
     with_reducible refine (spec_l3Has.calls _ _ y369 _ _ (rd_L4 l0 x4_1) true _ ?side1 ?side2 ?side3 ?side4 A7.out).mono ?_
     (case side1 => exact cZ ((Kd.C_below HR372.out HB.out))); (case side2 => exact HC372.out); (case side3 => exact cZ ((Kd.C_below HR373_0.out HB.out))); (case side4 => exact HC373_0.out)
     rintro e w11 ⟨rfl, hb⟩
     refine ⟨_, rfl, ?_⟩
     replace HO_3 := Aside0.mk (Kd.R_below z12_1 hb)
     replace HB := Aside0.mk (below_step z12_0 hb)
     (try clear hb); (try clear hb2); (try clear hk); (try clear hi); refine hK.out _ _ (((HB.out.cell (World.block_lt_of_cell? w _ hw373_0)).trans hw373_0)) (fun hHeld => ?_); clear hK K; refine nZ ?_; refine pZ 8 HT_ ?_; refine done_ (done_of HT_.out (by kernel_rfl)) ?_
     try go_wp2
     go_roundg k1
     case measure => have := HK1.out; omega
     case rel => exact ⟨(x3_1), (wrap64 (x4_1 + 1)), (by first | rfl | (simp; done) | (simp [*]; done)), H', ⟨by have := HK1.out; omega⟩, ⟨z12_1⟩, ⟨z12_0⟩⟩
    ·replace c8 := Bool.eq_false_iff.mpr c8
     subst c8; rw [if_neg (show ¬ (false = true) by decide)] at H; obtain ⟨c12, H⟩ := ifP H
     have LMc12 := Aside0.mk c12
     clear c12
     obtain ⟨y375, hy375⟩ : ∃ y_ : List Int, y_ = (x3_1 ++ [x4_1]) := ⟨_, rfl⟩
     replace H : (spec_l3First.l0 k1 l0 y375 (wrap64 (x4_1 + 1))) = some r := yZZ_ hy375 H
     have Ny375 := Aside0.mk hy375
     clear hy375
     have H' := Aside0.mk H
     clear H
     try go_wp2
     replace HO_3 := Aside0.mk (Kd.R_drew HO_3.out)
     replace HB := Aside0.mk (below_drew1 HB.out)
     have q14 : (x4_1 : Int) ≤ ((l0.length : Int) : Int) := of_decide_eq_true z12_2
     obtain ⟨i014, hi014, _, hsz14, _⟩ := info_parts info28; have hroom14 : l0.length ≤ c0 := HC0.out; have hC14 : Kd.C (Kd.slice 3 (Kd.int .i64)) _ A0 l0.length l0 := HR0.out
     have hcut14 := cut_to (P := Try.prog) 85 28 .i64 Try.underlying85 hi014 A0 l0.length c0 x4_1 (of_decide_eq_true z12_2) q14 hroom14
     have hr14 := Kd.C_take (m := (x4_1 : Int).toNat) hC14 (by omega)
     have hy14 : y369.length = (x4_1 : Int).toNat := (by rw [Ny369.out, List.length_take]; omega); rw [← Ny369.out] at hr14; rw [← hy14] at hcut14
     have HR372 := Aside0.mk hr14
     have HC372 := Aside0.mk (show y369.length ≤ c0 from by omega)
     clear hr14 hC14 hroom14 hi014 hsz14
     have KY14 := Aside0.mk hy14
     clear hy14
     replace q14 := eq_true q14
     have p373 : 0 ≤ (x4_1 : Int) := of_decide_eq_true z12_2; have q373 : x4_1 < (l0.length : Int) := of_decide_eq_true z12_2; obtain ⟨ad373, A373_0, c373_0, e373, hx373_0, hl373_0, hi373_0⟩ := at_L4 HR0.out x4_1 p373 q373
     have hw373_0 := hx373_0
     cases e373
     replace hx373_0 := (HB.out.cell (World.block_lt_of_cell? w _ hx373_0)).trans hx373_0
     have HR373_0 := Aside0.mk hi373_0
     have HC373_0 := Aside0.mk hl373_0
     clear hi373_0 hl373_0
     replace p373 := eq_true p373
     replace q373 := eq_true q373
     refine start_ (n := 9) (S := fun w' => w'.cell? (ad373.add (x4_1).toNat) = some (.slice A373_0 (rd_L4 l0 x4_1).length c373_0)) (ds := []) #[false, false, false, false, false, false, false, false, false] (by kernel_rfl) rfl rfl (((HB.out.cell (World.block_lt_of_cell? w _ hw373_0)).trans hw373_0)) (fun hHeld => ?_); refine with_tabW spec_l3First.tab5 spec_l3First.bits5 (fun HT_ HW_ => ?_); generalize wr.drew = w13 at HO_3 HB HR372 HR373_0 hx373_0 hHeld ⊢; refine pZ 0 HT_ ?_; refine pZ 1 HT_ ?_; refine pZ 2 HT_ ?_; refine pZ 3 HT_ ?_; refine pZ 4 HT_ ?_; refine pZ 5 HT_ ?_; refine take_ (i := 6) (N := some 18) (v := ?_) (a' := ?_) #[true, true, true, true, true, true, true, false, false] rfl rfl (take_ofW HT_.out HW_.out (by kernel_rfl)) (fun _ _ _ h => h) (Or.inl ⟨by rfl, ?_⟩) hHeld ?_ ?_; rotate_left
     ·intro w' s0
      go_simp
      with_reducible rfl
     rotate_left
     ·simp only [Act.put, List.setIfInBounds_toArray, List.set_cons_zero, List.set_cons_succ, i64_w, i32_w]
      rfl
     refine oZ 7 HT_ (fun K hK => ?_); refine goes_ Try.func65 (by kernel_rfl) rfl #[.slice (some ad373) y369.length c0, .slice A373_0 (rd_L4 l0 x4_1).length c373_0] (by rfl) rfl rfl z12_3 ?_
     with_reducible refine (spec_l3Has.calls _ _ y369 _ _ (rd_L4 l0 x4_1) false _ ?side1 ?side2 ?side3 ?side4 A7.out).mono ?_
     (case side1 => exact cZ ((Kd.C_below HR372.out HB.out))); (case side2 => exact HC372.out); (case side3 => exact cZ ((Kd.C_below HR373_0.out HB.out))); (case side4 => exact HC373_0.out)
     rintro e w15 ⟨rfl, hb⟩
     refine ⟨_, rfl, ?_⟩
     replace HO_3 := Aside0.mk (Kd.R_below z12_1 hb)
     replace HB := Aside0.mk (below_step z12_0 hb)
     (try clear hb); (try clear hb2); (try clear hk); (try clear hi); refine hK.out _ _ (((HB.out.cell (World.block_lt_of_cell? w _ hw373_0)).trans hw373_0)) (fun hHeld => ?_); clear hK K; refine nZ ?_; refine pZ 8 HT_ ?_; refine done_ (done_of HT_.out (by kernel_rfl)) ?_
     try go_wp2_with (first | ((with_reducible refine gate_builtin (b := .append) (xs := #[.tmp 21, .tmp 23]) rfl ?_); at_builtin; refine Kd.R_append (Kd.int .i64) (w0 := w) w.heap.size rfl (.tmp 21) (.tmp 23) 28 3 (.int .i64 0) 8 rfl Try.underlying28 info3 rfl (by decide) (by omega) u3 x3_1 x4_1 [.int .i64 x4_1] (fun _ => True) (fun _ => False) rfl rfl ?aP (fun _ hk => hk.elim) ?aF ?aO ?aB ?aS ?aL ?_; (case aP => exact rfl); (case aB => exact z12_0); (case aF => exact (fun _ _ => trivial)); (case aO => exact z12_1); (case aS => exact (below_size z12_0)); (case aL => have := LMc12.out; omega); intro v376 w16 ho hb hg hat; rw [← Ny375.out] at ho; have n0_ := Aside0.mk (hb); have n1_ := Aside0.mk (ho); clear HB; clear HO_3; have HB := n0_; have HO377 := n1_; clear n0_ n1_; clear ho hb hg hat))
     go_roundg k1
     case measure => have := HK1.out; omega
     case rel => exact ⟨(y375), (wrap64 (x4_1 + 1)), (by first | rfl | (simp; done) | (simp [*]; done)), H', ⟨by have := HK1.out; omega⟩, ⟨by (with_reducible repeat (first | apply Kd.R_alloc | apply Kd.R_drewN | apply Kd.R_drew)); exact HO377.out⟩, ⟨z12_0⟩⟩
   ·rw [if_neg c4] at H
    have c4b0 : decide (x4_1 < (l0.length : Int)) = false := decide_eq_false c4; clear c4
    obtain rfl := Option.some.inj H
    go_wp2
    go_ret; exact ⟨_, by first | rfl | (simp [errW_none, errW_some] <;> rfl) | (simp [*, errW_none, errW_some] <;> rfl), z12_1, z12_0⟩

end Go.Proofs.Ytfgpffocieegdaa.PA
