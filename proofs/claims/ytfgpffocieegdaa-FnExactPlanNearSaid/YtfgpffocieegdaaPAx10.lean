import Derived.Test.YtfgpffocieegdaaPAx0
import Derived.Test.YtfgpffocieegdaaPAx9
import Derived.Test.YtfgpffocieegdaaGw
import Derived.Test.YtfgpffocieegdaaGm
import Derived.Test.YtfgpffocieegdaaGc
namespace Go.Proofs.Ytfgpffocieegdaa.PA
open Go.RowKit Go.Proofs.YtfgpffocieegdaaW.PrintWords Go.Proofs.YtfgpffocieegdaaW.PrintLast Go.Proofs.YtfgpffocieegdaaW.PrintMore
attribute [local go_sem] max2_int min2_int max_two min_two max_three min_three max_four min_four   -- for this text's walks alone
set_option linter.unusedVariables false
set_option linter.unusedSimpArgs false

/-! ### spec_l2Sum: function 71 -/
theorem z10_0 {p : Prop} (h : p := by repeat (first | (with_reducible first | exact HB.out | apply below_alloc | apply pw_below_drewN | apply below_drew1) | exact HB.out | (with_reducible exact Below.refl _ _))) : p := h
theorem z10_1 {p : Prop} (h : p := by repeat (first | (with_reducible first | exact HB.out | apply below_alloc | apply pw_below_drewN | apply below_drew1) | exact HB.out)) : p := h
theorem z10_2 {p : Prop} (h : p := by (try simp only [List.map_toArray, List.map_cons, List.map_nil]); first | done | rfl | (simp only [List.length_drop, List.length_take]; rfl)) : p := h
theorem z10_3 {p : Prop} (h : p := by first | exact ((HB.out.cell (World.block_lt_of_cell? w _ hw315_0)).trans hw315_0) | (have h_ := (HB.out.cell (World.block_lt_of_cell? w _ hw315_0)).trans hw315_0; simpa using h_) | simpa using hw315_0) : p := h
theorem z10_4 {p : Prop} (h : p := by first | exact ((HB.out.cell (World.block_lt_of_cell? w _ hw316_0)).trans hw316_0) | (have h_ := (HB.out.cell (World.block_lt_of_cell? w _ hw316_0)).trans hw316_0; simpa using h_) | simpa using hw316_0) : p := h
theorem z10_5 {p : Prop} (h : p := by first | (with_reducible assumption) | assumption) : p := h
theorem z10_6 {p : Prop} (h : p := by first | rfl | (simp; done) | (simp [*]; done)) : p := h
theorem z10_7 {p : Prop} (h : p := by repeat (first | exact Drawn0.refl _ | apply Drawn0.step)) : p := h
def spec_l2Sum.l0 : Nat → List Int → List Int → List Int → Int → Option (List Int)
  | 0, _, _, _, _ => none
  | k + 1, x0, x1, x5, x6 => if x6 < (x0.length : Int) then (if 0 ≤ x6 then (if x6 < (x1.length : Int) then (if x5.length < 17592186044416 then (spec_l2Sum.l0 k x0 x1 (x5 ++ [Int.tmod (wrap64 ((rd x0 x6) + (rd x1 x6))) 31]) (wrap64 (x6 + 1))) else (none)) else (none)) else (none)) else (some x5)
def spec_l2Sum.f (k : Nat) (l0 : List Int) (l1 : List Int) : Option (List Int) := spec_l2Sum.l0 k l0 l1 (([] : List Int)) 0
def spec_l2Sum.T5 : Bool × List (List Nat × List Nat) := (true, [([], []), ([], []), ([], []), ([1, 2], [1, 2]), ([3], [3]), ([], []), ([], []), ([5, 6], [5, 6]), ([7], [7]), ([4, 8], [4, 8]), ([9], [9]), ([10], [10]), ([0, 11], [0, 11]), ([12, 12, 0, 1, 2, 3, 4, 5, 6, 7, 8, 9, 10, 11, 12], [0, 12])])
def spec_l2Sum.B5 : List Nat := [0, 0, 0, 6, 14, 0, 0, 96, 224, 510, 1022, 2046, 4095, 8191]
theorem spec_l2Sum.tab5 : rtab .any (opsOf Try.f71 5) = spec_l2Sum.T5 := by kernel_rfl
theorem spec_l2Sum.bits5 : waitsOk spec_l2Sum.T5.2 spec_l2Sum.B5 = true := by kernel_rfl
set_option maxHeartbeats 8000000 in
set_option maxRecDepth 100000 in
theorem spec_l2Sum.calls (k : Nat) (A0 : Option Addr) (c0 : Nat) (l0 : List Int) (A1 : Option Addr) (c1 : Nat) (l1 : List Int) (r : List Int) (w : World) (hr0 : Kd.C (Kd.int .i64) w A0 l0.length l0) (hc0 : l0.length ≤ c0) (hr1 : Kd.C (Kd.int .i64) w A1 l1.length l1) (hc1 : l1.length ≤ c1) (h : spec_l2Sum.f k l0 l1 = some r) :
  Calls Try.prog 71 #[.slice A0 l0.length c0, .slice A1 l1.length c1] w fun e w' => ∃ v0_ : Value, e = .returned (v0_) ∧ Kd.R (Kd.int .i64) 3 w' w.heap.size (fun _ => True) v0_ r ∧ Below w.heap.size w w' := by
 have HR0 := Aside0.mk hr0
 have HC0 := Aside0.mk hc0
 clear hr0 hc0
 have HR1 := Aside0.mk hr1
 have HC1 := Aside0.mk hc1
 clear hr1 hc1
 have HB := Aside0.mk (Below.refl w.heap.size w)
 try unfold spec_l2Sum.f at h
 have H := h
 clear h
 obtain ⟨y306, hy306⟩ : ∃ y_ : List Int, y_ = (([] : List Int)) := ⟨_, rfl⟩
 replace H : (spec_l2Sum.l0 k l0 l1 y306 0) = some r := yZZ_ hy306 H
 have Ny306 := Aside0.mk hy306
 clear hy306
 have H' := Aside0.mk H
 clear H
 go_enter Try.func71, Try.ntmps71
 go_wp2_with (first | ((with_reducible refine gate_dst (N := 7) rfl ?_); refine Kd.R_lit (Kd.int .i64) _ 3 ?hg (N := 7) ?hd (xs := ([] : List Int)) (inner := []) (ok := fun _ => True) (okp := fun _ => True) ?hr ?hp (fun _ hk => hk) trivial (Below.refl _ _) (Nat.le_refl _) (by simp) ?_; (case hd => rfl); (case hg => rfl); (case hr => first | (go_simp; done) | (go_simp; rfl)); (case hp => exact (Reps.none _ _)); intro v307 w3 ho4 hb hg_ hnew_; clear hg_ hnew_; (first | rw [← Ny306.out] at ho4 | (simp only [Int.reduceToNat] at ho4; rw [← Ny306.out] at ho4)); have HO308 := Aside0.mk (Kd.R_lower ho4 (below_size z10_1)); replace HB := Aside0.mk (below_step z10_1 hb); clear hb ho4))
 go_loopg [5, 6] k (fun kq v5 v6 w' => ∃ (x5_1 : List Int) (x6_1 : Int), v6 = .int .i64 x6_1 ∧ Aside0 (spec_l2Sum.l0 kq l0 l1 x5_1 x6_1 = some r) ∧ Aside0 (kq ≤ k) ∧ Aside0 (Kd.R (Kd.int .i64) 3 w' w.heap.size (fun _ => True) v5 x5_1) ∧ Aside0 (Below w.heap.size w w'))
 case atStart => exact ⟨(y306), (0), z10_6, H', ⟨Nat.le_refl _⟩, ⟨by (with_reducible repeat (first | apply Kd.R_alloc | apply Kd.R_drewN | apply Kd.R_drew)); exact HO308.out⟩, ⟨z10_1⟩⟩
 case round =>
  clear H'
  try clear c1
  obtain ⟨x5_1, x6_1, rfl, HA, HK1, HO_5, HB⟩ := hrel
  cases gk with
  | zero => exact absurd HA.out (by simp [spec_l2Sum.l0])
  | succ k1 =>
   have H := HA.out
   clear HA; simp only [spec_l2Sum.l0] at H
   by_cases c5 : x6_1 < (l0.length : Int)
   ·rw [if_pos c5] at H
    have c5b0 : decide (x6_1 < (l0.length : Int)) = true := decide_eq_true c5; clear c5; obtain ⟨c6, H⟩ := ifP H; have c6b0 : decide (0 ≤ x6_1) = true := decide_eq_true c6; clear c6; obtain ⟨c7, H⟩ := ifP H; have c7b0 : decide (x6_1 < (l1.length : Int)) = true := decide_eq_true c7; clear c7; obtain ⟨c8, H⟩ := ifP H
    have LMc8 := Aside0.mk c8
    clear c8
    obtain ⟨y311, hy311⟩ : ∃ y_ : List Int, y_ = (x5_1 ++ [Int.tmod (wrap64 ((rd l0 x6_1) + (rd l1 x6_1))) 31]) := ⟨_, rfl⟩
    replace H : (spec_l2Sum.l0 k1 l0 l1 y311 (wrap64 (x6_1 + 1))) = some r := yZZ_ hy311 H
    have Ny311 := Aside0.mk hy311
    clear hy311
    have H' := Aside0.mk H
    clear H
    try go_wp2
    replace HO_5 := Aside0.mk (Kd.R_drew HO_5.out)
    replace HB := Aside0.mk (below_drew1 HB.out)
    have p309 : 0 ≤ (x6_1 : Int) := of_decide_eq_true z10_5; have q309 : x6_1 < (l0.length : Int) := of_decide_eq_true z10_5; obtain ⟨ad309, e309, hx309_0⟩ := Kd.at_int HR0.out x6_1 p309 q309
    have hw309_0 := hx309_0
    cases e309
    replace hx309_0 := (HB.out.cell (World.block_lt_of_cell? w _ hx309_0)).trans hx309_0
    replace p309 := eq_true p309
    replace q309 := eq_true q309
    have p310 : 0 ≤ (x6_1 : Int) := of_decide_eq_true z10_5; have q310 : x6_1 < (l1.length : Int) := of_decide_eq_true z10_5; obtain ⟨ad310, e310, hx310_0⟩ := Kd.at_int HR1.out x6_1 p310 q310
    have hw310_0 := hx310_0
    cases e310
    replace hx310_0 := (HB.out.cell (World.block_lt_of_cell? w _ hx310_0)).trans hx310_0
    replace p310 := eq_true p310
    replace q310 := eq_true q310
    refine start_ (n := 14) (S := fun w' => w'.cell? (ad309.add (x6_1).toNat) = some (.int .i64 (rd l0 x6_1)) ∧ w'.cell? (ad310.add (x6_1).toNat) = some (.int .i64 (rd l1 x6_1))) (ds := []) #[false, false, false, false, false, false, false, false, false, false, false, false, false, false] (by kernel_rfl) rfl rfl ⟨((HB.out.cell (World.block_lt_of_cell? w _ hw309_0)).trans hw309_0), ((HB.out.cell (World.block_lt_of_cell? w _ hw310_0)).trans hw310_0)⟩ (fun hHeld => ?_); refine with_tabW spec_l2Sum.tab5 spec_l2Sum.bits5 (fun HT_ HW_ => ?_); generalize wr.drew = w9 at HO_5 HB hx309_0 hx310_0 hHeld ⊢; refine pZ 0 HT_ ?_; refine pZ 1 HT_ ?_; refine pZ 2 HT_ ?_; refine pZ 3 HT_ ?_; refine pZ 5 HT_ ?_; refine pZ 6 HT_ ?_; refine pZ 7 HT_ ?_; refine tZ 4 hHeld HT_ HW_ ?_; refine tZ 8 hHeld HT_ HW_ ?_; refine pZ 9 HT_ ?_; refine pZ 10 HT_ ?_; refine oZ 11 HT_ (fun K hK => ?_); refine value_ (w1 := ?_) (v := ?_) (by rfl) rfl ?_ ?_; rotate_left 2
    ·go_simp
     constructor
     ·rfl
     ·rfl
    refine hK.out _ _ ⟨(World.cell?_alloc_lt _ _ _ (World.block_lt_of_cell? _ _ (((HB.out.cell (World.block_lt_of_cell? w _ hw309_0)).trans hw309_0)))).trans (((HB.out.cell (World.block_lt_of_cell? w _ hw309_0)).trans hw309_0)), (World.cell?_alloc_lt _ _ _ (World.block_lt_of_cell? _ _ (((HB.out.cell (World.block_lt_of_cell? w _ hw310_0)).trans hw310_0)))).trans (((HB.out.cell (World.block_lt_of_cell? w _ hw310_0)).trans hw310_0))⟩ (fun hHeld => ?_); clear hK K; refine nZ ?_; refine oZ 12 HT_ (fun K hK => ?_); refine Kd.R_append_step (Kd.int .i64) (w0 := w) w.heap.size (by rfl) (.tmp 14) (.tmp 25) 28 3 (.int .i64 0) 8 rfl Try.underlying28 info3 rfl (by decide) (by omega) u5 x5_1 (Int.tmod (wrap64 ((rd l0 x6_1) + (rd l1 x6_1))) 31) [.int .i64 (Int.tmod (wrap64 ((rd l0 x6_1) + (rd l1 x6_1))) 31)] (fun _ => True) (fun _ => False) rfl rfl ?aP (fun _ hk => hk.elim) ?aF ?aO ?aB ?aS ?aL ?_; (case aP => exact rfl); (case aB => exact z10_1); (case aF => exact (fun _ _ => trivial)); (case aO => exact (by (with_reducible repeat (first | apply Kd.R_alloc | apply Kd.R_drewN | apply Kd.R_drew)); exact HO_5.out)); (case aS => exact (below_size z10_1)); (case aL => have := LMc8.out; omega); intro v312 w10 ho hb hg hat; rw [← Ny311.out] at ho
    have n0_ := Aside0.mk (hb)
    have n1_ := Aside0.mk (ho)
    clear HB; clear HO_5
    have HB := n0_
    have HO313 := n1_
    clear n0_ n1_; clear ho hb hg hat; refine hK.out _ _ ⟨(by first | exact ((HB.out.cell (World.block_lt_of_cell? w _ hw309_0)).trans hw309_0) | (have h_ := (HB.out.cell (World.block_lt_of_cell? w _ hw309_0)).trans hw309_0; simpa using h_) | simpa using hw309_0), (by first | exact ((HB.out.cell (World.block_lt_of_cell? w _ hw310_0)).trans hw310_0) | (have h_ := (HB.out.cell (World.block_lt_of_cell? w _ hw310_0)).trans hw310_0; simpa using h_) | simpa using hw310_0)⟩ (fun hHeld => ?_); clear hK K; refine nZ ?_; refine pZ 13 HT_ ?_; refine done_ (done_of HT_.out (by kernel_rfl)) ?_
    try go_wp2
    go_roundg k1
    case measure => have := HK1.out; omega
    case rel => exact ⟨(y311), (wrap64 (x6_1 + 1)), z10_6, H', ⟨by have := HK1.out; omega⟩, ⟨by (with_reducible repeat (first | apply Kd.R_alloc | apply Kd.R_drewN | apply Kd.R_drew)); exact HO313.out⟩, ⟨z10_1⟩⟩
   ·rw [if_neg c5] at H
    have c5b0 : decide (x6_1 < (l0.length : Int)) = false := decide_eq_false c5; clear c5
    obtain rfl := Option.some.inj H
    go_wp2
    go_ret; exact ⟨_, by first | rfl | (simp [errW_none, errW_some] <;> rfl) | (simp [*, errW_none, errW_some] <;> rfl), by (with_reducible repeat (first | apply Kd.R_alloc | apply Kd.R_drewN | apply Kd.R_drew)); exact HO_5.out, z10_1⟩

/-! ### spec_l1Inv: function 72 -/
def spec_l1Inv.l0 : Nat → Int → Int → Option (Int)
  | 0, _, _ => none
  | k + 1, x0, x3 => if x3 < 31 then (if (Int.tmod (wrap64 (x0 * x3)) 31) = 1 then (some x3) else (spec_l1Inv.l0 k x0 (wrap64 (x3 + 1)))) else (some 0)
def spec_l1Inv.f (k : Nat) (a0 : Int) : Option (Int) := spec_l1Inv.l0 k a0 1
theorem spec_l1Inv.mono_l : ∀ k, (∀ y0 y1, LeO (spec_l1Inv.l0 k y0 y1) (spec_l1Inv.l0 (k + 1) y0 y1))
  | 0 => fun _ _ r h => by simp [spec_l1Inv.l0] at h
  | k + 1 => by
    have ih0 := spec_l1Inv.mono_l k
    · intro y0 y1
      unfold spec_l1Inv.l0
      repeat' first
      | (with_reducible exact ih0 _ _)
      | (with_reducible exact LeO.refl _)
      | (with_reducible exact LeO.none _)
      | (with_reducible refine LeO.ite ?_ ?_)
      | (with_reducible refine LeO.bind ?_ (fun _ => ?_))
      | exact ih0 _ _
      | exact LeO.none _
      | refine LeO.ite ?_ ?_
      | refine LeO.bind ?_ (fun _ => ?_)
theorem spec_l1Inv.mono : ∀ a0 k, LeO (spec_l1Inv.f k a0) (spec_l1Inv.f (k + 1) a0) := by
  intro a0 k
  have ih0 := spec_l1Inv.mono_l k
  unfold spec_l1Inv.f
  repeat' first
      | (with_reducible exact ih0 _ _)
      | (with_reducible exact LeO.refl _)
      | (with_reducible exact LeO.none _)
      | (with_reducible refine LeO.ite ?_ ?_)
      | (with_reducible refine LeO.bind ?_ (fun _ => ?_))
      | exact ih0 _ _
      | exact LeO.none _
      | refine LeO.ite ?_ ?_
      | refine LeO.bind ?_ (fun _ => ?_)
set_option maxHeartbeats 8000000 in
set_option maxRecDepth 100000 in
theorem spec_l1Inv.calls (k : Nat) (a0 : Int) (r : Int) (w : World) (h : spec_l1Inv.f k a0 = some r) :
  Calls Try.prog 72 #[.int .i64 a0] w fun e w' => e = .returned (.int .i64 r) ∧ Drawn0 w w' := by
 try unfold spec_l1Inv.f at h
 have H := h
 clear h
 have H' := Aside0.mk H
 clear H
 go_enter Try.func72, Try.ntmps72
 go_wp2
 go_loopg [3] k (fun kq v3 w' => ∃ (x3_1 : Int), v3 = .int .i64 x3_1 ∧ Aside0 (spec_l1Inv.l0 kq a0 x3_1 = some r) ∧ Aside0 (kq ≤ k) ∧ Drawn0 w w')
 case atStart => exact ⟨(1), z10_6, H', ⟨Nat.le_refl _⟩, z10_7⟩
 case round =>
  clear H'; obtain ⟨x3_1, rfl, HA, HK1, ⟨m1, rfl⟩⟩ := hrel
  cases gk with
  | zero => exact absurd HA.out (by simp [spec_l1Inv.l0])
  | succ k1 =>
   have H := HA.out
   clear HA; simp only [spec_l1Inv.l0] at H
   by_cases c2 : x3_1 < 31
   ·rw [if_pos c2] at H
    have c2b0 : decide (x3_1 < 31) = true := decide_eq_true c2; clear c2
    by_cases c3 : (Int.tmod (wrap64 (a0 * x3_1)) 31) = 1
    ·rw [if_pos c3] at H
     have c3b0 : ((Int.tmod (wrap64 (a0 * x3_1)) 31) == 1) = true := beq_iff_eq.mpr c3
     have c3b1 : ((Int.tmod (wrap64 (a0 * x3_1)) 31) != 1) = false := bne_eq_false_iff_eq.mpr c3
     clear c3
     obtain rfl := Option.some.inj H
     go_wp2
     go_ret; exact ⟨z10_6, z10_7⟩
    ·rw [if_neg c3] at H
     have c3b0 : ((Int.tmod (wrap64 (a0 * x3_1)) 31) == 1) = false := beq_eq_false_iff_ne.mpr c3
     have c3b1 : ((Int.tmod (wrap64 (a0 * x3_1)) 31) != 1) = true := bne_iff_ne.mpr c3
     have H' := Aside0.mk H
     clear H
     go_wp2
     go_roundg k1
     case measure => have := HK1.out; omega
     case rel => exact ⟨(wrap64 (x3_1 + 1)), z10_6, H', ⟨by have := HK1.out; omega⟩, z10_7⟩
   ·rw [if_neg c2] at H
    have c2b0 : decide (x3_1 < 31) = false := decide_eq_false c2; clear c2
    obtain rfl := Option.some.inj H
    go_wp2
    go_ret; exact ⟨z10_6, z10_7⟩

/-! ### spec_l3Less: function 67 -/
def spec_l3Less.f (k : Nat) (l0 : List Int) (l1 : List Int) : Option (List Int) := (spec_l2Lead.f k l1).bind fun t314 => (if 0 ≤ t314 then (if t314 < (l0.length : Int) then (if t314 < (l1.length : Int) then ((spec_l1Inv.f k (rd l1 t314)).bind fun t317 => ((spec_l2Scale.f k l1 (Int.tmod (wrap64 (31 - (Int.tmod (wrap64 ((rd l0 t314) * t317)) 31))) 31)).bind fun t318 => ((spec_l2Sum.f k l0 t318).bind fun t321 => (some t321)))) else (none)) else (none)) else (none))
def spec_l3Less.T2 : Bool × List (List Nat × List Nat) := (true, [([], []), ([], []), ([], []), ([], []), ([2, 3], [2, 3]), ([4], [4]), ([], []), ([], []), ([6, 7], [6, 7]), ([8], [8]), ([9], [9]), ([5, 10], [5, 10]), ([11], [11]), ([12], [12]), ([13], [13]), ([1, 14, 10], [1, 14]), ([0, 15, 15], [0, 15]), ([16, 16, 0, 1, 2, 3, 4, 5, 6, 7, 8, 9, 10, 11, 12, 13, 14, 15, 16], [16])])
def spec_l3Less.B2 : List Nat := [0, 0, 0, 0, 12, 28, 0, 0, 192, 448, 960, 2044, 4092, 8188, 16380, 32766, 65535, 131071]
theorem spec_l3Less.tab2 : rtab .any (opsOf Try.f67 2) = spec_l3Less.T2 := by kernel_rfl
theorem spec_l3Less.bits2 : waitsOk spec_l3Less.T2.2 spec_l3Less.B2 = true := by kernel_rfl
set_option maxHeartbeats 8000000 in
set_option maxRecDepth 100000 in
theorem spec_l3Less.calls (k : Nat) (A0 : Option Addr) (c0 : Nat) (l0 : List Int) (A1 : Option Addr) (c1 : Nat) (l1 : List Int) (r : List Int) (w : World) (hr0 : Kd.C (Kd.int .i64) w A0 l0.length l0) (hc0 : l0.length ≤ c0) (hr1 : Kd.C (Kd.int .i64) w A1 l1.length l1) (hc1 : l1.length ≤ c1) (h : spec_l3Less.f k l0 l1 = some r) :
  Calls Try.prog 67 #[.slice A0 l0.length c0, .slice A1 l1.length c1] w fun e w' => ∃ v0_ : Value, e = .returned (v0_) ∧ Kd.R (Kd.int .i64) 3 w' w.heap.size (fun _ => True) v0_ r ∧ Below w.heap.size w w' := by
 have HR0 := Aside0.mk hr0
 have HC0 := Aside0.mk hc0
 clear hr0 hc0
 have HR1 := Aside0.mk hr1
 have HC1 := Aside0.mk hc1
 clear hr1 hc1
 have HB := Aside0.mk (Below.refl w.heap.size w)
 try unfold spec_l3Less.f at h
 have H := h
 clear h
 replace H := Option.bind_eq_some_iff.mp H
 obtain ⟨t314, A30, H⟩ := H
 have A3 := Aside0.mk A30
 clear A30
 obtain ⟨c4, H⟩ := ifP H
 have c4b0 : decide (0 ≤ t314) = true := decide_eq_true c4
 clear c4
 obtain ⟨c5, H⟩ := ifP H
 have c5b0 : decide (t314 < (l0.length : Int)) = true := decide_eq_true c5
 clear c5
 obtain ⟨c6, H⟩ := ifP H
 have c6b0 : decide (t314 < (l1.length : Int)) = true := decide_eq_true c6
 clear c6
 replace H := Option.bind_eq_some_iff.mp H
 obtain ⟨t317, A70, H⟩ := H
 have A7 := Aside0.mk A70
 clear A70
 replace H := Option.bind_eq_some_iff.mp H
 obtain ⟨t318, A80, H⟩ := H
 have A8 := Aside0.mk A80
 clear A80
 replace H := Option.bind_eq_some_iff.mp H
 obtain ⟨t321, A90, H⟩ := H
 have A9 := Aside0.mk A90
 clear A90
 obtain rfl := Option.some.inj H
 go_enter Try.func67, Try.ntmps67
 try go_wp2_with (first | ((with_reducible refine gate_callee (f := 66) rfl ?_); refine goesL_ (some 7) rfl rfl Try.func66 (by kernel_rfl) rfl #[.slice A1 l1.length c1] rfl z10_2 ?_; (with_reducible refine (spec_l2Lead.calls k _ _ l1 t314 _ ?side1 ?side2 A3.out).mono ?_); (case side1 => exact cZ (HR1.out)); (case side2 => exact HC1.out); rintro e w' ⟨rfl, ⟨nd, rfl⟩⟩; refine ⟨_, rfl, ?_⟩))
 replace HB := Aside0.mk (below_drew1 HB.out)
 have p315 : 0 ≤ (t314 : Int) := of_decide_eq_true z10_5
 have q315 : t314 < (l0.length : Int) := of_decide_eq_true z10_5
 obtain ⟨ad315, e315, hx315_0⟩ := Kd.at_int HR0.out t314 p315 q315
 have hw315_0 := hx315_0
 cases e315
 replace hx315_0 := (HB.out.cell (World.block_lt_of_cell? w _ hx315_0)).trans hx315_0
 replace p315 := eq_true p315
 replace q315 := eq_true q315
 have p316 : 0 ≤ (t314 : Int) := of_decide_eq_true z10_5
 have q316 : t314 < (l1.length : Int) := of_decide_eq_true z10_5
 obtain ⟨ad316, e316, hx316_0⟩ := Kd.at_int HR1.out t314 p316 q316
 have hw316_0 := hx316_0
 cases e316
 replace hx316_0 := (HB.out.cell (World.block_lt_of_cell? w _ hx316_0)).trans hx316_0
 replace p316 := eq_true p316
 replace q316 := eq_true q316
 refine start_ (n := 18) (S := fun w' => w'.cell? (ad315.add (t314).toNat) = some (.int .i64 (rd l0 t314)) ∧ w'.cell? (ad316.add (t314).toNat) = some (.int .i64 (rd l1 t314))) (ds := []) #[false, false, false, false, false, false, false, false, false, false, false, false, false, false, false, false, false, false] (by kernel_rfl) rfl rfl ⟨((HB.out.cell (World.block_lt_of_cell? w _ hw315_0)).trans hw315_0), ((HB.out.cell (World.block_lt_of_cell? w _ hw316_0)).trans hw316_0)⟩ (fun hHeld => ?_); refine with_tabW spec_l3Less.tab2 spec_l3Less.bits2 (fun HT_ HW_ => ?_)
 generalize w.drew = w10 at HB hx315_0 hx316_0 hHeld ⊢
 refine pZ 0 HT_ ?_
 refine pZ 1 HT_ ?_
 refine pZ 2 HT_ ?_
 refine pZ 3 HT_ ?_
 refine pZ 4 HT_ ?_
 refine pZ 6 HT_ ?_
 refine pZ 7 HT_ ?_
 refine pZ 8 HT_ ?_
 refine tZ 5 hHeld HT_ HW_ ?_
 refine tZ 9 hHeld HT_ HW_ ?_
 refine oZ 10 HT_ (fun K hK => ?_)
 refine goes_ Try.func72 (by kernel_rfl) rfl #[.int .i64 (rd l1 t314)] (by rfl) rfl rfl z10_2 ?_
 with_reducible refine (spec_l1Inv.calls k (rd l1 t314) t317 _ A7.out).mono ?_
 rintro e w' ⟨rfl, ⟨nd, rfl⟩⟩
 refine ⟨_, rfl, ?_⟩
 refine hK.out _ _ ⟨z10_3, z10_4⟩ (fun hHeld => ?_)
 clear hK K
 refine nZ ?_
 refine pZ 11 HT_ ?_
 refine pZ 12 HT_ ?_
 refine pZ 13 HT_ ?_
 refine pZ 14 HT_ ?_
 refine oZ 15 HT_ (fun K hK => ?_)
 refine goes_ Try.func68 (by kernel_rfl) rfl #[.slice (some ad316) l1.length c1, .int .i64 (Int.tmod (wrap64 (31 - (Int.tmod (wrap64 ((rd l0 t314) * t317)) 31))) 31)] (by rfl) rfl rfl z10_2 ?_
 with_reducible refine (spec_l2Scale.calls k _ _ l1 (Int.tmod (wrap64 (31 - (Int.tmod (wrap64 ((rd l0 t314) * t317)) 31))) 31) t318 _ ?side1 ?side2 A8.out).mono ?_
 (case side1 => repeat (first | exact (Kd.C_below HR1.out z10_0) | (with_reducible refine Kd.C_alloc ?_ _) | (with_reducible refine Kd.C_drewN ?_ _) | (with_reducible refine Kd.C_drew ?_)))
 (case side2 => exact HC1.out)
 rintro e w11 ⟨v319, rfl, ho0, hb⟩
 refine ⟨_, rfl, ?_⟩
 have HO320 := Aside0.mk (Kd.R_lower ho0 (below_size z10_0))
 replace HB := Aside0.mk (below_step z10_0 hb)
 (try clear hb)
 (try clear hb2)
 (try clear hk)
 (try clear hi)
 (try clear ho0)
 obtain ⟨Ao12, co12, eo12⟩ := Kd.R_slice HO320.out
 (first | subst eo12 | (injection eo12 with f1_ f2_ f3_; have f4_ := f1_.symm; have f5_ := f3_.symm; clear f1_ f2_ f3_; subst f4_; subst f5_))
 refine hK.out _ _ ⟨z10_3, z10_4⟩ (fun hHeld => ?_)
 clear hK K
 refine nZ ?_
 refine oZ 16 HT_ (fun K hK => ?_)
 refine goes_ Try.func71 (by kernel_rfl) rfl #[.slice (some ad315) l0.length c0, .slice Ao12 t318.length co12] (by rfl) rfl rfl z10_2 ?_
 with_reducible refine (spec_l2Sum.calls k _ _ l0 _ _ t318 t321 _ ?side1 ?side2 ?side3 ?side4 A9.out).mono ?_
 (case side1 => exact cZ ((Kd.C_below HR0.out HB.out)))
 (case side2 => exact HC0.out)
 (case side3 => exact cZ ((Kd.R_reads' HO320.out).2.2))
 (case side4 => exact (Kd.R_reads' HO320.out).2.1)
 rintro e w13 ⟨v322, rfl, ho0, hb⟩
 refine ⟨_, rfl, ?_⟩
 have HO323 := Aside0.mk (Kd.R_lower (Kd.R_new' ho0 (Kd.R_lt (by (with_reducible repeat (first | apply Kd.R_alloc | apply Kd.R_drewN | apply Kd.R_drew)); exact HO320.out))) (below_size z10_0))
 replace HO320 := Aside0.mk (Kd.R_elder' (by (with_reducible repeat (first | apply Kd.R_alloc | apply Kd.R_drewN | apply Kd.R_drew)); exact HO320.out) (Kd.R_base ho0) hb)
 replace HB := Aside0.mk (below_step z10_0 hb)
 (try clear hb)
 (try clear hb2)
 (try clear hk)
 (try clear hi)
 (try clear ho0)
 refine hK.out _ _ ⟨z10_3, z10_4⟩ (fun hHeld => ?_)
 clear hK K
 refine nZ ?_
 refine pZ 17 HT_ ?_
 refine done_ (done_of HT_.out (by kernel_rfl)) ?_
 try go_wp2
 go_ret
 exact ⟨_, by first | rfl | (simp [errW_none, errW_some] <;> rfl) | (simp [*, errW_none, errW_some] <;> rfl), by (with_reducible repeat (first | apply Kd.R_alloc | apply Kd.R_drewN | apply Kd.R_drew)); exact Kd.R_mono HO323.out (fun _ hk => trivial), z10_0⟩

-- NOT PRINTED: function 70 (spec_l3Add)

end Go.Proofs.Ytfgpffocieegdaa.PA
