-- Written by a program of this session (after the manner of the kit's print, several laws in one text).
import Derived.Test.YtamaejafddmagaaPAx0
import Derived.Test.YtamaejafddmagaaPAx8
import Derived.Test.YtamaejafddmagaaGw
import Derived.Test.YtamaejafddmagaaGm
import Derived.Test.YtamaejafddmagaaGc
import Derived.Test.YtamaejafddmagaaHt
namespace Go.Proofs.Ytamaejafddmagaa.PA
open Go.RowKit Go.Proofs.YtamaejafddmagaaW.PrintWords Go.Proofs.YtamaejafddmagaaW.PrintLast Go.Proofs.YtamaejafddmagaaW.PrintMore
attribute [local go_sem] max2_int min2_int max_two min_two max_three min_three max_four min_four   -- for this text's walks alone
set_option linter.unusedVariables false
set_option linter.unusedSimpArgs false

/-! ### spec_l4Rows: function 67 -/
theorem z9_0 {p : Prop} (h : p := by repeat (first | (with_reducible first | exact HB.out | apply below_alloc | apply pw_below_drewN | apply below_drew1) | exact HB.out)) : p := h
theorem z9_1 {p : Prop} (h : p := by (try simp only [List.map_toArray, List.map_cons, List.map_nil]); first | done | rfl | (simp only [List.length_drop, List.length_take]; rfl)) : p := h
theorem z9_2 {p : Prop} (h : p := by first | rfl | (simp; done) | (simp [*]; done)) : p := h
theorem z9_3 {p : Prop} (h : p := by first | rfl | (simp [errW_none, errW_some] <;> rfl) | (simp [*, errW_none, errW_some] <;> rfl)) : p := h
theorem z9_4 {p : Prop} (h : p := by first | (with_reducible assumption) | assumption) : p := h
theorem z9_5 {p : Prop} (h : p := by (with_reducible repeat (first | apply Kd.N_alloc | apply Kd.N_drewN | apply Kd.N_drew)); exact HO_5.out) : p := h
theorem z9_6 {p : Prop} (h : p := by repeat (first | exact Drawn0.refl _ | apply Drawn0.step)) : p := h
theorem z9_7 {p : Prop} (h : p := by have := HK1.out; omega) : p := h
def spec_l4Rows.l0 : Nat → Int → List Bool → List (List Int) → Int → Option ((List (List Int)))
  | 0, _, _, _, _ => none
  | k + 1, x0, x1, x5, x6 => if x6 < 8 then (if 0 ≤ x6 then (if x6 < (x1.length : Int) then (if rdOf false x1 x6 = true then ((spec_l4Row.f x0 x6).bind fun t366 => (if x5.length < 5864062014805 then (spec_l4Rows.l0 k x0 x1 (x5 ++ [t366]) (wrap64 (x6 + 1))) else (none))) else (spec_l4Rows.l0 k x0 x1 x5 (wrap64 (x6 + 1)))) else (none)) else (none)) else (some x5)
def spec_l4Rows.f (k : Nat) (a0 : Int) (l1 : List Bool) : Option ((List (List Int))) := spec_l4Rows.l0 k a0 l1 (([] : List (List Int))) 0
set_option maxHeartbeats 8000000 in
set_option maxRecDepth 100000 in
theorem spec_l4Rows.calls (k : Nat) (a0 : Int) (A1 : Option Addr) (c1 : Nat) (l1 : List Bool) (r : List (List Int)) (w : World) (hr1 : Kd.C Kd.bool w A1 l1.length l1) (hc1 : l1.length ≤ c1) (h : spec_l4Rows.f k a0 l1 = some r) :
  Calls Try.prog 67 #[.int .i64 a0, .slice A1 l1.length c1] w fun e w' => ∃ v0_ : Value, e = .returned (v0_) ∧ Kd.N (Kd.slice 3 (Kd.int .i64)) 28 w' w.heap.size (fun k_ => (w.heap.size ≤ k_)) v0_ r ∧ Below w.heap.size w w' := by
 have HR1 := Aside0.mk hr1
 have HC1 := Aside0.mk hc1
 clear hr1 hc1
 have HB := Aside0.mk (Below.refl w.heap.size w)
 have H : (spec_l4Rows.l0 k a0 l1 (([] : List (List Int))) 0) = some r := h
 clear h
 obtain ⟨y362, hy362⟩ : ∃ y_ : List (List Int), y_ = (([] : List (List Int))) := ⟨_, rfl⟩
 replace H : (spec_l4Rows.l0 k a0 l1 y362 0) = some r := by first | (rw [hy362]; with_reducible exact H) | (have H2_ := (Option.bind_some _ _).symm.trans H; rw [hy362]; with_reducible exact H2_) | (have H2_ := (Option.bind_some _ _).symm.trans H; with_reducible exact H2_) | with_reducible exact H | (rw [hy362]; exact H) | exact H
 have Ny362 := Aside0.mk hy362
 clear hy362
 have H' := Aside0.mk H
 clear H
 go_enter Try.func67, Try.ntmps67
 go_wp2_with (first | ((with_reducible refine gate_dst (N := 7) rfl ?_); refine Kd.N_lit (Kd.slice 3 (Kd.int .i64)) _ 28 ?hg (N' := 7) ?hd (xs := ([] : List (List Int))) (inner := []) (ok := (fun k_ => (w.heap.size ≤ k_))) (okp := (fun k_ => (w.heap.size ≤ k_))) ?hr ?hp (fun _ hk => hk) ((show ∀ k_, w.heap.size ≤ k_ → (fun k_ => (w.heap.size ≤ k_)) k_ from fun k_ hk => (Nat.le_trans (below_size z9_0) hk)) _ (Nat.le_refl _)) (Below.refl _ _) (Nat.le_refl _) (by simp) ?_; (case hd => rfl); (case hg => rfl); (case hr => first | (go_simp; done) | (go_simp; rfl)); (case hp => exact (Reps.none _ _)); intro v363 w3 ho4 hb hg_ hnew_; clear hg_ hnew_; (first | rw [← Ny362.out] at ho4 | (simp only [Int.reduceToNat] at ho4; rw [← Ny362.out] at ho4)); have HO364 := Aside0.mk (Kd.N_lower ho4 (below_size z9_0)); replace HB := Aside0.mk (below_step z9_0 hb); clear hb ho4))
 go_loopg [5, 6] k (fun kq v5 v6 w' => ∃ (x5_1 : List (List Int)) (x6_1 : Int), v6 = .int .i64 x6_1 ∧ Aside0 (spec_l4Rows.l0 kq a0 l1 x5_1 x6_1 = some r) ∧ Aside0 (kq ≤ k) ∧ Aside0 (Kd.N (Kd.slice 3 (Kd.int .i64)) 28 w' w.heap.size (fun k_ => (w.heap.size ≤ k_)) v5 x5_1) ∧ Aside0 (Below w.heap.size w w'))
 case atStart => exact ⟨(y362), (0), z9_2, H', ⟨Nat.le_refl _⟩, ⟨by (with_reducible repeat (first | apply Kd.N_alloc | apply Kd.N_drewN | apply Kd.N_drew)); exact HO364.out⟩, ⟨z9_0⟩⟩
 case round =>
  clear H'
  try clear c1
  obtain ⟨x5_1, x6_1, rfl, HA, HK1, HO_5, HB⟩ := hrel
  cases gk with
  | zero => exact absurd HA.out (by simp [spec_l4Rows.l0])
  | succ k1 =>
   have H := HA.out
   clear HA
   simp only [spec_l4Rows.l0] at H
   by_cases c5 : x6_1 < 8
   ·rw [if_pos c5] at H
    have c5b0 : decide (x6_1 < 8) = true := decide_eq_true c5
    clear c5
    obtain ⟨c6, H⟩ := ifP H
    have c6b0 : decide (0 ≤ x6_1) = true := decide_eq_true c6
    clear c6
    obtain ⟨c7, H⟩ := ifP H
    have c7b0 : decide (x6_1 < (l1.length : Int)) = true := decide_eq_true c7
    clear c7
    obtain ⟨bq8, hbq8⟩ : ∃ b_ : Bool, b_ = (rdOf false l1 x6_1) := ⟨_, rfl⟩
    replace H : (if bq8 = true then ((spec_l4Row.f a0 x6_1).bind fun t366 => (if x5_1.length < 5864062014805 then (spec_l4Rows.l0 k1 a0 l1 (x5_1 ++ [t366]) (wrap64 (x6_1 + 1))) else (none))) else (spec_l4Rows.l0 k1 a0 l1 x5_1 (wrap64 (x6_1 + 1)))) = some r := by rw [← hbq8] at H; exact H
    have Nbq8 := Aside0.mk hbq8
    clear hbq8
    by_cases c9 : bq8 = true
    ·subst c9
     have H1 : ((spec_l4Row.f a0 x6_1).bind fun t366 => (if x5_1.length < 5864062014805 then (spec_l4Rows.l0 k1 a0 l1 (x5_1 ++ [t366]) (wrap64 (x6_1 + 1))) else (none))) = some r := by rw [if_pos rfl] at H; exact H
     clear H
     have H := H1
     clear H1
     replace H := Option.bind_eq_some_iff.mp H
     obtain ⟨t366, A100, H⟩ := H
     replace H : (if x5_1.length < 5864062014805 then (spec_l4Rows.l0 k1 a0 l1 (x5_1 ++ [t366]) (wrap64 (x6_1 + 1))) else (none)) = some r := H
     have A10 := Aside0.mk A100
     clear A100
     obtain ⟨c11, H⟩ := ifP H
     have LMc11 := Aside0.mk c11
     clear c11
     obtain ⟨y369, hy369⟩ : ∃ y_ : List (List Int), y_ = (x5_1 ++ [t366]) := ⟨_, rfl⟩
     replace H : (spec_l4Rows.l0 k1 a0 l1 y369 (wrap64 (x6_1 + 1))) = some r := by first | (rw [hy369]; with_reducible exact H) | (have H2_ := (Option.bind_some _ _).symm.trans H; rw [hy369]; with_reducible exact H2_) | (have H2_ := (Option.bind_some _ _).symm.trans H; with_reducible exact H2_) | with_reducible exact H | (rw [hy369]; exact H) | exact H
     have Ny369 := Aside0.mk hy369
     clear hy369
     have H' := Aside0.mk H
     clear H
     have p365 : 0 ≤ (x6_1 : Int) := of_decide_eq_true z9_4
     have q365 : x6_1 < (l1.length : Int) := of_decide_eq_true z9_4
     obtain ⟨ad365, e365, hx365_0⟩ := Kd.at_bool HR1.out x6_1 p365 q365
     (try rw [← Nbq8.out] at hx365_0)
     cases e365
     replace hx365_0 := (HB.out.cell (World.block_lt_of_cell? w _ hx365_0)).trans hx365_0
     replace p365 := eq_true p365
     replace q365 := eq_true q365
     go_wp2_with (first | ((with_reducible refine gate_callee (f := 106) rfl ?_); refine goesL_ (some 19) rfl rfl Try.func106 (by kernel_rfl) rfl #[.int .i64 a0, .int .i64 x6_1] rfl z9_1 ?_; (with_reducible refine (spec_l4Row.calls a0 x6_1 t366 _ A10.out).mono ?_); rintro e w12 ⟨v367, rfl, ho0, hb⟩; refine ⟨_, rfl, ?_⟩; have HO368 := Aside0.mk (Kd.V_lower (Kd.V_mono (ok' := fun k_ => (w.heap.size ≤ k_) ∧ some k_ ≠ (u5 : Value).ownBlock) ho0 (fun k_ hk_ => ⟨(Nat.le_trans (below_size z9_0) hk_), (Kd.fresh' (Kd.N_lt z9_5) k_ hk_)⟩)) (below_size z9_0)); replace HO_5 := Aside0.mk (Kd.N_below z9_5 hb); replace HB := Aside0.mk (below_step z9_0 hb); (try clear hb); (try clear ho0); obtain ⟨Ao14, co14, eo14⟩ := Kd.V_slice HO368.out; subst eo14) | ((with_reducible refine gate_builtin (b := .append) (xs := #[.tmp 16, .tmp 20]) rfl ?_); at_builtin; refine Kd.N_append (Kd.slice 3 (Kd.int .i64)) (w0 := w) w.heap.size rfl (.tmp 16) (.tmp 20) 23 28 (.slice none 0 0) 24 rfl Try.underlying23 info28 rfl (by decide) (by omega) u5 x5_1 t366 [.slice Ao14 t366.length co14] (fun k_ => (w.heap.size ≤ k_)) (fun k_ => ((fun k_ => (w.heap.size ≤ k_))) k_ ∧ some k_ ≠ (u5 : Value).ownBlock) rfl rfl ?aP (fun _ hk => hk) ?aF ?aO ?aB ?aS ?aL ?_; (case aP => exact (Kd.FK_slice_mk (Kd.V_reads' (Kd.V_mono (ok' := (fun k_ => ((fun k_ => (w.heap.size ≤ k_))) k_ ∧ some k_ ≠ (u5 : Value).ownBlock)) (HO368.out) (fun k_ hk => ⟨hk.1, hk.2⟩))).2.1 (Kd.V_F (Kd.V_mono (ok' := (fun k_ => ((fun k_ => (w.heap.size ≤ k_))) k_ ∧ some k_ ≠ (u5 : Value).ownBlock)) (HO368.out) (fun k_ hk => ⟨hk.1, hk.2⟩))))); (case aB => exact z9_0); (case aF => exact (fun k_ hk => (Nat.le_trans (below_size z9_0) hk))); (case aO => exact z9_5); (case aS => exact (below_size z9_0)); (case aL => have := LMc11.out; omega); intro v370 w13 ho hb hg hat; rw [← Ny369.out] at ho; have n0_ := Aside0.mk (Kd.V_afterv (ok := (fun k_ => (w.heap.size ≤ k_))) (by (with_reducible repeat (first | apply Kd.V_alloc | apply Kd.V_drewN | apply Kd.V_drew)); exact HO368.out) hg hat); have n1_ := Aside0.mk (hb); have n2_ := Aside0.mk (ho); clear HO368; clear HB; clear HO_5; have HO368 := n0_; have HB := n1_; have HO371 := n2_; clear n0_ n1_ n2_; clear ho hb hg hat))
     go_roundg k1
     case measure => have := HK1.out; omega
     case rel => exact ⟨(y369), (wrap64 (x6_1 + 1)), z9_2, H', ⟨z9_7⟩, ⟨by (with_reducible repeat (first | apply Kd.N_alloc | apply Kd.N_drewN | apply Kd.N_drew)); exact HO371.out⟩, ⟨z9_0⟩⟩
    ·replace c9 := Bool.eq_false_iff.mpr c9
     subst c9
     have H1 : (spec_l4Rows.l0 k1 a0 l1 x5_1 (wrap64 (x6_1 + 1))) = some r := by rw [if_neg (show ¬ (false = true) by decide)] at H; exact H
     clear H
     have H := H1
     clear H1
     have H' := Aside0.mk H
     clear H
     have p365 : 0 ≤ (x6_1 : Int) := of_decide_eq_true z9_4
     have q365 : x6_1 < (l1.length : Int) := of_decide_eq_true z9_4
     obtain ⟨ad365, e365, hx365_0⟩ := Kd.at_bool HR1.out x6_1 p365 q365
     (try rw [← Nbq8.out] at hx365_0)
     cases e365
     replace hx365_0 := (HB.out.cell (World.block_lt_of_cell? w _ hx365_0)).trans hx365_0
     replace p365 := eq_true p365
     replace q365 := eq_true q365
     go_wp2
     go_roundg k1
     case measure => have := HK1.out; omega
     case rel => exact ⟨(x5_1), (wrap64 (x6_1 + 1)), z9_2, H', ⟨z9_7⟩, ⟨z9_5⟩, ⟨z9_0⟩⟩
   ·rw [if_neg c5] at H
    have c5b0 : decide (x6_1 < 8) = false := decide_eq_false c5
    clear c5
    obtain rfl := Option.some.inj H
    go_wp2
    go_ret
    exact ⟨_, z9_3, z9_5, z9_0⟩

/-! ### spec_CodeBears: function 27 -/
def spec_CodeBears.f (k : Nat) (a0 : Int) (l1 : List Bool) : Option (Bool) := (spec_l4Kind.f a0).bind fun t372 => (if t372 = true then (if (l1.length : Int) = 8 then ((spec_l4Rows.f k a0 l1).bind fun t373 => ((spec_l3Tidy.f t373).bind fun t376 => (some ((t376.length : Int) == 4)))) else (some false)) else (some false))
set_option maxHeartbeats 8000000 in
set_option maxRecDepth 100000 in
theorem spec_CodeBears.calls (k : Nat) (a0 : Int) (A1 : Option Addr) (c1 : Nat) (l1 : List Bool) (r : Bool) (w : World) (hr1 : Kd.C Kd.bool w A1 l1.length l1) (hc1 : l1.length ≤ c1) (h : spec_CodeBears.f k a0 l1 = some r) :
  Calls Try.prog 27 #[.int .i64 a0, .slice A1 l1.length c1] w fun e w' => e = .returned (.bool r) ∧ Below w.heap.size w w' := by
 have HR1 := Aside0.mk hr1
 have HC1 := Aside0.mk hc1
 clear hr1 hc1
 have HB := Aside0.mk (Below.refl w.heap.size w)
 have H : ((spec_l4Kind.f a0).bind fun t372 => (if t372 = true then (if (l1.length : Int) = 8 then ((spec_l4Rows.f k a0 l1).bind fun t373 => ((spec_l3Tidy.f t373).bind fun t376 => (some ((t376.length : Int) == 4)))) else (some false)) else (some false))) = some r := h
 clear h
 replace H := Option.bind_eq_some_iff.mp H
 obtain ⟨t372, A30, H⟩ := H
 replace H : (if t372 = true then (if (l1.length : Int) = 8 then ((spec_l4Rows.f k a0 l1).bind fun t373 => ((spec_l3Tidy.f t373).bind fun t376 => (some ((t376.length : Int) == 4)))) else (some false)) else (some false)) = some r := H
 have A3 := Aside0.mk A30
 clear A30
 by_cases c4 : t372 = true
 ·subst c4
  have H1 : (if (l1.length : Int) = 8 then ((spec_l4Rows.f k a0 l1).bind fun t373 => ((spec_l3Tidy.f t373).bind fun t376 => (some ((t376.length : Int) == 4)))) else (some false)) = some r := by rw [if_pos rfl] at H; exact H
  clear H
  have H := H1
  clear H1
  by_cases c5 : (l1.length : Int) = 8
  ·rw [if_pos c5] at H
   have c5b0 : ((l1.length : Int) == 8) = true := beq_iff_eq.mpr c5
   have c5b1 : ((l1.length : Int) != 8) = false := bne_eq_false_iff_eq.mpr c5
   clear c5
   replace H := Option.bind_eq_some_iff.mp H
   obtain ⟨t373, A60, H⟩ := H
   replace H : ((spec_l3Tidy.f t373).bind fun t376 => (some ((t376.length : Int) == 4))) = some r := H
   have A6 := Aside0.mk A60
   clear A60
   replace H := Option.bind_eq_some_iff.mp H
   obtain ⟨t376, A70, H⟩ := H
   replace H : (some ((t376.length : Int) == 4)) = some r := H
   have A7 := Aside0.mk A70
   clear A70
   obtain rfl := Option.some.inj H
   go_enter Try.func27, Try.ntmps27
   go_wp2_with (first | ((with_reducible refine gate_callee (f := 66) rfl ?_); refine goesL_ (some 6) rfl rfl Try.func66 (by kernel_rfl) rfl #[.int .i64 a0] rfl z9_1 ?_; (with_reducible refine (spec_l4Kind.calls a0 true _ A3.out).mono ?_); rintro e w' ⟨rfl, ⟨nd, rfl⟩⟩; refine ⟨_, rfl, ?_⟩) | (go_at_call 67; (with_reducible refine (spec_l4Rows.calls k a0 _ _ l1 t373 _ ?side1 ?side2 A6.out).mono ?_); (case side1 => exact cZ (HR1.out)); (case side2 => exact HC1.out); rintro e w8 ⟨v374, rfl, ho0, hb⟩; have HO375 := Aside0.mk (Kd.N_lower (Kd.N_mono (ok' := fun k_ => True) ho0 (fun k_ hk_ => trivial)) (below_size z9_0)); replace HB := Aside0.mk (below_step z9_0 hb); (try clear hb); (try clear ho0); obtain ⟨Ao9, co9, eo9⟩ := Kd.N_slice HO375.out; subst eo9) | (go_at_call 57; (with_reducible refine (spec_l3Tidy.calls _ _ t373 t376 _ ?side1 ?side2 A7.out).mono ?_); (case side1 => exact cZ ((Kd.N_reads' HO375.out).2.2)); (case side2 => exact (Kd.N_reads' HO375.out).2.1); rintro e w10 ⟨v377, rfl, ho0, hb⟩; have HO378 := Aside0.mk (Kd.N_lower (Kd.N_mono (ok' := fun k_ => some k_ ≠ (.slice Ao9 t373.length co9 : Value).ownBlock) (Kd.R_N (Kd.R_bound ho0)) (fun k_ hk_ => (Kd.fresh' (Kd.N_lt (by (with_reducible repeat (first | apply Kd.N_alloc | apply Kd.N_drewN | apply Kd.N_drew)); exact HO375.out)) k_ hk_.2.1))) (below_size z9_0)); replace HO375 := Aside0.mk (Kd.N_elder' (by (with_reducible repeat (first | apply Kd.N_alloc | apply Kd.N_drewN | apply Kd.N_drew)); exact HO375.out) (by first | exact Kd.N_base ho0 | exact Kd.R_base ho0) hb); replace HB := Aside0.mk (below_step z9_0 hb); (try clear hb); (try clear ho0); obtain ⟨Ao11, co11, eo11⟩ := Kd.N_slice HO378.out; subst eo11))
   go_ret
   exact ⟨z9_3, z9_0⟩
  ·rw [if_neg c5] at H
   have c5b0 : ((l1.length : Int) == 8) = false := beq_eq_false_iff_ne.mpr c5
   have c5b1 : ((l1.length : Int) != 8) = true := bne_iff_ne.mpr c5
   obtain rfl := Option.some.inj H
   go_enter Try.func27, Try.ntmps27
   go_wp2_with (first | ((with_reducible refine gate_callee (f := 66) rfl ?_); refine goesL_ (some 6) rfl rfl Try.func66 (by kernel_rfl) rfl #[.int .i64 a0] rfl z9_1 ?_; (with_reducible refine (spec_l4Kind.calls a0 true _ A3.out).mono ?_); rintro e w' ⟨rfl, ⟨nd, rfl⟩⟩; refine ⟨_, rfl, ?_⟩))
   go_ret
   exact ⟨z9_3, z9_0⟩
 ·replace c4 := Bool.eq_false_iff.mpr c4
  subst c4
  have H1 : (some false) = some r := by rw [if_neg (show ¬ (false = true) by decide)] at H; exact H
  clear H
  have H := H1
  clear H1
  obtain rfl := Option.some.inj H
  go_enter Try.func27, Try.ntmps27
  go_wp2_with (first | ((with_reducible refine gate_callee (f := 66) rfl ?_); refine goesL_ (some 6) rfl rfl Try.func66 (by kernel_rfl) rfl #[.int .i64 a0] rfl z9_1 ?_; (with_reducible refine (spec_l4Kind.calls a0 false _ A3.out).mono ?_); rintro e w' ⟨rfl, ⟨nd, rfl⟩⟩; refine ⟨_, rfl, ?_⟩))
  go_ret
  exact ⟨z9_3, z9_0⟩

/-! ### spec_l4Set: function 71 -/
def spec_l4Set.l0 : Nat → Int → List Bool → Int → Option (List Bool)
  | 0, _, _, _ => none
  | k + 1, x0, x3, x4 => if x4 < (x3.length : Int) then (if 0 ≤ x4 then (spec_l4Set.l0 k (wrap64 (Int.tdiv x0 2)) (x3.set (x4 : Int).toNat ((Int.tmod x0 2) == 1)) (wrap64 (x4 + 1))) else (none)) else (some x3)
def spec_l4Set.f (k : Nat) (a0 : Int) : Option (List Bool) := if 8 ≤ 281474976710656 then (spec_l4Set.l0 k a0 (List.replicate 8 false) 0) else (none)
set_option maxHeartbeats 8000000 in
set_option maxRecDepth 100000 in
theorem spec_l4Set.calls (k : Nat) (a0 : Int) (r : List Bool) (w : World) (h : spec_l4Set.f k a0 = some r) :
  Calls Try.prog 71 #[.int .i64 a0] w fun e w' => ∃ v0_ : Value, e = .returned (v0_) ∧ Kd.R Kd.bool 4 w' w.heap.size (fun _ => True) v0_ r ∧ Below w.heap.size w w' := by
 have HB := Aside0.mk (Below.refl w.heap.size w)
 have H : (if 8 ≤ 281474976710656 then (spec_l4Set.l0 k a0 (List.replicate 8 false) 0) else (none)) = some r := h
 clear h
 obtain ⟨c2, H⟩ := ifP H
 have c2b0 := eq_true c2
 have c2b1 : decide (8 ≤ 281474976710656) = true := decide_eq_true c2
 clear c2
 obtain ⟨y379, hy379⟩ : ∃ y_ : List Bool, y_ = (List.replicate 8 false) := ⟨_, rfl⟩
 replace H : (spec_l4Set.l0 k a0 y379 0) = some r := by first | (rw [hy379]; with_reducible exact H) | (have H2_ := (Option.bind_some _ _).symm.trans H; rw [hy379]; with_reducible exact H2_) | (have H2_ := (Option.bind_some _ _).symm.trans H; with_reducible exact H2_) | with_reducible exact H | (rw [hy379]; exact H) | exact H
 have Ny379 := Aside0.mk hy379
 clear hy379
 have H' := Aside0.mk H
 clear H
 go_enter Try.func71, Try.ntmps71
 go_wp2_with (first | ((with_reducible refine gate_dst (N := 5) rfl ?_); refine Kd.R_make Kd.bool _ 4 rfl (N := 5) rfl 36 _ _ rfl 8 rfl rfl Try.underlying36 (.bool false) 1 info4 rfl (by decide) (by omega) false (ok := fun _ => True) (okp := fun _ => True) rfl (fun _ hk => hk) trivial (by omega) (by omega) (Below.refl _ _) (Nat.le_refl _) ?_; intro v380 w3 ho4 hb hg_ hnew_; clear hg_ hnew_; (first | rw [← Ny379.out] at ho4 | (simp only [Int.reduceToNat] at ho4; rw [← Ny379.out] at ho4)); have HO381 := Aside0.mk (Kd.R_lower ho4 (below_size z9_0)); replace HB := Aside0.mk (below_step z9_0 hb); clear hb ho4))
 go_loopg [0, 4] k (fun kq v0 v4 w' => ∃ (x0_1 : Int) (x3_1 : List Bool) (x4_1 : Int), v0 = .int .i64 x0_1 ∧ v4 = .int .i64 x4_1 ∧ Aside0 (spec_l4Set.l0 kq x0_1 x3_1 x4_1 = some r) ∧ Aside0 (kq ≤ k) ∧ Aside0 (Kd.R Kd.bool 4 w' w.heap.size (fun _ => True) v380 x3_1) ∧ Aside0 (Below w.heap.size w w'))
 case atStart => exact ⟨(a0), (y379), (0), z9_2, z9_2, H', ⟨Nat.le_refl _⟩, ⟨by (with_reducible repeat (first | apply Kd.R_alloc | apply Kd.R_drewN | apply Kd.R_drew)); exact HO381.out⟩, ⟨z9_0⟩⟩
 case round =>
  clear H'
  try clear c2
  try clear c2b0
  try clear c2b1
  obtain ⟨x0_1, x3_1, x4_1, rfl, rfl, HA, HK1, HO_3, HB⟩ := hrel
  cases gk with
  | zero => exact absurd HA.out (by simp [spec_l4Set.l0])
  | succ k1 =>
   have H := HA.out
   clear HA
   simp only [spec_l4Set.l0] at H
   by_cases c5 : x4_1 < (x3_1.length : Int)
   ·rw [if_pos c5] at H
    have c5b0 : decide (x4_1 < (x3_1.length : Int)) = true := decide_eq_true c5
    clear c5
    obtain ⟨c6, H⟩ := ifP H
    have c6b0 : decide (0 ≤ x4_1) = true := decide_eq_true c6
    clear c6
    obtain ⟨y382, hy382⟩ : ∃ y_ : List Bool, y_ = (x3_1.set (x4_1 : Int).toNat ((Int.tmod x0_1 2) == 1)) := ⟨_, rfl⟩
    replace H : (spec_l4Set.l0 k1 (wrap64 (Int.tdiv x0_1 2)) y382 (wrap64 (x4_1 + 1))) = some r := by first | (rw [hy382]; with_reducible exact H) | (have H2_ := (Option.bind_some _ _).symm.trans H; rw [hy382]; with_reducible exact H2_) | (have H2_ := (Option.bind_some _ _).symm.trans H; with_reducible exact H2_) | with_reducible exact H | (rw [hy382]; exact H) | exact H
    have Ny382 := Aside0.mk hy382
    clear hy382
    have H' := Aside0.mk H
    clear H
    obtain ⟨Ao8, co8, eo8⟩ := Kd.R_slice HO_3.out
    subst eo8
    have p7 : 0 ≤ (x4_1 : Int) := of_decide_eq_true z9_4
    have q7 : (x4_1 : Int) < ((x3_1.length : Int) : Int) := of_decide_eq_true z9_4
    obtain ⟨go7, co7, eo7, gb7, gl7, cl7, HG7⟩ := Kd.R_form HO_3.out (by omega)
    (first | cases eo7 | (injection eo7 with ea_ en_ ec_; (first | subst ea_ | (injection ea_ with ea_; subst ea_)); subst ec_; clear en_))
    have GB7 := Aside0.mk gb7
    have GG7 := Aside0.mk HG7
    clear gb7 gl7 HG7
    obtain ⟨hx7_0, hf7_0⟩ := Kd.R_celln false HO_3.out (x4_1 : Int) p7 q7
    replace p7 := eq_true p7
    replace q7 := eq_true q7
    have HP9 := Kd.R_putg HO_3.out (x4_1 : Int) ((Int.tmod x0_1 2) == 1)
    go_wp2_with (first | ((with_reducible refine gate_store (t := 4) (p := 17) rfl ?_); refine store_event (t := 4) (p := 17) (v := ?vo_w10) (w1 := (wr.setCell ⟨go7, (x4_1 : Int).toNat, none⟩ (.bool ((Int.tmod x0_1 2) == 1)))) ?hg ?ho ?hn ?hr ?_; (case ho => rfl); (case hg => rfl); (case hn => rfl); (case hr => first | (go_simp; done) | (go_simp; rfl)); intro w10 hw; have hg : wr.grownBy w10 (some go7) := (by rw [hw]; exact HP9.2); have hp_ : Kd.R Kd.bool 4 w10 w.heap.size (fun _ => True) (.slice (some ⟨go7, 0, none⟩) x3_1.length co8) y382 := (by rw [hw, Ny382.out]; exact HP9.1); clear HP9; replace HO_3 := Aside0.mk (hp_); replace HB := Aside0.mk ((by rw [hw]; exact below_set (HB.out) GB7.out : Below w.heap.size w w10)); clear hg hw hp_))
    go_roundg k1
    case measure => have := HK1.out; omega
    case rel => exact ⟨(wrap64 (Int.tdiv x0_1 2)), (y382), (wrap64 (x4_1 + 1)), z9_2, z9_2, H', ⟨z9_7⟩, ⟨by (with_reducible repeat (first | apply Kd.R_alloc | apply Kd.R_drewN | apply Kd.R_drew)); exact HO_3.out⟩, ⟨z9_0⟩⟩
   ·rw [if_neg c5] at H
    have c5b0 : decide (x4_1 < (x3_1.length : Int)) = false := decide_eq_false c5
    clear c5
    obtain rfl := Option.some.inj H
    obtain ⟨Ao11, co11, eo11⟩ := Kd.R_slice HO_3.out
    subst eo11
    go_wp2
    go_ret
    exact ⟨_, z9_3, by (with_reducible repeat (first | apply Kd.R_alloc | apply Kd.R_drewN | apply Kd.R_drew)); exact HO_3.out, z9_0⟩

/-! ### spec_l4Many: function 72 -/
def spec_l4Many.l0 : Nat → List Bool → Int → Int → Option (Int)
  | 0, _, _, _ => none
  | k + 1, x0, x3, x4 => if x4 < (x0.length : Int) then (if 0 ≤ x4 then (if rdOf false x0 x4 = true then (spec_l4Many.l0 k x0 (wrap64 (x3 + 1)) (wrap64 (x4 + 1))) else (spec_l4Many.l0 k x0 x3 (wrap64 (x4 + 1)))) else (none)) else (some x3)
def spec_l4Many.f (k : Nat) (l0 : List Bool) : Option (Int) := spec_l4Many.l0 k l0 0 0
set_option maxHeartbeats 8000000 in
set_option maxRecDepth 100000 in
theorem spec_l4Many.calls (k : Nat) (A0 : Option Addr) (c0 : Nat) (l0 : List Bool) (r : Int) (w : World) (hr0 : Kd.C Kd.bool w A0 l0.length l0) (hc0 : l0.length ≤ c0) (h : spec_l4Many.f k l0 = some r) :
  Calls Try.prog 72 #[.slice A0 l0.length c0] w fun e w' => e = .returned (.int .i64 r) ∧ Drawn0 w w' := by
 have HR0 := Aside0.mk hr0
 have HC0 := Aside0.mk hc0
 clear hr0 hc0
 have H : (spec_l4Many.l0 k l0 0 0) = some r := h
 clear h
 have H' := Aside0.mk H
 clear H
 go_enter Try.func72, Try.ntmps72
 go_wp2
 go_loopg [3, 4] k (fun kq v3 v4 w' => ∃ (x3_1 : Int) (x4_1 : Int), v3 = .int .i64 x3_1 ∧ v4 = .int .i64 x4_1 ∧ Aside0 (spec_l4Many.l0 kq l0 x3_1 x4_1 = some r) ∧ Aside0 (kq ≤ k) ∧ Drawn0 w w')
 case atStart => exact ⟨(0), (0), z9_2, z9_2, H', ⟨Nat.le_refl _⟩, z9_6⟩
 case round =>
  clear H'
  obtain ⟨x3_1, x4_1, rfl, rfl, HA, HK1, ⟨m1, rfl⟩⟩ := hrel
  cases gk with
  | zero => exact absurd HA.out (by simp [spec_l4Many.l0])
  | succ k1 =>
   have H := HA.out
   clear HA
   simp only [spec_l4Many.l0] at H
   by_cases c2 : x4_1 < (l0.length : Int)
   ·rw [if_pos c2] at H
    have c2b0 : decide (x4_1 < (l0.length : Int)) = true := decide_eq_true c2
    clear c2
    obtain ⟨c3, H⟩ := ifP H
    have c3b0 : decide (0 ≤ x4_1) = true := decide_eq_true c3
    clear c3
    obtain ⟨bq4, hbq4⟩ : ∃ b_ : Bool, b_ = (rdOf false l0 x4_1) := ⟨_, rfl⟩
    replace H : (if bq4 = true then (spec_l4Many.l0 k1 l0 (wrap64 (x3_1 + 1)) (wrap64 (x4_1 + 1))) else (spec_l4Many.l0 k1 l0 x3_1 (wrap64 (x4_1 + 1)))) = some r := by rw [← hbq4] at H; exact H
    have Nbq4 := Aside0.mk hbq4
    clear hbq4
    by_cases c5 : bq4 = true
    ·subst c5
     have H1 : (spec_l4Many.l0 k1 l0 (wrap64 (x3_1 + 1)) (wrap64 (x4_1 + 1))) = some r := by rw [if_pos rfl] at H; exact H
     clear H
     have H := H1
     clear H1
     have H' := Aside0.mk H
     clear H
     have p383 : 0 ≤ (x4_1 : Int) := of_decide_eq_true z9_4
     have q383 : x4_1 < (l0.length : Int) := of_decide_eq_true z9_4
     obtain ⟨ad383, e383, hx383_0⟩ := Kd.at_bool HR0.out x4_1 p383 q383
     (try rw [← Nbq4.out] at hx383_0)
     cases e383
     replace p383 := eq_true p383
     replace q383 := eq_true q383
     go_wp2
     go_roundg k1
     case measure => have := HK1.out; omega
     case rel => exact ⟨(wrap64 (x3_1 + 1)), (wrap64 (x4_1 + 1)), z9_2, z9_2, H', ⟨z9_7⟩, z9_6⟩
    ·replace c5 := Bool.eq_false_iff.mpr c5
     subst c5
     have H1 : (spec_l4Many.l0 k1 l0 x3_1 (wrap64 (x4_1 + 1))) = some r := by rw [if_neg (show ¬ (false = true) by decide)] at H; exact H
     clear H
     have H := H1
     clear H1
     have H' := Aside0.mk H
     clear H
     have p383 : 0 ≤ (x4_1 : Int) := of_decide_eq_true z9_4
     have q383 : x4_1 < (l0.length : Int) := of_decide_eq_true z9_4
     obtain ⟨ad383, e383, hx383_0⟩ := Kd.at_bool HR0.out x4_1 p383 q383
     (try rw [← Nbq4.out] at hx383_0)
     cases e383
     replace p383 := eq_true p383
     replace q383 := eq_true q383
     go_wp2
     go_roundg k1
     case measure => have := HK1.out; omega
     case rel => exact ⟨(x3_1), (wrap64 (x4_1 + 1)), z9_2, z9_2, H', ⟨z9_7⟩, z9_6⟩
   ·rw [if_neg c2] at H
    have c2b0 : decide (x4_1 < (l0.length : Int)) = false := decide_eq_false c2
    clear c2
    obtain rfl := Option.some.inj H
    go_wp2
    go_ret
    exact ⟨z9_2, z9_6⟩

/-! ### spec_CodeMost: function 31 -/
def spec_CodeMost.l0 : Nat → Int → Int → Int → Option (Int)
  | 0, _, _, _ => none
  | k + 1, x0, x3, x4 => if x4 < 256 then ((spec_l4Set.f k x4).bind fun t385 => ((spec_CodeBears.f k x0 t385).bind fun t388 => (if t388 = true then (spec_CodeMost.l0 k x0 x3 (wrap64 (x4 + 1))) else ((spec_l4Many.f k t385).bind fun t389 => (spec_CodeMost.l0 k x0 (mn x3 (wrap64 ((wrap64 (8 - t389)) - 1))) (wrap64 (x4 + 1))))))) else (some x3)
def spec_CodeMost.f (k : Nat) (a0 : Int) : Option (Int) := (spec_l4Kind.f a0).bind fun t384 => (if t384 = true then (spec_CodeMost.l0 k a0 8 0) else (some (-1)))
set_option maxHeartbeats 8000000 in
set_option maxRecDepth 100000 in
theorem spec_CodeMost.calls (k : Nat) (a0 : Int) (r : Int) (w : World) (h : spec_CodeMost.f k a0 = some r) :
  Calls Try.prog 31 #[.int .i64 a0] w fun e w' => e = .returned (.int .i64 r) ∧ Below w.heap.size w w' := by
 have HB := Aside0.mk (Below.refl w.heap.size w)
 have H : ((spec_l4Kind.f a0).bind fun t384 => (if t384 = true then (spec_CodeMost.l0 k a0 8 0) else (some (-1)))) = some r := h
 clear h
 replace H := Option.bind_eq_some_iff.mp H
 obtain ⟨t384, A20, H⟩ := H
 replace H : (if t384 = true then (spec_CodeMost.l0 k a0 8 0) else (some (-1))) = some r := H
 have A2 := Aside0.mk A20
 clear A20
 by_cases c3 : t384 = true
 ·subst c3
  have H1 : (spec_CodeMost.l0 k a0 8 0) = some r := by rw [if_pos rfl] at H; exact H
  clear H
  have H := H1
  clear H1
  have H' := Aside0.mk H
  clear H
  go_enter Try.func31, Try.ntmps31
  go_wp2_with (first | ((with_reducible refine gate_callee (f := 66) rfl ?_); refine goesL_ (some 7) rfl rfl Try.func66 (by kernel_rfl) rfl #[.int .i64 a0] rfl z9_1 ?_; (with_reducible refine (spec_l4Kind.calls a0 true _ A2.out).mono ?_); rintro e w' ⟨rfl, ⟨nd, rfl⟩⟩; refine ⟨_, rfl, ?_⟩))
  go_loopg [3, 4] k (fun kq v3 v4 w' => ∃ (x3_1 : Int) (x4_1 : Int), v3 = .int .i64 x3_1 ∧ v4 = .int .i64 x4_1 ∧ Aside0 (spec_CodeMost.l0 kq a0 x3_1 x4_1 = some r) ∧ Aside0 (kq ≤ k) ∧ Aside0 (Below w.heap.size w w'))
  case atStart => exact ⟨(8), (0), z9_2, z9_2, H', ⟨Nat.le_refl _⟩, ⟨z9_0⟩⟩
  case round =>
   clear H'
   try clear c3
   obtain ⟨x3_1, x4_1, rfl, rfl, HA, HK1, HB⟩ := hrel
   cases gk with
   | zero => exact absurd HA.out (by simp [spec_CodeMost.l0])
   | succ k1 =>
    have H := HA.out
    clear HA
    simp only [spec_CodeMost.l0] at H
    by_cases c4 : x4_1 < 256
    ·rw [if_pos c4] at H
     have c4b0 : decide (x4_1 < 256) = true := decide_eq_true c4
     clear c4
     replace H := Option.bind_eq_some_iff.mp H
     obtain ⟨t385, A50, H⟩ := H
     replace H : ((spec_CodeBears.f k1 a0 t385).bind fun t388 => (if t388 = true then (spec_CodeMost.l0 k1 a0 x3_1 (wrap64 (x4_1 + 1))) else ((spec_l4Many.f k1 t385).bind fun t389 => (spec_CodeMost.l0 k1 a0 (mn x3_1 (wrap64 ((wrap64 (8 - t389)) - 1))) (wrap64 (x4_1 + 1)))))) = some r := H
     have A5 := Aside0.mk A50
     clear A50
     replace H := Option.bind_eq_some_iff.mp H
     obtain ⟨t388, A60, H⟩ := H
     replace H : (if t388 = true then (spec_CodeMost.l0 k1 a0 x3_1 (wrap64 (x4_1 + 1))) else ((spec_l4Many.f k1 t385).bind fun t389 => (spec_CodeMost.l0 k1 a0 (mn x3_1 (wrap64 ((wrap64 (8 - t389)) - 1))) (wrap64 (x4_1 + 1))))) = some r := H
     have A6 := Aside0.mk A60
     clear A60
     by_cases c7 : t388 = true
     ·subst c7
      have H1 : (spec_CodeMost.l0 k1 a0 x3_1 (wrap64 (x4_1 + 1))) = some r := by rw [if_pos rfl] at H; exact H
      clear H
      have H := H1
      clear H1
      have H' := Aside0.mk H
      clear H
      go_wp2_with (first | ((with_reducible refine gate_callee (f := 71) rfl ?_); refine goesL_ (some 14) rfl rfl Try.func71 (by kernel_rfl) rfl #[.int .i64 x4_1] rfl z9_1 ?_; (with_reducible refine (spec_l4Set.calls k1 x4_1 t385 _ A5.out).mono ?_); rintro e w8 ⟨v386, rfl, ho0, hb⟩; refine ⟨_, rfl, ?_⟩; have HO387 := Aside0.mk (Kd.R_lower ho0 (below_size z9_0)); replace HB := Aside0.mk (below_step z9_0 hb); (try clear hb); (try clear ho0); obtain ⟨Ao9, co9, eo9⟩ := Kd.R_slice HO387.out; subst eo9) | ((with_reducible refine gate_callee (f := 27) rfl ?_); refine goesL_ (some 17) rfl rfl Try.func27 (by kernel_rfl) rfl #[.int .i64 a0, .slice Ao9 t385.length co9] rfl z9_1 ?_; (with_reducible refine (spec_CodeBears.calls k1 a0 _ _ t385 true _ ?side1 ?side2 A6.out).mono ?_); (case side1 => exact cZ ((Kd.R_reads' HO387.out).2.2)); (case side2 => exact (Kd.R_reads' HO387.out).2.1); rintro e w10 ⟨rfl, hb⟩; refine ⟨_, rfl, ?_⟩; replace HO387 := Aside0.mk (Kd.R_below (by (with_reducible repeat (first | apply Kd.R_alloc | apply Kd.R_drewN | apply Kd.R_drew)); exact HO387.out) hb); replace HB := Aside0.mk (below_step z9_0 hb); (try clear hb)))
      go_roundg k1
      case measure => have := HK1.out; omega
      case rel => exact ⟨(x3_1), (wrap64 (x4_1 + 1)), z9_2, z9_2, H', ⟨z9_7⟩, ⟨z9_0⟩⟩
     ·replace c7 := Bool.eq_false_iff.mpr c7
      subst c7
      have H1 : ((spec_l4Many.f k1 t385).bind fun t389 => (spec_CodeMost.l0 k1 a0 (mn x3_1 (wrap64 ((wrap64 (8 - t389)) - 1))) (wrap64 (x4_1 + 1)))) = some r := by rw [if_neg (show ¬ (false = true) by decide)] at H; exact H
      clear H
      have H := H1
      clear H1
      replace H := Option.bind_eq_some_iff.mp H
      obtain ⟨t389, A110, H⟩ := H
      replace H : (spec_CodeMost.l0 k1 a0 (mn x3_1 (wrap64 ((wrap64 (8 - t389)) - 1))) (wrap64 (x4_1 + 1))) = some r := H
      have A11 := Aside0.mk A110
      clear A110
      obtain ⟨ji12, hji12⟩ : ∃ j_ : Int, (mn x3_1 (wrap64 ((wrap64 (8 - t389)) - 1))) = j_ := ⟨_, rfl⟩
      replace H : (spec_CodeMost.l0 k1 a0 ji12 (wrap64 (x4_1 + 1))) = some r := by first | (rw [hji12] at H; exact H) | (simp only [hji12] at H ⊢; exact H)
      (try rw [hji12] at A5)
      (try rw [hji12] at A6)
      (try rw [hji12] at A11)
      have hji12_ : (if (wrap64 ((wrap64 (8 - t389)) - 1)) < x3_1 then (wrap64 ((wrap64 (8 - t389)) - 1)) else x3_1) = ji12 := hji12
      have H' := Aside0.mk H
      clear H
      go_wp2_with (first | ((with_reducible refine gate_callee (f := 71) rfl ?_); refine goesL_ (some 14) rfl rfl Try.func71 (by kernel_rfl) rfl #[.int .i64 x4_1] rfl z9_1 ?_; (with_reducible refine (spec_l4Set.calls k1 x4_1 t385 _ A5.out).mono ?_); rintro e w13 ⟨v386, rfl, ho0, hb⟩; refine ⟨_, rfl, ?_⟩; have HO387 := Aside0.mk (Kd.R_lower ho0 (below_size z9_0)); replace HB := Aside0.mk (below_step z9_0 hb); (try clear hb); (try clear ho0); obtain ⟨Ao14, co14, eo14⟩ := Kd.R_slice HO387.out; subst eo14) | ((with_reducible refine gate_callee (f := 27) rfl ?_); refine goesL_ (some 17) rfl rfl Try.func27 (by kernel_rfl) rfl #[.int .i64 a0, .slice Ao14 t385.length co14] rfl z9_1 ?_; (with_reducible refine (spec_CodeBears.calls k1 a0 _ _ t385 false _ ?side1 ?side2 A6.out).mono ?_); (case side1 => exact cZ ((Kd.R_reads' HO387.out).2.2)); (case side2 => exact (Kd.R_reads' HO387.out).2.1); rintro e w15 ⟨rfl, hb⟩; refine ⟨_, rfl, ?_⟩; replace HO387 := Aside0.mk (Kd.R_below (by (with_reducible repeat (first | apply Kd.R_alloc | apply Kd.R_drewN | apply Kd.R_drew)); exact HO387.out) hb); replace HB := Aside0.mk (below_step z9_0 hb); (try clear hb)) | ((with_reducible refine gate_callee (f := 72) rfl ?_); refine goesL_ (some 21) rfl rfl Try.func72 (by kernel_rfl) rfl #[.slice Ao14 t385.length co14] rfl z9_1 ?_; (with_reducible refine (spec_l4Many.calls k1 _ _ t385 t389 _ ?side1 ?side2 A11.out).mono ?_); (case side1 => exact cZ ((Kd.R_reads' HO387.out).2.2)); (case side2 => exact (Kd.R_reads' HO387.out).2.1); rintro e w' ⟨rfl, ⟨nd, rfl⟩⟩; refine ⟨_, rfl, ?_⟩))
      go_roundg k1
      case measure => have := HK1.out; omega
      case rel => exact ⟨(ji12), (wrap64 (x4_1 + 1)), (by first | rfl | (simp; done) | (simp only [← hji12] <;> (first | rfl | simp)) | (simp [*]; done)), z9_2, H', ⟨z9_7⟩, ⟨z9_0⟩⟩
    ·rw [if_neg c4] at H
     have c4b0 : decide (x4_1 < 256) = false := decide_eq_false c4
     clear c4
     obtain rfl := Option.some.inj H
     go_wp2
     go_ret
     exact ⟨z9_3, z9_0⟩
 ·replace c3 := Bool.eq_false_iff.mpr c3
  subst c3
  have H1 : (some (-1)) = some r := by rw [if_neg (show ¬ (false = true) by decide)] at H; exact H
  clear H
  have H := H1
  clear H1
  obtain rfl := Option.some.inj H
  go_enter Try.func31, Try.ntmps31
  go_wp2_with (first | ((with_reducible refine gate_callee (f := 66) rfl ?_); refine goesL_ (some 7) rfl rfl Try.func66 (by kernel_rfl) rfl #[.int .i64 a0] rfl z9_1 ?_; (with_reducible refine (spec_l4Kind.calls a0 false _ A2.out).mono ?_); rintro e w' ⟨rfl, ⟨nd, rfl⟩⟩; refine ⟨_, rfl, ?_⟩))
  go_ret
  exact ⟨z9_3, z9_0⟩

-- NOT PRINTED: function 73 (impl_chosen)

end Go.Proofs.Ytamaejafddmagaa.PA
