import Derived.Test.YtamaejafddmagaaPAx0
import Derived.Test.YtamaejafddmagaaPAx1
import Derived.Test.YtamaejafddmagaaPAx4
import Derived.Test.YtamaejafddmagaaGw
import Derived.Test.YtamaejafddmagaaGm
import Derived.Test.YtamaejafddmagaaGc
namespace Go.Proofs.Ytamaejafddmagaa.PA
open Go.RowKit Go.Proofs.YtamaejafddmagaaW.PrintWords Go.Proofs.YtamaejafddmagaaW.PrintLast Go.Proofs.YtamaejafddmagaaW.PrintMore
attribute [local go_sem] max2_int min2_int max_two min_two max_three min_three max_four min_four   -- for this text's walks alone
set_option linter.unusedVariables false
set_option linter.unusedSimpArgs false

/-! ### impl_bears: function 69 -/
theorem z6_0 {p : Prop} (h : p := by repeat (first | (with_reducible first | exact HB.out | apply below_alloc | apply pw_below_drewN | apply below_drew1) | exact HB.out)) : p := h
theorem z6_1 {p : Prop} (h : p := by (try simp only [List.map_toArray, List.map_cons, List.map_nil]); first | done | rfl | (simp only [List.length_drop, List.length_take]; rfl)) : p := h
theorem z6_2 {p : Prop} (h : p := by first | rfl | (simp [errW_none, errW_some] <;> rfl) | (simp [*, errW_none, errW_some] <;> rfl)) : p := h
theorem z6_3 {p : Prop} (h : p := by (with_reducible repeat (first | apply Kd.R_alloc | apply Kd.R_drewN | apply Kd.R_drew)); exact HO_3.out) : p := h
theorem z6_4 {p : Prop} (h : p := by first | rfl | (simp; done) | (simp [*]; done)) : p := h
theorem z6_5 {p : Prop} (h : p := by first | (with_reducible assumption) | assumption) : p := h
def impl_bears.f (k : Nat) (a0 : Int) (l1 : List Int) : Option (Bool) := (impl_rowsOf.f k a0 l1).bind fun t240 => ((impl_rank.f k t240).bind fun t243 => (some (t243 == 4)))
set_option maxHeartbeats 8000000 in
set_option maxRecDepth 100000 in
theorem impl_bears.calls (k : Nat) (a0 : Int) (A1 : Option Addr) (c1 : Nat) (l1 : List Int) (r : Bool) (w : World) (hr1 : Kd.C (Kd.int .i64) w A1 l1.length l1) (hc1 : l1.length ≤ c1) (h : impl_bears.f k a0 l1 = some r) :
  Calls Try.prog 69 #[.int .i64 a0, .slice A1 l1.length c1] w fun e w' => e = .returned (.bool r) ∧ Below w.heap.size w w' := by
 have HR1 := Aside0.mk hr1
 have HC1 := Aside0.mk hc1
 clear hr1 hc1
 have HB := Aside0.mk (Below.refl w.heap.size w)
 unfold impl_bears.f at h
 have H := h
 clear h
 replace H := Option.bind_eq_some_iff.mp H
 obtain ⟨t240, A30, H⟩ := H
 have A3 := Aside0.mk A30
 clear A30
 replace H := Option.bind_eq_some_iff.mp H
 obtain ⟨t243, A40, H⟩ := H
 have A4 := Aside0.mk A40
 clear A40
 obtain rfl := Option.some.inj H
 go_enter Try.func69, Try.ntmps69
 go_wp2_with (first | ((with_reducible refine gate_callee (f := 108) rfl ?_); refine goesL_ (some 7) rfl rfl Try.func108 (by kernel_rfl) rfl #[.int .i64 a0, .slice A1 l1.length c1] rfl z6_1 ?_; (with_reducible refine (impl_rowsOf.calls k a0 _ _ l1 t240 _ ?side1 ?side2 A3.out).mono ?_); (case side1 => exact cZ (HR1.out)); (case side2 => exact HC1.out); rintro e w5 ⟨v241, rfl, ho0, hb⟩; refine ⟨_, rfl, ?_⟩; have HO242 := Aside0.mk (Kd.R_lower ho0 (below_size z6_0)); replace HB := Aside0.mk (below_step z6_0 hb); (try clear hb); (try clear ho0); obtain ⟨Ao6, co6, eo6⟩ := Kd.R_slice HO242.out; subst eo6) | ((with_reducible refine gate_callee (f := 61) rfl ?_); refine goesL_ (some 8) rfl rfl Try.func61 (by kernel_rfl) rfl #[.slice Ao6 t240.length co6] rfl z6_1 ?_; (with_reducible refine (impl_rank.calls k _ _ t240 t243 _ ?side1 ?side2 A4.out).mono ?_); (case side1 => exact cZ ((Kd.R_reads' HO242.out).2.2)); (case side2 => exact (Kd.R_reads' HO242.out).2.1); rintro e w7 ⟨rfl, hb⟩; refine ⟨_, rfl, ?_⟩; replace HO242 := Aside0.mk (Kd.R_below (by (with_reducible repeat (first | apply Kd.R_alloc | apply Kd.R_drewN | apply Kd.R_drew)); exact HO242.out) hb); replace HB := Aside0.mk (below_step z6_0 hb); (try clear hb)))
 go_ret
 exact ⟨z6_2, z6_0⟩

/-! ### impl_flagged: function 70 -/
def impl_flagged.l0 : Nat → List Int → List Bool → Int → Int → Option (List Int)
  | 0, _, _, _, _ => none
  | k + 1, x3, x7, x8, x9 => if x9 < x8 then (if 0 ≤ x9 then (if x9 < (x7.length : Int) then (if rdOf false x7 x9 = true then (if x3.length < 17592186044416 then (impl_flagged.l0 k (x3 ++ [x9]) x7 x8 (wrap64 (x9 + 1))) else (none)) else (impl_flagged.l0 k x3 x7 x8 (wrap64 (x9 + 1)))) else (none)) else (none)) else (some x3)
def impl_flagged.f (k : Nat) (l0 : List Bool) : Option (List Int) := if 8 ≤ 35184372088832 then (impl_flagged.l0 k (([] : List Int)) l0 (l0.length : Int) 0) else (none)
set_option maxHeartbeats 8000000 in
set_option maxRecDepth 100000 in
theorem impl_flagged.calls (k : Nat) (A0 : Option Addr) (c0 : Nat) (l0 : List Bool) (r : List Int) (w : World) (hr0 : Kd.C Kd.bool w A0 l0.length l0) (hc0 : l0.length ≤ c0) (h : impl_flagged.f k l0 = some r) :
  Calls Try.prog 70 #[.slice A0 l0.length c0] w fun e w' => ∃ v0_ : Value, e = .returned (v0_) ∧ Kd.R (Kd.int .i64) 3 w' w.heap.size (fun _ => True) v0_ r ∧ Below w.heap.size w w' := by
 have HR0 := Aside0.mk hr0
 have HC0 := Aside0.mk hc0
 clear hr0 hc0
 have HB := Aside0.mk (Below.refl w.heap.size w)
 unfold impl_flagged.f at h
 have H := h
 clear h
 obtain ⟨c2, H⟩ := ifP H
 have c2b0 := eq_true c2
 have c2b1 : decide (8 ≤ 35184372088832) = true := decide_eq_true c2
 clear c2
 obtain ⟨y244, hy244⟩ : ∃ y_ : List Int, y_ = (([] : List Int)) := ⟨_, rfl⟩
 replace H : (impl_flagged.l0 k y244 l0 (l0.length : Int) 0) = some r := yZZ_ hy244 H
 have Ny244 := Aside0.mk hy244
 clear hy244
 have H' := Aside0.mk H
 clear H
 go_enter Try.func70, Try.ntmps70
 go_wp2_with (first | ((with_reducible refine gate_dst (N := 6) rfl ?_); refine R_make0 (Kd.int .i64) _ 3 rfl (N := 6) rfl 28 _ _ rfl 8 rfl rfl Try.underlying28 (.int .i64 0) 8 info3 (by decide) (ok := fun _ => True) (okp := fun _ => True) (fun _ hk => hk) trivial (by omega) (by omega) (Below.refl _ _) (Nat.le_refl _) ?_; intro v245 w3 ho4 hb hg_ hnew_; clear hg_ hnew_; (first | rw [← Ny244.out] at ho4 | (simp only [Int.reduceToNat] at ho4; rw [← Ny244.out] at ho4)); have HO246 := Aside0.mk (Kd.R_lower ho4 (below_size z6_0)); replace HB := Aside0.mk (below_step z6_0 hb); clear hb ho4))
 go_loopg [3, 9] k (fun kq v3 v9 w' => ∃ (x3_1 : List Int) (x9_1 : Int), v9 = .int .i64 x9_1 ∧ Aside0 (impl_flagged.l0 kq x3_1 l0 (l0.length : Int) x9_1 = some r) ∧ Aside0 (kq ≤ k) ∧ Aside0 (Kd.R (Kd.int .i64) 3 w' w.heap.size (fun _ => True) v3 x3_1) ∧ Aside0 (Below w.heap.size w w'))
 case atStart => exact ⟨(y244), (0), z6_4, H', ⟨Nat.le_refl _⟩, ⟨by (with_reducible repeat (first | apply Kd.R_alloc | apply Kd.R_drewN | apply Kd.R_drew)); exact HO246.out⟩, ⟨z6_0⟩⟩
 case round =>
  clear H'
  try clear c2
  try clear c2b0
  try clear c2b1
  obtain ⟨x3_1, x9_1, rfl, HA, HK1, HO_3, HB⟩ := hrel
  cases gk with
  | zero => exact absurd HA.out (by simp [impl_flagged.l0])
  | succ k1 =>
   have H := HA.out
   clear HA; simp only [impl_flagged.l0] at H
   by_cases c5 : x9_1 < (l0.length : Int)
   ·rw [if_pos c5] at H
    have c5b0 : decide (x9_1 < (l0.length : Int)) = true := decide_eq_true c5; clear c5; obtain ⟨c6, H⟩ := ifP H; have c6b0 : decide (0 ≤ x9_1) = true := decide_eq_true c6; clear c6; obtain ⟨c7, H⟩ := ifP H; have c7b0 : decide (x9_1 < (l0.length : Int)) = true := decide_eq_true c7; clear c7
    obtain ⟨bq8, hbq8⟩ : ∃ b_ : Bool, b_ = (rdOf false l0 x9_1) := ⟨_, rfl⟩
    replace H : (if bq8 = true then (if x3_1.length < 17592186044416 then (impl_flagged.l0 k1 (x3_1 ++ [x9_1]) l0 (l0.length : Int) (wrap64 (x9_1 + 1))) else (none)) else (impl_flagged.l0 k1 x3_1 l0 (l0.length : Int) (wrap64 (x9_1 + 1)))) = some r := by rw [← hbq8] at H; exact H
    have Nbq8 := Aside0.mk hbq8
    clear hbq8
    by_cases c9 : bq8 = true
    ·subst c9
     rw [if_pos rfl] at H; obtain ⟨c10, H⟩ := ifP H
     have LMc10 := Aside0.mk c10
     clear c10
     obtain ⟨y248, hy248⟩ : ∃ y_ : List Int, y_ = (x3_1 ++ [x9_1]) := ⟨_, rfl⟩
     replace H : (impl_flagged.l0 k1 y248 l0 (l0.length : Int) (wrap64 (x9_1 + 1))) = some r := yZZ_ hy248 H
     have Ny248 := Aside0.mk hy248
     clear hy248
     have H' := Aside0.mk H
     clear H; have p247 : 0 ≤ (x9_1 : Int) := of_decide_eq_true z6_5; have q247 : x9_1 < (l0.length : Int) := of_decide_eq_true z6_5; obtain ⟨ad247, e247, hx247_0⟩ := Kd.at_bool HR0.out x9_1 p247 q247; (try rw [← Nbq8.out] at hx247_0); cases e247
     replace hx247_0 := (HB.out.cell (World.block_lt_of_cell? w _ hx247_0)).trans hx247_0
     replace p247 := eq_true p247
     replace q247 := eq_true q247
     go_wp2_with (first | ((with_reducible refine gate_builtin (b := .append) (xs := #[.tmp 15, .tmp 17]) rfl ?_); at_builtin; refine Kd.R_append (Kd.int .i64) (w0 := w) w.heap.size rfl (.tmp 15) (.tmp 17) 28 3 (.int .i64 0) 8 rfl Try.underlying28 info3 rfl (by decide) (by omega) u3 x3_1 x9_1 [.int .i64 x9_1] (fun _ => True) (fun _ => False) rfl rfl ?aP (fun _ hk => hk.elim) ?aF ?aO ?aB ?aS ?aL ?_; (case aP => exact rfl); (case aB => exact z6_0); (case aF => exact (fun _ _ => trivial)); (case aO => exact z6_3); (case aS => exact (below_size z6_0)); (case aL => have := LMc10.out; omega); intro v249 w11 ho hb hg hat; rw [← Ny248.out] at ho; have n0_ := Aside0.mk (hb); have n1_ := Aside0.mk (ho); clear HB; clear HO_3; have HB := n0_; have HO250 := n1_; clear n0_ n1_; clear ho hb hg hat))
     go_roundg k1
     case measure => have := HK1.out; omega
     case rel => exact ⟨(y248), (wrap64 (x9_1 + 1)), z6_4, H', ⟨by have := HK1.out; omega⟩, ⟨by (with_reducible repeat (first | apply Kd.R_alloc | apply Kd.R_drewN | apply Kd.R_drew)); exact HO250.out⟩, ⟨z6_0⟩⟩
    ·replace c9 := Bool.eq_false_iff.mpr c9
     subst c9; rw [if_neg (show ¬ (false = true) by decide)] at H
     have H' := Aside0.mk H
     clear H; have p247 : 0 ≤ (x9_1 : Int) := of_decide_eq_true z6_5; have q247 : x9_1 < (l0.length : Int) := of_decide_eq_true z6_5; obtain ⟨ad247, e247, hx247_0⟩ := Kd.at_bool HR0.out x9_1 p247 q247; (try rw [← Nbq8.out] at hx247_0); cases e247
     replace hx247_0 := (HB.out.cell (World.block_lt_of_cell? w _ hx247_0)).trans hx247_0
     replace p247 := eq_true p247
     replace q247 := eq_true q247
     go_wp2
     go_roundg k1
     case measure => have := HK1.out; omega
     case rel => exact ⟨(x3_1), (wrap64 (x9_1 + 1)), z6_4, H', ⟨by have := HK1.out; omega⟩, ⟨z6_3⟩, ⟨z6_0⟩⟩
   ·rw [if_neg c5] at H
    have c5b0 : decide (x9_1 < (l0.length : Int)) = false := decide_eq_false c5; clear c5
    obtain rfl := Option.some.inj H
    go_wp2
    go_ret; exact ⟨_, z6_2, z6_3, z6_0⟩

/-! ### impl_CodeBears: function 29 -/
def impl_CodeBears.f (k : Nat) (a0 : Int) (l1 : List Bool) : Option (Bool) := (impl_kindOk.f a0).bind fun t251 => (if t251 = true then (if (l1.length : Int) = 8 then ((impl_flagged.f k l1).bind fun t252 => ((impl_bears.f k a0 t252).bind fun t255 => (some t255))) else (some false)) else (some false))
set_option maxHeartbeats 8000000 in
set_option maxRecDepth 100000 in
theorem impl_CodeBears.calls (k : Nat) (a0 : Int) (A1 : Option Addr) (c1 : Nat) (l1 : List Bool) (r : Bool) (w : World) (hr1 : Kd.C Kd.bool w A1 l1.length l1) (hc1 : l1.length ≤ c1) (h : impl_CodeBears.f k a0 l1 = some r) :
  Calls Try.prog 29 #[.int .i64 a0, .slice A1 l1.length c1] w fun e w' => e = .returned (.bool r) ∧ Below w.heap.size w w' := by
 have HR1 := Aside0.mk hr1
 have HC1 := Aside0.mk hc1
 clear hr1 hc1
 have HB := Aside0.mk (Below.refl w.heap.size w)
 unfold impl_CodeBears.f at h
 have H := h
 clear h
 replace H := Option.bind_eq_some_iff.mp H
 obtain ⟨t251, A30, H⟩ := H
 have A3 := Aside0.mk A30
 clear A30
 by_cases c4 : t251 = true
 ·subst c4
  rw [if_pos rfl] at H
  by_cases c5 : (l1.length : Int) = 8
  ·rw [if_pos c5] at H
   have c5b0 : ((l1.length : Int) == 8) = true := beq_iff_eq.mpr c5
   have c5b1 : ((l1.length : Int) != 8) = false := bne_eq_false_iff_eq.mpr c5
   clear c5
   replace H := Option.bind_eq_some_iff.mp H
   obtain ⟨t252, A60, H⟩ := H
   have A6 := Aside0.mk A60
   clear A60
   replace H := Option.bind_eq_some_iff.mp H
   obtain ⟨t255, A70, H⟩ := H
   have A7 := Aside0.mk A70
   clear A70
   obtain rfl := Option.some.inj H
   go_enter Try.func29, Try.ntmps29
   go_wp2_with (first | ((with_reducible refine gate_callee (f := 68) rfl ?_); refine goesL_ (some 6) rfl rfl Try.func68 (by kernel_rfl) rfl #[.int .i64 a0] rfl z6_1 ?_; (with_reducible refine (impl_kindOk.calls a0 true _ A3.out).mono ?_); rintro e w' ⟨rfl, ⟨nd, rfl⟩⟩; refine ⟨_, rfl, ?_⟩) | (go_at_call 70; (with_reducible refine (impl_flagged.calls k _ _ l1 t252 _ ?side1 ?side2 A6.out).mono ?_); (case side1 => exact cZ (HR1.out)); (case side2 => exact HC1.out); rintro e w8 ⟨v253, rfl, ho0, hb⟩; have HO254 := Aside0.mk (Kd.R_lower ho0 (below_size z6_0)); replace HB := Aside0.mk (below_step z6_0 hb); (try clear hb); (try clear ho0); obtain ⟨Ao9, co9, eo9⟩ := Kd.R_slice HO254.out; subst eo9) | (go_at_call 69; (with_reducible refine (impl_bears.calls k a0 _ _ t252 t255 _ ?side1 ?side2 A7.out).mono ?_); (case side1 => exact cZ ((Kd.R_reads' HO254.out).2.2)); (case side2 => exact (Kd.R_reads' HO254.out).2.1); rintro e w10 ⟨rfl, hb⟩; replace HO254 := Aside0.mk (Kd.R_below (by (with_reducible repeat (first | apply Kd.R_alloc | apply Kd.R_drewN | apply Kd.R_drew)); exact HO254.out) hb); replace HB := Aside0.mk (below_step z6_0 hb); (try clear hb)))
   go_ret; exact ⟨z6_2, z6_0⟩
  ·rw [if_neg c5] at H
   have c5b0 : ((l1.length : Int) == 8) = false := beq_eq_false_iff_ne.mpr c5
   have c5b1 : ((l1.length : Int) != 8) = true := bne_iff_ne.mpr c5
   obtain rfl := Option.some.inj H
   go_enter Try.func29, Try.ntmps29
   go_wp2_with (first | ((with_reducible refine gate_callee (f := 68) rfl ?_); refine goesL_ (some 6) rfl rfl Try.func68 (by kernel_rfl) rfl #[.int .i64 a0] rfl z6_1 ?_; (with_reducible refine (impl_kindOk.calls a0 true _ A3.out).mono ?_); rintro e w' ⟨rfl, ⟨nd, rfl⟩⟩; refine ⟨_, rfl, ?_⟩))
   go_ret; exact ⟨z6_2, z6_0⟩
 ·replace c4 := Bool.eq_false_iff.mpr c4
  subst c4; rw [if_neg (show ¬ (false = true) by decide)] at H
  obtain rfl := Option.some.inj H
  go_enter Try.func29, Try.ntmps29
  go_wp2_with (first | ((with_reducible refine gate_callee (f := 68) rfl ?_); refine goesL_ (some 6) rfl rfl Try.func68 (by kernel_rfl) rfl #[.int .i64 a0] rfl z6_1 ?_; (with_reducible refine (impl_kindOk.calls a0 false _ A3.out).mono ?_); rintro e w' ⟨rfl, ⟨nd, rfl⟩⟩; refine ⟨_, rfl, ?_⟩))
  go_ret; exact ⟨z6_2, z6_0⟩

-- GIVEN: function 98 (impl_elementsOk)

/-! ### impl_valsOk: function 83 -/
def impl_valsOk.f (l0 : List Int) : Option (Bool) := (impl_elementsOk.f l0 8).bind fun t256 => (some t256)
set_option maxHeartbeats 8000000 in
set_option maxRecDepth 100000 in
theorem impl_valsOk.calls (A0 : Option Addr) (c0 : Nat) (l0 : List Int) (r : Bool) (w : World) (hr0 : Kd.C (Kd.int .i64) w A0 l0.length l0) (hc0 : l0.length ≤ c0) (h : impl_valsOk.f l0 = some r) :
  Calls Try.prog 83 #[.slice A0 l0.length c0] w fun e w' => e = .returned (.bool r) ∧ Drawn0 w w' := by
 have HR0 := Aside0.mk hr0
 have HC0 := Aside0.mk hc0
 clear hr0 hc0
 unfold impl_valsOk.f at h
 have H := h
 clear h
 replace H := Option.bind_eq_some_iff.mp H
 obtain ⟨t256, A20, H⟩ := H
 have A2 := Aside0.mk A20
 clear A20
 obtain rfl := Option.some.inj H
 go_enter Try.func83, Try.ntmps83
 go_wp2_with (first | ((with_reducible refine gate_callee (f := 98) rfl ?_); refine goesL_ (some 4) rfl rfl Try.func98 (by kernel_rfl) rfl #[.slice A0 l0.length c0, .int .i64 8] rfl z6_1 ?_; (with_reducible refine (impl_elementsOk.calls _ _ l0 8 t256 _ ?side1 ?side2 A2.out).mono ?_); (case side1 => exact cZ (HR0.out)); (case side2 => exact HC0.out); rintro e w' ⟨rfl, ⟨nd, rfl⟩⟩; refine ⟨_, rfl, ?_⟩))
 go_ret
 exact ⟨z6_4, by repeat (first | exact Drawn0.refl _ | apply Drawn0.step)⟩

-- GIVEN: function 113 (impl_vector_dot)

/-! ### impl_element_plus: function 89 -/
def impl_element_plus.f (a0 : Int) (a1 : Int) : Option (Int) := (impl_elementOf.f (wrap64 (a0 + a1))).bind fun t257 => (some t257)
set_option maxHeartbeats 8000000 in
set_option maxRecDepth 100000 in
theorem impl_element_plus.calls (a0 : Int) (a1 : Int) (r : Int) (w : World) (h : impl_element_plus.f a0 a1 = some r) :
  Calls Try.prog 89 #[.int .i64 a0, .int .i64 a1] w fun e w' => e = .returned (.int .i64 r) ∧ Drawn0 w w' := by
 unfold impl_element_plus.f at h
 have H := h
 clear h
 replace H := Option.bind_eq_some_iff.mp H
 obtain ⟨t257, A30, H⟩ := H
 have A3 := Aside0.mk A30
 clear A30
 obtain rfl := Option.some.inj H
 go_enter Try.func89, Try.ntmps89
 go_wp2_with (first | ((with_reducible refine gate_callee (f := 118) rfl ?_); refine goesL_ (some 8) rfl rfl Try.func118 (by kernel_rfl) rfl #[.int .i64 (wrap64 (a0 + a1))] rfl z6_1 ?_; (with_reducible refine (impl_elementOf.calls (wrap64 (a0 + a1)) t257 _ A3.out).mono ?_); rintro e w' ⟨rfl, ⟨nd, rfl⟩⟩; refine ⟨_, rfl, ?_⟩))
 go_ret
 exact ⟨z6_4, by repeat (first | exact Drawn0.refl _ | apply Drawn0.step)⟩

end Go.Proofs.Ytamaejafddmagaa.PA
namespace Go.Proofs.Ytamaejafddmagaa.PA
open Go.RowKit Go.Proofs.YtamaejafddmagaaW.PrintWords Go.Proofs.YtamaejafddmagaaW.PrintLast Go.Proofs.YtamaejafddmagaaW.PrintMore
attribute [local go_sem] max2_int min2_int max_two min_two max_three min_three max_four min_four   -- for this text's walks alone
set_option linter.unusedVariables false
set_option linter.unusedSimpArgs false

/-! ### impl_solve: function 114 -/
mutual
def impl_solve.l0 : Nat → List Int → List Int → List (S131) → List (S102) → Int → Int → Int → Int → Int → Int → Option (Int × Int × Int × Int)
  | 0, _, _, _, _, _, _, _, _, _, _ => none
  | k + 1, x1, x2, x9, x29, x30, x31, x260000, x260001, x260002, x260003 => if x31 < x30 then (if 0 ≤ x31 then (if x31 < (x29.length : Int) then (impl_solve.l1 k x1 x2 x9 0 x29 x30 x31 x2 (x2.length : Int) 0 x260000 x260001 x260002 x260003 ((rd_T102 x29 x31).f0.f0) ((rd_T102 x29 x31).f0.f1) ((rd_T102 x29 x31).f0.f2) ((rd_T102 x29 x31).f0.f3) ((rd_T102 x29 x31).f1.f0) ((rd_T102 x29 x31).f1.f1) ((rd_T102 x29 x31).f1.f2) ((rd_T102 x29 x31).f1.f3) ((rd_T102 x29 x31).f1.f4) ((rd_T102 x29 x31).f1.f5) ((rd_T102 x29 x31).f1.f6) ((rd_T102 x29 x31).f1.f7)) else (none)) else (none)) else (impl_solve.l2 k x9 (x9.length : Int) 0 x260000 x260001 x260002 x260003)
def impl_solve.l1 : Nat → List Int → List Int → List (S131) → Int → List (S102) → Int → Int → List Int → Int → Int → Int → Int → Int → Int → Int → Int → Int → Int → Int → Int → Int → Int → Int → Int → Int → Int → Option (Int × Int × Int × Int)
  | 0, _, _, _, _, _, _, _, _, _, _, _, _, _, _, _, _, _, _, _, _, _, _, _, _, _, _ => none
  | k + 1, x1, x2, x9, x12, x29, x30, x31, x35, x36, x37, x260000, x260001, x260002, x260003, x275000, x275001, x275002, x275003, x275004, x275005, x275006, x275007, x275008, x275009, x275010, x275011 => if x37 < x36 then (if 0 ≤ x37 then (if x37 < (x35.length : Int) then (if x37 = 0 then (if 0 ≤ (rd x35 x37) then (if (rd x35 x37) < (x1.length : Int) then ((impl_element_times.f x275004 (rd x1 (rd x35 x37))).bind fun t277 => ((impl_element_plus.f x12 t277).bind fun t278 => (impl_solve.l1 k x1 x2 x9 t278 x29 x30 x31 x35 x36 (wrap64 (x37 + 1)) x260000 x260001 x260002 x260003 x275000 x275001 x275002 x275003 x275004 x275005 x275006 x275007 x275008 x275009 x275010 x275011))) else (none)) else (none)) else (if x37 = 1 then (if 0 ≤ (rd x35 x37) then (if (rd x35 x37) < (x1.length : Int) then ((impl_element_times.f x275005 (rd x1 (rd x35 x37))).bind fun t280 => ((impl_element_plus.f x12 t280).bind fun t281 => (impl_solve.l1 k x1 x2 x9 t281 x29 x30 x31 x35 x36 (wrap64 (x37 + 1)) x260000 x260001 x260002 x260003 x275000 x275001 x275002 x275003 x275004 x275005 x275006 x275007 x275008 x275009 x275010 x275011))) else (none)) else (none)) else (if x37 = 2 then (if 0 ≤ (rd x35 x37) then (if (rd x35 x37) < (x1.length : Int) then ((impl_element_times.f x275006 (rd x1 (rd x35 x37))).bind fun t283 => ((impl_element_plus.f x12 t283).bind fun t284 => (impl_solve.l1 k x1 x2 x9 t284 x29 x30 x31 x35 x36 (wrap64 (x37 + 1)) x260000 x260001 x260002 x260003 x275000 x275001 x275002 x275003 x275004 x275005 x275006 x275007 x275008 x275009 x275010 x275011))) else (none)) else (none)) else (if x37 = 3 then (if 0 ≤ (rd x35 x37) then (if (rd x35 x37) < (x1.length : Int) then ((impl_element_times.f x275007 (rd x1 (rd x35 x37))).bind fun t286 => ((impl_element_plus.f x12 t286).bind fun t287 => (impl_solve.l1 k x1 x2 x9 t287 x29 x30 x31 x35 x36 (wrap64 (x37 + 1)) x260000 x260001 x260002 x260003 x275000 x275001 x275002 x275003 x275004 x275005 x275006 x275007 x275008 x275009 x275010 x275011))) else (none)) else (none)) else (if x37 = 4 then (if 0 ≤ (rd x35 x37) then (if (rd x35 x37) < (x1.length : Int) then ((impl_element_times.f x275008 (rd x1 (rd x35 x37))).bind fun t289 => ((impl_element_plus.f x12 t289).bind fun t290 => (impl_solve.l1 k x1 x2 x9 t290 x29 x30 x31 x35 x36 (wrap64 (x37 + 1)) x260000 x260001 x260002 x260003 x275000 x275001 x275002 x275003 x275004 x275005 x275006 x275007 x275008 x275009 x275010 x275011))) else (none)) else (none)) else (if x37 = 5 then (if 0 ≤ (rd x35 x37) then (if (rd x35 x37) < (x1.length : Int) then ((impl_element_times.f x275009 (rd x1 (rd x35 x37))).bind fun t292 => ((impl_element_plus.f x12 t292).bind fun t293 => (impl_solve.l1 k x1 x2 x9 t293 x29 x30 x31 x35 x36 (wrap64 (x37 + 1)) x260000 x260001 x260002 x260003 x275000 x275001 x275002 x275003 x275004 x275005 x275006 x275007 x275008 x275009 x275010 x275011))) else (none)) else (none)) else (if x37 = 6 then (if 0 ≤ (rd x35 x37) then (if (rd x35 x37) < (x1.length : Int) then ((impl_element_times.f x275010 (rd x1 (rd x35 x37))).bind fun t295 => ((impl_element_plus.f x12 t295).bind fun t296 => (impl_solve.l1 k x1 x2 x9 t296 x29 x30 x31 x35 x36 (wrap64 (x37 + 1)) x260000 x260001 x260002 x260003 x275000 x275001 x275002 x275003 x275004 x275005 x275006 x275007 x275008 x275009 x275010 x275011))) else (none)) else (none)) else (if x37 = 7 then (if 0 ≤ (rd x35 x37) then (if (rd x35 x37) < (x1.length : Int) then ((impl_element_times.f x275011 (rd x1 (rd x35 x37))).bind fun t298 => ((impl_element_plus.f x12 t298).bind fun t299 => (impl_solve.l1 k x1 x2 x9 t299 x29 x30 x31 x35 x36 (wrap64 (x37 + 1)) x260000 x260001 x260002 x260003 x275000 x275001 x275002 x275003 x275004 x275005 x275006 x275007 x275008 x275009 x275010 x275011))) else (none)) else (none)) else (none))))))))) else (none)) else (none)) else (if x9.length < 3518437208883 then (impl_solve.l0 k x1 x2 (x9 ++ [(⟨(⟨x275000, x275001, x275002, x275003⟩ : S70), x12⟩ : S131)]) x29 x30 (wrap64 (x31 + 1)) x260000 x260001 x260002 x260003) else (none))
def impl_solve.l2 : Nat → List (S131) → Int → Int → Int → Int → Int → Int → Option (Int × Int × Int × Int)
  | 0, _, _, _, _, _, _, _ => none
  | k + 1, x9, x63, x64, x260000, x260001, x260002, x260003 => if x64 < x63 then (if 0 ≤ x64 then (if x64 < (x9.length : Int) then ((impl_vector_lead.f ((rd_T131 x9 x64).f0.f0) ((rd_T131 x9 x64).f0.f1) ((rd_T131 x9 x64).f0.f2) ((rd_T131 x9 x64).f0.f3)).bind fun t304 => (impl_solve.l3 k x9 x64 t304 x63 x64 (x9.length : Int) 0 x260000 x260001 x260002 x260003)) else (none)) else (none)) else (impl_solve.l4 k x9 (x9.length : Int) 0 x260000 x260001 x260002 x260003)
def impl_solve.l3 : Nat → List (S131) → Int → Int → Int → Int → Int → Int → Int → Int → Int → Int → Option (Int × Int × Int × Int)
  | 0, _, _, _, _, _, _, _, _, _, _, _ => none
  | k + 1, x9, x15, x16, x63, x64, x74, x75, x260000, x260001, x260002, x260003 => if x75 < x74 then (if 0 ≤ x75 then (if x75 < (x9.length : Int) then (if x16 = 0 then (impl_solve.j4 k x9 x15 x16 x75 ((rd_T131 x9 x75).f0.f0) x63 x64 x74 x75 x260000 x260001 x260002 x260003) else (if x16 = 1 then (impl_solve.j4 k x9 x15 x16 x75 ((rd_T131 x9 x75).f0.f1) x63 x64 x74 x75 x260000 x260001 x260002 x260003) else (if x16 = 2 then (impl_solve.j4 k x9 x15 x16 x75 ((rd_T131 x9 x75).f0.f2) x63 x64 x74 x75 x260000 x260001 x260002 x260003) else (if x16 = 3 then (impl_solve.j4 k x9 x15 x16 x75 ((rd_T131 x9 x75).f0.f3) x63 x64 x74 x75 x260000 x260001 x260002 x260003) else (none))))) else (none)) else (none)) else (impl_solve.l2 k x9 x63 (wrap64 (x64 + 1)) x260000 x260001 x260002 x260003)
def impl_solve.j4 : Nat → List (S131) → Int → Int → Int → Int → Int → Int → Int → Int → Int → Int → Int → Int → Option (Int × Int × Int × Int)
  | 0, _, _, _, _, _, _, _, _, _, _, _, _, _ => none
  | k + 1, x9, x15, x16, x17, x18, x63, x64, x74, x75, x260000, x260001, x260002, x260003 => if x17 = x15 then (impl_solve.j5 k x9 x15 x16 x17 x18 x63 x64 x74 x75 false x260000 x260001 x260002 x260003) else (impl_solve.j5 k x9 x15 x16 x17 x18 x63 x64 x74 x75 (x18 != 0) x260000 x260001 x260002 x260003)
def impl_solve.j5 : Nat → List (S131) → Int → Int → Int → Int → Int → Int → Int → Int → Bool → Int → Int → Int → Int → Option (Int × Int × Int × Int)
  | 0, _, _, _, _, _, _, _, _, _, _, _, _, _, _ => none
  | k + 1, x9, x15, x16, x17, x18, x63, x64, x74, x75, x91, x260000, x260001, x260002, x260003 => if x91 = true then (if 0 ≤ x17 then (if x17 < (x9.length : Int) then (if 0 ≤ x15 then (if x15 < (x9.length : Int) then ((impl_vector_times.f ((rd_T131 x9 x15).f0.f0) ((rd_T131 x9 x15).f0.f1) ((rd_T131 x9 x15).f0.f2) ((rd_T131 x9 x15).f0.f3) x18).bind fun bt308 => ((impl_vector_minus.f ((rd_T131 x9 x17).f0.f0) ((rd_T131 x9 x17).f0.f1) ((rd_T131 x9 x17).f0.f2) ((rd_T131 x9 x17).f0.f3) bt308.1 bt308.2.1 bt308.2.2.1 bt308.2.2.2).bind fun bt312 => ((some (x9.set (x17 : Int).toNat (⟨(⟨bt312.1, bt312.2.1, bt312.2.2.1, bt312.2.2.2⟩ : S70), (rd_T131 x9 x17).f1⟩ : S131) : List (S131))).bind fun y316 => ((impl_element_times.f ((rd_T131 y316 x15).f1) x18).bind fun t319 => ((impl_element_minus.f ((rd_T131 y316 x17).f1) t319).bind fun t320 => (impl_solve.l3 k (y316.set (x17 : Int).toNat (⟨(⟨(rd_T131 y316 x17).f0.f0, (rd_T131 y316 x17).f0.f1, (rd_T131 y316 x17).f0.f2, (rd_T131 y316 x17).f0.f3⟩ : S70), t320⟩ : S131)) x15 x16 x63 x64 x74 (wrap64 (x75 + 1)) x260000 x260001 x260002 x260003)))))) else (none)) else (none)) else (none)) else (none)) else (impl_solve.l3 k x9 x15 x16 x63 x64 x74 (wrap64 (x75 + 1)) x260000 x260001 x260002 x260003)
def impl_solve.l4 : Nat → List (S131) → Int → Int → Int → Int → Int → Int → Option (Int × Int × Int × Int)
  | 0, _, _, _, _, _, _, _ => none
  | k + 1, x128, x129, x130, x260000, x260001, x260002, x260003 => if x130 < x129 then (if 0 ≤ x130 then (if x130 < (x128.length : Int) then ((impl_vector_lead.f ((rd_T131 x128 x130).f0.f0) ((rd_T131 x128 x130).f0.f1) ((rd_T131 x128 x130).f0.f2) ((rd_T131 x128 x130).f0.f3)).bind fun t324 => (if t324 = 0 then (impl_solve.l4 k x128 x129 (wrap64 (x130 + 1)) ((rd_T131 x128 x130).f1) x260001 x260002 x260003) else (if t324 = 1 then (impl_solve.l4 k x128 x129 (wrap64 (x130 + 1)) x260000 ((rd_T131 x128 x130).f1) x260002 x260003) else (if t324 = 2 then (impl_solve.l4 k x128 x129 (wrap64 (x130 + 1)) x260000 x260001 ((rd_T131 x128 x130).f1) x260003) else (if t324 = 3 then (impl_solve.l4 k x128 x129 (wrap64 (x130 + 1)) x260000 x260001 x260002 ((rd_T131 x128 x130).f1)) else (none)))))) else (none)) else (none)) else (some (x260000, x260001, x260002, x260003))
end
def impl_solve.f (k : Nat) (a0 : Int) (l1 : List Int) (l2 : List Int) : Option (Int × Int × Int × Int) := (impl_rowsOf.f k a0 l2).bind fun t260 => ((impl_spanOf.f k t260).bind fun bt263 => (impl_solve.l0 k l1 l2 (([] : List (S131))) bt263.1 (bt263.1.length : Int) 0 0 0 0 0))
def impl_solve.T11 : Bool × List (List Nat × List Nat) := (true, [([], []), ([], []), ([], []), ([2, 1], [1, 2]), ([3], [3]), ([], []), ([], []), ([5, 6], [5, 6]), ([7], [7]), ([4, 8], [4, 8]), ([0, 9, 9], [0, 9]), ([10, 10, 0, 1, 2, 3, 4, 5, 6, 7, 8, 9, 10], [0, 10])])
def impl_solve.B11 : List Nat := [0, 0, 0, 6, 14, 0, 0, 96, 224, 510, 1023, 2047]
theorem impl_solve.tab11 : rtab .any (opsOf Try.f114 11) = impl_solve.T11 := by kernel_rfl
theorem impl_solve.bits11 : waitsOk impl_solve.T11.2 impl_solve.B11 = true := by kernel_rfl
def impl_solve.T24 : Bool × List (List Nat × List Nat) := (true, [([], []), ([], []), ([], []), ([], []), ([2, 3], [2, 3]), ([4], [4]), ([5], [5]), ([], []), ([], []), ([7, 8], [7, 8]), ([9], [9]), ([10], [10]), ([], []), ([11, 12], [11, 12]), ([6, 13, 13], [6, 13]), ([0, 1, 0, 1, 2, 3, 4, 5, 6, 7, 8, 9, 10, 11, 12, 13, 14], [0, 1]), ([15, 0, 1, 2, 3, 4, 5, 6, 7, 8, 9, 10, 11, 12, 13, 14], [15]), ([16, 14, 14, 0, 1, 2, 3, 4, 5, 6, 7, 8, 9, 10, 11, 12, 13, 14], [14, 16])])
def impl_solve.B24 : List Nat := [0, 0, 0, 0, 12, 28, 60, 0, 0, 384, 896, 1920, 0, 8064, 16380, 32767, 65535, 131071]
theorem impl_solve.tab24 : rtab .any (opsOf Try.f114 24) = impl_solve.T24 := by kernel_rfl
theorem impl_solve.bits24 : waitsOk impl_solve.T24.2 impl_solve.B24 = true := by kernel_rfl
def impl_solve.T25 : Bool × List (List Nat × List Nat) := (true, [([], []), ([], []), ([], []), ([], []), ([2, 3], [2, 3]), ([4], [4]), ([5], [5]), ([], []), ([], []), ([7, 8], [7, 8]), ([9], [9]), ([10], [10]), ([], []), ([11, 12], [11, 12]), ([6, 13, 13], [6, 13]), ([0, 1, 0, 1, 2, 3, 4, 5, 6, 7, 8, 9, 10, 11, 12, 13, 14], [0, 1]), ([15, 0, 1, 2, 3, 4, 5, 6, 7, 8, 9, 10, 11, 12, 13, 14], [15]), ([16, 14, 14, 0, 1, 2, 3, 4, 5, 6, 7, 8, 9, 10, 11, 12, 13, 14], [14, 16])])
def impl_solve.B25 : List Nat := [0, 0, 0, 0, 12, 28, 60, 0, 0, 384, 896, 1920, 0, 8064, 16380, 32767, 65535, 131071]
theorem impl_solve.tab25 : rtab .any (opsOf Try.f114 25) = impl_solve.T25 := by kernel_rfl
theorem impl_solve.bits25 : waitsOk impl_solve.T25.2 impl_solve.B25 = true := by kernel_rfl
theorem bA7 {W : World} {g : Nat} {cs : Array Value} {ty : TypeId} {j : Nat} {v : Value} (h : Aside0 (W.heap[g]? = some (.cells cs ty (0, 0)))) (e : cs[j]? = some v) : W.cell? ⟨g, j, none⟩ = some v := (blk_cell h.out j).trans e
end Go.Proofs.Ytamaejafddmagaa.PA
