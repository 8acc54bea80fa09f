import Derived.Test.YtamaejafddmagaaPAx0
import Derived.Test.YtamaejafddmagaaPAx8
import Derived.Test.YtamaejafddmagaaPAx13
import Derived.Test.YtamaejafddmagaaGw
import Derived.Test.YtamaejafddmagaaGm
import Derived.Test.YtamaejafddmagaaGc
import Derived.Test.YtamaejafddmagaaPAx1
import Derived.Test.YtamaejafddmagaaPAx6
namespace Go.Proofs.Ytamaejafddmagaa.PA
open Go.RowKit Go.Proofs.YtamaejafddmagaaW.PrintWords Go.Proofs.YtamaejafddmagaaW.PrintLast Go.Proofs.YtamaejafddmagaaW.PrintMore
attribute [local go_sem] max2_int min2_int max_two min_two max_three min_three max_four min_four   -- for this text's walks alone
set_option linter.unusedVariables false
set_option linter.unusedSimpArgs false

/-! ### spec_l4Set: function 71 -/
theorem z16_0 {p : Prop} (h : p := by repeat (first | (with_reducible first | exact HB.out | apply below_alloc | apply pw_below_drewN | apply below_drew1) | exact HB.out)) : p := h
theorem z16_1 {p : Prop} (h : p := by repeat (first | (with_reducible first | exact HK.out | apply KeepBut.set_ | apply keep_drewN | apply keep_drew | apply keep_alloc) | exact HK.out)) : p := h
theorem z16_2 {p : Prop} (h : p := by (try simp only [List.map_toArray, List.map_cons, List.map_nil]); first | done | rfl | (simp only [List.length_drop, List.length_take]; rfl)) : p := h
theorem z16_3 {p : Prop} (h : p := by repeat (first | (with_reducible first | exact HI0.out | apply IsS99.alloc | apply IsS99.drewN | apply IsS99.drew | apply IsS99.set_1) | exact HI0.out)) : p := h
theorem z16_4 {p : Prop} (h : p := by repeat (first | (with_reducible first | exact HB.out | apply below_alloc | apply pw_below_drewN | apply below_drew1 | refine below_set ?_ (IsS99.ge HI0.out)) | exact HB.out)) : p := h
theorem z16_5 {p : Prop} (h : p := by (with_reducible repeat (first | apply Kd.R_alloc | apply Kd.R_drewN | apply Kd.R_drew)); exact HO_3.out) : p := h
theorem z16_6 {p : Prop} (h : p := by first | rfl | (simp; done) | (simp [*]; done)) : p := h
theorem z16_7 {p : Prop} (h : p := by first | (with_reducible assumption) | assumption) : p := h
theorem z16_8 {p : Prop} (h : p := by (with_reducible repeat (first | apply Kd.R_alloc | apply Kd.R_drewN | apply Kd.R_drew)); exact HO_5.out) : p := h
theorem z16_9 {p : Prop} (h : p := by first | rfl | (simp [errW_none, errW_some] <;> rfl) | (simp [*, errW_none, errW_some] <;> rfl)) : p := h
theorem z16_10 {p : Prop} (h : p := by repeat (first | exact Drawn0.refl _ | apply Drawn0.step)) : p := h
def spec_l4Set.l0 : Nat → Int → List Bool → Int → Option (List Bool)
  | 0, _, _, _ => none
  | k + 1, x0, x3, x4 => if x4 < (x3.length : Int) then (if 0 ≤ x4 then (spec_l4Set.l0 k (wrap64 (Int.tdiv x0 2)) (x3.set (x4 : Int).toNat ((Int.tmod x0 2) == 1)) (wrap64 (x4 + 1))) else (none)) else (some x3)
def spec_l4Set.f (k : Nat) (a0 : Int) : Option (List Bool) := if 8 ≤ 281474976710656 then (spec_l4Set.l0 k a0 (List.replicate 8 false) 0) else (none)
set_option maxHeartbeats 8000000 in
set_option maxRecDepth 100000 in
theorem spec_l4Set.calls (k : Nat) (a0 : Int) (r : List Bool) (w : World) (h : spec_l4Set.f k a0 = some r) :
  Calls Try.prog 71 #[.int .i64 a0] w fun e w' => ∃ v0_ : Value, e = .returned (v0_) ∧ Kd.R Kd.bool 4 w' w.heap.size (fun _ => True) v0_ r ∧ Below w.heap.size w w' := by
 have HB := Aside0.mk (Below.refl w.heap.size w)
 unfold spec_l4Set.f at h
 have H := h
 clear h
 obtain ⟨c2, H⟩ := ifP H
 have c2b0 := eq_true c2
 have c2b1 : decide (8 ≤ 281474976710656) = true := decide_eq_true c2
 clear c2
 obtain ⟨y546, hy546⟩ : ∃ y_ : List Bool, y_ = (List.replicate 8 false) := ⟨_, rfl⟩
 replace H : (spec_l4Set.l0 k a0 y546 0) = some r := yZZ_ hy546 H
 have Ny546 := Aside0.mk hy546
 clear hy546
 have H' := Aside0.mk H
 clear H
 go_enter Try.func71, Try.ntmps71
 go_wp2_with (first | ((with_reducible refine gate_dst (N := 5) rfl ?_); refine Kd.R_make Kd.bool _ 4 rfl (N := 5) rfl 36 _ _ rfl 8 rfl rfl Try.underlying36 (.bool false) 1 info4 rfl (by decide) (by omega) false (ok := fun _ => True) (okp := fun _ => True) rfl (fun _ hk => hk) trivial (by omega) (by omega) (Below.refl _ _) (Nat.le_refl _) ?_; intro v547 w3 ho4 hb hg_ hnew_; clear hg_ hnew_; (first | rw [← Ny546.out] at ho4 | (simp only [Int.reduceToNat] at ho4; rw [← Ny546.out] at ho4)); have HO548 := Aside0.mk (Kd.R_lower ho4 (below_size z16_0)); replace HB := Aside0.mk (below_step z16_0 hb); clear hb ho4))
 go_loopg [0, 4] k (fun kq v0 v4 w' => ∃ (x0_1 : Int) (x3_1 : List Bool) (x4_1 : Int), v0 = .int .i64 x0_1 ∧ v4 = .int .i64 x4_1 ∧ Aside0 (spec_l4Set.l0 kq x0_1 x3_1 x4_1 = some r) ∧ Aside0 (kq ≤ k) ∧ Aside0 (Kd.R Kd.bool 4 w' w.heap.size (fun _ => True) v547 x3_1) ∧ Aside0 (Below w.heap.size w w'))
 case atStart => exact ⟨(a0), (y546), (0), z16_6, z16_6, H', ⟨Nat.le_refl _⟩, ⟨by (with_reducible repeat (first | apply Kd.R_alloc | apply Kd.R_drewN | apply Kd.R_drew)); exact HO548.out⟩, ⟨z16_0⟩⟩
 case round =>
  clear H'
  try clear c2
  try clear c2b0
  try clear c2b1
  obtain ⟨x0_1, x3_1, x4_1, rfl, rfl, HA, HK1, HO_3, HB⟩ := hrel
  cases gk with
  | zero => exact absurd HA.out (by simp [spec_l4Set.l0])
  | succ k1 =>
   have H := HA.out
   clear HA; simp only [spec_l4Set.l0] at H
   by_cases c5 : x4_1 < (x3_1.length : Int)
   ·rw [if_pos c5] at H
    have c5b0 : decide (x4_1 < (x3_1.length : Int)) = true := decide_eq_true c5; clear c5; obtain ⟨c6, H⟩ := ifP H; have c6b0 : decide (0 ≤ x4_1) = true := decide_eq_true c6; clear c6
    obtain ⟨y549, hy549⟩ : ∃ y_ : List Bool, y_ = (x3_1.set (x4_1 : Int).toNat ((Int.tmod x0_1 2) == 1)) := ⟨_, rfl⟩
    replace H : (spec_l4Set.l0 k1 (wrap64 (Int.tdiv x0_1 2)) y549 (wrap64 (x4_1 + 1))) = some r := yZZ_ hy549 H
    have Ny549 := Aside0.mk hy549
    clear hy549
    have H' := Aside0.mk H
    clear H; obtain ⟨Ao8, co8, eo8⟩ := Kd.R_slice HO_3.out; subst eo8; have p7 : 0 ≤ (x4_1 : Int) := of_decide_eq_true z16_7
    have q7 : (x4_1 : Int) < ((x3_1.length : Int) : Int) := of_decide_eq_true z16_7
    obtain ⟨go7, co7, eo7, gb7, gl7, cl7, HG7⟩ := Kd.R_form HO_3.out (by omega); (first | cases eo7 | (injection eo7 with ea_ en_ ec_; (first | subst ea_ | (injection ea_ with ea_; subst ea_)); subst ec_; clear en_))
    have GB7 := Aside0.mk gb7
    have GG7 := Aside0.mk HG7
    clear gb7 gl7 HG7; obtain ⟨hx7_0, hf7_0⟩ := Kd.R_celln false HO_3.out (x4_1 : Int) p7 q7
    replace p7 := eq_true p7
    replace q7 := eq_true q7
    have HP9 := Kd.R_putg HO_3.out (x4_1 : Int) ((Int.tmod x0_1 2) == 1)
    go_wp2_with (first | ((with_reducible refine gate_store (t := 4) (p := 17) rfl ?_); refine store_event (t := 4) (p := 17) (v := ?vo_w10) (w1 := (wr.setCell ⟨go7, (x4_1 : Int).toNat, none⟩ (.bool ((Int.tmod x0_1 2) == 1)))) ?hg ?ho ?hn ?hr ?_; (case ho => rfl); (case hg => rfl); (case hn => rfl); (case hr => first | (go_simp; done) | (go_simp; rfl)); intro w10 hw; have hg : wr.grownBy w10 (some go7) := (by rw [hw]; exact HP9.2); have hp_ : Kd.R Kd.bool 4 w10 w.heap.size (fun _ => True) (.slice (some ⟨go7, 0, none⟩) x3_1.length co8) y549 := (by rw [hw, Ny549.out]; exact HP9.1); clear HP9; replace HO_3 := Aside0.mk (hp_); replace HB := Aside0.mk ((by rw [hw]; exact below_set (HB.out) GB7.out : Below w.heap.size w w10)); clear hg hw hp_))
    go_roundg k1
    case measure => have := HK1.out; omega
    case rel => exact ⟨(wrap64 (Int.tdiv x0_1 2)), (y549), (wrap64 (x4_1 + 1)), z16_6, z16_6, H', ⟨by have := HK1.out; omega⟩, ⟨z16_5⟩, ⟨z16_0⟩⟩
   ·rw [if_neg c5] at H
    have c5b0 : decide (x4_1 < (x3_1.length : Int)) = false := decide_eq_false c5; clear c5
    obtain rfl := Option.some.inj H
    obtain ⟨Ao11, co11, eo11⟩ := Kd.R_slice HO_3.out; subst eo11
    go_wp2
    go_ret; exact ⟨_, z16_9, z16_5, z16_0⟩

/-! ### spec_l91There: function 77 -/
def spec_l91There.l0 : Nat → List Bool → Int → List Int → Int → Option (List Bool × Int)
  | 0, _, _, _, _ => none
  | k + 1, x3, x4, x1000, x1001 => if x4 > 0 then ((spec_l6Rd_pick.f k x1000 x1001 (x3.length : Int)).bind fun bt555 => (if 0 ≤ bt555.1 then (if bt555.1 < (x3.length : Int) then (spec_l91There.l0 k (x3.set (bt555.1 : Int).toNat false) (wrap64 (x4 - 1)) x1000 bt555.2) else (none)) else (none))) else ((spec_l6Rd_pick.f k x1000 x1001 40).bind fun bt558 => (if bt558.1 = 0 then (if 1 ≤ (x3.length : Int) then (some ((x3.drop (1 : Int).toNat), bt558.2)) else (none)) else (some (x3, bt558.2))))
def spec_l91There.f (k : Nat) (s0_0 : List Int) (s0_1 : Int) : Option (List Bool × Int) := (spec_l4Set.f k 255).bind fun t550 => ((spec_l6Rd_pick.f k s0_0 s0_1 6).bind fun bt553 => (spec_l91There.l0 k t550 bt553.1 s0_0 bt553.2))
set_option maxHeartbeats 8000000 in
set_option maxRecDepth 100000 in
theorem spec_l91There.calls (k : Nat) (g : Nat) (s0_0 : List Int) (s0_1 : Int) (r1 : List Bool) (r2 : Int) (w0 w : World) (hI : IsS99 w0 w g s0_0 s0_1) (hB : Below w0.heap.size w0 w) (h : spec_l91There.f k s0_0 s0_1 = some (r1, r2)) :
  Calls Try.prog 77 #[.pointer (some ⟨g, 0, none⟩)] w fun e w' => ∃ v0_ : Value, e = .returned (v0_) ∧ Kd.Q Kd.bool 4 w' w.heap.size (fun _ => True) v0_ r1 ∧ IsS99 w0 w' g s0_0 r2 ∧ Below w0.heap.size w0 w' ∧ KeepBut w w' g none := by
 have HI0 := Aside0.mk hI
 have HK := Aside0.mk (KeepBut.refl w g none)
 have HL := Aside0.mk hB.size
 clear hI
 have HW0 := Aside0.mk hB.size
 have HB := Aside0.mk hB
 clear hB
 unfold spec_l91There.f at h
 have H := h
 clear h
 replace H := Option.bind_eq_some_iff.mp H
 obtain ⟨t550, A20, H⟩ := H
 have A2 := Aside0.mk A20
 clear A20
 replace H := Option.bind_eq_some_iff.mp H
 obtain ⟨⟨t553, t554⟩, A30, H⟩ := H
 dsimp only at H
 have A3 := Aside0.mk A30
 clear A30
 have H' := Aside0.mk H
 clear H
 go_enter Try.func77, Try.ntmps77
 go_wp2_with (first | ((with_reducible refine gate_callee (f := 71) rfl ?_); refine goesL_ (some 5) rfl rfl Try.func71 (by kernel_rfl) rfl #[.int .i64 255] rfl z16_2 ?_; (with_reducible refine (spec_l4Set.calls k 255 t550 _ A2.out).mono ?_); rintro e w4 ⟨v551, rfl, ho0, hb⟩; refine ⟨_, rfl, ?_⟩; have HO552 := Aside0.mk (Kd.R_lower ho0 (keep_size (w := w) (g := g) (row := none) z16_1)); replace HK := Aside0.mk (KeepBut.trans z16_1 (KeepBut.of_below hb g none) (.inl rfl)); replace HB := Aside0.mk (below_step z16_4 hb); replace HI0 := Aside0.mk (IsS99.below z16_3 hb); (try clear hb); (try clear ho0)) | ((with_reducible refine gate_callee (f := 78) rfl ?_); refine goesL_ (some 7) rfl rfl Try.func78 (by kernel_rfl) rfl #[.pointer (some ⟨g, 0, none⟩), .int .i64 6] rfl z16_2 ?_; (with_reducible refine (spec_l6Rd_pick.calls k g s0_0 s0_1 6 t553 t554 w0 _ ?side1 ?side2 A3.out).mono ?_); (case side1 => repeat (first | (with_reducible first | exact HI0.out | apply IsS99.alloc | apply IsS99.drewN | apply IsS99.drew | apply IsS99.set_1) | exact HI0.out)); (case side2 => repeat (first | (with_reducible first | exact HB.out | apply below_alloc | apply pw_below_drewN | apply below_drew1 | refine below_set ?_ (IsS99.ge HI0.out)) | exact HB.out)); rintro e w5 ⟨rfl, hi, hb, hk⟩; refine ⟨_, rfl, ?_⟩; replace HO552 := Aside0.mk (Kd.R_mono (Kd.R_keep (IsS99.apart (show IsS99 w0 _ g s0_0 s0_1 from by repeat (first | (with_reducible first | exact HI0.out | apply IsS99.alloc | apply IsS99.drewN | apply IsS99.drew | apply IsS99.set_1) | exact HI0.out)) (by (with_reducible repeat (first | apply Kd.R_alloc | apply Kd.R_drewN | apply Kd.R_drew)); exact HO552.out) (by decide)) hk (fun _ h => h.2)) (fun _ h => h.1)); replace HK := Aside0.mk (KeepBut.trans z16_1 hk (.inl rfl)); replace HB := Aside0.mk (hb); replace HI0 := Aside0.mk (hi); (try clear hb)))
 go_loopg [4] k (fun kq v4 w' => ∃ (x3_1 : List Bool) (x4_1 : Int) (x1001_1 : Int), v4 = .int .i64 x4_1 ∧ Aside0 (spec_l91There.l0 kq x3_1 x4_1 s0_0 x1001_1 = some (r1, r2)) ∧ Aside0 (kq ≤ k) ∧ Aside0 (Kd.R Kd.bool 4 w' w.heap.size (fun _ => True) v551 x3_1) ∧ Aside0 (IsS99 w0 w' g s0_0 x1001_1) ∧ Aside0 (KeepBut w w' g none) ∧ Aside0 (Below w0.heap.size w0 w'))
 case atStart => exact ⟨(t550), (t553), (t554), z16_6, H', ⟨Nat.le_refl _⟩, ⟨by (with_reducible repeat (first | apply Kd.R_alloc | apply Kd.R_drewN | apply Kd.R_drew)); exact HO552.out⟩, ⟨z16_3⟩, ⟨z16_1⟩, ⟨z16_4⟩⟩
 case round =>
  clear H'; obtain ⟨x3_1, x4_1, x1001_1, rfl, HA, HK1, HO_3, HI0, HK, HB⟩ := hrel
  cases gk with
  | zero => exact absurd HA.out (by simp [spec_l91There.l0])
  | succ k1 =>
   have H := HA.out
   clear HA; simp only [spec_l91There.l0] at H
   by_cases c6 : x4_1 > 0
   ·rw [if_pos c6] at H
    have c6b0 : decide (0 < x4_1) = true := decide_eq_true c6; clear c6
    replace H := Option.bind_eq_some_iff.mp H
    obtain ⟨⟨t555, t556⟩, A70, H⟩ := H
    replace H : (if 0 ≤ t555 then (if t555 < (x3_1.length : Int) then (spec_l91There.l0 k1 (x3_1.set (t555 : Int).toNat false) (wrap64 (x4_1 - 1)) s0_0 t556) else (none)) else (none)) = some (r1, r2) := H
    have A7 := Aside0.mk A70
    clear A70; obtain ⟨c8, H⟩ := ifP H; have c8b0 : decide (0 ≤ t555) = true := decide_eq_true c8; clear c8; obtain ⟨c9, H⟩ := ifP H; have c9b0 : decide (t555 < (x3_1.length : Int)) = true := decide_eq_true c9; clear c9
    obtain ⟨y557, hy557⟩ : ∃ y_ : List Bool, y_ = (x3_1.set (t555 : Int).toNat false) := ⟨_, rfl⟩
    replace H : (spec_l91There.l0 k1 y557 (wrap64 (x4_1 - 1)) s0_0 t556) = some (r1, r2) := yZZ_ hy557 H
    have Ny557 := Aside0.mk hy557
    clear hy557
    have H' := Aside0.mk H
    clear H; obtain ⟨Ao11, co11, eo11⟩ := Kd.R_slice HO_3.out; subst eo11
    go_wp2_with (first | ((with_reducible refine gate_callee (f := 78) rfl ?_); refine goesL_ (some 16) rfl rfl Try.func78 (by kernel_rfl) rfl #[.pointer (some ⟨g, 0, none⟩), .int .i64 (x3_1.length : Int)] rfl z16_2 ?_; (with_reducible refine (spec_l6Rd_pick.calls k1 g s0_0 x1001_1 (x3_1.length : Int) t555 t556 w0 _ ?side1 ?side2 A7.out).mono ?_); (case side1 => repeat (first | (with_reducible first | exact HI0.out | apply IsS99.alloc | apply IsS99.drewN | apply IsS99.drew | apply IsS99.set_1) | exact HI0.out)); (case side2 => repeat (first | (with_reducible first | exact HB.out | apply below_alloc | apply pw_below_drewN | apply below_drew1 | refine below_set ?_ (IsS99.ge HI0.out)) | exact HB.out)); rintro e w12 ⟨rfl, hi, hb, hk⟩; refine ⟨_, rfl, ?_⟩; replace HO_3 := Aside0.mk (Kd.R_mono (Kd.R_keep (IsS99.apart (show IsS99 w0 _ g s0_0 x1001_1 from by repeat (first | (with_reducible first | exact HI0.out | apply IsS99.alloc | apply IsS99.drewN | apply IsS99.drew | apply IsS99.set_1) | exact HI0.out)) z16_5 (by decide)) hk (fun _ h => h.2)) (fun _ h => h.1)); replace HK := Aside0.mk (KeepBut.trans z16_1 hk (.inl rfl)); replace HB := Aside0.mk (hb); replace HI0 := Aside0.mk (hi); (try clear hb); have p10 : 0 ≤ (t555 : Int) := of_decide_eq_true z16_7; have q10 : (t555 : Int) < ((x3_1.length : Int) : Int) := of_decide_eq_true z16_7; obtain ⟨go10, co10, eo10, gb10, gl10, cl10, HG10⟩ := Kd.R_form HO_3.out (by omega); (first | cases eo10 | (injection eo10 with ea_ en_ ec_; (first | subst ea_ | (injection ea_ with ea_; subst ea_)); subst ec_; clear en_)); have GB10 := Aside0.mk gb10; have GG10 := Aside0.mk HG10; clear gb10 gl10 HG10; obtain ⟨hx10_0, hf10_0⟩ := Kd.R_celln false HO_3.out (t555 : Int) p10 q10; replace p10 := eq_true p10; replace q10 := eq_true q10; obtain ⟨hy13_, hz13_⟩ := Kd.R_celln false HO_3.out (t555 : Int) (of_decide_eq_true z16_7) (of_decide_eq_true z16_7); have HP13 := Kd.R_putg HO_3.out (t555 : Int) false) | ((with_reducible refine gate_store (t := 4) (p := 17) rfl ?_); refine store_event (t := 4) (p := 17) (v := ?vo_w14) (w1 := (w12.setCell ⟨go10, (t555 : Int).toNat, none⟩ (.bool false))) ?hg ?ho ?hn ?hr ?_; (case ho => rfl); (case hg => rfl); (case hn => rfl); (case hr => first | (go_simp; done) | (go_simp; rfl)); intro w14 hw; have hg : w12.grownBy w14 (some go10) := (by rw [hw]; exact HP13.2); have hp_ : Kd.R Kd.bool 4 w14 w.heap.size (fun _ => True) (.slice (some ⟨go10, 0, none⟩) x3_1.length co11) y557 := (by rw [hw, Ny557.out]; exact HP13.1); clear HP13; replace HI0 := Aside0.mk (IsS99.grown z16_3 hg (IsS99.own_ne HI0.out HO_3.out (by decide))); replace HB := Aside0.mk ((by rw [hw]; exact below_set (HB.out) (Nat.le_trans HL.out GB10.out) : Below w0.heap.size w0 w14)); replace HK := Aside0.mk (KeepBut.trans z16_1 (KeepBut.of_grown hg g) (Kd.R_base2 HO_3.out)); replace HO_3 := Aside0.mk (hp_); clear hg hw hp_))
    go_roundg k1
    case measure => have := HK1.out; omega
    case rel => exact ⟨(y557), (wrap64 (x4_1 - 1)), (t556), z16_6, H', ⟨by have := HK1.out; omega⟩, ⟨z16_5⟩, ⟨z16_3⟩, ⟨z16_1⟩, ⟨z16_4⟩⟩
   ·rw [if_neg c6] at H
    have c6b0 : decide (0 < x4_1) = false := decide_eq_false c6; clear c6
    replace H := Option.bind_eq_some_iff.mp H
    obtain ⟨⟨t558, t559⟩, A150, H⟩ := H
    replace H : (if t558 = 0 then (if 1 ≤ (x3_1.length : Int) then (some ((x3_1.drop (1 : Int).toNat), t559)) else (none)) else (some (x3_1, t559))) = some (r1, r2) := H
    have A15 := Aside0.mk A150
    clear A150
    by_cases c16 : t558 = 0
    ·rw [if_pos c16] at H
     have c16b0 : (t558 == 0) = true := beq_iff_eq.mpr c16
     have c16b1 : (t558 != 0) = false := bne_eq_false_iff_eq.mpr c16
     clear c16; obtain ⟨c17, H⟩ := ifP H
     have c17b0 := eq_true c17
     have c17b1 : decide (1 ≤ (x3_1.length : Int)) = true := decide_eq_true c17; clear c17
     obtain ⟨y560, hy560⟩ : ∃ y_ : List Bool, y_ = (x3_1.drop (1 : Int).toNat) := ⟨_, rfl⟩
     replace H : (some (y560, t559)) = some (r1, r2) := yZZ_ hy560 H
     have Ny560 := Aside0.mk hy560
     clear hy560; simp only [Option.some.injEq, Prod.mk.injEq] at H; obtain ⟨rfl, rfl⟩ := H
     go_wp2_with (first | ((with_reducible refine gate_callee (f := 78) rfl ?_); refine goesL_ (some 19) rfl rfl Try.func78 (by kernel_rfl) rfl #[.pointer (some ⟨g, 0, none⟩), .int .i64 40] rfl z16_2 ?_; (with_reducible refine (spec_l6Rd_pick.calls k1 g s0_0 x1001_1 40 t558 t559 w0 _ ?side1 ?side2 A15.out).mono ?_); (case side1 => repeat (first | (with_reducible first | exact HI0.out | apply IsS99.alloc | apply IsS99.drewN | apply IsS99.drew | apply IsS99.set_1) | exact HI0.out)); (case side2 => repeat (first | (with_reducible first | exact HB.out | apply below_alloc | apply pw_below_drewN | apply below_drew1 | refine below_set ?_ (IsS99.ge HI0.out)) | exact HB.out)); rintro e w18 ⟨rfl, hi, hb, hk⟩; refine ⟨_, rfl, ?_⟩; replace HO_3 := Aside0.mk (Kd.R_mono (Kd.R_keep (IsS99.apart (show IsS99 w0 _ g s0_0 x1001_1 from by repeat (first | (with_reducible first | exact HI0.out | apply IsS99.alloc | apply IsS99.drewN | apply IsS99.drew | apply IsS99.set_1) | exact HI0.out)) z16_5 (by decide)) hk (fun _ h => h.2)) (fun _ h => h.1)); replace HK := Aside0.mk (KeepBut.trans z16_1 hk (.inl rfl)); replace HB := Aside0.mk (hb); replace HI0 := Aside0.mk (hi); (try clear hb); obtain ⟨Ao19, co19, eo19⟩ := Kd.R_slice HO_3.out; subst eo19; have q20 : (1 : Int) ≤ ((x3_1.length : Int) : Int) := of_decide_eq_true z16_7; obtain ⟨i020, hi020, _, hsz20, _⟩ := info_parts info4; have hcut20 := cut_from (P := Try.prog) 36 4 .i64 Try.underlying36 hi020 1 hsz20 Ao19 x3_1.length co19 1 (by omega) q20; have hr20 := Kd.Q_drop (k := (1 : Int).toNat) (Kd.Q_of_R HO_3.out) (by omega); obtain ⟨A20, hA20⟩ : ∃ A1, A1 = (if co19 = (1 : Int).toNat then Ao19 else (Ao19 : Option Addr).map (·.add ((1 : Int).toNat * 1))) := ⟨_, rfl⟩; obtain ⟨c20, hc20⟩ : ∃ c1, c1 = co19 - (1 : Int).toNat := ⟨_, rfl⟩; have hy20 : y560.length = x3_1.length - (1 : Int).toNat := (by rw [Ny560.out, List.length_drop]); rw [← Ny560.out] at hr20; rw [← hy20, ← hA20, ← hc20] at hcut20; replace hr20 : Kd.Q Kd.bool 4 w18 w.heap.size (fun _ => True) (.slice A20 y560.length c20) y560 := (by rw [hA20, hc20, hy20]; exact hr20); have HE20 : Aside0 ((Value.slice A20 y560.length c20).ownBlock = (.slice Ao19 x3_1.length co19 : Value).ownBlock) := ⟨by rw [hA20]; split <;> (cases (Ao19 : Option Addr) <;> rfl)⟩; clear hy20 hi020 hsz20 HO_3 hA20 hc20; have HO562 := Aside0.mk hr20; clear hr20; replace q20 := eq_true q20))
     go_ret; exact ⟨_, z16_9, by (with_reducible repeat (first | apply Kd.Q_alloc | apply Kd.Q_drewN | apply Kd.Q_drew)); exact HO562.out, z16_3, z16_4, z16_1⟩
    ·rw [if_neg c16] at H
     have c16b0 : (t558 == 0) = false := beq_eq_false_iff_ne.mpr c16
     have c16b1 : (t558 != 0) = true := bne_iff_ne.mpr c16
     simp only [Option.some.injEq, Prod.mk.injEq] at H; obtain ⟨rfl, rfl⟩ := H
     go_wp2_with (first | ((with_reducible refine gate_callee (f := 78) rfl ?_); refine goesL_ (some 19) rfl rfl Try.func78 (by kernel_rfl) rfl #[.pointer (some ⟨g, 0, none⟩), .int .i64 40] rfl z16_2 ?_; (with_reducible refine (spec_l6Rd_pick.calls k1 g s0_0 x1001_1 40 t558 t559 w0 _ ?side1 ?side2 A15.out).mono ?_); (case side1 => repeat (first | (with_reducible first | exact HI0.out | apply IsS99.alloc | apply IsS99.drewN | apply IsS99.drew | apply IsS99.set_1) | exact HI0.out)); (case side2 => repeat (first | (with_reducible first | exact HB.out | apply below_alloc | apply pw_below_drewN | apply below_drew1 | refine below_set ?_ (IsS99.ge HI0.out)) | exact HB.out)); rintro e w21 ⟨rfl, hi, hb, hk⟩; refine ⟨_, rfl, ?_⟩; replace HO_3 := Aside0.mk (Kd.R_mono (Kd.R_keep (IsS99.apart (show IsS99 w0 _ g s0_0 x1001_1 from by repeat (first | (with_reducible first | exact HI0.out | apply IsS99.alloc | apply IsS99.drewN | apply IsS99.drew | apply IsS99.set_1) | exact HI0.out)) z16_5 (by decide)) hk (fun _ h => h.2)) (fun _ h => h.1)); replace HK := Aside0.mk (KeepBut.trans z16_1 hk (.inl rfl)); replace HB := Aside0.mk (hb); replace HI0 := Aside0.mk (hi); (try clear hb)))
     go_ret; exact ⟨_, z16_9, Kd.Q_of_R z16_5, z16_3, z16_4, z16_1⟩

/-! ### spec_l2Dot: function 112 -/
def spec_l2Dot.l0 : Nat → List Int → List Int → Int → Int → Option (Int)
  | 0, _, _, _, _ => none
  | k + 1, x0, x1, x5, x6 => if x6 < (x0.length : Int) then (if 0 ≤ x6 then (if x6 < (x1.length : Int) then (spec_l2Dot.l0 k x0 x1 (Int.tmod (wrap64 (x5 + (wrap64 ((rd x0 x6) * (rd x1 x6))))) 31) (wrap64 (x6 + 1))) else (none)) else (none)) else (some x5)
def spec_l2Dot.f (k : Nat) (l0 : List Int) (l1 : List Int) : Option (Int) := spec_l2Dot.l0 k l0 l1 0 0
set_option maxHeartbeats 8000000 in
set_option maxRecDepth 100000 in
theorem spec_l2Dot.calls (k : Nat) (A0 : Option Addr) (c0 : Nat) (l0 : List Int) (A1 : Option Addr) (c1 : Nat) (l1 : List Int) (r : Int) (w : World) (hr0 : Kd.C (Kd.int .i64) w A0 l0.length l0) (hc0 : l0.length ≤ c0) (hr1 : Kd.C (Kd.int .i64) w A1 l1.length l1) (hc1 : l1.length ≤ c1) (h : spec_l2Dot.f k l0 l1 = some r) :
  Calls Try.prog 112 #[.slice A0 l0.length c0, .slice A1 l1.length c1] w fun e w' => e = .returned (.int .i64 r) ∧ Drawn0 w w' := by
 have HR0 := Aside0.mk hr0
 have HC0 := Aside0.mk hc0
 clear hr0 hc0
 have HR1 := Aside0.mk hr1
 have HC1 := Aside0.mk hc1
 clear hr1 hc1
 unfold spec_l2Dot.f at h
 have H := h
 clear h
 have H' := Aside0.mk H
 clear H
 go_enter Try.func112, Try.ntmps112
 go_wp2
 repeat (go_quiet (fail); try go_wp2)
 go_loopg [5, 6] k (fun kq v5 v6 w' => ∃ (x5_1 : Int) (x6_1 : Int), v5 = .int .i64 x5_1 ∧ v6 = .int .i64 x6_1 ∧ Aside0 (spec_l2Dot.l0 kq l0 l1 x5_1 x6_1 = some r) ∧ Aside0 (kq ≤ k) ∧ Drawn0 w w')
 case atStart => exact ⟨(0), (0), z16_6, z16_6, H', ⟨Nat.le_refl _⟩, z16_10⟩
 case round =>
  clear H'
  try clear c1
  obtain ⟨x5_1, x6_1, rfl, rfl, HA, HK1, ⟨m1, rfl⟩⟩ := hrel
  cases gk with
  | zero => exact absurd HA.out (by simp [spec_l2Dot.l0])
  | succ k1 =>
   have H := HA.out
   clear HA; simp only [spec_l2Dot.l0] at H
   by_cases c3 : x6_1 < (l0.length : Int)
   ·rw [if_pos c3] at H
    have c3b0 : decide (x6_1 < (l0.length : Int)) = true := decide_eq_true c3; clear c3; obtain ⟨c4, H⟩ := ifP H; have c4b0 : decide (0 ≤ x6_1) = true := decide_eq_true c4; clear c4; obtain ⟨c5, H⟩ := ifP H; have c5b0 : decide (x6_1 < (l1.length : Int)) = true := decide_eq_true c5; clear c5
    have H' := Aside0.mk H
    clear H; have p563 : 0 ≤ (x6_1 : Int) := of_decide_eq_true z16_7; have q563 : x6_1 < (l0.length : Int) := of_decide_eq_true z16_7; obtain ⟨ad563, e563, hx563_0⟩ := Kd.at_int HR0.out x6_1 p563 q563; cases e563
    replace p563 := eq_true p563
    replace q563 := eq_true q563
    have p564 : 0 ≤ (x6_1 : Int) := of_decide_eq_true z16_7; have q564 : x6_1 < (l1.length : Int) := of_decide_eq_true z16_7; obtain ⟨ad564, e564, hx564_0⟩ := Kd.at_int HR1.out x6_1 p564 q564; cases e564
    replace p564 := eq_true p564
    replace q564 := eq_true q564
    go_wp2
    repeat (go_quiet (fail); try go_wp2)
    go_roundg k1
    case measure => have := HK1.out; omega
    case rel => exact ⟨(Int.tmod (wrap64 (x5_1 + (wrap64 ((rd l0 x6_1) * (rd l1 x6_1))))) 31), (wrap64 (x6_1 + 1)), z16_6, z16_6, H', ⟨by have := HK1.out; omega⟩, z16_10⟩
   ·rw [if_neg c3] at H
    have c3b0 : decide (x6_1 < (l0.length : Int)) = false := decide_eq_false c3; clear c3
    obtain rfl := Option.some.inj H
    go_wp2
    repeat (go_quiet (fail); try go_wp2)
    go_ret; exact ⟨z16_6, z16_10⟩

/-! ### spec_l4All: function 81 -/
def spec_l4All.l0 : Nat → Int → List Int → List Int → Int → Option (List Int)
  | 0, _, _, _, _ => none
  | k + 1, x0, x1, x5, x6 => if x6 < 8 then ((spec_l4Row.f x0 x6).bind fun t568 => ((spec_l2Dot.f k t568 x1).bind fun t571 => (if x5.length < 17592186044416 then (spec_l4All.l0 k x0 x1 (x5 ++ [t571]) (wrap64 (x6 + 1))) else (none)))) else (some x5)
def spec_l4All.f (k : Nat) (a0 : Int) (l1 : List Int) : Option (List Int) := spec_l4All.l0 k a0 l1 (([] : List Int)) 0
set_option maxHeartbeats 8000000 in
set_option maxRecDepth 100000 in
theorem spec_l4All.calls (k : Nat) (a0 : Int) (A1 : Option Addr) (c1 : Nat) (l1 : List Int) (r : List Int) (w : World) (hr1 : Kd.C (Kd.int .i64) w A1 l1.length l1) (hc1 : l1.length ≤ c1) (h : spec_l4All.f k a0 l1 = some r) :
  Calls Try.prog 81 #[.int .i64 a0, .slice A1 l1.length c1] w fun e w' => ∃ v0_ : Value, e = .returned (v0_) ∧ Kd.R (Kd.int .i64) 3 w' w.heap.size (fun _ => True) v0_ r ∧ Below w.heap.size w w' := by
 have HR1 := Aside0.mk hr1
 have HC1 := Aside0.mk hc1
 clear hr1 hc1
 have HB := Aside0.mk (Below.refl w.heap.size w)
 unfold spec_l4All.f at h
 have H := h
 clear h
 obtain ⟨y565, hy565⟩ : ∃ y_ : List Int, y_ = (([] : List Int)) := ⟨_, rfl⟩
 replace H : (spec_l4All.l0 k a0 l1 y565 0) = some r := yZZ_ hy565 H
 have Ny565 := Aside0.mk hy565
 clear hy565
 have H' := Aside0.mk H
 clear H
 go_enter Try.func81, Try.ntmps81
 go_wp2_with (first | ((with_reducible refine gate_dst (N := 7) rfl ?_); refine Kd.R_lit (Kd.int .i64) _ 3 ?hg (N := 7) ?hd (xs := ([] : List Int)) (inner := []) (ok := fun _ => True) (okp := fun _ => True) ?hr ?hp (fun _ hk => hk) trivial (Below.refl _ _) (Nat.le_refl _) (by simp) ?_; (case hd => rfl); (case hg => rfl); (case hr => first | (go_simp; done) | (go_simp; rfl)); (case hp => exact (Reps.none _ _)); intro v566 w3 ho4 hb hg_ hnew_; clear hg_ hnew_; (first | rw [← Ny565.out] at ho4 | (simp only [Int.reduceToNat] at ho4; rw [← Ny565.out] at ho4)); have HO567 := Aside0.mk (Kd.R_lower ho4 (below_size z16_0)); replace HB := Aside0.mk (below_step z16_0 hb); clear hb ho4))
 go_loopg [5, 6] k (fun kq v5 v6 w' => ∃ (x5_1 : List Int) (x6_1 : Int), v6 = .int .i64 x6_1 ∧ Aside0 (spec_l4All.l0 kq a0 l1 x5_1 x6_1 = some r) ∧ Aside0 (kq ≤ k) ∧ Aside0 (Kd.R (Kd.int .i64) 3 w' w.heap.size (fun _ => True) v5 x5_1) ∧ Aside0 (Below w.heap.size w w'))
 case atStart => exact ⟨(y565), (0), z16_6, H', ⟨Nat.le_refl _⟩, ⟨by (with_reducible repeat (first | apply Kd.R_alloc | apply Kd.R_drewN | apply Kd.R_drew)); exact HO567.out⟩, ⟨z16_0⟩⟩
 case round =>
  clear H'
  try clear c1
  obtain ⟨x5_1, x6_1, rfl, HA, HK1, HO_5, HB⟩ := hrel
  cases gk with
  | zero => exact absurd HA.out (by simp [spec_l4All.l0])
  | succ k1 =>
   have H := HA.out
   clear HA; simp only [spec_l4All.l0] at H
   by_cases c5 : x6_1 < 8
   ·rw [if_pos c5] at H
    have c5b0 : decide (x6_1 < 8) = true := decide_eq_true c5; clear c5
    replace H := Option.bind_eq_some_iff.mp H
    obtain ⟨t568, A60, H⟩ := H
    have A6 := Aside0.mk A60
    clear A60
    replace H := Option.bind_eq_some_iff.mp H
    obtain ⟨t571, A70, H⟩ := H
    have A7 := Aside0.mk A70
    clear A70; obtain ⟨c8, H⟩ := ifP H
    have LMc8 := Aside0.mk c8
    clear c8
    obtain ⟨y572, hy572⟩ : ∃ y_ : List Int, y_ = (x5_1 ++ [t571]) := ⟨_, rfl⟩
    replace H : (spec_l4All.l0 k1 a0 l1 y572 (wrap64 (x6_1 + 1))) = some r := yZZ_ hy572 H
    have Ny572 := Aside0.mk hy572
    clear hy572
    have H' := Aside0.mk H
    clear H
    go_wp2_with (first | ((with_reducible refine gate_callee (f := 106) rfl ?_); refine goesL_ (some 15) rfl rfl Try.func106 (by kernel_rfl) rfl #[.int .i64 a0, .int .i64 x6_1] rfl z16_2 ?_; (with_reducible refine (spec_l4Row.calls a0 x6_1 t568 _ A6.out).mono ?_); rintro e w9 ⟨v569, rfl, ho0, hb⟩; refine ⟨_, rfl, ?_⟩; have HO570 := Aside0.mk (Kd.V_lower (Kd.V_mono (ok' := fun k_ => some k_ ≠ (u5 : Value).ownBlock) ho0 (fun k_ hk_ => (Kd.fresh' (Kd.R_lt z16_8) k_ hk_))) (below_size z16_0)); replace HO_5 := Aside0.mk (Kd.R_below z16_8 hb); replace HB := Aside0.mk (below_step z16_0 hb); (try clear hb); (try clear ho0); obtain ⟨Ao10, co10, eo10⟩ := Kd.V_slice HO570.out; subst eo10) | ((with_reducible refine gate_callee (f := 112) rfl ?_); refine goesL_ (some 17) rfl rfl Try.func112 (by kernel_rfl) rfl #[.slice Ao10 t568.length co10, .slice A1 l1.length c1] rfl z16_2 ?_; (with_reducible refine (spec_l2Dot.calls k1 _ _ t568 _ _ l1 t571 _ ?side1 ?side2 ?side3 ?side4 A7.out).mono ?_); (case side1 => exact cZ ((Kd.V_reads' HO570.out).2.2)); (case side2 => exact (Kd.V_reads' HO570.out).2.1); (case side3 => exact cZ ((Kd.C_below HR1.out HB.out))); (case side4 => exact HC1.out); rintro e w' ⟨rfl, ⟨nd, rfl⟩⟩; refine ⟨_, rfl, ?_⟩) | ((with_reducible refine gate_builtin (b := .append) (xs := #[.tmp 12, .tmp 18]) rfl ?_); at_builtin; refine Kd.R_append (Kd.int .i64) (w0 := w) w.heap.size rfl (.tmp 12) (.tmp 18) 28 3 (.int .i64 0) 8 rfl Try.underlying28 info3 rfl (by decide) (by omega) u5 x5_1 t571 [.int .i64 t571] (fun _ => True) (fun _ => False) rfl rfl ?aP (fun _ hk => hk.elim) ?aF ?aO ?aB ?aS ?aL ?_; (case aP => exact rfl); (case aB => exact z16_0); (case aF => exact (fun _ _ => trivial)); (case aO => exact z16_8); (case aS => exact (below_size z16_0)); (case aL => have := LMc8.out; omega); intro v573 w11 ho hb hg hat; rw [← Ny572.out] at ho; have n0_ := Aside0.mk (Kd.V_afterv (ok := (fun _ => True)) (by (with_reducible repeat (first | apply Kd.V_alloc | apply Kd.V_drewN | apply Kd.V_drew)); exact Kd.V_mono HO570.out (fun _ hk => ⟨trivial, hk⟩)) hg hat); have n1_ := Aside0.mk (hb); have n2_ := Aside0.mk (ho); clear HO570; clear HB; clear HO_5; have HO570 := n0_; have HB := n1_; have HO574 := n2_; clear n0_ n1_ n2_; clear ho hb hg hat))
    go_roundg k1
    case measure => have := HK1.out; omega
    case rel => exact ⟨(y572), (wrap64 (x6_1 + 1)), z16_6, H', ⟨by have := HK1.out; omega⟩, ⟨by (with_reducible repeat (first | apply Kd.R_alloc | apply Kd.R_drewN | apply Kd.R_drew)); exact HO574.out⟩, ⟨z16_0⟩⟩
   ·rw [if_neg c5] at H
    have c5b0 : decide (x6_1 < 8) = false := decide_eq_false c5; clear c5
    obtain rfl := Option.some.inj H
    go_wp2
    go_ret; exact ⟨_, z16_9, z16_8, z16_0⟩

end Go.Proofs.Ytamaejafddmagaa.PA
namespace Go.Proofs.Ytamaejafddmagaa.PA
open Go.RowKit Go.Proofs.YtamaejafddmagaaW.PrintWords Go.Proofs.YtamaejafddmagaaW.PrintLast Go.Proofs.YtamaejafddmagaaW.PrintMore
attribute [local go_sem] max2_int min2_int max_two min_two max_three min_three max_four min_four   -- for this text's walks alone
set_option linter.unusedVariables false
set_option linter.unusedSimpArgs false

/-! ### spec_l91Num: function 117 -/
theorem z17_0 {p : Prop} (h : p := by repeat (first | (with_reducible first | exact HK.out | apply KeepBut.set_ | apply keep_drewN | apply keep_drew | apply keep_alloc) | exact HK.out)) : p := h
theorem z17_1 {p : Prop} (h : p := by (try simp only [List.map_toArray, List.map_cons, List.map_nil]); first | done | rfl | (simp only [List.length_drop, List.length_take]; rfl)) : p := h
theorem z17_2 {p : Prop} (h : p := by repeat (first | (with_reducible first | exact HB.out | apply below_alloc | apply pw_below_drewN | apply below_drew1 | refine below_set ?_ (IsS99.ge HI0.out)) | exact HB.out)) : p := h
theorem z17_3 {p : Prop} (h : p := by repeat (first | (with_reducible first | exact HI0.out | apply IsS99.alloc | apply IsS99.drewN | apply IsS99.drew | apply IsS99.set_1) | exact HI0.out)) : p := h
theorem z17_4 {p : Prop} (h : p := by first | rfl | (simp [errW_none, errW_some] <;> rfl) | (simp [*, errW_none, errW_some] <;> rfl)) : p := h
theorem z17_5 {p : Prop} (h : p := by first | (with_reducible assumption) | assumption) : p := h
def spec_l91Num.f (k : Nat) (s0_0 : List Int) (s0_1 : Int) : Option (Int × Int) := (spec_l6Rd_pick.f k s0_0 s0_1 10).bind fun bt575 => (if bt575.1 = 0 then (some (0, bt575.2)) else (if bt575.1 = 1 then ((some (([1, 30] : List Int) : List Int)).bind fun y577 => ((spec_l6Rd_pick.f k s0_0 bt575.2 2).bind fun bt580 => (if 0 ≤ bt580.1 then (if bt580.1 < (y577.length : Int) then (some (rd y577 bt580.1, bt580.2)) else (none)) else (none)))) else (if bt575.1 = 2 then ((spec_l6Rd_pick.f k s0_0 bt575.2 5).bind fun bt583 => (if bt583.1 = 0 then ((some (([(-1), 31] : List Int) : List Int)).bind fun y585 => ((spec_l6Rd_pick.f k s0_0 bt583.2 2).bind fun bt588 => (if 0 ≤ bt588.1 then (if bt588.1 < (y585.length : Int) then (some (rd y585 bt588.1, bt588.2)) else (none)) else (none)))) else ((spec_l6Rd_pick.f k s0_0 bt583.2 31).bind fun bt591 => (some (bt591.1, bt591.2))))) else ((spec_l6Rd_pick.f k s0_0 bt575.2 31).bind fun bt593 => (some (bt593.1, bt593.2))))))
set_option maxHeartbeats 8000000 in
set_option maxRecDepth 100000 in
theorem spec_l91Num.calls (k : Nat) (g : Nat) (s0_0 : List Int) (s0_1 : Int) (r1 : Int) (r2 : Int) (w0 w : World) (hI : IsS99 w0 w g s0_0 s0_1) (hB : Below w0.heap.size w0 w) (h : spec_l91Num.f k s0_0 s0_1 = some (r1, r2)) :
  Calls Try.prog 117 #[.pointer (some ⟨g, 0, none⟩)] w fun e w' => e = .returned (.int .i64 r1) ∧ IsS99 w0 w' g s0_0 r2 ∧ Below w0.heap.size w0 w' ∧ KeepBut w w' g none := by
 have HI0 := Aside0.mk hI
 have HK := Aside0.mk (KeepBut.refl w g none)
 have HL := Aside0.mk hB.size
 clear hI
 have HW0 := Aside0.mk hB.size
 have HB := Aside0.mk hB
 clear hB
 unfold spec_l91Num.f at h
 have H := h
 clear h
 replace H := Option.bind_eq_some_iff.mp H
 obtain ⟨⟨t575, t576⟩, A20, H⟩ := H
 replace H : (if t575 = 0 then (some (0, t576)) else (if t575 = 1 then ((some (([1, 30] : List Int) : List Int)).bind fun y577 => ((spec_l6Rd_pick.f k s0_0 t576 2).bind fun bt580 => (if 0 ≤ bt580.1 then (if bt580.1 < (y577.length : Int) then (some (rd y577 bt580.1, bt580.2)) else (none)) else (none)))) else (if t575 = 2 then ((spec_l6Rd_pick.f k s0_0 t576 5).bind fun bt583 => (if bt583.1 = 0 then ((some (([(-1), 31] : List Int) : List Int)).bind fun y585 => ((spec_l6Rd_pick.f k s0_0 bt583.2 2).bind fun bt588 => (if 0 ≤ bt588.1 then (if bt588.1 < (y585.length : Int) then (some (rd y585 bt588.1, bt588.2)) else (none)) else (none)))) else ((spec_l6Rd_pick.f k s0_0 bt583.2 31).bind fun bt591 => (some (bt591.1, bt591.2))))) else ((spec_l6Rd_pick.f k s0_0 t576 31).bind fun bt593 => (some (bt593.1, bt593.2)))))) = some (r1, r2) := H
 have A2 := Aside0.mk A20
 clear A20
 by_cases c3 : t575 = 0
 ·rw [if_pos c3] at H
  have c3b0 : (t575 == 0) = true := beq_iff_eq.mpr c3
  have c3b1 : (t575 != 0) = false := bne_eq_false_iff_eq.mpr c3
  clear c3; simp only [Option.some.injEq, Prod.mk.injEq] at H; obtain ⟨rfl, rfl⟩ := H; go_enter Try.func117, Try.ntmps117
  go_wp2_with (first | ((with_reducible refine gate_callee (f := 78) rfl ?_); refine goesL_ (some 4) rfl rfl Try.func78 (by kernel_rfl) rfl #[.pointer (some ⟨g, 0, none⟩), .int .i64 10] rfl z17_1 ?_; (with_reducible refine (spec_l6Rd_pick.calls k g s0_0 s0_1 10 t575 t576 w0 _ ?side1 ?side2 A2.out).mono ?_); (case side1 => repeat (first | (with_reducible first | exact HI0.out | apply IsS99.alloc | apply IsS99.drewN | apply IsS99.drew | apply IsS99.set_1) | exact HI0.out)); (case side2 => repeat (first | (with_reducible first | exact HB.out | apply below_alloc | apply pw_below_drewN | apply below_drew1 | refine below_set ?_ (IsS99.ge HI0.out)) | exact HB.out)); rintro e w4 ⟨rfl, hi, hb, hk⟩; refine ⟨_, rfl, ?_⟩; replace HK := Aside0.mk (KeepBut.trans z17_0 hk (.inl rfl)); replace HB := Aside0.mk (hb); replace HI0 := Aside0.mk (hi); (try clear hb)))
  go_ret; exact ⟨z17_4, z17_3, z17_2, z17_0⟩
 ·rw [if_neg c3] at H
  have c3b0 : (t575 == 0) = false := beq_eq_false_iff_ne.mpr c3
  have c3b1 : (t575 != 0) = true := bne_iff_ne.mpr c3
  by_cases c5 : t575 = 1
  ·rw [if_pos c5] at H
   have c5b0 : (t575 == 1) = true := beq_iff_eq.mpr c5
   have c5b1 : (t575 != 1) = false := bne_eq_false_iff_eq.mpr c5
   clear c5
   obtain ⟨y577, hy577⟩ : ∃ y_ : List Int, y_ = (([1, 30] : List Int)) := ⟨_, rfl⟩
   replace H : ((spec_l6Rd_pick.f k s0_0 t576 2).bind fun bt580 => (if 0 ≤ bt580.1 then (if bt580.1 < (y577.length : Int) then (some (rd y577 bt580.1, bt580.2)) else (none)) else (none))) = some (r1, r2) := yZZ_ hy577 H
   have Ny577 := Aside0.mk hy577
   clear hy577
   replace H := Option.bind_eq_some_iff.mp H
   obtain ⟨⟨t580, t581⟩, A60, H⟩ := H
   replace H : (if 0 ≤ t580 then (if t580 < (y577.length : Int) then (some (rd y577 t580, t581)) else (none)) else (none)) = some (r1, r2) := H
   have A6 := Aside0.mk A60
   clear A60; obtain ⟨c7, H⟩ := ifP H; have c7b0 : decide (0 ≤ t580) = true := decide_eq_true c7; clear c7; obtain ⟨c8, H⟩ := ifP H; have c8b0 : decide (t580 < (y577.length : Int)) = true := decide_eq_true c8; clear c8; simp only [Option.some.injEq, Prod.mk.injEq] at H; obtain ⟨rfl, rfl⟩ := H; go_enter Try.func117, Try.ntmps117
   go_wp2_with (first | ((with_reducible refine gate_callee (f := 78) rfl ?_); refine goesL_ (some 4) rfl rfl Try.func78 (by kernel_rfl) rfl #[.pointer (some ⟨g, 0, none⟩), .int .i64 10] rfl z17_1 ?_; (with_reducible refine (spec_l6Rd_pick.calls k g s0_0 s0_1 10 t575 t576 w0 _ ?side1 ?side2 A2.out).mono ?_); (case side1 => repeat (first | (with_reducible first | exact HI0.out | apply IsS99.alloc | apply IsS99.drewN | apply IsS99.drew | apply IsS99.set_1) | exact HI0.out)); (case side2 => repeat (first | (with_reducible first | exact HB.out | apply below_alloc | apply pw_below_drewN | apply below_drew1 | refine below_set ?_ (IsS99.ge HI0.out)) | exact HB.out)); rintro e w9 ⟨rfl, hi, hb, hk⟩; refine ⟨_, rfl, ?_⟩; replace HK := Aside0.mk (KeepBut.trans z17_0 hk (.inl rfl)); replace HB := Aside0.mk (hb); replace HI0 := Aside0.mk (hi); (try clear hb)) | ((with_reducible refine gate_dst (N := 9) rfl ?_); refine Kd.R_lit (Kd.int .i64) _ 3 ?hg (N := 9) ?hd (xs := ([1, 30] : List Int)) (inner := [.int .i64 1, .int .i64 30]) (ok := fun _ => True) (okp := fun _ => True) ?hr ?hp (fun _ hk => hk) trivial (Below.refl _ _) (Nat.le_refl _) (by simp) ?_; (case hd => rfl); (case hg => rfl); (case hr => first | (go_simp; done) | (go_simp; rfl)); (case hp => exact (Reps.one (show Kd.M (Kd.int .i64) _ _ _ 1 [.int .i64 1] from rfl) (Reps.one (show Kd.M (Kd.int .i64) _ _ _ 30 [.int .i64 30] from rfl) (Reps.none _ _)))); intro v578 w10 ho11 hb hg_ hnew_; clear hg_ hnew_; (first | rw [← Ny577.out] at ho11 | (simp only [Int.reduceToNat] at ho11; rw [← Ny577.out] at ho11)); have HO579 := Aside0.mk (Kd.R_lower ho11 (keep_size (w := w) (g := g) (row := none) z17_0)); replace HK := Aside0.mk (KeepBut.trans z17_0 (KeepBut.of_below hb g none) (.inl rfl)); replace HB := Aside0.mk (below_step z17_2 hb); replace HI0 := Aside0.mk (IsS99.below z17_3 hb); clear hb ho11) | ((with_reducible refine gate_callee (f := 78) rfl ?_); refine goesL_ (some 11) rfl rfl Try.func78 (by kernel_rfl) rfl #[.pointer (some ⟨g, 0, none⟩), .int .i64 2] rfl z17_1 ?_; (with_reducible refine (spec_l6Rd_pick.calls k g s0_0 t576 2 t580 t581 w0 _ ?side1 ?side2 A6.out).mono ?_); (case side1 => repeat (first | (with_reducible first | exact HI0.out | apply IsS99.alloc | apply IsS99.drewN | apply IsS99.drew | apply IsS99.set_1) | exact HI0.out)); (case side2 => repeat (first | (with_reducible first | exact HB.out | apply below_alloc | apply pw_below_drewN | apply below_drew1 | refine below_set ?_ (IsS99.ge HI0.out)) | exact HB.out)); rintro e w12 ⟨rfl, hi, hb, hk⟩; refine ⟨_, rfl, ?_⟩; replace HO579 := Aside0.mk (Kd.R_mono (Kd.R_keep (IsS99.apart (show IsS99 w0 _ g s0_0 t576 from by repeat (first | (with_reducible first | exact HI0.out | apply IsS99.alloc | apply IsS99.drewN | apply IsS99.drew | apply IsS99.set_1) | exact HI0.out)) (by (with_reducible repeat (first | apply Kd.R_alloc | apply Kd.R_drewN | apply Kd.R_drew)); exact HO579.out) (by decide)) hk (fun _ h => h.2)) (fun _ h => h.1)); replace HK := Aside0.mk (KeepBut.trans z17_0 hk (.inl rfl)); replace HB := Aside0.mk (hb); replace HI0 := Aside0.mk (hi); (try clear hb); obtain ⟨Ao13, co13, eo13⟩ := Kd.R_slice HO579.out; subst eo13; have p582 : 0 ≤ (t580 : Int) := of_decide_eq_true z17_5; have q582 : t580 < (y577.length : Int) := of_decide_eq_true z17_5; obtain ⟨ad582, e582, hx582_0⟩ := Kd.at_int (Kd.R_reads' HO579.out).2.2 t580 p582 q582; cases e582; replace p582 := eq_true p582; replace q582 := eq_true q582))
   go_ret; exact ⟨z17_4, z17_3, z17_2, z17_0⟩
  ·rw [if_neg c5] at H
   have c5b0 : (t575 == 1) = false := beq_eq_false_iff_ne.mpr c5
   have c5b1 : (t575 != 1) = true := bne_iff_ne.mpr c5
   by_cases c14 : t575 = 2
   ·rw [if_pos c14] at H
    have c14b0 : (t575 == 2) = true := beq_iff_eq.mpr c14
    have c14b1 : (t575 != 2) = false := bne_eq_false_iff_eq.mpr c14
    clear c14
    replace H := Option.bind_eq_some_iff.mp H
    obtain ⟨⟨t583, t584⟩, A150, H⟩ := H
    replace H : (if t583 = 0 then ((some (([(-1), 31] : List Int) : List Int)).bind fun y585 => ((spec_l6Rd_pick.f k s0_0 t584 2).bind fun bt588 => (if 0 ≤ bt588.1 then (if bt588.1 < (y585.length : Int) then (some (rd y585 bt588.1, bt588.2)) else (none)) else (none)))) else ((spec_l6Rd_pick.f k s0_0 t584 31).bind fun bt591 => (some (bt591.1, bt591.2)))) = some (r1, r2) := H
    have A15 := Aside0.mk A150
    clear A150
    by_cases c16 : t583 = 0
    ·rw [if_pos c16] at H
     have c16b0 : (t583 == 0) = true := beq_iff_eq.mpr c16
     have c16b1 : (t583 != 0) = false := bne_eq_false_iff_eq.mpr c16
     clear c16
     obtain ⟨y585, hy585⟩ : ∃ y_ : List Int, y_ = (([(-1), 31] : List Int)) := ⟨_, rfl⟩
     replace H : ((spec_l6Rd_pick.f k s0_0 t584 2).bind fun bt588 => (if 0 ≤ bt588.1 then (if bt588.1 < (y585.length : Int) then (some (rd y585 bt588.1, bt588.2)) else (none)) else (none))) = some (r1, r2) := yZZ_ hy585 H
     have Ny585 := Aside0.mk hy585
     clear hy585
     replace H := Option.bind_eq_some_iff.mp H
     obtain ⟨⟨t588, t589⟩, A170, H⟩ := H
     replace H : (if 0 ≤ t588 then (if t588 < (y585.length : Int) then (some (rd y585 t588, t589)) else (none)) else (none)) = some (r1, r2) := H
     have A17 := Aside0.mk A170
     clear A170; obtain ⟨c18, H⟩ := ifP H; have c18b0 : decide (0 ≤ t588) = true := decide_eq_true c18; clear c18; obtain ⟨c19, H⟩ := ifP H; have c19b0 : decide (t588 < (y585.length : Int)) = true := decide_eq_true c19; clear c19; simp only [Option.some.injEq, Prod.mk.injEq] at H; obtain ⟨rfl, rfl⟩ := H; go_enter Try.func117, Try.ntmps117
     go_wp2_with (first | ((with_reducible refine gate_callee (f := 78) rfl ?_); refine goesL_ (some 4) rfl rfl Try.func78 (by kernel_rfl) rfl #[.pointer (some ⟨g, 0, none⟩), .int .i64 10] rfl z17_1 ?_; (with_reducible refine (spec_l6Rd_pick.calls k g s0_0 s0_1 10 t575 t576 w0 _ ?side1 ?side2 A2.out).mono ?_); (case side1 => repeat (first | (with_reducible first | exact HI0.out | apply IsS99.alloc | apply IsS99.drewN | apply IsS99.drew | apply IsS99.set_1) | exact HI0.out)); (case side2 => repeat (first | (with_reducible first | exact HB.out | apply below_alloc | apply pw_below_drewN | apply below_drew1 | refine below_set ?_ (IsS99.ge HI0.out)) | exact HB.out)); rintro e w20 ⟨rfl, hi, hb, hk⟩; refine ⟨_, rfl, ?_⟩; replace HK := Aside0.mk (KeepBut.trans z17_0 hk (.inl rfl)); replace HB := Aside0.mk (hb); replace HI0 := Aside0.mk (hi); (try clear hb)) | ((with_reducible refine gate_callee (f := 78) rfl ?_); refine goesL_ (some 17) rfl rfl Try.func78 (by kernel_rfl) rfl #[.pointer (some ⟨g, 0, none⟩), .int .i64 5] rfl z17_1 ?_; (with_reducible refine (spec_l6Rd_pick.calls k g s0_0 t576 5 t583 t584 w0 _ ?side1 ?side2 A15.out).mono ?_); (case side1 => repeat (first | (with_reducible first | exact HI0.out | apply IsS99.alloc | apply IsS99.drewN | apply IsS99.drew | apply IsS99.set_1) | exact HI0.out)); (case side2 => repeat (first | (with_reducible first | exact HB.out | apply below_alloc | apply pw_below_drewN | apply below_drew1 | refine below_set ?_ (IsS99.ge HI0.out)) | exact HB.out)); rintro e w21 ⟨rfl, hi, hb, hk⟩; refine ⟨_, rfl, ?_⟩; replace HK := Aside0.mk (KeepBut.trans z17_0 hk (.inl rfl)); replace HB := Aside0.mk (hb); replace HI0 := Aside0.mk (hi); (try clear hb)) | ((with_reducible refine gate_dst (N := 19) rfl ?_); refine Kd.R_lit (Kd.int .i64) _ 3 ?hg (N := 19) ?hd (xs := ([(-1), 31] : List Int)) (inner := [.int .i64 (-1), .int .i64 31]) (ok := fun _ => True) (okp := fun _ => True) ?hr ?hp (fun _ hk => hk) trivial (Below.refl _ _) (Nat.le_refl _) (by simp) ?_; (case hd => rfl); (case hg => rfl); (case hr => first | (go_simp; done) | (go_simp; rfl)); (case hp => exact (Reps.one (show Kd.M (Kd.int .i64) _ _ _ (-1) [.int .i64 (-1)] from rfl) (Reps.one (show Kd.M (Kd.int .i64) _ _ _ 31 [.int .i64 31] from rfl) (Reps.none _ _)))); intro v586 w22 ho23 hb hg_ hnew_; clear hg_ hnew_; (first | rw [← Ny585.out] at ho23 | (simp only [Int.reduceToNat] at ho23; rw [← Ny585.out] at ho23)); have HO587 := Aside0.mk (Kd.R_lower ho23 (keep_size (w := w) (g := g) (row := none) z17_0)); replace HK := Aside0.mk (KeepBut.trans z17_0 (KeepBut.of_below hb g none) (.inl rfl)); replace HB := Aside0.mk (below_step z17_2 hb); replace HI0 := Aside0.mk (IsS99.below z17_3 hb); clear hb ho23) | ((with_reducible refine gate_callee (f := 78) rfl ?_); refine goesL_ (some 21) rfl rfl Try.func78 (by kernel_rfl) rfl #[.pointer (some ⟨g, 0, none⟩), .int .i64 2] rfl z17_1 ?_; (with_reducible refine (spec_l6Rd_pick.calls k g s0_0 t584 2 t588 t589 w0 _ ?side1 ?side2 A17.out).mono ?_); (case side1 => repeat (first | (with_reducible first | exact HI0.out | apply IsS99.alloc | apply IsS99.drewN | apply IsS99.drew | apply IsS99.set_1) | exact HI0.out)); (case side2 => repeat (first | (with_reducible first | exact HB.out | apply below_alloc | apply pw_below_drewN | apply below_drew1 | refine below_set ?_ (IsS99.ge HI0.out)) | exact HB.out)); rintro e w24 ⟨rfl, hi, hb, hk⟩; refine ⟨_, rfl, ?_⟩; replace HO587 := Aside0.mk (Kd.R_mono (Kd.R_keep (IsS99.apart (show IsS99 w0 _ g s0_0 t584 from by repeat (first | (with_reducible first | exact HI0.out | apply IsS99.alloc | apply IsS99.drewN | apply IsS99.drew | apply IsS99.set_1) | exact HI0.out)) (by (with_reducible repeat (first | apply Kd.R_alloc | apply Kd.R_drewN | apply Kd.R_drew)); exact HO587.out) (by decide)) hk (fun _ h => h.2)) (fun _ h => h.1)); replace HK := Aside0.mk (KeepBut.trans z17_0 hk (.inl rfl)); replace HB := Aside0.mk (hb); replace HI0 := Aside0.mk (hi); (try clear hb); obtain ⟨Ao25, co25, eo25⟩ := Kd.R_slice HO587.out; subst eo25; have p590 : 0 ≤ (t588 : Int) := of_decide_eq_true z17_5; have q590 : t588 < (y585.length : Int) := of_decide_eq_true z17_5; obtain ⟨ad590, e590, hx590_0⟩ := Kd.at_int (Kd.R_reads' HO587.out).2.2 t588 p590 q590; cases e590; replace p590 := eq_true p590; replace q590 := eq_true q590))
     go_ret; exact ⟨z17_4, z17_3, z17_2, z17_0⟩
    ·rw [if_neg c16] at H
     have c16b0 : (t583 == 0) = false := beq_eq_false_iff_ne.mpr c16
     have c16b1 : (t583 != 0) = true := bne_iff_ne.mpr c16
     replace H := Option.bind_eq_some_iff.mp H
     obtain ⟨⟨t591, t592⟩, A260, H⟩ := H
     dsimp only at H
     have A26 := Aside0.mk A260
     clear A260; simp only [Option.some.injEq, Prod.mk.injEq] at H; obtain ⟨rfl, rfl⟩ := H; go_enter Try.func117, Try.ntmps117
     go_wp2_with (first | ((with_reducible refine gate_callee (f := 78) rfl ?_); refine goesL_ (some 4) rfl rfl Try.func78 (by kernel_rfl) rfl #[.pointer (some ⟨g, 0, none⟩), .int .i64 10] rfl z17_1 ?_; (with_reducible refine (spec_l6Rd_pick.calls k g s0_0 s0_1 10 t575 t576 w0 _ ?side1 ?side2 A2.out).mono ?_); (case side1 => repeat (first | (with_reducible first | exact HI0.out | apply IsS99.alloc | apply IsS99.drewN | apply IsS99.drew | apply IsS99.set_1) | exact HI0.out)); (case side2 => repeat (first | (with_reducible first | exact HB.out | apply below_alloc | apply pw_below_drewN | apply below_drew1 | refine below_set ?_ (IsS99.ge HI0.out)) | exact HB.out)); rintro e w27 ⟨rfl, hi, hb, hk⟩; refine ⟨_, rfl, ?_⟩; replace HK := Aside0.mk (KeepBut.trans z17_0 hk (.inl rfl)); replace HB := Aside0.mk (hb); replace HI0 := Aside0.mk (hi); (try clear hb)) | ((with_reducible refine gate_callee (f := 78) rfl ?_); refine goesL_ (some 17) rfl rfl Try.func78 (by kernel_rfl) rfl #[.pointer (some ⟨g, 0, none⟩), .int .i64 5] rfl z17_1 ?_; (with_reducible refine (spec_l6Rd_pick.calls k g s0_0 t576 5 t583 t584 w0 _ ?side1 ?side2 A15.out).mono ?_); (case side1 => repeat (first | (with_reducible first | exact HI0.out | apply IsS99.alloc | apply IsS99.drewN | apply IsS99.drew | apply IsS99.set_1) | exact HI0.out)); (case side2 => repeat (first | (with_reducible first | exact HB.out | apply below_alloc | apply pw_below_drewN | apply below_drew1 | refine below_set ?_ (IsS99.ge HI0.out)) | exact HB.out)); rintro e w28 ⟨rfl, hi, hb, hk⟩; refine ⟨_, rfl, ?_⟩; replace HK := Aside0.mk (KeepBut.trans z17_0 hk (.inl rfl)); replace HB := Aside0.mk (hb); replace HI0 := Aside0.mk (hi); (try clear hb)) | ((with_reducible refine gate_callee (f := 78) rfl ?_); refine goesL_ (some 25) rfl rfl Try.func78 (by kernel_rfl) rfl #[.pointer (some ⟨g, 0, none⟩), .int .i64 31] rfl z17_1 ?_; (with_reducible refine (spec_l6Rd_pick.calls k g s0_0 t584 31 t591 t592 w0 _ ?side1 ?side2 A26.out).mono ?_); (case side1 => repeat (first | (with_reducible first | exact HI0.out | apply IsS99.alloc | apply IsS99.drewN | apply IsS99.drew | apply IsS99.set_1) | exact HI0.out)); (case side2 => repeat (first | (with_reducible first | exact HB.out | apply below_alloc | apply pw_below_drewN | apply below_drew1 | refine below_set ?_ (IsS99.ge HI0.out)) | exact HB.out)); rintro e w29 ⟨rfl, hi, hb, hk⟩; refine ⟨_, rfl, ?_⟩; replace HK := Aside0.mk (KeepBut.trans z17_0 hk (.inl rfl)); replace HB := Aside0.mk (hb); replace HI0 := Aside0.mk (hi); (try clear hb)))
     go_ret; exact ⟨z17_4, z17_3, z17_2, z17_0⟩
   ·rw [if_neg c14] at H
    have c14b0 : (t575 == 2) = false := beq_eq_false_iff_ne.mpr c14
    have c14b1 : (t575 != 2) = true := bne_iff_ne.mpr c14
    replace H := Option.bind_eq_some_iff.mp H
    obtain ⟨⟨t593, t594⟩, A300, H⟩ := H
    dsimp only at H
    have A30 := Aside0.mk A300
    clear A300; simp only [Option.some.injEq, Prod.mk.injEq] at H; obtain ⟨rfl, rfl⟩ := H; go_enter Try.func117, Try.ntmps117
    go_wp2_with (first | ((with_reducible refine gate_callee (f := 78) rfl ?_); refine goesL_ (some 4) rfl rfl Try.func78 (by kernel_rfl) rfl #[.pointer (some ⟨g, 0, none⟩), .int .i64 10] rfl z17_1 ?_; (with_reducible refine (spec_l6Rd_pick.calls k g s0_0 s0_1 10 t575 t576 w0 _ ?side1 ?side2 A2.out).mono ?_); (case side1 => repeat (first | (with_reducible first | exact HI0.out | apply IsS99.alloc | apply IsS99.drewN | apply IsS99.drew | apply IsS99.set_1) | exact HI0.out)); (case side2 => repeat (first | (with_reducible first | exact HB.out | apply below_alloc | apply pw_below_drewN | apply below_drew1 | refine below_set ?_ (IsS99.ge HI0.out)) | exact HB.out)); rintro e w31 ⟨rfl, hi, hb, hk⟩; refine ⟨_, rfl, ?_⟩; replace HK := Aside0.mk (KeepBut.trans z17_0 hk (.inl rfl)); replace HB := Aside0.mk (hb); replace HI0 := Aside0.mk (hi); (try clear hb)) | ((with_reducible refine gate_callee (f := 78) rfl ?_); refine goesL_ (some 25) rfl rfl Try.func78 (by kernel_rfl) rfl #[.pointer (some ⟨g, 0, none⟩), .int .i64 31] rfl z17_1 ?_; (with_reducible refine (spec_l6Rd_pick.calls k g s0_0 t576 31 t593 t594 w0 _ ?side1 ?side2 A30.out).mono ?_); (case side1 => repeat (first | (with_reducible first | exact HI0.out | apply IsS99.alloc | apply IsS99.drewN | apply IsS99.drew | apply IsS99.set_1) | exact HI0.out)); (case side2 => repeat (first | (with_reducible first | exact HB.out | apply below_alloc | apply pw_below_drewN | apply below_drew1 | refine below_set ?_ (IsS99.ge HI0.out)) | exact HB.out)); rintro e w32 ⟨rfl, hi, hb, hk⟩; refine ⟨_, rfl, ?_⟩; replace HK := Aside0.mk (KeepBut.trans z17_0 hk (.inl rfl)); replace HB := Aside0.mk (hb); replace HI0 := Aside0.mk (hi); (try clear hb)))
    go_ret; exact ⟨z17_4, z17_3, z17_2, z17_0⟩

end Go.Proofs.Ytamaejafddmagaa.PA
namespace Go.Proofs.Ytamaejafddmagaa.PA
open Go.RowKit Go.Proofs.YtamaejafddmagaaW.PrintWords Go.Proofs.YtamaejafddmagaaW.PrintLast Go.Proofs.YtamaejafddmagaaW.PrintMore
attribute [local go_sem] max2_int min2_int max_two min_two max_three min_three max_four min_four   -- for this text's walks alone
set_option linter.unusedVariables false
set_option linter.unusedSimpArgs false

/-! ### spec_l91Vals: function 87 -/
theorem z18_0 {p : Prop} (h : p := by repeat (first | (with_reducible first | exact HK.out | apply KeepBut.set_ | apply keep_drewN | apply keep_drew | apply keep_alloc) | exact HK.out)) : p := h
theorem z18_1 {p : Prop} (h : p := by (try simp only [List.map_toArray, List.map_cons, List.map_nil]); first | done | rfl | (simp only [List.length_drop, List.length_take]; rfl)) : p := h
theorem z18_2 {p : Prop} (h : p := by (with_reducible repeat (first | apply Kd.R_alloc | apply Kd.R_drewN | apply Kd.R_drew)); exact HO607.out) : p := h
theorem z18_3 {p : Prop} (h : p := by repeat (first | (with_reducible first | exact HB.out | apply below_alloc | apply pw_below_drewN | apply below_drew1 | refine below_set ?_ (IsS99.ge HI0.out)) | exact HB.out)) : p := h
theorem z18_4 {p : Prop} (h : p := by repeat (first | (with_reducible first | exact HI0.out | apply IsS99.alloc | apply IsS99.drewN | apply IsS99.drew | apply IsS99.set_1) | exact HI0.out)) : p := h
theorem z18_5 {p : Prop} (h : p := by (with_reducible repeat (first | apply Kd.Q_alloc | apply Kd.Q_drewN | apply Kd.Q_drew)); exact HO613.out) : p := h
theorem z18_6 {p : Prop} (h : p := by (with_reducible repeat (first | apply Kd.R_alloc | apply Kd.R_drewN | apply Kd.R_drew)); exact HO610.out) : p := h
theorem z18_7 {p : Prop} (h : p := by (with_reducible repeat (first | apply Kd.R_alloc | apply Kd.R_drewN | apply Kd.R_drew)); exact Kd.R_mono HO610.out (fun _ hk => trivial)) : p := h
theorem z18_8 {p : Prop} (h : p := by first | rfl | (simp [errW_none, errW_some] <;> rfl) | (simp [*, errW_none, errW_some] <;> rfl)) : p := h
theorem z18_9 {p : Prop} (h : p := by first | (with_reducible assumption) | assumption) : p := h
def spec_l91Vals.f (k : Nat) (s0_0 : List Int) (s0_1 : Int) : Option (Int × List Int × List Bool × Int) := (spec_l6Rd_pick.f k s0_0 s0_1 2).bind fun bt595 => ((spec_l6Rd_pick.f k s0_0 bt595.2 31).bind fun bt597 => ((spec_l6Rd_pick.f k s0_0 bt597.2 5).bind fun bt599 => ((spec_l6Rd_pick.f k s0_0 bt599.2 31).bind fun bt601 => ((spec_l6Rd_pick.f k s0_0 bt601.2 3).bind fun bt603 => ((spec_l4All.f k (wrap64 (1 + bt595.1)) (([bt597.1, bt599.1, bt601.1, bt603.1] : List Int))).bind fun t608 => ((spec_l91There.f k s0_0 bt603.2).bind fun bt611 => ((spec_l6Rd_pick.f k s0_0 bt611.2 6).bind fun bt615 => (if bt615.1 = 0 then ((spec_l6Rd_pick.f k s0_0 bt615.2 (t608.length : Int)).bind fun bt617 => ((spec_l91Num.f k s0_0 bt617.2).bind fun bt619 => (if 0 ≤ bt617.1 then (if bt617.1 < (t608.length : Int) then (some (wrap64 (1 + bt595.1), (t608.set (bt617.1 : Int).toNat bt619.1), bt611.1, bt619.2)) else (none)) else (none)))) else (if bt615.1 = 1 then ((spec_l6Rd_pick.f k s0_0 bt615.2 3).bind fun bt622 => (if bt622.1 = 0 then ((spec_l91Kind.f k s0_0 bt622.2).bind fun bt624 => (some (bt624.1, t608, bt611.1, bt624.2))) else (some (wrap64 (1 + bt595.1), t608, bt611.1, bt622.2)))) else (some (wrap64 (1 + bt595.1), t608, bt611.1, bt615.2)))))))))))
set_option maxHeartbeats 8000000 in
set_option maxRecDepth 100000 in
theorem spec_l91Vals.calls (k : Nat) (g : Nat) (s0_0 : List Int) (s0_1 : Int) (r1 : Int) (r2 : List Int) (r3 : List Bool) (r4 : Int) (w0 w : World) (hI : IsS99 w0 w g s0_0 s0_1) (hB : Below w0.heap.size w0 w) (h : spec_l91Vals.f k s0_0 s0_1 = some (r1, r2, r3, r4)) :
  Calls Try.prog 87 #[.pointer (some ⟨g, 0, none⟩)] w fun e w' => ∃ v1_ v2_ : Value, e = .returned (.tuple #[.int .i64 r1, v1_, v2_]) ∧ Kd.R (Kd.int .i64) 3 w' w.heap.size (fun _ => True) v1_ r2 ∧ Kd.Q Kd.bool 4 w' w.heap.size (fun _ => True) v2_ r3 ∧ IsS99 w0 w' g s0_0 r4 ∧ Below w0.heap.size w0 w' ∧ KeepBut w w' g none := by
 have HI0 := Aside0.mk hI
 have HK := Aside0.mk (KeepBut.refl w g none)
 have HL := Aside0.mk hB.size
 clear hI
 have HW0 := Aside0.mk hB.size
 have HB := Aside0.mk hB
 clear hB
 unfold spec_l91Vals.f at h
 have H := h
 clear h
 replace H := Option.bind_eq_some_iff.mp H
 obtain ⟨⟨t595, t596⟩, A20, H⟩ := H
 replace H : ((spec_l6Rd_pick.f k s0_0 t596 31).bind fun bt597 => ((spec_l6Rd_pick.f k s0_0 bt597.2 5).bind fun bt599 => ((spec_l6Rd_pick.f k s0_0 bt599.2 31).bind fun bt601 => ((spec_l6Rd_pick.f k s0_0 bt601.2 3).bind fun bt603 => ((spec_l4All.f k (wrap64 (1 + t595)) (([bt597.1, bt599.1, bt601.1, bt603.1] : List Int))).bind fun t608 => ((spec_l91There.f k s0_0 bt603.2).bind fun bt611 => ((spec_l6Rd_pick.f k s0_0 bt611.2 6).bind fun bt615 => (if bt615.1 = 0 then ((spec_l6Rd_pick.f k s0_0 bt615.2 (t608.length : Int)).bind fun bt617 => ((spec_l91Num.f k s0_0 bt617.2).bind fun bt619 => (if 0 ≤ bt617.1 then (if bt617.1 < (t608.length : Int) then (some (wrap64 (1 + t595), (t608.set (bt617.1 : Int).toNat bt619.1), bt611.1, bt619.2)) else (none)) else (none)))) else (if bt615.1 = 1 then ((spec_l6Rd_pick.f k s0_0 bt615.2 3).bind fun bt622 => (if bt622.1 = 0 then ((spec_l91Kind.f k s0_0 bt622.2).bind fun bt624 => (some (bt624.1, t608, bt611.1, bt624.2))) else (some (wrap64 (1 + t595), t608, bt611.1, bt622.2)))) else (some (wrap64 (1 + t595), t608, bt611.1, bt615.2))))))))))) = some (r1, r2, r3, r4) := H
 have A2 := Aside0.mk A20
 clear A20
 replace H := Option.bind_eq_some_iff.mp H
 obtain ⟨⟨t597, t598⟩, A30, H⟩ := H
 replace H : ((spec_l6Rd_pick.f k s0_0 t598 5).bind fun bt599 => ((spec_l6Rd_pick.f k s0_0 bt599.2 31).bind fun bt601 => ((spec_l6Rd_pick.f k s0_0 bt601.2 3).bind fun bt603 => ((spec_l4All.f k (wrap64 (1 + t595)) (([t597, bt599.1, bt601.1, bt603.1] : List Int))).bind fun t608 => ((spec_l91There.f k s0_0 bt603.2).bind fun bt611 => ((spec_l6Rd_pick.f k s0_0 bt611.2 6).bind fun bt615 => (if bt615.1 = 0 then ((spec_l6Rd_pick.f k s0_0 bt615.2 (t608.length : Int)).bind fun bt617 => ((spec_l91Num.f k s0_0 bt617.2).bind fun bt619 => (if 0 ≤ bt617.1 then (if bt617.1 < (t608.length : Int) then (some (wrap64 (1 + t595), (t608.set (bt617.1 : Int).toNat bt619.1), bt611.1, bt619.2)) else (none)) else (none)))) else (if bt615.1 = 1 then ((spec_l6Rd_pick.f k s0_0 bt615.2 3).bind fun bt622 => (if bt622.1 = 0 then ((spec_l91Kind.f k s0_0 bt622.2).bind fun bt624 => (some (bt624.1, t608, bt611.1, bt624.2))) else (some (wrap64 (1 + t595), t608, bt611.1, bt622.2)))) else (some (wrap64 (1 + t595), t608, bt611.1, bt615.2)))))))))) = some (r1, r2, r3, r4) := H
 have A3 := Aside0.mk A30
 clear A30
 replace H := Option.bind_eq_some_iff.mp H
 obtain ⟨⟨t599, t600⟩, A40, H⟩ := H
 replace H : ((spec_l6Rd_pick.f k s0_0 t600 31).bind fun bt601 => ((spec_l6Rd_pick.f k s0_0 bt601.2 3).bind fun bt603 => ((spec_l4All.f k (wrap64 (1 + t595)) (([t597, t599, bt601.1, bt603.1] : List Int))).bind fun t608 => ((spec_l91There.f k s0_0 bt603.2).bind fun bt611 => ((spec_l6Rd_pick.f k s0_0 bt611.2 6).bind fun bt615 => (if bt615.1 = 0 then ((spec_l6Rd_pick.f k s0_0 bt615.2 (t608.length : Int)).bind fun bt617 => ((spec_l91Num.f k s0_0 bt617.2).bind fun bt619 => (if 0 ≤ bt617.1 then (if bt617.1 < (t608.length : Int) then (some (wrap64 (1 + t595), (t608.set (bt617.1 : Int).toNat bt619.1), bt611.1, bt619.2)) else (none)) else (none)))) else (if bt615.1 = 1 then ((spec_l6Rd_pick.f k s0_0 bt615.2 3).bind fun bt622 => (if bt622.1 = 0 then ((spec_l91Kind.f k s0_0 bt622.2).bind fun bt624 => (some (bt624.1, t608, bt611.1, bt624.2))) else (some (wrap64 (1 + t595), t608, bt611.1, bt622.2)))) else (some (wrap64 (1 + t595), t608, bt611.1, bt615.2))))))))) = some (r1, r2, r3, r4) := H
 have A4 := Aside0.mk A40
 clear A40
 replace H := Option.bind_eq_some_iff.mp H
 obtain ⟨⟨t601, t602⟩, A50, H⟩ := H
 replace H : ((spec_l6Rd_pick.f k s0_0 t602 3).bind fun bt603 => ((spec_l4All.f k (wrap64 (1 + t595)) (([t597, t599, t601, bt603.1] : List Int))).bind fun t608 => ((spec_l91There.f k s0_0 bt603.2).bind fun bt611 => ((spec_l6Rd_pick.f k s0_0 bt611.2 6).bind fun bt615 => (if bt615.1 = 0 then ((spec_l6Rd_pick.f k s0_0 bt615.2 (t608.length : Int)).bind fun bt617 => ((spec_l91Num.f k s0_0 bt617.2).bind fun bt619 => (if 0 ≤ bt617.1 then (if bt617.1 < (t608.length : Int) then (some (wrap64 (1 + t595), (t608.set (bt617.1 : Int).toNat bt619.1), bt611.1, bt619.2)) else (none)) else (none)))) else (if bt615.1 = 1 then ((spec_l6Rd_pick.f k s0_0 bt615.2 3).bind fun bt622 => (if bt622.1 = 0 then ((spec_l91Kind.f k s0_0 bt622.2).bind fun bt624 => (some (bt624.1, t608, bt611.1, bt624.2))) else (some (wrap64 (1 + t595), t608, bt611.1, bt622.2)))) else (some (wrap64 (1 + t595), t608, bt611.1, bt615.2)))))))) = some (r1, r2, r3, r4) := H
 have A5 := Aside0.mk A50
 clear A50
 replace H := Option.bind_eq_some_iff.mp H
 obtain ⟨⟨t603, t604⟩, A60, H⟩ := H
 replace H : ((spec_l4All.f k (wrap64 (1 + t595)) (([t597, t599, t601, t603] : List Int))).bind fun t608 => ((spec_l91There.f k s0_0 t604).bind fun bt611 => ((spec_l6Rd_pick.f k s0_0 bt611.2 6).bind fun bt615 => (if bt615.1 = 0 then ((spec_l6Rd_pick.f k s0_0 bt615.2 (t608.length : Int)).bind fun bt617 => ((spec_l91Num.f k s0_0 bt617.2).bind fun bt619 => (if 0 ≤ bt617.1 then (if bt617.1 < (t608.length : Int) then (some (wrap64 (1 + t595), (t608.set (bt617.1 : Int).toNat bt619.1), bt611.1, bt619.2)) else (none)) else (none)))) else (if bt615.1 = 1 then ((spec_l6Rd_pick.f k s0_0 bt615.2 3).bind fun bt622 => (if bt622.1 = 0 then ((spec_l91Kind.f k s0_0 bt622.2).bind fun bt624 => (some (bt624.1, t608, bt611.1, bt624.2))) else (some (wrap64 (1 + t595), t608, bt611.1, bt622.2)))) else (some (wrap64 (1 + t595), t608, bt611.1, bt615.2))))))) = some (r1, r2, r3, r4) := H
 have A6 := Aside0.mk A60
 clear A60
 obtain ⟨y605, hy605⟩ : ∃ y_ : List Int, y_ = (([t597, t599, t601, t603] : List Int)) := ⟨_, rfl⟩
 replace H : ((spec_l4All.f k (wrap64 (1 + t595)) y605).bind fun t608 => ((spec_l91There.f k s0_0 t604).bind fun bt611 => ((spec_l6Rd_pick.f k s0_0 bt611.2 6).bind fun bt615 => (if bt615.1 = 0 then ((spec_l6Rd_pick.f k s0_0 bt615.2 (t608.length : Int)).bind fun bt617 => ((spec_l91Num.f k s0_0 bt617.2).bind fun bt619 => (if 0 ≤ bt617.1 then (if bt617.1 < (t608.length : Int) then (some (wrap64 (1 + t595), (t608.set (bt617.1 : Int).toNat bt619.1), bt611.1, bt619.2)) else (none)) else (none)))) else (if bt615.1 = 1 then ((spec_l6Rd_pick.f k s0_0 bt615.2 3).bind fun bt622 => (if bt622.1 = 0 then ((spec_l91Kind.f k s0_0 bt622.2).bind fun bt624 => (some (bt624.1, t608, bt611.1, bt624.2))) else (some (wrap64 (1 + t595), t608, bt611.1, bt622.2)))) else (some (wrap64 (1 + t595), t608, bt611.1, bt615.2))))))) = some (r1, r2, r3, r4) := yZZ_ hy605 H
 have Ny605 := Aside0.mk hy605
 clear hy605
 replace H := Option.bind_eq_some_iff.mp H
 obtain ⟨t608, A70, H⟩ := H
 have A7 := Aside0.mk A70
 clear A70
 replace H := Option.bind_eq_some_iff.mp H
 obtain ⟨⟨t611, t614⟩, A80, H⟩ := H
 replace H : ((spec_l6Rd_pick.f k s0_0 t614 6).bind fun bt615 => (if bt615.1 = 0 then ((spec_l6Rd_pick.f k s0_0 bt615.2 (t608.length : Int)).bind fun bt617 => ((spec_l91Num.f k s0_0 bt617.2).bind fun bt619 => (if 0 ≤ bt617.1 then (if bt617.1 < (t608.length : Int) then (some (wrap64 (1 + t595), (t608.set (bt617.1 : Int).toNat bt619.1), t611, bt619.2)) else (none)) else (none)))) else (if bt615.1 = 1 then ((spec_l6Rd_pick.f k s0_0 bt615.2 3).bind fun bt622 => (if bt622.1 = 0 then ((spec_l91Kind.f k s0_0 bt622.2).bind fun bt624 => (some (bt624.1, t608, t611, bt624.2))) else (some (wrap64 (1 + t595), t608, t611, bt622.2)))) else (some (wrap64 (1 + t595), t608, t611, bt615.2))))) = some (r1, r2, r3, r4) := H
 have A8 := Aside0.mk A80
 clear A80
 replace H := Option.bind_eq_some_iff.mp H
 obtain ⟨⟨t615, t616⟩, A90, H⟩ := H
 replace H : (if t615 = 0 then ((spec_l6Rd_pick.f k s0_0 t616 (t608.length : Int)).bind fun bt617 => ((spec_l91Num.f k s0_0 bt617.2).bind fun bt619 => (if 0 ≤ bt617.1 then (if bt617.1 < (t608.length : Int) then (some (wrap64 (1 + t595), (t608.set (bt617.1 : Int).toNat bt619.1), t611, bt619.2)) else (none)) else (none)))) else (if t615 = 1 then ((spec_l6Rd_pick.f k s0_0 t616 3).bind fun bt622 => (if bt622.1 = 0 then ((spec_l91Kind.f k s0_0 bt622.2).bind fun bt624 => (some (bt624.1, t608, t611, bt624.2))) else (some (wrap64 (1 + t595), t608, t611, bt622.2)))) else (some (wrap64 (1 + t595), t608, t611, t616)))) = some (r1, r2, r3, r4) := H
 have A9 := Aside0.mk A90
 clear A90
 by_cases c10 : t615 = 0
 ·rw [if_pos c10] at H
  have c10b0 : (t615 == 0) = true := beq_iff_eq.mpr c10
  have c10b1 : (t615 != 0) = false := bne_eq_false_iff_eq.mpr c10
  clear c10
  replace H := Option.bind_eq_some_iff.mp H
  obtain ⟨⟨t617, t618⟩, A110, H⟩ := H
  replace H : ((spec_l91Num.f k s0_0 t618).bind fun bt619 => (if 0 ≤ t617 then (if t617 < (t608.length : Int) then (some (wrap64 (1 + t595), (t608.set (t617 : Int).toNat bt619.1), t611, bt619.2)) else (none)) else (none))) = some (r1, r2, r3, r4) := H
  have A11 := Aside0.mk A110
  clear A110
  replace H := Option.bind_eq_some_iff.mp H
  obtain ⟨⟨t619, t620⟩, A120, H⟩ := H
  replace H : (if 0 ≤ t617 then (if t617 < (t608.length : Int) then (some (wrap64 (1 + t595), (t608.set (t617 : Int).toNat t619), t611, t620)) else (none)) else (none)) = some (r1, r2, r3, r4) := H
  have A12 := Aside0.mk A120
  clear A120; obtain ⟨c13, H⟩ := ifP H; have c13b0 : decide (0 ≤ t617) = true := decide_eq_true c13; clear c13; obtain ⟨c14, H⟩ := ifP H; have c14b0 : decide (t617 < (t608.length : Int)) = true := decide_eq_true c14; clear c14
  obtain ⟨y621, hy621⟩ : ∃ y_ : List Int, y_ = (t608.set (t617 : Int).toNat t619) := ⟨_, rfl⟩
  replace H : (some (wrap64 (1 + t595), y621, t611, t620)) = some (r1, r2, r3, r4) := yZZ_ hy621 H
  have Ny621 := Aside0.mk hy621
  clear hy621; simp only [Option.some.injEq, Prod.mk.injEq] at H; obtain ⟨rfl, rfl, rfl, rfl⟩ := H; go_enter Try.func87, Try.ntmps87
  go_wp2_with (first | ((with_reducible refine gate_callee (f := 78) rfl ?_); refine goesL_ (some 9) rfl rfl Try.func78 (by kernel_rfl) rfl #[.pointer (some ⟨g, 0, none⟩), .int .i64 2] rfl z18_1 ?_; (with_reducible refine (spec_l6Rd_pick.calls k g s0_0 s0_1 2 t595 t596 w0 _ ?side1 ?side2 A2.out).mono ?_); (case side1 => repeat (first | (with_reducible first | exact HI0.out | apply IsS99.alloc | apply IsS99.drewN | apply IsS99.drew | apply IsS99.set_1) | exact HI0.out)); (case side2 => repeat (first | (with_reducible first | exact HB.out | apply below_alloc | apply pw_below_drewN | apply below_drew1 | refine below_set ?_ (IsS99.ge HI0.out)) | exact HB.out)); rintro e w16 ⟨rfl, hi, hb, hk⟩; refine ⟨_, rfl, ?_⟩; replace HK := Aside0.mk (KeepBut.trans z18_0 hk (.inl rfl)); replace HB := Aside0.mk (hb); replace HI0 := Aside0.mk (hi); (try clear hb)) | ((with_reducible refine gate_callee (f := 78) rfl ?_); refine goesL_ (some 13) rfl rfl Try.func78 (by kernel_rfl) rfl #[.pointer (some ⟨g, 0, none⟩), .int .i64 31] rfl z18_1 ?_; (with_reducible refine (spec_l6Rd_pick.calls k g s0_0 t596 31 t597 t598 w0 _ ?side1 ?side2 A3.out).mono ?_); (case side1 => repeat (first | (with_reducible first | exact HI0.out | apply IsS99.alloc | apply IsS99.drewN | apply IsS99.drew | apply IsS99.set_1) | exact HI0.out)); (case side2 => repeat (first | (with_reducible first | exact HB.out | apply below_alloc | apply pw_below_drewN | apply below_drew1 | refine below_set ?_ (IsS99.ge HI0.out)) | exact HB.out)); rintro e w17 ⟨rfl, hi, hb, hk⟩; refine ⟨_, rfl, ?_⟩; replace HK := Aside0.mk (KeepBut.trans z18_0 hk (.inl rfl)); replace HB := Aside0.mk (hb); replace HI0 := Aside0.mk (hi); (try clear hb)) | ((with_reducible refine gate_callee (f := 78) rfl ?_); refine goesL_ (some 15) rfl rfl Try.func78 (by kernel_rfl) rfl #[.pointer (some ⟨g, 0, none⟩), .int .i64 5] rfl z18_1 ?_; (with_reducible refine (spec_l6Rd_pick.calls k g s0_0 t598 5 t599 t600 w0 _ ?side1 ?side2 A4.out).mono ?_); (case side1 => repeat (first | (with_reducible first | exact HI0.out | apply IsS99.alloc | apply IsS99.drewN | apply IsS99.drew | apply IsS99.set_1) | exact HI0.out)); (case side2 => repeat (first | (with_reducible first | exact HB.out | apply below_alloc | apply pw_below_drewN | apply below_drew1 | refine below_set ?_ (IsS99.ge HI0.out)) | exact HB.out)); rintro e w18 ⟨rfl, hi, hb, hk⟩; refine ⟨_, rfl, ?_⟩; replace HK := Aside0.mk (KeepBut.trans z18_0 hk (.inl rfl)); replace HB := Aside0.mk (hb); replace HI0 := Aside0.mk (hi); (try clear hb)) | ((with_reducible refine gate_callee (f := 78) rfl ?_); refine goesL_ (some 17) rfl rfl Try.func78 (by kernel_rfl) rfl #[.pointer (some ⟨g, 0, none⟩), .int .i64 31] rfl z18_1 ?_; (with_reducible refine (spec_l6Rd_pick.calls k g s0_0 t600 31 t601 t602 w0 _ ?side1 ?side2 A5.out).mono ?_); (case side1 => repeat (first | (with_reducible first | exact HI0.out | apply IsS99.alloc | apply IsS99.drewN | apply IsS99.drew | apply IsS99.set_1) | exact HI0.out)); (case side2 => repeat (first | (with_reducible first | exact HB.out | apply below_alloc | apply pw_below_drewN | apply below_drew1 | refine below_set ?_ (IsS99.ge HI0.out)) | exact HB.out)); rintro e w19 ⟨rfl, hi, hb, hk⟩; refine ⟨_, rfl, ?_⟩; replace HK := Aside0.mk (KeepBut.trans z18_0 hk (.inl rfl)); replace HB := Aside0.mk (hb); replace HI0 := Aside0.mk (hi); (try clear hb)) | ((with_reducible refine gate_callee (f := 78) rfl ?_); refine goesL_ (some 19) rfl rfl Try.func78 (by kernel_rfl) rfl #[.pointer (some ⟨g, 0, none⟩), .int .i64 3] rfl z18_1 ?_; (with_reducible refine (spec_l6Rd_pick.calls k g s0_0 t602 3 t603 t604 w0 _ ?side1 ?side2 A6.out).mono ?_); (case side1 => repeat (first | (with_reducible first | exact HI0.out | apply IsS99.alloc | apply IsS99.drewN | apply IsS99.drew | apply IsS99.set_1) | exact HI0.out)); (case side2 => repeat (first | (with_reducible first | exact HB.out | apply below_alloc | apply pw_below_drewN | apply below_drew1 | refine below_set ?_ (IsS99.ge HI0.out)) | exact HB.out)); rintro e w20 ⟨rfl, hi, hb, hk⟩; refine ⟨_, rfl, ?_⟩; replace HK := Aside0.mk (KeepBut.trans z18_0 hk (.inl rfl)); replace HB := Aside0.mk (hb); replace HI0 := Aside0.mk (hi); (try clear hb)) | ((with_reducible refine gate_dst (N := 20) rfl ?_); refine Kd.R_lit (Kd.int .i64) _ 3 ?hg (N := 20) ?hd (xs := ([t597, t599, t601, t603] : List Int)) (inner := [.int .i64 t597, .int .i64 t599, .int .i64 t601, .int .i64 t603]) (ok := fun _ => True) (okp := fun _ => True) ?hr ?hp (fun _ hk => hk) trivial (Below.refl _ _) (Nat.le_refl _) (by simp) ?_; (case hd => rfl); (case hg => rfl); (case hr => first | (go_simp; done) | (go_simp; rfl)); (case hp => exact (Reps.one (show Kd.M (Kd.int .i64) _ _ _ t597 [.int .i64 t597] from rfl) (Reps.one (show Kd.M (Kd.int .i64) _ _ _ t599 [.int .i64 t599] from rfl) (Reps.one (show Kd.M (Kd.int .i64) _ _ _ t601 [.int .i64 t601] from rfl) (Reps.one (show Kd.M (Kd.int .i64) _ _ _ t603 [.int .i64 t603] from rfl) (Reps.none _ _)))))); intro v606 w21 ho22 hb hg_ hnew_; clear hg_ hnew_; (first | rw [← Ny605.out] at ho22 | (simp only [Int.reduceToNat] at ho22; rw [← Ny605.out] at ho22)); have HO607 := Aside0.mk (Kd.R_lower ho22 (keep_size (w := w) (g := g) (row := none) z18_0)); replace HK := Aside0.mk (KeepBut.trans z18_0 (KeepBut.of_below hb g none) (.inl rfl)); replace HB := Aside0.mk (below_step z18_3 hb); replace HI0 := Aside0.mk (IsS99.below z18_4 hb); clear hb ho22; obtain ⟨Ao23, co23, eo23⟩ := Kd.R_slice HO607.out; subst eo23) | ((with_reducible refine gate_callee (f := 81) rfl ?_); refine goesL_ (some 21) rfl rfl Try.func81 (by kernel_rfl) rfl #[.int .i64 (wrap64 (1 + t595)), .slice Ao23 y605.length co23] rfl z18_1 ?_; (with_reducible refine (spec_l4All.calls k (wrap64 (1 + t595)) _ _ y605 t608 _ ?side1 ?side2 A7.out).mono ?_); (case side1 => exact cZ ((Kd.R_reads' HO607.out).2.2)); (case side2 => exact (Kd.R_reads' HO607.out).2.1); rintro e w24 ⟨v609, rfl, ho0, hb⟩; refine ⟨_, rfl, ?_⟩; have HO610 := Aside0.mk (Kd.R_lower (Kd.R_new' ho0 (Kd.R_lt z18_2)) (keep_size (w := w) (g := g) (row := none) z18_0)); replace HO607 := Aside0.mk (Kd.R_elder' z18_2 (Kd.R_base ho0) hb); replace HK := Aside0.mk (KeepBut.trans z18_0 (KeepBut.of_below hb g none) (.inl rfl)); replace HB := Aside0.mk (below_step z18_3 hb); replace HI0 := Aside0.mk (IsS99.below z18_4 hb); (try clear hb); (try clear ho0)) | ((with_reducible refine gate_callee (f := 77) rfl ?_); refine goesL_ (some 23) rfl rfl Try.func77 (by kernel_rfl) rfl #[.pointer (some ⟨g, 0, none⟩)] rfl z18_1 ?_; (with_reducible refine (spec_l91There.calls k g s0_0 t604 t611 t614 w0 _ ?side1 ?side2 A8.out).mono ?_); (case side1 => repeat (first | (with_reducible first | exact HI0.out | apply IsS99.alloc | apply IsS99.drewN | apply IsS99.drew | apply IsS99.set_1) | exact HI0.out)); (case side2 => repeat (first | (with_reducible first | exact HB.out | apply below_alloc | apply pw_below_drewN | apply below_drew1 | refine below_set ?_ (IsS99.ge HI0.out)) | exact HB.out)); rintro e w25 ⟨v612, rfl, ho0, hi, hb, hk⟩; refine ⟨_, rfl, ?_⟩; replace HO607 := Aside0.mk (Kd.R_mono (Kd.R_keep (IsS99.apart (show IsS99 w0 _ g s0_0 t604 from by repeat (first | (with_reducible first | exact HI0.out | apply IsS99.alloc | apply IsS99.drewN | apply IsS99.drew | apply IsS99.set_1) | exact HI0.out)) z18_2 (by decide)) hk (fun _ h => h.2)) (fun _ h => h.1)); replace HO610 := Aside0.mk (Kd.R_mono (Kd.R_keep (IsS99.apart (show IsS99 w0 _ g s0_0 t604 from by repeat (first | (with_reducible first | exact HI0.out | apply IsS99.alloc | apply IsS99.drewN | apply IsS99.drew | apply IsS99.set_1) | exact HI0.out)) z18_6 (by decide)) hk (fun _ h => h.2)) (fun _ h => h.1)); have HO613 := Aside0.mk (Kd.Q_lower ho0 (keep_size (w := w) (g := g) (row := none) z18_0)); replace HK := Aside0.mk (KeepBut.trans z18_0 hk (.inl rfl)); replace HB := Aside0.mk (hb); replace HI0 := Aside0.mk (hi); (try clear hb); (try clear ho0)) | ((with_reducible refine gate_callee (f := 78) rfl ?_); refine goesL_ (some 25) rfl rfl Try.func78 (by kernel_rfl) rfl #[.pointer (some ⟨g, 0, none⟩), .int .i64 6] rfl z18_1 ?_; (with_reducible refine (spec_l6Rd_pick.calls k g s0_0 t614 6 t615 t616 w0 _ ?side1 ?side2 A9.out).mono ?_); (case side1 => repeat (first | (with_reducible first | exact HI0.out | apply IsS99.alloc | apply IsS99.drewN | apply IsS99.drew | apply IsS99.set_1) | exact HI0.out)); (case side2 => repeat (first | (with_reducible first | exact HB.out | apply below_alloc | apply pw_below_drewN | apply below_drew1 | refine below_set ?_ (IsS99.ge HI0.out)) | exact HB.out)); rintro e w26 ⟨rfl, hi, hb, hk⟩; refine ⟨_, rfl, ?_⟩; replace HO607 := Aside0.mk (Kd.R_mono (Kd.R_keep (IsS99.apart (show IsS99 w0 _ g s0_0 t614 from by repeat (first | (with_reducible first | exact HI0.out | apply IsS99.alloc | apply IsS99.drewN | apply IsS99.drew | apply IsS99.set_1) | exact HI0.out)) z18_2 (by decide)) hk (fun _ h => h.2)) (fun _ h => h.1)); replace HO610 := Aside0.mk (Kd.R_mono (Kd.R_keep (IsS99.apart (show IsS99 w0 _ g s0_0 t614 from by repeat (first | (with_reducible first | exact HI0.out | apply IsS99.alloc | apply IsS99.drewN | apply IsS99.drew | apply IsS99.set_1) | exact HI0.out)) z18_6 (by decide)) hk (fun _ h => h.2)) (fun _ h => h.1)); replace HO613 := Aside0.mk (Kd.Q_mono (Kd.Q_keep (IsS99.apartQ (show IsS99 w0 _ g s0_0 t614 from by repeat (first | (with_reducible first | exact HI0.out | apply IsS99.alloc | apply IsS99.drewN | apply IsS99.drew | apply IsS99.set_1) | exact HI0.out)) z18_5 (by decide)) hk (fun _ h => h.2)) (fun _ h => h.1)); replace HK := Aside0.mk (KeepBut.trans z18_0 hk (.inl rfl)); replace HB := Aside0.mk (hb); replace HI0 := Aside0.mk (hi); (try clear hb); obtain ⟨Ao27, co27, eo27⟩ := Kd.R_slice HO610.out; subst eo27) | ((with_reducible refine gate_callee (f := 78) rfl ?_); refine goesL_ (some 32) rfl rfl Try.func78 (by kernel_rfl) rfl #[.pointer (some ⟨g, 0, none⟩), .int .i64 (t608.length : Int)] rfl z18_1 ?_; (with_reducible refine (spec_l6Rd_pick.calls k g s0_0 t616 (t608.length : Int) t617 t618 w0 _ ?side1 ?side2 A11.out).mono ?_); (case side1 => repeat (first | (with_reducible first | exact HI0.out | apply IsS99.alloc | apply IsS99.drewN | apply IsS99.drew | apply IsS99.set_1) | exact HI0.out)); (case side2 => repeat (first | (with_reducible first | exact HB.out | apply below_alloc | apply pw_below_drewN | apply below_drew1 | refine below_set ?_ (IsS99.ge HI0.out)) | exact HB.out)); rintro e w28 ⟨rfl, hi, hb, hk⟩; refine ⟨_, rfl, ?_⟩; replace HO607 := Aside0.mk (Kd.R_mono (Kd.R_keep (IsS99.apart (show IsS99 w0 _ g s0_0 t616 from by repeat (first | (with_reducible first | exact HI0.out | apply IsS99.alloc | apply IsS99.drewN | apply IsS99.drew | apply IsS99.set_1) | exact HI0.out)) z18_2 (by decide)) hk (fun _ h => h.2)) (fun _ h => h.1)); replace HO610 := Aside0.mk (Kd.R_mono (Kd.R_keep (IsS99.apart (show IsS99 w0 _ g s0_0 t616 from by repeat (first | (with_reducible first | exact HI0.out | apply IsS99.alloc | apply IsS99.drewN | apply IsS99.drew | apply IsS99.set_1) | exact HI0.out)) z18_6 (by decide)) hk (fun _ h => h.2)) (fun _ h => h.1)); replace HO613 := Aside0.mk (Kd.Q_mono (Kd.Q_keep (IsS99.apartQ (show IsS99 w0 _ g s0_0 t616 from by repeat (first | (with_reducible first | exact HI0.out | apply IsS99.alloc | apply IsS99.drewN | apply IsS99.drew | apply IsS99.set_1) | exact HI0.out)) z18_5 (by decide)) hk (fun _ h => h.2)) (fun _ h => h.1)); replace HK := Aside0.mk (KeepBut.trans z18_0 hk (.inl rfl)); replace HB := Aside0.mk (hb); replace HI0 := Aside0.mk (hi); (try clear hb)) | ((with_reducible refine gate_callee (f := 117) rfl ?_); refine goesL_ (some 34) rfl rfl Try.func117 (by kernel_rfl) rfl #[.pointer (some ⟨g, 0, none⟩)] rfl z18_1 ?_; (with_reducible refine (spec_l91Num.calls k g s0_0 t618 t619 t620 w0 _ ?side1 ?side2 A12.out).mono ?_); (case side1 => repeat (first | (with_reducible first | exact HI0.out | apply IsS99.alloc | apply IsS99.drewN | apply IsS99.drew | apply IsS99.set_1) | exact HI0.out)); (case side2 => repeat (first | (with_reducible first | exact HB.out | apply below_alloc | apply pw_below_drewN | apply below_drew1 | refine below_set ?_ (IsS99.ge HI0.out)) | exact HB.out)); rintro e w29 ⟨rfl, hi, hb, hk⟩; refine ⟨_, rfl, ?_⟩; replace HO607 := Aside0.mk (Kd.R_mono (Kd.R_keep (IsS99.apart (show IsS99 w0 _ g s0_0 t618 from by repeat (first | (with_reducible first | exact HI0.out | apply IsS99.alloc | apply IsS99.drewN | apply IsS99.drew | apply IsS99.set_1) | exact HI0.out)) z18_2 (by decide)) hk (fun _ h => h.2)) (fun _ h => h.1)); replace HO610 := Aside0.mk (Kd.R_mono (Kd.R_keep (IsS99.apart (show IsS99 w0 _ g s0_0 t618 from by repeat (first | (with_reducible first | exact HI0.out | apply IsS99.alloc | apply IsS99.drewN | apply IsS99.drew | apply IsS99.set_1) | exact HI0.out)) z18_6 (by decide)) hk (fun _ h => h.2)) (fun _ h => h.1)); replace HO613 := Aside0.mk (Kd.Q_mono (Kd.Q_keep (IsS99.apartQ (show IsS99 w0 _ g s0_0 t618 from by repeat (first | (with_reducible first | exact HI0.out | apply IsS99.alloc | apply IsS99.drewN | apply IsS99.drew | apply IsS99.set_1) | exact HI0.out)) z18_5 (by decide)) hk (fun _ h => h.2)) (fun _ h => h.1)); replace HK := Aside0.mk (KeepBut.trans z18_0 hk (.inl rfl)); replace HB := Aside0.mk (hb); replace HI0 := Aside0.mk (hi); (try clear hb); have p15 : 0 ≤ (t617 : Int) := of_decide_eq_true z18_9; have q15 : (t617 : Int) < ((t608.length : Int) : Int) := of_decide_eq_true z18_9; obtain ⟨go15, co15, eo15, gb15, gl15, cl15, HG15⟩ := Kd.R_form HO610.out (by omega); (first | cases eo15 | (injection eo15 with ea_ en_ ec_; (first | subst ea_ | (injection ea_ with ea_; subst ea_)); subst ec_; clear en_)); have GB15 := Aside0.mk gb15; have GG15 := Aside0.mk HG15; clear gb15 gl15 HG15; obtain ⟨hx15_0, hf15_0⟩ := Kd.R_celln 0 HO610.out (t617 : Int) p15 q15; replace p15 := eq_true p15; replace q15 := eq_true q15; have n_ := Aside0.mk (Kd.R_mono (ok' := (fun k_ => some k_ ≠ (.slice Ao23 y605.length co23 : Value).ownBlock)) HO610.out (fun k_ hk => hk.2)); clear HO610; have HO610 := n_; clear n_; obtain ⟨hy30_, hz30_⟩ := Kd.R_celln 0 HO610.out (t617 : Int) (of_decide_eq_true z18_9) (of_decide_eq_true z18_9); have HP30 := Kd.R_putg HO610.out (t617 : Int) t619) | ((with_reducible refine gate_store (t := 3) (p := 35) rfl ?_); refine store_event (t := 3) (p := 35) (v := ?vo_w31) (w1 := (w29.setCell ⟨go15, (t617 : Int).toNat, none⟩ (.int .i64 t619))) ?hg ?ho ?hn ?hr ?_; (case ho => rfl); (case hg => rfl); (case hn => rfl); (case hr => first | (go_simp; done) | (go_simp; rfl)); intro w31 hw; have hg : w29.grownBy w31 (some go15) := (by rw [hw]; exact HP30.2); have hp_ : Kd.R (Kd.int .i64) 3 w31 w.heap.size (fun k_ => some k_ ≠ (.slice Ao23 y605.length co23 : Value).ownBlock) (.slice (some ⟨go15, 0, none⟩) t608.length co27) y621 := (by rw [hw, Ny621.out]; exact HP30.1); clear HP30; replace HI0 := Aside0.mk (IsS99.grown z18_4 hg (IsS99.own_ne HI0.out HO610.out (by decide))); replace HO607 := Aside0.mk (Kd.R_after (v := (.slice (some ⟨go15, 0, none⟩) t608.length co27)) (v1 := (.slice (some ⟨go15, 0, none⟩) t608.length co27)) (ok := (fun _ => True)) z18_2 hg (.inl rfl)); replace HO613 := Aside0.mk (Kd.Q_over' (v := (.slice (some ⟨go15, 0, none⟩) t608.length co27)) z18_5 (Kd.R_typed HO610.out) (by decide) hg); replace HB := Aside0.mk ((by rw [hw]; exact below_set (HB.out) (Nat.le_trans HL.out GB15.out) : Below w0.heap.size w0 w31)); replace HK := Aside0.mk (KeepBut.trans z18_0 (KeepBut.of_grown hg g) (Kd.R_base2 HO610.out)); replace HO610 := Aside0.mk (hp_); clear hg hw hp_))
  go_ret3
  exact ⟨_, _, z18_8, z18_7, z18_5, z18_4, z18_3, z18_0⟩
 ·rw [if_neg c10] at H
  have c10b0 : (t615 == 0) = false := beq_eq_false_iff_ne.mpr c10
  have c10b1 : (t615 != 0) = true := bne_iff_ne.mpr c10
  by_cases c32 : t615 = 1
  ·rw [if_pos c32] at H
   have c32b0 : (t615 == 1) = true := beq_iff_eq.mpr c32
   have c32b1 : (t615 != 1) = false := bne_eq_false_iff_eq.mpr c32
   clear c32
   replace H := Option.bind_eq_some_iff.mp H
   obtain ⟨⟨t622, t623⟩, A330, H⟩ := H
   dsimp only at H
   have A33 := Aside0.mk A330
   clear A330
   by_cases c34 : t622 = 0
   ·rw [if_pos c34] at H
    have c34b0 : (t622 == 0) = true := beq_iff_eq.mpr c34
    have c34b1 : (t622 != 0) = false := bne_eq_false_iff_eq.mpr c34
    clear c34
    replace H := Option.bind_eq_some_iff.mp H
    obtain ⟨⟨t624, t625⟩, A350, H⟩ := H
    dsimp only at H
    have A35 := Aside0.mk A350
    clear A350; simp only [Option.some.injEq, Prod.mk.injEq] at H; obtain ⟨rfl, rfl, rfl, rfl⟩ := H; go_enter Try.func87, Try.ntmps87
    go_wp2_with (first | ((with_reducible refine gate_callee (f := 78) rfl ?_); refine goesL_ (some 9) rfl rfl Try.func78 (by kernel_rfl) rfl #[.pointer (some ⟨g, 0, none⟩), .int .i64 2] rfl z18_1 ?_; (with_reducible refine (spec_l6Rd_pick.calls k g s0_0 s0_1 2 t595 t596 w0 _ ?side1 ?side2 A2.out).mono ?_); (case side1 => repeat (first | (with_reducible first | exact HI0.out | apply IsS99.alloc | apply IsS99.drewN | apply IsS99.drew | apply IsS99.set_1) | exact HI0.out)); (case side2 => repeat (first | (with_reducible first | exact HB.out | apply below_alloc | apply pw_below_drewN | apply below_drew1 | refine below_set ?_ (IsS99.ge HI0.out)) | exact HB.out)); rintro e w36 ⟨rfl, hi, hb, hk⟩; refine ⟨_, rfl, ?_⟩; replace HK := Aside0.mk (KeepBut.trans z18_0 hk (.inl rfl)); replace HB := Aside0.mk (hb); replace HI0 := Aside0.mk (hi); (try clear hb)) | ((with_reducible refine gate_callee (f := 78) rfl ?_); refine goesL_ (some 13) rfl rfl Try.func78 (by kernel_rfl) rfl #[.pointer (some ⟨g, 0, none⟩), .int .i64 31] rfl z18_1 ?_; (with_reducible refine (spec_l6Rd_pick.calls k g s0_0 t596 31 t597 t598 w0 _ ?side1 ?side2 A3.out).mono ?_); (case side1 => repeat (first | (with_reducible first | exact HI0.out | apply IsS99.alloc | apply IsS99.drewN | apply IsS99.drew | apply IsS99.set_1) | exact HI0.out)); (case side2 => repeat (first | (with_reducible first | exact HB.out | apply below_alloc | apply pw_below_drewN | apply below_drew1 | refine below_set ?_ (IsS99.ge HI0.out)) | exact HB.out)); rintro e w37 ⟨rfl, hi, hb, hk⟩; refine ⟨_, rfl, ?_⟩; replace HK := Aside0.mk (KeepBut.trans z18_0 hk (.inl rfl)); replace HB := Aside0.mk (hb); replace HI0 := Aside0.mk (hi); (try clear hb)) | ((with_reducible refine gate_callee (f := 78) rfl ?_); refine goesL_ (some 15) rfl rfl Try.func78 (by kernel_rfl) rfl #[.pointer (some ⟨g, 0, none⟩), .int .i64 5] rfl z18_1 ?_; (with_reducible refine (spec_l6Rd_pick.calls k g s0_0 t598 5 t599 t600 w0 _ ?side1 ?side2 A4.out).mono ?_); (case side1 => repeat (first | (with_reducible first | exact HI0.out | apply IsS99.alloc | apply IsS99.drewN | apply IsS99.drew | apply IsS99.set_1) | exact HI0.out)); (case side2 => repeat (first | (with_reducible first | exact HB.out | apply below_alloc | apply pw_below_drewN | apply below_drew1 | refine below_set ?_ (IsS99.ge HI0.out)) | exact HB.out)); rintro e w38 ⟨rfl, hi, hb, hk⟩; refine ⟨_, rfl, ?_⟩; replace HK := Aside0.mk (KeepBut.trans z18_0 hk (.inl rfl)); replace HB := Aside0.mk (hb); replace HI0 := Aside0.mk (hi); (try clear hb)) | ((with_reducible refine gate_callee (f := 78) rfl ?_); refine goesL_ (some 17) rfl rfl Try.func78 (by kernel_rfl) rfl #[.pointer (some ⟨g, 0, none⟩), .int .i64 31] rfl z18_1 ?_; (with_reducible refine (spec_l6Rd_pick.calls k g s0_0 t600 31 t601 t602 w0 _ ?side1 ?side2 A5.out).mono ?_); (case side1 => repeat (first | (with_reducible first | exact HI0.out | apply IsS99.alloc | apply IsS99.drewN | apply IsS99.drew | apply IsS99.set_1) | exact HI0.out)); (case side2 => repeat (first | (with_reducible first | exact HB.out | apply below_alloc | apply pw_below_drewN | apply below_drew1 | refine below_set ?_ (IsS99.ge HI0.out)) | exact HB.out)); rintro e w39 ⟨rfl, hi, hb, hk⟩; refine ⟨_, rfl, ?_⟩; replace HK := Aside0.mk (KeepBut.trans z18_0 hk (.inl rfl)); replace HB := Aside0.mk (hb); replace HI0 := Aside0.mk (hi); (try clear hb)) | ((with_reducible refine gate_callee (f := 78) rfl ?_); refine goesL_ (some 19) rfl rfl Try.func78 (by kernel_rfl) rfl #[.pointer (some ⟨g, 0, none⟩), .int .i64 3] rfl z18_1 ?_; (with_reducible refine (spec_l6Rd_pick.calls k g s0_0 t602 3 t603 t604 w0 _ ?side1 ?side2 A6.out).mono ?_); (case side1 => repeat (first | (with_reducible first | exact HI0.out | apply IsS99.alloc | apply IsS99.drewN | apply IsS99.drew | apply IsS99.set_1) | exact HI0.out)); (case side2 => repeat (first | (with_reducible first | exact HB.out | apply below_alloc | apply pw_below_drewN | apply below_drew1 | refine below_set ?_ (IsS99.ge HI0.out)) | exact HB.out)); rintro e w40 ⟨rfl, hi, hb, hk⟩; refine ⟨_, rfl, ?_⟩; replace HK := Aside0.mk (KeepBut.trans z18_0 hk (.inl rfl)); replace HB := Aside0.mk (hb); replace HI0 := Aside0.mk (hi); (try clear hb)) | ((with_reducible refine gate_dst (N := 20) rfl ?_); refine Kd.R_lit (Kd.int .i64) _ 3 ?hg (N := 20) ?hd (xs := ([t597, t599, t601, t603] : List Int)) (inner := [.int .i64 t597, .int .i64 t599, .int .i64 t601, .int .i64 t603]) (ok := fun _ => True) (okp := fun _ => True) ?hr ?hp (fun _ hk => hk) trivial (Below.refl _ _) (Nat.le_refl _) (by simp) ?_; (case hd => rfl); (case hg => rfl); (case hr => first | (go_simp; done) | (go_simp; rfl)); (case hp => exact (Reps.one (show Kd.M (Kd.int .i64) _ _ _ t597 [.int .i64 t597] from rfl) (Reps.one (show Kd.M (Kd.int .i64) _ _ _ t599 [.int .i64 t599] from rfl) (Reps.one (show Kd.M (Kd.int .i64) _ _ _ t601 [.int .i64 t601] from rfl) (Reps.one (show Kd.M (Kd.int .i64) _ _ _ t603 [.int .i64 t603] from rfl) (Reps.none _ _)))))); intro v606 w41 ho42 hb hg_ hnew_; clear hg_ hnew_; (first | rw [← Ny605.out] at ho42 | (simp only [Int.reduceToNat] at ho42; rw [← Ny605.out] at ho42)); have HO607 := Aside0.mk (Kd.R_lower ho42 (keep_size (w := w) (g := g) (row := none) z18_0)); replace HK := Aside0.mk (KeepBut.trans z18_0 (KeepBut.of_below hb g none) (.inl rfl)); replace HB := Aside0.mk (below_step z18_3 hb); replace HI0 := Aside0.mk (IsS99.below z18_4 hb); clear hb ho42; obtain ⟨Ao43, co43, eo43⟩ := Kd.R_slice HO607.out; subst eo43) | ((with_reducible refine gate_callee (f := 81) rfl ?_); refine goesL_ (some 21) rfl rfl Try.func81 (by kernel_rfl) rfl #[.int .i64 (wrap64 (1 + t595)), .slice Ao43 y605.length co43] rfl z18_1 ?_; (with_reducible refine (spec_l4All.calls k (wrap64 (1 + t595)) _ _ y605 t608 _ ?side1 ?side2 A7.out).mono ?_); (case side1 => exact cZ ((Kd.R_reads' HO607.out).2.2)); (case side2 => exact (Kd.R_reads' HO607.out).2.1); rintro e w44 ⟨v609, rfl, ho0, hb⟩; refine ⟨_, rfl, ?_⟩; have HO610 := Aside0.mk (Kd.R_lower (Kd.R_new' ho0 (Kd.R_lt z18_2)) (keep_size (w := w) (g := g) (row := none) z18_0)); replace HO607 := Aside0.mk (Kd.R_elder' z18_2 (Kd.R_base ho0) hb); replace HK := Aside0.mk (KeepBut.trans z18_0 (KeepBut.of_below hb g none) (.inl rfl)); replace HB := Aside0.mk (below_step z18_3 hb); replace HI0 := Aside0.mk (IsS99.below z18_4 hb); (try clear hb); (try clear ho0)) | ((with_reducible refine gate_callee (f := 77) rfl ?_); refine goesL_ (some 23) rfl rfl Try.func77 (by kernel_rfl) rfl #[.pointer (some ⟨g, 0, none⟩)] rfl z18_1 ?_; (with_reducible refine (spec_l91There.calls k g s0_0 t604 t611 t614 w0 _ ?side1 ?side2 A8.out).mono ?_); (case side1 => repeat (first | (with_reducible first | exact HI0.out | apply IsS99.alloc | apply IsS99.drewN | apply IsS99.drew | apply IsS99.set_1) | exact HI0.out)); (case side2 => repeat (first | (with_reducible first | exact HB.out | apply below_alloc | apply pw_below_drewN | apply below_drew1 | refine below_set ?_ (IsS99.ge HI0.out)) | exact HB.out)); rintro e w45 ⟨v612, rfl, ho0, hi, hb, hk⟩; refine ⟨_, rfl, ?_⟩; replace HO607 := Aside0.mk (Kd.R_mono (Kd.R_keep (IsS99.apart (show IsS99 w0 _ g s0_0 t604 from by repeat (first | (with_reducible first | exact HI0.out | apply IsS99.alloc | apply IsS99.drewN | apply IsS99.drew | apply IsS99.set_1) | exact HI0.out)) z18_2 (by decide)) hk (fun _ h => h.2)) (fun _ h => h.1)); replace HO610 := Aside0.mk (Kd.R_mono (Kd.R_keep (IsS99.apart (show IsS99 w0 _ g s0_0 t604 from by repeat (first | (with_reducible first | exact HI0.out | apply IsS99.alloc | apply IsS99.drewN | apply IsS99.drew | apply IsS99.set_1) | exact HI0.out)) z18_6 (by decide)) hk (fun _ h => h.2)) (fun _ h => h.1)); have HO613 := Aside0.mk (Kd.Q_lower ho0 (keep_size (w := w) (g := g) (row := none) z18_0)); replace HK := Aside0.mk (KeepBut.trans z18_0 hk (.inl rfl)); replace HB := Aside0.mk (hb); replace HI0 := Aside0.mk (hi); (try clear hb); (try clear ho0)) | ((with_reducible refine gate_callee (f := 78) rfl ?_); refine goesL_ (some 25) rfl rfl Try.func78 (by kernel_rfl) rfl #[.pointer (some ⟨g, 0, none⟩), .int .i64 6] rfl z18_1 ?_; (with_reducible refine (spec_l6Rd_pick.calls k g s0_0 t614 6 t615 t616 w0 _ ?side1 ?side2 A9.out).mono ?_); (case side1 => repeat (first | (with_reducible first | exact HI0.out | apply IsS99.alloc | apply IsS99.drewN | apply IsS99.drew | apply IsS99.set_1) | exact HI0.out)); (case side2 => repeat (first | (with_reducible first | exact HB.out | apply below_alloc | apply pw_below_drewN | apply below_drew1 | refine below_set ?_ (IsS99.ge HI0.out)) | exact HB.out)); rintro e w46 ⟨rfl, hi, hb, hk⟩; refine ⟨_, rfl, ?_⟩; replace HO607 := Aside0.mk (Kd.R_mono (Kd.R_keep (IsS99.apart (show IsS99 w0 _ g s0_0 t614 from by repeat (first | (with_reducible first | exact HI0.out | apply IsS99.alloc | apply IsS99.drewN | apply IsS99.drew | apply IsS99.set_1) | exact HI0.out)) z18_2 (by decide)) hk (fun _ h => h.2)) (fun _ h => h.1)); replace HO610 := Aside0.mk (Kd.R_mono (Kd.R_keep (IsS99.apart (show IsS99 w0 _ g s0_0 t614 from by repeat (first | (with_reducible first | exact HI0.out | apply IsS99.alloc | apply IsS99.drewN | apply IsS99.drew | apply IsS99.set_1) | exact HI0.out)) z18_6 (by decide)) hk (fun _ h => h.2)) (fun _ h => h.1)); replace HO613 := Aside0.mk (Kd.Q_mono (Kd.Q_keep (IsS99.apartQ (show IsS99 w0 _ g s0_0 t614 from by repeat (first | (with_reducible first | exact HI0.out | apply IsS99.alloc | apply IsS99.drewN | apply IsS99.drew | apply IsS99.set_1) | exact HI0.out)) z18_5 (by decide)) hk (fun _ h => h.2)) (fun _ h => h.1)); replace HK := Aside0.mk (KeepBut.trans z18_0 hk (.inl rfl)); replace HB := Aside0.mk (hb); replace HI0 := Aside0.mk (hi); (try clear hb)) | ((with_reducible refine gate_callee (f := 78) rfl ?_); refine goesL_ (some 39) rfl rfl Try.func78 (by kernel_rfl) rfl #[.pointer (some ⟨g, 0, none⟩), .int .i64 3] rfl z18_1 ?_; (with_reducible refine (spec_l6Rd_pick.calls k g s0_0 t616 3 t622 t623 w0 _ ?side1 ?side2 A33.out).mono ?_); (case side1 => repeat (first | (with_reducible first | exact HI0.out | apply IsS99.alloc | apply IsS99.drewN | apply IsS99.drew | apply IsS99.set_1) | exact HI0.out)); (case side2 => repeat (first | (with_reducible first | exact HB.out | apply below_alloc | apply pw_below_drewN | apply below_drew1 | refine below_set ?_ (IsS99.ge HI0.out)) | exact HB.out)); rintro e w47 ⟨rfl, hi, hb, hk⟩; refine ⟨_, rfl, ?_⟩; replace HO607 := Aside0.mk (Kd.R_mono (Kd.R_keep (IsS99.apart (show IsS99 w0 _ g s0_0 t616 from by repeat (first | (with_reducible first | exact HI0.out | apply IsS99.alloc | apply IsS99.drewN | apply IsS99.drew | apply IsS99.set_1) | exact HI0.out)) z18_2 (by decide)) hk (fun _ h => h.2)) (fun _ h => h.1)); replace HO610 := Aside0.mk (Kd.R_mono (Kd.R_keep (IsS99.apart (show IsS99 w0 _ g s0_0 t616 from by repeat (first | (with_reducible first | exact HI0.out | apply IsS99.alloc | apply IsS99.drewN | apply IsS99.drew | apply IsS99.set_1) | exact HI0.out)) z18_6 (by decide)) hk (fun _ h => h.2)) (fun _ h => h.1)); replace HO613 := Aside0.mk (Kd.Q_mono (Kd.Q_keep (IsS99.apartQ (show IsS99 w0 _ g s0_0 t616 from by repeat (first | (with_reducible first | exact HI0.out | apply IsS99.alloc | apply IsS99.drewN | apply IsS99.drew | apply IsS99.set_1) | exact HI0.out)) z18_5 (by decide)) hk (fun _ h => h.2)) (fun _ h => h.1)); replace HK := Aside0.mk (KeepBut.trans z18_0 hk (.inl rfl)); replace HB := Aside0.mk (hb); replace HI0 := Aside0.mk (hi); (try clear hb)) | ((with_reducible refine gate_callee (f := 76) rfl ?_); refine goesL_ (some 42) rfl rfl Try.func76 (by kernel_rfl) rfl #[.pointer (some ⟨g, 0, none⟩)] rfl z18_1 ?_; (with_reducible refine (spec_l91Kind.calls k g s0_0 t623 t624 t625 w0 _ ?side1 ?side2 A35.out).mono ?_); (case side1 => repeat (first | (with_reducible first | exact HI0.out | apply IsS99.alloc | apply IsS99.drewN | apply IsS99.drew | apply IsS99.set_1) | exact HI0.out)); (case side2 => repeat (first | (with_reducible first | exact HB.out | apply below_alloc | apply pw_below_drewN | apply below_drew1 | refine below_set ?_ (IsS99.ge HI0.out)) | exact HB.out)); rintro e w48 ⟨rfl, hi, hb, hk⟩; refine ⟨_, rfl, ?_⟩; replace HO607 := Aside0.mk (Kd.R_mono (Kd.R_keep (IsS99.apart (show IsS99 w0 _ g s0_0 t623 from by repeat (first | (with_reducible first | exact HI0.out | apply IsS99.alloc | apply IsS99.drewN | apply IsS99.drew | apply IsS99.set_1) | exact HI0.out)) z18_2 (by decide)) hk (fun _ h => h.2)) (fun _ h => h.1)); replace HO610 := Aside0.mk (Kd.R_mono (Kd.R_keep (IsS99.apart (show IsS99 w0 _ g s0_0 t623 from by repeat (first | (with_reducible first | exact HI0.out | apply IsS99.alloc | apply IsS99.drewN | apply IsS99.drew | apply IsS99.set_1) | exact HI0.out)) z18_6 (by decide)) hk (fun _ h => h.2)) (fun _ h => h.1)); replace HO613 := Aside0.mk (Kd.Q_mono (Kd.Q_keep (IsS99.apartQ (show IsS99 w0 _ g s0_0 t623 from by repeat (first | (with_reducible first | exact HI0.out | apply IsS99.alloc | apply IsS99.drewN | apply IsS99.drew | apply IsS99.set_1) | exact HI0.out)) z18_5 (by decide)) hk (fun _ h => h.2)) (fun _ h => h.1)); replace HK := Aside0.mk (KeepBut.trans z18_0 hk (.inl rfl)); replace HB := Aside0.mk (hb); replace HI0 := Aside0.mk (hi); (try clear hb)))
    go_ret3
    exact ⟨_, _, z18_8, z18_7, z18_5, z18_4, z18_3, z18_0⟩
   ·rw [if_neg c34] at H
    have c34b0 : (t622 == 0) = false := beq_eq_false_iff_ne.mpr c34
    have c34b1 : (t622 != 0) = true := bne_iff_ne.mpr c34
    simp only [Option.some.injEq, Prod.mk.injEq] at H; obtain ⟨rfl, rfl, rfl, rfl⟩ := H; go_enter Try.func87, Try.ntmps87
    go_wp2_with (first | ((with_reducible refine gate_callee (f := 78) rfl ?_); refine goesL_ (some 9) rfl rfl Try.func78 (by kernel_rfl) rfl #[.pointer (some ⟨g, 0, none⟩), .int .i64 2] rfl z18_1 ?_; (with_reducible refine (spec_l6Rd_pick.calls k g s0_0 s0_1 2 t595 t596 w0 _ ?side1 ?side2 A2.out).mono ?_); (case side1 => repeat (first | (with_reducible first | exact HI0.out | apply IsS99.alloc | apply IsS99.drewN | apply IsS99.drew | apply IsS99.set_1) | exact HI0.out)); (case side2 => repeat (first | (with_reducible first | exact HB.out | apply below_alloc | apply pw_below_drewN | apply below_drew1 | refine below_set ?_ (IsS99.ge HI0.out)) | exact HB.out)); rintro e w49 ⟨rfl, hi, hb, hk⟩; refine ⟨_, rfl, ?_⟩; replace HK := Aside0.mk (KeepBut.trans z18_0 hk (.inl rfl)); replace HB := Aside0.mk (hb); replace HI0 := Aside0.mk (hi); (try clear hb)) | ((with_reducible refine gate_callee (f := 78) rfl ?_); refine goesL_ (some 13) rfl rfl Try.func78 (by kernel_rfl) rfl #[.pointer (some ⟨g, 0, none⟩), .int .i64 31] rfl z18_1 ?_; (with_reducible refine (spec_l6Rd_pick.calls k g s0_0 t596 31 t597 t598 w0 _ ?side1 ?side2 A3.out).mono ?_); (case side1 => repeat (first | (with_reducible first | exact HI0.out | apply IsS99.alloc | apply IsS99.drewN | apply IsS99.drew | apply IsS99.set_1) | exact HI0.out)); (case side2 => repeat (first | (with_reducible first | exact HB.out | apply below_alloc | apply pw_below_drewN | apply below_drew1 | refine below_set ?_ (IsS99.ge HI0.out)) | exact HB.out)); rintro e w50 ⟨rfl, hi, hb, hk⟩; refine ⟨_, rfl, ?_⟩; replace HK := Aside0.mk (KeepBut.trans z18_0 hk (.inl rfl)); replace HB := Aside0.mk (hb); replace HI0 := Aside0.mk (hi); (try clear hb)) | ((with_reducible refine gate_callee (f := 78) rfl ?_); refine goesL_ (some 15) rfl rfl Try.func78 (by kernel_rfl) rfl #[.pointer (some ⟨g, 0, none⟩), .int .i64 5] rfl z18_1 ?_; (with_reducible refine (spec_l6Rd_pick.calls k g s0_0 t598 5 t599 t600 w0 _ ?side1 ?side2 A4.out).mono ?_); (case side1 => repeat (first | (with_reducible first | exact HI0.out | apply IsS99.alloc | apply IsS99.drewN | apply IsS99.drew | apply IsS99.set_1) | exact HI0.out)); (case side2 => repeat (first | (with_reducible first | exact HB.out | apply below_alloc | apply pw_below_drewN | apply below_drew1 | refine below_set ?_ (IsS99.ge HI0.out)) | exact HB.out)); rintro e w51 ⟨rfl, hi, hb, hk⟩; refine ⟨_, rfl, ?_⟩; replace HK := Aside0.mk (KeepBut.trans z18_0 hk (.inl rfl)); replace HB := Aside0.mk (hb); replace HI0 := Aside0.mk (hi); (try clear hb)) | ((with_reducible refine gate_callee (f := 78) rfl ?_); refine goesL_ (some 17) rfl rfl Try.func78 (by kernel_rfl) rfl #[.pointer (some ⟨g, 0, none⟩), .int .i64 31] rfl z18_1 ?_; (with_reducible refine (spec_l6Rd_pick.calls k g s0_0 t600 31 t601 t602 w0 _ ?side1 ?side2 A5.out).mono ?_); (case side1 => repeat (first | (with_reducible first | exact HI0.out | apply IsS99.alloc | apply IsS99.drewN | apply IsS99.drew | apply IsS99.set_1) | exact HI0.out)); (case side2 => repeat (first | (with_reducible first | exact HB.out | apply below_alloc | apply pw_below_drewN | apply below_drew1 | refine below_set ?_ (IsS99.ge HI0.out)) | exact HB.out)); rintro e w52 ⟨rfl, hi, hb, hk⟩; refine ⟨_, rfl, ?_⟩; replace HK := Aside0.mk (KeepBut.trans z18_0 hk (.inl rfl)); replace HB := Aside0.mk (hb); replace HI0 := Aside0.mk (hi); (try clear hb)) | ((with_reducible refine gate_callee (f := 78) rfl ?_); refine goesL_ (some 19) rfl rfl Try.func78 (by kernel_rfl) rfl #[.pointer (some ⟨g, 0, none⟩), .int .i64 3] rfl z18_1 ?_; (with_reducible refine (spec_l6Rd_pick.calls k g s0_0 t602 3 t603 t604 w0 _ ?side1 ?side2 A6.out).mono ?_); (case side1 => repeat (first | (with_reducible first | exact HI0.out | apply IsS99.alloc | apply IsS99.drewN | apply IsS99.drew | apply IsS99.set_1) | exact HI0.out)); (case side2 => repeat (first | (with_reducible first | exact HB.out | apply below_alloc | apply pw_below_drewN | apply below_drew1 | refine below_set ?_ (IsS99.ge HI0.out)) | exact HB.out)); rintro e w53 ⟨rfl, hi, hb, hk⟩; refine ⟨_, rfl, ?_⟩; replace HK := Aside0.mk (KeepBut.trans z18_0 hk (.inl rfl)); replace HB := Aside0.mk (hb); replace HI0 := Aside0.mk (hi); (try clear hb)) | ((with_reducible refine gate_dst (N := 20) rfl ?_); refine Kd.R_lit (Kd.int .i64) _ 3 ?hg (N := 20) ?hd (xs := ([t597, t599, t601, t603] : List Int)) (inner := [.int .i64 t597, .int .i64 t599, .int .i64 t601, .int .i64 t603]) (ok := fun _ => True) (okp := fun _ => True) ?hr ?hp (fun _ hk => hk) trivial (Below.refl _ _) (Nat.le_refl _) (by simp) ?_; (case hd => rfl); (case hg => rfl); (case hr => first | (go_simp; done) | (go_simp; rfl)); (case hp => exact (Reps.one (show Kd.M (Kd.int .i64) _ _ _ t597 [.int .i64 t597] from rfl) (Reps.one (show Kd.M (Kd.int .i64) _ _ _ t599 [.int .i64 t599] from rfl) (Reps.one (show Kd.M (Kd.int .i64) _ _ _ t601 [.int .i64 t601] from rfl) (Reps.one (show Kd.M (Kd.int .i64) _ _ _ t603 [.int .i64 t603] from rfl) (Reps.none _ _)))))); intro v606 w54 ho55 hb hg_ hnew_; clear hg_ hnew_; (first | rw [← Ny605.out] at ho55 | (simp only [Int.reduceToNat] at ho55; rw [← Ny605.out] at ho55)); have HO607 := Aside0.mk (Kd.R_lower ho55 (keep_size (w := w) (g := g) (row := none) z18_0)); replace HK := Aside0.mk (KeepBut.trans z18_0 (KeepBut.of_below hb g none) (.inl rfl)); replace HB := Aside0.mk (below_step z18_3 hb); replace HI0 := Aside0.mk (IsS99.below z18_4 hb); clear hb ho55; obtain ⟨Ao56, co56, eo56⟩ := Kd.R_slice HO607.out; subst eo56) | ((with_reducible refine gate_callee (f := 81) rfl ?_); refine goesL_ (some 21) rfl rfl Try.func81 (by kernel_rfl) rfl #[.int .i64 (wrap64 (1 + t595)), .slice Ao56 y605.length co56] rfl z18_1 ?_; (with_reducible refine (spec_l4All.calls k (wrap64 (1 + t595)) _ _ y605 t608 _ ?side1 ?side2 A7.out).mono ?_); (case side1 => exact cZ ((Kd.R_reads' HO607.out).2.2)); (case side2 => exact (Kd.R_reads' HO607.out).2.1); rintro e w57 ⟨v609, rfl, ho0, hb⟩; refine ⟨_, rfl, ?_⟩; have HO610 := Aside0.mk (Kd.R_lower (Kd.R_new' ho0 (Kd.R_lt z18_2)) (keep_size (w := w) (g := g) (row := none) z18_0)); replace HO607 := Aside0.mk (Kd.R_elder' z18_2 (Kd.R_base ho0) hb); replace HK := Aside0.mk (KeepBut.trans z18_0 (KeepBut.of_below hb g none) (.inl rfl)); replace HB := Aside0.mk (below_step z18_3 hb); replace HI0 := Aside0.mk (IsS99.below z18_4 hb); (try clear hb); (try clear ho0)) | ((with_reducible refine gate_callee (f := 77) rfl ?_); refine goesL_ (some 23) rfl rfl Try.func77 (by kernel_rfl) rfl #[.pointer (some ⟨g, 0, none⟩)] rfl z18_1 ?_; (with_reducible refine (spec_l91There.calls k g s0_0 t604 t611 t614 w0 _ ?side1 ?side2 A8.out).mono ?_); (case side1 => repeat (first | (with_reducible first | exact HI0.out | apply IsS99.alloc | apply IsS99.drewN | apply IsS99.drew | apply IsS99.set_1) | exact HI0.out)); (case side2 => repeat (first | (with_reducible first | exact HB.out | apply below_alloc | apply pw_below_drewN | apply below_drew1 | refine below_set ?_ (IsS99.ge HI0.out)) | exact HB.out)); rintro e w58 ⟨v612, rfl, ho0, hi, hb, hk⟩; refine ⟨_, rfl, ?_⟩; replace HO607 := Aside0.mk (Kd.R_mono (Kd.R_keep (IsS99.apart (show IsS99 w0 _ g s0_0 t604 from by repeat (first | (with_reducible first | exact HI0.out | apply IsS99.alloc | apply IsS99.drewN | apply IsS99.drew | apply IsS99.set_1) | exact HI0.out)) z18_2 (by decide)) hk (fun _ h => h.2)) (fun _ h => h.1)); replace HO610 := Aside0.mk (Kd.R_mono (Kd.R_keep (IsS99.apart (show IsS99 w0 _ g s0_0 t604 from by repeat (first | (with_reducible first | exact HI0.out | apply IsS99.alloc | apply IsS99.drewN | apply IsS99.drew | apply IsS99.set_1) | exact HI0.out)) z18_6 (by decide)) hk (fun _ h => h.2)) (fun _ h => h.1)); have HO613 := Aside0.mk (Kd.Q_lower ho0 (keep_size (w := w) (g := g) (row := none) z18_0)); replace HK := Aside0.mk (KeepBut.trans z18_0 hk (.inl rfl)); replace HB := Aside0.mk (hb); replace HI0 := Aside0.mk (hi); (try clear hb); (try clear ho0)) | ((with_reducible refine gate_callee (f := 78) rfl ?_); refine goesL_ (some 25) rfl rfl Try.func78 (by kernel_rfl) rfl #[.pointer (some ⟨g, 0, none⟩), .int .i64 6] rfl z18_1 ?_; (with_reducible refine (spec_l6Rd_pick.calls k g s0_0 t614 6 t615 t616 w0 _ ?side1 ?side2 A9.out).mono ?_); (case side1 => repeat (first | (with_reducible first | exact HI0.out | apply IsS99.alloc | apply IsS99.drewN | apply IsS99.drew | apply IsS99.set_1) | exact HI0.out)); (case side2 => repeat (first | (with_reducible first | exact HB.out | apply below_alloc | apply pw_below_drewN | apply below_drew1 | refine below_set ?_ (IsS99.ge HI0.out)) | exact HB.out)); rintro e w59 ⟨rfl, hi, hb, hk⟩; refine ⟨_, rfl, ?_⟩; replace HO607 := Aside0.mk (Kd.R_mono (Kd.R_keep (IsS99.apart (show IsS99 w0 _ g s0_0 t614 from by repeat (first | (with_reducible first | exact HI0.out | apply IsS99.alloc | apply IsS99.drewN | apply IsS99.drew | apply IsS99.set_1) | exact HI0.out)) z18_2 (by decide)) hk (fun _ h => h.2)) (fun _ h => h.1)); replace HO610 := Aside0.mk (Kd.R_mono (Kd.R_keep (IsS99.apart (show IsS99 w0 _ g s0_0 t614 from by repeat (first | (with_reducible first | exact HI0.out | apply IsS99.alloc | apply IsS99.drewN | apply IsS99.drew | apply IsS99.set_1) | exact HI0.out)) z18_6 (by decide)) hk (fun _ h => h.2)) (fun _ h => h.1)); replace HO613 := Aside0.mk (Kd.Q_mono (Kd.Q_keep (IsS99.apartQ (show IsS99 w0 _ g s0_0 t614 from by repeat (first | (with_reducible first | exact HI0.out | apply IsS99.alloc | apply IsS99.drewN | apply IsS99.drew | apply IsS99.set_1) | exact HI0.out)) z18_5 (by decide)) hk (fun _ h => h.2)) (fun _ h => h.1)); replace HK := Aside0.mk (KeepBut.trans z18_0 hk (.inl rfl)); replace HB := Aside0.mk (hb); replace HI0 := Aside0.mk (hi); (try clear hb)) | ((with_reducible refine gate_callee (f := 78) rfl ?_); refine goesL_ (some 39) rfl rfl Try.func78 (by kernel_rfl) rfl #[.pointer (some ⟨g, 0, none⟩), .int .i64 3] rfl z18_1 ?_; (with_reducible refine (spec_l6Rd_pick.calls k g s0_0 t616 3 t622 t623 w0 _ ?side1 ?side2 A33.out).mono ?_); (case side1 => repeat (first | (with_reducible first | exact HI0.out | apply IsS99.alloc | apply IsS99.drewN | apply IsS99.drew | apply IsS99.set_1) | exact HI0.out)); (case side2 => repeat (first | (with_reducible first | exact HB.out | apply below_alloc | apply pw_below_drewN | apply below_drew1 | refine below_set ?_ (IsS99.ge HI0.out)) | exact HB.out)); rintro e w60 ⟨rfl, hi, hb, hk⟩; refine ⟨_, rfl, ?_⟩; replace HO607 := Aside0.mk (Kd.R_mono (Kd.R_keep (IsS99.apart (show IsS99 w0 _ g s0_0 t616 from by repeat (first | (with_reducible first | exact HI0.out | apply IsS99.alloc | apply IsS99.drewN | apply IsS99.drew | apply IsS99.set_1) | exact HI0.out)) z18_2 (by decide)) hk (fun _ h => h.2)) (fun _ h => h.1)); replace HO610 := Aside0.mk (Kd.R_mono (Kd.R_keep (IsS99.apart (show IsS99 w0 _ g s0_0 t616 from by repeat (first | (with_reducible first | exact HI0.out | apply IsS99.alloc | apply IsS99.drewN | apply IsS99.drew | apply IsS99.set_1) | exact HI0.out)) z18_6 (by decide)) hk (fun _ h => h.2)) (fun _ h => h.1)); replace HO613 := Aside0.mk (Kd.Q_mono (Kd.Q_keep (IsS99.apartQ (show IsS99 w0 _ g s0_0 t616 from by repeat (first | (with_reducible first | exact HI0.out | apply IsS99.alloc | apply IsS99.drewN | apply IsS99.drew | apply IsS99.set_1) | exact HI0.out)) z18_5 (by decide)) hk (fun _ h => h.2)) (fun _ h => h.1)); replace HK := Aside0.mk (KeepBut.trans z18_0 hk (.inl rfl)); replace HB := Aside0.mk (hb); replace HI0 := Aside0.mk (hi); (try clear hb)))
    go_ret3
    exact ⟨_, _, z18_8, z18_7, z18_5, z18_4, z18_3, z18_0⟩
  ·rw [if_neg c32] at H
   have c32b0 : (t615 == 1) = false := beq_eq_false_iff_ne.mpr c32
   have c32b1 : (t615 != 1) = true := bne_iff_ne.mpr c32
   simp only [Option.some.injEq, Prod.mk.injEq] at H; obtain ⟨rfl, rfl, rfl, rfl⟩ := H; go_enter Try.func87, Try.ntmps87
   go_wp2_with (first | ((with_reducible refine gate_callee (f := 78) rfl ?_); refine goesL_ (some 9) rfl rfl Try.func78 (by kernel_rfl) rfl #[.pointer (some ⟨g, 0, none⟩), .int .i64 2] rfl z18_1 ?_; (with_reducible refine (spec_l6Rd_pick.calls k g s0_0 s0_1 2 t595 t596 w0 _ ?side1 ?side2 A2.out).mono ?_); (case side1 => repeat (first | (with_reducible first | exact HI0.out | apply IsS99.alloc | apply IsS99.drewN | apply IsS99.drew | apply IsS99.set_1) | exact HI0.out)); (case side2 => repeat (first | (with_reducible first | exact HB.out | apply below_alloc | apply pw_below_drewN | apply below_drew1 | refine below_set ?_ (IsS99.ge HI0.out)) | exact HB.out)); rintro e w61 ⟨rfl, hi, hb, hk⟩; refine ⟨_, rfl, ?_⟩; replace HK := Aside0.mk (KeepBut.trans z18_0 hk (.inl rfl)); replace HB := Aside0.mk (hb); replace HI0 := Aside0.mk (hi); (try clear hb)) | ((with_reducible refine gate_callee (f := 78) rfl ?_); refine goesL_ (some 13) rfl rfl Try.func78 (by kernel_rfl) rfl #[.pointer (some ⟨g, 0, none⟩), .int .i64 31] rfl z18_1 ?_; (with_reducible refine (spec_l6Rd_pick.calls k g s0_0 t596 31 t597 t598 w0 _ ?side1 ?side2 A3.out).mono ?_); (case side1 => repeat (first | (with_reducible first | exact HI0.out | apply IsS99.alloc | apply IsS99.drewN | apply IsS99.drew | apply IsS99.set_1) | exact HI0.out)); (case side2 => repeat (first | (with_reducible first | exact HB.out | apply below_alloc | apply pw_below_drewN | apply below_drew1 | refine below_set ?_ (IsS99.ge HI0.out)) | exact HB.out)); rintro e w62 ⟨rfl, hi, hb, hk⟩; refine ⟨_, rfl, ?_⟩; replace HK := Aside0.mk (KeepBut.trans z18_0 hk (.inl rfl)); replace HB := Aside0.mk (hb); replace HI0 := Aside0.mk (hi); (try clear hb)) | ((with_reducible refine gate_callee (f := 78) rfl ?_); refine goesL_ (some 15) rfl rfl Try.func78 (by kernel_rfl) rfl #[.pointer (some ⟨g, 0, none⟩), .int .i64 5] rfl z18_1 ?_; (with_reducible refine (spec_l6Rd_pick.calls k g s0_0 t598 5 t599 t600 w0 _ ?side1 ?side2 A4.out).mono ?_); (case side1 => repeat (first | (with_reducible first | exact HI0.out | apply IsS99.alloc | apply IsS99.drewN | apply IsS99.drew | apply IsS99.set_1) | exact HI0.out)); (case side2 => repeat (first | (with_reducible first | exact HB.out | apply below_alloc | apply pw_below_drewN | apply below_drew1 | refine below_set ?_ (IsS99.ge HI0.out)) | exact HB.out)); rintro e w63 ⟨rfl, hi, hb, hk⟩; refine ⟨_, rfl, ?_⟩; replace HK := Aside0.mk (KeepBut.trans z18_0 hk (.inl rfl)); replace HB := Aside0.mk (hb); replace HI0 := Aside0.mk (hi); (try clear hb)) | ((with_reducible refine gate_callee (f := 78) rfl ?_); refine goesL_ (some 17) rfl rfl Try.func78 (by kernel_rfl) rfl #[.pointer (some ⟨g, 0, none⟩), .int .i64 31] rfl z18_1 ?_; (with_reducible refine (spec_l6Rd_pick.calls k g s0_0 t600 31 t601 t602 w0 _ ?side1 ?side2 A5.out).mono ?_); (case side1 => repeat (first | (with_reducible first | exact HI0.out | apply IsS99.alloc | apply IsS99.drewN | apply IsS99.drew | apply IsS99.set_1) | exact HI0.out)); (case side2 => repeat (first | (with_reducible first | exact HB.out | apply below_alloc | apply pw_below_drewN | apply below_drew1 | refine below_set ?_ (IsS99.ge HI0.out)) | exact HB.out)); rintro e w64 ⟨rfl, hi, hb, hk⟩; refine ⟨_, rfl, ?_⟩; replace HK := Aside0.mk (KeepBut.trans z18_0 hk (.inl rfl)); replace HB := Aside0.mk (hb); replace HI0 := Aside0.mk (hi); (try clear hb)) | ((with_reducible refine gate_callee (f := 78) rfl ?_); refine goesL_ (some 19) rfl rfl Try.func78 (by kernel_rfl) rfl #[.pointer (some ⟨g, 0, none⟩), .int .i64 3] rfl z18_1 ?_; (with_reducible refine (spec_l6Rd_pick.calls k g s0_0 t602 3 t603 t604 w0 _ ?side1 ?side2 A6.out).mono ?_); (case side1 => repeat (first | (with_reducible first | exact HI0.out | apply IsS99.alloc | apply IsS99.drewN | apply IsS99.drew | apply IsS99.set_1) | exact HI0.out)); (case side2 => repeat (first | (with_reducible first | exact HB.out | apply below_alloc | apply pw_below_drewN | apply below_drew1 | refine below_set ?_ (IsS99.ge HI0.out)) | exact HB.out)); rintro e w65 ⟨rfl, hi, hb, hk⟩; refine ⟨_, rfl, ?_⟩; replace HK := Aside0.mk (KeepBut.trans z18_0 hk (.inl rfl)); replace HB := Aside0.mk (hb); replace HI0 := Aside0.mk (hi); (try clear hb)) | ((with_reducible refine gate_dst (N := 20) rfl ?_); refine Kd.R_lit (Kd.int .i64) _ 3 ?hg (N := 20) ?hd (xs := ([t597, t599, t601, t603] : List Int)) (inner := [.int .i64 t597, .int .i64 t599, .int .i64 t601, .int .i64 t603]) (ok := fun _ => True) (okp := fun _ => True) ?hr ?hp (fun _ hk => hk) trivial (Below.refl _ _) (Nat.le_refl _) (by simp) ?_; (case hd => rfl); (case hg => rfl); (case hr => first | (go_simp; done) | (go_simp; rfl)); (case hp => exact (Reps.one (show Kd.M (Kd.int .i64) _ _ _ t597 [.int .i64 t597] from rfl) (Reps.one (show Kd.M (Kd.int .i64) _ _ _ t599 [.int .i64 t599] from rfl) (Reps.one (show Kd.M (Kd.int .i64) _ _ _ t601 [.int .i64 t601] from rfl) (Reps.one (show Kd.M (Kd.int .i64) _ _ _ t603 [.int .i64 t603] from rfl) (Reps.none _ _)))))); intro v606 w66 ho67 hb hg_ hnew_; clear hg_ hnew_; (first | rw [← Ny605.out] at ho67 | (simp only [Int.reduceToNat] at ho67; rw [← Ny605.out] at ho67)); have HO607 := Aside0.mk (Kd.R_lower ho67 (keep_size (w := w) (g := g) (row := none) z18_0)); replace HK := Aside0.mk (KeepBut.trans z18_0 (KeepBut.of_below hb g none) (.inl rfl)); replace HB := Aside0.mk (below_step z18_3 hb); replace HI0 := Aside0.mk (IsS99.below z18_4 hb); clear hb ho67; obtain ⟨Ao68, co68, eo68⟩ := Kd.R_slice HO607.out; subst eo68) | ((with_reducible refine gate_callee (f := 81) rfl ?_); refine goesL_ (some 21) rfl rfl Try.func81 (by kernel_rfl) rfl #[.int .i64 (wrap64 (1 + t595)), .slice Ao68 y605.length co68] rfl z18_1 ?_; (with_reducible refine (spec_l4All.calls k (wrap64 (1 + t595)) _ _ y605 t608 _ ?side1 ?side2 A7.out).mono ?_); (case side1 => exact cZ ((Kd.R_reads' HO607.out).2.2)); (case side2 => exact (Kd.R_reads' HO607.out).2.1); rintro e w69 ⟨v609, rfl, ho0, hb⟩; refine ⟨_, rfl, ?_⟩; have HO610 := Aside0.mk (Kd.R_lower (Kd.R_new' ho0 (Kd.R_lt z18_2)) (keep_size (w := w) (g := g) (row := none) z18_0)); replace HO607 := Aside0.mk (Kd.R_elder' z18_2 (Kd.R_base ho0) hb); replace HK := Aside0.mk (KeepBut.trans z18_0 (KeepBut.of_below hb g none) (.inl rfl)); replace HB := Aside0.mk (below_step z18_3 hb); replace HI0 := Aside0.mk (IsS99.below z18_4 hb); (try clear hb); (try clear ho0)) | ((with_reducible refine gate_callee (f := 77) rfl ?_); refine goesL_ (some 23) rfl rfl Try.func77 (by kernel_rfl) rfl #[.pointer (some ⟨g, 0, none⟩)] rfl z18_1 ?_; (with_reducible refine (spec_l91There.calls k g s0_0 t604 t611 t614 w0 _ ?side1 ?side2 A8.out).mono ?_); (case side1 => repeat (first | (with_reducible first | exact HI0.out | apply IsS99.alloc | apply IsS99.drewN | apply IsS99.drew | apply IsS99.set_1) | exact HI0.out)); (case side2 => repeat (first | (with_reducible first | exact HB.out | apply below_alloc | apply pw_below_drewN | apply below_drew1 | refine below_set ?_ (IsS99.ge HI0.out)) | exact HB.out)); rintro e w70 ⟨v612, rfl, ho0, hi, hb, hk⟩; refine ⟨_, rfl, ?_⟩; replace HO607 := Aside0.mk (Kd.R_mono (Kd.R_keep (IsS99.apart (show IsS99 w0 _ g s0_0 t604 from by repeat (first | (with_reducible first | exact HI0.out | apply IsS99.alloc | apply IsS99.drewN | apply IsS99.drew | apply IsS99.set_1) | exact HI0.out)) z18_2 (by decide)) hk (fun _ h => h.2)) (fun _ h => h.1)); replace HO610 := Aside0.mk (Kd.R_mono (Kd.R_keep (IsS99.apart (show IsS99 w0 _ g s0_0 t604 from by repeat (first | (with_reducible first | exact HI0.out | apply IsS99.alloc | apply IsS99.drewN | apply IsS99.drew | apply IsS99.set_1) | exact HI0.out)) z18_6 (by decide)) hk (fun _ h => h.2)) (fun _ h => h.1)); have HO613 := Aside0.mk (Kd.Q_lower ho0 (keep_size (w := w) (g := g) (row := none) z18_0)); replace HK := Aside0.mk (KeepBut.trans z18_0 hk (.inl rfl)); replace HB := Aside0.mk (hb); replace HI0 := Aside0.mk (hi); (try clear hb); (try clear ho0)) | ((with_reducible refine gate_callee (f := 78) rfl ?_); refine goesL_ (some 25) rfl rfl Try.func78 (by kernel_rfl) rfl #[.pointer (some ⟨g, 0, none⟩), .int .i64 6] rfl z18_1 ?_; (with_reducible refine (spec_l6Rd_pick.calls k g s0_0 t614 6 t615 t616 w0 _ ?side1 ?side2 A9.out).mono ?_); (case side1 => repeat (first | (with_reducible first | exact HI0.out | apply IsS99.alloc | apply IsS99.drewN | apply IsS99.drew | apply IsS99.set_1) | exact HI0.out)); (case side2 => repeat (first | (with_reducible first | exact HB.out | apply below_alloc | apply pw_below_drewN | apply below_drew1 | refine below_set ?_ (IsS99.ge HI0.out)) | exact HB.out)); rintro e w71 ⟨rfl, hi, hb, hk⟩; refine ⟨_, rfl, ?_⟩; replace HO607 := Aside0.mk (Kd.R_mono (Kd.R_keep (IsS99.apart (show IsS99 w0 _ g s0_0 t614 from by repeat (first | (with_reducible first | exact HI0.out | apply IsS99.alloc | apply IsS99.drewN | apply IsS99.drew | apply IsS99.set_1) | exact HI0.out)) z18_2 (by decide)) hk (fun _ h => h.2)) (fun _ h => h.1)); replace HO610 := Aside0.mk (Kd.R_mono (Kd.R_keep (IsS99.apart (show IsS99 w0 _ g s0_0 t614 from by repeat (first | (with_reducible first | exact HI0.out | apply IsS99.alloc | apply IsS99.drewN | apply IsS99.drew | apply IsS99.set_1) | exact HI0.out)) z18_6 (by decide)) hk (fun _ h => h.2)) (fun _ h => h.1)); replace HO613 := Aside0.mk (Kd.Q_mono (Kd.Q_keep (IsS99.apartQ (show IsS99 w0 _ g s0_0 t614 from by repeat (first | (with_reducible first | exact HI0.out | apply IsS99.alloc | apply IsS99.drewN | apply IsS99.drew | apply IsS99.set_1) | exact HI0.out)) z18_5 (by decide)) hk (fun _ h => h.2)) (fun _ h => h.1)); replace HK := Aside0.mk (KeepBut.trans z18_0 hk (.inl rfl)); replace HB := Aside0.mk (hb); replace HI0 := Aside0.mk (hi); (try clear hb)))
   go_ret3
   exact ⟨_, _, z18_8, z18_7, z18_5, z18_4, z18_3, z18_0⟩

end Go.Proofs.Ytamaejafddmagaa.PA
namespace Go.Proofs.Ytamaejafddmagaa.PA
open Go.RowKit Go.Proofs.YtamaejafddmagaaW.PrintWords Go.Proofs.YtamaejafddmagaaW.PrintLast Go.Proofs.YtamaejafddmagaaW.PrintMore
attribute [local go_sem] max2_int min2_int max_two min_two max_three min_three max_four min_four   -- for this text's walks alone
set_option linter.unusedVariables false
set_option linter.unusedSimpArgs false

/-! ### spec_DrawCodeFits: function 49 -/
theorem z19_0 {p : Prop} (h : p := by (try simp only [List.map_toArray, List.map_cons, List.map_nil]); first | done | rfl | (simp only [List.length_drop, List.length_take]; rfl)) : p := h
theorem z19_1 {p : Prop} (h : p := by repeat (first | (with_reducible first | exact HB.out | apply below_alloc | apply pw_below_drewN | apply below_drew1 | refine below_set ?_ (IsS99.ge HI628.out)) | exact HB.out)) : p := h
theorem z19_2 {p : Prop} (h : p := by repeat (first | exact Drawn0.refl _ | apply Drawn0.step)) : p := h
theorem z19_3 {p : Prop} (h : p := by first | rfl | (simp; done) | (simp [*]; done)) : p := h
def spec_DrawCodeFits.f (k : Nat) (l0 : List Int) : Option (Int × List Int × List Bool) := (spec_l6Open.f l0).bind fun bt626 => ((spec_l91Vals.f k bt626.1 bt626.2).bind fun bt629 => (some (bt629.1, bt629.2.1, bt629.2.2.1)))
set_option maxHeartbeats 8000000 in
set_option maxRecDepth 100000 in
theorem spec_DrawCodeFits.calls (k : Nat) (A0 : Option Addr) (c0 : Nat) (l0 : List Int) (r1 : Int) (r2 : List Int) (r3 : List Bool) (w : World) (hr0 : Kd.C (Kd.int .u8) w A0 l0.length l0) (hc0 : l0.length ≤ c0) (h : spec_DrawCodeFits.f k l0 = some (r1, r2, r3)) :
  Calls Try.prog 49 #[.slice A0 l0.length c0] w fun e w' => ∃ v1_ v2_ : Value, e = .returned (.tuple #[.int .i64 r1, v1_, v2_]) ∧ Kd.R (Kd.int .i64) 3 w' w.heap.size (fun _ => True) v1_ r2 ∧ Kd.Q Kd.bool 4 w' w.heap.size (fun _ => True) v2_ r3 ∧ Below w.heap.size w w' := by
 have HR0 := Aside0.mk hr0
 have HC0 := Aside0.mk hc0
 clear hr0 hc0
 have HB := Aside0.mk (Below.refl w.heap.size w)
 unfold spec_DrawCodeFits.f at h
 have H := h
 clear h
 replace H := Option.bind_eq_some_iff.mp H
 obtain ⟨⟨t626, t627⟩, A20, H⟩ := H
 dsimp only at H
 have A2 := Aside0.mk A20
 clear A20
 replace H := Option.bind_eq_some_iff.mp H
 obtain ⟨⟨t629, t630, t633, t636⟩, A30, H⟩ := H
 dsimp only at H
 have A3 := Aside0.mk A30
 clear A30
 simp only [Option.some.injEq, Prod.mk.injEq] at H
 obtain ⟨rfl, rfl, rfl⟩ := H
 go_enter Try.func49, Try.ntmps49
 go_wp2_with (first | ((with_reducible refine gate_callee (f := 52) rfl ?_); refine goesL_ (some 6) rfl rfl Try.func52 (by kernel_rfl) rfl #[.slice A0 l0.length c0] rfl z19_0 ?_; (with_reducible refine (spec_l6Open.calls _ _ l0 t626 t627 w _ ?side1 ?side2 ?side3 A2.out).mono ?_); (case side1 => repeat (first | (with_reducible first | exact HB.out | apply below_alloc | apply pw_below_drewN | apply below_drew1) | exact HB.out)); (case side2 => exact HR0.out); (case side3 => exact HC0.out); rintro e w4 ⟨g628, rfl, hi, hb, hb2⟩; refine ⟨_, rfl, ?_⟩; replace HB := Aside0.mk (hb); have HI628 := Aside0.mk (hi); (try clear hb)) | ((with_reducible refine gate_callee (f := 87) rfl ?_); refine goesL_ (some 7) rfl rfl Try.func87 (by kernel_rfl) rfl #[.pointer (some ⟨g628, 0, none⟩)] rfl z19_0 ?_; (with_reducible refine (spec_l91Vals.calls k g628 t626 t627 t629 t630 t633 t636 w _ ?side1 ?side2 A3.out).mono ?_); (case side1 => repeat (first | (with_reducible first | exact HI628.out | apply IsS99.alloc | apply IsS99.drewN | apply IsS99.drew | apply IsS99.set_1) | exact HI628.out)); (case side2 => repeat (first | (with_reducible first | exact HB.out | apply below_alloc | apply pw_below_drewN | apply below_drew1 | refine below_set ?_ (IsS99.ge HI628.out)) | exact HB.out)); rintro e w5 ⟨v631, v634, rfl, ho0, ho1, hi, hb, hk⟩; refine ⟨_, rfl, ?_⟩; have HO632 := Aside0.mk (Kd.R_lower ho0 (below_size z19_1)); have HO635 := Aside0.mk (Kd.Q_lower ho1 (below_size z19_1)); replace HB := Aside0.mk (hb); replace HI628 := Aside0.mk (hi); (try clear hb); (try clear ho0); (try clear ho1)))
 go_ret3
 exact ⟨_, _, by first | rfl | (simp [errW_none, errW_some] <;> rfl) | (simp [*, errW_none, errW_some] <;> rfl), by (with_reducible repeat (first | apply Kd.R_alloc | apply Kd.R_drewN | apply Kd.R_drew)); exact HO632.out, by (with_reducible repeat (first | apply Kd.Q_alloc | apply Kd.Q_drewN | apply Kd.Q_drew)); exact HO635.out, z19_1⟩

/-! ### impl_FieldOk: function 88 -/
def impl_FieldOk.f (a0 : Int) : Option (Bool) := (impl_within.f a0 0 30).bind fun t637 => (some t637)
set_option maxHeartbeats 8000000 in
set_option maxRecDepth 100000 in
theorem impl_FieldOk.calls (a0 : Int) (r : Bool) (w : World) (h : impl_FieldOk.f a0 = some r) :
  Calls Try.prog 88 #[.int .i64 a0] w fun e w' => e = .returned (.bool r) ∧ Drawn0 w w' := by
 unfold impl_FieldOk.f at h
 have H := h
 clear h
 replace H := Option.bind_eq_some_iff.mp H
 obtain ⟨t637, A20, H⟩ := H
 have A2 := Aside0.mk A20
 clear A20
 obtain rfl := Option.some.inj H
 go_enter Try.func88, Try.ntmps88
 go_wp2_with (first | ((with_reducible refine gate_callee (f := 107) rfl ?_); refine goesL_ (some 4) rfl rfl Try.func107 (by kernel_rfl) rfl #[.int .i64 a0, .int .i64 0, .int .i64 30] rfl z19_0 ?_; (with_reducible refine (impl_within.calls a0 0 30 t637 _ A2.out).mono ?_); rintro e w' ⟨rfl, ⟨nd, rfl⟩⟩; refine ⟨_, rfl, ?_⟩))
 go_ret
 exact ⟨z19_3, z19_2⟩

/-! ### impl_FieldSum: function 50 -/
def impl_FieldSum.f (a0 : Int) (a1 : Int) : Option (Int) := (impl_FieldOk.f a0).bind fun t638 => (if t638 = true then ((impl_FieldOk.f a1).bind fun t639 => (if t639 = true then ((impl_element_plus.f a0 a1).bind fun t640 => (some t640)) else (some 0))) else (some 0))
set_option maxHeartbeats 8000000 in
set_option maxRecDepth 100000 in
theorem impl_FieldSum.calls (a0 : Int) (a1 : Int) (r : Int) (w : World) (h : impl_FieldSum.f a0 a1 = some r) :
  Calls Try.prog 50 #[.int .i64 a0, .int .i64 a1] w fun e w' => e = .returned (.int .i64 r) ∧ Drawn0 w w' := by
 unfold impl_FieldSum.f at h
 have H := h
 clear h
 replace H := Option.bind_eq_some_iff.mp H
 obtain ⟨t638, A30, H⟩ := H
 have A3 := Aside0.mk A30
 clear A30
 by_cases c4 : t638 = true
 ·subst c4
  rw [if_pos rfl] at H
  replace H := Option.bind_eq_some_iff.mp H
  obtain ⟨t639, A50, H⟩ := H
  have A5 := Aside0.mk A50
  clear A50
  by_cases c6 : t639 = true
  ·subst c6
   rw [if_pos rfl] at H
   replace H := Option.bind_eq_some_iff.mp H
   obtain ⟨t640, A70, H⟩ := H
   have A7 := Aside0.mk A70
   clear A70
   obtain rfl := Option.some.inj H
   go_enter Try.func50, Try.ntmps50
   go_wp2_with (first | ((with_reducible refine gate_callee (f := 88) rfl ?_); refine goesL_ (some 6) rfl rfl Try.func88 (by kernel_rfl) rfl #[.int .i64 a0] rfl z19_0 ?_; (with_reducible refine (impl_FieldOk.calls a0 true _ A3.out).mono ?_); rintro e w' ⟨rfl, ⟨nd, rfl⟩⟩; refine ⟨_, rfl, ?_⟩) | (go_at_call 88; (with_reducible refine (impl_FieldOk.calls a1 true _ A5.out).mono ?_); rintro e w' ⟨rfl, ⟨nd, rfl⟩⟩) | ((with_reducible refine gate_callee (f := 89) rfl ?_); refine goesL_ (some 15) rfl rfl Try.func89 (by kernel_rfl) rfl #[.int .i64 a0, .int .i64 a1] rfl z19_0 ?_; (with_reducible refine (impl_element_plus.calls a0 a1 t640 _ A7.out).mono ?_); rintro e w' ⟨rfl, ⟨nd, rfl⟩⟩; refine ⟨_, rfl, ?_⟩))
   go_ret; exact ⟨z19_3, z19_2⟩
  ·replace c6 := Bool.eq_false_iff.mpr c6
   subst c6; rw [if_neg (show ¬ (false = true) by decide)] at H
   obtain rfl := Option.some.inj H
   go_enter Try.func50, Try.ntmps50
   go_wp2_with (first | ((with_reducible refine gate_callee (f := 88) rfl ?_); refine goesL_ (some 6) rfl rfl Try.func88 (by kernel_rfl) rfl #[.int .i64 a0] rfl z19_0 ?_; (with_reducible refine (impl_FieldOk.calls a0 true _ A3.out).mono ?_); rintro e w' ⟨rfl, ⟨nd, rfl⟩⟩; refine ⟨_, rfl, ?_⟩) | (go_at_call 88; (with_reducible refine (impl_FieldOk.calls a1 false _ A5.out).mono ?_); rintro e w' ⟨rfl, ⟨nd, rfl⟩⟩))
   go_ret; exact ⟨z19_3, z19_2⟩
 ·replace c4 := Bool.eq_false_iff.mpr c4
  subst c4; rw [if_neg (show ¬ (false = true) by decide)] at H
  obtain rfl := Option.some.inj H
  go_enter Try.func50, Try.ntmps50
  go_wp2_with (first | ((with_reducible refine gate_callee (f := 88) rfl ?_); refine goesL_ (some 6) rfl rfl Try.func88 (by kernel_rfl) rfl #[.int .i64 a0] rfl z19_0 ?_; (with_reducible refine (impl_FieldOk.calls a0 false _ A3.out).mono ?_); rintro e w' ⟨rfl, ⟨nd, rfl⟩⟩; refine ⟨_, rfl, ?_⟩))
  go_ret; exact ⟨z19_3, z19_2⟩

end Go.Proofs.Ytamaejafddmagaa.PA
