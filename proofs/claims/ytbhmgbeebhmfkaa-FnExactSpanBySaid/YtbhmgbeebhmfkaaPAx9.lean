-- Written by a program of this session (after the manner of the kit's print, several laws in one text).
import Derived.Test.YtbhmgbeebhmfkaaPAx0
import Derived.Test.YtbhmgbeebhmfkaaPAx4
import Derived.Test.YtbhmgbeebhmfkaaPAx7
import Derived.Test.YtbhmgbeebhmfkaaPAx8
import Derived.Test.YtbhmgbeebhmfkaaGw
import Derived.Test.YtbhmgbeebhmfkaaGm
namespace Go.Proofs.Ytbhmgbeebhmfkaa.PA
open Go.RowKit Go.Proofs.YtbhmgbeebhmfkaaW.PrintWords Go.Proofs.YtbhmgbeebhmfkaaW.PrintLast Go.Proofs.YtbhmgbeebhmfkaaW.PrintMore
attribute [local go_sem] max2_int min2_int max_two min_two max_three min_three max_four min_four   -- for this text's walks alone
set_option linter.unusedVariables false
set_option linter.unusedSimpArgs false

/-! ### spec_SpanBy: function 29 -/
theorem z9_0 {p : Prop} (h : p := by repeat (first | (with_reducible first | exact HB.out | apply below_alloc | apply pw_below_drewN | apply below_drew1) | exact HB.out)) : p := h
theorem z9_1 {p : Prop} (h : p := by (with_reducible repeat (first | apply Kd.R_alloc | apply Kd.R_drewN | apply Kd.R_drew)); exact HO_6.out) : p := h
theorem z9_2 {p : Prop} (h : p := by (with_reducible repeat (first | apply Kd.V_alloc | apply Kd.V_drewN | apply Kd.V_drew)); exact HO_0.out) : p := h
theorem z9_3 {p : Prop} (h : p := by first | (with_reducible assumption) | assumption) : p := h
theorem z9_4 {p : Prop} (h : p := by (try simp only [List.map_toArray, List.map_cons, List.map_nil]); first | done | rfl | (simp only [List.length_drop, List.length_take]; rfl)) : p := h
theorem z9_5 {p : Prop} (h : p := by (with_reducible repeat (first | apply Kd.N_alloc | apply Kd.N_drewN | apply Kd.N_drew)); exact HO_7.out) : p := h
theorem z9_6 {p : Prop} (h : p := by (with_reducible repeat (first | apply Kd.R_alloc | apply Kd.R_drewN | apply Kd.R_drew)); exact HO283.out) : p := h
theorem z9_7 {p : Prop} (h : p := by first | rfl | (simp; done) | (simp [*]; done)) : p := h
theorem z9_8 {p : Prop} (h : p := by first | rfl | (simp [errW_none, errW_some] <;> rfl) | (simp [*, errW_none, errW_some] <;> rfl)) : p := h
theorem z9_9 {p : Prop} (h : p := by (with_reducible repeat (first | apply Kd.V_alloc | apply Kd.V_drewN | apply Kd.V_drew)); exact Kd.V_mono HO_0.out (fun _ hk => ⟨hk.1.1, ⟨hk.1.2, hk.2⟩⟩)) : p := h
mutual
def spec_SpanBy.j0 : Nat → List (List Int) → List Int → Bool → Option (List Int × Bool)
  | 0, _, _, _ => none
  | k + 1, x0, x1, x20 => if x20 = true then (some ((([] : List Int)), false)) else ((spec_l3First.f k x0).bind fun t269 => (spec_SpanBy.l0 k x0 x1 t269 (([] : List (List Int))) 0))
def spec_SpanBy.l0 : Nat → List (List Int) → List Int → List Int → List (List Int) → Int → Option (List Int × Bool)
  | 0, _, _, _, _, _ => none
  | k + 1, x0, x1, x6, x7, x8 => if x8 < (x6.length : Int) then (if 0 ≤ x8 then (if 0 ≤ (rd x6 x8) then (if (rd x6 x8) < (x0.length : Int) then (if x7.length < 5864062014805 then (spec_SpanBy.l0 k x0 x1 x6 (x7 ++ [rd_L1 x0 (rd x6 x8)]) (wrap64 (x8 + 1))) else (none)) else (none)) else (none)) else (none)) else ((spec_l3By.f k x7 x1).bind fun bt280 => (if bt280.2 = true then (if 0 ≤ (x0.length : Int) then (if ((x0.length : Int) : Int).toNat ≤ 35184372088832 then (spec_SpanBy.l1 k x6 bt280.1 (List.replicate ((x0.length : Int) : Int).toNat 0) 0) else (none)) else (none)) else (some ((([] : List Int)), false))))
def spec_SpanBy.l1 : Nat → List Int → List Int → List Int → Int → Option (List Int × Bool)
  | 0, _, _, _, _ => none
  | k + 1, x6, x9, x11, x12 => if x12 < (x6.length : Int) then (if 0 ≤ x12 then (if x12 < (x9.length : Int) then (if 0 ≤ (rd x6 x12) then (if (rd x6 x12) < (x11.length : Int) then (spec_SpanBy.l1 k x6 x9 (x11.set ((rd x6 x12) : Int).toNat (rd x9 x12)) (wrap64 (x12 + 1))) else (none)) else (none)) else (none)) else (none)) else (some (x11, true))
end
def spec_SpanBy.f (k : Nat) (l0 : List (List Int)) (l1 : List Int) : Option (List Int × Bool) := (spec_SpanOk.f k l0).bind fun t264 => (if t264 = true then ((spec_VecOk.f k l1).bind fun t265 => (spec_SpanBy.j0 k l0 l1 (!t265))) else (spec_SpanBy.j0 k l0 l1 true))
def spec_SpanBy.T16 : Bool × List (List Nat × List Nat) := (true, [([], []), ([], []), ([], []), ([1, 2], [1, 2]), ([3], [3]), ([], []), ([], []), ([5, 6], [5, 6]), ([7], [7]), ([0, 4, 0, 1, 2, 3, 4, 5, 6, 7, 8], [0, 4]), ([9, 8, 0, 1, 2, 3, 4, 5, 6, 7, 8], [8, 9])])
def spec_SpanBy.B16 : List Nat := [0, 0, 0, 6, 14, 0, 0, 96, 224, 511, 1023]
theorem spec_SpanBy.tab16 : rtab .any (opsOf Try.f29 16) = spec_SpanBy.T16 := by kernel_rfl
theorem spec_SpanBy.bits16 : waitsOk spec_SpanBy.T16.2 spec_SpanBy.B16 = true := by kernel_rfl
set_option maxHeartbeats 8000000 in
set_option maxRecDepth 100000 in
theorem spec_SpanBy.calls (k : Nat) (P0_ : Nat → Prop) (A0 : Option Addr) (c0 : Nat) (l0 : List (List Int)) (A1 : Option Addr) (c1 : Nat) (l1 : List Int) (r1 : List Int) (r2 : Bool) (w : World) (hs0 : Kd.V (Kd.slice 3 (Kd.int .i64)) 28 w w.heap.size (fun k_ => P0_ k_) (.slice A0 l0.length c0) l0) (hr1 : Kd.C (Kd.int .i64) w A1 l1.length l1) (hc1 : l1.length ≤ c1) (h : spec_SpanBy.f k l0 l1 = some (r1, r2)) :
  Calls Try.prog 29 #[.slice A0 l0.length c0, .slice A1 l1.length c1] w fun e w' => ∃ v0_ : Value, e = .returned (.tuple #[v0_, .bool r2]) ∧ Kd.R (Kd.int .i64) 3 w' w.heap.size (fun k_ => (w.heap.size ≤ k_)) v0_ r1 ∧ Below w.heap.size w w' := by
 have HO0 := Aside0.mk (show Kd.V (Kd.slice 3 (Kd.int .i64)) 28 w w.heap.size (fun k_ => (P0_ k_ ∨ w.heap.size ≤ k_)) (.slice A0 l0.length c0) l0 from Kd.V_mono hs0 (fun k_ hk => .inl hk))
 have HR1 := Aside0.mk hr1
 have HC1 := Aside0.mk hc1
 clear hr1 hc1
 have HB := Aside0.mk (Below.refl w.heap.size w)
 have H : ((spec_SpanOk.f k l0).bind fun t264 => (if t264 = true then ((spec_VecOk.f k l1).bind fun t265 => (spec_SpanBy.j0 k l0 l1 (!t265))) else (spec_SpanBy.j0 k l0 l1 true))) = some (r1, r2) := h
 clear h
 have HC3 := Aside0.mk H
 clear H
 go_enter Try.func29, Try.ntmps29
 go_upto_region 1 with (fail)
 go_cut [20] (fun v20 wc => ∃ (kq : Nat) (x20_2 : Bool), v20 = .bool x20_2 ∧ Aside0 (spec_SpanBy.j0 kq l0 l1 x20_2 = some (r1, r2)) ∧ Aside0 (kq ≤ k) ∧ Aside0 (Kd.V (Kd.slice 3 (Kd.int .i64)) 28 wc w.heap.size (fun k_ => (P0_ k_ ∨ w.heap.size ≤ k_)) (.slice A0 l0.length c0) l0) ∧ Aside0 (Below w.heap.size w wc))
 case first =>
  have H := HC3.out
  clear HC3
  replace H := Option.bind_eq_some_iff.mp H
  obtain ⟨t264, A40, H⟩ := H
  replace H : (if t264 = true then ((spec_VecOk.f k l1).bind fun t265 => (spec_SpanBy.j0 k l0 l1 (!t265))) else (spec_SpanBy.j0 k l0 l1 true)) = some (r1, r2) := H
  have A4 := Aside0.mk A40
  clear A40
  by_cases c5 : t264 = true
  ·subst c5
   have H1 : ((spec_VecOk.f k l1).bind fun t265 => (spec_SpanBy.j0 k l0 l1 (!t265))) = some (r1, r2) := by rw [if_pos rfl] at H; exact H
   clear H
   have H := H1
   clear H1
   replace H := Option.bind_eq_some_iff.mp H
   obtain ⟨t265, A60, H⟩ := H
   replace H : (spec_SpanBy.j0 k l0 l1 (!t265)) = some (r1, r2) := H
   have A6 := Aside0.mk A60
   clear A60
   have H' := Aside0.mk H
   clear H
   go_wp2_with (first | ((with_reducible refine gate_callee (f := 38) rfl ?_); refine goesL_ (some 14) rfl rfl Try.func38 (by kernel_rfl) rfl #[.slice A0 l0.length c0] rfl z9_4 ?_; (with_reducible refine (spec_SpanOk.calls k _ _ l0 true _ ?side1 ?side2 A4.out).mono ?_); (case side1 => exact cZ ((Kd.V_reads' HO0.out).2.2)); (case side2 => exact (Kd.V_reads' HO0.out).2.1); rintro e w' ⟨rfl, ⟨nd, rfl⟩⟩; refine ⟨_, rfl, ?_⟩) | (go_at_call 43; (with_reducible refine (spec_VecOk.calls k _ _ l1 t265 _ ?side1 ?side2 A6.out).mono ?_); (case side1 => repeat (first | exact (Kd.C_below HR1.out z9_0) | (with_reducible refine Kd.C_alloc ?_ _) | (with_reducible refine Kd.C_drewN ?_ _) | (with_reducible refine Kd.C_drew ?_))); (case side2 => exact HC1.out); rintro e w' ⟨rfl, ⟨nd, rfl⟩⟩))
   go_meet
   case rel => exact ⟨_, (!t265), z9_7, H', ⟨by first | omega | exact Nat.le_refl _⟩, ⟨by (with_reducible repeat (first | apply Kd.V_alloc | apply Kd.V_drewN | apply Kd.V_drew)); exact HO0.out⟩, ⟨z9_0⟩⟩
  ·replace c5 := Bool.eq_false_iff.mpr c5
   subst c5
   have H1 : (spec_SpanBy.j0 k l0 l1 true) = some (r1, r2) := by rw [if_neg (show ¬ (false = true) by decide)] at H; exact H
   clear H
   have H := H1
   clear H1
   have H' := Aside0.mk H
   clear H
   go_wp2_with (first | ((with_reducible refine gate_callee (f := 38) rfl ?_); refine goesL_ (some 14) rfl rfl Try.func38 (by kernel_rfl) rfl #[.slice A0 l0.length c0] rfl z9_4 ?_; (with_reducible refine (spec_SpanOk.calls k _ _ l0 false _ ?side1 ?side2 A4.out).mono ?_); (case side1 => exact cZ ((Kd.V_reads' HO0.out).2.2)); (case side2 => exact (Kd.V_reads' HO0.out).2.1); rintro e w' ⟨rfl, ⟨nd, rfl⟩⟩; refine ⟨_, rfl, ?_⟩))
   go_meet
   case rel => exact ⟨_, (true), z9_7, H', ⟨by first | omega | exact Nat.le_refl _⟩, ⟨by (with_reducible repeat (first | apply Kd.V_alloc | apply Kd.V_drewN | apply Kd.V_drew)); exact HO0.out⟩, ⟨z9_0⟩⟩
 case rest =>
  clear HC3
  try clear c1
  obtain ⟨kq, x20_2, rfl, HA, HJ2, HO_0, HB⟩ := hcut
  cases kq with
  | zero => exact absurd HA.out (by simp [spec_SpanBy.j0])
  | succ kj2 =>
   have H := HA.out
   clear HA
   simp only [spec_SpanBy.j0] at H
   by_cases c7 : x20_2 = true
   ·subst c7
    have H1 : (some ((([] : List Int)), false)) = some (r1, r2) := by rw [if_pos rfl] at H; exact H
    clear H
    have H := H1
    clear H1
    obtain ⟨y266, hy266⟩ : ∃ y_ : List Int, y_ = (([] : List Int)) := ⟨_, rfl⟩
    replace H : (some (y266, false)) = some (r1, r2) := by first | (rw [hy266]; with_reducible exact H) | (have H2_ := (Option.bind_some _ _).symm.trans H; rw [hy266]; with_reducible exact H2_) | (have H2_ := (Option.bind_some _ _).symm.trans H; with_reducible exact H2_) | with_reducible exact H | (rw [hy266]; exact H) | exact H
    have Ny266 := Aside0.mk hy266
    clear hy266
    simp only [Option.some.injEq, Prod.mk.injEq] at H
    obtain ⟨rfl, rfl⟩ := H
    go_wp2_with (first | ((with_reducible refine gate_dst (N := 21) rfl ?_); refine Kd.R_lit (Kd.int .i64) _ 3 ?hg (N := 21) ?hd (xs := ([] : List Int)) (inner := []) (ok := fun _ => True) (okp := fun _ => True) ?hr ?hp (fun _ hk => hk) trivial (Below.refl _ _) (Nat.le_refl _) (by simp) ?_; (case hd => rfl); (case hg => rfl); (case hr => first | (go_simp; done) | (go_simp; rfl)); (case hp => exact (Reps.none _ _)); intro v267 w8 ho9 hb hg_ hnew_; clear hg_ hnew_; (first | rw [← Ny266.out] at ho9 | (simp only [Int.reduceToNat] at ho9; rw [← Ny266.out] at ho9)); replace HO_0 := Aside0.mk (Kd.V_elder' z9_2 (Kd.R_base ho9) hb); have HO268 := Aside0.mk (Kd.R_lower (Kd.R_newM (M := fun k_ => (w.heap.size ≤ k_)) ho9 (below_size z9_0) (fun k_ h_ => h_)) (below_size z9_0)); replace HB := Aside0.mk (below_step z9_0 hb); clear hb ho9))
    go_ret2
    exact ⟨_, z9_8, by (with_reducible repeat (first | apply Kd.R_alloc | apply Kd.R_drewN | apply Kd.R_drew)); exact Kd.R_mono HO268.out (fun _ hk => hk.1), z9_0⟩
   ·replace c7 := Bool.eq_false_iff.mpr c7
    subst c7
    have H1 : ((spec_l3First.f kj2 l0).bind fun t269 => (spec_SpanBy.l0 kj2 l0 l1 t269 (([] : List (List Int))) 0)) = some (r1, r2) := by rw [if_neg (show ¬ (false = true) by decide)] at H; exact H
    clear H
    have H := H1
    clear H1
    replace H := Option.bind_eq_some_iff.mp H
    obtain ⟨t269, A100, H⟩ := H
    replace H : (spec_SpanBy.l0 kj2 l0 l1 t269 (([] : List (List Int))) 0) = some (r1, r2) := H
    have A10 := Aside0.mk A100
    clear A100
    obtain ⟨y272, hy272⟩ : ∃ y_ : List (List Int), y_ = (([] : List (List Int))) := ⟨_, rfl⟩
    replace H : (spec_SpanBy.l0 kj2 l0 l1 t269 y272 0) = some (r1, r2) := by first | (rw [hy272]; with_reducible exact H) | (have H2_ := (Option.bind_some _ _).symm.trans H; rw [hy272]; with_reducible exact H2_) | (have H2_ := (Option.bind_some _ _).symm.trans H; with_reducible exact H2_) | with_reducible exact H | (rw [hy272]; exact H) | exact H
    have Ny272 := Aside0.mk hy272
    clear hy272
    have H' := Aside0.mk H
    clear H
    go_wp2_with (first | ((with_reducible refine gate_callee (f := 52) rfl ?_); refine goesL_ (some 23) rfl rfl Try.func52 (by kernel_rfl) rfl #[.slice A0 l0.length c0] rfl z9_4 ?_; (with_reducible refine (spec_l3First.calls kj2 _ _ l0 t269 _ ?side1 ?side2 A10.out).mono ?_); (case side1 => exact cZ ((Kd.V_reads' HO_0.out).2.2)); (case side2 => exact (Kd.V_reads' HO_0.out).2.1); rintro e w11 ⟨v270, rfl, ho0, hb⟩; refine ⟨_, rfl, ?_⟩; replace HO_0 := Aside0.mk (Kd.V_elder' z9_2 (Kd.R_base ho0) hb); have HO271 := Aside0.mk (Kd.R_lower (Kd.R_newM (M := fun k_ => (w.heap.size ≤ k_)) ho0 (below_size z9_0) (fun k_ h_ => h_)) (below_size z9_0)); replace HB := Aside0.mk (below_step z9_0 hb); (try clear hb); (try clear ho0)) | ((with_reducible refine gate_dst (N := 24) rfl ?_); refine Kd.N_lit (Kd.slice 3 (Kd.int .i64)) _ 28 ?hg (N' := 24) ?hd (xs := ([] : List (List Int))) (inner := []) (ok := (fun k_ => (P0_ k_ ∨ w.heap.size ≤ k_) ∧ some k_ ≠ (v270 : Value).ownBlock)) (okp := (fun k_ => (P0_ k_ ∨ w.heap.size ≤ k_) ∧ some k_ ≠ (v270 : Value).ownBlock)) ?hr ?hp (fun _ hk => hk) ((show ∀ k_, w11.heap.size ≤ k_ → (fun k_ => (P0_ k_ ∨ w.heap.size ≤ k_) ∧ some k_ ≠ (v270 : Value).ownBlock) k_ from fun k_ hk => ⟨(.inr (Nat.le_trans (below_size z9_0) hk)), Kd.fresh' (Kd.R_lt (by (with_reducible repeat (first | apply Kd.R_alloc | apply Kd.R_drewN | apply Kd.R_drew)); exact HO271.out)) k_ hk⟩) _ (Nat.le_refl _)) (Below.refl _ _) (Nat.le_refl _) (by simp) ?_; (case hd => rfl); (case hg => rfl); (case hr => first | (go_simp; done) | (go_simp; rfl)); (case hp => exact (Reps.none _ _)); intro v273 w12 ho13 hb hg_ hnew_; clear hg_ hnew_; (first | rw [← Ny272.out] at ho13 | (simp only [Int.reduceToNat] at ho13; rw [← Ny272.out] at ho13)); replace HO_0 := Aside0.mk (Kd.V_elder' z9_2 (by first | exact Kd.N_base ho13 | exact Kd.R_base ho13) hb); replace HO271 := Aside0.mk (Kd.R_below (by (with_reducible repeat (first | apply Kd.R_alloc | apply Kd.R_drewN | apply Kd.R_drew)); exact HO271.out) hb); have HO274 := Aside0.mk (Kd.N_lower ho13 (below_size z9_0)); replace HB := Aside0.mk (below_step z9_0 hb); clear hb ho13))
    go_loopg [7, 8] kj2 (fun kq v7 v8 w' => ∃ (x7_2 : List (List Int)) (x8_2 : Int), v8 = .int .i64 x8_2 ∧ Aside0 (spec_SpanBy.l0 kq l0 l1 t269 x7_2 x8_2 = some (r1, r2)) ∧ Aside0 (kq ≤ kj2) ∧ Aside0 (Kd.V (Kd.slice 3 (Kd.int .i64)) 28 w' w.heap.size (fun k_ => (P0_ k_ ∨ w.heap.size ≤ k_) ∧ some k_ ≠ (v270 : Value).ownBlock ∧ some k_ ≠ (v7 : Value).ownBlock) (.slice A0 l0.length c0) l0) ∧ Aside0 (Kd.R (Kd.int .i64) 3 w' w.heap.size (fun k_ => (w.heap.size ≤ k_)) v270 t269) ∧ Aside0 (Kd.N (Kd.slice 3 (Kd.int .i64)) 28 w' w.heap.size (fun k_ => (P0_ k_ ∨ w.heap.size ≤ k_) ∧ some k_ ≠ (v270 : Value).ownBlock) v7 x7_2) ∧ Aside0 (Below w.heap.size w w'))
    case atStart => exact ⟨(y272), (0), z9_7, H', ⟨Nat.le_refl _⟩, ⟨z9_9⟩, ⟨by (with_reducible repeat (first | apply Kd.R_alloc | apply Kd.R_drewN | apply Kd.R_drew)); exact Kd.R_mono HO271.out (fun _ hk => hk.1)⟩, ⟨by (with_reducible repeat (first | apply Kd.N_alloc | apply Kd.N_drewN | apply Kd.N_drew)); exact HO274.out⟩, ⟨z9_0⟩⟩
    case round =>
     clear H'
     try clear c1
     try clear c7
     obtain ⟨x7_2, x8_2, rfl, HA, HK2, HO_0, HO_6, HO_7, HB⟩ := hrel
     cases gk with
     | zero => exact absurd HA.out (by simp [spec_SpanBy.l0])
     | succ k2 =>
      have H := HA.out
      clear HA
      simp only [spec_SpanBy.l0] at H
      by_cases c14 : x8_2 < (t269.length : Int)
      ·rw [if_pos c14] at H
       have c14b0 : decide (x8_2 < (t269.length : Int)) = true := decide_eq_true c14
       clear c14
       obtain ⟨c15, H⟩ := ifP H
       have c15b0 : decide (0 ≤ x8_2) = true := decide_eq_true c15
       clear c15
       obtain ⟨c16, H⟩ := ifP H
       have c16b0 : decide (0 ≤ (rd t269 x8_2)) = true := decide_eq_true c16
       clear c16
       obtain ⟨c17, H⟩ := ifP H
       have c17b0 : decide ((rd t269 x8_2) < (l0.length : Int)) = true := decide_eq_true c17
       clear c17
       obtain ⟨c18, H⟩ := ifP H
       have LMc18 := Aside0.mk c18
       clear c18
       obtain ⟨y277, hy277⟩ : ∃ y_ : List (List Int), y_ = (x7_2 ++ [rd_L1 l0 (rd t269 x8_2)]) := ⟨_, rfl⟩
       replace H : (spec_SpanBy.l0 k2 l0 l1 t269 y277 (wrap64 (x8_2 + 1))) = some (r1, r2) := by first | (rw [hy277]; with_reducible exact H) | (have H2_ := (Option.bind_some _ _).symm.trans H; rw [hy277]; with_reducible exact H2_) | (have H2_ := (Option.bind_some _ _).symm.trans H; with_reducible exact H2_) | with_reducible exact H | (rw [hy277]; exact H) | exact H
       have Ny277 := Aside0.mk hy277
       clear hy277
       have H' := Aside0.mk H
       clear H
       obtain ⟨Ao19, co19, eo19⟩ := Kd.R_slice HO_6.out
       subst eo19
       have p275 : 0 ≤ (x8_2 : Int) := of_decide_eq_true z9_3
       have q275 : x8_2 < (t269.length : Int) := of_decide_eq_true z9_3
       obtain ⟨ad275, e275, hx275_0⟩ := Kd.at_int (Kd.R_reads' HO_6.out).2.2 x8_2 p275 q275
       cases e275
       replace p275 := eq_true p275
       replace q275 := eq_true q275
       have p276 : 0 ≤ ((rd t269 x8_2) : Int) := of_decide_eq_true z9_3
       have q276 : (rd t269 x8_2) < (l0.length : Int) := of_decide_eq_true z9_3
       obtain ⟨ad276, A276_0, c276_0, e276, hx276_0, hl276_0, hi276_0⟩ := at_L1 (Kd.V_reads' HO_0.out).2.2 (rd t269 x8_2) p276 q276
       cases e276
       obtain ⟨ce276, hce276, hMe276, hcc276⟩ := Kd.V_get HO_0.out [] (rd t269 x8_2) p276 (by first | exact q276 | exact of_decide_eq_true z9_3 | (have e_ := (Kd.V_reads' HO_0.out).1; omega))
       obtain ⟨ua276_0, uc276_0, rfl, ul276_0, ge276_0⟩ := Kd.FK_slice_open hMe276
       have hv276_0 := hcc276 0 _ rfl
       rw [Nat.add_zero, show ((Kd.slice 3 (Kd.int .i64))).sz = 1 from rfl, Nat.mul_one] at hv276_0
       replace hv276_0 := Option.some.inj (hv276_0.symm.trans hx276_0)
       injection hv276_0 with hva_ hvn_ hvc_
       rw [hva_] at ge276_0
       rw [hvc_] at ul276_0
       have HL276_0 := Aside0.mk (show Kd.V (Kd.int .i64) 3 _ w.heap.size _ _ (rd_L1 l0 (rd t269 x8_2)) from Kd.V_mk ul276_0 ge276_0)
       clear hva_ hvn_ hvc_ ge276_0 ul276_0
       clear hcc276 hce276
       have HR276_0 := Aside0.mk hi276_0
       have HC276_0 := Aside0.mk hl276_0
       clear hi276_0 hl276_0
       replace p276 := eq_true p276
       replace q276 := eq_true q276
       go_wp2_with (first | ((with_reducible refine gate_builtin (b := .append) (xs := #[.tmp 31, .tmp 39]) rfl ?_); at_builtin; refine Kd.N_append (Kd.slice 3 (Kd.int .i64)) (w0 := w) w.heap.size rfl (.tmp 31) (.tmp 39) 22 28 (.slice none 0 0) 24 rfl Try.underlying22 info28 rfl (by decide) (by omega) u7 x7_2 (rd_L1 l0 (rd t269 x8_2)) [.slice A276_0 (rd_L1 l0 (rd t269 x8_2)).length c276_0] (fun k_ => (P0_ k_ ∨ w.heap.size ≤ k_) ∧ some k_ ≠ (.slice (some ad275) t269.length co19 : Value).ownBlock) (fun k_ => ((fun k_ => (P0_ k_ ∨ w.heap.size ≤ k_) ∧ some k_ ≠ (.slice (some ad275) t269.length co19 : Value).ownBlock)) k_ ∧ some k_ ≠ (u7 : Value).ownBlock) rfl rfl ?aP (fun _ hk => hk) ?aF ?aO ?aB ?aS ?aL ?_; (case aP => exact (Kd.FK_slice_mk (Kd.V_reads' (Kd.V_mono (ok' := (fun k_ => ((fun k_ => (P0_ k_ ∨ w.heap.size ≤ k_) ∧ some k_ ≠ (.slice (some ad275) t269.length co19 : Value).ownBlock)) k_ ∧ some k_ ≠ (u7 : Value).ownBlock)) (HL276_0.out) (fun k_ hk => ⟨⟨hk.1, hk.2.1⟩, hk.2.2⟩))).2.1 (Kd.V_F (Kd.V_mono (ok' := (fun k_ => ((fun k_ => (P0_ k_ ∨ w.heap.size ≤ k_) ∧ some k_ ≠ (.slice (some ad275) t269.length co19 : Value).ownBlock)) k_ ∧ some k_ ≠ (u7 : Value).ownBlock)) (HL276_0.out) (fun k_ hk => ⟨⟨hk.1, hk.2.1⟩, hk.2.2⟩))))); (case aB => exact z9_0); (case aF => exact (fun k_ hk => ⟨(.inr (Nat.le_trans (below_size z9_0) hk)), Kd.fresh' (Kd.R_lt z9_1) k_ hk⟩)); (case aO => exact z9_5); (case aS => exact (below_size z9_0)); (case aL => have := LMc18.out; omega); intro v278 w20 ho hb hg hat; rw [← Ny277.out] at ho; have n0_ := Aside0.mk (Kd.V_afterv (ok := (fun k_ => (P0_ k_ ∨ w.heap.size ≤ k_) ∧ some k_ ≠ (.slice (some ad275) t269.length co19 : Value).ownBlock)) (by (with_reducible repeat (first | apply Kd.V_alloc | apply Kd.V_drewN | apply Kd.V_drew)); exact Kd.V_mono HO_0.out (fun _ hk => ⟨⟨hk.1, hk.2.1⟩, hk.2.2⟩)) hg hat); have n1_ := Aside0.mk (Kd.R_over' z9_1 (Kd.N_typed z9_5) (by decide) hg); have n2_ := Aside0.mk (Kd.V_afterv (ok := (fun k_ => (P0_ k_ ∨ w.heap.size ≤ k_) ∧ some k_ ≠ (.slice (some ad275) t269.length co19 : Value).ownBlock)) (by (with_reducible repeat (first | apply Kd.V_alloc | apply Kd.V_drewN | apply Kd.V_drew)); exact Kd.V_mono HL276_0.out (fun _ hk => ⟨⟨hk.1, hk.2.1⟩, hk.2.2⟩)) hg hat); have n3_ := Aside0.mk (hb); have n4_ := Aside0.mk (ho); clear HO_0; clear HO_6; clear HL276_0; clear HB; clear HO_7; have HO_0 := n0_; have HO_6 := n1_; have HL276_0 := n2_; have HB := n3_; have HO279 := n4_; clear n0_ n1_ n2_ n3_ n4_; clear ho hb hg hat))
       go_roundg k2
       case measure => have := HJ2.out; have := HK2.out; omega
       case rel => exact ⟨(y277), (wrap64 (x8_2 + 1)), z9_7, H', ⟨by have := HJ2.out; have := HK2.out; omega⟩, ⟨z9_9⟩, ⟨z9_1⟩, ⟨by (with_reducible repeat (first | apply Kd.N_alloc | apply Kd.N_drewN | apply Kd.N_drew)); exact HO279.out⟩, ⟨z9_0⟩⟩
      ·rw [if_neg c14] at H
       have c14b0 : decide (x8_2 < (t269.length : Int)) = false := decide_eq_false c14
       clear c14
       replace H := Option.bind_eq_some_iff.mp H
       obtain ⟨⟨t280, t281⟩, A210, H⟩ := H
       replace H : (if t281 = true then (if 0 ≤ (l0.length : Int) then (if ((l0.length : Int) : Int).toNat ≤ 35184372088832 then (spec_SpanBy.l1 k2 t269 t280 (List.replicate ((l0.length : Int) : Int).toNat 0) 0) else (none)) else (none)) else (some ((([] : List Int)), false))) = some (r1, r2) := H
       have A21 := Aside0.mk A210
       clear A210
       by_cases c22 : t281 = true
       ·subst c22
        have H1 : (if 0 ≤ (l0.length : Int) then (if ((l0.length : Int) : Int).toNat ≤ 35184372088832 then (spec_SpanBy.l1 k2 t269 t280 (List.replicate ((l0.length : Int) : Int).toNat 0) 0) else (none)) else (none)) = some (r1, r2) := by rw [if_pos rfl] at H; exact H
        clear H
        have H := H1
        clear H1
        obtain ⟨c23, H⟩ := ifP H
        have c23b0 := eq_true c23
        have c23b1 : decide (0 ≤ (l0.length : Int)) = true := decide_eq_true c23
        clear c23
        obtain ⟨c24, H⟩ := ifP H
        have c24b0 := eq_true c24
        have c24b1 : decide (((l0.length : Int) : Int).toNat ≤ 35184372088832) = true := decide_eq_true c24
        clear c24
        obtain ⟨y287, hy287⟩ : ∃ y_ : List Int, y_ = (List.replicate ((l0.length : Int) : Int).toNat 0) := ⟨_, rfl⟩
        replace H : (spec_SpanBy.l1 k2 t269 t280 y287 0) = some (r1, r2) := by first | (rw [hy287]; with_reducible exact H) | (have H2_ := (Option.bind_some _ _).symm.trans H; rw [hy287]; with_reducible exact H2_) | (have H2_ := (Option.bind_some _ _).symm.trans H; with_reducible exact H2_) | with_reducible exact H | (rw [hy287]; exact H) | exact H
        have Ny287 := Aside0.mk hy287
        clear hy287
        have H' := Aside0.mk H
        clear H
        obtain ⟨Ao25, co25, eo25⟩ := Kd.R_slice HO_6.out
        subst eo25
        obtain ⟨Ao26, co26, eo26⟩ := Kd.N_slice HO_7.out
        subst eo26
        go_wp2_with (first | ((with_reducible refine gate_callee (f := 55) rfl ?_); refine goesL_ (some 44) rfl rfl Try.func55 (by kernel_rfl) rfl #[.slice Ao26 x7_2.length co26, .slice A1 l1.length c1] rfl z9_4 ?_; (with_reducible refine (spec_l3By.calls k2 _ _ x7_2 _ _ l1 t280 true _ ?side1 ?side2 ?side3 ?side4 A21.out).mono ?_); (case side1 => exact cZ ((Kd.N_reads' HO_7.out).2.2)); (case side2 => exact (Kd.N_reads' HO_7.out).2.1); (case side3 => exact cZ ((Kd.C_below HR1.out HB.out))); (case side4 => exact HC1.out); rintro e w27 ⟨v282, rfl, ho0, hb⟩; refine ⟨_, rfl, ?_⟩; replace HO_0 := Aside0.mk (Kd.V_elder' z9_2 (Kd.R_base ho0) hb); replace HO_7 := Aside0.mk (Kd.N_elder' z9_5 (Kd.R_base ho0) hb); have HO283 := Aside0.mk (Kd.R_lower (Kd.R_new' (Kd.R_newM (M := fun k_ => (w.heap.size ≤ k_)) ho0 (below_size z9_0) (fun k_ h_ => h_)) (Kd.R_lt z9_1)) (below_size z9_0)); replace HO_6 := Aside0.mk (Kd.R_elder' z9_1 (Kd.R_base ho0) hb); replace HB := Aside0.mk (below_step z9_0 hb); (try clear hb); (try clear ho0)) | ((with_reducible refine gate_dst (N := 52) rfl ?_); refine Kd.R_make (Kd.int .i64) _ 3 rfl (N := 52) rfl 28 _ _ rfl (l0.length : Int) rfl rfl Try.underlying28 (.int .i64 0) 8 info3 rfl (by decide) (by omega) 0 (ok := fun _ => True) (okp := fun _ => True) rfl (fun _ hk => hk) trivial (of_decide_eq_true z9_3) (Nat.le_trans (Nat.mul_le_mul_right _ (of_decide_eq_true z9_3 : (l0.length : Int).toNat ≤ 35184372088832)) (by omega)) (Below.refl _ _) (Nat.le_refl _) ?_; intro v288 w28 ho29 hb hg_ hnew_; clear hg_ hnew_; (first | rw [← Ny287.out] at ho29 | (simp only [Int.reduceToNat] at ho29; rw [← Ny287.out] at ho29)); replace HO_0 := Aside0.mk (Kd.V_elder' z9_2 (Kd.R_base ho29) hb); replace HO_7 := Aside0.mk (Kd.N_elder' z9_5 (Kd.R_base ho29) hb); have HO289 := Aside0.mk (Kd.R_lower (Kd.R_new' (Kd.R_new' (Kd.R_newM (M := fun k_ => (w.heap.size ≤ k_)) ho29 (below_size z9_0) (fun k_ h_ => h_)) (Kd.R_lt z9_1)) (Kd.R_lt z9_6)) (below_size z9_0)); replace HO_6 := Aside0.mk (Kd.R_elder' z9_1 (Kd.R_base ho29) hb); replace HO283 := Aside0.mk (Kd.R_elder' z9_6 (Kd.R_base ho29) hb); replace HB := Aside0.mk (below_step z9_0 hb); clear hb ho29))
        go_loopg [12] k2 (fun kq v12 w' => ∃ (x11_3 : List Int) (x12_3 : Int), v12 = .int .i64 x12_3 ∧ Aside0 (spec_SpanBy.l1 kq t269 t280 x11_3 x12_3 = some (r1, r2)) ∧ Aside0 (kq ≤ k2) ∧ Aside0 (Kd.R (Kd.int .i64) 3 w' w.heap.size (fun k_ => (w.heap.size ≤ k_) ∧ some k_ ≠ (v282 : Value).ownBlock ∧ some k_ ≠ (v288 : Value).ownBlock) (.slice Ao25 t269.length co25) t269) ∧ Aside0 (Kd.R (Kd.int .i64) 3 w' w.heap.size (fun k_ => (w.heap.size ≤ k_) ∧ some k_ ≠ ((.slice Ao25 t269.length co25) : Value).ownBlock ∧ some k_ ≠ (v288 : Value).ownBlock) v282 t280) ∧ Aside0 (Kd.R (Kd.int .i64) 3 w' w.heap.size (fun k_ => (w.heap.size ≤ k_) ∧ some k_ ≠ ((.slice Ao25 t269.length co25) : Value).ownBlock ∧ some k_ ≠ (v282 : Value).ownBlock) v288 x11_3) ∧ Aside0 (Below w.heap.size w w'))
        case atStart => exact ⟨(y287), (0), z9_7, H', ⟨Nat.le_refl _⟩, ⟨by (with_reducible repeat (first | apply Kd.R_alloc | apply Kd.R_drewN | apply Kd.R_drew)); exact Kd.R_mono HO_6.out (fun _ hk => ⟨hk.1.1, ⟨hk.1.2, hk.2⟩⟩)⟩, ⟨by (with_reducible repeat (first | apply Kd.R_alloc | apply Kd.R_drewN | apply Kd.R_drew)); exact Kd.R_mono HO283.out (fun _ hk => ⟨hk.1.1.1, ⟨hk.1.2, hk.2⟩⟩)⟩, ⟨by (with_reducible repeat (first | apply Kd.R_alloc | apply Kd.R_drewN | apply Kd.R_drew)); exact Kd.R_mono HO289.out (fun _ hk => ⟨hk.1.1.1, ⟨hk.1.2, hk.2⟩⟩)⟩, ⟨z9_0⟩⟩
        case round =>
         clear H'
         try clear c1
         try clear c7
         try clear c14
         try clear c14b0
         try clear c22
         try clear c23
         try clear c23b0
         try clear c23b1
         try clear c24
         try clear c24b0
         try clear c24b1
         obtain ⟨x11_3, x12_3, rfl, HA, HK3, HO_6, HO_9, HO_11, HB⟩ := hrel
         cases gk with
         | zero => exact absurd HA.out (by simp [spec_SpanBy.l1])
         | succ k3 =>
          have H := HA.out
          clear HA
          simp only [spec_SpanBy.l1] at H
          by_cases c30 : x12_3 < (t269.length : Int)
          ·rw [if_pos c30] at H
           have c30b0 : decide (x12_3 < (t269.length : Int)) = true := decide_eq_true c30
           clear c30
           obtain ⟨c31, H⟩ := ifP H
           have c31b0 : decide (0 ≤ x12_3) = true := decide_eq_true c31
           clear c31
           obtain ⟨c32, H⟩ := ifP H
           have c32b0 : decide (x12_3 < (t280.length : Int)) = true := decide_eq_true c32
           clear c32
           obtain ⟨c33, H⟩ := ifP H
           have c33b0 : decide (0 ≤ (rd t269 x12_3)) = true := decide_eq_true c33
           clear c33
           obtain ⟨c34, H⟩ := ifP H
           have c34b0 : decide ((rd t269 x12_3) < (x11_3.length : Int)) = true := decide_eq_true c34
           clear c34
           obtain ⟨y292, hy292⟩ : ∃ y_ : List Int, y_ = (x11_3.set ((rd t269 x12_3) : Int).toNat (rd t280 x12_3)) := ⟨_, rfl⟩
           replace H : (spec_SpanBy.l1 k3 t269 t280 y292 (wrap64 (x12_3 + 1))) = some (r1, r2) := by first | (rw [hy292]; with_reducible exact H) | (have H2_ := (Option.bind_some _ _).symm.trans H; rw [hy292]; with_reducible exact H2_) | (have H2_ := (Option.bind_some _ _).symm.trans H; with_reducible exact H2_) | with_reducible exact H | (rw [hy292]; exact H) | exact H
           have Ny292 := Aside0.mk hy292
           clear hy292
           have H' := Aside0.mk H
           clear H
           try go_wp2
           replace HO_6 := Aside0.mk (Kd.R_drew HO_6.out)
           replace HO_9 := Aside0.mk (Kd.R_drew HO_9.out)
           replace HO_11 := Aside0.mk (Kd.R_drew HO_11.out)
           replace HB := Aside0.mk (below_drew1 HB.out)
           have p290 : 0 ≤ (x12_3 : Int) := of_decide_eq_true z9_3
           have q290 : x12_3 < (t269.length : Int) := of_decide_eq_true z9_3
           obtain ⟨ad290, e290, hx290_0⟩ := Kd.at_int (Kd.R_reads' HO_6.out).2.2 x12_3 p290 q290
           cases e290
           replace p290 := eq_true p290
           replace q290 := eq_true q290
           obtain ⟨Ao37, co37, eo37⟩ := Kd.R_slice HO_9.out
           (first | subst eo37 | (injection eo37 with f1_ f2_ f3_; have f4_ := f1_.symm; have f5_ := f3_.symm; clear f1_ f2_ f3_; subst f4_; subst f5_))
           have p291 : 0 ≤ (x12_3 : Int) := of_decide_eq_true z9_3
           have q291 : x12_3 < (t280.length : Int) := of_decide_eq_true z9_3
           obtain ⟨ad291, e291, hx291_0⟩ := Kd.at_int (Kd.R_reads' HO_9.out).2.2 x12_3 p291 q291
           cases e291
           replace p291 := eq_true p291
           replace q291 := eq_true q291
           have p35 : 0 ≤ ((rd t269 x12_3) : Int) := of_decide_eq_true z9_3
           have q35 : ((rd t269 x12_3) : Int) < ((x11_3.length : Int) : Int) := of_decide_eq_true z9_3
           obtain ⟨go35, co35, eo35, gb35, gl35, cl35, HG35⟩ := Kd.R_form HO_11.out (by omega)
           (first | cases eo35 | (injection eo35 with ea_ en_ ec_; (first | subst ea_ | (injection ea_ with ea_; subst ea_)); subst ec_; clear en_))
           have GB35 := Aside0.mk gb35
           have GG35 := Aside0.mk HG35
           clear gb35 gl35 HG35
           obtain ⟨hx35_0, hf35_0⟩ := Kd.R_celln 0 HO_11.out ((rd t269 x12_3) : Int) p35 q35
           replace p35 := eq_true p35
           replace q35 := eq_true q35
           have HP38 := Kd.R_putn HO_11.out ((rd t269 x12_3) : Int) (rd t280 x12_3)
           rw [← Ny292.out] at HP38
           have HQ38 := Aside0.mk HP38
           clear HP38
           refine start_ (n := 11) (S := fun w' => w'.cell? (ad290.add (x12_3).toNat) = some (.int .i64 (rd t269 x12_3)) ∧ w'.cell? (ad291.add (x12_3).toNat) = some (.int .i64 (rd t280 x12_3))) (ds := [10]) #[false, false, false, false, false, false, false, false, false, false, false] (by kernel_rfl) rfl rfl ⟨hx290_0, hx291_0⟩ (fun hHeld => ?_); refine with_tabW spec_SpanBy.tab16 spec_SpanBy.bits16 (fun HT_ HW_ => ?_)
           generalize wr.drew = w36 at HO_6 HO_9 HO_11 HB GG35 HQ38 hf35_0 hx290_0 hx291_0 hx35_0 hHeld ⊢
           refine pZ 0 HT_ ?_
           refine pZ 1 HT_ ?_
           refine pZ 2 HT_ ?_
           refine pZ 3 HT_ ?_
           refine pZ 5 HT_ ?_
           refine pZ 6 HT_ ?_
           refine pZ 7 HT_ ?_
           refine tZ 4 hHeld HT_ HW_ ?_
           refine tZ 8 hHeld HT_ HW_ ?_
           refine pZ 9 HT_ ?_
           refine lZ 10 HT_ (fun K hK => ?_)
           refine skip_ (w1 := ?_) (by rfl) rfl ?_ ?_
           rotate_left
           ·go_simp
            rfl
           refine hK.out _ _ ?_
           clear hK K
           refine done_ (done_of HT_.out (by kernel_rfl)) ?_
           try go_wp2
           go_roundg k3
           case measure => have := HJ2.out; have := HK2.out; have := HK3.out; omega
           case rel => exact ⟨(y292), (wrap64 (x12_3 + 1)), z9_7, H', ⟨by have := HJ2.out; have := HK2.out; have := HK3.out; omega⟩, ⟨by (with_reducible repeat (first | apply Kd.R_alloc | apply Kd.R_drewN | apply Kd.R_drew)); exact Kd.R_mono (Kd.R_far (p := ⟨go35, ((rd t269 x12_3) : Int).toNat, none⟩) (Kd.R_mono HO_6.out (fun k_ hk => (⟨hk, fun e_ => hk.2.2 (by rw [e_]; rfl)⟩ : _ ∧ k_ ≠ go35))) (fun _ hk => hk.2) (.int .i64 (rd t280 x12_3))) (fun _ hk => ⟨hk.1.1, ⟨hk.1.2.1, hk.1.2.2⟩⟩)⟩, ⟨by (with_reducible repeat (first | apply Kd.R_alloc | apply Kd.R_drewN | apply Kd.R_drew)); exact Kd.R_mono (Kd.R_far (p := ⟨go35, ((rd t269 x12_3) : Int).toNat, none⟩) (Kd.R_mono HO_9.out (fun k_ hk => (⟨hk, fun e_ => hk.2.2 (by rw [e_]; rfl)⟩ : _ ∧ k_ ≠ go35))) (fun _ hk => hk.2) (.int .i64 (rd t280 x12_3))) (fun _ hk => ⟨hk.1.1, ⟨hk.1.2.1, hk.1.2.2⟩⟩)⟩, ⟨by (with_reducible repeat (first | apply Kd.R_alloc | apply Kd.R_drewN | apply Kd.R_drew)); exact HQ38.out⟩, ⟨by repeat (first | (with_reducible first | exact HB.out | apply below_alloc | apply pw_below_drewN | apply below_drew1 | refine below_set ?_ GB35.out) | exact HB.out)⟩⟩
          ·rw [if_neg c30] at H
           have c30b0 : decide (x12_3 < (t269.length : Int)) = false := decide_eq_false c30
           clear c30
           simp only [Option.some.injEq, Prod.mk.injEq] at H
           obtain ⟨rfl, rfl⟩ := H
           go_wp2
           go_ret2
           exact ⟨_, z9_8, by (with_reducible repeat (first | apply Kd.R_alloc | apply Kd.R_drewN | apply Kd.R_drew)); exact Kd.R_mono HO_11.out (fun _ hk => hk.1), z9_0⟩
       ·replace c22 := Bool.eq_false_iff.mpr c22
        subst c22
        have H1 : (some ((([] : List Int)), false)) = some (r1, r2) := by rw [if_neg (show ¬ (false = true) by decide)] at H; exact H
        clear H
        have H := H1
        clear H1
        obtain ⟨y284, hy284⟩ : ∃ y_ : List Int, y_ = (([] : List Int)) := ⟨_, rfl⟩
        replace H : (some (y284, false)) = some (r1, r2) := by first | (rw [hy284]; with_reducible exact H) | (have H2_ := (Option.bind_some _ _).symm.trans H; rw [hy284]; with_reducible exact H2_) | (have H2_ := (Option.bind_some _ _).symm.trans H; with_reducible exact H2_) | with_reducible exact H | (rw [hy284]; exact H) | exact H
        have Ny284 := Aside0.mk hy284
        clear hy284
        simp only [Option.some.injEq, Prod.mk.injEq] at H
        obtain ⟨rfl, rfl⟩ := H
        obtain ⟨Ao39, co39, eo39⟩ := Kd.R_slice HO_6.out
        subst eo39
        obtain ⟨Ao40, co40, eo40⟩ := Kd.N_slice HO_7.out
        subst eo40
        go_wp2_with (first | ((with_reducible refine gate_callee (f := 55) rfl ?_); refine goesL_ (some 44) rfl rfl Try.func55 (by kernel_rfl) rfl #[.slice Ao40 x7_2.length co40, .slice A1 l1.length c1] rfl z9_4 ?_; (with_reducible refine (spec_l3By.calls k2 _ _ x7_2 _ _ l1 t280 false _ ?side1 ?side2 ?side3 ?side4 A21.out).mono ?_); (case side1 => exact cZ ((Kd.N_reads' HO_7.out).2.2)); (case side2 => exact (Kd.N_reads' HO_7.out).2.1); (case side3 => exact cZ ((Kd.C_below HR1.out HB.out))); (case side4 => exact HC1.out); rintro e w41 ⟨v282, rfl, ho0, hb⟩; refine ⟨_, rfl, ?_⟩; replace HO_0 := Aside0.mk (Kd.V_elder' z9_2 (Kd.R_base ho0) hb); replace HO_7 := Aside0.mk (Kd.N_elder' z9_5 (Kd.R_base ho0) hb); have HO283 := Aside0.mk (Kd.R_lower (Kd.R_new' (Kd.R_newM (M := fun k_ => (w.heap.size ≤ k_)) ho0 (below_size z9_0) (fun k_ h_ => h_)) (Kd.R_lt z9_1)) (below_size z9_0)); replace HO_6 := Aside0.mk (Kd.R_elder' z9_1 (Kd.R_base ho0) hb); replace HB := Aside0.mk (below_step z9_0 hb); (try clear hb); (try clear ho0)) | ((with_reducible refine gate_dst (N := 49) rfl ?_); refine Kd.R_lit (Kd.int .i64) _ 3 ?hg (N := 49) ?hd (xs := ([] : List Int)) (inner := []) (ok := fun _ => True) (okp := fun _ => True) ?hr ?hp (fun _ hk => hk) trivial (Below.refl _ _) (Nat.le_refl _) (by simp) ?_; (case hd => rfl); (case hg => rfl); (case hr => first | (go_simp; done) | (go_simp; rfl)); (case hp => exact (Reps.none _ _)); intro v285 w42 ho43 hb hg_ hnew_; clear hg_ hnew_; (first | rw [← Ny284.out] at ho43 | (simp only [Int.reduceToNat] at ho43; rw [← Ny284.out] at ho43)); replace HO_0 := Aside0.mk (Kd.V_elder' z9_2 (Kd.R_base ho43) hb); replace HO_7 := Aside0.mk (Kd.N_elder' z9_5 (Kd.R_base ho43) hb); have HO286 := Aside0.mk (Kd.R_lower (Kd.R_new' (Kd.R_new' (Kd.R_newM (M := fun k_ => (w.heap.size ≤ k_)) ho43 (below_size z9_0) (fun k_ h_ => h_)) (Kd.R_lt z9_1)) (Kd.R_lt z9_6)) (below_size z9_0)); replace HO_6 := Aside0.mk (Kd.R_elder' z9_1 (Kd.R_base ho43) hb); replace HO283 := Aside0.mk (Kd.R_elder' z9_6 (Kd.R_base ho43) hb); replace HB := Aside0.mk (below_step z9_0 hb); clear hb ho43))
        go_ret2
        exact ⟨_, z9_8, by (with_reducible repeat (first | apply Kd.R_alloc | apply Kd.R_drewN | apply Kd.R_drew)); exact Kd.R_mono HO286.out (fun _ hk => hk.1.1.1), z9_0⟩

end Go.Proofs.Ytbhmgbeebhmfkaa.PA
