-- Written by a program of this session (after the manner of the kit's print, several laws in one text).
import Derived.Test.YtamaejafddmagaaPAx0
import Derived.Test.YtamaejafddmagaaPAx7
import Derived.Test.YtamaejafddmagaaGw
import Derived.Test.YtamaejafddmagaaGm
import Derived.Test.YtamaejafddmagaaGc
namespace Go.Proofs.Ytamaejafddmagaa.PA
open Go.RowKit Go.Proofs.YtamaejafddmagaaW.PrintWords Go.Proofs.YtamaejafddmagaaW.PrintLast Go.Proofs.YtamaejafddmagaaW.PrintMore
attribute [local go_sem] max2_int min2_int max_two min_two max_three min_three max_four min_four   -- for this text's walks alone
set_option linter.unusedVariables false
set_option linter.unusedSimpArgs false

/-! ### spec_l91Vec: function 80 -/
theorem z8_0 {p : Prop} (h : p := by repeat (first | (with_reducible first | exact HK.out | apply KeepBut.set_ | apply keep_drewN | apply keep_drew | apply keep_alloc) | exact HK.out)) : p := h
theorem z8_1 {p : Prop} (h : p := by repeat (first | (with_reducible first | exact HB.out | apply below_alloc | apply pw_below_drewN | apply below_drew1 | refine below_set ?_ (IsS99.ge HI0.out)) | exact HB.out)) : p := h
theorem z8_2 {p : Prop} (h : p := by (with_reducible repeat (first | apply Kd.R_alloc | apply Kd.R_drewN | apply Kd.R_drew)); exact HO_3.out) : p := h
theorem z8_3 {p : Prop} (h : p := by repeat (first | (with_reducible first | exact HI0.out | apply IsS99.alloc | apply IsS99.drewN | apply IsS99.drew | apply IsS99.set_1) | exact HI0.out)) : p := h
theorem z8_4 {p : Prop} (h : p := by (try simp only [List.map_toArray, List.map_cons, List.map_nil]); first | done | rfl | (simp only [List.length_drop, List.length_take]; rfl)) : p := h
theorem z8_5 {p : Prop} (h : p := by first | (with_reducible assumption) | assumption) : p := h
theorem z8_6 {p : Prop} (h : p := by (with_reducible repeat (first | apply Kd.R_alloc | apply Kd.R_drewN | apply Kd.R_drew)); exact HO299.out) : p := h
theorem z8_7 {p : Prop} (h : p := by first | rfl | (simp [errW_none, errW_some] <;> rfl) | (simp [*, errW_none, errW_some] <;> rfl)) : p := h
def spec_l91Vec.l0 : Nat → List Int → Int → List Int → Int → Option (List Int × Int)
  | 0, _, _, _, _ => none
  | k + 1, x3, x4, x1000, x1001 => if x4 < 4 then ((spec_l6Rd_pick.f k x1000 x1001 4).bind fun bt291 => ((spec_l6Rd_pick.f k x1000 bt291.2 31).bind fun bt293 => ((spec_l6Rd_pick.f k x1000 bt293.2 31).bind fun bt295 => ((some (([0, bt291.1, bt293.1, bt295.1] : List Int) : List Int)).bind fun y297 => ((spec_l6Rd_pick.f k x1000 bt295.2 4).bind fun bt300 => (if 0 ≤ bt300.1 then (if bt300.1 < (y297.length : Int) then (if x3.length < 17592186044416 then (spec_l91Vec.l0 k (x3 ++ [rd y297 bt300.1]) (wrap64 (x4 + 1)) x1000 bt300.2) else (none)) else (none)) else (none))))))) else ((spec_l6Rd_pick.f k x1000 x1001 40).bind fun bt306 => (if bt306.1 = 0 then (if 1 ≤ (x3.length : Int) then (some ((x3.drop (1 : Int).toNat), bt306.2)) else (none)) else (if bt306.1 = 1 then ((spec_l6Rd_pick.f k x1000 bt306.2 (x3.length : Int)).bind fun bt311 => ((some (([(-1), 31] : List Int) : List Int)).bind fun y313 => ((spec_l6Rd_pick.f k x1000 bt311.2 2).bind fun bt316 => (if 0 ≤ bt316.1 then (if bt316.1 < (y313.length : Int) then (if 0 ≤ bt311.1 then (if bt311.1 < (x3.length : Int) then (some ((x3.set (bt311.1 : Int).toNat (rd y313 bt316.1)), bt316.2)) else (none)) else (none)) else (none)) else (none))))) else (some (x3, bt306.2)))))
def spec_l91Vec.f (k : Nat) (s0_0 : List Int) (s0_1 : Int) : Option (List Int × Int) := spec_l91Vec.l0 k (([] : List Int)) 0 s0_0 s0_1
set_option maxHeartbeats 8000000 in
set_option maxRecDepth 100000 in
theorem spec_l91Vec.calls (k : Nat) (g : Nat) (s0_0 : List Int) (s0_1 : Int) (r1 : List Int) (r2 : Int) (w0 w : World) (hI : IsS99 w0 w g s0_0 s0_1) (hB : Below w0.heap.size w0 w) (h : spec_l91Vec.f k s0_0 s0_1 = some (r1, r2)) :
  Calls Try.prog 80 #[.pointer (some ⟨g, 0, none⟩)] w fun e w' => ∃ v0_ : Value, e = .returned (v0_) ∧ Kd.Q (Kd.int .i64) 3 w' w.heap.size (fun _ => True) v0_ r1 ∧ IsS99 w0 w' g s0_0 r2 ∧ Below w0.heap.size w0 w' ∧ KeepBut w w' g none := by
 have HI0 := Aside0.mk hI
 have HK := Aside0.mk (KeepBut.refl w g none)
 have HL := Aside0.mk hB.size
 clear hI
 have HW0 := Aside0.mk hB.size
 have HB := Aside0.mk hB
 clear hB
 have H : (spec_l91Vec.l0 k (([] : List Int)) 0 s0_0 s0_1) = some (r1, r2) := h
 clear h
 obtain ⟨y288, hy288⟩ : ∃ y_ : List Int, y_ = (([] : List Int)) := ⟨_, rfl⟩
 replace H : (spec_l91Vec.l0 k y288 0 s0_0 s0_1) = some (r1, r2) := by first | (rw [hy288]; with_reducible exact H) | (have H2_ := (Option.bind_some _ _).symm.trans H; rw [hy288]; with_reducible exact H2_) | (have H2_ := (Option.bind_some _ _).symm.trans H; with_reducible exact H2_) | with_reducible exact H | (rw [hy288]; exact H) | exact H
 have Ny288 := Aside0.mk hy288
 clear hy288
 have H' := Aside0.mk H
 clear H
 go_enter Try.func80, Try.ntmps80
 go_wp2_with (first | ((with_reducible refine gate_dst (N := 5) rfl ?_); refine Kd.R_lit (Kd.int .i64) _ 3 ?hg (N := 5) ?hd (xs := ([] : List Int)) (inner := []) (ok := fun _ => True) (okp := fun _ => True) ?hr ?hp (fun _ hk => hk) trivial (Below.refl _ _) (Nat.le_refl _) (by simp) ?_; (case hd => rfl); (case hg => rfl); (case hr => first | (go_simp; done) | (go_simp; rfl)); (case hp => exact (Reps.none _ _)); intro v289 w2 ho3 hb hg_ hnew_; clear hg_ hnew_; (first | rw [← Ny288.out] at ho3 | (simp only [Int.reduceToNat] at ho3; rw [← Ny288.out] at ho3)); have HO290 := Aside0.mk (Kd.R_lower ho3 (keep_size (w := w) (g := g) (row := none) z8_0)); replace HK := Aside0.mk (KeepBut.trans z8_0 (KeepBut.of_below hb g none) (.inl rfl)); replace HB := Aside0.mk (below_step z8_1 hb); replace HI0 := Aside0.mk (IsS99.below z8_3 hb); clear hb ho3))
 go_loopg [3, 4] k (fun kq v3 v4 w' => ∃ (x3_1 : List Int) (x4_1 : Int) (x1001_1 : Int), v4 = .int .i64 x4_1 ∧ Aside0 (spec_l91Vec.l0 kq x3_1 x4_1 s0_0 x1001_1 = some (r1, r2)) ∧ Aside0 (kq ≤ k) ∧ Aside0 (Kd.R (Kd.int .i64) 3 w' w.heap.size (fun _ => True) v3 x3_1) ∧ Aside0 (IsS99 w0 w' g s0_0 x1001_1) ∧ Aside0 (KeepBut w w' g none) ∧ Aside0 (Below w0.heap.size w0 w'))
 case atStart => exact ⟨(y288), (0), (s0_1), (by first | rfl | (simp; done) | (simp [*]; done)), H', ⟨Nat.le_refl _⟩, ⟨by (with_reducible repeat (first | apply Kd.R_alloc | apply Kd.R_drewN | apply Kd.R_drew)); exact HO290.out⟩, ⟨z8_3⟩, ⟨z8_0⟩, ⟨z8_1⟩⟩
 case round =>
  clear H'
  obtain ⟨x3_1, x4_1, x1001_1, rfl, HA, HK1, HO_3, HI0, HK, HB⟩ := hrel
  cases gk with
  | zero => exact absurd HA.out (by simp [spec_l91Vec.l0])
  | succ k1 =>
   have H := HA.out
   clear HA
   simp only [spec_l91Vec.l0] at H
   by_cases c4 : x4_1 < 4
   ·rw [if_pos c4] at H
    have c4b0 : decide (x4_1 < 4) = true := decide_eq_true c4
    clear c4
    replace H := Option.bind_eq_some_iff.mp H
    obtain ⟨⟨t291, t292⟩, A50, H⟩ := H
    replace H : ((spec_l6Rd_pick.f k1 s0_0 t292 31).bind fun bt293 => ((spec_l6Rd_pick.f k1 s0_0 bt293.2 31).bind fun bt295 => ((some (([0, t291, bt293.1, bt295.1] : List Int) : List Int)).bind fun y297 => ((spec_l6Rd_pick.f k1 s0_0 bt295.2 4).bind fun bt300 => (if 0 ≤ bt300.1 then (if bt300.1 < (y297.length : Int) then (if x3_1.length < 17592186044416 then (spec_l91Vec.l0 k1 (x3_1 ++ [rd y297 bt300.1]) (wrap64 (x4_1 + 1)) s0_0 bt300.2) else (none)) else (none)) else (none)))))) = some (r1, r2) := H
    have A5 := Aside0.mk A50
    clear A50
    replace H := Option.bind_eq_some_iff.mp H
    obtain ⟨⟨t293, t294⟩, A60, H⟩ := H
    replace H : ((spec_l6Rd_pick.f k1 s0_0 t294 31).bind fun bt295 => ((some (([0, t291, t293, bt295.1] : List Int) : List Int)).bind fun y297 => ((spec_l6Rd_pick.f k1 s0_0 bt295.2 4).bind fun bt300 => (if 0 ≤ bt300.1 then (if bt300.1 < (y297.length : Int) then (if x3_1.length < 17592186044416 then (spec_l91Vec.l0 k1 (x3_1 ++ [rd y297 bt300.1]) (wrap64 (x4_1 + 1)) s0_0 bt300.2) else (none)) else (none)) else (none))))) = some (r1, r2) := H
    have A6 := Aside0.mk A60
    clear A60
    replace H := Option.bind_eq_some_iff.mp H
    obtain ⟨⟨t295, t296⟩, A70, H⟩ := H
    replace H : ((some (([0, t291, t293, t295] : List Int) : List Int)).bind fun y297 => ((spec_l6Rd_pick.f k1 s0_0 t296 4).bind fun bt300 => (if 0 ≤ bt300.1 then (if bt300.1 < (y297.length : Int) then (if x3_1.length < 17592186044416 then (spec_l91Vec.l0 k1 (x3_1 ++ [rd y297 bt300.1]) (wrap64 (x4_1 + 1)) s0_0 bt300.2) else (none)) else (none)) else (none)))) = some (r1, r2) := H
    have A7 := Aside0.mk A70
    clear A70
    obtain ⟨y297, hy297⟩ : ∃ y_ : List Int, y_ = (([0, t291, t293, t295] : List Int)) := ⟨_, rfl⟩
    replace H : ((spec_l6Rd_pick.f k1 s0_0 t296 4).bind fun bt300 => (if 0 ≤ bt300.1 then (if bt300.1 < (y297.length : Int) then (if x3_1.length < 17592186044416 then (spec_l91Vec.l0 k1 (x3_1 ++ [rd y297 bt300.1]) (wrap64 (x4_1 + 1)) s0_0 bt300.2) else (none)) else (none)) else (none))) = some (r1, r2) := by first | (rw [hy297]; with_reducible exact H) | (have H2_ := (Option.bind_some _ _).symm.trans H; rw [hy297]; with_reducible exact H2_) | (have H2_ := (Option.bind_some _ _).symm.trans H; with_reducible exact H2_) | with_reducible exact H | (rw [hy297]; exact H) | exact H
    have Ny297 := Aside0.mk hy297
    clear hy297
    replace H := Option.bind_eq_some_iff.mp H
    obtain ⟨⟨t300, t301⟩, A80, H⟩ := H
    replace H : (if 0 ≤ t300 then (if t300 < (y297.length : Int) then (if x3_1.length < 17592186044416 then (spec_l91Vec.l0 k1 (x3_1 ++ [rd y297 t300]) (wrap64 (x4_1 + 1)) s0_0 t301) else (none)) else (none)) else (none)) = some (r1, r2) := H
    have A8 := Aside0.mk A80
    clear A80
    obtain ⟨c9, H⟩ := ifP H
    have c9b0 : decide (0 ≤ t300) = true := decide_eq_true c9
    clear c9
    obtain ⟨c10, H⟩ := ifP H
    have c10b0 : decide (t300 < (y297.length : Int)) = true := decide_eq_true c10
    clear c10
    obtain ⟨c11, H⟩ := ifP H
    have LMc11 := Aside0.mk c11
    clear c11
    obtain ⟨y303, hy303⟩ : ∃ y_ : List Int, y_ = (x3_1 ++ [rd y297 t300]) := ⟨_, rfl⟩
    replace H : (spec_l91Vec.l0 k1 y303 (wrap64 (x4_1 + 1)) s0_0 t301) = some (r1, r2) := by first | (rw [hy303]; with_reducible exact H) | (have H2_ := (Option.bind_some _ _).symm.trans H; rw [hy303]; with_reducible exact H2_) | (have H2_ := (Option.bind_some _ _).symm.trans H; with_reducible exact H2_) | with_reducible exact H | (rw [hy303]; exact H) | exact H
    have Ny303 := Aside0.mk hy303
    clear hy303
    have H' := Aside0.mk H
    clear H
    go_wp2_with (first | ((with_reducible refine gate_callee (f := 78) rfl ?_); refine goesL_ (some 12) rfl rfl Try.func78 (by kernel_rfl) rfl #[.pointer (some ⟨g, 0, none⟩), .int .i64 4] rfl z8_4 ?_; (with_reducible refine (spec_l6Rd_pick.calls k1 g s0_0 x1001_1 4 t291 t292 w0 _ ?side1 ?side2 A5.out).mono ?_); (case side1 => repeat (first | (with_reducible first | exact HI0.out | apply IsS99.alloc | apply IsS99.drewN | apply IsS99.drew | apply IsS99.set_1) | exact HI0.out)); (case side2 => repeat (first | (with_reducible first | exact HB.out | apply below_alloc | apply pw_below_drewN | apply below_drew1 | refine below_set ?_ (IsS99.ge HI0.out)) | exact HB.out)); rintro e w12 ⟨rfl, hi, hb, hk⟩; refine ⟨_, rfl, ?_⟩; replace HO_3 := Aside0.mk (Kd.R_mono (Kd.R_keep (IsS99.apart (show IsS99 w0 _ g s0_0 x1001_1 from by repeat (first | (with_reducible first | exact HI0.out | apply IsS99.alloc | apply IsS99.drewN | apply IsS99.drew | apply IsS99.set_1) | exact HI0.out)) z8_2 (by decide)) hk (fun _ h => h.2)) (fun _ h => h.1)); replace HK := Aside0.mk (KeepBut.trans z8_0 hk (.inl rfl)); replace HB := Aside0.mk (hb); replace HI0 := Aside0.mk (hi); (try clear hb)) | ((with_reducible refine gate_callee (f := 78) rfl ?_); refine goesL_ (some 14) rfl rfl Try.func78 (by kernel_rfl) rfl #[.pointer (some ⟨g, 0, none⟩), .int .i64 31] rfl z8_4 ?_; (with_reducible refine (spec_l6Rd_pick.calls k1 g s0_0 t292 31 t293 t294 w0 _ ?side1 ?side2 A6.out).mono ?_); (case side1 => repeat (first | (with_reducible first | exact HI0.out | apply IsS99.alloc | apply IsS99.drewN | apply IsS99.drew | apply IsS99.set_1) | exact HI0.out)); (case side2 => repeat (first | (with_reducible first | exact HB.out | apply below_alloc | apply pw_below_drewN | apply below_drew1 | refine below_set ?_ (IsS99.ge HI0.out)) | exact HB.out)); rintro e w13 ⟨rfl, hi, hb, hk⟩; refine ⟨_, rfl, ?_⟩; replace HO_3 := Aside0.mk (Kd.R_mono (Kd.R_keep (IsS99.apart (show IsS99 w0 _ g s0_0 t292 from by repeat (first | (with_reducible first | exact HI0.out | apply IsS99.alloc | apply IsS99.drewN | apply IsS99.drew | apply IsS99.set_1) | exact HI0.out)) z8_2 (by decide)) hk (fun _ h => h.2)) (fun _ h => h.1)); replace HK := Aside0.mk (KeepBut.trans z8_0 hk (.inl rfl)); replace HB := Aside0.mk (hb); replace HI0 := Aside0.mk (hi); (try clear hb)) | ((with_reducible refine gate_callee (f := 78) rfl ?_); refine goesL_ (some 16) rfl rfl Try.func78 (by kernel_rfl) rfl #[.pointer (some ⟨g, 0, none⟩), .int .i64 31] rfl z8_4 ?_; (with_reducible refine (spec_l6Rd_pick.calls k1 g s0_0 t294 31 t295 t296 w0 _ ?side1 ?side2 A7.out).mono ?_); (case side1 => repeat (first | (with_reducible first | exact HI0.out | apply IsS99.alloc | apply IsS99.drewN | apply IsS99.drew | apply IsS99.set_1) | exact HI0.out)); (case side2 => repeat (first | (with_reducible first | exact HB.out | apply below_alloc | apply pw_below_drewN | apply below_drew1 | refine below_set ?_ (IsS99.ge HI0.out)) | exact HB.out)); rintro e w14 ⟨rfl, hi, hb, hk⟩; refine ⟨_, rfl, ?_⟩; replace HO_3 := Aside0.mk (Kd.R_mono (Kd.R_keep (IsS99.apart (show IsS99 w0 _ g s0_0 t294 from by repeat (first | (with_reducible first | exact HI0.out | apply IsS99.alloc | apply IsS99.drewN | apply IsS99.drew | apply IsS99.set_1) | exact HI0.out)) z8_2 (by decide)) hk (fun _ h => h.2)) (fun _ h => h.1)); replace HK := Aside0.mk (KeepBut.trans z8_0 hk (.inl rfl)); replace HB := Aside0.mk (hb); replace HI0 := Aside0.mk (hi); (try clear hb)) | ((with_reducible refine gate_dst (N := 17) rfl ?_); refine Kd.R_lit (Kd.int .i64) _ 3 ?hg (N := 17) ?hd (xs := ([0, t291, t293, t295] : List Int)) (inner := [.int .i64 0, .int .i64 t291, .int .i64 t293, .int .i64 t295]) (ok := fun _ => True) (okp := fun _ => True) ?hr ?hp (fun _ hk => hk) trivial (Below.refl _ _) (Nat.le_refl _) (by simp) ?_; (case hd => rfl); (case hg => rfl); (case hr => first | (go_simp; done) | (go_simp; rfl)); (case hp => exact (Reps.one (show Kd.M (Kd.int .i64) _ _ _ 0 [.int .i64 0] from rfl) (Reps.one (show Kd.M (Kd.int .i64) _ _ _ t291 [.int .i64 t291] from rfl) (Reps.one (show Kd.M (Kd.int .i64) _ _ _ t293 [.int .i64 t293] from rfl) (Reps.one (show Kd.M (Kd.int .i64) _ _ _ t295 [.int .i64 t295] from rfl) (Reps.none _ _)))))); intro v298 w15 ho16 hb hg_ hnew_; clear hg_ hnew_; (first | rw [← Ny297.out] at ho16 | (simp only [Int.reduceToNat] at ho16; rw [← Ny297.out] at ho16)); have HO299 := Aside0.mk (Kd.R_lower (Kd.R_new' ho16 (Kd.R_lt z8_2)) (keep_size (w := w) (g := g) (row := none) z8_0)); replace HO_3 := Aside0.mk (Kd.R_elder' z8_2 (Kd.R_base ho16) hb); replace HK := Aside0.mk (KeepBut.trans z8_0 (KeepBut.of_below hb g none) (.inl rfl)); replace HB := Aside0.mk (below_step z8_1 hb); replace HI0 := Aside0.mk (IsS99.below z8_3 hb); clear hb ho16) | ((with_reducible refine gate_callee (f := 78) rfl ?_); refine goesL_ (some 19) rfl rfl Try.func78 (by kernel_rfl) rfl #[.pointer (some ⟨g, 0, none⟩), .int .i64 4] rfl z8_4 ?_; (with_reducible refine (spec_l6Rd_pick.calls k1 g s0_0 t296 4 t300 t301 w0 _ ?side1 ?side2 A8.out).mono ?_); (case side1 => repeat (first | (with_reducible first | exact HI0.out | apply IsS99.alloc | apply IsS99.drewN | apply IsS99.drew | apply IsS99.set_1) | exact HI0.out)); (case side2 => repeat (first | (with_reducible first | exact HB.out | apply below_alloc | apply pw_below_drewN | apply below_drew1 | refine below_set ?_ (IsS99.ge HI0.out)) | exact HB.out)); rintro e w17 ⟨rfl, hi, hb, hk⟩; refine ⟨_, rfl, ?_⟩; replace HO_3 := Aside0.mk (Kd.R_mono (Kd.R_keep (IsS99.apart (show IsS99 w0 _ g s0_0 t296 from by repeat (first | (with_reducible first | exact HI0.out | apply IsS99.alloc | apply IsS99.drewN | apply IsS99.drew | apply IsS99.set_1) | exact HI0.out)) z8_2 (by decide)) hk (fun _ h => h.2)) (fun _ h => h.1)); replace HO299 := Aside0.mk (Kd.R_mono (Kd.R_keep (IsS99.apart (show IsS99 w0 _ g s0_0 t296 from by repeat (first | (with_reducible first | exact HI0.out | apply IsS99.alloc | apply IsS99.drewN | apply IsS99.drew | apply IsS99.set_1) | exact HI0.out)) z8_6 (by decide)) hk (fun _ h => h.2)) (fun _ h => h.1)); replace HK := Aside0.mk (KeepBut.trans z8_0 hk (.inl rfl)); replace HB := Aside0.mk (hb); replace HI0 := Aside0.mk (hi); (try clear hb); obtain ⟨Ao18, co18, eo18⟩ := Kd.R_slice HO299.out; subst eo18; have p302 : 0 ≤ (t300 : Int) := of_decide_eq_true z8_5; have q302 : t300 < (y297.length : Int) := of_decide_eq_true z8_5; obtain ⟨ad302, e302, hx302_0⟩ := Kd.at_int (Kd.R_reads' HO299.out).2.2 t300 p302 q302; cases e302; replace p302 := eq_true p302; replace q302 := eq_true q302) | ((with_reducible refine gate_builtin (b := .append) (xs := #[.tmp 10, .tmp 22]) rfl ?_); at_builtin; refine Kd.R_append (Kd.int .i64) w.heap.size rfl (.tmp 10) (.tmp 22) 28 3 (.int .i64 0) 8 rfl Try.underlying28 info3 rfl (by decide) (by omega) u3 x3_1 (rd y297 t300) [.int .i64 (rd y297 t300)] (fun k_ => some k_ ≠ (.slice (some ad302) y297.length co18 : Value).ownBlock) (fun _ => False) rfl rfl ?aP (fun _ hk => hk.elim) ?aF ?aO (Below.refl _ _) ?aS ?aL ?_; (case aP => exact rfl); (case aF => exact (fun k_ hk => Kd.fresh' (Kd.R_lt z8_6) k_ hk)); (case aO => exact (by (with_reducible repeat (first | apply Kd.R_alloc | apply Kd.R_drewN | apply Kd.R_drew)); exact Kd.R_mono HO_3.out (fun _ hk => hk.2))); (case aS => exact (keep_size (w := w) (g := g) (row := none) z8_0)); (case aL => have := LMc11.out; omega); intro v304 w19 ho hb hg hat; rw [← Ny303.out] at ho; have n0_ := Aside0.mk (IsS99.grown z8_3 hg (IsS99.own_ne HI0.out HO_3.out (by decide))); have n1_ := Aside0.mk (Kd.R_after (ok := (fun _ => True)) z8_6 hg hat); have n2_ := Aside0.mk (below_weaken z8_1 HL.out hb); have n3_ := Aside0.mk (KeepBut.trans z8_0 (KeepBut.of_grown hg g) (Kd.R_base2 HO_3.out)); have n4_ := Aside0.mk (ho); clear HI0; clear HO299; clear HB; clear HK; clear HO_3; have HI0 := n0_; have HO299 := n1_; have HB := n2_; have HK := n3_; have HO305 := n4_; clear n0_ n1_ n2_ n3_ n4_; clear ho hb hg hat))
    go_roundg k1
    case measure => have := HK1.out; omega
    case rel => exact ⟨(y303), (wrap64 (x4_1 + 1)), (t301), (by first | rfl | (simp; done) | (simp [*]; done)), H', ⟨by have := HK1.out; omega⟩, ⟨by (with_reducible repeat (first | apply Kd.R_alloc | apply Kd.R_drewN | apply Kd.R_drew)); exact Kd.R_mono HO305.out (fun _ hk => trivial)⟩, ⟨z8_3⟩, ⟨z8_0⟩, ⟨z8_1⟩⟩
   ·rw [if_neg c4] at H
    have c4b0 : decide (x4_1 < 4) = false := decide_eq_false c4
    clear c4
    replace H := Option.bind_eq_some_iff.mp H
    obtain ⟨⟨t306, t307⟩, A200, H⟩ := H
    replace H : (if t306 = 0 then (if 1 ≤ (x3_1.length : Int) then (some ((x3_1.drop (1 : Int).toNat), t307)) else (none)) else (if t306 = 1 then ((spec_l6Rd_pick.f k1 s0_0 t307 (x3_1.length : Int)).bind fun bt311 => ((some (([(-1), 31] : List Int) : List Int)).bind fun y313 => ((spec_l6Rd_pick.f k1 s0_0 bt311.2 2).bind fun bt316 => (if 0 ≤ bt316.1 then (if bt316.1 < (y313.length : Int) then (if 0 ≤ bt311.1 then (if bt311.1 < (x3_1.length : Int) then (some ((x3_1.set (bt311.1 : Int).toNat (rd y313 bt316.1)), bt316.2)) else (none)) else (none)) else (none)) else (none))))) else (some (x3_1, t307)))) = some (r1, r2) := H
    have A20 := Aside0.mk A200
    clear A200
    by_cases c21 : t306 = 0
    ·rw [if_pos c21] at H
     have c21b0 : (t306 == 0) = true := beq_iff_eq.mpr c21
     have c21b1 : (t306 != 0) = false := bne_eq_false_iff_eq.mpr c21
     clear c21
     obtain ⟨c22, H⟩ := ifP H
     have c22b0 := eq_true c22
     have c22b1 : decide (1 ≤ (x3_1.length : Int)) = true := decide_eq_true c22
     clear c22
     obtain ⟨y308, hy308⟩ : ∃ y_ : List Int, y_ = (x3_1.drop (1 : Int).toNat) := ⟨_, rfl⟩
     replace H : (some (y308, t307)) = some (r1, r2) := by first | (rw [hy308]; with_reducible exact H) | (have H2_ := (Option.bind_some _ _).symm.trans H; rw [hy308]; with_reducible exact H2_) | (have H2_ := (Option.bind_some _ _).symm.trans H; with_reducible exact H2_) | with_reducible exact H | (rw [hy308]; exact H) | exact H
     have Ny308 := Aside0.mk hy308
     clear hy308
     simp only [Option.some.injEq, Prod.mk.injEq] at H
     obtain ⟨rfl, rfl⟩ := H
     go_wp2_with (first | ((with_reducible refine gate_callee (f := 78) rfl ?_); refine goesL_ (some 25) rfl rfl Try.func78 (by kernel_rfl) rfl #[.pointer (some ⟨g, 0, none⟩), .int .i64 40] rfl z8_4 ?_; (with_reducible refine (spec_l6Rd_pick.calls k1 g s0_0 x1001_1 40 t306 t307 w0 _ ?side1 ?side2 A20.out).mono ?_); (case side1 => repeat (first | (with_reducible first | exact HI0.out | apply IsS99.alloc | apply IsS99.drewN | apply IsS99.drew | apply IsS99.set_1) | exact HI0.out)); (case side2 => repeat (first | (with_reducible first | exact HB.out | apply below_alloc | apply pw_below_drewN | apply below_drew1 | refine below_set ?_ (IsS99.ge HI0.out)) | exact HB.out)); rintro e w23 ⟨rfl, hi, hb, hk⟩; refine ⟨_, rfl, ?_⟩; replace HO_3 := Aside0.mk (Kd.R_mono (Kd.R_keep (IsS99.apart (show IsS99 w0 _ g s0_0 x1001_1 from by repeat (first | (with_reducible first | exact HI0.out | apply IsS99.alloc | apply IsS99.drewN | apply IsS99.drew | apply IsS99.set_1) | exact HI0.out)) z8_2 (by decide)) hk (fun _ h => h.2)) (fun _ h => h.1)); replace HK := Aside0.mk (KeepBut.trans z8_0 hk (.inl rfl)); replace HB := Aside0.mk (hb); replace HI0 := Aside0.mk (hi); (try clear hb); obtain ⟨Ao24, co24, eo24⟩ := Kd.R_slice HO_3.out; subst eo24; have q25 : (1 : Int) ≤ ((x3_1.length : Int) : Int) := of_decide_eq_true z8_5; obtain ⟨i025, hi025, _, hsz25, _⟩ := info_parts info3; have hcut25 := cut_from (P := Try.prog) 28 3 .i64 Try.underlying28 hi025 1 hsz25 Ao24 x3_1.length co24 1 (by omega) q25; have hr25 := Kd.Q_drop (k := (1 : Int).toNat) (Kd.Q_of_R HO_3.out) (by omega); obtain ⟨A25, hA25⟩ : ∃ A1, A1 = (if co24 = (1 : Int).toNat then Ao24 else (Ao24 : Option Addr).map (·.add ((1 : Int).toNat * 1))) := ⟨_, rfl⟩; obtain ⟨c25, hc25⟩ : ∃ c1, c1 = co24 - (1 : Int).toNat := ⟨_, rfl⟩; have hy25 : y308.length = x3_1.length - (1 : Int).toNat := (by rw [Ny308.out, List.length_drop]); rw [← Ny308.out] at hr25; rw [← hy25, ← hA25, ← hc25] at hcut25; replace hr25 : Kd.Q (Kd.int .i64) 3 w23 w.heap.size (fun _ => True) (.slice A25 y308.length c25) y308 := (by rw [hA25, hc25, hy25]; exact hr25); have HE25 : Aside0 ((Value.slice A25 y308.length c25).ownBlock = (.slice Ao24 x3_1.length co24 : Value).ownBlock) := ⟨by rw [hA25]; split <;> (cases (Ao24 : Option Addr) <;> rfl)⟩; clear hy25 hi025 hsz25 HO_3 hA25 hc25; have HO310 := Aside0.mk hr25; clear hr25; replace q25 := eq_true q25))
     go_ret
     exact ⟨_, z8_7, by (with_reducible repeat (first | apply Kd.Q_alloc | apply Kd.Q_drewN | apply Kd.Q_drew)); exact HO310.out, z8_3, z8_1, z8_0⟩
    ·rw [if_neg c21] at H
     have c21b0 : (t306 == 0) = false := beq_eq_false_iff_ne.mpr c21
     have c21b1 : (t306 != 0) = true := bne_iff_ne.mpr c21
     by_cases c26 : t306 = 1
     ·rw [if_pos c26] at H
      have c26b0 : (t306 == 1) = true := beq_iff_eq.mpr c26
      have c26b1 : (t306 != 1) = false := bne_eq_false_iff_eq.mpr c26
      clear c26
      replace H := Option.bind_eq_some_iff.mp H
      obtain ⟨⟨t311, t312⟩, A270, H⟩ := H
      replace H : ((some (([(-1), 31] : List Int) : List Int)).bind fun y313 => ((spec_l6Rd_pick.f k1 s0_0 t312 2).bind fun bt316 => (if 0 ≤ bt316.1 then (if bt316.1 < (y313.length : Int) then (if 0 ≤ t311 then (if t311 < (x3_1.length : Int) then (some ((x3_1.set (t311 : Int).toNat (rd y313 bt316.1)), bt316.2)) else (none)) else (none)) else (none)) else (none)))) = some (r1, r2) := H
      have A27 := Aside0.mk A270
      clear A270
      obtain ⟨y313, hy313⟩ : ∃ y_ : List Int, y_ = (([(-1), 31] : List Int)) := ⟨_, rfl⟩
      replace H : ((spec_l6Rd_pick.f k1 s0_0 t312 2).bind fun bt316 => (if 0 ≤ bt316.1 then (if bt316.1 < (y313.length : Int) then (if 0 ≤ t311 then (if t311 < (x3_1.length : Int) then (some ((x3_1.set (t311 : Int).toNat (rd y313 bt316.1)), bt316.2)) else (none)) else (none)) else (none)) else (none))) = some (r1, r2) := by first | (rw [hy313]; with_reducible exact H) | (have H2_ := (Option.bind_some _ _).symm.trans H; rw [hy313]; with_reducible exact H2_) | (have H2_ := (Option.bind_some _ _).symm.trans H; with_reducible exact H2_) | with_reducible exact H | (rw [hy313]; exact H) | exact H
      have Ny313 := Aside0.mk hy313
      clear hy313
      replace H := Option.bind_eq_some_iff.mp H
      obtain ⟨⟨t316, t317⟩, A280, H⟩ := H
      replace H : (if 0 ≤ t316 then (if t316 < (y313.length : Int) then (if 0 ≤ t311 then (if t311 < (x3_1.length : Int) then (some ((x3_1.set (t311 : Int).toNat (rd y313 t316)), t317)) else (none)) else (none)) else (none)) else (none)) = some (r1, r2) := H
      have A28 := Aside0.mk A280
      clear A280
      obtain ⟨c29, H⟩ := ifP H
      have c29b0 : decide (0 ≤ t316) = true := decide_eq_true c29
      clear c29
      obtain ⟨c30, H⟩ := ifP H
      have c30b0 : decide (t316 < (y313.length : Int)) = true := decide_eq_true c30
      clear c30
      obtain ⟨c31, H⟩ := ifP H
      have c31b0 : decide (0 ≤ t311) = true := decide_eq_true c31
      clear c31
      obtain ⟨c32, H⟩ := ifP H
      have c32b0 : decide (t311 < (x3_1.length : Int)) = true := decide_eq_true c32
      clear c32
      obtain ⟨y319, hy319⟩ : ∃ y_ : List Int, y_ = (x3_1.set (t311 : Int).toNat (rd y313 t316)) := ⟨_, rfl⟩
      replace H : (some (y319, t317)) = some (r1, r2) := by first | (rw [hy319]; with_reducible exact H) | (have H2_ := (Option.bind_some _ _).symm.trans H; rw [hy319]; with_reducible exact H2_) | (have H2_ := (Option.bind_some _ _).symm.trans H; with_reducible exact H2_) | with_reducible exact H | (rw [hy319]; exact H) | exact H
      have Ny319 := Aside0.mk hy319
      clear hy319
      simp only [Option.some.injEq, Prod.mk.injEq] at H
      obtain ⟨rfl, rfl⟩ := H
      go_wp2_with (first | ((with_reducible refine gate_callee (f := 78) rfl ?_); refine goesL_ (some 25) rfl rfl Try.func78 (by kernel_rfl) rfl #[.pointer (some ⟨g, 0, none⟩), .int .i64 40] rfl z8_4 ?_; (with_reducible refine (spec_l6Rd_pick.calls k1 g s0_0 x1001_1 40 t306 t307 w0 _ ?side1 ?side2 A20.out).mono ?_); (case side1 => repeat (first | (with_reducible first | exact HI0.out | apply IsS99.alloc | apply IsS99.drewN | apply IsS99.drew | apply IsS99.set_1) | exact HI0.out)); (case side2 => repeat (first | (with_reducible first | exact HB.out | apply below_alloc | apply pw_below_drewN | apply below_drew1 | refine below_set ?_ (IsS99.ge HI0.out)) | exact HB.out)); rintro e w34 ⟨rfl, hi, hb, hk⟩; refine ⟨_, rfl, ?_⟩; replace HO_3 := Aside0.mk (Kd.R_mono (Kd.R_keep (IsS99.apart (show IsS99 w0 _ g s0_0 x1001_1 from by repeat (first | (with_reducible first | exact HI0.out | apply IsS99.alloc | apply IsS99.drewN | apply IsS99.drew | apply IsS99.set_1) | exact HI0.out)) z8_2 (by decide)) hk (fun _ h => h.2)) (fun _ h => h.1)); replace HK := Aside0.mk (KeepBut.trans z8_0 hk (.inl rfl)); replace HB := Aside0.mk (hb); replace HI0 := Aside0.mk (hi); (try clear hb); obtain ⟨Ao35, co35, eo35⟩ := Kd.R_slice HO_3.out; subst eo35) | ((with_reducible refine gate_callee (f := 78) rfl ?_); refine goesL_ (some 36) rfl rfl Try.func78 (by kernel_rfl) rfl #[.pointer (some ⟨g, 0, none⟩), .int .i64 (x3_1.length : Int)] rfl z8_4 ?_; (with_reducible refine (spec_l6Rd_pick.calls k1 g s0_0 t307 (x3_1.length : Int) t311 t312 w0 _ ?side1 ?side2 A27.out).mono ?_); (case side1 => repeat (first | (with_reducible first | exact HI0.out | apply IsS99.alloc | apply IsS99.drewN | apply IsS99.drew | apply IsS99.set_1) | exact HI0.out)); (case side2 => repeat (first | (with_reducible first | exact HB.out | apply below_alloc | apply pw_below_drewN | apply below_drew1 | refine below_set ?_ (IsS99.ge HI0.out)) | exact HB.out)); rintro e w36 ⟨rfl, hi, hb, hk⟩; refine ⟨_, rfl, ?_⟩; replace HO_3 := Aside0.mk (Kd.R_mono (Kd.R_keep (IsS99.apart (show IsS99 w0 _ g s0_0 t307 from by repeat (first | (with_reducible first | exact HI0.out | apply IsS99.alloc | apply IsS99.drewN | apply IsS99.drew | apply IsS99.set_1) | exact HI0.out)) z8_2 (by decide)) hk (fun _ h => h.2)) (fun _ h => h.1)); replace HK := Aside0.mk (KeepBut.trans z8_0 hk (.inl rfl)); replace HB := Aside0.mk (hb); replace HI0 := Aside0.mk (hi); (try clear hb)) | ((with_reducible refine gate_dst (N := 37) rfl ?_); refine Kd.R_lit (Kd.int .i64) _ 3 ?hg (N := 37) ?hd (xs := ([(-1), 31] : List Int)) (inner := [.int .i64 (-1), .int .i64 31]) (ok := fun _ => True) (okp := fun _ => True) ?hr ?hp (fun _ hk => hk) trivial (Below.refl _ _) (Nat.le_refl _) (by simp) ?_; (case hd => rfl); (case hg => rfl); (case hr => first | (go_simp; done) | (go_simp; rfl)); (case hp => exact (Reps.one (show Kd.M (Kd.int .i64) _ _ _ (-1) [.int .i64 (-1)] from rfl) (Reps.one (show Kd.M (Kd.int .i64) _ _ _ 31 [.int .i64 31] from rfl) (Reps.none _ _)))); intro v314 w37 ho38 hb hg_ hnew_; clear hg_ hnew_; (first | rw [← Ny313.out] at ho38 | (simp only [Int.reduceToNat] at ho38; rw [← Ny313.out] at ho38)); have HO315 := Aside0.mk (Kd.R_lower (Kd.R_new' ho38 (Kd.R_lt z8_2)) (keep_size (w := w) (g := g) (row := none) z8_0)); replace HO_3 := Aside0.mk (Kd.R_elder' z8_2 (Kd.R_base ho38) hb); replace HK := Aside0.mk (KeepBut.trans z8_0 (KeepBut.of_below hb g none) (.inl rfl)); replace HB := Aside0.mk (below_step z8_1 hb); replace HI0 := Aside0.mk (IsS99.below z8_3 hb); clear hb ho38) | ((with_reducible refine gate_callee (f := 78) rfl ?_); refine goesL_ (some 39) rfl rfl Try.func78 (by kernel_rfl) rfl #[.pointer (some ⟨g, 0, none⟩), .int .i64 2] rfl z8_4 ?_; (with_reducible refine (spec_l6Rd_pick.calls k1 g s0_0 t312 2 t316 t317 w0 _ ?side1 ?side2 A28.out).mono ?_); (case side1 => repeat (first | (with_reducible first | exact HI0.out | apply IsS99.alloc | apply IsS99.drewN | apply IsS99.drew | apply IsS99.set_1) | exact HI0.out)); (case side2 => repeat (first | (with_reducible first | exact HB.out | apply below_alloc | apply pw_below_drewN | apply below_drew1 | refine below_set ?_ (IsS99.ge HI0.out)) | exact HB.out)); rintro e w39 ⟨rfl, hi, hb, hk⟩; refine ⟨_, rfl, ?_⟩; replace HO_3 := Aside0.mk (Kd.R_mono (Kd.R_keep (IsS99.apart (show IsS99 w0 _ g s0_0 t312 from by repeat (first | (with_reducible first | exact HI0.out | apply IsS99.alloc | apply IsS99.drewN | apply IsS99.drew | apply IsS99.set_1) | exact HI0.out)) z8_2 (by decide)) hk (fun _ h => h.2)) (fun _ h => h.1)); replace HO315 := Aside0.mk (Kd.R_mono (Kd.R_keep (IsS99.apart (show IsS99 w0 _ g s0_0 t312 from by repeat (first | (with_reducible first | exact HI0.out | apply IsS99.alloc | apply IsS99.drewN | apply IsS99.drew | apply IsS99.set_1) | exact HI0.out)) (by (with_reducible repeat (first | apply Kd.R_alloc | apply Kd.R_drewN | apply Kd.R_drew)); exact HO315.out) (by decide)) hk (fun _ h => h.2)) (fun _ h => h.1)); replace HK := Aside0.mk (KeepBut.trans z8_0 hk (.inl rfl)); replace HB := Aside0.mk (hb); replace HI0 := Aside0.mk (hi); (try clear hb); obtain ⟨Ao40, co40, eo40⟩ := Kd.R_slice HO315.out; subst eo40; have p318 : 0 ≤ (t316 : Int) := of_decide_eq_true z8_5; have q318 : t316 < (y313.length : Int) := of_decide_eq_true z8_5; obtain ⟨ad318, e318, hx318_0⟩ := Kd.at_int (Kd.R_reads' HO315.out).2.2 t316 p318 q318; cases e318; replace p318 := eq_true p318; replace q318 := eq_true q318; have p33 : 0 ≤ (t311 : Int) := of_decide_eq_true z8_5; have q33 : (t311 : Int) < ((x3_1.length : Int) : Int) := of_decide_eq_true z8_5; obtain ⟨go33, co33, eo33, gb33, gl33, cl33, HG33⟩ := Kd.R_form HO_3.out (by omega); (first | cases eo33 | (injection eo33 with ea_ en_ ec_; (first | subst ea_ | (injection ea_ with ea_; subst ea_)); subst ec_; clear en_)); have GB33 := Aside0.mk gb33; have GG33 := Aside0.mk HG33; clear gb33 gl33 HG33; obtain ⟨hx33_0, hf33_0⟩ := Kd.R_celln 0 HO_3.out (t311 : Int) p33 q33; replace p33 := eq_true p33; replace q33 := eq_true q33; have n_ := Aside0.mk (Kd.R_mono (ok' := (fun k_ => some k_ ≠ (.slice (some ad318) y313.length co40 : Value).ownBlock)) HO_3.out (fun k_ hk => hk.2)); clear HO_3; have HO_3 := n_; clear n_; obtain ⟨hy41_, hz41_⟩ := Kd.R_celln 0 HO_3.out (t311 : Int) (of_decide_eq_true z8_5) (of_decide_eq_true z8_5); have HP41 := Kd.R_putg HO_3.out (t311 : Int) (rd y313 t316)) | ((with_reducible refine gate_store (t := 3) (p := 42) rfl ?_); refine store_event (t := 3) (p := 42) (v := ?vo_w42) (w1 := (w39.setCell ⟨go33, (t311 : Int).toNat, none⟩ (.int .i64 (rd y313 t316)))) ?hg ?ho ?hn ?hr ?_; (case ho => rfl); (case hg => rfl); (case hn => rfl); (case hr => first | (go_simp; done) | (go_simp; rfl)); intro w42 hw; have hg : w39.grownBy w42 (some go33) := (by rw [hw]; exact HP41.2); have hp_ : Kd.R (Kd.int .i64) 3 w42 w.heap.size (fun k_ => some k_ ≠ (.slice (some ad318) y313.length co40 : Value).ownBlock) (.slice (some ⟨go33, 0, none⟩) x3_1.length co35) y319 := (by rw [hw, Ny319.out]; exact HP41.1); clear HP41; replace HI0 := Aside0.mk (IsS99.grown z8_3 hg (IsS99.own_ne HI0.out HO_3.out (by decide))); replace HO315 := Aside0.mk (Kd.R_after (v := (.slice (some ⟨go33, 0, none⟩) x3_1.length co35)) (v1 := (.slice (some ⟨go33, 0, none⟩) x3_1.length co35)) (ok := (fun _ => True)) (by (with_reducible repeat (first | apply Kd.R_alloc | apply Kd.R_drewN | apply Kd.R_drew)); exact HO315.out) hg (.inl rfl)); replace HB := Aside0.mk ((by rw [hw]; exact below_set (HB.out) (Nat.le_trans HL.out GB33.out) : Below w0.heap.size w0 w42)); replace HK := Aside0.mk (KeepBut.trans z8_0 (KeepBut.of_grown hg g) (Kd.R_base2 HO_3.out)); replace HO_3 := Aside0.mk (hp_); clear hg hw hp_))
      go_ret
      exact ⟨_, z8_7, Kd.Q_of_R (by (with_reducible repeat (first | apply Kd.R_alloc | apply Kd.R_drewN | apply Kd.R_drew)); exact Kd.R_mono HO_3.out (fun _ hk => trivial)), z8_3, z8_1, z8_0⟩
     ·rw [if_neg c26] at H
      have c26b0 : (t306 == 1) = false := beq_eq_false_iff_ne.mpr c26
      have c26b1 : (t306 != 1) = true := bne_iff_ne.mpr c26
      simp only [Option.some.injEq, Prod.mk.injEq] at H
      obtain ⟨rfl, rfl⟩ := H
      go_wp2_with (first | ((with_reducible refine gate_callee (f := 78) rfl ?_); refine goesL_ (some 25) rfl rfl Try.func78 (by kernel_rfl) rfl #[.pointer (some ⟨g, 0, none⟩), .int .i64 40] rfl z8_4 ?_; (with_reducible refine (spec_l6Rd_pick.calls k1 g s0_0 x1001_1 40 t306 t307 w0 _ ?side1 ?side2 A20.out).mono ?_); (case side1 => repeat (first | (with_reducible first | exact HI0.out | apply IsS99.alloc | apply IsS99.drewN | apply IsS99.drew | apply IsS99.set_1) | exact HI0.out)); (case side2 => repeat (first | (with_reducible first | exact HB.out | apply below_alloc | apply pw_below_drewN | apply below_drew1 | refine below_set ?_ (IsS99.ge HI0.out)) | exact HB.out)); rintro e w43 ⟨rfl, hi, hb, hk⟩; refine ⟨_, rfl, ?_⟩; replace HO_3 := Aside0.mk (Kd.R_mono (Kd.R_keep (IsS99.apart (show IsS99 w0 _ g s0_0 x1001_1 from by repeat (first | (with_reducible first | exact HI0.out | apply IsS99.alloc | apply IsS99.drewN | apply IsS99.drew | apply IsS99.set_1) | exact HI0.out)) z8_2 (by decide)) hk (fun _ h => h.2)) (fun _ h => h.1)); replace HK := Aside0.mk (KeepBut.trans z8_0 hk (.inl rfl)); replace HB := Aside0.mk (hb); replace HI0 := Aside0.mk (hi); (try clear hb)))
      go_ret
      exact ⟨_, z8_7, Kd.Q_of_R z8_2, z8_3, z8_1, z8_0⟩

end Go.Proofs.Ytamaejafddmagaa.PA
