-- Written by a program of this session (after the manner of the kit's print, several laws in one text).
import Derived.Test.YtbhmgbeebhmfkaaPAx0
import Derived.Test.YtbhmgbeebhmfkaaPAx2
import Derived.Test.YtbhmgbeebhmfkaaPAx3
import Derived.Test.YtbhmgbeebhmfkaaPAx4
import Derived.Test.YtbhmgbeebhmfkaaPAx9
import Derived.Test.YtbhmgbeebhmfkaaPAx15
import Derived.Test.YtbhmgbeebhmfkaaGw
import Derived.Test.YtbhmgbeebhmfkaaGm
import Derived.Test.YtbhmgbeebhmfkaaHn
namespace Go.Proofs.Ytbhmgbeebhmfkaa.PA
open Go.RowKit Go.Proofs.YtbhmgbeebhmfkaaW.PrintWords Go.Proofs.YtbhmgbeebhmfkaaW.PrintLast Go.Proofs.YtbhmgbeebhmfkaaW.PrintMore
attribute [local go_sem] max2_int min2_int max_two min_two max_three min_three max_four min_four   -- for this text's walks alone
set_option linter.unusedVariables false
set_option linter.unusedSimpArgs false

/-! ### laws_FnExactSpanBy: function 6 -/
theorem z16_0 {p : Prop} (h : p := by repeat (first | (with_reducible first | exact HB.out | apply below_alloc | apply pw_below_drewN | apply below_drew1) | exact HB.out)) : p := h
theorem z16_1 {p : Prop} (h : p := by (try simp only [List.map_toArray, List.map_cons, List.map_nil]); first | done | rfl | (simp only [List.length_drop, List.length_take]; rfl)) : p := h
theorem z16_2 {p : Prop} (h : p := by (with_reducible repeat (first | apply Kd.R_alloc | apply Kd.R_drewN | apply Kd.R_drew)); exact HO_10.out) : p := h
theorem z16_3 {p : Prop} (h : p := by (with_reducible repeat (first | apply Kd.R_alloc | apply Kd.R_drewN | apply Kd.R_drew)); exact HO_6.out) : p := h
theorem z16_4 {p : Prop} (h : p := by (with_reducible repeat (first | apply Kd.R_alloc | apply Kd.R_drewN | apply Kd.R_drew)); exact HO_9.out) : p := h
theorem z16_5 {p : Prop} (h : p := by first | rfl | (simp [errW_none, errW_some] <;> rfl) | (simp [*, errW_none, errW_some] <;> rfl)) : p := h
theorem z16_6 {p : Prop} (h : p := by (with_reducible repeat (first | apply Kd.R_alloc | apply Kd.R_drewN | apply Kd.R_drew)); exact HO472.out) : p := h
theorem z16_7 {p : Prop} (h : p := by (with_reducible repeat (first | apply Kd.S_alloc | apply Kd.S_drewN | apply Kd.S_drew)); exact HO_8.out) : p := h
theorem z16_8 {p : Prop} (h : p := by (with_reducible repeat (first | apply Kd.S_alloc | apply Kd.S_drewN | apply Kd.S_drew)); exact HO469.out) : p := h
theorem z16_9 {p : Prop} (h : p := by (with_reducible repeat (first | apply Kd.R_alloc | apply Kd.R_drewN | apply Kd.R_drew)); exact HO475.out) : p := h
theorem z16_10 {p : Prop} (h : p := by (try simp only [List.map_toArray, List.map_cons, List.map_nil]); first | done | (rw [show t501.length = t483.length from (Kd.R_reads' HO_10.out).1.symm] <;> rfl) | rfl | (simp only [List.length_drop, List.length_take]; rfl)) : p := h
theorem z16_11 {p : Prop} (h : p := by first | rfl | (simp; done) | (simp [*]; done)) : p := h
theorem z16_12 {p : Prop} (h : p := by (with_reducible repeat (first | apply Kd.R_alloc | apply Kd.R_drewN | apply Kd.R_drew)); exact Kd.R_mono HO_6.out (fun _ hk => hk.2.1)) : p := h
theorem z16_13 {p : Prop} (h : p := by (with_reducible repeat (first | apply Kd.R_alloc | apply Kd.R_drewN | apply Kd.R_drew)); exact Kd.R_mono HO_10.out (fun _ hk => hk.1)) : p := h
theorem z16_14 {p : Prop} (h : p := by (with_reducible repeat (first | apply Kd.S_alloc | apply Kd.S_drewN | apply Kd.S_drew)); exact Kd.S_mono HO479.out (fun _ hk => ⟨hk.1.1.2, ⟨hk.1.2, hk.2⟩⟩)) : p := h
theorem z16_15 {p : Prop} (h : p := by (with_reducible repeat (first | apply Kd.R_alloc | apply Kd.R_drewN | apply Kd.R_drew)); exact Kd.R_mono HO475.out (fun _ hk => ⟨hk.1.2, hk.2⟩)) : p := h
theorem z16_16 {p : Prop} (h : p := by (with_reducible repeat (first | apply Kd.R_alloc | apply Kd.R_drewN | apply Kd.R_drew)); exact Kd.R_mono HO482.out (fun _ hk => ⟨hk.1.2, hk.2⟩)) : p := h
theorem z16_17 {p : Prop} (h : p := by (with_reducible repeat (first | apply Kd.R_alloc | apply Kd.R_drewN | apply Kd.R_drew)); exact Kd.R_mono HO486.out (fun _ hk => ⟨hk.1.2, hk.2⟩)) : p := h
theorem z16_18 {p : Prop} (h : p := by (with_reducible repeat (first | apply Kd.R_alloc | apply Kd.R_drewN | apply Kd.R_drew)); exact Kd.R_mono HO_10.out (fun _ hk => trivial)) : p := h
mutual
def laws_FnExactSpanBy.j0 : Nat → List (List Int) → List Int → List Int → Bool → List (List Int) → List Int → List Int → Bool → Bool → Option (Bool)
  | 0, _, _, _, _, _, _, _, _, _ => none
  | k + 1, x0, x1, x6, x7, x8, x9, x10, x11, x51 => if x51 = true then (some false) else ((laws_toIntSS.f k x0).bind fun t488 => ((laws_eqIntSS.f k x8 t488).bind fun t491 => (if t491 = true then ((laws_toIntS.f k x1).bind fun t492 => ((laws_eqIntS.f k x9 t492).bind fun t495 => (if t495 = true then ((laws_markIntSS.f x8 1).bind fun t496 => ((laws_markIntS.f k x9 t496).bind fun bt497 => (if bt497.1 < 0 then (laws_FnExactSpanBy.j1 k x0 x1 x6 x7 x10 true) else ((laws_eqIntS.f k x10 x6).bind fun t499 => (if t499 = true then (laws_FnExactSpanBy.j1 k x0 x1 x6 x7 x10 (x11 != x7)) else (laws_FnExactSpanBy.j1 k x0 x1 x6 x7 x10 true)))))) else (some false)))) else (some false))))
def laws_FnExactSpanBy.j1 : Nat → List (List Int) → List Int → List Int → Bool → List Int → Bool → Option (Bool)
  | 0, _, _, _, _, _, _ => none
  | k + 1, x0, x1, x6, x7, x10, x80 => if x80 = true then (some false) else ((laws_markIntS.f k x10 1).bind fun bt500 => ((laws_heldIntS.f k bt500.2 1).bind fun t502 => (if t502 < 0 then (some false) else (if t502 = bt500.1 then ((laws_toIntSS.f k x0).bind fun t503 => ((laws_toIntS.f k x1).bind fun t506 => ((impl_SpanBy.f k t503 t506).bind fun bt509 => ((laws_eqIntS.f k bt509.1 x6).bind fun t513 => (if t513 = true then (laws_FnExactSpanBy.j2 k bt500.2 bt500.1 (bt509.2 != x7)) else (laws_FnExactSpanBy.j2 k bt500.2 bt500.1 true)))))) else (some false)))))
def laws_FnExactSpanBy.j2 : Nat → List Int → Int → Bool → Option (Bool)
  | 0, _, _, _ => none
  | k + 1, x10, x13, x108 => if x108 = true then (some false) else ((laws_heldIntS.f k x10 1).bind fun t514 => (if t514 < 0 then (some false) else (if t514 = x13 then (some true) else (some false))))
end
def laws_FnExactSpanBy.f (k : Nat) (l0 : List (List Int)) (l1 : List Int) : Option (Bool) := if (l1.length : Int) > 1048576 then (some true) else ((laws_szIntSS.f k l0 1048576).bind fun t466 => (if t466 < 0 then (some true) else ((laws_toIntSS.f k l0).bind fun t467 => ((laws_toIntS.f k l1).bind fun t470 => ((spec_SpanBy.f k t467 t470).bind fun bt473 => ((laws_toIntSS.f k l0).bind fun t477 => ((laws_toIntS.f k l1).bind fun t480 => ((impl_SpanBy.f k t477 t480).bind fun bt483 => ((laws_eqIntS.f k bt483.1 bt473.1).bind fun t487 => (if t487 = true then (laws_FnExactSpanBy.j0 k l0 l1 bt473.1 bt473.2 t477 t480 bt483.1 bt483.2 (bt483.2 != bt473.2)) else (laws_FnExactSpanBy.j0 k l0 l1 bt473.1 bt473.2 t477 t480 bt483.1 bt483.2 true)))))))))))
set_option maxHeartbeats 8000000 in
set_option maxRecDepth 100000 in
theorem laws_FnExactSpanBy.calls (k : Nat) (A0 : Option Addr) (c0 : Nat) (l0 : List (List Int)) (A1 : Option Addr) (c1 : Nat) (l1 : List Int) (r : Bool) (w : World) (hr0 : Kd.C (Kd.slice 3 (Kd.int .i64)) w A0 l0.length l0) (hc0 : l0.length ≤ c0) (hr1 : Kd.C (Kd.int .i64) w A1 l1.length l1) (hc1 : l1.length ≤ c1) (h : laws_FnExactSpanBy.f k l0 l1 = some r) :
  Calls Try.prog 6 #[.slice A0 l0.length c0, .slice A1 l1.length c1] w fun e w' => e = .returned (.bool r) ∧ Below w.heap.size w w' := by
 have HR0 := Aside0.mk hr0
 have HC0 := Aside0.mk hc0
 clear hr0 hc0
 have HR1 := Aside0.mk hr1
 have HC1 := Aside0.mk hc1
 clear hr1 hc1
 have HB := Aside0.mk (Below.refl w.heap.size w)
 have H : (if (l1.length : Int) > 1048576 then (some true) else ((laws_szIntSS.f k l0 1048576).bind fun t466 => (if t466 < 0 then (some true) else ((laws_toIntSS.f k l0).bind fun t467 => ((laws_toIntS.f k l1).bind fun t470 => ((spec_SpanBy.f k t467 t470).bind fun bt473 => ((laws_toIntSS.f k l0).bind fun t477 => ((laws_toIntS.f k l1).bind fun t480 => ((impl_SpanBy.f k t477 t480).bind fun bt483 => ((laws_eqIntS.f k bt483.1 bt473.1).bind fun t487 => (if t487 = true then (laws_FnExactSpanBy.j0 k l0 l1 bt473.1 bt473.2 t477 t480 bt483.1 bt483.2 (bt483.2 != bt473.2)) else (laws_FnExactSpanBy.j0 k l0 l1 bt473.1 bt473.2 t477 t480 bt483.1 bt483.2 true)))))))))))) = some r := h
 clear h
 by_cases c3 : (l1.length : Int) > 1048576
 ·rw [if_pos c3] at H
  have c3b0 : decide (1048576 < (l1.length : Int)) = true := decide_eq_true c3
  have c3b1 : decide (1048576 < l1.length) = true := decide_eq_true (by omega)
  clear c3
  obtain rfl := Option.some.inj H
  go_enter Try.func6, Try.ntmps6
  go_wp2
  go_ret
  exact ⟨z16_5, z16_0⟩
 ·rw [if_neg c3] at H
  have c3b0 : decide (1048576 < (l1.length : Int)) = false := decide_eq_false c3
  have c3b1 : decide (1048576 < l1.length) = false := decide_eq_false (by omega)
  clear c3
  replace H := Option.bind_eq_some_iff.mp H
  obtain ⟨t466, A40, H⟩ := H
  replace H : (if t466 < 0 then (some true) else ((laws_toIntSS.f k l0).bind fun t467 => ((laws_toIntS.f k l1).bind fun t470 => ((spec_SpanBy.f k t467 t470).bind fun bt473 => ((laws_toIntSS.f k l0).bind fun t477 => ((laws_toIntS.f k l1).bind fun t480 => ((impl_SpanBy.f k t477 t480).bind fun bt483 => ((laws_eqIntS.f k bt483.1 bt473.1).bind fun t487 => (if t487 = true then (laws_FnExactSpanBy.j0 k l0 l1 bt473.1 bt473.2 t477 t480 bt483.1 bt483.2 (bt483.2 != bt473.2)) else (laws_FnExactSpanBy.j0 k l0 l1 bt473.1 bt473.2 t477 t480 bt483.1 bt483.2 true)))))))))) = some r := H
  have A4 := Aside0.mk A40
  clear A40
  by_cases c5 : t466 < 0
  ·rw [if_pos c5] at H
   have c5b0 : decide (t466 < 0) = true := decide_eq_true c5
   clear c5
   obtain rfl := Option.some.inj H
   go_enter Try.func6, Try.ntmps6
   go_wp2_with (first | ((with_reducible refine gate_callee (f := 15) rfl ?_); refine goesL_ (some 22) rfl rfl Try.func15 (by kernel_rfl) rfl #[.slice A0 l0.length c0, .int .i64 1048576] rfl z16_1 ?_; (with_reducible refine (laws_szIntSS.calls k _ _ l0 1048576 t466 _ ?side1 ?side2 A4.out).mono ?_); (case side1 => exact cZ (HR0.out)); (case side2 => exact HC0.out); rintro e w' ⟨rfl, ⟨nd, rfl⟩⟩; refine ⟨_, rfl, ?_⟩))
   go_ret
   exact ⟨z16_5, z16_0⟩
  ·rw [if_neg c5] at H
   have c5b0 : decide (t466 < 0) = false := decide_eq_false c5
   clear c5
   replace H := Option.bind_eq_some_iff.mp H
   obtain ⟨t467, A60, H⟩ := H
   replace H : ((laws_toIntS.f k l1).bind fun t470 => ((spec_SpanBy.f k t467 t470).bind fun bt473 => ((laws_toIntSS.f k l0).bind fun t477 => ((laws_toIntS.f k l1).bind fun t480 => ((impl_SpanBy.f k t477 t480).bind fun bt483 => ((laws_eqIntS.f k bt483.1 bt473.1).bind fun t487 => (if t487 = true then (laws_FnExactSpanBy.j0 k l0 l1 bt473.1 bt473.2 t477 t480 bt483.1 bt483.2 (bt483.2 != bt473.2)) else (laws_FnExactSpanBy.j0 k l0 l1 bt473.1 bt473.2 t477 t480 bt483.1 bt483.2 true)))))))) = some r := H
   have A6 := Aside0.mk A60
   clear A60
   replace H := Option.bind_eq_some_iff.mp H
   obtain ⟨t470, A70, H⟩ := H
   replace H : ((spec_SpanBy.f k t467 t470).bind fun bt473 => ((laws_toIntSS.f k l0).bind fun t477 => ((laws_toIntS.f k l1).bind fun t480 => ((impl_SpanBy.f k t477 t480).bind fun bt483 => ((laws_eqIntS.f k bt483.1 bt473.1).bind fun t487 => (if t487 = true then (laws_FnExactSpanBy.j0 k l0 l1 bt473.1 bt473.2 t477 t480 bt483.1 bt483.2 (bt483.2 != bt473.2)) else (laws_FnExactSpanBy.j0 k l0 l1 bt473.1 bt473.2 t477 t480 bt483.1 bt483.2 true))))))) = some r := H
   have A7 := Aside0.mk A70
   clear A70
   replace H := Option.bind_eq_some_iff.mp H
   obtain ⟨⟨t473, t476⟩, A80, H⟩ := H
   replace H : ((laws_toIntSS.f k l0).bind fun t477 => ((laws_toIntS.f k l1).bind fun t480 => ((impl_SpanBy.f k t477 t480).bind fun bt483 => ((laws_eqIntS.f k bt483.1 t473).bind fun t487 => (if t487 = true then (laws_FnExactSpanBy.j0 k l0 l1 t473 t476 t477 t480 bt483.1 bt483.2 (bt483.2 != t476)) else (laws_FnExactSpanBy.j0 k l0 l1 t473 t476 t477 t480 bt483.1 bt483.2 true)))))) = some r := H
   have A8 := Aside0.mk A80
   clear A80
   replace H := Option.bind_eq_some_iff.mp H
   obtain ⟨t477, A90, H⟩ := H
   replace H : ((laws_toIntS.f k l1).bind fun t480 => ((impl_SpanBy.f k t477 t480).bind fun bt483 => ((laws_eqIntS.f k bt483.1 t473).bind fun t487 => (if t487 = true then (laws_FnExactSpanBy.j0 k l0 l1 t473 t476 t477 t480 bt483.1 bt483.2 (bt483.2 != t476)) else (laws_FnExactSpanBy.j0 k l0 l1 t473 t476 t477 t480 bt483.1 bt483.2 true))))) = some r := H
   have A9 := Aside0.mk A90
   clear A90
   replace H := Option.bind_eq_some_iff.mp H
   obtain ⟨t480, A100, H⟩ := H
   replace H : ((impl_SpanBy.f k t477 t480).bind fun bt483 => ((laws_eqIntS.f k bt483.1 t473).bind fun t487 => (if t487 = true then (laws_FnExactSpanBy.j0 k l0 l1 t473 t476 t477 t480 bt483.1 bt483.2 (bt483.2 != t476)) else (laws_FnExactSpanBy.j0 k l0 l1 t473 t476 t477 t480 bt483.1 bt483.2 true)))) = some r := H
   have A10 := Aside0.mk A100
   clear A100
   replace H := Option.bind_eq_some_iff.mp H
   obtain ⟨⟨t483, t484⟩, A110, H⟩ := H
   replace H : ((laws_eqIntS.f k t483 t473).bind fun t487 => (if t487 = true then (laws_FnExactSpanBy.j0 k l0 l1 t473 t476 t477 t480 t483 t484 (t484 != t476)) else (laws_FnExactSpanBy.j0 k l0 l1 t473 t476 t477 t480 t483 t484 true))) = some r := H
   have A11 := Aside0.mk A110
   clear A110
   have HC12 := Aside0.mk H
   clear H
   go_enter Try.func6, Try.ntmps6
   go_upto_region 11 with (first | ((with_reducible refine gate_callee (f := 15) rfl ?_); refine goesL_ (some 22) rfl rfl Try.func15 (by kernel_rfl) rfl #[.slice A0 l0.length c0, .int .i64 1048576] rfl z16_1 ?_; (with_reducible refine (laws_szIntSS.calls k _ _ l0 1048576 t466 _ ?side1 ?side2 A4.out).mono ?_); (case side1 => exact cZ (HR0.out)); (case side2 => exact HC0.out); rintro e w' ⟨rfl, ⟨nd, rfl⟩⟩; refine ⟨_, rfl, ?_⟩) | ((with_reducible refine gate_callee (f := 17) rfl ?_); refine goesL_ (some 27) rfl rfl Try.func17 (by kernel_rfl) rfl #[.slice A0 l0.length c0] rfl z16_1 ?_; (with_reducible refine (laws_toIntSS.calls k _ _ l0 t467 _ ?side1 ?side2 A6.out).mono ?_); (case side1 => exact cZ (HR0.out)); (case side2 => exact HC0.out); rintro e w13 ⟨v468, rfl, ho0, hb⟩; refine ⟨_, rfl, ?_⟩; have HO469 := Aside0.mk (Kd.S_lower ho0 (below_size z16_0)); replace HB := Aside0.mk (below_step z16_0 hb); (try clear hb); (try clear ho0)) | ((with_reducible refine gate_callee (f := 21) rfl ?_); refine goesL_ (some 29) rfl rfl Try.func21 (by kernel_rfl) rfl #[.slice A1 l1.length c1] rfl z16_1 ?_; (with_reducible refine (laws_toIntS.calls k _ _ l1 t470 _ ?side1 ?side2 A7.out).mono ?_); (case side1 => exact cZ ((Kd.C_below HR1.out HB.out))); (case side2 => exact HC1.out); rintro e w14 ⟨v471, rfl, ho0, hb⟩; refine ⟨_, rfl, ?_⟩; replace HO469 := Aside0.mk (Kd.S_elder' z16_8 (Kd.R_base ho0) hb); have HO472 := Aside0.mk (Kd.R_lower ho0 (below_size z16_0)); replace HB := Aside0.mk (below_step z16_0 hb); (try clear hb); (try clear ho0); obtain ⟨Ao15, co15, eo15⟩ := Kd.S_slice HO469.out; subst eo15; obtain ⟨Ao16, co16, eo16⟩ := Kd.R_slice HO472.out; subst eo16) | ((with_reducible refine gate_callee (f := 29) rfl ?_); refine goesL_ (some 30) rfl rfl Try.func29 (by kernel_rfl) rfl #[.slice Ao15 t467.length co15, .slice Ao16 t470.length co16] rfl z16_1 ?_; (with_reducible refine (spec_SpanBy.calls k (fun k_ => (True ∧ some k_ ≠ (.slice Ao16 t470.length co16 : Value).ownBlock)) _ _ t467 _ _ t470 t473 t476 _ ?side1 ?side2 ?side3 A8.out).mono ?_); (case side1 => exact Kd.S_V (HO469.out)); (case side2 => exact cZ ((Kd.R_reads' HO472.out).2.2)); (case side3 => exact (Kd.R_reads' HO472.out).2.1); rintro e w17 ⟨v474, rfl, ho0, hb⟩; refine ⟨_, rfl, ?_⟩; replace HO469 := Aside0.mk (Kd.S_elder' z16_8 (Kd.R_base ho0) hb); have HO475 := Aside0.mk (Kd.R_lower (Kd.R_new' (Kd.R_mono (ok' := fun k_ => True) ho0 (fun _ hk_ => trivial)) (Kd.R_lt z16_6)) (below_size z16_0)); replace HO472 := Aside0.mk (Kd.R_elder' z16_6 (Kd.R_base ho0) hb); replace HB := Aside0.mk (below_step z16_0 hb); (try clear hb); (try clear ho0)) | ((with_reducible refine gate_callee (f := 17) rfl ?_); refine goesL_ (some 34) rfl rfl Try.func17 (by kernel_rfl) rfl #[.slice A0 l0.length c0] rfl z16_1 ?_; (with_reducible refine (laws_toIntSS.calls k _ _ l0 t477 _ ?side1 ?side2 A9.out).mono ?_); (case side1 => exact cZ ((Kd.C_below HR0.out HB.out))); (case side2 => exact HC0.out); rintro e w18 ⟨v478, rfl, ho0, hb⟩; refine ⟨_, rfl, ?_⟩; have HO479 := Aside0.mk (Kd.S_lower (Kd.S_new' (Kd.S_new' (Kd.S_new' ho0 (Kd.S_lt z16_8)) (Kd.R_lt z16_6)) (Kd.R_lt z16_9)) (below_size z16_0)); replace HO469 := Aside0.mk (Kd.S_elder' z16_8 (Kd.S_base ho0) hb); replace HO472 := Aside0.mk (Kd.R_below z16_6 hb); replace HO475 := Aside0.mk (Kd.R_below z16_9 hb); replace HB := Aside0.mk (below_step z16_0 hb); (try clear hb); (try clear ho0)) | ((with_reducible refine gate_callee (f := 21) rfl ?_); refine goesL_ (some 36) rfl rfl Try.func21 (by kernel_rfl) rfl #[.slice A1 l1.length c1] rfl z16_1 ?_; (with_reducible refine (laws_toIntS.calls k _ _ l1 t480 _ ?side1 ?side2 A10.out).mono ?_); (case side1 => exact cZ ((Kd.C_below HR1.out HB.out))); (case side2 => exact HC1.out); rintro e w19 ⟨v481, rfl, ho0, hb⟩; refine ⟨_, rfl, ?_⟩; replace HO469 := Aside0.mk (Kd.S_elder' z16_8 (Kd.R_base ho0) hb); replace HO479 := Aside0.mk (Kd.S_elder' (by (with_reducible repeat (first | apply Kd.S_alloc | apply Kd.S_drewN | apply Kd.S_drew)); exact HO479.out) (Kd.R_base ho0) hb); have HO482 := Aside0.mk (Kd.R_lower (Kd.R_new' (Kd.R_new' ho0 (Kd.R_lt z16_6)) (Kd.R_lt z16_9)) (below_size z16_0)); replace HO472 := Aside0.mk (Kd.R_elder' z16_6 (Kd.R_base ho0) hb); replace HO475 := Aside0.mk (Kd.R_elder' z16_9 (Kd.R_base ho0) hb); replace HB := Aside0.mk (below_step z16_0 hb); (try clear hb); (try clear ho0); obtain ⟨Ao20, co20, eo20⟩ := Kd.S_slice HO479.out; subst eo20; obtain ⟨Ao21, co21, eo21⟩ := Kd.R_slice HO482.out; subst eo21) | ((with_reducible refine gate_callee (f := 30) rfl ?_); refine goesL_ (some 40) rfl rfl Try.func30 (by kernel_rfl) rfl #[.slice Ao20 t477.length co20, .slice Ao21 t480.length co21] rfl z16_1 ?_; (with_reducible refine (impl_SpanBy.calls k _ _ t477 _ _ t480 t483 t484 _ ?side1 ?side2 ?side3 ?side4 A11.out).mono ?_); (case side1 => exact cZ ((Kd.S_reads' HO479.out).2.2)); (case side2 => exact (Kd.S_reads' HO479.out).2.1); (case side3 => exact cZ ((Kd.R_reads' HO482.out).2.2)); (case side4 => exact (Kd.R_reads' HO482.out).2.1); rintro e w22 ⟨v485, rfl, ho0, hb⟩; refine ⟨_, rfl, ?_⟩; replace HO469 := Aside0.mk (Kd.S_elder' z16_8 (Kd.R_base ho0) hb); replace HO479 := Aside0.mk (Kd.S_elder' (by (with_reducible repeat (first | apply Kd.S_alloc | apply Kd.S_drewN | apply Kd.S_drew)); exact HO479.out) (Kd.R_base ho0) hb); have HO486 := Aside0.mk (Kd.R_lower (Kd.R_new' (Kd.R_new' (Kd.R_new' ho0 (Kd.R_lt z16_6)) (Kd.R_lt z16_9)) (Kd.R_lt (by (with_reducible repeat (first | apply Kd.R_alloc | apply Kd.R_drewN | apply Kd.R_drew)); exact HO482.out))) (below_size z16_0)); replace HO472 := Aside0.mk (Kd.R_elder' z16_6 (Kd.R_base ho0) hb); replace HO475 := Aside0.mk (Kd.R_elder' z16_9 (Kd.R_base ho0) hb); replace HO482 := Aside0.mk (Kd.R_elder' (by (with_reducible repeat (first | apply Kd.R_alloc | apply Kd.R_drewN | apply Kd.R_drew)); exact HO482.out) (Kd.R_base ho0) hb); replace HB := Aside0.mk (below_step z16_0 hb); (try clear hb); (try clear ho0)))
   (try simp only [Act.put, List.setIfInBounds_toArray, List.set_cons_zero, List.set_cons_succ])
   go_cut [51] (fun v51 wc => ∃ (kq : Nat) (x51_11 : Bool), v51 = .bool x51_11 ∧ Aside0 (laws_FnExactSpanBy.j0 kq l0 l1 t473 t476 t477 t480 t483 t484 x51_11 = some r) ∧ Aside0 (kq ≤ k) ∧ Aside0 (Kd.R (Kd.int .i64) 3 wc w.heap.size (fun k_ => some k_ ≠ ((.slice Ao21 t480.length co21) : Value).ownBlock ∧ some k_ ≠ (v485 : Value).ownBlock) v474 t473) ∧ Aside0 (Kd.S (Kd.slice 3 (Kd.int .i64)) 28 wc w.heap.size (fun k_ => some k_ ≠ (v474 : Value).ownBlock ∧ some k_ ≠ ((.slice Ao21 t480.length co21) : Value).ownBlock ∧ some k_ ≠ (v485 : Value).ownBlock) (.slice Ao20 t477.length co20) t477) ∧ Aside0 (Kd.R (Kd.int .i64) 3 wc w.heap.size (fun k_ => some k_ ≠ (v474 : Value).ownBlock ∧ some k_ ≠ (v485 : Value).ownBlock) (.slice Ao21 t480.length co21) t480) ∧ Aside0 (Kd.R (Kd.int .i64) 3 wc w.heap.size (fun k_ => some k_ ≠ (v474 : Value).ownBlock ∧ some k_ ≠ ((.slice Ao21 t480.length co21) : Value).ownBlock) v485 t483) ∧ Aside0 (Below w.heap.size w wc))
   case first =>
    have H := HC12.out
    clear HC12
    replace H := Option.bind_eq_some_iff.mp H
    obtain ⟨t487, A230, H⟩ := H
    replace H : (if t487 = true then (laws_FnExactSpanBy.j0 k l0 l1 t473 t476 t477 t480 t483 t484 (t484 != t476)) else (laws_FnExactSpanBy.j0 k l0 l1 t473 t476 t477 t480 t483 t484 true)) = some r := H
    have A23 := Aside0.mk A230
    clear A230
    by_cases c24 : t487 = true
    ·subst c24
     have H1 : (laws_FnExactSpanBy.j0 k l0 l1 t473 t476 t477 t480 t483 t484 (t484 != t476)) = some r := by rw [if_pos rfl] at H; exact H
     clear H
     have H := H1
     clear H1
     have H' := Aside0.mk H
     clear H
     obtain ⟨Ao25, co25, eo25⟩ := Kd.R_slice HO486.out
     subst eo25
     obtain ⟨Ao26, co26, eo26⟩ := Kd.R_slice HO475.out
     subst eo26
     go_wp2_with (first | ((with_reducible refine gate_callee (f := 23) rfl ?_); refine goesL_ (some 45) rfl rfl Try.func23 (by kernel_rfl) rfl #[.slice Ao25 t483.length co25, .slice Ao26 t473.length co26] rfl z16_1 ?_; (with_reducible refine (laws_eqIntS.calls k _ _ t483 _ _ t473 true _ ?side1 ?side2 ?side3 ?side4 A23.out).mono ?_); (case side1 => exact cZ ((Kd.R_reads' HO486.out).2.2)); (case side2 => exact (Kd.R_reads' HO486.out).2.1); (case side3 => exact cZ ((Kd.R_reads' HO475.out).2.2)); (case side4 => exact (Kd.R_reads' HO475.out).2.1); rintro e w' ⟨rfl, ⟨nd, rfl⟩⟩; refine ⟨_, rfl, ?_⟩))
     go_meet
     case rel => exact ⟨_, ((t484 != t476)), z16_11, H', ⟨by first | omega | exact Nat.le_refl _⟩, ⟨z16_15⟩, ⟨z16_14⟩, ⟨z16_16⟩, ⟨z16_17⟩, ⟨z16_0⟩⟩
    ·replace c24 := Bool.eq_false_iff.mpr c24
     subst c24
     have H1 : (laws_FnExactSpanBy.j0 k l0 l1 t473 t476 t477 t480 t483 t484 true) = some r := by rw [if_neg (show ¬ (false = true) by decide)] at H; exact H
     clear H
     have H := H1
     clear H1
     have H' := Aside0.mk H
     clear H
     obtain ⟨Ao27, co27, eo27⟩ := Kd.R_slice HO486.out
     subst eo27
     obtain ⟨Ao28, co28, eo28⟩ := Kd.R_slice HO475.out
     subst eo28
     go_wp2_with (first | ((with_reducible refine gate_callee (f := 23) rfl ?_); refine goesL_ (some 45) rfl rfl Try.func23 (by kernel_rfl) rfl #[.slice Ao27 t483.length co27, .slice Ao28 t473.length co28] rfl z16_1 ?_; (with_reducible refine (laws_eqIntS.calls k _ _ t483 _ _ t473 false _ ?side1 ?side2 ?side3 ?side4 A23.out).mono ?_); (case side1 => exact cZ ((Kd.R_reads' HO486.out).2.2)); (case side2 => exact (Kd.R_reads' HO486.out).2.1); (case side3 => exact cZ ((Kd.R_reads' HO475.out).2.2)); (case side4 => exact (Kd.R_reads' HO475.out).2.1); rintro e w' ⟨rfl, ⟨nd, rfl⟩⟩; refine ⟨_, rfl, ?_⟩))
     go_meet
     case rel => exact ⟨_, (true), z16_11, H', ⟨by first | omega | exact Nat.le_refl _⟩, ⟨z16_15⟩, ⟨z16_14⟩, ⟨z16_16⟩, ⟨z16_17⟩, ⟨z16_0⟩⟩
   case rest =>
    clear HC12
    try clear c1
    try clear c3
    try clear c3b0
    try clear c3b1
    try clear c5
    try clear c5b0
    obtain ⟨kq, x51_11, rfl, HA, HJ11, HO_6, HO_8, HO_9, HO_10, HB⟩ := hcut
    cases kq with
    | zero => exact absurd HA.out (by simp [laws_FnExactSpanBy.j0])
    | succ kj11 =>
     have H := HA.out
     clear HA
     simp only [laws_FnExactSpanBy.j0] at H
     by_cases c29 : x51_11 = true
     ·subst c29
      have H1 : (some false) = some r := by rw [if_pos rfl] at H; exact H
      clear H
      have H := H1
      clear H1
      obtain rfl := Option.some.inj H
      go_wp2
      go_ret
      exact ⟨z16_5, z16_0⟩
     ·replace c29 := Bool.eq_false_iff.mpr c29
      subst c29
      have H1 : ((laws_toIntSS.f kj11 l0).bind fun t488 => ((laws_eqIntSS.f kj11 t477 t488).bind fun t491 => (if t491 = true then ((laws_toIntS.f kj11 l1).bind fun t492 => ((laws_eqIntS.f kj11 t480 t492).bind fun t495 => (if t495 = true then ((laws_markIntSS.f t477 1).bind fun t496 => ((laws_markIntS.f kj11 t480 t496).bind fun bt497 => (if bt497.1 < 0 then (laws_FnExactSpanBy.j1 kj11 l0 l1 t473 t476 t483 true) else ((laws_eqIntS.f kj11 t483 t473).bind fun t499 => (if t499 = true then (laws_FnExactSpanBy.j1 kj11 l0 l1 t473 t476 t483 (t484 != t476)) else (laws_FnExactSpanBy.j1 kj11 l0 l1 t473 t476 t483 true)))))) else (some false)))) else (some false)))) = some r := by rw [if_neg (show ¬ (false = true) by decide)] at H; exact H
      clear H
      have H := H1
      clear H1
      replace H := Option.bind_eq_some_iff.mp H
      obtain ⟨t488, A300, H⟩ := H
      replace H : ((laws_eqIntSS.f kj11 t477 t488).bind fun t491 => (if t491 = true then ((laws_toIntS.f kj11 l1).bind fun t492 => ((laws_eqIntS.f kj11 t480 t492).bind fun t495 => (if t495 = true then ((laws_markIntSS.f t477 1).bind fun t496 => ((laws_markIntS.f kj11 t480 t496).bind fun bt497 => (if bt497.1 < 0 then (laws_FnExactSpanBy.j1 kj11 l0 l1 t473 t476 t483 true) else ((laws_eqIntS.f kj11 t483 t473).bind fun t499 => (if t499 = true then (laws_FnExactSpanBy.j1 kj11 l0 l1 t473 t476 t483 (t484 != t476)) else (laws_FnExactSpanBy.j1 kj11 l0 l1 t473 t476 t483 true)))))) else (some false)))) else (some false))) = some r := H
      have A30 := Aside0.mk A300
      clear A300
      replace H := Option.bind_eq_some_iff.mp H
      obtain ⟨t491, A310, H⟩ := H
      replace H : (if t491 = true then ((laws_toIntS.f kj11 l1).bind fun t492 => ((laws_eqIntS.f kj11 t480 t492).bind fun t495 => (if t495 = true then ((laws_markIntSS.f t477 1).bind fun t496 => ((laws_markIntS.f kj11 t480 t496).bind fun bt497 => (if bt497.1 < 0 then (laws_FnExactSpanBy.j1 kj11 l0 l1 t473 t476 t483 true) else ((laws_eqIntS.f kj11 t483 t473).bind fun t499 => (if t499 = true then (laws_FnExactSpanBy.j1 kj11 l0 l1 t473 t476 t483 (t484 != t476)) else (laws_FnExactSpanBy.j1 kj11 l0 l1 t473 t476 t483 true)))))) else (some false)))) else (some false)) = some r := H
      have A31 := Aside0.mk A310
      clear A310
      by_cases c32 : t491 = true
      ·subst c32
       have H1 : ((laws_toIntS.f kj11 l1).bind fun t492 => ((laws_eqIntS.f kj11 t480 t492).bind fun t495 => (if t495 = true then ((laws_markIntSS.f t477 1).bind fun t496 => ((laws_markIntS.f kj11 t480 t496).bind fun bt497 => (if bt497.1 < 0 then (laws_FnExactSpanBy.j1 kj11 l0 l1 t473 t476 t483 true) else ((laws_eqIntS.f kj11 t483 t473).bind fun t499 => (if t499 = true then (laws_FnExactSpanBy.j1 kj11 l0 l1 t473 t476 t483 (t484 != t476)) else (laws_FnExactSpanBy.j1 kj11 l0 l1 t473 t476 t483 true)))))) else (some false)))) = some r := by rw [if_pos rfl] at H; exact H
       clear H
       have H := H1
       clear H1
       replace H := Option.bind_eq_some_iff.mp H
       obtain ⟨t492, A330, H⟩ := H
       replace H : ((laws_eqIntS.f kj11 t480 t492).bind fun t495 => (if t495 = true then ((laws_markIntSS.f t477 1).bind fun t496 => ((laws_markIntS.f kj11 t480 t496).bind fun bt497 => (if bt497.1 < 0 then (laws_FnExactSpanBy.j1 kj11 l0 l1 t473 t476 t483 true) else ((laws_eqIntS.f kj11 t483 t473).bind fun t499 => (if t499 = true then (laws_FnExactSpanBy.j1 kj11 l0 l1 t473 t476 t483 (t484 != t476)) else (laws_FnExactSpanBy.j1 kj11 l0 l1 t473 t476 t483 true)))))) else (some false))) = some r := H
       have A33 := Aside0.mk A330
       clear A330
       replace H := Option.bind_eq_some_iff.mp H
       obtain ⟨t495, A340, H⟩ := H
       replace H : (if t495 = true then ((laws_markIntSS.f t477 1).bind fun t496 => ((laws_markIntS.f kj11 t480 t496).bind fun bt497 => (if bt497.1 < 0 then (laws_FnExactSpanBy.j1 kj11 l0 l1 t473 t476 t483 true) else ((laws_eqIntS.f kj11 t483 t473).bind fun t499 => (if t499 = true then (laws_FnExactSpanBy.j1 kj11 l0 l1 t473 t476 t483 (t484 != t476)) else (laws_FnExactSpanBy.j1 kj11 l0 l1 t473 t476 t483 true)))))) else (some false)) = some r := H
       have A34 := Aside0.mk A340
       clear A340
       by_cases c35 : t495 = true
       ·subst c35
        have H1 : ((laws_markIntSS.f t477 1).bind fun t496 => ((laws_markIntS.f kj11 t480 t496).bind fun bt497 => (if bt497.1 < 0 then (laws_FnExactSpanBy.j1 kj11 l0 l1 t473 t476 t483 true) else ((laws_eqIntS.f kj11 t483 t473).bind fun t499 => (if t499 = true then (laws_FnExactSpanBy.j1 kj11 l0 l1 t473 t476 t483 (t484 != t476)) else (laws_FnExactSpanBy.j1 kj11 l0 l1 t473 t476 t483 true)))))) = some r := by rw [if_pos rfl] at H; exact H
        clear H
        have H := H1
        clear H1
        replace H := Option.bind_eq_some_iff.mp H
        obtain ⟨t496, A360, H⟩ := H
        replace H : ((laws_markIntS.f kj11 t480 t496).bind fun bt497 => (if bt497.1 < 0 then (laws_FnExactSpanBy.j1 kj11 l0 l1 t473 t476 t483 true) else ((laws_eqIntS.f kj11 t483 t473).bind fun t499 => (if t499 = true then (laws_FnExactSpanBy.j1 kj11 l0 l1 t473 t476 t483 (t484 != t476)) else (laws_FnExactSpanBy.j1 kj11 l0 l1 t473 t476 t483 true))))) = some r := H
        have A36 := Aside0.mk A360
        clear A360
        replace H := Option.bind_eq_some_iff.mp H
        obtain ⟨⟨t497, t498⟩, A370, H⟩ := H
        replace H : (if t497 < 0 then (laws_FnExactSpanBy.j1 kj11 l0 l1 t473 t476 t483 true) else ((laws_eqIntS.f kj11 t483 t473).bind fun t499 => (if t499 = true then (laws_FnExactSpanBy.j1 kj11 l0 l1 t473 t476 t483 (t484 != t476)) else (laws_FnExactSpanBy.j1 kj11 l0 l1 t473 t476 t483 true)))) = some r := H
        have A37 := Aside0.mk A370
        clear A370
        have HC38 := Aside0.mk H
        clear H
        go_upto_region 20 with (first | ((with_reducible refine gate_callee (f := 17) rfl ?_); refine goesL_ (some 54) rfl rfl Try.func17 (by kernel_rfl) rfl #[.slice A0 l0.length c0] rfl z16_1 ?_; (with_reducible refine (laws_toIntSS.calls kj11 _ _ l0 t488 _ ?side1 ?side2 A30.out).mono ?_); (case side1 => exact cZ ((Kd.C_below HR0.out HB.out))); (case side2 => exact HC0.out); rintro e w39 ⟨v489, rfl, ho0, hb⟩; refine ⟨_, rfl, ?_⟩; have HO490 := Aside0.mk (Kd.S_lower (Kd.S_new' (Kd.S_new' (Kd.S_new' (Kd.S_new' ho0 (Kd.R_lt z16_3)) (Kd.S_lt z16_7)) (Kd.R_lt z16_4)) (Kd.R_lt z16_2)) (below_size z16_0)); replace HO_6 := Aside0.mk (Kd.R_below z16_3 hb); replace HO_8 := Aside0.mk (Kd.S_elder' z16_7 (Kd.S_base ho0) hb); replace HO_9 := Aside0.mk (Kd.R_below z16_4 hb); replace HO_10 := Aside0.mk (Kd.R_below z16_2 hb); replace HB := Aside0.mk (below_step z16_0 hb); (try clear hb); (try clear ho0); obtain ⟨Ao40, co40, eo40⟩ := Kd.S_slice HO490.out; subst eo40) | ((with_reducible refine gate_callee (f := 19) rfl ?_); refine goesL_ (some 55) rfl rfl Try.func19 (by kernel_rfl) rfl #[.slice Ao20 t477.length co20, .slice Ao40 t488.length co40] rfl z16_1 ?_; (with_reducible refine (laws_eqIntSS.calls kj11 _ _ t477 _ _ t488 true _ ?side1 ?side2 ?side3 ?side4 A31.out).mono ?_); (case side1 => exact cZ ((Kd.S_reads' HO_8.out).2.2)); (case side2 => exact (Kd.S_reads' HO_8.out).2.1); (case side3 => exact cZ ((Kd.S_reads' HO490.out).2.2)); (case side4 => exact (Kd.S_reads' HO490.out).2.1); rintro e w' ⟨rfl, ⟨nd, rfl⟩⟩; refine ⟨_, rfl, ?_⟩) | ((with_reducible refine gate_callee (f := 21) rfl ?_); refine goesL_ (some 59) rfl rfl Try.func21 (by kernel_rfl) rfl #[.slice A1 l1.length c1] rfl z16_1 ?_; (with_reducible refine (laws_toIntS.calls kj11 _ _ l1 t492 _ ?side1 ?side2 A33.out).mono ?_); (case side1 => repeat (first | exact (Kd.C_below HR1.out z16_0) | (with_reducible refine Kd.C_alloc ?_ _) | (with_reducible refine Kd.C_drewN ?_ _) | (with_reducible refine Kd.C_drew ?_))); (case side2 => exact HC1.out); rintro e w41 ⟨v493, rfl, ho0, hb⟩; refine ⟨_, rfl, ?_⟩; replace HO_8 := Aside0.mk (Kd.S_elder' z16_7 (Kd.R_base ho0) hb); replace HO490 := Aside0.mk (Kd.S_elder' (by (with_reducible repeat (first | apply Kd.S_alloc | apply Kd.S_drewN | apply Kd.S_drew)); exact HO490.out) (Kd.R_base ho0) hb); have HO494 := Aside0.mk (Kd.R_lower (Kd.R_new' (Kd.R_new' (Kd.R_new' ho0 (Kd.R_lt z16_3)) (Kd.R_lt z16_4)) (Kd.R_lt z16_2)) (below_size z16_0)); replace HO_6 := Aside0.mk (Kd.R_elder' z16_3 (Kd.R_base ho0) hb); replace HO_9 := Aside0.mk (Kd.R_elder' z16_4 (Kd.R_base ho0) hb); replace HO_10 := Aside0.mk (Kd.R_elder' z16_2 (Kd.R_base ho0) hb); replace HB := Aside0.mk (below_step z16_0 hb); (try clear hb); (try clear ho0); obtain ⟨Ao42, co42, eo42⟩ := Kd.R_slice HO494.out; subst eo42) | ((with_reducible refine gate_callee (f := 23) rfl ?_); refine goesL_ (some 60) rfl rfl Try.func23 (by kernel_rfl) rfl #[.slice Ao21 t480.length co21, .slice Ao42 t492.length co42] rfl z16_1 ?_; (with_reducible refine (laws_eqIntS.calls kj11 _ _ t480 _ _ t492 true _ ?side1 ?side2 ?side3 ?side4 A34.out).mono ?_); (case side1 => exact cZ ((Kd.R_reads' HO_9.out).2.2)); (case side2 => exact (Kd.R_reads' HO_9.out).2.1); (case side3 => exact cZ ((Kd.R_reads' HO494.out).2.2)); (case side4 => exact (Kd.R_reads' HO494.out).2.1); rintro e w' ⟨rfl, ⟨nd, rfl⟩⟩; refine ⟨_, rfl, ?_⟩) | ((with_reducible refine gate_callee (f := 26) rfl ?_); refine goesL_ (some 64) rfl rfl Try.func26 (by kernel_rfl) rfl #[.slice Ao20 t477.length co20, .int .i64 1] rfl z16_1 ?_; (with_reducible refine (laws_markIntSS.callsF ?okm Ao20 t477.length co20 co20 t477 1 t496 w _ ?side1 ?side2 A36.out).mono ?_); (case side1 => repeat (first | (with_reducible first | exact HB.out | apply below_alloc | apply pw_below_drewN | apply below_drew1) | exact HB.out)); (case side2 => (with_reducible repeat (first | apply Kd.S_alloc | apply Kd.S_drewN | apply Kd.S_drew)); exact HO_8.out); rintro e wM0 ⟨rfl, hb, hkp⟩; refine ⟨_, rfl, ?_⟩; have n0_ := Aside0.mk (Kd.R_reok rfl (Kd.R_keptB (Kd.R_tight rfl z16_3) hkp (fun k_ he_ hs_ => by (repeat (first | exact hs_.2 he_ | exact hs_ he_ | exact hs_.1 he_ | exact hs_.2.1 he_ | exact hs_.2.2 he_ | exact hs_.2.2.1 he_ | exact hs_.2.2.2 he_ | (replace hs_ := hs_.1))))) (fun k_ e_ => HO_6.out.1 k_ e_)); have n1_ := Aside0.mk (Kd.R_reok rfl (Kd.R_keptB (Kd.R_tight rfl z16_4) hkp (fun k_ he_ hs_ => by (repeat (first | exact hs_.2 he_ | exact hs_ he_ | exact hs_.1 he_ | exact hs_.2.1 he_ | exact hs_.2.2 he_ | exact hs_.2.2.1 he_ | exact hs_.2.2.2 he_ | (replace hs_ := hs_.1))))) (fun k_ e_ => HO_9.out.1 k_ e_)); have n2_ := Aside0.mk (Kd.R_reok rfl (Kd.R_keptB (Kd.R_tight rfl z16_2) hkp (fun k_ he_ hs_ => by (repeat (first | exact hs_.2 he_ | exact hs_ he_ | exact hs_.1 he_ | exact hs_.2.1 he_ | exact hs_.2.2 he_ | exact hs_.2.2.1 he_ | exact hs_.2.2.2 he_ | (replace hs_ := hs_.1))))) (fun k_ e_ => HO_10.out.1 k_ e_)); have n3_ := Aside0.mk (Kd.R_reok rfl (Kd.R_keptB (Kd.R_tight rfl (by (with_reducible repeat (first | apply Kd.R_alloc | apply Kd.R_drewN | apply Kd.R_drew)); exact HO494.out)) hkp (fun k_ he_ hs_ => by (repeat (first | exact hs_.2 he_ | exact hs_ he_ | exact hs_.1 he_ | exact hs_.2.1 he_ | exact hs_.2.2 he_ | exact hs_.2.2.1 he_ | exact hs_.2.2.2 he_ | (replace hs_ := hs_.1))))) (fun k_ e_ => HO494.out.1 k_ e_)); have n4_ := Aside0.mk hb; clear HO_6; clear HO_9; clear HO_10; clear HO494; clear HB; have HO_6 := n0_; have HO_9 := n1_; have HO_10 := n2_; have HO494 := n3_; have HB := n4_; clear n0_ n1_ n2_ n3_ n4_; (try clear hb); (try clear hkp)) | ((with_reducible refine gate_callee (f := 27) rfl ?_); refine goesL_ (some 67) rfl rfl Try.func27 (by kernel_rfl) rfl #[.slice Ao21 t480.length co21, .int .i64 t496] rfl z16_1 ?_; (with_reducible refine (laws_markIntS.calls kj11 (fun k_ => some k_ = (.slice Ao21 t480.length co21 : Value).ownBlock) (.slice Ao21 t480.length co21) t480 t496 t497 t498 w _ ?side1 ?side2 A37.out).mono ?_); (case side1 => repeat (first | (with_reducible first | exact HB.out | apply below_alloc | apply pw_below_drewN | apply below_drew1) | exact HB.out)); (case side2 => exact Kd.R_tight rfl HO_9.out); rintro e w43 ⟨rfl, hy0, hb, hkp⟩; refine ⟨_, rfl, ?_⟩; have n0_ := Aside0.mk (Kd.R_mono (ok' := fun k_ => some k_ ≠ (.slice Ao21 t480.length co21 : Value).ownBlock ∧ some k_ ≠ (v485 : Value).ownBlock ∧ some k_ ≠ (.slice Ao42 t492.length co42 : Value).ownBlock) (Kd.R_keptB (HO_6.out) hkp (fun k_ hk_ hs_ => (hk_.1.1) hs_)) (fun k_ hk_ => ⟨hk_.1.1.1, hk_.1.1.2, hk_.1.2⟩)); have n1_ := HO_8; have n2_ := Aside0.mk (Kd.R_reok rfl hy0 (fun k_ e_ => HO_9.out.1 k_ e_)); have n3_ := Aside0.mk (Kd.R_mono (ok' := fun k_ => some k_ ≠ (v474 : Value).ownBlock ∧ some k_ ≠ (.slice Ao21 t480.length co21 : Value).ownBlock ∧ some k_ ≠ (.slice Ao42 t492.length co42 : Value).ownBlock) (Kd.R_keptB (HO_10.out) hkp (fun k_ hk_ hs_ => (hk_.1.2) hs_)) (fun k_ hk_ => ⟨hk_.1.1.1, hk_.1.1.2, hk_.1.2⟩)); have n4_ := HO490; have n5_ := Aside0.mk (Kd.R_mono (ok' := fun k_ => some k_ ≠ (v474 : Value).ownBlock ∧ some k_ ≠ (.slice Ao21 t480.length co21 : Value).ownBlock ∧ some k_ ≠ (v485 : Value).ownBlock) (Kd.R_keptB (HO494.out) hkp (fun k_ hk_ hs_ => (hk_.1.2) hs_)) (fun k_ hk_ => ⟨hk_.1.1.1.2, hk_.1.1.2, hk_.1.2⟩)); have n6_ := Aside0.mk (hb); clear HO_6; clear HO_8; clear HO_9; clear HO_10; clear HO490; clear HO494; clear HB; have HO_6 := n0_; have HO_8 := n1_; have HO_9 := n2_; have HO_10 := n3_; have HO490 := n4_; have HO494 := n5_; have HB := n6_; clear n0_ n1_ n2_ n3_ n4_ n5_ n6_; (try clear hb); (try clear hkp); (try clear hy0)))
        (try simp only [Act.put, List.setIfInBounds_toArray, List.set_cons_zero, List.set_cons_succ])
        go_cut [80] (fun v80 wc => ∃ (kq : Nat) (x80_37 : Bool), v80 = .bool x80_37 ∧ Aside0 (laws_FnExactSpanBy.j1 kq l0 l1 t473 t476 t483 x80_37 = some r) ∧ Aside0 (kq ≤ kj11) ∧ Aside0 (Kd.R (Kd.int .i64) 3 wc w.heap.size (fun k_ => some k_ ≠ (v485 : Value).ownBlock) v474 t473) ∧ Aside0 (Kd.R (Kd.int .i64) 3 wc w.heap.size (fun k_ => some k_ ≠ (v474 : Value).ownBlock) v485 t483) ∧ Aside0 (Below w.heap.size w wc))
        case first =>
         have H := HC38.out
         clear HC38
         by_cases c44 : t497 < 0
         ·rw [if_pos c44] at H
          have c44b0 : decide (t497 < 0) = true := decide_eq_true c44
          clear c44
          (first | rw [c44b0] | (simp only [i64_w, i32_w]; rw [c44b0]) | skip)
          have H' := Aside0.mk H
          clear H
          go_wp2
          go_meet
          case rel => exact ⟨_, (true), z16_11, H', ⟨by have := HJ11.out; first | omega | exact Nat.le_refl _⟩, ⟨z16_12⟩, ⟨z16_13⟩, ⟨z16_0⟩⟩
         ·rw [if_neg c44] at H
          have c44b0 : decide (t497 < 0) = false := decide_eq_false c44
          clear c44
          (first | rw [c44b0] | (simp only [i64_w, i32_w]; rw [c44b0]) | skip)
          replace H := Option.bind_eq_some_iff.mp H
          obtain ⟨t499, A450, H⟩ := H
          replace H : (if t499 = true then (laws_FnExactSpanBy.j1 kj11 l0 l1 t473 t476 t483 (t484 != t476)) else (laws_FnExactSpanBy.j1 kj11 l0 l1 t473 t476 t483 true)) = some r := H
          have A45 := Aside0.mk A450
          clear A450
          by_cases c46 : t499 = true
          ·subst c46
           have H1 : (laws_FnExactSpanBy.j1 kj11 l0 l1 t473 t476 t483 (t484 != t476)) = some r := by rw [if_pos rfl] at H; exact H
           clear H
           have H := H1
           clear H1
           have H' := Aside0.mk H
           clear H
           obtain ⟨Ao47, co47, eo47⟩ := Kd.R_slice HO_10.out
           subst eo47
           obtain ⟨Ao48, co48, eo48⟩ := Kd.R_slice HO_6.out
           subst eo48
           go_wp2_with (first | (go_at_call 23; (with_reducible refine (laws_eqIntS.calls kj11 _ _ t483 _ _ t473 true _ ?side1 ?side2 ?side3 ?side4 A45.out).mono ?_); (case side1 => exact cZ ((Kd.R_reads' HO_10.out).2.2)); (case side2 => exact (Kd.R_reads' HO_10.out).2.1); (case side3 => exact cZ ((Kd.R_reads' HO_6.out).2.2)); (case side4 => exact (Kd.R_reads' HO_6.out).2.1); rintro e w' ⟨rfl, ⟨nd, rfl⟩⟩))
           go_meet
           case rel => exact ⟨_, ((t484 != t476)), z16_11, H', ⟨by have := HJ11.out; first | omega | exact Nat.le_refl _⟩, ⟨z16_12⟩, ⟨z16_13⟩, ⟨z16_0⟩⟩
          ·replace c46 := Bool.eq_false_iff.mpr c46
           subst c46
           have H1 : (laws_FnExactSpanBy.j1 kj11 l0 l1 t473 t476 t483 true) = some r := by rw [if_neg (show ¬ (false = true) by decide)] at H; exact H
           clear H
           have H := H1
           clear H1
           have H' := Aside0.mk H
           clear H
           obtain ⟨Ao49, co49, eo49⟩ := Kd.R_slice HO_10.out
           subst eo49
           obtain ⟨Ao50, co50, eo50⟩ := Kd.R_slice HO_6.out
           subst eo50
           go_wp2_with (first | (go_at_call 23; (with_reducible refine (laws_eqIntS.calls kj11 _ _ t483 _ _ t473 false _ ?side1 ?side2 ?side3 ?side4 A45.out).mono ?_); (case side1 => exact cZ ((Kd.R_reads' HO_10.out).2.2)); (case side2 => exact (Kd.R_reads' HO_10.out).2.1); (case side3 => exact cZ ((Kd.R_reads' HO_6.out).2.2)); (case side4 => exact (Kd.R_reads' HO_6.out).2.1); rintro e w' ⟨rfl, ⟨nd, rfl⟩⟩))
           go_meet
           case rel => exact ⟨_, (true), z16_11, H', ⟨by have := HJ11.out; first | omega | exact Nat.le_refl _⟩, ⟨z16_12⟩, ⟨z16_13⟩, ⟨z16_0⟩⟩
        case rest =>
         clear HC38
         try clear c1
         try clear c3
         try clear c3b0
         try clear c3b1
         try clear c5
         try clear c5b0
         try clear c29
         try clear c32
         try clear c35
         obtain ⟨kq, x80_37, rfl, HA, HJ37, HO_6, HO_10, HB⟩ := hcut
         cases kq with
         | zero => exact absurd HA.out (by simp [laws_FnExactSpanBy.j1])
         | succ kj37 =>
          have H := HA.out
          clear HA
          simp only [laws_FnExactSpanBy.j1] at H
          by_cases c51 : x80_37 = true
          ·subst c51
           have H1 : (some false) = some r := by rw [if_pos rfl] at H; exact H
           clear H
           have H := H1
           clear H1
           obtain rfl := Option.some.inj H
           go_wp2
           go_ret
           exact ⟨z16_5, z16_0⟩
          ·replace c51 := Bool.eq_false_iff.mpr c51
           subst c51
           have H1 : ((laws_markIntS.f kj37 t483 1).bind fun bt500 => ((laws_heldIntS.f kj37 bt500.2 1).bind fun t502 => (if t502 < 0 then (some false) else (if t502 = bt500.1 then ((laws_toIntSS.f kj37 l0).bind fun t503 => ((laws_toIntS.f kj37 l1).bind fun t506 => ((impl_SpanBy.f kj37 t503 t506).bind fun bt509 => ((laws_eqIntS.f kj37 bt509.1 t473).bind fun t513 => (if t513 = true then (laws_FnExactSpanBy.j2 kj37 bt500.2 bt500.1 (bt509.2 != t476)) else (laws_FnExactSpanBy.j2 kj37 bt500.2 bt500.1 true)))))) else (some false))))) = some r := by rw [if_neg (show ¬ (false = true) by decide)] at H; exact H
           clear H
           have H := H1
           clear H1
           replace H := Option.bind_eq_some_iff.mp H
           obtain ⟨⟨t500, t501⟩, A520, H⟩ := H
           replace H : ((laws_heldIntS.f kj37 t501 1).bind fun t502 => (if t502 < 0 then (some false) else (if t502 = t500 then ((laws_toIntSS.f kj37 l0).bind fun t503 => ((laws_toIntS.f kj37 l1).bind fun t506 => ((impl_SpanBy.f kj37 t503 t506).bind fun bt509 => ((laws_eqIntS.f kj37 bt509.1 t473).bind fun t513 => (if t513 = true then (laws_FnExactSpanBy.j2 kj37 t501 t500 (bt509.2 != t476)) else (laws_FnExactSpanBy.j2 kj37 t501 t500 true)))))) else (some false)))) = some r := H
           have A52 := Aside0.mk A520
           clear A520
           replace H := Option.bind_eq_some_iff.mp H
           obtain ⟨t502, A530, H⟩ := H
           replace H : (if t502 < 0 then (some false) else (if t502 = t500 then ((laws_toIntSS.f kj37 l0).bind fun t503 => ((laws_toIntS.f kj37 l1).bind fun t506 => ((impl_SpanBy.f kj37 t503 t506).bind fun bt509 => ((laws_eqIntS.f kj37 bt509.1 t473).bind fun t513 => (if t513 = true then (laws_FnExactSpanBy.j2 kj37 t501 t500 (bt509.2 != t476)) else (laws_FnExactSpanBy.j2 kj37 t501 t500 true)))))) else (some false))) = some r := H
           have A53 := Aside0.mk A530
           clear A530
           by_cases c54 : t502 < 0
           ·rw [if_pos c54] at H
            have c54b0 : decide (t502 < 0) = true := decide_eq_true c54
            clear c54
            obtain rfl := Option.some.inj H
            obtain ⟨Ao55, co55, eo55⟩ := Kd.R_slice HO_10.out
            subst eo55
            go_wp2_with (first | ((with_reducible refine gate_callee (f := 27) rfl ?_); refine goesL_ (some 83) rfl rfl Try.func27 (by kernel_rfl) rfl #[.slice Ao55 t483.length co55, .int .i64 1] rfl z16_1 ?_; (with_reducible refine (laws_markIntS.calls kj37 (fun k_ => some k_ = (.slice Ao55 t483.length co55 : Value).ownBlock) (.slice Ao55 t483.length co55) t483 1 t500 t501 w _ ?side1 ?side2 A52.out).mono ?_); (case side1 => repeat (first | (with_reducible first | exact HB.out | apply below_alloc | apply pw_below_drewN | apply below_drew1) | exact HB.out)); (case side2 => exact Kd.R_tight rfl HO_10.out); rintro e w56 ⟨rfl, hy0, hb, hkp⟩; refine ⟨_, rfl, ?_⟩; replace HO_6 := Aside0.mk (Kd.R_mono (ok' := fun k_ => some k_ ≠ (.slice Ao55 t483.length co55 : Value).ownBlock) (Kd.R_keptB (HO_6.out) hkp (fun k_ hk_ hs_ => (hk_) hs_)) (fun k_ hk_ => hk_.1)); replace HO_10 := Aside0.mk (Kd.R_reok rfl hy0 (fun k_ e_ => HO_10.out.1 k_ e_)); replace HB := Aside0.mk (hb); (try clear hb); (try clear hkp); (try clear hy0)) | ((with_reducible refine gate_callee (f := 28) rfl ?_); refine goesL_ (some 86) rfl rfl Try.func28 (by kernel_rfl) rfl #[.slice Ao55 t501.length co55, .int .i64 1] rfl z16_10 ?_; (with_reducible refine (laws_heldIntS.calls kj37 _ _ t501 1 t502 _ ?side1 ?side2 A53.out).mono ?_); (case side1 => exact cZ ((Kd.R_reads' HO_10.out).2.2)); (case side2 => rw [show t501.length = t483.length from (Kd.R_reads' HO_10.out).1.symm]; exact (Kd.R_reads' HO_10.out).2.1); rintro e w' ⟨rfl, ⟨nd, rfl⟩⟩; refine ⟨_, rfl, ?_⟩))
            go_ret
            exact ⟨z16_5, z16_0⟩
           ·rw [if_neg c54] at H
            have c54b0 : decide (t502 < 0) = false := decide_eq_false c54
            clear c54
            by_cases c57 : t502 = t500
            ·rw [if_pos c57] at H
             have c57b0 : (t502 == t500) = true := beq_iff_eq.mpr c57
             have c57b1 : (t502 != t500) = false := bne_eq_false_iff_eq.mpr c57
             clear c57
             replace H := Option.bind_eq_some_iff.mp H
             obtain ⟨t503, A580, H⟩ := H
             replace H : ((laws_toIntS.f kj37 l1).bind fun t506 => ((impl_SpanBy.f kj37 t503 t506).bind fun bt509 => ((laws_eqIntS.f kj37 bt509.1 t473).bind fun t513 => (if t513 = true then (laws_FnExactSpanBy.j2 kj37 t501 t500 (bt509.2 != t476)) else (laws_FnExactSpanBy.j2 kj37 t501 t500 true))))) = some r := H
             have A58 := Aside0.mk A580
             clear A580
             replace H := Option.bind_eq_some_iff.mp H
             obtain ⟨t506, A590, H⟩ := H
             replace H : ((impl_SpanBy.f kj37 t503 t506).bind fun bt509 => ((laws_eqIntS.f kj37 bt509.1 t473).bind fun t513 => (if t513 = true then (laws_FnExactSpanBy.j2 kj37 t501 t500 (bt509.2 != t476)) else (laws_FnExactSpanBy.j2 kj37 t501 t500 true)))) = some r := H
             have A59 := Aside0.mk A590
             clear A590
             replace H := Option.bind_eq_some_iff.mp H
             obtain ⟨⟨t509, t510⟩, A600, H⟩ := H
             replace H : ((laws_eqIntS.f kj37 t509 t473).bind fun t513 => (if t513 = true then (laws_FnExactSpanBy.j2 kj37 t501 t500 (t510 != t476)) else (laws_FnExactSpanBy.j2 kj37 t501 t500 true))) = some r := H
             have A60 := Aside0.mk A600
             clear A600
             have HC61 := Aside0.mk H
             clear H
             obtain ⟨Ao62, co62, eo62⟩ := Kd.R_slice HO_10.out
             subst eo62
             go_upto_region 31 with (first | ((with_reducible refine gate_callee (f := 27) rfl ?_); refine goesL_ (some 83) rfl rfl Try.func27 (by kernel_rfl) rfl #[.slice Ao62 t483.length co62, .int .i64 1] rfl z16_1 ?_; (with_reducible refine (laws_markIntS.calls kj37 (fun k_ => some k_ = (.slice Ao62 t483.length co62 : Value).ownBlock) (.slice Ao62 t483.length co62) t483 1 t500 t501 w _ ?side1 ?side2 A52.out).mono ?_); (case side1 => repeat (first | (with_reducible first | exact HB.out | apply below_alloc | apply pw_below_drewN | apply below_drew1) | exact HB.out)); (case side2 => exact Kd.R_tight rfl HO_10.out); rintro e w63 ⟨rfl, hy0, hb, hkp⟩; refine ⟨_, rfl, ?_⟩; replace HO_6 := Aside0.mk (Kd.R_mono (ok' := fun k_ => some k_ ≠ (.slice Ao62 t483.length co62 : Value).ownBlock) (Kd.R_keptB (HO_6.out) hkp (fun k_ hk_ hs_ => (hk_) hs_)) (fun k_ hk_ => hk_.1)); replace HO_10 := Aside0.mk (Kd.R_reok rfl hy0 (fun k_ e_ => HO_10.out.1 k_ e_)); replace HB := Aside0.mk (hb); (try clear hb); (try clear hkp); (try clear hy0)) | ((with_reducible refine gate_callee (f := 28) rfl ?_); refine goesL_ (some 86) rfl rfl Try.func28 (by kernel_rfl) rfl #[.slice Ao62 t501.length co62, .int .i64 1] rfl z16_10 ?_; (with_reducible refine (laws_heldIntS.calls kj37 _ _ t501 1 t502 _ ?side1 ?side2 A53.out).mono ?_); (case side1 => exact cZ ((Kd.R_reads' HO_10.out).2.2)); (case side2 => rw [show t501.length = t483.length from (Kd.R_reads' HO_10.out).1.symm]; exact (Kd.R_reads' HO_10.out).2.1); rintro e w' ⟨rfl, ⟨nd, rfl⟩⟩; refine ⟨_, rfl, ?_⟩) | ((with_reducible refine gate_callee (f := 17) rfl ?_); refine goesL_ (some 94) rfl rfl Try.func17 (by kernel_rfl) rfl #[.slice A0 l0.length c0] rfl z16_1 ?_; (with_reducible refine (laws_toIntSS.calls kj37 _ _ l0 t503 _ ?side1 ?side2 A58.out).mono ?_); (case side1 => repeat (first | exact (Kd.C_below HR0.out z16_0) | (with_reducible refine Kd.C_alloc ?_ _) | (with_reducible refine Kd.C_drewN ?_ _) | (with_reducible refine Kd.C_drew ?_))); (case side2 => exact HC0.out); rintro e w64 ⟨v504, rfl, ho0, hb⟩; refine ⟨_, rfl, ?_⟩; have HO505 := Aside0.mk (Kd.S_lower (Kd.S_new' (Kd.S_new' ho0 (Kd.R_lt z16_3)) (Kd.R_lt z16_2)) (below_size z16_0)); replace HO_6 := Aside0.mk (Kd.R_below z16_3 hb); replace HO_10 := Aside0.mk (Kd.R_below z16_2 hb); replace HB := Aside0.mk (below_step z16_0 hb); (try clear hb); (try clear ho0)) | ((with_reducible refine gate_callee (f := 21) rfl ?_); refine goesL_ (some 96) rfl rfl Try.func21 (by kernel_rfl) rfl #[.slice A1 l1.length c1] rfl z16_1 ?_; (with_reducible refine (laws_toIntS.calls kj37 _ _ l1 t506 _ ?side1 ?side2 A59.out).mono ?_); (case side1 => exact cZ ((Kd.C_below HR1.out HB.out))); (case side2 => exact HC1.out); rintro e w65 ⟨v507, rfl, ho0, hb⟩; refine ⟨_, rfl, ?_⟩; replace HO505 := Aside0.mk (Kd.S_elder' (by (with_reducible repeat (first | apply Kd.S_alloc | apply Kd.S_drewN | apply Kd.S_drew)); exact HO505.out) (Kd.R_base ho0) hb); have HO508 := Aside0.mk (Kd.R_lower (Kd.R_new' (Kd.R_new' ho0 (Kd.R_lt z16_3)) (Kd.R_lt z16_2)) (below_size z16_0)); replace HO_6 := Aside0.mk (Kd.R_elder' z16_3 (Kd.R_base ho0) hb); replace HO_10 := Aside0.mk (Kd.R_elder' z16_2 (Kd.R_base ho0) hb); replace HB := Aside0.mk (below_step z16_0 hb); (try clear hb); (try clear ho0); obtain ⟨Ao66, co66, eo66⟩ := Kd.S_slice HO505.out; subst eo66; obtain ⟨Ao67, co67, eo67⟩ := Kd.R_slice HO508.out; subst eo67) | ((with_reducible refine gate_callee (f := 30) rfl ?_); refine goesL_ (some 97) rfl rfl Try.func30 (by kernel_rfl) rfl #[.slice Ao66 t503.length co66, .slice Ao67 t506.length co67] rfl z16_1 ?_; (with_reducible refine (impl_SpanBy.calls kj37 _ _ t503 _ _ t506 t509 t510 _ ?side1 ?side2 ?side3 ?side4 A60.out).mono ?_); (case side1 => exact cZ ((Kd.S_reads' HO505.out).2.2)); (case side2 => exact (Kd.S_reads' HO505.out).2.1); (case side3 => exact cZ ((Kd.R_reads' HO508.out).2.2)); (case side4 => exact (Kd.R_reads' HO508.out).2.1); rintro e w68 ⟨v511, rfl, ho0, hb⟩; refine ⟨_, rfl, ?_⟩; replace HO505 := Aside0.mk (Kd.S_elder' (by (with_reducible repeat (first | apply Kd.S_alloc | apply Kd.S_drewN | apply Kd.S_drew)); exact HO505.out) (Kd.R_base ho0) hb); have HO512 := Aside0.mk (Kd.R_lower (Kd.R_new' (Kd.R_new' (Kd.R_new' ho0 (Kd.R_lt z16_3)) (Kd.R_lt z16_2)) (Kd.R_lt (by (with_reducible repeat (first | apply Kd.R_alloc | apply Kd.R_drewN | apply Kd.R_drew)); exact HO508.out))) (below_size z16_0)); replace HO_6 := Aside0.mk (Kd.R_elder' z16_3 (Kd.R_base ho0) hb); replace HO_10 := Aside0.mk (Kd.R_elder' z16_2 (Kd.R_base ho0) hb); replace HO508 := Aside0.mk (Kd.R_elder' (by (with_reducible repeat (first | apply Kd.R_alloc | apply Kd.R_drewN | apply Kd.R_drew)); exact HO508.out) (Kd.R_base ho0) hb); replace HB := Aside0.mk (below_step z16_0 hb); (try clear hb); (try clear ho0)))
             (try simp only [Act.put, List.setIfInBounds_toArray, List.set_cons_zero, List.set_cons_succ])
             go_cut [108] (fun v108 wc => ∃ (kq : Nat) (x108_60 : Bool), v108 = .bool x108_60 ∧ Aside0 (laws_FnExactSpanBy.j2 kq t501 t500 x108_60 = some r) ∧ Aside0 (kq ≤ kj37) ∧ Aside0 (Kd.R (Kd.int .i64) 3 wc w.heap.size (fun _ => True) (.slice Ao62 t483.length co62) t501) ∧ Aside0 (Below w.heap.size w wc))
             case first =>
              have H := HC61.out
              clear HC61
              replace H := Option.bind_eq_some_iff.mp H
              obtain ⟨t513, A690, H⟩ := H
              replace H : (if t513 = true then (laws_FnExactSpanBy.j2 kj37 t501 t500 (t510 != t476)) else (laws_FnExactSpanBy.j2 kj37 t501 t500 true)) = some r := H
              have A69 := Aside0.mk A690
              clear A690
              by_cases c70 : t513 = true
              ·subst c70
               have H1 : (laws_FnExactSpanBy.j2 kj37 t501 t500 (t510 != t476)) = some r := by rw [if_pos rfl] at H; exact H
               clear H
               have H := H1
               clear H1
               have H' := Aside0.mk H
               clear H
               obtain ⟨Ao71, co71, eo71⟩ := Kd.R_slice HO512.out
               subst eo71
               obtain ⟨Ao72, co72, eo72⟩ := Kd.R_slice HO_6.out
               subst eo72
               go_wp2_with (first | ((with_reducible refine gate_callee (f := 23) rfl ?_); refine goesL_ (some 102) rfl rfl Try.func23 (by kernel_rfl) rfl #[.slice Ao71 t509.length co71, .slice Ao72 t473.length co72] rfl z16_1 ?_; (with_reducible refine (laws_eqIntS.calls kj37 _ _ t509 _ _ t473 true _ ?side1 ?side2 ?side3 ?side4 A69.out).mono ?_); (case side1 => exact cZ ((Kd.R_reads' HO512.out).2.2)); (case side2 => exact (Kd.R_reads' HO512.out).2.1); (case side3 => exact cZ ((Kd.R_reads' HO_6.out).2.2)); (case side4 => exact (Kd.R_reads' HO_6.out).2.1); rintro e w' ⟨rfl, ⟨nd, rfl⟩⟩; refine ⟨_, rfl, ?_⟩))
               go_meet
               case rel => exact ⟨_, ((t510 != t476)), z16_11, H', ⟨by have := HJ11.out; have := HJ37.out; first | omega | exact Nat.le_refl _⟩, ⟨z16_18⟩, ⟨z16_0⟩⟩
              ·replace c70 := Bool.eq_false_iff.mpr c70
               subst c70
               have H1 : (laws_FnExactSpanBy.j2 kj37 t501 t500 true) = some r := by rw [if_neg (show ¬ (false = true) by decide)] at H; exact H
               clear H
               have H := H1
               clear H1
               have H' := Aside0.mk H
               clear H
               obtain ⟨Ao73, co73, eo73⟩ := Kd.R_slice HO512.out
               subst eo73
               obtain ⟨Ao74, co74, eo74⟩ := Kd.R_slice HO_6.out
               subst eo74
               go_wp2_with (first | ((with_reducible refine gate_callee (f := 23) rfl ?_); refine goesL_ (some 102) rfl rfl Try.func23 (by kernel_rfl) rfl #[.slice Ao73 t509.length co73, .slice Ao74 t473.length co74] rfl z16_1 ?_; (with_reducible refine (laws_eqIntS.calls kj37 _ _ t509 _ _ t473 false _ ?side1 ?side2 ?side3 ?side4 A69.out).mono ?_); (case side1 => exact cZ ((Kd.R_reads' HO512.out).2.2)); (case side2 => exact (Kd.R_reads' HO512.out).2.1); (case side3 => exact cZ ((Kd.R_reads' HO_6.out).2.2)); (case side4 => exact (Kd.R_reads' HO_6.out).2.1); rintro e w' ⟨rfl, ⟨nd, rfl⟩⟩; refine ⟨_, rfl, ?_⟩))
               go_meet
               case rel => exact ⟨_, (true), z16_11, H', ⟨by have := HJ11.out; have := HJ37.out; first | omega | exact Nat.le_refl _⟩, ⟨z16_18⟩, ⟨z16_0⟩⟩
             case rest =>
              clear HC61
              try clear c1
              try clear c3
              try clear c3b0
              try clear c3b1
              try clear c5
              try clear c5b0
              try clear c29
              try clear c32
              try clear c35
              try clear c51
              try clear c54
              try clear c54b0
              try clear c57
              try clear c57b0
              try clear c57b1
              obtain ⟨kq, x108_60, rfl, HA, HJ60, HO_10, HB⟩ := hcut
              have hl10_60 := (Kd.R_reads' HO_10.out).1
              rw [hl10_60] at HO_10
              (try simp only [hl10_60])
              cases kq with
              | zero => exact absurd HA.out (by simp [laws_FnExactSpanBy.j2])
              | succ kj60 =>
               have H := HA.out
               clear HA
               simp only [laws_FnExactSpanBy.j2] at H
               by_cases c75 : x108_60 = true
               ·subst c75
                have H1 : (some false) = some r := by rw [if_pos rfl] at H; exact H
                clear H
                have H := H1
                clear H1
                obtain rfl := Option.some.inj H
                go_wp2
                go_ret
                exact ⟨z16_5, z16_0⟩
               ·replace c75 := Bool.eq_false_iff.mpr c75
                subst c75
                have H1 : ((laws_heldIntS.f kj60 t501 1).bind fun t514 => (if t514 < 0 then (some false) else (if t514 = t500 then (some true) else (some false)))) = some r := by rw [if_neg (show ¬ (false = true) by decide)] at H; exact H
                clear H
                have H := H1
                clear H1
                replace H := Option.bind_eq_some_iff.mp H
                obtain ⟨t514, A760, H⟩ := H
                replace H : (if t514 < 0 then (some false) else (if t514 = t500 then (some true) else (some false))) = some r := H
                have A76 := Aside0.mk A760
                clear A760
                by_cases c77 : t514 < 0
                ·rw [if_pos c77] at H
                 have c77b0 : decide (t514 < 0) = true := decide_eq_true c77
                 clear c77
                 obtain rfl := Option.some.inj H
                 go_wp2_with (first | ((with_reducible refine gate_callee (f := 28) rfl ?_); refine goesL_ (some 111) rfl rfl Try.func28 (by kernel_rfl) rfl #[.slice Ao62 t501.length co62, .int .i64 1] rfl z16_1 ?_; (with_reducible refine (laws_heldIntS.calls kj60 _ _ t501 1 t514 _ ?side1 ?side2 A76.out).mono ?_); (case side1 => exact cZ ((Kd.R_reads' HO_10.out).2.2)); (case side2 => exact (Kd.R_reads' HO_10.out).2.1); rintro e w' ⟨rfl, ⟨nd, rfl⟩⟩; refine ⟨_, rfl, ?_⟩))
                 go_ret
                 exact ⟨z16_5, z16_0⟩
                ·rw [if_neg c77] at H
                 have c77b0 : decide (t514 < 0) = false := decide_eq_false c77
                 clear c77
                 by_cases c78 : t514 = t500
                 ·rw [if_pos c78] at H
                  have c78b0 : (t514 == t500) = true := beq_iff_eq.mpr c78
                  have c78b1 : (t514 != t500) = false := bne_eq_false_iff_eq.mpr c78
                  clear c78
                  obtain rfl := Option.some.inj H
                  go_wp2_with (first | ((with_reducible refine gate_callee (f := 28) rfl ?_); refine goesL_ (some 111) rfl rfl Try.func28 (by kernel_rfl) rfl #[.slice Ao62 t501.length co62, .int .i64 1] rfl z16_1 ?_; (with_reducible refine (laws_heldIntS.calls kj60 _ _ t501 1 t514 _ ?side1 ?side2 A76.out).mono ?_); (case side1 => exact cZ ((Kd.R_reads' HO_10.out).2.2)); (case side2 => exact (Kd.R_reads' HO_10.out).2.1); rintro e w' ⟨rfl, ⟨nd, rfl⟩⟩; refine ⟨_, rfl, ?_⟩))
                  go_ret
                  exact ⟨z16_5, z16_0⟩
                 ·rw [if_neg c78] at H
                  have c78b0 : (t514 == t500) = false := beq_eq_false_iff_ne.mpr c78
                  have c78b1 : (t514 != t500) = true := bne_iff_ne.mpr c78
                  obtain rfl := Option.some.inj H
                  go_wp2_with (first | ((with_reducible refine gate_callee (f := 28) rfl ?_); refine goesL_ (some 111) rfl rfl Try.func28 (by kernel_rfl) rfl #[.slice Ao62 t501.length co62, .int .i64 1] rfl z16_1 ?_; (with_reducible refine (laws_heldIntS.calls kj60 _ _ t501 1 t514 _ ?side1 ?side2 A76.out).mono ?_); (case side1 => exact cZ ((Kd.R_reads' HO_10.out).2.2)); (case side2 => exact (Kd.R_reads' HO_10.out).2.1); rintro e w' ⟨rfl, ⟨nd, rfl⟩⟩; refine ⟨_, rfl, ?_⟩))
                  go_ret
                  exact ⟨z16_5, z16_0⟩
            ·rw [if_neg c57] at H
             have c57b0 : (t502 == t500) = false := beq_eq_false_iff_ne.mpr c57
             have c57b1 : (t502 != t500) = true := bne_iff_ne.mpr c57
             obtain rfl := Option.some.inj H
             obtain ⟨Ao79, co79, eo79⟩ := Kd.R_slice HO_10.out
             subst eo79
             go_wp2_with (first | ((with_reducible refine gate_callee (f := 27) rfl ?_); refine goesL_ (some 83) rfl rfl Try.func27 (by kernel_rfl) rfl #[.slice Ao79 t483.length co79, .int .i64 1] rfl z16_1 ?_; (with_reducible refine (laws_markIntS.calls kj37 (fun k_ => some k_ = (.slice Ao79 t483.length co79 : Value).ownBlock) (.slice Ao79 t483.length co79) t483 1 t500 t501 w _ ?side1 ?side2 A52.out).mono ?_); (case side1 => repeat (first | (with_reducible first | exact HB.out | apply below_alloc | apply pw_below_drewN | apply below_drew1) | exact HB.out)); (case side2 => exact Kd.R_tight rfl HO_10.out); rintro e w80 ⟨rfl, hy0, hb, hkp⟩; refine ⟨_, rfl, ?_⟩; replace HO_6 := Aside0.mk (Kd.R_mono (ok' := fun k_ => some k_ ≠ (.slice Ao79 t483.length co79 : Value).ownBlock) (Kd.R_keptB (HO_6.out) hkp (fun k_ hk_ hs_ => (hk_) hs_)) (fun k_ hk_ => hk_.1)); replace HO_10 := Aside0.mk (Kd.R_reok rfl hy0 (fun k_ e_ => HO_10.out.1 k_ e_)); replace HB := Aside0.mk (hb); (try clear hb); (try clear hkp); (try clear hy0)) | ((with_reducible refine gate_callee (f := 28) rfl ?_); refine goesL_ (some 86) rfl rfl Try.func28 (by kernel_rfl) rfl #[.slice Ao79 t501.length co79, .int .i64 1] rfl z16_10 ?_; (with_reducible refine (laws_heldIntS.calls kj37 _ _ t501 1 t502 _ ?side1 ?side2 A53.out).mono ?_); (case side1 => exact cZ ((Kd.R_reads' HO_10.out).2.2)); (case side2 => rw [show t501.length = t483.length from (Kd.R_reads' HO_10.out).1.symm]; exact (Kd.R_reads' HO_10.out).2.1); rintro e w' ⟨rfl, ⟨nd, rfl⟩⟩; refine ⟨_, rfl, ?_⟩))
             go_ret
             exact ⟨z16_5, z16_0⟩
       ·replace c35 := Bool.eq_false_iff.mpr c35
        subst c35
        have H1 : (some false) = some r := by rw [if_neg (show ¬ (false = true) by decide)] at H; exact H
        clear H
        have H := H1
        clear H1
        obtain rfl := Option.some.inj H
        go_wp2_with (first | ((with_reducible refine gate_callee (f := 17) rfl ?_); refine goesL_ (some 54) rfl rfl Try.func17 (by kernel_rfl) rfl #[.slice A0 l0.length c0] rfl z16_1 ?_; (with_reducible refine (laws_toIntSS.calls kj11 _ _ l0 t488 _ ?side1 ?side2 A30.out).mono ?_); (case side1 => exact cZ ((Kd.C_below HR0.out HB.out))); (case side2 => exact HC0.out); rintro e w81 ⟨v489, rfl, ho0, hb⟩; refine ⟨_, rfl, ?_⟩; have HO490 := Aside0.mk (Kd.S_lower (Kd.S_new' (Kd.S_new' (Kd.S_new' (Kd.S_new' ho0 (Kd.R_lt z16_3)) (Kd.S_lt z16_7)) (Kd.R_lt z16_4)) (Kd.R_lt z16_2)) (below_size z16_0)); replace HO_6 := Aside0.mk (Kd.R_below z16_3 hb); replace HO_8 := Aside0.mk (Kd.S_elder' z16_7 (Kd.S_base ho0) hb); replace HO_9 := Aside0.mk (Kd.R_below z16_4 hb); replace HO_10 := Aside0.mk (Kd.R_below z16_2 hb); replace HB := Aside0.mk (below_step z16_0 hb); (try clear hb); (try clear ho0); obtain ⟨Ao82, co82, eo82⟩ := Kd.S_slice HO490.out; subst eo82) | ((with_reducible refine gate_callee (f := 19) rfl ?_); refine goesL_ (some 55) rfl rfl Try.func19 (by kernel_rfl) rfl #[.slice Ao20 t477.length co20, .slice Ao82 t488.length co82] rfl z16_1 ?_; (with_reducible refine (laws_eqIntSS.calls kj11 _ _ t477 _ _ t488 true _ ?side1 ?side2 ?side3 ?side4 A31.out).mono ?_); (case side1 => exact cZ ((Kd.S_reads' HO_8.out).2.2)); (case side2 => exact (Kd.S_reads' HO_8.out).2.1); (case side3 => exact cZ ((Kd.S_reads' HO490.out).2.2)); (case side4 => exact (Kd.S_reads' HO490.out).2.1); rintro e w' ⟨rfl, ⟨nd, rfl⟩⟩; refine ⟨_, rfl, ?_⟩) | ((with_reducible refine gate_callee (f := 21) rfl ?_); refine goesL_ (some 59) rfl rfl Try.func21 (by kernel_rfl) rfl #[.slice A1 l1.length c1] rfl z16_1 ?_; (with_reducible refine (laws_toIntS.calls kj11 _ _ l1 t492 _ ?side1 ?side2 A33.out).mono ?_); (case side1 => repeat (first | exact (Kd.C_below HR1.out z16_0) | (with_reducible refine Kd.C_alloc ?_ _) | (with_reducible refine Kd.C_drewN ?_ _) | (with_reducible refine Kd.C_drew ?_))); (case side2 => exact HC1.out); rintro e w83 ⟨v493, rfl, ho0, hb⟩; refine ⟨_, rfl, ?_⟩; replace HO_8 := Aside0.mk (Kd.S_elder' z16_7 (Kd.R_base ho0) hb); replace HO490 := Aside0.mk (Kd.S_elder' (by (with_reducible repeat (first | apply Kd.S_alloc | apply Kd.S_drewN | apply Kd.S_drew)); exact HO490.out) (Kd.R_base ho0) hb); have HO494 := Aside0.mk (Kd.R_lower (Kd.R_new' (Kd.R_new' (Kd.R_new' ho0 (Kd.R_lt z16_3)) (Kd.R_lt z16_4)) (Kd.R_lt z16_2)) (below_size z16_0)); replace HO_6 := Aside0.mk (Kd.R_elder' z16_3 (Kd.R_base ho0) hb); replace HO_9 := Aside0.mk (Kd.R_elder' z16_4 (Kd.R_base ho0) hb); replace HO_10 := Aside0.mk (Kd.R_elder' z16_2 (Kd.R_base ho0) hb); replace HB := Aside0.mk (below_step z16_0 hb); (try clear hb); (try clear ho0); obtain ⟨Ao84, co84, eo84⟩ := Kd.R_slice HO494.out; subst eo84) | ((with_reducible refine gate_callee (f := 23) rfl ?_); refine goesL_ (some 60) rfl rfl Try.func23 (by kernel_rfl) rfl #[.slice Ao21 t480.length co21, .slice Ao84 t492.length co84] rfl z16_1 ?_; (with_reducible refine (laws_eqIntS.calls kj11 _ _ t480 _ _ t492 false _ ?side1 ?side2 ?side3 ?side4 A34.out).mono ?_); (case side1 => exact cZ ((Kd.R_reads' HO_9.out).2.2)); (case side2 => exact (Kd.R_reads' HO_9.out).2.1); (case side3 => exact cZ ((Kd.R_reads' HO494.out).2.2)); (case side4 => exact (Kd.R_reads' HO494.out).2.1); rintro e w' ⟨rfl, ⟨nd, rfl⟩⟩; refine ⟨_, rfl, ?_⟩))
        go_ret
        exact ⟨z16_5, z16_0⟩
      ·replace c32 := Bool.eq_false_iff.mpr c32
       subst c32
       have H1 : (some false) = some r := by rw [if_neg (show ¬ (false = true) by decide)] at H; exact H
       clear H
       have H := H1
       clear H1
       obtain rfl := Option.some.inj H
       go_wp2_with (first | ((with_reducible refine gate_callee (f := 17) rfl ?_); refine goesL_ (some 54) rfl rfl Try.func17 (by kernel_rfl) rfl #[.slice A0 l0.length c0] rfl z16_1 ?_; (with_reducible refine (laws_toIntSS.calls kj11 _ _ l0 t488 _ ?side1 ?side2 A30.out).mono ?_); (case side1 => exact cZ ((Kd.C_below HR0.out HB.out))); (case side2 => exact HC0.out); rintro e w85 ⟨v489, rfl, ho0, hb⟩; refine ⟨_, rfl, ?_⟩; have HO490 := Aside0.mk (Kd.S_lower (Kd.S_new' (Kd.S_new' (Kd.S_new' (Kd.S_new' ho0 (Kd.R_lt z16_3)) (Kd.S_lt z16_7)) (Kd.R_lt z16_4)) (Kd.R_lt z16_2)) (below_size z16_0)); replace HO_6 := Aside0.mk (Kd.R_below z16_3 hb); replace HO_8 := Aside0.mk (Kd.S_elder' z16_7 (Kd.S_base ho0) hb); replace HO_9 := Aside0.mk (Kd.R_below z16_4 hb); replace HO_10 := Aside0.mk (Kd.R_below z16_2 hb); replace HB := Aside0.mk (below_step z16_0 hb); (try clear hb); (try clear ho0); obtain ⟨Ao86, co86, eo86⟩ := Kd.S_slice HO490.out; subst eo86) | ((with_reducible refine gate_callee (f := 19) rfl ?_); refine goesL_ (some 55) rfl rfl Try.func19 (by kernel_rfl) rfl #[.slice Ao20 t477.length co20, .slice Ao86 t488.length co86] rfl z16_1 ?_; (with_reducible refine (laws_eqIntSS.calls kj11 _ _ t477 _ _ t488 false _ ?side1 ?side2 ?side3 ?side4 A31.out).mono ?_); (case side1 => exact cZ ((Kd.S_reads' HO_8.out).2.2)); (case side2 => exact (Kd.S_reads' HO_8.out).2.1); (case side3 => exact cZ ((Kd.S_reads' HO490.out).2.2)); (case side4 => exact (Kd.S_reads' HO490.out).2.1); rintro e w' ⟨rfl, ⟨nd, rfl⟩⟩; refine ⟨_, rfl, ?_⟩))
       go_ret
       exact ⟨z16_5, z16_0⟩

end Go.Proofs.Ytbhmgbeebhmfkaa.PA
