-- Written by a program of this session (after the manner of the kit's print, several laws in one text).
import Derived.Test.YtamaejafddmagaaPAx0
import Derived.Test.YtamaejafddmagaaPAx6
import Derived.Test.YtamaejafddmagaaGw
import Derived.Test.YtamaejafddmagaaGm
import Derived.Test.YtamaejafddmagaaGc
namespace Go.Proofs.Ytamaejafddmagaa.PA
open Go.RowKit Go.Proofs.YtamaejafddmagaaW.PrintWords Go.Proofs.YtamaejafddmagaaW.PrintLast Go.Proofs.YtamaejafddmagaaW.PrintMore
attribute [local go_sem] max2_int min2_int max_two min_two max_three min_three max_four min_four   -- for this text's walks alone
set_option linter.unusedVariables false
set_option linter.unusedSimpArgs false

/-! ### spec_l3Less: function 122 -/
theorem z7_0 {p : Prop} (h : p := by repeat (first | (with_reducible first | exact HB.out | apply below_alloc | apply pw_below_drewN | apply below_drew1) | exact HB.out | (with_reducible exact Below.refl _ _))) : p := h
theorem z7_1 {p : Prop} (h : p := by (try simp only [List.map_toArray, List.map_cons, List.map_nil]); first | done | rfl | (simp only [List.length_drop, List.length_take]; rfl)) : p := h
theorem z7_2 {p : Prop} (h : p := by first | exact ((HB.out.cell (World.block_lt_of_cell? w _ hw267_0)).trans hw267_0) | (have h_ := (HB.out.cell (World.block_lt_of_cell? w _ hw267_0)).trans hw267_0; simpa using h_) | simpa using hw267_0) : p := h
theorem z7_3 {p : Prop} (h : p := by first | exact ((HB.out.cell (World.block_lt_of_cell? w _ hw268_0)).trans hw268_0) | (have h_ := (HB.out.cell (World.block_lt_of_cell? w _ hw268_0)).trans hw268_0; simpa using h_) | simpa using hw268_0) : p := h
theorem z7_4 {p : Prop} (h : p := by first | (with_reducible assumption) | assumption) : p := h
def spec_l3Less.f (k : Nat) (l0 : List Int) (l1 : List Int) : Option (List Int) := (spec_l2Lead.f k l1).bind fun t266 => (if 0 ≤ t266 then (if t266 < (l0.length : Int) then (if t266 < (l1.length : Int) then ((spec_l1Inv.f k (rd l1 t266)).bind fun t269 => ((spec_l2Scale.f k l1 (Int.tmod (wrap64 (31 - (Int.tmod (wrap64 ((rd l0 t266) * t269)) 31))) 31)).bind fun t270 => ((spec_l2Sum.f k l0 t270).bind fun t273 => (some t273)))) else (none)) else (none)) else (none))
def spec_l3Less.T2 : Bool × List (List Nat × List Nat) := (true, [([], []), ([], []), ([], []), ([], []), ([2, 3], [2, 3]), ([4], [4]), ([], []), ([], []), ([6, 7], [6, 7]), ([8], [8]), ([9], [9]), ([5, 10], [5, 10]), ([11], [11]), ([12], [12]), ([13], [13]), ([1, 14, 10], [1, 14]), ([0, 15, 15], [0, 15]), ([16, 16, 0, 1, 2, 3, 4, 5, 6, 7, 8, 9, 10, 11, 12, 13, 14, 15, 16], [16])])
def spec_l3Less.B2 : List Nat := [0, 0, 0, 0, 12, 28, 0, 0, 192, 448, 960, 2044, 4092, 8188, 16380, 32766, 65535, 131071]
theorem spec_l3Less.tab2 : rtab .any (opsOf Try.f122 2) = spec_l3Less.T2 := by kernel_rfl
theorem spec_l3Less.bits2 : waitsOk spec_l3Less.T2.2 spec_l3Less.B2 = true := by kernel_rfl
set_option maxHeartbeats 8000000 in
set_option maxRecDepth 100000 in
theorem spec_l3Less.calls (k : Nat) (A0 : Option Addr) (c0 : Nat) (l0 : List Int) (A1 : Option Addr) (c1 : Nat) (l1 : List Int) (r : List Int) (w : World) (hr0 : Kd.C (Kd.int .i64) w A0 l0.length l0) (hc0 : l0.length ≤ c0) (hr1 : Kd.C (Kd.int .i64) w A1 l1.length l1) (hc1 : l1.length ≤ c1) (h : spec_l3Less.f k l0 l1 = some r) :
  Calls Try.prog 122 #[.slice A0 l0.length c0, .slice A1 l1.length c1] w fun e w' => ∃ v0_ : Value, e = .returned (v0_) ∧ Kd.R (Kd.int .i64) 3 w' w.heap.size (fun _ => True) v0_ r ∧ Below w.heap.size w w' := by
 have HR0 := Aside0.mk hr0
 have HC0 := Aside0.mk hc0
 clear hr0 hc0
 have HR1 := Aside0.mk hr1
 have HC1 := Aside0.mk hc1
 clear hr1 hc1
 have HB := Aside0.mk (Below.refl w.heap.size w)
 have H : ((spec_l2Lead.f k l1).bind fun t266 => (if 0 ≤ t266 then (if t266 < (l0.length : Int) then (if t266 < (l1.length : Int) then ((spec_l1Inv.f k (rd l1 t266)).bind fun t269 => ((spec_l2Scale.f k l1 (Int.tmod (wrap64 (31 - (Int.tmod (wrap64 ((rd l0 t266) * t269)) 31))) 31)).bind fun t270 => ((spec_l2Sum.f k l0 t270).bind fun t273 => (some t273)))) else (none)) else (none)) else (none))) = some r := h
 clear h
 replace H := Option.bind_eq_some_iff.mp H
 obtain ⟨t266, A30, H⟩ := H
 replace H : (if 0 ≤ t266 then (if t266 < (l0.length : Int) then (if t266 < (l1.length : Int) then ((spec_l1Inv.f k (rd l1 t266)).bind fun t269 => ((spec_l2Scale.f k l1 (Int.tmod (wrap64 (31 - (Int.tmod (wrap64 ((rd l0 t266) * t269)) 31))) 31)).bind fun t270 => ((spec_l2Sum.f k l0 t270).bind fun t273 => (some t273)))) else (none)) else (none)) else (none)) = some r := H
 have A3 := Aside0.mk A30
 clear A30
 obtain ⟨c4, H⟩ := ifP H
 have c4b0 : decide (0 ≤ t266) = true := decide_eq_true c4
 clear c4
 obtain ⟨c5, H⟩ := ifP H
 have c5b0 : decide (t266 < (l0.length : Int)) = true := decide_eq_true c5
 clear c5
 obtain ⟨c6, H⟩ := ifP H
 have c6b0 : decide (t266 < (l1.length : Int)) = true := decide_eq_true c6
 clear c6
 replace H := Option.bind_eq_some_iff.mp H
 obtain ⟨t269, A70, H⟩ := H
 replace H : ((spec_l2Scale.f k l1 (Int.tmod (wrap64 (31 - (Int.tmod (wrap64 ((rd l0 t266) * t269)) 31))) 31)).bind fun t270 => ((spec_l2Sum.f k l0 t270).bind fun t273 => (some t273))) = some r := H
 have A7 := Aside0.mk A70
 clear A70
 replace H := Option.bind_eq_some_iff.mp H
 obtain ⟨t270, A80, H⟩ := H
 replace H : ((spec_l2Sum.f k l0 t270).bind fun t273 => (some t273)) = some r := H
 have A8 := Aside0.mk A80
 clear A80
 replace H := Option.bind_eq_some_iff.mp H
 obtain ⟨t273, A90, H⟩ := H
 replace H : (some t273) = some r := H
 have A9 := Aside0.mk A90
 clear A90
 obtain rfl := Option.some.inj H
 go_enter Try.func122, Try.ntmps122
 try go_wp2_with (first | ((with_reducible refine gate_callee (f := 123) rfl ?_); refine goesL_ (some 7) rfl rfl Try.func123 (by kernel_rfl) rfl #[.slice A1 l1.length c1] rfl z7_1 ?_; (with_reducible refine (spec_l2Lead.calls k _ _ l1 t266 _ ?side1 ?side2 A3.out).mono ?_); (case side1 => exact cZ (HR1.out)); (case side2 => exact HC1.out); rintro e w' ⟨rfl, ⟨nd, rfl⟩⟩; refine ⟨_, rfl, ?_⟩))
 replace HB := Aside0.mk (below_drew1 HB.out)
 have p267 : 0 ≤ (t266 : Int) := of_decide_eq_true z7_4
 have q267 : t266 < (l0.length : Int) := of_decide_eq_true z7_4
 obtain ⟨ad267, e267, hx267_0⟩ := Kd.at_int HR0.out t266 p267 q267
 have hw267_0 := hx267_0
 cases e267
 replace hx267_0 := (HB.out.cell (World.block_lt_of_cell? w _ hx267_0)).trans hx267_0
 replace p267 := eq_true p267
 replace q267 := eq_true q267
 have p268 : 0 ≤ (t266 : Int) := of_decide_eq_true z7_4
 have q268 : t266 < (l1.length : Int) := of_decide_eq_true z7_4
 obtain ⟨ad268, e268, hx268_0⟩ := Kd.at_int HR1.out t266 p268 q268
 have hw268_0 := hx268_0
 cases e268
 replace hx268_0 := (HB.out.cell (World.block_lt_of_cell? w _ hx268_0)).trans hx268_0
 replace p268 := eq_true p268
 replace q268 := eq_true q268
 refine start_ (n := 18) (S := fun w' => w'.cell? (ad267.add (t266).toNat) = some (.int .i64 (rd l0 t266)) ∧ w'.cell? (ad268.add (t266).toNat) = some (.int .i64 (rd l1 t266))) (ds := []) #[false, false, false, false, false, false, false, false, false, false, false, false, false, false, false, false, false, false] (by kernel_rfl) rfl rfl ⟨((HB.out.cell (World.block_lt_of_cell? w _ hw267_0)).trans hw267_0), ((HB.out.cell (World.block_lt_of_cell? w _ hw268_0)).trans hw268_0)⟩ (fun hHeld => ?_); refine with_tabW spec_l3Less.tab2 spec_l3Less.bits2 (fun HT_ HW_ => ?_)
 generalize w.drew = w10 at HB hx267_0 hx268_0 hHeld ⊢
 refine pZ 0 HT_ ?_
 refine pZ 1 HT_ ?_
 refine pZ 2 HT_ ?_
 refine pZ 3 HT_ ?_
 refine pZ 4 HT_ ?_
 refine pZ 6 HT_ ?_
 refine pZ 7 HT_ ?_
 refine pZ 8 HT_ ?_
 refine tZ 5 hHeld HT_ HW_ ?_
 refine tZ 9 hHeld HT_ HW_ ?_
 refine oZ 10 HT_ (fun K hK => ?_)
 refine goes_ Try.func124 (by kernel_rfl) rfl #[.int .i64 (rd l1 t266)] (by rfl) rfl rfl z7_1 ?_
 with_reducible refine (spec_l1Inv.calls k (rd l1 t266) t269 _ A7.out).mono ?_
 rintro e w' ⟨rfl, ⟨nd, rfl⟩⟩
 refine ⟨_, rfl, ?_⟩
 refine hK.out _ _ ⟨z7_2, z7_3⟩ (fun hHeld => ?_)
 clear hK K
 refine nZ ?_
 refine pZ 11 HT_ ?_
 refine pZ 12 HT_ ?_
 refine pZ 13 HT_ ?_
 refine pZ 14 HT_ ?_
 refine oZ 15 HT_ (fun K hK => ?_)
 refine goes_ Try.func91 (by kernel_rfl) rfl #[.slice (some ad268) l1.length c1, .int .i64 (Int.tmod (wrap64 (31 - (Int.tmod (wrap64 ((rd l0 t266) * t269)) 31))) 31)] (by rfl) rfl rfl z7_1 ?_
 with_reducible refine (spec_l2Scale.calls k _ _ l1 (Int.tmod (wrap64 (31 - (Int.tmod (wrap64 ((rd l0 t266) * t269)) 31))) 31) t270 _ ?side1 ?side2 A8.out).mono ?_
 (case side1 => repeat (first | exact (Kd.C_below HR1.out z7_0) | (with_reducible refine Kd.C_alloc ?_ _) | (with_reducible refine Kd.C_drewN ?_ _) | (with_reducible refine Kd.C_drew ?_)))
 (case side2 => exact HC1.out)
 rintro e w11 ⟨v271, rfl, ho0, hb⟩
 refine ⟨_, rfl, ?_⟩
 have HO272 := Aside0.mk (Kd.R_lower ho0 (below_size z7_0))
 replace HB := Aside0.mk (below_step z7_0 hb)
 (try clear hb)
 (try clear hb2)
 (try clear hk)
 (try clear hi)
 (try clear ho0)
 obtain ⟨Ao12, co12, eo12⟩ := Kd.R_slice HO272.out
 (first | subst eo12 | (injection eo12 with f1_ f2_ f3_; have f4_ := f1_.symm; have f5_ := f3_.symm; clear f1_ f2_ f3_; subst f4_; subst f5_))
 refine hK.out _ _ ⟨z7_2, z7_3⟩ (fun hHeld => ?_)
 clear hK K
 refine nZ ?_
 refine oZ 16 HT_ (fun K hK => ?_)
 refine goes_ Try.func90 (by kernel_rfl) rfl #[.slice (some ad267) l0.length c0, .slice Ao12 t270.length co12] (by rfl) rfl rfl z7_1 ?_
 with_reducible refine (spec_l2Sum.calls k _ _ l0 _ _ t270 t273 _ ?side1 ?side2 ?side3 ?side4 A9.out).mono ?_
 (case side1 => exact cZ ((Kd.C_below HR0.out HB.out)))
 (case side2 => exact HC0.out)
 (case side3 => exact cZ ((Kd.R_reads' HO272.out).2.2))
 (case side4 => exact (Kd.R_reads' HO272.out).2.1)
 rintro e w13 ⟨v274, rfl, ho0, hb⟩
 refine ⟨_, rfl, ?_⟩
 have HO275 := Aside0.mk (Kd.R_lower (Kd.R_new' ho0 (Kd.R_lt (by (with_reducible repeat (first | apply Kd.R_alloc | apply Kd.R_drewN | apply Kd.R_drew)); exact HO272.out))) (below_size z7_0))
 replace HO272 := Aside0.mk (Kd.R_elder' (by (with_reducible repeat (first | apply Kd.R_alloc | apply Kd.R_drewN | apply Kd.R_drew)); exact HO272.out) (Kd.R_base ho0) hb)
 replace HB := Aside0.mk (below_step z7_0 hb)
 (try clear hb)
 (try clear hb2)
 (try clear hk)
 (try clear hi)
 (try clear ho0)
 refine hK.out _ _ ⟨z7_2, z7_3⟩ (fun hHeld => ?_)
 clear hK K
 refine nZ ?_
 refine pZ 17 HT_ ?_
 refine done_ (done_of HT_.out (by kernel_rfl)) ?_
 try go_wp2
 go_ret
 exact ⟨_, by first | rfl | (simp [errW_none, errW_some] <;> rfl) | (simp [*, errW_none, errW_some] <;> rfl), by (with_reducible repeat (first | apply Kd.R_alloc | apply Kd.R_drewN | apply Kd.R_drew)); exact Kd.R_mono HO275.out (fun _ hk => trivial), z7_0⟩

-- NOT PRINTED: function 96 (spec_l3Add)

end Go.Proofs.Ytamaejafddmagaa.PA
