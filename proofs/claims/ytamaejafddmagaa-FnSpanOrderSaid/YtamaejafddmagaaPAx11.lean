-- Written by a program of this session (after the manner of the kit's print, several laws in one text).
import Derived.Test.YtamaejafddmagaaHs
import Derived.Test.YtamaejafddmagaaPAx0
import Derived.Test.YtamaejafddmagaaPAx6
import Derived.Test.YtamaejafddmagaaPAx9
import Derived.Test.YtamaejafddmagaaGw
import Derived.Test.YtamaejafddmagaaGm
namespace Go.Proofs.Ytamaejafddmagaa.PA
open Go.RowKit Go.Proofs.YtamaejafddmagaaW.PrintWords Go.Proofs.YtamaejafddmagaaW.PrintLast Go.Proofs.YtamaejafddmagaaW.PrintMore
attribute [local go_sem] max2_int min2_int max_two min_two max_three min_three max_four min_four   -- for this text's walks alone
set_option linter.unusedVariables false
set_option linter.unusedSimpArgs false

/-! ### impl_tidy: function 54 -/
theorem zL11 {p q : Prop} (h : q) (t : q → p := by intro h_; (with_reducible repeat first|refine blk_drewN ?_ _|refine blk_drew ?_|refine blk_alloc ?_ _); exact h_) : p := t h
theorem z11_1 {p : Prop} (h : p := by (try simp only [hl3_2]); (try simp only [hl3_3]); (with_reducible repeat first|refine blk_drewN ?_ _|refine blk_drew ?_|refine blk_alloc ?_ _); refine blk_far ?_ (by have h_ := Kd.R_ne HO_3.out BK315.out (by decide); intro e_; exact h_ (by rw [e_]; rfl)) _; (with_reducible repeat first|refine blk_drewN ?_ _|refine blk_drew ?_|refine blk_alloc ?_ _); refine blk_far ?_ (by have h_ := Kd.R_ne HO_3.out BK315.out (by decide); intro e_; exact h_ (by rw [e_]; rfl)) _; (with_reducible repeat first|refine blk_drewN ?_ _|refine blk_drew ?_|refine blk_alloc ?_ _); refine blk_far ?_ (by have h_ := Kd.R_ne HO_3.out BK315.out (by decide); intro e_; exact h_ (by rw [e_]; rfl)) _; (with_reducible repeat first|refine blk_drewN ?_ _|refine blk_drew ?_|refine blk_alloc ?_ _); refine blk_far ?_ (by have h_ := Kd.R_ne HO_3.out BK315.out (by decide); intro e_; exact h_ (by rw [e_]; rfl)) _; (with_reducible repeat first|refine blk_drewN ?_ _|refine blk_drew ?_|refine blk_alloc ?_ _); exact BK315.out) : p := h
theorem z11_2 {p : Prop} (h : p := by (try simp only [hl3_2]); (try simp only [hl3_3]); (with_reducible repeat first|refine blk_drewN ?_ _|refine blk_drew ?_|refine blk_alloc ?_ _); refine blk_far ?_ (by have h_ := Kd.R_away HO_3.out (fun _ hk => hk); intro e_; exact h_ (by rw [e_]; rfl)) _; (with_reducible repeat first|refine blk_drewN ?_ _|refine blk_drew ?_|refine blk_alloc ?_ _); refine blk_far ?_ (by have h_ := Kd.R_away HO_3.out (fun _ hk => hk); intro e_; exact h_ (by rw [e_]; rfl)) _; (with_reducible repeat first|refine blk_drewN ?_ _|refine blk_drew ?_|refine blk_alloc ?_ _); refine blk_far ?_ (by have h_ := Kd.R_away HO_3.out (fun _ hk => hk); intro e_; exact h_ (by rw [e_]; rfl)) _; (with_reducible repeat first|refine blk_drewN ?_ _|refine blk_drew ?_|refine blk_alloc ?_ _); refine blk_far ?_ (by have h_ := Kd.R_away HO_3.out (fun _ hk => hk); intro e_; exact h_ (by rw [e_]; rfl)) _; (with_reducible repeat first|refine blk_drewN ?_ _|refine blk_drew ?_|refine blk_alloc ?_ _); exact BK322.out) : p := h
theorem z11_3 {p : Prop} (h : p := by first | (with_reducible assumption) | assumption) : p := h
theorem z11_4 {p : Prop} (h : p := by repeat (first | (with_reducible first | exact HB.out | apply below_alloc | apply pw_below_drewN | apply below_drew1 | refine below_set ?_ GE315.out | refine below_set ?_ GE322.out) | exact HB.out)) : p := h
theorem z11_5 {p : Prop} (h : p := by (with_reducible repeat (first | apply Kd.R_alloc | apply Kd.R_drewN | apply Kd.R_drew)); exact HO_3.out) : p := h
theorem z11_6 {p : Prop} (h : p := by (with_reducible repeat (first | apply Kd.R_alloc | apply Kd.R_drewN | apply Kd.R_drew)); exact ab.out) : p := h
theorem z11_7 {p : Prop} (h : p := by (with_reducible repeat (first | apply Kd.R_alloc | apply Kd.R_drewN | apply Kd.R_drew)); exact aa.out) : p := h
theorem z11_8 {p : Prop} (h : p := by (try simp only [List.map_toArray, List.map_cons, List.map_nil]); first | done | rfl | (simp only [List.length_drop, List.length_take]; rfl)) : p := h
theorem z11_9 {p : Prop} (h : p := by repeat (first | (with_reducible first | exact HB.out | apply below_alloc | apply pw_below_drewN | apply below_drew1 | refine below_set ?_ GE315.out) | exact HB.out)) : p := h
theorem z11_10 {p : Prop} (h : p := by repeat (first | (with_reducible first | exact HB.out | apply below_alloc | apply pw_below_drewN | apply below_drew1) | exact HB.out)) : p := h
theorem z11_11 {p : Prop} (h : p := by repeat (first | (with_reducible first | exact HB.out | apply below_alloc | apply pw_below_drewN | apply below_drew1 | refine below_set ?_ GE315.out | refine below_set ?_ GE317.out) | exact HB.out)) : p := h
theorem z11_12 {p : Prop} (h : p := by first | rfl | (simp; done) | (simp [*]; done)) : p := h
theorem z11_13 {p : Prop} (h : p := by have := HK1.out; have := HK2.out; have := HK3.out; omega) : p := h
theorem z11_14 {p : Prop} (h : p := by (try simp only [hl3_2]); (try simp only [hl3_3]); (with_reducible repeat first|refine blk_drewN ?_ _|refine blk_drew ?_|refine blk_alloc ?_ _); exact BK315.out) : p := h
theorem z11_15 {p : Prop} (h : p := by (try simp only [hl3_2]); (try simp only [hl3_3]); (with_reducible repeat (first | apply Kd.R_alloc | apply Kd.R_drewN | apply Kd.R_drew)); exact aa.out) : p := h
theorem z11_16 {p : Prop} (h : p := by (try simp only [hl3_2]); (try simp only [hl3_3]); (with_reducible repeat (first | apply Kd.R_alloc | apply Kd.R_drewN | apply Kd.R_drew)); exact ab.out) : p := h
mutual
def impl_tidy.l0 : Nat → List (S70) → List (S102) → Int → Int → Option ((List (S70)))
  | 0, _, _, _, _ => none
  | k + 1, x3, x15, x16, x17 => if x17 < x16 then (if 0 ≤ x17 then (if x17 < (x15.length : Int) then (if x3.length < 4398046511104 then (impl_tidy.l0 k (x3 ++ [(⟨(rd_T102 x15 x17).f0.f0, (rd_T102 x15 x17).f0.f1, (rd_T102 x15 x17).f0.f2, (rd_T102 x15 x17).f0.f3⟩ : S70)]) x15 x16 (wrap64 (x17 + 1))) else (none)) else (none)) else (none)) else (impl_tidy.l1 k x3 (x3.length : Int) 0)
def impl_tidy.l1 : Nat → List (S70) → Int → Int → Option ((List (S70)))
  | 0, _, _, _ => none
  | k + 1, x3, x28, x29 => if x29 < x28 then (if 0 ≤ x29 then (if x29 < (x3.length : Int) then ((impl_vector_lead.f ((rd_T70 x3 x29).f0) ((rd_T70 x3 x29).f1) ((rd_T70 x3 x29).f2) ((rd_T70 x3 x29).f3)).bind fun t323 => (impl_tidy.l2 k x3 x29 t323 x28 x29 (x3.length : Int) 0)) else (none)) else (none)) else (So.srt x3)
def impl_tidy.l2 : Nat → List (S70) → Int → Int → Int → Int → Int → Int → Option ((List (S70)))
  | 0, _, _, _, _, _, _, _ => none
  | k + 1, x3, x6, x8, x28, x29, x37, x38 => if x38 < x37 then (if x38 = x6 then (impl_tidy.l2 k x3 x6 x8 x28 x29 x37 (wrap64 (x38 + 1))) else (if 0 ≤ x38 then (if x38 < (x3.length : Int) then (if 0 ≤ x6 then (if x6 < (x3.length : Int) then (if x8 = 0 then ((impl_vector_times.f ((rd_T70 x3 x6).f0) ((rd_T70 x3 x6).f1) ((rd_T70 x3 x6).f2) ((rd_T70 x3 x6).f3) ((rd_T70 x3 x38).f0)).bind fun bt327 => ((impl_vector_minus.f ((rd_T70 x3 x38).f0) ((rd_T70 x3 x38).f1) ((rd_T70 x3 x38).f2) ((rd_T70 x3 x38).f3) bt327.1 bt327.2.1 bt327.2.2.1 bt327.2.2.2).bind fun bt331 => (impl_tidy.l2 k (x3.set (x38 : Int).toNat (⟨bt331.1, bt331.2.1, bt331.2.2.1, bt331.2.2.2⟩ : S70)) x6 x8 x28 x29 x37 (wrap64 (x38 + 1))))) else (if x8 = 1 then ((impl_vector_times.f ((rd_T70 x3 x6).f0) ((rd_T70 x3 x6).f1) ((rd_T70 x3 x6).f2) ((rd_T70 x3 x6).f3) ((rd_T70 x3 x38).f1)).bind fun bt336 => ((impl_vector_minus.f ((rd_T70 x3 x38).f0) ((rd_T70 x3 x38).f1) ((rd_T70 x3 x38).f2) ((rd_T70 x3 x38).f3) bt336.1 bt336.2.1 bt336.2.2.1 bt336.2.2.2).bind fun bt340 => (impl_tidy.l2 k (x3.set (x38 : Int).toNat (⟨bt340.1, bt340.2.1, bt340.2.2.1, bt340.2.2.2⟩ : S70)) x6 x8 x28 x29 x37 (wrap64 (x38 + 1))))) else (if x8 = 2 then ((impl_vector_times.f ((rd_T70 x3 x6).f0) ((rd_T70 x3 x6).f1) ((rd_T70 x3 x6).f2) ((rd_T70 x3 x6).f3) ((rd_T70 x3 x38).f2)).bind fun bt345 => ((impl_vector_minus.f ((rd_T70 x3 x38).f0) ((rd_T70 x3 x38).f1) ((rd_T70 x3 x38).f2) ((rd_T70 x3 x38).f3) bt345.1 bt345.2.1 bt345.2.2.1 bt345.2.2.2).bind fun bt349 => (impl_tidy.l2 k (x3.set (x38 : Int).toNat (⟨bt349.1, bt349.2.1, bt349.2.2.1, bt349.2.2.2⟩ : S70)) x6 x8 x28 x29 x37 (wrap64 (x38 + 1))))) else (if x8 = 3 then ((impl_vector_times.f ((rd_T70 x3 x6).f0) ((rd_T70 x3 x6).f1) ((rd_T70 x3 x6).f2) ((rd_T70 x3 x6).f3) ((rd_T70 x3 x38).f3)).bind fun bt354 => ((impl_vector_minus.f ((rd_T70 x3 x38).f0) ((rd_T70 x3 x38).f1) ((rd_T70 x3 x38).f2) ((rd_T70 x3 x38).f3) bt354.1 bt354.2.1 bt354.2.2.1 bt354.2.2.2).bind fun bt358 => (impl_tidy.l2 k (x3.set (x38 : Int).toNat (⟨bt358.1, bt358.2.1, bt358.2.2.1, bt358.2.2.2⟩ : S70)) x6 x8 x28 x29 x37 (wrap64 (x38 + 1))))) else (none))))) else (none)) else (none)) else (none)) else (none))) else (impl_tidy.l1 k x3 x28 (wrap64 (x29 + 1)))
end
def impl_tidy.f (k : Nat) (l0 : List (S70)) : Option ((List (S70))) := (impl_spanOf.f k l0).bind fun bt309 => (impl_tidy.l0 k (([] : List (S70))) bt309.1 (bt309.1.length : Int) 0)
def impl_tidy.T15 : Bool × List (List Nat × List Nat) := (true, [([], []), ([], []), ([], []), ([], []), ([2, 3], [2, 3]), ([4], [4]), ([], []), ([], []), ([6, 7], [6, 7]), ([8], [8]), ([], []), ([], []), ([], []), ([10, 11], [10, 11]), ([13, 12], [12, 13]), ([14], [14]), ([9, 15], [9, 15]), ([5, 16, 16], [5, 16]), ([0, 1, 0, 1, 2, 3, 4, 5, 6, 7, 8, 9, 10, 11, 12, 13, 14, 15, 16, 17], [0, 1]), ([18, 17, 17, 0, 1, 2, 3, 4, 5, 6, 7, 8, 9, 10, 11, 12, 13, 14, 15, 16, 17], [17, 18])])
def impl_tidy.B15 : List Nat := [0, 0, 0, 0, 12, 28, 0, 0, 192, 448, 0, 0, 0, 3072, 15360, 31744, 65472, 131068, 262143, 524287]
theorem impl_tidy.tab15 : rtab .any (opsOf Try.f54 15) = impl_tidy.T15 := by kernel_rfl
theorem impl_tidy.bits15 : waitsOk impl_tidy.T15.2 impl_tidy.B15 = true := by kernel_rfl
theorem bA11 {W : World} {g : Nat} {cs : Array Value} {ty : TypeId} {j : Nat} {v : Value} (h : Aside0 (W.heap[g]? = some (.cells cs ty (0, 0)))) (e : cs[j]? = some v) : W.cell? ⟨g, j, none⟩ = some v := (blk_cell h.out j).trans e
set_option maxHeartbeats 8000000 in
set_option maxRecDepth 100000 in
theorem impl_tidy.calls (k : Nat) (A0 : Option Addr) (c0 : Nat) (l0 : List (S70)) (r : List (S70)) (w : World) (hr0 : Kd.C k70 w A0 l0.length l0) (hc0 : l0.length ≤ c0) (h : impl_tidy.f k l0 = some r) :
  Calls Try.prog 54 #[.slice A0 l0.length c0] w fun e w' => ∃ v0_ : Value, e = .returned (v0_) ∧ Kd.R k70 70 w' w.heap.size (fun _ => True) v0_ r ∧ Below w.heap.size w w' := by
 have hu102 := Try.underlying102
 have hu70 := Try.underlying70
 have HR0 := Aside0.mk hr0
 have HC0 := Aside0.mk hc0
 clear hr0 hc0
 have HB := Aside0.mk (Below.refl w.heap.size w)
 have H : ((impl_spanOf.f k l0).bind fun bt309 => (impl_tidy.l0 k (([] : List (S70))) bt309.1 (bt309.1.length : Int) 0)) = some r := h
 clear h
 obtain ⟨y306, hy306⟩ : ∃ y_ : List (S70), y_ = (([] : List (S70))) := ⟨_, rfl⟩
 replace H : ((impl_spanOf.f k l0).bind fun bt309 => (impl_tidy.l0 k y306 bt309.1 (bt309.1.length : Int) 0)) = some r := by first | (rw [hy306]; with_reducible exact H) | (have H2_ := (Option.bind_some _ _).symm.trans H; rw [hy306]; with_reducible exact H2_) | (have H2_ := (Option.bind_some _ _).symm.trans H; with_reducible exact H2_) | with_reducible exact H | (rw [hy306]; exact H) | exact H
 have Ny306 := Aside0.mk hy306
 clear hy306
 replace H := Option.bind_eq_some_iff.mp H
 obtain ⟨⟨t309, t312⟩, A20, H⟩ := H
 replace H : (impl_tidy.l0 k y306 t309 (t309.length : Int) 0) = some r := H
 have A2 := Aside0.mk A20
 clear A20
 have H' := Aside0.mk H
 clear H
 go_enter Try.func54, Try.ntmps54
 go_wp2_with (first | ((with_reducible refine gate_dst (N := 10) rfl ?_); refine Kd.R_lit k70 _ 70 ?hg (N := 10) ?hd (xs := ([] : List (S70))) (inner := []) (ok := fun _ => True) (okp := fun _ => True) ?hr ?hp (fun _ hk => hk) trivial (Below.refl _ _) (Nat.le_refl _) (by simp) ?_; (case hd => rfl); (case hg => rfl); (case hr => first | (go_simp; done) | (go_simp; rfl)); (case hp => exact (Reps.none _ _)); intro v307 w3 ho4 hb hg_ hnew_; clear hg_ hnew_; (first | rw [← Ny306.out] at ho4 | (simp only [Int.reduceToNat] at ho4; rw [← Ny306.out] at ho4)); have HO308 := Aside0.mk (Kd.R_lower ho4 (below_size z11_10)); replace HB := Aside0.mk (below_step z11_10 hb); clear hb ho4) | ((with_reducible refine gate_callee (f := 65) rfl ?_); refine goesL_ (some 12) rfl rfl Try.func65 (by kernel_rfl) rfl #[.slice A0 l0.length c0] rfl z11_8 ?_; (with_reducible refine (impl_spanOf.calls k _ _ l0 t309 t312 _ ?side1 ?side2 A2.out).mono ?_); (case side1 => exact cZ ((Kd.C_below HR0.out HB.out))); (case side2 => exact HC0.out); rintro e w5 ⟨v310, v313, gb315, rfl, hbox, hgr, ho0, ho1, hb⟩; refine ⟨_, rfl, ?_⟩; replace HO308 := Aside0.mk (Kd.R_below (by (with_reducible repeat (first | apply Kd.R_alloc | apply Kd.R_drewN | apply Kd.R_drew)); exact HO308.out) hb); have HO311 := Aside0.mk (Kd.R_lower ho0 (below_size z11_10)); have HO314 := Aside0.mk (Kd.R_lower ho1 (below_size z11_10)); have BK315 := Aside0.mk (hbox); have GW315 := Aside0.mk ((Nat.le_trans ((below_size z11_10) : w.heap.size ≤ _) hgr : w.heap.size ≤ gb315)); have GE315 := Aside0.mk ((Nat.le_trans ((below_size z11_10) : w.heap.size ≤ _) hgr : w.heap.size ≤ gb315)); replace HB := Aside0.mk (below_step z11_10 hb); (try clear hb); (try clear ho0); (try clear ho1); have am : w5.cell? ⟨gb315, 0, none⟩ = some (v310) := bA11 BK315 rfl; have an := blk_frozen BK315.out 0; obtain ⟨Ao7, co7, eo7⟩ := Kd.R_slice HO311.out; subst eo7))
 go_loopg [3, 17] k (fun kq v3 v17 w' => ∃ (x3_1 : List (S70)) (x17_1 : Int), v17 = .int .i64 x17_1 ∧ Aside0 (impl_tidy.l0 kq x3_1 t309 (t309.length : Int) x17_1 = some r) ∧ Aside0 (kq ≤ k) ∧ Aside0 (Kd.R k70 70 w' w.heap.size (fun _ => True) v3 x3_1) ∧ Aside0 (Kd.R k102 102 w' w.heap.size (fun _ => True) (.slice Ao7 t309.length co7) t309) ∧ Aside0 (Kd.R k102 102 w' w.heap.size (fun _ => True) (.slice Ao7 t309.length co7) t309) ∧ Aside0 (Kd.R (Kd.int .i64) 3 w' w.heap.size (fun _ => True) v313 t312) ∧ Aside0 (w'.heap[gb315]? = some (.cells #[(.slice Ao7 t309.length co7), v313] 81 (0, 0))) ∧ Aside0 (Below w.heap.size w w'))
 case atStart => exact ⟨(y306), (0), z11_12, H', ⟨Nat.le_refl _⟩, ⟨by (with_reducible repeat (first | apply Kd.R_alloc | apply Kd.R_drewN | apply Kd.R_drew)); exact HO308.out⟩, ⟨by (with_reducible repeat (first | apply Kd.R_alloc | apply Kd.R_drewN | apply Kd.R_drew)); exact HO311.out⟩, ⟨by (with_reducible repeat (first | apply Kd.R_alloc | apply Kd.R_drewN | apply Kd.R_drew)); exact HO311.out⟩, ⟨by (with_reducible repeat (first | apply Kd.R_alloc | apply Kd.R_drewN | apply Kd.R_drew)); exact HO314.out⟩, ⟨zL11 BK315.out⟩, ⟨z11_9⟩⟩
 case round =>
  clear H'
  try clear am
  try clear an
  obtain ⟨x3_1, x17_1, rfl, HA, HK1, HO_3, HO_15, aa, ab, BK315, HB⟩ := hrel
  cases gk with
  | zero => exact absurd HA.out (by simp [impl_tidy.l0])
  | succ k1 =>
   have H := HA.out
   clear HA
   simp only [impl_tidy.l0] at H
   by_cases c8 : x17_1 < (t309.length : Int)
   ·rw [if_pos c8] at H
    have c8b0 : decide (x17_1 < (t309.length : Int)) = true := decide_eq_true c8
    clear c8
    obtain ⟨c9, H⟩ := ifP H
    have c9b0 : decide (0 ≤ x17_1) = true := decide_eq_true c9
    clear c9
    obtain ⟨c10, H⟩ := ifP H
    have c10b0 : decide (x17_1 < (t309.length : Int)) = true := decide_eq_true c10
    clear c10
    obtain ⟨c11, H⟩ := ifP H
    have LMc11 := Aside0.mk c11
    clear c11
    obtain ⟨y318, hy318⟩ : ∃ y_ : List (S70), y_ = (x3_1 ++ [(⟨(rd_T102 t309 x17_1).f0.f0, (rd_T102 t309 x17_1).f0.f1, (rd_T102 t309 x17_1).f0.f2, (rd_T102 t309 x17_1).f0.f3⟩ : S70)]) := ⟨_, rfl⟩
    replace H : (impl_tidy.l0 k1 y318 t309 (t309.length : Int) (wrap64 (x17_1 + 1))) = some r := by first | (rw [hy318]; with_reducible exact H) | (have H2_ := (Option.bind_some _ _).symm.trans H; rw [hy318]; with_reducible exact H2_) | (have H2_ := (Option.bind_some _ _).symm.trans H; with_reducible exact H2_) | with_reducible exact H | (rw [hy318]; exact H) | exact H
    have Ny318 := Aside0.mk hy318
    clear hy318
    have H' := Aside0.mk H
    clear H
    have p316 : 0 ≤ (x17_1 : Int) := of_decide_eq_true z11_3
    have q316 : x17_1 < (t309.length : Int) := of_decide_eq_true z11_3
    obtain ⟨ad316, e316, hx316_0, hx316_1, hx316_2, hx316_3, hx316_4, hx316_5, hx316_6, hx316_7, hx316_8, hx316_9, hx316_10, hx316_11⟩ := at_T102 (Kd.R_reads' HO_15.out).2.2 x17_1 p316 q316
    cases e316
    replace p316 := eq_true p316
    replace q316 := eq_true q316
    go_wp2_with (first | ((with_reducible refine gate_dst (N := 5) rfl ?_); refine box_event ?hg (N := 5) ?hd (cs := #[.int .i64 0, .int .i64 0, .int .i64 0, .int .i64 0, .int .i64 0, .int .i64 0, .int .i64 0, .int .i64 0, .int .i64 0, .int .i64 0, .int .i64 0, .int .i64 0]) (t := 102) ?hr ?_; (case hd => rfl); (case hg => rfl); (case hr => first | (go_simp; done) | (go_simp; rfl)); intro gb317 hg w12 hbox hb; replace HO_3 := Aside0.mk (Kd.R_below z11_5 hb); replace HO_15 := Aside0.mk (Kd.R_below (Kd.R_elderB (by (with_reducible repeat (first | apply Kd.R_alloc | apply Kd.R_drewN | apply Kd.R_drew)); exact HO_15.out) gb317 (Nat.le_of_eq hg.symm)) hb); replace aa := Aside0.mk (Kd.R_below (Kd.R_elderB z11_7 gb317 (Nat.le_of_eq hg.symm)) hb); replace ab := Aside0.mk (Kd.R_below z11_6 hb); have BK317 := Aside0.mk (hbox); have GW317 := Aside0.mk ((by rw [hg]; exact (below_size z11_9) : w.heap.size ≤ gb317)); have GE317 := Aside0.mk ((by rw [hg]; exact (below_size z11_9) : w.heap.size ≤ gb317)); replace HB := Aside0.mk (below_step z11_9 hb); have ag := Aside0.mk ((by rw [hg]; exact Nat.ne_of_lt (blk_lt (g := gb315) (o := .cells #[.slice (some ad316) t309.length co7, v313] 81 (0, 0)) (zL11 BK315.out)) : gb315 ≠ gb317)); have aY := Aside0.mk ((by rw [hg]; exact Nat.ne_of_gt (blk_lt (g := gb315) (o := .cells #[.slice (some ad316) t309.length co7, v313] 81 (0, 0)) (zL11 BK315.out)) : gb317 ≠ gb315)); replace BK315 := Aside0.mk (blk_below (g := gb315) (o := .cells #[.slice (some ad316) t309.length co7, v313] 81 (0, 0)) (zL11 BK315.out) hb); clear hb hbox hg; have hnb13 := aY.out; have hnc13 := ag.out; have ao : w12.cell? ⟨gb317, 0, none⟩ = some (.int .i64 0) := bA11 BK317 rfl; have ap := blk_frozen BK317.out 0; have aq : w12.cell? ⟨gb317, 1, none⟩ = some (.int .i64 0) := bA11 BK317 rfl; have ar := blk_frozen BK317.out 1; have au : w12.cell? ⟨gb317, 2, none⟩ = some (.int .i64 0) := bA11 BK317 rfl; have av := blk_frozen BK317.out 2; have aw : w12.cell? ⟨gb317, 3, none⟩ = some (.int .i64 0) := bA11 BK317 rfl; have ax := blk_frozen BK317.out 3; have ay : w12.cell? ⟨gb317, 4, none⟩ = some (.int .i64 0) := bA11 BK317 rfl; have az := blk_frozen BK317.out 4; have aA : w12.cell? ⟨gb317, 5, none⟩ = some (.int .i64 0) := bA11 BK317 rfl; have aC := blk_frozen BK317.out 5; have aD : w12.cell? ⟨gb317, 6, none⟩ = some (.int .i64 0) := bA11 BK317 rfl; have aE := blk_frozen BK317.out 6; have aG : w12.cell? ⟨gb317, 7, none⟩ = some (.int .i64 0) := bA11 BK317 rfl; have aH := blk_frozen BK317.out 7; have aI : w12.cell? ⟨gb317, 8, none⟩ = some (.int .i64 0) := bA11 BK317 rfl; have aJ := blk_frozen BK317.out 8; have aK : w12.cell? ⟨gb317, 9, none⟩ = some (.int .i64 0) := bA11 BK317 rfl; have aM := blk_frozen BK317.out 9; have ai : w12.cell? ⟨gb317, 10, none⟩ = some (.int .i64 0) := bA11 BK317 rfl; have aj := blk_frozen BK317.out 10; have ak : w12.cell? ⟨gb317, 11, none⟩ = some (.int .i64 0) := bA11 BK317 rfl; have al := blk_frozen BK317.out 11) | ((with_reducible refine gate_store (t := 102) (p := 5) rfl ?_); refine store_event (t := 102) (p := 5) (v := ?vo_w26) (w1 := ((((((((((((w12.setCell ⟨gb317, 0, none⟩ (.int .i64 ((rd_T102 t309 x17_1).f0.f0))).setCell ⟨gb317, 1, none⟩ (.int .i64 ((rd_T102 t309 x17_1).f0.f1))).setCell ⟨gb317, 2, none⟩ (.int .i64 ((rd_T102 t309 x17_1).f0.f2))).setCell ⟨gb317, 3, none⟩ (.int .i64 ((rd_T102 t309 x17_1).f0.f3))).setCell ⟨gb317, 4, none⟩ (.int .i64 ((rd_T102 t309 x17_1).f1.f0))).setCell ⟨gb317, 5, none⟩ (.int .i64 ((rd_T102 t309 x17_1).f1.f1))).setCell ⟨gb317, 6, none⟩ (.int .i64 ((rd_T102 t309 x17_1).f1.f2))).setCell ⟨gb317, 7, none⟩ (.int .i64 ((rd_T102 t309 x17_1).f1.f3))).setCell ⟨gb317, 8, none⟩ (.int .i64 ((rd_T102 t309 x17_1).f1.f4))).setCell ⟨gb317, 9, none⟩ (.int .i64 ((rd_T102 t309 x17_1).f1.f5))).setCell ⟨gb317, 10, none⟩ (.int .i64 ((rd_T102 t309 x17_1).f1.f6))).setCell ⟨gb317, 11, none⟩ (.int .i64 ((rd_T102 t309 x17_1).f1.f7)))) ?hg ?ho ?hn ?hr ?_; (case ho => rfl); (case hg => rfl); (case hn => rfl); (case hr => first | (go_simp; done) | (go_simp; rfl)); intro w26 hw; have n0_ : Aside0 (Kd.R k70 70 w26 w.heap.size (fun _ => True) u3 x3_1) := ⟨(by rw [hw]; exact (by (with_reducible repeat (first | apply Kd.R_alloc | apply Kd.R_drewN | apply Kd.R_drew)); exact Kd.R_mono (Kd.R_far (p := ⟨gb317, 11, none⟩) (Kd.R_far (p := ⟨gb317, 10, none⟩) (Kd.R_far (p := ⟨gb317, 9, none⟩) (Kd.R_far (p := ⟨gb317, 8, none⟩) (Kd.R_far (p := ⟨gb317, 7, none⟩) (Kd.R_far (p := ⟨gb317, 6, none⟩) (Kd.R_far (p := ⟨gb317, 5, none⟩) (Kd.R_far (p := ⟨gb317, 4, none⟩) (Kd.R_far (p := ⟨gb317, 3, none⟩) (Kd.R_far (p := ⟨gb317, 2, none⟩) (Kd.R_far (p := ⟨gb317, 1, none⟩) (Kd.R_far (p := ⟨gb317, 0, none⟩) (Kd.R_types HO_3.out BK317.out (by decide)) (fun _ hk => hk.2) (.int .i64 ((rd_T102 t309 x17_1).f0.f0))) (fun _ hk => hk.2) (.int .i64 ((rd_T102 t309 x17_1).f0.f1))) (fun _ hk => hk.2) (.int .i64 ((rd_T102 t309 x17_1).f0.f2))) (fun _ hk => hk.2) (.int .i64 ((rd_T102 t309 x17_1).f0.f3))) (fun _ hk => hk.2) (.int .i64 ((rd_T102 t309 x17_1).f1.f0))) (fun _ hk => hk.2) (.int .i64 ((rd_T102 t309 x17_1).f1.f1))) (fun _ hk => hk.2) (.int .i64 ((rd_T102 t309 x17_1).f1.f2))) (fun _ hk => hk.2) (.int .i64 ((rd_T102 t309 x17_1).f1.f3))) (fun _ hk => hk.2) (.int .i64 ((rd_T102 t309 x17_1).f1.f4))) (fun _ hk => hk.2) (.int .i64 ((rd_T102 t309 x17_1).f1.f5))) (fun _ hk => hk.2) (.int .i64 ((rd_T102 t309 x17_1).f1.f6))) (fun _ hk => hk.2) (.int .i64 ((rd_T102 t309 x17_1).f1.f7))) (fun _ hk => trivial)))⟩; have n1_ : Aside0 (Kd.R k102 102 w26 w.heap.size (fun k_ => k_ ≠ gb317) (.slice (some ad316) t309.length co7) t309) := ⟨(by rw [hw]; exact (by (with_reducible repeat (first | apply Kd.R_alloc | apply Kd.R_drewN | apply Kd.R_drew)); exact Kd.R_mono (Kd.R_far (p := ⟨gb317, 11, none⟩) (Kd.R_far (p := ⟨gb317, 10, none⟩) (Kd.R_far (p := ⟨gb317, 9, none⟩) (Kd.R_far (p := ⟨gb317, 8, none⟩) (Kd.R_far (p := ⟨gb317, 7, none⟩) (Kd.R_far (p := ⟨gb317, 6, none⟩) (Kd.R_far (p := ⟨gb317, 5, none⟩) (Kd.R_far (p := ⟨gb317, 4, none⟩) (Kd.R_far (p := ⟨gb317, 3, none⟩) (Kd.R_far (p := ⟨gb317, 2, none⟩) (Kd.R_far (p := ⟨gb317, 1, none⟩) (Kd.R_far (p := ⟨gb317, 0, none⟩) (Kd.R_mono HO_15.out (fun k_ hk => (⟨hk, hk.2⟩ : _ ∧ k_ ≠ gb317))) (fun _ hk => hk.2) (.int .i64 ((rd_T102 t309 x17_1).f0.f0))) (fun _ hk => hk.2) (.int .i64 ((rd_T102 t309 x17_1).f0.f1))) (fun _ hk => hk.2) (.int .i64 ((rd_T102 t309 x17_1).f0.f2))) (fun _ hk => hk.2) (.int .i64 ((rd_T102 t309 x17_1).f0.f3))) (fun _ hk => hk.2) (.int .i64 ((rd_T102 t309 x17_1).f1.f0))) (fun _ hk => hk.2) (.int .i64 ((rd_T102 t309 x17_1).f1.f1))) (fun _ hk => hk.2) (.int .i64 ((rd_T102 t309 x17_1).f1.f2))) (fun _ hk => hk.2) (.int .i64 ((rd_T102 t309 x17_1).f1.f3))) (fun _ hk => hk.2) (.int .i64 ((rd_T102 t309 x17_1).f1.f4))) (fun _ hk => hk.2) (.int .i64 ((rd_T102 t309 x17_1).f1.f5))) (fun _ hk => hk.2) (.int .i64 ((rd_T102 t309 x17_1).f1.f6))) (fun _ hk => hk.2) (.int .i64 ((rd_T102 t309 x17_1).f1.f7))) (fun _ hk => hk.1.2)))⟩; have n2_ : Aside0 (Kd.R k102 102 w26 w.heap.size (fun k_ => k_ ≠ gb317) (.slice (some ad316) t309.length co7) t309) := ⟨(by rw [hw]; exact (by (with_reducible repeat (first | apply Kd.R_alloc | apply Kd.R_drewN | apply Kd.R_drew)); exact Kd.R_mono (Kd.R_far (p := ⟨gb317, 11, none⟩) (Kd.R_far (p := ⟨gb317, 10, none⟩) (Kd.R_far (p := ⟨gb317, 9, none⟩) (Kd.R_far (p := ⟨gb317, 8, none⟩) (Kd.R_far (p := ⟨gb317, 7, none⟩) (Kd.R_far (p := ⟨gb317, 6, none⟩) (Kd.R_far (p := ⟨gb317, 5, none⟩) (Kd.R_far (p := ⟨gb317, 4, none⟩) (Kd.R_far (p := ⟨gb317, 3, none⟩) (Kd.R_far (p := ⟨gb317, 2, none⟩) (Kd.R_far (p := ⟨gb317, 1, none⟩) (Kd.R_far (p := ⟨gb317, 0, none⟩) (Kd.R_mono aa.out (fun k_ hk => (⟨hk, hk.2⟩ : _ ∧ k_ ≠ gb317))) (fun _ hk => hk.2) (.int .i64 ((rd_T102 t309 x17_1).f0.f0))) (fun _ hk => hk.2) (.int .i64 ((rd_T102 t309 x17_1).f0.f1))) (fun _ hk => hk.2) (.int .i64 ((rd_T102 t309 x17_1).f0.f2))) (fun _ hk => hk.2) (.int .i64 ((rd_T102 t309 x17_1).f0.f3))) (fun _ hk => hk.2) (.int .i64 ((rd_T102 t309 x17_1).f1.f0))) (fun _ hk => hk.2) (.int .i64 ((rd_T102 t309 x17_1).f1.f1))) (fun _ hk => hk.2) (.int .i64 ((rd_T102 t309 x17_1).f1.f2))) (fun _ hk => hk.2) (.int .i64 ((rd_T102 t309 x17_1).f1.f3))) (fun _ hk => hk.2) (.int .i64 ((rd_T102 t309 x17_1).f1.f4))) (fun _ hk => hk.2) (.int .i64 ((rd_T102 t309 x17_1).f1.f5))) (fun _ hk => hk.2) (.int .i64 ((rd_T102 t309 x17_1).f1.f6))) (fun _ hk => hk.2) (.int .i64 ((rd_T102 t309 x17_1).f1.f7))) (fun _ hk => hk.1.2)))⟩; have n3_ : Aside0 (Kd.R (Kd.int .i64) 3 w26 w.heap.size (fun _ => True) v313 t312) := ⟨(by rw [hw]; exact (by (with_reducible repeat (first | apply Kd.R_alloc | apply Kd.R_drewN | apply Kd.R_drew)); exact Kd.R_mono (Kd.R_far (p := ⟨gb317, 11, none⟩) (Kd.R_far (p := ⟨gb317, 10, none⟩) (Kd.R_far (p := ⟨gb317, 9, none⟩) (Kd.R_far (p := ⟨gb317, 8, none⟩) (Kd.R_far (p := ⟨gb317, 7, none⟩) (Kd.R_far (p := ⟨gb317, 6, none⟩) (Kd.R_far (p := ⟨gb317, 5, none⟩) (Kd.R_far (p := ⟨gb317, 4, none⟩) (Kd.R_far (p := ⟨gb317, 3, none⟩) (Kd.R_far (p := ⟨gb317, 2, none⟩) (Kd.R_far (p := ⟨gb317, 1, none⟩) (Kd.R_far (p := ⟨gb317, 0, none⟩) (Kd.R_types ab.out BK317.out (by decide)) (fun _ hk => hk.2) (.int .i64 ((rd_T102 t309 x17_1).f0.f0))) (fun _ hk => hk.2) (.int .i64 ((rd_T102 t309 x17_1).f0.f1))) (fun _ hk => hk.2) (.int .i64 ((rd_T102 t309 x17_1).f0.f2))) (fun _ hk => hk.2) (.int .i64 ((rd_T102 t309 x17_1).f0.f3))) (fun _ hk => hk.2) (.int .i64 ((rd_T102 t309 x17_1).f1.f0))) (fun _ hk => hk.2) (.int .i64 ((rd_T102 t309 x17_1).f1.f1))) (fun _ hk => hk.2) (.int .i64 ((rd_T102 t309 x17_1).f1.f2))) (fun _ hk => hk.2) (.int .i64 ((rd_T102 t309 x17_1).f1.f3))) (fun _ hk => hk.2) (.int .i64 ((rd_T102 t309 x17_1).f1.f4))) (fun _ hk => hk.2) (.int .i64 ((rd_T102 t309 x17_1).f1.f5))) (fun _ hk => hk.2) (.int .i64 ((rd_T102 t309 x17_1).f1.f6))) (fun _ hk => hk.2) (.int .i64 ((rd_T102 t309 x17_1).f1.f7))) (fun _ hk => trivial)))⟩; have n4_ : Aside0 (w26.heap[gb315]? = some (.cells #[.slice (some ad316) t309.length co7, v313] 81 (0, 0))) := ⟨(by rw [hw]; exact (gZ ag.out BK315.out))⟩; have n5_ : Aside0 (w26.heap[gb317]? = some (.cells #[.int .i64 ((rd_T102 t309 x17_1).f0.f0), .int .i64 ((rd_T102 t309 x17_1).f0.f1), .int .i64 ((rd_T102 t309 x17_1).f0.f2), .int .i64 ((rd_T102 t309 x17_1).f0.f3), .int .i64 ((rd_T102 t309 x17_1).f1.f0), .int .i64 ((rd_T102 t309 x17_1).f1.f1), .int .i64 ((rd_T102 t309 x17_1).f1.f2), .int .i64 ((rd_T102 t309 x17_1).f1.f3), .int .i64 ((rd_T102 t309 x17_1).f1.f4), .int .i64 ((rd_T102 t309 x17_1).f1.f5), .int .i64 ((rd_T102 t309 x17_1).f1.f6), .int .i64 ((rd_T102 t309 x17_1).f1.f7)] 102 (0, 0))) := ⟨(by rw [hw]; exact (bZ BK317.out))⟩; have n6_ : Aside0 (Below w.heap.size w w26) := ⟨(by rw [hw]; exact z11_11)⟩; clear hw; clear HO_3; clear HO_15; clear aa; clear ab; clear BK315; clear BK317; clear HB; have HO_3 := n0_; have HO_15 := n1_; have aa := n2_; have ab := n3_; have BK315 := n4_; have BK317 := n5_; have HB := n6_; clear n0_ n1_ n2_ n3_ n4_ n5_ n6_; have aN : w26.cell? ⟨gb317, 0, none⟩ = some (.int .i64 ((rd_T102 t309 x17_1).f0.f0)) := bA11 BK317 rfl; have aQ : w26.cell? ⟨gb317, 1, none⟩ = some (.int .i64 ((rd_T102 t309 x17_1).f0.f1)) := bA11 BK317 rfl; have aR : w26.cell? ⟨gb317, 2, none⟩ = some (.int .i64 ((rd_T102 t309 x17_1).f0.f2)) := bA11 BK317 rfl; have aT : w26.cell? ⟨gb317, 3, none⟩ = some (.int .i64 ((rd_T102 t309 x17_1).f0.f3)) := bA11 BK317 rfl; have aU := blk_frozen BK317.out 0; have aV := blk_frozen BK317.out 1; have aW := blk_frozen BK317.out 2; have aX := blk_frozen BK317.out 3) | ((with_reducible refine gate_builtin (b := .append) (xs := #[.tmp 21, .tmp 24]) rfl ?_); at_builtin; refine Kd.R_append k70 (w0 := w) w.heap.size rfl (.tmp 21) (.tmp 24) 64 70 (.agg #[(.int .i64 0), (.int .i64 0), (.int .i64 0), (.int .i64 0)]) 32 rfl Try.underlying64 info70 rfl (by decide) (by omega) u3 x3_1 (⟨(rd_T102 t309 x17_1).f0.f0, (rd_T102 t309 x17_1).f0.f1, (rd_T102 t309 x17_1).f0.f2, (rd_T102 t309 x17_1).f0.f3⟩ : S70) [.int .i64 ((rd_T102 t309 x17_1).f0.f0), .int .i64 ((rd_T102 t309 x17_1).f0.f1), .int .i64 ((rd_T102 t309 x17_1).f0.f2), .int .i64 ((rd_T102 t309 x17_1).f0.f3)] (fun _ => True) (fun _ => False) rfl rfl ?aP (fun _ hk => hk.elim) ?aF ?aO ?aB ?aS ?aL ?_; (case aP => exact k70_mkM _ _ _ (⟨(rd_T102 t309 x17_1).f0.f0, (rd_T102 t309 x17_1).f0.f1, (rd_T102 t309 x17_1).f0.f2, (rd_T102 t309 x17_1).f0.f3⟩ : S70)); (case aB => exact z11_11); (case aF => exact (fun _ _ => trivial)); (case aO => exact z11_5); (case aS => exact (below_size z11_11)); (case aL => have := LMc11.out; omega); intro v319 w28 ho hb hg hat; rw [← Ny318.out] at ho; have n0_ := Aside0.mk (Kd.R_over' (by (with_reducible repeat (first | apply Kd.R_alloc | apply Kd.R_drewN | apply Kd.R_drew)); exact HO_15.out) (Kd.R_typed z11_5) (by decide) hg); have n1_ := Aside0.mk (Kd.R_over' z11_7 (Kd.R_typed z11_5) (by decide) hg); have n2_ := Aside0.mk (Kd.R_over' z11_6 (Kd.R_typed z11_5) (by decide) hg); have n3_ := Aside0.mk (blk_grown (g := gb315) (o := .cells #[.slice (some ad316) t309.length co7, v313] 81 (0, 0)) (zL11 BK315.out) hg (Kd.R_ne HO_3.out BK315.out (by decide))); have n4_ := Aside0.mk (blk_grown (g := gb317) (o := .cells #[.int .i64 ((rd_T102 t309 x17_1).f0.f0), .int .i64 ((rd_T102 t309 x17_1).f0.f1), .int .i64 ((rd_T102 t309 x17_1).f0.f2), .int .i64 ((rd_T102 t309 x17_1).f0.f3), .int .i64 ((rd_T102 t309 x17_1).f1.f0), .int .i64 ((rd_T102 t309 x17_1).f1.f1), .int .i64 ((rd_T102 t309 x17_1).f1.f2), .int .i64 ((rd_T102 t309 x17_1).f1.f3), .int .i64 ((rd_T102 t309 x17_1).f1.f4), .int .i64 ((rd_T102 t309 x17_1).f1.f5), .int .i64 ((rd_T102 t309 x17_1).f1.f6), .int .i64 ((rd_T102 t309 x17_1).f1.f7)] 102 (0, 0)) (zL11 BK317.out) hg (Kd.R_ne HO_3.out BK317.out (by decide))); have n5_ := Aside0.mk (hb); have n6_ := Aside0.mk (ho); clear HO_15; clear aa; clear ab; clear BK315; clear BK317; clear HB; clear HO_3; have HO_15 := n0_; have aa := n1_; have ab := n2_; have BK315 := n3_; have BK317 := n4_; have HB := n5_; have HO320 := n6_; clear n0_ n1_ n2_ n3_ n4_ n5_ n6_; clear ho hb hg hat))
    go_roundg k1
    case measure => have := HK1.out; omega
    case rel => exact ⟨(y318), (wrap64 (x17_1 + 1)), z11_12, H', ⟨by have := HK1.out; omega⟩, ⟨by (with_reducible repeat (first | apply Kd.R_alloc | apply Kd.R_drewN | apply Kd.R_drew)); exact HO320.out⟩, ⟨by (with_reducible repeat (first | apply Kd.R_alloc | apply Kd.R_drewN | apply Kd.R_drew)); exact Kd.R_mono HO_15.out (fun _ hk => trivial)⟩, ⟨by (with_reducible repeat (first | apply Kd.R_alloc | apply Kd.R_drewN | apply Kd.R_drew)); exact Kd.R_mono aa.out (fun _ hk => trivial)⟩, ⟨z11_6⟩, ⟨zL11 BK315.out⟩, ⟨z11_11⟩⟩
   ·rw [if_neg c8] at H
    have c8b0 : decide (x17_1 < (t309.length : Int)) = false := decide_eq_false c8
    clear c8
    have H' := Aside0.mk H
    clear H
    obtain ⟨Ao29, co29, eo29⟩ := Kd.R_slice HO_3.out
    subst eo29
    go_wp2
    go_loopg [29] k1 (fun kq v29 w' => ∃ (x3_2 : List (S70)) (x29_2 : Int), v29 = .int .i64 x29_2 ∧ Aside0 (impl_tidy.l1 kq x3_2 (x3_1.length : Int) x29_2 = some r) ∧ Aside0 (kq ≤ k1) ∧ Aside0 (Kd.R k70 70 w' w.heap.size (fun _ => True) (.slice Ao29 x3_1.length co29) x3_2) ∧ Aside0 (Kd.R k102 102 w' w.heap.size (fun _ => True) (.slice Ao7 t309.length co7) t309) ∧ Aside0 (Kd.R (Kd.int .i64) 3 w' w.heap.size (fun _ => True) v313 t312) ∧ Aside0 (w'.heap[gb315]? = some (.cells #[(.slice Ao7 t309.length co7), v313] 81 (0, 0))) ∧ Aside0 (Below w.heap.size w w'))
    case atStart => exact ⟨(x3_1), (0), z11_12, H', ⟨Nat.le_refl _⟩, ⟨z11_5⟩, ⟨z11_7⟩, ⟨z11_6⟩, ⟨zL11 BK315.out⟩, ⟨z11_9⟩⟩
    case round =>
     clear H'
     try clear c8
     try clear c8b0
     try clear am
     try clear an
     obtain ⟨x3_2, x29_2, rfl, HA, HK2, HO_3, aa, ab, BK315, HB⟩ := hrel
     have hl3_2 := (Kd.R_reads' HO_3.out).1
     rw [hl3_2] at HO_3
     (try simp only [hl3_2])
     (try simp only [hl3_2] at BK315)
     (try simp only [hl3_2] at aa)
     (try simp only [hl3_2] at ab)
     cases gk with
     | zero => exact absurd HA.out (by simp [impl_tidy.l1])
     | succ k2 =>
      have H := HA.out
      clear HA
      simp only [impl_tidy.l1] at H
      by_cases c30 : x29_2 < (x3_1.length : Int)
      ·rw [if_pos c30] at H
       have c30b0 : decide (x29_2 < (x3_1.length : Int)) = true := decide_eq_true c30
       (try simp only [hl3_2] at c30b0)
       clear c30
       obtain ⟨c31, H⟩ := ifP H
       have c31b0 : decide (0 ≤ x29_2) = true := decide_eq_true c31
       clear c31
       obtain ⟨c32, H⟩ := ifP H
       have c32b0 : decide (x29_2 < (x3_2.length : Int)) = true := decide_eq_true c32
       (try simp only [hl3_2] at c32b0)
       clear c32
       replace H := Option.bind_eq_some_iff.mp H
       obtain ⟨t323, A330, H⟩ := H
       replace H : (impl_tidy.l2 k2 x3_2 x29_2 t323 (x3_1.length : Int) x29_2 (x3_2.length : Int) 0) = some r := H
       have A33 := Aside0.mk A330
       clear A330
       have H' := Aside0.mk H
       clear H
       have p321 : 0 ≤ (x29_2 : Int) := of_decide_eq_true z11_3
       have q321 : x29_2 < (x3_2.length : Int) := of_decide_eq_true z11_3
       obtain ⟨ad321, e321, hx321_0, hx321_1, hx321_2, hx321_3⟩ := at_T70 (Kd.R_reads' HO_3.out).2.2 x29_2 p321 q321
       cases e321
       replace p321 := eq_true p321
       replace q321 := eq_true q321
       go_wp2_with (first | ((with_reducible refine gate_dst (N := 7) rfl ?_); refine box_event ?hg (N := 7) ?hd (cs := #[.int .i64 0, .int .i64 0, .int .i64 0, .int .i64 0]) (t := 70) ?hr ?_; (case hd => rfl); (case hg => rfl); (case hr => first | (go_simp; done) | (go_simp; rfl)); intro gb322 hg w34 hbox hb; replace HO_3 := Aside0.mk (Kd.R_below (Kd.R_elderB z11_5 gb322 (Nat.le_of_eq hg.symm)) hb); replace aa := Aside0.mk (Kd.R_below z11_7 hb); replace ab := Aside0.mk (Kd.R_below z11_6 hb); have BK322 := Aside0.mk (hbox); have GW322 := Aside0.mk ((by rw [hg]; exact (below_size z11_9) : w.heap.size ≤ gb322)); have GE322 := Aside0.mk ((by rw [hg]; exact (below_size z11_9) : w.heap.size ≤ gb322)); replace HB := Aside0.mk (below_step z11_9 hb); have ah := Aside0.mk ((by rw [hg]; exact Nat.ne_of_lt (blk_lt (g := gb315) (o := .cells #[.slice Ao7 t309.length co7, v313] 81 (0, 0)) (zL11 BK315.out)) : gb315 ≠ gb322)); have aZ := Aside0.mk ((by rw [hg]; exact Nat.ne_of_gt (blk_lt (g := gb315) (o := .cells #[.slice Ao7 t309.length co7, v313] 81 (0, 0)) (zL11 BK315.out)) : gb322 ≠ gb315)); replace BK315 := Aside0.mk (blk_below (g := gb315) (o := .cells #[.slice Ao7 t309.length co7, v313] 81 (0, 0)) (zL11 BK315.out) hb); clear hb hbox hg; have hnb35 := aZ.out; have hnc35 := ah.out; have hcz36_0 : w34.cell? ⟨gb322, 0, none⟩ = some (.int .i64 0) := bA11 BK322 rfl; have hfz36_0 := blk_frozen BK322.out 0; have hcz37_1 : w34.cell? ⟨gb322, 1, none⟩ = some (.int .i64 0) := bA11 BK322 rfl; have hfz37_1 := blk_frozen BK322.out 1; have hcz38_2 : w34.cell? ⟨gb322, 2, none⟩ = some (.int .i64 0) := bA11 BK322 rfl; have hfz38_2 := blk_frozen BK322.out 2; have hcz39_3 : w34.cell? ⟨gb322, 3, none⟩ = some (.int .i64 0) := bA11 BK322 rfl; have hfz39_3 := blk_frozen BK322.out 3) | ((with_reducible refine gate_store (t := 70) (p := 7) rfl ?_); refine store_event (t := 70) (p := 7) (v := ?vo_w40) (w1 := ((((w34.setCell ⟨gb322, 0, none⟩ (.int .i64 ((rd_T70 x3_2 x29_2).f0))).setCell ⟨gb322, 1, none⟩ (.int .i64 ((rd_T70 x3_2 x29_2).f1))).setCell ⟨gb322, 2, none⟩ (.int .i64 ((rd_T70 x3_2 x29_2).f2))).setCell ⟨gb322, 3, none⟩ (.int .i64 ((rd_T70 x3_2 x29_2).f3)))) ?hg ?ho ?hn ?hr ?_; (case ho => rfl); (case hg => rfl); (case hn => rfl); (case hr => first | (go_simp; done) | (go_simp; rfl)); intro w40 hw; have n0_ : Aside0 (Kd.R k70 70 w40 w.heap.size (fun k_ => k_ ≠ gb322) (.slice (some ad321) x3_2.length co29) x3_2) := ⟨(by rw [hw]; exact (by (with_reducible repeat (first | apply Kd.R_alloc | apply Kd.R_drewN | apply Kd.R_drew)); exact Kd.R_mono (Kd.R_far (p := ⟨gb322, 3, none⟩) (Kd.R_far (p := ⟨gb322, 2, none⟩) (Kd.R_far (p := ⟨gb322, 1, none⟩) (Kd.R_far (p := ⟨gb322, 0, none⟩) (Kd.R_mono HO_3.out (fun k_ hk => (⟨hk, hk.2⟩ : _ ∧ k_ ≠ gb322))) (fun _ hk => hk.2) (.int .i64 ((rd_T70 x3_2 x29_2).f0))) (fun _ hk => hk.2) (.int .i64 ((rd_T70 x3_2 x29_2).f1))) (fun _ hk => hk.2) (.int .i64 ((rd_T70 x3_2 x29_2).f2))) (fun _ hk => hk.2) (.int .i64 ((rd_T70 x3_2 x29_2).f3))) (fun _ hk => hk.1.2)))⟩; have n1_ : Aside0 (Kd.R k102 102 w40 w.heap.size (fun _ => True) (.slice Ao7 t309.length co7) t309) := ⟨(by rw [hw]; exact (by (with_reducible repeat (first | apply Kd.R_alloc | apply Kd.R_drewN | apply Kd.R_drew)); exact Kd.R_mono (Kd.R_far (p := ⟨gb322, 3, none⟩) (Kd.R_far (p := ⟨gb322, 2, none⟩) (Kd.R_far (p := ⟨gb322, 1, none⟩) (Kd.R_far (p := ⟨gb322, 0, none⟩) (Kd.R_types aa.out BK322.out (by decide)) (fun _ hk => hk.2) (.int .i64 ((rd_T70 x3_2 x29_2).f0))) (fun _ hk => hk.2) (.int .i64 ((rd_T70 x3_2 x29_2).f1))) (fun _ hk => hk.2) (.int .i64 ((rd_T70 x3_2 x29_2).f2))) (fun _ hk => hk.2) (.int .i64 ((rd_T70 x3_2 x29_2).f3))) (fun _ hk => trivial)))⟩; have n2_ : Aside0 (Kd.R (Kd.int .i64) 3 w40 w.heap.size (fun _ => True) v313 t312) := ⟨(by rw [hw]; exact (by (with_reducible repeat (first | apply Kd.R_alloc | apply Kd.R_drewN | apply Kd.R_drew)); exact Kd.R_mono (Kd.R_far (p := ⟨gb322, 3, none⟩) (Kd.R_far (p := ⟨gb322, 2, none⟩) (Kd.R_far (p := ⟨gb322, 1, none⟩) (Kd.R_far (p := ⟨gb322, 0, none⟩) (Kd.R_types ab.out BK322.out (by decide)) (fun _ hk => hk.2) (.int .i64 ((rd_T70 x3_2 x29_2).f0))) (fun _ hk => hk.2) (.int .i64 ((rd_T70 x3_2 x29_2).f1))) (fun _ hk => hk.2) (.int .i64 ((rd_T70 x3_2 x29_2).f2))) (fun _ hk => hk.2) (.int .i64 ((rd_T70 x3_2 x29_2).f3))) (fun _ hk => trivial)))⟩; have n3_ : Aside0 (w40.heap[gb315]? = some (.cells #[.slice Ao7 t309.length co7, v313] 81 (0, 0))) := ⟨(by rw [hw]; exact (gZ ah.out BK315.out))⟩; have n4_ : Aside0 (w40.heap[gb322]? = some (.cells #[.int .i64 ((rd_T70 x3_2 x29_2).f0), .int .i64 ((rd_T70 x3_2 x29_2).f1), .int .i64 ((rd_T70 x3_2 x29_2).f2), .int .i64 ((rd_T70 x3_2 x29_2).f3)] 70 (0, 0))) := ⟨(by rw [hw]; exact (bZ BK322.out))⟩; have n5_ : Aside0 (Below w.heap.size w w40) := ⟨(by rw [hw]; exact z11_4)⟩; clear hw; clear HO_3; clear aa; clear ab; clear BK315; clear BK322; clear HB; have HO_3 := n0_; have aa := n1_; have ab := n2_; have BK315 := n3_; have BK322 := n4_; have HB := n5_; clear n0_ n1_ n2_ n3_ n4_ n5_; have hcz41_0 : w40.cell? ⟨gb322, 0, none⟩ = some (.int .i64 ((rd_T70 x3_2 x29_2).f0)) := bA11 BK322 rfl; have hcz41_1 : w40.cell? ⟨gb322, 1, none⟩ = some (.int .i64 ((rd_T70 x3_2 x29_2).f1)) := bA11 BK322 rfl; have hcz41_2 : w40.cell? ⟨gb322, 2, none⟩ = some (.int .i64 ((rd_T70 x3_2 x29_2).f2)) := bA11 BK322 rfl; have hcz41_3 : w40.cell? ⟨gb322, 3, none⟩ = some (.int .i64 ((rd_T70 x3_2 x29_2).f3)) := bA11 BK322 rfl; have hfz41_0 := blk_frozen BK322.out 0; have hfz41_1 := blk_frozen BK322.out 1; have hfz41_2 := blk_frozen BK322.out 2; have hfz41_3 := blk_frozen BK322.out 3) | ((with_reducible refine gate_callee (f := 60) rfl ?_); refine goesL_ (some 35) rfl rfl Try.func60 (by kernel_rfl) rfl #[.agg #[.int .i64 ((rd_T70 x3_2 x29_2).f0), .int .i64 ((rd_T70 x3_2 x29_2).f1), .int .i64 ((rd_T70 x3_2 x29_2).f2), .int .i64 ((rd_T70 x3_2 x29_2).f3)]] rfl z11_8 ?_; (with_reducible refine (impl_vector_lead.calls ((rd_T70 x3_2 x29_2).f0) ((rd_T70 x3_2 x29_2).f1) ((rd_T70 x3_2 x29_2).f2) ((rd_T70 x3_2 x29_2).f3) t323 _ A33.out).mono ?_); rintro e w42 ⟨rfl, hb⟩; refine ⟨_, rfl, ?_⟩; replace HO_3 := Aside0.mk (Kd.R_below z11_5 hb); replace aa := Aside0.mk (Kd.R_below z11_7 hb); replace ab := Aside0.mk (Kd.R_below z11_6 hb); replace BK315 := Aside0.mk (blk_below (g := gb315) (o := .cells #[.slice Ao7 t309.length co7, v313] 81 (0, 0)) (zL11 BK315.out) hb); replace BK322 := Aside0.mk (blk_below (g := gb322) (o := .cells #[.int .i64 ((rd_T70 x3_2 x29_2).f0), .int .i64 ((rd_T70 x3_2 x29_2).f1), .int .i64 ((rd_T70 x3_2 x29_2).f2), .int .i64 ((rd_T70 x3_2 x29_2).f3)] 70 (0, 0)) (zL11 BK322.out) hb); replace HB := Aside0.mk (below_step z11_4 hb); (try clear hb)))
       go_loopg [38] k2 (fun kq v38 w' => ∃ (x3_3 : List (S70)) (x38_3 : Int) (ac : Int) (ad : Int) (ae : Int) (af : Int), v38 = .int .i64 x38_3 ∧ Aside0 (impl_tidy.l2 kq x3_3 x29_2 t323 (x3_1.length : Int) x29_2 (x3_2.length : Int) x38_3 = some r) ∧ Aside0 (kq ≤ k2) ∧ Aside0 (Kd.R k70 70 w' w.heap.size (fun k_ => k_ ≠ gb322) (.slice (some ad321) x3_2.length co29) x3_3) ∧ Aside0 (Kd.R k102 102 w' w.heap.size (fun _ => True) (.slice Ao7 t309.length co7) t309) ∧ Aside0 (Kd.R (Kd.int .i64) 3 w' w.heap.size (fun _ => True) v313 t312) ∧ Aside0 (w'.heap[gb315]? = some (.cells #[(.slice Ao7 t309.length co7), v313] 81 (0, 0))) ∧ Aside0 (w'.heap[gb322]? = some (.cells #[.int .i64 ac, .int .i64 ad, .int .i64 ae, .int .i64 af] 70 (0, 0))) ∧ Aside0 (Below w.heap.size w w'))
       case atStart => exact ⟨(x3_2), (0), ((rd_T70 x3_2 x29_2).f0), ((rd_T70 x3_2 x29_2).f1), ((rd_T70 x3_2 x29_2).f2), ((rd_T70 x3_2 x29_2).f3), z11_12, H', ⟨Nat.le_refl _⟩, ⟨by (try simp only [hl3_2]); (with_reducible repeat (first | apply Kd.R_alloc | apply Kd.R_drewN | apply Kd.R_drew)); exact HO_3.out⟩, ⟨by (try simp only [hl3_2]); (with_reducible repeat (first | apply Kd.R_alloc | apply Kd.R_drewN | apply Kd.R_drew)); exact aa.out⟩, ⟨by (try simp only [hl3_2]); (with_reducible repeat (first | apply Kd.R_alloc | apply Kd.R_drewN | apply Kd.R_drew)); exact ab.out⟩, ⟨by (try simp only [hl3_2]); (with_reducible repeat first|refine blk_drewN ?_ _|refine blk_drew ?_|refine blk_alloc ?_ _); exact BK315.out⟩, ⟨by (try simp only [hl3_2]); (with_reducible repeat first|refine blk_drewN ?_ _|refine blk_drew ?_|refine blk_alloc ?_ _); exact BK322.out⟩, ⟨z11_4⟩⟩
       case round =>
        clear H'
        try clear c8
        try clear c8b0
        try clear c30
        try clear c30b0
        try clear c31
        try clear c31b0
        try clear c32
        try clear c32b0
        try clear hcz36_0
        try clear hcz37_1
        try clear hcz38_2
        try clear hcz39_3
        try clear hcz41_0 hcz41_1 hcz41_2 hcz41_3
        try clear am
        try clear hfz36_0
        try clear hfz37_1
        try clear hfz38_2
        try clear hfz39_3
        try clear hfz41_0 hfz41_1 hfz41_2 hfz41_3
        try clear an
        try clear hx321_0 hx321_1 hx321_2 hx321_3
        try clear p321
        try clear q321
        obtain ⟨x3_3, x38_3, ac, ad, ae, af, rfl, HA, HK3, HO_3, aa, ab, BK315, BK322, HB⟩ := hrel
        have hl3_3 := (Kd.R_reads' HO_3.out).1
        rw [hl3_3] at HO_3
        (try simp only [hl3_3])
        (try simp only [hl3_3] at BK315)
        (try simp only [hl3_3] at BK322)
        (try simp only [hl3_3] at aa)
        (try simp only [hl3_3] at ab)
        cases gk with
        | zero => exact absurd HA.out (by simp [impl_tidy.l2])
        | succ k3 =>
         have H := HA.out
         clear HA
         simp only [impl_tidy.l2] at H
         by_cases c43 : x38_3 < (x3_2.length : Int)
         ·rw [if_pos c43] at H
          have c43b0 : decide (x38_3 < (x3_2.length : Int)) = true := decide_eq_true c43
          (try simp only [hl3_2, hl3_3] at c43b0)
          clear c43
          by_cases c44 : x38_3 = x29_2
          ·rw [if_pos c44] at H
           have c44b0 : (x38_3 == x29_2) = true := beq_iff_eq.mpr c44
           have c44b1 : (x38_3 != x29_2) = false := bne_eq_false_iff_eq.mpr c44
           clear c44
           have H' := Aside0.mk H
           clear H
           go_wp2
           (try simp only [← hl3_3])
           go_roundg k3
           case measure => have := HK1.out; have := HK2.out; have := HK3.out; omega
           case rel => exact ⟨(x3_3), (wrap64 (x38_3 + 1)), (ac), (ad), (ae), (af), z11_12, H', ⟨z11_13⟩, ⟨by (try simp only [hl3_2]); (try simp only [hl3_3]); (with_reducible repeat (first | apply Kd.R_alloc | apply Kd.R_drewN | apply Kd.R_drew)); exact HO_3.out⟩, ⟨z11_15⟩, ⟨z11_16⟩, ⟨z11_14⟩, ⟨by (try simp only [hl3_2]); (try simp only [hl3_3]); (with_reducible repeat first|refine blk_drewN ?_ _|refine blk_drew ?_|refine blk_alloc ?_ _); exact BK322.out⟩, ⟨z11_4⟩⟩
          ·rw [if_neg c44] at H
           have c44b0 : (x38_3 == x29_2) = false := beq_eq_false_iff_ne.mpr c44
           have c44b1 : (x38_3 != x29_2) = true := bne_iff_ne.mpr c44
           obtain ⟨c45, H⟩ := ifP H
           have c45b0 : decide (0 ≤ x38_3) = true := decide_eq_true c45
           clear c45
           obtain ⟨c46, H⟩ := ifP H
           have c46b0 : decide (x38_3 < (x3_3.length : Int)) = true := decide_eq_true c46
           (try simp only [hl3_2, hl3_3] at c46b0)
           clear c46
           obtain ⟨c47, H⟩ := ifP H
           have c47b0 : decide (0 ≤ x29_2) = true := decide_eq_true c47
           clear c47
           obtain ⟨c48, H⟩ := ifP H
           have c48b0 : decide (x29_2 < (x3_3.length : Int)) = true := decide_eq_true c48
           (try simp only [hl3_2, hl3_3] at c48b0)
           clear c48
           by_cases c49 : t323 = 0
           ·rw [if_pos c49] at H
            subst c49
            replace H : ((impl_vector_times.f ((rd_T70 x3_3 x29_2).f0) ((rd_T70 x3_3 x29_2).f1) ((rd_T70 x3_3 x29_2).f2) ((rd_T70 x3_3 x29_2).f3) ((rd_T70 x3_3 x38_3).f0)).bind fun bt327 => ((impl_vector_minus.f ((rd_T70 x3_3 x38_3).f0) ((rd_T70 x3_3 x38_3).f1) ((rd_T70 x3_3 x38_3).f2) ((rd_T70 x3_3 x38_3).f3) bt327.1 bt327.2.1 bt327.2.2.1 bt327.2.2.2).bind fun bt331 => (impl_tidy.l2 k3 (x3_3.set (x38_3 : Int).toNat (⟨bt331.1, bt331.2.1, bt331.2.2.1, bt331.2.2.2⟩ : S70)) x29_2 (0 : Int) (x3_1.length : Int) x29_2 (x3_2.length : Int) (wrap64 (x38_3 + 1))))) = some r := H
            replace H := Option.bind_eq_some_iff.mp H
            obtain ⟨⟨t327, t328, t329, t330⟩, A500, H⟩ := H
            replace H : ((impl_vector_minus.f ((rd_T70 x3_3 x38_3).f0) ((rd_T70 x3_3 x38_3).f1) ((rd_T70 x3_3 x38_3).f2) ((rd_T70 x3_3 x38_3).f3) t327 t328 t329 t330).bind fun bt331 => (impl_tidy.l2 k3 (x3_3.set (x38_3 : Int).toNat (⟨bt331.1, bt331.2.1, bt331.2.2.1, bt331.2.2.2⟩ : S70)) x29_2 (0 : Int) (x3_1.length : Int) x29_2 (x3_2.length : Int) (wrap64 (x38_3 + 1)))) = some r := H
            have A50 := Aside0.mk A500
            clear A500
            replace H := Option.bind_eq_some_iff.mp H
            obtain ⟨⟨t331, t332, t333, t334⟩, A510, H⟩ := H
            replace H : (impl_tidy.l2 k3 (x3_3.set (x38_3 : Int).toNat (⟨t331, t332, t333, t334⟩ : S70)) x29_2 (0 : Int) (x3_1.length : Int) x29_2 (x3_2.length : Int) (wrap64 (x38_3 + 1))) = some r := H
            have A51 := Aside0.mk A510
            clear A510
            obtain ⟨y335, hy335⟩ : ∃ y_ : List (S70), y_ = (x3_3.set (x38_3 : Int).toNat (⟨t331, t332, t333, t334⟩ : S70)) := ⟨_, rfl⟩
            replace H : (impl_tidy.l2 k3 y335 x29_2 (0 : Int) (x3_1.length : Int) x29_2 (x3_2.length : Int) (wrap64 (x38_3 + 1))) = some r := by first | (rw [hy335]; with_reducible exact H) | (have H2_ := (Option.bind_some _ _).symm.trans H; rw [hy335]; with_reducible exact H2_) | (have H2_ := (Option.bind_some _ _).symm.trans H; with_reducible exact H2_) | with_reducible exact H | (rw [hy335]; exact H) | exact H
            have Ny335 := Aside0.mk hy335
            clear hy335
            have H' := Aside0.mk H
            clear H
            try go_wp2
            replace HO_3 := Aside0.mk (Kd.R_drew HO_3.out)
            replace aa := Aside0.mk (Kd.R_drew aa.out)
            replace ab := Aside0.mk (Kd.R_drew ab.out)
            replace BK315 := Aside0.mk (blk_drew BK315.out)
            replace BK322 := Aside0.mk (blk_drew BK322.out)
            replace HB := Aside0.mk (below_drew1 HB.out)
            have p324 : 0 ≤ (x38_3 : Int) := of_decide_eq_true z11_3
            have q324 : x38_3 < (x3_3.length : Int) := of_decide_eq_true z11_3
            obtain ⟨ad324, e324, hx324_0, hx324_1, hx324_2, hx324_3⟩ := at_T70 (Kd.R_reads' HO_3.out).2.2 x38_3 p324 q324
            obtain rfl : ad321 = ad324 := (by injection e324)
            replace p324 := eq_true p324
            replace q324 := eq_true q324
            have p325 : 0 ≤ (x29_2 : Int) := of_decide_eq_true z11_3
            have q325 : x29_2 < (x3_3.length : Int) := of_decide_eq_true z11_3
            obtain ⟨ad325, e325, hx325_0, hx325_1, hx325_2, hx325_3⟩ := at_T70 (Kd.R_reads' HO_3.out).2.2 x29_2 p325 q325
            obtain rfl : ad321 = ad325 := (by injection e325)
            replace p325 := eq_true p325
            replace q325 := eq_true q325
            have p326 : 0 ≤ (x38_3 : Int) := of_decide_eq_true z11_3
            have q326 : x38_3 < (x3_3.length : Int) := of_decide_eq_true z11_3
            obtain ⟨ad326, e326, hx326_0, hx326_1, hx326_2, hx326_3⟩ := at_T70 (Kd.R_reads' HO_3.out).2.2 x38_3 p326 q326
            obtain rfl : ad321 = ad326 := (by injection e326)
            replace p326 := eq_true p326
            replace q326 := eq_true q326
            refine start_ (n := 20) (S := fun w' => w'.cell? (ad321.add ((x38_3).toNat * 4)) = some (.int .i64 ((rd_T70 x3_3 x38_3).f0)) ∧ w'.cell? ⟨(ad321.add ((x38_3).toNat * 4)).block, (ad321.add ((x38_3).toNat * 4)).off + 1, none⟩ = some (.int .i64 ((rd_T70 x3_3 x38_3).f1)) ∧ w'.cell? ⟨(ad321.add ((x38_3).toNat * 4)).block, (ad321.add ((x38_3).toNat * 4)).off + 2, none⟩ = some (.int .i64 ((rd_T70 x3_3 x38_3).f2)) ∧ w'.cell? ⟨(ad321.add ((x38_3).toNat * 4)).block, (ad321.add ((x38_3).toNat * 4)).off + 3, none⟩ = some (.int .i64 ((rd_T70 x3_3 x38_3).f3)) ∧ w'.cell? (ad321.add ((x29_2).toNat * 4)) = some (.int .i64 ((rd_T70 x3_3 x29_2).f0)) ∧ w'.cell? ⟨(ad321.add ((x29_2).toNat * 4)).block, (ad321.add ((x29_2).toNat * 4)).off + 1, none⟩ = some (.int .i64 ((rd_T70 x3_3 x29_2).f1)) ∧ w'.cell? ⟨(ad321.add ((x29_2).toNat * 4)).block, (ad321.add ((x29_2).toNat * 4)).off + 2, none⟩ = some (.int .i64 ((rd_T70 x3_3 x29_2).f2)) ∧ w'.cell? ⟨(ad321.add ((x29_2).toNat * 4)).block, (ad321.add ((x29_2).toNat * 4)).off + 3, none⟩ = some (.int .i64 ((rd_T70 x3_3 x29_2).f3)) ∧ w'.cell? (ad321.add ((x38_3).toNat * 4)) = some (.int .i64 ((rd_T70 x3_3 x38_3).f0)) ∧ w'.cell? ⟨(ad321.add ((x38_3).toNat * 4)).block, (ad321.add ((x38_3).toNat * 4)).off + 1, none⟩ = some (.int .i64 ((rd_T70 x3_3 x38_3).f1)) ∧ w'.cell? ⟨(ad321.add ((x38_3).toNat * 4)).block, (ad321.add ((x38_3).toNat * 4)).off + 2, none⟩ = some (.int .i64 ((rd_T70 x3_3 x38_3).f2)) ∧ w'.cell? ⟨(ad321.add ((x38_3).toNat * 4)).block, (ad321.add ((x38_3).toNat * 4)).off + 3, none⟩ = some (.int .i64 ((rd_T70 x3_3 x38_3).f3))) (ds := [19]) #[false, false, false, false, false, false, false, false, false, false, false, false, false, false, false, false, false, false, false, false] (by kernel_rfl) rfl rfl ⟨hx324_0, hx324_1, hx324_2, hx324_3, hx325_0, hx325_1, hx325_2, hx325_3, hx326_0, hx326_1, hx326_2, hx326_3⟩ (fun hHeld => ?_); refine with_tabW impl_tidy.tab15 impl_tidy.bits15 (fun HT_ HW_ => ?_)
            generalize wr.drew = w53 at HO_3 aa ab BK315 BK322 HB hx324_0 hx324_1 hx324_2 hx324_3 hx325_0 hx325_1 hx325_2 hx325_3 hx326_0 hx326_1 hx326_2 hx326_3 hHeld ⊢
            refine pZ 0 HT_ ?_
            refine pZ 1 HT_ ?_
            refine pZ 2 HT_ ?_
            refine pZ 3 HT_ ?_
            refine pZ 4 HT_ ?_
            refine pZ 6 HT_ ?_
            refine pZ 7 HT_ ?_
            refine pZ 8 HT_ ?_
            refine pZ 10 HT_ ?_
            refine pZ 11 HT_ ?_
            refine pZ 12 HT_ ?_
            refine pZ 13 HT_ ?_
            refine pZ 14 HT_ ?_
            refine tZ 5 hHeld HT_ HW_ ?_
            refine tZ 9 hHeld HT_ HW_ ?_
            refine tZ 15 hHeld HT_ HW_ ?_
            refine oZ 16 HT_ (fun K hK => ?_)
            refine goes_ Try.func93 (by kernel_rfl) rfl #[.agg #[.int .i64 ((rd_T70 x3_3 x29_2).f0), .int .i64 ((rd_T70 x3_3 x29_2).f1), .int .i64 ((rd_T70 x3_3 x29_2).f2), .int .i64 ((rd_T70 x3_3 x29_2).f3)], .int .i64 ((rd_T70 x3_3 x38_3).f0)] (by rfl) rfl rfl z11_8 ?_
            with_reducible refine (impl_vector_times.calls ((rd_T70 x3_3 x29_2).f0) ((rd_T70 x3_3 x29_2).f1) ((rd_T70 x3_3 x29_2).f2) ((rd_T70 x3_3 x29_2).f3) ((rd_T70 x3_3 x38_3).f0) t327 t328 t329 t330 _ A50.out).mono ?_
            rintro e w54 ⟨rfl, hb⟩
            have HS0_ := (hb.cell (World.block_lt_of_cell? _ _ (hHeld.1))).trans (hHeld.1)
            have HS1_ := (hb.cell (World.block_lt_of_cell? _ _ (hHeld.2.1))).trans (hHeld.2.1)
            have HS2_ := (hb.cell (World.block_lt_of_cell? _ _ (hHeld.2.2.1))).trans (hHeld.2.2.1)
            have HS3_ := (hb.cell (World.block_lt_of_cell? _ _ (hHeld.2.2.2.1))).trans (hHeld.2.2.2.1)
            have HS4_ := (hb.cell (World.block_lt_of_cell? _ _ (hHeld.2.2.2.2.1))).trans (hHeld.2.2.2.2.1)
            have HS5_ := (hb.cell (World.block_lt_of_cell? _ _ (hHeld.2.2.2.2.2.1))).trans (hHeld.2.2.2.2.2.1)
            have HS6_ := (hb.cell (World.block_lt_of_cell? _ _ (hHeld.2.2.2.2.2.2.1))).trans (hHeld.2.2.2.2.2.2.1)
            have HS7_ := (hb.cell (World.block_lt_of_cell? _ _ (hHeld.2.2.2.2.2.2.2.1))).trans (hHeld.2.2.2.2.2.2.2.1)
            have HS8_ := (hb.cell (World.block_lt_of_cell? _ _ (hHeld.2.2.2.2.2.2.2.2.1))).trans (hHeld.2.2.2.2.2.2.2.2.1)
            have HS9_ := (hb.cell (World.block_lt_of_cell? _ _ (hHeld.2.2.2.2.2.2.2.2.2.1))).trans (hHeld.2.2.2.2.2.2.2.2.2.1)
            have HS10_ := (hb.cell (World.block_lt_of_cell? _ _ (hHeld.2.2.2.2.2.2.2.2.2.2.1))).trans (hHeld.2.2.2.2.2.2.2.2.2.2.1)
            have HS11_ := (hb.cell (World.block_lt_of_cell? _ _ (hHeld.2.2.2.2.2.2.2.2.2.2.2))).trans (hHeld.2.2.2.2.2.2.2.2.2.2.2)
            refine ⟨_, rfl, ?_⟩
            replace HO_3 := Aside0.mk (Kd.R_below z11_5 hb)
            replace aa := Aside0.mk (Kd.R_below z11_7 hb)
            replace ab := Aside0.mk (Kd.R_below z11_6 hb)
            replace BK315 := Aside0.mk (blk_below (g := gb315) (o := .cells #[.slice Ao7 t309.length co7, v313] 81 (0, 0)) (zL11 BK315.out) hb)
            replace BK322 := Aside0.mk (blk_below (g := gb322) (o := .cells #[.int .i64 ac, .int .i64 ad, .int .i64 ae, .int .i64 af] 70 (0, 0)) (zL11 BK322.out) hb)
            replace HB := Aside0.mk (below_step z11_4 hb)
            (try clear hb)
            (try clear hb2)
            (try clear hk)
            (try clear hi)
            refine hK.out _ _ ⟨HS0_, HS1_, HS2_, HS3_, HS4_, HS5_, HS6_, HS7_, HS8_, HS9_, HS10_, HS11_⟩ (fun hHeld => ?_)
            clear hK K
            refine nZ ?_
            refine oZ 17 HT_ (fun K hK => ?_)
            refine goes_ Try.func92 (by kernel_rfl) rfl #[.agg #[.int .i64 ((rd_T70 x3_3 x38_3).f0), .int .i64 ((rd_T70 x3_3 x38_3).f1), .int .i64 ((rd_T70 x3_3 x38_3).f2), .int .i64 ((rd_T70 x3_3 x38_3).f3)], .agg #[.int .i64 t327, .int .i64 t328, .int .i64 t329, .int .i64 t330]] (by rfl) rfl rfl z11_8 ?_
            with_reducible refine (impl_vector_minus.calls ((rd_T70 x3_3 x38_3).f0) ((rd_T70 x3_3 x38_3).f1) ((rd_T70 x3_3 x38_3).f2) ((rd_T70 x3_3 x38_3).f3) t327 t328 t329 t330 t331 t332 t333 t334 _ A51.out).mono ?_
            rintro e w55 ⟨rfl, hb⟩
            have HS0_ := (hb.cell (World.block_lt_of_cell? _ _ (hHeld.1))).trans (hHeld.1)
            have HS1_ := (hb.cell (World.block_lt_of_cell? _ _ (hHeld.2.1))).trans (hHeld.2.1)
            have HS2_ := (hb.cell (World.block_lt_of_cell? _ _ (hHeld.2.2.1))).trans (hHeld.2.2.1)
            have HS3_ := (hb.cell (World.block_lt_of_cell? _ _ (hHeld.2.2.2.1))).trans (hHeld.2.2.2.1)
            have HS4_ := (hb.cell (World.block_lt_of_cell? _ _ (hHeld.2.2.2.2.1))).trans (hHeld.2.2.2.2.1)
            have HS5_ := (hb.cell (World.block_lt_of_cell? _ _ (hHeld.2.2.2.2.2.1))).trans (hHeld.2.2.2.2.2.1)
            have HS6_ := (hb.cell (World.block_lt_of_cell? _ _ (hHeld.2.2.2.2.2.2.1))).trans (hHeld.2.2.2.2.2.2.1)
            have HS7_ := (hb.cell (World.block_lt_of_cell? _ _ (hHeld.2.2.2.2.2.2.2.1))).trans (hHeld.2.2.2.2.2.2.2.1)
            have HS8_ := (hb.cell (World.block_lt_of_cell? _ _ (hHeld.2.2.2.2.2.2.2.2.1))).trans (hHeld.2.2.2.2.2.2.2.2.1)
            have HS9_ := (hb.cell (World.block_lt_of_cell? _ _ (hHeld.2.2.2.2.2.2.2.2.2.1))).trans (hHeld.2.2.2.2.2.2.2.2.2.1)
            have HS10_ := (hb.cell (World.block_lt_of_cell? _ _ (hHeld.2.2.2.2.2.2.2.2.2.2.1))).trans (hHeld.2.2.2.2.2.2.2.2.2.2.1)
            have HS11_ := (hb.cell (World.block_lt_of_cell? _ _ (hHeld.2.2.2.2.2.2.2.2.2.2.2))).trans (hHeld.2.2.2.2.2.2.2.2.2.2.2)
            refine ⟨_, rfl, ?_⟩
            replace HO_3 := Aside0.mk (Kd.R_below z11_5 hb)
            replace aa := Aside0.mk (Kd.R_below z11_7 hb)
            replace ab := Aside0.mk (Kd.R_below z11_6 hb)
            replace BK315 := Aside0.mk (blk_below (g := gb315) (o := .cells #[.slice Ao7 t309.length co7, v313] 81 (0, 0)) (zL11 BK315.out) hb)
            replace BK322 := Aside0.mk (blk_below (g := gb322) (o := .cells #[.int .i64 ac, .int .i64 ad, .int .i64 ae, .int .i64 af] 70 (0, 0)) (zL11 BK322.out) hb)
            replace HB := Aside0.mk (below_step z11_4 hb)
            (try clear hb)
            (try clear hb2)
            (try clear hk)
            (try clear hi)
            have p52 : 0 ≤ (x38_3 : Int) := of_decide_eq_true z11_3
            have q52 : (x38_3 : Int) < ((x3_3.length : Int) : Int) := of_decide_eq_true z11_3
            obtain ⟨go52, co52, eo52, gb52, gl52, cl52, HG52⟩ := Kd.R_form HO_3.out (by omega)
            (first | cases eo52 | (injection eo52 with ea_ en_ ec_; (first | subst ea_ | (injection ea_ with ea_; subst ea_)); subst ec_; clear en_))
            have GB52 := Aside0.mk gb52
            have GG52 := Aside0.mk HG52
            clear gb52 gl52 HG52
            (first | simp only [add_plain] at hx321_0 | skip)
            (first | simp only [add_plain] at hx321_1 | skip)
            (first | simp only [add_plain] at hx321_2 | skip)
            (first | simp only [add_plain] at hx321_3 | skip)
            (first | simp only [add_plain] at hx324_0 | skip)
            (first | simp only [add_plain] at hx324_1 | skip)
            (first | simp only [add_plain] at hx324_2 | skip)
            (first | simp only [add_plain] at hx324_3 | skip)
            (first | simp only [add_plain] at hx325_0 | skip)
            (first | simp only [add_plain] at hx325_1 | skip)
            (first | simp only [add_plain] at hx325_2 | skip)
            (first | simp only [add_plain] at hx325_3 | skip)
            (first | simp only [add_plain] at hx326_0 | skip)
            (first | simp only [add_plain] at hx326_1 | skip)
            (first | simp only [add_plain] at hx326_2 | skip)
            (first | simp only [add_plain] at hx326_3 | skip)
            obtain ⟨ce52, hcl52, hM52, hcc52, hfr52⟩ := Kd.R_elem HO_3.out z70 (x38_3 : Int) p52 q52
            obtain rfl := k70_openM hM52
            have hx52_0 : World.cell? _ ⟨go52, (x38_3 : Int).toNat * 4, none⟩ = some (.int .i64 ((rd_T70 x3_3 x38_3).f0)) := hcc52 0 _ rfl
            have hx52_1 : World.cell? _ ⟨go52, (x38_3 : Int).toNat * 4 + 1, none⟩ = some (.int .i64 ((rd_T70 x3_3 x38_3).f1)) := hcc52 1 _ rfl
            have hx52_2 : World.cell? _ ⟨go52, (x38_3 : Int).toNat * 4 + 2, none⟩ = some (.int .i64 ((rd_T70 x3_3 x38_3).f2)) := hcc52 2 _ rfl
            have hx52_3 : World.cell? _ ⟨go52, (x38_3 : Int).toNat * 4 + 3, none⟩ = some (.int .i64 ((rd_T70 x3_3 x38_3).f3)) := hcc52 3 _ rfl
            have hf52_0 : World.frozen? _ ⟨go52, (x38_3 : Int).toNat * 4, none⟩ = false := hfr52 0
            have hf52_1 : World.frozen? _ ⟨go52, (x38_3 : Int).toNat * 4 + 1, none⟩ = false := hfr52 1
            have hf52_2 : World.frozen? _ ⟨go52, (x38_3 : Int).toNat * 4 + 2, none⟩ = false := hfr52 2
            have hf52_3 : World.frozen? _ ⟨go52, (x38_3 : Int).toNat * 4 + 3, none⟩ = false := hfr52 3
            (try clear hcl52); (try clear hcc52); (try clear hfr52); (try clear hM52)
            replace p52 := eq_true p52
            replace q52 := eq_true q52
            obtain ⟨ce56, hcl56, hM56, hcc56, hfr56⟩ := Kd.R_elem HO_3.out z70 (x38_3 : Int) (of_decide_eq_true z11_3) (by have h_ : (x38_3 : Int) < ((x3_3.length : Int) : Int) := of_decide_eq_true z11_3; first | exact h_ | (have e_ := (Kd.R_reads' HO_3.out).1; omega) | simpa using h_)
            obtain rfl := k70_openM hM56
            have HP56 := (Kd.R_seg HO_3.out (x38_3 : Int) (of_decide_eq_true z11_3) (by have h_ : (x38_3 : Int) < ((x3_3.length : Int) : Int) := of_decide_eq_true z11_3; first | exact h_ | (have e_ := (Kd.R_reads' HO_3.out).1; omega) | simpa using h_) (seg := [.int .i64 t331, .int .i64 t332, .int .i64 t333, .int .i64 t334]) (j := 0) hcl56 hcc56 (show 4 ≤ 4 from by decide) (x' := (⟨t331, t332, t333, t334⟩ : S70)) (k70_mkM _ _ _ (⟨t331, t332, t333, t334⟩ : S70) ) (fun _ hk => hk)).1
            rw [← Ny335.out] at HP56
            have HQ56 := Aside0.mk HP56
            (try clear hcl56); (try clear hcc56); (try clear hfr56); (try clear hM56); (try clear HP56)
            refine hK.out _ _ ⟨HS0_, HS1_, HS2_, HS3_, HS4_, HS5_, HS6_, HS7_, HS8_, HS9_, HS10_, HS11_⟩ (fun hHeld => ?_)
            clear hK K
            refine nZ ?_
            refine pZ 18 HT_ ?_
            refine lZ 19 HT_ (fun K hK => ?_)
            refine skip_ (w1 := ?_) (by rfl) rfl ?_ ?_
            rotate_left
            ·go_simp
             rfl
            refine hK.out _ _ ?_
            clear hK K
            refine done_ (done_of HT_.out (by kernel_rfl)) ?_
            try go_wp2
            (try simp only [← hl3_3])
            have hab_ : (⟨go52, (x29_2 : Int).toNat * 4, none⟩ : Addr) = (⟨go52, 0, none⟩ : Addr).add ((x29_2 : Int).toNat * 4) := (add_plain _ _).symm
            (try simp only [hab_])
            clear hab_
            go_roundg k3
            case measure => have := HK1.out; have := HK2.out; have := HK3.out; omega
            case rel => exact ⟨(y335), (wrap64 (x38_3 + 1)), (ac), (ad), (ae), (af), z11_12, H', ⟨z11_13⟩, ⟨by (try simp only [hl3_2]); (try simp only [hl3_3]); (with_reducible repeat (first | apply Kd.R_alloc | apply Kd.R_drewN | apply Kd.R_drew)); exact HQ56.out⟩, ⟨by (try simp only [hl3_2]); (try simp only [hl3_3]); (with_reducible repeat (first | apply Kd.R_alloc | apply Kd.R_drewN | apply Kd.R_drew)); exact Kd.R_mono (Kd.R_far (p := ⟨go52, (x38_3 : Int).toNat * 4 + 3, none⟩) (Kd.R_far (p := ⟨go52, (x38_3 : Int).toNat * 4 + 2, none⟩) (Kd.R_far (p := ⟨go52, (x38_3 : Int).toNat * 4 + 1, none⟩) (Kd.R_far (p := ⟨go52, (x38_3 : Int).toNat * 4, none⟩) (Kd.R_types aa.out GG52.out (by decide)) (fun _ hk => hk.2) (.int .i64 t331)) (fun _ hk => hk.2) (.int .i64 t332)) (fun _ hk => hk.2) (.int .i64 t333)) (fun _ hk => hk.2) (.int .i64 t334)) (fun _ hk => trivial)⟩, ⟨by (try simp only [hl3_2]); (try simp only [hl3_3]); (with_reducible repeat (first | apply Kd.R_alloc | apply Kd.R_drewN | apply Kd.R_drew)); exact Kd.R_mono (Kd.R_far (p := ⟨go52, (x38_3 : Int).toNat * 4 + 3, none⟩) (Kd.R_far (p := ⟨go52, (x38_3 : Int).toNat * 4 + 2, none⟩) (Kd.R_far (p := ⟨go52, (x38_3 : Int).toNat * 4 + 1, none⟩) (Kd.R_far (p := ⟨go52, (x38_3 : Int).toNat * 4, none⟩) (Kd.R_types ab.out GG52.out (by decide)) (fun _ hk => hk.2) (.int .i64 t331)) (fun _ hk => hk.2) (.int .i64 t332)) (fun _ hk => hk.2) (.int .i64 t333)) (fun _ hk => hk.2) (.int .i64 t334)) (fun _ hk => trivial)⟩, ⟨z11_1⟩, ⟨z11_2⟩, ⟨by repeat (first | (with_reducible first | exact HB.out | apply below_alloc | apply pw_below_drewN | apply below_drew1 | refine below_set ?_ GB52.out | refine below_set ?_ GB52.out | refine below_set ?_ GB52.out | refine below_set ?_ GB52.out | refine below_set ?_ GE315.out | refine below_set ?_ GE322.out) | exact HB.out)⟩⟩
           ·rw [if_neg c49] at H
            clear c49
            by_cases c57 : t323 = 1
            ·rw [if_pos c57] at H
             subst c57
             replace H : ((impl_vector_times.f ((rd_T70 x3_3 x29_2).f0) ((rd_T70 x3_3 x29_2).f1) ((rd_T70 x3_3 x29_2).f2) ((rd_T70 x3_3 x29_2).f3) ((rd_T70 x3_3 x38_3).f1)).bind fun bt336 => ((impl_vector_minus.f ((rd_T70 x3_3 x38_3).f0) ((rd_T70 x3_3 x38_3).f1) ((rd_T70 x3_3 x38_3).f2) ((rd_T70 x3_3 x38_3).f3) bt336.1 bt336.2.1 bt336.2.2.1 bt336.2.2.2).bind fun bt340 => (impl_tidy.l2 k3 (x3_3.set (x38_3 : Int).toNat (⟨bt340.1, bt340.2.1, bt340.2.2.1, bt340.2.2.2⟩ : S70)) x29_2 (1 : Int) (x3_1.length : Int) x29_2 (x3_2.length : Int) (wrap64 (x38_3 + 1))))) = some r := H
             replace H := Option.bind_eq_some_iff.mp H
             obtain ⟨⟨t336, t337, t338, t339⟩, A580, H⟩ := H
             replace H : ((impl_vector_minus.f ((rd_T70 x3_3 x38_3).f0) ((rd_T70 x3_3 x38_3).f1) ((rd_T70 x3_3 x38_3).f2) ((rd_T70 x3_3 x38_3).f3) t336 t337 t338 t339).bind fun bt340 => (impl_tidy.l2 k3 (x3_3.set (x38_3 : Int).toNat (⟨bt340.1, bt340.2.1, bt340.2.2.1, bt340.2.2.2⟩ : S70)) x29_2 (1 : Int) (x3_1.length : Int) x29_2 (x3_2.length : Int) (wrap64 (x38_3 + 1)))) = some r := H
             have A58 := Aside0.mk A580
             clear A580
             replace H := Option.bind_eq_some_iff.mp H
             obtain ⟨⟨t340, t341, t342, t343⟩, A590, H⟩ := H
             replace H : (impl_tidy.l2 k3 (x3_3.set (x38_3 : Int).toNat (⟨t340, t341, t342, t343⟩ : S70)) x29_2 (1 : Int) (x3_1.length : Int) x29_2 (x3_2.length : Int) (wrap64 (x38_3 + 1))) = some r := H
             have A59 := Aside0.mk A590
             clear A590
             obtain ⟨y344, hy344⟩ : ∃ y_ : List (S70), y_ = (x3_3.set (x38_3 : Int).toNat (⟨t340, t341, t342, t343⟩ : S70)) := ⟨_, rfl⟩
             replace H : (impl_tidy.l2 k3 y344 x29_2 (1 : Int) (x3_1.length : Int) x29_2 (x3_2.length : Int) (wrap64 (x38_3 + 1))) = some r := by first | (rw [hy344]; with_reducible exact H) | (have H2_ := (Option.bind_some _ _).symm.trans H; rw [hy344]; with_reducible exact H2_) | (have H2_ := (Option.bind_some _ _).symm.trans H; with_reducible exact H2_) | with_reducible exact H | (rw [hy344]; exact H) | exact H
             have Ny344 := Aside0.mk hy344
             clear hy344
             have H' := Aside0.mk H
             clear H
             try go_wp2
             replace HO_3 := Aside0.mk (Kd.R_drew HO_3.out)
             replace aa := Aside0.mk (Kd.R_drew aa.out)
             replace ab := Aside0.mk (Kd.R_drew ab.out)
             replace BK315 := Aside0.mk (blk_drew BK315.out)
             replace BK322 := Aside0.mk (blk_drew BK322.out)
             replace HB := Aside0.mk (below_drew1 HB.out)
             have p324 : 0 ≤ (x38_3 : Int) := of_decide_eq_true z11_3
             have q324 : x38_3 < (x3_3.length : Int) := of_decide_eq_true z11_3
             obtain ⟨ad324, e324, hx324_0, hx324_1, hx324_2, hx324_3⟩ := at_T70 (Kd.R_reads' HO_3.out).2.2 x38_3 p324 q324
             obtain rfl : ad321 = ad324 := (by injection e324)
             replace p324 := eq_true p324
             replace q324 := eq_true q324
             have p325 : 0 ≤ (x29_2 : Int) := of_decide_eq_true z11_3
             have q325 : x29_2 < (x3_3.length : Int) := of_decide_eq_true z11_3
             obtain ⟨ad325, e325, hx325_0, hx325_1, hx325_2, hx325_3⟩ := at_T70 (Kd.R_reads' HO_3.out).2.2 x29_2 p325 q325
             obtain rfl : ad321 = ad325 := (by injection e325)
             replace p325 := eq_true p325
             replace q325 := eq_true q325
             have p326 : 0 ≤ (x38_3 : Int) := of_decide_eq_true z11_3
             have q326 : x38_3 < (x3_3.length : Int) := of_decide_eq_true z11_3
             obtain ⟨ad326, e326, hx326_0, hx326_1, hx326_2, hx326_3⟩ := at_T70 (Kd.R_reads' HO_3.out).2.2 x38_3 p326 q326
             obtain rfl : ad321 = ad326 := (by injection e326)
             replace p326 := eq_true p326
             replace q326 := eq_true q326
             refine start_ (n := 20) (S := fun w' => w'.cell? (ad321.add ((x38_3).toNat * 4)) = some (.int .i64 ((rd_T70 x3_3 x38_3).f0)) ∧ w'.cell? ⟨(ad321.add ((x38_3).toNat * 4)).block, (ad321.add ((x38_3).toNat * 4)).off + 1, none⟩ = some (.int .i64 ((rd_T70 x3_3 x38_3).f1)) ∧ w'.cell? ⟨(ad321.add ((x38_3).toNat * 4)).block, (ad321.add ((x38_3).toNat * 4)).off + 2, none⟩ = some (.int .i64 ((rd_T70 x3_3 x38_3).f2)) ∧ w'.cell? ⟨(ad321.add ((x38_3).toNat * 4)).block, (ad321.add ((x38_3).toNat * 4)).off + 3, none⟩ = some (.int .i64 ((rd_T70 x3_3 x38_3).f3)) ∧ w'.cell? (ad321.add ((x29_2).toNat * 4)) = some (.int .i64 ((rd_T70 x3_3 x29_2).f0)) ∧ w'.cell? ⟨(ad321.add ((x29_2).toNat * 4)).block, (ad321.add ((x29_2).toNat * 4)).off + 1, none⟩ = some (.int .i64 ((rd_T70 x3_3 x29_2).f1)) ∧ w'.cell? ⟨(ad321.add ((x29_2).toNat * 4)).block, (ad321.add ((x29_2).toNat * 4)).off + 2, none⟩ = some (.int .i64 ((rd_T70 x3_3 x29_2).f2)) ∧ w'.cell? ⟨(ad321.add ((x29_2).toNat * 4)).block, (ad321.add ((x29_2).toNat * 4)).off + 3, none⟩ = some (.int .i64 ((rd_T70 x3_3 x29_2).f3)) ∧ w'.cell? (ad321.add ((x38_3).toNat * 4)) = some (.int .i64 ((rd_T70 x3_3 x38_3).f0)) ∧ w'.cell? ⟨(ad321.add ((x38_3).toNat * 4)).block, (ad321.add ((x38_3).toNat * 4)).off + 1, none⟩ = some (.int .i64 ((rd_T70 x3_3 x38_3).f1)) ∧ w'.cell? ⟨(ad321.add ((x38_3).toNat * 4)).block, (ad321.add ((x38_3).toNat * 4)).off + 2, none⟩ = some (.int .i64 ((rd_T70 x3_3 x38_3).f2)) ∧ w'.cell? ⟨(ad321.add ((x38_3).toNat * 4)).block, (ad321.add ((x38_3).toNat * 4)).off + 3, none⟩ = some (.int .i64 ((rd_T70 x3_3 x38_3).f3))) (ds := [19]) #[false, false, false, false, false, false, false, false, false, false, false, false, false, false, false, false, false, false, false, false] (by kernel_rfl) rfl rfl ⟨hx324_0, hx324_1, hx324_2, hx324_3, hx325_0, hx325_1, hx325_2, hx325_3, hx326_0, hx326_1, hx326_2, hx326_3⟩ (fun hHeld => ?_); refine with_tabW impl_tidy.tab15 impl_tidy.bits15 (fun HT_ HW_ => ?_)
             generalize wr.drew = w61 at HO_3 aa ab BK315 BK322 HB hx324_0 hx324_1 hx324_2 hx324_3 hx325_0 hx325_1 hx325_2 hx325_3 hx326_0 hx326_1 hx326_2 hx326_3 hHeld ⊢
             refine pZ 0 HT_ ?_
             refine pZ 1 HT_ ?_
             refine pZ 2 HT_ ?_
             refine pZ 3 HT_ ?_
             refine pZ 4 HT_ ?_
             refine pZ 6 HT_ ?_
             refine pZ 7 HT_ ?_
             refine pZ 8 HT_ ?_
             refine pZ 10 HT_ ?_
             refine pZ 11 HT_ ?_
             refine pZ 12 HT_ ?_
             refine pZ 13 HT_ ?_
             refine pZ 14 HT_ ?_
             refine tZ 5 hHeld HT_ HW_ ?_
             refine tZ 9 hHeld HT_ HW_ ?_
             refine tZ 15 hHeld HT_ HW_ ?_
             refine oZ 16 HT_ (fun K hK => ?_)
             refine goes_ Try.func93 (by kernel_rfl) rfl #[.agg #[.int .i64 ((rd_T70 x3_3 x29_2).f0), .int .i64 ((rd_T70 x3_3 x29_2).f1), .int .i64 ((rd_T70 x3_3 x29_2).f2), .int .i64 ((rd_T70 x3_3 x29_2).f3)], .int .i64 ((rd_T70 x3_3 x38_3).f1)] (by rfl) rfl rfl z11_8 ?_
             with_reducible refine (impl_vector_times.calls ((rd_T70 x3_3 x29_2).f0) ((rd_T70 x3_3 x29_2).f1) ((rd_T70 x3_3 x29_2).f2) ((rd_T70 x3_3 x29_2).f3) ((rd_T70 x3_3 x38_3).f1) t336 t337 t338 t339 _ A58.out).mono ?_
             rintro e w62 ⟨rfl, hb⟩
             have HS0_ := (hb.cell (World.block_lt_of_cell? _ _ (hHeld.1))).trans (hHeld.1)
             have HS1_ := (hb.cell (World.block_lt_of_cell? _ _ (hHeld.2.1))).trans (hHeld.2.1)
             have HS2_ := (hb.cell (World.block_lt_of_cell? _ _ (hHeld.2.2.1))).trans (hHeld.2.2.1)
             have HS3_ := (hb.cell (World.block_lt_of_cell? _ _ (hHeld.2.2.2.1))).trans (hHeld.2.2.2.1)
             have HS4_ := (hb.cell (World.block_lt_of_cell? _ _ (hHeld.2.2.2.2.1))).trans (hHeld.2.2.2.2.1)
             have HS5_ := (hb.cell (World.block_lt_of_cell? _ _ (hHeld.2.2.2.2.2.1))).trans (hHeld.2.2.2.2.2.1)
             have HS6_ := (hb.cell (World.block_lt_of_cell? _ _ (hHeld.2.2.2.2.2.2.1))).trans (hHeld.2.2.2.2.2.2.1)
             have HS7_ := (hb.cell (World.block_lt_of_cell? _ _ (hHeld.2.2.2.2.2.2.2.1))).trans (hHeld.2.2.2.2.2.2.2.1)
             have HS8_ := (hb.cell (World.block_lt_of_cell? _ _ (hHeld.2.2.2.2.2.2.2.2.1))).trans (hHeld.2.2.2.2.2.2.2.2.1)
             have HS9_ := (hb.cell (World.block_lt_of_cell? _ _ (hHeld.2.2.2.2.2.2.2.2.2.1))).trans (hHeld.2.2.2.2.2.2.2.2.2.1)
             have HS10_ := (hb.cell (World.block_lt_of_cell? _ _ (hHeld.2.2.2.2.2.2.2.2.2.2.1))).trans (hHeld.2.2.2.2.2.2.2.2.2.2.1)
             have HS11_ := (hb.cell (World.block_lt_of_cell? _ _ (hHeld.2.2.2.2.2.2.2.2.2.2.2))).trans (hHeld.2.2.2.2.2.2.2.2.2.2.2)
             refine ⟨_, rfl, ?_⟩
             replace HO_3 := Aside0.mk (Kd.R_below z11_5 hb)
             replace aa := Aside0.mk (Kd.R_below z11_7 hb)
             replace ab := Aside0.mk (Kd.R_below z11_6 hb)
             replace BK315 := Aside0.mk (blk_below (g := gb315) (o := .cells #[.slice Ao7 t309.length co7, v313] 81 (0, 0)) (zL11 BK315.out) hb)
             replace BK322 := Aside0.mk (blk_below (g := gb322) (o := .cells #[.int .i64 ac, .int .i64 ad, .int .i64 ae, .int .i64 af] 70 (0, 0)) (zL11 BK322.out) hb)
             replace HB := Aside0.mk (below_step z11_4 hb)
             (try clear hb)
             (try clear hb2)
             (try clear hk)
             (try clear hi)
             refine hK.out _ _ ⟨HS0_, HS1_, HS2_, HS3_, HS4_, HS5_, HS6_, HS7_, HS8_, HS9_, HS10_, HS11_⟩ (fun hHeld => ?_)
             clear hK K
             refine nZ ?_
             refine oZ 17 HT_ (fun K hK => ?_)
             refine goes_ Try.func92 (by kernel_rfl) rfl #[.agg #[.int .i64 ((rd_T70 x3_3 x38_3).f0), .int .i64 ((rd_T70 x3_3 x38_3).f1), .int .i64 ((rd_T70 x3_3 x38_3).f2), .int .i64 ((rd_T70 x3_3 x38_3).f3)], .agg #[.int .i64 t336, .int .i64 t337, .int .i64 t338, .int .i64 t339]] (by rfl) rfl rfl z11_8 ?_
             with_reducible refine (impl_vector_minus.calls ((rd_T70 x3_3 x38_3).f0) ((rd_T70 x3_3 x38_3).f1) ((rd_T70 x3_3 x38_3).f2) ((rd_T70 x3_3 x38_3).f3) t336 t337 t338 t339 t340 t341 t342 t343 _ A59.out).mono ?_
             rintro e w63 ⟨rfl, hb⟩
             have HS0_ := (hb.cell (World.block_lt_of_cell? _ _ (hHeld.1))).trans (hHeld.1)
             have HS1_ := (hb.cell (World.block_lt_of_cell? _ _ (hHeld.2.1))).trans (hHeld.2.1)
             have HS2_ := (hb.cell (World.block_lt_of_cell? _ _ (hHeld.2.2.1))).trans (hHeld.2.2.1)
             have HS3_ := (hb.cell (World.block_lt_of_cell? _ _ (hHeld.2.2.2.1))).trans (hHeld.2.2.2.1)
             have HS4_ := (hb.cell (World.block_lt_of_cell? _ _ (hHeld.2.2.2.2.1))).trans (hHeld.2.2.2.2.1)
             have HS5_ := (hb.cell (World.block_lt_of_cell? _ _ (hHeld.2.2.2.2.2.1))).trans (hHeld.2.2.2.2.2.1)
             have HS6_ := (hb.cell (World.block_lt_of_cell? _ _ (hHeld.2.2.2.2.2.2.1))).trans (hHeld.2.2.2.2.2.2.1)
             have HS7_ := (hb.cell (World.block_lt_of_cell? _ _ (hHeld.2.2.2.2.2.2.2.1))).trans (hHeld.2.2.2.2.2.2.2.1)
             have HS8_ := (hb.cell (World.block_lt_of_cell? _ _ (hHeld.2.2.2.2.2.2.2.2.1))).trans (hHeld.2.2.2.2.2.2.2.2.1)
             have HS9_ := (hb.cell (World.block_lt_of_cell? _ _ (hHeld.2.2.2.2.2.2.2.2.2.1))).trans (hHeld.2.2.2.2.2.2.2.2.2.1)
             have HS10_ := (hb.cell (World.block_lt_of_cell? _ _ (hHeld.2.2.2.2.2.2.2.2.2.2.1))).trans (hHeld.2.2.2.2.2.2.2.2.2.2.1)
             have HS11_ := (hb.cell (World.block_lt_of_cell? _ _ (hHeld.2.2.2.2.2.2.2.2.2.2.2))).trans (hHeld.2.2.2.2.2.2.2.2.2.2.2)
             refine ⟨_, rfl, ?_⟩
             replace HO_3 := Aside0.mk (Kd.R_below z11_5 hb)
             replace aa := Aside0.mk (Kd.R_below z11_7 hb)
             replace ab := Aside0.mk (Kd.R_below z11_6 hb)
             replace BK315 := Aside0.mk (blk_below (g := gb315) (o := .cells #[.slice Ao7 t309.length co7, v313] 81 (0, 0)) (zL11 BK315.out) hb)
             replace BK322 := Aside0.mk (blk_below (g := gb322) (o := .cells #[.int .i64 ac, .int .i64 ad, .int .i64 ae, .int .i64 af] 70 (0, 0)) (zL11 BK322.out) hb)
             replace HB := Aside0.mk (below_step z11_4 hb)
             (try clear hb)
             (try clear hb2)
             (try clear hk)
             (try clear hi)
             have p60 : 0 ≤ (x38_3 : Int) := of_decide_eq_true z11_3
             have q60 : (x38_3 : Int) < ((x3_3.length : Int) : Int) := of_decide_eq_true z11_3
             obtain ⟨go60, co60, eo60, gb60, gl60, cl60, HG60⟩ := Kd.R_form HO_3.out (by omega)
             (first | cases eo60 | (injection eo60 with ea_ en_ ec_; (first | subst ea_ | (injection ea_ with ea_; subst ea_)); subst ec_; clear en_))
             have GB60 := Aside0.mk gb60
             have GG60 := Aside0.mk HG60
             clear gb60 gl60 HG60
             (first | simp only [add_plain] at hx324_0 | skip)
             (first | simp only [add_plain] at hx324_1 | skip)
             (first | simp only [add_plain] at hx324_2 | skip)
             (first | simp only [add_plain] at hx324_3 | skip)
             (first | simp only [add_plain] at hx325_0 | skip)
             (first | simp only [add_plain] at hx325_1 | skip)
             (first | simp only [add_plain] at hx325_2 | skip)
             (first | simp only [add_plain] at hx325_3 | skip)
             (first | simp only [add_plain] at hx326_0 | skip)
             (first | simp only [add_plain] at hx326_1 | skip)
             (first | simp only [add_plain] at hx326_2 | skip)
             (first | simp only [add_plain] at hx326_3 | skip)
             obtain ⟨ce60, hcl60, hM60, hcc60, hfr60⟩ := Kd.R_elem HO_3.out z70 (x38_3 : Int) p60 q60
             obtain rfl := k70_openM hM60
             have hx60_0 : World.cell? _ ⟨go60, (x38_3 : Int).toNat * 4, none⟩ = some (.int .i64 ((rd_T70 x3_3 x38_3).f0)) := hcc60 0 _ rfl
             have hx60_1 : World.cell? _ ⟨go60, (x38_3 : Int).toNat * 4 + 1, none⟩ = some (.int .i64 ((rd_T70 x3_3 x38_3).f1)) := hcc60 1 _ rfl
             have hx60_2 : World.cell? _ ⟨go60, (x38_3 : Int).toNat * 4 + 2, none⟩ = some (.int .i64 ((rd_T70 x3_3 x38_3).f2)) := hcc60 2 _ rfl
             have hx60_3 : World.cell? _ ⟨go60, (x38_3 : Int).toNat * 4 + 3, none⟩ = some (.int .i64 ((rd_T70 x3_3 x38_3).f3)) := hcc60 3 _ rfl
             have hf60_0 : World.frozen? _ ⟨go60, (x38_3 : Int).toNat * 4, none⟩ = false := hfr60 0
             have hf60_1 : World.frozen? _ ⟨go60, (x38_3 : Int).toNat * 4 + 1, none⟩ = false := hfr60 1
             have hf60_2 : World.frozen? _ ⟨go60, (x38_3 : Int).toNat * 4 + 2, none⟩ = false := hfr60 2
             have hf60_3 : World.frozen? _ ⟨go60, (x38_3 : Int).toNat * 4 + 3, none⟩ = false := hfr60 3
             (try clear hcl60); (try clear hcc60); (try clear hfr60); (try clear hM60)
             replace p60 := eq_true p60
             replace q60 := eq_true q60
             obtain ⟨ce64, hcl64, hM64, hcc64, hfr64⟩ := Kd.R_elem HO_3.out z70 (x38_3 : Int) (of_decide_eq_true z11_3) (by have h_ : (x38_3 : Int) < ((x3_3.length : Int) : Int) := of_decide_eq_true z11_3; first | exact h_ | (have e_ := (Kd.R_reads' HO_3.out).1; omega) | simpa using h_)
             obtain rfl := k70_openM hM64
             have HP64 := (Kd.R_seg HO_3.out (x38_3 : Int) (of_decide_eq_true z11_3) (by have h_ : (x38_3 : Int) < ((x3_3.length : Int) : Int) := of_decide_eq_true z11_3; first | exact h_ | (have e_ := (Kd.R_reads' HO_3.out).1; omega) | simpa using h_) (seg := [.int .i64 t340, .int .i64 t341, .int .i64 t342, .int .i64 t343]) (j := 0) hcl64 hcc64 (show 4 ≤ 4 from by decide) (x' := (⟨t340, t341, t342, t343⟩ : S70)) (k70_mkM _ _ _ (⟨t340, t341, t342, t343⟩ : S70) ) (fun _ hk => hk)).1
             rw [← Ny344.out] at HP64
             have HQ64 := Aside0.mk HP64
             (try clear hcl64); (try clear hcc64); (try clear hfr64); (try clear hM64); (try clear HP64)
             refine hK.out _ _ ⟨HS0_, HS1_, HS2_, HS3_, HS4_, HS5_, HS6_, HS7_, HS8_, HS9_, HS10_, HS11_⟩ (fun hHeld => ?_)
             clear hK K
             refine nZ ?_
             refine pZ 18 HT_ ?_
             refine lZ 19 HT_ (fun K hK => ?_)
             refine skip_ (w1 := ?_) (by rfl) rfl ?_ ?_
             rotate_left
             ·go_simp
              rfl
             refine hK.out _ _ ?_
             clear hK K
             refine done_ (done_of HT_.out (by kernel_rfl)) ?_
             try go_wp2
             (try simp only [← hl3_3])
             have hab_ : (⟨go60, (x29_2 : Int).toNat * 4, none⟩ : Addr) = (⟨go60, 0, none⟩ : Addr).add ((x29_2 : Int).toNat * 4) := (add_plain _ _).symm
             (try simp only [hab_])
             clear hab_
             go_roundg k3
             case measure => have := HK1.out; have := HK2.out; have := HK3.out; omega
             case rel => exact ⟨(y344), (wrap64 (x38_3 + 1)), (ac), (ad), (ae), (af), z11_12, H', ⟨z11_13⟩, ⟨by (try simp only [hl3_2]); (try simp only [hl3_3]); (with_reducible repeat (first | apply Kd.R_alloc | apply Kd.R_drewN | apply Kd.R_drew)); exact HQ64.out⟩, ⟨by (try simp only [hl3_2]); (try simp only [hl3_3]); (with_reducible repeat (first | apply Kd.R_alloc | apply Kd.R_drewN | apply Kd.R_drew)); exact Kd.R_mono (Kd.R_far (p := ⟨go60, (x38_3 : Int).toNat * 4 + 3, none⟩) (Kd.R_far (p := ⟨go60, (x38_3 : Int).toNat * 4 + 2, none⟩) (Kd.R_far (p := ⟨go60, (x38_3 : Int).toNat * 4 + 1, none⟩) (Kd.R_far (p := ⟨go60, (x38_3 : Int).toNat * 4, none⟩) (Kd.R_types aa.out GG60.out (by decide)) (fun _ hk => hk.2) (.int .i64 t340)) (fun _ hk => hk.2) (.int .i64 t341)) (fun _ hk => hk.2) (.int .i64 t342)) (fun _ hk => hk.2) (.int .i64 t343)) (fun _ hk => trivial)⟩, ⟨by (try simp only [hl3_2]); (try simp only [hl3_3]); (with_reducible repeat (first | apply Kd.R_alloc | apply Kd.R_drewN | apply Kd.R_drew)); exact Kd.R_mono (Kd.R_far (p := ⟨go60, (x38_3 : Int).toNat * 4 + 3, none⟩) (Kd.R_far (p := ⟨go60, (x38_3 : Int).toNat * 4 + 2, none⟩) (Kd.R_far (p := ⟨go60, (x38_3 : Int).toNat * 4 + 1, none⟩) (Kd.R_far (p := ⟨go60, (x38_3 : Int).toNat * 4, none⟩) (Kd.R_types ab.out GG60.out (by decide)) (fun _ hk => hk.2) (.int .i64 t340)) (fun _ hk => hk.2) (.int .i64 t341)) (fun _ hk => hk.2) (.int .i64 t342)) (fun _ hk => hk.2) (.int .i64 t343)) (fun _ hk => trivial)⟩, ⟨z11_1⟩, ⟨z11_2⟩, ⟨by repeat (first | (with_reducible first | exact HB.out | apply below_alloc | apply pw_below_drewN | apply below_drew1 | refine below_set ?_ GB60.out | refine below_set ?_ GB60.out | refine below_set ?_ GB60.out | refine below_set ?_ GB60.out | refine below_set ?_ GE315.out | refine below_set ?_ GE322.out) | exact HB.out)⟩⟩
            ·rw [if_neg c57] at H
             clear c57
             by_cases c65 : t323 = 2
             ·rw [if_pos c65] at H
              subst c65
              replace H : ((impl_vector_times.f ((rd_T70 x3_3 x29_2).f0) ((rd_T70 x3_3 x29_2).f1) ((rd_T70 x3_3 x29_2).f2) ((rd_T70 x3_3 x29_2).f3) ((rd_T70 x3_3 x38_3).f2)).bind fun bt345 => ((impl_vector_minus.f ((rd_T70 x3_3 x38_3).f0) ((rd_T70 x3_3 x38_3).f1) ((rd_T70 x3_3 x38_3).f2) ((rd_T70 x3_3 x38_3).f3) bt345.1 bt345.2.1 bt345.2.2.1 bt345.2.2.2).bind fun bt349 => (impl_tidy.l2 k3 (x3_3.set (x38_3 : Int).toNat (⟨bt349.1, bt349.2.1, bt349.2.2.1, bt349.2.2.2⟩ : S70)) x29_2 (2 : Int) (x3_1.length : Int) x29_2 (x3_2.length : Int) (wrap64 (x38_3 + 1))))) = some r := H
              replace H := Option.bind_eq_some_iff.mp H
              obtain ⟨⟨t345, t346, t347, t348⟩, A660, H⟩ := H
              replace H : ((impl_vector_minus.f ((rd_T70 x3_3 x38_3).f0) ((rd_T70 x3_3 x38_3).f1) ((rd_T70 x3_3 x38_3).f2) ((rd_T70 x3_3 x38_3).f3) t345 t346 t347 t348).bind fun bt349 => (impl_tidy.l2 k3 (x3_3.set (x38_3 : Int).toNat (⟨bt349.1, bt349.2.1, bt349.2.2.1, bt349.2.2.2⟩ : S70)) x29_2 (2 : Int) (x3_1.length : Int) x29_2 (x3_2.length : Int) (wrap64 (x38_3 + 1)))) = some r := H
              have A66 := Aside0.mk A660
              clear A660
              replace H := Option.bind_eq_some_iff.mp H
              obtain ⟨⟨t349, t350, t351, t352⟩, A670, H⟩ := H
              replace H : (impl_tidy.l2 k3 (x3_3.set (x38_3 : Int).toNat (⟨t349, t350, t351, t352⟩ : S70)) x29_2 (2 : Int) (x3_1.length : Int) x29_2 (x3_2.length : Int) (wrap64 (x38_3 + 1))) = some r := H
              have A67 := Aside0.mk A670
              clear A670
              obtain ⟨y353, hy353⟩ : ∃ y_ : List (S70), y_ = (x3_3.set (x38_3 : Int).toNat (⟨t349, t350, t351, t352⟩ : S70)) := ⟨_, rfl⟩
              replace H : (impl_tidy.l2 k3 y353 x29_2 (2 : Int) (x3_1.length : Int) x29_2 (x3_2.length : Int) (wrap64 (x38_3 + 1))) = some r := by first | (rw [hy353]; with_reducible exact H) | (have H2_ := (Option.bind_some _ _).symm.trans H; rw [hy353]; with_reducible exact H2_) | (have H2_ := (Option.bind_some _ _).symm.trans H; with_reducible exact H2_) | with_reducible exact H | (rw [hy353]; exact H) | exact H
              have Ny353 := Aside0.mk hy353
              clear hy353
              have H' := Aside0.mk H
              clear H
              try go_wp2
              replace HO_3 := Aside0.mk (Kd.R_drew HO_3.out)
              replace aa := Aside0.mk (Kd.R_drew aa.out)
              replace ab := Aside0.mk (Kd.R_drew ab.out)
              replace BK315 := Aside0.mk (blk_drew BK315.out)
              replace BK322 := Aside0.mk (blk_drew BK322.out)
              replace HB := Aside0.mk (below_drew1 HB.out)
              have p324 : 0 ≤ (x38_3 : Int) := of_decide_eq_true z11_3
              have q324 : x38_3 < (x3_3.length : Int) := of_decide_eq_true z11_3
              obtain ⟨ad324, e324, hx324_0, hx324_1, hx324_2, hx324_3⟩ := at_T70 (Kd.R_reads' HO_3.out).2.2 x38_3 p324 q324
              obtain rfl : ad321 = ad324 := (by injection e324)
              replace p324 := eq_true p324
              replace q324 := eq_true q324
              have p325 : 0 ≤ (x29_2 : Int) := of_decide_eq_true z11_3
              have q325 : x29_2 < (x3_3.length : Int) := of_decide_eq_true z11_3
              obtain ⟨ad325, e325, hx325_0, hx325_1, hx325_2, hx325_3⟩ := at_T70 (Kd.R_reads' HO_3.out).2.2 x29_2 p325 q325
              obtain rfl : ad321 = ad325 := (by injection e325)
              replace p325 := eq_true p325
              replace q325 := eq_true q325
              have p326 : 0 ≤ (x38_3 : Int) := of_decide_eq_true z11_3
              have q326 : x38_3 < (x3_3.length : Int) := of_decide_eq_true z11_3
              obtain ⟨ad326, e326, hx326_0, hx326_1, hx326_2, hx326_3⟩ := at_T70 (Kd.R_reads' HO_3.out).2.2 x38_3 p326 q326
              obtain rfl : ad321 = ad326 := (by injection e326)
              replace p326 := eq_true p326
              replace q326 := eq_true q326
              refine start_ (n := 20) (S := fun w' => w'.cell? (ad321.add ((x38_3).toNat * 4)) = some (.int .i64 ((rd_T70 x3_3 x38_3).f0)) ∧ w'.cell? ⟨(ad321.add ((x38_3).toNat * 4)).block, (ad321.add ((x38_3).toNat * 4)).off + 1, none⟩ = some (.int .i64 ((rd_T70 x3_3 x38_3).f1)) ∧ w'.cell? ⟨(ad321.add ((x38_3).toNat * 4)).block, (ad321.add ((x38_3).toNat * 4)).off + 2, none⟩ = some (.int .i64 ((rd_T70 x3_3 x38_3).f2)) ∧ w'.cell? ⟨(ad321.add ((x38_3).toNat * 4)).block, (ad321.add ((x38_3).toNat * 4)).off + 3, none⟩ = some (.int .i64 ((rd_T70 x3_3 x38_3).f3)) ∧ w'.cell? (ad321.add ((x29_2).toNat * 4)) = some (.int .i64 ((rd_T70 x3_3 x29_2).f0)) ∧ w'.cell? ⟨(ad321.add ((x29_2).toNat * 4)).block, (ad321.add ((x29_2).toNat * 4)).off + 1, none⟩ = some (.int .i64 ((rd_T70 x3_3 x29_2).f1)) ∧ w'.cell? ⟨(ad321.add ((x29_2).toNat * 4)).block, (ad321.add ((x29_2).toNat * 4)).off + 2, none⟩ = some (.int .i64 ((rd_T70 x3_3 x29_2).f2)) ∧ w'.cell? ⟨(ad321.add ((x29_2).toNat * 4)).block, (ad321.add ((x29_2).toNat * 4)).off + 3, none⟩ = some (.int .i64 ((rd_T70 x3_3 x29_2).f3)) ∧ w'.cell? (ad321.add ((x38_3).toNat * 4)) = some (.int .i64 ((rd_T70 x3_3 x38_3).f0)) ∧ w'.cell? ⟨(ad321.add ((x38_3).toNat * 4)).block, (ad321.add ((x38_3).toNat * 4)).off + 1, none⟩ = some (.int .i64 ((rd_T70 x3_3 x38_3).f1)) ∧ w'.cell? ⟨(ad321.add ((x38_3).toNat * 4)).block, (ad321.add ((x38_3).toNat * 4)).off + 2, none⟩ = some (.int .i64 ((rd_T70 x3_3 x38_3).f2)) ∧ w'.cell? ⟨(ad321.add ((x38_3).toNat * 4)).block, (ad321.add ((x38_3).toNat * 4)).off + 3, none⟩ = some (.int .i64 ((rd_T70 x3_3 x38_3).f3))) (ds := [19]) #[false, false, false, false, false, false, false, false, false, false, false, false, false, false, false, false, false, false, false, false] (by kernel_rfl) rfl rfl ⟨hx324_0, hx324_1, hx324_2, hx324_3, hx325_0, hx325_1, hx325_2, hx325_3, hx326_0, hx326_1, hx326_2, hx326_3⟩ (fun hHeld => ?_); refine with_tabW impl_tidy.tab15 impl_tidy.bits15 (fun HT_ HW_ => ?_)
              generalize wr.drew = w69 at HO_3 aa ab BK315 BK322 HB hx324_0 hx324_1 hx324_2 hx324_3 hx325_0 hx325_1 hx325_2 hx325_3 hx326_0 hx326_1 hx326_2 hx326_3 hHeld ⊢
              refine pZ 0 HT_ ?_
              refine pZ 1 HT_ ?_
              refine pZ 2 HT_ ?_
              refine pZ 3 HT_ ?_
              refine pZ 4 HT_ ?_
              refine pZ 6 HT_ ?_
              refine pZ 7 HT_ ?_
              refine pZ 8 HT_ ?_
              refine pZ 10 HT_ ?_
              refine pZ 11 HT_ ?_
              refine pZ 12 HT_ ?_
              refine pZ 13 HT_ ?_
              refine pZ 14 HT_ ?_
              refine tZ 5 hHeld HT_ HW_ ?_
              refine tZ 9 hHeld HT_ HW_ ?_
              refine tZ 15 hHeld HT_ HW_ ?_
              refine oZ 16 HT_ (fun K hK => ?_)
              refine goes_ Try.func93 (by kernel_rfl) rfl #[.agg #[.int .i64 ((rd_T70 x3_3 x29_2).f0), .int .i64 ((rd_T70 x3_3 x29_2).f1), .int .i64 ((rd_T70 x3_3 x29_2).f2), .int .i64 ((rd_T70 x3_3 x29_2).f3)], .int .i64 ((rd_T70 x3_3 x38_3).f2)] (by rfl) rfl rfl z11_8 ?_
              with_reducible refine (impl_vector_times.calls ((rd_T70 x3_3 x29_2).f0) ((rd_T70 x3_3 x29_2).f1) ((rd_T70 x3_3 x29_2).f2) ((rd_T70 x3_3 x29_2).f3) ((rd_T70 x3_3 x38_3).f2) t345 t346 t347 t348 _ A66.out).mono ?_
              rintro e w70 ⟨rfl, hb⟩
              have HS0_ := (hb.cell (World.block_lt_of_cell? _ _ (hHeld.1))).trans (hHeld.1)
              have HS1_ := (hb.cell (World.block_lt_of_cell? _ _ (hHeld.2.1))).trans (hHeld.2.1)
              have HS2_ := (hb.cell (World.block_lt_of_cell? _ _ (hHeld.2.2.1))).trans (hHeld.2.2.1)
              have HS3_ := (hb.cell (World.block_lt_of_cell? _ _ (hHeld.2.2.2.1))).trans (hHeld.2.2.2.1)
              have HS4_ := (hb.cell (World.block_lt_of_cell? _ _ (hHeld.2.2.2.2.1))).trans (hHeld.2.2.2.2.1)
              have HS5_ := (hb.cell (World.block_lt_of_cell? _ _ (hHeld.2.2.2.2.2.1))).trans (hHeld.2.2.2.2.2.1)
              have HS6_ := (hb.cell (World.block_lt_of_cell? _ _ (hHeld.2.2.2.2.2.2.1))).trans (hHeld.2.2.2.2.2.2.1)
              have HS7_ := (hb.cell (World.block_lt_of_cell? _ _ (hHeld.2.2.2.2.2.2.2.1))).trans (hHeld.2.2.2.2.2.2.2.1)
              have HS8_ := (hb.cell (World.block_lt_of_cell? _ _ (hHeld.2.2.2.2.2.2.2.2.1))).trans (hHeld.2.2.2.2.2.2.2.2.1)
              have HS9_ := (hb.cell (World.block_lt_of_cell? _ _ (hHeld.2.2.2.2.2.2.2.2.2.1))).trans (hHeld.2.2.2.2.2.2.2.2.2.1)
              have HS10_ := (hb.cell (World.block_lt_of_cell? _ _ (hHeld.2.2.2.2.2.2.2.2.2.2.1))).trans (hHeld.2.2.2.2.2.2.2.2.2.2.1)
              have HS11_ := (hb.cell (World.block_lt_of_cell? _ _ (hHeld.2.2.2.2.2.2.2.2.2.2.2))).trans (hHeld.2.2.2.2.2.2.2.2.2.2.2)
              refine ⟨_, rfl, ?_⟩
              replace HO_3 := Aside0.mk (Kd.R_below z11_5 hb)
              replace aa := Aside0.mk (Kd.R_below z11_7 hb)
              replace ab := Aside0.mk (Kd.R_below z11_6 hb)
              replace BK315 := Aside0.mk (blk_below (g := gb315) (o := .cells #[.slice Ao7 t309.length co7, v313] 81 (0, 0)) (zL11 BK315.out) hb)
              replace BK322 := Aside0.mk (blk_below (g := gb322) (o := .cells #[.int .i64 ac, .int .i64 ad, .int .i64 ae, .int .i64 af] 70 (0, 0)) (zL11 BK322.out) hb)
              replace HB := Aside0.mk (below_step z11_4 hb)
              (try clear hb)
              (try clear hb2)
              (try clear hk)
              (try clear hi)
              refine hK.out _ _ ⟨HS0_, HS1_, HS2_, HS3_, HS4_, HS5_, HS6_, HS7_, HS8_, HS9_, HS10_, HS11_⟩ (fun hHeld => ?_)
              clear hK K
              refine nZ ?_
              refine oZ 17 HT_ (fun K hK => ?_)
              refine goes_ Try.func92 (by kernel_rfl) rfl #[.agg #[.int .i64 ((rd_T70 x3_3 x38_3).f0), .int .i64 ((rd_T70 x3_3 x38_3).f1), .int .i64 ((rd_T70 x3_3 x38_3).f2), .int .i64 ((rd_T70 x3_3 x38_3).f3)], .agg #[.int .i64 t345, .int .i64 t346, .int .i64 t347, .int .i64 t348]] (by rfl) rfl rfl z11_8 ?_
              with_reducible refine (impl_vector_minus.calls ((rd_T70 x3_3 x38_3).f0) ((rd_T70 x3_3 x38_3).f1) ((rd_T70 x3_3 x38_3).f2) ((rd_T70 x3_3 x38_3).f3) t345 t346 t347 t348 t349 t350 t351 t352 _ A67.out).mono ?_
              rintro e w71 ⟨rfl, hb⟩
              have HS0_ := (hb.cell (World.block_lt_of_cell? _ _ (hHeld.1))).trans (hHeld.1)
              have HS1_ := (hb.cell (World.block_lt_of_cell? _ _ (hHeld.2.1))).trans (hHeld.2.1)
              have HS2_ := (hb.cell (World.block_lt_of_cell? _ _ (hHeld.2.2.1))).trans (hHeld.2.2.1)
              have HS3_ := (hb.cell (World.block_lt_of_cell? _ _ (hHeld.2.2.2.1))).trans (hHeld.2.2.2.1)
              have HS4_ := (hb.cell (World.block_lt_of_cell? _ _ (hHeld.2.2.2.2.1))).trans (hHeld.2.2.2.2.1)
              have HS5_ := (hb.cell (World.block_lt_of_cell? _ _ (hHeld.2.2.2.2.2.1))).trans (hHeld.2.2.2.2.2.1)
              have HS6_ := (hb.cell (World.block_lt_of_cell? _ _ (hHeld.2.2.2.2.2.2.1))).trans (hHeld.2.2.2.2.2.2.1)
              have HS7_ := (hb.cell (World.block_lt_of_cell? _ _ (hHeld.2.2.2.2.2.2.2.1))).trans (hHeld.2.2.2.2.2.2.2.1)
              have HS8_ := (hb.cell (World.block_lt_of_cell? _ _ (hHeld.2.2.2.2.2.2.2.2.1))).trans (hHeld.2.2.2.2.2.2.2.2.1)
              have HS9_ := (hb.cell (World.block_lt_of_cell? _ _ (hHeld.2.2.2.2.2.2.2.2.2.1))).trans (hHeld.2.2.2.2.2.2.2.2.2.1)
              have HS10_ := (hb.cell (World.block_lt_of_cell? _ _ (hHeld.2.2.2.2.2.2.2.2.2.2.1))).trans (hHeld.2.2.2.2.2.2.2.2.2.2.1)
              have HS11_ := (hb.cell (World.block_lt_of_cell? _ _ (hHeld.2.2.2.2.2.2.2.2.2.2.2))).trans (hHeld.2.2.2.2.2.2.2.2.2.2.2)
              refine ⟨_, rfl, ?_⟩
              replace HO_3 := Aside0.mk (Kd.R_below z11_5 hb)
              replace aa := Aside0.mk (Kd.R_below z11_7 hb)
              replace ab := Aside0.mk (Kd.R_below z11_6 hb)
              replace BK315 := Aside0.mk (blk_below (g := gb315) (o := .cells #[.slice Ao7 t309.length co7, v313] 81 (0, 0)) (zL11 BK315.out) hb)
              replace BK322 := Aside0.mk (blk_below (g := gb322) (o := .cells #[.int .i64 ac, .int .i64 ad, .int .i64 ae, .int .i64 af] 70 (0, 0)) (zL11 BK322.out) hb)
              replace HB := Aside0.mk (below_step z11_4 hb)
              (try clear hb)
              (try clear hb2)
              (try clear hk)
              (try clear hi)
              have p68 : 0 ≤ (x38_3 : Int) := of_decide_eq_true z11_3
              have q68 : (x38_3 : Int) < ((x3_3.length : Int) : Int) := of_decide_eq_true z11_3
              obtain ⟨go68, co68, eo68, gb68, gl68, cl68, HG68⟩ := Kd.R_form HO_3.out (by omega)
              (first | cases eo68 | (injection eo68 with ea_ en_ ec_; (first | subst ea_ | (injection ea_ with ea_; subst ea_)); subst ec_; clear en_))
              have GB68 := Aside0.mk gb68
              have GG68 := Aside0.mk HG68
              clear gb68 gl68 HG68
              (first | simp only [add_plain] at hx324_0 | skip)
              (first | simp only [add_plain] at hx324_1 | skip)
              (first | simp only [add_plain] at hx324_2 | skip)
              (first | simp only [add_plain] at hx324_3 | skip)
              (first | simp only [add_plain] at hx325_0 | skip)
              (first | simp only [add_plain] at hx325_1 | skip)
              (first | simp only [add_plain] at hx325_2 | skip)
              (first | simp only [add_plain] at hx325_3 | skip)
              (first | simp only [add_plain] at hx326_0 | skip)
              (first | simp only [add_plain] at hx326_1 | skip)
              (first | simp only [add_plain] at hx326_2 | skip)
              (first | simp only [add_plain] at hx326_3 | skip)
              obtain ⟨ce68, hcl68, hM68, hcc68, hfr68⟩ := Kd.R_elem HO_3.out z70 (x38_3 : Int) p68 q68
              obtain rfl := k70_openM hM68
              have hx68_0 : World.cell? _ ⟨go68, (x38_3 : Int).toNat * 4, none⟩ = some (.int .i64 ((rd_T70 x3_3 x38_3).f0)) := hcc68 0 _ rfl
              have hx68_1 : World.cell? _ ⟨go68, (x38_3 : Int).toNat * 4 + 1, none⟩ = some (.int .i64 ((rd_T70 x3_3 x38_3).f1)) := hcc68 1 _ rfl
              have hx68_2 : World.cell? _ ⟨go68, (x38_3 : Int).toNat * 4 + 2, none⟩ = some (.int .i64 ((rd_T70 x3_3 x38_3).f2)) := hcc68 2 _ rfl
              have hx68_3 : World.cell? _ ⟨go68, (x38_3 : Int).toNat * 4 + 3, none⟩ = some (.int .i64 ((rd_T70 x3_3 x38_3).f3)) := hcc68 3 _ rfl
              have hf68_0 : World.frozen? _ ⟨go68, (x38_3 : Int).toNat * 4, none⟩ = false := hfr68 0
              have hf68_1 : World.frozen? _ ⟨go68, (x38_3 : Int).toNat * 4 + 1, none⟩ = false := hfr68 1
              have hf68_2 : World.frozen? _ ⟨go68, (x38_3 : Int).toNat * 4 + 2, none⟩ = false := hfr68 2
              have hf68_3 : World.frozen? _ ⟨go68, (x38_3 : Int).toNat * 4 + 3, none⟩ = false := hfr68 3
              (try clear hcl68); (try clear hcc68); (try clear hfr68); (try clear hM68)
              replace p68 := eq_true p68
              replace q68 := eq_true q68
              obtain ⟨ce72, hcl72, hM72, hcc72, hfr72⟩ := Kd.R_elem HO_3.out z70 (x38_3 : Int) (of_decide_eq_true z11_3) (by have h_ : (x38_3 : Int) < ((x3_3.length : Int) : Int) := of_decide_eq_true z11_3; first | exact h_ | (have e_ := (Kd.R_reads' HO_3.out).1; omega) | simpa using h_)
              obtain rfl := k70_openM hM72
              have HP72 := (Kd.R_seg HO_3.out (x38_3 : Int) (of_decide_eq_true z11_3) (by have h_ : (x38_3 : Int) < ((x3_3.length : Int) : Int) := of_decide_eq_true z11_3; first | exact h_ | (have e_ := (Kd.R_reads' HO_3.out).1; omega) | simpa using h_) (seg := [.int .i64 t349, .int .i64 t350, .int .i64 t351, .int .i64 t352]) (j := 0) hcl72 hcc72 (show 4 ≤ 4 from by decide) (x' := (⟨t349, t350, t351, t352⟩ : S70)) (k70_mkM _ _ _ (⟨t349, t350, t351, t352⟩ : S70) ) (fun _ hk => hk)).1
              rw [← Ny353.out] at HP72
              have HQ72 := Aside0.mk HP72
              (try clear hcl72); (try clear hcc72); (try clear hfr72); (try clear hM72); (try clear HP72)
              refine hK.out _ _ ⟨HS0_, HS1_, HS2_, HS3_, HS4_, HS5_, HS6_, HS7_, HS8_, HS9_, HS10_, HS11_⟩ (fun hHeld => ?_)
              clear hK K
              refine nZ ?_
              refine pZ 18 HT_ ?_
              refine lZ 19 HT_ (fun K hK => ?_)
              refine skip_ (w1 := ?_) (by rfl) rfl ?_ ?_
              rotate_left
              ·go_simp
               rfl
              refine hK.out _ _ ?_
              clear hK K
              refine done_ (done_of HT_.out (by kernel_rfl)) ?_
              try go_wp2
              (try simp only [← hl3_3])
              have hab_ : (⟨go68, (x29_2 : Int).toNat * 4, none⟩ : Addr) = (⟨go68, 0, none⟩ : Addr).add ((x29_2 : Int).toNat * 4) := (add_plain _ _).symm
              (try simp only [hab_])
              clear hab_
              go_roundg k3
              case measure => have := HK1.out; have := HK2.out; have := HK3.out; omega
              case rel => exact ⟨(y353), (wrap64 (x38_3 + 1)), (ac), (ad), (ae), (af), z11_12, H', ⟨z11_13⟩, ⟨by (try simp only [hl3_2]); (try simp only [hl3_3]); (with_reducible repeat (first | apply Kd.R_alloc | apply Kd.R_drewN | apply Kd.R_drew)); exact HQ72.out⟩, ⟨by (try simp only [hl3_2]); (try simp only [hl3_3]); (with_reducible repeat (first | apply Kd.R_alloc | apply Kd.R_drewN | apply Kd.R_drew)); exact Kd.R_mono (Kd.R_far (p := ⟨go68, (x38_3 : Int).toNat * 4 + 3, none⟩) (Kd.R_far (p := ⟨go68, (x38_3 : Int).toNat * 4 + 2, none⟩) (Kd.R_far (p := ⟨go68, (x38_3 : Int).toNat * 4 + 1, none⟩) (Kd.R_far (p := ⟨go68, (x38_3 : Int).toNat * 4, none⟩) (Kd.R_types aa.out GG68.out (by decide)) (fun _ hk => hk.2) (.int .i64 t349)) (fun _ hk => hk.2) (.int .i64 t350)) (fun _ hk => hk.2) (.int .i64 t351)) (fun _ hk => hk.2) (.int .i64 t352)) (fun _ hk => trivial)⟩, ⟨by (try simp only [hl3_2]); (try simp only [hl3_3]); (with_reducible repeat (first | apply Kd.R_alloc | apply Kd.R_drewN | apply Kd.R_drew)); exact Kd.R_mono (Kd.R_far (p := ⟨go68, (x38_3 : Int).toNat * 4 + 3, none⟩) (Kd.R_far (p := ⟨go68, (x38_3 : Int).toNat * 4 + 2, none⟩) (Kd.R_far (p := ⟨go68, (x38_3 : Int).toNat * 4 + 1, none⟩) (Kd.R_far (p := ⟨go68, (x38_3 : Int).toNat * 4, none⟩) (Kd.R_types ab.out GG68.out (by decide)) (fun _ hk => hk.2) (.int .i64 t349)) (fun _ hk => hk.2) (.int .i64 t350)) (fun _ hk => hk.2) (.int .i64 t351)) (fun _ hk => hk.2) (.int .i64 t352)) (fun _ hk => trivial)⟩, ⟨z11_1⟩, ⟨z11_2⟩, ⟨by repeat (first | (with_reducible first | exact HB.out | apply below_alloc | apply pw_below_drewN | apply below_drew1 | refine below_set ?_ GB68.out | refine below_set ?_ GB68.out | refine below_set ?_ GB68.out | refine below_set ?_ GB68.out | refine below_set ?_ GE315.out | refine below_set ?_ GE322.out) | exact HB.out)⟩⟩
             ·rw [if_neg c65] at H
              clear c65
              obtain ⟨c73, H⟩ := ifP H
              subst c73
              replace H : ((impl_vector_times.f ((rd_T70 x3_3 x29_2).f0) ((rd_T70 x3_3 x29_2).f1) ((rd_T70 x3_3 x29_2).f2) ((rd_T70 x3_3 x29_2).f3) ((rd_T70 x3_3 x38_3).f3)).bind fun bt354 => ((impl_vector_minus.f ((rd_T70 x3_3 x38_3).f0) ((rd_T70 x3_3 x38_3).f1) ((rd_T70 x3_3 x38_3).f2) ((rd_T70 x3_3 x38_3).f3) bt354.1 bt354.2.1 bt354.2.2.1 bt354.2.2.2).bind fun bt358 => (impl_tidy.l2 k3 (x3_3.set (x38_3 : Int).toNat (⟨bt358.1, bt358.2.1, bt358.2.2.1, bt358.2.2.2⟩ : S70)) x29_2 (3 : Int) (x3_1.length : Int) x29_2 (x3_2.length : Int) (wrap64 (x38_3 + 1))))) = some r := H
              replace H := Option.bind_eq_some_iff.mp H
              obtain ⟨⟨t354, t355, t356, t357⟩, A740, H⟩ := H
              replace H : ((impl_vector_minus.f ((rd_T70 x3_3 x38_3).f0) ((rd_T70 x3_3 x38_3).f1) ((rd_T70 x3_3 x38_3).f2) ((rd_T70 x3_3 x38_3).f3) t354 t355 t356 t357).bind fun bt358 => (impl_tidy.l2 k3 (x3_3.set (x38_3 : Int).toNat (⟨bt358.1, bt358.2.1, bt358.2.2.1, bt358.2.2.2⟩ : S70)) x29_2 (3 : Int) (x3_1.length : Int) x29_2 (x3_2.length : Int) (wrap64 (x38_3 + 1)))) = some r := H
              have A74 := Aside0.mk A740
              clear A740
              replace H := Option.bind_eq_some_iff.mp H
              obtain ⟨⟨t358, t359, t360, t361⟩, A750, H⟩ := H
              replace H : (impl_tidy.l2 k3 (x3_3.set (x38_3 : Int).toNat (⟨t358, t359, t360, t361⟩ : S70)) x29_2 (3 : Int) (x3_1.length : Int) x29_2 (x3_2.length : Int) (wrap64 (x38_3 + 1))) = some r := H
              have A75 := Aside0.mk A750
              clear A750
              obtain ⟨y362, hy362⟩ : ∃ y_ : List (S70), y_ = (x3_3.set (x38_3 : Int).toNat (⟨t358, t359, t360, t361⟩ : S70)) := ⟨_, rfl⟩
              replace H : (impl_tidy.l2 k3 y362 x29_2 (3 : Int) (x3_1.length : Int) x29_2 (x3_2.length : Int) (wrap64 (x38_3 + 1))) = some r := by first | (rw [hy362]; with_reducible exact H) | (have H2_ := (Option.bind_some _ _).symm.trans H; rw [hy362]; with_reducible exact H2_) | (have H2_ := (Option.bind_some _ _).symm.trans H; with_reducible exact H2_) | with_reducible exact H | (rw [hy362]; exact H) | exact H
              have Ny362 := Aside0.mk hy362
              clear hy362
              have H' := Aside0.mk H
              clear H
              try go_wp2
              replace HO_3 := Aside0.mk (Kd.R_drew HO_3.out)
              replace aa := Aside0.mk (Kd.R_drew aa.out)
              replace ab := Aside0.mk (Kd.R_drew ab.out)
              replace BK315 := Aside0.mk (blk_drew BK315.out)
              replace BK322 := Aside0.mk (blk_drew BK322.out)
              replace HB := Aside0.mk (below_drew1 HB.out)
              have p324 : 0 ≤ (x38_3 : Int) := of_decide_eq_true z11_3
              have q324 : x38_3 < (x3_3.length : Int) := of_decide_eq_true z11_3
              obtain ⟨ad324, e324, hx324_0, hx324_1, hx324_2, hx324_3⟩ := at_T70 (Kd.R_reads' HO_3.out).2.2 x38_3 p324 q324
              obtain rfl : ad321 = ad324 := (by injection e324)
              replace p324 := eq_true p324
              replace q324 := eq_true q324
              have p325 : 0 ≤ (x29_2 : Int) := of_decide_eq_true z11_3
              have q325 : x29_2 < (x3_3.length : Int) := of_decide_eq_true z11_3
              obtain ⟨ad325, e325, hx325_0, hx325_1, hx325_2, hx325_3⟩ := at_T70 (Kd.R_reads' HO_3.out).2.2 x29_2 p325 q325
              obtain rfl : ad321 = ad325 := (by injection e325)
              replace p325 := eq_true p325
              replace q325 := eq_true q325
              have p326 : 0 ≤ (x38_3 : Int) := of_decide_eq_true z11_3
              have q326 : x38_3 < (x3_3.length : Int) := of_decide_eq_true z11_3
              obtain ⟨ad326, e326, hx326_0, hx326_1, hx326_2, hx326_3⟩ := at_T70 (Kd.R_reads' HO_3.out).2.2 x38_3 p326 q326
              obtain rfl : ad321 = ad326 := (by injection e326)
              replace p326 := eq_true p326
              replace q326 := eq_true q326
              refine start_ (n := 20) (S := fun w' => w'.cell? (ad321.add ((x38_3).toNat * 4)) = some (.int .i64 ((rd_T70 x3_3 x38_3).f0)) ∧ w'.cell? ⟨(ad321.add ((x38_3).toNat * 4)).block, (ad321.add ((x38_3).toNat * 4)).off + 1, none⟩ = some (.int .i64 ((rd_T70 x3_3 x38_3).f1)) ∧ w'.cell? ⟨(ad321.add ((x38_3).toNat * 4)).block, (ad321.add ((x38_3).toNat * 4)).off + 2, none⟩ = some (.int .i64 ((rd_T70 x3_3 x38_3).f2)) ∧ w'.cell? ⟨(ad321.add ((x38_3).toNat * 4)).block, (ad321.add ((x38_3).toNat * 4)).off + 3, none⟩ = some (.int .i64 ((rd_T70 x3_3 x38_3).f3)) ∧ w'.cell? (ad321.add ((x29_2).toNat * 4)) = some (.int .i64 ((rd_T70 x3_3 x29_2).f0)) ∧ w'.cell? ⟨(ad321.add ((x29_2).toNat * 4)).block, (ad321.add ((x29_2).toNat * 4)).off + 1, none⟩ = some (.int .i64 ((rd_T70 x3_3 x29_2).f1)) ∧ w'.cell? ⟨(ad321.add ((x29_2).toNat * 4)).block, (ad321.add ((x29_2).toNat * 4)).off + 2, none⟩ = some (.int .i64 ((rd_T70 x3_3 x29_2).f2)) ∧ w'.cell? ⟨(ad321.add ((x29_2).toNat * 4)).block, (ad321.add ((x29_2).toNat * 4)).off + 3, none⟩ = some (.int .i64 ((rd_T70 x3_3 x29_2).f3)) ∧ w'.cell? (ad321.add ((x38_3).toNat * 4)) = some (.int .i64 ((rd_T70 x3_3 x38_3).f0)) ∧ w'.cell? ⟨(ad321.add ((x38_3).toNat * 4)).block, (ad321.add ((x38_3).toNat * 4)).off + 1, none⟩ = some (.int .i64 ((rd_T70 x3_3 x38_3).f1)) ∧ w'.cell? ⟨(ad321.add ((x38_3).toNat * 4)).block, (ad321.add ((x38_3).toNat * 4)).off + 2, none⟩ = some (.int .i64 ((rd_T70 x3_3 x38_3).f2)) ∧ w'.cell? ⟨(ad321.add ((x38_3).toNat * 4)).block, (ad321.add ((x38_3).toNat * 4)).off + 3, none⟩ = some (.int .i64 ((rd_T70 x3_3 x38_3).f3))) (ds := [19]) #[false, false, false, false, false, false, false, false, false, false, false, false, false, false, false, false, false, false, false, false] (by kernel_rfl) rfl rfl ⟨hx324_0, hx324_1, hx324_2, hx324_3, hx325_0, hx325_1, hx325_2, hx325_3, hx326_0, hx326_1, hx326_2, hx326_3⟩ (fun hHeld => ?_); refine with_tabW impl_tidy.tab15 impl_tidy.bits15 (fun HT_ HW_ => ?_)
              generalize wr.drew = w77 at HO_3 aa ab BK315 BK322 HB hx324_0 hx324_1 hx324_2 hx324_3 hx325_0 hx325_1 hx325_2 hx325_3 hx326_0 hx326_1 hx326_2 hx326_3 hHeld ⊢
              refine pZ 0 HT_ ?_
              refine pZ 1 HT_ ?_
              refine pZ 2 HT_ ?_
              refine pZ 3 HT_ ?_
              refine pZ 4 HT_ ?_
              refine pZ 6 HT_ ?_
              refine pZ 7 HT_ ?_
              refine pZ 8 HT_ ?_
              refine pZ 10 HT_ ?_
              refine pZ 11 HT_ ?_
              refine pZ 12 HT_ ?_
              refine pZ 13 HT_ ?_
              refine pZ 14 HT_ ?_
              refine tZ 5 hHeld HT_ HW_ ?_
              refine tZ 9 hHeld HT_ HW_ ?_
              refine tZ 15 hHeld HT_ HW_ ?_
              refine oZ 16 HT_ (fun K hK => ?_)
              refine goes_ Try.func93 (by kernel_rfl) rfl #[.agg #[.int .i64 ((rd_T70 x3_3 x29_2).f0), .int .i64 ((rd_T70 x3_3 x29_2).f1), .int .i64 ((rd_T70 x3_3 x29_2).f2), .int .i64 ((rd_T70 x3_3 x29_2).f3)], .int .i64 ((rd_T70 x3_3 x38_3).f3)] (by rfl) rfl rfl z11_8 ?_
              with_reducible refine (impl_vector_times.calls ((rd_T70 x3_3 x29_2).f0) ((rd_T70 x3_3 x29_2).f1) ((rd_T70 x3_3 x29_2).f2) ((rd_T70 x3_3 x29_2).f3) ((rd_T70 x3_3 x38_3).f3) t354 t355 t356 t357 _ A74.out).mono ?_
              rintro e w78 ⟨rfl, hb⟩
              have HS0_ := (hb.cell (World.block_lt_of_cell? _ _ (hHeld.1))).trans (hHeld.1)
              have HS1_ := (hb.cell (World.block_lt_of_cell? _ _ (hHeld.2.1))).trans (hHeld.2.1)
              have HS2_ := (hb.cell (World.block_lt_of_cell? _ _ (hHeld.2.2.1))).trans (hHeld.2.2.1)
              have HS3_ := (hb.cell (World.block_lt_of_cell? _ _ (hHeld.2.2.2.1))).trans (hHeld.2.2.2.1)
              have HS4_ := (hb.cell (World.block_lt_of_cell? _ _ (hHeld.2.2.2.2.1))).trans (hHeld.2.2.2.2.1)
              have HS5_ := (hb.cell (World.block_lt_of_cell? _ _ (hHeld.2.2.2.2.2.1))).trans (hHeld.2.2.2.2.2.1)
              have HS6_ := (hb.cell (World.block_lt_of_cell? _ _ (hHeld.2.2.2.2.2.2.1))).trans (hHeld.2.2.2.2.2.2.1)
              have HS7_ := (hb.cell (World.block_lt_of_cell? _ _ (hHeld.2.2.2.2.2.2.2.1))).trans (hHeld.2.2.2.2.2.2.2.1)
              have HS8_ := (hb.cell (World.block_lt_of_cell? _ _ (hHeld.2.2.2.2.2.2.2.2.1))).trans (hHeld.2.2.2.2.2.2.2.2.1)
              have HS9_ := (hb.cell (World.block_lt_of_cell? _ _ (hHeld.2.2.2.2.2.2.2.2.2.1))).trans (hHeld.2.2.2.2.2.2.2.2.2.1)
              have HS10_ := (hb.cell (World.block_lt_of_cell? _ _ (hHeld.2.2.2.2.2.2.2.2.2.2.1))).trans (hHeld.2.2.2.2.2.2.2.2.2.2.1)
              have HS11_ := (hb.cell (World.block_lt_of_cell? _ _ (hHeld.2.2.2.2.2.2.2.2.2.2.2))).trans (hHeld.2.2.2.2.2.2.2.2.2.2.2)
              refine ⟨_, rfl, ?_⟩
              replace HO_3 := Aside0.mk (Kd.R_below z11_5 hb)
              replace aa := Aside0.mk (Kd.R_below z11_7 hb)
              replace ab := Aside0.mk (Kd.R_below z11_6 hb)
              replace BK315 := Aside0.mk (blk_below (g := gb315) (o := .cells #[.slice Ao7 t309.length co7, v313] 81 (0, 0)) (zL11 BK315.out) hb)
              replace BK322 := Aside0.mk (blk_below (g := gb322) (o := .cells #[.int .i64 ac, .int .i64 ad, .int .i64 ae, .int .i64 af] 70 (0, 0)) (zL11 BK322.out) hb)
              replace HB := Aside0.mk (below_step z11_4 hb)
              (try clear hb)
              (try clear hb2)
              (try clear hk)
              (try clear hi)
              refine hK.out _ _ ⟨HS0_, HS1_, HS2_, HS3_, HS4_, HS5_, HS6_, HS7_, HS8_, HS9_, HS10_, HS11_⟩ (fun hHeld => ?_)
              clear hK K
              refine nZ ?_
              refine oZ 17 HT_ (fun K hK => ?_)
              refine goes_ Try.func92 (by kernel_rfl) rfl #[.agg #[.int .i64 ((rd_T70 x3_3 x38_3).f0), .int .i64 ((rd_T70 x3_3 x38_3).f1), .int .i64 ((rd_T70 x3_3 x38_3).f2), .int .i64 ((rd_T70 x3_3 x38_3).f3)], .agg #[.int .i64 t354, .int .i64 t355, .int .i64 t356, .int .i64 t357]] (by rfl) rfl rfl z11_8 ?_
              with_reducible refine (impl_vector_minus.calls ((rd_T70 x3_3 x38_3).f0) ((rd_T70 x3_3 x38_3).f1) ((rd_T70 x3_3 x38_3).f2) ((rd_T70 x3_3 x38_3).f3) t354 t355 t356 t357 t358 t359 t360 t361 _ A75.out).mono ?_
              rintro e w79 ⟨rfl, hb⟩
              have HS0_ := (hb.cell (World.block_lt_of_cell? _ _ (hHeld.1))).trans (hHeld.1)
              have HS1_ := (hb.cell (World.block_lt_of_cell? _ _ (hHeld.2.1))).trans (hHeld.2.1)
              have HS2_ := (hb.cell (World.block_lt_of_cell? _ _ (hHeld.2.2.1))).trans (hHeld.2.2.1)
              have HS3_ := (hb.cell (World.block_lt_of_cell? _ _ (hHeld.2.2.2.1))).trans (hHeld.2.2.2.1)
              have HS4_ := (hb.cell (World.block_lt_of_cell? _ _ (hHeld.2.2.2.2.1))).trans (hHeld.2.2.2.2.1)
              have HS5_ := (hb.cell (World.block_lt_of_cell? _ _ (hHeld.2.2.2.2.2.1))).trans (hHeld.2.2.2.2.2.1)
              have HS6_ := (hb.cell (World.block_lt_of_cell? _ _ (hHeld.2.2.2.2.2.2.1))).trans (hHeld.2.2.2.2.2.2.1)
              have HS7_ := (hb.cell (World.block_lt_of_cell? _ _ (hHeld.2.2.2.2.2.2.2.1))).trans (hHeld.2.2.2.2.2.2.2.1)
              have HS8_ := (hb.cell (World.block_lt_of_cell? _ _ (hHeld.2.2.2.2.2.2.2.2.1))).trans (hHeld.2.2.2.2.2.2.2.2.1)
              have HS9_ := (hb.cell (World.block_lt_of_cell? _ _ (hHeld.2.2.2.2.2.2.2.2.2.1))).trans (hHeld.2.2.2.2.2.2.2.2.2.1)
              have HS10_ := (hb.cell (World.block_lt_of_cell? _ _ (hHeld.2.2.2.2.2.2.2.2.2.2.1))).trans (hHeld.2.2.2.2.2.2.2.2.2.2.1)
              have HS11_ := (hb.cell (World.block_lt_of_cell? _ _ (hHeld.2.2.2.2.2.2.2.2.2.2.2))).trans (hHeld.2.2.2.2.2.2.2.2.2.2.2)
              refine ⟨_, rfl, ?_⟩
              replace HO_3 := Aside0.mk (Kd.R_below z11_5 hb)
              replace aa := Aside0.mk (Kd.R_below z11_7 hb)
              replace ab := Aside0.mk (Kd.R_below z11_6 hb)
              replace BK315 := Aside0.mk (blk_below (g := gb315) (o := .cells #[.slice Ao7 t309.length co7, v313] 81 (0, 0)) (zL11 BK315.out) hb)
              replace BK322 := Aside0.mk (blk_below (g := gb322) (o := .cells #[.int .i64 ac, .int .i64 ad, .int .i64 ae, .int .i64 af] 70 (0, 0)) (zL11 BK322.out) hb)
              replace HB := Aside0.mk (below_step z11_4 hb)
              (try clear hb)
              (try clear hb2)
              (try clear hk)
              (try clear hi)
              have p76 : 0 ≤ (x38_3 : Int) := of_decide_eq_true z11_3
              have q76 : (x38_3 : Int) < ((x3_3.length : Int) : Int) := of_decide_eq_true z11_3
              obtain ⟨go76, co76, eo76, gb76, gl76, cl76, HG76⟩ := Kd.R_form HO_3.out (by omega)
              (first | cases eo76 | (injection eo76 with ea_ en_ ec_; (first | subst ea_ | (injection ea_ with ea_; subst ea_)); subst ec_; clear en_))
              have GB76 := Aside0.mk gb76
              have GG76 := Aside0.mk HG76
              clear gb76 gl76 HG76
              (first | simp only [add_plain] at hx324_0 | skip)
              (first | simp only [add_plain] at hx324_1 | skip)
              (first | simp only [add_plain] at hx324_2 | skip)
              (first | simp only [add_plain] at hx324_3 | skip)
              (first | simp only [add_plain] at hx325_0 | skip)
              (first | simp only [add_plain] at hx325_1 | skip)
              (first | simp only [add_plain] at hx325_2 | skip)
              (first | simp only [add_plain] at hx325_3 | skip)
              (first | simp only [add_plain] at hx326_0 | skip)
              (first | simp only [add_plain] at hx326_1 | skip)
              (first | simp only [add_plain] at hx326_2 | skip)
              (first | simp only [add_plain] at hx326_3 | skip)
              obtain ⟨ce76, hcl76, hM76, hcc76, hfr76⟩ := Kd.R_elem HO_3.out z70 (x38_3 : Int) p76 q76
              obtain rfl := k70_openM hM76
              have hx76_0 : World.cell? _ ⟨go76, (x38_3 : Int).toNat * 4, none⟩ = some (.int .i64 ((rd_T70 x3_3 x38_3).f0)) := hcc76 0 _ rfl
              have hx76_1 : World.cell? _ ⟨go76, (x38_3 : Int).toNat * 4 + 1, none⟩ = some (.int .i64 ((rd_T70 x3_3 x38_3).f1)) := hcc76 1 _ rfl
              have hx76_2 : World.cell? _ ⟨go76, (x38_3 : Int).toNat * 4 + 2, none⟩ = some (.int .i64 ((rd_T70 x3_3 x38_3).f2)) := hcc76 2 _ rfl
              have hx76_3 : World.cell? _ ⟨go76, (x38_3 : Int).toNat * 4 + 3, none⟩ = some (.int .i64 ((rd_T70 x3_3 x38_3).f3)) := hcc76 3 _ rfl
              have hf76_0 : World.frozen? _ ⟨go76, (x38_3 : Int).toNat * 4, none⟩ = false := hfr76 0
              have hf76_1 : World.frozen? _ ⟨go76, (x38_3 : Int).toNat * 4 + 1, none⟩ = false := hfr76 1
              have hf76_2 : World.frozen? _ ⟨go76, (x38_3 : Int).toNat * 4 + 2, none⟩ = false := hfr76 2
              have hf76_3 : World.frozen? _ ⟨go76, (x38_3 : Int).toNat * 4 + 3, none⟩ = false := hfr76 3
              (try clear hcl76); (try clear hcc76); (try clear hfr76); (try clear hM76)
              replace p76 := eq_true p76
              replace q76 := eq_true q76
              obtain ⟨ce80, hcl80, hM80, hcc80, hfr80⟩ := Kd.R_elem HO_3.out z70 (x38_3 : Int) (of_decide_eq_true z11_3) (by have h_ : (x38_3 : Int) < ((x3_3.length : Int) : Int) := of_decide_eq_true z11_3; first | exact h_ | (have e_ := (Kd.R_reads' HO_3.out).1; omega) | simpa using h_)
              obtain rfl := k70_openM hM80
              have HP80 := (Kd.R_seg HO_3.out (x38_3 : Int) (of_decide_eq_true z11_3) (by have h_ : (x38_3 : Int) < ((x3_3.length : Int) : Int) := of_decide_eq_true z11_3; first | exact h_ | (have e_ := (Kd.R_reads' HO_3.out).1; omega) | simpa using h_) (seg := [.int .i64 t358, .int .i64 t359, .int .i64 t360, .int .i64 t361]) (j := 0) hcl80 hcc80 (show 4 ≤ 4 from by decide) (x' := (⟨t358, t359, t360, t361⟩ : S70)) (k70_mkM _ _ _ (⟨t358, t359, t360, t361⟩ : S70) ) (fun _ hk => hk)).1
              rw [← Ny362.out] at HP80
              have HQ80 := Aside0.mk HP80
              (try clear hcl80); (try clear hcc80); (try clear hfr80); (try clear hM80); (try clear HP80)
              refine hK.out _ _ ⟨HS0_, HS1_, HS2_, HS3_, HS4_, HS5_, HS6_, HS7_, HS8_, HS9_, HS10_, HS11_⟩ (fun hHeld => ?_)
              clear hK K
              refine nZ ?_
              refine pZ 18 HT_ ?_
              refine lZ 19 HT_ (fun K hK => ?_)
              refine skip_ (w1 := ?_) (by rfl) rfl ?_ ?_
              rotate_left
              ·go_simp
               rfl
              refine hK.out _ _ ?_
              clear hK K
              refine done_ (done_of HT_.out (by kernel_rfl)) ?_
              try go_wp2
              (try simp only [← hl3_3])
              have hab_ : (⟨go76, (x29_2 : Int).toNat * 4, none⟩ : Addr) = (⟨go76, 0, none⟩ : Addr).add ((x29_2 : Int).toNat * 4) := (add_plain _ _).symm
              (try simp only [hab_])
              clear hab_
              go_roundg k3
              case measure => have := HK1.out; have := HK2.out; have := HK3.out; omega
              case rel => exact ⟨(y362), (wrap64 (x38_3 + 1)), (ac), (ad), (ae), (af), z11_12, H', ⟨z11_13⟩, ⟨by (try simp only [hl3_2]); (try simp only [hl3_3]); (with_reducible repeat (first | apply Kd.R_alloc | apply Kd.R_drewN | apply Kd.R_drew)); exact HQ80.out⟩, ⟨by (try simp only [hl3_2]); (try simp only [hl3_3]); (with_reducible repeat (first | apply Kd.R_alloc | apply Kd.R_drewN | apply Kd.R_drew)); exact Kd.R_mono (Kd.R_far (p := ⟨go76, (x38_3 : Int).toNat * 4 + 3, none⟩) (Kd.R_far (p := ⟨go76, (x38_3 : Int).toNat * 4 + 2, none⟩) (Kd.R_far (p := ⟨go76, (x38_3 : Int).toNat * 4 + 1, none⟩) (Kd.R_far (p := ⟨go76, (x38_3 : Int).toNat * 4, none⟩) (Kd.R_types aa.out GG76.out (by decide)) (fun _ hk => hk.2) (.int .i64 t358)) (fun _ hk => hk.2) (.int .i64 t359)) (fun _ hk => hk.2) (.int .i64 t360)) (fun _ hk => hk.2) (.int .i64 t361)) (fun _ hk => trivial)⟩, ⟨by (try simp only [hl3_2]); (try simp only [hl3_3]); (with_reducible repeat (first | apply Kd.R_alloc | apply Kd.R_drewN | apply Kd.R_drew)); exact Kd.R_mono (Kd.R_far (p := ⟨go76, (x38_3 : Int).toNat * 4 + 3, none⟩) (Kd.R_far (p := ⟨go76, (x38_3 : Int).toNat * 4 + 2, none⟩) (Kd.R_far (p := ⟨go76, (x38_3 : Int).toNat * 4 + 1, none⟩) (Kd.R_far (p := ⟨go76, (x38_3 : Int).toNat * 4, none⟩) (Kd.R_types ab.out GG76.out (by decide)) (fun _ hk => hk.2) (.int .i64 t358)) (fun _ hk => hk.2) (.int .i64 t359)) (fun _ hk => hk.2) (.int .i64 t360)) (fun _ hk => hk.2) (.int .i64 t361)) (fun _ hk => trivial)⟩, ⟨z11_1⟩, ⟨z11_2⟩, ⟨by repeat (first | (with_reducible first | exact HB.out | apply below_alloc | apply pw_below_drewN | apply below_drew1 | refine below_set ?_ GB76.out | refine below_set ?_ GB76.out | refine below_set ?_ GB76.out | refine below_set ?_ GB76.out | refine below_set ?_ GE315.out | refine below_set ?_ GE322.out) | exact HB.out)⟩⟩
         ·rw [if_neg c43] at H
          have c43b0 : decide (x38_3 < (x3_2.length : Int)) = false := decide_eq_false c43
          (try simp only [hl3_2, hl3_3] at c43b0)
          clear c43
          have H' := Aside0.mk H
          clear H
          go_wp2
          (try simp only [← hl3_2, ← hl3_3])
          go_roundg k3
          case measure => have := HK1.out; have := HK2.out; have := HK3.out; omega
          case rel => exact ⟨(x3_3), (wrap64 (x29_2 + 1)), z11_12, H', ⟨z11_13⟩, ⟨by (try simp only [hl3_2]); (try simp only [hl3_3]); (with_reducible repeat (first | apply Kd.R_alloc | apply Kd.R_drewN | apply Kd.R_drew)); exact Kd.R_mono HO_3.out (fun _ hk => trivial)⟩, ⟨z11_15⟩, ⟨z11_16⟩, ⟨z11_14⟩, ⟨z11_4⟩⟩
      ·rw [if_neg c30] at H
       have c30b0 : decide (x29_2 < (x3_1.length : Int)) = false := decide_eq_false c30
       (try simp only [hl3_2] at c30b0)
       clear c30
       obtain ⟨h12s, rfl⟩ := So.srt_some H
       go_wp2_with (go_at_call 94; (with_reducible refine (So.SortFuncR _ _ _ _ x3_2 _ h12s HO_3.out).mono ?_); rintro e wS ⟨rfl, hoS, hbS⟩; have HOS := Aside0.mk hoS; have HBS : Aside0 (Below w.heap.size w wS) := ⟨Below.trans HB.out (hbS _ (Nat.le_refl _))⟩; clear hoS hbS HB HO_3; have HB := HBS)
       go_ret
       exact ⟨.slice Ao29 x3_2.length co29, by rfl, by (with_reducible repeat (first | apply Kd.R_alloc | apply Kd.R_drewN | apply Kd.R_drew)); exact HOS.out, z11_10⟩

end Go.Proofs.Ytamaejafddmagaa.PA
