-- Written by a program of this session (after the manner of the kit's print, several laws in one text).
import Derived.Test.YtbhmgbeebhmfkaaHs
import Derived.Test.YtbhmgbeebhmfkaaPAx0
import Derived.Test.YtbhmgbeebhmfkaaPAx2
import Derived.Test.YtbhmgbeebhmfkaaPAx5
import Derived.Test.YtbhmgbeebhmfkaaGw
import Derived.Test.YtbhmgbeebhmfkaaGm
namespace Go.Proofs.Ytbhmgbeebhmfkaa.PA
open Go.RowKit Go.Proofs.YtbhmgbeebhmfkaaW.PrintWords Go.Proofs.YtbhmgbeebhmfkaaW.PrintLast Go.Proofs.YtbhmgbeebhmfkaaW.PrintMore
attribute [local go_sem] max2_int min2_int max_two min_two max_three min_three max_four min_four   -- for this text's walks alone
set_option linter.unusedVariables false
set_option linter.unusedSimpArgs false

/-! ### impl_tidy: function 60 -/
theorem zL13 {p q : Prop} (h : q) (t : q → p := by intro h_; (with_reducible repeat first|refine blk_drewN ?_ _|refine blk_drew ?_|refine blk_alloc ?_ _); exact h_) : p := t h
theorem z13_1 {p : Prop} (h : p := by (try simp only [hl3_2]); (try simp only [hl3_3]); (with_reducible repeat first|refine blk_drewN ?_ _|refine blk_drew ?_|refine blk_alloc ?_ _); refine blk_far ?_ (by have h_ := Kd.R_ne HO_3.out BK383.out (by decide); intro e_; exact h_ (by rw [e_]; rfl)) _; (with_reducible repeat first|refine blk_drewN ?_ _|refine blk_drew ?_|refine blk_alloc ?_ _); refine blk_far ?_ (by have h_ := Kd.R_ne HO_3.out BK383.out (by decide); intro e_; exact h_ (by rw [e_]; rfl)) _; (with_reducible repeat first|refine blk_drewN ?_ _|refine blk_drew ?_|refine blk_alloc ?_ _); refine blk_far ?_ (by have h_ := Kd.R_ne HO_3.out BK383.out (by decide); intro e_; exact h_ (by rw [e_]; rfl)) _; (with_reducible repeat first|refine blk_drewN ?_ _|refine blk_drew ?_|refine blk_alloc ?_ _); refine blk_far ?_ (by have h_ := Kd.R_ne HO_3.out BK383.out (by decide); intro e_; exact h_ (by rw [e_]; rfl)) _; (with_reducible repeat first|refine blk_drewN ?_ _|refine blk_drew ?_|refine blk_alloc ?_ _); exact BK383.out) : p := h
theorem z13_2 {p : Prop} (h : p := by (try simp only [hl3_2]); (try simp only [hl3_3]); (with_reducible repeat first|refine blk_drewN ?_ _|refine blk_drew ?_|refine blk_alloc ?_ _); refine blk_far ?_ (by have h_ := Kd.R_away HO_3.out (fun _ hk => hk); intro e_; exact h_ (by rw [e_]; rfl)) _; (with_reducible repeat first|refine blk_drewN ?_ _|refine blk_drew ?_|refine blk_alloc ?_ _); refine blk_far ?_ (by have h_ := Kd.R_away HO_3.out (fun _ hk => hk); intro e_; exact h_ (by rw [e_]; rfl)) _; (with_reducible repeat first|refine blk_drewN ?_ _|refine blk_drew ?_|refine blk_alloc ?_ _); refine blk_far ?_ (by have h_ := Kd.R_away HO_3.out (fun _ hk => hk); intro e_; exact h_ (by rw [e_]; rfl)) _; (with_reducible repeat first|refine blk_drewN ?_ _|refine blk_drew ?_|refine blk_alloc ?_ _); refine blk_far ?_ (by have h_ := Kd.R_away HO_3.out (fun _ hk => hk); intro e_; exact h_ (by rw [e_]; rfl)) _; (with_reducible repeat first|refine blk_drewN ?_ _|refine blk_drew ?_|refine blk_alloc ?_ _); exact BK390.out) : p := h
theorem z13_3 {p : Prop} (h : p := by first | (with_reducible assumption) | assumption) : p := h
theorem z13_4 {p : Prop} (h : p := by repeat (first | (with_reducible first | exact HB.out | apply below_alloc | apply pw_below_drewN | apply below_drew1 | refine below_set ?_ GE383.out | refine below_set ?_ GE390.out) | exact HB.out)) : p := h
theorem z13_5 {p : Prop} (h : p := by (with_reducible repeat (first | apply Kd.R_alloc | apply Kd.R_drewN | apply Kd.R_drew)); exact HO_3.out) : p := h
theorem z13_6 {p : Prop} (h : p := by (with_reducible repeat (first | apply Kd.R_alloc | apply Kd.R_drewN | apply Kd.R_drew)); exact ab.out) : p := h
theorem z13_7 {p : Prop} (h : p := by (with_reducible repeat (first | apply Kd.R_alloc | apply Kd.R_drewN | apply Kd.R_drew)); exact aa.out) : p := h
theorem z13_8 {p : Prop} (h : p := by (try simp only [List.map_toArray, List.map_cons, List.map_nil]); first | done | rfl | (simp only [List.length_drop, List.length_take]; rfl)) : p := h
theorem z13_9 {p : Prop} (h : p := by repeat (first | (with_reducible first | exact HB.out | apply below_alloc | apply pw_below_drewN | apply below_drew1 | refine below_set ?_ GE383.out) | exact HB.out)) : p := h
theorem z13_10 {p : Prop} (h : p := by repeat (first | (with_reducible first | exact HB.out | apply below_alloc | apply pw_below_drewN | apply below_drew1) | exact HB.out)) : p := h
theorem z13_11 {p : Prop} (h : p := by repeat (first | (with_reducible first | exact HB.out | apply below_alloc | apply pw_below_drewN | apply below_drew1 | refine below_set ?_ GE383.out | refine below_set ?_ GE385.out) | exact HB.out)) : p := h
theorem z13_12 {p : Prop} (h : p := by first | rfl | (simp; done) | (simp [*]; done)) : p := h
theorem z13_13 {p : Prop} (h : p := by have := HK1.out; have := HK2.out; have := HK3.out; omega) : p := h
theorem z13_14 {p : Prop} (h : p := by (try simp only [hl3_2]); (try simp only [hl3_3]); (with_reducible repeat first|refine blk_drewN ?_ _|refine blk_drew ?_|refine blk_alloc ?_ _); exact BK383.out) : p := h
theorem z13_15 {p : Prop} (h : p := by (try simp only [hl3_2]); (try simp only [hl3_3]); (with_reducible repeat (first | apply Kd.R_alloc | apply Kd.R_drewN | apply Kd.R_drew)); exact aa.out) : p := h
theorem z13_16 {p : Prop} (h : p := by (try simp only [hl3_2]); (try simp only [hl3_3]); (with_reducible repeat (first | apply Kd.R_alloc | apply Kd.R_drewN | apply Kd.R_drew)); exact ab.out) : p := h
mutual
def impl_tidy.l0 : Nat → List (S59) → List (S77) → Int → Int → Option ((List (S59)))
  | 0, _, _, _, _ => none
  | k + 1, x3, x15, x16, x17 => if x17 < x16 then (if 0 ≤ x17 then (if x17 < (x15.length : Int) then (if x3.length < 4398046511104 then (impl_tidy.l0 k (x3 ++ [(⟨(rd_T77 x15 x17).f0.f0, (rd_T77 x15 x17).f0.f1, (rd_T77 x15 x17).f0.f2, (rd_T77 x15 x17).f0.f3⟩ : S59)]) x15 x16 (wrap64 (x17 + 1))) else (none)) else (none)) else (none)) else (impl_tidy.l1 k x3 (x3.length : Int) 0)
def impl_tidy.l1 : Nat → List (S59) → Int → Int → Option ((List (S59)))
  | 0, _, _, _ => none
  | k + 1, x3, x28, x29 => if x29 < x28 then (if 0 ≤ x29 then (if x29 < (x3.length : Int) then ((impl_vector_lead.f ((rd_T59 x3 x29).f0) ((rd_T59 x3 x29).f1) ((rd_T59 x3 x29).f2) ((rd_T59 x3 x29).f3)).bind fun t391 => (impl_tidy.l2 k x3 x29 t391 x28 x29 (x3.length : Int) 0)) else (none)) else (none)) else (So.srt x3)
def impl_tidy.l2 : Nat → List (S59) → Int → Int → Int → Int → Int → Int → Option ((List (S59)))
  | 0, _, _, _, _, _, _, _ => none
  | k + 1, x3, x6, x8, x28, x29, x37, x38 => if x38 < x37 then (if x38 = x6 then (impl_tidy.l2 k x3 x6 x8 x28 x29 x37 (wrap64 (x38 + 1))) else (if 0 ≤ x38 then (if x38 < (x3.length : Int) then (if 0 ≤ x6 then (if x6 < (x3.length : Int) then (if x8 = 0 then ((impl_vector_times.f ((rd_T59 x3 x6).f0) ((rd_T59 x3 x6).f1) ((rd_T59 x3 x6).f2) ((rd_T59 x3 x6).f3) ((rd_T59 x3 x38).f0)).bind fun bt395 => ((impl_vector_minus.f ((rd_T59 x3 x38).f0) ((rd_T59 x3 x38).f1) ((rd_T59 x3 x38).f2) ((rd_T59 x3 x38).f3) bt395.1 bt395.2.1 bt395.2.2.1 bt395.2.2.2).bind fun bt399 => (impl_tidy.l2 k (x3.set (x38 : Int).toNat (⟨bt399.1, bt399.2.1, bt399.2.2.1, bt399.2.2.2⟩ : S59)) x6 x8 x28 x29 x37 (wrap64 (x38 + 1))))) else (if x8 = 1 then ((impl_vector_times.f ((rd_T59 x3 x6).f0) ((rd_T59 x3 x6).f1) ((rd_T59 x3 x6).f2) ((rd_T59 x3 x6).f3) ((rd_T59 x3 x38).f1)).bind fun bt404 => ((impl_vector_minus.f ((rd_T59 x3 x38).f0) ((rd_T59 x3 x38).f1) ((rd_T59 x3 x38).f2) ((rd_T59 x3 x38).f3) bt404.1 bt404.2.1 bt404.2.2.1 bt404.2.2.2).bind fun bt408 => (impl_tidy.l2 k (x3.set (x38 : Int).toNat (⟨bt408.1, bt408.2.1, bt408.2.2.1, bt408.2.2.2⟩ : S59)) x6 x8 x28 x29 x37 (wrap64 (x38 + 1))))) else (if x8 = 2 then ((impl_vector_times.f ((rd_T59 x3 x6).f0) ((rd_T59 x3 x6).f1) ((rd_T59 x3 x6).f2) ((rd_T59 x3 x6).f3) ((rd_T59 x3 x38).f2)).bind fun bt413 => ((impl_vector_minus.f ((rd_T59 x3 x38).f0) ((rd_T59 x3 x38).f1) ((rd_T59 x3 x38).f2) ((rd_T59 x3 x38).f3) bt413.1 bt413.2.1 bt413.2.2.1 bt413.2.2.2).bind fun bt417 => (impl_tidy.l2 k (x3.set (x38 : Int).toNat (⟨bt417.1, bt417.2.1, bt417.2.2.1, bt417.2.2.2⟩ : S59)) x6 x8 x28 x29 x37 (wrap64 (x38 + 1))))) else (if x8 = 3 then ((impl_vector_times.f ((rd_T59 x3 x6).f0) ((rd_T59 x3 x6).f1) ((rd_T59 x3 x6).f2) ((rd_T59 x3 x6).f3) ((rd_T59 x3 x38).f3)).bind fun bt422 => ((impl_vector_minus.f ((rd_T59 x3 x38).f0) ((rd_T59 x3 x38).f1) ((rd_T59 x3 x38).f2) ((rd_T59 x3 x38).f3) bt422.1 bt422.2.1 bt422.2.2.1 bt422.2.2.2).bind fun bt426 => (impl_tidy.l2 k (x3.set (x38 : Int).toNat (⟨bt426.1, bt426.2.1, bt426.2.2.1, bt426.2.2.2⟩ : S59)) x6 x8 x28 x29 x37 (wrap64 (x38 + 1))))) else (none))))) else (none)) else (none)) else (none)) else (none))) else (impl_tidy.l1 k x3 x28 (wrap64 (x29 + 1)))
end
def impl_tidy.f (k : Nat) (l0 : List (S59)) : Option ((List (S59))) := (impl_spanOf.f k l0).bind fun bt377 => (impl_tidy.l0 k (([] : List (S59))) bt377.1 (bt377.1.length : Int) 0)
def impl_tidy.T15 : Bool × List (List Nat × List Nat) := (true, [([], []), ([], []), ([], []), ([], []), ([2, 3], [2, 3]), ([4], [4]), ([], []), ([], []), ([6, 7], [6, 7]), ([8], [8]), ([], []), ([], []), ([], []), ([10, 11], [10, 11]), ([13, 12], [12, 13]), ([14], [14]), ([9, 15], [9, 15]), ([5, 16, 16], [5, 16]), ([0, 1, 0, 1, 2, 3, 4, 5, 6, 7, 8, 9, 10, 11, 12, 13, 14, 15, 16, 17], [0, 1]), ([18, 17, 17, 0, 1, 2, 3, 4, 5, 6, 7, 8, 9, 10, 11, 12, 13, 14, 15, 16, 17], [17, 18])])
def impl_tidy.B15 : List Nat := [0, 0, 0, 0, 12, 28, 0, 0, 192, 448, 0, 0, 0, 3072, 15360, 31744, 65472, 131068, 262143, 524287]
theorem impl_tidy.tab15 : rtab .any (opsOf Try.f60 15) = impl_tidy.T15 := by kernel_rfl
theorem impl_tidy.bits15 : waitsOk impl_tidy.T15.2 impl_tidy.B15 = true := by kernel_rfl
theorem bA13 {W : World} {g : Nat} {cs : Array Value} {ty : TypeId} {j : Nat} {v : Value} (h : Aside0 (W.heap[g]? = some (.cells cs ty (0, 0)))) (e : cs[j]? = some v) : W.cell? ⟨g, j, none⟩ = some v := (blk_cell h.out j).trans e
set_option maxHeartbeats 8000000 in
set_option maxRecDepth 100000 in
theorem impl_tidy.calls (k : Nat) (A0 : Option Addr) (c0 : Nat) (l0 : List (S59)) (r : List (S59)) (w : World) (hr0 : Kd.C k59 w A0 l0.length l0) (hc0 : l0.length ≤ c0) (h : impl_tidy.f k l0 = some r) :
  Calls Try.prog 60 #[.slice A0 l0.length c0] w fun e w' => ∃ v0_ : Value, e = .returned (v0_) ∧ Kd.R k59 59 w' w.heap.size (fun _ => True) v0_ r ∧ Below w.heap.size w w' := by
 have hu77 := Try.underlying77
 have hu59 := Try.underlying59
 have HR0 := Aside0.mk hr0
 have HC0 := Aside0.mk hc0
 clear hr0 hc0
 have HB := Aside0.mk (Below.refl w.heap.size w)
 have H : ((impl_spanOf.f k l0).bind fun bt377 => (impl_tidy.l0 k (([] : List (S59))) bt377.1 (bt377.1.length : Int) 0)) = some r := h
 clear h
 obtain ⟨y374, hy374⟩ : ∃ y_ : List (S59), y_ = (([] : List (S59))) := ⟨_, rfl⟩
 replace H : ((impl_spanOf.f k l0).bind fun bt377 => (impl_tidy.l0 k y374 bt377.1 (bt377.1.length : Int) 0)) = some r := by first | (rw [hy374]; with_reducible exact H) | (have H2_ := (Option.bind_some _ _).symm.trans H; rw [hy374]; with_reducible exact H2_) | (have H2_ := (Option.bind_some _ _).symm.trans H; with_reducible exact H2_) | with_reducible exact H | (rw [hy374]; exact H) | exact H
 have Ny374 := Aside0.mk hy374
 clear hy374
 replace H := Option.bind_eq_some_iff.mp H
 obtain ⟨⟨t377, t380⟩, A20, H⟩ := H
 replace H : (impl_tidy.l0 k y374 t377 (t377.length : Int) 0) = some r := H
 have A2 := Aside0.mk A20
 clear A20
 have H' := Aside0.mk H
 clear H
 go_enter Try.func60, Try.ntmps60
 go_wp2_with (first | ((with_reducible refine gate_dst (N := 10) rfl ?_); refine Kd.R_lit k59 _ 59 ?hg (N := 10) ?hd (xs := ([] : List (S59))) (inner := []) (ok := fun _ => True) (okp := fun _ => True) ?hr ?hp (fun _ hk => hk) trivial (Below.refl _ _) (Nat.le_refl _) (by simp) ?_; (case hd => rfl); (case hg => rfl); (case hr => first | (go_simp; done) | (go_simp; rfl)); (case hp => exact (Reps.none _ _)); intro v375 w3 ho4 hb hg_ hnew_; clear hg_ hnew_; (first | rw [← Ny374.out] at ho4 | (simp only [Int.reduceToNat] at ho4; rw [← Ny374.out] at ho4)); have HO376 := Aside0.mk (Kd.R_lower ho4 (below_size z13_10)); replace HB := Aside0.mk (below_step z13_10 hb); clear hb ho4) | ((with_reducible refine gate_callee (f := 54) rfl ?_); refine goesL_ (some 12) rfl rfl Try.func54 (by kernel_rfl) rfl #[.slice A0 l0.length c0] rfl z13_8 ?_; (with_reducible refine (impl_spanOf.calls k _ _ l0 t377 t380 _ ?side1 ?side2 A2.out).mono ?_); (case side1 => exact cZ ((Kd.C_below HR0.out HB.out))); (case side2 => exact HC0.out); rintro e w5 ⟨v378, v381, gb383, rfl, hbox, hgr, ho0, ho1, hb⟩; refine ⟨_, rfl, ?_⟩; replace HO376 := Aside0.mk (Kd.R_below (by (with_reducible repeat (first | apply Kd.R_alloc | apply Kd.R_drewN | apply Kd.R_drew)); exact HO376.out) hb); have HO379 := Aside0.mk (Kd.R_lower ho0 (below_size z13_10)); have HO382 := Aside0.mk (Kd.R_lower ho1 (below_size z13_10)); have BK383 := Aside0.mk (hbox); have GW383 := Aside0.mk ((Nat.le_trans ((below_size z13_10) : w.heap.size ≤ _) hgr : w.heap.size ≤ gb383)); have GE383 := Aside0.mk ((Nat.le_trans ((below_size z13_10) : w.heap.size ≤ _) hgr : w.heap.size ≤ gb383)); replace HB := Aside0.mk (below_step z13_10 hb); (try clear hb); (try clear ho0); (try clear ho1); have am : w5.cell? ⟨gb383, 0, none⟩ = some (v378) := bA13 BK383 rfl; have an := blk_frozen BK383.out 0; obtain ⟨Ao7, co7, eo7⟩ := Kd.R_slice HO379.out; subst eo7))
 go_loopg [3, 17] k (fun kq v3 v17 w' => ∃ (x3_1 : List (S59)) (x17_1 : Int), v17 = .int .i64 x17_1 ∧ Aside0 (impl_tidy.l0 kq x3_1 t377 (t377.length : Int) x17_1 = some r) ∧ Aside0 (kq ≤ k) ∧ Aside0 (Kd.R k59 59 w' w.heap.size (fun _ => True) v3 x3_1) ∧ Aside0 (Kd.R k77 77 w' w.heap.size (fun _ => True) (.slice Ao7 t377.length co7) t377) ∧ Aside0 (Kd.R k77 77 w' w.heap.size (fun _ => True) (.slice Ao7 t377.length co7) t377) ∧ Aside0 (Kd.R (Kd.int .i64) 3 w' w.heap.size (fun _ => True) v381 t380) ∧ Aside0 (w'.heap[gb383]? = some (.cells #[(.slice Ao7 t377.length co7), v381] 54 (0, 0))) ∧ Aside0 (Below w.heap.size w w'))
 case atStart => exact ⟨(y374), (0), z13_12, H', ⟨Nat.le_refl _⟩, ⟨by (with_reducible repeat (first | apply Kd.R_alloc | apply Kd.R_drewN | apply Kd.R_drew)); exact HO376.out⟩, ⟨by (with_reducible repeat (first | apply Kd.R_alloc | apply Kd.R_drewN | apply Kd.R_drew)); exact HO379.out⟩, ⟨by (with_reducible repeat (first | apply Kd.R_alloc | apply Kd.R_drewN | apply Kd.R_drew)); exact HO379.out⟩, ⟨by (with_reducible repeat (first | apply Kd.R_alloc | apply Kd.R_drewN | apply Kd.R_drew)); exact HO382.out⟩, ⟨zL13 BK383.out⟩, ⟨z13_9⟩⟩
 case round =>
  clear H'
  try clear am
  try clear an
  obtain ⟨x3_1, x17_1, rfl, HA, HK1, HO_3, HO_15, aa, ab, BK383, HB⟩ := hrel
  cases gk with
  | zero => exact absurd HA.out (by simp [impl_tidy.l0])
  | succ k1 =>
   have H := HA.out
   clear HA
   simp only [impl_tidy.l0] at H
   by_cases c8 : x17_1 < (t377.length : Int)
   ·rw [if_pos c8] at H
    have c8b0 : decide (x17_1 < (t377.length : Int)) = true := decide_eq_true c8
    clear c8
    obtain ⟨c9, H⟩ := ifP H
    have c9b0 : decide (0 ≤ x17_1) = true := decide_eq_true c9
    clear c9
    obtain ⟨c10, H⟩ := ifP H
    have c10b0 : decide (x17_1 < (t377.length : Int)) = true := decide_eq_true c10
    clear c10
    obtain ⟨c11, H⟩ := ifP H
    have LMc11 := Aside0.mk c11
    clear c11
    obtain ⟨y386, hy386⟩ : ∃ y_ : List (S59), y_ = (x3_1 ++ [(⟨(rd_T77 t377 x17_1).f0.f0, (rd_T77 t377 x17_1).f0.f1, (rd_T77 t377 x17_1).f0.f2, (rd_T77 t377 x17_1).f0.f3⟩ : S59)]) := ⟨_, rfl⟩
    replace H : (impl_tidy.l0 k1 y386 t377 (t377.length : Int) (wrap64 (x17_1 + 1))) = some r := by first | (rw [hy386]; with_reducible exact H) | (have H2_ := (Option.bind_some _ _).symm.trans H; rw [hy386]; with_reducible exact H2_) | (have H2_ := (Option.bind_some _ _).symm.trans H; with_reducible exact H2_) | with_reducible exact H | (rw [hy386]; exact H) | exact H
    have Ny386 := Aside0.mk hy386
    clear hy386
    have H' := Aside0.mk H
    clear H
    have p384 : 0 ≤ (x17_1 : Int) := of_decide_eq_true z13_3
    have q384 : x17_1 < (t377.length : Int) := of_decide_eq_true z13_3
    obtain ⟨ad384, e384, hx384_0, hx384_1, hx384_2, hx384_3, hx384_4, hx384_5, hx384_6, hx384_7, hx384_8, hx384_9, hx384_10, hx384_11⟩ := at_T77 (Kd.R_reads' HO_15.out).2.2 x17_1 p384 q384
    cases e384
    replace p384 := eq_true p384
    replace q384 := eq_true q384
    go_wp2_with (first | ((with_reducible refine gate_dst (N := 5) rfl ?_); refine box_event ?hg (N := 5) ?hd (cs := #[.int .i64 0, .int .i64 0, .int .i64 0, .int .i64 0, .int .i64 0, .int .i64 0, .int .i64 0, .int .i64 0, .int .i64 0, .int .i64 0, .int .i64 0, .int .i64 0]) (t := 77) ?hr ?_; (case hd => rfl); (case hg => rfl); (case hr => first | (go_simp; done) | (go_simp; rfl)); intro gb385 hg w12 hbox hb; replace HO_3 := Aside0.mk (Kd.R_below z13_5 hb); replace HO_15 := Aside0.mk (Kd.R_below (Kd.R_elderB (by (with_reducible repeat (first | apply Kd.R_alloc | apply Kd.R_drewN | apply Kd.R_drew)); exact HO_15.out) gb385 (Nat.le_of_eq hg.symm)) hb); replace aa := Aside0.mk (Kd.R_below (Kd.R_elderB z13_7 gb385 (Nat.le_of_eq hg.symm)) hb); replace ab := Aside0.mk (Kd.R_below z13_6 hb); have BK385 := Aside0.mk (hbox); have GW385 := Aside0.mk ((by rw [hg]; exact (below_size z13_9) : w.heap.size ≤ gb385)); have GE385 := Aside0.mk ((by rw [hg]; exact (below_size z13_9) : w.heap.size ≤ gb385)); replace HB := Aside0.mk (below_step z13_9 hb); have ac := Aside0.mk ((by rw [hg]; exact Nat.ne_of_lt (blk_lt (g := gb383) (o := .cells #[.slice (some ad384) t377.length co7, v381] 54 (0, 0)) (zL13 BK383.out)) : gb383 ≠ gb385)); have aY := Aside0.mk ((by rw [hg]; exact Nat.ne_of_gt (blk_lt (g := gb383) (o := .cells #[.slice (some ad384) t377.length co7, v381] 54 (0, 0)) (zL13 BK383.out)) : gb385 ≠ gb383)); replace BK383 := Aside0.mk (blk_below (g := gb383) (o := .cells #[.slice (some ad384) t377.length co7, v381] 54 (0, 0)) (zL13 BK383.out) hb); clear hb hbox hg; have hnb13 := aY.out; have hnc13 := ac.out; have ao : w12.cell? ⟨gb385, 0, none⟩ = some (.int .i64 0) := bA13 BK385 rfl; have ap := blk_frozen BK385.out 0; have aq : w12.cell? ⟨gb385, 1, none⟩ = some (.int .i64 0) := bA13 BK385 rfl; have ar := blk_frozen BK385.out 1; have au : w12.cell? ⟨gb385, 2, none⟩ = some (.int .i64 0) := bA13 BK385 rfl; have av := blk_frozen BK385.out 2; have aw : w12.cell? ⟨gb385, 3, none⟩ = some (.int .i64 0) := bA13 BK385 rfl; have ax := blk_frozen BK385.out 3; have ay : w12.cell? ⟨gb385, 4, none⟩ = some (.int .i64 0) := bA13 BK385 rfl; have az := blk_frozen BK385.out 4; have aA : w12.cell? ⟨gb385, 5, none⟩ = some (.int .i64 0) := bA13 BK385 rfl; have aC := blk_frozen BK385.out 5; have aD : w12.cell? ⟨gb385, 6, none⟩ = some (.int .i64 0) := bA13 BK385 rfl; have aE := blk_frozen BK385.out 6; have aG : w12.cell? ⟨gb385, 7, none⟩ = some (.int .i64 0) := bA13 BK385 rfl; have aH := blk_frozen BK385.out 7; have aI : w12.cell? ⟨gb385, 8, none⟩ = some (.int .i64 0) := bA13 BK385 rfl; have aJ := blk_frozen BK385.out 8; have aK : w12.cell? ⟨gb385, 9, none⟩ = some (.int .i64 0) := bA13 BK385 rfl; have aM := blk_frozen BK385.out 9; have ai : w12.cell? ⟨gb385, 10, none⟩ = some (.int .i64 0) := bA13 BK385 rfl; have aj := blk_frozen BK385.out 10; have ak : w12.cell? ⟨gb385, 11, none⟩ = some (.int .i64 0) := bA13 BK385 rfl; have al := blk_frozen BK385.out 11) | ((with_reducible refine gate_store (t := 77) (p := 5) rfl ?_); refine store_event (t := 77) (p := 5) (v := ?vo_w26) (w1 := ((((((((((((w12.setCell ⟨gb385, 0, none⟩ (.int .i64 ((rd_T77 t377 x17_1).f0.f0))).setCell ⟨gb385, 1, none⟩ (.int .i64 ((rd_T77 t377 x17_1).f0.f1))).setCell ⟨gb385, 2, none⟩ (.int .i64 ((rd_T77 t377 x17_1).f0.f2))).setCell ⟨gb385, 3, none⟩ (.int .i64 ((rd_T77 t377 x17_1).f0.f3))).setCell ⟨gb385, 4, none⟩ (.int .i64 ((rd_T77 t377 x17_1).f1.f0))).setCell ⟨gb385, 5, none⟩ (.int .i64 ((rd_T77 t377 x17_1).f1.f1))).setCell ⟨gb385, 6, none⟩ (.int .i64 ((rd_T77 t377 x17_1).f1.f2))).setCell ⟨gb385, 7, none⟩ (.int .i64 ((rd_T77 t377 x17_1).f1.f3))).setCell ⟨gb385, 8, none⟩ (.int .i64 ((rd_T77 t377 x17_1).f1.f4))).setCell ⟨gb385, 9, none⟩ (.int .i64 ((rd_T77 t377 x17_1).f1.f5))).setCell ⟨gb385, 10, none⟩ (.int .i64 ((rd_T77 t377 x17_1).f1.f6))).setCell ⟨gb385, 11, none⟩ (.int .i64 ((rd_T77 t377 x17_1).f1.f7)))) ?hg ?ho ?hn ?hr ?_; (case ho => rfl); (case hg => rfl); (case hn => rfl); (case hr => first | (go_simp; done) | (go_simp; rfl)); intro w26 hw; have n0_ : Aside0 (Kd.R k59 59 w26 w.heap.size (fun _ => True) u3 x3_1) := ⟨(by rw [hw]; exact (by (with_reducible repeat (first | apply Kd.R_alloc | apply Kd.R_drewN | apply Kd.R_drew)); exact Kd.R_mono (Kd.R_far (p := ⟨gb385, 11, none⟩) (Kd.R_far (p := ⟨gb385, 10, none⟩) (Kd.R_far (p := ⟨gb385, 9, none⟩) (Kd.R_far (p := ⟨gb385, 8, none⟩) (Kd.R_far (p := ⟨gb385, 7, none⟩) (Kd.R_far (p := ⟨gb385, 6, none⟩) (Kd.R_far (p := ⟨gb385, 5, none⟩) (Kd.R_far (p := ⟨gb385, 4, none⟩) (Kd.R_far (p := ⟨gb385, 3, none⟩) (Kd.R_far (p := ⟨gb385, 2, none⟩) (Kd.R_far (p := ⟨gb385, 1, none⟩) (Kd.R_far (p := ⟨gb385, 0, none⟩) (Kd.R_types HO_3.out BK385.out (by decide)) (fun _ hk => hk.2) (.int .i64 ((rd_T77 t377 x17_1).f0.f0))) (fun _ hk => hk.2) (.int .i64 ((rd_T77 t377 x17_1).f0.f1))) (fun _ hk => hk.2) (.int .i64 ((rd_T77 t377 x17_1).f0.f2))) (fun _ hk => hk.2) (.int .i64 ((rd_T77 t377 x17_1).f0.f3))) (fun _ hk => hk.2) (.int .i64 ((rd_T77 t377 x17_1).f1.f0))) (fun _ hk => hk.2) (.int .i64 ((rd_T77 t377 x17_1).f1.f1))) (fun _ hk => hk.2) (.int .i64 ((rd_T77 t377 x17_1).f1.f2))) (fun _ hk => hk.2) (.int .i64 ((rd_T77 t377 x17_1).f1.f3))) (fun _ hk => hk.2) (.int .i64 ((rd_T77 t377 x17_1).f1.f4))) (fun _ hk => hk.2) (.int .i64 ((rd_T77 t377 x17_1).f1.f5))) (fun _ hk => hk.2) (.int .i64 ((rd_T77 t377 x17_1).f1.f6))) (fun _ hk => hk.2) (.int .i64 ((rd_T77 t377 x17_1).f1.f7))) (fun _ hk => trivial)))⟩; have n1_ : Aside0 (Kd.R k77 77 w26 w.heap.size (fun k_ => k_ ≠ gb385) (.slice (some ad384) t377.length co7) t377) := ⟨(by rw [hw]; exact (by (with_reducible repeat (first | apply Kd.R_alloc | apply Kd.R_drewN | apply Kd.R_drew)); exact Kd.R_mono (Kd.R_far (p := ⟨gb385, 11, none⟩) (Kd.R_far (p := ⟨gb385, 10, none⟩) (Kd.R_far (p := ⟨gb385, 9, none⟩) (Kd.R_far (p := ⟨gb385, 8, none⟩) (Kd.R_far (p := ⟨gb385, 7, none⟩) (Kd.R_far (p := ⟨gb385, 6, none⟩) (Kd.R_far (p := ⟨gb385, 5, none⟩) (Kd.R_far (p := ⟨gb385, 4, none⟩) (Kd.R_far (p := ⟨gb385, 3, none⟩) (Kd.R_far (p := ⟨gb385, 2, none⟩) (Kd.R_far (p := ⟨gb385, 1, none⟩) (Kd.R_far (p := ⟨gb385, 0, none⟩) (Kd.R_mono HO_15.out (fun k_ hk => (⟨hk, hk.2⟩ : _ ∧ k_ ≠ gb385))) (fun _ hk => hk.2) (.int .i64 ((rd_T77 t377 x17_1).f0.f0))) (fun _ hk => hk.2) (.int .i64 ((rd_T77 t377 x17_1).f0.f1))) (fun _ hk => hk.2) (.int .i64 ((rd_T77 t377 x17_1).f0.f2))) (fun _ hk => hk.2) (.int .i64 ((rd_T77 t377 x17_1).f0.f3))) (fun _ hk => hk.2) (.int .i64 ((rd_T77 t377 x17_1).f1.f0))) (fun _ hk => hk.2) (.int .i64 ((rd_T77 t377 x17_1).f1.f1))) (fun _ hk => hk.2) (.int .i64 ((rd_T77 t377 x17_1).f1.f2))) (fun _ hk => hk.2) (.int .i64 ((rd_T77 t377 x17_1).f1.f3))) (fun _ hk => hk.2) (.int .i64 ((rd_T77 t377 x17_1).f1.f4))) (fun _ hk => hk.2) (.int .i64 ((rd_T77 t377 x17_1).f1.f5))) (fun _ hk => hk.2) (.int .i64 ((rd_T77 t377 x17_1).f1.f6))) (fun _ hk => hk.2) (.int .i64 ((rd_T77 t377 x17_1).f1.f7))) (fun _ hk => hk.1.2)))⟩; have n2_ : Aside0 (Kd.R k77 77 w26 w.heap.size (fun k_ => k_ ≠ gb385) (.slice (some ad384) t377.length co7) t377) := ⟨(by rw [hw]; exact (by (with_reducible repeat (first | apply Kd.R_alloc | apply Kd.R_drewN | apply Kd.R_drew)); exact Kd.R_mono (Kd.R_far (p := ⟨gb385, 11, none⟩) (Kd.R_far (p := ⟨gb385, 10, none⟩) (Kd.R_far (p := ⟨gb385, 9, none⟩) (Kd.R_far (p := ⟨gb385, 8, none⟩) (Kd.R_far (p := ⟨gb385, 7, none⟩) (Kd.R_far (p := ⟨gb385, 6, none⟩) (Kd.R_far (p := ⟨gb385, 5, none⟩) (Kd.R_far (p := ⟨gb385, 4, none⟩) (Kd.R_far (p := ⟨gb385, 3, none⟩) (Kd.R_far (p := ⟨gb385, 2, none⟩) (Kd.R_far (p := ⟨gb385, 1, none⟩) (Kd.R_far (p := ⟨gb385, 0, none⟩) (Kd.R_mono aa.out (fun k_ hk => (⟨hk, hk.2⟩ : _ ∧ k_ ≠ gb385))) (fun _ hk => hk.2) (.int .i64 ((rd_T77 t377 x17_1).f0.f0))) (fun _ hk => hk.2) (.int .i64 ((rd_T77 t377 x17_1).f0.f1))) (fun _ hk => hk.2) (.int .i64 ((rd_T77 t377 x17_1).f0.f2))) (fun _ hk => hk.2) (.int .i64 ((rd_T77 t377 x17_1).f0.f3))) (fun _ hk => hk.2) (.int .i64 ((rd_T77 t377 x17_1).f1.f0))) (fun _ hk => hk.2) (.int .i64 ((rd_T77 t377 x17_1).f1.f1))) (fun _ hk => hk.2) (.int .i64 ((rd_T77 t377 x17_1).f1.f2))) (fun _ hk => hk.2) (.int .i64 ((rd_T77 t377 x17_1).f1.f3))) (fun _ hk => hk.2) (.int .i64 ((rd_T77 t377 x17_1).f1.f4))) (fun _ hk => hk.2) (.int .i64 ((rd_T77 t377 x17_1).f1.f5))) (fun _ hk => hk.2) (.int .i64 ((rd_T77 t377 x17_1).f1.f6))) (fun _ hk => hk.2) (.int .i64 ((rd_T77 t377 x17_1).f1.f7))) (fun _ hk => hk.1.2)))⟩; have n3_ : Aside0 (Kd.R (Kd.int .i64) 3 w26 w.heap.size (fun _ => True) v381 t380) := ⟨(by rw [hw]; exact (by (with_reducible repeat (first | apply Kd.R_alloc | apply Kd.R_drewN | apply Kd.R_drew)); exact Kd.R_mono (Kd.R_far (p := ⟨gb385, 11, none⟩) (Kd.R_far (p := ⟨gb385, 10, none⟩) (Kd.R_far (p := ⟨gb385, 9, none⟩) (Kd.R_far (p := ⟨gb385, 8, none⟩) (Kd.R_far (p := ⟨gb385, 7, none⟩) (Kd.R_far (p := ⟨gb385, 6, none⟩) (Kd.R_far (p := ⟨gb385, 5, none⟩) (Kd.R_far (p := ⟨gb385, 4, none⟩) (Kd.R_far (p := ⟨gb385, 3, none⟩) (Kd.R_far (p := ⟨gb385, 2, none⟩) (Kd.R_far (p := ⟨gb385, 1, none⟩) (Kd.R_far (p := ⟨gb385, 0, none⟩) (Kd.R_types ab.out BK385.out (by decide)) (fun _ hk => hk.2) (.int .i64 ((rd_T77 t377 x17_1).f0.f0))) (fun _ hk => hk.2) (.int .i64 ((rd_T77 t377 x17_1).f0.f1))) (fun _ hk => hk.2) (.int .i64 ((rd_T77 t377 x17_1).f0.f2))) (fun _ hk => hk.2) (.int .i64 ((rd_T77 t377 x17_1).f0.f3))) (fun _ hk => hk.2) (.int .i64 ((rd_T77 t377 x17_1).f1.f0))) (fun _ hk => hk.2) (.int .i64 ((rd_T77 t377 x17_1).f1.f1))) (fun _ hk => hk.2) (.int .i64 ((rd_T77 t377 x17_1).f1.f2))) (fun _ hk => hk.2) (.int .i64 ((rd_T77 t377 x17_1).f1.f3))) (fun _ hk => hk.2) (.int .i64 ((rd_T77 t377 x17_1).f1.f4))) (fun _ hk => hk.2) (.int .i64 ((rd_T77 t377 x17_1).f1.f5))) (fun _ hk => hk.2) (.int .i64 ((rd_T77 t377 x17_1).f1.f6))) (fun _ hk => hk.2) (.int .i64 ((rd_T77 t377 x17_1).f1.f7))) (fun _ hk => trivial)))⟩; have n4_ : Aside0 (w26.heap[gb383]? = some (.cells #[.slice (some ad384) t377.length co7, v381] 54 (0, 0))) := ⟨(by rw [hw]; exact (by (with_reducible repeat first|refine blk_drewN ?_ _|refine blk_drew ?_|refine blk_alloc ?_ _); refine blk_far ?_ ac.out _; (with_reducible repeat first|refine blk_drewN ?_ _|refine blk_drew ?_|refine blk_alloc ?_ _); refine blk_far ?_ ac.out _; (with_reducible repeat first|refine blk_drewN ?_ _|refine blk_drew ?_|refine blk_alloc ?_ _); refine blk_far ?_ ac.out _; (with_reducible repeat first|refine blk_drewN ?_ _|refine blk_drew ?_|refine blk_alloc ?_ _); refine blk_far ?_ ac.out _; (with_reducible repeat first|refine blk_drewN ?_ _|refine blk_drew ?_|refine blk_alloc ?_ _); refine blk_far ?_ ac.out _; (with_reducible repeat first|refine blk_drewN ?_ _|refine blk_drew ?_|refine blk_alloc ?_ _); refine blk_far ?_ ac.out _; (with_reducible repeat first|refine blk_drewN ?_ _|refine blk_drew ?_|refine blk_alloc ?_ _); refine blk_far ?_ ac.out _; (with_reducible repeat first|refine blk_drewN ?_ _|refine blk_drew ?_|refine blk_alloc ?_ _); refine blk_far ?_ ac.out _; (with_reducible repeat first|refine blk_drewN ?_ _|refine blk_drew ?_|refine blk_alloc ?_ _); refine blk_far ?_ ac.out _; (with_reducible repeat first|refine blk_drewN ?_ _|refine blk_drew ?_|refine blk_alloc ?_ _); refine blk_far ?_ ac.out _; (with_reducible repeat first|refine blk_drewN ?_ _|refine blk_drew ?_|refine blk_alloc ?_ _); refine blk_far ?_ ac.out _; (with_reducible repeat first|refine blk_drewN ?_ _|refine blk_drew ?_|refine blk_alloc ?_ _); refine blk_far ?_ ac.out _; (with_reducible repeat first|refine blk_drewN ?_ _|refine blk_drew ?_|refine blk_alloc ?_ _); exact BK383.out))⟩; have n5_ : Aside0 (w26.heap[gb385]? = some (.cells #[.int .i64 ((rd_T77 t377 x17_1).f0.f0), .int .i64 ((rd_T77 t377 x17_1).f0.f1), .int .i64 ((rd_T77 t377 x17_1).f0.f2), .int .i64 ((rd_T77 t377 x17_1).f0.f3), .int .i64 ((rd_T77 t377 x17_1).f1.f0), .int .i64 ((rd_T77 t377 x17_1).f1.f1), .int .i64 ((rd_T77 t377 x17_1).f1.f2), .int .i64 ((rd_T77 t377 x17_1).f1.f3), .int .i64 ((rd_T77 t377 x17_1).f1.f4), .int .i64 ((rd_T77 t377 x17_1).f1.f5), .int .i64 ((rd_T77 t377 x17_1).f1.f6), .int .i64 ((rd_T77 t377 x17_1).f1.f7)] 77 (0, 0))) := ⟨(by rw [hw]; exact (bZ BK385.out))⟩; have n6_ : Aside0 (Below w.heap.size w w26) := ⟨(by rw [hw]; exact z13_11)⟩; clear hw; clear HO_3; clear HO_15; clear aa; clear ab; clear BK383; clear BK385; clear HB; have HO_3 := n0_; have HO_15 := n1_; have aa := n2_; have ab := n3_; have BK383 := n4_; have BK385 := n5_; have HB := n6_; clear n0_ n1_ n2_ n3_ n4_ n5_ n6_; have aN : w26.cell? ⟨gb385, 0, none⟩ = some (.int .i64 ((rd_T77 t377 x17_1).f0.f0)) := bA13 BK385 rfl; have aQ : w26.cell? ⟨gb385, 1, none⟩ = some (.int .i64 ((rd_T77 t377 x17_1).f0.f1)) := bA13 BK385 rfl; have aR : w26.cell? ⟨gb385, 2, none⟩ = some (.int .i64 ((rd_T77 t377 x17_1).f0.f2)) := bA13 BK385 rfl; have aT : w26.cell? ⟨gb385, 3, none⟩ = some (.int .i64 ((rd_T77 t377 x17_1).f0.f3)) := bA13 BK385 rfl; have aU := blk_frozen BK385.out 0; have aV := blk_frozen BK385.out 1; have aW := blk_frozen BK385.out 2; have aX := blk_frozen BK385.out 3) | ((with_reducible refine gate_builtin (b := .append) (xs := #[.tmp 21, .tmp 24]) rfl ?_); at_builtin; refine Kd.R_append k59 (w0 := w) w.heap.size rfl (.tmp 21) (.tmp 24) 48 59 (.agg #[(.int .i64 0), (.int .i64 0), (.int .i64 0), (.int .i64 0)]) 32 rfl Try.underlying48 info59 rfl (by decide) (by omega) u3 x3_1 (⟨(rd_T77 t377 x17_1).f0.f0, (rd_T77 t377 x17_1).f0.f1, (rd_T77 t377 x17_1).f0.f2, (rd_T77 t377 x17_1).f0.f3⟩ : S59) [.int .i64 ((rd_T77 t377 x17_1).f0.f0), .int .i64 ((rd_T77 t377 x17_1).f0.f1), .int .i64 ((rd_T77 t377 x17_1).f0.f2), .int .i64 ((rd_T77 t377 x17_1).f0.f3)] (fun _ => True) (fun _ => False) rfl rfl ?aP (fun _ hk => hk.elim) ?aF ?aO ?aB ?aS ?aL ?_; (case aP => exact k59_mkM _ _ _ (⟨(rd_T77 t377 x17_1).f0.f0, (rd_T77 t377 x17_1).f0.f1, (rd_T77 t377 x17_1).f0.f2, (rd_T77 t377 x17_1).f0.f3⟩ : S59)); (case aB => exact z13_11); (case aF => exact (fun _ _ => trivial)); (case aO => exact z13_5); (case aS => exact (below_size z13_11)); (case aL => have := LMc11.out; omega); intro v387 w28 ho hb hg hat; rw [← Ny386.out] at ho; have n0_ := Aside0.mk (Kd.R_over' (by (with_reducible repeat (first | apply Kd.R_alloc | apply Kd.R_drewN | apply Kd.R_drew)); exact HO_15.out) (Kd.R_typed z13_5) (by decide) hg); have n1_ := Aside0.mk (Kd.R_over' z13_7 (Kd.R_typed z13_5) (by decide) hg); have n2_ := Aside0.mk (Kd.R_over' z13_6 (Kd.R_typed z13_5) (by decide) hg); have n3_ := Aside0.mk (blk_grown (g := gb383) (o := .cells #[.slice (some ad384) t377.length co7, v381] 54 (0, 0)) (zL13 BK383.out) hg (Kd.R_ne HO_3.out BK383.out (by decide))); have n4_ := Aside0.mk (blk_grown (g := gb385) (o := .cells #[.int .i64 ((rd_T77 t377 x17_1).f0.f0), .int .i64 ((rd_T77 t377 x17_1).f0.f1), .int .i64 ((rd_T77 t377 x17_1).f0.f2), .int .i64 ((rd_T77 t377 x17_1).f0.f3), .int .i64 ((rd_T77 t377 x17_1).f1.f0), .int .i64 ((rd_T77 t377 x17_1).f1.f1), .int .i64 ((rd_T77 t377 x17_1).f1.f2), .int .i64 ((rd_T77 t377 x17_1).f1.f3), .int .i64 ((rd_T77 t377 x17_1).f1.f4), .int .i64 ((rd_T77 t377 x17_1).f1.f5), .int .i64 ((rd_T77 t377 x17_1).f1.f6), .int .i64 ((rd_T77 t377 x17_1).f1.f7)] 77 (0, 0)) (zL13 BK385.out) hg (Kd.R_ne HO_3.out BK385.out (by decide))); have n5_ := Aside0.mk (hb); have n6_ := Aside0.mk (ho); clear HO_15; clear aa; clear ab; clear BK383; clear BK385; clear HB; clear HO_3; have HO_15 := n0_; have aa := n1_; have ab := n2_; have BK383 := n3_; have BK385 := n4_; have HB := n5_; have HO388 := n6_; clear n0_ n1_ n2_ n3_ n4_ n5_ n6_; clear ho hb hg hat))
    go_roundg k1
    case measure => have := HK1.out; omega
    case rel => exact ⟨(y386), (wrap64 (x17_1 + 1)), z13_12, H', ⟨by have := HK1.out; omega⟩, ⟨by (with_reducible repeat (first | apply Kd.R_alloc | apply Kd.R_drewN | apply Kd.R_drew)); exact HO388.out⟩, ⟨by (with_reducible repeat (first | apply Kd.R_alloc | apply Kd.R_drewN | apply Kd.R_drew)); exact Kd.R_mono HO_15.out (fun _ hk => trivial)⟩, ⟨by (with_reducible repeat (first | apply Kd.R_alloc | apply Kd.R_drewN | apply Kd.R_drew)); exact Kd.R_mono aa.out (fun _ hk => trivial)⟩, ⟨z13_6⟩, ⟨zL13 BK383.out⟩, ⟨z13_11⟩⟩
   ·rw [if_neg c8] at H
    have c8b0 : decide (x17_1 < (t377.length : Int)) = false := decide_eq_false c8
    clear c8
    have H' := Aside0.mk H
    clear H
    obtain ⟨Ao29, co29, eo29⟩ := Kd.R_slice HO_3.out
    subst eo29
    go_wp2
    go_loopg [29] k1 (fun kq v29 w' => ∃ (x3_2 : List (S59)) (x29_2 : Int), v29 = .int .i64 x29_2 ∧ Aside0 (impl_tidy.l1 kq x3_2 (x3_1.length : Int) x29_2 = some r) ∧ Aside0 (kq ≤ k1) ∧ Aside0 (Kd.R k59 59 w' w.heap.size (fun _ => True) (.slice Ao29 x3_1.length co29) x3_2) ∧ Aside0 (Kd.R k77 77 w' w.heap.size (fun _ => True) (.slice Ao7 t377.length co7) t377) ∧ Aside0 (Kd.R (Kd.int .i64) 3 w' w.heap.size (fun _ => True) v381 t380) ∧ Aside0 (w'.heap[gb383]? = some (.cells #[(.slice Ao7 t377.length co7), v381] 54 (0, 0))) ∧ Aside0 (Below w.heap.size w w'))
    case atStart => exact ⟨(x3_1), (0), z13_12, H', ⟨Nat.le_refl _⟩, ⟨z13_5⟩, ⟨z13_7⟩, ⟨z13_6⟩, ⟨zL13 BK383.out⟩, ⟨z13_9⟩⟩
    case round =>
     clear H'
     try clear c8
     try clear c8b0
     try clear am
     try clear an
     obtain ⟨x3_2, x29_2, rfl, HA, HK2, HO_3, aa, ab, BK383, HB⟩ := hrel
     have hl3_2 := (Kd.R_reads' HO_3.out).1
     rw [hl3_2] at HO_3
     (try simp only [hl3_2])
     (try simp only [hl3_2] at BK383)
     (try simp only [hl3_2] at aa)
     (try simp only [hl3_2] at ab)
     cases gk with
     | zero => exact absurd HA.out (by simp [impl_tidy.l1])
     | succ k2 =>
      have H := HA.out
      clear HA
      simp only [impl_tidy.l1] at H
      by_cases c30 : x29_2 < (x3_1.length : Int)
      ·rw [if_pos c30] at H
       have c30b0 : decide (x29_2 < (x3_1.length : Int)) = true := decide_eq_true c30
       (try simp only [hl3_2] at c30b0)
       clear c30
       obtain ⟨c31, H⟩ := ifP H
       have c31b0 : decide (0 ≤ x29_2) = true := decide_eq_true c31
       clear c31
       obtain ⟨c32, H⟩ := ifP H
       have c32b0 : decide (x29_2 < (x3_2.length : Int)) = true := decide_eq_true c32
       (try simp only [hl3_2] at c32b0)
       clear c32
       replace H := Option.bind_eq_some_iff.mp H
       obtain ⟨t391, A330, H⟩ := H
       replace H : (impl_tidy.l2 k2 x3_2 x29_2 t391 (x3_1.length : Int) x29_2 (x3_2.length : Int) 0) = some r := H
       have A33 := Aside0.mk A330
       clear A330
       have H' := Aside0.mk H
       clear H
       have p389 : 0 ≤ (x29_2 : Int) := of_decide_eq_true z13_3
       have q389 : x29_2 < (x3_2.length : Int) := of_decide_eq_true z13_3
       obtain ⟨ad389, e389, hx389_0, hx389_1, hx389_2, hx389_3⟩ := at_T59 (Kd.R_reads' HO_3.out).2.2 x29_2 p389 q389
       cases e389
       replace p389 := eq_true p389
       replace q389 := eq_true q389
       go_wp2_with (first | ((with_reducible refine gate_dst (N := 7) rfl ?_); refine box_event ?hg (N := 7) ?hd (cs := #[.int .i64 0, .int .i64 0, .int .i64 0, .int .i64 0]) (t := 59) ?hr ?_; (case hd => rfl); (case hg => rfl); (case hr => first | (go_simp; done) | (go_simp; rfl)); intro gb390 hg w34 hbox hb; replace HO_3 := Aside0.mk (Kd.R_below (Kd.R_elderB z13_5 gb390 (Nat.le_of_eq hg.symm)) hb); replace aa := Aside0.mk (Kd.R_below z13_7 hb); replace ab := Aside0.mk (Kd.R_below z13_6 hb); have BK390 := Aside0.mk (hbox); have GW390 := Aside0.mk ((by rw [hg]; exact (below_size z13_9) : w.heap.size ≤ gb390)); have GE390 := Aside0.mk ((by rw [hg]; exact (below_size z13_9) : w.heap.size ≤ gb390)); replace HB := Aside0.mk (below_step z13_9 hb); have ah := Aside0.mk ((by rw [hg]; exact Nat.ne_of_lt (blk_lt (g := gb383) (o := .cells #[.slice Ao7 t377.length co7, v381] 54 (0, 0)) (zL13 BK383.out)) : gb383 ≠ gb390)); have aZ := Aside0.mk ((by rw [hg]; exact Nat.ne_of_gt (blk_lt (g := gb383) (o := .cells #[.slice Ao7 t377.length co7, v381] 54 (0, 0)) (zL13 BK383.out)) : gb390 ≠ gb383)); replace BK383 := Aside0.mk (blk_below (g := gb383) (o := .cells #[.slice Ao7 t377.length co7, v381] 54 (0, 0)) (zL13 BK383.out) hb); clear hb hbox hg; have hnb35 := aZ.out; have hnc35 := ah.out; have hcz36_0 : w34.cell? ⟨gb390, 0, none⟩ = some (.int .i64 0) := bA13 BK390 rfl; have hfz36_0 := blk_frozen BK390.out 0; have hcz37_1 : w34.cell? ⟨gb390, 1, none⟩ = some (.int .i64 0) := bA13 BK390 rfl; have hfz37_1 := blk_frozen BK390.out 1; have hcz38_2 : w34.cell? ⟨gb390, 2, none⟩ = some (.int .i64 0) := bA13 BK390 rfl; have hfz38_2 := blk_frozen BK390.out 2; have hcz39_3 : w34.cell? ⟨gb390, 3, none⟩ = some (.int .i64 0) := bA13 BK390 rfl; have hfz39_3 := blk_frozen BK390.out 3) | ((with_reducible refine gate_store (t := 59) (p := 7) rfl ?_); refine store_event (t := 59) (p := 7) (v := ?vo_w40) (w1 := ((((w34.setCell ⟨gb390, 0, none⟩ (.int .i64 ((rd_T59 x3_2 x29_2).f0))).setCell ⟨gb390, 1, none⟩ (.int .i64 ((rd_T59 x3_2 x29_2).f1))).setCell ⟨gb390, 2, none⟩ (.int .i64 ((rd_T59 x3_2 x29_2).f2))).setCell ⟨gb390, 3, none⟩ (.int .i64 ((rd_T59 x3_2 x29_2).f3)))) ?hg ?ho ?hn ?hr ?_; (case ho => rfl); (case hg => rfl); (case hn => rfl); (case hr => first | (go_simp; done) | (go_simp; rfl)); intro w40 hw; have n0_ : Aside0 (Kd.R k59 59 w40 w.heap.size (fun k_ => k_ ≠ gb390) (.slice (some ad389) x3_2.length co29) x3_2) := ⟨(by rw [hw]; exact (by (with_reducible repeat (first | apply Kd.R_alloc | apply Kd.R_drewN | apply Kd.R_drew)); exact Kd.R_mono (Kd.R_far (p := ⟨gb390, 3, none⟩) (Kd.R_far (p := ⟨gb390, 2, none⟩) (Kd.R_far (p := ⟨gb390, 1, none⟩) (Kd.R_far (p := ⟨gb390, 0, none⟩) (Kd.R_mono HO_3.out (fun k_ hk => (⟨hk, hk.2⟩ : _ ∧ k_ ≠ gb390))) (fun _ hk => hk.2) (.int .i64 ((rd_T59 x3_2 x29_2).f0))) (fun _ hk => hk.2) (.int .i64 ((rd_T59 x3_2 x29_2).f1))) (fun _ hk => hk.2) (.int .i64 ((rd_T59 x3_2 x29_2).f2))) (fun _ hk => hk.2) (.int .i64 ((rd_T59 x3_2 x29_2).f3))) (fun _ hk => hk.1.2)))⟩; have n1_ : Aside0 (Kd.R k77 77 w40 w.heap.size (fun _ => True) (.slice Ao7 t377.length co7) t377) := ⟨(by rw [hw]; exact (by (with_reducible repeat (first | apply Kd.R_alloc | apply Kd.R_drewN | apply Kd.R_drew)); exact Kd.R_mono (Kd.R_far (p := ⟨gb390, 3, none⟩) (Kd.R_far (p := ⟨gb390, 2, none⟩) (Kd.R_far (p := ⟨gb390, 1, none⟩) (Kd.R_far (p := ⟨gb390, 0, none⟩) (Kd.R_types aa.out BK390.out (by decide)) (fun _ hk => hk.2) (.int .i64 ((rd_T59 x3_2 x29_2).f0))) (fun _ hk => hk.2) (.int .i64 ((rd_T59 x3_2 x29_2).f1))) (fun _ hk => hk.2) (.int .i64 ((rd_T59 x3_2 x29_2).f2))) (fun _ hk => hk.2) (.int .i64 ((rd_T59 x3_2 x29_2).f3))) (fun _ hk => trivial)))⟩; have n2_ : Aside0 (Kd.R (Kd.int .i64) 3 w40 w.heap.size (fun _ => True) v381 t380) := ⟨(by rw [hw]; exact (by (with_reducible repeat (first | apply Kd.R_alloc | apply Kd.R_drewN | apply Kd.R_drew)); exact Kd.R_mono (Kd.R_far (p := ⟨gb390, 3, none⟩) (Kd.R_far (p := ⟨gb390, 2, none⟩) (Kd.R_far (p := ⟨gb390, 1, none⟩) (Kd.R_far (p := ⟨gb390, 0, none⟩) (Kd.R_types ab.out BK390.out (by decide)) (fun _ hk => hk.2) (.int .i64 ((rd_T59 x3_2 x29_2).f0))) (fun _ hk => hk.2) (.int .i64 ((rd_T59 x3_2 x29_2).f1))) (fun _ hk => hk.2) (.int .i64 ((rd_T59 x3_2 x29_2).f2))) (fun _ hk => hk.2) (.int .i64 ((rd_T59 x3_2 x29_2).f3))) (fun _ hk => trivial)))⟩; have n3_ : Aside0 (w40.heap[gb383]? = some (.cells #[.slice Ao7 t377.length co7, v381] 54 (0, 0))) := ⟨(by rw [hw]; exact (by (with_reducible repeat first|refine blk_drewN ?_ _|refine blk_drew ?_|refine blk_alloc ?_ _); refine blk_far ?_ ah.out _; (with_reducible repeat first|refine blk_drewN ?_ _|refine blk_drew ?_|refine blk_alloc ?_ _); refine blk_far ?_ ah.out _; (with_reducible repeat first|refine blk_drewN ?_ _|refine blk_drew ?_|refine blk_alloc ?_ _); refine blk_far ?_ ah.out _; (with_reducible repeat first|refine blk_drewN ?_ _|refine blk_drew ?_|refine blk_alloc ?_ _); refine blk_far ?_ ah.out _; (with_reducible repeat first|refine blk_drewN ?_ _|refine blk_drew ?_|refine blk_alloc ?_ _); exact BK383.out))⟩; have n4_ : Aside0 (w40.heap[gb390]? = some (.cells #[.int .i64 ((rd_T59 x3_2 x29_2).f0), .int .i64 ((rd_T59 x3_2 x29_2).f1), .int .i64 ((rd_T59 x3_2 x29_2).f2), .int .i64 ((rd_T59 x3_2 x29_2).f3)] 59 (0, 0))) := ⟨(by rw [hw]; exact (bZ BK390.out))⟩; have n5_ : Aside0 (Below w.heap.size w w40) := ⟨(by rw [hw]; exact z13_4)⟩; clear hw; clear HO_3; clear aa; clear ab; clear BK383; clear BK390; clear HB; have HO_3 := n0_; have aa := n1_; have ab := n2_; have BK383 := n3_; have BK390 := n4_; have HB := n5_; clear n0_ n1_ n2_ n3_ n4_ n5_; have hcz41_0 : w40.cell? ⟨gb390, 0, none⟩ = some (.int .i64 ((rd_T59 x3_2 x29_2).f0)) := bA13 BK390 rfl; have hcz41_1 : w40.cell? ⟨gb390, 1, none⟩ = some (.int .i64 ((rd_T59 x3_2 x29_2).f1)) := bA13 BK390 rfl; have hcz41_2 : w40.cell? ⟨gb390, 2, none⟩ = some (.int .i64 ((rd_T59 x3_2 x29_2).f2)) := bA13 BK390 rfl; have hcz41_3 : w40.cell? ⟨gb390, 3, none⟩ = some (.int .i64 ((rd_T59 x3_2 x29_2).f3)) := bA13 BK390 rfl; have hfz41_0 := blk_frozen BK390.out 0; have hfz41_1 := blk_frozen BK390.out 1; have hfz41_2 := blk_frozen BK390.out 2; have hfz41_3 := blk_frozen BK390.out 3) | ((with_reducible refine gate_callee (f := 72) rfl ?_); refine goesL_ (some 35) rfl rfl Try.func72 (by kernel_rfl) rfl #[.agg #[.int .i64 ((rd_T59 x3_2 x29_2).f0), .int .i64 ((rd_T59 x3_2 x29_2).f1), .int .i64 ((rd_T59 x3_2 x29_2).f2), .int .i64 ((rd_T59 x3_2 x29_2).f3)]] rfl z13_8 ?_; (with_reducible refine (impl_vector_lead.calls ((rd_T59 x3_2 x29_2).f0) ((rd_T59 x3_2 x29_2).f1) ((rd_T59 x3_2 x29_2).f2) ((rd_T59 x3_2 x29_2).f3) t391 _ A33.out).mono ?_); rintro e w42 ⟨rfl, hb⟩; refine ⟨_, rfl, ?_⟩; replace HO_3 := Aside0.mk (Kd.R_below z13_5 hb); replace aa := Aside0.mk (Kd.R_below z13_7 hb); replace ab := Aside0.mk (Kd.R_below z13_6 hb); replace BK383 := Aside0.mk (blk_below (g := gb383) (o := .cells #[.slice Ao7 t377.length co7, v381] 54 (0, 0)) (zL13 BK383.out) hb); replace BK390 := Aside0.mk (blk_below (g := gb390) (o := .cells #[.int .i64 ((rd_T59 x3_2 x29_2).f0), .int .i64 ((rd_T59 x3_2 x29_2).f1), .int .i64 ((rd_T59 x3_2 x29_2).f2), .int .i64 ((rd_T59 x3_2 x29_2).f3)] 59 (0, 0)) (zL13 BK390.out) hb); replace HB := Aside0.mk (below_step z13_4 hb); (try clear hb)))
       go_loopg [38] k2 (fun kq v38 w' => ∃ (x3_3 : List (S59)) (x38_3 : Int) (ad : Int) (ae : Int) (af : Int) (ag : Int), v38 = .int .i64 x38_3 ∧ Aside0 (impl_tidy.l2 kq x3_3 x29_2 t391 (x3_1.length : Int) x29_2 (x3_2.length : Int) x38_3 = some r) ∧ Aside0 (kq ≤ k2) ∧ Aside0 (Kd.R k59 59 w' w.heap.size (fun k_ => k_ ≠ gb390) (.slice (some ad389) x3_2.length co29) x3_3) ∧ Aside0 (Kd.R k77 77 w' w.heap.size (fun _ => True) (.slice Ao7 t377.length co7) t377) ∧ Aside0 (Kd.R (Kd.int .i64) 3 w' w.heap.size (fun _ => True) v381 t380) ∧ Aside0 (w'.heap[gb383]? = some (.cells #[(.slice Ao7 t377.length co7), v381] 54 (0, 0))) ∧ Aside0 (w'.heap[gb390]? = some (.cells #[.int .i64 ad, .int .i64 ae, .int .i64 af, .int .i64 ag] 59 (0, 0))) ∧ Aside0 (Below w.heap.size w w'))
       case atStart => exact ⟨(x3_2), (0), ((rd_T59 x3_2 x29_2).f0), ((rd_T59 x3_2 x29_2).f1), ((rd_T59 x3_2 x29_2).f2), ((rd_T59 x3_2 x29_2).f3), z13_12, H', ⟨Nat.le_refl _⟩, ⟨by (try simp only [hl3_2]); (with_reducible repeat (first | apply Kd.R_alloc | apply Kd.R_drewN | apply Kd.R_drew)); exact HO_3.out⟩, ⟨by (try simp only [hl3_2]); (with_reducible repeat (first | apply Kd.R_alloc | apply Kd.R_drewN | apply Kd.R_drew)); exact aa.out⟩, ⟨by (try simp only [hl3_2]); (with_reducible repeat (first | apply Kd.R_alloc | apply Kd.R_drewN | apply Kd.R_drew)); exact ab.out⟩, ⟨by (try simp only [hl3_2]); (with_reducible repeat first|refine blk_drewN ?_ _|refine blk_drew ?_|refine blk_alloc ?_ _); exact BK383.out⟩, ⟨by (try simp only [hl3_2]); (with_reducible repeat first|refine blk_drewN ?_ _|refine blk_drew ?_|refine blk_alloc ?_ _); exact BK390.out⟩, ⟨z13_4⟩⟩
       case round =>
        clear H'
        try clear c8
        try clear c8b0
        try clear c30
        try clear c30b0
        try clear c31
        try clear c31b0
        try clear c32
        try clear c32b0
        try clear hcz36_0
        try clear hcz37_1
        try clear hcz38_2
        try clear hcz39_3
        try clear hcz41_0 hcz41_1 hcz41_2 hcz41_3
        try clear am
        try clear hfz36_0
        try clear hfz37_1
        try clear hfz38_2
        try clear hfz39_3
        try clear hfz41_0 hfz41_1 hfz41_2 hfz41_3
        try clear an
        try clear hx389_0 hx389_1 hx389_2 hx389_3
        try clear p389
        try clear q389
        obtain ⟨x3_3, x38_3, ad, ae, af, ag, rfl, HA, HK3, HO_3, aa, ab, BK383, BK390, HB⟩ := hrel
        have hl3_3 := (Kd.R_reads' HO_3.out).1
        rw [hl3_3] at HO_3
        (try simp only [hl3_3])
        (try simp only [hl3_3] at BK383)
        (try simp only [hl3_3] at BK390)
        (try simp only [hl3_3] at aa)
        (try simp only [hl3_3] at ab)
        cases gk with
        | zero => exact absurd HA.out (by simp [impl_tidy.l2])
        | succ k3 =>
         have H := HA.out
         clear HA
         simp only [impl_tidy.l2] at H
         by_cases c43 : x38_3 < (x3_2.length : Int)
         ·rw [if_pos c43] at H
          have c43b0 : decide (x38_3 < (x3_2.length : Int)) = true := decide_eq_true c43
          (try simp only [hl3_2, hl3_3] at c43b0)
          clear c43
          by_cases c44 : x38_3 = x29_2
          ·rw [if_pos c44] at H
           have c44b0 : (x38_3 == x29_2) = true := beq_iff_eq.mpr c44
           have c44b1 : (x38_3 != x29_2) = false := bne_eq_false_iff_eq.mpr c44
           clear c44
           have H' := Aside0.mk H
           clear H
           go_wp2
           (try simp only [← hl3_3])
           go_roundg k3
           case measure => have := HK1.out; have := HK2.out; have := HK3.out; omega
           case rel => exact ⟨(x3_3), (wrap64 (x38_3 + 1)), (ad), (ae), (af), (ag), z13_12, H', ⟨z13_13⟩, ⟨by (try simp only [hl3_2]); (try simp only [hl3_3]); (with_reducible repeat (first | apply Kd.R_alloc | apply Kd.R_drewN | apply Kd.R_drew)); exact HO_3.out⟩, ⟨z13_15⟩, ⟨z13_16⟩, ⟨z13_14⟩, ⟨by (try simp only [hl3_2]); (try simp only [hl3_3]); (with_reducible repeat first|refine blk_drewN ?_ _|refine blk_drew ?_|refine blk_alloc ?_ _); exact BK390.out⟩, ⟨z13_4⟩⟩
          ·rw [if_neg c44] at H
           have c44b0 : (x38_3 == x29_2) = false := beq_eq_false_iff_ne.mpr c44
           have c44b1 : (x38_3 != x29_2) = true := bne_iff_ne.mpr c44
           obtain ⟨c45, H⟩ := ifP H
           have c45b0 : decide (0 ≤ x38_3) = true := decide_eq_true c45
           clear c45
           obtain ⟨c46, H⟩ := ifP H
           have c46b0 : decide (x38_3 < (x3_3.length : Int)) = true := decide_eq_true c46
           (try simp only [hl3_2, hl3_3] at c46b0)
           clear c46
           obtain ⟨c47, H⟩ := ifP H
           have c47b0 : decide (0 ≤ x29_2) = true := decide_eq_true c47
           clear c47
           obtain ⟨c48, H⟩ := ifP H
           have c48b0 : decide (x29_2 < (x3_3.length : Int)) = true := decide_eq_true c48
           (try simp only [hl3_2, hl3_3] at c48b0)
           clear c48
           by_cases c49 : t391 = 0
           ·rw [if_pos c49] at H
            subst c49
            replace H : ((impl_vector_times.f ((rd_T59 x3_3 x29_2).f0) ((rd_T59 x3_3 x29_2).f1) ((rd_T59 x3_3 x29_2).f2) ((rd_T59 x3_3 x29_2).f3) ((rd_T59 x3_3 x38_3).f0)).bind fun bt395 => ((impl_vector_minus.f ((rd_T59 x3_3 x38_3).f0) ((rd_T59 x3_3 x38_3).f1) ((rd_T59 x3_3 x38_3).f2) ((rd_T59 x3_3 x38_3).f3) bt395.1 bt395.2.1 bt395.2.2.1 bt395.2.2.2).bind fun bt399 => (impl_tidy.l2 k3 (x3_3.set (x38_3 : Int).toNat (⟨bt399.1, bt399.2.1, bt399.2.2.1, bt399.2.2.2⟩ : S59)) x29_2 (0 : Int) (x3_1.length : Int) x29_2 (x3_2.length : Int) (wrap64 (x38_3 + 1))))) = some r := H
            replace H := Option.bind_eq_some_iff.mp H
            obtain ⟨⟨t395, t396, t397, t398⟩, A500, H⟩ := H
            replace H : ((impl_vector_minus.f ((rd_T59 x3_3 x38_3).f0) ((rd_T59 x3_3 x38_3).f1) ((rd_T59 x3_3 x38_3).f2) ((rd_T59 x3_3 x38_3).f3) t395 t396 t397 t398).bind fun bt399 => (impl_tidy.l2 k3 (x3_3.set (x38_3 : Int).toNat (⟨bt399.1, bt399.2.1, bt399.2.2.1, bt399.2.2.2⟩ : S59)) x29_2 (0 : Int) (x3_1.length : Int) x29_2 (x3_2.length : Int) (wrap64 (x38_3 + 1)))) = some r := H
            have A50 := Aside0.mk A500
            clear A500
            replace H := Option.bind_eq_some_iff.mp H
            obtain ⟨⟨t399, t400, t401, t402⟩, A510, H⟩ := H
            replace H : (impl_tidy.l2 k3 (x3_3.set (x38_3 : Int).toNat (⟨t399, t400, t401, t402⟩ : S59)) x29_2 (0 : Int) (x3_1.length : Int) x29_2 (x3_2.length : Int) (wrap64 (x38_3 + 1))) = some r := H
            have A51 := Aside0.mk A510
            clear A510
            obtain ⟨y403, hy403⟩ : ∃ y_ : List (S59), y_ = (x3_3.set (x38_3 : Int).toNat (⟨t399, t400, t401, t402⟩ : S59)) := ⟨_, rfl⟩
            replace H : (impl_tidy.l2 k3 y403 x29_2 (0 : Int) (x3_1.length : Int) x29_2 (x3_2.length : Int) (wrap64 (x38_3 + 1))) = some r := by first | (rw [hy403]; with_reducible exact H) | (have H2_ := (Option.bind_some _ _).symm.trans H; rw [hy403]; with_reducible exact H2_) | (have H2_ := (Option.bind_some _ _).symm.trans H; with_reducible exact H2_) | with_reducible exact H | (rw [hy403]; exact H) | exact H
            have Ny403 := Aside0.mk hy403
            clear hy403
            have H' := Aside0.mk H
            clear H
            try go_wp2
            replace HO_3 := Aside0.mk (Kd.R_drew HO_3.out)
            replace aa := Aside0.mk (Kd.R_drew aa.out)
            replace ab := Aside0.mk (Kd.R_drew ab.out)
            replace BK383 := Aside0.mk (blk_drew BK383.out)
            replace BK390 := Aside0.mk (blk_drew BK390.out)
            replace HB := Aside0.mk (below_drew1 HB.out)
            have p392 : 0 ≤ (x38_3 : Int) := of_decide_eq_true z13_3
            have q392 : x38_3 < (x3_3.length : Int) := of_decide_eq_true z13_3
            obtain ⟨ad392, e392, hx392_0, hx392_1, hx392_2, hx392_3⟩ := at_T59 (Kd.R_reads' HO_3.out).2.2 x38_3 p392 q392
            obtain rfl : ad389 = ad392 := (by injection e392)
            replace p392 := eq_true p392
            replace q392 := eq_true q392
            have p393 : 0 ≤ (x29_2 : Int) := of_decide_eq_true z13_3
            have q393 : x29_2 < (x3_3.length : Int) := of_decide_eq_true z13_3
            obtain ⟨ad393, e393, hx393_0, hx393_1, hx393_2, hx393_3⟩ := at_T59 (Kd.R_reads' HO_3.out).2.2 x29_2 p393 q393
            obtain rfl : ad389 = ad393 := (by injection e393)
            replace p393 := eq_true p393
            replace q393 := eq_true q393
            have p394 : 0 ≤ (x38_3 : Int) := of_decide_eq_true z13_3
            have q394 : x38_3 < (x3_3.length : Int) := of_decide_eq_true z13_3
            obtain ⟨ad394, e394, hx394_0, hx394_1, hx394_2, hx394_3⟩ := at_T59 (Kd.R_reads' HO_3.out).2.2 x38_3 p394 q394
            obtain rfl : ad389 = ad394 := (by injection e394)
            replace p394 := eq_true p394
            replace q394 := eq_true q394
            refine start_ (n := 20) (S := fun w' => w'.cell? (ad389.add ((x38_3).toNat * 4)) = some (.int .i64 ((rd_T59 x3_3 x38_3).f0)) ∧ w'.cell? ⟨(ad389.add ((x38_3).toNat * 4)).block, (ad389.add ((x38_3).toNat * 4)).off + 1, none⟩ = some (.int .i64 ((rd_T59 x3_3 x38_3).f1)) ∧ w'.cell? ⟨(ad389.add ((x38_3).toNat * 4)).block, (ad389.add ((x38_3).toNat * 4)).off + 2, none⟩ = some (.int .i64 ((rd_T59 x3_3 x38_3).f2)) ∧ w'.cell? ⟨(ad389.add ((x38_3).toNat * 4)).block, (ad389.add ((x38_3).toNat * 4)).off + 3, none⟩ = some (.int .i64 ((rd_T59 x3_3 x38_3).f3)) ∧ w'.cell? (ad389.add ((x29_2).toNat * 4)) = some (.int .i64 ((rd_T59 x3_3 x29_2).f0)) ∧ w'.cell? ⟨(ad389.add ((x29_2).toNat * 4)).block, (ad389.add ((x29_2).toNat * 4)).off + 1, none⟩ = some (.int .i64 ((rd_T59 x3_3 x29_2).f1)) ∧ w'.cell? ⟨(ad389.add ((x29_2).toNat * 4)).block, (ad389.add ((x29_2).toNat * 4)).off + 2, none⟩ = some (.int .i64 ((rd_T59 x3_3 x29_2).f2)) ∧ w'.cell? ⟨(ad389.add ((x29_2).toNat * 4)).block, (ad389.add ((x29_2).toNat * 4)).off + 3, none⟩ = some (.int .i64 ((rd_T59 x3_3 x29_2).f3)) ∧ w'.cell? (ad389.add ((x38_3).toNat * 4)) = some (.int .i64 ((rd_T59 x3_3 x38_3).f0)) ∧ w'.cell? ⟨(ad389.add ((x38_3).toNat * 4)).block, (ad389.add ((x38_3).toNat * 4)).off + 1, none⟩ = some (.int .i64 ((rd_T59 x3_3 x38_3).f1)) ∧ w'.cell? ⟨(ad389.add ((x38_3).toNat * 4)).block, (ad389.add ((x38_3).toNat * 4)).off + 2, none⟩ = some (.int .i64 ((rd_T59 x3_3 x38_3).f2)) ∧ w'.cell? ⟨(ad389.add ((x38_3).toNat * 4)).block, (ad389.add ((x38_3).toNat * 4)).off + 3, none⟩ = some (.int .i64 ((rd_T59 x3_3 x38_3).f3))) (ds := [19]) #[false, false, false, false, false, false, false, false, false, false, false, false, false, false, false, false, false, false, false, false] (by kernel_rfl) rfl rfl ⟨hx392_0, hx392_1, hx392_2, hx392_3, hx393_0, hx393_1, hx393_2, hx393_3, hx394_0, hx394_1, hx394_2, hx394_3⟩ (fun hHeld => ?_); refine with_tabW impl_tidy.tab15 impl_tidy.bits15 (fun HT_ HW_ => ?_)
            generalize wr.drew = w53 at HO_3 aa ab BK383 BK390 HB hx392_0 hx392_1 hx392_2 hx392_3 hx393_0 hx393_1 hx393_2 hx393_3 hx394_0 hx394_1 hx394_2 hx394_3 hHeld ⊢
            refine pZ 0 HT_ ?_
            refine pZ 1 HT_ ?_
            refine pZ 2 HT_ ?_
            refine pZ 3 HT_ ?_
            refine pZ 4 HT_ ?_
            refine pZ 6 HT_ ?_
            refine pZ 7 HT_ ?_
            refine pZ 8 HT_ ?_
            refine pZ 10 HT_ ?_
            refine pZ 11 HT_ ?_
            refine pZ 12 HT_ ?_
            refine pZ 13 HT_ ?_
            refine pZ 14 HT_ ?_
            refine tZ 5 hHeld HT_ HW_ ?_
            refine tZ 9 hHeld HT_ HW_ ?_
            refine tZ 15 hHeld HT_ HW_ ?_
            refine oZ 16 HT_ (fun K hK => ?_)
            refine goes_ Try.func74 (by kernel_rfl) rfl #[.agg #[.int .i64 ((rd_T59 x3_3 x29_2).f0), .int .i64 ((rd_T59 x3_3 x29_2).f1), .int .i64 ((rd_T59 x3_3 x29_2).f2), .int .i64 ((rd_T59 x3_3 x29_2).f3)], .int .i64 ((rd_T59 x3_3 x38_3).f0)] (by rfl) rfl rfl z13_8 ?_
            with_reducible refine (impl_vector_times.calls ((rd_T59 x3_3 x29_2).f0) ((rd_T59 x3_3 x29_2).f1) ((rd_T59 x3_3 x29_2).f2) ((rd_T59 x3_3 x29_2).f3) ((rd_T59 x3_3 x38_3).f0) t395 t396 t397 t398 _ A50.out).mono ?_
            rintro e w54 ⟨rfl, hb⟩
            have HS0_ := (hb.cell (World.block_lt_of_cell? _ _ (hHeld.1))).trans (hHeld.1)
            have HS1_ := (hb.cell (World.block_lt_of_cell? _ _ (hHeld.2.1))).trans (hHeld.2.1)
            have HS2_ := (hb.cell (World.block_lt_of_cell? _ _ (hHeld.2.2.1))).trans (hHeld.2.2.1)
            have HS3_ := (hb.cell (World.block_lt_of_cell? _ _ (hHeld.2.2.2.1))).trans (hHeld.2.2.2.1)
            have HS4_ := (hb.cell (World.block_lt_of_cell? _ _ (hHeld.2.2.2.2.1))).trans (hHeld.2.2.2.2.1)
            have HS5_ := (hb.cell (World.block_lt_of_cell? _ _ (hHeld.2.2.2.2.2.1))).trans (hHeld.2.2.2.2.2.1)
            have HS6_ := (hb.cell (World.block_lt_of_cell? _ _ (hHeld.2.2.2.2.2.2.1))).trans (hHeld.2.2.2.2.2.2.1)
            have HS7_ := (hb.cell (World.block_lt_of_cell? _ _ (hHeld.2.2.2.2.2.2.2.1))).trans (hHeld.2.2.2.2.2.2.2.1)
            have HS8_ := (hb.cell (World.block_lt_of_cell? _ _ (hHeld.2.2.2.2.2.2.2.2.1))).trans (hHeld.2.2.2.2.2.2.2.2.1)
            have HS9_ := (hb.cell (World.block_lt_of_cell? _ _ (hHeld.2.2.2.2.2.2.2.2.2.1))).trans (hHeld.2.2.2.2.2.2.2.2.2.1)
            have HS10_ := (hb.cell (World.block_lt_of_cell? _ _ (hHeld.2.2.2.2.2.2.2.2.2.2.1))).trans (hHeld.2.2.2.2.2.2.2.2.2.2.1)
            have HS11_ := (hb.cell (World.block_lt_of_cell? _ _ (hHeld.2.2.2.2.2.2.2.2.2.2.2))).trans (hHeld.2.2.2.2.2.2.2.2.2.2.2)
            refine ⟨_, rfl, ?_⟩
            replace HO_3 := Aside0.mk (Kd.R_below z13_5 hb)
            replace aa := Aside0.mk (Kd.R_below z13_7 hb)
            replace ab := Aside0.mk (Kd.R_below z13_6 hb)
            replace BK383 := Aside0.mk (blk_below (g := gb383) (o := .cells #[.slice Ao7 t377.length co7, v381] 54 (0, 0)) (zL13 BK383.out) hb)
            replace BK390 := Aside0.mk (blk_below (g := gb390) (o := .cells #[.int .i64 ad, .int .i64 ae, .int .i64 af, .int .i64 ag] 59 (0, 0)) (zL13 BK390.out) hb)
            replace HB := Aside0.mk (below_step z13_4 hb)
            (try clear hb)
            (try clear hb2)
            (try clear hk)
            (try clear hi)
            refine hK.out _ _ ⟨HS0_, HS1_, HS2_, HS3_, HS4_, HS5_, HS6_, HS7_, HS8_, HS9_, HS10_, HS11_⟩ (fun hHeld => ?_)
            clear hK K
            refine nZ ?_
            refine oZ 17 HT_ (fun K hK => ?_)
            refine goes_ Try.func82 (by kernel_rfl) rfl #[.agg #[.int .i64 ((rd_T59 x3_3 x38_3).f0), .int .i64 ((rd_T59 x3_3 x38_3).f1), .int .i64 ((rd_T59 x3_3 x38_3).f2), .int .i64 ((rd_T59 x3_3 x38_3).f3)], .agg #[.int .i64 t395, .int .i64 t396, .int .i64 t397, .int .i64 t398]] (by rfl) rfl rfl z13_8 ?_
            with_reducible refine (impl_vector_minus.calls ((rd_T59 x3_3 x38_3).f0) ((rd_T59 x3_3 x38_3).f1) ((rd_T59 x3_3 x38_3).f2) ((rd_T59 x3_3 x38_3).f3) t395 t396 t397 t398 t399 t400 t401 t402 _ A51.out).mono ?_
            rintro e w55 ⟨rfl, hb⟩
            have HS0_ := (hb.cell (World.block_lt_of_cell? _ _ (hHeld.1))).trans (hHeld.1)
            have HS1_ := (hb.cell (World.block_lt_of_cell? _ _ (hHeld.2.1))).trans (hHeld.2.1)
            have HS2_ := (hb.cell (World.block_lt_of_cell? _ _ (hHeld.2.2.1))).trans (hHeld.2.2.1)
            have HS3_ := (hb.cell (World.block_lt_of_cell? _ _ (hHeld.2.2.2.1))).trans (hHeld.2.2.2.1)
            have HS4_ := (hb.cell (World.block_lt_of_cell? _ _ (hHeld.2.2.2.2.1))).trans (hHeld.2.2.2.2.1)
            have HS5_ := (hb.cell (World.block_lt_of_cell? _ _ (hHeld.2.2.2.2.2.1))).trans (hHeld.2.2.2.2.2.1)
            have HS6_ := (hb.cell (World.block_lt_of_cell? _ _ (hHeld.2.2.2.2.2.2.1))).trans (hHeld.2.2.2.2.2.2.1)
            have HS7_ := (hb.cell (World.block_lt_of_cell? _ _ (hHeld.2.2.2.2.2.2.2.1))).trans (hHeld.2.2.2.2.2.2.2.1)
            have HS8_ := (hb.cell (World.block_lt_of_cell? _ _ (hHeld.2.2.2.2.2.2.2.2.1))).trans (hHeld.2.2.2.2.2.2.2.2.1)
            have HS9_ := (hb.cell (World.block_lt_of_cell? _ _ (hHeld.2.2.2.2.2.2.2.2.2.1))).trans (hHeld.2.2.2.2.2.2.2.2.2.1)
            have HS10_ := (hb.cell (World.block_lt_of_cell? _ _ (hHeld.2.2.2.2.2.2.2.2.2.2.1))).trans (hHeld.2.2.2.2.2.2.2.2.2.2.1)
            have HS11_ := (hb.cell (World.block_lt_of_cell? _ _ (hHeld.2.2.2.2.2.2.2.2.2.2.2))).trans (hHeld.2.2.2.2.2.2.2.2.2.2.2)
            refine ⟨_, rfl, ?_⟩
            replace HO_3 := Aside0.mk (Kd.R_below z13_5 hb)
            replace aa := Aside0.mk (Kd.R_below z13_7 hb)
            replace ab := Aside0.mk (Kd.R_below z13_6 hb)
            replace BK383 := Aside0.mk (blk_below (g := gb383) (o := .cells #[.slice Ao7 t377.length co7, v381] 54 (0, 0)) (zL13 BK383.out) hb)
            replace BK390 := Aside0.mk (blk_below (g := gb390) (o := .cells #[.int .i64 ad, .int .i64 ae, .int .i64 af, .int .i64 ag] 59 (0, 0)) (zL13 BK390.out) hb)
            replace HB := Aside0.mk (below_step z13_4 hb)
            (try clear hb)
            (try clear hb2)
            (try clear hk)
            (try clear hi)
            have p52 : 0 ≤ (x38_3 : Int) := of_decide_eq_true z13_3
            have q52 : (x38_3 : Int) < ((x3_3.length : Int) : Int) := of_decide_eq_true z13_3
            obtain ⟨go52, co52, eo52, gb52, gl52, cl52, HG52⟩ := Kd.R_form HO_3.out (by omega)
            (first | cases eo52 | (injection eo52 with ea_ en_ ec_; (first | subst ea_ | (injection ea_ with ea_; subst ea_)); subst ec_; clear en_))
            have GB52 := Aside0.mk gb52
            have GG52 := Aside0.mk HG52
            clear gb52 gl52 HG52
            (first | simp only [add_plain] at hx389_0 | skip)
            (first | simp only [add_plain] at hx389_1 | skip)
            (first | simp only [add_plain] at hx389_2 | skip)
            (first | simp only [add_plain] at hx389_3 | skip)
            (first | simp only [add_plain] at hx392_0 | skip)
            (first | simp only [add_plain] at hx392_1 | skip)
            (first | simp only [add_plain] at hx392_2 | skip)
            (first | simp only [add_plain] at hx392_3 | skip)
            (first | simp only [add_plain] at hx393_0 | skip)
            (first | simp only [add_plain] at hx393_1 | skip)
            (first | simp only [add_plain] at hx393_2 | skip)
            (first | simp only [add_plain] at hx393_3 | skip)
            (first | simp only [add_plain] at hx394_0 | skip)
            (first | simp only [add_plain] at hx394_1 | skip)
            (first | simp only [add_plain] at hx394_2 | skip)
            (first | simp only [add_plain] at hx394_3 | skip)
            obtain ⟨ce52, hcl52, hM52, hcc52, hfr52⟩ := Kd.R_elem HO_3.out z59 (x38_3 : Int) p52 q52
            obtain rfl := k59_openM hM52
            have hx52_0 : World.cell? _ ⟨go52, (x38_3 : Int).toNat * 4, none⟩ = some (.int .i64 ((rd_T59 x3_3 x38_3).f0)) := hcc52 0 _ rfl
            have hx52_1 : World.cell? _ ⟨go52, (x38_3 : Int).toNat * 4 + 1, none⟩ = some (.int .i64 ((rd_T59 x3_3 x38_3).f1)) := hcc52 1 _ rfl
            have hx52_2 : World.cell? _ ⟨go52, (x38_3 : Int).toNat * 4 + 2, none⟩ = some (.int .i64 ((rd_T59 x3_3 x38_3).f2)) := hcc52 2 _ rfl
            have hx52_3 : World.cell? _ ⟨go52, (x38_3 : Int).toNat * 4 + 3, none⟩ = some (.int .i64 ((rd_T59 x3_3 x38_3).f3)) := hcc52 3 _ rfl
            have hf52_0 : World.frozen? _ ⟨go52, (x38_3 : Int).toNat * 4, none⟩ = false := hfr52 0
            have hf52_1 : World.frozen? _ ⟨go52, (x38_3 : Int).toNat * 4 + 1, none⟩ = false := hfr52 1
            have hf52_2 : World.frozen? _ ⟨go52, (x38_3 : Int).toNat * 4 + 2, none⟩ = false := hfr52 2
            have hf52_3 : World.frozen? _ ⟨go52, (x38_3 : Int).toNat * 4 + 3, none⟩ = false := hfr52 3
            (try clear hcl52); (try clear hcc52); (try clear hfr52); (try clear hM52)
            replace p52 := eq_true p52
            replace q52 := eq_true q52
            obtain ⟨ce56, hcl56, hM56, hcc56, hfr56⟩ := Kd.R_elem HO_3.out z59 (x38_3 : Int) (of_decide_eq_true z13_3) (by have h_ : (x38_3 : Int) < ((x3_3.length : Int) : Int) := of_decide_eq_true z13_3; first | exact h_ | (have e_ := (Kd.R_reads' HO_3.out).1; omega) | simpa using h_)
            obtain rfl := k59_openM hM56
            have HP56 := (Kd.R_seg HO_3.out (x38_3 : Int) (of_decide_eq_true z13_3) (by have h_ : (x38_3 : Int) < ((x3_3.length : Int) : Int) := of_decide_eq_true z13_3; first | exact h_ | (have e_ := (Kd.R_reads' HO_3.out).1; omega) | simpa using h_) (seg := [.int .i64 t399, .int .i64 t400, .int .i64 t401, .int .i64 t402]) (j := 0) hcl56 hcc56 (show 4 ≤ 4 from by decide) (x' := (⟨t399, t400, t401, t402⟩ : S59)) (k59_mkM _ _ _ (⟨t399, t400, t401, t402⟩ : S59) ) (fun _ hk => hk)).1
            rw [← Ny403.out] at HP56
            have HQ56 := Aside0.mk HP56
            (try clear hcl56); (try clear hcc56); (try clear hfr56); (try clear hM56); (try clear HP56)
            refine hK.out _ _ ⟨HS0_, HS1_, HS2_, HS3_, HS4_, HS5_, HS6_, HS7_, HS8_, HS9_, HS10_, HS11_⟩ (fun hHeld => ?_)
            clear hK K
            refine nZ ?_
            refine pZ 18 HT_ ?_
            refine lZ 19 HT_ (fun K hK => ?_)
            refine skip_ (w1 := ?_) (by rfl) rfl ?_ ?_
            rotate_left
            ·go_simp
             rfl
            refine hK.out _ _ ?_
            clear hK K
            refine done_ (done_of HT_.out (by kernel_rfl)) ?_
            try go_wp2
            (try simp only [← hl3_3])
            have hab_ : (⟨go52, (x29_2 : Int).toNat * 4, none⟩ : Addr) = (⟨go52, 0, none⟩ : Addr).add ((x29_2 : Int).toNat * 4) := (add_plain _ _).symm
            (try simp only [hab_])
            clear hab_
            go_roundg k3
            case measure => have := HK1.out; have := HK2.out; have := HK3.out; omega
            case rel => exact ⟨(y403), (wrap64 (x38_3 + 1)), (ad), (ae), (af), (ag), z13_12, H', ⟨z13_13⟩, ⟨by (try simp only [hl3_2]); (try simp only [hl3_3]); (with_reducible repeat (first | apply Kd.R_alloc | apply Kd.R_drewN | apply Kd.R_drew)); exact HQ56.out⟩, ⟨by (try simp only [hl3_2]); (try simp only [hl3_3]); (with_reducible repeat (first | apply Kd.R_alloc | apply Kd.R_drewN | apply Kd.R_drew)); exact Kd.R_mono (Kd.R_far (p := ⟨go52, (x38_3 : Int).toNat * 4 + 3, none⟩) (Kd.R_far (p := ⟨go52, (x38_3 : Int).toNat * 4 + 2, none⟩) (Kd.R_far (p := ⟨go52, (x38_3 : Int).toNat * 4 + 1, none⟩) (Kd.R_far (p := ⟨go52, (x38_3 : Int).toNat * 4, none⟩) (Kd.R_types aa.out GG52.out (by decide)) (fun _ hk => hk.2) (.int .i64 t399)) (fun _ hk => hk.2) (.int .i64 t400)) (fun _ hk => hk.2) (.int .i64 t401)) (fun _ hk => hk.2) (.int .i64 t402)) (fun _ hk => trivial)⟩, ⟨by (try simp only [hl3_2]); (try simp only [hl3_3]); (with_reducible repeat (first | apply Kd.R_alloc | apply Kd.R_drewN | apply Kd.R_drew)); exact Kd.R_mono (Kd.R_far (p := ⟨go52, (x38_3 : Int).toNat * 4 + 3, none⟩) (Kd.R_far (p := ⟨go52, (x38_3 : Int).toNat * 4 + 2, none⟩) (Kd.R_far (p := ⟨go52, (x38_3 : Int).toNat * 4 + 1, none⟩) (Kd.R_far (p := ⟨go52, (x38_3 : Int).toNat * 4, none⟩) (Kd.R_types ab.out GG52.out (by decide)) (fun _ hk => hk.2) (.int .i64 t399)) (fun _ hk => hk.2) (.int .i64 t400)) (fun _ hk => hk.2) (.int .i64 t401)) (fun _ hk => hk.2) (.int .i64 t402)) (fun _ hk => trivial)⟩, ⟨z13_1⟩, ⟨z13_2⟩, ⟨by repeat (first | (with_reducible first | exact HB.out | apply below_alloc | apply pw_below_drewN | apply below_drew1 | refine below_set ?_ GB52.out | refine below_set ?_ GB52.out | refine below_set ?_ GB52.out | refine below_set ?_ GB52.out | refine below_set ?_ GE383.out | refine below_set ?_ GE390.out) | exact HB.out)⟩⟩
           ·rw [if_neg c49] at H
            clear c49
            by_cases c57 : t391 = 1
            ·rw [if_pos c57] at H
             subst c57
             replace H : ((impl_vector_times.f ((rd_T59 x3_3 x29_2).f0) ((rd_T59 x3_3 x29_2).f1) ((rd_T59 x3_3 x29_2).f2) ((rd_T59 x3_3 x29_2).f3) ((rd_T59 x3_3 x38_3).f1)).bind fun bt404 => ((impl_vector_minus.f ((rd_T59 x3_3 x38_3).f0) ((rd_T59 x3_3 x38_3).f1) ((rd_T59 x3_3 x38_3).f2) ((rd_T59 x3_3 x38_3).f3) bt404.1 bt404.2.1 bt404.2.2.1 bt404.2.2.2).bind fun bt408 => (impl_tidy.l2 k3 (x3_3.set (x38_3 : Int).toNat (⟨bt408.1, bt408.2.1, bt408.2.2.1, bt408.2.2.2⟩ : S59)) x29_2 (1 : Int) (x3_1.length : Int) x29_2 (x3_2.length : Int) (wrap64 (x38_3 + 1))))) = some r := H
             replace H := Option.bind_eq_some_iff.mp H
             obtain ⟨⟨t404, t405, t406, t407⟩, A580, H⟩ := H
             replace H : ((impl_vector_minus.f ((rd_T59 x3_3 x38_3).f0) ((rd_T59 x3_3 x38_3).f1) ((rd_T59 x3_3 x38_3).f2) ((rd_T59 x3_3 x38_3).f3) t404 t405 t406 t407).bind fun bt408 => (impl_tidy.l2 k3 (x3_3.set (x38_3 : Int).toNat (⟨bt408.1, bt408.2.1, bt408.2.2.1, bt408.2.2.2⟩ : S59)) x29_2 (1 : Int) (x3_1.length : Int) x29_2 (x3_2.length : Int) (wrap64 (x38_3 + 1)))) = some r := H
             have A58 := Aside0.mk A580
             clear A580
             replace H := Option.bind_eq_some_iff.mp H
             obtain ⟨⟨t408, t409, t410, t411⟩, A590, H⟩ := H
             replace H : (impl_tidy.l2 k3 (x3_3.set (x38_3 : Int).toNat (⟨t408, t409, t410, t411⟩ : S59)) x29_2 (1 : Int) (x3_1.length : Int) x29_2 (x3_2.length : Int) (wrap64 (x38_3 + 1))) = some r := H
             have A59 := Aside0.mk A590
             clear A590
             obtain ⟨y412, hy412⟩ : ∃ y_ : List (S59), y_ = (x3_3.set (x38_3 : Int).toNat (⟨t408, t409, t410, t411⟩ : S59)) := ⟨_, rfl⟩
             replace H : (impl_tidy.l2 k3 y412 x29_2 (1 : Int) (x3_1.length : Int) x29_2 (x3_2.length : Int) (wrap64 (x38_3 + 1))) = some r := by first | (rw [hy412]; with_reducible exact H) | (have H2_ := (Option.bind_some _ _).symm.trans H; rw [hy412]; with_reducible exact H2_) | (have H2_ := (Option.bind_some _ _).symm.trans H; with_reducible exact H2_) | with_reducible exact H | (rw [hy412]; exact H) | exact H
             have Ny412 := Aside0.mk hy412
             clear hy412
             have H' := Aside0.mk H
             clear H
             try go_wp2
             replace HO_3 := Aside0.mk (Kd.R_drew HO_3.out)
             replace aa := Aside0.mk (Kd.R_drew aa.out)
             replace ab := Aside0.mk (Kd.R_drew ab.out)
             replace BK383 := Aside0.mk (blk_drew BK383.out)
             replace BK390 := Aside0.mk (blk_drew BK390.out)
             replace HB := Aside0.mk (below_drew1 HB.out)
             have p392 : 0 ≤ (x38_3 : Int) := of_decide_eq_true z13_3
             have q392 : x38_3 < (x3_3.length : Int) := of_decide_eq_true z13_3
             obtain ⟨ad392, e392, hx392_0, hx392_1, hx392_2, hx392_3⟩ := at_T59 (Kd.R_reads' HO_3.out).2.2 x38_3 p392 q392
             obtain rfl : ad389 = ad392 := (by injection e392)
             replace p392 := eq_true p392
             replace q392 := eq_true q392
             have p393 : 0 ≤ (x29_2 : Int) := of_decide_eq_true z13_3
             have q393 : x29_2 < (x3_3.length : Int) := of_decide_eq_true z13_3
             obtain ⟨ad393, e393, hx393_0, hx393_1, hx393_2, hx393_3⟩ := at_T59 (Kd.R_reads' HO_3.out).2.2 x29_2 p393 q393
             obtain rfl : ad389 = ad393 := (by injection e393)
             replace p393 := eq_true p393
             replace q393 := eq_true q393
             have p394 : 0 ≤ (x38_3 : Int) := of_decide_eq_true z13_3
             have q394 : x38_3 < (x3_3.length : Int) := of_decide_eq_true z13_3
             obtain ⟨ad394, e394, hx394_0, hx394_1, hx394_2, hx394_3⟩ := at_T59 (Kd.R_reads' HO_3.out).2.2 x38_3 p394 q394
             obtain rfl : ad389 = ad394 := (by injection e394)
             replace p394 := eq_true p394
             replace q394 := eq_true q394
             refine start_ (n := 20) (S := fun w' => w'.cell? (ad389.add ((x38_3).toNat * 4)) = some (.int .i64 ((rd_T59 x3_3 x38_3).f0)) ∧ w'.cell? ⟨(ad389.add ((x38_3).toNat * 4)).block, (ad389.add ((x38_3).toNat * 4)).off + 1, none⟩ = some (.int .i64 ((rd_T59 x3_3 x38_3).f1)) ∧ w'.cell? ⟨(ad389.add ((x38_3).toNat * 4)).block, (ad389.add ((x38_3).toNat * 4)).off + 2, none⟩ = some (.int .i64 ((rd_T59 x3_3 x38_3).f2)) ∧ w'.cell? ⟨(ad389.add ((x38_3).toNat * 4)).block, (ad389.add ((x38_3).toNat * 4)).off + 3, none⟩ = some (.int .i64 ((rd_T59 x3_3 x38_3).f3)) ∧ w'.cell? (ad389.add ((x29_2).toNat * 4)) = some (.int .i64 ((rd_T59 x3_3 x29_2).f0)) ∧ w'.cell? ⟨(ad389.add ((x29_2).toNat * 4)).block, (ad389.add ((x29_2).toNat * 4)).off + 1, none⟩ = some (.int .i64 ((rd_T59 x3_3 x29_2).f1)) ∧ w'.cell? ⟨(ad389.add ((x29_2).toNat * 4)).block, (ad389.add ((x29_2).toNat * 4)).off + 2, none⟩ = some (.int .i64 ((rd_T59 x3_3 x29_2).f2)) ∧ w'.cell? ⟨(ad389.add ((x29_2).toNat * 4)).block, (ad389.add ((x29_2).toNat * 4)).off + 3, none⟩ = some (.int .i64 ((rd_T59 x3_3 x29_2).f3)) ∧ w'.cell? (ad389.add ((x38_3).toNat * 4)) = some (.int .i64 ((rd_T59 x3_3 x38_3).f0)) ∧ w'.cell? ⟨(ad389.add ((x38_3).toNat * 4)).block, (ad389.add ((x38_3).toNat * 4)).off + 1, none⟩ = some (.int .i64 ((rd_T59 x3_3 x38_3).f1)) ∧ w'.cell? ⟨(ad389.add ((x38_3).toNat * 4)).block, (ad389.add ((x38_3).toNat * 4)).off + 2, none⟩ = some (.int .i64 ((rd_T59 x3_3 x38_3).f2)) ∧ w'.cell? ⟨(ad389.add ((x38_3).toNat * 4)).block, (ad389.add ((x38_3).toNat * 4)).off + 3, none⟩ = some (.int .i64 ((rd_T59 x3_3 x38_3).f3))) (ds := [19]) #[false, false, false, false, false, false, false, false, false, false, false, false, false, false, false, false, false, false, false, false] (by kernel_rfl) rfl rfl ⟨hx392_0, hx392_1, hx392_2, hx392_3, hx393_0, hx393_1, hx393_2, hx393_3, hx394_0, hx394_1, hx394_2, hx394_3⟩ (fun hHeld => ?_); refine with_tabW impl_tidy.tab15 impl_tidy.bits15 (fun HT_ HW_ => ?_)
             generalize wr.drew = w61 at HO_3 aa ab BK383 BK390 HB hx392_0 hx392_1 hx392_2 hx392_3 hx393_0 hx393_1 hx393_2 hx393_3 hx394_0 hx394_1 hx394_2 hx394_3 hHeld ⊢
             refine pZ 0 HT_ ?_
             refine pZ 1 HT_ ?_
             refine pZ 2 HT_ ?_
             refine pZ 3 HT_ ?_
             refine pZ 4 HT_ ?_
             refine pZ 6 HT_ ?_
             refine pZ 7 HT_ ?_
             refine pZ 8 HT_ ?_
             refine pZ 10 HT_ ?_
             refine pZ 11 HT_ ?_
             refine pZ 12 HT_ ?_
             refine pZ 13 HT_ ?_
             refine pZ 14 HT_ ?_
             refine tZ 5 hHeld HT_ HW_ ?_
             refine tZ 9 hHeld HT_ HW_ ?_
             refine tZ 15 hHeld HT_ HW_ ?_
             refine oZ 16 HT_ (fun K hK => ?_)
             refine goes_ Try.func74 (by kernel_rfl) rfl #[.agg #[.int .i64 ((rd_T59 x3_3 x29_2).f0), .int .i64 ((rd_T59 x3_3 x29_2).f1), .int .i64 ((rd_T59 x3_3 x29_2).f2), .int .i64 ((rd_T59 x3_3 x29_2).f3)], .int .i64 ((rd_T59 x3_3 x38_3).f1)] (by rfl) rfl rfl z13_8 ?_
             with_reducible refine (impl_vector_times.calls ((rd_T59 x3_3 x29_2).f0) ((rd_T59 x3_3 x29_2).f1) ((rd_T59 x3_3 x29_2).f2) ((rd_T59 x3_3 x29_2).f3) ((rd_T59 x3_3 x38_3).f1) t404 t405 t406 t407 _ A58.out).mono ?_
             rintro e w62 ⟨rfl, hb⟩
             have HS0_ := (hb.cell (World.block_lt_of_cell? _ _ (hHeld.1))).trans (hHeld.1)
             have HS1_ := (hb.cell (World.block_lt_of_cell? _ _ (hHeld.2.1))).trans (hHeld.2.1)
             have HS2_ := (hb.cell (World.block_lt_of_cell? _ _ (hHeld.2.2.1))).trans (hHeld.2.2.1)
             have HS3_ := (hb.cell (World.block_lt_of_cell? _ _ (hHeld.2.2.2.1))).trans (hHeld.2.2.2.1)
             have HS4_ := (hb.cell (World.block_lt_of_cell? _ _ (hHeld.2.2.2.2.1))).trans (hHeld.2.2.2.2.1)
             have HS5_ := (hb.cell (World.block_lt_of_cell? _ _ (hHeld.2.2.2.2.2.1))).trans (hHeld.2.2.2.2.2.1)
             have HS6_ := (hb.cell (World.block_lt_of_cell? _ _ (hHeld.2.2.2.2.2.2.1))).trans (hHeld.2.2.2.2.2.2.1)
             have HS7_ := (hb.cell (World.block_lt_of_cell? _ _ (hHeld.2.2.2.2.2.2.2.1))).trans (hHeld.2.2.2.2.2.2.2.1)
             have HS8_ := (hb.cell (World.block_lt_of_cell? _ _ (hHeld.2.2.2.2.2.2.2.2.1))).trans (hHeld.2.2.2.2.2.2.2.2.1)
             have HS9_ := (hb.cell (World.block_lt_of_cell? _ _ (hHeld.2.2.2.2.2.2.2.2.2.1))).trans (hHeld.2.2.2.2.2.2.2.2.2.1)
             have HS10_ := (hb.cell (World.block_lt_of_cell? _ _ (hHeld.2.2.2.2.2.2.2.2.2.2.1))).trans (hHeld.2.2.2.2.2.2.2.2.2.2.1)
             have HS11_ := (hb.cell (World.block_lt_of_cell? _ _ (hHeld.2.2.2.2.2.2.2.2.2.2.2))).trans (hHeld.2.2.2.2.2.2.2.2.2.2.2)
             refine ⟨_, rfl, ?_⟩
             replace HO_3 := Aside0.mk (Kd.R_below z13_5 hb)
             replace aa := Aside0.mk (Kd.R_below z13_7 hb)
             replace ab := Aside0.mk (Kd.R_below z13_6 hb)
             replace BK383 := Aside0.mk (blk_below (g := gb383) (o := .cells #[.slice Ao7 t377.length co7, v381] 54 (0, 0)) (zL13 BK383.out) hb)
             replace BK390 := Aside0.mk (blk_below (g := gb390) (o := .cells #[.int .i64 ad, .int .i64 ae, .int .i64 af, .int .i64 ag] 59 (0, 0)) (zL13 BK390.out) hb)
             replace HB := Aside0.mk (below_step z13_4 hb)
             (try clear hb)
             (try clear hb2)
             (try clear hk)
             (try clear hi)
             refine hK.out _ _ ⟨HS0_, HS1_, HS2_, HS3_, HS4_, HS5_, HS6_, HS7_, HS8_, HS9_, HS10_, HS11_⟩ (fun hHeld => ?_)
             clear hK K
             refine nZ ?_
             refine oZ 17 HT_ (fun K hK => ?_)
             refine goes_ Try.func82 (by kernel_rfl) rfl #[.agg #[.int .i64 ((rd_T59 x3_3 x38_3).f0), .int .i64 ((rd_T59 x3_3 x38_3).f1), .int .i64 ((rd_T59 x3_3 x38_3).f2), .int .i64 ((rd_T59 x3_3 x38_3).f3)], .agg #[.int .i64 t404, .int .i64 t405, .int .i64 t406, .int .i64 t407]] (by rfl) rfl rfl z13_8 ?_
             with_reducible refine (impl_vector_minus.calls ((rd_T59 x3_3 x38_3).f0) ((rd_T59 x3_3 x38_3).f1) ((rd_T59 x3_3 x38_3).f2) ((rd_T59 x3_3 x38_3).f3) t404 t405 t406 t407 t408 t409 t410 t411 _ A59.out).mono ?_
             rintro e w63 ⟨rfl, hb⟩
             have HS0_ := (hb.cell (World.block_lt_of_cell? _ _ (hHeld.1))).trans (hHeld.1)
             have HS1_ := (hb.cell (World.block_lt_of_cell? _ _ (hHeld.2.1))).trans (hHeld.2.1)
             have HS2_ := (hb.cell (World.block_lt_of_cell? _ _ (hHeld.2.2.1))).trans (hHeld.2.2.1)
             have HS3_ := (hb.cell (World.block_lt_of_cell? _ _ (hHeld.2.2.2.1))).trans (hHeld.2.2.2.1)
             have HS4_ := (hb.cell (World.block_lt_of_cell? _ _ (hHeld.2.2.2.2.1))).trans (hHeld.2.2.2.2.1)
             have HS5_ := (hb.cell (World.block_lt_of_cell? _ _ (hHeld.2.2.2.2.2.1))).trans (hHeld.2.2.2.2.2.1)
             have HS6_ := (hb.cell (World.block_lt_of_cell? _ _ (hHeld.2.2.2.2.2.2.1))).trans (hHeld.2.2.2.2.2.2.1)
             have HS7_ := (hb.cell (World.block_lt_of_cell? _ _ (hHeld.2.2.2.2.2.2.2.1))).trans (hHeld.2.2.2.2.2.2.2.1)
             have HS8_ := (hb.cell (World.block_lt_of_cell? _ _ (hHeld.2.2.2.2.2.2.2.2.1))).trans (hHeld.2.2.2.2.2.2.2.2.1)
             have HS9_ := (hb.cell (World.block_lt_of_cell? _ _ (hHeld.2.2.2.2.2.2.2.2.2.1))).trans (hHeld.2.2.2.2.2.2.2.2.2.1)
             have HS10_ := (hb.cell (World.block_lt_of_cell? _ _ (hHeld.2.2.2.2.2.2.2.2.2.2.1))).trans (hHeld.2.2.2.2.2.2.2.2.2.2.1)
             have HS11_ := (hb.cell (World.block_lt_of_cell? _ _ (hHeld.2.2.2.2.2.2.2.2.2.2.2))).trans (hHeld.2.2.2.2.2.2.2.2.2.2.2)
             refine ⟨_, rfl, ?_⟩
             replace HO_3 := Aside0.mk (Kd.R_below z13_5 hb)
             replace aa := Aside0.mk (Kd.R_below z13_7 hb)
             replace ab := Aside0.mk (Kd.R_below z13_6 hb)
             replace BK383 := Aside0.mk (blk_below (g := gb383) (o := .cells #[.slice Ao7 t377.length co7, v381] 54 (0, 0)) (zL13 BK383.out) hb)
             replace BK390 := Aside0.mk (blk_below (g := gb390) (o := .cells #[.int .i64 ad, .int .i64 ae, .int .i64 af, .int .i64 ag] 59 (0, 0)) (zL13 BK390.out) hb)
             replace HB := Aside0.mk (below_step z13_4 hb)
             (try clear hb)
             (try clear hb2)
             (try clear hk)
             (try clear hi)
             have p60 : 0 ≤ (x38_3 : Int) := of_decide_eq_true z13_3
             have q60 : (x38_3 : Int) < ((x3_3.length : Int) : Int) := of_decide_eq_true z13_3
             obtain ⟨go60, co60, eo60, gb60, gl60, cl60, HG60⟩ := Kd.R_form HO_3.out (by omega)
             (first | cases eo60 | (injection eo60 with ea_ en_ ec_; (first | subst ea_ | (injection ea_ with ea_; subst ea_)); subst ec_; clear en_))
             have GB60 := Aside0.mk gb60
             have GG60 := Aside0.mk HG60
             clear gb60 gl60 HG60
             (first | simp only [add_plain] at hx392_0 | skip)
             (first | simp only [add_plain] at hx392_1 | skip)
             (first | simp only [add_plain] at hx392_2 | skip)
             (first | simp only [add_plain] at hx392_3 | skip)
             (first | simp only [add_plain] at hx393_0 | skip)
             (first | simp only [add_plain] at hx393_1 | skip)
             (first | simp only [add_plain] at hx393_2 | skip)
             (first | simp only [add_plain] at hx393_3 | skip)
             (first | simp only [add_plain] at hx394_0 | skip)
             (first | simp only [add_plain] at hx394_1 | skip)
             (first | simp only [add_plain] at hx394_2 | skip)
             (first | simp only [add_plain] at hx394_3 | skip)
             obtain ⟨ce60, hcl60, hM60, hcc60, hfr60⟩ := Kd.R_elem HO_3.out z59 (x38_3 : Int) p60 q60
             obtain rfl := k59_openM hM60
             have hx60_0 : World.cell? _ ⟨go60, (x38_3 : Int).toNat * 4, none⟩ = some (.int .i64 ((rd_T59 x3_3 x38_3).f0)) := hcc60 0 _ rfl
             have hx60_1 : World.cell? _ ⟨go60, (x38_3 : Int).toNat * 4 + 1, none⟩ = some (.int .i64 ((rd_T59 x3_3 x38_3).f1)) := hcc60 1 _ rfl
             have hx60_2 : World.cell? _ ⟨go60, (x38_3 : Int).toNat * 4 + 2, none⟩ = some (.int .i64 ((rd_T59 x3_3 x38_3).f2)) := hcc60 2 _ rfl
             have hx60_3 : World.cell? _ ⟨go60, (x38_3 : Int).toNat * 4 + 3, none⟩ = some (.int .i64 ((rd_T59 x3_3 x38_3).f3)) := hcc60 3 _ rfl
             have hf60_0 : World.frozen? _ ⟨go60, (x38_3 : Int).toNat * 4, none⟩ = false := hfr60 0
             have hf60_1 : World.frozen? _ ⟨go60, (x38_3 : Int).toNat * 4 + 1, none⟩ = false := hfr60 1
             have hf60_2 : World.frozen? _ ⟨go60, (x38_3 : Int).toNat * 4 + 2, none⟩ = false := hfr60 2
             have hf60_3 : World.frozen? _ ⟨go60, (x38_3 : Int).toNat * 4 + 3, none⟩ = false := hfr60 3
             (try clear hcl60); (try clear hcc60); (try clear hfr60); (try clear hM60)
             replace p60 := eq_true p60
             replace q60 := eq_true q60
             obtain ⟨ce64, hcl64, hM64, hcc64, hfr64⟩ := Kd.R_elem HO_3.out z59 (x38_3 : Int) (of_decide_eq_true z13_3) (by have h_ : (x38_3 : Int) < ((x3_3.length : Int) : Int) := of_decide_eq_true z13_3; first | exact h_ | (have e_ := (Kd.R_reads' HO_3.out).1; omega) | simpa using h_)
             obtain rfl := k59_openM hM64
             have HP64 := (Kd.R_seg HO_3.out (x38_3 : Int) (of_decide_eq_true z13_3) (by have h_ : (x38_3 : Int) < ((x3_3.length : Int) : Int) := of_decide_eq_true z13_3; first | exact h_ | (have e_ := (Kd.R_reads' HO_3.out).1; omega) | simpa using h_) (seg := [.int .i64 t408, .int .i64 t409, .int .i64 t410, .int .i64 t411]) (j := 0) hcl64 hcc64 (show 4 ≤ 4 from by decide) (x' := (⟨t408, t409, t410, t411⟩ : S59)) (k59_mkM _ _ _ (⟨t408, t409, t410, t411⟩ : S59) ) (fun _ hk => hk)).1
             rw [← Ny412.out] at HP64
             have HQ64 := Aside0.mk HP64
             (try clear hcl64); (try clear hcc64); (try clear hfr64); (try clear hM64); (try clear HP64)
             refine hK.out _ _ ⟨HS0_, HS1_, HS2_, HS3_, HS4_, HS5_, HS6_, HS7_, HS8_, HS9_, HS10_, HS11_⟩ (fun hHeld => ?_)
             clear hK K
             refine nZ ?_
             refine pZ 18 HT_ ?_
             refine lZ 19 HT_ (fun K hK => ?_)
             refine skip_ (w1 := ?_) (by rfl) rfl ?_ ?_
             rotate_left
             ·go_simp
              rfl
             refine hK.out _ _ ?_
             clear hK K
             refine done_ (done_of HT_.out (by kernel_rfl)) ?_
             try go_wp2
             (try simp only [← hl3_3])
             have hab_ : (⟨go60, (x29_2 : Int).toNat * 4, none⟩ : Addr) = (⟨go60, 0, none⟩ : Addr).add ((x29_2 : Int).toNat * 4) := (add_plain _ _).symm
             (try simp only [hab_])
             clear hab_
             go_roundg k3
             case measure => have := HK1.out; have := HK2.out; have := HK3.out; omega
             case rel => exact ⟨(y412), (wrap64 (x38_3 + 1)), (ad), (ae), (af), (ag), z13_12, H', ⟨z13_13⟩, ⟨by (try simp only [hl3_2]); (try simp only [hl3_3]); (with_reducible repeat (first | apply Kd.R_alloc | apply Kd.R_drewN | apply Kd.R_drew)); exact HQ64.out⟩, ⟨by (try simp only [hl3_2]); (try simp only [hl3_3]); (with_reducible repeat (first | apply Kd.R_alloc | apply Kd.R_drewN | apply Kd.R_drew)); exact Kd.R_mono (Kd.R_far (p := ⟨go60, (x38_3 : Int).toNat * 4 + 3, none⟩) (Kd.R_far (p := ⟨go60, (x38_3 : Int).toNat * 4 + 2, none⟩) (Kd.R_far (p := ⟨go60, (x38_3 : Int).toNat * 4 + 1, none⟩) (Kd.R_far (p := ⟨go60, (x38_3 : Int).toNat * 4, none⟩) (Kd.R_types aa.out GG60.out (by decide)) (fun _ hk => hk.2) (.int .i64 t408)) (fun _ hk => hk.2) (.int .i64 t409)) (fun _ hk => hk.2) (.int .i64 t410)) (fun _ hk => hk.2) (.int .i64 t411)) (fun _ hk => trivial)⟩, ⟨by (try simp only [hl3_2]); (try simp only [hl3_3]); (with_reducible repeat (first | apply Kd.R_alloc | apply Kd.R_drewN | apply Kd.R_drew)); exact Kd.R_mono (Kd.R_far (p := ⟨go60, (x38_3 : Int).toNat * 4 + 3, none⟩) (Kd.R_far (p := ⟨go60, (x38_3 : Int).toNat * 4 + 2, none⟩) (Kd.R_far (p := ⟨go60, (x38_3 : Int).toNat * 4 + 1, none⟩) (Kd.R_far (p := ⟨go60, (x38_3 : Int).toNat * 4, none⟩) (Kd.R_types ab.out GG60.out (by decide)) (fun _ hk => hk.2) (.int .i64 t408)) (fun _ hk => hk.2) (.int .i64 t409)) (fun _ hk => hk.2) (.int .i64 t410)) (fun _ hk => hk.2) (.int .i64 t411)) (fun _ hk => trivial)⟩, ⟨z13_1⟩, ⟨z13_2⟩, ⟨by repeat (first | (with_reducible first | exact HB.out | apply below_alloc | apply pw_below_drewN | apply below_drew1 | refine below_set ?_ GB60.out | refine below_set ?_ GB60.out | refine below_set ?_ GB60.out | refine below_set ?_ GB60.out | refine below_set ?_ GE383.out | refine below_set ?_ GE390.out) | exact HB.out)⟩⟩
            ·rw [if_neg c57] at H
             clear c57
             by_cases c65 : t391 = 2
             ·rw [if_pos c65] at H
              subst c65
              replace H : ((impl_vector_times.f ((rd_T59 x3_3 x29_2).f0) ((rd_T59 x3_3 x29_2).f1) ((rd_T59 x3_3 x29_2).f2) ((rd_T59 x3_3 x29_2).f3) ((rd_T59 x3_3 x38_3).f2)).bind fun bt413 => ((impl_vector_minus.f ((rd_T59 x3_3 x38_3).f0) ((rd_T59 x3_3 x38_3).f1) ((rd_T59 x3_3 x38_3).f2) ((rd_T59 x3_3 x38_3).f3) bt413.1 bt413.2.1 bt413.2.2.1 bt413.2.2.2).bind fun bt417 => (impl_tidy.l2 k3 (x3_3.set (x38_3 : Int).toNat (⟨bt417.1, bt417.2.1, bt417.2.2.1, bt417.2.2.2⟩ : S59)) x29_2 (2 : Int) (x3_1.length : Int) x29_2 (x3_2.length : Int) (wrap64 (x38_3 + 1))))) = some r := H
              replace H := Option.bind_eq_some_iff.mp H
              obtain ⟨⟨t413, t414, t415, t416⟩, A660, H⟩ := H
              replace H : ((impl_vector_minus.f ((rd_T59 x3_3 x38_3).f0) ((rd_T59 x3_3 x38_3).f1) ((rd_T59 x3_3 x38_3).f2) ((rd_T59 x3_3 x38_3).f3) t413 t414 t415 t416).bind fun bt417 => (impl_tidy.l2 k3 (x3_3.set (x38_3 : Int).toNat (⟨bt417.1, bt417.2.1, bt417.2.2.1, bt417.2.2.2⟩ : S59)) x29_2 (2 : Int) (x3_1.length : Int) x29_2 (x3_2.length : Int) (wrap64 (x38_3 + 1)))) = some r := H
              have A66 := Aside0.mk A660
              clear A660
              replace H := Option.bind_eq_some_iff.mp H
              obtain ⟨⟨t417, t418, t419, t420⟩, A670, H⟩ := H
              replace H : (impl_tidy.l2 k3 (x3_3.set (x38_3 : Int).toNat (⟨t417, t418, t419, t420⟩ : S59)) x29_2 (2 : Int) (x3_1.length : Int) x29_2 (x3_2.length : Int) (wrap64 (x38_3 + 1))) = some r := H
              have A67 := Aside0.mk A670
              clear A670
              obtain ⟨y421, hy421⟩ : ∃ y_ : List (S59), y_ = (x3_3.set (x38_3 : Int).toNat (⟨t417, t418, t419, t420⟩ : S59)) := ⟨_, rfl⟩
              replace H : (impl_tidy.l2 k3 y421 x29_2 (2 : Int) (x3_1.length : Int) x29_2 (x3_2.length : Int) (wrap64 (x38_3 + 1))) = some r := by first | (rw [hy421]; with_reducible exact H) | (have H2_ := (Option.bind_some _ _).symm.trans H; rw [hy421]; with_reducible exact H2_) | (have H2_ := (Option.bind_some _ _).symm.trans H; with_reducible exact H2_) | with_reducible exact H | (rw [hy421]; exact H) | exact H
              have Ny421 := Aside0.mk hy421
              clear hy421
              have H' := Aside0.mk H
              clear H
              try go_wp2
              replace HO_3 := Aside0.mk (Kd.R_drew HO_3.out)
              replace aa := Aside0.mk (Kd.R_drew aa.out)
              replace ab := Aside0.mk (Kd.R_drew ab.out)
              replace BK383 := Aside0.mk (blk_drew BK383.out)
              replace BK390 := Aside0.mk (blk_drew BK390.out)
              replace HB := Aside0.mk (below_drew1 HB.out)
              have p392 : 0 ≤ (x38_3 : Int) := of_decide_eq_true z13_3
              have q392 : x38_3 < (x3_3.length : Int) := of_decide_eq_true z13_3
              obtain ⟨ad392, e392, hx392_0, hx392_1, hx392_2, hx392_3⟩ := at_T59 (Kd.R_reads' HO_3.out).2.2 x38_3 p392 q392
              obtain rfl : ad389 = ad392 := (by injection e392)
              replace p392 := eq_true p392
              replace q392 := eq_true q392
              have p393 : 0 ≤ (x29_2 : Int) := of_decide_eq_true z13_3
              have q393 : x29_2 < (x3_3.length : Int) := of_decide_eq_true z13_3
              obtain ⟨ad393, e393, hx393_0, hx393_1, hx393_2, hx393_3⟩ := at_T59 (Kd.R_reads' HO_3.out).2.2 x29_2 p393 q393
              obtain rfl : ad389 = ad393 := (by injection e393)
              replace p393 := eq_true p393
              replace q393 := eq_true q393
              have p394 : 0 ≤ (x38_3 : Int) := of_decide_eq_true z13_3
              have q394 : x38_3 < (x3_3.length : Int) := of_decide_eq_true z13_3
              obtain ⟨ad394, e394, hx394_0, hx394_1, hx394_2, hx394_3⟩ := at_T59 (Kd.R_reads' HO_3.out).2.2 x38_3 p394 q394
              obtain rfl : ad389 = ad394 := (by injection e394)
              replace p394 := eq_true p394
              replace q394 := eq_true q394
              refine start_ (n := 20) (S := fun w' => w'.cell? (ad389.add ((x38_3).toNat * 4)) = some (.int .i64 ((rd_T59 x3_3 x38_3).f0)) ∧ w'.cell? ⟨(ad389.add ((x38_3).toNat * 4)).block, (ad389.add ((x38_3).toNat * 4)).off + 1, none⟩ = some (.int .i64 ((rd_T59 x3_3 x38_3).f1)) ∧ w'.cell? ⟨(ad389.add ((x38_3).toNat * 4)).block, (ad389.add ((x38_3).toNat * 4)).off + 2, none⟩ = some (.int .i64 ((rd_T59 x3_3 x38_3).f2)) ∧ w'.cell? ⟨(ad389.add ((x38_3).toNat * 4)).block, (ad389.add ((x38_3).toNat * 4)).off + 3, none⟩ = some (.int .i64 ((rd_T59 x3_3 x38_3).f3)) ∧ w'.cell? (ad389.add ((x29_2).toNat * 4)) = some (.int .i64 ((rd_T59 x3_3 x29_2).f0)) ∧ w'.cell? ⟨(ad389.add ((x29_2).toNat * 4)).block, (ad389.add ((x29_2).toNat * 4)).off + 1, none⟩ = some (.int .i64 ((rd_T59 x3_3 x29_2).f1)) ∧ w'.cell? ⟨(ad389.add ((x29_2).toNat * 4)).block, (ad389.add ((x29_2).toNat * 4)).off + 2, none⟩ = some (.int .i64 ((rd_T59 x3_3 x29_2).f2)) ∧ w'.cell? ⟨(ad389.add ((x29_2).toNat * 4)).block, (ad389.add ((x29_2).toNat * 4)).off + 3, none⟩ = some (.int .i64 ((rd_T59 x3_3 x29_2).f3)) ∧ w'.cell? (ad389.add ((x38_3).toNat * 4)) = some (.int .i64 ((rd_T59 x3_3 x38_3).f0)) ∧ w'.cell? ⟨(ad389.add ((x38_3).toNat * 4)).block, (ad389.add ((x38_3).toNat * 4)).off + 1, none⟩ = some (.int .i64 ((rd_T59 x3_3 x38_3).f1)) ∧ w'.cell? ⟨(ad389.add ((x38_3).toNat * 4)).block, (ad389.add ((x38_3).toNat * 4)).off + 2, none⟩ = some (.int .i64 ((rd_T59 x3_3 x38_3).f2)) ∧ w'.cell? ⟨(ad389.add ((x38_3).toNat * 4)).block, (ad389.add ((x38_3).toNat * 4)).off + 3, none⟩ = some (.int .i64 ((rd_T59 x3_3 x38_3).f3))) (ds := [19]) #[false, false, false, false, false, false, false, false, false, false, false, false, false, false, false, false, false, false, false, false] (by kernel_rfl) rfl rfl ⟨hx392_0, hx392_1, hx392_2, hx392_3, hx393_0, hx393_1, hx393_2, hx393_3, hx394_0, hx394_1, hx394_2, hx394_3⟩ (fun hHeld => ?_); refine with_tabW impl_tidy.tab15 impl_tidy.bits15 (fun HT_ HW_ => ?_)
              generalize wr.drew = w69 at HO_3 aa ab BK383 BK390 HB hx392_0 hx392_1 hx392_2 hx392_3 hx393_0 hx393_1 hx393_2 hx393_3 hx394_0 hx394_1 hx394_2 hx394_3 hHeld ⊢
              refine pZ 0 HT_ ?_
              refine pZ 1 HT_ ?_
              refine pZ 2 HT_ ?_
              refine pZ 3 HT_ ?_
              refine pZ 4 HT_ ?_
              refine pZ 6 HT_ ?_
              refine pZ 7 HT_ ?_
              refine pZ 8 HT_ ?_
              refine pZ 10 HT_ ?_
              refine pZ 11 HT_ ?_
              refine pZ 12 HT_ ?_
              refine pZ 13 HT_ ?_
              refine pZ 14 HT_ ?_
              refine tZ 5 hHeld HT_ HW_ ?_
              refine tZ 9 hHeld HT_ HW_ ?_
              refine tZ 15 hHeld HT_ HW_ ?_
              refine oZ 16 HT_ (fun K hK => ?_)
              refine goes_ Try.func74 (by kernel_rfl) rfl #[.agg #[.int .i64 ((rd_T59 x3_3 x29_2).f0), .int .i64 ((rd_T59 x3_3 x29_2).f1), .int .i64 ((rd_T59 x3_3 x29_2).f2), .int .i64 ((rd_T59 x3_3 x29_2).f3)], .int .i64 ((rd_T59 x3_3 x38_3).f2)] (by rfl) rfl rfl z13_8 ?_
              with_reducible refine (impl_vector_times.calls ((rd_T59 x3_3 x29_2).f0) ((rd_T59 x3_3 x29_2).f1) ((rd_T59 x3_3 x29_2).f2) ((rd_T59 x3_3 x29_2).f3) ((rd_T59 x3_3 x38_3).f2) t413 t414 t415 t416 _ A66.out).mono ?_
              rintro e w70 ⟨rfl, hb⟩
              have HS0_ := (hb.cell (World.block_lt_of_cell? _ _ (hHeld.1))).trans (hHeld.1)
              have HS1_ := (hb.cell (World.block_lt_of_cell? _ _ (hHeld.2.1))).trans (hHeld.2.1)
              have HS2_ := (hb.cell (World.block_lt_of_cell? _ _ (hHeld.2.2.1))).trans (hHeld.2.2.1)
              have HS3_ := (hb.cell (World.block_lt_of_cell? _ _ (hHeld.2.2.2.1))).trans (hHeld.2.2.2.1)
              have HS4_ := (hb.cell (World.block_lt_of_cell? _ _ (hHeld.2.2.2.2.1))).trans (hHeld.2.2.2.2.1)
              have HS5_ := (hb.cell (World.block_lt_of_cell? _ _ (hHeld.2.2.2.2.2.1))).trans (hHeld.2.2.2.2.2.1)
              have HS6_ := (hb.cell (World.block_lt_of_cell? _ _ (hHeld.2.2.2.2.2.2.1))).trans (hHeld.2.2.2.2.2.2.1)
              have HS7_ := (hb.cell (World.block_lt_of_cell? _ _ (hHeld.2.2.2.2.2.2.2.1))).trans (hHeld.2.2.2.2.2.2.2.1)
              have HS8_ := (hb.cell (World.block_lt_of_cell? _ _ (hHeld.2.2.2.2.2.2.2.2.1))).trans (hHeld.2.2.2.2.2.2.2.2.1)
              have HS9_ := (hb.cell (World.block_lt_of_cell? _ _ (hHeld.2.2.2.2.2.2.2.2.2.1))).trans (hHeld.2.2.2.2.2.2.2.2.2.1)
              have HS10_ := (hb.cell (World.block_lt_of_cell? _ _ (hHeld.2.2.2.2.2.2.2.2.2.2.1))).trans (hHeld.2.2.2.2.2.2.2.2.2.2.1)
              have HS11_ := (hb.cell (World.block_lt_of_cell? _ _ (hHeld.2.2.2.2.2.2.2.2.2.2.2))).trans (hHeld.2.2.2.2.2.2.2.2.2.2.2)
              refine ⟨_, rfl, ?_⟩
              replace HO_3 := Aside0.mk (Kd.R_below z13_5 hb)
              replace aa := Aside0.mk (Kd.R_below z13_7 hb)
              replace ab := Aside0.mk (Kd.R_below z13_6 hb)
              replace BK383 := Aside0.mk (blk_below (g := gb383) (o := .cells #[.slice Ao7 t377.length co7, v381] 54 (0, 0)) (zL13 BK383.out) hb)
              replace BK390 := Aside0.mk (blk_below (g := gb390) (o := .cells #[.int .i64 ad, .int .i64 ae, .int .i64 af, .int .i64 ag] 59 (0, 0)) (zL13 BK390.out) hb)
              replace HB := Aside0.mk (below_step z13_4 hb)
              (try clear hb)
              (try clear hb2)
              (try clear hk)
              (try clear hi)
              refine hK.out _ _ ⟨HS0_, HS1_, HS2_, HS3_, HS4_, HS5_, HS6_, HS7_, HS8_, HS9_, HS10_, HS11_⟩ (fun hHeld => ?_)
              clear hK K
              refine nZ ?_
              refine oZ 17 HT_ (fun K hK => ?_)
              refine goes_ Try.func82 (by kernel_rfl) rfl #[.agg #[.int .i64 ((rd_T59 x3_3 x38_3).f0), .int .i64 ((rd_T59 x3_3 x38_3).f1), .int .i64 ((rd_T59 x3_3 x38_3).f2), .int .i64 ((rd_T59 x3_3 x38_3).f3)], .agg #[.int .i64 t413, .int .i64 t414, .int .i64 t415, .int .i64 t416]] (by rfl) rfl rfl z13_8 ?_
              with_reducible refine (impl_vector_minus.calls ((rd_T59 x3_3 x38_3).f0) ((rd_T59 x3_3 x38_3).f1) ((rd_T59 x3_3 x38_3).f2) ((rd_T59 x3_3 x38_3).f3) t413 t414 t415 t416 t417 t418 t419 t420 _ A67.out).mono ?_
              rintro e w71 ⟨rfl, hb⟩
              have HS0_ := (hb.cell (World.block_lt_of_cell? _ _ (hHeld.1))).trans (hHeld.1)
              have HS1_ := (hb.cell (World.block_lt_of_cell? _ _ (hHeld.2.1))).trans (hHeld.2.1)
              have HS2_ := (hb.cell (World.block_lt_of_cell? _ _ (hHeld.2.2.1))).trans (hHeld.2.2.1)
              have HS3_ := (hb.cell (World.block_lt_of_cell? _ _ (hHeld.2.2.2.1))).trans (hHeld.2.2.2.1)
              have HS4_ := (hb.cell (World.block_lt_of_cell? _ _ (hHeld.2.2.2.2.1))).trans (hHeld.2.2.2.2.1)
              have HS5_ := (hb.cell (World.block_lt_of_cell? _ _ (hHeld.2.2.2.2.2.1))).trans (hHeld.2.2.2.2.2.1)
              have HS6_ := (hb.cell (World.block_lt_of_cell? _ _ (hHeld.2.2.2.2.2.2.1))).trans (hHeld.2.2.2.2.2.2.1)
              have HS7_ := (hb.cell (World.block_lt_of_cell? _ _ (hHeld.2.2.2.2.2.2.2.1))).trans (hHeld.2.2.2.2.2.2.2.1)
              have HS8_ := (hb.cell (World.block_lt_of_cell? _ _ (hHeld.2.2.2.2.2.2.2.2.1))).trans (hHeld.2.2.2.2.2.2.2.2.1)
              have HS9_ := (hb.cell (World.block_lt_of_cell? _ _ (hHeld.2.2.2.2.2.2.2.2.2.1))).trans (hHeld.2.2.2.2.2.2.2.2.2.1)
              have HS10_ := (hb.cell (World.block_lt_of_cell? _ _ (hHeld.2.2.2.2.2.2.2.2.2.2.1))).trans (hHeld.2.2.2.2.2.2.2.2.2.2.1)
              have HS11_ := (hb.cell (World.block_lt_of_cell? _ _ (hHeld.2.2.2.2.2.2.2.2.2.2.2))).trans (hHeld.2.2.2.2.2.2.2.2.2.2.2)
              refine ⟨_, rfl, ?_⟩
              replace HO_3 := Aside0.mk (Kd.R_below z13_5 hb)
              replace aa := Aside0.mk (Kd.R_below z13_7 hb)
              replace ab := Aside0.mk (Kd.R_below z13_6 hb)
              replace BK383 := Aside0.mk (blk_below (g := gb383) (o := .cells #[.slice Ao7 t377.length co7, v381] 54 (0, 0)) (zL13 BK383.out) hb)
              replace BK390 := Aside0.mk (blk_below (g := gb390) (o := .cells #[.int .i64 ad, .int .i64 ae, .int .i64 af, .int .i64 ag] 59 (0, 0)) (zL13 BK390.out) hb)
              replace HB := Aside0.mk (below_step z13_4 hb)
              (try clear hb)
              (try clear hb2)
              (try clear hk)
              (try clear hi)
              have p68 : 0 ≤ (x38_3 : Int) := of_decide_eq_true z13_3
              have q68 : (x38_3 : Int) < ((x3_3.length : Int) : Int) := of_decide_eq_true z13_3
              obtain ⟨go68, co68, eo68, gb68, gl68, cl68, HG68⟩ := Kd.R_form HO_3.out (by omega)
              (first | cases eo68 | (injection eo68 with ea_ en_ ec_; (first | subst ea_ | (injection ea_ with ea_; subst ea_)); subst ec_; clear en_))
              have GB68 := Aside0.mk gb68
              have GG68 := Aside0.mk HG68
              clear gb68 gl68 HG68
              (first | simp only [add_plain] at hx392_0 | skip)
              (first | simp only [add_plain] at hx392_1 | skip)
              (first | simp only [add_plain] at hx392_2 | skip)
              (first | simp only [add_plain] at hx392_3 | skip)
              (first | simp only [add_plain] at hx393_0 | skip)
              (first | simp only [add_plain] at hx393_1 | skip)
              (first | simp only [add_plain] at hx393_2 | skip)
              (first | simp only [add_plain] at hx393_3 | skip)
              (first | simp only [add_plain] at hx394_0 | skip)
              (first | simp only [add_plain] at hx394_1 | skip)
              (first | simp only [add_plain] at hx394_2 | skip)
              (first | simp only [add_plain] at hx394_3 | skip)
              obtain ⟨ce68, hcl68, hM68, hcc68, hfr68⟩ := Kd.R_elem HO_3.out z59 (x38_3 : Int) p68 q68
              obtain rfl := k59_openM hM68
              have hx68_0 : World.cell? _ ⟨go68, (x38_3 : Int).toNat * 4, none⟩ = some (.int .i64 ((rd_T59 x3_3 x38_3).f0)) := hcc68 0 _ rfl
              have hx68_1 : World.cell? _ ⟨go68, (x38_3 : Int).toNat * 4 + 1, none⟩ = some (.int .i64 ((rd_T59 x3_3 x38_3).f1)) := hcc68 1 _ rfl
              have hx68_2 : World.cell? _ ⟨go68, (x38_3 : Int).toNat * 4 + 2, none⟩ = some (.int .i64 ((rd_T59 x3_3 x38_3).f2)) := hcc68 2 _ rfl
              have hx68_3 : World.cell? _ ⟨go68, (x38_3 : Int).toNat * 4 + 3, none⟩ = some (.int .i64 ((rd_T59 x3_3 x38_3).f3)) := hcc68 3 _ rfl
              have hf68_0 : World.frozen? _ ⟨go68, (x38_3 : Int).toNat * 4, none⟩ = false := hfr68 0
              have hf68_1 : World.frozen? _ ⟨go68, (x38_3 : Int).toNat * 4 + 1, none⟩ = false := hfr68 1
              have hf68_2 : World.frozen? _ ⟨go68, (x38_3 : Int).toNat * 4 + 2, none⟩ = false := hfr68 2
              have hf68_3 : World.frozen? _ ⟨go68, (x38_3 : Int).toNat * 4 + 3, none⟩ = false := hfr68 3
              (try clear hcl68); (try clear hcc68); (try clear hfr68); (try clear hM68)
              replace p68 := eq_true p68
              replace q68 := eq_true q68
              obtain ⟨ce72, hcl72, hM72, hcc72, hfr72⟩ := Kd.R_elem HO_3.out z59 (x38_3 : Int) (of_decide_eq_true z13_3) (by have h_ : (x38_3 : Int) < ((x3_3.length : Int) : Int) := of_decide_eq_true z13_3; first | exact h_ | (have e_ := (Kd.R_reads' HO_3.out).1; omega) | simpa using h_)
              obtain rfl := k59_openM hM72
              have HP72 := (Kd.R_seg HO_3.out (x38_3 : Int) (of_decide_eq_true z13_3) (by have h_ : (x38_3 : Int) < ((x3_3.length : Int) : Int) := of_decide_eq_true z13_3; first | exact h_ | (have e_ := (Kd.R_reads' HO_3.out).1; omega) | simpa using h_) (seg := [.int .i64 t417, .int .i64 t418, .int .i64 t419, .int .i64 t420]) (j := 0) hcl72 hcc72 (show 4 ≤ 4 from by decide) (x' := (⟨t417, t418, t419, t420⟩ : S59)) (k59_mkM _ _ _ (⟨t417, t418, t419, t420⟩ : S59) ) (fun _ hk => hk)).1
              rw [← Ny421.out] at HP72
              have HQ72 := Aside0.mk HP72
              (try clear hcl72); (try clear hcc72); (try clear hfr72); (try clear hM72); (try clear HP72)
              refine hK.out _ _ ⟨HS0_, HS1_, HS2_, HS3_, HS4_, HS5_, HS6_, HS7_, HS8_, HS9_, HS10_, HS11_⟩ (fun hHeld => ?_)
              clear hK K
              refine nZ ?_
              refine pZ 18 HT_ ?_
              refine lZ 19 HT_ (fun K hK => ?_)
              refine skip_ (w1 := ?_) (by rfl) rfl ?_ ?_
              rotate_left
              ·go_simp
               rfl
              refine hK.out _ _ ?_
              clear hK K
              refine done_ (done_of HT_.out (by kernel_rfl)) ?_
              try go_wp2
              (try simp only [← hl3_3])
              have hab_ : (⟨go68, (x29_2 : Int).toNat * 4, none⟩ : Addr) = (⟨go68, 0, none⟩ : Addr).add ((x29_2 : Int).toNat * 4) := (add_plain _ _).symm
              (try simp only [hab_])
              clear hab_
              go_roundg k3
              case measure => have := HK1.out; have := HK2.out; have := HK3.out; omega
              case rel => exact ⟨(y421), (wrap64 (x38_3 + 1)), (ad), (ae), (af), (ag), z13_12, H', ⟨z13_13⟩, ⟨by (try simp only [hl3_2]); (try simp only [hl3_3]); (with_reducible repeat (first | apply Kd.R_alloc | apply Kd.R_drewN | apply Kd.R_drew)); exact HQ72.out⟩, ⟨by (try simp only [hl3_2]); (try simp only [hl3_3]); (with_reducible repeat (first | apply Kd.R_alloc | apply Kd.R_drewN | apply Kd.R_drew)); exact Kd.R_mono (Kd.R_far (p := ⟨go68, (x38_3 : Int).toNat * 4 + 3, none⟩) (Kd.R_far (p := ⟨go68, (x38_3 : Int).toNat * 4 + 2, none⟩) (Kd.R_far (p := ⟨go68, (x38_3 : Int).toNat * 4 + 1, none⟩) (Kd.R_far (p := ⟨go68, (x38_3 : Int).toNat * 4, none⟩) (Kd.R_types aa.out GG68.out (by decide)) (fun _ hk => hk.2) (.int .i64 t417)) (fun _ hk => hk.2) (.int .i64 t418)) (fun _ hk => hk.2) (.int .i64 t419)) (fun _ hk => hk.2) (.int .i64 t420)) (fun _ hk => trivial)⟩, ⟨by (try simp only [hl3_2]); (try simp only [hl3_3]); (with_reducible repeat (first | apply Kd.R_alloc | apply Kd.R_drewN | apply Kd.R_drew)); exact Kd.R_mono (Kd.R_far (p := ⟨go68, (x38_3 : Int).toNat * 4 + 3, none⟩) (Kd.R_far (p := ⟨go68, (x38_3 : Int).toNat * 4 + 2, none⟩) (Kd.R_far (p := ⟨go68, (x38_3 : Int).toNat * 4 + 1, none⟩) (Kd.R_far (p := ⟨go68, (x38_3 : Int).toNat * 4, none⟩) (Kd.R_types ab.out GG68.out (by decide)) (fun _ hk => hk.2) (.int .i64 t417)) (fun _ hk => hk.2) (.int .i64 t418)) (fun _ hk => hk.2) (.int .i64 t419)) (fun _ hk => hk.2) (.int .i64 t420)) (fun _ hk => trivial)⟩, ⟨z13_1⟩, ⟨z13_2⟩, ⟨by repeat (first | (with_reducible first | exact HB.out | apply below_alloc | apply pw_below_drewN | apply below_drew1 | refine below_set ?_ GB68.out | refine below_set ?_ GB68.out | refine below_set ?_ GB68.out | refine below_set ?_ GB68.out | refine below_set ?_ GE383.out | refine below_set ?_ GE390.out) | exact HB.out)⟩⟩
             ·rw [if_neg c65] at H
              clear c65
              obtain ⟨c73, H⟩ := ifP H
              subst c73
              replace H : ((impl_vector_times.f ((rd_T59 x3_3 x29_2).f0) ((rd_T59 x3_3 x29_2).f1) ((rd_T59 x3_3 x29_2).f2) ((rd_T59 x3_3 x29_2).f3) ((rd_T59 x3_3 x38_3).f3)).bind fun bt422 => ((impl_vector_minus.f ((rd_T59 x3_3 x38_3).f0) ((rd_T59 x3_3 x38_3).f1) ((rd_T59 x3_3 x38_3).f2) ((rd_T59 x3_3 x38_3).f3) bt422.1 bt422.2.1 bt422.2.2.1 bt422.2.2.2).bind fun bt426 => (impl_tidy.l2 k3 (x3_3.set (x38_3 : Int).toNat (⟨bt426.1, bt426.2.1, bt426.2.2.1, bt426.2.2.2⟩ : S59)) x29_2 (3 : Int) (x3_1.length : Int) x29_2 (x3_2.length : Int) (wrap64 (x38_3 + 1))))) = some r := H
              replace H := Option.bind_eq_some_iff.mp H
              obtain ⟨⟨t422, t423, t424, t425⟩, A740, H⟩ := H
              replace H : ((impl_vector_minus.f ((rd_T59 x3_3 x38_3).f0) ((rd_T59 x3_3 x38_3).f1) ((rd_T59 x3_3 x38_3).f2) ((rd_T59 x3_3 x38_3).f3) t422 t423 t424 t425).bind fun bt426 => (impl_tidy.l2 k3 (x3_3.set (x38_3 : Int).toNat (⟨bt426.1, bt426.2.1, bt426.2.2.1, bt426.2.2.2⟩ : S59)) x29_2 (3 : Int) (x3_1.length : Int) x29_2 (x3_2.length : Int) (wrap64 (x38_3 + 1)))) = some r := H
              have A74 := Aside0.mk A740
              clear A740
              replace H := Option.bind_eq_some_iff.mp H
              obtain ⟨⟨t426, t427, t428, t429⟩, A750, H⟩ := H
              replace H : (impl_tidy.l2 k3 (x3_3.set (x38_3 : Int).toNat (⟨t426, t427, t428, t429⟩ : S59)) x29_2 (3 : Int) (x3_1.length : Int) x29_2 (x3_2.length : Int) (wrap64 (x38_3 + 1))) = some r := H
              have A75 := Aside0.mk A750
              clear A750
              obtain ⟨y430, hy430⟩ : ∃ y_ : List (S59), y_ = (x3_3.set (x38_3 : Int).toNat (⟨t426, t427, t428, t429⟩ : S59)) := ⟨_, rfl⟩
              replace H : (impl_tidy.l2 k3 y430 x29_2 (3 : Int) (x3_1.length : Int) x29_2 (x3_2.length : Int) (wrap64 (x38_3 + 1))) = some r := by first | (rw [hy430]; with_reducible exact H) | (have H2_ := (Option.bind_some _ _).symm.trans H; rw [hy430]; with_reducible exact H2_) | (have H2_ := (Option.bind_some _ _).symm.trans H; with_reducible exact H2_) | with_reducible exact H | (rw [hy430]; exact H) | exact H
              have Ny430 := Aside0.mk hy430
              clear hy430
              have H' := Aside0.mk H
              clear H
              try go_wp2
              replace HO_3 := Aside0.mk (Kd.R_drew HO_3.out)
              replace aa := Aside0.mk (Kd.R_drew aa.out)
              replace ab := Aside0.mk (Kd.R_drew ab.out)
              replace BK383 := Aside0.mk (blk_drew BK383.out)
              replace BK390 := Aside0.mk (blk_drew BK390.out)
              replace HB := Aside0.mk (below_drew1 HB.out)
              have p392 : 0 ≤ (x38_3 : Int) := of_decide_eq_true z13_3
              have q392 : x38_3 < (x3_3.length : Int) := of_decide_eq_true z13_3
              obtain ⟨ad392, e392, hx392_0, hx392_1, hx392_2, hx392_3⟩ := at_T59 (Kd.R_reads' HO_3.out).2.2 x38_3 p392 q392
              obtain rfl : ad389 = ad392 := (by injection e392)
              replace p392 := eq_true p392
              replace q392 := eq_true q392
              have p393 : 0 ≤ (x29_2 : Int) := of_decide_eq_true z13_3
              have q393 : x29_2 < (x3_3.length : Int) := of_decide_eq_true z13_3
              obtain ⟨ad393, e393, hx393_0, hx393_1, hx393_2, hx393_3⟩ := at_T59 (Kd.R_reads' HO_3.out).2.2 x29_2 p393 q393
              obtain rfl : ad389 = ad393 := (by injection e393)
              replace p393 := eq_true p393
              replace q393 := eq_true q393
              have p394 : 0 ≤ (x38_3 : Int) := of_decide_eq_true z13_3
              have q394 : x38_3 < (x3_3.length : Int) := of_decide_eq_true z13_3
              obtain ⟨ad394, e394, hx394_0, hx394_1, hx394_2, hx394_3⟩ := at_T59 (Kd.R_reads' HO_3.out).2.2 x38_3 p394 q394
              obtain rfl : ad389 = ad394 := (by injection e394)
              replace p394 := eq_true p394
              replace q394 := eq_true q394
              refine start_ (n := 20) (S := fun w' => w'.cell? (ad389.add ((x38_3).toNat * 4)) = some (.int .i64 ((rd_T59 x3_3 x38_3).f0)) ∧ w'.cell? ⟨(ad389.add ((x38_3).toNat * 4)).block, (ad389.add ((x38_3).toNat * 4)).off + 1, none⟩ = some (.int .i64 ((rd_T59 x3_3 x38_3).f1)) ∧ w'.cell? ⟨(ad389.add ((x38_3).toNat * 4)).block, (ad389.add ((x38_3).toNat * 4)).off + 2, none⟩ = some (.int .i64 ((rd_T59 x3_3 x38_3).f2)) ∧ w'.cell? ⟨(ad389.add ((x38_3).toNat * 4)).block, (ad389.add ((x38_3).toNat * 4)).off + 3, none⟩ = some (.int .i64 ((rd_T59 x3_3 x38_3).f3)) ∧ w'.cell? (ad389.add ((x29_2).toNat * 4)) = some (.int .i64 ((rd_T59 x3_3 x29_2).f0)) ∧ w'.cell? ⟨(ad389.add ((x29_2).toNat * 4)).block, (ad389.add ((x29_2).toNat * 4)).off + 1, none⟩ = some (.int .i64 ((rd_T59 x3_3 x29_2).f1)) ∧ w'.cell? ⟨(ad389.add ((x29_2).toNat * 4)).block, (ad389.add ((x29_2).toNat * 4)).off + 2, none⟩ = some (.int .i64 ((rd_T59 x3_3 x29_2).f2)) ∧ w'.cell? ⟨(ad389.add ((x29_2).toNat * 4)).block, (ad389.add ((x29_2).toNat * 4)).off + 3, none⟩ = some (.int .i64 ((rd_T59 x3_3 x29_2).f3)) ∧ w'.cell? (ad389.add ((x38_3).toNat * 4)) = some (.int .i64 ((rd_T59 x3_3 x38_3).f0)) ∧ w'.cell? ⟨(ad389.add ((x38_3).toNat * 4)).block, (ad389.add ((x38_3).toNat * 4)).off + 1, none⟩ = some (.int .i64 ((rd_T59 x3_3 x38_3).f1)) ∧ w'.cell? ⟨(ad389.add ((x38_3).toNat * 4)).block, (ad389.add ((x38_3).toNat * 4)).off + 2, none⟩ = some (.int .i64 ((rd_T59 x3_3 x38_3).f2)) ∧ w'.cell? ⟨(ad389.add ((x38_3).toNat * 4)).block, (ad389.add ((x38_3).toNat * 4)).off + 3, none⟩ = some (.int .i64 ((rd_T59 x3_3 x38_3).f3))) (ds := [19]) #[false, false, false, false, false, false, false, false, false, false, false, false, false, false, false, false, false, false, false, false] (by kernel_rfl) rfl rfl ⟨hx392_0, hx392_1, hx392_2, hx392_3, hx393_0, hx393_1, hx393_2, hx393_3, hx394_0, hx394_1, hx394_2, hx394_3⟩ (fun hHeld => ?_); refine with_tabW impl_tidy.tab15 impl_tidy.bits15 (fun HT_ HW_ => ?_)
              generalize wr.drew = w77 at HO_3 aa ab BK383 BK390 HB hx392_0 hx392_1 hx392_2 hx392_3 hx393_0 hx393_1 hx393_2 hx393_3 hx394_0 hx394_1 hx394_2 hx394_3 hHeld ⊢
              refine pZ 0 HT_ ?_
              refine pZ 1 HT_ ?_
              refine pZ 2 HT_ ?_
              refine pZ 3 HT_ ?_
              refine pZ 4 HT_ ?_
              refine pZ 6 HT_ ?_
              refine pZ 7 HT_ ?_
              refine pZ 8 HT_ ?_
              refine pZ 10 HT_ ?_
              refine pZ 11 HT_ ?_
              refine pZ 12 HT_ ?_
              refine pZ 13 HT_ ?_
              refine pZ 14 HT_ ?_
              refine tZ 5 hHeld HT_ HW_ ?_
              refine tZ 9 hHeld HT_ HW_ ?_
              refine tZ 15 hHeld HT_ HW_ ?_
              refine oZ 16 HT_ (fun K hK => ?_)
              refine goes_ Try.func74 (by kernel_rfl) rfl #[.agg #[.int .i64 ((rd_T59 x3_3 x29_2).f0), .int .i64 ((rd_T59 x3_3 x29_2).f1), .int .i64 ((rd_T59 x3_3 x29_2).f2), .int .i64 ((rd_T59 x3_3 x29_2).f3)], .int .i64 ((rd_T59 x3_3 x38_3).f3)] (by rfl) rfl rfl z13_8 ?_
              with_reducible refine (impl_vector_times.calls ((rd_T59 x3_3 x29_2).f0) ((rd_T59 x3_3 x29_2).f1) ((rd_T59 x3_3 x29_2).f2) ((rd_T59 x3_3 x29_2).f3) ((rd_T59 x3_3 x38_3).f3) t422 t423 t424 t425 _ A74.out).mono ?_
              rintro e w78 ⟨rfl, hb⟩
              have HS0_ := (hb.cell (World.block_lt_of_cell? _ _ (hHeld.1))).trans (hHeld.1)
              have HS1_ := (hb.cell (World.block_lt_of_cell? _ _ (hHeld.2.1))).trans (hHeld.2.1)
              have HS2_ := (hb.cell (World.block_lt_of_cell? _ _ (hHeld.2.2.1))).trans (hHeld.2.2.1)
              have HS3_ := (hb.cell (World.block_lt_of_cell? _ _ (hHeld.2.2.2.1))).trans (hHeld.2.2.2.1)
              have HS4_ := (hb.cell (World.block_lt_of_cell? _ _ (hHeld.2.2.2.2.1))).trans (hHeld.2.2.2.2.1)
              have HS5_ := (hb.cell (World.block_lt_of_cell? _ _ (hHeld.2.2.2.2.2.1))).trans (hHeld.2.2.2.2.2.1)
              have HS6_ := (hb.cell (World.block_lt_of_cell? _ _ (hHeld.2.2.2.2.2.2.1))).trans (hHeld.2.2.2.2.2.2.1)
              have HS7_ := (hb.cell (World.block_lt_of_cell? _ _ (hHeld.2.2.2.2.2.2.2.1))).trans (hHeld.2.2.2.2.2.2.2.1)
              have HS8_ := (hb.cell (World.block_lt_of_cell? _ _ (hHeld.2.2.2.2.2.2.2.2.1))).trans (hHeld.2.2.2.2.2.2.2.2.1)
              have HS9_ := (hb.cell (World.block_lt_of_cell? _ _ (hHeld.2.2.2.2.2.2.2.2.2.1))).trans (hHeld.2.2.2.2.2.2.2.2.2.1)
              have HS10_ := (hb.cell (World.block_lt_of_cell? _ _ (hHeld.2.2.2.2.2.2.2.2.2.2.1))).trans (hHeld.2.2.2.2.2.2.2.2.2.2.1)
              have HS11_ := (hb.cell (World.block_lt_of_cell? _ _ (hHeld.2.2.2.2.2.2.2.2.2.2.2))).trans (hHeld.2.2.2.2.2.2.2.2.2.2.2)
              refine ⟨_, rfl, ?_⟩
              replace HO_3 := Aside0.mk (Kd.R_below z13_5 hb)
              replace aa := Aside0.mk (Kd.R_below z13_7 hb)
              replace ab := Aside0.mk (Kd.R_below z13_6 hb)
              replace BK383 := Aside0.mk (blk_below (g := gb383) (o := .cells #[.slice Ao7 t377.length co7, v381] 54 (0, 0)) (zL13 BK383.out) hb)
              replace BK390 := Aside0.mk (blk_below (g := gb390) (o := .cells #[.int .i64 ad, .int .i64 ae, .int .i64 af, .int .i64 ag] 59 (0, 0)) (zL13 BK390.out) hb)
              replace HB := Aside0.mk (below_step z13_4 hb)
              (try clear hb)
              (try clear hb2)
              (try clear hk)
              (try clear hi)
              refine hK.out _ _ ⟨HS0_, HS1_, HS2_, HS3_, HS4_, HS5_, HS6_, HS7_, HS8_, HS9_, HS10_, HS11_⟩ (fun hHeld => ?_)
              clear hK K
              refine nZ ?_
              refine oZ 17 HT_ (fun K hK => ?_)
              refine goes_ Try.func82 (by kernel_rfl) rfl #[.agg #[.int .i64 ((rd_T59 x3_3 x38_3).f0), .int .i64 ((rd_T59 x3_3 x38_3).f1), .int .i64 ((rd_T59 x3_3 x38_3).f2), .int .i64 ((rd_T59 x3_3 x38_3).f3)], .agg #[.int .i64 t422, .int .i64 t423, .int .i64 t424, .int .i64 t425]] (by rfl) rfl rfl z13_8 ?_
              with_reducible refine (impl_vector_minus.calls ((rd_T59 x3_3 x38_3).f0) ((rd_T59 x3_3 x38_3).f1) ((rd_T59 x3_3 x38_3).f2) ((rd_T59 x3_3 x38_3).f3) t422 t423 t424 t425 t426 t427 t428 t429 _ A75.out).mono ?_
              rintro e w79 ⟨rfl, hb⟩
              have HS0_ := (hb.cell (World.block_lt_of_cell? _ _ (hHeld.1))).trans (hHeld.1)
              have HS1_ := (hb.cell (World.block_lt_of_cell? _ _ (hHeld.2.1))).trans (hHeld.2.1)
              have HS2_ := (hb.cell (World.block_lt_of_cell? _ _ (hHeld.2.2.1))).trans (hHeld.2.2.1)
              have HS3_ := (hb.cell (World.block_lt_of_cell? _ _ (hHeld.2.2.2.1))).trans (hHeld.2.2.2.1)
              have HS4_ := (hb.cell (World.block_lt_of_cell? _ _ (hHeld.2.2.2.2.1))).trans (hHeld.2.2.2.2.1)
              have HS5_ := (hb.cell (World.block_lt_of_cell? _ _ (hHeld.2.2.2.2.2.1))).trans (hHeld.2.2.2.2.2.1)
              have HS6_ := (hb.cell (World.block_lt_of_cell? _ _ (hHeld.2.2.2.2.2.2.1))).trans (hHeld.2.2.2.2.2.2.1)
              have HS7_ := (hb.cell (World.block_lt_of_cell? _ _ (hHeld.2.2.2.2.2.2.2.1))).trans (hHeld.2.2.2.2.2.2.2.1)
              have HS8_ := (hb.cell (World.block_lt_of_cell? _ _ (hHeld.2.2.2.2.2.2.2.2.1))).trans (hHeld.2.2.2.2.2.2.2.2.1)
              have HS9_ := (hb.cell (World.block_lt_of_cell? _ _ (hHeld.2.2.2.2.2.2.2.2.2.1))).trans (hHeld.2.2.2.2.2.2.2.2.2.1)
              have HS10_ := (hb.cell (World.block_lt_of_cell? _ _ (hHeld.2.2.2.2.2.2.2.2.2.2.1))).trans (hHeld.2.2.2.2.2.2.2.2.2.2.1)
              have HS11_ := (hb.cell (World.block_lt_of_cell? _ _ (hHeld.2.2.2.2.2.2.2.2.2.2.2))).trans (hHeld.2.2.2.2.2.2.2.2.2.2.2)
              refine ⟨_, rfl, ?_⟩
              replace HO_3 := Aside0.mk (Kd.R_below z13_5 hb)
              replace aa := Aside0.mk (Kd.R_below z13_7 hb)
              replace ab := Aside0.mk (Kd.R_below z13_6 hb)
              replace BK383 := Aside0.mk (blk_below (g := gb383) (o := .cells #[.slice Ao7 t377.length co7, v381] 54 (0, 0)) (zL13 BK383.out) hb)
              replace BK390 := Aside0.mk (blk_below (g := gb390) (o := .cells #[.int .i64 ad, .int .i64 ae, .int .i64 af, .int .i64 ag] 59 (0, 0)) (zL13 BK390.out) hb)
              replace HB := Aside0.mk (below_step z13_4 hb)
              (try clear hb)
              (try clear hb2)
              (try clear hk)
              (try clear hi)
              have p76 : 0 ≤ (x38_3 : Int) := of_decide_eq_true z13_3
              have q76 : (x38_3 : Int) < ((x3_3.length : Int) : Int) := of_decide_eq_true z13_3
              obtain ⟨go76, co76, eo76, gb76, gl76, cl76, HG76⟩ := Kd.R_form HO_3.out (by omega)
              (first | cases eo76 | (injection eo76 with ea_ en_ ec_; (first | subst ea_ | (injection ea_ with ea_; subst ea_)); subst ec_; clear en_))
              have GB76 := Aside0.mk gb76
              have GG76 := Aside0.mk HG76
              clear gb76 gl76 HG76
              (first | simp only [add_plain] at hx392_0 | skip)
              (first | simp only [add_plain] at hx392_1 | skip)
              (first | simp only [add_plain] at hx392_2 | skip)
              (first | simp only [add_plain] at hx392_3 | skip)
              (first | simp only [add_plain] at hx393_0 | skip)
              (first | simp only [add_plain] at hx393_1 | skip)
              (first | simp only [add_plain] at hx393_2 | skip)
              (first | simp only [add_plain] at hx393_3 | skip)
              (first | simp only [add_plain] at hx394_0 | skip)
              (first | simp only [add_plain] at hx394_1 | skip)
              (first | simp only [add_plain] at hx394_2 | skip)
              (first | simp only [add_plain] at hx394_3 | skip)
              obtain ⟨ce76, hcl76, hM76, hcc76, hfr76⟩ := Kd.R_elem HO_3.out z59 (x38_3 : Int) p76 q76
              obtain rfl := k59_openM hM76
              have hx76_0 : World.cell? _ ⟨go76, (x38_3 : Int).toNat * 4, none⟩ = some (.int .i64 ((rd_T59 x3_3 x38_3).f0)) := hcc76 0 _ rfl
              have hx76_1 : World.cell? _ ⟨go76, (x38_3 : Int).toNat * 4 + 1, none⟩ = some (.int .i64 ((rd_T59 x3_3 x38_3).f1)) := hcc76 1 _ rfl
              have hx76_2 : World.cell? _ ⟨go76, (x38_3 : Int).toNat * 4 + 2, none⟩ = some (.int .i64 ((rd_T59 x3_3 x38_3).f2)) := hcc76 2 _ rfl
              have hx76_3 : World.cell? _ ⟨go76, (x38_3 : Int).toNat * 4 + 3, none⟩ = some (.int .i64 ((rd_T59 x3_3 x38_3).f3)) := hcc76 3 _ rfl
              have hf76_0 : World.frozen? _ ⟨go76, (x38_3 : Int).toNat * 4, none⟩ = false := hfr76 0
              have hf76_1 : World.frozen? _ ⟨go76, (x38_3 : Int).toNat * 4 + 1, none⟩ = false := hfr76 1
              have hf76_2 : World.frozen? _ ⟨go76, (x38_3 : Int).toNat * 4 + 2, none⟩ = false := hfr76 2
              have hf76_3 : World.frozen? _ ⟨go76, (x38_3 : Int).toNat * 4 + 3, none⟩ = false := hfr76 3
              (try clear hcl76); (try clear hcc76); (try clear hfr76); (try clear hM76)
              replace p76 := eq_true p76
              replace q76 := eq_true q76
              obtain ⟨ce80, hcl80, hM80, hcc80, hfr80⟩ := Kd.R_elem HO_3.out z59 (x38_3 : Int) (of_decide_eq_true z13_3) (by have h_ : (x38_3 : Int) < ((x3_3.length : Int) : Int) := of_decide_eq_true z13_3; first | exact h_ | (have e_ := (Kd.R_reads' HO_3.out).1; omega) | simpa using h_)
              obtain rfl := k59_openM hM80
              have HP80 := (Kd.R_seg HO_3.out (x38_3 : Int) (of_decide_eq_true z13_3) (by have h_ : (x38_3 : Int) < ((x3_3.length : Int) : Int) := of_decide_eq_true z13_3; first | exact h_ | (have e_ := (Kd.R_reads' HO_3.out).1; omega) | simpa using h_) (seg := [.int .i64 t426, .int .i64 t427, .int .i64 t428, .int .i64 t429]) (j := 0) hcl80 hcc80 (show 4 ≤ 4 from by decide) (x' := (⟨t426, t427, t428, t429⟩ : S59)) (k59_mkM _ _ _ (⟨t426, t427, t428, t429⟩ : S59) ) (fun _ hk => hk)).1
              rw [← Ny430.out] at HP80
              have HQ80 := Aside0.mk HP80
              (try clear hcl80); (try clear hcc80); (try clear hfr80); (try clear hM80); (try clear HP80)
              refine hK.out _ _ ⟨HS0_, HS1_, HS2_, HS3_, HS4_, HS5_, HS6_, HS7_, HS8_, HS9_, HS10_, HS11_⟩ (fun hHeld => ?_)
              clear hK K
              refine nZ ?_
              refine pZ 18 HT_ ?_
              refine lZ 19 HT_ (fun K hK => ?_)
              refine skip_ (w1 := ?_) (by rfl) rfl ?_ ?_
              rotate_left
              ·go_simp
               rfl
              refine hK.out _ _ ?_
              clear hK K
              refine done_ (done_of HT_.out (by kernel_rfl)) ?_
              try go_wp2
              (try simp only [← hl3_3])
              have hab_ : (⟨go76, (x29_2 : Int).toNat * 4, none⟩ : Addr) = (⟨go76, 0, none⟩ : Addr).add ((x29_2 : Int).toNat * 4) := (add_plain _ _).symm
              (try simp only [hab_])
              clear hab_
              go_roundg k3
              case measure => have := HK1.out; have := HK2.out; have := HK3.out; omega
              case rel => exact ⟨(y430), (wrap64 (x38_3 + 1)), (ad), (ae), (af), (ag), z13_12, H', ⟨z13_13⟩, ⟨by (try simp only [hl3_2]); (try simp only [hl3_3]); (with_reducible repeat (first | apply Kd.R_alloc | apply Kd.R_drewN | apply Kd.R_drew)); exact HQ80.out⟩, ⟨by (try simp only [hl3_2]); (try simp only [hl3_3]); (with_reducible repeat (first | apply Kd.R_alloc | apply Kd.R_drewN | apply Kd.R_drew)); exact Kd.R_mono (Kd.R_far (p := ⟨go76, (x38_3 : Int).toNat * 4 + 3, none⟩) (Kd.R_far (p := ⟨go76, (x38_3 : Int).toNat * 4 + 2, none⟩) (Kd.R_far (p := ⟨go76, (x38_3 : Int).toNat * 4 + 1, none⟩) (Kd.R_far (p := ⟨go76, (x38_3 : Int).toNat * 4, none⟩) (Kd.R_types aa.out GG76.out (by decide)) (fun _ hk => hk.2) (.int .i64 t426)) (fun _ hk => hk.2) (.int .i64 t427)) (fun _ hk => hk.2) (.int .i64 t428)) (fun _ hk => hk.2) (.int .i64 t429)) (fun _ hk => trivial)⟩, ⟨by (try simp only [hl3_2]); (try simp only [hl3_3]); (with_reducible repeat (first | apply Kd.R_alloc | apply Kd.R_drewN | apply Kd.R_drew)); exact Kd.R_mono (Kd.R_far (p := ⟨go76, (x38_3 : Int).toNat * 4 + 3, none⟩) (Kd.R_far (p := ⟨go76, (x38_3 : Int).toNat * 4 + 2, none⟩) (Kd.R_far (p := ⟨go76, (x38_3 : Int).toNat * 4 + 1, none⟩) (Kd.R_far (p := ⟨go76, (x38_3 : Int).toNat * 4, none⟩) (Kd.R_types ab.out GG76.out (by decide)) (fun _ hk => hk.2) (.int .i64 t426)) (fun _ hk => hk.2) (.int .i64 t427)) (fun _ hk => hk.2) (.int .i64 t428)) (fun _ hk => hk.2) (.int .i64 t429)) (fun _ hk => trivial)⟩, ⟨z13_1⟩, ⟨z13_2⟩, ⟨by repeat (first | (with_reducible first | exact HB.out | apply below_alloc | apply pw_below_drewN | apply below_drew1 | refine below_set ?_ GB76.out | refine below_set ?_ GB76.out | refine below_set ?_ GB76.out | refine below_set ?_ GB76.out | refine below_set ?_ GE383.out | refine below_set ?_ GE390.out) | exact HB.out)⟩⟩
         ·rw [if_neg c43] at H
          have c43b0 : decide (x38_3 < (x3_2.length : Int)) = false := decide_eq_false c43
          (try simp only [hl3_2, hl3_3] at c43b0)
          clear c43
          have H' := Aside0.mk H
          clear H
          go_wp2
          (try simp only [← hl3_2, ← hl3_3])
          go_roundg k3
          case measure => have := HK1.out; have := HK2.out; have := HK3.out; omega
          case rel => exact ⟨(x3_3), (wrap64 (x29_2 + 1)), z13_12, H', ⟨z13_13⟩, ⟨by (try simp only [hl3_2]); (try simp only [hl3_3]); (with_reducible repeat (first | apply Kd.R_alloc | apply Kd.R_drewN | apply Kd.R_drew)); exact Kd.R_mono HO_3.out (fun _ hk => trivial)⟩, ⟨z13_15⟩, ⟨z13_16⟩, ⟨z13_14⟩, ⟨z13_4⟩⟩
      ·rw [if_neg c30] at H
       have c30b0 : decide (x29_2 < (x3_1.length : Int)) = false := decide_eq_false c30
       (try simp only [hl3_2] at c30b0)
       clear c30
       obtain ⟨h12s, rfl⟩ := So.srt_some H
       go_wp2_with (go_at_call 83; (with_reducible refine (So.SortFuncR _ _ _ _ x3_2 _ h12s HO_3.out).mono ?_); rintro e wS ⟨rfl, hoS, hbS⟩; have HOS := Aside0.mk hoS; have HBS : Aside0 (Below w.heap.size w wS) := ⟨Below.trans HB.out (hbS _ (Nat.le_refl _))⟩; clear hoS hbS HB HO_3; have HB := HBS)
       go_ret
       exact ⟨.slice Ao29 x3_2.length co29, by rfl, by (with_reducible repeat (first | apply Kd.R_alloc | apply Kd.R_drewN | apply Kd.R_drew)); exact HOS.out, z13_10⟩

end Go.Proofs.Ytbhmgbeebhmfkaa.PA
