-- Written by a program of this session (after the manner of the kit's print, several laws in one text).
import Derived.Test.YtbhmgbeebhmfkaaPAx0
import Derived.Test.YtbhmgbeebhmfkaaPAx2
import Derived.Test.YtbhmgbeebhmfkaaPAx13
import Derived.Test.YtbhmgbeebhmfkaaPAx14
import Derived.Test.YtbhmgbeebhmfkaaGw
import Derived.Test.YtbhmgbeebhmfkaaGm
namespace Go.Proofs.Ytbhmgbeebhmfkaa.PA
open Go.RowKit Go.Proofs.YtbhmgbeebhmfkaaW.PrintWords Go.Proofs.YtbhmgbeebhmfkaaW.PrintLast Go.Proofs.YtbhmgbeebhmfkaaW.PrintMore
attribute [local go_sem] max2_int min2_int max_two min_two max_three min_three max_four min_four   -- for this text's walks alone
set_option linter.unusedVariables false
set_option linter.unusedSimpArgs false

/-! ### spec_l91Rows: function 63 -/
theorem z15_0 {p : Prop} (h : p := by repeat (first | (with_reducible first | exact HK.out | apply KeepBut.set_ | apply keep_drewN | apply keep_drew | apply keep_alloc) | exact HK.out)) : p := h
theorem z15_1 {p : Prop} (h : p := by repeat (first | (with_reducible first | exact HI0.out | apply IsS92.alloc | apply IsS92.drewN | apply IsS92.drew | apply IsS92.set_1) | exact HI0.out)) : p := h
theorem z15_2 {p : Prop} (h : p := by repeat (first | (with_reducible first | exact HB.out | apply below_alloc | apply pw_below_drewN | apply below_drew1 | refine below_set ?_ (IsS92.ge HI0.out)) | exact HB.out)) : p := h
theorem z15_3 {p : Prop} (h : p := by (with_reducible repeat (first | apply Kd.N_alloc | apply Kd.N_drewN | apply Kd.N_drew)); exact HO_3.out) : p := h
theorem z15_4 {p : Prop} (h : p := by (try simp only [List.map_toArray, List.map_cons, List.map_nil]); first | done | rfl | (simp only [List.length_drop, List.length_take]; rfl)) : p := h
theorem z15_5 {p : Prop} (h : p := by first | (rw [add_block]; exact Kd.own_blk (IsS92.own_neN HI0.out HO_3.out (by decide))) | (show (Addr.add _ _).block ≠ _; rw [add_block]; exact Kd.own_blk (IsS92.own_neN HI0.out HO_3.out (by decide))) | exact Kd.own_blk (IsS92.own_neN HI0.out HO_3.out (by decide)) | (have hz_ := Kd.own_blk (IsS92.own_neN HI0.out HO_3.out (by decide)); exact hz_)) : p := h
theorem z15_6 {p : Prop} (h : p := by (with_reducible repeat (first | apply Kd.Q_alloc | apply Kd.Q_drewN | apply Kd.Q_drew)); exact HO_5.out) : p := h
theorem z15_7 {p : Prop} (h : p := by (with_reducible repeat (first | apply Kd.R_alloc | apply Kd.R_drewN | apply Kd.R_drew)); exact HO421.out) : p := h
theorem z15_8 {p : Prop} (h : p := by (with_reducible repeat (first | apply Kd.V_alloc | apply Kd.V_drewN | apply Kd.V_drew)); exact HL416_0.out) : p := h
theorem z15_9 {p : Prop} (h : p := by (with_reducible repeat (first | apply Kd.V_alloc | apply Kd.V_drewN | apply Kd.V_drew)); exact HL422_0.out) : p := h
theorem z15_10 {p : Prop} (h : p := by (with_reducible repeat (first | apply Kd.N_alloc | apply Kd.N_drewN | apply Kd.N_drew)); exact Kd.N_mono HO_3.out (fun _ hk => ⟨hk.1.1, ⟨hk.2, hk.1.2⟩⟩)) : p := h
theorem z15_11 {p : Prop} (h : p := by first | (with_reducible assumption) | assumption) : p := h
theorem z15_12 {p : Prop} (h : p := by (with_reducible repeat (first | apply Kd.Q_alloc | apply Kd.Q_drewN | apply Kd.Q_drew)); exact Kd.Q_mono HO408.out (fun _ hk => hk.1)) : p := h
theorem z15_13 {p : Prop} (h : p := by (with_reducible repeat (first | apply Kd.R_alloc | apply Kd.R_drewN | apply Kd.R_drew)); exact HO427.out) : p := h
theorem z15_14 {p : Prop} (h : p := by first | rfl | (simp; done) | (simp [*]; done)) : p := h
theorem z15_15 {p : Prop} (h : p := by (with_reducible repeat (first | apply Kd.Q_alloc | apply Kd.Q_drewN | apply Kd.Q_drew)); exact HO408.out) : p := h
theorem z15_16 {p : Prop} (h : p := by repeat (first | (with_reducible exact HR412_0.out) | (with_reducible refine Kd.C_alloc ?_ _) | (with_reducible refine Kd.C_drewN ?_ _) | (with_reducible refine Kd.C_drew ?_) | exact HR412_0.out)) : p := h
theorem z15_17 {p : Prop} (h : p := by have := HK1.out; first | omega | exact Nat.le_refl _) : p := h
theorem z15_18 {p : Prop} (h : p := by (with_reducible repeat (first | apply Kd.N_alloc | apply Kd.N_drewN | apply Kd.N_drew)); exact Kd.N_mono HO_3.out (fun _ hk => hk.1)) : p := h
theorem zs15 {α : Type} {l : List α} {i : Nat} {a : α} : l.toArray.setIfInBounds i a = (l.set i a).toArray := List.setIfInBounds_toArray _ _ _
theorem zc15 {α : Type} {x : α} {xs : List α} {a : α} : (x :: xs).set 0 a = a :: xs := List.set_cons_zero
theorem zd15 {α : Type} {x : α} {xs : List α} {n : Nat} {a : α} : (x :: xs).set (n + 1) a = x :: xs.set n a := List.set_cons_succ
mutual
def spec_l91Rows.l0 : Nat → List (List Int) → Int → List Int → Int → Option ((List (List Int)) × Int)
  | 0, _, _, _, _ => none
  | k + 1, x3, x4, x1000, x1001 => if x4 > 0 then ((spec_l91Vec.f k x1000 x1001).bind fun bt406 => (if (x3.length : Int) > 1 then ((spec_l6Rd_pick.f k x1000 bt406.2 3).bind fun bt410 => (if bt410.1 = 0 then (if 0 < (x3.length : Int) then ((spec_VecOk.f k (rd_L1 x3 0)).bind fun t413 => (if t413 = true then (if 1 < (x3.length : Int) then ((spec_VecOk.f k (rd_L1 x3 1)).bind fun t415 => (spec_l91Rows.j1 k x3 x4 bt406.1 t415 x1000 bt410.2)) else (none)) else (spec_l91Rows.j1 k x3 x4 bt406.1 false x1000 bt410.2))) else (none)) else (spec_l91Rows.j1 k x3 x4 bt406.1 false x1000 bt410.2))) else (spec_l91Rows.j1 k x3 x4 bt406.1 false x1000 bt406.2))) else ((spec_l6Rd_pick.f k x1000 x1001 40).bind fun bt437 => (if bt437.1 = 0 then (spec_l91Rows.l1 k x3 x1000 bt437.2) else (some (x3, bt437.2))))
def spec_l91Rows.j1 : Nat → List (List Int) → Int → List Int → Bool → List Int → Int → Option ((List (List Int)) × Int)
  | 0, _, _, _, _, _, _ => none
  | k + 1, x3, x4, x5, x34, x1000, x1001 => if x34 = true then (if 0 < (x3.length : Int) then ((spec_l6Rd_pick.f k x1000 x1001 31).bind fun bt417 => ((spec_l2Scale.f k (rd_L1 x3 0) bt417.1).bind fun t419 => (if 1 < (x3.length : Int) then ((spec_l6Rd_pick.f k x1000 bt417.2 31).bind fun bt423 => ((spec_l2Scale.f k (rd_L1 x3 1) bt423.1).bind fun t425 => ((spec_l2Sum.f k t419 t425).bind fun t428 => (if x3.length < 5864062014805 then (spec_l91Rows.l0 k (x3 ++ [t428]) (wrap64 (x4 - 1)) x1000 bt423.2) else (none))))) else (none)))) else (none)) else (if x3.length < 5864062014805 then (spec_l91Rows.l0 k (x3 ++ [x5]) (wrap64 (x4 - 1)) x1000 x1001) else (none))
def spec_l91Rows.l1 : Nat → List (List Int) → List Int → Int → Option ((List (List Int)) × Int)
  | 0, _, _, _ => none
  | k + 1, x3, x1000, x1001 => if (x3.length : Int) ≤ 8 then (if x3.length < 5864062014805 then (spec_l91Rows.l1 k (x3 ++ [(([1, 2, 3, 4] : List Int))]) x1000 x1001) else (none)) else (some (x3, x1001))
end
def spec_l91Rows.f (k : Nat) (s0_0 : List Int) (s0_1 : Int) : Option ((List (List Int)) × Int) := (spec_l6Rd_pick.f k s0_0 s0_1 6).bind fun bt404 => (spec_l91Rows.l0 k (([] : List (List Int))) bt404.1 s0_0 bt404.2)
def spec_l91Rows.T7 : Bool × List (List Nat × List Nat) := (true, [([], []), ([0], [0]), ([1], [1]), ([], []), ([3], [3]), ([2, 4, 4], [2, 4]), ([], []), ([6], [6]), ([7], [7]), ([], []), ([9, 5], [9]), ([8, 10, 10], [8, 10]), ([5, 11, 11], [5, 11]), ([12, 12, 0, 1, 2, 3, 4, 5, 6, 7, 8, 9, 10, 11, 12], [12])])
def spec_l91Rows.B7 : List Nat := [0, 1, 3, 0, 8, 31, 0, 64, 192, 0, 575, 2047, 4095, 8191]
theorem spec_l91Rows.tab7 : rtab .any (opsOf Try.f63 7) = spec_l91Rows.T7 := by kernel_rfl
theorem spec_l91Rows.bits7 : waitsOk spec_l91Rows.T7.2 spec_l91Rows.B7 = true := by kernel_rfl
set_option maxHeartbeats 8000000 in
set_option maxRecDepth 100000 in
theorem spec_l91Rows.calls (k : Nat) (g : Nat) (s0_0 : List Int) (s0_1 : Int) (r1 : List (List Int)) (r2 : Int) (w0 w : World) (hI : IsS92 w0 w g s0_0 s0_1) (hB : Below w0.heap.size w0 w) (h : spec_l91Rows.f k s0_0 s0_1 = some (r1, r2)) :
  Calls Try.prog 63 #[.pointer (some ⟨g, 0, none⟩)] w fun e w' => ∃ v0_ : Value, e = .returned (v0_) ∧ Kd.N (Kd.slice 3 (Kd.int .i64)) 28 w' w.heap.size (fun k_ => (w.heap.size ≤ k_)) v0_ r1 ∧ IsS92 w0 w' g s0_0 r2 ∧ Below w0.heap.size w0 w' ∧ KeepBut w w' g none := by
 have HI0 := Aside0.mk hI
 have HK := Aside0.mk (KeepBut.refl w g none)
 have HL := Aside0.mk hB.size
 clear hI
 have HW0 := Aside0.mk hB.size
 have HB := Aside0.mk hB
 clear hB
 have H : ((spec_l6Rd_pick.f k s0_0 s0_1 6).bind fun bt404 => (spec_l91Rows.l0 k (([] : List (List Int))) bt404.1 s0_0 bt404.2)) = some (r1, r2) := h
 clear h
 obtain ⟨y401, hy401⟩ : ∃ y_ : List (List Int), y_ = (([] : List (List Int))) := ⟨_, rfl⟩
 replace H : ((spec_l6Rd_pick.f k s0_0 s0_1 6).bind fun bt404 => (spec_l91Rows.l0 k y401 bt404.1 s0_0 bt404.2)) = some (r1, r2) := by first | (rw [hy401]; with_reducible exact H) | (have H2_ := (Option.bind_some _ _).symm.trans H; rw [hy401]; with_reducible exact H2_) | (have H2_ := (Option.bind_some _ _).symm.trans H; with_reducible exact H2_) | with_reducible exact H | (rw [hy401]; exact H) | exact H
 have Ny401 := Aside0.mk hy401
 clear hy401
 replace H := Option.bind_eq_some_iff.mp H
 obtain ⟨⟨t404, t405⟩, A20, H⟩ := H
 replace H : (spec_l91Rows.l0 k y401 t404 s0_0 t405) = some (r1, r2) := H
 have A2 := Aside0.mk A20
 clear A20
 have H' := Aside0.mk H
 clear H
 go_enter Try.func63, Try.ntmps63
 go_wp2_with (first | ((with_reducible refine gate_dst (N := 6) rfl ?_); refine Kd.N_lit (Kd.slice 3 (Kd.int .i64)) _ 28 ?hg (N' := 6) ?hd (xs := ([] : List (List Int))) (inner := []) (ok := (fun k_ => (w.heap.size ≤ k_) ∧ k_ ≠ g)) (okp := (fun k_ => (w.heap.size ≤ k_) ∧ k_ ≠ g)) ?hr ?hp (fun _ hk => hk) ((show ∀ k_, w.heap.size ≤ k_ → (fun k_ => (w.heap.size ≤ k_) ∧ k_ ≠ g) k_ from fun k_ hk => ⟨(Nat.le_trans (keep_size (w := w) (g := g) (row := none) z15_0) hk), IsS92.fresh z15_1 k_ hk⟩) _ (Nat.le_refl _)) (Below.refl _ _) (Nat.le_refl _) (by simp) ?_; (case hd => rfl); (case hg => rfl); (case hr => first | (go_simp; done) | (go_simp; rfl)); (case hp => exact (Reps.none _ _)); intro v402 w3 ho4 hb hg_ hnew_; clear hg_ hnew_; (first | rw [← Ny401.out] at ho4 | (simp only [Int.reduceToNat] at ho4; rw [← Ny401.out] at ho4)); have n0_ := Aside0.mk (Kd.N_lower ho4 (keep_size (w := w) (g := g) (row := none) z15_0)); have n1_ := Aside0.mk (IsS92.below z15_1 hb); have n2_ := Aside0.mk (KeepBut.trans z15_0 (KeepBut.of_below hb g none) (.inl rfl)); have n3_ := Aside0.mk (below_step z15_2 hb); clear HI0; clear HK; clear HB; have HO403 := n0_; have HI0 := n1_; have HK := n2_; have HB := n3_; clear n0_ n1_ n2_ n3_; clear hb ho4) | ((with_reducible refine gate_callee (f := 65) rfl ?_); refine goesL_ (some 8) rfl rfl Try.func65 (by kernel_rfl) rfl #[.pointer (some ⟨g, 0, none⟩), .int .i64 6] rfl z15_4 ?_; (with_reducible refine (spec_l6Rd_pick.calls k g s0_0 s0_1 6 t404 t405 w0 _ ?side1 ?side2 A2.out).mono ?_); (case side1 => repeat (first | (with_reducible first | exact HI0.out | apply IsS92.alloc | apply IsS92.drewN | apply IsS92.drew | apply IsS92.set_1) | exact HI0.out)); (case side2 => repeat (first | (with_reducible first | exact HB.out | apply below_alloc | apply pw_below_drewN | apply below_drew1 | refine below_set ?_ (IsS92.ge HI0.out)) | exact HB.out)); rintro e w5 ⟨rfl, hi, hb, hk⟩; refine ⟨_, rfl, ?_⟩; have n0_ := Aside0.mk (Kd.N_mono (Kd.N_keep (Kd.N_mono (ok := fun k_ => (((w.heap.size ≤ k_)) ∧ k_ ≠ g)) (by (with_reducible repeat (first | apply Kd.N_alloc | apply Kd.N_drewN | apply Kd.N_drew)); exact HO403.out) (fun k_ hk_ => (⟨hk_, hk_.2⟩ : _ ∧ k_ ≠ g))) hk (fun _ h => h.2)) (fun _ h => h.1)); have n1_ := Aside0.mk (KeepBut.trans z15_0 hk (.inl rfl)); have n2_ := Aside0.mk (hb); have n3_ := Aside0.mk (hi); clear HO403; clear HK; clear HB; clear HI0; have HO403 := n0_; have HK := n1_; have HB := n2_; have HI0 := n3_; clear n0_ n1_ n2_ n3_; (try clear hb); (try clear hb2); (try clear hk); (try clear hi)))
 go_loopg [3, 4] k (fun kq v3 v4 w' => ∃ (x3_1 : List (List Int)) (x4_1 : Int) (x1001_1 : Int), v4 = .int .i64 x4_1 ∧ Aside0 (spec_l91Rows.l0 kq x3_1 x4_1 s0_0 x1001_1 = some (r1, r2)) ∧ Aside0 (kq ≤ k) ∧ Aside0 (Kd.N (Kd.slice 3 (Kd.int .i64)) 28 w' w.heap.size (fun k_ => (w.heap.size ≤ k_) ∧ k_ ≠ g) v3 x3_1) ∧ Aside0 (IsS92 w0 w' g s0_0 x1001_1) ∧ Aside0 (KeepBut w w' g none) ∧ Aside0 (Below w0.heap.size w0 w'))
 case atStart => exact ⟨(y401), (t404), (t405), z15_14, H', ⟨Nat.le_refl _⟩, ⟨by (with_reducible repeat (first | apply Kd.N_alloc | apply Kd.N_drewN | apply Kd.N_drew)); exact HO403.out⟩, ⟨z15_1⟩, ⟨z15_0⟩, ⟨z15_2⟩⟩
 case round =>
  clear H'
  obtain ⟨x3_1, x4_1, x1001_1, rfl, HA, HK1, HO_3, HI0, HK, HB⟩ := hrel
  cases gk with
  | zero => exact absurd HA.out (by simp [spec_l91Rows.l0])
  | succ k1 =>
   have H := HA.out
   clear HA
   simp only [spec_l91Rows.l0] at H
   by_cases c6 : x4_1 > 0
   ·rw [if_pos c6] at H
    have c6b0 : decide (0 < x4_1) = true := decide_eq_true c6
    clear c6
    replace H := Option.bind_eq_some_iff.mp H
    obtain ⟨⟨t406, t409⟩, A70, H⟩ := H
    replace H : (if (x3_1.length : Int) > 1 then ((spec_l6Rd_pick.f k1 s0_0 t409 3).bind fun bt410 => (if bt410.1 = 0 then (if 0 < (x3_1.length : Int) then ((spec_VecOk.f k1 (rd_L1 x3_1 0)).bind fun t413 => (if t413 = true then (if 1 < (x3_1.length : Int) then ((spec_VecOk.f k1 (rd_L1 x3_1 1)).bind fun t415 => (spec_l91Rows.j1 k1 x3_1 x4_1 t406 t415 s0_0 bt410.2)) else (none)) else (spec_l91Rows.j1 k1 x3_1 x4_1 t406 false s0_0 bt410.2))) else (none)) else (spec_l91Rows.j1 k1 x3_1 x4_1 t406 false s0_0 bt410.2))) else (spec_l91Rows.j1 k1 x3_1 x4_1 t406 false s0_0 t409)) = some (r1, r2) := H
    have A7 := Aside0.mk A70
    clear A70
    have HC8 := Aside0.mk H
    clear H
    go_upto_region 6 with (first | ((with_reducible refine gate_callee (f := 85) rfl ?_); refine goesL_ (some 14) rfl rfl Try.func85 (by kernel_rfl) rfl #[.pointer (some ⟨g, 0, none⟩)] rfl z15_4 ?_; (with_reducible refine (spec_l91Vec.calls k1 g s0_0 x1001_1 t406 t409 w0 _ ?side1 ?side2 A7.out).mono ?_); (case side1 => repeat (first | (with_reducible first | exact HI0.out | apply IsS92.alloc | apply IsS92.drewN | apply IsS92.drew | apply IsS92.set_1) | exact HI0.out)); (case side2 => repeat (first | (with_reducible first | exact HB.out | apply below_alloc | apply pw_below_drewN | apply below_drew1 | refine below_set ?_ (IsS92.ge HI0.out)) | exact HB.out)); rintro e w9 ⟨v407, rfl, ho0, hi, hb, hk⟩; refine ⟨_, rfl, ?_⟩; have n0_ := Aside0.mk (Kd.N_mono (Kd.N_told (Kd.N_oldK (Kd.N_mono (ok := fun k_ => (((w.heap.size ≤ k_)) ∧ k_ ≠ g)) z15_3 (fun k_ hk_ => (⟨hk_, hk_.2⟩ : _ ∧ k_ ≠ g))) hk) (Kd.Q_base ho0)) (fun _ h_ => h_.1)); have n1_ := Aside0.mk (Kd.Q_lower (Kd.Q_newM (M := fun k_ => (w.heap.size ≤ k_)) ho0 (keep_size (w := w) (g := g) (row := none) z15_0) (fun k_ h_ => h_)) (keep_size (w := w) (g := g) (row := none) z15_0)); have n2_ := Aside0.mk (KeepBut.trans z15_0 hk (.inl rfl)); have n3_ := Aside0.mk (hb); have n4_ := Aside0.mk (hi); clear HO_3; clear HK; clear HB; clear HI0; have HO_3 := n0_; have HO408 := n1_; have HK := n2_; have HB := n3_; have HI0 := n4_; clear n0_ n1_ n2_ n3_ n4_; (try clear hb); (try clear hb2); (try clear hk); (try clear hi); (try clear ho0)))
    (try simp only [Act.put, List.setIfInBounds_toArray, List.set_cons_zero, List.set_cons_succ])
    go_cut [34] (fun v34 wc => ∃ (kq : Nat) (x34_7 : Bool) (x1001_7 : Int), v34 = .bool x34_7 ∧ Aside0 (spec_l91Rows.j1 kq x3_1 x4_1 t406 x34_7 s0_0 x1001_7 = some (r1, r2)) ∧ Aside0 (kq ≤ k1) ∧ Aside0 (Kd.N (Kd.slice 3 (Kd.int .i64)) 28 wc w.heap.size (fun k_ => (w.heap.size ≤ k_) ∧ some k_ ≠ (v407 : Value).ownBlock ∧ k_ ≠ g) u3 x3_1) ∧ Aside0 (Kd.Q (Kd.int .i64) 3 wc w.heap.size (fun k_ => (w.heap.size ≤ k_)) v407 t406) ∧ Aside0 (IsS92 w0 wc g s0_0 x1001_7) ∧ Aside0 (KeepBut w wc g none) ∧ Aside0 (Below w0.heap.size w0 wc))
    case first =>
     have H := HC8.out
     clear HC8
     by_cases c10 : (x3_1.length : Int) > 1
     ·rw [if_pos c10] at H
      have c10b0 : decide (1 < (x3_1.length : Int)) = true := decide_eq_true c10
      have c10b1 : decide (1 < x3_1.length) = true := decide_eq_true (by omega)
      clear c10
      (first | rw [c10b0] | (simp only [i64_w, i32_w]; rw [c10b0]) | skip)
      replace H := Option.bind_eq_some_iff.mp H
      obtain ⟨⟨t410, t411⟩, A110, H⟩ := H
      replace H : (if t410 = 0 then (if 0 < (x3_1.length : Int) then ((spec_VecOk.f k1 (rd_L1 x3_1 0)).bind fun t413 => (if t413 = true then (if 1 < (x3_1.length : Int) then ((spec_VecOk.f k1 (rd_L1 x3_1 1)).bind fun t415 => (spec_l91Rows.j1 k1 x3_1 x4_1 t406 t415 s0_0 t411)) else (none)) else (spec_l91Rows.j1 k1 x3_1 x4_1 t406 false s0_0 t411))) else (none)) else (spec_l91Rows.j1 k1 x3_1 x4_1 t406 false s0_0 t411)) = some (r1, r2) := H
      have A11 := Aside0.mk A110
      clear A110
      by_cases c12 : t410 = 0
      ·rw [if_pos c12] at H
       have c12b0 : (t410 == 0) = true := beq_iff_eq.mpr c12
       have c12b1 : (t410 != 0) = false := bne_eq_false_iff_eq.mpr c12
       clear c12
       by_cases c13 : 0 < (x3_1.length : Int)
       ·rw [if_pos c13] at H
        have c13b0 : decide (0 < (x3_1.length : Int)) = true := decide_eq_true c13
        have c13b1 : decide (0 < x3_1.length) = true := decide_eq_true (by omega)
        clear c13
        replace H := Option.bind_eq_some_iff.mp H
        obtain ⟨t413, A140, H⟩ := H
        replace H : (if t413 = true then (if 1 < (x3_1.length : Int) then ((spec_VecOk.f k1 (rd_L1 x3_1 1)).bind fun t415 => (spec_l91Rows.j1 k1 x3_1 x4_1 t406 t415 s0_0 t411)) else (none)) else (spec_l91Rows.j1 k1 x3_1 x4_1 t406 false s0_0 t411)) = some (r1, r2) := H
        have A14 := Aside0.mk A140
        clear A140
        by_cases c15 : t413 = true
        ·subst c15
         have H1 : (if 1 < (x3_1.length : Int) then ((spec_VecOk.f k1 (rd_L1 x3_1 1)).bind fun t415 => (spec_l91Rows.j1 k1 x3_1 x4_1 t406 t415 s0_0 t411)) else (none)) = some (r1, r2) := by rw [if_pos rfl] at H; exact H
         clear H
         have H := H1
         clear H1
         by_cases c16 : 1 < (x3_1.length : Int)
         ·rw [if_pos c16] at H
          have c16b0 : decide (1 < (x3_1.length : Int)) = true := decide_eq_true c16
          have c16b1 : decide (1 < x3_1.length) = true := decide_eq_true (by omega)
          clear c16
          replace H := Option.bind_eq_some_iff.mp H
          obtain ⟨t415, A170, H⟩ := H
          replace H : (spec_l91Rows.j1 k1 x3_1 x4_1 t406 t415 s0_0 t411) = some (r1, r2) := H
          have A17 := Aside0.mk A170
          clear A170
          have H' := Aside0.mk H
          clear H
          obtain ⟨Ao18, co18, eo18⟩ := Kd.N_slice HO_3.out
          subst eo18
          go_wp2_with (first | (go_at_call 65; (with_reducible refine (spec_l6Rd_pick.calls k1 g s0_0 t409 3 t410 t411 w0 _ ?side1 ?side2 A11.out).mono ?_); (case side1 => repeat (first | (with_reducible first | exact HI0.out | apply IsS92.alloc | apply IsS92.drewN | apply IsS92.drew | apply IsS92.set_1) | exact HI0.out)); (case side2 => repeat (first | (with_reducible first | exact HB.out | apply below_alloc | apply pw_below_drewN | apply below_drew1 | refine below_set ?_ (IsS92.ge HI0.out)) | exact HB.out)); rintro e w19 ⟨rfl, hi, hb, hk⟩; have n0_ := Aside0.mk (Kd.N_mono (Kd.N_keep (Kd.N_mono (ok := fun k_ => ((((w.heap.size ≤ k_)) ∧ k_ ≠ g) ∧ some k_ ≠ (v407 : Value).ownBlock)) z15_3 (fun k_ hk_ => (⟨hk_, hk_.1.2⟩ : _ ∧ k_ ≠ g))) hk (fun _ h => h.2)) (fun _ h => h.1)); have n1_ := Aside0.mk (Kd.Q_mono (Kd.Q_keep (IsS92.apartQ (show IsS92 w0 _ g s0_0 t409 from by repeat (first | (with_reducible first | exact HI0.out | apply IsS92.alloc | apply IsS92.drewN | apply IsS92.drew | apply IsS92.set_1) | exact HI0.out)) z15_15 (by decide)) hk (fun _ h => h.2)) (fun _ h => h.1)); have n2_ := Aside0.mk (KeepBut.trans z15_0 hk (.inl rfl)); have n3_ := Aside0.mk (hb); have n4_ := Aside0.mk (hi); clear HO_3; clear HO408; clear HK; clear HB; clear HI0; have HO_3 := n0_; have HO408 := n1_; have HK := n2_; have HB := n3_; have HI0 := n4_; clear n0_ n1_ n2_ n3_ n4_; (try clear hb); (try clear hb2); (try clear hk); (try clear hi); have p412 : 0 ≤ (0 : Int) := (by omega); have q412 : 0 < (x3_1.length : Int) := of_decide_eq_true z15_11; obtain ⟨ad412, A412_0, c412_0, e412, hx412_0, hl412_0, hi412_0⟩ := at_L1 (Kd.N_reads' HO_3.out).2.2 0 p412 q412; cases e412; obtain ⟨ce412, hce412, hMe412, hcc412⟩ := Kd.N_get HO_3.out [] 0 p412 (by first | exact q412 | exact of_decide_eq_true z15_11 | (have e_ := (Kd.N_reads' HO_3.out).1; omega)); obtain ⟨ua412_0, uc412_0, rfl, ul412_0, ge412_0⟩ := Kd.FK_slice_open hMe412; have hv412_0 := hcc412 0 _ rfl; rw [Nat.add_zero, show ((Kd.slice 3 (Kd.int .i64))).sz = 1 from rfl, Nat.mul_one] at hv412_0; replace hv412_0 := Option.some.inj (hv412_0.symm.trans hx412_0); injection hv412_0 with hva_ hvn_ hvc_; rw [hva_] at ge412_0; rw [hvc_] at ul412_0; have HL412_0 := Aside0.mk (show Kd.V (Kd.int .i64) 3 _ w.heap.size _ _ (rd_L1 x3_1 0) from Kd.V_mk ul412_0 ge412_0); clear hva_ hvn_ hvc_ ge412_0 ul412_0; clear hcc412 hce412; have qi412 : (0 < x3_1.length) = True := eq_true (by omega); (try rw [show ((0 : Int)).toNat = 0 from rfl] at hx412_0); (try rw [Addr.add_zero'] at hx412_0); have HR412_0 := Aside0.mk hi412_0; have HC412_0 := Aside0.mk hl412_0; clear hi412_0 hl412_0; replace p412 := eq_true p412; replace q412 := eq_true q412) | (go_at_call 43; (with_reducible refine (spec_VecOk.calls k1 _ _ (rd_L1 x3_1 0) true _ ?side1 ?side2 A14.out).mono ?_); (case side1 => repeat (first | exact z15_16 | (with_reducible refine Kd.C_alloc ?_ _) | (with_reducible refine Kd.C_drewN ?_ _) | (with_reducible refine Kd.C_drew ?_))); (case side2 => exact HC412_0.out); rintro e w' ⟨rfl, ⟨nd, rfl⟩⟩; have p414 : 0 ≤ (1 : Int) := (by omega); have q414 : 1 < (x3_1.length : Int) := of_decide_eq_true z15_11; obtain ⟨ad414, A414_0, c414_0, e414, hx414_0, hl414_0, hi414_0⟩ := at_L1 (Kd.N_reads' HO_3.out).2.2 1 p414 q414; obtain rfl : ad412 = ad414 := (by injection e414); obtain ⟨ce414, hce414, hMe414, hcc414⟩ := Kd.N_get HO_3.out [] 1 p414 (by first | exact q414 | exact of_decide_eq_true z15_11 | (have e_ := (Kd.N_reads' HO_3.out).1; omega)); obtain ⟨ua414_0, uc414_0, rfl, ul414_0, ge414_0⟩ := Kd.FK_slice_open hMe414; have hv414_0 := hcc414 0 _ rfl; rw [Nat.add_zero, show ((Kd.slice 3 (Kd.int .i64))).sz = 1 from rfl, Nat.mul_one] at hv414_0; replace hv414_0 := Option.some.inj (hv414_0.symm.trans hx414_0); injection hv414_0 with hva_ hvn_ hvc_; rw [hva_] at ge414_0; rw [hvc_] at ul414_0; have HL414_0 := Aside0.mk (show Kd.V (Kd.int .i64) 3 _ w.heap.size _ _ (rd_L1 x3_1 1) from Kd.V_mk ul414_0 ge414_0); clear hva_ hvn_ hvc_ ge414_0 ul414_0; clear hcc414 hce414; (try simp only [show (1 : Int).toNat = 1 from rfl, Nat.reduceMul, Nat.reduceEqDiff, Go.Addr.add, ↓reduceIte] at hx414_0); have qi414 : (1 < x3_1.length) = True := eq_true (by omega); (try rw [show ((1 : Int)).toNat = 1 from rfl] at hx414_0); have HR414_0 := Aside0.mk hi414_0; have HC414_0 := Aside0.mk hl414_0; clear hi414_0 hl414_0; replace p414 := eq_true p414; replace q414 := eq_true q414) | (go_at_call 43; (with_reducible refine (spec_VecOk.calls k1 _ _ (rd_L1 x3_1 1) t415 _ ?side1 ?side2 A17.out).mono ?_); (case side1 => repeat (first | exact (by repeat (first | (with_reducible exact HR414_0.out) | (with_reducible refine Kd.C_alloc ?_ _) | (with_reducible refine Kd.C_drewN ?_ _) | (with_reducible refine Kd.C_drew ?_) | exact HR414_0.out)) | (with_reducible refine Kd.C_alloc ?_ _) | (with_reducible refine Kd.C_drewN ?_ _) | (with_reducible refine Kd.C_drew ?_))); (case side2 => exact HC414_0.out); rintro e w' ⟨rfl, ⟨nd, rfl⟩⟩))
          go_meet
          case rel => exact ⟨_, (t415), (t411), z15_14, H', ⟨z15_17⟩, ⟨z15_10⟩, ⟨z15_12⟩, ⟨z15_1⟩, ⟨z15_0⟩, ⟨z15_2⟩⟩
         ·rw [if_neg c16] at H
          exact absurd H (by simp)
        ·replace c15 := Bool.eq_false_iff.mpr c15
         subst c15
         have H1 : (spec_l91Rows.j1 k1 x3_1 x4_1 t406 false s0_0 t411) = some (r1, r2) := by rw [if_neg (show ¬ (false = true) by decide)] at H; exact H
         clear H
         have H := H1
         clear H1
         have H' := Aside0.mk H
         clear H
         obtain ⟨Ao20, co20, eo20⟩ := Kd.N_slice HO_3.out
         subst eo20
         go_wp2_with (first | (go_at_call 65; (with_reducible refine (spec_l6Rd_pick.calls k1 g s0_0 t409 3 t410 t411 w0 _ ?side1 ?side2 A11.out).mono ?_); (case side1 => repeat (first | (with_reducible first | exact HI0.out | apply IsS92.alloc | apply IsS92.drewN | apply IsS92.drew | apply IsS92.set_1) | exact HI0.out)); (case side2 => repeat (first | (with_reducible first | exact HB.out | apply below_alloc | apply pw_below_drewN | apply below_drew1 | refine below_set ?_ (IsS92.ge HI0.out)) | exact HB.out)); rintro e w21 ⟨rfl, hi, hb, hk⟩; have n0_ := Aside0.mk (Kd.N_mono (Kd.N_keep (Kd.N_mono (ok := fun k_ => ((((w.heap.size ≤ k_)) ∧ k_ ≠ g) ∧ some k_ ≠ (v407 : Value).ownBlock)) z15_3 (fun k_ hk_ => (⟨hk_, hk_.1.2⟩ : _ ∧ k_ ≠ g))) hk (fun _ h => h.2)) (fun _ h => h.1)); have n1_ := Aside0.mk (Kd.Q_mono (Kd.Q_keep (IsS92.apartQ (show IsS92 w0 _ g s0_0 t409 from by repeat (first | (with_reducible first | exact HI0.out | apply IsS92.alloc | apply IsS92.drewN | apply IsS92.drew | apply IsS92.set_1) | exact HI0.out)) z15_15 (by decide)) hk (fun _ h => h.2)) (fun _ h => h.1)); have n2_ := Aside0.mk (KeepBut.trans z15_0 hk (.inl rfl)); have n3_ := Aside0.mk (hb); have n4_ := Aside0.mk (hi); clear HO_3; clear HO408; clear HK; clear HB; clear HI0; have HO_3 := n0_; have HO408 := n1_; have HK := n2_; have HB := n3_; have HI0 := n4_; clear n0_ n1_ n2_ n3_ n4_; (try clear hb); (try clear hb2); (try clear hk); (try clear hi); have p412 : 0 ≤ (0 : Int) := (by omega); have q412 : 0 < (x3_1.length : Int) := of_decide_eq_true z15_11; obtain ⟨ad412, A412_0, c412_0, e412, hx412_0, hl412_0, hi412_0⟩ := at_L1 (Kd.N_reads' HO_3.out).2.2 0 p412 q412; cases e412; obtain ⟨ce412, hce412, hMe412, hcc412⟩ := Kd.N_get HO_3.out [] 0 p412 (by first | exact q412 | exact of_decide_eq_true z15_11 | (have e_ := (Kd.N_reads' HO_3.out).1; omega)); obtain ⟨ua412_0, uc412_0, rfl, ul412_0, ge412_0⟩ := Kd.FK_slice_open hMe412; have hv412_0 := hcc412 0 _ rfl; rw [Nat.add_zero, show ((Kd.slice 3 (Kd.int .i64))).sz = 1 from rfl, Nat.mul_one] at hv412_0; replace hv412_0 := Option.some.inj (hv412_0.symm.trans hx412_0); injection hv412_0 with hva_ hvn_ hvc_; rw [hva_] at ge412_0; rw [hvc_] at ul412_0; have HL412_0 := Aside0.mk (show Kd.V (Kd.int .i64) 3 _ w.heap.size _ _ (rd_L1 x3_1 0) from Kd.V_mk ul412_0 ge412_0); clear hva_ hvn_ hvc_ ge412_0 ul412_0; clear hcc412 hce412; have qi412 : (0 < x3_1.length) = True := eq_true (by omega); (try rw [show ((0 : Int)).toNat = 0 from rfl] at hx412_0); (try rw [Addr.add_zero'] at hx412_0); have HR412_0 := Aside0.mk hi412_0; have HC412_0 := Aside0.mk hl412_0; clear hi412_0 hl412_0; replace p412 := eq_true p412; replace q412 := eq_true q412) | (go_at_call 43; (with_reducible refine (spec_VecOk.calls k1 _ _ (rd_L1 x3_1 0) false _ ?side1 ?side2 A14.out).mono ?_); (case side1 => repeat (first | exact z15_16 | (with_reducible refine Kd.C_alloc ?_ _) | (with_reducible refine Kd.C_drewN ?_ _) | (with_reducible refine Kd.C_drew ?_))); (case side2 => exact HC412_0.out); rintro e w' ⟨rfl, ⟨nd, rfl⟩⟩))
         go_meet
         case rel => exact ⟨_, (false), (t411), z15_14, H', ⟨z15_17⟩, ⟨z15_10⟩, ⟨z15_12⟩, ⟨z15_1⟩, ⟨z15_0⟩, ⟨z15_2⟩⟩
       ·rw [if_neg c13] at H
        exact absurd H (by simp)
      ·rw [if_neg c12] at H
       have c12b0 : (t410 == 0) = false := beq_eq_false_iff_ne.mpr c12
       have c12b1 : (t410 != 0) = true := bne_iff_ne.mpr c12
       have H' := Aside0.mk H
       clear H
       obtain ⟨Ao22, co22, eo22⟩ := Kd.N_slice HO_3.out
       subst eo22
       go_wp2_with (first | (go_at_call 65; (with_reducible refine (spec_l6Rd_pick.calls k1 g s0_0 t409 3 t410 t411 w0 _ ?side1 ?side2 A11.out).mono ?_); (case side1 => repeat (first | (with_reducible first | exact HI0.out | apply IsS92.alloc | apply IsS92.drewN | apply IsS92.drew | apply IsS92.set_1) | exact HI0.out)); (case side2 => repeat (first | (with_reducible first | exact HB.out | apply below_alloc | apply pw_below_drewN | apply below_drew1 | refine below_set ?_ (IsS92.ge HI0.out)) | exact HB.out)); rintro e w23 ⟨rfl, hi, hb, hk⟩; have n0_ := Aside0.mk (Kd.N_mono (Kd.N_keep (Kd.N_mono (ok := fun k_ => ((((w.heap.size ≤ k_)) ∧ k_ ≠ g) ∧ some k_ ≠ (v407 : Value).ownBlock)) z15_3 (fun k_ hk_ => (⟨hk_, hk_.1.2⟩ : _ ∧ k_ ≠ g))) hk (fun _ h => h.2)) (fun _ h => h.1)); have n1_ := Aside0.mk (Kd.Q_mono (Kd.Q_keep (IsS92.apartQ (show IsS92 w0 _ g s0_0 t409 from by repeat (first | (with_reducible first | exact HI0.out | apply IsS92.alloc | apply IsS92.drewN | apply IsS92.drew | apply IsS92.set_1) | exact HI0.out)) z15_15 (by decide)) hk (fun _ h => h.2)) (fun _ h => h.1)); have n2_ := Aside0.mk (KeepBut.trans z15_0 hk (.inl rfl)); have n3_ := Aside0.mk (hb); have n4_ := Aside0.mk (hi); clear HO_3; clear HO408; clear HK; clear HB; clear HI0; have HO_3 := n0_; have HO408 := n1_; have HK := n2_; have HB := n3_; have HI0 := n4_; clear n0_ n1_ n2_ n3_ n4_; (try clear hb); (try clear hb2); (try clear hk); (try clear hi)))
       go_meet
       case rel => exact ⟨_, (false), (t411), z15_14, H', ⟨z15_17⟩, ⟨z15_10⟩, ⟨z15_12⟩, ⟨z15_1⟩, ⟨z15_0⟩, ⟨z15_2⟩⟩
     ·rw [if_neg c10] at H
      have c10b0 : decide (1 < (x3_1.length : Int)) = false := decide_eq_false c10
      have c10b1 : decide (1 < x3_1.length) = false := decide_eq_false (by omega)
      clear c10
      (first | rw [c10b0] | (simp only [i64_w, i32_w]; rw [c10b0]) | skip)
      have H' := Aside0.mk H
      clear H
      obtain ⟨Ao24, co24, eo24⟩ := Kd.N_slice HO_3.out
      subst eo24
      go_wp2
      go_meet
      case rel => exact ⟨_, (false), (t409), z15_14, H', ⟨z15_17⟩, ⟨z15_10⟩, ⟨z15_12⟩, ⟨z15_1⟩, ⟨z15_0⟩, ⟨z15_2⟩⟩
    case rest =>
     clear HC8
     try clear c6
     try clear c6b0
     obtain ⟨kq, x34_7, x1001_7, rfl, HA, HJ7, HO_3, HO_5, HI0, HK, HB⟩ := hcut
     cases kq with
     | zero => exact absurd HA.out (by simp [spec_l91Rows.j1])
     | succ kj7 =>
      have H := HA.out
      clear HA
      simp only [spec_l91Rows.j1] at H
      by_cases c25 : x34_7 = true
      ·subst c25
       have H1 : (if 0 < (x3_1.length : Int) then ((spec_l6Rd_pick.f kj7 s0_0 x1001_7 31).bind fun bt417 => ((spec_l2Scale.f kj7 (rd_L1 x3_1 0) bt417.1).bind fun t419 => (if 1 < (x3_1.length : Int) then ((spec_l6Rd_pick.f kj7 s0_0 bt417.2 31).bind fun bt423 => ((spec_l2Scale.f kj7 (rd_L1 x3_1 1) bt423.1).bind fun t425 => ((spec_l2Sum.f kj7 t419 t425).bind fun t428 => (if x3_1.length < 5864062014805 then (spec_l91Rows.l0 kj7 (x3_1 ++ [t428]) (wrap64 (x4_1 - 1)) s0_0 bt423.2) else (none))))) else (none)))) else (none)) = some (r1, r2) := by rw [if_pos rfl] at H; exact H
       clear H
       have H := H1
       clear H1
       by_cases c26 : 0 < (x3_1.length : Int)
       ·rw [if_pos c26] at H
        have c26b0 : decide (0 < (x3_1.length : Int)) = true := decide_eq_true c26
        have c26b1 : decide (0 < x3_1.length) = true := decide_eq_true (by omega)
        clear c26
        replace H := Option.bind_eq_some_iff.mp H
        obtain ⟨⟨t417, t418⟩, A270, H⟩ := H
        replace H : ((spec_l2Scale.f kj7 (rd_L1 x3_1 0) t417).bind fun t419 => (if 1 < (x3_1.length : Int) then ((spec_l6Rd_pick.f kj7 s0_0 t418 31).bind fun bt423 => ((spec_l2Scale.f kj7 (rd_L1 x3_1 1) bt423.1).bind fun t425 => ((spec_l2Sum.f kj7 t419 t425).bind fun t428 => (if x3_1.length < 5864062014805 then (spec_l91Rows.l0 kj7 (x3_1 ++ [t428]) (wrap64 (x4_1 - 1)) s0_0 bt423.2) else (none))))) else (none))) = some (r1, r2) := H
        have A27 := Aside0.mk A270
        clear A270
        replace H := Option.bind_eq_some_iff.mp H
        obtain ⟨t419, A280, H⟩ := H
        replace H : (if 1 < (x3_1.length : Int) then ((spec_l6Rd_pick.f kj7 s0_0 t418 31).bind fun bt423 => ((spec_l2Scale.f kj7 (rd_L1 x3_1 1) bt423.1).bind fun t425 => ((spec_l2Sum.f kj7 t419 t425).bind fun t428 => (if x3_1.length < 5864062014805 then (spec_l91Rows.l0 kj7 (x3_1 ++ [t428]) (wrap64 (x4_1 - 1)) s0_0 bt423.2) else (none))))) else (none)) = some (r1, r2) := H
        have A28 := Aside0.mk A280
        clear A280
        by_cases c29 : 1 < (x3_1.length : Int)
        ·rw [if_pos c29] at H
         have c29b0 : decide (1 < (x3_1.length : Int)) = true := decide_eq_true c29
         have c29b1 : decide (1 < x3_1.length) = true := decide_eq_true (by omega)
         clear c29
         replace H := Option.bind_eq_some_iff.mp H
         obtain ⟨⟨t423, t424⟩, A300, H⟩ := H
         replace H : ((spec_l2Scale.f kj7 (rd_L1 x3_1 1) t423).bind fun t425 => ((spec_l2Sum.f kj7 t419 t425).bind fun t428 => (if x3_1.length < 5864062014805 then (spec_l91Rows.l0 kj7 (x3_1 ++ [t428]) (wrap64 (x4_1 - 1)) s0_0 t424) else (none)))) = some (r1, r2) := H
         have A30 := Aside0.mk A300
         clear A300
         replace H := Option.bind_eq_some_iff.mp H
         obtain ⟨t425, A310, H⟩ := H
         replace H : ((spec_l2Sum.f kj7 t419 t425).bind fun t428 => (if x3_1.length < 5864062014805 then (spec_l91Rows.l0 kj7 (x3_1 ++ [t428]) (wrap64 (x4_1 - 1)) s0_0 t424) else (none))) = some (r1, r2) := H
         have A31 := Aside0.mk A310
         clear A310
         replace H := Option.bind_eq_some_iff.mp H
         obtain ⟨t428, A320, H⟩ := H
         replace H : (if x3_1.length < 5864062014805 then (spec_l91Rows.l0 kj7 (x3_1 ++ [t428]) (wrap64 (x4_1 - 1)) s0_0 t424) else (none)) = some (r1, r2) := H
         have A32 := Aside0.mk A320
         clear A320
         by_cases c33 : x3_1.length < 5864062014805
         ·rw [if_pos c33] at H
          have LMc33 := Aside0.mk c33
          clear c33
          obtain ⟨y431, hy431⟩ : ∃ y_ : List (List Int), y_ = (x3_1 ++ [t428]) := ⟨_, rfl⟩
          replace H : (spec_l91Rows.l0 kj7 y431 (wrap64 (x4_1 - 1)) s0_0 t424) = some (r1, r2) := by first | (rw [hy431]; with_reducible exact H) | (have H2_ := (Option.bind_some _ _).symm.trans H; rw [hy431]; with_reducible exact H2_) | (have H2_ := (Option.bind_some _ _).symm.trans H; with_reducible exact H2_) | with_reducible exact H | (rw [hy431]; exact H) | exact H
          have Ny431 := Aside0.mk hy431
          clear hy431
          have H' := Aside0.mk H
          clear H
          try go_wp2
          have n0_ := Aside0.mk (Kd.N_drew HO_3.out)
          have n1_ := Aside0.mk (Kd.Q_drew HO_5.out)
          have n2_ := Aside0.mk (IsS92.drew HI0.out)
          have n3_ := Aside0.mk (keep_drew HK.out)
          have n4_ := Aside0.mk (below_drew1 HB.out)
          clear HO_3
          clear HO_5
          clear HI0
          clear HK
          clear HB
          have HO_3 := n0_
          have HO_5 := n1_
          have HI0 := n2_
          have HK := n3_
          have HB := n4_
          clear n0_ n1_ n2_ n3_ n4_
          obtain ⟨Ao35, co35, eo35⟩ := Kd.N_slice HO_3.out
          (first | subst eo35 | (injection eo35 with f1_ f2_ f3_; have f4_ := f1_.symm; have f5_ := f3_.symm; clear f1_ f2_ f3_; subst f4_; subst f5_))
          have p416 : 0 ≤ (0 : Int) := (by omega)
          have q416 : 0 < (x3_1.length : Int) := of_decide_eq_true z15_11
          obtain ⟨ad416, A416_0, c416_0, e416, hx416_0, hl416_0, hi416_0⟩ := at_L1 (Kd.N_reads' HO_3.out).2.2 0 p416 q416
          cases e416
          obtain ⟨ce416, hce416, hMe416, hcc416⟩ := Kd.N_get HO_3.out [] 0 p416 (by first | exact q416 | exact of_decide_eq_true z15_11 | (have e_ := (Kd.N_reads' HO_3.out).1; omega))
          obtain ⟨ua416_0, uc416_0, rfl, ul416_0, ge416_0⟩ := Kd.FK_slice_open hMe416
          have hv416_0 := hcc416 0 _ rfl
          rw [Nat.add_zero, show ((Kd.slice 3 (Kd.int .i64))).sz = 1 from rfl, Nat.mul_one] at hv416_0
          replace hv416_0 := Option.some.inj (hv416_0.symm.trans hx416_0)
          injection hv416_0 with hva_ hvn_ hvc_
          rw [hva_] at ge416_0
          rw [hvc_] at ul416_0
          have HL416_0 := Aside0.mk (show Kd.V (Kd.int .i64) 3 _ w.heap.size _ _ (rd_L1 x3_1 0) from Kd.V_mk ul416_0 ge416_0)
          clear hva_ hvn_ hvc_ ge416_0 ul416_0
          clear hcc416 hce416
          have qi416 : (0 < x3_1.length) = True := eq_true (by omega)
          (try rw [show ((0 : Int)).toNat = 0 from rfl] at hx416_0)
          (try rw [Addr.add_zero'] at hx416_0)
          have HR416_0 := Aside0.mk hi416_0
          have HC416_0 := Aside0.mk hl416_0
          clear hi416_0 hl416_0
          replace p416 := eq_true p416
          replace q416 := eq_true q416
          have p422 : 0 ≤ (1 : Int) := (by omega)
          have q422 : 1 < (x3_1.length : Int) := of_decide_eq_true z15_11
          obtain ⟨ad422, A422_0, c422_0, e422, hx422_0, hl422_0, hi422_0⟩ := at_L1 (Kd.N_reads' HO_3.out).2.2 1 p422 q422
          obtain rfl : ad416 = ad422 := (by injection e422)
          obtain ⟨ce422, hce422, hMe422, hcc422⟩ := Kd.N_get HO_3.out [] 1 p422 (by first | exact q422 | exact of_decide_eq_true z15_11 | (have e_ := (Kd.N_reads' HO_3.out).1; omega))
          obtain ⟨ua422_0, uc422_0, rfl, ul422_0, ge422_0⟩ := Kd.FK_slice_open hMe422
          have hv422_0 := hcc422 0 _ rfl
          rw [Nat.add_zero, show ((Kd.slice 3 (Kd.int .i64))).sz = 1 from rfl, Nat.mul_one] at hv422_0
          replace hv422_0 := Option.some.inj (hv422_0.symm.trans hx422_0)
          injection hv422_0 with hva_ hvn_ hvc_
          rw [hva_] at ge422_0
          rw [hvc_] at ul422_0
          have HL422_0 := Aside0.mk (show Kd.V (Kd.int .i64) 3 _ w.heap.size _ _ (rd_L1 x3_1 1) from Kd.V_mk ul422_0 ge422_0)
          clear hva_ hvn_ hvc_ ge422_0 ul422_0
          clear hcc422 hce422
          (try simp only [show (1 : Int).toNat = 1 from rfl, Nat.reduceMul, Nat.reduceEqDiff, Go.Addr.add, ↓reduceIte] at hx422_0)
          have qi422 : (1 < x3_1.length) = True := eq_true (by omega)
          (try rw [show ((1 : Int)).toNat = 1 from rfl] at hx422_0)
          have HR422_0 := Aside0.mk hi422_0
          have HC422_0 := Aside0.mk hl422_0
          clear hi422_0 hl422_0
          replace p422 := eq_true p422
          replace q422 := eq_true q422
          refine start_ (n := 14) (S := fun w' => w'.cell? ad416 = some (.slice A416_0 (rd_L1 x3_1 0).length c416_0) ∧ w'.cell? ⟨ad416.block, ad416.off + 1, none⟩ = some (.slice A422_0 (rd_L1 x3_1 1).length c422_0)) (ds := []) #[false, false, false, false, false, false, false, false, false, false, false, false, false, false] (by kernel_rfl) rfl rfl ⟨hx416_0, hx422_0⟩ (fun hHeld => ?_); refine with_tabW spec_l91Rows.tab7 spec_l91Rows.bits7 (fun HT_ HW_ => ?_)
          generalize wc.drew = w34 at HO_3 HO_5 HI0 HK HB HL416_0 HL422_0 HR416_0 HR422_0 hx416_0 hx422_0 hHeld ⊢
          refine pure_ (i := 0) (N := some 35) (v := ?_) (a' := ?_) #[true, false, false, false, false, false, false, false, false, false, false, false, false, false] rfl rfl (any_of HT_.out (by kernel_rfl)) (fun _ _ _ h => h) (Or.inl ⟨by rfl, ?_⟩) ?_ ?_
          rotate_left
          ·intro w'
           go_simp
           with_reducible rfl
          rotate_left
          ·simp only [Act.put, zs15, zc15, zd15, i64_w, i32_w]
           rfl
          refine pure_ (i := 1) (N := some 36) (v := ?_) (a' := ?_) #[true, true, false, false, false, false, false, false, false, false, false, false, false, false] rfl rfl (any_of HT_.out (by kernel_rfl)) (fun _ _ _ h => h) (Or.inl ⟨by rfl, ?_⟩) ?_ ?_
          rotate_left
          ·intro w'
           go_simp
           with_reducible rfl
          rotate_left
          ·simp only [Act.put, zs15, zc15, zd15, i64_w, i32_w]
           rfl
          refine pure_ (i := 3) (N := some 38) (v := ?_) (a' := ?_) #[true, true, false, true, false, false, false, false, false, false, false, false, false, false] rfl rfl (any_of HT_.out (by kernel_rfl)) (fun _ _ _ h => h) (Or.inl ⟨by rfl, ?_⟩) ?_ ?_
          rotate_left
          ·intro w'
           go_simp
           with_reducible rfl
          rotate_left
          ·simp only [Act.put, zs15, zc15, zd15, i64_w, i32_w]
           rfl
          refine pure_ (i := 6) (N := some 41) (v := ?_) (a' := ?_) #[true, true, false, true, false, false, true, false, false, false, false, false, false, false] rfl rfl (any_of HT_.out (by kernel_rfl)) (fun _ _ _ h => h) (Or.inl ⟨by rfl, ?_⟩) ?_ ?_
          rotate_left
          ·intro w'
           go_simp
           with_reducible rfl
          rotate_left
          ·simp only [Act.put, zs15, zc15, zd15, i64_w, i32_w]
           rfl
          refine pure_ (i := 7) (N := some 42) (v := ?_) (a' := ?_) #[true, true, false, true, false, false, true, true, false, false, false, false, false, false] rfl rfl (any_of HT_.out (by kernel_rfl)) (fun _ _ _ h => h) (Or.inl ⟨by rfl, ?_⟩) ?_ ?_
          rotate_left
          ·intro w'
           go_simp
           with_reducible rfl
          rotate_left
          ·simp only [Act.put, zs15, zc15, zd15, i64_w, i32_w]
           rfl
          refine pure_ (i := 9) (N := some 44) (v := ?_) (a' := ?_) #[true, true, false, true, false, false, true, true, false, true, false, false, false, false] rfl rfl (any_of HT_.out (by kernel_rfl)) (fun _ _ _ h => h) (Or.inl ⟨by rfl, ?_⟩) ?_ ?_
          rotate_left
          ·intro w'
           go_simp
           with_reducible rfl
          rotate_left
          ·simp only [Act.put, zs15, zc15, zd15, i64_w, i32_w]
           rfl
          refine take_ (i := 2) (N := some 37) (v := ?_) (a' := ?_) #[true, true, true, true, false, false, true, true, false, true, false, false, false, false] rfl rfl (take_ofW HT_.out HW_.out (by kernel_rfl)) (fun _ _ _ h => h) (Or.inl ⟨by rfl, ?_⟩) hHeld ?_ ?_
          rotate_left
          ·rintro w' ⟨s0, s1⟩
           go_simp
           with_reducible rfl
          rotate_left
          ·simp only [Act.put, zs15, zc15, zd15, i64_w, i32_w]
           rfl
          refine take_ (i := 8) (N := some 43) (v := ?_) (a' := ?_) #[true, true, true, true, false, false, true, true, true, true, false, false, false, false] rfl rfl (take_ofW HT_.out HW_.out (by kernel_rfl)) (fun _ _ _ h => h) (Or.inl ⟨by rfl, ?_⟩) hHeld ?_ ?_
          rotate_left
          ·rintro w' ⟨s0, s1⟩
           go_simp
           with_reducible rfl
          rotate_left
          ·simp only [Act.put, zs15, zc15, zd15, i64_w, i32_w]
           rfl
          refine one_ (i := 4) (N := some 39) #[true, true, true, true, true, false, true, true, true, true, false, false, false, false] rfl rfl (one_of HT_.out (by kernel_rfl)) (by decide) (fun K hK => ?_)
          refine goes_ Try.func65 (by kernel_rfl) rfl #[.pointer (some ⟨g, 0, none⟩), .int .i64 31] (by rfl) rfl rfl z15_4 ?_
          with_reducible refine (spec_l6Rd_pick.calls kj7 g s0_0 x1001_7 31 t417 t418 w0 _ ?side1 ?side2 A27.out).mono ?_
          (case side1 => repeat (first | (with_reducible first | exact HI0.out | apply IsS92.alloc | apply IsS92.drewN | apply IsS92.drew | apply IsS92.set_1) | exact HI0.out))
          (case side2 => repeat (first | (with_reducible first | exact HB.out | apply below_alloc | apply pw_below_drewN | apply below_drew1 | refine below_set ?_ (IsS92.ge HI0.out)) | exact HB.out))
          rintro e w36 ⟨rfl, hi, hb, hk⟩
          have HS0_ := keep_cell hk (hHeld.1) z15_5
          have HS1_ := keep_cell hk (hHeld.2) z15_5
          refine ⟨_, rfl, ?_⟩
          have n0_ := Aside0.mk (Kd.N_mono (Kd.N_keep (Kd.N_mono (ok := fun k_ => (((w.heap.size ≤ k_)) ∧ (some k_ ≠ (v407 : Value).ownBlock ∧ k_ ≠ g))) z15_3 (fun k_ hk_ => (⟨hk_, hk_.2.2⟩ : _ ∧ k_ ≠ g))) hk (fun _ h => h.2)) (fun _ h => h.1))
          have n1_ := Aside0.mk (Kd.Q_mono (Kd.Q_keep (IsS92.apartQ (show IsS92 w0 _ g s0_0 x1001_7 from by repeat (first | (with_reducible first | exact HI0.out | apply IsS92.alloc | apply IsS92.drewN | apply IsS92.drew | apply IsS92.set_1) | exact HI0.out)) z15_6 (by decide)) hk (fun _ h => h.2)) (fun _ h => h.1))
          have n2_ := Aside0.mk (Kd.V_mono (Kd.V_keep (Kd.V_mono (ok := fun k_ => ((((w.heap.size ≤ k_)) ∧ (some k_ ≠ (v407 : Value).ownBlock ∧ k_ ≠ g)) ∧ some k_ ≠ (.slice (some ad416) x3_1.length co35 : Value).ownBlock)) z15_8 (fun k_ hk_ => (⟨hk_, hk_.1.2.2⟩ : _ ∧ k_ ≠ g))) hk (fun _ h => h.2)) (fun _ h => h.1))
          have n3_ := Aside0.mk (Kd.V_mono (Kd.V_keep (Kd.V_mono (ok := fun k_ => ((((w.heap.size ≤ k_)) ∧ (some k_ ≠ (v407 : Value).ownBlock ∧ k_ ≠ g)) ∧ some k_ ≠ (.slice (some ad416) x3_1.length co35 : Value).ownBlock)) z15_9 (fun k_ hk_ => (⟨hk_, hk_.1.2.2⟩ : _ ∧ k_ ≠ g))) hk (fun _ h => h.2)) (fun _ h => h.1))
          have n4_ := Aside0.mk (KeepBut.trans z15_0 hk (.inl rfl))
          have n5_ := Aside0.mk (hb)
          have n6_ := Aside0.mk (hi)
          clear HO_3
          clear HO_5
          clear HL416_0
          clear HL422_0
          clear HK
          clear HB
          clear HI0
          have HO_3 := n0_
          have HO_5 := n1_
          have HL416_0 := n2_
          have HL422_0 := n3_
          have HK := n4_
          have HB := n5_
          have HI0 := n6_
          clear n0_ n1_ n2_ n3_ n4_ n5_ n6_
          (try clear hb)
          (try clear hb2)
          (try clear hk)
          (try clear hi)
          refine hK.out _ _ ⟨HS0_, HS1_⟩ (fun hHeld => ?_)
          clear hK K
          refine norm_ (a' := ?_) ?_ ?_
          rotate_left
          ·show Act.put _ (some 39) _ = _
           simp only [Act.put, zs15, zc15, zd15, i64_w, i32_w]
           rfl
          refine one_ (i := 5) (N := some 40) #[true, true, true, true, true, true, true, true, true, true, false, false, false, false] rfl rfl (one_of HT_.out (by kernel_rfl)) (by decide) (fun K hK => ?_)
          refine goes_ Try.func79 (by kernel_rfl) rfl #[.slice A416_0 (rd_L1 x3_1 0).length c416_0, .int .i64 t417] (by rfl) rfl rfl z15_4 ?_
          with_reducible refine (spec_l2Scale.calls kj7 _ _ (rd_L1 x3_1 0) t417 t419 _ ?side1 ?side2 A28.out).mono ?_
          (case side1 => repeat (first | exact ((Kd.V_reads' z15_8).2.2) | (with_reducible refine Kd.C_alloc ?_ _) | (with_reducible refine Kd.C_drewN ?_ _) | (with_reducible refine Kd.C_drew ?_)))
          (case side2 => exact HC416_0.out)
          rintro e w37 ⟨v420, rfl, ho0, hb⟩
          have HS0_ := (hb.cell (World.block_lt_of_cell? _ _ (hHeld.1))).trans (hHeld.1)
          have HS1_ := (hb.cell (World.block_lt_of_cell? _ _ (hHeld.2))).trans (hHeld.2)
          refine ⟨_, rfl, ?_⟩
          have n0_ := Aside0.mk (Kd.N_elder' z15_3 (Kd.R_base ho0) hb)
          have n1_ := Aside0.mk (Kd.Q_elder' z15_6 (Kd.R_base ho0) hb)
          have n2_ := Aside0.mk (Kd.V_elder' z15_8 (Kd.R_base ho0) hb)
          have n3_ := Aside0.mk (Kd.V_elder' z15_9 (Kd.R_base ho0) hb)
          have n4_ := Aside0.mk (Kd.R_lower (Kd.R_new' (Kd.R_newM (M := fun k_ => (w.heap.size ≤ k_)) ho0 (keep_size (w := w) (g := g) (row := none) z15_0) (fun k_ h_ => h_)) (Kd.Q_lt z15_6)) (keep_size (w := w) (g := g) (row := none) z15_0))
          have n5_ := Aside0.mk (IsS92.below z15_1 hb)
          have n6_ := Aside0.mk (KeepBut.trans z15_0 (KeepBut.of_below hb g none) (.inl rfl))
          have n7_ := Aside0.mk (below_step z15_2 hb)
          clear HO_3
          clear HO_5
          clear HL416_0
          clear HL422_0
          clear HI0
          clear HK
          clear HB
          have HO_3 := n0_
          have HO_5 := n1_
          have HL416_0 := n2_
          have HL422_0 := n3_
          have HO421 := n4_
          have HI0 := n5_
          have HK := n6_
          have HB := n7_
          clear n0_ n1_ n2_ n3_ n4_ n5_ n6_ n7_
          (try clear hb)
          (try clear hb2)
          (try clear hk)
          (try clear hi)
          (try clear ho0)
          refine hK.out _ _ ⟨HS0_, HS1_⟩ (fun hHeld => ?_)
          clear hK K
          refine norm_ (a' := ?_) ?_ ?_
          rotate_left
          ·show Act.put _ (some 40) _ = _
           simp only [Act.put, zs15, zc15, zd15, i64_w, i32_w]
           rfl
          refine one_ (i := 10) (N := some 45) #[true, true, true, true, true, true, true, true, true, true, true, false, false, false] rfl rfl (one_of HT_.out (by kernel_rfl)) (by decide) (fun K hK => ?_)
          refine goes_ Try.func65 (by kernel_rfl) rfl #[.pointer (some ⟨g, 0, none⟩), .int .i64 31] (by rfl) rfl rfl z15_4 ?_
          with_reducible refine (spec_l6Rd_pick.calls kj7 g s0_0 t418 31 t423 t424 w0 _ ?side1 ?side2 A30.out).mono ?_
          (case side1 => repeat (first | (with_reducible first | exact HI0.out | apply IsS92.alloc | apply IsS92.drewN | apply IsS92.drew | apply IsS92.set_1) | exact HI0.out))
          (case side2 => repeat (first | (with_reducible first | exact HB.out | apply below_alloc | apply pw_below_drewN | apply below_drew1 | refine below_set ?_ (IsS92.ge HI0.out)) | exact HB.out))
          rintro e w38 ⟨rfl, hi, hb, hk⟩
          have HS0_ := keep_cell hk (hHeld.1) z15_5
          have HS1_ := keep_cell hk (hHeld.2) z15_5
          refine ⟨_, rfl, ?_⟩
          have n0_ := Aside0.mk (Kd.N_mono (Kd.N_keep (Kd.N_mono (ok := fun k_ => ((((w.heap.size ≤ k_)) ∧ (some k_ ≠ (v407 : Value).ownBlock ∧ k_ ≠ g)) ∧ some k_ ≠ (v420 : Value).ownBlock)) z15_3 (fun k_ hk_ => (⟨hk_, hk_.1.2.2⟩ : _ ∧ k_ ≠ g))) hk (fun _ h => h.2)) (fun _ h => h.1))
          have n1_ := Aside0.mk (Kd.Q_mono (Kd.Q_keep (IsS92.apartQ (show IsS92 w0 _ g s0_0 t418 from by repeat (first | (with_reducible first | exact HI0.out | apply IsS92.alloc | apply IsS92.drewN | apply IsS92.drew | apply IsS92.set_1) | exact HI0.out)) z15_6 (by decide)) hk (fun _ h => h.2)) (fun _ h => h.1))
          have n2_ := Aside0.mk (Kd.V_mono (Kd.V_keep (Kd.V_mono (ok := fun k_ => (((((w.heap.size ≤ k_)) ∧ (some k_ ≠ (v407 : Value).ownBlock ∧ k_ ≠ g)) ∧ some k_ ≠ (.slice (some ad416) x3_1.length co35 : Value).ownBlock) ∧ some k_ ≠ (v420 : Value).ownBlock)) z15_8 (fun k_ hk_ => (⟨hk_, hk_.1.1.2.2⟩ : _ ∧ k_ ≠ g))) hk (fun _ h => h.2)) (fun _ h => h.1))
          have n3_ := Aside0.mk (Kd.V_mono (Kd.V_keep (Kd.V_mono (ok := fun k_ => (((((w.heap.size ≤ k_)) ∧ (some k_ ≠ (v407 : Value).ownBlock ∧ k_ ≠ g)) ∧ some k_ ≠ (.slice (some ad416) x3_1.length co35 : Value).ownBlock) ∧ some k_ ≠ (v420 : Value).ownBlock)) z15_9 (fun k_ hk_ => (⟨hk_, hk_.1.1.2.2⟩ : _ ∧ k_ ≠ g))) hk (fun _ h => h.2)) (fun _ h => h.1))
          have n4_ := Aside0.mk (Kd.R_mono (Kd.R_keep (IsS92.apart (show IsS92 w0 _ g s0_0 t418 from by repeat (first | (with_reducible first | exact HI0.out | apply IsS92.alloc | apply IsS92.drewN | apply IsS92.drew | apply IsS92.set_1) | exact HI0.out)) z15_7 (by decide)) hk (fun _ h => h.2)) (fun _ h => h.1))
          have n5_ := Aside0.mk (KeepBut.trans z15_0 hk (.inl rfl))
          have n6_ := Aside0.mk (hb)
          have n7_ := Aside0.mk (hi)
          clear HO_3
          clear HO_5
          clear HL416_0
          clear HL422_0
          clear HO421
          clear HK
          clear HB
          clear HI0
          have HO_3 := n0_
          have HO_5 := n1_
          have HL416_0 := n2_
          have HL422_0 := n3_
          have HO421 := n4_
          have HK := n5_
          have HB := n6_
          have HI0 := n7_
          clear n0_ n1_ n2_ n3_ n4_ n5_ n6_ n7_
          (try clear hb)
          (try clear hb2)
          (try clear hk)
          (try clear hi)
          refine hK.out _ _ ⟨HS0_, HS1_⟩ (fun hHeld => ?_)
          clear hK K
          refine norm_ (a' := ?_) ?_ ?_
          rotate_left
          ·show Act.put _ (some 45) _ = _
           simp only [Act.put, zs15, zc15, zd15, i64_w, i32_w]
           rfl
          refine one_ (i := 11) (N := some 46) #[true, true, true, true, true, true, true, true, true, true, true, true, false, false] rfl rfl (one_of HT_.out (by kernel_rfl)) (by decide) (fun K hK => ?_)
          refine goes_ Try.func79 (by kernel_rfl) rfl #[.slice A422_0 (rd_L1 x3_1 1).length c422_0, .int .i64 t423] (by rfl) rfl rfl z15_4 ?_
          with_reducible refine (spec_l2Scale.calls kj7 _ _ (rd_L1 x3_1 1) t423 t425 _ ?side1 ?side2 A31.out).mono ?_
          (case side1 => repeat (first | exact ((Kd.V_reads' z15_9).2.2) | (with_reducible refine Kd.C_alloc ?_ _) | (with_reducible refine Kd.C_drewN ?_ _) | (with_reducible refine Kd.C_drew ?_)))
          (case side2 => exact HC422_0.out)
          rintro e w39 ⟨v426, rfl, ho0, hb⟩
          have HS0_ := (hb.cell (World.block_lt_of_cell? _ _ (hHeld.1))).trans (hHeld.1)
          have HS1_ := (hb.cell (World.block_lt_of_cell? _ _ (hHeld.2))).trans (hHeld.2)
          refine ⟨_, rfl, ?_⟩
          have n0_ := Aside0.mk (Kd.N_elder' z15_3 (Kd.R_base ho0) hb)
          have n1_ := Aside0.mk (Kd.Q_elder' z15_6 (Kd.R_base ho0) hb)
          have n2_ := Aside0.mk (Kd.V_elder' z15_8 (Kd.R_base ho0) hb)
          have n3_ := Aside0.mk (Kd.V_elder' z15_9 (Kd.R_base ho0) hb)
          have n4_ := Aside0.mk (Kd.R_elder' z15_7 (Kd.R_base ho0) hb)
          have n5_ := Aside0.mk (Kd.R_lower (Kd.R_new' (Kd.R_new' (Kd.R_newM (M := fun k_ => (w.heap.size ≤ k_)) ho0 (keep_size (w := w) (g := g) (row := none) z15_0) (fun k_ h_ => h_)) (Kd.Q_lt z15_6)) (Kd.R_lt z15_7)) (keep_size (w := w) (g := g) (row := none) z15_0))
          have n6_ := Aside0.mk (IsS92.below z15_1 hb)
          have n7_ := Aside0.mk (KeepBut.trans z15_0 (KeepBut.of_below hb g none) (.inl rfl))
          have n8_ := Aside0.mk (below_step z15_2 hb)
          clear HO_3
          clear HO_5
          clear HL416_0
          clear HL422_0
          clear HO421
          clear HI0
          clear HK
          clear HB
          have HO_3 := n0_
          have HO_5 := n1_
          have HL416_0 := n2_
          have HL422_0 := n3_
          have HO421 := n4_
          have HO427 := n5_
          have HI0 := n6_
          have HK := n7_
          have HB := n8_
          clear n0_ n1_ n2_ n3_ n4_ n5_ n6_ n7_ n8_
          (try clear hb)
          (try clear hb2)
          (try clear hk)
          (try clear hi)
          (try clear ho0)
          obtain ⟨Ao40, co40, eo40⟩ := Kd.R_slice HO421.out
          (first | subst eo40 | (injection eo40 with f1_ f2_ f3_; have f4_ := f1_.symm; have f5_ := f3_.symm; clear f1_ f2_ f3_; subst f4_; subst f5_))
          obtain ⟨Ao41, co41, eo41⟩ := Kd.R_slice HO427.out
          (first | subst eo41 | (injection eo41 with f1_ f2_ f3_; have f4_ := f1_.symm; have f5_ := f3_.symm; clear f1_ f2_ f3_; subst f4_; subst f5_))
          refine hK.out _ _ ⟨HS0_, HS1_⟩ (fun hHeld => ?_)
          clear hK K
          refine norm_ (a' := ?_) ?_ ?_
          rotate_left
          ·show Act.put _ (some 46) _ = _
           simp only [Act.put, zs15, zc15, zd15, i64_w, i32_w]
           rfl
          refine one_ (i := 12) (N := some 47) #[true, true, true, true, true, true, true, true, true, true, true, true, true, false] rfl rfl (one_of HT_.out (by kernel_rfl)) (by decide) (fun K hK => ?_)
          refine goes_ Try.func86 (by kernel_rfl) rfl #[.slice Ao40 t419.length co40, .slice Ao41 t425.length co41] (by rfl) rfl rfl z15_4 ?_
          with_reducible refine (spec_l2Sum.calls kj7 _ _ t419 _ _ t425 t428 _ ?side1 ?side2 ?side3 ?side4 A32.out).mono ?_
          (case side1 => repeat (first | exact (Kd.R_reads' HO421.out).2.2 | (with_reducible refine Kd.C_alloc ?_ _) | (with_reducible refine Kd.C_drewN ?_ _) | (with_reducible refine Kd.C_drew ?_)))
          (case side2 => exact (Kd.R_reads' HO421.out).2.1)
          (case side3 => repeat (first | exact (Kd.R_reads' HO427.out).2.2 | (with_reducible refine Kd.C_alloc ?_ _) | (with_reducible refine Kd.C_drewN ?_ _) | (with_reducible refine Kd.C_drew ?_)))
          (case side4 => exact (Kd.R_reads' HO427.out).2.1)
          rintro e w42 ⟨v429, rfl, ho0, hb⟩
          have HS0_ := (hb.cell (World.block_lt_of_cell? _ _ (hHeld.1))).trans (hHeld.1)
          have HS1_ := (hb.cell (World.block_lt_of_cell? _ _ (hHeld.2))).trans (hHeld.2)
          refine ⟨_, rfl, ?_⟩
          have n0_ := Aside0.mk (Kd.N_elder' z15_3 (Kd.R_base ho0) hb)
          have n1_ := Aside0.mk (Kd.Q_elder' z15_6 (Kd.R_base ho0) hb)
          have n2_ := Aside0.mk (Kd.V_elder' z15_8 (Kd.R_base ho0) hb)
          have n3_ := Aside0.mk (Kd.V_elder' z15_9 (Kd.R_base ho0) hb)
          have n4_ := Aside0.mk (Kd.R_elder' z15_7 (Kd.R_base ho0) hb)
          have n5_ := Aside0.mk (Kd.R_elder' z15_13 (Kd.R_base ho0) hb)
          have n6_ := Aside0.mk (Kd.R_lower (Kd.R_new' (Kd.R_new' (Kd.R_new' (Kd.R_newM (M := fun k_ => (w.heap.size ≤ k_)) ho0 (keep_size (w := w) (g := g) (row := none) z15_0) (fun k_ h_ => h_)) (Kd.Q_lt z15_6)) (Kd.R_lt z15_7)) (Kd.R_lt z15_13)) (keep_size (w := w) (g := g) (row := none) z15_0))
          have n7_ := Aside0.mk (IsS92.below z15_1 hb)
          have n8_ := Aside0.mk (KeepBut.trans z15_0 (KeepBut.of_below hb g none) (.inl rfl))
          have n9_ := Aside0.mk (below_step z15_2 hb)
          clear HO_3
          clear HO_5
          clear HL416_0
          clear HL422_0
          clear HO421
          clear HO427
          clear HI0
          clear HK
          clear HB
          have HO_3 := n0_
          have HO_5 := n1_
          have HL416_0 := n2_
          have HL422_0 := n3_
          have HO421 := n4_
          have HO427 := n5_
          have HO430 := n6_
          have HI0 := n7_
          have HK := n8_
          have HB := n9_
          clear n0_ n1_ n2_ n3_ n4_ n5_ n6_ n7_ n8_ n9_
          (try clear hb)
          (try clear hb2)
          (try clear hk)
          (try clear hi)
          (try clear ho0)
          refine hK.out _ _ ⟨HS0_, HS1_⟩ (fun hHeld => ?_)
          clear hK K
          refine norm_ (a' := ?_) ?_ ?_
          rotate_left
          ·show Act.put _ (some 47) _ = _
           simp only [Act.put, zs15, zc15, zd15, i64_w, i32_w]
           rfl
          refine pure_ (i := 13) (N := some 5) (v := ?_) (a' := ?_) #[true, true, true, true, true, true, true, true, true, true, true, true, true, true] rfl rfl (any_of HT_.out (by kernel_rfl)) (fun _ _ _ h => h) (Or.inl ⟨by rfl, ?_⟩) ?_ ?_
          rotate_left
          ·intro w'
           go_simp
           with_reducible rfl
          rotate_left
          ·simp only [Act.put, zs15, zc15, zd15, i64_w, i32_w]
           rfl
          refine done_ (done_of HT_.out (by kernel_rfl)) ?_
          obtain ⟨Ao44, co44, eo44⟩ := Kd.R_slice HO430.out
          subst eo44
          try go_wp2_with (first | ((with_reducible refine gate_builtin (b := .append) (xs := #[.tmp 48, .tmp 50]) rfl ?_); at_builtin; refine Kd.N_append (Kd.slice 3 (Kd.int .i64)) w.heap.size rfl (.tmp 48) (.tmp 50) 22 28 (.slice none 0 0) 24 rfl Try.underlying22 info28 rfl (by decide) (by omega) (.slice (some ad416) x3_1.length co35) x3_1 t428 [.slice Ao44 t428.length co44] (fun k_ => (w.heap.size ≤ k_) ∧ some k_ ≠ (v407 : Value).ownBlock ∧ some k_ ≠ (.slice Ao40 t419.length co40 : Value).ownBlock ∧ some k_ ≠ (.slice Ao41 t425.length co41 : Value).ownBlock ∧ k_ ≠ g) (fun k_ => ((fun k_ => (w.heap.size ≤ k_) ∧ some k_ ≠ (v407 : Value).ownBlock ∧ some k_ ≠ (.slice Ao40 t419.length co40 : Value).ownBlock ∧ some k_ ≠ (.slice Ao41 t425.length co41 : Value).ownBlock ∧ k_ ≠ g)) k_ ∧ some k_ ≠ (.slice (some ad416) x3_1.length co35 : Value).ownBlock) rfl rfl ?aP (fun _ hk => hk) ?aF ?aO (Below.refl _ _) ?aS ?aL ?_; (case aP => exact (Kd.FK_slice_mk (Kd.R_reads' (Kd.R_mono (ok' := (fun k_ => ((fun k_ => (w.heap.size ≤ k_) ∧ some k_ ≠ (v407 : Value).ownBlock ∧ some k_ ≠ (.slice Ao40 t419.length co40 : Value).ownBlock ∧ some k_ ≠ (.slice Ao41 t425.length co41 : Value).ownBlock ∧ k_ ≠ g)) k_ ∧ some k_ ≠ (.slice (some ad416) x3_1.length co35 : Value).ownBlock)) (IsS92.apart HI0.out (Kd.R_apart' (HO430.out) (Kd.N_typed HO_3.out) (by decide)) (by decide)) (fun k_ hk => ⟨⟨hk.1.1.1.1.1.1, ⟨hk.1.1.1.1.2, ⟨hk.1.1.1.2, ⟨hk.1.1.2, hk.2⟩⟩⟩⟩, hk.1.2⟩))).2.1 (Kd.R_F (Kd.R_mono (ok' := (fun k_ => ((fun k_ => (w.heap.size ≤ k_) ∧ some k_ ≠ (v407 : Value).ownBlock ∧ some k_ ≠ (.slice Ao40 t419.length co40 : Value).ownBlock ∧ some k_ ≠ (.slice Ao41 t425.length co41 : Value).ownBlock ∧ k_ ≠ g)) k_ ∧ some k_ ≠ (.slice (some ad416) x3_1.length co35 : Value).ownBlock)) (IsS92.apart HI0.out (Kd.R_apart' (HO430.out) (Kd.N_typed HO_3.out) (by decide)) (by decide)) (fun k_ hk => ⟨⟨hk.1.1.1.1.1.1, ⟨hk.1.1.1.1.2, ⟨hk.1.1.1.2, ⟨hk.1.1.2, hk.2⟩⟩⟩⟩, hk.1.2⟩))))); (case aF => exact (fun k_ hk => ⟨(Nat.le_trans (keep_size (w := w) (g := g) (row := none) z15_0) hk), Kd.fresh' (Kd.Q_lt z15_6) k_ hk, Kd.fresh' (Kd.R_lt z15_7) k_ hk, Kd.fresh' (Kd.R_lt z15_13) k_ hk, IsS92.fresh z15_1 k_ hk⟩)); (case aO => exact (by (with_reducible repeat (first | apply Kd.N_alloc | apply Kd.N_drewN | apply Kd.N_drew)); exact Kd.N_mono HO_3.out (fun _ hk => ⟨hk.1.1.1.1, ⟨hk.1.1.1.2.1, ⟨hk.1.1.2, ⟨hk.1.2, hk.1.1.1.2.2⟩⟩⟩⟩))); (case aS => exact (keep_size (w := w) (g := g) (row := none) z15_0)); (case aL => have := LMc33.out; omega); intro v432 w43 ho hb hg hat; rw [← Ny431.out] at ho; have n0_ := Aside0.mk (Kd.Q_over' z15_6 (Kd.N_typed z15_3) (by decide) hg); have n1_ := Aside0.mk (IsS92.grown z15_1 hg (IsS92.own_neN HI0.out HO_3.out (by decide))); have n2_ := Aside0.mk (Kd.V_afterv (ok := (fun k_ => (w.heap.size ≤ k_) ∧ some k_ ≠ (v407 : Value).ownBlock ∧ some k_ ≠ (.slice Ao40 t419.length co40 : Value).ownBlock ∧ some k_ ≠ (.slice Ao41 t425.length co41 : Value).ownBlock ∧ some k_ ≠ (.slice Ao44 t428.length co44 : Value).ownBlock ∧ k_ ≠ g)) (by (with_reducible repeat (first | apply Kd.V_alloc | apply Kd.V_drewN | apply Kd.V_drew)); exact Kd.V_mono HL416_0.out (fun _ hk => ⟨⟨hk.1.1.1.1.1, ⟨hk.1.1.1.1.2.1, ⟨hk.1.1.2, ⟨hk.1.2, ⟨hk.2, hk.1.1.1.1.2.2⟩⟩⟩⟩⟩, hk.1.1.1.2⟩)) hg hat); have n3_ := Aside0.mk (Kd.V_afterv (ok := (fun k_ => (w.heap.size ≤ k_) ∧ some k_ ≠ (v407 : Value).ownBlock ∧ some k_ ≠ (.slice Ao40 t419.length co40 : Value).ownBlock ∧ some k_ ≠ (.slice Ao41 t425.length co41 : Value).ownBlock ∧ some k_ ≠ (.slice Ao44 t428.length co44 : Value).ownBlock ∧ k_ ≠ g)) (by (with_reducible repeat (first | apply Kd.V_alloc | apply Kd.V_drewN | apply Kd.V_drew)); exact Kd.V_mono HL422_0.out (fun _ hk => ⟨⟨hk.1.1.1.1.1, ⟨hk.1.1.1.1.2.1, ⟨hk.1.1.2, ⟨hk.1.2, ⟨hk.2, hk.1.1.1.1.2.2⟩⟩⟩⟩⟩, hk.1.1.1.2⟩)) hg hat); have n4_ := Aside0.mk (Kd.R_over' z15_7 (Kd.N_typed z15_3) (by decide) hg); have n5_ := Aside0.mk (Kd.R_over' z15_13 (Kd.N_typed z15_3) (by decide) hg); have n6_ := Aside0.mk (below_weaken z15_2 HL.out hb); have n7_ := Aside0.mk (KeepBut.trans z15_0 (KeepBut.of_grown hg g) (Kd.N_base2 HO_3.out)); have n8_ := Aside0.mk (ho); clear HO_5; clear HI0; clear HL416_0; clear HL422_0; clear HO421; clear HO427; clear HB; clear HK; clear HO_3; clear HO430; have HO_5 := n0_; have HI0 := n1_; have HL416_0 := n2_; have HL422_0 := n3_; have HO421 := n4_; have HO427 := n5_; have HB := n6_; have HK := n7_; have HO433 := n8_; clear n0_ n1_ n2_ n3_ n4_ n5_ n6_ n7_ n8_; clear ho hb hg hat))
          go_roundg kj7
          case measure => have := HK1.out; have := HJ7.out; omega
          case rel => exact ⟨(y431), (wrap64 (x4_1 - 1)), (t424), z15_14, H', ⟨by have := HK1.out; have := HJ7.out; omega⟩, ⟨by (with_reducible repeat (first | apply Kd.N_alloc | apply Kd.N_drewN | apply Kd.N_drew)); exact Kd.N_mono HO433.out (fun _ hk => ⟨hk.1, hk.2.2.2.2⟩)⟩, ⟨z15_1⟩, ⟨z15_0⟩, ⟨z15_2⟩⟩
         ·rw [if_neg c33] at H
          exact absurd H (by simp)
        ·rw [if_neg c29] at H
         exact absurd H (by simp)
       ·rw [if_neg c26] at H
        exact absurd H (by simp)
      ·replace c25 := Bool.eq_false_iff.mpr c25
       subst c25
       have H1 : (if x3_1.length < 5864062014805 then (spec_l91Rows.l0 kj7 (x3_1 ++ [t406]) (wrap64 (x4_1 - 1)) s0_0 x1001_7) else (none)) = some (r1, r2) := by rw [if_neg (show ¬ (false = true) by decide)] at H; exact H
       clear H
       have H := H1
       clear H1
       by_cases c45 : x3_1.length < 5864062014805
       ·rw [if_pos c45] at H
        have LMc45 := Aside0.mk c45
        clear c45
        obtain ⟨y434, hy434⟩ : ∃ y_ : List (List Int), y_ = (x3_1 ++ [t406]) := ⟨_, rfl⟩
        replace H : (spec_l91Rows.l0 kj7 y434 (wrap64 (x4_1 - 1)) s0_0 x1001_7) = some (r1, r2) := by first | (rw [hy434]; with_reducible exact H) | (have H2_ := (Option.bind_some _ _).symm.trans H; rw [hy434]; with_reducible exact H2_) | (have H2_ := (Option.bind_some _ _).symm.trans H; with_reducible exact H2_) | with_reducible exact H | (rw [hy434]; exact H) | exact H
        have Ny434 := Aside0.mk hy434
        clear hy434
        have H' := Aside0.mk H
        clear H
        obtain ⟨Ao47, co47, eo47, _⟩ := Kd.Q_slice HO_5.out
        subst eo47
        go_wp2_with (first | ((with_reducible refine gate_builtin (b := .append) (xs := #[.tmp 48, .tmp 50]) rfl ?_); at_builtin; refine Kd.N_append (Kd.slice 3 (Kd.int .i64)) w.heap.size rfl (.tmp 48) (.tmp 50) 22 28 (.slice none 0 0) 24 rfl Try.underlying22 info28 rfl (by decide) (by omega) u3 x3_1 t406 [.slice Ao47 t406.length co47] (fun k_ => (w.heap.size ≤ k_) ∧ k_ ≠ g) (fun k_ => ((fun k_ => (w.heap.size ≤ k_) ∧ k_ ≠ g)) k_ ∧ some k_ ≠ (u3 : Value).ownBlock) rfl rfl ?aP (fun _ hk => hk) ?aF ?aO (Below.refl _ _) ?aS ?aL ?_; (case aP => exact (Kd.FK_slice_mk (Kd.Q_reads' (Kd.Q_mono (ok' := (fun k_ => ((fun k_ => (w.heap.size ≤ k_) ∧ k_ ≠ g)) k_ ∧ some k_ ≠ (u3 : Value).ownBlock)) (IsS92.apartQ HI0.out (Kd.Q_apart' (HO_5.out) (Kd.N_typed HO_3.out) (by decide)) (by decide)) (fun k_ hk => ⟨⟨hk.1.1, hk.2⟩, hk.1.2⟩))).2.1 (Kd.Q_F (Kd.Q_mono (ok' := (fun k_ => ((fun k_ => (w.heap.size ≤ k_) ∧ k_ ≠ g)) k_ ∧ some k_ ≠ (u3 : Value).ownBlock)) (IsS92.apartQ HI0.out (Kd.Q_apart' (HO_5.out) (Kd.N_typed HO_3.out) (by decide)) (by decide)) (fun k_ hk => ⟨⟨hk.1.1, hk.2⟩, hk.1.2⟩))))); (case aF => exact (fun k_ hk => ⟨(Nat.le_trans (keep_size (w := w) (g := g) (row := none) z15_0) hk), IsS92.fresh z15_1 k_ hk⟩)); (case aO => exact (by (with_reducible repeat (first | apply Kd.N_alloc | apply Kd.N_drewN | apply Kd.N_drew)); exact Kd.N_mono HO_3.out (fun _ hk => ⟨hk.1, hk.2.2⟩))); (case aS => exact (keep_size (w := w) (g := g) (row := none) z15_0)); (case aL => have := LMc45.out; omega); intro v435 w46 ho hb hg hat; rw [← Ny434.out] at ho; have n0_ := Aside0.mk (IsS92.grown z15_1 hg (IsS92.own_neN HI0.out HO_3.out (by decide))); have n1_ := Aside0.mk (below_weaken z15_2 HL.out hb); have n2_ := Aside0.mk (KeepBut.trans z15_0 (KeepBut.of_grown hg g) (Kd.N_base2 HO_3.out)); have n3_ := Aside0.mk (ho); clear HI0; clear HB; clear HK; clear HO_3; clear HO_5; have HI0 := n0_; have HB := n1_; have HK := n2_; have HO436 := n3_; clear n0_ n1_ n2_ n3_; clear ho hb hg hat))
        go_roundg kj7
        case measure => have := HK1.out; have := HJ7.out; omega
        case rel => exact ⟨(y434), (wrap64 (x4_1 - 1)), (x1001_7), z15_14, H', ⟨by have := HK1.out; have := HJ7.out; omega⟩, ⟨by (with_reducible repeat (first | apply Kd.N_alloc | apply Kd.N_drewN | apply Kd.N_drew)); exact HO436.out⟩, ⟨z15_1⟩, ⟨z15_0⟩, ⟨z15_2⟩⟩
       ·rw [if_neg c45] at H
        exact absurd H (by simp)
   ·rw [if_neg c6] at H
    have c6b0 : decide (0 < x4_1) = false := decide_eq_false c6
    clear c6
    replace H := Option.bind_eq_some_iff.mp H
    obtain ⟨⟨t437, t438⟩, A480, H⟩ := H
    replace H : (if t437 = 0 then (spec_l91Rows.l1 k1 x3_1 s0_0 t438) else (some (x3_1, t438))) = some (r1, r2) := H
    have A48 := Aside0.mk A480
    clear A480
    by_cases c49 : t437 = 0
    ·rw [if_pos c49] at H
     have c49b0 : (t437 == 0) = true := beq_iff_eq.mpr c49
     have c49b1 : (t437 != 0) = false := bne_eq_false_iff_eq.mpr c49
     clear c49
     have H' := Aside0.mk H
     clear H
     go_wp2_with (first | ((with_reducible refine gate_callee (f := 65) rfl ?_); refine goesL_ (some 53) rfl rfl Try.func65 (by kernel_rfl) rfl #[.pointer (some ⟨g, 0, none⟩), .int .i64 40] rfl z15_4 ?_; (with_reducible refine (spec_l6Rd_pick.calls k1 g s0_0 x1001_1 40 t437 t438 w0 _ ?side1 ?side2 A48.out).mono ?_); (case side1 => repeat (first | (with_reducible first | exact HI0.out | apply IsS92.alloc | apply IsS92.drewN | apply IsS92.drew | apply IsS92.set_1) | exact HI0.out)); (case side2 => repeat (first | (with_reducible first | exact HB.out | apply below_alloc | apply pw_below_drewN | apply below_drew1 | refine below_set ?_ (IsS92.ge HI0.out)) | exact HB.out)); rintro e w50 ⟨rfl, hi, hb, hk⟩; refine ⟨_, rfl, ?_⟩; have n0_ := Aside0.mk (Kd.N_mono (Kd.N_keep (Kd.N_mono (ok := fun k_ => (((w.heap.size ≤ k_)) ∧ k_ ≠ g)) z15_3 (fun k_ hk_ => (⟨hk_, hk_.2⟩ : _ ∧ k_ ≠ g))) hk (fun _ h => h.2)) (fun _ h => h.1)); have n1_ := Aside0.mk (KeepBut.trans z15_0 hk (.inl rfl)); have n2_ := Aside0.mk (hb); have n3_ := Aside0.mk (hi); clear HO_3; clear HK; clear HB; clear HI0; have HO_3 := n0_; have HK := n1_; have HB := n2_; have HI0 := n3_; clear n0_ n1_ n2_ n3_; (try clear hb); (try clear hb2); (try clear hk); (try clear hi)))
     go_loopg [3] k1 (fun kq v3 w' => ∃ (x3_2 : List (List Int)), Aside0 (spec_l91Rows.l1 kq x3_2 s0_0 t438 = some (r1, r2)) ∧ Aside0 (kq ≤ k1) ∧ Aside0 (Kd.N (Kd.slice 3 (Kd.int .i64)) 28 w' w.heap.size (fun k_ => (w.heap.size ≤ k_) ∧ k_ ≠ g) v3 x3_2) ∧ Aside0 (IsS92 w0 w' g s0_0 t438) ∧ Aside0 (KeepBut w w' g none) ∧ Aside0 (Below w0.heap.size w0 w'))
     case atStart => exact ⟨(x3_1), H', ⟨Nat.le_refl _⟩, ⟨z15_3⟩, ⟨z15_1⟩, ⟨z15_0⟩, ⟨z15_2⟩⟩
     case round =>
      clear H'
      try clear c6
      try clear c6b0
      try clear c49
      try clear c49b0
      try clear c49b1
      obtain ⟨x3_2, HA, HK2, HO_3, HI0, HK, HB⟩ := hrel
      cases gk with
      | zero => exact absurd HA.out (by simp [spec_l91Rows.l1])
      | succ k2 =>
       have H := HA.out
       clear HA
       simp only [spec_l91Rows.l1] at H
       by_cases c51 : (x3_2.length : Int) ≤ 8
       ·rw [if_pos c51] at H
        have c51b0 : decide ((x3_2.length : Int) ≤ 8) = true := decide_eq_true c51
        have c51b1 : decide (x3_2.length ≤ 8) = true := decide_eq_true (by omega)
        clear c51
        obtain ⟨y439, hy439⟩ : ∃ y_ : List Int, y_ = (([1, 2, 3, 4] : List Int)) := ⟨_, rfl⟩
        replace H : (if x3_2.length < 5864062014805 then (spec_l91Rows.l1 k2 (x3_2 ++ [y439]) s0_0 t438) else (none)) = some (r1, r2) := by first | (rw [hy439]; with_reducible exact H) | (have H2_ := (Option.bind_some _ _).symm.trans H; rw [hy439]; with_reducible exact H2_) | (have H2_ := (Option.bind_some _ _).symm.trans H; with_reducible exact H2_) | with_reducible exact H | (rw [hy439]; exact H) | exact H
        have Ny439 := Aside0.mk hy439
        clear hy439
        by_cases c52 : x3_2.length < 5864062014805
        ·rw [if_pos c52] at H
         have LMc52 := Aside0.mk c52
         clear c52
         obtain ⟨y442, hy442⟩ : ∃ y_ : List (List Int), y_ = (x3_2 ++ [y439]) := ⟨_, rfl⟩
         replace H : (spec_l91Rows.l1 k2 y442 s0_0 t438) = some (r1, r2) := by first | (rw [hy442]; with_reducible exact H) | (have H2_ := (Option.bind_some _ _).symm.trans H; rw [hy442]; with_reducible exact H2_) | (have H2_ := (Option.bind_some _ _).symm.trans H; with_reducible exact H2_) | with_reducible exact H | (rw [hy442]; exact H) | exact H
         have Ny442 := Aside0.mk hy442
         clear hy442
         have H' := Aside0.mk H
         clear H
         obtain ⟨Ao53, co53, eo53⟩ := Kd.N_slice HO_3.out
         subst eo53
         go_wp2_with (first | ((with_reducible refine gate_dst (N := 59) rfl ?_); refine Kd.R_lit (Kd.int .i64) _ 3 ?hg (N := 59) ?hd (xs := ([1, 2, 3, 4] : List Int)) (inner := [.int .i64 1, .int .i64 2, .int .i64 3, .int .i64 4]) (ok := fun _ => True) (okp := fun _ => True) ?hr ?hp (fun _ hk => hk) trivial (Below.refl _ _) (Nat.le_refl _) (by simp) ?_; (case hd => rfl); (case hg => rfl); (case hr => first | (go_simp; done) | (go_simp; rfl)); (case hp => exact (Reps.one (show Kd.M (Kd.int .i64) _ _ _ 1 [.int .i64 1] from rfl) (Reps.one (show Kd.M (Kd.int .i64) _ _ _ 2 [.int .i64 2] from rfl) (Reps.one (show Kd.M (Kd.int .i64) _ _ _ 3 [.int .i64 3] from rfl) (Reps.one (show Kd.M (Kd.int .i64) _ _ _ 4 [.int .i64 4] from rfl) (Reps.none _ _)))))); intro v440 w54 ho55 hb hg_ hnew_; clear hg_ hnew_; (first | rw [← Ny439.out] at ho55 | (simp only [Int.reduceToNat] at ho55; rw [← Ny439.out] at ho55)); have n0_ := Aside0.mk (Kd.N_elder' z15_3 (Kd.R_base ho55) hb); have n1_ := Aside0.mk (Kd.R_lower (Kd.R_newM (M := fun k_ => (w.heap.size ≤ k_)) ho55 (keep_size (w := w) (g := g) (row := none) z15_0) (fun k_ h_ => h_)) (keep_size (w := w) (g := g) (row := none) z15_0)); have n2_ := Aside0.mk (IsS92.below z15_1 hb); have n3_ := Aside0.mk (KeepBut.trans z15_0 (KeepBut.of_below hb g none) (.inl rfl)); have n4_ := Aside0.mk (below_step z15_2 hb); clear HO_3; clear HI0; clear HK; clear HB; have HO_3 := n0_; have HO441 := n1_; have HI0 := n2_; have HK := n3_; have HB := n4_; clear n0_ n1_ n2_ n3_ n4_; clear hb ho55; obtain ⟨Ao57, co57, eo57⟩ := Kd.R_slice HO441.out; subst eo57) | ((with_reducible refine gate_builtin (b := .append) (xs := #[.tmp 58, .tmp 60]) rfl ?_); at_builtin; refine Kd.N_append (Kd.slice 3 (Kd.int .i64)) w.heap.size rfl (.tmp 58) (.tmp 60) 22 28 (.slice none 0 0) 24 rfl Try.underlying22 info28 rfl (by decide) (by omega) (.slice Ao53 x3_2.length co53) x3_2 y439 [.slice Ao57 y439.length co57] (fun k_ => (w.heap.size ≤ k_) ∧ k_ ≠ g) (fun k_ => ((fun k_ => (w.heap.size ≤ k_) ∧ k_ ≠ g)) k_ ∧ some k_ ≠ (.slice Ao53 x3_2.length co53 : Value).ownBlock) rfl rfl ?aP (fun _ hk => hk) ?aF ?aO (Below.refl _ _) ?aS ?aL ?_; (case aP => exact (Kd.FK_slice_mk (Kd.R_reads' (Kd.R_mono (ok' := (fun k_ => ((fun k_ => (w.heap.size ≤ k_) ∧ k_ ≠ g)) k_ ∧ some k_ ≠ (.slice Ao53 x3_2.length co53 : Value).ownBlock)) (IsS92.apart HI0.out (Kd.R_apart' (HO441.out) (Kd.N_typed HO_3.out) (by decide)) (by decide)) (fun k_ hk => ⟨⟨hk.1.1.1, hk.2⟩, hk.1.2⟩))).2.1 (Kd.R_F (Kd.R_mono (ok' := (fun k_ => ((fun k_ => (w.heap.size ≤ k_) ∧ k_ ≠ g)) k_ ∧ some k_ ≠ (.slice Ao53 x3_2.length co53 : Value).ownBlock)) (IsS92.apart HI0.out (Kd.R_apart' (HO441.out) (Kd.N_typed HO_3.out) (by decide)) (by decide)) (fun k_ hk => ⟨⟨hk.1.1.1, hk.2⟩, hk.1.2⟩))))); (case aF => exact (fun k_ hk => ⟨(Nat.le_trans (keep_size (w := w) (g := g) (row := none) z15_0) hk), IsS92.fresh z15_1 k_ hk⟩)); (case aO => exact (by (with_reducible repeat (first | apply Kd.N_alloc | apply Kd.N_drewN | apply Kd.N_drew)); exact Kd.N_mono HO_3.out (fun _ hk => ⟨hk.1.1, hk.1.2⟩))); (case aS => exact (keep_size (w := w) (g := g) (row := none) z15_0)); (case aL => have := LMc52.out; omega); intro v443 w56 ho hb hg hat; rw [← Ny442.out] at ho; have n0_ := Aside0.mk (IsS92.grown z15_1 hg (IsS92.own_neN HI0.out HO_3.out (by decide))); have n1_ := Aside0.mk (below_weaken z15_2 HL.out hb); have n2_ := Aside0.mk (KeepBut.trans z15_0 (KeepBut.of_grown hg g) (Kd.N_base2 HO_3.out)); have n3_ := Aside0.mk (ho); clear HI0; clear HB; clear HK; clear HO_3; clear HO441; have HI0 := n0_; have HB := n1_; have HK := n2_; have HO444 := n3_; clear n0_ n1_ n2_ n3_; clear ho hb hg hat))
         go_roundg k2
         case measure => have := HK1.out; have := HK2.out; omega
         case rel => exact ⟨(y442), H', ⟨by have := HK1.out; have := HK2.out; omega⟩, ⟨by (with_reducible repeat (first | apply Kd.N_alloc | apply Kd.N_drewN | apply Kd.N_drew)); exact HO444.out⟩, ⟨z15_1⟩, ⟨z15_0⟩, ⟨z15_2⟩⟩
        ·rw [if_neg c52] at H
         exact absurd H (by simp)
       ·rw [if_neg c51] at H
        have c51b0 : decide ((x3_2.length : Int) ≤ 8) = false := decide_eq_false c51
        have c51b1 : decide (x3_2.length ≤ 8) = false := decide_eq_false (by omega)
        clear c51
        simp only [Option.some.injEq, Prod.mk.injEq] at H
        obtain ⟨rfl, rfl⟩ := H
        obtain ⟨Ao58, co58, eo58⟩ := Kd.N_slice HO_3.out
        subst eo58
        go_wp2
        go_ret
        exact ⟨_, by first | rfl | (simp [errW_none, errW_some] <;> rfl) | (simp [*, errW_none, errW_some] <;> rfl), z15_18, z15_1, z15_2, z15_0⟩
    ·rw [if_neg c49] at H
     have c49b0 : (t437 == 0) = false := beq_eq_false_iff_ne.mpr c49
     have c49b1 : (t437 != 0) = true := bne_iff_ne.mpr c49
     simp only [Option.some.injEq, Prod.mk.injEq] at H
     obtain ⟨rfl, rfl⟩ := H
     go_wp2_with (first | ((with_reducible refine gate_callee (f := 65) rfl ?_); refine goesL_ (some 53) rfl rfl Try.func65 (by kernel_rfl) rfl #[.pointer (some ⟨g, 0, none⟩), .int .i64 40] rfl z15_4 ?_; (with_reducible refine (spec_l6Rd_pick.calls k1 g s0_0 x1001_1 40 t437 t438 w0 _ ?side1 ?side2 A48.out).mono ?_); (case side1 => repeat (first | (with_reducible first | exact HI0.out | apply IsS92.alloc | apply IsS92.drewN | apply IsS92.drew | apply IsS92.set_1) | exact HI0.out)); (case side2 => repeat (first | (with_reducible first | exact HB.out | apply below_alloc | apply pw_below_drewN | apply below_drew1 | refine below_set ?_ (IsS92.ge HI0.out)) | exact HB.out)); rintro e w59 ⟨rfl, hi, hb, hk⟩; refine ⟨_, rfl, ?_⟩; have n0_ := Aside0.mk (Kd.N_mono (Kd.N_keep (Kd.N_mono (ok := fun k_ => (((w.heap.size ≤ k_)) ∧ k_ ≠ g)) z15_3 (fun k_ hk_ => (⟨hk_, hk_.2⟩ : _ ∧ k_ ≠ g))) hk (fun _ h => h.2)) (fun _ h => h.1)); have n1_ := Aside0.mk (KeepBut.trans z15_0 hk (.inl rfl)); have n2_ := Aside0.mk (hb); have n3_ := Aside0.mk (hi); clear HO_3; clear HK; clear HB; clear HI0; have HO_3 := n0_; have HK := n1_; have HB := n2_; have HI0 := n3_; clear n0_ n1_ n2_ n3_; (try clear hb); (try clear hb2); (try clear hk); (try clear hi)))
     go_ret
     exact ⟨_, by first | rfl | (simp [errW_none, errW_some] <;> rfl) | (simp [*, errW_none, errW_some] <;> rfl), z15_18, z15_1, z15_2, z15_0⟩

end Go.Proofs.Ytbhmgbeebhmfkaa.PA
