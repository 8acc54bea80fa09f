-- Written by a program of this session (after the manner of the kit's print, several laws in one text).
import Derived.Test.YtamaejafddmagaaWTab
import Derived.Test.YtamaejafddmagaaPAx0
import Derived.Test.YtamaejafddmagaaPAx5
import Derived.Test.YtamaejafddmagaaPAx12
import Derived.Test.YtamaejafddmagaaPAx13
import Derived.Test.YtamaejafddmagaaPAx14
import Derived.Test.YtamaejafddmagaaGw
import Derived.Test.YtamaejafddmagaaGm
namespace Go.Proofs.Ytamaejafddmagaa.PA
open Go.RowKit Go.Proofs.YtamaejafddmagaaW.PrintWords Go.Proofs.YtamaejafddmagaaW.PrintLast Go.Proofs.YtamaejafddmagaaW.PrintMore
attribute [local go_sem] max2_int min2_int max_two min_two max_three min_three max_four min_four   -- for this text's walks alone
set_option linter.unusedVariables false
set_option linter.unusedSimpArgs false

/-! ### laws_FnSpanOrder: function 3 -/
theorem z15_0 {p : Prop} (h : p := by repeat (first | (with_reducible first | exact HB.out | apply below_alloc | apply pw_below_drewN | apply below_drew1) | exact HB.out)) : p := h
theorem z15_1 {p : Prop} (h : p := by first | exact Kd.N_base ho0 | exact Kd.R_base ho0 | exact Kd.N_base (Kd.S_N (Kd.S_bound ho0))) : p := h
theorem z15_2 {p : Prop} (h : p := by (try simp only [List.map_toArray, List.map_cons, List.map_nil]); first | done | rfl | (simp only [List.length_drop, List.length_take]; rfl)) : p := h
theorem z15_3 {p : Prop} (h : p := by (with_reducible repeat (first | apply Kd.N_alloc | apply Kd.N_drewN | apply Kd.N_drew)); exact HO_5.out) : p := h
theorem z15_4 {p : Prop} (h : p := by (with_reducible repeat (first | apply Kd.N_alloc | apply Kd.N_drewN | apply Kd.N_drew)); exact HO_6.out) : p := h
theorem z15_5 {p : Prop} (h : p := by (with_reducible repeat (first | apply Kd.N_alloc | apply Kd.N_drewN | apply Kd.N_drew)); exact HO450.out) : p := h
theorem z15_6 {p : Prop} (h : p := by (with_reducible repeat (first | apply Kd.N_alloc | apply Kd.N_drewN | apply Kd.N_drew)); exact HO453.out) : p := h
theorem z15_7 {p : Prop} (h : p := by first | (with_reducible assumption) | assumption) : p := h
theorem z15_8 {p : Prop} (h : p := by (with_reducible repeat (first | apply Kd.N_alloc | apply Kd.N_drewN | apply Kd.N_drew)); exact HO_7.out) : p := h
theorem z15_9 {p : Prop} (h : p := by (with_reducible repeat (first | apply Kd.N_alloc | apply Kd.N_drewN | apply Kd.N_drew)); exact HO479.out) : p := h
theorem z15_10 {p : Prop} (h : p := by have := LMc48.out; rw [Ny474.out, Ny471.out] at this; simp only [List.length_singleton]; omega) : p := h
theorem z15_11 {p : Prop} (h : p := by (with_reducible repeat (first | apply Kd.N_alloc | apply Kd.N_drewN | apply Kd.N_drew)); exact Kd.N_mono HO450.out (fun _ hk => hk.1.2)) : p := h
theorem z15_12 {p : Prop} (h : p := by (with_reducible repeat (first | apply Kd.N_alloc | apply Kd.N_drewN | apply Kd.N_drew)); exact Kd.N_mono HO453.out (fun _ hk => hk.1)) : p := h
theorem z15_13 {p : Prop} (h : p := by first | rfl | (simp; done) | (simp [*]; done)) : p := h
theorem z15_14 {p : Prop} (h : p := by first | exact q470 | exact of_decide_eq_true z15_7 | (have e_ := (Kd.N_reads' HO_5.out).1; omega)) : p := h
theorem z15_15 {p : Prop} (h : p := by rw [Ny477.out, Ny474.out, Ny471.out]; exact HI.out.2.2.2.1) : p := h
theorem z15_16 {p : Prop} (h : p := by have := LMc47.out; rw [Ny471.out] at this; omega) : p := h
theorem z15_17 {p : Prop} (h : p := by (with_reducible repeat (first | apply Kd.V_alloc | apply Kd.V_drewN | apply Kd.V_drew)); exact HL470_0.out) : p := h
theorem z15_18 {p : Prop} (h : p := by first | rfl | (simp [errW_none, errW_some] <;> rfl) | (simp only [← hji44]; first | rfl | (simp [errW_none, errW_some] <;> rfl)) | (simp [*, errW_none, errW_some] <;> rfl)) : p := h
theorem z15_19 {p : Prop} (h : p := by have := HJ2.out; first | omega | exact Nat.le_refl _) : p := h
mutual
def laws_FnSpanOrder.j0 : Nat → List Int → List Int → Bool → Option (Bool)
  | 0, _, _, _ => none
  | k + 1, x0, x1, x17 => if x17 = true then (some true) else ((spec_DrawSpanTidy.f k x0).bind fun t448 => ((impl_SpanTidy.f k t448).bind fun t451 => ((spec_SpanTidy.f k t448).bind fun t454 => ((laws_lkRows.f k t451 t454).bind fun t457 => (if t457 = true then ((spec_SpanOk.f k t448).bind fun t458 => (if t458 = true then (if (t448.length : Int) = 0 then (laws_FnSpanOrder.j1 k x1 t448 t451 true) else (laws_FnSpanOrder.j1 k x1 t448 t451 ((t448.length : Int) == 8))) else (laws_FnSpanOrder.j1 k x1 t448 t451 true))) else (laws_FnSpanOrder.j1 k x1 t448 t451 true))))))
def laws_FnSpanOrder.j1 : Nat → List Int → List (List Int) → List (List Int) → Bool → Option (Bool)
  | 0, _, _, _, _ => none
  | k + 1, x1, x5, x6, x41 => if x41 = true then ((spec_SpanTidy.f k x5).bind fun t459 => ((laws_lkRows.f k x6 t459).bind fun t462 => (some t462))) else (laws_FnSpanOrder.l0 k x1 x5 x6 (([] : List (List Int))) (wrap64 ((x5.length : Int) - 1)))
def laws_FnSpanOrder.l0 : Nat → List Int → List (List Int) → List (List Int) → List (List Int) → Int → Option (Bool)
  | 0, _, _, _, _, _ => none
  | k + 1, x1, x5, x6, x7, x8 => if x8 ≥ 0 then (if 0 ≤ x8 then (if x8 < (x5.length : Int) then (if x7.length < 5864062014805 then (laws_FnSpanOrder.l0 k x1 x5 x6 (x7 ++ [rd_L2 x5 x8]) (wrap64 (x8 - 1))) else (none)) else (none)) else (none)) else (if (x5.length : Int) = 0 then (none) else (if 0 ≤ ((x1.length : Int) % (x5.length : Int)) then (if ((x1.length : Int) % (x5.length : Int)) < (x5.length : Int) then ((some (([] : List (List Int)) : List (List Int))).bind fun y471 => (if y471.length + x5.length < 5864062014805 then ((some (y471 ++ x5 : List (List Int))).bind fun y474 => (if y474.length < 5864062014805 then ((impl_SpanTidy.f k x7).bind fun t480 => ((laws_lkRows.f k t480 x6).bind fun t483 => (if t483 = true then ((impl_SpanTidy.f k (y474 ++ [rd_L2 x5 ((x1.length : Int) % (x5.length : Int))])).bind fun t484 => ((laws_lkRows.f k t484 x6).bind fun t487 => (some t487))) else (some false)))) else (none))) else (none))) else (none)) else (none)))
end
def laws_FnSpanOrder.f (k : Nat) (l0 : List Int) (l1 : List Int) : Option (Bool) := if (l0.length : Int) > 1048576 then (laws_FnSpanOrder.j0 k l0 l1 true) else (laws_FnSpanOrder.j0 k l0 l1 (decide ((l1.length : Int) > 1048576)))
def Or_Z (w0 W : World) (p : Addr) (A : Option Addr) (c : Nat) (vm vt vb x y : Value) (m t b X Y : List (List Int)) (row : List Int) : Prop :=
  Kd.N (Kd.slice 3 (Kd.int .i64)) 28 W w0.heap.size (fun k => some k ≠ vt.ownBlock ∧ some k ≠ vb.ownBlock ∧ some k ≠ x.ownBlock ∧ some k ≠ y.ownBlock) vm m ∧
  Kd.N (Kd.slice 3 (Kd.int .i64)) 28 W w0.heap.size (fun k => some k ≠ vm.ownBlock ∧ some k ≠ vb.ownBlock ∧ some k ≠ x.ownBlock ∧ some k ≠ y.ownBlock) vt t ∧
  Kd.N (Kd.slice 3 (Kd.int .i64)) 28 W w0.heap.size (fun k => some k ≠ vm.ownBlock ∧ some k ≠ vt.ownBlock ∧ some k ≠ x.ownBlock ∧ some k ≠ y.ownBlock) vb b ∧
  Kd.N (Kd.slice 3 (Kd.int .i64)) 28 W w0.heap.size (fun k => some k ≠ vt.ownBlock ∧ some k ≠ vb.ownBlock) x X ∧
  Kd.N (Kd.slice 3 (Kd.int .i64)) 28 W w0.heap.size (fun k => some k ≠ vt.ownBlock ∧ some k ≠ vb.ownBlock ∧ some k ≠ x.ownBlock) y Y ∧
  W.cell? p = some (.slice A row.length c) ∧ Below w0.heap.size w0 W
section
variable {w0 W w1 : World} {p : Addr} {A : Option Addr} {c : Nat} {vm vt vb x y v1 : Value} {m t b X Y X1 : List (List Int)} {row : List Int}
theorem or_drew_Z (h : Or_Z w0 W p A c vm vt vb x y m t b X Y row) : Or_Z w0 W.drew p A c vm vt vb x y m t b X Y row :=
  ⟨Kd.N_drew h.1, Kd.N_drew h.2.1, Kd.N_drew h.2.2.1, Kd.N_drew h.2.2.2.1, Kd.N_drew h.2.2.2.2.1, h.2.2.2.2.2.1, below_drew1 h.2.2.2.2.2.2⟩
theorem or_start_Z (h1 : Kd.N (Kd.slice 3 (Kd.int .i64)) 28 W w0.heap.size (fun k => some k ≠ vt.ownBlock ∧ some k ≠ vb.ownBlock) vm m) (h2 : Kd.N (Kd.slice 3 (Kd.int .i64)) 28 W w0.heap.size (fun k => some k ≠ vm.ownBlock ∧ some k ≠ vb.ownBlock) vt t) (h3 : Kd.N (Kd.slice 3 (Kd.int .i64)) 28 W w0.heap.size (fun k => some k ≠ vm.ownBlock ∧ some k ≠ vt.ownBlock) vb b) (h6 : W.cell? p = some (.slice A row.length c)) (hB : Below w0.heap.size w0 W) : Or_Z w0 W p A c vm vt vb (.slice none 0 0) (.slice none 0 0) m t b [] [] row := by
  have e : ∀ k : Nat, some k ≠ (Value.slice none 0 0).ownBlock := fun k => by simp [Value.ownBlock]
  exact ⟨Kd.N_mono h1 (fun k hk => ⟨hk.1, hk.2, e k, e k⟩), Kd.N_mono h2 (fun k hk => ⟨hk.1, hk.2, e k, e k⟩), Kd.N_mono h3 (fun k hk => ⟨hk.1, hk.2, e k, e k⟩), Kd.N_nil _ _ _ _ _, Kd.N_nil _ _ _ _ _, h6, hB⟩
theorem or_cell_Z (h6 : W.cell? p = some (.slice A row.length c)) (hb : Below W.heap.size W w1) : w1.cell? p = some (.slice A row.length c) := (hb.cell (World.block_lt_of_cell? W _ h6)).trans h6
theorem or_litX_Z (h : Or_Z w0 W p A c vm vt vb (.slice none 0 0) y m t b [] Y row) (hn : Kd.N (Kd.slice 3 (Kd.int .i64)) 28 w1 W.heap.size (fun k => some k ≠ vt.ownBlock ∧ some k ≠ vb.ownBlock) v1 []) (hb : Below W.heap.size W w1) : Or_Z w0 w1 p A c vm vt vb v1 y m t b [] Y row := by
  obtain ⟨h1, h2, h3, h4, h5, h6, hB⟩ := h
  have lo := Kd.N_base hn
  exact ⟨Kd.N_mono (Kd.N_elder' h1 lo hb) (fun k hk => ⟨hk.1.1, hk.1.2.1, hk.2, hk.1.2.2.2⟩), Kd.N_mono (Kd.N_elder' h2 lo hb) (fun k hk => ⟨hk.1.1, hk.1.2.1, hk.2, hk.1.2.2.2⟩), Kd.N_mono (Kd.N_elder' h3 lo hb) (fun k hk => ⟨hk.1.1, hk.1.2.1, hk.2, hk.1.2.2.2⟩), Kd.N_lower hn (below_size hB), Kd.N_mono (Kd.N_elder' h5 lo hb) (fun k hk => ⟨hk.1.1, hk.1.2.1, hk.2⟩), or_cell_Z h6 hb, below_step hB hb⟩
theorem or_litY_Z (h : Or_Z w0 W p A c vm vt vb x (.slice none 0 0) m t b X [] row) (hn : Kd.N (Kd.slice 3 (Kd.int .i64)) 28 w1 W.heap.size (fun k => some k ≠ vt.ownBlock ∧ some k ≠ vb.ownBlock ∧ some k ≠ x.ownBlock) v1 Y) (hb : Below W.heap.size W w1) : Or_Z w0 w1 p A c vm vt vb x v1 m t b X Y row := by
  obtain ⟨h1, h2, h3, h4, h5, h6, hB⟩ := h
  have lo := Kd.N_base hn
  exact ⟨Kd.N_mono (Kd.N_elder' h1 lo hb) (fun k hk => ⟨hk.1.1, hk.1.2.1, hk.1.2.2.1, hk.2⟩), Kd.N_mono (Kd.N_elder' h2 lo hb) (fun k hk => ⟨hk.1.1, hk.1.2.1, hk.1.2.2.1, hk.2⟩), Kd.N_mono (Kd.N_elder' h3 lo hb) (fun k hk => ⟨hk.1.1, hk.1.2.1, hk.1.2.2.1, hk.2⟩), Kd.N_below h4 hb, Kd.N_lower hn (below_size hB), or_cell_Z h6 hb, below_step hB hb⟩
theorem or_grow_Z {ad : Addr} {n cm : Nat} {i : Int} (h : Or_Z w0 W (ad.add i.toNat) A c (.slice (some ad) n cm) vt vb x y m t b X Y row) (hn : Kd.N (Kd.slice 3 (Kd.int .i64)) 28 w1 w0.heap.size (fun k => some k ≠ vt.ownBlock ∧ some k ≠ vb.ownBlock) v1 X1) (hb : Below w0.heap.size w0 w1) (hg : W.grownBy w1 x.ownBlock) (hat : v1.ownBlock = x.ownBlock ∨ ∃ b, v1.ownBlock = some b ∧ W.heap.size ≤ b) : Or_Z w0 w1 (ad.add i.toNat) A c (.slice (some ad) n cm) vt vb v1 y m t b X1 Y row := by
  obtain ⟨h1, h2, h3, h4, h5, h6, hB⟩ := h
  obtain ⟨g, rfl⟩ : ∃ g, ad = ⟨g, 0, none⟩ := by
    obtain ⟨_, rows, _, hR, _⟩ := h1
    exact Kd.R_head hR
  have hp : some (Addr.add ⟨g, 0, none⟩ i.toNat).block ≠ x.ownBlock := by rw [add_at]; exact (h1.1 g rfl).2.2.1
  have g1 := Kd.N_afterv (ok := fun k => some k ≠ vt.ownBlock ∧ some k ≠ vb.ownBlock ∧ some k ≠ y.ownBlock) (Kd.N_mono h1 (fun k hk => ⟨⟨hk.1, hk.2.1, hk.2.2.2⟩, hk.2.2.1⟩)) hg hat
  have g2 := Kd.N_afterv (ok := fun k => some k ≠ (Value.slice (some ⟨g, 0, none⟩) n cm).ownBlock ∧ some k ≠ vb.ownBlock ∧ some k ≠ y.ownBlock) (Kd.N_mono h2 (fun k hk => ⟨⟨hk.1, hk.2.1, hk.2.2.2⟩, hk.2.2.1⟩)) hg hat
  have g3 := Kd.N_afterv (ok := fun k => some k ≠ (Value.slice (some ⟨g, 0, none⟩) n cm).ownBlock ∧ some k ≠ vt.ownBlock ∧ some k ≠ y.ownBlock) (Kd.N_mono h3 (fun k hk => ⟨⟨hk.1, hk.2.1, hk.2.2.2⟩, hk.2.2.1⟩)) hg hat
  have g5 := Kd.N_afterv (ok := fun k => some k ≠ vt.ownBlock ∧ some k ≠ vb.ownBlock) (Kd.N_mono h5 (fun k hk => ⟨⟨hk.1, hk.2.1⟩, hk.2.2⟩)) hg hat
  exact ⟨Kd.N_mono g1 (fun k hk => ⟨hk.1.1, hk.1.2.1, hk.2, hk.1.2.2⟩), Kd.N_mono g2 (fun k hk => ⟨hk.1.1, hk.1.2.1, hk.2, hk.1.2.2⟩), Kd.N_mono g3 (fun k hk => ⟨hk.1.1, hk.1.2.1, hk.2, hk.1.2.2⟩), hn, Kd.N_mono g5 (fun k hk => ⟨hk.1.1, hk.1.2, hk.2⟩), (hg.cell_far _ (World.block_lt_of_cell? W _ h6) hp).trans h6, hb⟩
theorem or_newX_Z (h : Or_Z w0 W p A c vm vt vb x y m t b X Y row) : ∀ k, W.heap.size ≤ k → some k ≠ vt.ownBlock ∧ some k ≠ vb.ownBlock := fun k hk => ⟨Kd.fresh' (Kd.N_lt h.2.1) k hk, Kd.fresh' (Kd.N_lt h.2.2.1) k hk⟩
theorem or_newY_Z (h : Or_Z w0 W p A c vm vt vb x y m t b X Y row) : ∀ k, W.heap.size ≤ k → some k ≠ vt.ownBlock ∧ some k ≠ vb.ownBlock ∧ some k ≠ x.ownBlock := fun k hk => ⟨Kd.fresh' (Kd.N_lt h.2.1) k hk, Kd.fresh' (Kd.N_lt h.2.2.1) k hk, Kd.fresh' (Kd.N_lt h.2.2.2.1) k hk⟩
theorem or_row_Z {ad : Addr} {n cm : Nat} {i : Int} (h : Or_Z w0 W (ad.add i.toNat) A c (.slice (some ad) n cm) vt vb x y m t b X Y (rd_L2 m i)) (h0 : 0 ≤ i) (hi : i < n) : Kd.FK (Kd.slice 3 (Kd.int .i64)) W (fun k => some k ≠ vt.ownBlock ∧ some k ≠ vb.ownBlock ∧ some k ≠ x.ownBlock) (rd_L2 m i) [.slice A (rd_L2 m i).length c] := by
  obtain ⟨h1, h2, h3, h4, h5, h6, hB⟩ := h
  obtain ⟨ce, _, hM, hcc⟩ := Kd.N_get h1 [] i h0 hi
  obtain ⟨ua, uc, rfl, ul, ge⟩ := Kd.FK_slice_open hM
  have hv := hcc 0 _ rfl
  rw [Nat.add_zero, show ((Kd.slice 3 (Kd.int .i64))).sz = 1 from rfl, Nat.mul_one] at hv
  have hv := Option.some.inj (hv.symm.trans h6)
  injection hv with hva hvn hvc
  rw [hva, hvc] at hM
  exact Kd.FK_mono hM (fun k hk => ⟨hk.1.1, hk.1.2.1, hk.1.2.2.1⟩)
end
section
variable {P : Program} {md : Region.Mode} {ops : Array Oper} {Q : Exit → Act → World → Prop} {S : World → Prop} {ds : List Nat}
theorem twoZ_Z (i j : Nat) {mi mj : Tmp} {oi oj : Oper} {fuel : Nat} {l li lj : Array Bool} {a : Act} {w : World} {T : Bool × List (List Nat × List Nat)} (HT : Aside0 (rtab md ops = T))
    (h1 : ∀ K : Act → World → Prop, Shut (∀ a' w', S w' → (S w' → wpAnyLast P md ops Q S ds fuel li a' w') → K a' w') → if Region.wanted oi (yielded ops a.tmps) = true then Oper.wp P oi a w K Q else K (a.put (some mi) undef) w)
    (h2 : ∀ K : Act → World → Prop, Shut (∀ a' w', S w' → (S w' → wpAnyLast P md ops Q S ds fuel lj a' w') → K a' w') → if Region.wanted oj (yielded ops a.tmps) = true then Oper.wp P oj a w K Q else K (a.put (some mj) undef) w)
    (hli : l.setIfInBounds i true = li := by rfl) (hlj : l.setIfInBounds j true = lj := by rfl) (hi : ops[i]? = some oi := by rfl) (hj : ops[j]? = some oj := by rfl) (hNi : oi.dst = some mi := by rfl) (hNj : oj.dst = some mj := by rfl)
    (hc : (readyT T.2 l.toList == [i, j] && l.toList.set i true == li.toList && l.toList.set j true == lj.toList) = true := by kernel_rfl) (hdi : i ∉ ds := by decide) (hdj : j ∉ ds := by decide) : wpAnyLast P md ops Q S ds (fuel + 1) l a w :=
  two_ li lj hi hj hNi hNj (two_of HT.out hc) hdi hdj h1 h2
end
def T12_Z : Bool × List (List Nat × List Nat) := (true, [([], []), ([], []), ([0, 1], [0, 1]), ([], []), ([], []), ([4], [4]), ([], []), ([6], [6]), ([5, 7], [5, 7]), ([3, 8], [3, 8]), ([9], [9]), ([10], [10]), ([2, 11, 2], [2, 11]), ([12, 12, 0, 1, 2, 3, 4, 5, 6, 7, 8, 9, 10, 11, 12], [12])])
def B12_Z : List Nat := [0, 0, 3, 0, 0, 16, 0, 64, 240, 504, 1016, 2040, 4095, 8191]
theorem tab12_Z : rtab .any (opsOf Try.f3 12) = T12_Z := by kernel_rfl
theorem bits12_Z : waitsOk T12_Z.2 B12_Z = true := by kernel_rfl
set_option maxHeartbeats 8000000 in
set_option maxRecDepth 100000 in
theorem laws_FnSpanOrder.calls (k : Nat) (A0 : Option Addr) (c0 : Nat) (l0 : List Int) (A1 : Option Addr) (c1 : Nat) (l1 : List Int) (r : Bool) (w : World) (hr0 : Kd.C (Kd.int .u8) w A0 l0.length l0) (hc0 : l0.length ≤ c0) (hr1 : Kd.C (Kd.int .u8) w A1 l1.length l1) (hc1 : l1.length ≤ c1) (h : laws_FnSpanOrder.f k l0 l1 = some r) :
  Calls Try.prog 3 #[.slice A0 l0.length c0, .slice A1 l1.length c1] w fun e w' => e = .returned (.bool r) ∧ Below w.heap.size w w' := by
 have HR0 := Aside0.mk hr0
 have HC0 := Aside0.mk hc0
 clear hr0 hc0
 have HR1 := Aside0.mk hr1
 have HC1 := Aside0.mk hc1
 clear hr1 hc1
 have HB := Aside0.mk (Below.refl w.heap.size w)
 have H : (if (l0.length : Int) > 1048576 then (laws_FnSpanOrder.j0 k l0 l1 true) else (laws_FnSpanOrder.j0 k l0 l1 (decide ((l1.length : Int) > 1048576)))) = some r := h
 clear h
 have HC3 := Aside0.mk H
 clear H
 go_enter Try.func3, Try.ntmps3
 go_upto_region 1 with (fail)
 go_cut [17] (fun v17 wc => ∃ (kq : Nat) (x17_2 : Bool), v17 = .bool x17_2 ∧ Aside0 (laws_FnSpanOrder.j0 kq l0 l1 x17_2 = some r) ∧ Aside0 (kq ≤ k) ∧ Aside0 (Below w.heap.size w wc))
 case first =>
  have H := HC3.out
  clear HC3
  by_cases c4 : (l0.length : Int) > 1048576
  ·rw [if_pos c4] at H
   have c4b0 : decide (1048576 < (l0.length : Int)) = true := decide_eq_true c4
   have c4b1 : decide (1048576 < l0.length) = true := decide_eq_true (by omega)
   clear c4
   (first | rw [c4b0] | (simp only [i64_w, i32_w]; rw [c4b0]) | skip)
   have H' := Aside0.mk H
   clear H
   go_wp2
   go_meet
   case rel => exact ⟨_, (true), z15_13, H', ⟨by first | omega | exact Nat.le_refl _⟩, ⟨z15_0⟩⟩
  ·rw [if_neg c4] at H
   have c4b0 : decide (1048576 < (l0.length : Int)) = false := decide_eq_false c4
   have c4b1 : decide (1048576 < l0.length) = false := decide_eq_false (by omega)
   clear c4
   (first | rw [c4b0] | (simp only [i64_w, i32_w]; rw [c4b0]) | skip)
   have H' := Aside0.mk H
   clear H
   go_wp2
   go_meet
   case rel => exact ⟨_, (decide ((l1.length : Int) > 1048576)), z15_13, H', ⟨by first | omega | exact Nat.le_refl _⟩, ⟨z15_0⟩⟩
 case rest =>
  clear HC3
  try clear c1
  obtain ⟨kq, x17_2, rfl, HA, HJ2, HB⟩ := hcut
  cases kq with
  | zero => exact absurd HA.out (by simp [laws_FnSpanOrder.j0])
  | succ kj2 =>
   have H := HA.out
   clear HA
   simp only [laws_FnSpanOrder.j0] at H
   by_cases c5 : x17_2 = true
   ·subst c5
    have H1 : (some true) = some r := by rw [if_pos rfl] at H; exact H
    clear H
    have H := H1
    clear H1
    obtain rfl := Option.some.inj H
    go_wp2
    go_ret
    exact ⟨by first | rfl | (simp [errW_none, errW_some] <;> rfl) | (simp [*, errW_none, errW_some] <;> rfl), z15_0⟩
   ·replace c5 := Bool.eq_false_iff.mpr c5
    subst c5
    have H1 : ((spec_DrawSpanTidy.f kj2 l0).bind fun t448 => ((impl_SpanTidy.f kj2 t448).bind fun t451 => ((spec_SpanTidy.f kj2 t448).bind fun t454 => ((laws_lkRows.f kj2 t451 t454).bind fun t457 => (if t457 = true then ((spec_SpanOk.f kj2 t448).bind fun t458 => (if t458 = true then (if (t448.length : Int) = 0 then (laws_FnSpanOrder.j1 kj2 l1 t448 t451 true) else (laws_FnSpanOrder.j1 kj2 l1 t448 t451 ((t448.length : Int) == 8))) else (laws_FnSpanOrder.j1 kj2 l1 t448 t451 true))) else (laws_FnSpanOrder.j1 kj2 l1 t448 t451 true)))))) = some r := by rw [if_neg (show ¬ (false = true) by decide)] at H; exact H
    clear H
    have H := H1
    clear H1
    replace H := Option.bind_eq_some_iff.mp H
    obtain ⟨t448, A60, H⟩ := H
    replace H : ((impl_SpanTidy.f kj2 t448).bind fun t451 => ((spec_SpanTidy.f kj2 t448).bind fun t454 => ((laws_lkRows.f kj2 t451 t454).bind fun t457 => (if t457 = true then ((spec_SpanOk.f kj2 t448).bind fun t458 => (if t458 = true then (if (t448.length : Int) = 0 then (laws_FnSpanOrder.j1 kj2 l1 t448 t451 true) else (laws_FnSpanOrder.j1 kj2 l1 t448 t451 ((t448.length : Int) == 8))) else (laws_FnSpanOrder.j1 kj2 l1 t448 t451 true))) else (laws_FnSpanOrder.j1 kj2 l1 t448 t451 true))))) = some r := H
    have A6 := Aside0.mk A60
    clear A60
    replace H := Option.bind_eq_some_iff.mp H
    obtain ⟨t451, A70, H⟩ := H
    replace H : ((spec_SpanTidy.f kj2 t448).bind fun t454 => ((laws_lkRows.f kj2 t451 t454).bind fun t457 => (if t457 = true then ((spec_SpanOk.f kj2 t448).bind fun t458 => (if t458 = true then (if (t448.length : Int) = 0 then (laws_FnSpanOrder.j1 kj2 l1 t448 t451 true) else (laws_FnSpanOrder.j1 kj2 l1 t448 t451 ((t448.length : Int) == 8))) else (laws_FnSpanOrder.j1 kj2 l1 t448 t451 true))) else (laws_FnSpanOrder.j1 kj2 l1 t448 t451 true)))) = some r := H
    have A7 := Aside0.mk A70
    clear A70
    have HC8 := Aside0.mk H
    clear H
    go_upto_region 5 with (first | ((with_reducible refine gate_callee (f := 15) rfl ?_); refine goesL_ (some 19) rfl rfl Try.func15 (by kernel_rfl) rfl #[.slice A0 l0.length c0] rfl z15_2 ?_; (with_reducible refine (spec_DrawSpanTidy.calls kj2 _ _ l0 t448 _ ?side1 ?side2 A6.out).mono ?_); (case side1 => exact cZ ((Kd.C_below HR0.out HB.out))); (case side2 => exact HC0.out); rintro e w9 ⟨v449, rfl, ho0, hb⟩; refine ⟨_, rfl, ?_⟩; have HO450 := Aside0.mk (Kd.N_lower (Kd.N_mono (ok' := fun k_ => True) ho0 (fun k_ hk_ => trivial)) (below_size z15_0)); replace HB := Aside0.mk (below_step z15_0 hb); (try clear hb); (try clear ho0); obtain ⟨Ao10, co10, eo10⟩ := Kd.N_slice HO450.out; subst eo10; (try simp only [clip_slice])) | ((with_reducible refine gate_callee (f := 16) rfl ?_); refine goesL_ (some 21) rfl rfl Try.func16 (by kernel_rfl) rfl #[.slice Ao10 t448.length co10] rfl z15_2 ?_; (with_reducible refine (impl_SpanTidy.calls kj2 _ _ t448 t451 _ ?side1 ?side2 A7.out).mono ?_); (case side1 => exact cZ ((Kd.N_reads' HO450.out).2.2)); (case side2 => first | exact (Kd.N_reads' HO450.out).2.1 | exact Nat.le_refl _); rintro e w11 ⟨v452, rfl, ho0, hb⟩; refine ⟨_, rfl, ?_⟩; have HO453 := Aside0.mk (Kd.N_lower (Kd.N_mono (ok' := fun k_ => some k_ ≠ (.slice Ao10 t448.length co10 : Value).ownBlock) (Kd.S_N (Kd.S_bound ho0)) (fun k_ hk_ => (Kd.fresh' (Kd.N_lt z15_5) k_ hk_.2.1))) (below_size z15_0)); replace HO450 := Aside0.mk (Kd.N_elder' z15_5 z15_1 hb); replace HB := Aside0.mk (below_step z15_0 hb); (try clear hb); (try clear ho0)))
    (try simp only [Act.put, List.setIfInBounds_toArray, List.set_cons_zero, List.set_cons_succ])
    go_cut [41] (fun v41 wc => ∃ (kq : Nat) (x41_7 : Bool), v41 = .bool x41_7 ∧ Aside0 (laws_FnSpanOrder.j1 kq l1 t448 t451 x41_7 = some r) ∧ Aside0 (kq ≤ kj2) ∧ Aside0 (Kd.N (Kd.slice 3 (Kd.int .i64)) 28 wc w.heap.size (fun k_ => some k_ ≠ (v452 : Value).ownBlock) (.slice Ao10 t448.length co10) t448) ∧ Aside0 (Kd.N (Kd.slice 3 (Kd.int .i64)) 28 wc w.heap.size (fun k_ => some k_ ≠ ((.slice Ao10 t448.length co10) : Value).ownBlock) v452 t451) ∧ Aside0 (Below w.heap.size w wc))
    case first =>
     have H := HC8.out
     clear HC8
     replace H := Option.bind_eq_some_iff.mp H
     obtain ⟨t454, A120, H⟩ := H
     replace H : ((laws_lkRows.f kj2 t451 t454).bind fun t457 => (if t457 = true then ((spec_SpanOk.f kj2 t448).bind fun t458 => (if t458 = true then (if (t448.length : Int) = 0 then (laws_FnSpanOrder.j1 kj2 l1 t448 t451 true) else (laws_FnSpanOrder.j1 kj2 l1 t448 t451 ((t448.length : Int) == 8))) else (laws_FnSpanOrder.j1 kj2 l1 t448 t451 true))) else (laws_FnSpanOrder.j1 kj2 l1 t448 t451 true))) = some r := H
     have A12 := Aside0.mk A120
     clear A120
     replace H := Option.bind_eq_some_iff.mp H
     obtain ⟨t457, A130, H⟩ := H
     replace H : (if t457 = true then ((spec_SpanOk.f kj2 t448).bind fun t458 => (if t458 = true then (if (t448.length : Int) = 0 then (laws_FnSpanOrder.j1 kj2 l1 t448 t451 true) else (laws_FnSpanOrder.j1 kj2 l1 t448 t451 ((t448.length : Int) == 8))) else (laws_FnSpanOrder.j1 kj2 l1 t448 t451 true))) else (laws_FnSpanOrder.j1 kj2 l1 t448 t451 true)) = some r := H
     have A13 := Aside0.mk A130
     clear A130
     by_cases c14 : t457 = true
     ·subst c14
      have H1 : ((spec_SpanOk.f kj2 t448).bind fun t458 => (if t458 = true then (if (t448.length : Int) = 0 then (laws_FnSpanOrder.j1 kj2 l1 t448 t451 true) else (laws_FnSpanOrder.j1 kj2 l1 t448 t451 ((t448.length : Int) == 8))) else (laws_FnSpanOrder.j1 kj2 l1 t448 t451 true))) = some r := by rw [if_pos rfl] at H; exact H
      clear H
      have H := H1
      clear H1
      replace H := Option.bind_eq_some_iff.mp H
      obtain ⟨t458, A150, H⟩ := H
      replace H : (if t458 = true then (if (t448.length : Int) = 0 then (laws_FnSpanOrder.j1 kj2 l1 t448 t451 true) else (laws_FnSpanOrder.j1 kj2 l1 t448 t451 ((t448.length : Int) == 8))) else (laws_FnSpanOrder.j1 kj2 l1 t448 t451 true)) = some r := H
      have A15 := Aside0.mk A150
      clear A150
      by_cases c16 : t458 = true
      ·subst c16
       have H1 : (if (t448.length : Int) = 0 then (laws_FnSpanOrder.j1 kj2 l1 t448 t451 true) else (laws_FnSpanOrder.j1 kj2 l1 t448 t451 ((t448.length : Int) == 8))) = some r := by rw [if_pos rfl] at H; exact H
       clear H
       have H := H1
       clear H1
       by_cases c17 : (t448.length : Int) = 0
       ·rw [if_pos c17] at H
        have c17b0 : ((t448.length : Int) == 0) = true := beq_iff_eq.mpr c17
        have c17b1 : ((t448.length : Int) != 0) = false := bne_eq_false_iff_eq.mpr c17
        clear c17
        (first | rw [c17b0] | (simp only [i64_w, i32_w]; rw [c17b0]) | skip)
        have H' := Aside0.mk H
        clear H
        go_wp2_with (first | ((with_reducible refine gate_callee (f := 18) rfl ?_); refine goesL_ (some 24) rfl rfl Try.func18 (by kernel_rfl) rfl #[.slice Ao10 t448.length co10] rfl z15_2 ?_; (with_reducible refine (spec_SpanTidy.calls kj2 _ _ t448 t454 _ ?side1 ?side2 A12.out).mono ?_); (case side1 => exact cZ ((Kd.N_reads' HO450.out).2.2)); (case side2 => first | exact (Kd.N_reads' HO450.out).2.1 | exact Nat.le_refl _); rintro e w18 ⟨v455, rfl, ho0, hb⟩; refine ⟨_, rfl, ?_⟩; have HO456 := Aside0.mk (Kd.N_lower (Kd.N_mono (ok' := fun k_ => some k_ ≠ (.slice Ao10 t448.length co10 : Value).ownBlock ∧ some k_ ≠ (v452 : Value).ownBlock) (Kd.S_N (Kd.S_bound ho0)) (fun k_ hk_ => ⟨(Kd.fresh' (Kd.N_lt z15_5) k_ hk_.2.1), (Kd.fresh' (Kd.N_lt z15_6) k_ hk_.2.1)⟩)) (below_size z15_0)); replace HO450 := Aside0.mk (Kd.N_elder' z15_5 z15_1 hb); replace HO453 := Aside0.mk (Kd.N_elder' z15_6 z15_1 hb); replace HB := Aside0.mk (below_step z15_0 hb); (try clear hb); (try clear ho0); obtain ⟨Ao19, co19, eo19⟩ := Kd.N_slice HO453.out; subst eo19; (try simp only [clip_slice]); obtain ⟨Ao20, co20, eo20⟩ := Kd.N_slice HO456.out; subst eo20; (try simp only [clip_slice])) | ((with_reducible refine gate_callee (f := 17) rfl ?_); refine goesL_ (some 25) rfl rfl Try.func17 (by kernel_rfl) rfl #[.slice Ao19 t451.length t451.length, .slice Ao20 t454.length co20] rfl z15_2 ?_; (with_reducible refine (laws_lkRows.calls kj2 _ _ t451 _ _ t454 true _ ?side1 ?side2 ?side3 ?side4 A13.out).mono ?_); (case side1 => exact cZ ((Kd.N_reads' HO453.out).2.2)); (case side2 => first | exact (Kd.N_reads' HO453.out).2.1 | exact Nat.le_refl _); (case side3 => exact cZ ((Kd.N_reads' HO456.out).2.2)); (case side4 => first | exact (Kd.N_reads' HO456.out).2.1 | exact Nat.le_refl _); rintro e w' ⟨rfl, ⟨nd, rfl⟩⟩; refine ⟨_, rfl, ?_⟩) | (go_at_call 19; (with_reducible refine (spec_SpanOk.calls kj2 _ _ t448 true _ ?side1 ?side2 A15.out).mono ?_); (case side1 => exact cZ ((Kd.N_reads' HO450.out).2.2)); (case side2 => first | exact (Kd.N_reads' HO450.out).2.1 | exact Nat.le_refl _); rintro e w' ⟨rfl, ⟨nd, rfl⟩⟩))
        go_meet
        case rel => exact ⟨_, (true), z15_13, H', ⟨z15_19⟩, ⟨z15_11⟩, ⟨z15_12⟩, ⟨z15_0⟩⟩
       ·rw [if_neg c17] at H
        have c17b0 : ((t448.length : Int) == 0) = false := beq_eq_false_iff_ne.mpr c17
        have c17b1 : ((t448.length : Int) != 0) = true := bne_iff_ne.mpr c17
        have c17b2 : ¬ (t448 = []) := fun h_ => c17 (by rw [h_]; rfl)
        (first | rw [c17b0] | (simp only [i64_w, i32_w]; rw [c17b0]) | skip)
        have H' := Aside0.mk H
        clear H
        go_wp2_with (first | ((with_reducible refine gate_callee (f := 18) rfl ?_); refine goesL_ (some 24) rfl rfl Try.func18 (by kernel_rfl) rfl #[.slice Ao10 t448.length co10] rfl z15_2 ?_; (with_reducible refine (spec_SpanTidy.calls kj2 _ _ t448 t454 _ ?side1 ?side2 A12.out).mono ?_); (case side1 => exact cZ ((Kd.N_reads' HO450.out).2.2)); (case side2 => first | exact (Kd.N_reads' HO450.out).2.1 | exact Nat.le_refl _); rintro e w21 ⟨v455, rfl, ho0, hb⟩; refine ⟨_, rfl, ?_⟩; have HO456 := Aside0.mk (Kd.N_lower (Kd.N_mono (ok' := fun k_ => some k_ ≠ (.slice Ao10 t448.length co10 : Value).ownBlock ∧ some k_ ≠ (v452 : Value).ownBlock) (Kd.S_N (Kd.S_bound ho0)) (fun k_ hk_ => ⟨(Kd.fresh' (Kd.N_lt z15_5) k_ hk_.2.1), (Kd.fresh' (Kd.N_lt z15_6) k_ hk_.2.1)⟩)) (below_size z15_0)); replace HO450 := Aside0.mk (Kd.N_elder' z15_5 z15_1 hb); replace HO453 := Aside0.mk (Kd.N_elder' z15_6 z15_1 hb); replace HB := Aside0.mk (below_step z15_0 hb); (try clear hb); (try clear ho0); obtain ⟨Ao22, co22, eo22⟩ := Kd.N_slice HO453.out; subst eo22; (try simp only [clip_slice]); obtain ⟨Ao23, co23, eo23⟩ := Kd.N_slice HO456.out; subst eo23; (try simp only [clip_slice])) | ((with_reducible refine gate_callee (f := 17) rfl ?_); refine goesL_ (some 25) rfl rfl Try.func17 (by kernel_rfl) rfl #[.slice Ao22 t451.length t451.length, .slice Ao23 t454.length co23] rfl z15_2 ?_; (with_reducible refine (laws_lkRows.calls kj2 _ _ t451 _ _ t454 true _ ?side1 ?side2 ?side3 ?side4 A13.out).mono ?_); (case side1 => exact cZ ((Kd.N_reads' HO453.out).2.2)); (case side2 => first | exact (Kd.N_reads' HO453.out).2.1 | exact Nat.le_refl _); (case side3 => exact cZ ((Kd.N_reads' HO456.out).2.2)); (case side4 => first | exact (Kd.N_reads' HO456.out).2.1 | exact Nat.le_refl _); rintro e w' ⟨rfl, ⟨nd, rfl⟩⟩; refine ⟨_, rfl, ?_⟩) | (go_at_call 19; (with_reducible refine (spec_SpanOk.calls kj2 _ _ t448 true _ ?side1 ?side2 A15.out).mono ?_); (case side1 => exact cZ ((Kd.N_reads' HO450.out).2.2)); (case side2 => first | exact (Kd.N_reads' HO450.out).2.1 | exact Nat.le_refl _); rintro e w' ⟨rfl, ⟨nd, rfl⟩⟩))
        go_meet
        case rel => exact ⟨_, (((t448.length : Int) == 8)), z15_13, H', ⟨z15_19⟩, ⟨z15_11⟩, ⟨z15_12⟩, ⟨z15_0⟩⟩
      ·replace c16 := Bool.eq_false_iff.mpr c16
       subst c16
       have H1 : (laws_FnSpanOrder.j1 kj2 l1 t448 t451 true) = some r := by rw [if_neg (show ¬ (false = true) by decide)] at H; exact H
       clear H
       have H := H1
       clear H1
       have H' := Aside0.mk H
       clear H
       go_wp2_with (first | ((with_reducible refine gate_callee (f := 18) rfl ?_); refine goesL_ (some 24) rfl rfl Try.func18 (by kernel_rfl) rfl #[.slice Ao10 t448.length co10] rfl z15_2 ?_; (with_reducible refine (spec_SpanTidy.calls kj2 _ _ t448 t454 _ ?side1 ?side2 A12.out).mono ?_); (case side1 => exact cZ ((Kd.N_reads' HO450.out).2.2)); (case side2 => first | exact (Kd.N_reads' HO450.out).2.1 | exact Nat.le_refl _); rintro e w24 ⟨v455, rfl, ho0, hb⟩; refine ⟨_, rfl, ?_⟩; have HO456 := Aside0.mk (Kd.N_lower (Kd.N_mono (ok' := fun k_ => some k_ ≠ (.slice Ao10 t448.length co10 : Value).ownBlock ∧ some k_ ≠ (v452 : Value).ownBlock) (Kd.S_N (Kd.S_bound ho0)) (fun k_ hk_ => ⟨(Kd.fresh' (Kd.N_lt z15_5) k_ hk_.2.1), (Kd.fresh' (Kd.N_lt z15_6) k_ hk_.2.1)⟩)) (below_size z15_0)); replace HO450 := Aside0.mk (Kd.N_elder' z15_5 z15_1 hb); replace HO453 := Aside0.mk (Kd.N_elder' z15_6 z15_1 hb); replace HB := Aside0.mk (below_step z15_0 hb); (try clear hb); (try clear ho0); obtain ⟨Ao25, co25, eo25⟩ := Kd.N_slice HO453.out; subst eo25; (try simp only [clip_slice]); obtain ⟨Ao26, co26, eo26⟩ := Kd.N_slice HO456.out; subst eo26; (try simp only [clip_slice])) | ((with_reducible refine gate_callee (f := 17) rfl ?_); refine goesL_ (some 25) rfl rfl Try.func17 (by kernel_rfl) rfl #[.slice Ao25 t451.length t451.length, .slice Ao26 t454.length co26] rfl z15_2 ?_; (with_reducible refine (laws_lkRows.calls kj2 _ _ t451 _ _ t454 true _ ?side1 ?side2 ?side3 ?side4 A13.out).mono ?_); (case side1 => exact cZ ((Kd.N_reads' HO453.out).2.2)); (case side2 => first | exact (Kd.N_reads' HO453.out).2.1 | exact Nat.le_refl _); (case side3 => exact cZ ((Kd.N_reads' HO456.out).2.2)); (case side4 => first | exact (Kd.N_reads' HO456.out).2.1 | exact Nat.le_refl _); rintro e w' ⟨rfl, ⟨nd, rfl⟩⟩; refine ⟨_, rfl, ?_⟩) | (go_at_call 19; (with_reducible refine (spec_SpanOk.calls kj2 _ _ t448 false _ ?side1 ?side2 A15.out).mono ?_); (case side1 => exact cZ ((Kd.N_reads' HO450.out).2.2)); (case side2 => first | exact (Kd.N_reads' HO450.out).2.1 | exact Nat.le_refl _); rintro e w' ⟨rfl, ⟨nd, rfl⟩⟩))
       go_meet
       case rel => exact ⟨_, (true), z15_13, H', ⟨z15_19⟩, ⟨z15_11⟩, ⟨z15_12⟩, ⟨z15_0⟩⟩
     ·replace c14 := Bool.eq_false_iff.mpr c14
      subst c14
      have H1 : (laws_FnSpanOrder.j1 kj2 l1 t448 t451 true) = some r := by rw [if_neg (show ¬ (false = true) by decide)] at H; exact H
      clear H
      have H := H1
      clear H1
      have H' := Aside0.mk H
      clear H
      go_wp2_with (first | ((with_reducible refine gate_callee (f := 18) rfl ?_); refine goesL_ (some 24) rfl rfl Try.func18 (by kernel_rfl) rfl #[.slice Ao10 t448.length co10] rfl z15_2 ?_; (with_reducible refine (spec_SpanTidy.calls kj2 _ _ t448 t454 _ ?side1 ?side2 A12.out).mono ?_); (case side1 => exact cZ ((Kd.N_reads' HO450.out).2.2)); (case side2 => first | exact (Kd.N_reads' HO450.out).2.1 | exact Nat.le_refl _); rintro e w27 ⟨v455, rfl, ho0, hb⟩; refine ⟨_, rfl, ?_⟩; have HO456 := Aside0.mk (Kd.N_lower (Kd.N_mono (ok' := fun k_ => some k_ ≠ (.slice Ao10 t448.length co10 : Value).ownBlock ∧ some k_ ≠ (v452 : Value).ownBlock) (Kd.S_N (Kd.S_bound ho0)) (fun k_ hk_ => ⟨(Kd.fresh' (Kd.N_lt z15_5) k_ hk_.2.1), (Kd.fresh' (Kd.N_lt z15_6) k_ hk_.2.1)⟩)) (below_size z15_0)); replace HO450 := Aside0.mk (Kd.N_elder' z15_5 z15_1 hb); replace HO453 := Aside0.mk (Kd.N_elder' z15_6 z15_1 hb); replace HB := Aside0.mk (below_step z15_0 hb); (try clear hb); (try clear ho0); obtain ⟨Ao28, co28, eo28⟩ := Kd.N_slice HO453.out; subst eo28; (try simp only [clip_slice]); obtain ⟨Ao29, co29, eo29⟩ := Kd.N_slice HO456.out; subst eo29; (try simp only [clip_slice])) | ((with_reducible refine gate_callee (f := 17) rfl ?_); refine goesL_ (some 25) rfl rfl Try.func17 (by kernel_rfl) rfl #[.slice Ao28 t451.length t451.length, .slice Ao29 t454.length co29] rfl z15_2 ?_; (with_reducible refine (laws_lkRows.calls kj2 _ _ t451 _ _ t454 false _ ?side1 ?side2 ?side3 ?side4 A13.out).mono ?_); (case side1 => exact cZ ((Kd.N_reads' HO453.out).2.2)); (case side2 => first | exact (Kd.N_reads' HO453.out).2.1 | exact Nat.le_refl _); (case side3 => exact cZ ((Kd.N_reads' HO456.out).2.2)); (case side4 => first | exact (Kd.N_reads' HO456.out).2.1 | exact Nat.le_refl _); rintro e w' ⟨rfl, ⟨nd, rfl⟩⟩; refine ⟨_, rfl, ?_⟩))
      go_meet
      case rel => exact ⟨_, (true), z15_13, H', ⟨z15_19⟩, ⟨z15_11⟩, ⟨z15_12⟩, ⟨z15_0⟩⟩
    case rest =>
     clear HC8
     try clear c1
     try clear c5
     obtain ⟨kq, x41_7, rfl, HA, HJ7, HO_5, HO_6, HB⟩ := hcut
     cases kq with
     | zero => exact absurd HA.out (by simp [laws_FnSpanOrder.j1])
     | succ kj7 =>
      have H := HA.out
      clear HA
      simp only [laws_FnSpanOrder.j1] at H
      by_cases c30 : x41_7 = true
      ·subst c30
       have H1 : ((spec_SpanTidy.f kj7 t448).bind fun t459 => ((laws_lkRows.f kj7 t451 t459).bind fun t462 => (some t462))) = some r := by rw [if_pos rfl] at H; exact H
       clear H
       have H := H1
       clear H1
       replace H := Option.bind_eq_some_iff.mp H
       obtain ⟨t459, A310, H⟩ := H
       replace H : ((laws_lkRows.f kj7 t451 t459).bind fun t462 => (some t462)) = some r := H
       have A31 := Aside0.mk A310
       clear A310
       replace H := Option.bind_eq_some_iff.mp H
       obtain ⟨t462, A320, H⟩ := H
       replace H : (some t462) = some r := H
       have A32 := Aside0.mk A320
       clear A320
       obtain rfl := Option.some.inj H
       go_wp2_with (first | ((with_reducible refine gate_callee (f := 18) rfl ?_); refine goesL_ (some 44) rfl rfl Try.func18 (by kernel_rfl) rfl #[.slice Ao10 t448.length co10] rfl z15_2 ?_; (with_reducible refine (spec_SpanTidy.calls kj7 _ _ t448 t459 _ ?side1 ?side2 A31.out).mono ?_); (case side1 => exact cZ ((Kd.N_reads' HO_5.out).2.2)); (case side2 => first | exact (Kd.N_reads' HO_5.out).2.1 | exact Nat.le_refl _); rintro e w33 ⟨v460, rfl, ho0, hb⟩; refine ⟨_, rfl, ?_⟩; have HO461 := Aside0.mk (Kd.N_lower (Kd.N_mono (ok' := fun k_ => some k_ ≠ (.slice Ao10 t448.length co10 : Value).ownBlock ∧ some k_ ≠ (v452 : Value).ownBlock) (Kd.S_N (Kd.S_bound ho0)) (fun k_ hk_ => ⟨(Kd.fresh' (Kd.N_lt z15_3) k_ hk_.2.1), (Kd.fresh' (Kd.N_lt z15_4) k_ hk_.2.1)⟩)) (below_size z15_0)); replace HO_5 := Aside0.mk (Kd.N_elder' z15_3 z15_1 hb); replace HO_6 := Aside0.mk (Kd.N_elder' z15_4 z15_1 hb); replace HB := Aside0.mk (below_step z15_0 hb); (try clear hb); (try clear ho0); obtain ⟨Ao34, co34, eo34⟩ := Kd.N_slice HO_6.out; subst eo34; (try simp only [clip_slice]); obtain ⟨Ao35, co35, eo35⟩ := Kd.N_slice HO461.out; subst eo35; (try simp only [clip_slice])) | ((with_reducible refine gate_callee (f := 17) rfl ?_); refine goesL_ (some 45) rfl rfl Try.func17 (by kernel_rfl) rfl #[.slice Ao34 t451.length t451.length, .slice Ao35 t459.length co35] rfl z15_2 ?_; (with_reducible refine (laws_lkRows.calls kj7 _ _ t451 _ _ t459 t462 _ ?side1 ?side2 ?side3 ?side4 A32.out).mono ?_); (case side1 => exact cZ ((Kd.N_reads' HO_6.out).2.2)); (case side2 => first | exact (Kd.N_reads' HO_6.out).2.1 | exact Nat.le_refl _); (case side3 => exact cZ ((Kd.N_reads' HO461.out).2.2)); (case side4 => first | exact (Kd.N_reads' HO461.out).2.1 | exact Nat.le_refl _); rintro e w' ⟨rfl, ⟨nd, rfl⟩⟩; refine ⟨_, rfl, ?_⟩))
       go_ret
       exact ⟨by first | rfl | (simp [errW_none, errW_some] <;> rfl) | (simp [*, errW_none, errW_some] <;> rfl), z15_0⟩
      ·replace c30 := Bool.eq_false_iff.mpr c30
       subst c30
       have H1 : (laws_FnSpanOrder.l0 kj7 l1 t448 t451 (([] : List (List Int))) (wrap64 ((t448.length : Int) - 1))) = some r := by rw [if_neg (show ¬ (false = true) by decide)] at H; exact H
       clear H
       have H := H1
       clear H1
       obtain ⟨y463, hy463⟩ : ∃ y_ : List (List Int), y_ = (([] : List (List Int))) := ⟨_, rfl⟩
       replace H : (laws_FnSpanOrder.l0 kj7 l1 t448 t451 y463 (wrap64 ((t448.length : Int) - 1))) = some r := by first | (rw [hy463]; with_reducible exact H) | (have H2_ := (Option.bind_some _ _).symm.trans H; rw [hy463]; with_reducible exact H2_) | (have H2_ := (Option.bind_some _ _).symm.trans H; with_reducible exact H2_) | with_reducible exact H | (rw [hy463]; exact H) | exact H
       have Ny463 := Aside0.mk hy463
       clear hy463
       have H' := Aside0.mk H
       clear H
       go_wp2_with (first | ((with_reducible refine gate_dst (N := 46) rfl ?_); (try (refine gate_guard (by rfl) ?_; dsimp only)); refine Kd.N_lit (Kd.slice 3 (Kd.int .i64)) _ 28 ?hg (N' := 46) ?hd (xs := ([] : List (List Int))) (inner := []) (ok := (fun k_ => some k_ ≠ (.slice Ao10 t448.length co10 : Value).ownBlock ∧ some k_ ≠ (v452 : Value).ownBlock)) (okp := (fun k_ => some k_ ≠ (.slice Ao10 t448.length co10 : Value).ownBlock ∧ some k_ ≠ (v452 : Value).ownBlock)) ?hr ?hp (fun _ hk => hk) ((show ∀ k_, wc.heap.size ≤ k_ → (fun k_ => some k_ ≠ (.slice Ao10 t448.length co10 : Value).ownBlock ∧ some k_ ≠ (v452 : Value).ownBlock) k_ from fun k_ hk => ⟨Kd.fresh' (Kd.N_lt z15_3) k_ hk, Kd.fresh' (Kd.N_lt z15_4) k_ hk⟩) _ (Nat.le_refl _)) (Below.refl _ _) (Nat.le_refl _) (by simp) ?_; (case hd => rfl); (case hg => rfl); (case hr => first | (go_simp; done) | (go_simp; rfl)); (case hp => exact (Reps.none _ _)); intro v464 w36 ho37 hb hg_ hnew_; clear hg_ hnew_; (first | rw [← Ny463.out] at ho37 | (simp only [Int.reduceToNat] at ho37; rw [← Ny463.out] at ho37)); replace HO_5 := Aside0.mk (Kd.N_elder' z15_3 (by first | exact Kd.N_base ho37 | exact Kd.R_base ho37) hb); replace HO_6 := Aside0.mk (Kd.N_elder' z15_4 (by first | exact Kd.N_base ho37 | exact Kd.R_base ho37) hb); have HO465 := Aside0.mk (Kd.N_lower ho37 (below_size z15_0)); replace HB := Aside0.mk (below_step z15_0 hb); clear hb ho37))
       go_loopg [7, 8] kj7 (fun kq v7 v8 w' => ∃ (x7_3 : List (List Int)) (x8_3 : Int), v8 = .int .i64 x8_3 ∧ Aside0 (laws_FnSpanOrder.l0 kq l1 t448 t451 x7_3 x8_3 = some r) ∧ Aside0 (kq ≤ kj7) ∧ Aside0 (Kd.N (Kd.slice 3 (Kd.int .i64)) 28 w' w.heap.size (fun k_ => some k_ ≠ (v452 : Value).ownBlock ∧ some k_ ≠ (v7 : Value).ownBlock) (.slice Ao10 t448.length co10) t448) ∧ Aside0 (Kd.N (Kd.slice 3 (Kd.int .i64)) 28 w' w.heap.size (fun k_ => some k_ ≠ ((.slice Ao10 t448.length co10) : Value).ownBlock ∧ some k_ ≠ (v7 : Value).ownBlock) v452 t451) ∧ Aside0 (Kd.N (Kd.slice 3 (Kd.int .i64)) 28 w' w.heap.size (fun k_ => some k_ ≠ ((.slice Ao10 t448.length co10) : Value).ownBlock ∧ some k_ ≠ (v452 : Value).ownBlock) v7 x7_3) ∧ Aside0 (Below w.heap.size w w'))
       case atStart => exact ⟨(y463), (wrap64 ((t448.length : Int) - 1)), z15_13, H', ⟨Nat.le_refl _⟩, ⟨z15_3⟩, ⟨z15_4⟩, ⟨by (with_reducible repeat (first | apply Kd.N_alloc | apply Kd.N_drewN | apply Kd.N_drew)); exact HO465.out⟩, ⟨z15_0⟩⟩
       case round =>
        clear H'
        try clear c1
        try clear c5
        try clear c30
        obtain ⟨x7_3, x8_3, rfl, HA, HK3, HO_5, HO_6, HO_7, HB⟩ := hrel
        cases gk with
        | zero => exact absurd HA.out (by simp [laws_FnSpanOrder.l0])
        | succ k3 =>
         have H := HA.out
         clear HA
         simp only [laws_FnSpanOrder.l0] at H
         by_cases c38 : x8_3 ≥ 0
         ·rw [if_pos c38] at H
          have c38b0 : decide (0 ≤ x8_3) = true := decide_eq_true c38
          clear c38
          obtain ⟨c39, H⟩ := ifP H
          have c39b0 : decide (0 ≤ x8_3) = true := decide_eq_true c39
          clear c39
          obtain ⟨c40, H⟩ := ifP H
          have c40b0 : decide (x8_3 < (t448.length : Int)) = true := decide_eq_true c40
          clear c40
          obtain ⟨c41, H⟩ := ifP H
          have LMc41 := Aside0.mk c41
          clear c41
          obtain ⟨y467, hy467⟩ : ∃ y_ : List (List Int), y_ = (x7_3 ++ [rd_L2 t448 x8_3]) := ⟨_, rfl⟩
          replace H : (laws_FnSpanOrder.l0 k3 l1 t448 t451 y467 (wrap64 (x8_3 - 1))) = some r := by first | (rw [hy467]; with_reducible exact H) | (have H2_ := (Option.bind_some _ _).symm.trans H; rw [hy467]; with_reducible exact H2_) | (have H2_ := (Option.bind_some _ _).symm.trans H; with_reducible exact H2_) | with_reducible exact H | (rw [hy467]; exact H) | exact H
          have Ny467 := Aside0.mk hy467
          clear hy467
          have H' := Aside0.mk H
          clear H
          have p466 : 0 ≤ (x8_3 : Int) := of_decide_eq_true z15_7
          have q466 : x8_3 < (t448.length : Int) := of_decide_eq_true z15_7
          obtain ⟨ad466, A466_0, c466_0, e466, hx466_0, hl466_0, hi466_0⟩ := at_L2 (Kd.N_reads' HO_5.out).2.2 x8_3 p466 q466
          cases e466
          obtain ⟨ce466, hce466, hMe466, hcc466⟩ := Kd.N_get HO_5.out [] x8_3 p466 (by first | exact q466 | exact of_decide_eq_true z15_7 | (have e_ := (Kd.N_reads' HO_5.out).1; omega))
          obtain ⟨ua466_0, uc466_0, rfl, ul466_0, ge466_0⟩ := Kd.FK_slice_open hMe466
          have hv466_0 := hcc466 0 _ rfl
          rw [Nat.add_zero, show ((Kd.slice 3 (Kd.int .i64))).sz = 1 from rfl, Nat.mul_one] at hv466_0
          replace hv466_0 := Option.some.inj (hv466_0.symm.trans hx466_0)
          injection hv466_0 with hva_ hvn_ hvc_
          rw [hva_] at ge466_0
          rw [hvc_] at ul466_0
          have HL466_0 := Aside0.mk (show Kd.V (Kd.int .i64) 3 _ w.heap.size _ _ (rd_L2 t448 x8_3) from Kd.V_mk ul466_0 ge466_0)
          clear hva_ hvn_ hvc_ ge466_0 ul466_0
          clear hcc466 hce466
          have HR466_0 := Aside0.mk hi466_0
          have HC466_0 := Aside0.mk hl466_0
          clear hi466_0 hl466_0
          replace p466 := eq_true p466
          replace q466 := eq_true q466
          go_wp2_with (first | ((with_reducible refine gate_builtin (b := .append) (xs := #[.tmp 54, .tmp 59]) rfl ?_); (try (refine gate_guard (by rfl) ?_; dsimp only)); at_builtin; refine Kd.N_append (Kd.slice 3 (Kd.int .i64)) (w0 := w) w.heap.size rfl (.tmp 54) (.tmp 59) 23 28 (.slice none 0 0) 24 rfl Try.underlying23 info28 rfl (by decide) (by omega) u7 x7_3 (rd_L2 t448 x8_3) [.slice A466_0 (rd_L2 t448 x8_3).length c466_0] (fun k_ => some k_ ≠ (.slice (some ad466) t448.length co10 : Value).ownBlock ∧ some k_ ≠ (v452 : Value).ownBlock) (fun k_ => ((fun k_ => some k_ ≠ (.slice (some ad466) t448.length co10 : Value).ownBlock ∧ some k_ ≠ (v452 : Value).ownBlock)) k_ ∧ some k_ ≠ (u7 : Value).ownBlock) rfl rfl ?aP (fun _ hk => hk) ?aF ?aO ?aB ?aS ?aL ?_; (case aP => exact (Kd.FK_slice_mk (Kd.V_reads' (Kd.V_mono (ok' := (fun k_ => ((fun k_ => some k_ ≠ (.slice (some ad466) t448.length co10 : Value).ownBlock ∧ some k_ ≠ (v452 : Value).ownBlock)) k_ ∧ some k_ ≠ (u7 : Value).ownBlock)) (HL466_0.out) (fun k_ hk => ⟨⟨hk.2, hk.1.1⟩, hk.1.2⟩))).2.1 (Kd.V_F (Kd.V_mono (ok' := (fun k_ => ((fun k_ => some k_ ≠ (.slice (some ad466) t448.length co10 : Value).ownBlock ∧ some k_ ≠ (v452 : Value).ownBlock)) k_ ∧ some k_ ≠ (u7 : Value).ownBlock)) (HL466_0.out) (fun k_ hk => ⟨⟨hk.2, hk.1.1⟩, hk.1.2⟩))))); (case aB => exact z15_0); (case aF => exact (fun k_ hk => ⟨Kd.fresh' (Kd.N_lt z15_3) k_ hk, Kd.fresh' (Kd.N_lt z15_4) k_ hk⟩)); (case aO => exact z15_8); (case aS => exact (below_size z15_0)); (case aL => have := LMc41.out; omega); intro v468 w42 ho hb hg hat; rw [← Ny467.out] at ho; have n0_ := Aside0.mk (Kd.N_afterv (ok := (fun k_ => some k_ ≠ (v452 : Value).ownBlock)) z15_3 hg hat); have n1_ := Aside0.mk (Kd.N_afterv (ok := (fun k_ => some k_ ≠ (.slice (some ad466) t448.length co10 : Value).ownBlock)) z15_4 hg hat); have n2_ := Aside0.mk (Kd.V_afterv (ok := (fun k_ => some k_ ≠ (.slice (some ad466) t448.length co10 : Value).ownBlock ∧ some k_ ≠ (v452 : Value).ownBlock)) (by (with_reducible repeat (first | apply Kd.V_alloc | apply Kd.V_drewN | apply Kd.V_drew)); exact Kd.V_mono HL466_0.out (fun _ hk => ⟨⟨hk.2, hk.1.1⟩, hk.1.2⟩)) hg hat); have n3_ := Aside0.mk (hb); have n4_ := Aside0.mk (ho); clear HO_5; clear HO_6; clear HL466_0; clear HB; clear HO_7; have HO_5 := n0_; have HO_6 := n1_; have HL466_0 := n2_; have HB := n3_; have HO469 := n4_; clear n0_ n1_ n2_ n3_ n4_; clear ho hb hg hat))
          go_roundg k3
          case measure => have := HJ2.out; have := HJ7.out; have := HK3.out; omega
          case rel => exact ⟨(y467), (wrap64 (x8_3 - 1)), z15_13, H', ⟨by have := HJ2.out; have := HJ7.out; have := HK3.out; omega⟩, ⟨z15_3⟩, ⟨z15_4⟩, ⟨by (with_reducible repeat (first | apply Kd.N_alloc | apply Kd.N_drewN | apply Kd.N_drew)); exact HO469.out⟩, ⟨z15_0⟩⟩
         ·rw [if_neg c38] at H
          have c38b0 : decide (0 ≤ x8_3) = false := decide_eq_false c38
          clear c38
          by_cases c43 : (t448.length : Int) = 0
          ·rw [if_pos c43] at H
           exact absurd H (by simp)
          ·rw [if_neg c43] at H
           have c43b0 : ((t448.length : Int) == 0) = false := beq_eq_false_iff_ne.mpr c43
           have c43b1 : ((t448.length : Int) != 0) = true := bne_iff_ne.mpr c43
           have c43b2 : ¬ (t448 = []) := fun h_ => c43 (by rw [h_]; rfl)
           obtain ⟨ji44, hji44⟩ : ∃ j_ : Int, ((l1.length : Int) % (t448.length : Int)) = j_ := ⟨_, rfl⟩
           replace H : (if 0 ≤ (ji44) then (if (ji44) < (t448.length : Int) then ((some (([] : List (List Int)) : List (List Int))).bind fun y471 => (if y471.length + t448.length < 5864062014805 then ((some (y471 ++ t448 : List (List Int))).bind fun y474 => (if y474.length < 5864062014805 then ((impl_SpanTidy.f k3 x7_3).bind fun t480 => ((laws_lkRows.f k3 t480 t451).bind fun t483 => (if t483 = true then ((impl_SpanTidy.f k3 (y474 ++ [rd_L2 t448 (ji44)])).bind fun t484 => ((laws_lkRows.f k3 t484 t451).bind fun t487 => (some t487))) else (some false)))) else (none))) else (none))) else (none)) else (none)) = some r := by first | (rw [hji44] at H; exact H) | (simp only [hji44] at H ⊢; exact H)
           obtain ⟨c45, H⟩ := ifP H
           have c45b0 : decide (0 ≤ (ji44)) = true := decide_eq_true c45
           clear c45
           obtain ⟨c46, H⟩ := ifP H
           have c46b0 : decide ((ji44) < (t448.length : Int)) = true := decide_eq_true c46
           clear c46
           obtain ⟨y471, hy471⟩ : ∃ y_ : List (List Int), y_ = (([] : List (List Int))) := ⟨_, rfl⟩
           replace H : (if y471.length + t448.length < 5864062014805 then ((some (y471 ++ t448 : List (List Int))).bind fun y474 => (if y474.length < 5864062014805 then ((impl_SpanTidy.f k3 x7_3).bind fun t480 => ((laws_lkRows.f k3 t480 t451).bind fun t483 => (if t483 = true then ((impl_SpanTidy.f k3 (y474 ++ [rd_L2 t448 (ji44)])).bind fun t484 => ((laws_lkRows.f k3 t484 t451).bind fun t487 => (some t487))) else (some false)))) else (none))) else (none)) = some r := by first | (rw [hy471]; with_reducible exact H) | (have H2_ := (Option.bind_some _ _).symm.trans H; rw [hy471]; with_reducible exact H2_) | (have H2_ := (Option.bind_some _ _).symm.trans H; with_reducible exact H2_) | with_reducible exact H | (rw [hy471]; exact H) | exact H
           have Ny471 := Aside0.mk hy471
           clear hy471
           obtain ⟨c47, H⟩ := ifP H
           have LMc47 := Aside0.mk c47
           clear c47
           obtain ⟨y474, hy474⟩ : ∃ y_ : List (List Int), y_ = (y471 ++ t448) := ⟨_, rfl⟩
           replace H : (if y474.length < 5864062014805 then ((impl_SpanTidy.f k3 x7_3).bind fun t480 => ((laws_lkRows.f k3 t480 t451).bind fun t483 => (if t483 = true then ((impl_SpanTidy.f k3 (y474 ++ [rd_L2 t448 (ji44)])).bind fun t484 => ((laws_lkRows.f k3 t484 t451).bind fun t487 => (some t487))) else (some false)))) else (none)) = some r := by first | (rw [hy474]; with_reducible exact H) | (have H2_ := (Option.bind_some _ _).symm.trans H; rw [hy474]; with_reducible exact H2_) | (have H2_ := (Option.bind_some _ _).symm.trans H; with_reducible exact H2_) | with_reducible exact H | (rw [hy474]; exact H) | exact H
           have Ny474 := Aside0.mk hy474
           clear hy474
           obtain ⟨c48, H⟩ := ifP H
           have LMc48 := Aside0.mk c48
           clear c48
           obtain ⟨y477, hy477⟩ : ∃ y_ : List (List Int), y_ = (y474 ++ [rd_L2 t448 (ji44)]) := ⟨_, rfl⟩
           replace H : ((impl_SpanTidy.f k3 x7_3).bind fun t480 => ((laws_lkRows.f k3 t480 t451).bind fun t483 => (if t483 = true then ((impl_SpanTidy.f k3 y477).bind fun t484 => ((laws_lkRows.f k3 t484 t451).bind fun t487 => (some t487))) else (some false)))) = some r := by first | (rw [hy477]; with_reducible exact H) | (have H2_ := (Option.bind_some _ _).symm.trans H; rw [hy477]; with_reducible exact H2_) | (have H2_ := (Option.bind_some _ _).symm.trans H; with_reducible exact H2_) | with_reducible exact H | (rw [hy477]; exact H) | exact H
           have Ny477 := Aside0.mk hy477
           clear hy477
           replace H := Option.bind_eq_some_iff.mp H
           obtain ⟨t480, A490, H⟩ := H
           replace H : ((laws_lkRows.f k3 t480 t451).bind fun t483 => (if t483 = true then ((impl_SpanTidy.f k3 y477).bind fun t484 => ((laws_lkRows.f k3 t484 t451).bind fun t487 => (some t487))) else (some false))) = some r := H
           have A49 := Aside0.mk A490
           clear A490
           replace H := Option.bind_eq_some_iff.mp H
           obtain ⟨t483, A500, H⟩ := H
           replace H : (if t483 = true then ((impl_SpanTidy.f k3 y477).bind fun t484 => ((laws_lkRows.f k3 t484 t451).bind fun t487 => (some t487))) else (some false)) = some r := H
           have A50 := Aside0.mk A500
           clear A500
           by_cases c51 : t483 = true
           ·subst c51
            have H1 : ((impl_SpanTidy.f k3 y477).bind fun t484 => ((laws_lkRows.f k3 t484 t451).bind fun t487 => (some t487))) = some r := by rw [if_pos rfl] at H; exact H
            clear H
            have H := H1
            clear H1
            replace H := Option.bind_eq_some_iff.mp H
            obtain ⟨t484, A520, H⟩ := H
            replace H : ((laws_lkRows.f k3 t484 t451).bind fun t487 => (some t487)) = some r := H
            have A52 := Aside0.mk A520
            clear A520
            replace H := Option.bind_eq_some_iff.mp H
            obtain ⟨t487, A530, H⟩ := H
            replace H : (some t487) = some r := H
            have A53 := Aside0.mk A530
            clear A530
            obtain rfl := Option.some.inj H
            go_upto_region 12 with fail
            go_cut [9] (fun v9 wc => ∃ v478 : Value, v478 = v9 ∧ Aside0 (Kd.N (Kd.slice 3 (Kd.int .i64)) 28 wc w.heap.size (fun k_ => (some k_ ≠ (v452 : Value).ownBlock ∧ some k_ ≠ (u7 : Value).ownBlock) ∧ some k_ ≠ (v478 : Value).ownBlock) (.slice Ao10 t448.length co10) t448) ∧ Aside0 (Kd.N (Kd.slice 3 (Kd.int .i64)) 28 wc w.heap.size (fun k_ => (some k_ ≠ ((.slice Ao10 t448.length co10) : Value).ownBlock ∧ some k_ ≠ (u7 : Value).ownBlock) ∧ some k_ ≠ (v478 : Value).ownBlock) v452 t451) ∧ Aside0 (Kd.N (Kd.slice 3 (Kd.int .i64)) 28 wc w.heap.size (fun k_ => (some k_ ≠ ((.slice Ao10 t448.length co10) : Value).ownBlock ∧ some k_ ≠ (v452 : Value).ownBlock) ∧ some k_ ≠ (v478 : Value).ownBlock) u7 x7_3) ∧ Aside0 (Kd.N (Kd.slice 3 (Kd.int .i64)) 28 wc w.heap.size (fun k_ => some k_ ≠ (v452 : Value).ownBlock ∧ some k_ ≠ (u7 : Value).ownBlock) v478 y477) ∧ Aside0 (Below w.heap.size w wc))
            case first =>
              try go_wp2
              have p470 : 0 ≤ ((ji44) : Int) := of_decide_eq_true z15_7
              have q470 : (ji44) < (t448.length : Int) := of_decide_eq_true z15_7
              obtain ⟨ad470, A470_0, c470_0, e470, hx470_0, hl470_0, hi470_0⟩ := at_L2 (Kd.N_reads' HO_5.out).2.2 (ji44) p470 q470
              cases e470
              obtain ⟨ce470, hce470, hMe470, hcc470⟩ := Kd.N_get HO_5.out [] (ji44) p470 z15_14
              obtain ⟨ua470_0, uc470_0, rfl, ul470_0, ge470_0⟩ := Kd.FK_slice_open hMe470
              have hv470_0 := hcc470 0 _ rfl
              rw [Nat.add_zero, show ((Kd.slice 3 (Kd.int .i64))).sz = 1 from rfl, Nat.mul_one] at hv470_0
              replace hv470_0 := Option.some.inj (hv470_0.symm.trans hx470_0)
              injection hv470_0 with hva_ hvn_ hvc_
              rw [hva_] at ge470_0
              rw [hvc_] at ul470_0
              have HL470_0 := Aside0.mk (show Kd.V (Kd.int .i64) 3 _ w.heap.size _ _ (rd_L2 t448 (ji44)) from Kd.V_mk ul470_0 ge470_0)
              clear hva_ hvn_ hvc_ ge470_0 ul470_0
              clear hcc470 hce470
              have HR470_0 := Aside0.mk hi470_0
              have HC470_0 := Aside0.mk hl470_0
              clear hi470_0 hl470_0
              replace p470 := eq_true p470
              replace q470 := eq_true q470
              have hmod_ : Int.tmod (l1.length : Int) (t448.length : Int) = ji44 := by rw [Int.tmod_eq_emod_of_nonneg (by omega)]; exact hji44
              have PP : Aside0 (0 ≤ ji44) := ⟨of_eq_true p470⟩
              have QQ : Aside0 (ji44 < (t448.length : Int)) := ⟨of_eq_true q470⟩
              have HI := Aside0.mk (or_start_Z (w0 := w) HO_5.out HO_6.out HO_7.out hx470_0 z15_0)
              clear HO_5 HO_6 HO_7 HB HL470_0 HR470_0 HC470_0
              refine start_ (n := 14) (S := fun w' => w'.cell? (ad470.add ji44.toNat) = some (.slice A470_0 (rd_L2 t448 ji44).length c470_0)) (ds := []) #[false, false, false, false, false, false, false, false, false, false, false, false, false, false] (by kernel_rfl) rfl rfl (or_drew_Z HI.out).2.2.2.2.2.1 (fun hHeld => ?_); refine with_tabW tab12_Z bits12_Z (fun HT_ HW_ => ?_)
              have nI_ := Aside0.mk (or_drew_Z HI.out)
              clear HI hx470_0
              have HI := nI_
              clear nI_
              generalize World.drew _ = wz at HI hHeld ⊢
              refine pZ 1 HT_ ?_
              refine pZ 3 HT_ ?_
              refine pZ 4 HT_ ?_
              refine pZ 5 HT_ ?_
              refine pZ 6 HT_ ?_
              refine pZ 7 HT_ ?_
              refine pZ 8 HT_ ?_
              refine pZ 9 HT_ ?_
              refine take_ (i := 10) (N := some 71) (v := ?_) (a' := ?_) #[false, true, false, true, true, true, true, true, true, true, true, false, false, false] rfl rfl (take_ofW HT_.out HW_.out (by kernel_rfl)) (fun _ _ _ h => h) (Or.inl ⟨by rfl, ?_⟩) hHeld ?_ ?_
              rotate_left
              · intro w' s0
                go_simp
                with_reducible rfl
              rotate_left
              · simp only [Act.put, List.setIfInBounds_toArray, List.set_cons_zero, List.set_cons_succ, i64_w, i32_w]
                rfl
              refine twoZ_Z 0 11 HT_ (fun K hK => ?_) (fun K hK => ?_)
              · refine Kd.N_lit_step (Kd.slice 3 (Kd.int .i64)) _ 28 (by rfl) (N' := 61) rfl (xs := ([] : List (List Int))) (inner := []) (ok := fun k_ => some k_ ≠ (v452 : Value).ownBlock ∧ some k_ ≠ (u7 : Value).ownBlock) (okp := fun k_ => some k_ ≠ (v452 : Value).ownBlock ∧ some k_ ≠ (u7 : Value).ownBlock) ?hr (Reps.none _ _) (fun _ hk => hk) (or_newX_Z HI.out _ (Nat.le_refl _)) (Below.refl _ _) (Nat.le_refl _) (by simp) ?_
                (case hr => first | (go_simp; done) | (go_simp; rfl))
                intro v1_ wq1 ho hb hg_ hn_
                have nI_ := Aside0.mk (or_litX_Z HI.out ho hb)
                clear HI
                have HI := nI_
                clear nI_ ho hb hg_ hn_
                refine hK.out _ _ HI.out.2.2.2.2.2.1 (fun hHeld => ?_)
                clear hK K
                refine nZ ?_
                refine twoZ_Z 2 11 HT_ (fun K hK => ?_) (fun K hK => ?_)
                · refine Kd.N_append_rows_step (Kd.slice 3 (Kd.int .i64)) (w0 := w) w.heap.size (by rfl) (.tmp 61) (.tmp 62) 23 28 (.slice none 0 0) 24 rfl Try.underlying23 info28 rfl (by decide) (by omega) v1_ [] t448 _ _ _ (fun k_ => some k_ ≠ (v452 : Value).ownBlock ∧ some k_ ≠ (u7 : Value).ownBlock) (fun k_ => (some k_ ≠ (v452 : Value).ownBlock ∧ some k_ ≠ (u7 : Value).ownBlock) ∧ some k_ ≠ (v1_ : Value).ownBlock) rfl rfl HI.out.2.2.2.1 (Kd.N_F (Kd.N_mono HI.out.1 (fun k hk => ⟨⟨hk.1, hk.2.1⟩, hk.2.2.1⟩))) (fun _ hk => hk) (or_newX_Z HI.out) HI.out.2.2.2.2.2.2 (below_size HI.out.2.2.2.2.2.2) z15_16 ?_
                  intro v3_ wq2 ho hb hg hat
                  have nI_ := Aside0.mk (or_grow_Z HI.out ho hb hg hat)
                  clear HI
                  have HI := nI_
                  clear nI_ ho hb hg hat
                  refine hK.out _ _ HI.out.2.2.2.2.2.1 (fun hHeld => ?_)
                  clear hK K
                  refine nZ ?_
                  refine oZ 11 HT_ (fun K hK => ?_)
                  refine Kd.N_lit_step (Kd.slice 3 (Kd.int .i64)) _ 28 (by rfl) (N' := 72) rfl (xs := [rd_L2 t448 ji44]) (inner := [.slice A470_0 (rd_L2 t448 ji44).length c470_0]) (ok := fun k_ => some k_ ≠ (v452 : Value).ownBlock ∧ some k_ ≠ (u7 : Value).ownBlock ∧ some k_ ≠ (v3_ : Value).ownBlock) (okp := fun k_ => some k_ ≠ (v452 : Value).ownBlock ∧ some k_ ≠ (u7 : Value).ownBlock ∧ some k_ ≠ (v3_ : Value).ownBlock) ?hr (Reps.one (or_row_Z HI.out PP.out QQ.out) (Reps.none _ _)) (fun _ hk => hk) (or_newY_Z HI.out _ (Nat.le_refl _)) (Below.refl _ _) (Nat.le_refl _) (by simp) ?_
                  (case hr => first | (go_simp; done) | (go_simp; rfl))
                  intro v2_ wq3 ho hb hg_ hn_
                  have nI_ := Aside0.mk (or_litY_Z HI.out ho hb)
                  obtain ⟨Ay_, cy_, ey_⟩ := Kd.N_slice nI_.out.2.2.2.2.1
                  subst ey_
                  clear HI
                  have HI := nI_
                  clear nI_ ho hb hg_ hn_
                  refine hK.out _ _ HI.out.2.2.2.2.2.1 (fun hHeld => ?_)
                  clear hK K
                  refine nZ ?_
                  refine oZ 12 HT_ (fun K hK => ?_)
                  refine Kd.N_append_rows_step (Kd.slice 3 (Kd.int .i64)) (w0 := w) w.heap.size (by rfl) (.tmp 63) (.tmp 72) 23 28 (.slice none 0 0) 24 rfl Try.underlying23 info28 rfl (by decide) (by omega) v3_ ([] ++ t448) [rd_L2 t448 ji44] _ _ _ (fun k_ => some k_ ≠ (v452 : Value).ownBlock ∧ some k_ ≠ (u7 : Value).ownBlock) (fun k_ => (some k_ ≠ (v452 : Value).ownBlock ∧ some k_ ≠ (u7 : Value).ownBlock) ∧ some k_ ≠ (v3_ : Value).ownBlock) rfl rfl HI.out.2.2.2.1 (Kd.N_F (Kd.N_mono HI.out.2.2.2.2.1 (fun k hk => ⟨⟨hk.1, hk.2.1⟩, hk.2.2⟩))) (fun _ hk => hk) (or_newX_Z HI.out) HI.out.2.2.2.2.2.2 (below_size HI.out.2.2.2.2.2.2) z15_10 ?_
                  intro v4_ wq4 ho hb hg hat
                  have nI_ := Aside0.mk (or_grow_Z HI.out ho hb hg hat)
                  clear HI
                  have HI := nI_
                  clear nI_ ho hb hg hat
                  refine hK.out _ _ HI.out.2.2.2.2.2.1 (fun hHeld => ?_)
                  clear hK K
                  refine nZ ?_
                  refine pZ 13 HT_ ?_
                  refine done_ (done_of HT_.out (by kernel_rfl)) ?_
                  try go_wp2
                  go_meet
                  case rel => exact ⟨v4_, rfl, ⟨Kd.N_mono HI.out.1 (fun k hk => ⟨⟨hk.1, hk.2.1⟩, hk.2.2.1⟩)⟩, ⟨Kd.N_mono HI.out.2.1 (fun k hk => ⟨⟨hk.1, hk.2.1⟩, hk.2.2.1⟩)⟩, ⟨Kd.N_mono HI.out.2.2.1 (fun k hk => ⟨⟨hk.1, hk.2.1⟩, hk.2.2.1⟩)⟩, ⟨z15_15⟩, ⟨HI.out.2.2.2.2.2.2⟩⟩
                · refine Kd.N_lit_step (Kd.slice 3 (Kd.int .i64)) _ 28 (by rfl) (N' := 72) rfl (xs := [rd_L2 t448 ji44]) (inner := [.slice A470_0 (rd_L2 t448 ji44).length c470_0]) (ok := fun k_ => some k_ ≠ (v452 : Value).ownBlock ∧ some k_ ≠ (u7 : Value).ownBlock ∧ some k_ ≠ (v1_ : Value).ownBlock) (okp := fun k_ => some k_ ≠ (v452 : Value).ownBlock ∧ some k_ ≠ (u7 : Value).ownBlock ∧ some k_ ≠ (v1_ : Value).ownBlock) ?hr (Reps.one (or_row_Z HI.out PP.out QQ.out) (Reps.none _ _)) (fun _ hk => hk) (or_newY_Z HI.out _ (Nat.le_refl _)) (Below.refl _ _) (Nat.le_refl _) (by simp) ?_
                  (case hr => first | (go_simp; done) | (go_simp; rfl))
                  intro v2_ wq5 ho hb hg_ hn_
                  have nI_ := Aside0.mk (or_litY_Z HI.out ho hb)
                  obtain ⟨Ay_, cy_, ey_⟩ := Kd.N_slice nI_.out.2.2.2.2.1
                  subst ey_
                  clear HI
                  have HI := nI_
                  clear nI_ ho hb hg_ hn_
                  refine hK.out _ _ HI.out.2.2.2.2.2.1 (fun hHeld => ?_)
                  clear hK K
                  refine nZ ?_
                  refine oZ 2 HT_ (fun K hK => ?_)
                  refine Kd.N_append_rows_step (Kd.slice 3 (Kd.int .i64)) (w0 := w) w.heap.size (by rfl) (.tmp 61) (.tmp 62) 23 28 (.slice none 0 0) 24 rfl Try.underlying23 info28 rfl (by decide) (by omega) v1_ [] t448 _ _ _ (fun k_ => some k_ ≠ (v452 : Value).ownBlock ∧ some k_ ≠ (u7 : Value).ownBlock) (fun k_ => (some k_ ≠ (v452 : Value).ownBlock ∧ some k_ ≠ (u7 : Value).ownBlock) ∧ some k_ ≠ (v1_ : Value).ownBlock) rfl rfl HI.out.2.2.2.1 (Kd.N_F (Kd.N_mono HI.out.1 (fun k hk => ⟨⟨hk.1, hk.2.1⟩, hk.2.2.1⟩))) (fun _ hk => hk) (or_newX_Z HI.out) HI.out.2.2.2.2.2.2 (below_size HI.out.2.2.2.2.2.2) z15_16 ?_
                  intro v3_ wq6 ho hb hg hat
                  have nI_ := Aside0.mk (or_grow_Z HI.out ho hb hg hat)
                  clear HI
                  have HI := nI_
                  clear nI_ ho hb hg hat
                  refine hK.out _ _ HI.out.2.2.2.2.2.1 (fun hHeld => ?_)
                  clear hK K
                  refine nZ ?_
                  refine oZ 12 HT_ (fun K hK => ?_)
                  refine Kd.N_append_rows_step (Kd.slice 3 (Kd.int .i64)) (w0 := w) w.heap.size (by rfl) (.tmp 63) (.tmp 72) 23 28 (.slice none 0 0) 24 rfl Try.underlying23 info28 rfl (by decide) (by omega) v3_ ([] ++ t448) [rd_L2 t448 ji44] _ _ _ (fun k_ => some k_ ≠ (v452 : Value).ownBlock ∧ some k_ ≠ (u7 : Value).ownBlock) (fun k_ => (some k_ ≠ (v452 : Value).ownBlock ∧ some k_ ≠ (u7 : Value).ownBlock) ∧ some k_ ≠ (v3_ : Value).ownBlock) rfl rfl HI.out.2.2.2.1 (Kd.N_F (Kd.N_mono HI.out.2.2.2.2.1 (fun k hk => ⟨⟨hk.1, hk.2.1⟩, hk.2.2⟩))) (fun _ hk => hk) (or_newX_Z HI.out) HI.out.2.2.2.2.2.2 (below_size HI.out.2.2.2.2.2.2) z15_10 ?_
                  intro v4_ wq7 ho hb hg hat
                  have nI_ := Aside0.mk (or_grow_Z HI.out ho hb hg hat)
                  clear HI
                  have HI := nI_
                  clear nI_ ho hb hg hat
                  refine hK.out _ _ HI.out.2.2.2.2.2.1 (fun hHeld => ?_)
                  clear hK K
                  refine nZ ?_
                  refine pZ 13 HT_ ?_
                  refine done_ (done_of HT_.out (by kernel_rfl)) ?_
                  try go_wp2
                  go_meet
                  case rel => exact ⟨v4_, rfl, ⟨Kd.N_mono HI.out.1 (fun k hk => ⟨⟨hk.1, hk.2.1⟩, hk.2.2.1⟩)⟩, ⟨Kd.N_mono HI.out.2.1 (fun k hk => ⟨⟨hk.1, hk.2.1⟩, hk.2.2.1⟩)⟩, ⟨Kd.N_mono HI.out.2.2.1 (fun k hk => ⟨⟨hk.1, hk.2.1⟩, hk.2.2.1⟩)⟩, ⟨z15_15⟩, ⟨HI.out.2.2.2.2.2.2⟩⟩
              · refine Kd.N_lit_step (Kd.slice 3 (Kd.int .i64)) _ 28 (by rfl) (N' := 72) rfl (xs := [rd_L2 t448 ji44]) (inner := [.slice A470_0 (rd_L2 t448 ji44).length c470_0]) (ok := fun k_ => some k_ ≠ (v452 : Value).ownBlock ∧ some k_ ≠ (u7 : Value).ownBlock ∧ some k_ ≠ (.slice none 0 0 : Value).ownBlock) (okp := fun k_ => some k_ ≠ (v452 : Value).ownBlock ∧ some k_ ≠ (u7 : Value).ownBlock ∧ some k_ ≠ (.slice none 0 0 : Value).ownBlock) ?hr (Reps.one (or_row_Z HI.out PP.out QQ.out) (Reps.none _ _)) (fun _ hk => hk) (or_newY_Z HI.out _ (Nat.le_refl _)) (Below.refl _ _) (Nat.le_refl _) (by simp) ?_
                (case hr => first | (go_simp; done) | (go_simp; rfl))
                intro v2_ wq8 ho hb hg_ hn_
                have nI_ := Aside0.mk (or_litY_Z HI.out ho hb)
                obtain ⟨Ay_, cy_, ey_⟩ := Kd.N_slice nI_.out.2.2.2.2.1
                subst ey_
                clear HI
                have HI := nI_
                clear nI_ ho hb hg_ hn_
                refine hK.out _ _ HI.out.2.2.2.2.2.1 (fun hHeld => ?_)
                clear hK K
                refine nZ ?_
                refine oZ 0 HT_ (fun K hK => ?_)
                refine Kd.N_lit_step (Kd.slice 3 (Kd.int .i64)) _ 28 (by rfl) (N' := 61) rfl (xs := ([] : List (List Int))) (inner := []) (ok := fun k_ => some k_ ≠ (v452 : Value).ownBlock ∧ some k_ ≠ (u7 : Value).ownBlock) (okp := fun k_ => some k_ ≠ (v452 : Value).ownBlock ∧ some k_ ≠ (u7 : Value).ownBlock) ?hr (Reps.none _ _) (fun _ hk => hk) (or_newX_Z HI.out _ (Nat.le_refl _)) (Below.refl _ _) (Nat.le_refl _) (by simp) ?_
                (case hr => first | (go_simp; done) | (go_simp; rfl))
                intro v1_ wq9 ho hb hg_ hn_
                have nI_ := Aside0.mk (or_litX_Z HI.out ho hb)
                clear HI
                have HI := nI_
                clear nI_ ho hb hg_ hn_
                refine hK.out _ _ HI.out.2.2.2.2.2.1 (fun hHeld => ?_)
                clear hK K
                refine nZ ?_
                refine oZ 2 HT_ (fun K hK => ?_)
                refine Kd.N_append_rows_step (Kd.slice 3 (Kd.int .i64)) (w0 := w) w.heap.size (by rfl) (.tmp 61) (.tmp 62) 23 28 (.slice none 0 0) 24 rfl Try.underlying23 info28 rfl (by decide) (by omega) v1_ [] t448 _ _ _ (fun k_ => some k_ ≠ (v452 : Value).ownBlock ∧ some k_ ≠ (u7 : Value).ownBlock) (fun k_ => (some k_ ≠ (v452 : Value).ownBlock ∧ some k_ ≠ (u7 : Value).ownBlock) ∧ some k_ ≠ (v1_ : Value).ownBlock) rfl rfl HI.out.2.2.2.1 (Kd.N_F (Kd.N_mono HI.out.1 (fun k hk => ⟨⟨hk.1, hk.2.1⟩, hk.2.2.1⟩))) (fun _ hk => hk) (or_newX_Z HI.out) HI.out.2.2.2.2.2.2 (below_size HI.out.2.2.2.2.2.2) z15_16 ?_
                intro v3_ wq10 ho hb hg hat
                have nI_ := Aside0.mk (or_grow_Z HI.out ho hb hg hat)
                clear HI
                have HI := nI_
                clear nI_ ho hb hg hat
                refine hK.out _ _ HI.out.2.2.2.2.2.1 (fun hHeld => ?_)
                clear hK K
                refine nZ ?_
                refine oZ 12 HT_ (fun K hK => ?_)
                refine Kd.N_append_rows_step (Kd.slice 3 (Kd.int .i64)) (w0 := w) w.heap.size (by rfl) (.tmp 63) (.tmp 72) 23 28 (.slice none 0 0) 24 rfl Try.underlying23 info28 rfl (by decide) (by omega) v3_ ([] ++ t448) [rd_L2 t448 ji44] _ _ _ (fun k_ => some k_ ≠ (v452 : Value).ownBlock ∧ some k_ ≠ (u7 : Value).ownBlock) (fun k_ => (some k_ ≠ (v452 : Value).ownBlock ∧ some k_ ≠ (u7 : Value).ownBlock) ∧ some k_ ≠ (v3_ : Value).ownBlock) rfl rfl HI.out.2.2.2.1 (Kd.N_F (Kd.N_mono HI.out.2.2.2.2.1 (fun k hk => ⟨⟨hk.1, hk.2.1⟩, hk.2.2⟩))) (fun _ hk => hk) (or_newX_Z HI.out) HI.out.2.2.2.2.2.2 (below_size HI.out.2.2.2.2.2.2) z15_10 ?_
                intro v4_ wq11 ho hb hg hat
                have nI_ := Aside0.mk (or_grow_Z HI.out ho hb hg hat)
                clear HI
                have HI := nI_
                clear nI_ ho hb hg hat
                refine hK.out _ _ HI.out.2.2.2.2.2.1 (fun hHeld => ?_)
                clear hK K
                refine nZ ?_
                refine pZ 13 HT_ ?_
                refine done_ (done_of HT_.out (by kernel_rfl)) ?_
                try go_wp2
                go_meet
                case rel => exact ⟨v4_, rfl, ⟨Kd.N_mono HI.out.1 (fun k hk => ⟨⟨hk.1, hk.2.1⟩, hk.2.2.1⟩)⟩, ⟨Kd.N_mono HI.out.2.1 (fun k hk => ⟨⟨hk.1, hk.2.1⟩, hk.2.2.1⟩)⟩, ⟨Kd.N_mono HI.out.2.2.1 (fun k hk => ⟨⟨hk.1, hk.2.1⟩, hk.2.2.1⟩)⟩, ⟨z15_15⟩, ⟨HI.out.2.2.2.2.2.2⟩⟩
            case rest =>
              obtain ⟨v478, rfl, HO5_, HO6_, HO7_, HO479, HB_⟩ := hcut
              clear HO_5 HO_6 HO_7 HB
              have HO_5 := HO5_
              have HO_6 := HO6_
              have HO_7 := HO7_
              have HB := HB_
              clear HO5_ HO6_ HO7_ HB_
              have p470 : 0 ≤ ((ji44) : Int) := of_decide_eq_true z15_7
              have q470 : (ji44) < (t448.length : Int) := of_decide_eq_true z15_7
              obtain ⟨ad470, A470_0, c470_0, e470, hx470_0, hl470_0, hi470_0⟩ := at_L2 (Kd.N_reads' HO_5.out).2.2 (ji44) p470 q470
              cases e470
              obtain ⟨ce470, hce470, hMe470, hcc470⟩ := Kd.N_get HO_5.out [] (ji44) p470 z15_14
              obtain ⟨ua470_0, uc470_0, rfl, ul470_0, ge470_0⟩ := Kd.FK_slice_open hMe470
              have hv470_0 := hcc470 0 _ rfl
              rw [Nat.add_zero, show ((Kd.slice 3 (Kd.int .i64))).sz = 1 from rfl, Nat.mul_one] at hv470_0
              replace hv470_0 := Option.some.inj (hv470_0.symm.trans hx470_0)
              injection hv470_0 with hva_ hvn_ hvc_
              rw [hva_] at ge470_0
              rw [hvc_] at ul470_0
              have HL470_0 := Aside0.mk (show Kd.V (Kd.int .i64) 3 _ w.heap.size _ _ (rd_L2 t448 (ji44)) from Kd.V_mk ul470_0 ge470_0)
              clear hva_ hvn_ hvc_ ge470_0 ul470_0
              clear hcc470 hce470
              have HR470_0 := Aside0.mk hi470_0
              have HC470_0 := Aside0.mk hl470_0
              clear hi470_0 hl470_0
              replace p470 := eq_true p470
              replace q470 := eq_true q470
              obtain ⟨Ao58, co58, eo58⟩ := Kd.N_slice HO_7.out
              subst eo58
              go_wp2_with (first | ((with_reducible refine gate_callee (f := 16) rfl ?_); refine goesL_ (some 75) rfl rfl Try.func16 (by kernel_rfl) rfl #[.slice Ao58 x7_3.length co58] rfl z15_2 ?_; (with_reducible refine (impl_SpanTidy.calls k3 _ _ x7_3 t480 _ ?side1 ?side2 A49.out).mono ?_); (case side1 => exact cZ ((Kd.N_reads' HO_7.out).2.2)); (case side2 => first | exact (Kd.N_reads' HO_7.out).2.1 | exact Nat.le_refl _); rintro e w59 ⟨v481, rfl, ho0, hb⟩; refine ⟨_, rfl, ?_⟩; replace HL470_0 := Aside0.mk (Kd.V_elder' z15_17 z15_1 hb); have HO482 := Aside0.mk (Kd.N_lower (Kd.N_mono (ok' := fun k_ => some k_ ≠ (.slice (some ad470) t448.length co10 : Value).ownBlock ∧ some k_ ≠ (v452 : Value).ownBlock ∧ some k_ ≠ (.slice Ao58 x7_3.length co58 : Value).ownBlock ∧ some k_ ≠ (v478 : Value).ownBlock) (Kd.S_N (Kd.S_bound ho0)) (fun k_ hk_ => ⟨(Kd.fresh' (Kd.N_lt z15_3) k_ hk_.2.1), (Kd.fresh' (Kd.N_lt z15_4) k_ hk_.2.1), (Kd.fresh' (Kd.N_lt z15_8) k_ hk_.2.1), (Kd.fresh' (Kd.N_lt z15_9) k_ hk_.2.1)⟩)) (below_size z15_0)); replace HO_5 := Aside0.mk (Kd.N_elder' z15_3 z15_1 hb); replace HO_6 := Aside0.mk (Kd.N_elder' z15_4 z15_1 hb); replace HO_7 := Aside0.mk (Kd.N_elder' z15_8 z15_1 hb); replace HO479 := Aside0.mk (Kd.N_elder' z15_9 z15_1 hb); replace HB := Aside0.mk (below_step z15_0 hb); (try clear hb); (try clear ho0); obtain ⟨Ao60, co60, eo60⟩ := Kd.N_slice HO482.out; subst eo60; (try simp only [clip_slice]); obtain ⟨Ao61, co61, eo61⟩ := Kd.N_slice HO_6.out; subst eo61; (try simp only [clip_slice])) | ((with_reducible refine gate_callee (f := 17) rfl ?_); refine goesL_ (some 77) rfl rfl Try.func17 (by kernel_rfl) rfl #[.slice Ao60 t480.length t480.length, .slice Ao61 t451.length t451.length] rfl z15_2 ?_; (with_reducible refine (laws_lkRows.calls k3 _ _ t480 _ _ t451 true _ ?side1 ?side2 ?side3 ?side4 A50.out).mono ?_); (case side1 => exact cZ ((Kd.N_reads' HO482.out).2.2)); (case side2 => first | exact (Kd.N_reads' HO482.out).2.1 | exact Nat.le_refl _); (case side3 => exact cZ ((Kd.N_reads' HO_6.out).2.2)); (case side4 => first | exact (Kd.N_reads' HO_6.out).2.1 | exact Nat.le_refl _); rintro e w' ⟨rfl, ⟨nd, rfl⟩⟩; refine ⟨_, rfl, ?_⟩; obtain ⟨Ao62, co62, eo62⟩ := Kd.N_slice HO479.out; subst eo62; (try simp only [clip_slice])) | (go_at_call 16; (with_reducible refine (impl_SpanTidy.calls k3 _ _ y477 t484 _ ?side1 ?side2 A52.out).mono ?_); (case side1 => exact cZ ((Kd.N_reads' HO479.out).2.2)); (case side2 => first | exact (Kd.N_reads' HO479.out).2.1 | exact Nat.le_refl _); rintro e w63 ⟨v485, rfl, ho0, hb⟩; replace HL470_0 := Aside0.mk (Kd.V_elder' z15_17 z15_1 hb); have HO486 := Aside0.mk (Kd.N_lower (Kd.N_mono (ok' := fun k_ => some k_ ≠ (.slice (some ad470) t448.length co10 : Value).ownBlock ∧ some k_ ≠ (.slice Ao61 t451.length co61 : Value).ownBlock ∧ some k_ ≠ (.slice Ao58 x7_3.length co58 : Value).ownBlock ∧ some k_ ≠ (.slice Ao62 y477.length co62 : Value).ownBlock ∧ some k_ ≠ (.slice Ao60 t480.length co60 : Value).ownBlock) (Kd.S_N (Kd.S_bound ho0)) (fun k_ hk_ => ⟨(Kd.fresh' (Kd.N_lt z15_3) k_ hk_.2.1), (Kd.fresh' (Kd.N_lt z15_4) k_ hk_.2.1), (Kd.fresh' (Kd.N_lt z15_8) k_ hk_.2.1), (Kd.fresh' (Kd.N_lt z15_9) k_ hk_.2.1), (Kd.fresh' (Kd.N_lt (by (with_reducible repeat (first | apply Kd.N_alloc | apply Kd.N_drewN | apply Kd.N_drew)); exact HO482.out)) k_ hk_.2.1)⟩)) (below_size z15_0)); replace HO_5 := Aside0.mk (Kd.N_elder' z15_3 z15_1 hb); replace HO_6 := Aside0.mk (Kd.N_elder' z15_4 z15_1 hb); replace HO_7 := Aside0.mk (Kd.N_elder' z15_8 z15_1 hb); replace HO479 := Aside0.mk (Kd.N_elder' z15_9 z15_1 hb); replace HO482 := Aside0.mk (Kd.N_elder' (by (with_reducible repeat (first | apply Kd.N_alloc | apply Kd.N_drewN | apply Kd.N_drew)); exact HO482.out) z15_1 hb); replace HB := Aside0.mk (below_step z15_0 hb); (try clear hb); (try clear ho0); obtain ⟨Ao64, co64, eo64⟩ := Kd.N_slice HO486.out; subst eo64; (try simp only [clip_slice])) | (go_at_call 17; (with_reducible refine (laws_lkRows.calls k3 _ _ t484 _ _ t451 t487 _ ?side1 ?side2 ?side3 ?side4 A53.out).mono ?_); (case side1 => exact cZ ((Kd.N_reads' HO486.out).2.2)); (case side2 => first | exact (Kd.N_reads' HO486.out).2.1 | exact Nat.le_refl _); (case side3 => exact cZ ((Kd.N_reads' HO_6.out).2.2)); (case side4 => first | exact (Kd.N_reads' HO_6.out).2.1 | exact Nat.le_refl _); rintro e w' ⟨rfl, ⟨nd, rfl⟩⟩))
              go_ret
              exact ⟨z15_18, z15_0⟩
           ·replace c51 := Bool.eq_false_iff.mpr c51
            subst c51
            have H1 : (some false) = some r := by rw [if_neg (show ¬ (false = true) by decide)] at H; exact H
            clear H
            have H := H1
            clear H1
            obtain rfl := Option.some.inj H
            go_upto_region 12 with fail
            go_cut [9] (fun v9 wc => ∃ v478 : Value, v478 = v9 ∧ Aside0 (Kd.N (Kd.slice 3 (Kd.int .i64)) 28 wc w.heap.size (fun k_ => (some k_ ≠ (v452 : Value).ownBlock ∧ some k_ ≠ (u7 : Value).ownBlock) ∧ some k_ ≠ (v478 : Value).ownBlock) (.slice Ao10 t448.length co10) t448) ∧ Aside0 (Kd.N (Kd.slice 3 (Kd.int .i64)) 28 wc w.heap.size (fun k_ => (some k_ ≠ ((.slice Ao10 t448.length co10) : Value).ownBlock ∧ some k_ ≠ (u7 : Value).ownBlock) ∧ some k_ ≠ (v478 : Value).ownBlock) v452 t451) ∧ Aside0 (Kd.N (Kd.slice 3 (Kd.int .i64)) 28 wc w.heap.size (fun k_ => (some k_ ≠ ((.slice Ao10 t448.length co10) : Value).ownBlock ∧ some k_ ≠ (v452 : Value).ownBlock) ∧ some k_ ≠ (v478 : Value).ownBlock) u7 x7_3) ∧ Aside0 (Kd.N (Kd.slice 3 (Kd.int .i64)) 28 wc w.heap.size (fun k_ => some k_ ≠ (v452 : Value).ownBlock ∧ some k_ ≠ (u7 : Value).ownBlock) v478 y477) ∧ Aside0 (Below w.heap.size w wc))
            case first =>
              try go_wp2
              have p470 : 0 ≤ ((ji44) : Int) := of_decide_eq_true z15_7
              have q470 : (ji44) < (t448.length : Int) := of_decide_eq_true z15_7
              obtain ⟨ad470, A470_0, c470_0, e470, hx470_0, hl470_0, hi470_0⟩ := at_L2 (Kd.N_reads' HO_5.out).2.2 (ji44) p470 q470
              cases e470
              obtain ⟨ce470, hce470, hMe470, hcc470⟩ := Kd.N_get HO_5.out [] (ji44) p470 z15_14
              obtain ⟨ua470_0, uc470_0, rfl, ul470_0, ge470_0⟩ := Kd.FK_slice_open hMe470
              have hv470_0 := hcc470 0 _ rfl
              rw [Nat.add_zero, show ((Kd.slice 3 (Kd.int .i64))).sz = 1 from rfl, Nat.mul_one] at hv470_0
              replace hv470_0 := Option.some.inj (hv470_0.symm.trans hx470_0)
              injection hv470_0 with hva_ hvn_ hvc_
              rw [hva_] at ge470_0
              rw [hvc_] at ul470_0
              have HL470_0 := Aside0.mk (show Kd.V (Kd.int .i64) 3 _ w.heap.size _ _ (rd_L2 t448 (ji44)) from Kd.V_mk ul470_0 ge470_0)
              clear hva_ hvn_ hvc_ ge470_0 ul470_0
              clear hcc470 hce470
              have HR470_0 := Aside0.mk hi470_0
              have HC470_0 := Aside0.mk hl470_0
              clear hi470_0 hl470_0
              replace p470 := eq_true p470
              replace q470 := eq_true q470
              have hmod_ : Int.tmod (l1.length : Int) (t448.length : Int) = ji44 := by rw [Int.tmod_eq_emod_of_nonneg (by omega)]; exact hji44
              have PP : Aside0 (0 ≤ ji44) := ⟨of_eq_true p470⟩
              have QQ : Aside0 (ji44 < (t448.length : Int)) := ⟨of_eq_true q470⟩
              have HI := Aside0.mk (or_start_Z (w0 := w) HO_5.out HO_6.out HO_7.out hx470_0 z15_0)
              clear HO_5 HO_6 HO_7 HB HL470_0 HR470_0 HC470_0
              refine start_ (n := 14) (S := fun w' => w'.cell? (ad470.add ji44.toNat) = some (.slice A470_0 (rd_L2 t448 ji44).length c470_0)) (ds := []) #[false, false, false, false, false, false, false, false, false, false, false, false, false, false] (by kernel_rfl) rfl rfl (or_drew_Z HI.out).2.2.2.2.2.1 (fun hHeld => ?_); refine with_tabW tab12_Z bits12_Z (fun HT_ HW_ => ?_)
              have nI_ := Aside0.mk (or_drew_Z HI.out)
              clear HI hx470_0
              have HI := nI_
              clear nI_
              generalize World.drew _ = wz at HI hHeld ⊢
              refine pZ 1 HT_ ?_
              refine pZ 3 HT_ ?_
              refine pZ 4 HT_ ?_
              refine pZ 5 HT_ ?_
              refine pZ 6 HT_ ?_
              refine pZ 7 HT_ ?_
              refine pZ 8 HT_ ?_
              refine pZ 9 HT_ ?_
              refine take_ (i := 10) (N := some 71) (v := ?_) (a' := ?_) #[false, true, false, true, true, true, true, true, true, true, true, false, false, false] rfl rfl (take_ofW HT_.out HW_.out (by kernel_rfl)) (fun _ _ _ h => h) (Or.inl ⟨by rfl, ?_⟩) hHeld ?_ ?_
              rotate_left
              · intro w' s0
                go_simp
                with_reducible rfl
              rotate_left
              · simp only [Act.put, List.setIfInBounds_toArray, List.set_cons_zero, List.set_cons_succ, i64_w, i32_w]
                rfl
              refine twoZ_Z 0 11 HT_ (fun K hK => ?_) (fun K hK => ?_)
              · refine Kd.N_lit_step (Kd.slice 3 (Kd.int .i64)) _ 28 (by rfl) (N' := 61) rfl (xs := ([] : List (List Int))) (inner := []) (ok := fun k_ => some k_ ≠ (v452 : Value).ownBlock ∧ some k_ ≠ (u7 : Value).ownBlock) (okp := fun k_ => some k_ ≠ (v452 : Value).ownBlock ∧ some k_ ≠ (u7 : Value).ownBlock) ?hr (Reps.none _ _) (fun _ hk => hk) (or_newX_Z HI.out _ (Nat.le_refl _)) (Below.refl _ _) (Nat.le_refl _) (by simp) ?_
                (case hr => first | (go_simp; done) | (go_simp; rfl))
                intro v1_ wq1 ho hb hg_ hn_
                have nI_ := Aside0.mk (or_litX_Z HI.out ho hb)
                clear HI
                have HI := nI_
                clear nI_ ho hb hg_ hn_
                refine hK.out _ _ HI.out.2.2.2.2.2.1 (fun hHeld => ?_)
                clear hK K
                refine nZ ?_
                refine twoZ_Z 2 11 HT_ (fun K hK => ?_) (fun K hK => ?_)
                · refine Kd.N_append_rows_step (Kd.slice 3 (Kd.int .i64)) (w0 := w) w.heap.size (by rfl) (.tmp 61) (.tmp 62) 23 28 (.slice none 0 0) 24 rfl Try.underlying23 info28 rfl (by decide) (by omega) v1_ [] t448 _ _ _ (fun k_ => some k_ ≠ (v452 : Value).ownBlock ∧ some k_ ≠ (u7 : Value).ownBlock) (fun k_ => (some k_ ≠ (v452 : Value).ownBlock ∧ some k_ ≠ (u7 : Value).ownBlock) ∧ some k_ ≠ (v1_ : Value).ownBlock) rfl rfl HI.out.2.2.2.1 (Kd.N_F (Kd.N_mono HI.out.1 (fun k hk => ⟨⟨hk.1, hk.2.1⟩, hk.2.2.1⟩))) (fun _ hk => hk) (or_newX_Z HI.out) HI.out.2.2.2.2.2.2 (below_size HI.out.2.2.2.2.2.2) z15_16 ?_
                  intro v3_ wq2 ho hb hg hat
                  have nI_ := Aside0.mk (or_grow_Z HI.out ho hb hg hat)
                  clear HI
                  have HI := nI_
                  clear nI_ ho hb hg hat
                  refine hK.out _ _ HI.out.2.2.2.2.2.1 (fun hHeld => ?_)
                  clear hK K
                  refine nZ ?_
                  refine oZ 11 HT_ (fun K hK => ?_)
                  refine Kd.N_lit_step (Kd.slice 3 (Kd.int .i64)) _ 28 (by rfl) (N' := 72) rfl (xs := [rd_L2 t448 ji44]) (inner := [.slice A470_0 (rd_L2 t448 ji44).length c470_0]) (ok := fun k_ => some k_ ≠ (v452 : Value).ownBlock ∧ some k_ ≠ (u7 : Value).ownBlock ∧ some k_ ≠ (v3_ : Value).ownBlock) (okp := fun k_ => some k_ ≠ (v452 : Value).ownBlock ∧ some k_ ≠ (u7 : Value).ownBlock ∧ some k_ ≠ (v3_ : Value).ownBlock) ?hr (Reps.one (or_row_Z HI.out PP.out QQ.out) (Reps.none _ _)) (fun _ hk => hk) (or_newY_Z HI.out _ (Nat.le_refl _)) (Below.refl _ _) (Nat.le_refl _) (by simp) ?_
                  (case hr => first | (go_simp; done) | (go_simp; rfl))
                  intro v2_ wq3 ho hb hg_ hn_
                  have nI_ := Aside0.mk (or_litY_Z HI.out ho hb)
                  obtain ⟨Ay_, cy_, ey_⟩ := Kd.N_slice nI_.out.2.2.2.2.1
                  subst ey_
                  clear HI
                  have HI := nI_
                  clear nI_ ho hb hg_ hn_
                  refine hK.out _ _ HI.out.2.2.2.2.2.1 (fun hHeld => ?_)
                  clear hK K
                  refine nZ ?_
                  refine oZ 12 HT_ (fun K hK => ?_)
                  refine Kd.N_append_rows_step (Kd.slice 3 (Kd.int .i64)) (w0 := w) w.heap.size (by rfl) (.tmp 63) (.tmp 72) 23 28 (.slice none 0 0) 24 rfl Try.underlying23 info28 rfl (by decide) (by omega) v3_ ([] ++ t448) [rd_L2 t448 ji44] _ _ _ (fun k_ => some k_ ≠ (v452 : Value).ownBlock ∧ some k_ ≠ (u7 : Value).ownBlock) (fun k_ => (some k_ ≠ (v452 : Value).ownBlock ∧ some k_ ≠ (u7 : Value).ownBlock) ∧ some k_ ≠ (v3_ : Value).ownBlock) rfl rfl HI.out.2.2.2.1 (Kd.N_F (Kd.N_mono HI.out.2.2.2.2.1 (fun k hk => ⟨⟨hk.1, hk.2.1⟩, hk.2.2⟩))) (fun _ hk => hk) (or_newX_Z HI.out) HI.out.2.2.2.2.2.2 (below_size HI.out.2.2.2.2.2.2) z15_10 ?_
                  intro v4_ wq4 ho hb hg hat
                  have nI_ := Aside0.mk (or_grow_Z HI.out ho hb hg hat)
                  clear HI
                  have HI := nI_
                  clear nI_ ho hb hg hat
                  refine hK.out _ _ HI.out.2.2.2.2.2.1 (fun hHeld => ?_)
                  clear hK K
                  refine nZ ?_
                  refine pZ 13 HT_ ?_
                  refine done_ (done_of HT_.out (by kernel_rfl)) ?_
                  try go_wp2
                  go_meet
                  case rel => exact ⟨v4_, rfl, ⟨Kd.N_mono HI.out.1 (fun k hk => ⟨⟨hk.1, hk.2.1⟩, hk.2.2.1⟩)⟩, ⟨Kd.N_mono HI.out.2.1 (fun k hk => ⟨⟨hk.1, hk.2.1⟩, hk.2.2.1⟩)⟩, ⟨Kd.N_mono HI.out.2.2.1 (fun k hk => ⟨⟨hk.1, hk.2.1⟩, hk.2.2.1⟩)⟩, ⟨z15_15⟩, ⟨HI.out.2.2.2.2.2.2⟩⟩
                · refine Kd.N_lit_step (Kd.slice 3 (Kd.int .i64)) _ 28 (by rfl) (N' := 72) rfl (xs := [rd_L2 t448 ji44]) (inner := [.slice A470_0 (rd_L2 t448 ji44).length c470_0]) (ok := fun k_ => some k_ ≠ (v452 : Value).ownBlock ∧ some k_ ≠ (u7 : Value).ownBlock ∧ some k_ ≠ (v1_ : Value).ownBlock) (okp := fun k_ => some k_ ≠ (v452 : Value).ownBlock ∧ some k_ ≠ (u7 : Value).ownBlock ∧ some k_ ≠ (v1_ : Value).ownBlock) ?hr (Reps.one (or_row_Z HI.out PP.out QQ.out) (Reps.none _ _)) (fun _ hk => hk) (or_newY_Z HI.out _ (Nat.le_refl _)) (Below.refl _ _) (Nat.le_refl _) (by simp) ?_
                  (case hr => first | (go_simp; done) | (go_simp; rfl))
                  intro v2_ wq5 ho hb hg_ hn_
                  have nI_ := Aside0.mk (or_litY_Z HI.out ho hb)
                  obtain ⟨Ay_, cy_, ey_⟩ := Kd.N_slice nI_.out.2.2.2.2.1
                  subst ey_
                  clear HI
                  have HI := nI_
                  clear nI_ ho hb hg_ hn_
                  refine hK.out _ _ HI.out.2.2.2.2.2.1 (fun hHeld => ?_)
                  clear hK K
                  refine nZ ?_
                  refine oZ 2 HT_ (fun K hK => ?_)
                  refine Kd.N_append_rows_step (Kd.slice 3 (Kd.int .i64)) (w0 := w) w.heap.size (by rfl) (.tmp 61) (.tmp 62) 23 28 (.slice none 0 0) 24 rfl Try.underlying23 info28 rfl (by decide) (by omega) v1_ [] t448 _ _ _ (fun k_ => some k_ ≠ (v452 : Value).ownBlock ∧ some k_ ≠ (u7 : Value).ownBlock) (fun k_ => (some k_ ≠ (v452 : Value).ownBlock ∧ some k_ ≠ (u7 : Value).ownBlock) ∧ some k_ ≠ (v1_ : Value).ownBlock) rfl rfl HI.out.2.2.2.1 (Kd.N_F (Kd.N_mono HI.out.1 (fun k hk => ⟨⟨hk.1, hk.2.1⟩, hk.2.2.1⟩))) (fun _ hk => hk) (or_newX_Z HI.out) HI.out.2.2.2.2.2.2 (below_size HI.out.2.2.2.2.2.2) z15_16 ?_
                  intro v3_ wq6 ho hb hg hat
                  have nI_ := Aside0.mk (or_grow_Z HI.out ho hb hg hat)
                  clear HI
                  have HI := nI_
                  clear nI_ ho hb hg hat
                  refine hK.out _ _ HI.out.2.2.2.2.2.1 (fun hHeld => ?_)
                  clear hK K
                  refine nZ ?_
                  refine oZ 12 HT_ (fun K hK => ?_)
                  refine Kd.N_append_rows_step (Kd.slice 3 (Kd.int .i64)) (w0 := w) w.heap.size (by rfl) (.tmp 63) (.tmp 72) 23 28 (.slice none 0 0) 24 rfl Try.underlying23 info28 rfl (by decide) (by omega) v3_ ([] ++ t448) [rd_L2 t448 ji44] _ _ _ (fun k_ => some k_ ≠ (v452 : Value).ownBlock ∧ some k_ ≠ (u7 : Value).ownBlock) (fun k_ => (some k_ ≠ (v452 : Value).ownBlock ∧ some k_ ≠ (u7 : Value).ownBlock) ∧ some k_ ≠ (v3_ : Value).ownBlock) rfl rfl HI.out.2.2.2.1 (Kd.N_F (Kd.N_mono HI.out.2.2.2.2.1 (fun k hk => ⟨⟨hk.1, hk.2.1⟩, hk.2.2⟩))) (fun _ hk => hk) (or_newX_Z HI.out) HI.out.2.2.2.2.2.2 (below_size HI.out.2.2.2.2.2.2) z15_10 ?_
                  intro v4_ wq7 ho hb hg hat
                  have nI_ := Aside0.mk (or_grow_Z HI.out ho hb hg hat)
                  clear HI
                  have HI := nI_
                  clear nI_ ho hb hg hat
                  refine hK.out _ _ HI.out.2.2.2.2.2.1 (fun hHeld => ?_)
                  clear hK K
                  refine nZ ?_
                  refine pZ 13 HT_ ?_
                  refine done_ (done_of HT_.out (by kernel_rfl)) ?_
                  try go_wp2
                  go_meet
                  case rel => exact ⟨v4_, rfl, ⟨Kd.N_mono HI.out.1 (fun k hk => ⟨⟨hk.1, hk.2.1⟩, hk.2.2.1⟩)⟩, ⟨Kd.N_mono HI.out.2.1 (fun k hk => ⟨⟨hk.1, hk.2.1⟩, hk.2.2.1⟩)⟩, ⟨Kd.N_mono HI.out.2.2.1 (fun k hk => ⟨⟨hk.1, hk.2.1⟩, hk.2.2.1⟩)⟩, ⟨z15_15⟩, ⟨HI.out.2.2.2.2.2.2⟩⟩
              · refine Kd.N_lit_step (Kd.slice 3 (Kd.int .i64)) _ 28 (by rfl) (N' := 72) rfl (xs := [rd_L2 t448 ji44]) (inner := [.slice A470_0 (rd_L2 t448 ji44).length c470_0]) (ok := fun k_ => some k_ ≠ (v452 : Value).ownBlock ∧ some k_ ≠ (u7 : Value).ownBlock ∧ some k_ ≠ (.slice none 0 0 : Value).ownBlock) (okp := fun k_ => some k_ ≠ (v452 : Value).ownBlock ∧ some k_ ≠ (u7 : Value).ownBlock ∧ some k_ ≠ (.slice none 0 0 : Value).ownBlock) ?hr (Reps.one (or_row_Z HI.out PP.out QQ.out) (Reps.none _ _)) (fun _ hk => hk) (or_newY_Z HI.out _ (Nat.le_refl _)) (Below.refl _ _) (Nat.le_refl _) (by simp) ?_
                (case hr => first | (go_simp; done) | (go_simp; rfl))
                intro v2_ wq8 ho hb hg_ hn_
                have nI_ := Aside0.mk (or_litY_Z HI.out ho hb)
                obtain ⟨Ay_, cy_, ey_⟩ := Kd.N_slice nI_.out.2.2.2.2.1
                subst ey_
                clear HI
                have HI := nI_
                clear nI_ ho hb hg_ hn_
                refine hK.out _ _ HI.out.2.2.2.2.2.1 (fun hHeld => ?_)
                clear hK K
                refine nZ ?_
                refine oZ 0 HT_ (fun K hK => ?_)
                refine Kd.N_lit_step (Kd.slice 3 (Kd.int .i64)) _ 28 (by rfl) (N' := 61) rfl (xs := ([] : List (List Int))) (inner := []) (ok := fun k_ => some k_ ≠ (v452 : Value).ownBlock ∧ some k_ ≠ (u7 : Value).ownBlock) (okp := fun k_ => some k_ ≠ (v452 : Value).ownBlock ∧ some k_ ≠ (u7 : Value).ownBlock) ?hr (Reps.none _ _) (fun _ hk => hk) (or_newX_Z HI.out _ (Nat.le_refl _)) (Below.refl _ _) (Nat.le_refl _) (by simp) ?_
                (case hr => first | (go_simp; done) | (go_simp; rfl))
                intro v1_ wq9 ho hb hg_ hn_
                have nI_ := Aside0.mk (or_litX_Z HI.out ho hb)
                clear HI
                have HI := nI_
                clear nI_ ho hb hg_ hn_
                refine hK.out _ _ HI.out.2.2.2.2.2.1 (fun hHeld => ?_)
                clear hK K
                refine nZ ?_
                refine oZ 2 HT_ (fun K hK => ?_)
                refine Kd.N_append_rows_step (Kd.slice 3 (Kd.int .i64)) (w0 := w) w.heap.size (by rfl) (.tmp 61) (.tmp 62) 23 28 (.slice none 0 0) 24 rfl Try.underlying23 info28 rfl (by decide) (by omega) v1_ [] t448 _ _ _ (fun k_ => some k_ ≠ (v452 : Value).ownBlock ∧ some k_ ≠ (u7 : Value).ownBlock) (fun k_ => (some k_ ≠ (v452 : Value).ownBlock ∧ some k_ ≠ (u7 : Value).ownBlock) ∧ some k_ ≠ (v1_ : Value).ownBlock) rfl rfl HI.out.2.2.2.1 (Kd.N_F (Kd.N_mono HI.out.1 (fun k hk => ⟨⟨hk.1, hk.2.1⟩, hk.2.2.1⟩))) (fun _ hk => hk) (or_newX_Z HI.out) HI.out.2.2.2.2.2.2 (below_size HI.out.2.2.2.2.2.2) z15_16 ?_
                intro v3_ wq10 ho hb hg hat
                have nI_ := Aside0.mk (or_grow_Z HI.out ho hb hg hat)
                clear HI
                have HI := nI_
                clear nI_ ho hb hg hat
                refine hK.out _ _ HI.out.2.2.2.2.2.1 (fun hHeld => ?_)
                clear hK K
                refine nZ ?_
                refine oZ 12 HT_ (fun K hK => ?_)
                refine Kd.N_append_rows_step (Kd.slice 3 (Kd.int .i64)) (w0 := w) w.heap.size (by rfl) (.tmp 63) (.tmp 72) 23 28 (.slice none 0 0) 24 rfl Try.underlying23 info28 rfl (by decide) (by omega) v3_ ([] ++ t448) [rd_L2 t448 ji44] _ _ _ (fun k_ => some k_ ≠ (v452 : Value).ownBlock ∧ some k_ ≠ (u7 : Value).ownBlock) (fun k_ => (some k_ ≠ (v452 : Value).ownBlock ∧ some k_ ≠ (u7 : Value).ownBlock) ∧ some k_ ≠ (v3_ : Value).ownBlock) rfl rfl HI.out.2.2.2.1 (Kd.N_F (Kd.N_mono HI.out.2.2.2.2.1 (fun k hk => ⟨⟨hk.1, hk.2.1⟩, hk.2.2⟩))) (fun _ hk => hk) (or_newX_Z HI.out) HI.out.2.2.2.2.2.2 (below_size HI.out.2.2.2.2.2.2) z15_10 ?_
                intro v4_ wq11 ho hb hg hat
                have nI_ := Aside0.mk (or_grow_Z HI.out ho hb hg hat)
                clear HI
                have HI := nI_
                clear nI_ ho hb hg hat
                refine hK.out _ _ HI.out.2.2.2.2.2.1 (fun hHeld => ?_)
                clear hK K
                refine nZ ?_
                refine pZ 13 HT_ ?_
                refine done_ (done_of HT_.out (by kernel_rfl)) ?_
                try go_wp2
                go_meet
                case rel => exact ⟨v4_, rfl, ⟨Kd.N_mono HI.out.1 (fun k hk => ⟨⟨hk.1, hk.2.1⟩, hk.2.2.1⟩)⟩, ⟨Kd.N_mono HI.out.2.1 (fun k hk => ⟨⟨hk.1, hk.2.1⟩, hk.2.2.1⟩)⟩, ⟨Kd.N_mono HI.out.2.2.1 (fun k hk => ⟨⟨hk.1, hk.2.1⟩, hk.2.2.1⟩)⟩, ⟨z15_15⟩, ⟨HI.out.2.2.2.2.2.2⟩⟩
            case rest =>
              obtain ⟨v478, rfl, HO5_, HO6_, HO7_, HO479, HB_⟩ := hcut
              clear HO_5 HO_6 HO_7 HB
              have HO_5 := HO5_
              have HO_6 := HO6_
              have HO_7 := HO7_
              have HB := HB_
              clear HO5_ HO6_ HO7_ HB_
              have p470 : 0 ≤ ((ji44) : Int) := of_decide_eq_true z15_7
              have q470 : (ji44) < (t448.length : Int) := of_decide_eq_true z15_7
              obtain ⟨ad470, A470_0, c470_0, e470, hx470_0, hl470_0, hi470_0⟩ := at_L2 (Kd.N_reads' HO_5.out).2.2 (ji44) p470 q470
              cases e470
              obtain ⟨ce470, hce470, hMe470, hcc470⟩ := Kd.N_get HO_5.out [] (ji44) p470 z15_14
              obtain ⟨ua470_0, uc470_0, rfl, ul470_0, ge470_0⟩ := Kd.FK_slice_open hMe470
              have hv470_0 := hcc470 0 _ rfl
              rw [Nat.add_zero, show ((Kd.slice 3 (Kd.int .i64))).sz = 1 from rfl, Nat.mul_one] at hv470_0
              replace hv470_0 := Option.some.inj (hv470_0.symm.trans hx470_0)
              injection hv470_0 with hva_ hvn_ hvc_
              rw [hva_] at ge470_0
              rw [hvc_] at ul470_0
              have HL470_0 := Aside0.mk (show Kd.V (Kd.int .i64) 3 _ w.heap.size _ _ (rd_L2 t448 (ji44)) from Kd.V_mk ul470_0 ge470_0)
              clear hva_ hvn_ hvc_ ge470_0 ul470_0
              clear hcc470 hce470
              have HR470_0 := Aside0.mk hi470_0
              have HC470_0 := Aside0.mk hl470_0
              clear hi470_0 hl470_0
              replace p470 := eq_true p470
              replace q470 := eq_true q470
              obtain ⟨Ao69, co69, eo69⟩ := Kd.N_slice HO_7.out
              subst eo69
              go_wp2_with (first | ((with_reducible refine gate_callee (f := 16) rfl ?_); refine goesL_ (some 75) rfl rfl Try.func16 (by kernel_rfl) rfl #[.slice Ao69 x7_3.length co69] rfl z15_2 ?_; (with_reducible refine (impl_SpanTidy.calls k3 _ _ x7_3 t480 _ ?side1 ?side2 A49.out).mono ?_); (case side1 => exact cZ ((Kd.N_reads' HO_7.out).2.2)); (case side2 => first | exact (Kd.N_reads' HO_7.out).2.1 | exact Nat.le_refl _); rintro e w70 ⟨v481, rfl, ho0, hb⟩; refine ⟨_, rfl, ?_⟩; replace HL470_0 := Aside0.mk (Kd.V_elder' z15_17 z15_1 hb); have HO482 := Aside0.mk (Kd.N_lower (Kd.N_mono (ok' := fun k_ => some k_ ≠ (.slice (some ad470) t448.length co10 : Value).ownBlock ∧ some k_ ≠ (v452 : Value).ownBlock ∧ some k_ ≠ (.slice Ao69 x7_3.length co69 : Value).ownBlock ∧ some k_ ≠ (v478 : Value).ownBlock) (Kd.S_N (Kd.S_bound ho0)) (fun k_ hk_ => ⟨(Kd.fresh' (Kd.N_lt z15_3) k_ hk_.2.1), (Kd.fresh' (Kd.N_lt z15_4) k_ hk_.2.1), (Kd.fresh' (Kd.N_lt z15_8) k_ hk_.2.1), (Kd.fresh' (Kd.N_lt z15_9) k_ hk_.2.1)⟩)) (below_size z15_0)); replace HO_5 := Aside0.mk (Kd.N_elder' z15_3 z15_1 hb); replace HO_6 := Aside0.mk (Kd.N_elder' z15_4 z15_1 hb); replace HO_7 := Aside0.mk (Kd.N_elder' z15_8 z15_1 hb); replace HO479 := Aside0.mk (Kd.N_elder' z15_9 z15_1 hb); replace HB := Aside0.mk (below_step z15_0 hb); (try clear hb); (try clear ho0); obtain ⟨Ao71, co71, eo71⟩ := Kd.N_slice HO482.out; subst eo71; (try simp only [clip_slice]); obtain ⟨Ao72, co72, eo72⟩ := Kd.N_slice HO_6.out; subst eo72; (try simp only [clip_slice])) | ((with_reducible refine gate_callee (f := 17) rfl ?_); refine goesL_ (some 77) rfl rfl Try.func17 (by kernel_rfl) rfl #[.slice Ao71 t480.length t480.length, .slice Ao72 t451.length t451.length] rfl z15_2 ?_; (with_reducible refine (laws_lkRows.calls k3 _ _ t480 _ _ t451 false _ ?side1 ?side2 ?side3 ?side4 A50.out).mono ?_); (case side1 => exact cZ ((Kd.N_reads' HO482.out).2.2)); (case side2 => first | exact (Kd.N_reads' HO482.out).2.1 | exact Nat.le_refl _); (case side3 => exact cZ ((Kd.N_reads' HO_6.out).2.2)); (case side4 => first | exact (Kd.N_reads' HO_6.out).2.1 | exact Nat.le_refl _); rintro e w' ⟨rfl, ⟨nd, rfl⟩⟩; refine ⟨_, rfl, ?_⟩))
              go_ret
              exact ⟨z15_18, z15_0⟩

/-- THE ONE PURE STATEMENT of laws_FnSpanOrder: yours. -/
def laws_FnSpanOrder.Pure : Prop := ∀ (l0 : List Int) (l1 : List Int), l0.length ≤ maxLen → l0.length * 1 ≤ 140737488351232 → (∀ x ∈ l0, (Lit.int .u8 x).wf = true) → l1.length ≤ maxLen → l1.length * 1 ≤ 140737488351232 → (∀ x ∈ l1, (Lit.int .u8 x).wf = true) → ∃ k, laws_FnSpanOrder.f k l0 l1 = some true
theorem laws_FnSpanOrder.walk (P : laws_FnSpanOrder.Pure) (a0 : Option Addr) (len0 cap0 : Nat) (z0 : List Int) (a1 : Option Addr) (len1 cap1 : Nat) (z1 : List Int) (w : World) (w0 : (a0 = none ∧ len0 = 0 ∧ cap0 = 0 ∧ z0 = []) ∨ ∃ x, a0 = some x ∧ len0 ≤ cap0 ∧ cap0 ≤ maxLen ∧ z0.length = cap0 ∧ (∀ i, i < z0.length → w.cell? (x.add i) = some (.int .u8 (z0.getD i 0))) ∧ ∀ n ∈ z0, (Lit.int .u8 n).wf = true) (y0 : len0 * 1 ≤ 140737488351232) (w1 : (a1 = none ∧ len1 = 0 ∧ cap1 = 0 ∧ z1 = []) ∨ ∃ x, a1 = some x ∧ len1 ≤ cap1 ∧ cap1 ≤ maxLen ∧ z1.length = cap1 ∧ (∀ i, i < z1.length → w.cell? (x.add i) = some (.int .u8 (z1.getD i 0))) ∧ ∀ n ∈ z1, (Lit.int .u8 n).wf = true) (y1 : len1 * 1 ≤ 140737488351232) :
  Calls Try.prog 3 #[.slice a0 len0 cap0, .slice a1 len1 cap1] w fun e w' => e = .returned (.bool true) ∧ Below w.heap.size w w' := by
 obtain ⟨l0, rfl, hr0, hm0, hw0, hc0⟩ := ReadsInt.ofRowC w0
 obtain ⟨l1, rfl, hr1, hm1, hw1, hc1⟩ := ReadsInt.ofRowC w1
 obtain ⟨k, h⟩ := P l0 l1 hm0 y0 hw0 hm1 y1 hw1
 refine (laws_FnSpanOrder.calls k _ _ l0 _ _ l1 true w (Kd.C_of_reads (d := (0 : Int)) (h1 := fun _ => rfl) hr0) hc0 (Kd.C_of_reads (d := (0 : Int)) (h1 := fun _ => rfl) hr1) hc1 h).mono ?_
 rintro e w' ⟨rfl, hd⟩
 exact ⟨rfl, hd⟩

end Go.Proofs.Ytamaejafddmagaa.PA
