import Derived.Test.YtfgpffocieegdaaPAx0
import Derived.Test.YtfgpffocieegdaaPAx2
import Derived.Test.YtfgpffocieegdaaPAx6
import Derived.Test.YtfgpffocieegdaaPAx7
import Derived.Test.YtfgpffocieegdaaPAx8
import Derived.Test.YtfgpffocieegdaaHd
/- impl.planBy: its contract, by hand. -/
set_option linter.unusedVariables false
set_option linter.unusedSimpArgs false
namespace Go.Proofs.Ytfgpffocieegdaa.PA
open Go.RowKit Go.Proofs.Ytfgpffocieegdaa.PA Go.Proofs.YtfgpffocieegdaaW.PrintWords Go.Proofs.YtfgpffocieegdaaW.PrintLast Go.Proofs.YtfgpffocieegdaaW.PrintMore

theorem zhj_0 {p : Prop} (h : p := by repeat (first | (with_reducible first | exact HB.out | apply below_alloc | apply pw_below_drewN | apply below_drew1) | exact HB.out)) : p := h
theorem zhj_1 {p : Prop} (h : p := by rw [hg]; exact Nat.ne_of_lt (blk_lt HP0.out.1)) : p := h
theorem zhj_2 {p : Prop} (h : p := by rw [hg]; exact below_size HP0.out.2.2.2) : p := h
/-- What planBy's own variables hold: the result not yet set (g6), the numbers (g8), the plan (g10). -/
def PbI (w0 : World) (g6 g8 g10 : Nat) (bs : Array Value) (lost : Int) (v1 v2 : Value) (fr xs : List Int) (W : World) : Prop :=
  W.heap[g6]? = some (.cells #[.int .i64 0, .slice none 0 0, .slice none 0 0] 30 (0, 0)) ∧ W.heap[g8]? = some (.cells bs 68 (0, 0)) ∧ W.heap[g10]? = some (.cells #[.int .i64 lost, clip v1, v2] 30 (0, 0)) ∧
  Kd.R (Kd.int .i64) 3 W w0.heap.size (fun k => some k ≠ v2.ownBlock) v1 fr ∧ Kd.R (Kd.int .i64) 3 W w0.heap.size (fun k => some k ≠ v1.ownBlock) v2 xs ∧ Below w0.heap.size w0 W
/-- the same ahead of the plan -/
def Pb0 (w0 : World) (g6 g8 : Nat) (bs : Array Value) (A : Option Addr) (fr : List Int) (W : World) : Prop :=
  W.heap[g6]? = some (.cells #[.int .i64 0, .slice none 0 0, .slice none 0 0] 30 (0, 0)) ∧ W.heap[g8]? = some (.cells bs 68 (0, 0)) ∧ Kd.C (Kd.int .i64) W A fr.length fr ∧ Below w0.heap.size w0 W
section
variable {w0 W W' : World} {g6 g8 g10 : Nat} {bs : Array Value} {A : Option Addr} {lost : Int} {v1 v2 : Value} {fr xs : List Int}
theorem pb0_below (h : Pb0 w0 g6 g8 bs A fr W) (hb : Below W.heap.size W W') : Pb0 w0 g6 g8 bs A fr W' := ⟨blk_below h.1 hb, blk_below h.2.1 hb, Kd.C_below h.2.2.1 hb, below_step h.2.2.2 hb⟩
theorem pb0_drew (h : Pb0 w0 g6 g8 bs A fr W) : Pb0 w0 g6 g8 bs A fr W.drew := pb0_below h (below_drew1 (Below.refl _ _))
theorem pbI_below (h : PbI w0 g6 g8 g10 bs lost v1 v2 fr xs W) (hb : Below W.heap.size W W') : PbI w0 g6 g8 g10 bs lost v1 v2 fr xs W' := ⟨blk_below h.1 hb, blk_below h.2.1 hb, blk_below h.2.2.1 hb, Kd.R_below h.2.2.2.1 hb, Kd.R_below h.2.2.2.2.1 hb, below_step h.2.2.2.2.2 hb⟩
theorem pbI_drew (h : PbI w0 g6 g8 g10 bs lost v1 v2 fr xs W) : PbI w0 g6 g8 g10 bs lost v1 v2 fr xs W.drew := pbI_below h (below_drew1 (Below.refl _ _))
theorem pbI_alloc (h : PbI w0 g6 g8 g10 bs lost v1 v2 fr xs W) (o : Obj) : PbI w0 g6 g8 g10 bs lost v1 v2 fr xs (W.alloc o) := pbI_below h (below_alloc (Below.refl _ _) o)
/-- a number is put behind, and the new row is stored into the plan -/
theorem pbI_append {x : Int} {v2' : Value} {w1 : World} (he : w0.heap.size ≤ g10) (hne : g6 ≠ g10) (h : PbI w0 g6 g8 g10 bs lost v1 v2 fr xs W) (ho : Kd.R (Kd.int .i64) 3 w1 w0.heap.size (fun k => some k ≠ v1.ownBlock) v2' (xs ++ [x])) (hb : Below w0.heap.size w0 w1) (hg : W.grownBy w1 v2.ownBlock) (hat : v2'.ownBlock = v2.ownBlock ∨ ∃ b, v2'.ownBlock = some b ∧ W.heap.size ≤ b) :
    w1.heap[g6]? = some (.cells #[.int .i64 0, .slice none 0 0, .slice none 0 0] 30 (0, 0)) ∧ w1.heap[g8]? = some (.cells bs 68 (0, 0)) ∧ w1.heap[g10]? = some (.cells #[.int .i64 lost, clip v1, v2] 30 (0, 0)) ∧ PbI w0 g6 g8 g10 bs lost v1 v2' fr (xs ++ [x]) (w1.setCell ⟨g10, 2, none⟩ v2') := by
  obtain ⟨h6, h8, h10, hr1, hr2, hB⟩ := h
  have k6 := blk_grown h6 hg (Kd.R_ne hr2 h6 (by decide))
  have k8 := blk_grown h8 hg (Kd.R_ne hr2 h8 (by decide))
  have k10 := blk_grown h10 hg (Kd.R_ne hr2 h10 (by decide))
  have r1 := Kd.R_after (ok := fun _ => True) (Kd.R_mono hr1 (fun _ hk => ⟨trivial, hk⟩)) hg hat
  refine ⟨k6, k8, k10, blk_far k6 hne _, blk_far k8 (blk_ne k8 k10 (by decide)) _, blk_put (cs := #[.int .i64 lost, clip v1, v2]) k10 2 _ rfl, ?_, ?_, below_set hb he⟩
  · exact Kd.R_mono (Kd.R_far (p := ⟨g10, 2, none⟩) (Kd.R_types r1 k10 (by decide)) (fun _ hk => hk.2) v2') (fun _ hk => hk.1.2)
  · exact Kd.R_mono (Kd.R_far (p := ⟨g10, 2, none⟩) (Kd.R_types ho k10 (by decide)) (fun _ hk => hk.2) v2') (fun _ hk => hk.1)
end
def impl_planBy.bys (n : Nat) (b1 b2 b3 b4 b5 b6 b7 b8 : Int) : List Int := ([b1, b2, b3, b4, b5, b6, b7, b8] : List Int).take n
def impl_planBy.num (n : Nat) (b1 b2 b3 b4 b5 b6 b7 b8 : Int) : Int := ([b1, b2, b3, b4, b5, b6, b7, b8] : List Int).getD n 0
def impl_planBy.T6 : Bool × List (List Nat × List Nat) := (true, [([], []), ([0], [0]), ([], []), ([2], [2]), ([3], [3]), ([4], [4]), ([1, 5], [1, 5]), ([0, 1, 2, 3, 4, 5, 6], []), ([7, 6, 6, 0, 1, 2, 3, 4, 5, 6], [6, 7])])
def impl_planBy.B6 : List Nat := [0, 1, 0, 4, 12, 28, 63, 127, 255]
theorem impl_planBy.tab6 : rtab .any (opsOf Try.f41 6) = impl_planBy.T6 := by kernel_rfl
theorem impl_planBy.bits6 : waitsOk impl_planBy.T6.2 impl_planBy.B6 = true := by kernel_rfl
def impl_planBy.T8 : Bool × List (List Nat × List Nat) := (true, [([], []), ([], []), ([1], [1]), ([2], [2]), ([3, 2, 2], [2, 3]), ([2, 4], [2, 4]), ([0, 4, 0], [0]), ([5, 6, 0, 1, 2, 3, 4, 5, 6], [5])])
def impl_planBy.B8 : List Nat := [0, 0, 2, 6, 14, 30, 31, 127]
theorem impl_planBy.tab8 : rtab .any (opsOf Try.f41 8) = impl_planBy.T8 := by kernel_rfl
theorem impl_planBy.bits8 : waitsOk impl_planBy.T8.2 impl_planBy.B8 = true := by kernel_rfl
theorem make0_step {ops : Array Oper} {o : Oper} {a : Act} {Q : Exit → Act → World → Prop} {Kc : Act → World → Prop} {W : World} (hw : Region.wanted o (yielded ops a.tmps) = true) {N : Tmp} (hd : o.dst = some N) (n : Nat) (hn : n ≤ 1048576)
    (hrun : (execOp a.eval o).run Try.prog W = .ok (.value (.slice (some ⟨W.heap.size, 0, none⟩) 0 n)) (W.alloc (.cells (madeCells #[.int .i64 0] n) 3)))
    (h : ∀ v1 w1, Kd.R (Kd.int .i64) 3 w1 W.heap.size (fun _ => True) v1 [] → Below W.heap.size W w1 → Kc (a.put o.dst v1) w1) : if Region.wanted o (yielded ops a.tmps) = true then Oper.wp Try.prog o a W Kc Q else Kc (a.put o.dst undef) W :=
  event_step hw hrun (h _ _ (R_room (Kd.int .i64) 3 W W.heap.size n (madeCells #[.int .i64 0] n) (Nat.le_trans hn (by decide)) (by simp [size_madeCells]; exact (Nat.mul_one n).symm) (Nat.le_refl _)) (below_alloc (Below.refl _ _) _))
theorem pbI_start {w0 W : World} {g6 g8 g10 : Nat} {bs : Array Value} {A A1 : Option Addr} {c1 : Nat} {lost : Int} {v2 : Value} {fr xs : List Int} (he : w0.heap.size ≤ g10) (hne : g6 ≠ g10) (h : Pb0 w0 g6 g8 bs A fr W) (hk : W.heap[g10]? = some (.cells #[.int .i64 0, .slice none 0 0, .slice none 0 0] 30 (0, 0)))
    (h1 : Kd.R (Kd.int .i64) 3 W w0.heap.size (fun k => True ∧ some k ≠ v2.ownBlock) (.slice A1 fr.length c1) fr) (h2 : Kd.R (Kd.int .i64) 3 W w0.heap.size (fun k => True ∧ some k ≠ (Value.slice A1 fr.length c1).ownBlock) v2 xs) :
    PbI w0 g6 g8 g10 bs lost (.slice A1 fr.length c1) v2 fr xs (((W.setCell ⟨g10, 0, none⟩ (.int .i64 lost)).setCell ⟨g10, 1, none⟩ (.slice A1 fr.length fr.length)).setCell ⟨g10, 2, none⟩ v2) := by
  obtain ⟨h6, h8, hc, hB⟩ := h; have ne8 : g8 ≠ g10 := blk_ne h8 hk (by decide); refine ⟨blk_far (blk_far (blk_far h6 hne _) hne _) hne _, blk_far (blk_far (blk_far h8 ne8 _) ne8 _) ne8 _, ?_, ?_, ?_, below_set (below_set (below_set hB he) he) he⟩
  · exact blk_put (cs := #[.int .i64 lost, .slice A1 fr.length fr.length, .slice none 0 0]) (blk_put (cs := #[.int .i64 lost, .slice none 0 0, .slice none 0 0]) (blk_put (cs := #[.int .i64 0, .slice none 0 0, .slice none 0 0]) hk 0 _ rfl) 1 _ rfl) 2 _ rfl
  · exact Kd.R_mono (Kd.R_far (p := ⟨g10, 2, none⟩) (Kd.R_far (p := ⟨g10, 1, none⟩) (Kd.R_far (p := ⟨g10, 0, none⟩) (Kd.R_types h1 hk (by decide)) (fun _ h => h.2) _) (fun _ h => h.2) _) (fun _ h => h.2) _) (fun _ h => h.1.2)
  · exact Kd.R_mono (Kd.R_far (p := ⟨g10, 2, none⟩) (Kd.R_far (p := ⟨g10, 1, none⟩) (Kd.R_far (p := ⟨g10, 0, none⟩) (Kd.R_types h2 hk (by decide)) (fun _ h => h.2) _) (fun _ h => h.2) _) (fun _ h => h.2) _) (fun _ h => h.1.2)
theorem eight_place (g8 : Nat) {i : Nat} (hi : i < 8) (W : World) : (Instr.indexAt 68 (.pointer (some ⟨g8, 0, none⟩)) (.int .i64 (i : Int))).run Try.prog W = .ok (.pointer (some ⟨g8, i, none⟩)) W := by
  rcases (show i = 0 ∨ i = 1 ∨ i = 2 ∨ i = 3 ∨ i = 4 ∨ i = 5 ∨ i = 6 ∨ i = 7 by omega) with rfl | rfl | rfl | rfl | rfl | rfl | rfl | rfl <;> kernel_rfl
theorem eight_cell {W : World} {g8 i : Nat} (hi : i < 8) {b1 b2 b3 b4 b5 b6 b7 b8 : Int} (h : W.heap[g8]? = some (.cells #[.int .i64 b1, .int .i64 b2, .int .i64 b3, .int .i64 b4, .int .i64 b5, .int .i64 b6, .int .i64 b7, .int .i64 b8] 68 (0, 0))) : W.cell? ⟨g8, i, none⟩ = some (.int .i64 (impl_planBy.num i b1 b2 b3 b4 b5 b6 b7 b8)) := by
  rw [blk_cell h]
  rcases (show i = 0 ∨ i = 1 ∨ i = 2 ∨ i = 3 ∨ i = 4 ∨ i = 5 ∨ i = 6 ∨ i = 7 by omega) with rfl | rfl | rfl | rfl | rfl | rfl | rfl | rfl <;> rfl
theorem take_more {b1 b2 b3 b4 b5 b6 b7 b8 : Int} {i : Nat} (hi : i < 8) : (impl_planBy.bys i b1 b2 b3 b4 b5 b6 b7 b8) ++ [(impl_planBy.num i b1 b2 b3 b4 b5 b6 b7 b8)] = impl_planBy.bys (i + 1) b1 b2 b3 b4 b5 b6 b7 b8 := by
  unfold impl_planBy.bys impl_planBy.num; rw [List.take_add_one, List.getD_eq_getElem?_getD, List.getElem?_eq_getElem (by simpa using hi)]; rfl
theorem bys_len {b1 b2 b3 b4 b5 b6 b7 b8 : Int} (i : Nat) : (impl_planBy.bys i b1 b2 b3 b4 b5 b6 b7 b8).length ≤ 8 := by unfold impl_planBy.bys; simp; omega
theorem pbI_done {w0 W : World} {g6 g8 g10 : Nat} {bs : Array Value} {lost : Int} {v1 v2 : Value} {fr xs : List Int} (he : w0.heap.size ≤ g6) (h : PbI w0 g6 g8 g10 bs lost v1 v2 fr xs W) (u0 u1 u2 : Value) :
    Kd.R (Kd.int .i64) 3 (((W.setCell ⟨g6, 0, none⟩ u0).setCell ⟨g6, 1, none⟩ u1).setCell ⟨g6, 2, none⟩ u2) w0.heap.size (fun k => some k ≠ v2.ownBlock) v1 fr ∧ Kd.R (Kd.int .i64) 3 (((W.setCell ⟨g6, 0, none⟩ u0).setCell ⟨g6, 1, none⟩ u1).setCell ⟨g6, 2, none⟩ u2) w0.heap.size (fun k => some k ≠ v1.ownBlock) v2 xs ∧ Below w0.heap.size w0 (((W.setCell ⟨g6, 0, none⟩ u0).setCell ⟨g6, 1, none⟩ u1).setCell ⟨g6, 2, none⟩ u2) := by
  obtain ⟨h6, h8, h10, h1, h2, hB⟩ := h; refine ⟨?_, ?_, below_set (below_set (below_set hB he) he) he⟩
  · exact Kd.R_mono (Kd.R_far (p := ⟨g6, 2, none⟩) (Kd.R_far (p := ⟨g6, 1, none⟩) (Kd.R_far (p := ⟨g6, 0, none⟩) (Kd.R_types h1 h6 (by decide)) (fun _ h => h.2) _) (fun _ h => h.2) _) (fun _ h => h.2) _) (fun _ h => h.1)
  · exact Kd.R_mono (Kd.R_far (p := ⟨g6, 2, none⟩) (Kd.R_far (p := ⟨g6, 1, none⟩) (Kd.R_far (p := ⟨g6, 0, none⟩) (Kd.R_types h2 h6 (by decide)) (fun _ h => h.2) _) (fun _ h => h.2) _) (fun _ h => h.2) _) (fun _ h => h.1)
theorem zcells {W : World} {g : Nat} (h : W.heap[g]? = some (.cells #[.int .i64 0, .slice none 0 0, .slice none 0 0] 30 (0, 0))) : W.cell? ⟨g, 0, none⟩ = some (.int .i64 0) ∧ W.frozen? ⟨g, 0, none⟩ = false ∧ W.cell? ⟨g, 1, none⟩ = some (.slice none 0 0) ∧ W.frozen? ⟨g, 1, none⟩ = false ∧ W.cell? ⟨g, 2, none⟩ = some (.slice none 0 0) ∧ W.frozen? ⟨g, 2, none⟩ = false :=
  ⟨(blk_cell h 0).trans rfl, blk_frozen h 0, (blk_cell h 1).trans rfl, blk_frozen h 1, (blk_cell h 2).trans rfl, blk_frozen h 2⟩
theorem runZ {p : Prop} (h : p := by (try simp only [List.map_toArray, List.map_cons, List.map_nil]); first | done | rfl | (simp only [List.length_drop, List.length_take]; rfl)) : p := h
section
variable {P : Program} {md : Region.Mode} {ops : Array Oper} {Q : Exit → Act → World → Prop} {S : World → Prop} {ds : List Nat}
theorem twoZ (i j : Nat) {mi mj : Tmp} {oi oj : Oper} {fuel : Nat} {l li lj : Array Bool} {a : Act} {w : World} {T : Bool × List (List Nat × List Nat)} (HT : Aside0 (rtab md ops = T))
    (h1 : ∀ K : Act → World → Prop, Shut (∀ a' w', S w' → (S w' → wpAnyLast P md ops Q S ds fuel li a' w') → K a' w') → if Region.wanted oi (yielded ops a.tmps) = true then Oper.wp P oi a w K Q else K (a.put (some mi) undef) w)
    (h2 : ∀ K : Act → World → Prop, Shut (∀ a' w', S w' → (S w' → wpAnyLast P md ops Q S ds fuel lj a' w') → K a' w') → if Region.wanted oj (yielded ops a.tmps) = true then Oper.wp P oj a w K Q else K (a.put (some mj) undef) w)
    (hli : l.setIfInBounds i true = li := by rfl) (hlj : l.setIfInBounds j true = lj := by rfl) (hi : ops[i]? = some oi := by rfl) (hj : ops[j]? = some oj := by rfl) (hNi : oi.dst = some mi := by rfl) (hNj : oj.dst = some mj := by rfl)
    (hc : (readyT T.2 l.toList == [i, j] && l.toList.set i true == li.toList && l.toList.set j true == lj.toList) = true := by kernel_rfl) (hdi : i ∉ ds := by decide) (hdj : j ∉ ds := by decide) : wpAnyLast P md ops Q S ds (fuel + 1) l a w :=
  two_ li lj hi hj hNi hNj (two_of HT.out hc) hdi hdj h1 h2
theorem threeZ (i j k : Nat) {mi mj mk : Tmp} {oi oj ok : Oper} {fuel : Nat} {l li lj lk : Array Bool} {a : Act} {w : World} {T : Bool × List (List Nat × List Nat)} (HT : Aside0 (rtab md ops = T))
    (h1 : ∀ K : Act → World → Prop, Shut (∀ a' w', S w' → (S w' → wpAnyLast P md ops Q S ds fuel li a' w') → K a' w') → if Region.wanted oi (yielded ops a.tmps) = true then Oper.wp P oi a w K Q else K (a.put (some mi) undef) w)
    (h2 : ∀ K : Act → World → Prop, Shut (∀ a' w', S w' → (S w' → wpAnyLast P md ops Q S ds fuel lj a' w') → K a' w') → if Region.wanted oj (yielded ops a.tmps) = true then Oper.wp P oj a w K Q else K (a.put (some mj) undef) w)
    (h3 : ∀ K : Act → World → Prop, Shut (∀ a' w', S w' → (S w' → wpAnyLast P md ops Q S ds fuel lk a' w') → K a' w') → if Region.wanted ok (yielded ops a.tmps) = true then Oper.wp P ok a w K Q else K (a.put (some mk) undef) w)
    (hli : l.setIfInBounds i true = li := by rfl) (hlj : l.setIfInBounds j true = lj := by rfl) (hlk : l.setIfInBounds k true = lk := by rfl) (hi : ops[i]? = some oi := by rfl) (hj : ops[j]? = some oj := by rfl) (hk : ops[k]? = some ok := by rfl) (hNi : oi.dst = some mi := by rfl) (hNj : oj.dst = some mj := by rfl) (hNk : ok.dst = some mk := by rfl)
    (hc : (readyT T.2 l.toList == [i, j, k] && l.toList.set i true == li.toList && l.toList.set j true == lj.toList && l.toList.set k true == lk.toList) = true := by kernel_rfl) (hdi : i ∉ ds := by decide) (hdj : j ∉ ds := by decide) (hdk : k ∉ ds := by decide) : wpAnyLast P md ops Q S ds (fuel + 1) l a w :=
  three_ li lj lk hi hj hk hNi hNj hNk (three_of HT.out hc) hdi hdj hdk h1 h2 h3
end
def impl_planBy.T2 : Bool × List (List Nat × List Nat) := (true, [([], []), ([], []), ([1], [1]), ([2, 2], [2]), ([], []), ([4], [4]), ([5], [5]), ([0, 3, 6], [0, 3, 6]), ([], []), ([8, 7, 3, 0, 1, 2, 3, 4, 5, 6, 7, 8], [7, 8])])
def impl_planBy.B2 : List Nat := [0, 0, 2, 6, 0, 16, 48, 127, 0, 511]
theorem impl_planBy.tab2 : rtab .any (opsOf Try.f41 2) = impl_planBy.T2 := by kernel_rfl
theorem impl_planBy.bits2 : waitsOk impl_planBy.T2.2 impl_planBy.B2 = true := by kernel_rfl
set_option maxHeartbeats 8000000 in
set_option maxRecDepth 100000 in
theorem impl_planBy.callsG (k : Nat) (kind lost : Int) (A : Option Addr) (c : Nat) (fr : List Int) (rows : List S54) (ks : List S81) (ps : List Int) (z1 z2 z3 z4 b1 b2 b3 b4 b5 b6 b7 b8 : Int) (ok fm : Bool) (w : World) (hr : Kd.C (Kd.int .i64) w A fr.length fr) (hc : fr.length ≤ c) (hn : fr.length ≤ 8)
    (e1 : impl_rowsOf.f k kind fr = some rows) (e2 : impl_spanOf.f k rows = some (ks, ps)) (e3 : impl_rowOf.f kind lost = some (z1, z2, z3, z4)) (e4 : impl_span_by.f k ks ps z1 z2 z3 z4 = some (b1, b2, b3, b4, b5, b6, b7, b8, ok)) (e5 : ok = true → impl_Plan_formed.f k lost fr (impl_planBy.bys fr.length b1 b2 b3 b4 b5 b6 b7 b8) = some fm) :
    Calls Try.prog 41 #[.int .i64 kind, .int .i64 lost, .slice A fr.length c] w fun e w' => ∃ v1 v2 : Value, e = .returned (.tuple #[.agg #[.int .i64 lost, clip v1, v2], .bool (ok && fm)]) ∧ Kd.R (Kd.int .i64) 3 w' w.heap.size (fun k_ => some k_ ≠ v2.ownBlock) v1 fr ∧ Kd.R (Kd.int .i64) 3 w' w.heap.size (fun k_ => some k_ ≠ v1.ownBlock) v2 (impl_planBy.bys fr.length b1 b2 b3 b4 b5 b6 b7 b8) ∧ Below w.heap.size w w' := by
  have hmk : ∀ w, (Instr.makeSlice 28 (.int .i64 0) (.int .i64 (fr.length : Int))).run Try.prog w = .ok (.slice (some ⟨w.heap.size, 0, none⟩) 0 fr.length) (w.alloc (.cells (madeCells #[.int .i64 0] fr.length) 3)) := make_i64 fr.length (by omega)
  have HR := Aside0.mk hr
  have HC := Aside0.mk hc
  have HN := Aside0.mk hn
  have E1 := Aside0.mk e1
  have E2 := Aside0.mk e2
  have E3 := Aside0.mk e3
  have E4 := Aside0.mk e4
  have E5 := Aside0.mk e5
  have HM := Aside0.mk hmk
  clear hr hc hn e1 e2 e3 e4 e5 hmk
  have hu30 := Try.underlying30
  have hu68 := Try.underlying68
  have HB := Aside0.mk (Below.refl w.heap.size w)
  go_enter Try.func41, Try.ntmps41
  go_upto_region 2 with (first | ((with_reducible refine gate_dst (N := 6) rfl ?_); refine box_event ?hg (N := 6) ?hd (cs := #[.int .i64 0, .slice none 0 0, .slice none 0 0]) (t := 30) ?hr ?_; (case hd => rfl); (case hg => rfl); (case hr => first | (go_simp; done) | (go_simp; rfl)); intro g6 hg w6 hbox hb; have n0_ := Aside0.mk (below_step zhj_0 hb); have BK6 := Aside0.mk hbox; have GE6 := Aside0.mk ((by rw [hg]; exact below_size zhj_0) : w.heap.size ≤ g6); clear HB; have HB := n0_; clear n0_ hb hbox hg) | (go_at_call 50; refine (impl_rowsOf.calls k kind _ _ fr rows _ ?side1 HC.out E1.out).mono ?_; (case side1 => exact Kd.C_below HR.out HB.out); rintro e w7 ⟨vr, rfl, ho0, hb⟩; obtain ⟨Ar, cr, rfl⟩ := Kd.R_slice ho0; have HOR := Aside0.mk ho0; have n1_ := Aside0.mk (blk_below BK6.out hb); have n2_ := Aside0.mk (below_step HB.out hb); clear BK6 HB ho0 hb; have BK6 := n1_; have HB := n2_; clear n1_ n2_) | (go_at_call 49; refine (impl_spanOf.calls k _ _ rows ks ps _ ?side1 ?side2 E2.out).mono ?_; (case side1 => exact (Kd.R_reads' HOR.out).2.2); (case side2 => exact (Kd.R_reads' HOR.out).2.1); rintro e w8 ⟨va, vb, gs, rfl, hbox, hgr, ho0, ho1, hb⟩; have HSB : Aside0 (∀ W', Below w8.heap.size w8 W' → Calls Try.prog 51 #[.pointer (some ⟨gs, 0, none⟩), .agg #[.int .i64 z1, .int .i64 z2, .int .i64 z3, .int .i64 z4]] W' fun e w' => e = .returned (.tuple #[.agg #[.int .i64 b1, .int .i64 b2, .int .i64 b3, .int .i64 b4, .int .i64 b5, .int .i64 b6, .int .i64 b7, .int .i64 b8], .bool ok]) ∧ Below W'.heap.size W' w') := ⟨fun W' h' => impl_span_byB.calls k va ks vb ps z1 z2 z3 z4 b1 b2 b3 b4 b5 b6 b7 b8 ok W' (blk_below hbox h') (own_open (Kd.R_below ho0 h')) (own_open (Kd.R_below ho1 h')) E4.out⟩; have n1_ := Aside0.mk (blk_below BK6.out hb); have n2_ := Aside0.mk (below_step HB.out hb); clear BK6 HB hbox hgr ho0 ho1 hb HOR; have BK6 := n1_; have HB := n2_; clear n1_ n2_) | (go_at_call 33; refine (impl_rowOf.calls kind lost z1 z2 z3 z4 _ E3.out).mono ?_; rintro e w9 ⟨rfl, hb⟩; have HS9 := Aside0.mk (HSB.out w9 hb); have n1_ := Aside0.mk (blk_below BK6.out hb); have n2_ := Aside0.mk (below_step HB.out hb); clear BK6 HB hb HSB; have BK6 := n1_; have HB := n2_; clear n1_ n2_) | (go_at_call 51; refine HS9.out.mono ?_; rintro e w10 ⟨rfl, hb⟩; have n1_ := Aside0.mk (blk_below BK6.out hb); have n2_ := Aside0.mk (below_step HB.out hb); clear BK6 HB hb HS9; have BK6 := n1_; have HB := n2_; clear n1_ n2_) | ((with_reducible refine gate_dst (N := 8) rfl ?_); refine box_event ?hg (N := 8) ?hd (cs := #[.int .i64 0, .int .i64 0, .int .i64 0, .int .i64 0, .int .i64 0, .int .i64 0, .int .i64 0, .int .i64 0]) (t := 68) ?hr ?_; (case hd => rfl); (case hg => rfl); (case hr => first | (go_simp; done) | (go_simp; rfl)); intro g8 hg w11 hbox hb; have n0_ := Aside0.mk (below_step zhj_0 hb); have n1_ := Aside0.mk (blk_below (by (with_reducible repeat (first | refine blk_drewN ?_ _ | refine blk_drew ?_ | refine blk_alloc ?_ _)); exact BK6.out) hb); have BK8 := Aside0.mk hbox; have GE8 := Aside0.mk ((by rw [hg]; exact below_size zhj_0) : w.heap.size ≤ g8); clear HB BK6; have HB := n0_; have BK6 := n1_; clear n0_ n1_ hb hbox hg; obtain ⟨hcz0, hfz0, hcz1, hfz1, hcz2, hfz2, hcz3, hfz3, hcz4, hfz4, hcz5, hfz5, hcz6, hfz6, hcz7, hfz7⟩ := cAZ8_ BK8) | ((with_reducible refine gate_store (t := 68) (p := 8) rfl ?_); refine store_event (t := 68) (p := 8) (v := ?vo) (w1 := ((((((((w11.setCell ⟨g8, 0, none⟩ (.int .i64 b1)).setCell ⟨g8, 1, none⟩ (.int .i64 b2)).setCell ⟨g8, 2, none⟩ (.int .i64 b3)).setCell ⟨g8, 3, none⟩ (.int .i64 b4)).setCell ⟨g8, 4, none⟩ (.int .i64 b5)).setCell ⟨g8, 5, none⟩ (.int .i64 b6)).setCell ⟨g8, 6, none⟩ (.int .i64 b7)).setCell ⟨g8, 7, none⟩ (.int .i64 b8))) ?hg ?ho ?hn ?hr ?_; (case ho => rfl); (case hg => rfl); (case hn => rfl); (case hr => first | (go_simp; done) | (go_simp; rfl)); intro w12 hw; have hn68 : g6 ≠ g8 := blk_ne BK6.out BK8.out (by decide); have HP0 : Aside0 (Pb0 w g6 g8 #[.int .i64 b1, .int .i64 b2, .int .i64 b3, .int .i64 b4, .int .i64 b5, .int .i64 b6, .int .i64 b7, .int .i64 b8] A fr w12) := ⟨by rw [hw]; exact ⟨blk_far (blk_far (blk_far (blk_far (blk_far (blk_far (blk_far (blk_far (BK6.out) hn68 _) hn68 _) hn68 _) hn68 _) hn68 _) hn68 _) hn68 _) hn68 _, (by refine blk_put (cs := #[.int .i64 b1, .int .i64 b2, .int .i64 b3, .int .i64 b4, .int .i64 b5, .int .i64 b6, .int .i64 b7, .int .i64 0]) ?_ 7 _ rfl; refine blk_put (cs := #[.int .i64 b1, .int .i64 b2, .int .i64 b3, .int .i64 b4, .int .i64 b5, .int .i64 b6, .int .i64 0, .int .i64 0]) ?_ 6 _ rfl; refine blk_put (cs := #[.int .i64 b1, .int .i64 b2, .int .i64 b3, .int .i64 b4, .int .i64 b5, .int .i64 0, .int .i64 0, .int .i64 0]) ?_ 5 _ rfl; refine blk_put (cs := #[.int .i64 b1, .int .i64 b2, .int .i64 b3, .int .i64 b4, .int .i64 0, .int .i64 0, .int .i64 0, .int .i64 0]) ?_ 4 _ rfl; refine blk_put (cs := #[.int .i64 b1, .int .i64 b2, .int .i64 b3, .int .i64 0, .int .i64 0, .int .i64 0, .int .i64 0, .int .i64 0]) ?_ 3 _ rfl; refine blk_put (cs := #[.int .i64 b1, .int .i64 b2, .int .i64 0, .int .i64 0, .int .i64 0, .int .i64 0, .int .i64 0, .int .i64 0]) ?_ 2 _ rfl; refine blk_put (cs := #[.int .i64 b1, .int .i64 0, .int .i64 0, .int .i64 0, .int .i64 0, .int .i64 0, .int .i64 0, .int .i64 0]) ?_ 1 _ rfl; refine blk_put (cs := #[.int .i64 0, .int .i64 0, .int .i64 0, .int .i64 0, .int .i64 0, .int .i64 0, .int .i64 0, .int .i64 0]) ?_ 0 _ rfl; exact BK8.out), Kd.C_below HR.out (below_set (below_set (below_set (below_set (below_set (below_set (below_set (below_set (HB.out) GE8.out) GE8.out) GE8.out) GE8.out) GE8.out) GE8.out) GE8.out) GE8.out), below_set (below_set (below_set (below_set (below_set (below_set (below_set (below_set (HB.out) GE8.out) GE8.out) GE8.out) GE8.out) GE8.out) GE8.out) GE8.out) GE8.out⟩⟩; clear hw HB BK6 BK8 hn68; clear hcz0 hcz1 hcz2 hcz3 hcz4 hcz5 hcz6 hcz7 hfz0 hfz1 hfz2 hfz3 hfz4 hfz5 hfz6 hfz7))
  have HCL := Aside0.mk (show slices_Clone_int_int.f fr = some fr by unfold slices_Clone_int_int.f; rw [if_pos (Nat.le_trans HN.out (by decide))])
  go_cut [10] (fun v10 wc => ∃ (g10 : Nat) (v1 v2 : Value), v10 = .pointer (some ⟨g10, 0, none⟩) ∧ Aside0 (w.heap.size ≤ g10) ∧ Aside0 (g6 ≠ g10) ∧ Aside0 (PbI w g6 g8 g10 #[.int .i64 b1, .int .i64 b2, .int .i64 b3, .int .i64 b4, .int .i64 b5, .int .i64 b6, .int .i64 b7, .int .i64 b8] lost v1 v2 fr [] wc))
  case first =>
    try go_wp2
    refine start_ (n := 10) (S := fun _ => True) (ds := [9]) #[false, false, false, false, false, false, false, false, false, false] (by kernel_rfl) rfl rfl trivial (fun _ => ?_); refine with_tabW impl_planBy.tab2 impl_planBy.bits2 (fun HT_ HW_ => ?_)
    have nP_ := Aside0.mk (pb0_drew HP0.out)
    clear HP0
    have HP0 := nP_
    clear nP_; generalize w12.drew = w13 at HP0 ⊢; refine pZ 0 HT_ ?_; refine pZ 1 HT_ ?_; refine pZ 4 HT_ ?_; refine pZ 5 HT_ ?_; refine threeZ 2 6 8 HT_ (fun K hK => ?_) (fun K hK => ?_) (fun K hK => ?_)
    · refine goes_ Try.func37 (by kernel_rfl) rfl #[.slice A fr.length c] (by rfl) rfl rfl runZ ?_
      with_reducible refine (slices_Clone_int_int.calls _ _ fr fr _ ?side1 HC.out HCL.out).mono ?_
      (case side1 => exact HP0.out.2.2.1)
      rintro e wq1 ⟨v1, rfl, ho0, hb⟩
      refine ⟨_, rfl, ?_⟩
      have HO1 := Aside0.mk (Kd.R_lower ho0 (below_size HP0.out.2.2.2))
      replace HP0 := Aside0.mk (pb0_below HP0.out hb)
      clear ho0 hb; obtain ⟨A1, c1, e1_⟩ := Kd.R_slice HO1.out; subst e1_; refine hK.out _ _ trivial (fun _ => ?_); clear hK K; refine nZ ?_; refine threeZ 3 6 8 HT_ (fun K hK => ?_) (fun K hK => ?_) (fun K hK => ?_)
      · refine goes_ Try.func52 (by kernel_rfl) rfl #[.slice A1 fr.length c1] (by rfl) rfl rfl runZ ?_
        with_reducible refine (slices_Clip_int.calls A1 fr.length c1 (Kd.R_reads' HO1.out).2.1 _).mono ?_
        rintro e wq2 ⟨rfl, hb⟩
        refine ⟨_, rfl, ?_⟩
        replace HP0 := Aside0.mk (pb0_below HP0.out hb)
        replace HO1 := Aside0.mk (Kd.R_below HO1.out hb)
        clear hb; refine hK.out _ _ trivial (fun _ => ?_); clear hK K; refine nZ ?_; refine twoZ 6 8 HT_ (fun K hK => ?_) (fun K hK => ?_)
        · refine make0_step (by rfl) (N := 29) rfl fr.length (Nat.le_trans HN.out (by decide)) ?hr ?_
          (case hr => have hmk := HM.out; go_simp; try rfl); intro v2 wq3 ho0 hb
          have nA_ := Kd.R_newR ho0 HO1.out
          have nB_ := Aside0.mk (Kd.R_elder HO1.out ho0 hb)
          have HO2 := Aside0.mk (Kd.R_lower nA_ (below_size HP0.out.2.2.2))
          clear HO1 nA_
          have HO1 := nB_
          clear nB_
          replace HP0 := Aside0.mk (pb0_below HP0.out hb)
          clear ho0 hb; obtain ⟨A2, c2, e2_⟩ := Kd.R_slice HO2.out; subst e2_; refine hK.out _ _ trivial (fun _ => ?_); clear hK K; refine nZ ?_; refine pZ 7 HT_ ?_; refine oZ 8 HT_ (fun K hK => ?_); refine box_step (by rfl) (N := 10) rfl (cs := #[.int .i64 0, .slice none 0 0, .slice none 0 0]) (t := 30) ?hr ?_; (case hr => first | (go_simp; done) | (go_simp; rfl)); intro g10 hg wq4 hbox hb
          have BK10 := Aside0.mk hbox
          have GE10 := Aside0.mk (zhj_2 : w.heap.size ≤ g10)
          have NE10 := Aside0.mk (zhj_1 : g6 ≠ g10)
          replace HP0 := Aside0.mk (pb0_below HP0.out hb)
          replace HO1 := Aside0.mk (Kd.R_below HO1.out hb)
          replace HO2 := Aside0.mk (Kd.R_below HO2.out hb)
          clear hb hbox hg; refine hK.out _ _ trivial (fun _ => ?_); clear hK K; refine nZ ?_; refine lZ 9 HT_ (fun K hK => ?_); obtain ⟨hz0, hy0, hz1, hy1, hz2, hy2⟩ := zcells BK10.out; refine skip_ (w1 := ?_) (by rfl) rfl ?_ ?_; rotate_left
          · go_simp
            rfl
          refine hK.out _ _ ?_; clear hK K; refine done_ (done_of HT_.out (by kernel_rfl)) ?_
          try go_wp2
          go_meet
          case rel => exact ⟨g10, _, _, rfl, GE10, NE10, ⟨pbI_start GE10.out NE10.out HP0.out BK10.out HO1.out HO2.out⟩⟩
        · refine box_step (by rfl) (N := 10) rfl (cs := #[.int .i64 0, .slice none 0 0, .slice none 0 0]) (t := 30) ?hr ?_
          (case hr => first | (go_simp; done) | (go_simp; rfl)); intro g10 hg wq5 hbox hb
          have BK10 := Aside0.mk hbox
          have GE10 := Aside0.mk (zhj_2 : w.heap.size ≤ g10)
          have NE10 := Aside0.mk (zhj_1 : g6 ≠ g10)
          replace HP0 := Aside0.mk (pb0_below HP0.out hb)
          replace HO1 := Aside0.mk (Kd.R_below HO1.out hb)
          clear hb hbox hg; refine hK.out _ _ trivial (fun _ => ?_); clear hK K; refine nZ ?_; refine oZ 6 HT_ (fun K hK => ?_); refine make0_step (by rfl) (N := 29) rfl fr.length (Nat.le_trans HN.out (by decide)) ?hr ?_; (case hr => have hmk := HM.out; go_simp; try rfl); intro v2 wq6 ho0 hb
          have nA_ := Kd.R_newR ho0 HO1.out
          have nB_ := Aside0.mk (Kd.R_elder HO1.out ho0 hb)
          have HO2 := Aside0.mk (Kd.R_lower nA_ (below_size HP0.out.2.2.2))
          clear HO1 nA_
          have HO1 := nB_
          clear nB_
          replace HP0 := Aside0.mk (pb0_below HP0.out hb)
          replace BK10 := Aside0.mk (blk_below BK10.out hb)
          clear ho0 hb; obtain ⟨A2, c2, e2_⟩ := Kd.R_slice HO2.out; subst e2_; refine hK.out _ _ trivial (fun _ => ?_); clear hK K; refine nZ ?_; refine pZ 7 HT_ ?_; refine lZ 9 HT_ (fun K hK => ?_); obtain ⟨hz0, hy0, hz1, hy1, hz2, hy2⟩ := zcells BK10.out; refine skip_ (w1 := ?_) (by rfl) rfl ?_ ?_; rotate_left
          · go_simp
            rfl
          refine hK.out _ _ ?_; clear hK K; refine done_ (done_of HT_.out (by kernel_rfl)) ?_
          try go_wp2
          go_meet
          case rel => exact ⟨g10, _, _, rfl, GE10, NE10, ⟨pbI_start GE10.out NE10.out HP0.out BK10.out HO1.out HO2.out⟩⟩
      · refine make0_step (by rfl) (N := 29) rfl fr.length (Nat.le_trans HN.out (by decide)) ?hr ?_
        (case hr => have hmk := HM.out; go_simp; try rfl); intro v2 wq7 ho0 hb
        have nA_ := Kd.R_newR ho0 HO1.out
        have nB_ := Aside0.mk (Kd.R_elder HO1.out ho0 hb)
        have HO2 := Aside0.mk (Kd.R_lower nA_ (below_size HP0.out.2.2.2))
        clear HO1 nA_
        have HO1 := nB_
        clear nB_
        replace HP0 := Aside0.mk (pb0_below HP0.out hb)
        clear ho0 hb; obtain ⟨A2, c2, e2_⟩ := Kd.R_slice HO2.out; subst e2_; refine hK.out _ _ trivial (fun _ => ?_); clear hK K; refine nZ ?_; refine twoZ 3 8 HT_ (fun K hK => ?_) (fun K hK => ?_)
        · refine goes_ Try.func52 (by kernel_rfl) rfl #[.slice A1 fr.length c1] (by rfl) rfl rfl runZ ?_
          with_reducible refine (slices_Clip_int.calls A1 fr.length c1 (Kd.R_reads' HO1.out).2.1 _).mono ?_
          rintro e wq8 ⟨rfl, hb⟩
          refine ⟨_, rfl, ?_⟩
          replace HP0 := Aside0.mk (pb0_below HP0.out hb)
          replace HO1 := Aside0.mk (Kd.R_below HO1.out hb)
          replace HO2 := Aside0.mk (Kd.R_below HO2.out hb)
          clear hb; refine hK.out _ _ trivial (fun _ => ?_); clear hK K; refine nZ ?_; refine pZ 7 HT_ ?_; refine oZ 8 HT_ (fun K hK => ?_); refine box_step (by rfl) (N := 10) rfl (cs := #[.int .i64 0, .slice none 0 0, .slice none 0 0]) (t := 30) ?hr ?_; (case hr => first | (go_simp; done) | (go_simp; rfl)); intro g10 hg wq9 hbox hb
          have BK10 := Aside0.mk hbox
          have GE10 := Aside0.mk (zhj_2 : w.heap.size ≤ g10)
          have NE10 := Aside0.mk (zhj_1 : g6 ≠ g10)
          replace HP0 := Aside0.mk (pb0_below HP0.out hb)
          replace HO1 := Aside0.mk (Kd.R_below HO1.out hb)
          replace HO2 := Aside0.mk (Kd.R_below HO2.out hb)
          clear hb hbox hg; refine hK.out _ _ trivial (fun _ => ?_); clear hK K; refine nZ ?_; refine lZ 9 HT_ (fun K hK => ?_); obtain ⟨hz0, hy0, hz1, hy1, hz2, hy2⟩ := zcells BK10.out; refine skip_ (w1 := ?_) (by rfl) rfl ?_ ?_; rotate_left
          · go_simp
            rfl
          refine hK.out _ _ ?_; clear hK K; refine done_ (done_of HT_.out (by kernel_rfl)) ?_
          try go_wp2
          go_meet
          case rel => exact ⟨g10, _, _, rfl, GE10, NE10, ⟨pbI_start GE10.out NE10.out HP0.out BK10.out HO1.out HO2.out⟩⟩
        · refine box_step (by rfl) (N := 10) rfl (cs := #[.int .i64 0, .slice none 0 0, .slice none 0 0]) (t := 30) ?hr ?_
          (case hr => first | (go_simp; done) | (go_simp; rfl)); intro g10 hg wq10 hbox hb
          have BK10 := Aside0.mk hbox
          have GE10 := Aside0.mk (zhj_2 : w.heap.size ≤ g10)
          have NE10 := Aside0.mk (zhj_1 : g6 ≠ g10)
          replace HP0 := Aside0.mk (pb0_below HP0.out hb)
          replace HO1 := Aside0.mk (Kd.R_below HO1.out hb)
          replace HO2 := Aside0.mk (Kd.R_below HO2.out hb)
          clear hb hbox hg; refine hK.out _ _ trivial (fun _ => ?_); clear hK K; refine nZ ?_; refine oZ 3 HT_ (fun K hK => ?_); refine goes_ Try.func52 (by kernel_rfl) rfl #[.slice A1 fr.length c1] (by rfl) rfl rfl runZ ?_
          with_reducible refine (slices_Clip_int.calls A1 fr.length c1 (Kd.R_reads' HO1.out).2.1 _).mono ?_
          rintro e wq11 ⟨rfl, hb⟩
          refine ⟨_, rfl, ?_⟩
          replace HP0 := Aside0.mk (pb0_below HP0.out hb)
          replace BK10 := Aside0.mk (blk_below BK10.out hb)
          replace HO1 := Aside0.mk (Kd.R_below HO1.out hb)
          replace HO2 := Aside0.mk (Kd.R_below HO2.out hb)
          clear hb; refine hK.out _ _ trivial (fun _ => ?_); clear hK K; refine nZ ?_; refine pZ 7 HT_ ?_; refine lZ 9 HT_ (fun K hK => ?_); obtain ⟨hz0, hy0, hz1, hy1, hz2, hy2⟩ := zcells BK10.out; refine skip_ (w1 := ?_) (by rfl) rfl ?_ ?_; rotate_left
          · go_simp
            rfl
          refine hK.out _ _ ?_; clear hK K; refine done_ (done_of HT_.out (by kernel_rfl)) ?_
          try go_wp2
          go_meet
          case rel => exact ⟨g10, _, _, rfl, GE10, NE10, ⟨pbI_start GE10.out NE10.out HP0.out BK10.out HO1.out HO2.out⟩⟩
      · refine box_step (by rfl) (N := 10) rfl (cs := #[.int .i64 0, .slice none 0 0, .slice none 0 0]) (t := 30) ?hr ?_
        (case hr => first | (go_simp; done) | (go_simp; rfl)); intro g10 hg wq12 hbox hb
        have BK10 := Aside0.mk hbox
        have GE10 := Aside0.mk (zhj_2 : w.heap.size ≤ g10)
        have NE10 := Aside0.mk (zhj_1 : g6 ≠ g10)
        replace HP0 := Aside0.mk (pb0_below HP0.out hb)
        replace HO1 := Aside0.mk (Kd.R_below HO1.out hb)
        clear hb hbox hg; refine hK.out _ _ trivial (fun _ => ?_); clear hK K; refine nZ ?_; refine twoZ 3 6 HT_ (fun K hK => ?_) (fun K hK => ?_)
        · refine goes_ Try.func52 (by kernel_rfl) rfl #[.slice A1 fr.length c1] (by rfl) rfl rfl runZ ?_
          with_reducible refine (slices_Clip_int.calls A1 fr.length c1 (Kd.R_reads' HO1.out).2.1 _).mono ?_
          rintro e wq13 ⟨rfl, hb⟩
          refine ⟨_, rfl, ?_⟩
          replace HP0 := Aside0.mk (pb0_below HP0.out hb)
          replace BK10 := Aside0.mk (blk_below BK10.out hb)
          replace HO1 := Aside0.mk (Kd.R_below HO1.out hb)
          clear hb; refine hK.out _ _ trivial (fun _ => ?_); clear hK K; refine nZ ?_; refine oZ 6 HT_ (fun K hK => ?_); refine make0_step (by rfl) (N := 29) rfl fr.length (Nat.le_trans HN.out (by decide)) ?hr ?_; (case hr => have hmk := HM.out; go_simp; try rfl); intro v2 wq14 ho0 hb
          have nA_ := Kd.R_newR ho0 HO1.out
          have nB_ := Aside0.mk (Kd.R_elder HO1.out ho0 hb)
          have HO2 := Aside0.mk (Kd.R_lower nA_ (below_size HP0.out.2.2.2))
          clear HO1 nA_
          have HO1 := nB_
          clear nB_
          replace HP0 := Aside0.mk (pb0_below HP0.out hb)
          replace BK10 := Aside0.mk (blk_below BK10.out hb)
          clear ho0 hb; obtain ⟨A2, c2, e2_⟩ := Kd.R_slice HO2.out; subst e2_; refine hK.out _ _ trivial (fun _ => ?_); clear hK K; refine nZ ?_; refine pZ 7 HT_ ?_; refine lZ 9 HT_ (fun K hK => ?_); obtain ⟨hz0, hy0, hz1, hy1, hz2, hy2⟩ := zcells BK10.out; refine skip_ (w1 := ?_) (by rfl) rfl ?_ ?_; rotate_left
          · go_simp
            rfl
          refine hK.out _ _ ?_; clear hK K; refine done_ (done_of HT_.out (by kernel_rfl)) ?_
          try go_wp2
          go_meet
          case rel => exact ⟨g10, _, _, rfl, GE10, NE10, ⟨pbI_start GE10.out NE10.out HP0.out BK10.out HO1.out HO2.out⟩⟩
        · refine make0_step (by rfl) (N := 29) rfl fr.length (Nat.le_trans HN.out (by decide)) ?hr ?_
          (case hr => have hmk := HM.out; go_simp; try rfl); intro v2 wq15 ho0 hb
          have nA_ := Kd.R_newR ho0 HO1.out
          have nB_ := Aside0.mk (Kd.R_elder HO1.out ho0 hb)
          have HO2 := Aside0.mk (Kd.R_lower nA_ (below_size HP0.out.2.2.2))
          clear HO1 nA_
          have HO1 := nB_
          clear nB_
          replace HP0 := Aside0.mk (pb0_below HP0.out hb)
          replace BK10 := Aside0.mk (blk_below BK10.out hb)
          clear ho0 hb; obtain ⟨A2, c2, e2_⟩ := Kd.R_slice HO2.out; subst e2_; refine hK.out _ _ trivial (fun _ => ?_); clear hK K; refine nZ ?_; refine oZ 3 HT_ (fun K hK => ?_); refine goes_ Try.func52 (by kernel_rfl) rfl #[.slice A1 fr.length c1] (by rfl) rfl rfl runZ ?_
          with_reducible refine (slices_Clip_int.calls A1 fr.length c1 (Kd.R_reads' HO1.out).2.1 _).mono ?_
          rintro e wq16 ⟨rfl, hb⟩
          refine ⟨_, rfl, ?_⟩
          replace HP0 := Aside0.mk (pb0_below HP0.out hb)
          replace BK10 := Aside0.mk (blk_below BK10.out hb)
          replace HO1 := Aside0.mk (Kd.R_below HO1.out hb)
          replace HO2 := Aside0.mk (Kd.R_below HO2.out hb)
          clear hb; refine hK.out _ _ trivial (fun _ => ?_); clear hK K; refine nZ ?_; refine pZ 7 HT_ ?_; refine lZ 9 HT_ (fun K hK => ?_); obtain ⟨hz0, hy0, hz1, hy1, hz2, hy2⟩ := zcells BK10.out; refine skip_ (w1 := ?_) (by rfl) rfl ?_ ?_; rotate_left
          · go_simp
            rfl
          refine hK.out _ _ ?_; clear hK K; refine done_ (done_of HT_.out (by kernel_rfl)) ?_
          try go_wp2
          go_meet
          case rel => exact ⟨g10, _, _, rfl, GE10, NE10, ⟨pbI_start GE10.out NE10.out HP0.out BK10.out HO1.out HO2.out⟩⟩
    · refine make0_step (by rfl) (N := 29) rfl fr.length (Nat.le_trans HN.out (by decide)) ?hr ?_
      (case hr => have hmk := HM.out; go_simp; try rfl); intro v2 wq17 ho0 hb
      have HO2 := Aside0.mk (Kd.R_lower ho0 (below_size HP0.out.2.2.2))
      replace HP0 := Aside0.mk (pb0_below HP0.out hb)
      clear ho0 hb; obtain ⟨A2, c2, e2_⟩ := Kd.R_slice HO2.out; subst e2_; refine hK.out _ _ trivial (fun _ => ?_); clear hK K; refine nZ ?_; refine twoZ 2 8 HT_ (fun K hK => ?_) (fun K hK => ?_)
      · refine goes_ Try.func37 (by kernel_rfl) rfl #[.slice A fr.length c] (by rfl) rfl rfl runZ ?_
        with_reducible refine (slices_Clone_int_int.calls _ _ fr fr _ ?side1 HC.out HCL.out).mono ?_
        (case side1 => exact HP0.out.2.2.1)
        rintro e wq18 ⟨v1, rfl, ho0, hb⟩
        refine ⟨_, rfl, ?_⟩
        have nA_ := Kd.R_newR ho0 HO2.out
        have nB_ := Aside0.mk (Kd.R_elder HO2.out ho0 hb)
        have HO1 := Aside0.mk (Kd.R_lower nA_ (below_size HP0.out.2.2.2))
        clear HO2 nA_
        have HO2 := nB_
        clear nB_
        replace HP0 := Aside0.mk (pb0_below HP0.out hb)
        clear ho0 hb; obtain ⟨A1, c1, e1_⟩ := Kd.R_slice HO1.out; subst e1_; refine hK.out _ _ trivial (fun _ => ?_); clear hK K; refine nZ ?_; refine twoZ 3 8 HT_ (fun K hK => ?_) (fun K hK => ?_)
        · refine goes_ Try.func52 (by kernel_rfl) rfl #[.slice A1 fr.length c1] (by rfl) rfl rfl runZ ?_
          with_reducible refine (slices_Clip_int.calls A1 fr.length c1 (Kd.R_reads' HO1.out).2.1 _).mono ?_
          rintro e wq19 ⟨rfl, hb⟩
          refine ⟨_, rfl, ?_⟩
          replace HP0 := Aside0.mk (pb0_below HP0.out hb)
          replace HO1 := Aside0.mk (Kd.R_below HO1.out hb)
          replace HO2 := Aside0.mk (Kd.R_below HO2.out hb)
          clear hb; refine hK.out _ _ trivial (fun _ => ?_); clear hK K; refine nZ ?_; refine pZ 7 HT_ ?_; refine oZ 8 HT_ (fun K hK => ?_); refine box_step (by rfl) (N := 10) rfl (cs := #[.int .i64 0, .slice none 0 0, .slice none 0 0]) (t := 30) ?hr ?_; (case hr => first | (go_simp; done) | (go_simp; rfl)); intro g10 hg wq20 hbox hb
          have BK10 := Aside0.mk hbox
          have GE10 := Aside0.mk (zhj_2 : w.heap.size ≤ g10)
          have NE10 := Aside0.mk (zhj_1 : g6 ≠ g10)
          replace HP0 := Aside0.mk (pb0_below HP0.out hb)
          replace HO1 := Aside0.mk (Kd.R_below HO1.out hb)
          replace HO2 := Aside0.mk (Kd.R_below HO2.out hb)
          clear hb hbox hg; refine hK.out _ _ trivial (fun _ => ?_); clear hK K; refine nZ ?_; refine lZ 9 HT_ (fun K hK => ?_); obtain ⟨hz0, hy0, hz1, hy1, hz2, hy2⟩ := zcells BK10.out; refine skip_ (w1 := ?_) (by rfl) rfl ?_ ?_; rotate_left
          · go_simp
            rfl
          refine hK.out _ _ ?_; clear hK K; refine done_ (done_of HT_.out (by kernel_rfl)) ?_
          try go_wp2
          go_meet
          case rel => exact ⟨g10, _, _, rfl, GE10, NE10, ⟨pbI_start GE10.out NE10.out HP0.out BK10.out HO1.out HO2.out⟩⟩
        · refine box_step (by rfl) (N := 10) rfl (cs := #[.int .i64 0, .slice none 0 0, .slice none 0 0]) (t := 30) ?hr ?_
          (case hr => first | (go_simp; done) | (go_simp; rfl)); intro g10 hg wq21 hbox hb
          have BK10 := Aside0.mk hbox
          have GE10 := Aside0.mk (zhj_2 : w.heap.size ≤ g10)
          have NE10 := Aside0.mk (zhj_1 : g6 ≠ g10)
          replace HP0 := Aside0.mk (pb0_below HP0.out hb)
          replace HO1 := Aside0.mk (Kd.R_below HO1.out hb)
          replace HO2 := Aside0.mk (Kd.R_below HO2.out hb)
          clear hb hbox hg; refine hK.out _ _ trivial (fun _ => ?_); clear hK K; refine nZ ?_; refine oZ 3 HT_ (fun K hK => ?_); refine goes_ Try.func52 (by kernel_rfl) rfl #[.slice A1 fr.length c1] (by rfl) rfl rfl runZ ?_
          with_reducible refine (slices_Clip_int.calls A1 fr.length c1 (Kd.R_reads' HO1.out).2.1 _).mono ?_
          rintro e wq22 ⟨rfl, hb⟩
          refine ⟨_, rfl, ?_⟩
          replace HP0 := Aside0.mk (pb0_below HP0.out hb)
          replace BK10 := Aside0.mk (blk_below BK10.out hb)
          replace HO1 := Aside0.mk (Kd.R_below HO1.out hb)
          replace HO2 := Aside0.mk (Kd.R_below HO2.out hb)
          clear hb; refine hK.out _ _ trivial (fun _ => ?_); clear hK K; refine nZ ?_; refine pZ 7 HT_ ?_; refine lZ 9 HT_ (fun K hK => ?_); obtain ⟨hz0, hy0, hz1, hy1, hz2, hy2⟩ := zcells BK10.out; refine skip_ (w1 := ?_) (by rfl) rfl ?_ ?_; rotate_left
          · go_simp
            rfl
          refine hK.out _ _ ?_; clear hK K; refine done_ (done_of HT_.out (by kernel_rfl)) ?_
          try go_wp2
          go_meet
          case rel => exact ⟨g10, _, _, rfl, GE10, NE10, ⟨pbI_start GE10.out NE10.out HP0.out BK10.out HO1.out HO2.out⟩⟩
      · refine box_step (by rfl) (N := 10) rfl (cs := #[.int .i64 0, .slice none 0 0, .slice none 0 0]) (t := 30) ?hr ?_
        (case hr => first | (go_simp; done) | (go_simp; rfl)); intro g10 hg wq23 hbox hb
        have BK10 := Aside0.mk hbox
        have GE10 := Aside0.mk (zhj_2 : w.heap.size ≤ g10)
        have NE10 := Aside0.mk (zhj_1 : g6 ≠ g10)
        replace HP0 := Aside0.mk (pb0_below HP0.out hb)
        replace HO2 := Aside0.mk (Kd.R_below HO2.out hb)
        clear hb hbox hg; refine hK.out _ _ trivial (fun _ => ?_); clear hK K; refine nZ ?_; refine oZ 2 HT_ (fun K hK => ?_); refine goes_ Try.func37 (by kernel_rfl) rfl #[.slice A fr.length c] (by rfl) rfl rfl runZ ?_
        with_reducible refine (slices_Clone_int_int.calls _ _ fr fr _ ?side1 HC.out HCL.out).mono ?_
        (case side1 => exact HP0.out.2.2.1)
        rintro e wq24 ⟨v1, rfl, ho0, hb⟩
        refine ⟨_, rfl, ?_⟩
        have nA_ := Kd.R_newR ho0 HO2.out
        have nB_ := Aside0.mk (Kd.R_elder HO2.out ho0 hb)
        have HO1 := Aside0.mk (Kd.R_lower nA_ (below_size HP0.out.2.2.2))
        clear HO2 nA_
        have HO2 := nB_
        clear nB_
        replace HP0 := Aside0.mk (pb0_below HP0.out hb)
        replace BK10 := Aside0.mk (blk_below BK10.out hb)
        clear ho0 hb; obtain ⟨A1, c1, e1_⟩ := Kd.R_slice HO1.out; subst e1_; refine hK.out _ _ trivial (fun _ => ?_); clear hK K; refine nZ ?_; refine oZ 3 HT_ (fun K hK => ?_); refine goes_ Try.func52 (by kernel_rfl) rfl #[.slice A1 fr.length c1] (by rfl) rfl rfl runZ ?_
        with_reducible refine (slices_Clip_int.calls A1 fr.length c1 (Kd.R_reads' HO1.out).2.1 _).mono ?_
        rintro e wq25 ⟨rfl, hb⟩
        refine ⟨_, rfl, ?_⟩
        replace HP0 := Aside0.mk (pb0_below HP0.out hb)
        replace BK10 := Aside0.mk (blk_below BK10.out hb)
        replace HO1 := Aside0.mk (Kd.R_below HO1.out hb)
        replace HO2 := Aside0.mk (Kd.R_below HO2.out hb)
        clear hb; refine hK.out _ _ trivial (fun _ => ?_); clear hK K; refine nZ ?_; refine pZ 7 HT_ ?_; refine lZ 9 HT_ (fun K hK => ?_); obtain ⟨hz0, hy0, hz1, hy1, hz2, hy2⟩ := zcells BK10.out; refine skip_ (w1 := ?_) (by rfl) rfl ?_ ?_; rotate_left
        · go_simp
          rfl
        refine hK.out _ _ ?_; clear hK K; refine done_ (done_of HT_.out (by kernel_rfl)) ?_
        try go_wp2
        go_meet
        case rel => exact ⟨g10, _, _, rfl, GE10, NE10, ⟨pbI_start GE10.out NE10.out HP0.out BK10.out HO1.out HO2.out⟩⟩
    · refine box_step (by rfl) (N := 10) rfl (cs := #[.int .i64 0, .slice none 0 0, .slice none 0 0]) (t := 30) ?hr ?_
      (case hr => first | (go_simp; done) | (go_simp; rfl)); intro g10 hg wq26 hbox hb
      have BK10 := Aside0.mk hbox
      have GE10 := Aside0.mk (zhj_2 : w.heap.size ≤ g10)
      have NE10 := Aside0.mk (zhj_1 : g6 ≠ g10)
      replace HP0 := Aside0.mk (pb0_below HP0.out hb)
      clear hb hbox hg; refine hK.out _ _ trivial (fun _ => ?_); clear hK K; refine nZ ?_; refine twoZ 2 6 HT_ (fun K hK => ?_) (fun K hK => ?_)
      · refine goes_ Try.func37 (by kernel_rfl) rfl #[.slice A fr.length c] (by rfl) rfl rfl runZ ?_
        with_reducible refine (slices_Clone_int_int.calls _ _ fr fr _ ?side1 HC.out HCL.out).mono ?_
        (case side1 => exact HP0.out.2.2.1)
        rintro e wq27 ⟨v1, rfl, ho0, hb⟩
        refine ⟨_, rfl, ?_⟩
        have HO1 := Aside0.mk (Kd.R_lower ho0 (below_size HP0.out.2.2.2))
        replace HP0 := Aside0.mk (pb0_below HP0.out hb)
        replace BK10 := Aside0.mk (blk_below BK10.out hb)
        clear ho0 hb; obtain ⟨A1, c1, e1_⟩ := Kd.R_slice HO1.out; subst e1_; refine hK.out _ _ trivial (fun _ => ?_); clear hK K; refine nZ ?_; refine twoZ 3 6 HT_ (fun K hK => ?_) (fun K hK => ?_)
        · refine goes_ Try.func52 (by kernel_rfl) rfl #[.slice A1 fr.length c1] (by rfl) rfl rfl runZ ?_
          with_reducible refine (slices_Clip_int.calls A1 fr.length c1 (Kd.R_reads' HO1.out).2.1 _).mono ?_
          rintro e wq28 ⟨rfl, hb⟩
          refine ⟨_, rfl, ?_⟩
          replace HP0 := Aside0.mk (pb0_below HP0.out hb)
          replace BK10 := Aside0.mk (blk_below BK10.out hb)
          replace HO1 := Aside0.mk (Kd.R_below HO1.out hb)
          clear hb; refine hK.out _ _ trivial (fun _ => ?_); clear hK K; refine nZ ?_; refine oZ 6 HT_ (fun K hK => ?_); refine make0_step (by rfl) (N := 29) rfl fr.length (Nat.le_trans HN.out (by decide)) ?hr ?_; (case hr => have hmk := HM.out; go_simp; try rfl); intro v2 wq29 ho0 hb
          have nA_ := Kd.R_newR ho0 HO1.out
          have nB_ := Aside0.mk (Kd.R_elder HO1.out ho0 hb)
          have HO2 := Aside0.mk (Kd.R_lower nA_ (below_size HP0.out.2.2.2))
          clear HO1 nA_
          have HO1 := nB_
          clear nB_
          replace HP0 := Aside0.mk (pb0_below HP0.out hb)
          replace BK10 := Aside0.mk (blk_below BK10.out hb)
          clear ho0 hb; obtain ⟨A2, c2, e2_⟩ := Kd.R_slice HO2.out; subst e2_; refine hK.out _ _ trivial (fun _ => ?_); clear hK K; refine nZ ?_; refine pZ 7 HT_ ?_; refine lZ 9 HT_ (fun K hK => ?_); obtain ⟨hz0, hy0, hz1, hy1, hz2, hy2⟩ := zcells BK10.out; refine skip_ (w1 := ?_) (by rfl) rfl ?_ ?_; rotate_left
          · go_simp
            rfl
          refine hK.out _ _ ?_; clear hK K; refine done_ (done_of HT_.out (by kernel_rfl)) ?_
          try go_wp2
          go_meet
          case rel => exact ⟨g10, _, _, rfl, GE10, NE10, ⟨pbI_start GE10.out NE10.out HP0.out BK10.out HO1.out HO2.out⟩⟩
        · refine make0_step (by rfl) (N := 29) rfl fr.length (Nat.le_trans HN.out (by decide)) ?hr ?_
          (case hr => have hmk := HM.out; go_simp; try rfl); intro v2 wq30 ho0 hb
          have nA_ := Kd.R_newR ho0 HO1.out
          have nB_ := Aside0.mk (Kd.R_elder HO1.out ho0 hb)
          have HO2 := Aside0.mk (Kd.R_lower nA_ (below_size HP0.out.2.2.2))
          clear HO1 nA_
          have HO1 := nB_
          clear nB_
          replace HP0 := Aside0.mk (pb0_below HP0.out hb)
          replace BK10 := Aside0.mk (blk_below BK10.out hb)
          clear ho0 hb; obtain ⟨A2, c2, e2_⟩ := Kd.R_slice HO2.out; subst e2_; refine hK.out _ _ trivial (fun _ => ?_); clear hK K; refine nZ ?_; refine oZ 3 HT_ (fun K hK => ?_); refine goes_ Try.func52 (by kernel_rfl) rfl #[.slice A1 fr.length c1] (by rfl) rfl rfl runZ ?_
          with_reducible refine (slices_Clip_int.calls A1 fr.length c1 (Kd.R_reads' HO1.out).2.1 _).mono ?_
          rintro e wq31 ⟨rfl, hb⟩
          refine ⟨_, rfl, ?_⟩
          replace HP0 := Aside0.mk (pb0_below HP0.out hb)
          replace BK10 := Aside0.mk (blk_below BK10.out hb)
          replace HO1 := Aside0.mk (Kd.R_below HO1.out hb)
          replace HO2 := Aside0.mk (Kd.R_below HO2.out hb)
          clear hb; refine hK.out _ _ trivial (fun _ => ?_); clear hK K; refine nZ ?_; refine pZ 7 HT_ ?_; refine lZ 9 HT_ (fun K hK => ?_); obtain ⟨hz0, hy0, hz1, hy1, hz2, hy2⟩ := zcells BK10.out; refine skip_ (w1 := ?_) (by rfl) rfl ?_ ?_; rotate_left
          · go_simp
            rfl
          refine hK.out _ _ ?_; clear hK K; refine done_ (done_of HT_.out (by kernel_rfl)) ?_
          try go_wp2
          go_meet
          case rel => exact ⟨g10, _, _, rfl, GE10, NE10, ⟨pbI_start GE10.out NE10.out HP0.out BK10.out HO1.out HO2.out⟩⟩
      · refine make0_step (by rfl) (N := 29) rfl fr.length (Nat.le_trans HN.out (by decide)) ?hr ?_
        (case hr => have hmk := HM.out; go_simp; try rfl); intro v2 wq32 ho0 hb
        have HO2 := Aside0.mk (Kd.R_lower ho0 (below_size HP0.out.2.2.2))
        replace HP0 := Aside0.mk (pb0_below HP0.out hb)
        replace BK10 := Aside0.mk (blk_below BK10.out hb)
        clear ho0 hb; obtain ⟨A2, c2, e2_⟩ := Kd.R_slice HO2.out; subst e2_; refine hK.out _ _ trivial (fun _ => ?_); clear hK K; refine nZ ?_; refine oZ 2 HT_ (fun K hK => ?_); refine goes_ Try.func37 (by kernel_rfl) rfl #[.slice A fr.length c] (by rfl) rfl rfl runZ ?_
        with_reducible refine (slices_Clone_int_int.calls _ _ fr fr _ ?side1 HC.out HCL.out).mono ?_
        (case side1 => exact HP0.out.2.2.1)
        rintro e wq33 ⟨v1, rfl, ho0, hb⟩
        refine ⟨_, rfl, ?_⟩
        have nA_ := Kd.R_newR ho0 HO2.out
        have nB_ := Aside0.mk (Kd.R_elder HO2.out ho0 hb)
        have HO1 := Aside0.mk (Kd.R_lower nA_ (below_size HP0.out.2.2.2))
        clear HO2 nA_
        have HO2 := nB_
        clear nB_
        replace HP0 := Aside0.mk (pb0_below HP0.out hb)
        replace BK10 := Aside0.mk (blk_below BK10.out hb)
        clear ho0 hb; obtain ⟨A1, c1, e1_⟩ := Kd.R_slice HO1.out; subst e1_; refine hK.out _ _ trivial (fun _ => ?_); clear hK K; refine nZ ?_; refine oZ 3 HT_ (fun K hK => ?_); refine goes_ Try.func52 (by kernel_rfl) rfl #[.slice A1 fr.length c1] (by rfl) rfl rfl runZ ?_
        with_reducible refine (slices_Clip_int.calls A1 fr.length c1 (Kd.R_reads' HO1.out).2.1 _).mono ?_
        rintro e wq34 ⟨rfl, hb⟩
        refine ⟨_, rfl, ?_⟩
        replace HP0 := Aside0.mk (pb0_below HP0.out hb)
        replace BK10 := Aside0.mk (blk_below BK10.out hb)
        replace HO1 := Aside0.mk (Kd.R_below HO1.out hb)
        replace HO2 := Aside0.mk (Kd.R_below HO2.out hb)
        clear hb; refine hK.out _ _ trivial (fun _ => ?_); clear hK K; refine nZ ?_; refine pZ 7 HT_ ?_; refine lZ 9 HT_ (fun K hK => ?_); obtain ⟨hz0, hy0, hz1, hy1, hz2, hy2⟩ := zcells BK10.out; refine skip_ (w1 := ?_) (by rfl) rfl ?_ ?_; rotate_left
        · go_simp
          rfl
        refine hK.out _ _ ?_; clear hK K; refine done_ (done_of HT_.out (by kernel_rfl)) ?_
        try go_wp2
        go_meet
        case rel => exact ⟨g10, _, _, rfl, GE10, NE10, ⟨pbI_start GE10.out NE10.out HP0.out BK10.out HO1.out HO2.out⟩⟩
  case rest =>
    obtain ⟨g10, v1, v2, rfl, HG10, HNE, HI⟩ := hcut; clear HP0
    have hu68 := Try.underlying68
    go_wp2_with fail
    go_loopg [33] fr.length (fun kq v33 w' => ∃ (i : Nat) (v2 : Value), v33 = .int .i64 (i : Int) ∧ Aside0 (i + kq = fr.length) ∧ Aside0 (PbI w g6 g8 g10 #[.int .i64 b1, .int .i64 b2, .int .i64 b3, .int .i64 b4, .int .i64 b5, .int .i64 b6, .int .i64 b7, .int .i64 b8] lost v1 v2 fr (impl_planBy.bys i b1 b2 b3 b4 b5 b6 b7 b8) w'))
    case atStart => exact ⟨0, v2, rfl, ⟨by omega⟩, ⟨(by (with_reducible repeat (first | apply pbI_drew | refine pbI_alloc ?_ _)); exact HI.out)⟩⟩
    case round =>
      clear HI v2; obtain ⟨i, v2, rfl, HK, HI⟩ := hrel
      cases gk with
      | zero =>
        obtain rfl : i = fr.length := by have := HK.out; omega
        have e0 : decide ((fr.length : Int) < (fr.length : Int)) = false := by simp
        clear HK
        go_wp2
        cases ok with
        | true =>
          have nI_ := Aside0.mk (pbI_drew HI.out)
          clear HI
          have HI := nI_
          clear nI_; obtain ⟨A1, c1, e1_⟩ := Kd.R_slice HI.out.2.2.2.1; subst e1_; obtain ⟨A2, c2, e2_⟩ := Kd.R_slice HI.out.2.2.2.2.1; subst e2_; refine start_ (n := 8) (S := fun w' => w'.cell? ⟨g10, 0, none⟩ = some (.int .i64 lost) ∧ w'.cell? ⟨g10, 1, none⟩ = some (.slice A1 fr.length fr.length) ∧ w'.cell? ⟨g10, 2, none⟩ = some (.slice A2 (impl_planBy.bys fr.length b1 b2 b3 b4 b5 b6 b7 b8).length c2)) (ds := [6]) #[false, false, false, false, false, false, false, false] (by kernel_rfl) rfl rfl ⟨(blk_cell HI.out.2.2.1 0).trans rfl, (blk_cell HI.out.2.2.1 1).trans rfl, (blk_cell HI.out.2.2.1 2).trans rfl⟩ (fun hHeld => ?_); refine with_tabW impl_planBy.tab8 impl_planBy.bits8 (fun HT_ HW_ => ?_); generalize World.drew _ = wz at HI hHeld ⊢; refine pZ 1 HT_ ?_; refine pZ 2 HT_ ?_; refine tZ 0 hHeld HT_ HW_ ?_; refine tZ 3 hHeld HT_ HW_ ?_; refine oZ 4 HT_ (fun K hK => ?_); refine goes_ Try.func31 (by kernel_rfl) rfl #[.agg #[.int .i64 lost, .slice A1 fr.length fr.length, .slice A2 (impl_planBy.bys fr.length b1 b2 b3 b4 b5 b6 b7 b8).length c2]] (by rfl) rfl rfl runZ ?_
          with_reducible refine (impl_Plan_formed.calls k lost _ _ fr _ _ (impl_planBy.bys fr.length b1 b2 b3 b4 b5 b6 b7 b8) fm _ ?side1 ?side2 ?side3 ?side4 (E5.out rfl)).mono ?_
          (case side1 => exact (Kd.R_reads' HI.out.2.2.2.1).2.2); (case side2 => exact Nat.le_refl _); (case side3 => exact (Kd.R_reads' HI.out.2.2.2.2.1).2.2); (case side4 => exact (Kd.R_reads' HI.out.2.2.2.2.1).2.1)
          rintro e wy ⟨rfl, hb⟩
          refine ⟨_, rfl, ?_⟩
          have nI_ := Aside0.mk (pbI_below HI.out hb)
          clear HI hb
          have HI := nI_
          clear nI_; refine hK.out _ _ ⟨(blk_cell HI.out.2.2.1 0).trans rfl, (blk_cell HI.out.2.2.1 1).trans rfl, (blk_cell HI.out.2.2.1 2).trans rfl⟩ (fun hHeld => ?_); clear hK K; refine nZ ?_; refine pZ 5 HT_ ?_; refine lZ 6 HT_ (fun K hK => ?_); obtain ⟨hz0, hy0, hz1, hy1, hz2, hy2⟩ := zcells HI.out.1; refine skip_ (w1 := ?_) (by rfl) rfl ?_ ?_; rotate_left
          · go_simp
            rfl
          refine hK.out _ _ ?_; clear hK K; refine pZ 7 HT_ ?_; refine done_ (done_of HT_.out (by kernel_rfl)) ?_
          try go_wp2
          refine bodyPost_ret (results_ct rfl _ _ g6 30 #[.int .i64 lost, .slice A1 fr.length fr.length, .slice A2 (impl_planBy.bys fr.length b1 b2 b3 b4 b5 b6 b7 b8).length c2] (0, 0) _ rfl (blk_put (cs := #[.int .i64 lost, .slice A1 fr.length fr.length, .slice none 0 0]) (blk_put (cs := #[.int .i64 lost, .slice none 0 0, .slice none 0 0]) (blk_put (cs := #[.int .i64 0, .slice none 0 0, .slice none 0 0]) HI.out.1 0 _ rfl) 1 _ rfl) 2 _ rfl) Try.underlying30 rfl (by kernel_rfl)) rfl ?_
          have hd_ := pbI_done GE6.out HI.out (.int .i64 lost) (.slice A1 fr.length fr.length) (.slice A2 (impl_planBy.bys fr.length b1 b2 b3 b4 b5 b6 b7 b8).length c2)
          exact ⟨.slice A1 fr.length c1, _, rfl, hd_.1, hd_.2.1, hd_.2.2⟩
        | false =>
          have nI_ := Aside0.mk (pbI_drew HI.out)
          clear HI
          have HI := nI_
          clear nI_; obtain ⟨A1, c1, e1_⟩ := Kd.R_slice HI.out.2.2.2.1; subst e1_; obtain ⟨A2, c2, e2_⟩ := Kd.R_slice HI.out.2.2.2.2.1; subst e2_; refine start_ (n := 8) (S := fun w' => w'.cell? ⟨g10, 0, none⟩ = some (.int .i64 lost) ∧ w'.cell? ⟨g10, 1, none⟩ = some (.slice A1 fr.length fr.length) ∧ w'.cell? ⟨g10, 2, none⟩ = some (.slice A2 (impl_planBy.bys fr.length b1 b2 b3 b4 b5 b6 b7 b8).length c2)) (ds := [6]) #[false, false, false, false, false, false, false, false] (by kernel_rfl) rfl rfl ⟨(blk_cell HI.out.2.2.1 0).trans rfl, (blk_cell HI.out.2.2.1 1).trans rfl, (blk_cell HI.out.2.2.1 2).trans rfl⟩ (fun hHeld => ?_); refine with_tabW impl_planBy.tab8 impl_planBy.bits8 (fun HT_ HW_ => ?_); generalize World.drew _ = wz at HI hHeld ⊢; refine pZ 1 HT_ ?_; refine pZ 2 HT_ ?_; refine pure_ (i := 3) (N := some 48) (v := undef) (a' := ?_) #[false, true, true, true, false, false, false, false] rfl rfl (any_of HT_.out (by kernel_rfl)) (fun _ _ _ h => h) (Or.inr ⟨by rfl, rfl⟩) ?_ ?_; rotate_left
          · simp only [Act.put, List.setIfInBounds_toArray, List.set_cons_zero, List.set_cons_succ, i64_w, i32_w]
            rfl
          refine pure_ (i := 4) (N := some 49) (v := undef) (a' := ?_) #[false, true, true, true, true, false, false, false] rfl rfl (any_of HT_.out (by kernel_rfl)) (fun _ _ _ h => h) (Or.inr ⟨by rfl, rfl⟩) ?_ ?_; rotate_left
          · simp only [Act.put, List.setIfInBounds_toArray, List.set_cons_zero, List.set_cons_succ, i64_w, i32_w]
            rfl
          refine pZ 5 HT_ ?_; refine tZ 0 hHeld HT_ HW_ ?_; refine lZ 6 HT_ (fun K hK => ?_); obtain ⟨hz0, hy0, hz1, hy1, hz2, hy2⟩ := zcells HI.out.1; refine skip_ (w1 := ?_) (by rfl) rfl ?_ ?_; rotate_left
          · go_simp
            rfl
          refine hK.out _ _ ?_; clear hK K; refine pZ 7 HT_ ?_; refine done_ (done_of HT_.out (by kernel_rfl)) ?_
          try go_wp2
          refine bodyPost_ret (results_ct rfl _ _ g6 30 #[.int .i64 lost, .slice A1 fr.length fr.length, .slice A2 (impl_planBy.bys fr.length b1 b2 b3 b4 b5 b6 b7 b8).length c2] (0, 0) _ rfl (blk_put (cs := #[.int .i64 lost, .slice A1 fr.length fr.length, .slice none 0 0]) (blk_put (cs := #[.int .i64 lost, .slice none 0 0, .slice none 0 0]) (blk_put (cs := #[.int .i64 0, .slice none 0 0, .slice none 0 0]) HI.out.1 0 _ rfl) 1 _ rfl) 2 _ rfl) Try.underlying30 rfl (by kernel_rfl)) rfl ?_
          have hd_ := pbI_done GE6.out HI.out (.int .i64 lost) (.slice A1 fr.length fr.length) (.slice A2 (impl_planBy.bys fr.length b1 b2 b3 b4 b5 b6 b7 b8).length c2)
          exact ⟨.slice A1 fr.length c1, _, rfl, hd_.1, hd_.2.1, hd_.2.2⟩
      | succ k1 =>
        have hi : i < fr.length := by have := HK.out; omega
        have hi8 : i < 8 := by have := HN.out; omega
        have e1 : decide ((i : Int) < (fr.length : Int)) = true := decide_eq_true (by omega); have e2 : decide (i < fr.length) = true := decide_eq_true hi
        have HI8 := Aside0.mk hi8
        have HIF := Aside0.mk hi
        have hx : ∀ W, (Instr.indexAt 68 (.pointer (some ⟨g8, 0, none⟩)) (.int .i64 (i : Int))).run Try.prog W = .ok (.pointer (some ⟨g8, i, none⟩)) W := eight_place g8 hi8
        clear hi hi8; obtain ⟨A2, c2, e2_⟩ := Kd.R_slice HI.out.2.2.2.2.1; subst e2_
        go_wp2
        have nI_ := Aside0.mk (pbI_drew HI.out)
        clear HI
        have HI := nI_
        clear nI_; refine start_ (n := 9) (S := fun w' => w'.cell? ⟨g10, 2, none⟩ = some (.slice A2 (impl_planBy.bys i b1 b2 b3 b4 b5 b6 b7 b8).length c2) ∧ w'.cell? ⟨g8, i, none⟩ = some (.int .i64 (impl_planBy.num i b1 b2 b3 b4 b5 b6 b7 b8))) (ds := [8]) #[false, false, false, false, false, false, false, false, false] (by kernel_rfl) rfl rfl ⟨(blk_cell HI.out.2.2.1 2).trans rfl, eight_cell HI8.out HI.out.2.1⟩ (fun hHeld => ?_); refine with_tabW impl_planBy.tab6 impl_planBy.bits6 (fun HT_ HW_ => ?_); generalize World.drew _ = wz at HI hHeld ⊢; refine pZ 0 HT_ ?_; refine pZ 2 HT_ ?_; refine pZ 3 HT_ ?_; refine tZ 1 hHeld HT_ HW_ ?_; refine tZ 4 hHeld HT_ HW_ ?_; refine oZ 5 HT_ (fun K hK => ?_); refine value_ (w1 := ?_) (v := ?_) (by rfl) rfl ?_ ?_; rotate_left 2
        · go_simp
          constructor
          · rfl
          · rfl
        refine hK.out _ _ ⟨(blk_cell (blk_alloc HI.out.2.2.1 _) 2).trans rfl, eight_cell HI8.out (blk_alloc HI.out.2.1 _)⟩ (fun hHeld => ?_); clear hK K; refine nZ ?_; refine oZ 6 HT_ (fun K hK => ?_); refine Kd.R_append_step (Kd.int .i64) (w0 := w) w.heap.size (by rfl) (.tmp 37) (.tmp 41) 28 3 (.int .i64 0) 8 rfl Try.underlying28 info3 rfl (by decide) (by omega) (.slice A2 (impl_planBy.bys i b1 b2 b3 b4 b5 b6 b7 b8).length c2) (impl_planBy.bys i b1 b2 b3 b4 b5 b6 b7 b8) (impl_planBy.num i b1 b2 b3 b4 b5 b6 b7 b8) [.int .i64 (impl_planBy.num i b1 b2 b3 b4 b5 b6 b7 b8)] (fun k_ => some k_ ≠ v1.ownBlock) (fun _ => False) rfl rfl rfl (fun _ hk => hk.elim) ?aF ?aO ?aB ?aS ?aL ?_; (case aB => exact HI.out.2.2.2.2.2); (case aF => exact Kd.fresh' (Kd.R_lt HI.out.2.2.2.1)); (case aO => exact HI.out.2.2.2.2.1); (case aS => exact below_size HI.out.2.2.2.2.2); (case aL => have := @bys_len b1 b2 b3 b4 b5 b6 b7 b8 i; omega); intro v2' wy ho hb hg hat
        have HA := Aside0.mk (pbI_append HG10.out HNE.out HI.out ho hb hg hat)
        rw [take_more HI8.out] at HA; clear ho hb hg hat HI; obtain ⟨A3, c3, e3_⟩ := Kd.R_slice HA.out.2.2.2.2.2.2.2.1; subst e3_; refine hK.out _ _ ⟨(blk_cell HA.out.2.2.1 2).trans rfl, eight_cell HI8.out HA.out.2.1⟩ (fun hHeld => ?_); clear hK K; refine nZ ?_; refine pZ 7 HT_ ?_; refine lZ 8 HT_ (fun K hK => ?_); have hs : wy.cell? ⟨g10, 2, none⟩ = some (.slice A2 (impl_planBy.bys i b1 b2 b3 b4 b5 b6 b7 b8).length c2) := (blk_cell HA.out.2.2.1 2).trans rfl
        have hfs := blk_frozen HA.out.2.2.1 2
        refine skip_ (w1 := ?_) (by rfl) rfl ?_ ?_; rotate_left
        · go_simp
          rfl
        refine hK.out _ _ ?_; clear hK K; refine done_ (done_of HT_.out (by kernel_rfl)) ?_
        try go_wp2
        go_roundg k1
        case measure => omega
        case rel => exact ⟨i + 1, _, (by have := HI8.out; first | rfl | (simp; unfold wrap64; omega) | (congr 1; omega)), ⟨by have := HK.out; omega⟩, ⟨HA.out.2.2.2⟩⟩
/-- the numbers of a plan, and whether it is one -/
def impl_planBy.f (k : Nat) (a0 a1 : Int) (l2 : List Int) : Option (List Int × Bool) :=
  if l2.length ≤ 8 then (impl_rowsOf.f k a0 l2).bind fun rows => (impl_spanOf.f k rows).bind fun sp => (impl_rowOf.f a0 a1).bind fun z => (impl_span_by.f k sp.1 sp.2 z.1 z.2.1 z.2.2.1 z.2.2.2).bind fun b =>
    if b.2.2.2.2.2.2.2.2 = true then (impl_Plan_formed.f k a1 l2 (impl_planBy.bys l2.length b.1 b.2.1 b.2.2.1 b.2.2.2.1 b.2.2.2.2.1 b.2.2.2.2.2.1 b.2.2.2.2.2.2.1 b.2.2.2.2.2.2.2.1)).bind fun t => some (impl_planBy.bys l2.length b.1 b.2.1 b.2.2.1 b.2.2.2.1 b.2.2.2.2.1 b.2.2.2.2.2.1 b.2.2.2.2.2.2.1 b.2.2.2.2.2.2.2.1, t)
    else some (impl_planBy.bys l2.length b.1 b.2.1 b.2.2.1 b.2.2.2.1 b.2.2.2.2.1 b.2.2.2.2.2.1 b.2.2.2.2.2.2.1 b.2.2.2.2.2.2.2.1, false)
  else none
theorem impl_planBy.calls (k : Nat) (kind lost : Int) (A : Option Addr) (c : Nat) (fr bs : List Int) (r : Bool) (w : World) (hr : Kd.C (Kd.int .i64) w A fr.length fr) (hc : fr.length ≤ c) (h : impl_planBy.f k kind lost fr = some (bs, r)) :
  Calls Try.prog 41 #[.int .i64 kind, .int .i64 lost, .slice A fr.length c] w fun e w' => ∃ v1 v2 : Value, e = .returned (.tuple #[.agg #[.int .i64 lost, clip v1, v2], .bool r]) ∧ Kd.R (Kd.int .i64) 3 w' w.heap.size (fun k_ => some k_ ≠ v2.ownBlock) v1 fr ∧ Kd.R (Kd.int .i64) 3 w' w.heap.size (fun k_ => some k_ ≠ v1.ownBlock) v2 bs ∧ Below w.heap.size w w' := by
 unfold impl_planBy.f at h
 split at h
 ·rename_i hn
  obtain ⟨rows, e1, h⟩ := Option.bind_eq_some_iff.1 h; obtain ⟨⟨ks, ps⟩, e2, h⟩ := Option.bind_eq_some_iff.1 h; obtain ⟨⟨z1, z2, z3, z4⟩, e3, h⟩ := Option.bind_eq_some_iff.1 h; obtain ⟨⟨b1, b2, b3, b4, b5, b6, b7, b8, ok⟩, e4, h⟩ := Option.bind_eq_some_iff.1 h
  cases ok with
  | true =>
   rw [if_pos rfl] at h; obtain ⟨t, e5, h⟩ := Option.bind_eq_some_iff.1 h; simp only [Option.some.injEq, Prod.mk.injEq] at h; obtain ⟨rfl, rfl⟩ := h; exact impl_planBy.callsG k kind lost A c fr rows ks ps z1 z2 z3 z4 b1 b2 b3 b4 b5 b6 b7 b8 true t w hr hc hn e1 e2 e3 e4 (fun _ => e5)
  | false =>
   rw [if_neg (by simp)] at h; simp only [Option.some.injEq, Prod.mk.injEq] at h; obtain ⟨rfl, rfl⟩ := h; exact impl_planBy.callsG k kind lost A c fr rows ks ps z1 z2 z3 z4 b1 b2 b3 b4 b5 b6 b7 b8 false false w hr hc hn e1 e2 e3 e4 (fun h => by cases h)
 ·cases h
end Go.Proofs.Ytfgpffocieegdaa.PA
