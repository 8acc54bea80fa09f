import Derived.Test.YtfgpffocieegdaaPAx0
import Derived.Test.YtfgpffocieegdaaHj
import Derived.Test.YtfgpffocieegdaaHd
import Derived.Test.YtfgpffocieegdaaHq
/- impl.planOf: its contract, by hand; whatever impl.planBy tells of the sets. -/
set_option linter.unusedVariables false
set_option linter.unusedSimpArgs false
namespace Go.Proofs.Ytfgpffocieegdaa.PA
open Go.RowKit Go.Proofs.Ytfgpffocieegdaa.PA Go.Proofs.YtfgpffocieegdaaW.PrintWords Go.Proofs.YtfgpffocieegdaaW.PrintLast Go.Proofs.YtfgpffocieegdaaW.PrintMore

/-- What impl.planBy is asked to answer at a set. -/
def PlanTells (kind lost : Int) (xs bs : List Int) (r : Bool) : Prop := ∀ (A : Option Addr) (c : Nat) (w : World), Kd.C (Kd.int .i64) w A xs.length xs → xs.length ≤ c →
    Calls Try.prog 41 #[.int .i64 kind, .int .i64 lost, .slice A xs.length c] w fun e w' => ∃ v1 v2 : Value, e = .returned (.tuple #[.agg #[.int .i64 lost, clip v1, v2], .bool r]) ∧ Kd.R (Kd.int .i64) 3 w' w.heap.size (fun k_ => some k_ ≠ v2.ownBlock) v1 xs ∧ Kd.R (Kd.int .i64) 3 w' w.heap.size (fun k_ => some k_ ≠ v1.ownBlock) v2 bs ∧ Below w.heap.size w w'
/-- the best plan's variable holds a plan -/
def Best (base bb : Nat) (lost : Int) (xs bs : List Int) (W : World) : Prop := ∃ v1 v2 : Value, W.heap[bb]? = some (.cells #[.int .i64 lost, clip v1, v2] 30 (0, 0)) ∧ Kd.R (Kd.int .i64) 3 W base (fun k_ => some k_ ≠ v2.ownBlock) v1 xs ∧ Kd.R (Kd.int .i64) 3 W base (fun k_ => some k_ ≠ v1.ownBlock) v2 bs
theorem best_below {base bb : Nat} {lost : Int} {xs bs : List Int} {W W' : World} (h : Best base bb lost xs bs W) (hb : Below W.heap.size W W') : Best base bb lost xs bs W' := by
  obtain ⟨v1, v2, h1, h2, h3⟩ := h; exact ⟨v1, v2, blk_below h1 hb, Kd.R_below h2 hb, Kd.R_below h3 hb⟩
theorem best_lower {base base' bb : Nat} {lost : Int} {xs bs : List Int} {W : World} (h : Best base bb lost xs bs W) (hb : base' ≤ base) : Best base' bb lost xs bs W := by
  obtain ⟨v1, v2, h1, h2, h3⟩ := h; exact ⟨v1, v2, h1, Kd.R_lower h2 hb, Kd.R_lower h3 hb⟩
theorem grown_below {w W : World} {row : Option Nat} (h : Below w.heap.size w W) : w.grownBy W row := ⟨h.os, h.tape, h.output, h.size, fun k hk _ => h.block k hk⟩
theorem best_set {w W : World} {bb : Nat} {lost : Int} {u0 u1 u2 v1 v2 : Value} {xs bs : List Int} (hlt : bb < w.heap.size) (hbb : W.heap[bb]? = some (.cells #[u0, u1, u2] 30 (0, 0)))
    (h1 : Kd.R (Kd.int .i64) 3 W w.heap.size (fun k_ => some k_ ≠ v2.ownBlock) v1 xs) (h2 : Kd.R (Kd.int .i64) 3 W w.heap.size (fun k_ => some k_ ≠ v1.ownBlock) v2 bs) (hB : Below w.heap.size w W) :
    Best w.heap.size bb lost xs bs (((W.setCell ⟨bb, 0, none⟩ (.int .i64 lost)).setCell ⟨bb, 1, none⟩ (clip v1)).setCell ⟨bb, 2, none⟩ v2) ∧ w.grownBy (((W.setCell ⟨bb, 0, none⟩ (.int .i64 lost)).setCell ⟨bb, 1, none⟩ (clip v1)).setCell ⟨bb, 2, none⟩ v2) (some bb) := by
  refine ⟨⟨v1, v2, blk_put (cs := #[.int .i64 lost, clip v1, u2]) (blk_put (cs := #[.int .i64 lost, u1, u2]) (blk_put (cs := #[u0, u1, u2]) hbb 0 _ rfl) 1 _ rfl) 2 _ rfl, ?_, ?_⟩, ?_⟩
  · exact Kd.R_mono (Kd.R_far (p := ⟨bb, 2, none⟩) (Kd.R_far (p := ⟨bb, 1, none⟩) (Kd.R_far (p := ⟨bb, 0, none⟩) (Kd.R_types h1 hbb (by decide)) (fun _ h => h.2) _) (fun _ h => h.2) _) (fun _ h => h.2) _) (fun _ h => h.1)
  · exact Kd.R_mono (Kd.R_far (p := ⟨bb, 2, none⟩) (Kd.R_far (p := ⟨bb, 1, none⟩) (Kd.R_far (p := ⟨bb, 0, none⟩) (Kd.R_types h2 hbb (by decide)) (fun _ h => h.2) _) (fun _ h => h.2) _) (fun _ h => h.2) _) (fun _ h => h.1)
  · have s : ∀ (V : World) (j : Nat) (u : Value), w.grownBy V (some bb) → w.grownBy (V.setCell ⟨bb, j, none⟩ u) (some bb) := fun V j u h =>
      ⟨h.os, h.tape, h.output, by rw [World.size_setCell]; exact h.size, fun k hk hne => (Below.heap_setCell V ⟨bb, j, none⟩ u k (fun e => hne (by rw [e]))).trans (h.block k hk hne)⟩
    exact s _ _ _ (s _ _ _ (s _ _ _ (grown_below hB)))
set_option maxHeartbeats 4000000 in
set_option maxRecDepth 100000 in
theorem impl_planOf_2.calls (kind lost : Int) (bk bl bb : Nat) (u0 u1 u2 : Value) (A : Option Addr) (c : Nat) (xs bs : List Int) (r : Bool) (w : World) (hP : PlanTells kind lost xs bs r) (hbk : w.heap[bk]? = some (.cells #[.int .i64 kind] 3 (0, 0))) (hbl : w.heap[bl]? = some (.cells #[.int .i64 lost] 3 (0, 0))) (hbb : w.heap[bb]? = some (.cells #[u0, u1, u2] 30 (0, 0))) (hr : Kd.C (Kd.int .i64) w A xs.length xs) (hc : xs.length ≤ c) :
  Calls Try.prog 40 #[.slice A xs.length c, .pointer (some ⟨bk, 0, none⟩), .pointer (some ⟨bl, 0, none⟩), .pointer (some ⟨bb, 0, none⟩)] w fun e w' => e = .returned (.bool r) ∧ w.grownBy w' (some bb) ∧ (if r = true then Best w.heap.size bb lost xs bs w' else Below w.heap.size w w') := by
 have ck := cell_of_one hbk
 have cl := cell_of_one hbl
 have hu30 := Try.underlying30
 have BB := Aside0.mk hbb
 have HLT := Aside0.mk (blk_lt hbb)
 have HP := Aside0.mk (hP A c w hr hc)
 clear hP hr hc hbk hbl hbb
 cases r with
 | true =>
  go_enter Try.func40, Try.ntmps40
  go_wp2_with (first | (go_at_call 41; refine HP.out.mono ?_; rintro e w1 ⟨v1, v2, rfl, ho1, ho2, hb⟩; have BB1 := Aside0.mk (blk_below BB.out hb); obtain ⟨A1, c1, e1_⟩ := Kd.R_slice ho1; subst e1_; obtain ⟨A2, c2, e2_⟩ := Kd.R_slice ho2; subst e2_; have HO1 := Aside0.mk ho1; have HO2 := Aside0.mk ho2; have HB1 := Aside0.mk hb; clear ho1 ho2 hb BB HP; (try simp only [clip_slice])) | ((with_reducible refine gate_dst (N := 6) rfl ?_); refine box_event ?hg (N := 6) ?hd (cs := #[.int .i64 0, .slice none 0 0, .slice none 0 0]) (t := 30) ?hr ?_; (case hd => rfl); (case hg => rfl); (case hr => first | (go_simp; done) | (go_simp; rfl)); intro g6 hg w2 hbox hb; have GE6 := Aside0.mk ((by rw [hg]; exact HB1.out.size) : w.heap.size ≤ g6); have NE6 : Aside0 (bb ≠ g6) := ⟨by rw [hg]; exact Nat.ne_of_lt (blk_lt BB1.out)⟩; have BB2 := Aside0.mk (blk_below BB1.out hb); have nO1 := Aside0.mk (Kd.R_below HO1.out hb); have nO2 := Aside0.mk (Kd.R_below HO2.out hb); have HB2 := Aside0.mk (below_step HB1.out hb); have BK6 := Aside0.mk hbox; clear HO1 HO2 hb hbox hg BB1 HB1; have HO1 := nO1; have HO2 := nO2; clear nO1 nO2; have hz0 : w2.cell? ⟨g6, 0, none⟩ = some (.int .i64 0) := (blk_cell BK6.out 0).trans rfl; have hy0 := blk_frozen BK6.out 0; have hz1 : w2.cell? ⟨g6, 1, none⟩ = some (.slice none 0 0) := (blk_cell BK6.out 1).trans rfl; have hy1 := blk_frozen BK6.out 1; have hz2 : w2.cell? ⟨g6, 2, none⟩ = some (.slice none 0 0) := (blk_cell BK6.out 2).trans rfl; have hy2 := blk_frozen BK6.out 2) | ((with_reducible refine gate_store (t := 30) (p := 6) rfl ?_); refine store_event (t := 30) (p := 6) (v := ?vo) (w1 := (((w2.setCell ⟨g6, 0, none⟩ (.int .i64 lost)).setCell ⟨g6, 1, none⟩ (.slice A1 xs.length xs.length)).setCell ⟨g6, 2, none⟩ (.slice A2 bs.length c2))) ?hg ?ho ?hn ?hr ?_; (case ho => rfl); (case hg => rfl); (case hn => rfl); (case hr => first | (go_simp; done) | (go_simp; rfl)); intro w3 hw; have BK := Aside0.mk (show w3.heap[g6]? = some (.cells #[.int .i64 lost, .slice A1 xs.length xs.length, .slice A2 bs.length c2] 30 (0, 0)) by rw [hw]; exact blk_put (cs := #[.int .i64 lost, .slice A1 xs.length xs.length, .slice none 0 0]) (blk_put (cs := #[.int .i64 lost, .slice none 0 0, .slice none 0 0]) (blk_put (cs := #[.int .i64 0, .slice none 0 0, .slice none 0 0]) BK6.out 0 _ rfl) 1 _ rfl) 2 _ rfl); have BB3 := Aside0.mk (show w3.heap[bb]? = some (.cells #[u0, u1, u2] 30 (0, 0)) by rw [hw]; exact blk_far (blk_far (blk_far BB2.out NE6.out _) NE6.out _) NE6.out _); have HB3 := Aside0.mk (show Below w.heap.size w w3 by rw [hw]; exact below_set (below_set (below_set HB2.out GE6.out) GE6.out) GE6.out); have nO1 := Aside0.mk (show Kd.R (Kd.int .i64) 3 w3 w.heap.size (fun k_ => some k_ ≠ (Value.slice A2 bs.length c2).ownBlock) (.slice A1 xs.length c1) xs by rw [hw]; exact Kd.R_mono (Kd.R_far (p := ⟨g6, 2, none⟩) (Kd.R_far (p := ⟨g6, 1, none⟩) (Kd.R_far (p := ⟨g6, 0, none⟩) (Kd.R_types HO1.out BK6.out (by decide)) (fun _ h => h.2) _) (fun _ h => h.2) _) (fun _ h => h.2) _) (fun _ h => h.1)); have nO2 := Aside0.mk (show Kd.R (Kd.int .i64) 3 w3 w.heap.size (fun k_ => some k_ ≠ (Value.slice A1 xs.length c1).ownBlock) (.slice A2 bs.length c2) bs by rw [hw]; exact Kd.R_mono (Kd.R_far (p := ⟨g6, 2, none⟩) (Kd.R_far (p := ⟨g6, 1, none⟩) (Kd.R_far (p := ⟨g6, 0, none⟩) (Kd.R_types HO2.out BK6.out (by decide)) (fun _ h => h.2) _) (fun _ h => h.2) _) (fun _ h => h.2) _) (fun _ h => h.1)); clear HO1 HO2 hw hz0 hz1 hz2 hy0 hy1 hy2 BB2 HB2 BK6; have HO1 := nO1; have HO2 := nO2; clear nO1 nO2; have hz0 : w3.cell? ⟨g6, 0, none⟩ = some (.int .i64 lost) := (blk_cell BK.out 0).trans rfl; have hz1 : w3.cell? ⟨g6, 1, none⟩ = some (.slice A1 xs.length xs.length) := (blk_cell BK.out 1).trans rfl; have hz2 : w3.cell? ⟨g6, 2, none⟩ = some (.slice A2 bs.length c2) := (blk_cell BK.out 2).trans rfl; have hb0 : w3.cell? ⟨bb, 0, none⟩ = some u0 := (blk_cell BB3.out 0).trans rfl; have hb1 : w3.cell? ⟨bb, 1, none⟩ = some u1 := (blk_cell BB3.out 1).trans rfl; have hb2 : w3.cell? ⟨bb, 2, none⟩ = some u2 := (blk_cell BB3.out 2).trans rfl; have hf0 := blk_frozen BB3.out 0; have hf1 := blk_frozen BB3.out 1; have hf2 := blk_frozen BB3.out 2))
  go_ret
  have hs := best_set (lost := lost) (HLT.out) BB3.out HO1.out HO2.out HB3.out
  exact ⟨rfl, hs.2, hs.1⟩
 | false =>
  go_enter Try.func40, Try.ntmps40
  go_wp2_with (first | (go_at_call 41; refine HP.out.mono ?_; rintro e w1 ⟨v1, v2, rfl, ho1, ho2, hb⟩; have BB1 := Aside0.mk (blk_below BB.out hb); obtain ⟨A1, c1, e1_⟩ := Kd.R_slice ho1; subst e1_; obtain ⟨A2, c2, e2_⟩ := Kd.R_slice ho2; subst e2_; have HO1 := Aside0.mk ho1; have HO2 := Aside0.mk ho2; have HB1 := Aside0.mk hb; clear ho1 ho2 hb BB HP; (try simp only [clip_slice])) | ((with_reducible refine gate_dst (N := 6) rfl ?_); refine box_event ?hg (N := 6) ?hd (cs := #[.int .i64 0, .slice none 0 0, .slice none 0 0]) (t := 30) ?hr ?_; (case hd => rfl); (case hg => rfl); (case hr => first | (go_simp; done) | (go_simp; rfl)); intro g6 hg w2 hbox hb; have GE6 := Aside0.mk ((by rw [hg]; exact HB1.out.size) : w.heap.size ≤ g6); have NE6 : Aside0 (bb ≠ g6) := ⟨by rw [hg]; exact Nat.ne_of_lt (blk_lt BB1.out)⟩; have BB2 := Aside0.mk (blk_below BB1.out hb); have nO1 := Aside0.mk (Kd.R_below HO1.out hb); have nO2 := Aside0.mk (Kd.R_below HO2.out hb); have HB2 := Aside0.mk (below_step HB1.out hb); have BK6 := Aside0.mk hbox; clear HO1 HO2 hb hbox hg BB1 HB1; have HO1 := nO1; have HO2 := nO2; clear nO1 nO2; have hz0 : w2.cell? ⟨g6, 0, none⟩ = some (.int .i64 0) := (blk_cell BK6.out 0).trans rfl; have hy0 := blk_frozen BK6.out 0; have hz1 : w2.cell? ⟨g6, 1, none⟩ = some (.slice none 0 0) := (blk_cell BK6.out 1).trans rfl; have hy1 := blk_frozen BK6.out 1; have hz2 : w2.cell? ⟨g6, 2, none⟩ = some (.slice none 0 0) := (blk_cell BK6.out 2).trans rfl; have hy2 := blk_frozen BK6.out 2) | ((with_reducible refine gate_store (t := 30) (p := 6) rfl ?_); refine store_event (t := 30) (p := 6) (v := ?vo) (w1 := (((w2.setCell ⟨g6, 0, none⟩ (.int .i64 lost)).setCell ⟨g6, 1, none⟩ (.slice A1 xs.length xs.length)).setCell ⟨g6, 2, none⟩ (.slice A2 bs.length c2))) ?hg ?ho ?hn ?hr ?_; (case ho => rfl); (case hg => rfl); (case hn => rfl); (case hr => first | (go_simp; done) | (go_simp; rfl)); intro w3 hw; have BK := Aside0.mk (show w3.heap[g6]? = some (.cells #[.int .i64 lost, .slice A1 xs.length xs.length, .slice A2 bs.length c2] 30 (0, 0)) by rw [hw]; exact blk_put (cs := #[.int .i64 lost, .slice A1 xs.length xs.length, .slice none 0 0]) (blk_put (cs := #[.int .i64 lost, .slice none 0 0, .slice none 0 0]) (blk_put (cs := #[.int .i64 0, .slice none 0 0, .slice none 0 0]) BK6.out 0 _ rfl) 1 _ rfl) 2 _ rfl); have BB3 := Aside0.mk (show w3.heap[bb]? = some (.cells #[u0, u1, u2] 30 (0, 0)) by rw [hw]; exact blk_far (blk_far (blk_far BB2.out NE6.out _) NE6.out _) NE6.out _); have HB3 := Aside0.mk (show Below w.heap.size w w3 by rw [hw]; exact below_set (below_set (below_set HB2.out GE6.out) GE6.out) GE6.out); have nO1 := Aside0.mk (show Kd.R (Kd.int .i64) 3 w3 w.heap.size (fun k_ => some k_ ≠ (Value.slice A2 bs.length c2).ownBlock) (.slice A1 xs.length c1) xs by rw [hw]; exact Kd.R_mono (Kd.R_far (p := ⟨g6, 2, none⟩) (Kd.R_far (p := ⟨g6, 1, none⟩) (Kd.R_far (p := ⟨g6, 0, none⟩) (Kd.R_types HO1.out BK6.out (by decide)) (fun _ h => h.2) _) (fun _ h => h.2) _) (fun _ h => h.2) _) (fun _ h => h.1)); have nO2 := Aside0.mk (show Kd.R (Kd.int .i64) 3 w3 w.heap.size (fun k_ => some k_ ≠ (Value.slice A1 xs.length c1).ownBlock) (.slice A2 bs.length c2) bs by rw [hw]; exact Kd.R_mono (Kd.R_far (p := ⟨g6, 2, none⟩) (Kd.R_far (p := ⟨g6, 1, none⟩) (Kd.R_far (p := ⟨g6, 0, none⟩) (Kd.R_types HO2.out BK6.out (by decide)) (fun _ h => h.2) _) (fun _ h => h.2) _) (fun _ h => h.2) _) (fun _ h => h.1)); clear HO1 HO2 hw hz0 hz1 hz2 hy0 hy1 hy2 BB2 HB2 BK6; have HO1 := nO1; have HO2 := nO2; clear nO1 nO2; have hz0 : w3.cell? ⟨g6, 0, none⟩ = some (.int .i64 lost) := (blk_cell BK.out 0).trans rfl; have hz1 : w3.cell? ⟨g6, 1, none⟩ = some (.slice A1 xs.length xs.length) := (blk_cell BK.out 1).trans rfl; have hz2 : w3.cell? ⟨g6, 2, none⟩ = some (.slice A2 bs.length c2) := (blk_cell BK.out 2).trans rfl; have hb0 : w3.cell? ⟨bb, 0, none⟩ = some u0 := (blk_cell BB3.out 0).trans rfl; have hb1 : w3.cell? ⟨bb, 1, none⟩ = some u1 := (blk_cell BB3.out 1).trans rfl; have hb2 : w3.cell? ⟨bb, 2, none⟩ = some u2 := (blk_cell BB3.out 2).trans rfl; have hf0 := blk_frozen BB3.out 0; have hf1 := blk_frozen BB3.out 1; have hf2 := blk_frozen BB3.out 2))
  go_ret; exact ⟨rfl, grown_below HB3.out, HB3.out⟩
/-- the sets of so many numbers, then of one more, and so on: the first that a test takes -/
def planS (p : List Int → Bool) (sh : List Int) : Nat → Nat → Option (List Int)
  | 0, _ => none
  | n + 1, m => match comb p sh m [] with
    | some ys => some ys
    | none => planS p sh n (m + 1)
/-- what planOf's own variables hold between two sizes -/
def PoI (w w5 : World) (b3 b4 g6 g9 : Nat) (kind lost : Int) (W : World) : Prop :=
  W.heap[b3]? = some (.cells #[.int .i64 kind] 3 (0, 0)) ∧ W.heap[b4]? = some (.cells #[.int .i64 lost] 3 (0, 0)) ∧ W.heap[g6]? = some (.cells #[.int .i64 0, .slice none 0 0, .slice none 0 0] 30 (0, 0)) ∧ W.heap[g9]? = some (.cells #[.int .i64 0, .slice none 0 0, .slice none 0 0] 30 (0, 0)) ∧ Below w.heap.size w W ∧ Below w5.heap.size w5 W
/-- and when a plan has been found -/
def PoF (w : World) (g6 g9 : Nat) (lost : Int) (ys bs : List Int) (W : World) : Prop := W.heap[g6]? = some (.cells #[.int .i64 0, .slice none 0 0, .slice none 0 0] 30 (0, 0)) ∧ Best w.heap.size g9 lost ys bs W ∧ Below w.heap.size w W
theorem po_low {w W W' : World} {n b : Nat} (h : Below n w W) (hle : n ≤ b) (hb : Below b W W') : Below n w W' :=
  ⟨hb.os.trans h.os, hb.tape.trans h.tape, hb.output.trans h.output, Nat.le_trans h.size hb.size, fun k hk => (hb.block k (Nat.lt_of_lt_of_le hk hle)).trans (h.block k hk)⟩
theorem poI_step {w w5 W0 W W' : World} {b3 b4 g6 g9 : Nat} {kind lost : Int} (h0 : PoI w w5 b3 b4 g6 g9 kind lost W0) (h : PoI w w5 b3 b4 g6 g9 kind lost W) (hb : Below W0.heap.size W W') : PoI w w5 b3 b4 g6 g9 kind lost W' := by
  obtain ⟨h3, h4, h6, h9, hB, hB5⟩ := h; exact ⟨(hb.block _ (blk_lt h0.1)).trans h3, (hb.block _ (blk_lt h0.2.1)).trans h4, (hb.block _ (blk_lt h0.2.2.1)).trans h6, (hb.block _ (blk_lt h0.2.2.2.1)).trans h9, po_low hB h0.2.2.2.2.1.size hb, po_low hB5 h0.2.2.2.2.2.size hb⟩
theorem poI_below {w w5 W W' : World} {b3 b4 g6 g9 : Nat} {kind lost : Int} (h : PoI w w5 b3 b4 g6 g9 kind lost W) (hb : Below W.heap.size W W') : PoI w w5 b3 b4 g6 g9 kind lost W' := poI_step h h hb
theorem poF_below {w W W' : World} {g6 g9 : Nat} {lost : Int} {ys bs : List Int} (h : PoF w g6 g9 lost ys bs W) (hb : Below W.heap.size W W') : PoF w g6 g9 lost ys bs W' := ⟨blk_below h.1 hb, best_below h.2.1 hb, below_step h.2.2 hb⟩
theorem below_row {w W W' : World} {g : Nat} (h : Below w.heap.size w W) (hg : W.grownBy W' (some g)) (hle : w.heap.size ≤ g) : Below w.heap.size w W' :=
  ⟨hg.os.trans h.os, hg.tape.trans h.tape, hg.output.trans h.output, Nat.le_trans h.size hg.size, fun k hk => (hg.block k (Nat.lt_of_lt_of_le hk h.size) (fun e => by injection e with e; omega)).trans (h.block k hk)⟩
def ChP (w w5 : World) (b3 b4 g6 g9 : Nat) (kind lost : Int) (by_ : List Int → List Int) (r : Option (List Int)) (e : Ending) (W : World) : Prop :=
  match r with
  | none => e = .returned (.bool false) ∧ PoI w w5 b3 b4 g6 g9 kind lost W
  | some ys => e = .returned (.bool true) ∧ PoF w g6 g9 lost ys (by_ ys) W
theorem planOf_chosen (kind lost : Int) (bv : List Int → Bool) (by_ : List Int → List Int) (oth : List Int) (hP : ∀ xs : List Int, xs.length ≤ 4 → (∀ x ∈ xs, x ∈ oth) → PlanTells kind lost xs (by_ xs) (bv xs)) (ho : oth.length ≤ 1000) (A : Option Addr) (c : Nat) (hc : oth.length ≤ c) (m : Nat) (hm : m ≤ 4) (w w5 W : World) (b3 b4 g6 g9 : Nat)
    (hC : Kd.C (Kd.int .i64) w5 A oth.length oth) (hI : PoI w w5 b3 b4 g6 g9 kind lost W) (h5 : w5.heap.size ≤ g9) (hw : w.heap.size ≤ g9) (hne : g6 ≠ g9) :
    Calls Try.prog 39 #[.slice A oth.length c, .int .i64 (m : Int), .func (.func 40) #[] #[.pointer (some ⟨b3, 0, none⟩), .pointer (some ⟨b4, 0, none⟩), .pointer (some ⟨g9, 0, none⟩)]] W (ChP w w5 b3 b4 g6 g9 kind lost by_ (comb bv oth m [])) := by
  refine (impl_chosen.calls W (some g9) (fun k h => by injection h with h; rw [← h]; exact blk_lt hI.2.2.2.1) oth ho m (by omega) A c #[.pointer (some ⟨b3, 0, none⟩), .pointer (some ⟨b4, 0, none⟩), .pointer (some ⟨g9, 0, none⟩)]
    (fun W' hg => Kd.C_below hC (below_row hI.2.2.2.2.2 hg h5)) hc bv (fun xs => ∀ x ∈ xs, x ∈ oth) (fun W' => PoI w w5 b3 b4 g6 g9 kind lost W') (fun ys W' => PoF w g6 g9 lost ys (by_ ys) W') (by simp) ?_ hI ?_ ?_ ?_).mono ?_
  · intro xs y hx hy x hmm
    rcases List.mem_append.1 hmm with h | h
    · exact hx x h
    · obtain rfl := List.mem_singleton.1 h
      exact hy
  · exact fun W1 W2 h hb => poI_step hI h hb
  · exact fun _ W1 W2 h hb => poF_below h hb
  · intro xs A' c' W1 hv hl hq hc' hr
    refine (impl_planOf_2.calls kind lost b3 b4 g9 _ _ _ A' c' xs (by_ xs) (bv xs) W1 (hP xs (by omega) hv) hq.1 hq.2.1 hq.2.2.2.1 hr hc').mono ?_
    rintro e W2 ⟨rfl, hg, hif⟩
    refine ⟨rfl, hg, ?_⟩
    by_cases hb : bv xs = true
    · rw [if_pos hb] at hif ⊢
      exact ⟨(hg.block _ (blk_lt hq.2.2.1) (fun e => by injection e with e; exact hne e)).trans hq.2.2.1, best_lower hif hq.2.2.2.2.1.size, below_row hq.2.2.2.2.1 hg hw⟩
    · rw [if_neg hb] at hif ⊢
      exact poI_below hq hif
  · intro e w' hp
    unfold ChP; unfold ChPost at hp
    cases hcb : comb bv oth m [] with
    | none => rw [hcb] at hp; exact ⟨hp.1, hp.2.2⟩
    | some ys => rw [hcb] at hp; exact ⟨hp.1, hp.2.2⟩
theorem best_out {w W : World} {g6 : Nat} {v1 v2 : Value} {xs bs : List Int} (he : w.heap.size ≤ g6) (h6 : W.heap[g6]? = some (.cells #[.int .i64 0, .slice none 0 0, .slice none 0 0] 30 (0, 0))) (h1 : Kd.R (Kd.int .i64) 3 W w.heap.size (fun k_ => some k_ ≠ v2.ownBlock) v1 xs) (h2 : Kd.R (Kd.int .i64) 3 W w.heap.size (fun k_ => some k_ ≠ v1.ownBlock) v2 bs) (hB : Below w.heap.size w W) (u0 u1 u2 : Value) :
    Kd.R (Kd.int .i64) 3 (((W.setCell ⟨g6, 0, none⟩ u0).setCell ⟨g6, 1, none⟩ u1).setCell ⟨g6, 2, none⟩ u2) w.heap.size (fun k => some k ≠ v2.ownBlock) v1 xs ∧ Kd.R (Kd.int .i64) 3 (((W.setCell ⟨g6, 0, none⟩ u0).setCell ⟨g6, 1, none⟩ u1).setCell ⟨g6, 2, none⟩ u2) w.heap.size (fun k => some k ≠ v1.ownBlock) v2 bs ∧ Below w.heap.size w (((W.setCell ⟨g6, 0, none⟩ u0).setCell ⟨g6, 1, none⟩ u1).setCell ⟨g6, 2, none⟩ u2) := by
  refine ⟨?_, ?_, below_set (below_set (below_set hB he) he) he⟩
  · exact Kd.R_mono (Kd.R_far (p := ⟨g6, 2, none⟩) (Kd.R_far (p := ⟨g6, 1, none⟩) (Kd.R_far (p := ⟨g6, 0, none⟩) (Kd.R_types h1 h6 (by decide)) (fun _ h => h.2) _) (fun _ h => h.2) _) (fun _ h => h.2) _) (fun _ h => h.1)
  · exact Kd.R_mono (Kd.R_far (p := ⟨g6, 2, none⟩) (Kd.R_far (p := ⟨g6, 1, none⟩) (Kd.R_far (p := ⟨g6, 0, none⟩) (Kd.R_types h2 h6 (by decide)) (fun _ h => h.2) _) (fun _ h => h.2) _) (fun _ h => h.2) _) (fun _ h => h.1)
def PlanPost (w : World) (lost : Int) (by_ : List Int → List Int) (r : Option (List Int)) (e : Ending) (W : World) : Prop :=
  match r with
  | none => e = .returned (.tuple #[.agg #[.int .i64 0, .slice none 0 0, .slice none 0 0], .bool false]) ∧ Below w.heap.size w W
  | some ys => ∃ v1 v2 : Value, e = .returned (.tuple #[.agg #[.int .i64 lost, clip v1, v2], .bool true]) ∧ Kd.R (Kd.int .i64) 3 W w.heap.size (fun k_ => some k_ ≠ v2.ownBlock) v1 ys ∧ Kd.R (Kd.int .i64) 3 W w.heap.size (fun k_ => some k_ ≠ v1.ownBlock) v2 (by_ ys) ∧ Below w.heap.size w W
set_option maxHeartbeats 4000000 in
set_option maxRecDepth 100000 in
theorem impl_planOf.callsG (kind lost : Int) (A : Option Addr) (c : Nat) (sh : List Int) (bv : List Int → Bool) (by_ : List Int → List Int) (hP : ∀ xs : List Int, xs.length ≤ 4 → (∀ x ∈ xs, x ∈ Sd.others lost sh) → PlanTells kind lost xs (by_ xs) (bv xs)) (hs : sh.length ≤ 1000) (w : World) (hr : Kd.C (Kd.int .i64) w A sh.length sh) (hc : sh.length ≤ c) (res : Option (List Int)) (hres : planS bv (Sd.others lost sh) 4 1 = res) :
    Calls Try.prog 20 #[.int .i64 kind, .int .i64 lost, .slice A sh.length c] w (PlanPost w lost by_ res) := by
  have hmf : ∀ (fn : Fn) (first cap : Array Value) (w : World), (Instr.makeFunc fn first cap).run Try.prog w = .ok (.func fn first cap) w := fun _ _ _ _ => rfl
  have hu30 := Try.underlying30
  have HO4 := Aside0.mk (Nat.le_trans (Sd.others_le lost sh) hs)
  have HP := Aside0.mk (planOf_chosen kind lost bv by_ (Sd.others lost sh) hP HO4.out)
  have HR := Aside0.mk hr
  have HC := Aside0.mk hc
  have HS := Aside0.mk hs
  have HRES := Aside0.mk hres
  have HCL := Aside0.mk (show slices_Clone_int_int.f sh = some sh by unfold slices_Clone_int_int.f; rw [if_pos (Nat.le_trans hs (by decide))])
  clear hP hr hc hs hres
  have HB := Aside0.mk (Below.refl w.heap.size w)
  go_enter Try.func20, Try.ntmps20
  go_wp2_with (first | ((with_reducible refine gate_dst (N := 3) rfl ?_); refine box_event ?hg (N := 3) ?hd (cs := #[.int .i64 kind]) (t := 3) ?hr ?_; (case hd => rfl); (case hg => rfl); (case hr => first | (go_simp; done) | (go_simp; rfl)); intro b3 hg w1 hbox hb; have GE3 := Aside0.mk ((by rw [hg]; exact HB.out.size) : w.heap.size ≤ b3); have B3 := Aside0.mk hbox; have nB := Aside0.mk (below_step HB.out hb); clear HB; have HB := nB; clear nB; clear hb hbox hg) | ((with_reducible refine gate_dst (N := 4) rfl ?_); refine box_event ?hg (N := 4) ?hd (cs := #[.int .i64 lost]) (t := 3) ?hr ?_; (case hd => rfl); (case hg => rfl); (case hr => first | (go_simp; done) | (go_simp; rfl)); intro b4 hg w2 hbox hb; have nB3 := Aside0.mk (blk_below B3.out hb); clear B3; have B3 := nB3; clear nB3; have GE4 := Aside0.mk ((by rw [hg]; exact HB.out.size) : w.heap.size ≤ b4); have B4 := Aside0.mk hbox; have nB := Aside0.mk (below_step HB.out hb); clear HB; have HB := nB; clear nB; clear hb hbox hg) | ((with_reducible refine gate_dst (N := 6) rfl ?_); refine box_event ?hg (N := 6) ?hd (cs := #[.int .i64 0, .slice none 0 0, .slice none 0 0]) (t := 30) ?hr ?_; (case hd => rfl); (case hg => rfl); (case hr => first | (go_simp; done) | (go_simp; rfl)); intro g6 hg w3 hbox hb; have nB3 := Aside0.mk (blk_below B3.out hb); clear B3; have B3 := nB3; clear nB3; have nB4 := Aside0.mk (blk_below B4.out hb); clear B4; have B4 := nB4; clear nB4; have GE6 := Aside0.mk ((by rw [hg]; exact HB.out.size) : w.heap.size ≤ g6); have B6 := Aside0.mk hbox; have nB := Aside0.mk (below_step HB.out hb); clear HB; have HB := nB; clear nB; clear hb hbox hg) | (go_at_call 37; refine (slices_Clone_int_int.calls _ _ sh sh _ ?side1 HC.out HCL.out).mono ?_; (case side1 => exact Kd.C_below HR.out HB.out); rintro e w4 ⟨v, rfl, ho, hb⟩; have HL3 := Aside0.mk (blk_lt B3.out); have HL4 := Aside0.mk (blk_lt B4.out); have HL6 := Aside0.mk (blk_lt B6.out); have HW3 := Aside0.mk HB.out.size; have HSZ := Aside0.mk hb.size; have nB3 := Aside0.mk (blk_below B3.out hb); clear B3; have B3 := nB3; clear nB3; have nB4 := Aside0.mk (blk_below B4.out hb); clear B4; have B4 := nB4; clear nB4; have nB6 := Aside0.mk (blk_below B6.out hb); clear B6; have B6 := nB6; clear nB6; have HOV := Aside0.mk ho; have nB := Aside0.mk (below_step HB.out hb); clear HB; have HB := nB; clear nB; clear ho hb) | (go_at_call 36; refine (Sd.deleteLost lost b4 v sh w4 _ HOV.out B4.out HL4.out (Nat.le_trans HS.out (by decide))).mono ?_; rintro e w5 ⟨Ad, cd, rfl, hcd, hCd, hor⟩; have HD : Aside0 (Below w3.heap.size w4 w5) := ⟨by rcases hor with h | h; exact h; exact ⟨h.os, h.tape, h.output, h.size, fun k hk => h.block k (Nat.lt_of_lt_of_le hk HSZ.out)⟩⟩; have HCD := Aside0.mk hCd; have HLD := Aside0.mk hcd; have nB := Aside0.mk (po_low HB.out HW3.out HD.out); have n3 := Aside0.mk ((HD.out.block _ HL3.out).trans B3.out); have n4 := Aside0.mk ((HD.out.block _ HL4.out).trans B4.out); have n6 := Aside0.mk ((HD.out.block _ HL6.out).trans B6.out); clear hor hCd hcd HD HB B3 B4 B6 HOV HL3 HL4 HL6 HW3 HSZ; have HB := nB; have B3 := n3; have B4 := n4; have B6 := n6; clear nB n3 n4 n6) | ((with_reducible refine gate_dst (N := 9) rfl ?_); refine box_event ?hg (N := 9) ?hd (cs := #[.int .i64 0, .slice none 0 0, .slice none 0 0]) (t := 30) ?hr ?_; (case hd => rfl); (case hg => rfl); (case hr => first | (go_simp; done) | (go_simp; rfl)); intro g9 hg w6 hbox hb; have H59 := Aside0.mk ((by rw [hg]; exact Nat.le_refl _) : w5.heap.size ≤ g9); have NE := Aside0.mk ((by rw [hg]; exact Nat.ne_of_lt (blk_lt B6.out)) : g6 ≠ g9); have nB3 := Aside0.mk (blk_below B3.out hb); clear B3; have B3 := nB3; clear nB3; have nB4 := Aside0.mk (blk_below B4.out hb); clear B4; have B4 := nB4; clear nB4; have nB6 := Aside0.mk (blk_below B6.out hb); clear B6; have B6 := nB6; clear nB6; have GE9 := Aside0.mk ((by rw [hg]; exact HB.out.size) : w.heap.size ≤ g9); have nB := Aside0.mk (below_step HB.out hb); clear HB; have HB := nB; clear nB; have HI : Aside0 (PoI w w5 b3 b4 g6 g9 kind lost w6) := ⟨B3.out, B4.out, B6.out, hbox, HB.out, hb⟩; clear hb hbox hg))
  go_loopg [10] 4 (fun kq v10 w' => ∃ m : Nat, v10 = .int .i64 (m : Int) ∧ Aside0 (kq + m = 5 ∧ 1 ≤ m) ∧ Aside0 (planS bv (Sd.others lost sh) kq m = res) ∧ Aside0 (PoI w w5 b3 b4 g6 g9 kind lost w'))
  case atStart => exact ⟨1, rfl, ⟨by omega⟩, HRES, HI⟩
  case round =>
    clear HI HRES B3 B4 B6 HB; obtain ⟨m, rfl, HM, HPS, HI⟩ := hrel
    cases gk with
    | zero =>
      obtain rfl : m = 5 := by have := HM.out; omega
      have hr0 : none = res := HPS.out; subst hr0; have hz0 : wr.cell? ⟨g6, 0, none⟩ = some (.int .i64 0) := (blk_cell HI.out.2.2.1 0).trans rfl; have hzf0 := blk_frozen HI.out.2.2.1 0; have hz1 : wr.cell? ⟨g6, 1, none⟩ = some (.slice none 0 0) := (blk_cell HI.out.2.2.1 1).trans rfl; have hzf1 := blk_frozen HI.out.2.2.1 1; have hz2 : wr.cell? ⟨g6, 2, none⟩ = some (.slice none 0 0) := (blk_cell HI.out.2.2.1 2).trans rfl; have hzf2 := blk_frozen HI.out.2.2.1 2
      go_wp2
      refine bodyPost_ret (results_ct rfl _ _ g6 30 #[.int .i64 0, .slice none 0 0, .slice none 0 0] (0, 0) _ rfl (blk_put (cs := #[.int .i64 0, .slice none 0 0, .slice none 0 0]) (blk_put (cs := #[.int .i64 0, .slice none 0 0, .slice none 0 0]) (blk_put (cs := #[.int .i64 0, .slice none 0 0, .slice none 0 0]) HI.out.2.2.1 0 _ rfl) 1 _ rfl) 2 _ rfl) Try.underlying30 rfl (by kernel_rfl)) rfl ?_; exact ⟨rfl, below_set (below_set (below_set HI.out.2.2.2.2.1 GE6.out) GE6.out) GE6.out⟩
    | succ k1 =>
      have hm4 : m ≤ 4 := by have := HM.out; omega
      have HM4 := Aside0.mk hm4
      have e1 : decide ((m : Int) ≤ 4) = true := decide_eq_true (by omega); have e2 : decide (m ≤ 4) = true := decide_eq_true hm4
      cases hcb : comb bv (Sd.others lost sh) m [] with
      | none =>
        have HCB := Aside0.mk hcb
        have HPS2 := Aside0.mk (show planS bv (Sd.others lost sh) k1 (m + 1) = res by have h := HPS.out; rw [planS, hcb] at h; exact h)
        clear hcb HPS
        go_wp2_with (go_at_call 39; refine (HP.out Ad cd HLD.out m HM4.out w w5 _ b3 b4 g6 g9 HCD.out HI.out H59.out GE9.out NE.out).mono ?_; intro e w7 hpost; unfold ChP at hpost; rw [HCB.out] at hpost; obtain ⟨rfl, hI7⟩ := hpost; have HI7 := Aside0.mk hI7; clear hI7 HI)
        go_roundg k1
        case measure => omega
        case rel => exact ⟨m + 1, (by have := HM4.out; first | rfl | (simp; unfold wrap64; omega) | (congr 1; omega)), ⟨by have := HM.out; omega⟩, HPS2, HI7⟩
      | some ys =>
        have HCB := Aside0.mk hcb
        have hr0 : some ys = res := by have h := HPS.out; rw [planS, hcb] at h; exact h
        subst hr0; clear hcb HPS
        go_wp2_with (go_at_call 39; refine (HP.out Ad cd HLD.out m HM4.out w w5 _ b3 b4 g6 g9 HCD.out HI.out H59.out GE9.out NE.out).mono ?_; intro e w7 hpost; unfold ChP at hpost; rw [HCB.out] at hpost; obtain ⟨rfl, h6, ⟨v1, v2, h9, ho1, ho2⟩, hB7⟩ := hpost; obtain ⟨A1, c1, e1_⟩ := Kd.R_slice ho1; subst e1_; obtain ⟨A2, c2, e2_⟩ := Kd.R_slice ho2; subst e2_; have H6 := Aside0.mk h6; have H9 : Aside0 (w7.heap[g9]? = some (.cells #[.int .i64 lost, .slice A1 ys.length ys.length, .slice A2 (by_ ys).length c2] 30 (0, 0))) := ⟨h9⟩; have HO1 := Aside0.mk ho1; have HO2 := Aside0.mk ho2; have HB7 := Aside0.mk hB7; clear h6 h9 ho1 ho2 hB7 HI; have hz0 : w7.cell? ⟨g6, 0, none⟩ = some (.int .i64 0) := (blk_cell H6.out 0).trans rfl; have hzf0 := blk_frozen H6.out 0; have hz1 : w7.cell? ⟨g6, 1, none⟩ = some (.slice none 0 0) := (blk_cell H6.out 1).trans rfl; have hzf1 := blk_frozen H6.out 1; have hz2 : w7.cell? ⟨g6, 2, none⟩ = some (.slice none 0 0) := (blk_cell H6.out 2).trans rfl; have hzf2 := blk_frozen H6.out 2; have hq0 : w7.cell? ⟨g9, 0, none⟩ = some (.int .i64 lost) := (blk_cell H9.out 0).trans rfl; have hqf0 := blk_frozen H9.out 0; have hq1 : w7.cell? ⟨g9, 1, none⟩ = some (.slice A1 ys.length ys.length) := (blk_cell H9.out 1).trans rfl; have hqf1 := blk_frozen H9.out 1; have hq2 : w7.cell? ⟨g9, 2, none⟩ = some (.slice A2 (by_ ys).length c2) := (blk_cell H9.out 2).trans rfl; have hqf2 := blk_frozen H9.out 2)
        refine bodyPost_ret (results_ct rfl _ _ g6 30 #[.int .i64 lost, .slice A1 ys.length ys.length, .slice A2 (by_ ys).length c2] (0, 0) _ rfl (blk_put (cs := #[.int .i64 lost, .slice A1 ys.length ys.length, .slice none 0 0]) (blk_put (cs := #[.int .i64 lost, .slice none 0 0, .slice none 0 0]) (blk_put (cs := #[.int .i64 0, .slice none 0 0, .slice none 0 0]) H6.out 0 _ rfl) 1 _ rfl) 2 _ rfl) Try.underlying30 rfl (by kernel_rfl)) rfl ?_
        have hout := best_out GE6.out H6.out HO1.out HO2.out HB7.out (.int .i64 lost) (.slice A1 ys.length ys.length) (.slice A2 (by_ ys).length c2)
        exact ⟨.slice A1 ys.length c1, .slice A2 (by_ ys).length c2, rfl, hout.1, hout.2.1, hout.2.2⟩
end Go.Proofs.Ytfgpffocieegdaa.PA
