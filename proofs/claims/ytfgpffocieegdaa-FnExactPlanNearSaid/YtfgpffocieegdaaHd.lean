import Derived.Test.YtfgpffocieegdaaPAx0
import Derived.Test.YtfgpffocieegdaaPAx7
import Derived.Below
import Derived.Test.YtfgpffocieegdaaGw
import Derived.Shelf.SlicesE.DeleteFunc
import Derived.Shelf.Lay
import Derived.Ground.SlgfProg
import Derived.Lib.SliceRun
/- slices.Clip: what it hands back is the same row without spare. -/
set_option linter.unusedVariables false
namespace Go.Proofs.Ytfgpffocieegdaa.PA
open Go.RowKit Go.Proofs.Ytfgpffocieegdaa.PA Go.Proofs.YtfgpffocieegdaaW.PrintWords Go.Proofs.YtfgpffocieegdaaW.PrintLast Go.Proofs.YtfgpffocieegdaaW.PrintMore

/-- a row without spare -/
def clip : Value → Value
  | .slice A n _ => .slice A n n
  | v => v
theorem clip_slice (A : Option Addr) (n c : Nat) : clip (.slice A n c) = .slice A n n := rfl
set_option maxHeartbeats 8000000 in
set_option maxRecDepth 100000 in
theorem slices_Clip_int.calls (A : Option Addr) (n c : Nat) (hc : n ≤ c) (w : World) :
  Calls Try.prog 52 #[.slice A n c] w fun e w' => e = .returned (.slice A n n) ∧ Below w.heap.size w w' := by
 have HB := Aside0.mk (Below.refl w.heap.size w)
 go_enter Try.func52, Try.ntmps52
 go_wp2
 go_ret
 exact ⟨rfl, by repeat (first | (with_reducible first | exact HB.out | apply below_alloc | apply pw_below_drewN | apply below_drew1) | exact HB.out)⟩
end Go.Proofs.Ytfgpffocieegdaa.PA
/- impl_span_by's contract where the span is a variable of the caller's own: its rows and pivots are told at the world that stands. -/
set_option linter.unusedVariables false
namespace Go.Proofs.Ytfgpffocieegdaa.PA
open Go.RowKit Go.Proofs.Ytfgpffocieegdaa.PA Go.Proofs.YtfgpffocieegdaaW.PrintWords Go.Proofs.YtfgpffocieegdaaW.PrintLast Go.Proofs.YtfgpffocieegdaaW.PrintMore

theorem impl_span_byB.calls (k : Nat) {g : Nat} (v0 : Value) (l0 : List S81) (v1 : Value) (l1 : List Int) (a1_0 : Int) (a1_1 : Int) (a1_2 : Int) (a1_3 : Int) (r1 : Int) (r2 : Int) (r3 : Int) (r4 : Int) (r5 : Int) (r6 : Int) (r7 : Int) (r8 : Int) (r9 : Bool) (w : World) (hb : w.heap[g]? = some (.cells #[v0, v1] 79 (0, 0))) (h0 : ∃ A0 c0, v0 = .slice A0 l0.length c0 ∧ l0.length ≤ c0 ∧ Kd.C k81 w A0 l0.length l0) (h1 : ∃ A1 c1, v1 = .slice A1 l1.length c1 ∧ l1.length ≤ c1 ∧ Kd.C (Kd.int .i64) w A1 l1.length l1) (h : impl_span_by.f k l0 l1 a1_0 a1_1 a1_2 a1_3 = some (r1, r2, r3, r4, r5, r6, r7, r8, r9)) :
  Calls Try.prog 51 #[.pointer (some ⟨g, 0, none⟩), .agg #[.int .i64 a1_0, .int .i64 a1_1, .int .i64 a1_2, .int .i64 a1_3]] w fun e w' => e = .returned (.tuple #[.agg #[.int .i64 r1, .int .i64 r2, .int .i64 r3, .int .i64 r4, .int .i64 r5, .int .i64 r6, .int .i64 r7, .int .i64 r8], .bool r9]) ∧ Below w.heap.size w w' := by
 obtain ⟨A0, c0, rfl, hc0, hr0⟩ := h0
 obtain ⟨A1, c1, rfl, hc1, hr1⟩ := h1
 exact (impl_span_by.calls k g l0 l1 a1_0 a1_1 a1_2 a1_3 r1 r2 r3 r4 r5 r6 r7 r8 r9 w w ⟨A0, c0, A1, c1, hb, trivial, hr0, hr1⟩ (Below.refl _ _) h).mono fun e w' hh => ⟨hh.1, hh.2.2.1⟩
end Go.Proofs.Ytfgpffocieegdaa.PA
/- slices.Clone at whole numbers: what it hands back is a row of its own with the same numbers. -/
set_option linter.unusedVariables false
set_option linter.unusedSimpArgs false
namespace Go.Proofs.Ytfgpffocieegdaa.PA
open Go.RowKit Go.Proofs.Ytfgpffocieegdaa.PA Go.Proofs.YtfgpffocieegdaaW.PrintWords Go.Proofs.YtfgpffocieegdaaW.PrintLast Go.Proofs.YtfgpffocieegdaaW.PrintMore

theorem zhz_0 {p : Prop} (h : p := by repeat (first | (with_reducible first | exact HB.out | apply below_alloc | apply pw_below_drewN | apply below_drew1) | exact HB.out)) : p := h
def slices_Clone_int_int.f (l0 : List Int) : Option (List Int) := if l0.length ≤ 1048576 then some l0 else none
set_option maxHeartbeats 2000000 in
set_option maxRecDepth 20000 in
theorem slices_Clone_int_int.calls (A0 : Option Addr) (c0 : Nat) (l0 : List Int) (r : List Int) (w : World) (hr0 : Kd.C (Kd.int .i64) w A0 l0.length l0) (hc0 : l0.length ≤ c0) (h : slices_Clone_int_int.f l0 = some r) :
  Calls Try.prog 37 #[.slice A0 l0.length c0] w fun e w' => ∃ v0_ : Value, e = .returned (v0_) ∧ Kd.R (Kd.int .i64) 3 w' w.heap.size (fun _ => True) v0_ r ∧ Below w.heap.size w w' := by
 unfold slices_Clone_int_int.f at h
 split at h
 ·rename_i hlen
  obtain rfl := Option.some.inj h
  clear h
  have HB := Aside0.mk (Below.refl w.heap.size w)
  have HL := Aside0.mk hlen
  clear hlen
  have q0 : ∀ (W : World) (n c : Nat), (Sem.run Try.prog (binOp BinOp.eql 28 (Value.slice none n c) (Value.slice none 0 0)) W) = Result.ok (.bool true) W := fun W n c => by rfl
  have q1 : ∀ (W : World) (a : Addr) (n c : Nat), (Sem.run Try.prog (binOp BinOp.eql 28 (Value.slice (some a) n c) (Value.slice none 0 0)) W) = Result.ok (.bool false) W := fun W a n c => by rfl
  cases A0 with
  | none =>
   have hl : l0 = [] := by
    rcases Nat.eq_zero_or_pos l0.length with h | h
    ·exact List.eq_nil_of_length_eq_zero h
    ·obtain ⟨ad, h, _⟩ := hr0.2.2 h
     cases h
   subst hl; clear hr0 hc0; go_enter Try.func37, Try.ntmps37
   go_wp2
   go_ret; exact ⟨_, rfl, Kd.R_nil _ _ _ _ _, zhz_0⟩
  | some ad =>
   have HR := Aside0.mk hr0
   clear hr0 hc0; go_enter Try.func37, Try.ntmps37
   go_wp2_with (first | ((with_reducible refine gate_dst (N := 5) rfl ?_); refine Kd.R_lit (Kd.int .i64) _ 3 ?hg (N := 5) ?hd (xs := ([] : List Int)) (inner := []) (ok := fun _ => True) (okp := fun _ => True) ?hr ?hp (fun _ hk => hk) trivial (Below.refl _ _) (Nat.le_refl _) (by simp) ?_; (case hd => rfl); (case hg => rfl); (case hr => first | (go_simp; done) | (go_simp; rfl)); (case hp => exact (Reps.none _ _)); intro v1 w1 ho1 hb hg_ hnew_; clear hg_ hnew_; have n0_ := Aside0.mk (Kd.R_lower ho1 (below_size zhz_0)); have n1_ := Aside0.mk (Kd.C_below (by repeat (first | exact HR.out | (with_reducible refine Kd.C_alloc ?_ _) | (with_reducible refine Kd.C_drewN ?_ _) | (with_reducible refine Kd.C_drew ?_))) hb); have n2_ := Aside0.mk (below_step zhz_0 hb); clear HR HB ho1 hb; have HO1 := n0_; have HR := n1_; have HB := n2_; clear n0_ n1_ n2_) | ((with_reducible refine gate_builtin (b := .append) (xs := #[.tmp 5, .tmp 6]) rfl ?_); at_builtin; refine Kd.R_append_rows (Kd.int .i64) (w0 := w) w.heap.size rfl (.tmp 5) (.tmp 6) 28 3 (.int .i64 0) 8 rfl Try.underlying28 info3 rfl (by decide) (by omega) v1 [] l0 _ _ _ (fun _ => True) (fun _ => False) rfl rfl ?aO ?aR (fun _ _ h => h) (fun _ h => h.elim) ?aF ?aB ?aS ?aL ?_; (case aR => repeat (first | exact HR.out | (with_reducible refine Kd.C_alloc ?_ _) | (with_reducible refine Kd.C_drewN ?_ _) | (with_reducible refine Kd.C_drew ?_))); (case aB => exact zhz_0); (case aF => exact (fun _ _ => trivial)); (case aO => exact (by (with_reducible repeat (first | apply Kd.R_alloc | apply Kd.R_drewN | apply Kd.R_drew)); exact HO1.out)); (case aS => exact (below_size zhz_0)); (case aL => have := HL.out; simp; omega); intro v2 w2 ho hb hg hat; rw [List.nil_append] at ho; have HO2 := Aside0.mk ho; have HB2 := Aside0.mk hb; clear ho hb hg hat HO1 HB))
   go_ret; exact ⟨_, rfl, (by (with_reducible repeat (first | apply Kd.R_alloc | apply Kd.R_drewN | apply Kd.R_drew)); exact HO2.out), by repeat (first | (with_reducible first | exact HB2.out | apply below_alloc | apply pw_below_drewN | apply below_drew1) | exact HB2.out)⟩
 ·cases h
end Go.Proofs.Ytfgpffocieegdaa.PA
/- slices.DeleteFunc at whole numbers, for the test of impl.planOf: the row without one number. -/
set_option linter.unusedVariables false
set_option linter.unusedSimpArgs false
namespace Go.Proofs.Ytfgpffocieegdaa.Sd
open Go.Shelf Go.RowKit Go.Lib Go.Sort Go.Proofs.Ytfgpffocieegdaa.PA Go.Proofs.YtfgpffocieegdaaW.PrintWords Go.Proofs.YtfgpffocieegdaaW.PrintLast Go.Proofs.YtfgpffocieegdaaW.PrintMore
shelf_lay_g SlLaysH.n10 Slgf 10 at Try 36 as delF

theorem zhd_0 {p : Prop} (h : p := by repeat (first | (with_reducible first | exact HB.out | apply below_alloc | apply pw_below_drewN | apply below_drew1) | exact HB.out)) : p := h
/-- impl.planOf's test, in whatever world holds the lost one. -/
theorem gives1 (lost x : Int) (B : Nat) (W : World) (hc : W.cell? ⟨B, 0, none⟩ = some (.int .i64 lost)) :
    FnGives Try.prog 38 #[.pointer (some ⟨B, 0, none⟩)] #[.int .i64 x] (.bool (decide (x = lost))) W := by
  show Calls Try.prog 38 #[.int .i64 x, .pointer (some ⟨B, 0, none⟩)] W _
  have e : (x == lost) = decide (x = lost) := by rw [Bool.eq_iff_iff]; simp
  have HE := Aside0.mk e
  clear e; go_enter Try.func38, Try.ntmps38
  go_wp2
  all_goals (go_ret; exact ⟨by show Ending.returned (Value.bool (x == lost)) = _; rw [HE.out], 0, rfl⟩)
theorem pred1 (lost : Int) (B : Nat) (w : World) (hB : B < w.heap.size) (hcell : w.cell? ⟨B, 0, none⟩ = some (.int .i64 lost)) :
    PredAt Try.prog 38 #[.pointer (some ⟨B, 0, none⟩)] (Value.int .i64) (fun x => decide (x = lost)) w :=
  fun W x hb => gives1 lost x B W ((hb.cell (p := ⟨B, 0, none⟩) hB).trans hcell)
theorem over1 (lost : Int) (B blk off size : Nat) (w : World) (hB : B < w.heap.size) (hne : B ≠ blk) (hcell : w.cell? ⟨B, 0, none⟩ = some (.int .i64 lost)) :
    PredOver Try.prog 38 #[.pointer (some ⟨B, 0, none⟩)] (Value.int .i64) (fun x => decide (x = lost)) blk off size w :=
  fun n os dk x _ => gives1 lost x B _ (by
    unfold sortWorld; rw [cell?_grow _ _ _ (by show B < (putRow _ _ _ _ _).heap.size; rw [size_putRow]; exact hB), cell?_putRow_other _ _ blk off _ _ (Or.inl hne)]
    exact hcell)
theorem enters1 : ∀ args w, (callFunc 38 args).run Try.prog w = .ok (.enter 38 args) w := enters_of Try.func38 (by kernel_rfl) rfl
/-- the shards but the lost one -/
def others (lost : Int) (l : List Int) : List Int := l.filter fun x => !decide (x = lost)
theorem deleteRow (blk cap : Nat) (d : Array Int) (lost : Int) (B : Nat) (w : World) (hH : Holds (Value.int .i64) w blk 0 d) (hB : B < w.heap.size) (hne : B ≠ blk) (hcell : w.cell? ⟨B, 0, none⟩ = some (.int .i64 lost)) (hsz : d.size ≤ 9223372036854775807) (hcap : d.size ≤ cap) :
    Calls Try.prog 36 #[.slice (some ⟨blk, 0, none⟩) d.size cap, .func (.func 38) #[] #[.pointer (some ⟨B, 0, none⟩)]] w fun e w' => e = .returned (.slice (some ⟨blk, 0, none⟩) (d.toList.filter fun x => !decide (x = lost)).length cap) ∧
      ∃ q, w' = putRow (Value.int .i64) (Sort.ahead w q) blk 0 ((d.toList.filter fun x => !decide (x = lost)) ++ List.replicate (d.size - (d.toList.filter fun x => !decide (x = lost)).length) 0).toArray := by
  have hcon := AnyE.slices_DeleteFunc delF (Value.int .i64) (fun _ => rfl) (fun x => decide (x = lost)) 38 #[.pointer (some ⟨B, 0, none⟩)] enters1 0 Try.zeroValue3 blk 0 cap d w (pred1 lost B w hB hcell) (over1 lost B blk 0 d.size w hB hne hcell) hH hsz hcap
  exact hcon
theorem others_le (lost : Int) (l : List Int) : (others lost l).length ≤ l.length := List.length_filter_le _ _
theorem put_below {w : World} {base g : Nat} (hg : base ≤ g) (q off : Nat) (d : Array Int) : Below base w (putRow (Value.int .i64) (Sort.ahead w q) g off d) := by
  refine ⟨rfl, rfl, rfl, by rw [size_putRow]; exact Nat.le_refl _, fun k hk => ?_⟩; unfold putRow mapBlock Sort.ahead; simp only [Array.getElem?_modify]; rw [if_neg (by omega)]
set_option maxHeartbeats 1000000 in
theorem indexNil (B : Nat) (w : World) : Calls Try.prog 47 #[.slice none 0 0, .func (.func 38) #[] #[.pointer (some ⟨B, 0, none⟩)]] w fun e w' => e = .returned (.int .i64 (-1)) ∧ Below w.heap.size w w' := by
  have HB := Aside0.mk (Below.refl w.heap.size w)
  go_enter Try.func47, Try.ntmps47
  go_wp2_with fail
  refine wp_loop_rounds 1 ?_; rw [rounds_succ]
  go_wp2_with fail
  go_ret; exact ⟨rfl, zhd_0⟩
set_option maxHeartbeats 1000000 in
theorem deleteNil (B : Nat) (w : World) : Calls Try.prog 36 #[.slice none 0 0, .func (.func 38) #[] #[.pointer (some ⟨B, 0, none⟩)]] w fun e w' => e = .returned (.slice none 0 0) ∧ Below w.heap.size w w' := by
  have HB := Aside0.mk (Below.refl w.heap.size w)
  go_enter Try.func36, Try.ntmps36
  go_wp2_with (go_at_call 47; refine (indexNil _ _).mono ?_; rintro e w' ⟨rfl, hb⟩; have HB2 := Aside0.mk (below_step zhd_0 hb); clear hb HB)
  go_ret; exact ⟨rfl, by repeat (first | (with_reducible first | exact HB2.out | apply below_alloc | apply pw_below_drewN | apply below_drew1) | exact HB2.out)⟩
/-- The row without the lost one: what is handed back reads so, and nothing below the row has changed. -/
theorem deleteLost (lost : Int) (B : Nat) (v : Value) (l : List Int) (w : World) (base : Nat) (hR : Kd.R (Kd.int .i64) 3 w base (fun _ => True) v l) (hb : w.heap[B]? = some (.cells #[.int .i64 lost] 3 (0, 0))) (hlt : B < base) (hl : l.length ≤ 1048576) :
    Calls Try.prog 36 #[v, .func (.func 38) #[] #[.pointer (some ⟨B, 0, none⟩)]] w fun e w' => ∃ A c, e = .returned (.slice A (others lost l).length c) ∧ (others lost l).length ≤ c ∧ Kd.C (Kd.int .i64) w' A (others lost l).length (others lost l) ∧ (Below base w w' ∨ Below w.heap.size w w') := by
  obtain ⟨hv, ho⟩ := Kd.own_of_R hR
  rcases ho with ⟨rfl, h0⟩ | ⟨g, cap, cur, rfl, hg, hh, hn, hc, hs, hx⟩
  · obtain rfl : l = [] := List.eq_nil_of_length_eq_zero h0
    refine (deleteNil B w).mono ?_
    rintro e w' ⟨rfl, hbel⟩
    exact ⟨none, 0, rfl, Nat.le_refl _, Kd.C_nil _ _, .inr hbel⟩
  · have hH : Holds (Value.int .i64) w g 0 l.toArray := fun j hj => by
      have hj' : j < l.length := by simpa using hj
      refine ⟨?_, blk_frozen hh _⟩; rw [Nat.zero_add, blk_cell hh, getElem!_pos _ _ (by simpa using hj')]
      have e : (encs (Value.int .i64) l)[j]? = some (.int .i64 l[j]) := by simp [encs, hj']
      rw [← hx, List.getElem?_take_of_lt (by omega), Array.getElem?_toList] at e
      simpa using e
    refine (deleteRow g cap l.toArray lost B w hH (blk_lt hb) (by omega) ((blk_cell hb 0).trans rfl) (by simp; omega) (by simpa using hn)).mono ?_
    rintro e w' ⟨rfl, q, rfl⟩
    have hle := others_le lost l
    have hd : ((others lost l ++ List.replicate (l.toArray.size - (others lost l).length) 0).toArray : Array Int).size = l.toArray.size := by simp; omega
    have hH2 : Holds (Value.int .i64) (Sort.ahead w q) g 0 l.toArray := hH; refine ⟨some ⟨g, 0, none⟩, cap, rfl, by omega, ⟨rfl, by omega, fun _ => ⟨_, rfl, fun j p hp => ⟨[.int .i64 p], rfl, rfl, fun i u hu => ?_⟩⟩⟩, .inl (put_below hg q 0 _)⟩; have hj : j < (others lost l).length := (List.getElem?_eq_some_iff.1 hp).1
    cases i with
    | succ i => simp at hu
    | zero =>
      simp only [List.getElem?_cons_zero, Option.some.injEq] at hu; subst hu
      have := cell?_putRow (Value.int .i64) (Sort.ahead w q) g 0 l.toArray _ hH2 hd j (by rw [hd]; simp; omega)
      rw [Nat.zero_add] at this; rw [show (⟨g, 0, none⟩ : Addr).add (j * (Kd.int .i64).sz + 0) = ⟨g, j, none⟩ from by rw [show (j * (Kd.int .i64).sz + 0) = j from by show j * 1 + 0 = j; omega]; exact add_plain g j]; refine this.trans ?_; rw [getElem!_pos _ _ (by simp; omega)]; simp only [List.getElem_toArray]; rw [List.getElem_append_left hj, (List.getElem?_eq_some_iff.1 hp).2]
end Go.Proofs.Ytfgpffocieegdaa.Sd
