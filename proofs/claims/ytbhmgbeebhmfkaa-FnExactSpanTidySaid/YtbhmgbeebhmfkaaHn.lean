import Derived.Test.YtbhmgbeebhmfkaaPAx0
import Derived.Test.YtbhmgbeebhmfkaaPAx2
import Derived.Test.YtbhmgbeebhmfkaaLf
/- laws.markIntSS: it writes the rows that it was given; walked by hand (after the manner of the print's loops). -/
namespace Go.Proofs.Ytbhmgbeebhmfkaa.PA
open Go.RowKit Go.Proofs.Ytbhmgbeebhmfkaa.PA Go.Proofs.YtbhmgbeebhmfkaaW.PrintWords Go.Proofs.YtbhmgbeebhmfkaaW.PrintLast Go.Proofs.YtbhmgbeebhmfkaaW.PrintMore
set_option linter.unusedVariables false
set_option linter.unusedSimpArgs false
theorem zhn_0 {p : Prop} (h : p := by repeat (first | (with_reducible first | exact HB.out | apply below_alloc | apply pw_below_drewN | apply below_drew1) | exact HB.out)) : p := h
theorem zhn_1 {p : Prop} (h : p := by repeat (first | (with_reducible first | exact HK.out | apply Kept.alloc | apply Kept.drewN | apply Kept.drew) | exact HK.out)) : p := h
theorem zhn_2 {p : Prop} (h : p := by first | rfl | (simp; done) | (simp [*]; done)) : p := h
def laws_markIntSS.l0 : Nat → List (List Int) → Int → Int → Option (Int × List (List Int))
  | 0, _, _, _ => none
  | k + 1, x0, x1, x5 => if x5 < (x0.length : Int) then (if 0 ≤ x5 then ((laws_markIntS.f k (rd_L1 x0 x5) x1).bind fun p => laws_markIntSS.l0 k (x0.set x5.toNat p.2) p.1 (wrap64 (x5 + 1))) else none) else (some (x1, x0))
def laws_markIntSS.g (k : Nat) (l0 : List (List Int)) (a1 : Int) : Option (Int × List (List Int)) := laws_markIntSS.l0 k l0 a1 0
/-- how many numbers stand in rows -/
def total : List (List Int) → Int
  | [] => 0
  | r :: rs => (r.length : Int) + total rs
theorem total_app : ∀ (a b : List (List Int)), total (a ++ b) = total a + total b
  | [], b => by show total b = 0 + total b; omega
  | r :: rs, b => by show (r.length : Int) + total (rs ++ b) = (r.length : Int) + total rs + total b; rw [total_app rs b]; omega
theorem total_le : ∀ (a : List (List Int)), (∀ r ∈ a, r.length ≤ 1048576) → 0 ≤ total a ∧ total a ≤ 1048576 * (a.length : Int)
  | [], _ => ⟨Int.le_refl _, by simp [total]⟩
  | r :: rs, h => by
    have h1 := h r List.mem_cons_self
    have h2 := total_le rs (fun q hq => h q (List.mem_cons_of_mem _ hq))
    simp only [total, List.length_cons]; omega
/-- rows, marked -/
def markRows : List (List Int) → Int → List (List Int)
  | [], _ => []
  | r :: rs, m => Pure.marks m r.length :: markRows rs (m + (r.length : Int))
theorem markRows_len : ∀ (a : List (List Int)) (m : Int), (markRows a m).length = a.length
  | [], _ => rfl
  | r :: rs, m => by simp only [markRows, List.length_cons]; rw [markRows_len rs]
theorem markRows_app : ∀ (a b : List (List Int)) (m : Int), markRows (a ++ b) m = markRows a m ++ markRows b (m + total a)
  | [], b, m => by simp [markRows, total]
  | r :: rs, b, m => by
    show Pure.marks m r.length :: markRows (rs ++ b) (m + (r.length : Int)) = _
    rw [markRows_app rs b]
    simp only [markRows, total, List.cons_append, Int.add_assoc]
theorem markIntSS_ev {l : List (List Int)} {m : Int} (hl : l.length ≤ 1048576) (hr : ∀ r ∈ l, r.length ≤ 1048576) (hm : 0 ≤ m ∧ m ≤ 1048577) : Pure.Evp (fun k => laws_markIntSS.g k l m) (· = (m + total l, markRows l m)) := by
  have hT := total_le l hr
  have key : ∀ d i, i + d = l.length → Pure.Evp (fun k => laws_markIntSS.l0 k (markRows (l.take i) m ++ l.drop i) (m + total (l.take i)) (i : Int)) (· = (m + total l, markRows l m)) := by
    intro d
    induction d with
    | zero =>
      intro i hi
      refine Pure.Evp.step (fun k => by rw [laws_markIntSS.l0]) ?_
      refine Pure.Evp.neg (by simp [markRows_len]; omega) ?_
      refine Pure.Evp.some' ?_
      rw [List.drop_eq_nil_of_le (by omega), List.append_nil, List.take_of_length_le (by omega)]
    | succ d ih =>
      intro i hi
      have hil : i < l.length := by omega
      have hti : (markRows (l.take i) m).length = i := by rw [markRows_len, List.length_take]; omega
      have hT2 := total_le (l.take i) (fun r h => hr r (List.mem_of_mem_take h))
      have hlt : (l.take i).length ≤ 1048576 := by rw [List.length_take]; omega
      have hri : (l[i]).length ≤ 1048576 := hr _ (List.getElem_mem _)
      refine Pure.Evp.step (fun k => by rw [laws_markIntSS.l0]) ?_
      refine Pure.Evp.pos (by simp [markRows_len]; omega) (Pure.Evp.pos (by omega) ?_)
      rw [Pure.wrap_succ (by omega)]
      have e0 : rd_L1 (markRows (l.take i) m ++ l.drop i) (i : Int) = l[i] := by
        unfold rd_L1
        rw [Int.toNat_natCast, List.getD_eq_getElem?_getD, List.getElem?_append_right (by omega), hti, Nat.sub_self, List.getElem?_drop, Nat.add_zero, List.getElem?_eq_getElem hil]; rfl
      rw [e0, Int.toNat_natCast]
      refine Pure.Evp.bind (Pure.markIntS_ev hri (by omega)) fun p hp => ?_
      subst hp
      have e : (markRows (l.take i) m ++ l.drop i).set i (Pure.marks (m + total (l.take i)) (l[i]).length) = markRows (l.take (i + 1)) m ++ l.drop (i + 1) := by
        rw [List.set_append, if_neg (by omega), hti, Nat.sub_self, List.drop_eq_getElem_cons hil, List.set_cons_zero, List.take_succ_eq_append_getElem hil, markRows_app]
        simp only [markRows, List.append_assoc, List.cons_append, List.nil_append]
      have e2 : m + total (l.take i) + ((l[i]).length : Int) = m + total (l.take (i + 1)) := by
        rw [List.take_succ_eq_append_getElem hil, total_app]
        simp only [total]; omega
      simp only [e, e2]
      exact ih (i + 1) (by omega)
  have := key l.length 0 (by omega)
  unfold laws_markIntSS.g
  simpa [markRows, total] using this
def laws_markIntSS.f (l0 : List (List Int)) (a1 : Int) : Option Int := if l0.length ≤ 1048576 ∧ (∀ r ∈ l0, r.length ≤ 1048576) ∧ 0 ≤ a1 ∧ a1 ≤ 1048577 then some (a1 + total l0) else none
theorem markIntSS_f {l : List (List Int)} {m : Int} (hl : l.length ≤ 1048576) (hr : ∀ r ∈ l, r.length ≤ 1048576) (hm : 0 ≤ m ∧ m ≤ 1048577) : laws_markIntSS.f l m = some (m + total l) := if_pos ⟨hl, hr, hm⟩
set_option maxHeartbeats 8000000 in
set_option maxRecDepth 100000 in
theorem laws_markIntSS.callsG (k : Nat) (P0_ : Nat → Prop) (A_ : Option Addr) (n_ c_ cc_ : Nat) (l0 : List (List Int)) (a1 : Int) (r1 : Int) (r2 : List (List Int)) (w0 w : World) (hB : Below w0.heap.size w0 w) (ho0 : Kd.S (Kd.slice 3 (Kd.int .i64)) 28 w w0.heap.size P0_ (.slice A_ n_ c_) l0) (h : laws_markIntSS.g k l0 a1 = some (r1, r2)) :
    Calls Try.prog 26 #[.slice A_ n_ cc_, .int .i64 a1] w fun e w' => e = .returned (.int .i64 r1) ∧ Kd.S (Kd.slice 3 (Kd.int .i64)) 28 w' w0.heap.size P0_ (.slice A_ n_ c_) r2 ∧ Below w0.heap.size w0 w' ∧ Kept w w' P0_ := by
  have HO0 := Aside0.mk ho0
  have HK := Aside0.mk (Kept.refl w P0_)
  have HB := Aside0.mk hB
  clear hB ho0
  have H' := Aside0.mk (show laws_markIntSS.l0 k l0 a1 0 = some (r1, r2) from h)
  clear h
  go_enter Try.func26, Try.ntmps26
  go_wp2
  go_loopg [1, 5] k (fun kq v1 v5 w' => ∃ (x0_1 : List (List Int)) (x1_1 : Int) (x5_1 : Int), v1 = .int .i64 x1_1 ∧ v5 = .int .i64 x5_1 ∧ Aside0 (laws_markIntSS.l0 kq x0_1 x1_1 x5_1 = some (r1, r2)) ∧ Aside0 (kq ≤ k) ∧ Aside0 (Kd.S (Kd.slice 3 (Kd.int .i64)) 28 w' w0.heap.size P0_ (.slice A_ n_ c_) x0_1) ∧ Aside0 (Kept w w' P0_) ∧ Aside0 (Below w0.heap.size w0 w'))
  case atStart => exact ⟨(l0), (a1), (0), zhn_2, zhn_2, H', ⟨Nat.le_refl _⟩, ⟨by (with_reducible repeat (first | apply Kd.S_alloc | apply Kd.S_drewN | apply Kd.S_drew)); exact HO0.out⟩, ⟨zhn_1⟩, ⟨zhn_0⟩⟩
  case round =>
    clear H'
    try clear c2
    try clear p2
    obtain ⟨x0_1, x1_1, x5_1, rfl, rfl, HA, HK1, HO_0, HK, HB⟩ := hrel
    obtain rfl : n_ = x0_1.length := (Kd.S_reads' HO_0.out).1
    cases gk with
    | zero => exact absurd HA.out (by simp [laws_markIntSS.l0])
    | succ k1 =>
      have H := HA.out
      clear HA
      simp only [laws_markIntSS.l0] at H
      by_cases c3 : x5_1 < (x0_1.length : Int)
      · rw [if_pos c3] at H
        have c3b0 : decide (x5_1 < (x0_1.length : Int)) = true := decide_eq_true c3
        clear c3
        by_cases c4 : 0 ≤ x5_1
        · rw [if_pos c4] at H
          have c4b0 : decide (0 ≤ x5_1) = true := decide_eq_true c4
          clear c4
          replace H := Option.bind_eq_some_iff.mp H
          obtain ⟨⟨t1, t2⟩, A70, H⟩ := H
          replace H : laws_markIntSS.l0 k1 (x0_1.set x5_1.toNat t2) t1 (wrap64 (x5_1 + 1)) = some (r1, r2) := H
          have A7 := Aside0.mk A70
          clear A70
          have H' := Aside0.mk H
          clear H
          have p5 : 0 ≤ (x5_1 : Int) := of_decide_eq_true (by first | (with_reducible assumption) | assumption)
          have q5 : (x5_1 : Int) < ((x0_1.length : Int) : Int) := of_decide_eq_true (by first | (with_reducible assumption) | assumption)
          obtain ⟨go5, co5, eo5, gb5, gl5, cl5, HG5⟩ := Kd.S_form HO_0.out (by omega)
          (first | cases eo5 | (injection eo5 with ea_ en_ ec_; (first | subst ea_ | (injection ea_ with ea_; subst ea_)); subst ec_; clear en_))
          clear gb5 gl5 HG5
          obtain ⟨oki, ci, hcl, hM, hcc, hoki, hH⟩ := Kd.S_lend HO_0.out ([] : List Int) x5_1 p5 q5
          replace hM : (Kd.slice 3 (Kd.int .i64)).M wr w0.heap.size oki (rd_L1 x0_1 x5_1) ci := hM
          obtain ⟨vi, rfl, hRi⟩ := hM
          obtain ⟨Ai, ai, rfl⟩ := Kd.R_slice hRi
          have hx5_0 := hcc 0 _ rfl
          rw [show x5_1.toNat * (Kd.slice 3 (Kd.int .i64)).sz + 0 = x5_1.toNat from by show x5_1.toNat * 1 + 0 = _; omega] at hx5_0
          clear hcc hcl
          have HRI := Aside0.mk hRi
          have HH := Aside0.mk hH
          have HOK := Aside0.mk hoki
          clear hRi hH hoki
          replace p5 := eq_true p5
          replace q5 := eq_true q5
          go_wp2_with (go_at_call 27; (with_reducible refine (laws_markIntS.calls k1 oki (.slice Ai (rd_L1 x0_1 x5_1).length ai) (rd_L1 x0_1 x5_1) x1_1 t1 t2 w0 _ ?side1 ?side2 A7.out).mono ?_); (case side1 => repeat (first | (with_reducible first | exact HB.out | apply below_alloc | apply pw_below_drewN | apply below_drew1) | exact HB.out)); (case side2 => (with_reducible repeat (first | apply Kd.R_alloc | apply Kd.R_drewN | apply Kd.R_drew)); exact HRI.out); rintro e w8 ⟨rfl, hy0, hb, hkp⟩; have n0_ := Aside0.mk (Kd.H_back (Kd.H_step HH.out (fun k_ _ hn_ hl_ => hkp.2 k_ hl_ hn_)) ⟨_, rfl, Kd.R_tight rfl hy0⟩ (fun k_ hk_ => HRI.out.1 k_ hk_.symm)); have n1_ := Aside0.mk (HK.out.then_ hkp (fun k_ hk_ => .inl (HOK.out k_ hk_).1)); have n2_ := Aside0.mk hb; clear HO_0 HK HB HH HRI; have HO_0 := n0_; have HK := n1_; have HB := n2_; clear n0_ n1_ n2_ hb hkp hy0)
          go_roundg k1
          case measure => have := HK1.out; omega
          case rel => exact ⟨(x0_1.set x5_1.toNat t2), t1, (wrap64 (x5_1 + 1)), zhn_2, zhn_2, H', ⟨by have := HK1.out; omega⟩, ⟨by (with_reducible repeat (first | apply Kd.S_alloc | apply Kd.S_drewN | apply Kd.S_drew)); exact HO_0.out⟩, ⟨zhn_1⟩, ⟨zhn_0⟩⟩
        · rw [if_neg c4] at H
          exact absurd H (by simp)
      · rw [if_neg c3] at H
        have c3b0 : decide (x5_1 < (x0_1.length : Int)) = false := decide_eq_false c3
        clear c3
        simp only [Option.some.injEq, Prod.mk.injEq] at H
        obtain ⟨rfl, rfl⟩ := H
        go_wp2
        go_ret
        exact ⟨by first | rfl | (simp [errW_none, errW_some] <;> rfl) | (simp [*, errW_none, errW_some] <;> rfl), by (with_reducible repeat (first | apply Kd.S_alloc | apply Kd.S_drewN | apply Kd.S_drew)); exact HO_0.out, zhn_0, zhn_1⟩
/-- The same, by what its answer is. -/
theorem laws_markIntSS.callsH (P0_ : Nat → Prop) (A_ : Option Addr) (n_ c_ cc_ : Nat) (l0 : List (List Int)) (a1 r1 : Int) (w0 w : World) (hB : Below w0.heap.size w0 w) (ho0 : Kd.S (Kd.slice 3 (Kd.int .i64)) 28 w w0.heap.size P0_ (.slice A_ n_ c_) l0) (h : laws_markIntSS.f l0 a1 = some r1) :
    Calls Try.prog 26 #[.slice A_ n_ cc_, .int .i64 a1] w fun e w' => e = .returned (.int .i64 r1) ∧ Kd.S (Kd.slice 3 (Kd.int .i64)) 28 w' w0.heap.size P0_ (.slice A_ n_ c_) (markRows l0 a1) ∧ Below w0.heap.size w0 w' ∧ Kept w w' P0_ := by
  unfold laws_markIntSS.f at h
  by_cases hc : l0.length ≤ 1048576 ∧ (∀ r ∈ l0, r.length ≤ 1048576) ∧ 0 ≤ a1 ∧ a1 ≤ 1048577
  · rw [if_pos hc] at h
    obtain rfl := Option.some.inj h
    obtain ⟨k, hk⟩ := Pure.Evp.rounds (markIntSS_ev hc.1 hc.2.1 hc.2.2)
    exact laws_markIntSS.callsG k P0_ A_ n_ c_ cc_ l0 a1 _ _ w0 w hB ho0 hk
  · rw [if_neg hc] at h
    exact absurd h (by simp)
section
variable {α : Type} {d : Kd α} {e base : Nat} {ok : Nat → Prop} {W w1 : World} {v : Value} {xs : List α}
theorem S_rng_old (h : Kd.S d e W base ok v xs) (hb : Below W.heap.size W w1) : Kd.S d e w1 base (fun k => k < W.heap.size) v xs := Kd.S_mono (Kd.S_below (Kd.S_bound h) hb) (fun _ hk => hk.2.2.1)
theorem S_rng_new (h : Kd.S d e w1 W.heap.size ok v xs) : Kd.S d e w1 W.heap.size (fun k => W.heap.size ≤ k ∧ k < w1.heap.size) v xs := Kd.S_mono (Kd.S_bound h) (fun _ hk => ⟨hk.2.1, hk.2.2.1⟩)
end
end Go.Proofs.Ytbhmgbeebhmfkaa.PA
