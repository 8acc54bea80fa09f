import Derived.Test.YtamaejafddmagaaPAx0
import Derived.Test.YtamaejafddmagaaPAx1
import Derived.Test.YtamaejafddmagaaPAx12
import Derived.Test.YtamaejafddmagaaPAx13
import Derived.Test.YtamaejafddmagaaHq
import Derived.Test.YtamaejafddmagaaLm
/- impl.CodeMost: its contract, out of chosen's. -/
set_option linter.unusedVariables false
set_option linter.unusedSimpArgs false
namespace Go.Proofs.Ytamaejafddmagaa.PA
open Go.RowKit Go.Proofs.Ytamaejafddmagaa.PA Go.Proofs.YtamaejafddmagaaW.PrintWords Go.Proofs.YtamaejafddmagaaW.PrintLast Go.Proofs.YtamaejafddmagaaW.PrintMore

theorem zhm_0 {p : Prop} (h : p := by repeat (first | (with_reducible first | exact HB.out | apply below_alloc | apply pw_below_drewN | apply below_drew1) | exact HB.out)) : p := h
theorem zhm_1 {p : Prop} (h : p := by (with_reducible repeat (first | refine blk_drewN ?_ _ | refine blk_drew ?_ | refine blk_alloc ?_ _)); exact BK.out) : p := h
def eight : List Int := [0, 1, 2, 3, 4, 5, 6, 7]
/-- how many are left, at the least, so that none is found -/
def lmostN (q : Nat → Bool) : Nat → Nat
  | 0 => 0
  | n + 1 => if q n = true then n + 1 else lmostN q n
def someSet (bv : List Int → Bool) (m : Nat) : Bool := (comb (fun xs => !bv xs) eight m []).isSome
set_option maxHeartbeats 1000000 in
set_option maxRecDepth 100000 in
theorem impl_CodeMost_1.calls (k : Nat) (a0 : Int) (bk : Nat) (A1 : Option Addr) (c1 : Nat) (l1 : List Int) (r : Bool) (w : World) (hbk : w.heap[bk]? = some (.cells #[.int .i64 a0] 3 (0, 0))) (hr1 : Kd.C (Kd.int .i64) w A1 l1.length l1) (hc1 : l1.length ≤ c1) (h : impl_bears.f k a0 l1 = some r) :
  Calls Try.prog 75 #[.slice A1 l1.length c1, .pointer (some ⟨bk, 0, none⟩)] w fun e w' => e = .returned (.bool (!r)) ∧ Below w.heap.size w w' := by
 have ck := cell_of_one hbk
 have HB := Aside0.mk (impl_bears.calls k a0 _ _ l1 r w hr1 hc1 h)
 clear h hr1
 go_enter Try.func75, Try.ntmps75
 cases r with
 | true =>
  go_wp2_with (go_at_call 69; refine HB.out.mono ?_; rintro e w' ⟨rfl, hb⟩)
  go_ret
  exact ⟨rfl, hb⟩
 | false =>
  go_wp2_with (go_at_call 69; refine HB.out.mono ?_; rintro e w' ⟨rfl, hb⟩)
  go_ret
  exact ⟨rfl, hb⟩
theorem below_low {w W W' : World} {b : Nat} (h : Below w.heap.size w W) (hb : Below b W W') (hle : w.heap.size ≤ b) : Below w.heap.size w W' :=
  ⟨hb.os.trans h.os, hb.tape.trans h.tape, hb.output.trans h.output, Nat.le_trans h.size hb.size, fun k hk => (hb.block k (Nat.lt_of_lt_of_le hk hle)).trans (h.block k hk)⟩
theorem below_of_grown {w W : World} (h : w.grownBy W none) : Below w.heap.size w W := ⟨h.os, h.tape, h.output, h.size, fun k hk => h.block k hk (by simp)⟩
/-- chosen, for a code's sets that do not suffice -/
theorem codeMost_chosen (a0 : Int) (bv : List Int → Bool) (hbv : ∀ xs : List Int, xs.length ≤ 8 → (∀ x ∈ xs, 0 ≤ x ∧ x ≤ 7) → ∃ k, impl_bears.f k a0 xs = some (bv xs)) (bk : Nat) (A : Option Addr) (c : Nat) (n : Nat) (hn : n ≤ 8) (w W : World) (hB : Below w.heap.size w W) (hbk : W.heap[bk]? = some (.cells #[.int .i64 a0] 3 (0, 0))) (hC : Kd.C (Kd.int .i64) W A eight.length eight) (hc : eight.length ≤ c) :
    Calls Try.prog 73 #[.slice A eight.length c, .int .i64 (n : Int), .func (.func 75) #[] #[.pointer (some ⟨bk, 0, none⟩)]] W fun e w' => e = .returned (.bool (someSet bv n)) ∧ w'.heap[bk]? = some (.cells #[.int .i64 a0] 3 (0, 0)) ∧ Below w.heap.size w w' := by
  have hlt := blk_lt hbk
  have hle := hB.size
  refine (impl_chosen.calls W none (fun _ h => by cases h) eight (by decide) n (by omega) A c #[.pointer (some ⟨bk, 0, none⟩)] (fun W' hg => Kd.C_below hC (below_of_grown hg)) hc (fun xs => !bv xs) (fun xs => ∀ x ∈ xs, 0 ≤ x ∧ x ≤ 7)
    (fun W' => W'.heap[bk]? = some (.cells #[.int .i64 a0] 3 (0, 0)) ∧ Below w.heap.size w W') (fun _ W' => W'.heap[bk]? = some (.cells #[.int .i64 a0] 3 (0, 0)) ∧ Below w.heap.size w W') (by simp) ?_ ⟨hbk, hB⟩ ?_ ?_ ?_).mono ?_
  · intro xs y hx hy x hm
    rcases List.mem_append.1 hm with h | h
    · exact hx x h
    · obtain rfl := List.mem_singleton.1 h
      simp [eight] at hy; omega
  · exact fun W1 W2 h hb => ⟨(hb.block bk hlt).trans h.1, below_low h.2 hb hle⟩
  · exact fun _ W1 W2 h hb => ⟨blk_below h.1 hb, below_low h.2 hb h.2.size⟩
  · intro xs A' c' W1 hv hl hq hc' hr
    obtain ⟨k, hk⟩ := hbv xs (by omega) hv
    refine (impl_CodeMost_1.calls k a0 bk A' c' xs (bv xs) W1 hq.1 hr hc' hk).mono ?_
    rintro e W2 ⟨rfl, hb⟩
    have hq2 : W2.heap[bk]? = some (.cells #[.int .i64 a0] 3 (0, 0)) ∧ Below w.heap.size w W2 := ⟨blk_below hq.1 hb, below_low hq.2 hb hq.2.size⟩
    exact ⟨rfl, ⟨hb.os, hb.tape, hb.output, hb.size, fun k hk _ => hb.block k hk⟩, by split <;> exact hq2⟩
  · intro e w' hp
    unfold someSet
    unfold ChPost at hp
    cases hcb : comb (fun xs => !bv xs) eight n [] with
    | none => rw [hcb] at hp; exact ⟨hp.1, hp.2.2⟩
    | some ys => rw [hcb] at hp; exact ⟨hp.1, hp.2.2⟩
set_option maxHeartbeats 1000000 in
set_option maxRecDepth 100000 in
theorem impl_CodeMost.callsG (kE : Nat) (hE : impl_everyShard.f kE = some eight) (a0 : Int) (hk : impl_kindOk.f a0 = some true) (bv : List Int → Bool) (hbv : ∀ xs : List Int, xs.length ≤ 8 → (∀ x ∈ xs, 0 ≤ x ∧ x ≤ 7) → ∃ k, impl_bears.f k a0 xs = some (bv xs)) (w : World) :
    Calls Try.prog 32 #[.int .i64 a0] w fun e w' => e = .returned (.int .i64 (8 - (lmostN (someSet bv) 8 : Int))) ∧ Below w.heap.size w w' := by
  have hmf : ∀ (fn : Fn) (first cap : Array Value) (w : World), (Instr.makeFunc fn first cap).run Try.prog w = .ok (.func fn first cap) w := fun _ _ _ _ => rfl
  have HE := Aside0.mk hE
  have HK := Aside0.mk hk
  have HV := Aside0.mk hbv
  clear hE hk hbv
  go_enter Try.func32, Try.ntmps32
  go_wp2_with (first | ((with_reducible refine gate_dst (N := 1) rfl ?_); refine box_event ?hg (N := 1) ?hd (cs := #[.int .i64 a0]) (t := 3) ?hr ?_; (case hd => rfl); (case hg => rfl); (case hr => first | (go_simp; done) | (go_simp; rfl)); intro bk ek w1 hbk hb1; have BK := Aside0.mk hbk; have HB := Aside0.mk hb1; have ck := cell_of_one hbk; clear ek hb1 hbk) | (go_at_call 68; refine (impl_kindOk.calls a0 true _ HK.out).mono ?_; rintro e w2 ⟨rfl, ⟨nd, rfl⟩⟩))
  go_loopg [3] 8 (fun kq v3 w' => ∃ left : Nat, v3 = .int .i64 (left : Int) ∧ Aside0 (left ≤ 8 ∧ kq = left ∧ lmostN (someSet bv) left = lmostN (someSet bv) 8) ∧ Aside0 (w'.heap[bk]? = some (.cells #[.int .i64 a0] 3 (0, 0))) ∧ Aside0 (Below w.heap.size w w'))
  case atStart => exact ⟨8, rfl, ⟨⟨Nat.le_refl _, rfl, rfl⟩⟩, ⟨zhm_1⟩, ⟨zhm_0⟩⟩
  case round =>
    clear ck BK HB
    obtain ⟨left, rfl, HL, BK, HB⟩ := hrel
    obtain ⟨h8, hq, hm⟩ := HL.out
    cases left with
    | zero =>
      have e0 : decide ((0 : Int) < ((0 : Nat) : Int)) = false := rfl
      go_wp2
      go_ret
      exact ⟨by rw [← hm]; rfl, zhm_0⟩
    | succ n =>
      have hn : n ≤ 8 := by omega
      have e1 : decide ((0 : Int) < ((n + 1 : Nat) : Int)) = true := decide_eq_true (by omega)
      have HM := Aside0.mk hm
      clear hm HL
      cases hs : someSet bv n with
      | true =>
        go_wp2_with (first | (go_at_call 74; refine (impl_everyShard.calls kE _ _ HE.out).mono ?_; rintro e w3 ⟨vE, rfl, hrE, hbE⟩; obtain ⟨AE, cE, rfl⟩ := Kd.R_slice hrE; have HC := Aside0.mk (codeMost_chosen a0 bv HV.out bk AE cE n hn w w3 (below_step zhm_0 hbE) (blk_below zhm_1 hbE) (Kd.R_reads' hrE).2.2 (Kd.R_reads' hrE).2.1); clear hrE hbE) | (go_at_call 73; refine HC.out.mono ?_; rintro e w4 ⟨rfl, hbk4, hB4⟩; rw [hs]; have BK4 := Aside0.mk hbk4; have HB4 := Aside0.mk hB4; clear hbk4 hB4))
        go_ret
        exact ⟨by rw [← HM.out, lmostN, if_pos hs]; simp, HB4.out⟩
      | false =>
        go_wp2_with (first | (go_at_call 74; refine (impl_everyShard.calls kE _ _ HE.out).mono ?_; rintro e w3 ⟨vE, rfl, hrE, hbE⟩; obtain ⟨AE, cE, rfl⟩ := Kd.R_slice hrE; have HC := Aside0.mk (codeMost_chosen a0 bv HV.out bk AE cE n hn w w3 (below_step zhm_0 hbE) (blk_below zhm_1 hbE) (Kd.R_reads' hrE).2.2 (Kd.R_reads' hrE).2.1); clear hrE hbE) | (go_at_call 73; refine HC.out.mono ?_; rintro e w4 ⟨rfl, hbk4, hB4⟩; rw [hs]; have BK4 := Aside0.mk hbk4; have HB4 := Aside0.mk hB4; clear hbk4 hB4))
        go_roundg n
        case measure => omega
        case rel => exact ⟨n, rfl, ⟨⟨by omega, rfl, by rw [← HM.out, lmostN, if_neg (by rw [hs]; decide)]⟩⟩, BK4, HB4⟩
theorem most_one : lmostN (someSet (Lq.bearsL 1)) 8 = 5 := by decide +kernel
theorem most_two : lmostN (someSet (Lq.bearsL 2)) 8 = 4 := by decide +kernel
set_option maxHeartbeats 1000000 in
set_option maxRecDepth 100000 in
theorem impl_CodeMost.callsN (a0 : Int) (hk : impl_kindOk.f a0 = some false) (w : World) : Calls Try.prog 32 #[.int .i64 a0] w fun e w' => e = .returned (.int .i64 (-1)) ∧ Below w.heap.size w w' := by
  have HK := Aside0.mk hk
  clear hk
  go_enter Try.func32, Try.ntmps32
  go_wp2_with (first | ((with_reducible refine gate_dst (N := 1) rfl ?_); refine box_event ?hg (N := 1) ?hd (cs := #[.int .i64 a0]) (t := 3) ?hr ?_; (case hd => rfl); (case hg => rfl); (case hr => first | (go_simp; done) | (go_simp; rfl)); intro bk ek w1 hbk hb1; have BK := Aside0.mk hbk; have HB := Aside0.mk hb1; have ck := cell_of_one hbk; clear ek hb1 hbk) | (go_at_call 68; refine (impl_kindOk.calls a0 false _ HK.out).mono ?_; rintro e w2 ⟨rfl, ⟨nd, rfl⟩⟩))
  go_ret
  exact ⟨rfl, zhm_0⟩
/-- how many may be lost, by the kind -/
def impl_CodeMost.f (a0 : Int) : Option Int := some (if a0 = 1 then 3 else if a0 = 2 then 4 else -1)
theorem impl_CodeMost.calls (a0 : Int) (r : Int) (w : World) (h : impl_CodeMost.f a0 = some r) :
  Calls Try.prog 32 #[.int .i64 a0] w fun e w' => e = .returned (.int .i64 r) ∧ Below w.heap.size w w' := by
 obtain rfl := Option.some.inj h
 obtain ⟨kE, hE⟩ := Lq.Evp.rounds Lq.everyShard_ev
 have hb : ∀ kind : Int, Lin.lkind kind = true → ∀ xs : List Int, xs.length ≤ 8 → (∀ x ∈ xs, 0 ≤ x ∧ x ≤ 7) → ∃ k, impl_bears.f k kind xs = some (Lq.bearsL kind xs) := fun kind hk xs h8 hx => Lq.Evp.rounds (Lq.bearsL_ev hk (fun x hm => by have := hx x hm; unfold Lin.lshard; simp; omega) h8)
 by_cases h1 : a0 = 1
 ·subst h1
  have := impl_CodeMost.callsG kE hE 1 (Lq.impl_kindOk_eq 1) (Lq.bearsL 1) (hb 1 rfl) w
  rw [most_one] at this
  exact this
 ·by_cases h2 : a0 = 2
  ·subst h2
   have := impl_CodeMost.callsG kE hE 2 (Lq.impl_kindOk_eq 2) (Lq.bearsL 2) (hb 2 rfl) w
   rw [most_two] at this
   exact this
  ·rw [if_neg h1, if_neg h2]
   exact impl_CodeMost.callsN a0 ((Lq.impl_kindOk_eq a0).trans (by unfold Lin.lkind; simp; omega)) w
end Go.Proofs.Ytamaejafddmagaa.PA
