import Derived.Test.YtbhmgbeebhmfkaaPAx0
import Derived.Test.YtbhmgbeebhmfkaaPAx6
import Derived.Test.YtbhmgbeebhmfkaaPAx9
import Derived.Test.YtbhmgbeebhmfkaaLf
import Derived.Test.YtbhmgbeebhmfkaaHp
/- impl.SpanFirst's contract, for all rows: what it returns is a row of its own but for the spare, which is cut off. -/
set_option linter.unusedVariables false
namespace Go.Proofs.Ytbhmgbeebhmfkaa.PA
open Go.RowKit Go.Proofs.Ytbhmgbeebhmfkaa.PA Go.Proofs.YtbhmgbeebhmfkaaW.PrintWords Go.Proofs.YtbhmgbeebhmfkaaW.PrintLast Go.Proofs.YtbhmgbeebhmfkaaW.PrintMore Go.Proofs.Ytbhmgbeebhmfkaa.Lin

theorem zhf_0 {p : Prop} (h : p := by repeat (first | (with_reducible first | exact HB.out | apply below_alloc | apply pw_below_drewN | apply below_drew1) | exact HB.out)) : p := h
theorem zhf_1 {p : Prop} (h : p := by (try simp only [List.map_toArray, List.map_cons, List.map_nil]); first | done | rfl) : p := h
set_option maxHeartbeats 8000000 in
set_option maxRecDepth 100000 in
theorem impl_SpanFirst.calls1 (k k1 : Nat) (A0 : Option Addr) (c0 : Nat) (l0 : List (List Int)) (x : List S59) (ks : List S77) (pv : List Int) (w : World) (hr0 : Kd.C (Kd.slice 3 (Kd.int .i64)) w A0 l0.length l0) (hc0 : l0.length ≤ c0) (a2 : impl_matrixOf.f k l0 = some (x, true)) (a4 : impl_spanOf.f k1 x = some (ks, pv)) :
    Calls Try.prog 25 #[.slice A0 l0.length c0] w fun e w' => ∃ v0_ : Value, e = .returned (clip v0_) ∧ Kd.R (Kd.int .i64) 3 w' w.heap.size (fun _ => True) v0_ pv ∧ Below w.heap.size w w' := by
  have HR0 := Aside0.mk hr0
  have HC0 := Aside0.mk hc0
  clear hr0 hc0
  have HB := Aside0.mk (Below.refl w.heap.size w)
  have A2 := Aside0.mk a2
  have A4 := Aside0.mk a4
  clear a2 a4
  go_enter Try.func25, Try.ntmps25
  go_wp2_with (first | ((with_reducible refine gate_callee (f := 49) rfl ?_); refine goesL_ (some 7) rfl rfl Try.func49 (by kernel_rfl) rfl #[.slice A0 l0.length c0] rfl zhf_1 ?_; (with_reducible refine (impl_matrixOf.calls k _ _ l0 x true _ ?side1 ?side2 A2.out).mono ?_); (case side1 => repeat (first | exact HR0.out | (with_reducible refine Kd.C_alloc ?_ _) | (with_reducible refine Kd.C_drewN ?_ _) | (with_reducible refine Kd.C_drew ?_))); (case side2 => exact HC0.out); rintro e w5 ⟨v298, rfl, ho0, hb⟩; refine ⟨_, rfl, ?_⟩; have n0_ := Aside0.mk (Kd.R_lower ho0 (below_size zhf_0)); have n1_ := Aside0.mk (below_step zhf_0 hb); clear HB; have HO299 := n0_; have HB := n1_; clear n0_ n1_; (try clear hb); (try clear ho0); obtain ⟨Ao6, co6, eo6⟩ := Kd.R_slice HO299.out; subst eo6) | ((with_reducible refine gate_callee (f := 54) rfl ?_); refine goesL_ (some 13) rfl rfl Try.func54 (by kernel_rfl) rfl #[.slice Ao6 x.length co6] rfl zhf_1 ?_; (with_reducible refine (impl_spanOf.calls k1 _ _ x ks pv _ ?side1 ?side2 A4.out).mono ?_); (case side1 => repeat (first | exact (Kd.R_reads' HO299.out).2.2 | (with_reducible refine Kd.C_alloc ?_ _) | (with_reducible refine Kd.C_drewN ?_ _) | (with_reducible refine Kd.C_drew ?_))); (case side2 => exact (Kd.R_reads' HO299.out).2.1); rintro e w7 ⟨v290, v293, gb295, rfl, hbox, hgr, ho0, ho1, hb⟩; refine ⟨_, rfl, ?_⟩; have n1_ := Aside0.mk (Kd.R_lower ho1 (below_size zhf_0)); have n2_ := Aside0.mk (hbox); have n5_ := Aside0.mk (below_step zhf_0 hb); clear HB; clear HO299; have HO294 := n1_; have BK295 := n2_; have HB := n5_; clear n1_ n2_ n5_; (try clear hb); (try clear ho0); (try clear ho1); have hcz4_1 : w7.cell? ⟨gb295, 1, none⟩ = some (v293) := (blk_cell BK295.out 1).trans rfl; have hfz4_1 := blk_frozen BK295.out 1; obtain ⟨Ao5, co5, eo5⟩ := Kd.R_slice HO294.out; subst eo5) | ((with_reducible refine gate_callee (f := 53) rfl ?_); refine goesL_ (some 17) rfl rfl Try.func53 (by kernel_rfl) rfl #[.slice Ao5 pv.length co5] rfl zhf_1 ?_; (with_reducible refine (slices_Clip_int.calls _ _ _ ?side1 _).mono ?_); (case side1 => exact (Kd.R_reads' HO294.out).2.1); rintro e w9 ⟨rfl, hb⟩; refine ⟨_, rfl, ?_⟩; have n0_ := Aside0.mk (Kd.R_below (by (with_reducible repeat (first | apply Kd.R_alloc | apply Kd.R_drewN | apply Kd.R_drew)); exact HO294.out) hb); have n1_ := Aside0.mk (below_step zhf_0 hb); clear HO294; clear HB; have HO294 := n0_; have HB := n1_; clear n0_ n1_; (try clear hb)))
  go_ret
  exact ⟨.slice Ao5 pv.length co5, by rfl, (by (with_reducible repeat (first | apply Kd.R_alloc | apply Kd.R_drewN | apply Kd.R_drew)); exact Kd.R_mono HO294.out (fun _ _ => trivial)), zhf_0⟩
set_option maxHeartbeats 8000000 in
set_option maxRecDepth 100000 in
theorem impl_SpanFirst.calls2 (k : Nat) (A0 : Option Addr) (c0 : Nat) (l0 : List (List Int)) (x : List S59) (w : World) (hr0 : Kd.C (Kd.slice 3 (Kd.int .i64)) w A0 l0.length l0) (hc0 : l0.length ≤ c0) (a2 : impl_matrixOf.f k l0 = some (x, false)) :
    Calls Try.prog 25 #[.slice A0 l0.length c0] w fun e w' => ∃ v0_ : Value, e = .returned (clip v0_) ∧ Kd.R (Kd.int .i64) 3 w' w.heap.size (fun _ => True) v0_ [] ∧ Below w.heap.size w w' := by
  have HR0 := Aside0.mk hr0
  have HC0 := Aside0.mk hc0
  clear hr0 hc0
  have HB := Aside0.mk (Below.refl w.heap.size w)
  have A2 := Aside0.mk a2
  clear a2
  go_enter Try.func25, Try.ntmps25
  go_wp2_with (first | ((with_reducible refine gate_callee (f := 49) rfl ?_); refine goesL_ (some 7) rfl rfl Try.func49 (by kernel_rfl) rfl #[.slice A0 l0.length c0] rfl zhf_1 ?_; (with_reducible refine (impl_matrixOf.calls k _ _ l0 x false _ ?side1 ?side2 A2.out).mono ?_); (case side1 => repeat (first | exact HR0.out | (with_reducible refine Kd.C_alloc ?_ _) | (with_reducible refine Kd.C_drewN ?_ _) | (with_reducible refine Kd.C_drew ?_))); (case side2 => exact HC0.out); rintro e w5 ⟨v298, rfl, ho0, hb⟩; refine ⟨_, rfl, ?_⟩; have n1_ := Aside0.mk (below_step zhf_0 hb); clear HB; have HB := n1_; clear n1_; (try clear hb); (try clear ho0)))
  go_ret
  exact ⟨.slice none 0 0, by rfl, Kd.R_nil _ _ _ _ _, zhf_0⟩
def impl_SpanFirst.f (l0 : List (List Int)) : Option (List Int) := if l0.length ≤ 1048576 then some (if mok l0 = true then (lfirst l0).map (fun (j : Nat) => (j : Int)) else []) else none
theorem impl_SpanFirst.calls (A0 : Option Addr) (c0 : Nat) (l0 : List (List Int)) (r : List Int) (w : World) (hr0 : Kd.C (Kd.slice 3 (Kd.int .i64)) w A0 l0.length l0) (hc0 : l0.length ≤ c0) (h : impl_SpanFirst.f l0 = some r) :
  Calls Try.prog 25 #[.slice A0 l0.length c0] w fun e w' => ∃ v0_ : Value, e = .returned (clip v0_) ∧ Kd.R (Kd.int .i64) 3 w' w.heap.size (fun _ => True) v0_ r ∧ Below w.heap.size w w' := by
 unfold impl_SpanFirst.f at h
 by_cases hm : l0.length ≤ 1048576
 ·rw [if_pos hm] at h
  obtain rfl := Option.some.inj h
  obtain ⟨k, hk⟩ := Pure.Evp.rounds (Pure.impl_matrixOf_ev hm)
  by_cases ho : mok l0 = true
  ·obtain ⟨h8, hv⟩ := mok_iff.1 ho
   rw [if_pos (by simpa using hv), decide_eq_true h8] at hk
   obtain ⟨k1, hk1⟩ := Pure.Evp.rounds (Pure.spanOf_ev hv h8)
   obtain ⟨_, _, h3, _, _⟩ := Pure.kspan_inv hv h8 l0.length (Nat.le_refl _)
   rw [if_pos ho, lfirst_piv hv, ← h3]
   exact impl_SpanFirst.calls1 k k1 A0 c0 l0 _ _ _ w hr0 hc0 hk hk1
  ·rw [if_neg ho]
   by_cases ha : l0.all vok = true
   ·rw [if_pos ha, decide_eq_false (fun h8 => ho (mok_iff.2 ⟨h8, by simpa using ha⟩))] at hk
    exact impl_SpanFirst.calls2 k A0 c0 l0 _ w hr0 hc0 hk
   ·rw [if_neg ha] at hk
    exact impl_SpanFirst.calls2 k A0 c0 l0 _ w hr0 hc0 hk
 ·rw [if_neg hm] at h; exact absurd h (by simp)
end Go.Proofs.Ytbhmgbeebhmfkaa.PA
