-- Written by a program of this session (after the manner of the kit's print, several laws in one text).
import Derived.Test.YtbhmgbeebhmfkaaPAx0
import Derived.Test.YtbhmgbeebhmfkaaPAx26
import Derived.Test.YtbhmgbeebhmfkaaGw
import Derived.Test.YtbhmgbeebhmfkaaGm
namespace Go.Proofs.Ytbhmgbeebhmfkaa.PA
open Go.RowKit Go.Proofs.YtbhmgbeebhmfkaaW.PrintWords Go.Proofs.YtbhmgbeebhmfkaaW.PrintLast Go.Proofs.YtbhmgbeebhmfkaaW.PrintMore
attribute [local go_sem] max2_int min2_int max_two min_two max_three min_three max_four min_four   -- for this text's walks alone
set_option linter.unusedVariables false
set_option linter.unusedSimpArgs false

/-! ### impl_VecScale: function 69 -/
theorem z27_0 {p : Prop} (h : p := by repeat (first | (with_reducible first | exact HB.out | apply below_alloc | apply pw_below_drewN | apply below_drew1 | refine below_set ?_ GE624.out) | exact HB.out)) : p := h
theorem z27_1 {p : Prop} (h : p := by repeat (first | (with_reducible first | exact HB.out | apply below_alloc | apply pw_below_drewN | apply below_drew1) | exact HB.out)) : p := h
theorem z27_2 {p : Prop} (h : p := by (with_reducible repeat (first | refine blk_drewN ?_ _ | refine blk_drew ?_ | refine blk_alloc ?_ _)); exact BK624.out) : p := h
theorem z27_3 {p : Prop} (h : p := by (try simp only [List.map_toArray, List.map_cons, List.map_nil]); first | done | rfl | (simp only [List.length_drop, List.length_take]; rfl)) : p := h
def impl_VecScale.j0 : Nat → Int → Bool → Int → Int → Int → Int → Option (List Int)
  | 0, _, _, _, _, _, _ => none
  | k + 1, x1, x18, x625000, x625001, x625002, x625003 => if x18 = true then (some ([] : List Int)) else ((impl_vector_times.f x625000 x625001 x625002 x625003 x1).bind fun bt626 => ((impl_vector_list.f bt626.1 bt626.2.1 bt626.2.2.1 bt626.2.2.2).bind fun t630 => (some t630)))
def impl_VecScale.f (k : Nat) (l0 : List Int) (a1 : Int) : Option (List Int) := (impl_vectorOf.f l0).bind fun bt619 => (if bt619.2.2.2.2 = true then ((impl_FieldOk.f a1).bind fun t625 => (impl_VecScale.j0 k a1 (!t625) bt619.1 bt619.2.1 bt619.2.2.1 bt619.2.2.2.1)) else (impl_VecScale.j0 k a1 true bt619.1 bt619.2.1 bt619.2.2.1 bt619.2.2.2.1))
set_option maxHeartbeats 8000000 in
set_option maxRecDepth 100000 in
theorem impl_VecScale.calls (k : Nat) (A0 : Option Addr) (c0 : Nat) (l0 : List Int) (a1 : Int) (r : List Int) (w : World) (hr0 : Kd.C (Kd.int .i64) w A0 l0.length l0) (hc0 : l0.length ≤ c0) (h : impl_VecScale.f k l0 a1 = some r) :
  Calls Try.prog 69 #[.slice A0 l0.length c0, .int .i64 a1] w fun e w' => ∃ v0_ : Value, e = .returned (v0_) ∧ Kd.R (Kd.int .i64) 3 w' w.heap.size (fun _ => True) v0_ r ∧ Below w.heap.size w w' := by
 have hu59 := Try.underlying59
 have HR0 := Aside0.mk hr0
 have HC0 := Aside0.mk hc0
 clear hr0 hc0
 have HB := Aside0.mk (Below.refl w.heap.size w)
 have H : ((impl_vectorOf.f l0).bind fun bt619 => (if bt619.2.2.2.2 = true then ((impl_FieldOk.f a1).bind fun t625 => (impl_VecScale.j0 k a1 (!t625) bt619.1 bt619.2.1 bt619.2.2.1 bt619.2.2.2.1)) else (impl_VecScale.j0 k a1 true bt619.1 bt619.2.1 bt619.2.2.1 bt619.2.2.2.1))) = some r := h
 clear h
 replace H := Option.bind_eq_some_iff.mp H
 obtain ⟨⟨t619, t620, t621, t622, t623⟩, A30, H⟩ := H
 replace H : (if t623 = true then ((impl_FieldOk.f a1).bind fun t625 => (impl_VecScale.j0 k a1 (!t625) t619 t620 t621 t622)) else (impl_VecScale.j0 k a1 true t619 t620 t621 t622)) = some r := H
 have A3 := Aside0.mk A30
 clear A30
 have HC4 := Aside0.mk H
 clear H
 go_enter Try.func69, Try.ntmps69
 go_upto_region 2 with (first | ((with_reducible refine gate_callee (f := 56) rfl ?_); refine goesL_ (some 9) rfl rfl Try.func56 (by kernel_rfl) rfl #[.slice A0 l0.length c0] rfl z27_3 ?_; (with_reducible refine (impl_vectorOf.calls _ _ l0 t619 t620 t621 t622 t623 _ ?side1 ?side2 A3.out).mono ?_); (case side1 => repeat (first | exact HR0.out | (with_reducible refine Kd.C_alloc ?_ _) | (with_reducible refine Kd.C_drewN ?_ _) | (with_reducible refine Kd.C_drew ?_))); (case side2 => exact HC0.out); rintro e w5 ⟨rfl, hb⟩; refine ⟨_, rfl, ?_⟩; have n0_ := Aside0.mk (below_step z27_1 hb); clear HB; have HB := n0_; clear n0_; (try clear hb); (try clear hb2); (try clear hk); (try clear hi)) | ((with_reducible refine gate_dst (N := 5) rfl ?_); refine box_event ?hg (N := 5) ?hd (cs := #[.int .i64 0, .int .i64 0, .int .i64 0, .int .i64 0]) (t := 59) ?hr ?_; (case hd => rfl); (case hg => rfl); (case hr => first | (go_simp; done) | (go_simp; rfl)); intro gb624 hg w6 hbox hb; have n0_ := Aside0.mk (below_step z27_1 hb); have n1_ := Aside0.mk (hbox); have n2_ := Aside0.mk ((by rw [hg]; exact (below_size z27_1) : w.heap.size ≤ gb624)); have n3_ := Aside0.mk ((by rw [hg]; exact (below_size z27_1) : w.heap.size ≤ gb624)); clear HB; have HB := n0_; have BK624 := n1_; have GW624 := n2_; have GE624 := n3_; clear n0_ n1_ n2_ n3_; clear hb hbox hg; have hcz7_0 : w6.cell? ⟨gb624, 0, none⟩ = some (.int .i64 0) := (blk_cell BK624.out 0).trans rfl; have hfz7_0 := blk_frozen BK624.out 0; have hcz8_1 : w6.cell? ⟨gb624, 1, none⟩ = some (.int .i64 0) := (blk_cell BK624.out 1).trans rfl; have hfz8_1 := blk_frozen BK624.out 1; have hcz9_2 : w6.cell? ⟨gb624, 2, none⟩ = some (.int .i64 0) := (blk_cell BK624.out 2).trans rfl; have hfz9_2 := blk_frozen BK624.out 2; have hcz10_3 : w6.cell? ⟨gb624, 3, none⟩ = some (.int .i64 0) := (blk_cell BK624.out 3).trans rfl; have hfz10_3 := blk_frozen BK624.out 3) | ((with_reducible refine gate_store (t := 59) (p := 5) rfl ?_); refine store_event (t := 59) (p := 5) (v := ?vo_w11) (w1 := ((((w6.setCell ⟨gb624, 0, none⟩ (.int .i64 t619)).setCell ⟨gb624, 1, none⟩ (.int .i64 t620)).setCell ⟨gb624, 2, none⟩ (.int .i64 t621)).setCell ⟨gb624, 3, none⟩ (.int .i64 t622))) ?hg ?ho ?hn ?hr ?_; (case ho => rfl); (case hg => rfl); (case hn => rfl); (case hr => first | (go_simp; done) | (go_simp; rfl)); intro w11 hw; have n0_ : Aside0 (w11.heap[gb624]? = some (.cells #[.int .i64 t619, .int .i64 t620, .int .i64 t621, .int .i64 t622] 59 (0, 0))) := ⟨(by rw [hw]; exact (by (with_reducible repeat first|refine blk_drewN ?_ _|refine blk_drew ?_|refine blk_alloc ?_ _); refine blk_put (cs := #[.int .i64 t619, .int .i64 t620, .int .i64 t621, .int .i64 0]) ?_ 3 _ rfl; (with_reducible repeat first|refine blk_drewN ?_ _|refine blk_drew ?_|refine blk_alloc ?_ _); refine blk_put (cs := #[.int .i64 t619, .int .i64 t620, .int .i64 0, .int .i64 0]) ?_ 2 _ rfl; (with_reducible repeat first|refine blk_drewN ?_ _|refine blk_drew ?_|refine blk_alloc ?_ _); refine blk_put (cs := #[.int .i64 t619, .int .i64 0, .int .i64 0, .int .i64 0]) ?_ 1 _ rfl; (with_reducible repeat first|refine blk_drewN ?_ _|refine blk_drew ?_|refine blk_alloc ?_ _); refine blk_put (cs := #[.int .i64 0, .int .i64 0, .int .i64 0, .int .i64 0]) ?_ 0 _ rfl; (with_reducible repeat first|refine blk_drewN ?_ _|refine blk_drew ?_|refine blk_alloc ?_ _); exact BK624.out))⟩; have n1_ : Aside0 (Below w.heap.size w w11) := ⟨(by rw [hw]; exact z27_0)⟩; clear hw; clear BK624; clear HB; have BK624 := n0_; have HB := n1_; clear n0_ n1_))
 (try simp only [Act.put, List.setIfInBounds_toArray, List.set_cons_zero, List.set_cons_succ])
 go_cut [18] (fun v18 wc => ∃ (kq : Nat) (x18_3 : Bool), v18 = .bool x18_3 ∧ Aside0 (impl_VecScale.j0 kq a1 x18_3 t619 t620 t621 t622 = some r) ∧ Aside0 (kq ≤ k) ∧ Aside0 (wc.heap[gb624]? = some (.cells #[.int .i64 t619, .int .i64 t620, .int .i64 t621, .int .i64 t622] 59 (0, 0))) ∧ Aside0 (Below w.heap.size w wc))
 case first =>
  have H := HC4.out
  clear HC4
  by_cases c12 : t623 = true
  ·subst c12
   have H1 : ((impl_FieldOk.f a1).bind fun t625 => (impl_VecScale.j0 k a1 (!t625) t619 t620 t621 t622)) = some r := by rw [if_pos rfl] at H; exact H
   clear H
   have H := H1
   clear H1
   replace H := Option.bind_eq_some_iff.mp H
   obtain ⟨t625, A130, H⟩ := H
   replace H : (impl_VecScale.j0 k a1 (!t625) t619 t620 t621 t622) = some r := H
   have A13 := Aside0.mk A130
   clear A130
   have H' := Aside0.mk H
   clear H
   go_wp2_with (first | (go_at_call 88; (with_reducible refine (impl_FieldOk.calls a1 t625 _ A13.out).mono ?_); rintro e w' ⟨rfl, ⟨nd, rfl⟩⟩))
   go_meet
   case rel => exact ⟨_, (!t625), (by first | rfl | (simp; done) | (simp [*]; done)), H', ⟨by first | omega | exact Nat.le_refl _⟩, ⟨z27_2⟩, ⟨z27_0⟩⟩
  ·replace c12 := Bool.eq_false_iff.mpr c12
   subst c12
   have H1 : (impl_VecScale.j0 k a1 true t619 t620 t621 t622) = some r := by rw [if_neg (show ¬ (false = true) by decide)] at H; exact H
   clear H
   have H := H1
   clear H1
   have H' := Aside0.mk H
   clear H
   go_wp2
   go_meet
   case rel => exact ⟨_, (true), (by first | rfl | (simp; done) | (simp [*]; done)), H', ⟨by first | omega | exact Nat.le_refl _⟩, ⟨z27_2⟩, ⟨z27_0⟩⟩
 case rest =>
  clear HC4
  try clear hcz10_3
  try clear hcz7_0
  try clear hcz8_1
  try clear hcz9_2
  try clear hfz10_3
  try clear hfz7_0
  try clear hfz8_1
  try clear hfz9_2
  obtain ⟨kq, x18_3, rfl, HA, HJ3, BK624, HB⟩ := hcut
  cases kq with
  | zero => exact absurd HA.out (by simp [impl_VecScale.j0])
  | succ kj3 =>
   have H := HA.out
   clear HA
   simp only [impl_VecScale.j0] at H
   by_cases c14 : x18_3 = true
   ·subst c14
    have H1 : (some ([] : List Int)) = some r := by rw [if_pos rfl] at H; exact H
    clear H
    have H := H1
    clear H1
    obtain rfl := Option.some.inj H
    go_wp2
    go_ret
    exact ⟨_, by first | rfl | (simp [errW_none, errW_some] <;> rfl) | (simp [*, errW_none, errW_some] <;> rfl), by first | exact Kd.R_nil _ _ _ _ _ | exact Kd.N_nil _ _ _ _ _ | exact Kd.V_nil _ _ _ _ _ | exact Kd.Q_nil _ _ _ _ _ | exact Kd.S_nil _ _ _ _ _, z27_0⟩
   ·replace c14 := Bool.eq_false_iff.mpr c14
    subst c14
    have H1 : ((impl_vector_times.f t619 t620 t621 t622 a1).bind fun bt626 => ((impl_vector_list.f bt626.1 bt626.2.1 bt626.2.2.1 bt626.2.2.2).bind fun t630 => (some t630))) = some r := by rw [if_neg (show ¬ (false = true) by decide)] at H; exact H
    clear H
    have H := H1
    clear H1
    replace H := Option.bind_eq_some_iff.mp H
    obtain ⟨⟨t626, t627, t628, t629⟩, A150, H⟩ := H
    replace H : ((impl_vector_list.f t626 t627 t628 t629).bind fun t630 => (some t630)) = some r := H
    have A15 := Aside0.mk A150
    clear A150
    replace H := Option.bind_eq_some_iff.mp H
    obtain ⟨t630, A160, H⟩ := H
    replace H : (some t630) = some r := H
    have A16 := Aside0.mk A160
    clear A160
    obtain rfl := Option.some.inj H
    have hcz17_0 : wc.cell? ⟨gb624, 0, none⟩ = some (.int .i64 t619) := (blk_cell BK624.out 0).trans rfl
    have hcz17_1 : wc.cell? ⟨gb624, 1, none⟩ = some (.int .i64 t620) := (blk_cell BK624.out 1).trans rfl
    have hcz17_2 : wc.cell? ⟨gb624, 2, none⟩ = some (.int .i64 t621) := (blk_cell BK624.out 2).trans rfl
    have hcz17_3 : wc.cell? ⟨gb624, 3, none⟩ = some (.int .i64 t622) := (blk_cell BK624.out 3).trans rfl
    have hfz17_0 := blk_frozen BK624.out 0
    have hfz17_1 := blk_frozen BK624.out 1
    have hfz17_2 := blk_frozen BK624.out 2
    have hfz17_3 := blk_frozen BK624.out 3
    go_wp2_with (first | ((with_reducible refine gate_callee (f := 74) rfl ?_); refine goesL_ (some 21) rfl rfl Try.func74 (by kernel_rfl) rfl #[.agg #[.int .i64 t619, .int .i64 t620, .int .i64 t621, .int .i64 t622], .int .i64 a1] rfl z27_3 ?_; (with_reducible refine (impl_vector_times.calls t619 t620 t621 t622 a1 t626 t627 t628 t629 _ A15.out).mono ?_); rintro e w18 ⟨rfl, hb⟩; refine ⟨_, rfl, ?_⟩; have n0_ := Aside0.mk (blk_below (g := gb624) (o := .cells #[.int .i64 t619, .int .i64 t620, .int .i64 t621, .int .i64 t622] 59 (0, 0)) z27_2 hb); have n1_ := Aside0.mk (below_step z27_0 hb); clear BK624; clear HB; have BK624 := n0_; have HB := n1_; clear n0_ n1_; (try clear hb); (try clear hb2); (try clear hk); (try clear hi)) | ((with_reducible refine gate_callee (f := 61) rfl ?_); refine goesL_ (some 22) rfl rfl Try.func61 (by kernel_rfl) rfl #[.agg #[.int .i64 t626, .int .i64 t627, .int .i64 t628, .int .i64 t629]] rfl z27_3 ?_; (with_reducible refine (impl_vector_list.calls t626 t627 t628 t629 t630 _ A16.out).mono ?_); rintro e w19 ⟨v631, rfl, ho0, hb⟩; refine ⟨_, rfl, ?_⟩; have n0_ := Aside0.mk (Kd.R_lower ho0 (below_size z27_0)); have n1_ := Aside0.mk (blk_below (g := gb624) (o := .cells #[.int .i64 t619, .int .i64 t620, .int .i64 t621, .int .i64 t622] 59 (0, 0)) z27_2 hb); have n2_ := Aside0.mk (below_step z27_0 hb); clear BK624; clear HB; have HO632 := n0_; have BK624 := n1_; have HB := n2_; clear n0_ n1_ n2_; (try clear hb); (try clear hb2); (try clear hk); (try clear hi); (try clear ho0)))
    go_ret
    exact ⟨_, by first | rfl | (simp [errW_none, errW_some] <;> rfl) | (simp [*, errW_none, errW_some] <;> rfl), by (with_reducible repeat (first | apply Kd.R_alloc | apply Kd.R_drewN | apply Kd.R_drew)); exact HO632.out, z27_0⟩

end Go.Proofs.Ytbhmgbeebhmfkaa.PA
