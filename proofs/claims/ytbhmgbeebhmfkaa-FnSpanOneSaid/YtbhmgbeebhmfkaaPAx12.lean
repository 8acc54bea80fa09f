-- Written by a program of this session (after the manner of the kit's print, several laws in one text).
import Derived.Test.YtbhmgbeebhmfkaaHy
import Derived.Test.YtbhmgbeebhmfkaaPAx0
import Derived.Test.YtbhmgbeebhmfkaaPAx6
import Derived.Test.YtbhmgbeebhmfkaaPAx9
import Derived.Test.YtbhmgbeebhmfkaaPAx11
import Derived.Test.YtbhmgbeebhmfkaaGw
import Derived.Test.YtbhmgbeebhmfkaaGm
namespace Go.Proofs.Ytbhmgbeebhmfkaa.PA
open Go.RowKit Go.Proofs.YtbhmgbeebhmfkaaW.PrintWords Go.Proofs.YtbhmgbeebhmfkaaW.PrintLast Go.Proofs.YtbhmgbeebhmfkaaW.PrintMore
attribute [local go_sem] max2_int min2_int max_two min_two max_three min_three max_four min_four   -- for this text's walks alone
set_option linter.unusedVariables false
set_option linter.unusedSimpArgs false

/-! ### impl_SpanBy: function 30 -/
theorem zL12 {p q : Prop} (h : q) (t : q → p := by intro h_; (with_reducible repeat first|refine blk_drewN ?_ _|refine blk_drew ?_|refine blk_alloc ?_ _); exact h_) : p := t h
theorem z12_1 {p : Prop} (h : p := by repeat (first | (with_reducible first | exact HB.out | apply below_alloc | apply pw_below_drewN | apply below_drew1 | refine below_set ?_ GE321.out | refine below_set ?_ GE328.out | refine below_set ?_ GE338.out) | exact HB.out)) : p := h
theorem z12_2 {p : Prop} (h : p := by repeat (first | (with_reducible first | exact HB.out | apply below_alloc | apply pw_below_drewN | apply below_drew1 | refine below_set ?_ GE321.out) | exact HB.out)) : p := h
theorem z12_3 {p : Prop} (h : p := by repeat (first | (with_reducible first | exact HB.out | apply below_alloc | apply pw_below_drewN | apply below_drew1 | refine below_set ?_ GE321.out | refine below_set ?_ GE328.out) | exact HB.out)) : p := h
theorem z12_4 {p : Prop} (h : p := by (with_reducible repeat (first | apply Kd.R_alloc | apply Kd.R_drewN | apply Kd.R_drew)); exact HO324.out) : p := h
theorem z12_5 {p : Prop} (h : p := by (with_reducible repeat (first | apply Kd.R_alloc | apply Kd.R_drewN | apply Kd.R_drew)); exact HO327.out) : p := h
theorem z12_6 {p : Prop} (h : p := by (with_reducible repeat (first | apply Kd.R_alloc | apply Kd.R_drewN | apply Kd.R_drew)); exact HO_6.out) : p := h
theorem z12_7 {p : Prop} (h : p := by repeat (first | (with_reducible first | exact HB.out | apply below_alloc | apply pw_below_drewN | apply below_drew1 | refine below_set ?_ GE321.out | refine below_set ?_ GE338.out) | exact HB.out)) : p := h
theorem z12_8 {p : Prop} (h : p := by (with_reducible repeat (first | apply Kd.R_alloc | apply Kd.R_drewN | apply Kd.R_drew)); exact ae.out) : p := h
theorem z12_9 {p : Prop} (h : p := by (with_reducible repeat (first | apply Kd.R_alloc | apply Kd.R_drewN | apply Kd.R_drew)); exact HO_12.out) : p := h
theorem z12_10 {p : Prop} (h : p := by (try simp only [List.map_toArray, List.map_cons, List.map_nil]); first | done | rfl | (simp only [List.length_drop, List.length_take]; rfl)) : p := h
theorem z12_11 {p : Prop} (h : p := by (with_reducible repeat (first | apply Kd.R_alloc | apply Kd.R_drewN | apply Kd.R_drew)); exact Kd.R_mono af.out (fun _ hk => ⟨trivial, hk⟩)) : p := h
theorem z12_12 {p : Prop} (h : p := by (with_reducible repeat (first | apply Kd.R_alloc | apply Kd.R_drewN | apply Kd.R_drew)); exact Kd.R_mono af.out (fun _ hk => hk.2)) : p := h
theorem z12_13 {p : Prop} (h : p := by (with_reducible repeat (first | apply Kd.R_alloc | apply Kd.R_drewN | apply Kd.R_drew)); exact af.out) : p := h
theorem z12_14 {p : Prop} (h : p := by (with_reducible repeat (first | apply Kd.R_alloc | apply Kd.R_drewN | apply Kd.R_drew)); exact (Kd.R_mono (Kd.R_far (p := ⟨gb338, 7, none⟩) (Kd.R_far (p := ⟨gb338, 6, none⟩) (Kd.R_far (p := ⟨gb338, 5, none⟩) (Kd.R_far (p := ⟨gb338, 4, none⟩) (Kd.R_far (p := ⟨gb338, 3, none⟩) (Kd.R_far (p := ⟨gb338, 2, none⟩) (Kd.R_far (p := ⟨gb338, 1, none⟩) (Kd.R_far (p := ⟨gb338, 0, none⟩) (Kd.R_types HO327.out BK338.out (by decide)) (fun _ hk => hk.2) (.int .i64 t329)) (fun _ hk => hk.2) (.int .i64 t330)) (fun _ hk => hk.2) (.int .i64 t331)) (fun _ hk => hk.2) (.int .i64 t332)) (fun _ hk => hk.2) (.int .i64 t333)) (fun _ hk => hk.2) (.int .i64 t334)) (fun _ hk => hk.2) (.int .i64 t335)) (fun _ hk => hk.2) (.int .i64 t336)) (fun _ h_ => h_.1))) : p := h
theorem z12_15 {p : Prop} (h : p := by repeat (first | (with_reducible first | exact HB.out | apply below_alloc | apply pw_below_drewN | apply below_drew1 | refine below_set ?_ GE321.out | refine below_set ?_ GE338.out | refine below_set ?_ GE328.out) | exact HB.out)) : p := h
theorem z12_16 {p : Prop} (h : p := by repeat (first | (with_reducible first | exact HB.out | apply below_alloc | apply pw_below_drewN | apply below_drew1) | exact HB.out)) : p := h
theorem z12_17 {p : Prop} (h : p := by first | rfl | (simp; done) | (simp [*]; done) | (simp; unfold wrap64; omega)) : p := h
theorem z12_18 {p : Prop} (h : p := by simp only [putAll, Act.put, List.setIfInBounds_toArray, List.set_cons_zero, List.set_cons_succ]) : p := h
theorem z12_19 {p : Prop} (h : p := by (with_reducible repeat (first | apply Kd.R_alloc | apply Kd.R_drewN | apply Kd.R_drew)); exact HO315.out) : p := h
theorem z12_20 {p : Prop} (h : p := by have := HJ4.out; have := HK2.out; omega) : p := h
theorem z12_21 {p : Prop} (h : p := by first | rfl | (simp [errW_none, errW_some] <;> rfl) | (simp [*, errW_none, errW_some] <;> rfl)) : p := h
theorem z12_22 {p : Prop} (h : p := by first | exact Kd.R_nil _ _ _ _ _ | exact Kd.N_nil _ _ _ _ _ | exact Kd.V_nil _ _ _ _ _ | exact Kd.Q_nil _ _ _ _ _ | exact Kd.S_nil _ _ _ _ _) : p := h
theorem zs12 {α : Type} {l : List α} {i : Nat} {a : α} : l.toArray.setIfInBounds i a = (l.set i a).toArray := List.setIfInBounds_toArray _ _ _
theorem zc12 {α : Type} {x : α} {xs : List α} {a : α} : (x :: xs).set 0 a = a :: xs := List.set_cons_zero
theorem zd12 {α : Type} {x : α} {xs : List α} {n : Nat} {a : α} : (x :: xs).set (n + 1) a = x :: xs.set n a := List.set_cons_succ
mutual
def impl_SpanBy.j0 : Nat → List (List Int) → List (S59) → Bool → Int → Int → Int → Int → Option (List Int × Bool)
  | 0, _, _, _, _, _, _, _ => none
  | k + 1, x0, x6, x29, x322000, x322001, x322002, x322003 => if x29 = true then (some (([] : List Int), false)) else ((impl_spanOf.f k x6).bind fun bt322 => ((impl_span_by.f k bt322.1 bt322.2 x322000 x322001 x322002 x322003).bind fun bt329 => (if bt329.2.2.2.2.2.2.2.2 = true then (if 0 ≤ (x0.length : Int) then (if ((x0.length : Int) : Int).toNat ≤ 35184372088832 then (impl_SpanBy.l0 k (([] : List Int)) (x0.length : Int) 0 bt329.1 bt329.2.1 bt329.2.2.1 bt329.2.2.2.1 bt329.2.2.2.2.1 bt329.2.2.2.2.2.1 bt329.2.2.2.2.2.2.1 bt329.2.2.2.2.2.2.2.1) else (none)) else (none)) else (some (([] : List Int), false)))))
def impl_SpanBy.l0 : Nat → List Int → Int → Int → Int → Int → Int → Int → Int → Int → Int → Int → Option (List Int × Bool)
  | 0, _, _, _, _, _, _, _, _, _, _, _ => none
  | k + 1, x12, x43, x44, x339000, x339001, x339002, x339003, x339004, x339005, x339006, x339007 => if x44 < x43 then (if x44 = 0 then (if x12.length < 17592186044416 then (impl_SpanBy.l0 k (x12 ++ [x339000]) x43 (wrap64 (x44 + 1)) x339000 x339001 x339002 x339003 x339004 x339005 x339006 x339007) else (none)) else (if x44 = 1 then (if x12.length < 17592186044416 then (impl_SpanBy.l0 k (x12 ++ [x339001]) x43 (wrap64 (x44 + 1)) x339000 x339001 x339002 x339003 x339004 x339005 x339006 x339007) else (none)) else (if x44 = 2 then (if x12.length < 17592186044416 then (impl_SpanBy.l0 k (x12 ++ [x339002]) x43 (wrap64 (x44 + 1)) x339000 x339001 x339002 x339003 x339004 x339005 x339006 x339007) else (none)) else (if x44 = 3 then (if x12.length < 17592186044416 then (impl_SpanBy.l0 k (x12 ++ [x339003]) x43 (wrap64 (x44 + 1)) x339000 x339001 x339002 x339003 x339004 x339005 x339006 x339007) else (none)) else (if x44 = 4 then (if x12.length < 17592186044416 then (impl_SpanBy.l0 k (x12 ++ [x339004]) x43 (wrap64 (x44 + 1)) x339000 x339001 x339002 x339003 x339004 x339005 x339006 x339007) else (none)) else (if x44 = 5 then (if x12.length < 17592186044416 then (impl_SpanBy.l0 k (x12 ++ [x339005]) x43 (wrap64 (x44 + 1)) x339000 x339001 x339002 x339003 x339004 x339005 x339006 x339007) else (none)) else (if x44 = 6 then (if x12.length < 17592186044416 then (impl_SpanBy.l0 k (x12 ++ [x339006]) x43 (wrap64 (x44 + 1)) x339000 x339001 x339002 x339003 x339004 x339005 x339006 x339007) else (none)) else (if x44 = 7 then (if x12.length < 17592186044416 then (impl_SpanBy.l0 k (x12 ++ [x339007]) x43 (wrap64 (x44 + 1)) x339000 x339001 x339002 x339003 x339004 x339005 x339006 x339007) else (none)) else (none))))))))) else (some (x12, true))
end
def impl_SpanBy.f (k : Nat) (l0 : List (List Int)) (l1 : List Int) : Option (List Int × Bool) := (impl_matrixOf.f k l0).bind fun bt312 => ((impl_vectorOf.f l1).bind fun bt316 => (if bt312.2 = true then (impl_SpanBy.j0 k l0 bt312.1 (!bt316.2.2.2.2) bt316.1 bt316.2.1 bt316.2.2.1 bt316.2.2.2.1) else (impl_SpanBy.j0 k l0 bt312.1 true bt316.1 bt316.2.1 bt316.2.2.1 bt316.2.2.2.1)))
def impl_SpanBy.T5 : Bool × List (List Nat × List Nat) := (true, [([], []), ([0], [0]), ([], []), ([1, 2, 1], [1, 2]), ([3], [3]), ([4], [4]), ([4], [4]), ([], []), ([7, 5, 3, 0, 1, 2, 3, 4, 5, 7], [5, 7]), ([6, 8, 0, 1, 2, 3, 4, 5, 6, 7, 8], [6])])
def impl_SpanBy.B5 : List Nat := [0, 1, 0, 7, 15, 31, 31, 0, 191, 511]
theorem impl_SpanBy.tab5 : rtab .any (opsOf Try.f30 5) = impl_SpanBy.T5 := by kernel_rfl
theorem impl_SpanBy.bits5 : waitsOk impl_SpanBy.T5.2 impl_SpanBy.B5 = true := by kernel_rfl
theorem bA12 {W : World} {g : Nat} {cs : Array Value} {ty : TypeId} {j : Nat} {v : Value} (h : Aside0 (W.heap[g]? = some (.cells cs ty (0, 0)))) (e : cs[j]? = some v) : W.cell? ⟨g, j, none⟩ = some v := (blk_cell h.out j).trans e
set_option maxHeartbeats 8000000 in
set_option maxRecDepth 100000 in
theorem impl_SpanBy.calls (k : Nat) (A0 : Option Addr) (c0 : Nat) (l0 : List (List Int)) (A1 : Option Addr) (c1 : Nat) (l1 : List Int) (r1 : List Int) (r2 : Bool) (w : World) (hr0 : Kd.C (Kd.slice 3 (Kd.int .i64)) w A0 l0.length l0) (hc0 : l0.length ≤ c0) (hr1 : Kd.C (Kd.int .i64) w A1 l1.length l1) (hc1 : l1.length ≤ c1) (h : impl_SpanBy.f k l0 l1 = some (r1, r2)) :
  Calls Try.prog 30 #[.slice A0 l0.length c0, .slice A1 l1.length c1] w fun e w' => ∃ v0_ : Value, e = .returned (.tuple #[v0_, .bool r2]) ∧ Kd.R (Kd.int .i64) 3 w' w.heap.size (fun _ => True) v0_ r1 ∧ Below w.heap.size w w' := by
 have hu59 := Try.underlying59
 have hu62 := Try.underlying62
 have HR0 := Aside0.mk hr0
 have HC0 := Aside0.mk hc0
 clear hr0 hc0
 have HR1 := Aside0.mk hr1
 have HC1 := Aside0.mk hc1
 clear hr1 hc1
 have HB := Aside0.mk (Below.refl w.heap.size w)
 have H : ((impl_matrixOf.f k l0).bind fun bt312 => ((impl_vectorOf.f l1).bind fun bt316 => (if bt312.2 = true then (impl_SpanBy.j0 k l0 bt312.1 (!bt316.2.2.2.2) bt316.1 bt316.2.1 bt316.2.2.1 bt316.2.2.2.1) else (impl_SpanBy.j0 k l0 bt312.1 true bt316.1 bt316.2.1 bt316.2.2.1 bt316.2.2.2.1)))) = some (r1, r2) := h
 clear h
 replace H := Option.bind_eq_some_iff.mp H
 obtain ⟨⟨t312, t313⟩, A30, H⟩ := H
 replace H : ((impl_vectorOf.f l1).bind fun bt316 => (if t313 = true then (impl_SpanBy.j0 k l0 t312 (!bt316.2.2.2.2) bt316.1 bt316.2.1 bt316.2.2.1 bt316.2.2.2.1) else (impl_SpanBy.j0 k l0 t312 true bt316.1 bt316.2.1 bt316.2.2.1 bt316.2.2.2.1))) = some (r1, r2) := H
 have A3 := Aside0.mk A30
 clear A30
 replace H := Option.bind_eq_some_iff.mp H
 obtain ⟨⟨t316, t317, t318, t319, t320⟩, A40, H⟩ := H
 replace H : (if t313 = true then (impl_SpanBy.j0 k l0 t312 (!t320) t316 t317 t318 t319) else (impl_SpanBy.j0 k l0 t312 true t316 t317 t318 t319)) = some (r1, r2) := H
 have A4 := Aside0.mk A40
 clear A40
 have HC5 := Aside0.mk H
 clear H
 go_enter Try.func30, Try.ntmps30
 go_upto_region 3 with (first | ((with_reducible refine gate_callee (f := 49) rfl ?_); refine goesL_ (some 16) rfl rfl Try.func49 (by kernel_rfl) rfl #[.slice A0 l0.length c0] rfl z12_10 ?_; (with_reducible refine (impl_matrixOf.calls k _ _ l0 t312 t313 _ ?side1 ?side2 A3.out).mono ?_); (case side1 => repeat (first | exact HR0.out | (with_reducible refine Kd.C_alloc ?_ _) | (with_reducible refine Kd.C_drewN ?_ _) | (with_reducible refine Kd.C_drew ?_))); (case side2 => exact HC0.out); rintro e w6 ⟨v314, rfl, ho0, hb⟩; refine ⟨_, rfl, ?_⟩; have n0_ := Aside0.mk (Kd.R_lower ho0 (below_size z12_16)); have n1_ := Aside0.mk (below_step z12_16 hb); clear HB; have HO315 := n0_; have HB := n1_; clear n0_ n1_; (try clear hb); (try clear hb2); (try clear hk); (try clear hi); (try clear ho0)) | ((with_reducible refine gate_callee (f := 56) rfl ?_); refine goesL_ (some 21) rfl rfl Try.func56 (by kernel_rfl) rfl #[.slice A1 l1.length c1] rfl z12_10 ?_; (with_reducible refine (impl_vectorOf.calls _ _ l1 t316 t317 t318 t319 t320 _ ?side1 ?side2 A4.out).mono ?_); (case side1 => repeat (first | exact (Kd.C_below HR1.out HB.out) | (with_reducible refine Kd.C_alloc ?_ _) | (with_reducible refine Kd.C_drewN ?_ _) | (with_reducible refine Kd.C_drew ?_))); (case side2 => exact HC1.out); rintro e w7 ⟨rfl, hb⟩; refine ⟨_, rfl, ?_⟩; have n0_ := Aside0.mk (Kd.R_below z12_19 hb); have n1_ := Aside0.mk (below_step z12_16 hb); clear HO315; clear HB; have HO315 := n0_; have HB := n1_; clear n0_ n1_; (try clear hb); (try clear hb2); (try clear hk); (try clear hi)) | ((with_reducible refine gate_dst (N := 8) rfl ?_); refine box_event ?hg (N := 8) ?hd (cs := #[.int .i64 0, .int .i64 0, .int .i64 0, .int .i64 0]) (t := 59) ?hr ?_; (case hd => rfl); (case hg => rfl); (case hr => first | (go_simp; done) | (go_simp; rfl)); intro gb321 hg w8 hbox hb; have n0_ := Aside0.mk (Kd.R_below (Kd.R_elderB z12_19 gb321 (Nat.le_of_eq hg.symm)) hb); have n1_ := Aside0.mk (below_step z12_16 hb); have n2_ := Aside0.mk (hbox); have n3_ := Aside0.mk ((by rw [hg]; exact (below_size z12_16) : w.heap.size ≤ gb321)); have n4_ := Aside0.mk ((by rw [hg]; exact (below_size z12_16) : w.heap.size ≤ gb321)); clear HO315; clear HB; have HO315 := n0_; have HB := n1_; have BK321 := n2_; have GW321 := n3_; have GE321 := n4_; clear n0_ n1_ n2_ n3_ n4_; clear hb hbox hg; have hcz9_0 : w8.cell? ⟨gb321, 0, none⟩ = some (.int .i64 0) := bA12 BK321 rfl; have hfz9_0 := blk_frozen BK321.out 0; have hcz10_1 : w8.cell? ⟨gb321, 1, none⟩ = some (.int .i64 0) := bA12 BK321 rfl; have hfz10_1 := blk_frozen BK321.out 1; have hcz11_2 : w8.cell? ⟨gb321, 2, none⟩ = some (.int .i64 0) := bA12 BK321 rfl; have hfz11_2 := blk_frozen BK321.out 2; have hcz12_3 : w8.cell? ⟨gb321, 3, none⟩ = some (.int .i64 0) := bA12 BK321 rfl; have hfz12_3 := blk_frozen BK321.out 3) | ((with_reducible refine gate_store (t := 59) (p := 8) rfl ?_); refine store_event (t := 59) (p := 8) (v := ?vo_w13) (w1 := ((((w8.setCell ⟨gb321, 0, none⟩ (.int .i64 t316)).setCell ⟨gb321, 1, none⟩ (.int .i64 t317)).setCell ⟨gb321, 2, none⟩ (.int .i64 t318)).setCell ⟨gb321, 3, none⟩ (.int .i64 t319))) ?hg ?ho ?hn ?hr ?_; (case ho => rfl); (case hg => rfl); (case hn => rfl); (case hr => first | (go_simp; done) | (go_simp; rfl)); intro w13 hw; have n0_ : Aside0 (Kd.R k59 59 w13 w.heap.size (fun k_ => k_ ≠ gb321) v314 t312) := ⟨(by rw [hw]; exact (by (with_reducible repeat (first | apply Kd.R_alloc | apply Kd.R_drewN | apply Kd.R_drew)); exact Kd.R_mono (Kd.R_far (p := ⟨gb321, 3, none⟩) (Kd.R_far (p := ⟨gb321, 2, none⟩) (Kd.R_far (p := ⟨gb321, 1, none⟩) (Kd.R_far (p := ⟨gb321, 0, none⟩) (Kd.R_mono HO315.out (fun k_ hk => (⟨hk, hk.2⟩ : _ ∧ k_ ≠ gb321))) (fun _ hk => hk.2) (.int .i64 t316)) (fun _ hk => hk.2) (.int .i64 t317)) (fun _ hk => hk.2) (.int .i64 t318)) (fun _ hk => hk.2) (.int .i64 t319)) (fun _ hk => hk.1.2)))⟩; have n1_ : Aside0 (w13.heap[gb321]? = some (.cells #[.int .i64 t316, .int .i64 t317, .int .i64 t318, .int .i64 t319] 59 (0, 0))) := ⟨(by rw [hw]; exact (by (with_reducible repeat first|refine blk_drewN ?_ _|refine blk_drew ?_|refine blk_alloc ?_ _); refine blk_put (cs := #[.int .i64 t316, .int .i64 t317, .int .i64 t318, .int .i64 0]) ?_ 3 _ rfl; (with_reducible repeat first|refine blk_drewN ?_ _|refine blk_drew ?_|refine blk_alloc ?_ _); refine blk_put (cs := #[.int .i64 t316, .int .i64 t317, .int .i64 0, .int .i64 0]) ?_ 2 _ rfl; (with_reducible repeat first|refine blk_drewN ?_ _|refine blk_drew ?_|refine blk_alloc ?_ _); refine blk_put (cs := #[.int .i64 t316, .int .i64 0, .int .i64 0, .int .i64 0]) ?_ 1 _ rfl; (with_reducible repeat first|refine blk_drewN ?_ _|refine blk_drew ?_|refine blk_alloc ?_ _); refine blk_put (cs := #[.int .i64 0, .int .i64 0, .int .i64 0, .int .i64 0]) ?_ 0 _ rfl; (with_reducible repeat first|refine blk_drewN ?_ _|refine blk_drew ?_|refine blk_alloc ?_ _); exact BK321.out))⟩; have n2_ : Aside0 (Below w.heap.size w w13) := ⟨(by rw [hw]; exact z12_2)⟩; clear hw; clear HO315; clear BK321; clear HB; have HO315 := n0_; have BK321 := n1_; have HB := n2_; clear n0_ n1_ n2_))
 (try simp only [Act.put, List.setIfInBounds_toArray, List.set_cons_zero, List.set_cons_succ])
 go_cut [29] (fun v29 wc => ∃ (kq : Nat) (x29_4 : Bool), v29 = .bool x29_4 ∧ Aside0 (impl_SpanBy.j0 kq l0 t312 x29_4 t316 t317 t318 t319 = some (r1, r2)) ∧ Aside0 (kq ≤ k) ∧ Aside0 (Kd.R k59 59 wc w.heap.size (fun k_ => k_ ≠ gb321) v314 t312) ∧ Aside0 (wc.heap[gb321]? = some (.cells #[.int .i64 t316, .int .i64 t317, .int .i64 t318, .int .i64 t319] 59 (0, 0))) ∧ Aside0 (Below w.heap.size w wc))
 case first =>
  have H := HC5.out
  clear HC5
  by_cases c14 : t313 = true
  ·subst c14
   have H1 : (impl_SpanBy.j0 k l0 t312 (!t320) t316 t317 t318 t319) = some (r1, r2) := by rw [if_pos rfl] at H; exact H
   clear H
   have H := H1
   clear H1
   have H' := Aside0.mk H
   clear H
   go_wp2
   go_meet
   case rel => exact ⟨_, (!t320), (by first | rfl | (simp; done) | (simp [*]; done)), H', ⟨by first | omega | exact Nat.le_refl _⟩, ⟨z12_19⟩, ⟨zL12 BK321.out⟩, ⟨z12_2⟩⟩
  ·replace c14 := Bool.eq_false_iff.mpr c14
   subst c14
   have H1 : (impl_SpanBy.j0 k l0 t312 true t316 t317 t318 t319) = some (r1, r2) := by rw [if_neg (show ¬ (false = true) by decide)] at H; exact H
   clear H
   have H := H1
   clear H1
   have H' := Aside0.mk H
   clear H
   go_wp2
   go_meet
   case rel => exact ⟨_, (true), (by first | rfl | (simp; done) | (simp [*]; done)), H', ⟨by first | omega | exact Nat.le_refl _⟩, ⟨z12_19⟩, ⟨zL12 BK321.out⟩, ⟨z12_2⟩⟩
 case rest =>
  clear HC5
  try clear c1
  try clear hcz10_1
  try clear hcz11_2
  try clear hcz12_3
  try clear hcz9_0
  try clear hfz10_1
  try clear hfz11_2
  try clear hfz12_3
  try clear hfz9_0
  obtain ⟨kq, x29_4, rfl, HA, HJ4, HO_6, BK321, HB⟩ := hcut
  cases kq with
  | zero => exact absurd HA.out (by simp [impl_SpanBy.j0])
  | succ kj4 =>
   have H := HA.out
   clear HA
   simp only [impl_SpanBy.j0] at H
   by_cases c15 : x29_4 = true
   ·subst c15
    have H1 : (some (([] : List Int), false)) = some (r1, r2) := by rw [if_pos rfl] at H; exact H
    clear H
    have H := H1
    clear H1
    simp only [Option.some.injEq, Prod.mk.injEq] at H
    obtain ⟨rfl, rfl⟩ := H
    go_wp2
    go_ret2
    exact ⟨_, z12_21, z12_22, z12_2⟩
   ·replace c15 := Bool.eq_false_iff.mpr c15
    subst c15
    have H1 : ((impl_spanOf.f kj4 t312).bind fun bt322 => ((impl_span_by.f kj4 bt322.1 bt322.2 t316 t317 t318 t319).bind fun bt329 => (if bt329.2.2.2.2.2.2.2.2 = true then (if 0 ≤ (l0.length : Int) then (if ((l0.length : Int) : Int).toNat ≤ 35184372088832 then (impl_SpanBy.l0 kj4 (([] : List Int)) (l0.length : Int) 0 bt329.1 bt329.2.1 bt329.2.2.1 bt329.2.2.2.1 bt329.2.2.2.2.1 bt329.2.2.2.2.2.1 bt329.2.2.2.2.2.2.1 bt329.2.2.2.2.2.2.2.1) else (none)) else (none)) else (some (([] : List Int), false))))) = some (r1, r2) := by rw [if_neg (show ¬ (false = true) by decide)] at H; exact H
    clear H
    have H := H1
    clear H1
    replace H := Option.bind_eq_some_iff.mp H
    obtain ⟨⟨t322, t325⟩, A160, H⟩ := H
    replace H : ((impl_span_by.f kj4 t322 t325 t316 t317 t318 t319).bind fun bt329 => (if bt329.2.2.2.2.2.2.2.2 = true then (if 0 ≤ (l0.length : Int) then (if ((l0.length : Int) : Int).toNat ≤ 35184372088832 then (impl_SpanBy.l0 kj4 (([] : List Int)) (l0.length : Int) 0 bt329.1 bt329.2.1 bt329.2.2.1 bt329.2.2.2.1 bt329.2.2.2.2.1 bt329.2.2.2.2.2.1 bt329.2.2.2.2.2.2.1 bt329.2.2.2.2.2.2.2.1) else (none)) else (none)) else (some (([] : List Int), false)))) = some (r1, r2) := H
    have A16 := Aside0.mk A160
    clear A160
    replace H := Option.bind_eq_some_iff.mp H
    obtain ⟨⟨t329, t330, t331, t332, t333, t334, t335, t336, t337⟩, A170, H⟩ := H
    replace H : (if t337 = true then (if 0 ≤ (l0.length : Int) then (if ((l0.length : Int) : Int).toNat ≤ 35184372088832 then (impl_SpanBy.l0 kj4 (([] : List Int)) (l0.length : Int) 0 t329 t330 t331 t332 t333 t334 t335 t336) else (none)) else (none)) else (some (([] : List Int), false))) = some (r1, r2) := H
    have A17 := Aside0.mk A170
    clear A170
    by_cases c18 : t337 = true
    ·subst c18
     have H1 : (if 0 ≤ (l0.length : Int) then (if ((l0.length : Int) : Int).toNat ≤ 35184372088832 then (impl_SpanBy.l0 kj4 (([] : List Int)) (l0.length : Int) 0 t329 t330 t331 t332 t333 t334 t335 t336) else (none)) else (none)) = some (r1, r2) := by rw [if_pos rfl] at H; exact H
     clear H
     have H := H1
     clear H1
     by_cases c19 : 0 ≤ (l0.length : Int)
     ·rw [if_pos c19] at H
      have c19b0 := eq_true c19
      have c19b1 : decide (0 ≤ (l0.length : Int)) = true := decide_eq_true c19
      clear c19
      by_cases c20 : ((l0.length : Int) : Int).toNat ≤ 35184372088832
      ·rw [if_pos c20] at H
       have c20b0 := eq_true c20
       have c20b1 : decide (((l0.length : Int) : Int).toNat ≤ 35184372088832) = true := decide_eq_true c20
       clear c20
       obtain ⟨y339, hy339⟩ : ∃ y_ : List Int, y_ = (([] : List Int)) := ⟨_, rfl⟩
       replace H : (impl_SpanBy.l0 kj4 y339 (l0.length : Int) 0 t329 t330 t331 t332 t333 t334 t335 t336) = some (r1, r2) := by first | (rw [hy339]; with_reducible exact H) | (have H2_ := (Option.bind_some _ _).symm.trans H; rw [hy339]; with_reducible exact H2_) | (have H2_ := (Option.bind_some _ _).symm.trans H; with_reducible exact H2_) | with_reducible exact H | (rw [hy339]; exact H) | exact H
       have Ny339 := Aside0.mk hy339
       clear hy339
       have H' := Aside0.mk H
       clear H
       obtain ⟨Ao21, co21, eo21⟩ := Kd.R_slice HO_6.out
       subst eo21
       try go_wp2
       have n0_ := Aside0.mk (Kd.R_drew HO_6.out)
       have n1_ := Aside0.mk (blk_drew BK321.out)
       have n2_ := Aside0.mk (below_drew1 HB.out)
       clear HO_6
       clear BK321
       clear HB
       have HO_6 := n0_
       have BK321 := n1_
       have HB := n2_
       clear n0_ n1_ n2_
       refine start_ (n := 10) (S := fun w' => w'.cell? ⟨gb321, 0, none⟩ = some (.int .i64 t316) ∧ w'.cell? ⟨gb321, 1, none⟩ = some (.int .i64 t317) ∧ w'.cell? ⟨gb321, 2, none⟩ = some (.int .i64 t318) ∧ w'.cell? ⟨gb321, 3, none⟩ = some (.int .i64 t319)) (ds := []) #[false, false, false, false, false, false, false, false, false, false] (by kernel_rfl) rfl rfl ⟨bA12 BK321 rfl, bA12 BK321 rfl, bA12 BK321 rfl, bA12 BK321 rfl⟩ (fun hHeld => ?_); refine with_tabW impl_SpanBy.tab5 impl_SpanBy.bits5 (fun HT_ HW_ => ?_)
       generalize wc.drew = w22 at HO_6 BK321 HB hHeld ⊢
       refine pure_ (i := 0) (N := some 31) (v := ?_) (a' := ?_) #[true, false, false, false, false, false, false, false, false, false] rfl rfl (any_of HT_.out (by kernel_rfl)) (fun _ _ _ h => h) (Or.inl ⟨by rfl, ?_⟩) ?_ ?_
       rotate_left
       ·intro w'
        go_simp
        with_reducible rfl
       rotate_left
       ·simp only [Act.put, zs12, zc12, zd12, i64_w, i32_w]
        rfl
       refine take_ (i := 2) (N := some 33) (v := ?_) (a' := ?_) #[true, false, true, false, false, false, false, false, false, false] rfl rfl (take_ofW HT_.out HW_.out (by kernel_rfl)) (fun _ _ _ h => h) (Or.inl ⟨by rfl, ?_⟩) hHeld ?_ ?_
       rotate_left
       ·rintro w' ⟨s0, s1, s2, s3⟩
        go_simp
        with_reducible rfl
       rotate_left
       ·simp only [Act.put, zs12, zc12, zd12, i64_w, i32_w]
        rfl
       refine join_ (σ := Nat × Value × Value × Nat) 2 #[true, true, true, true, true, true, true, true, false, false] (fun s_ => [(32, .pointer (some ⟨s_.1, 0, none⟩)), (34, .tuple #[.agg #[.int .i64 t329, .int .i64 t330, .int .i64 t331, .int .i64 t332, .int .i64 t333, .int .i64 t334, .int .i64 t335, .int .i64 t336], .bool true]), (10, .pointer (some ⟨s_.2.2.2, 0, none⟩)), (30, .tuple #[.agg #[.int .i64 t329, .int .i64 t330, .int .i64 t331, .int .i64 t332, .int .i64 t333, .int .i64 t334, .int .i64 t335, .int .i64 t336], .bool true]), (35, .agg #[.int .i64 t329, .int .i64 t330, .int .i64 t331, .int .i64 t332, .int .i64 t333, .int .i64 t334, .int .i64 t335, .int .i64 t336]), (36, .bool true)]) (fun s_ w' => (w'.cell? ⟨gb321, 0, none⟩ = some (.int .i64 t316) ∧ w'.cell? ⟨gb321, 1, none⟩ = some (.int .i64 t317) ∧ w'.cell? ⟨gb321, 2, none⟩ = some (.int .i64 t318) ∧ w'.cell? ⟨gb321, 3, none⟩ = some (.int .i64 t319)) ∧ (Kd.R k77 77 w' w.heap.size (fun _ => True) s_.2.1 t322) ∧ (Kd.R (Kd.int .i64) 3 w' w.heap.size (fun _ => True) s_.2.2.1 t325) ∧ (Kd.R k59 59 w' w.heap.size (fun k_ => k_ ≠ gb321) (.slice Ao21 t312.length co21) t312) ∧ (w'.heap[gb321]? = some (.cells #[.int .i64 t316, .int .i64 t317, .int .i64 t318, .int .i64 t319] 59 (0, 0))) ∧ (w'.heap[s_.1]? = some (.cells #[s_.2.1, s_.2.2.1] 54 (0, 0))) ∧ (w'.heap[s_.2.2.2]? = some (.cells #[.int .i64 0, .int .i64 0, .int .i64 0, .int .i64 0, .int .i64 0, .int .i64 0, .int .i64 0, .int .i64 0] 62 (0, 0))) ∧ (w.heap.size ≤ s_.1) ∧ (w.heap.size ≤ s_.1) ∧ (gb321 ≠ s_.1) ∧ (s_.1 ≠ gb321) ∧ (s_.2.2.2 ≠ s_.1) ∧ (s_.1 ≠ s_.2.2.2) ∧ (w.heap.size ≤ s_.2.2.2) ∧ (w.heap.size ≤ s_.2.2.2) ∧ (gb321 ≠ s_.2.2.2) ∧ (s_.2.2.2 ≠ gb321) ∧ (Below w.heap.size w w')) ?_ ?_
       rotate_left
       ·intro hCont
        refine two_ (i := 1) (j := 7) (Ni := some 32) (Nj := some 10) #[true, true, true, false, false, false, false, false, false, false] #[true, false, true, false, false, false, false, true, false, false] rfl rfl rfl rfl (two_of HT_.out (by kernel_rfl)) (by decide) (by decide) (fun K hK => ?_) (fun K hK => ?_)
        ·skip
         refine goes_ Try.func54 (by kernel_rfl) rfl #[.slice Ao21 t312.length co21] (by rfl) rfl rfl z12_10 ?_
         with_reducible refine (impl_spanOf.calls kj4 _ _ t312 t322 t325 _ ?side1 ?side2 A16.out).mono ?_
         (case side1 => repeat (first | exact (Kd.R_reads' HO_6.out).2.2 | (with_reducible refine Kd.C_alloc ?_ _) | (with_reducible refine Kd.C_drewN ?_ _) | (with_reducible refine Kd.C_drew ?_)))
         (case side2 => exact (Kd.R_reads' HO_6.out).2.1)
         rintro e w23 ⟨v323, v326, gb328, rfl, hbox, hgr, ho0, ho1, hb⟩
         refine ⟨_, rfl, ?_⟩
         have n0_ := Aside0.mk (Kd.R_below z12_6 hb)
         have n1_ := Aside0.mk (Kd.R_lower ho0 (below_size z12_2))
         have n2_ := Aside0.mk (Kd.R_lower ho1 (below_size z12_2))
         have n3_ := Aside0.mk (blk_below (g := gb321) (o := .cells #[.int .i64 t316, .int .i64 t317, .int .i64 t318, .int .i64 t319] 59 (0, 0)) (zL12 BK321.out) hb)
         have n4_ := Aside0.mk (hbox)
         have n5_ := Aside0.mk ((Nat.le_trans ((below_size z12_2) : w.heap.size ≤ _) hgr : w.heap.size ≤ gb328))
         have n6_ := Aside0.mk ((Nat.le_trans ((below_size z12_2) : w.heap.size ≤ _) hgr : w.heap.size ≤ gb328))
         have n7_ := Aside0.mk ((Nat.ne_of_lt (Nat.lt_of_lt_of_le (blk_lt (g := gb321) (o := .cells #[.int .i64 t316, .int .i64 t317, .int .i64 t318, .int .i64 t319] 59 (0, 0)) (zL12 BK321.out)) hgr) : gb321 ≠ gb328))
         have n8_ := Aside0.mk ((Nat.ne_of_gt (Nat.lt_of_lt_of_le (blk_lt (g := gb321) (o := .cells #[.int .i64 t316, .int .i64 t317, .int .i64 t318, .int .i64 t319] 59 (0, 0)) (zL12 BK321.out)) hgr) : gb328 ≠ gb321))
         have n9_ := Aside0.mk (below_step z12_2 hb)
         clear HO_6
         clear BK321
         clear HB
         have HO_6 := n0_
         have HO324 := n1_
         have HO327 := n2_
         have BK321 := n3_
         have BK328 := n4_
         have GW328 := n5_
         have GE328 := n6_
         have ag := n7_
         have ah := n8_
         have HB := n9_
         clear n0_ n1_ n2_ n3_ n4_ n5_ n6_ n7_ n8_ n9_
         (try clear hb)
         (try clear hb2)
         (try clear hk)
         (try clear hi)
         (try clear ho0)
         (try clear ho1)
         refine hK.out _ _ ⟨bA12 BK321 rfl, bA12 BK321 rfl, bA12 BK321 rfl, bA12 BK321 rfl⟩ (fun hHeld => ?_)
         clear hK K
         refine norm_ (a' := ?_) ?_ ?_
         rotate_left
         ·show Act.put _ (some 32) _ = _
          simp only [Act.put, zs12, zc12, zd12, i64_w, i32_w]
          rfl
         refine two_ (i := 3) (j := 7) (Ni := some 34) (Nj := some 10) #[true, true, true, true, false, false, false, false, false, false] #[true, true, true, false, false, false, false, true, false, false] rfl rfl rfl rfl (two_of HT_.out (by kernel_rfl)) (by decide) (by decide) (fun K hK => ?_) (fun K hK => ?_)
         ·skip
          refine goes_ Try.func57 (by kernel_rfl) rfl #[.pointer (some ⟨gb328, 0, none⟩), .agg #[.int .i64 t316, .int .i64 t317, .int .i64 t318, .int .i64 t319]] (by rfl) rfl rfl z12_10 ?_
          with_reducible refine (impl_span_byB.calls kj4 v323 t322 v326 t325 t316 t317 t318 t319 t329 t330 t331 t332 t333 t334 t335 t336 true _ ?side1 ?side2 ?side3 A17.out).mono ?_
          (case side1 => (with_reducible repeat first|refine blk_drewN ?_ _|refine blk_drew ?_|refine blk_alloc ?_ _); exact BK328.out)
          (case side2 => exact own_open z12_4)
          (case side3 => exact own_open z12_5)
          rintro e w24 ⟨rfl, hb⟩
          refine ⟨_, rfl, ?_⟩
          have n0_ := Aside0.mk (Kd.R_below z12_6 hb)
          have n1_ := Aside0.mk (Kd.R_below z12_4 hb)
          have n2_ := Aside0.mk (Kd.R_below z12_5 hb)
          have n3_ := Aside0.mk (blk_below (g := gb321) (o := .cells #[.int .i64 t316, .int .i64 t317, .int .i64 t318, .int .i64 t319] 59 (0, 0)) (zL12 BK321.out) hb)
          have n4_ := Aside0.mk (blk_below (g := gb328) (o := .cells #[v323, v326] 54 (0, 0)) (zL12 BK328.out) hb)
          have n5_ := Aside0.mk (below_step z12_3 hb)
          clear HO_6
          clear HO324
          clear HO327
          clear BK321
          clear BK328
          clear HB
          have HO_6 := n0_
          have HO324 := n1_
          have HO327 := n2_
          have BK321 := n3_
          have BK328 := n4_
          have HB := n5_
          clear n0_ n1_ n2_ n3_ n4_ n5_
          (try clear hb)
          (try clear hb2)
          (try clear hk)
          (try clear hi)
          refine hK.out _ _ ⟨bA12 BK321 rfl, bA12 BK321 rfl, bA12 BK321 rfl, bA12 BK321 rfl⟩ (fun hHeld => ?_)
          clear hK K
          refine norm_ (a' := ?_) ?_ ?_
          rotate_left
          ·show Act.put _ (some 34) _ = _
           simp only [Act.put, zs12, zc12, zd12, i64_w, i32_w]
           rfl
          refine pure_ (i := 4) (N := some 30) (v := ?_) (a' := ?_) #[true, true, true, true, true, false, false, false, false, false] rfl rfl (any_of HT_.out (by kernel_rfl)) (fun _ _ _ h => h) (Or.inl ⟨by rfl, ?_⟩) ?_ ?_
          rotate_left
          ·intro w'
           go_simp
           with_reducible rfl
          rotate_left
          ·simp only [Act.put, zs12, zc12, zd12, i64_w, i32_w]
           rfl
          refine pure_ (i := 5) (N := some 35) (v := ?_) (a' := ?_) #[true, true, true, true, true, true, false, false, false, false] rfl rfl (any_of HT_.out (by kernel_rfl)) (fun _ _ _ h => h) (Or.inl ⟨by rfl, ?_⟩) ?_ ?_
          rotate_left
          ·intro w'
           go_simp
           with_reducible rfl
          rotate_left
          ·simp only [Act.put, zs12, zc12, zd12, i64_w, i32_w]
           rfl
          refine pure_ (i := 6) (N := some 36) (v := ?_) (a' := ?_) #[true, true, true, true, true, true, true, false, false, false] rfl rfl (any_of HT_.out (by kernel_rfl)) (fun _ _ _ h => h) (Or.inl ⟨by rfl, ?_⟩) ?_ ?_
          rotate_left
          ·intro w'
           go_simp
           with_reducible rfl
          rotate_left
          ·simp only [Act.put, zs12, zc12, zd12, i64_w, i32_w]
           rfl
          refine one_ (i := 7) (N := some 10) #[true, true, true, true, true, true, true, true, false, false] rfl rfl (one_of HT_.out (by kernel_rfl)) (by decide) (fun K hK => ?_)
          refine box_step ?hg (N := 10) ?hd (cs := #[.int .i64 0, .int .i64 0, .int .i64 0, .int .i64 0, .int .i64 0, .int .i64 0, .int .i64 0, .int .i64 0]) (t := 62) ?hr ?_; (case hd => rfl); (case hg => rfl); (case hr => first | (go_simp; done) | (go_simp; rfl))
          intro gb338 hg w25 hbox hb
          have n0_ := Aside0.mk (Kd.R_below z12_6 hb)
          have n1_ := Aside0.mk (Kd.R_below z12_4 hb)
          have n2_ := Aside0.mk (Kd.R_below z12_5 hb)
          have n3_ := Aside0.mk (blk_below (g := gb321) (o := .cells #[.int .i64 t316, .int .i64 t317, .int .i64 t318, .int .i64 t319] 59 (0, 0)) (zL12 BK321.out) hb)
          have n4_ := Aside0.mk (blk_below (g := gb328) (o := .cells #[v323, v326] 54 (0, 0)) (zL12 BK328.out) hb)
          have n5_ := Aside0.mk (below_step z12_3 hb)
          have n6_ := Aside0.mk (hbox)
          have n7_ := Aside0.mk ((by rw [hg]; exact (below_size z12_3) : w.heap.size ≤ gb338))
          have n8_ := Aside0.mk ((by rw [hg]; exact (below_size z12_3) : w.heap.size ≤ gb338))
          have n9_ := Aside0.mk ((by rw [hg]; exact Nat.ne_of_lt (blk_lt (g := gb321) (o := .cells #[.int .i64 t316, .int .i64 t317, .int .i64 t318, .int .i64 t319] 59 (0, 0)) (zL12 BK321.out)) : gb321 ≠ gb338))
          have n10_ := Aside0.mk ((by rw [hg]; exact Nat.ne_of_gt (blk_lt (g := gb321) (o := .cells #[.int .i64 t316, .int .i64 t317, .int .i64 t318, .int .i64 t319] 59 (0, 0)) (zL12 BK321.out)) : gb338 ≠ gb321))
          have n11_ := Aside0.mk ((by rw [hg]; exact Nat.ne_of_lt (blk_lt (g := gb328) (o := .cells #[v323, v326] 54 (0, 0)) (zL12 BK328.out)) : gb328 ≠ gb338))
          have n12_ := Aside0.mk ((by rw [hg]; exact Nat.ne_of_gt (blk_lt (g := gb328) (o := .cells #[v323, v326] 54 (0, 0)) (zL12 BK328.out)) : gb338 ≠ gb328))
          clear HO_6
          clear HO324
          clear HO327
          clear BK321
          clear BK328
          clear HB
          have HO_6 := n0_
          have HO324 := n1_
          have HO327 := n2_
          have BK321 := n3_
          have BK328 := n4_
          have HB := n5_
          have BK338 := n6_
          have GW338 := n7_
          have GE338 := n8_
          have aa := n9_
          have ac := n10_
          have ab := n11_
          have ad := n12_
          clear n0_ n1_ n2_ n3_ n4_ n5_ n6_ n7_ n8_ n9_ n10_ n11_ n12_
          clear hb hbox hg
          refine hK.out _ _ ⟨bA12 BK321 rfl, bA12 BK321 rfl, bA12 BK321 rfl, bA12 BK321 rfl⟩ (fun hHeld => ?_)
          clear hK K
          refine norm_ (a' := ?_) ?_ ?_
          rotate_left
          ·show Act.put _ (some 10) _ = _
           simp only [Act.put, zs12, zc12, zd12, i64_w, i32_w]
           rfl
          exact norm_ z12_18 (hCont (gb328, v323, v326, gb338) _ ⟨hHeld, z12_4, z12_5, z12_6, (zL12 BK321.out), (zL12 BK328.out), (zL12 BK338.out), GW328.out, GE328.out, ag.out, ah.out, ad.out, ab.out, GW338.out, GE338.out, aa.out, ac.out, z12_1⟩)
         ·skip
          refine box_step ?hg (N := 10) ?hd (cs := #[.int .i64 0, .int .i64 0, .int .i64 0, .int .i64 0, .int .i64 0, .int .i64 0, .int .i64 0, .int .i64 0]) (t := 62) ?hr ?_; (case hd => rfl); (case hg => rfl); (case hr => first | (go_simp; done) | (go_simp; rfl))
          intro gb338 hg w24 hbox hb
          have n0_ := Aside0.mk (Kd.R_below z12_6 hb)
          have n1_ := Aside0.mk (Kd.R_below z12_4 hb)
          have n2_ := Aside0.mk (Kd.R_below z12_5 hb)
          have n3_ := Aside0.mk (blk_below (g := gb321) (o := .cells #[.int .i64 t316, .int .i64 t317, .int .i64 t318, .int .i64 t319] 59 (0, 0)) (zL12 BK321.out) hb)
          have n4_ := Aside0.mk (blk_below (g := gb328) (o := .cells #[v323, v326] 54 (0, 0)) (zL12 BK328.out) hb)
          have n5_ := Aside0.mk (below_step z12_3 hb)
          have n6_ := Aside0.mk (hbox)
          have n7_ := Aside0.mk ((by rw [hg]; exact (below_size z12_3) : w.heap.size ≤ gb338))
          have n8_ := Aside0.mk ((by rw [hg]; exact (below_size z12_3) : w.heap.size ≤ gb338))
          have n9_ := Aside0.mk ((by rw [hg]; exact Nat.ne_of_lt (blk_lt (g := gb321) (o := .cells #[.int .i64 t316, .int .i64 t317, .int .i64 t318, .int .i64 t319] 59 (0, 0)) (zL12 BK321.out)) : gb321 ≠ gb338))
          have n10_ := Aside0.mk ((by rw [hg]; exact Nat.ne_of_gt (blk_lt (g := gb321) (o := .cells #[.int .i64 t316, .int .i64 t317, .int .i64 t318, .int .i64 t319] 59 (0, 0)) (zL12 BK321.out)) : gb338 ≠ gb321))
          have n11_ := Aside0.mk ((by rw [hg]; exact Nat.ne_of_lt (blk_lt (g := gb328) (o := .cells #[v323, v326] 54 (0, 0)) (zL12 BK328.out)) : gb328 ≠ gb338))
          have n12_ := Aside0.mk ((by rw [hg]; exact Nat.ne_of_gt (blk_lt (g := gb328) (o := .cells #[v323, v326] 54 (0, 0)) (zL12 BK328.out)) : gb338 ≠ gb328))
          clear HO_6
          clear HO324
          clear HO327
          clear BK321
          clear BK328
          clear HB
          have HO_6 := n0_
          have HO324 := n1_
          have HO327 := n2_
          have BK321 := n3_
          have BK328 := n4_
          have HB := n5_
          have BK338 := n6_
          have GW338 := n7_
          have GE338 := n8_
          have aa := n9_
          have ac := n10_
          have ab := n11_
          have ad := n12_
          clear n0_ n1_ n2_ n3_ n4_ n5_ n6_ n7_ n8_ n9_ n10_ n11_ n12_
          clear hb hbox hg
          refine hK.out _ _ ⟨bA12 BK321 rfl, bA12 BK321 rfl, bA12 BK321 rfl, bA12 BK321 rfl⟩ (fun hHeld => ?_)
          clear hK K
          refine norm_ (a' := ?_) ?_ ?_
          rotate_left
          ·show Act.put _ (some 10) _ = _
           simp only [Act.put, zs12, zc12, zd12, i64_w, i32_w]
           rfl
          refine one_ (i := 3) (N := some 34) #[true, true, true, true, false, false, false, true, false, false] rfl rfl (one_of HT_.out (by kernel_rfl)) (by decide) (fun K hK => ?_)
          refine goes_ Try.func57 (by kernel_rfl) rfl #[.pointer (some ⟨gb328, 0, none⟩), .agg #[.int .i64 t316, .int .i64 t317, .int .i64 t318, .int .i64 t319]] (by rfl) rfl rfl z12_10 ?_
          with_reducible refine (impl_span_byB.calls kj4 v323 t322 v326 t325 t316 t317 t318 t319 t329 t330 t331 t332 t333 t334 t335 t336 true _ ?side1 ?side2 ?side3 A17.out).mono ?_
          (case side1 => (with_reducible repeat first|refine blk_drewN ?_ _|refine blk_drew ?_|refine blk_alloc ?_ _); exact BK328.out)
          (case side2 => exact own_open z12_4)
          (case side3 => exact own_open z12_5)
          rintro e w25 ⟨rfl, hb⟩
          refine ⟨_, rfl, ?_⟩
          have n0_ := Aside0.mk (Kd.R_below z12_6 hb)
          have n1_ := Aside0.mk (Kd.R_below z12_4 hb)
          have n2_ := Aside0.mk (Kd.R_below z12_5 hb)
          have n3_ := Aside0.mk (blk_below (g := gb321) (o := .cells #[.int .i64 t316, .int .i64 t317, .int .i64 t318, .int .i64 t319] 59 (0, 0)) (zL12 BK321.out) hb)
          have n4_ := Aside0.mk (blk_below (g := gb328) (o := .cells #[v323, v326] 54 (0, 0)) (zL12 BK328.out) hb)
          have n5_ := Aside0.mk (blk_below (g := gb338) (o := .cells #[.int .i64 0, .int .i64 0, .int .i64 0, .int .i64 0, .int .i64 0, .int .i64 0, .int .i64 0, .int .i64 0] 62 (0, 0)) (zL12 BK338.out) hb)
          have n6_ := Aside0.mk (below_step z12_1 hb)
          clear HO_6
          clear HO324
          clear HO327
          clear BK321
          clear BK328
          clear BK338
          clear HB
          have HO_6 := n0_
          have HO324 := n1_
          have HO327 := n2_
          have BK321 := n3_
          have BK328 := n4_
          have BK338 := n5_
          have HB := n6_
          clear n0_ n1_ n2_ n3_ n4_ n5_ n6_
          (try clear hb)
          (try clear hb2)
          (try clear hk)
          (try clear hi)
          refine hK.out _ _ ⟨bA12 BK321 rfl, bA12 BK321 rfl, bA12 BK321 rfl, bA12 BK321 rfl⟩ (fun hHeld => ?_)
          clear hK K
          refine norm_ (a' := ?_) ?_ ?_
          rotate_left
          ·show Act.put _ (some 34) _ = _
           simp only [Act.put, zs12, zc12, zd12, i64_w, i32_w]
           rfl
          refine pure_ (i := 4) (N := some 30) (v := ?_) (a' := ?_) #[true, true, true, true, true, false, false, true, false, false] rfl rfl (any_of HT_.out (by kernel_rfl)) (fun _ _ _ h => h) (Or.inl ⟨by rfl, ?_⟩) ?_ ?_
          rotate_left
          ·intro w'
           go_simp
           with_reducible rfl
          rotate_left
          ·simp only [Act.put, zs12, zc12, zd12, i64_w, i32_w]
           rfl
          refine pure_ (i := 5) (N := some 35) (v := ?_) (a' := ?_) #[true, true, true, true, true, true, false, true, false, false] rfl rfl (any_of HT_.out (by kernel_rfl)) (fun _ _ _ h => h) (Or.inl ⟨by rfl, ?_⟩) ?_ ?_
          rotate_left
          ·intro w'
           go_simp
           with_reducible rfl
          rotate_left
          ·simp only [Act.put, zs12, zc12, zd12, i64_w, i32_w]
           rfl
          refine pure_ (i := 6) (N := some 36) (v := ?_) (a' := ?_) #[true, true, true, true, true, true, true, true, false, false] rfl rfl (any_of HT_.out (by kernel_rfl)) (fun _ _ _ h => h) (Or.inl ⟨by rfl, ?_⟩) ?_ ?_
          rotate_left
          ·intro w'
           go_simp
           with_reducible rfl
          rotate_left
          ·simp only [Act.put, zs12, zc12, zd12, i64_w, i32_w]
           rfl
          exact norm_ z12_18 (hCont (gb328, v323, v326, gb338) _ ⟨hHeld, z12_4, z12_5, z12_6, (zL12 BK321.out), (zL12 BK328.out), (zL12 BK338.out), GW328.out, GE328.out, ag.out, ah.out, ad.out, ab.out, GW338.out, GE338.out, aa.out, ac.out, z12_1⟩)
        ·skip
         refine box_step ?hg (N := 10) ?hd (cs := #[.int .i64 0, .int .i64 0, .int .i64 0, .int .i64 0, .int .i64 0, .int .i64 0, .int .i64 0, .int .i64 0]) (t := 62) ?hr ?_; (case hd => rfl); (case hg => rfl); (case hr => first | (go_simp; done) | (go_simp; rfl))
         intro gb338 hg w23 hbox hb
         have n0_ := Aside0.mk (Kd.R_below z12_6 hb)
         have n1_ := Aside0.mk (blk_below (g := gb321) (o := .cells #[.int .i64 t316, .int .i64 t317, .int .i64 t318, .int .i64 t319] 59 (0, 0)) (zL12 BK321.out) hb)
         have n2_ := Aside0.mk (below_step z12_2 hb)
         have n3_ := Aside0.mk (hbox)
         have n4_ := Aside0.mk ((by rw [hg]; exact (below_size z12_2) : w.heap.size ≤ gb338))
         have n5_ := Aside0.mk ((by rw [hg]; exact (below_size z12_2) : w.heap.size ≤ gb338))
         have n6_ := Aside0.mk ((by rw [hg]; exact Nat.ne_of_lt (blk_lt (g := gb321) (o := .cells #[.int .i64 t316, .int .i64 t317, .int .i64 t318, .int .i64 t319] 59 (0, 0)) (zL12 BK321.out)) : gb321 ≠ gb338))
         have n7_ := Aside0.mk ((by rw [hg]; exact Nat.ne_of_gt (blk_lt (g := gb321) (o := .cells #[.int .i64 t316, .int .i64 t317, .int .i64 t318, .int .i64 t319] 59 (0, 0)) (zL12 BK321.out)) : gb338 ≠ gb321))
         clear HO_6
         clear BK321
         clear HB
         have HO_6 := n0_
         have BK321 := n1_
         have HB := n2_
         have BK338 := n3_
         have GW338 := n4_
         have GE338 := n5_
         have aa := n6_
         have ac := n7_
         clear n0_ n1_ n2_ n3_ n4_ n5_ n6_ n7_
         clear hb hbox hg
         refine hK.out _ _ ⟨bA12 BK321 rfl, bA12 BK321 rfl, bA12 BK321 rfl, bA12 BK321 rfl⟩ (fun hHeld => ?_)
         clear hK K
         refine norm_ (a' := ?_) ?_ ?_
         rotate_left
         ·show Act.put _ (some 10) _ = _
          simp only [Act.put, zs12, zc12, zd12, i64_w, i32_w]
          rfl
         refine one_ (i := 1) (N := some 32) #[true, true, true, false, false, false, false, true, false, false] rfl rfl (one_of HT_.out (by kernel_rfl)) (by decide) (fun K hK => ?_)
         refine goes_ Try.func54 (by kernel_rfl) rfl #[.slice Ao21 t312.length co21] (by rfl) rfl rfl z12_10 ?_
         with_reducible refine (impl_spanOf.calls kj4 _ _ t312 t322 t325 _ ?side1 ?side2 A16.out).mono ?_
         (case side1 => repeat (first | exact (Kd.R_reads' HO_6.out).2.2 | (with_reducible refine Kd.C_alloc ?_ _) | (with_reducible refine Kd.C_drewN ?_ _) | (with_reducible refine Kd.C_drew ?_)))
         (case side2 => exact (Kd.R_reads' HO_6.out).2.1)
         rintro e w24 ⟨v323, v326, gb328, rfl, hbox, hgr, ho0, ho1, hb⟩
         refine ⟨_, rfl, ?_⟩
         have n0_ := Aside0.mk (Kd.R_below z12_6 hb)
         have n1_ := Aside0.mk (Kd.R_lower ho0 (below_size z12_7))
         have n2_ := Aside0.mk (Kd.R_lower ho1 (below_size z12_7))
         have n3_ := Aside0.mk (blk_below (g := gb321) (o := .cells #[.int .i64 t316, .int .i64 t317, .int .i64 t318, .int .i64 t319] 59 (0, 0)) (zL12 BK321.out) hb)
         have n4_ := Aside0.mk (blk_below (g := gb338) (o := .cells #[.int .i64 0, .int .i64 0, .int .i64 0, .int .i64 0, .int .i64 0, .int .i64 0, .int .i64 0, .int .i64 0] 62 (0, 0)) (zL12 BK338.out) hb)
         have n5_ := Aside0.mk (hbox)
         have n6_ := Aside0.mk ((Nat.le_trans ((below_size z12_7) : w.heap.size ≤ _) hgr : w.heap.size ≤ gb328))
         have n7_ := Aside0.mk ((Nat.le_trans ((below_size z12_7) : w.heap.size ≤ _) hgr : w.heap.size ≤ gb328))
         have n8_ := Aside0.mk ((Nat.ne_of_lt (Nat.lt_of_lt_of_le (blk_lt (g := gb321) (o := .cells #[.int .i64 t316, .int .i64 t317, .int .i64 t318, .int .i64 t319] 59 (0, 0)) (zL12 BK321.out)) hgr) : gb321 ≠ gb328))
         have n9_ := Aside0.mk ((Nat.ne_of_gt (Nat.lt_of_lt_of_le (blk_lt (g := gb321) (o := .cells #[.int .i64 t316, .int .i64 t317, .int .i64 t318, .int .i64 t319] 59 (0, 0)) (zL12 BK321.out)) hgr) : gb328 ≠ gb321))
         have n10_ := Aside0.mk ((Nat.ne_of_lt (Nat.lt_of_lt_of_le (blk_lt (g := gb338) (o := .cells #[.int .i64 0, .int .i64 0, .int .i64 0, .int .i64 0, .int .i64 0, .int .i64 0, .int .i64 0, .int .i64 0] 62 (0, 0)) (zL12 BK338.out)) hgr) : gb338 ≠ gb328))
         have n11_ := Aside0.mk ((Nat.ne_of_gt (Nat.lt_of_lt_of_le (blk_lt (g := gb338) (o := .cells #[.int .i64 0, .int .i64 0, .int .i64 0, .int .i64 0, .int .i64 0, .int .i64 0, .int .i64 0, .int .i64 0] 62 (0, 0)) (zL12 BK338.out)) hgr) : gb328 ≠ gb338))
         have n12_ := Aside0.mk (below_step z12_7 hb)
         clear HO_6
         clear BK321
         clear BK338
         clear HB
         have HO_6 := n0_
         have HO324 := n1_
         have HO327 := n2_
         have BK321 := n3_
         have BK338 := n4_
         have BK328 := n5_
         have GW328 := n6_
         have GE328 := n7_
         have ag := n8_
         have ah := n9_
         have ad := n10_
         have ab := n11_
         have HB := n12_
         clear n0_ n1_ n2_ n3_ n4_ n5_ n6_ n7_ n8_ n9_ n10_ n11_ n12_
         (try clear hb)
         (try clear hb2)
         (try clear hk)
         (try clear hi)
         (try clear ho0)
         (try clear ho1)
         refine hK.out _ _ ⟨bA12 BK321 rfl, bA12 BK321 rfl, bA12 BK321 rfl, bA12 BK321 rfl⟩ (fun hHeld => ?_)
         clear hK K
         refine norm_ (a' := ?_) ?_ ?_
         rotate_left
         ·show Act.put _ (some 32) _ = _
          simp only [Act.put, zs12, zc12, zd12, i64_w, i32_w]
          rfl
         refine one_ (i := 3) (N := some 34) #[true, true, true, true, false, false, false, true, false, false] rfl rfl (one_of HT_.out (by kernel_rfl)) (by decide) (fun K hK => ?_)
         refine goes_ Try.func57 (by kernel_rfl) rfl #[.pointer (some ⟨gb328, 0, none⟩), .agg #[.int .i64 t316, .int .i64 t317, .int .i64 t318, .int .i64 t319]] (by rfl) rfl rfl z12_10 ?_
         with_reducible refine (impl_span_byB.calls kj4 v323 t322 v326 t325 t316 t317 t318 t319 t329 t330 t331 t332 t333 t334 t335 t336 true _ ?side1 ?side2 ?side3 A17.out).mono ?_
         (case side1 => (with_reducible repeat first|refine blk_drewN ?_ _|refine blk_drew ?_|refine blk_alloc ?_ _); exact BK328.out)
         (case side2 => exact own_open z12_4)
         (case side3 => exact own_open z12_5)
         rintro e w25 ⟨rfl, hb⟩
         refine ⟨_, rfl, ?_⟩
         have n0_ := Aside0.mk (Kd.R_below z12_6 hb)
         have n1_ := Aside0.mk (Kd.R_below z12_4 hb)
         have n2_ := Aside0.mk (Kd.R_below z12_5 hb)
         have n3_ := Aside0.mk (blk_below (g := gb321) (o := .cells #[.int .i64 t316, .int .i64 t317, .int .i64 t318, .int .i64 t319] 59 (0, 0)) (zL12 BK321.out) hb)
         have n4_ := Aside0.mk (blk_below (g := gb338) (o := .cells #[.int .i64 0, .int .i64 0, .int .i64 0, .int .i64 0, .int .i64 0, .int .i64 0, .int .i64 0, .int .i64 0] 62 (0, 0)) (zL12 BK338.out) hb)
         have n5_ := Aside0.mk (blk_below (g := gb328) (o := .cells #[v323, v326] 54 (0, 0)) (zL12 BK328.out) hb)
         have n6_ := Aside0.mk (below_step z12_15 hb)
         clear HO_6
         clear HO324
         clear HO327
         clear BK321
         clear BK338
         clear BK328
         clear HB
         have HO_6 := n0_
         have HO324 := n1_
         have HO327 := n2_
         have BK321 := n3_
         have BK338 := n4_
         have BK328 := n5_
         have HB := n6_
         clear n0_ n1_ n2_ n3_ n4_ n5_ n6_
         (try clear hb)
         (try clear hb2)
         (try clear hk)
         (try clear hi)
         refine hK.out _ _ ⟨bA12 BK321 rfl, bA12 BK321 rfl, bA12 BK321 rfl, bA12 BK321 rfl⟩ (fun hHeld => ?_)
         clear hK K
         refine norm_ (a' := ?_) ?_ ?_
         rotate_left
         ·show Act.put _ (some 34) _ = _
          simp only [Act.put, zs12, zc12, zd12, i64_w, i32_w]
          rfl
         refine pure_ (i := 4) (N := some 30) (v := ?_) (a' := ?_) #[true, true, true, true, true, false, false, true, false, false] rfl rfl (any_of HT_.out (by kernel_rfl)) (fun _ _ _ h => h) (Or.inl ⟨by rfl, ?_⟩) ?_ ?_
         rotate_left
         ·intro w'
          go_simp
          with_reducible rfl
         rotate_left
         ·simp only [Act.put, zs12, zc12, zd12, i64_w, i32_w]
          rfl
         refine pure_ (i := 5) (N := some 35) (v := ?_) (a' := ?_) #[true, true, true, true, true, true, false, true, false, false] rfl rfl (any_of HT_.out (by kernel_rfl)) (fun _ _ _ h => h) (Or.inl ⟨by rfl, ?_⟩) ?_ ?_
         rotate_left
         ·intro w'
          go_simp
          with_reducible rfl
         rotate_left
         ·simp only [Act.put, zs12, zc12, zd12, i64_w, i32_w]
          rfl
         refine pure_ (i := 6) (N := some 36) (v := ?_) (a' := ?_) #[true, true, true, true, true, true, true, true, false, false] rfl rfl (any_of HT_.out (by kernel_rfl)) (fun _ _ _ h => h) (Or.inl ⟨by rfl, ?_⟩) ?_ ?_
         rotate_left
         ·intro w'
          go_simp
          with_reducible rfl
         rotate_left
         ·simp only [Act.put, zs12, zc12, zd12, i64_w, i32_w]
          rfl
         exact norm_ z12_18 (hCont (gb328, v323, v326, gb338) _ ⟨hHeld, z12_4, z12_5, z12_6, (zL12 BK321.out), (zL12 BK328.out), (zL12 BK338.out), GW328.out, GE328.out, ag.out, ah.out, ad.out, ab.out, GW338.out, GE338.out, aa.out, ac.out, z12_15⟩)
       rintro ⟨gb328, v323, v326, gb338⟩ w26 ⟨hS_, h0_, h1_, h2_, h3_, h4_, h5_, h6_, h7_, h8_, h9_, h10_, h11_, h12_, h13_, h14_, h15_, h16_⟩
       have n0_ : Aside0 (Kd.R k77 77 w26 w.heap.size (fun _ => True) v323 t322) := ⟨h0_⟩
       have n1_ : Aside0 (Kd.R (Kd.int .i64) 3 w26 w.heap.size (fun _ => True) v326 t325) := ⟨h1_⟩
       have n2_ : Aside0 (Kd.R k59 59 w26 w.heap.size (fun k_ => k_ ≠ gb321) (.slice Ao21 t312.length co21) t312) := ⟨h2_⟩
       have n3_ : Aside0 (w26.heap[gb321]? = some (.cells #[.int .i64 t316, .int .i64 t317, .int .i64 t318, .int .i64 t319] 59 (0, 0))) := ⟨h3_⟩
       have n4_ : Aside0 (w26.heap[gb328]? = some (.cells #[v323, v326] 54 (0, 0))) := ⟨h4_⟩
       have n5_ : Aside0 (w26.heap[gb338]? = some (.cells #[.int .i64 0, .int .i64 0, .int .i64 0, .int .i64 0, .int .i64 0, .int .i64 0, .int .i64 0, .int .i64 0] 62 (0, 0))) := ⟨h5_⟩
       have n6_ : Aside0 (w.heap.size ≤ gb328) := ⟨h6_⟩
       have n7_ : Aside0 (w.heap.size ≤ gb328) := ⟨h7_⟩
       have n8_ : Aside0 (gb321 ≠ gb328) := ⟨h8_⟩
       have n9_ : Aside0 (gb328 ≠ gb321) := ⟨h9_⟩
       have n10_ : Aside0 (gb338 ≠ gb328) := ⟨h10_⟩
       have n11_ : Aside0 (gb328 ≠ gb338) := ⟨h11_⟩
       have n12_ : Aside0 (w.heap.size ≤ gb338) := ⟨h12_⟩
       have n13_ : Aside0 (w.heap.size ≤ gb338) := ⟨h13_⟩
       have n14_ : Aside0 (gb321 ≠ gb338) := ⟨h14_⟩
       have n15_ : Aside0 (gb338 ≠ gb321) := ⟨h15_⟩
       have n16_ : Aside0 (Below w.heap.size w w26) := ⟨h16_⟩
       clear HO_6
       clear BK321
       clear HB
       clear h0_ h1_ h2_ h3_ h4_ h5_ h6_ h7_ h8_ h9_ h10_ h11_ h12_ h13_ h14_ h15_ h16_
       have HO324 := n0_
       have HO327 := n1_
       have HO_6 := n2_
       have BK321 := n3_
       have BK328 := n4_
       have BK338 := n5_
       have GW328 := n6_
       have GE328 := n7_
       have ag := n8_
       have ah := n9_
       have ad := n10_
       have ab := n11_
       have GW338 := n12_
       have GE338 := n13_
       have aa := n14_
       have ac := n15_
       have HB := n16_
       clear n0_ n1_ n2_ n3_ n4_ n5_ n6_ n7_ n8_ n9_ n10_ n11_ n12_ n13_ n14_ n15_ n16_
       have hHeld : w26.cell? ⟨gb321, 0, none⟩ = some (.int .i64 t316) ∧ w26.cell? ⟨gb321, 1, none⟩ = some (.int .i64 t317) ∧ w26.cell? ⟨gb321, 2, none⟩ = some (.int .i64 t318) ∧ w26.cell? ⟨gb321, 3, none⟩ = some (.int .i64 t319) := hS_
       refine norm_ (a' := ?_) ?_ ?_
       rotate_left
       ·simp only [putAll, Act.put, List.setIfInBounds_toArray, List.set_cons_zero, List.set_cons_succ]
        rfl
       refine one_ (i := 8) (N := none) #[true, true, true, true, true, true, true, true, true, false] rfl rfl (one_of HT_.out (by kernel_rfl)) (by decide) (fun K hK => ?_)
       have hs27 : w26.cell? ⟨gb338, 0, none⟩ = some (.int .i64 0) := bA12 BK338 rfl
       have hfs27 := blk_frozen BK338.out 0
       have hns27_0 := aa.out
       have hns27_1 := ab.out
       have hms27_0 := ac.out
       have hms27_1 := ad.out
       have hs28 : w26.cell? ⟨gb338, 1, none⟩ = some (.int .i64 0) := bA12 BK338 rfl
       have hfs28 := blk_frozen BK338.out 1
       have hns28_0 := aa.out
       have hns28_1 := ab.out
       have hms28_0 := ac.out
       have hms28_1 := ad.out
       have hs29 : w26.cell? ⟨gb338, 2, none⟩ = some (.int .i64 0) := bA12 BK338 rfl
       have hfs29 := blk_frozen BK338.out 2
       have hns29_0 := aa.out
       have hns29_1 := ab.out
       have hms29_0 := ac.out
       have hms29_1 := ad.out
       have hs30 : w26.cell? ⟨gb338, 3, none⟩ = some (.int .i64 0) := bA12 BK338 rfl
       have hfs30 := blk_frozen BK338.out 3
       have hns30_0 := aa.out
       have hns30_1 := ab.out
       have hms30_0 := ac.out
       have hms30_1 := ad.out
       have hs31 : w26.cell? ⟨gb338, 4, none⟩ = some (.int .i64 0) := bA12 BK338 rfl
       have hfs31 := blk_frozen BK338.out 4
       have hns31_0 := aa.out
       have hns31_1 := ab.out
       have hms31_0 := ac.out
       have hms31_1 := ad.out
       have hs32 : w26.cell? ⟨gb338, 5, none⟩ = some (.int .i64 0) := bA12 BK338 rfl
       have hfs32 := blk_frozen BK338.out 5
       have hns32_0 := aa.out
       have hns32_1 := ab.out
       have hms32_0 := ac.out
       have hms32_1 := ad.out
       have hs33 : w26.cell? ⟨gb338, 6, none⟩ = some (.int .i64 0) := bA12 BK338 rfl
       have hfs33 := blk_frozen BK338.out 6
       have hns33_0 := aa.out
       have hns33_1 := ab.out
       have hms33_0 := ac.out
       have hms33_1 := ad.out
       have hs34 : w26.cell? ⟨gb338, 7, none⟩ = some (.int .i64 0) := bA12 BK338 rfl
       have hfs34 := blk_frozen BK338.out 7
       have hns34_0 := aa.out
       have hns34_1 := ab.out
       have hms34_0 := ac.out
       have hms34_1 := ad.out
       refine skip_ (w1 := ?_) (by rfl) rfl ?_ ?_
       rotate_left
       ·go_simp
        rfl
       refine hK.out _ _ ⟨((cell_far (p := ⟨gb338, _, none⟩) aa.out _).trans (((cell_far (p := ⟨gb338, _, none⟩) aa.out _).trans (((cell_far (p := ⟨gb338, _, none⟩) aa.out _).trans (((cell_far (p := ⟨gb338, _, none⟩) aa.out _).trans (((cell_far (p := ⟨gb338, _, none⟩) aa.out _).trans (((cell_far (p := ⟨gb338, _, none⟩) aa.out _).trans (((cell_far (p := ⟨gb338, _, none⟩) aa.out _).trans (((cell_far (p := ⟨gb338, _, none⟩) aa.out _).trans (hHeld.1)))))))))))))))), ((cell_far (p := ⟨gb338, _, none⟩) aa.out _).trans (((cell_far (p := ⟨gb338, _, none⟩) aa.out _).trans (((cell_far (p := ⟨gb338, _, none⟩) aa.out _).trans (((cell_far (p := ⟨gb338, _, none⟩) aa.out _).trans (((cell_far (p := ⟨gb338, _, none⟩) aa.out _).trans (((cell_far (p := ⟨gb338, _, none⟩) aa.out _).trans (((cell_far (p := ⟨gb338, _, none⟩) aa.out _).trans (((cell_far (p := ⟨gb338, _, none⟩) aa.out _).trans (hHeld.2.1)))))))))))))))), ((cell_far (p := ⟨gb338, _, none⟩) aa.out _).trans (((cell_far (p := ⟨gb338, _, none⟩) aa.out _).trans (((cell_far (p := ⟨gb338, _, none⟩) aa.out _).trans (((cell_far (p := ⟨gb338, _, none⟩) aa.out _).trans (((cell_far (p := ⟨gb338, _, none⟩) aa.out _).trans (((cell_far (p := ⟨gb338, _, none⟩) aa.out _).trans (((cell_far (p := ⟨gb338, _, none⟩) aa.out _).trans (((cell_far (p := ⟨gb338, _, none⟩) aa.out _).trans (hHeld.2.2.1)))))))))))))))), ((cell_far (p := ⟨gb338, _, none⟩) aa.out _).trans (((cell_far (p := ⟨gb338, _, none⟩) aa.out _).trans (((cell_far (p := ⟨gb338, _, none⟩) aa.out _).trans (((cell_far (p := ⟨gb338, _, none⟩) aa.out _).trans (((cell_far (p := ⟨gb338, _, none⟩) aa.out _).trans (((cell_far (p := ⟨gb338, _, none⟩) aa.out _).trans (((cell_far (p := ⟨gb338, _, none⟩) aa.out _).trans (((cell_far (p := ⟨gb338, _, none⟩) aa.out _).trans (hHeld.2.2.2))))))))))))))))⟩ (fun hHeld => ?_)
       clear hK K
       refine pure_ (i := 9) (N := some 11) (v := ?_) (a' := ?_) #[true, true, true, true, true, true, true, true, true, true] rfl rfl (any_of HT_.out (by kernel_rfl)) (fun _ _ _ h => h) (Or.inl ⟨by rfl, ?_⟩) ?_ ?_
       rotate_left
       ·intro w'
        go_simp
        with_reducible rfl
       rotate_left
       ·simp only [Act.put, zs12, zc12, zd12, i64_w, i32_w]
        rfl
       refine done_ (done_of HT_.out (by kernel_rfl)) ?_
       try go_wp2_with (first | ((with_reducible refine gate_dst (N := 41) rfl ?_); refine R_make0 (Kd.int .i64) _ 3 rfl (N := 41) rfl 28 _ _ rfl (l0.length : Int) rfl rfl Try.underlying28 (.int .i64 0) 8 info3 (by decide) (ok := fun _ => True) (okp := fun _ => True) (fun _ hk => hk) trivial (of_decide_eq_true (by first | (with_reducible assumption) | assumption)) (Nat.le_trans (Nat.mul_le_mul_right _ (of_decide_eq_true (by first | (with_reducible assumption) | assumption) : (l0.length : Int).toNat ≤ 35184372088832)) (by omega)) (Below.refl _ _) (Nat.le_refl _) ?_; intro v340 w35 ho36 hb hg_ hnew_; clear hg_ hnew_; (first | rw [← Ny339.out] at ho36 | (simp only [Int.reduceToNat] at ho36; rw [← Ny339.out] at ho36)); have n0_ := Aside0.mk (Kd.R_below (by (with_reducible repeat (first | apply Kd.R_alloc | apply Kd.R_drewN | apply Kd.R_drew)); exact (Kd.R_mono (Kd.R_far (p := ⟨gb338, 7, none⟩) (Kd.R_far (p := ⟨gb338, 6, none⟩) (Kd.R_far (p := ⟨gb338, 5, none⟩) (Kd.R_far (p := ⟨gb338, 4, none⟩) (Kd.R_far (p := ⟨gb338, 3, none⟩) (Kd.R_far (p := ⟨gb338, 2, none⟩) (Kd.R_far (p := ⟨gb338, 1, none⟩) (Kd.R_far (p := ⟨gb338, 0, none⟩) (Kd.R_types HO_6.out BK338.out (by decide)) (fun _ hk => hk.2) (.int .i64 t329)) (fun _ hk => hk.2) (.int .i64 t330)) (fun _ hk => hk.2) (.int .i64 t331)) (fun _ hk => hk.2) (.int .i64 t332)) (fun _ hk => hk.2) (.int .i64 t333)) (fun _ hk => hk.2) (.int .i64 t334)) (fun _ hk => hk.2) (.int .i64 t335)) (fun _ hk => hk.2) (.int .i64 t336)) (fun _ h_ => h_.1))) hb); have n1_ := Aside0.mk (Kd.R_below (by (with_reducible repeat (first | apply Kd.R_alloc | apply Kd.R_drewN | apply Kd.R_drew)); exact (Kd.R_mono (Kd.R_far (p := ⟨gb338, 7, none⟩) (Kd.R_far (p := ⟨gb338, 6, none⟩) (Kd.R_far (p := ⟨gb338, 5, none⟩) (Kd.R_far (p := ⟨gb338, 4, none⟩) (Kd.R_far (p := ⟨gb338, 3, none⟩) (Kd.R_far (p := ⟨gb338, 2, none⟩) (Kd.R_far (p := ⟨gb338, 1, none⟩) (Kd.R_far (p := ⟨gb338, 0, none⟩) (Kd.R_types HO324.out BK338.out (by decide)) (fun _ hk => hk.2) (.int .i64 t329)) (fun _ hk => hk.2) (.int .i64 t330)) (fun _ hk => hk.2) (.int .i64 t331)) (fun _ hk => hk.2) (.int .i64 t332)) (fun _ hk => hk.2) (.int .i64 t333)) (fun _ hk => hk.2) (.int .i64 t334)) (fun _ hk => hk.2) (.int .i64 t335)) (fun _ hk => hk.2) (.int .i64 t336)) (fun _ h_ => h_.1))) hb); have n2_ := Aside0.mk (Kd.R_elder' z12_14 (Kd.R_base ho36) hb); have n3_ := Aside0.mk (Kd.R_lower (Kd.R_new' ho36 (Kd.R_lt z12_14)) (below_size z12_1)); have n4_ := Aside0.mk (blk_below (g := gb321) (o := .cells #[.int .i64 t316, .int .i64 t317, .int .i64 t318, .int .i64 t319] 59 (0, 0)) (by (with_reducible repeat first|refine blk_drewN ?_ _|refine blk_drew ?_|refine blk_alloc ?_ _); refine blk_far ?_ aa.out _; (with_reducible repeat first|refine blk_drewN ?_ _|refine blk_drew ?_|refine blk_alloc ?_ _); refine blk_far ?_ aa.out _; (with_reducible repeat first|refine blk_drewN ?_ _|refine blk_drew ?_|refine blk_alloc ?_ _); refine blk_far ?_ aa.out _; (with_reducible repeat first|refine blk_drewN ?_ _|refine blk_drew ?_|refine blk_alloc ?_ _); refine blk_far ?_ aa.out _; (with_reducible repeat first|refine blk_drewN ?_ _|refine blk_drew ?_|refine blk_alloc ?_ _); refine blk_far ?_ aa.out _; (with_reducible repeat first|refine blk_drewN ?_ _|refine blk_drew ?_|refine blk_alloc ?_ _); refine blk_far ?_ aa.out _; (with_reducible repeat first|refine blk_drewN ?_ _|refine blk_drew ?_|refine blk_alloc ?_ _); refine blk_far ?_ aa.out _; (with_reducible repeat first|refine blk_drewN ?_ _|refine blk_drew ?_|refine blk_alloc ?_ _); refine blk_far ?_ aa.out _; (with_reducible repeat first|refine blk_drewN ?_ _|refine blk_drew ?_|refine blk_alloc ?_ _); exact BK321.out) hb); have n5_ := Aside0.mk (blk_below (g := gb328) (o := .cells #[v323, v326] 54 (0, 0)) (by (with_reducible repeat first|refine blk_drewN ?_ _|refine blk_drew ?_|refine blk_alloc ?_ _); refine blk_far ?_ ab.out _; (with_reducible repeat first|refine blk_drewN ?_ _|refine blk_drew ?_|refine blk_alloc ?_ _); refine blk_far ?_ ab.out _; (with_reducible repeat first|refine blk_drewN ?_ _|refine blk_drew ?_|refine blk_alloc ?_ _); refine blk_far ?_ ab.out _; (with_reducible repeat first|refine blk_drewN ?_ _|refine blk_drew ?_|refine blk_alloc ?_ _); refine blk_far ?_ ab.out _; (with_reducible repeat first|refine blk_drewN ?_ _|refine blk_drew ?_|refine blk_alloc ?_ _); refine blk_far ?_ ab.out _; (with_reducible repeat first|refine blk_drewN ?_ _|refine blk_drew ?_|refine blk_alloc ?_ _); refine blk_far ?_ ab.out _; (with_reducible repeat first|refine blk_drewN ?_ _|refine blk_drew ?_|refine blk_alloc ?_ _); refine blk_far ?_ ab.out _; (with_reducible repeat first|refine blk_drewN ?_ _|refine blk_drew ?_|refine blk_alloc ?_ _); refine blk_far ?_ ab.out _; (with_reducible repeat first|refine blk_drewN ?_ _|refine blk_drew ?_|refine blk_alloc ?_ _); exact BK328.out) hb); have n6_ := Aside0.mk (blk_below (g := gb338) (o := .cells #[.int .i64 t329, .int .i64 t330, .int .i64 t331, .int .i64 t332, .int .i64 t333, .int .i64 t334, .int .i64 t335, .int .i64 t336] 62 (0, 0)) (by (with_reducible repeat first|refine blk_drewN ?_ _|refine blk_drew ?_|refine blk_alloc ?_ _); refine blk_put (cs := #[.int .i64 t329, .int .i64 t330, .int .i64 t331, .int .i64 t332, .int .i64 t333, .int .i64 t334, .int .i64 t335, .int .i64 0]) ?_ 7 _ rfl; (with_reducible repeat first|refine blk_drewN ?_ _|refine blk_drew ?_|refine blk_alloc ?_ _); refine blk_put (cs := #[.int .i64 t329, .int .i64 t330, .int .i64 t331, .int .i64 t332, .int .i64 t333, .int .i64 t334, .int .i64 0, .int .i64 0]) ?_ 6 _ rfl; (with_reducible repeat first|refine blk_drewN ?_ _|refine blk_drew ?_|refine blk_alloc ?_ _); refine blk_put (cs := #[.int .i64 t329, .int .i64 t330, .int .i64 t331, .int .i64 t332, .int .i64 t333, .int .i64 0, .int .i64 0, .int .i64 0]) ?_ 5 _ rfl; (with_reducible repeat first|refine blk_drewN ?_ _|refine blk_drew ?_|refine blk_alloc ?_ _); refine blk_put (cs := #[.int .i64 t329, .int .i64 t330, .int .i64 t331, .int .i64 t332, .int .i64 0, .int .i64 0, .int .i64 0, .int .i64 0]) ?_ 4 _ rfl; (with_reducible repeat first|refine blk_drewN ?_ _|refine blk_drew ?_|refine blk_alloc ?_ _); refine blk_put (cs := #[.int .i64 t329, .int .i64 t330, .int .i64 t331, .int .i64 0, .int .i64 0, .int .i64 0, .int .i64 0, .int .i64 0]) ?_ 3 _ rfl; (with_reducible repeat first|refine blk_drewN ?_ _|refine blk_drew ?_|refine blk_alloc ?_ _); refine blk_put (cs := #[.int .i64 t329, .int .i64 t330, .int .i64 0, .int .i64 0, .int .i64 0, .int .i64 0, .int .i64 0, .int .i64 0]) ?_ 2 _ rfl; (with_reducible repeat first|refine blk_drewN ?_ _|refine blk_drew ?_|refine blk_alloc ?_ _); refine blk_put (cs := #[.int .i64 t329, .int .i64 0, .int .i64 0, .int .i64 0, .int .i64 0, .int .i64 0, .int .i64 0, .int .i64 0]) ?_ 1 _ rfl; (with_reducible repeat first|refine blk_drewN ?_ _|refine blk_drew ?_|refine blk_alloc ?_ _); refine blk_put (cs := #[.int .i64 0, .int .i64 0, .int .i64 0, .int .i64 0, .int .i64 0, .int .i64 0, .int .i64 0, .int .i64 0]) ?_ 0 _ rfl; (with_reducible repeat first|refine blk_drewN ?_ _|refine blk_drew ?_|refine blk_alloc ?_ _); exact BK338.out) hb); have n7_ := Aside0.mk (below_step z12_1 hb); clear HO_6; clear HO324; clear HO327; clear BK321; clear BK328; clear BK338; clear HB; have HO_6 := n0_; have HO324 := n1_; have HO327 := n2_; have HO341 := n3_; have BK321 := n4_; have BK328 := n5_; have BK338 := n6_; have HB := n7_; clear n0_ n1_ n2_ n3_ n4_ n5_ n6_ n7_; clear hb ho36))
       go_loopg [12, 44] kj4 (fun kq v12 v44 w' => ∃ (x12_2 : List Int) (x44_2 : Int), v44 = .int .i64 x44_2 ∧ Aside0 (impl_SpanBy.l0 kq x12_2 (l0.length : Int) x44_2 t329 t330 t331 t332 t333 t334 t335 t336 = some (r1, r2)) ∧ Aside0 (kq ≤ kj4) ∧ Aside0 (Kd.R (Kd.int .i64) 3 w' w.heap.size (fun k_ => some k_ ≠ (v326 : Value).ownBlock) v12 x12_2) ∧ Aside0 (Kd.R k77 77 w' w.heap.size (fun _ => True) v323 t322) ∧ Aside0 (Kd.R (Kd.int .i64) 3 w' w.heap.size (fun k_ => some k_ ≠ (v12 : Value).ownBlock) v326 t325) ∧ Aside0 (w'.heap[gb321]? = some (.cells #[.int .i64 t316, .int .i64 t317, .int .i64 t318, .int .i64 t319] 59 (0, 0))) ∧ Aside0 (w'.heap[gb328]? = some (.cells #[v323, v326] 54 (0, 0))) ∧ Aside0 (w'.heap[gb338]? = some (.cells #[.int .i64 t329, .int .i64 t330, .int .i64 t331, .int .i64 t332, .int .i64 t333, .int .i64 t334, .int .i64 t335, .int .i64 t336] 62 (0, 0))) ∧ Aside0 (Below w.heap.size w w'))
       case atStart => exact ⟨(y339), (0), (by first | rfl | (simp; done) | (simp [*]; done)), H', ⟨Nat.le_refl _⟩, ⟨by (with_reducible repeat (first | apply Kd.R_alloc | apply Kd.R_drewN | apply Kd.R_drew)); exact Kd.R_mono HO341.out (fun _ hk => hk.2)⟩, ⟨z12_4⟩, ⟨by (with_reducible repeat (first | apply Kd.R_alloc | apply Kd.R_drewN | apply Kd.R_drew)); exact Kd.R_mono HO327.out (fun _ hk => hk.2)⟩, ⟨zL12 BK321.out⟩, ⟨zL12 BK328.out⟩, ⟨zL12 BK338.out⟩, ⟨z12_1⟩⟩
       case round =>
        clear H'
        try clear c1
        try clear c15
        try clear c18
        try clear c19
        try clear c19b0
        try clear c19b1
        try clear c20
        try clear c20b0
        try clear c20b1
        obtain ⟨x12_2, x44_2, rfl, HA, HK2, HO_12, ae, af, BK321, BK328, BK338, HB⟩ := hrel
        cases gk with
        | zero => exact absurd HA.out (by simp [impl_SpanBy.l0])
        | succ k2 =>
         have H := HA.out
         clear HA
         simp only [impl_SpanBy.l0] at H
         by_cases c37 : x44_2 < (l0.length : Int)
         ·rw [if_pos c37] at H
          have c37b0 : decide (x44_2 < (l0.length : Int)) = true := decide_eq_true c37
          clear c37
          by_cases c38 : x44_2 = 0
          ·rw [if_pos c38] at H
           subst c38
           (try have hz_ := eq_true (Int.natCast_pos.1 (of_decide_eq_true c37b0) : 0 < l0.length))
           replace H : (if x12_2.length < 17592186044416 then (impl_SpanBy.l0 k2 (x12_2 ++ [t329]) (l0.length : Int) (wrap64 ((0 : Int) + 1)) t329 t330 t331 t332 t333 t334 t335 t336) else (none)) = some (r1, r2) := H
           by_cases c39 : x12_2.length < 17592186044416
           ·rw [if_pos c39] at H
            have LMc39 := Aside0.mk c39
            clear c39
            obtain ⟨y342, hy342⟩ : ∃ y_ : List Int, y_ = (x12_2 ++ [t329]) := ⟨_, rfl⟩
            replace H : (impl_SpanBy.l0 k2 y342 (l0.length : Int) (wrap64 ((0 : Int) + 1)) t329 t330 t331 t332 t333 t334 t335 t336) = some (r1, r2) := by first | (rw [hy342]; with_reducible exact H) | (have H2_ := (Option.bind_some _ _).symm.trans H; rw [hy342]; with_reducible exact H2_) | (have H2_ := (Option.bind_some _ _).symm.trans H; with_reducible exact H2_) | with_reducible exact H | (rw [hy342]; exact H) | exact H
            have Ny342 := Aside0.mk hy342
            clear hy342
            have H' := Aside0.mk H
            clear H
            have hnb40 := ac.out
            have hnc40 := aa.out
            have hnb41 := ad.out
            have hnc41 := ab.out
            have hcz42_0 : wr.cell? ⟨gb338, 0, none⟩ = some (.int .i64 t329) := bA12 BK338 rfl
            have hfz42_0 := blk_frozen BK338.out 0
            go_wp2_with (first | ((with_reducible refine gate_builtin (b := .append) (xs := #[.tmp 47, .tmp 51]) rfl ?_); at_builtin; refine Kd.R_append (Kd.int .i64) (w0 := w) w.heap.size rfl (.tmp 47) (.tmp 51) 28 3 (.int .i64 0) 8 rfl Try.underlying28 info3 rfl (by decide) (by omega) u12 x12_2 t329 [.int .i64 t329] (fun k_ => some k_ ≠ (v326 : Value).ownBlock) (fun _ => False) rfl rfl ?aP (fun _ hk => hk.elim) ?aF ?aO ?aB ?aS ?aL ?_; (case aP => exact rfl); (case aB => exact z12_1); (case aF => exact (fun k_ hk => Kd.fresh' (Kd.R_lt z12_13) k_ hk)); (case aO => exact z12_9); (case aS => exact (below_size z12_1)); (case aL => have := LMc39.out; omega); intro v343 w43 ho hb hg hat; rw [← Ny342.out] at ho; have n0_ := Aside0.mk (Kd.R_over' z12_8 (Kd.R_typed z12_9) (by decide) hg); have n1_ := Aside0.mk (Kd.R_after (ok := (fun _ => True)) z12_11 hg hat); have n2_ := Aside0.mk (blk_grown (g := gb321) (o := .cells #[.int .i64 t316, .int .i64 t317, .int .i64 t318, .int .i64 t319] 59 (0, 0)) (zL12 BK321.out) hg (Kd.R_ne HO_12.out BK321.out (by decide))); have n3_ := Aside0.mk (blk_grown (g := gb328) (o := .cells #[v323, v326] 54 (0, 0)) (zL12 BK328.out) hg (Kd.R_ne HO_12.out BK328.out (by decide))); have n4_ := Aside0.mk (blk_grown (g := gb338) (o := .cells #[.int .i64 t329, .int .i64 t330, .int .i64 t331, .int .i64 t332, .int .i64 t333, .int .i64 t334, .int .i64 t335, .int .i64 t336] 62 (0, 0)) (zL12 BK338.out) hg (Kd.R_ne HO_12.out BK338.out (by decide))); have n5_ := Aside0.mk (hb); have n6_ := Aside0.mk (ho); clear ae; clear af; clear BK321; clear BK328; clear BK338; clear HB; clear HO_12; have ae := n0_; have af := n1_; have BK321 := n2_; have BK328 := n3_; have BK338 := n4_; have HB := n5_; have HO344 := n6_; clear n0_ n1_ n2_ n3_ n4_ n5_ n6_; clear ho hb hg hat))
            go_roundg k2
            case measure => have := HJ4.out; have := HK2.out; omega
            case rel => exact ⟨(y342), (wrap64 ((0 : Int) + 1)), z12_17, H', ⟨z12_20⟩, ⟨by (with_reducible repeat (first | apply Kd.R_alloc | apply Kd.R_drewN | apply Kd.R_drew)); exact HO344.out⟩, ⟨z12_8⟩, ⟨z12_12⟩, ⟨zL12 BK321.out⟩, ⟨zL12 BK328.out⟩, ⟨zL12 BK338.out⟩, ⟨z12_1⟩⟩
           ·rw [if_neg c39] at H
            exact absurd H (by simp)
          ·rw [if_neg c38] at H
           clear c38
           by_cases c44 : x44_2 = 1
           ·rw [if_pos c44] at H
            subst c44
            replace H : (if x12_2.length < 17592186044416 then (impl_SpanBy.l0 k2 (x12_2 ++ [t330]) (l0.length : Int) (wrap64 ((1 : Int) + 1)) t329 t330 t331 t332 t333 t334 t335 t336) else (none)) = some (r1, r2) := H
            by_cases c45 : x12_2.length < 17592186044416
            ·rw [if_pos c45] at H
             have LMc45 := Aside0.mk c45
             clear c45
             obtain ⟨y345, hy345⟩ : ∃ y_ : List Int, y_ = (x12_2 ++ [t330]) := ⟨_, rfl⟩
             replace H : (impl_SpanBy.l0 k2 y345 (l0.length : Int) (wrap64 ((1 : Int) + 1)) t329 t330 t331 t332 t333 t334 t335 t336) = some (r1, r2) := by first | (rw [hy345]; with_reducible exact H) | (have H2_ := (Option.bind_some _ _).symm.trans H; rw [hy345]; with_reducible exact H2_) | (have H2_ := (Option.bind_some _ _).symm.trans H; with_reducible exact H2_) | with_reducible exact H | (rw [hy345]; exact H) | exact H
             have Ny345 := Aside0.mk hy345
             clear hy345
             have H' := Aside0.mk H
             clear H
             have hnb46 := ac.out
             have hnc46 := aa.out
             have hnb47 := ad.out
             have hnc47 := ab.out
             have hcz48_1 : wr.cell? ⟨gb338, 1, none⟩ = some (.int .i64 t330) := bA12 BK338 rfl
             have hfz48_1 := blk_frozen BK338.out 1
             go_wp2_with (first | ((with_reducible refine gate_builtin (b := .append) (xs := #[.tmp 47, .tmp 51]) rfl ?_); at_builtin; refine Kd.R_append (Kd.int .i64) (w0 := w) w.heap.size rfl (.tmp 47) (.tmp 51) 28 3 (.int .i64 0) 8 rfl Try.underlying28 info3 rfl (by decide) (by omega) u12 x12_2 t330 [.int .i64 t330] (fun k_ => some k_ ≠ (v326 : Value).ownBlock) (fun _ => False) rfl rfl ?aP (fun _ hk => hk.elim) ?aF ?aO ?aB ?aS ?aL ?_; (case aP => exact rfl); (case aB => exact z12_1); (case aF => exact (fun k_ hk => Kd.fresh' (Kd.R_lt z12_13) k_ hk)); (case aO => exact z12_9); (case aS => exact (below_size z12_1)); (case aL => have := LMc45.out; omega); intro v346 w49 ho hb hg hat; rw [← Ny345.out] at ho; have n0_ := Aside0.mk (Kd.R_over' z12_8 (Kd.R_typed z12_9) (by decide) hg); have n1_ := Aside0.mk (Kd.R_after (ok := (fun _ => True)) z12_11 hg hat); have n2_ := Aside0.mk (blk_grown (g := gb321) (o := .cells #[.int .i64 t316, .int .i64 t317, .int .i64 t318, .int .i64 t319] 59 (0, 0)) (zL12 BK321.out) hg (Kd.R_ne HO_12.out BK321.out (by decide))); have n3_ := Aside0.mk (blk_grown (g := gb328) (o := .cells #[v323, v326] 54 (0, 0)) (zL12 BK328.out) hg (Kd.R_ne HO_12.out BK328.out (by decide))); have n4_ := Aside0.mk (blk_grown (g := gb338) (o := .cells #[.int .i64 t329, .int .i64 t330, .int .i64 t331, .int .i64 t332, .int .i64 t333, .int .i64 t334, .int .i64 t335, .int .i64 t336] 62 (0, 0)) (zL12 BK338.out) hg (Kd.R_ne HO_12.out BK338.out (by decide))); have n5_ := Aside0.mk (hb); have n6_ := Aside0.mk (ho); clear ae; clear af; clear BK321; clear BK328; clear BK338; clear HB; clear HO_12; have ae := n0_; have af := n1_; have BK321 := n2_; have BK328 := n3_; have BK338 := n4_; have HB := n5_; have HO347 := n6_; clear n0_ n1_ n2_ n3_ n4_ n5_ n6_; clear ho hb hg hat))
             go_roundg k2
             case measure => have := HJ4.out; have := HK2.out; omega
             case rel => exact ⟨(y345), (wrap64 ((1 : Int) + 1)), z12_17, H', ⟨z12_20⟩, ⟨by (with_reducible repeat (first | apply Kd.R_alloc | apply Kd.R_drewN | apply Kd.R_drew)); exact HO347.out⟩, ⟨z12_8⟩, ⟨z12_12⟩, ⟨zL12 BK321.out⟩, ⟨zL12 BK328.out⟩, ⟨zL12 BK338.out⟩, ⟨z12_1⟩⟩
            ·rw [if_neg c45] at H
             exact absurd H (by simp)
           ·rw [if_neg c44] at H
            clear c44
            by_cases c50 : x44_2 = 2
            ·rw [if_pos c50] at H
             subst c50
             replace H : (if x12_2.length < 17592186044416 then (impl_SpanBy.l0 k2 (x12_2 ++ [t331]) (l0.length : Int) (wrap64 ((2 : Int) + 1)) t329 t330 t331 t332 t333 t334 t335 t336) else (none)) = some (r1, r2) := H
             by_cases c51 : x12_2.length < 17592186044416
             ·rw [if_pos c51] at H
              have LMc51 := Aside0.mk c51
              clear c51
              obtain ⟨y348, hy348⟩ : ∃ y_ : List Int, y_ = (x12_2 ++ [t331]) := ⟨_, rfl⟩
              replace H : (impl_SpanBy.l0 k2 y348 (l0.length : Int) (wrap64 ((2 : Int) + 1)) t329 t330 t331 t332 t333 t334 t335 t336) = some (r1, r2) := by first | (rw [hy348]; with_reducible exact H) | (have H2_ := (Option.bind_some _ _).symm.trans H; rw [hy348]; with_reducible exact H2_) | (have H2_ := (Option.bind_some _ _).symm.trans H; with_reducible exact H2_) | with_reducible exact H | (rw [hy348]; exact H) | exact H
              have Ny348 := Aside0.mk hy348
              clear hy348
              have H' := Aside0.mk H
              clear H
              have hnb52 := ac.out
              have hnc52 := aa.out
              have hnb53 := ad.out
              have hnc53 := ab.out
              have hcz54_2 : wr.cell? ⟨gb338, 2, none⟩ = some (.int .i64 t331) := bA12 BK338 rfl
              have hfz54_2 := blk_frozen BK338.out 2
              go_wp2_with (first | ((with_reducible refine gate_builtin (b := .append) (xs := #[.tmp 47, .tmp 51]) rfl ?_); at_builtin; refine Kd.R_append (Kd.int .i64) (w0 := w) w.heap.size rfl (.tmp 47) (.tmp 51) 28 3 (.int .i64 0) 8 rfl Try.underlying28 info3 rfl (by decide) (by omega) u12 x12_2 t331 [.int .i64 t331] (fun k_ => some k_ ≠ (v326 : Value).ownBlock) (fun _ => False) rfl rfl ?aP (fun _ hk => hk.elim) ?aF ?aO ?aB ?aS ?aL ?_; (case aP => exact rfl); (case aB => exact z12_1); (case aF => exact (fun k_ hk => Kd.fresh' (Kd.R_lt z12_13) k_ hk)); (case aO => exact z12_9); (case aS => exact (below_size z12_1)); (case aL => have := LMc51.out; omega); intro v349 w55 ho hb hg hat; rw [← Ny348.out] at ho; have n0_ := Aside0.mk (Kd.R_over' z12_8 (Kd.R_typed z12_9) (by decide) hg); have n1_ := Aside0.mk (Kd.R_after (ok := (fun _ => True)) z12_11 hg hat); have n2_ := Aside0.mk (blk_grown (g := gb321) (o := .cells #[.int .i64 t316, .int .i64 t317, .int .i64 t318, .int .i64 t319] 59 (0, 0)) (zL12 BK321.out) hg (Kd.R_ne HO_12.out BK321.out (by decide))); have n3_ := Aside0.mk (blk_grown (g := gb328) (o := .cells #[v323, v326] 54 (0, 0)) (zL12 BK328.out) hg (Kd.R_ne HO_12.out BK328.out (by decide))); have n4_ := Aside0.mk (blk_grown (g := gb338) (o := .cells #[.int .i64 t329, .int .i64 t330, .int .i64 t331, .int .i64 t332, .int .i64 t333, .int .i64 t334, .int .i64 t335, .int .i64 t336] 62 (0, 0)) (zL12 BK338.out) hg (Kd.R_ne HO_12.out BK338.out (by decide))); have n5_ := Aside0.mk (hb); have n6_ := Aside0.mk (ho); clear ae; clear af; clear BK321; clear BK328; clear BK338; clear HB; clear HO_12; have ae := n0_; have af := n1_; have BK321 := n2_; have BK328 := n3_; have BK338 := n4_; have HB := n5_; have HO350 := n6_; clear n0_ n1_ n2_ n3_ n4_ n5_ n6_; clear ho hb hg hat))
              go_roundg k2
              case measure => have := HJ4.out; have := HK2.out; omega
              case rel => exact ⟨(y348), (wrap64 ((2 : Int) + 1)), z12_17, H', ⟨z12_20⟩, ⟨by (with_reducible repeat (first | apply Kd.R_alloc | apply Kd.R_drewN | apply Kd.R_drew)); exact HO350.out⟩, ⟨z12_8⟩, ⟨z12_12⟩, ⟨zL12 BK321.out⟩, ⟨zL12 BK328.out⟩, ⟨zL12 BK338.out⟩, ⟨z12_1⟩⟩
             ·rw [if_neg c51] at H
              exact absurd H (by simp)
            ·rw [if_neg c50] at H
             clear c50
             by_cases c56 : x44_2 = 3
             ·rw [if_pos c56] at H
              subst c56
              replace H : (if x12_2.length < 17592186044416 then (impl_SpanBy.l0 k2 (x12_2 ++ [t332]) (l0.length : Int) (wrap64 ((3 : Int) + 1)) t329 t330 t331 t332 t333 t334 t335 t336) else (none)) = some (r1, r2) := H
              by_cases c57 : x12_2.length < 17592186044416
              ·rw [if_pos c57] at H
               have LMc57 := Aside0.mk c57
               clear c57
               obtain ⟨y351, hy351⟩ : ∃ y_ : List Int, y_ = (x12_2 ++ [t332]) := ⟨_, rfl⟩
               replace H : (impl_SpanBy.l0 k2 y351 (l0.length : Int) (wrap64 ((3 : Int) + 1)) t329 t330 t331 t332 t333 t334 t335 t336) = some (r1, r2) := by first | (rw [hy351]; with_reducible exact H) | (have H2_ := (Option.bind_some _ _).symm.trans H; rw [hy351]; with_reducible exact H2_) | (have H2_ := (Option.bind_some _ _).symm.trans H; with_reducible exact H2_) | with_reducible exact H | (rw [hy351]; exact H) | exact H
               have Ny351 := Aside0.mk hy351
               clear hy351
               have H' := Aside0.mk H
               clear H
               have hnb58 := ac.out
               have hnc58 := aa.out
               have hnb59 := ad.out
               have hnc59 := ab.out
               have hcz60_3 : wr.cell? ⟨gb338, 3, none⟩ = some (.int .i64 t332) := bA12 BK338 rfl
               have hfz60_3 := blk_frozen BK338.out 3
               go_wp2_with (first | ((with_reducible refine gate_builtin (b := .append) (xs := #[.tmp 47, .tmp 51]) rfl ?_); at_builtin; refine Kd.R_append (Kd.int .i64) (w0 := w) w.heap.size rfl (.tmp 47) (.tmp 51) 28 3 (.int .i64 0) 8 rfl Try.underlying28 info3 rfl (by decide) (by omega) u12 x12_2 t332 [.int .i64 t332] (fun k_ => some k_ ≠ (v326 : Value).ownBlock) (fun _ => False) rfl rfl ?aP (fun _ hk => hk.elim) ?aF ?aO ?aB ?aS ?aL ?_; (case aP => exact rfl); (case aB => exact z12_1); (case aF => exact (fun k_ hk => Kd.fresh' (Kd.R_lt z12_13) k_ hk)); (case aO => exact z12_9); (case aS => exact (below_size z12_1)); (case aL => have := LMc57.out; omega); intro v352 w61 ho hb hg hat; rw [← Ny351.out] at ho; have n0_ := Aside0.mk (Kd.R_over' z12_8 (Kd.R_typed z12_9) (by decide) hg); have n1_ := Aside0.mk (Kd.R_after (ok := (fun _ => True)) z12_11 hg hat); have n2_ := Aside0.mk (blk_grown (g := gb321) (o := .cells #[.int .i64 t316, .int .i64 t317, .int .i64 t318, .int .i64 t319] 59 (0, 0)) (zL12 BK321.out) hg (Kd.R_ne HO_12.out BK321.out (by decide))); have n3_ := Aside0.mk (blk_grown (g := gb328) (o := .cells #[v323, v326] 54 (0, 0)) (zL12 BK328.out) hg (Kd.R_ne HO_12.out BK328.out (by decide))); have n4_ := Aside0.mk (blk_grown (g := gb338) (o := .cells #[.int .i64 t329, .int .i64 t330, .int .i64 t331, .int .i64 t332, .int .i64 t333, .int .i64 t334, .int .i64 t335, .int .i64 t336] 62 (0, 0)) (zL12 BK338.out) hg (Kd.R_ne HO_12.out BK338.out (by decide))); have n5_ := Aside0.mk (hb); have n6_ := Aside0.mk (ho); clear ae; clear af; clear BK321; clear BK328; clear BK338; clear HB; clear HO_12; have ae := n0_; have af := n1_; have BK321 := n2_; have BK328 := n3_; have BK338 := n4_; have HB := n5_; have HO353 := n6_; clear n0_ n1_ n2_ n3_ n4_ n5_ n6_; clear ho hb hg hat))
               go_roundg k2
               case measure => have := HJ4.out; have := HK2.out; omega
               case rel => exact ⟨(y351), (wrap64 ((3 : Int) + 1)), z12_17, H', ⟨z12_20⟩, ⟨by (with_reducible repeat (first | apply Kd.R_alloc | apply Kd.R_drewN | apply Kd.R_drew)); exact HO353.out⟩, ⟨z12_8⟩, ⟨z12_12⟩, ⟨zL12 BK321.out⟩, ⟨zL12 BK328.out⟩, ⟨zL12 BK338.out⟩, ⟨z12_1⟩⟩
              ·rw [if_neg c57] at H
               exact absurd H (by simp)
             ·rw [if_neg c56] at H
              clear c56
              by_cases c62 : x44_2 = 4
              ·rw [if_pos c62] at H
               subst c62
               replace H : (if x12_2.length < 17592186044416 then (impl_SpanBy.l0 k2 (x12_2 ++ [t333]) (l0.length : Int) (wrap64 ((4 : Int) + 1)) t329 t330 t331 t332 t333 t334 t335 t336) else (none)) = some (r1, r2) := H
               by_cases c63 : x12_2.length < 17592186044416
               ·rw [if_pos c63] at H
                have LMc63 := Aside0.mk c63
                clear c63
                obtain ⟨y354, hy354⟩ : ∃ y_ : List Int, y_ = (x12_2 ++ [t333]) := ⟨_, rfl⟩
                replace H : (impl_SpanBy.l0 k2 y354 (l0.length : Int) (wrap64 ((4 : Int) + 1)) t329 t330 t331 t332 t333 t334 t335 t336) = some (r1, r2) := by first | (rw [hy354]; with_reducible exact H) | (have H2_ := (Option.bind_some _ _).symm.trans H; rw [hy354]; with_reducible exact H2_) | (have H2_ := (Option.bind_some _ _).symm.trans H; with_reducible exact H2_) | with_reducible exact H | (rw [hy354]; exact H) | exact H
                have Ny354 := Aside0.mk hy354
                clear hy354
                have H' := Aside0.mk H
                clear H
                have hnb64 := ac.out
                have hnc64 := aa.out
                have hnb65 := ad.out
                have hnc65 := ab.out
                have hcz66_4 : wr.cell? ⟨gb338, 4, none⟩ = some (.int .i64 t333) := bA12 BK338 rfl
                have hfz66_4 := blk_frozen BK338.out 4
                go_wp2_with (first | ((with_reducible refine gate_builtin (b := .append) (xs := #[.tmp 47, .tmp 51]) rfl ?_); at_builtin; refine Kd.R_append (Kd.int .i64) (w0 := w) w.heap.size rfl (.tmp 47) (.tmp 51) 28 3 (.int .i64 0) 8 rfl Try.underlying28 info3 rfl (by decide) (by omega) u12 x12_2 t333 [.int .i64 t333] (fun k_ => some k_ ≠ (v326 : Value).ownBlock) (fun _ => False) rfl rfl ?aP (fun _ hk => hk.elim) ?aF ?aO ?aB ?aS ?aL ?_; (case aP => exact rfl); (case aB => exact z12_1); (case aF => exact (fun k_ hk => Kd.fresh' (Kd.R_lt z12_13) k_ hk)); (case aO => exact z12_9); (case aS => exact (below_size z12_1)); (case aL => have := LMc63.out; omega); intro v355 w67 ho hb hg hat; rw [← Ny354.out] at ho; have n0_ := Aside0.mk (Kd.R_over' z12_8 (Kd.R_typed z12_9) (by decide) hg); have n1_ := Aside0.mk (Kd.R_after (ok := (fun _ => True)) z12_11 hg hat); have n2_ := Aside0.mk (blk_grown (g := gb321) (o := .cells #[.int .i64 t316, .int .i64 t317, .int .i64 t318, .int .i64 t319] 59 (0, 0)) (zL12 BK321.out) hg (Kd.R_ne HO_12.out BK321.out (by decide))); have n3_ := Aside0.mk (blk_grown (g := gb328) (o := .cells #[v323, v326] 54 (0, 0)) (zL12 BK328.out) hg (Kd.R_ne HO_12.out BK328.out (by decide))); have n4_ := Aside0.mk (blk_grown (g := gb338) (o := .cells #[.int .i64 t329, .int .i64 t330, .int .i64 t331, .int .i64 t332, .int .i64 t333, .int .i64 t334, .int .i64 t335, .int .i64 t336] 62 (0, 0)) (zL12 BK338.out) hg (Kd.R_ne HO_12.out BK338.out (by decide))); have n5_ := Aside0.mk (hb); have n6_ := Aside0.mk (ho); clear ae; clear af; clear BK321; clear BK328; clear BK338; clear HB; clear HO_12; have ae := n0_; have af := n1_; have BK321 := n2_; have BK328 := n3_; have BK338 := n4_; have HB := n5_; have HO356 := n6_; clear n0_ n1_ n2_ n3_ n4_ n5_ n6_; clear ho hb hg hat))
                go_roundg k2
                case measure => have := HJ4.out; have := HK2.out; omega
                case rel => exact ⟨(y354), (wrap64 ((4 : Int) + 1)), z12_17, H', ⟨z12_20⟩, ⟨by (with_reducible repeat (first | apply Kd.R_alloc | apply Kd.R_drewN | apply Kd.R_drew)); exact HO356.out⟩, ⟨z12_8⟩, ⟨z12_12⟩, ⟨zL12 BK321.out⟩, ⟨zL12 BK328.out⟩, ⟨zL12 BK338.out⟩, ⟨z12_1⟩⟩
               ·rw [if_neg c63] at H
                exact absurd H (by simp)
              ·rw [if_neg c62] at H
               clear c62
               by_cases c68 : x44_2 = 5
               ·rw [if_pos c68] at H
                subst c68
                replace H : (if x12_2.length < 17592186044416 then (impl_SpanBy.l0 k2 (x12_2 ++ [t334]) (l0.length : Int) (wrap64 ((5 : Int) + 1)) t329 t330 t331 t332 t333 t334 t335 t336) else (none)) = some (r1, r2) := H
                by_cases c69 : x12_2.length < 17592186044416
                ·rw [if_pos c69] at H
                 have LMc69 := Aside0.mk c69
                 clear c69
                 obtain ⟨y357, hy357⟩ : ∃ y_ : List Int, y_ = (x12_2 ++ [t334]) := ⟨_, rfl⟩
                 replace H : (impl_SpanBy.l0 k2 y357 (l0.length : Int) (wrap64 ((5 : Int) + 1)) t329 t330 t331 t332 t333 t334 t335 t336) = some (r1, r2) := by first | (rw [hy357]; with_reducible exact H) | (have H2_ := (Option.bind_some _ _).symm.trans H; rw [hy357]; with_reducible exact H2_) | (have H2_ := (Option.bind_some _ _).symm.trans H; with_reducible exact H2_) | with_reducible exact H | (rw [hy357]; exact H) | exact H
                 have Ny357 := Aside0.mk hy357
                 clear hy357
                 have H' := Aside0.mk H
                 clear H
                 have hnb70 := ac.out
                 have hnc70 := aa.out
                 have hnb71 := ad.out
                 have hnc71 := ab.out
                 have hcz72_5 : wr.cell? ⟨gb338, 5, none⟩ = some (.int .i64 t334) := bA12 BK338 rfl
                 have hfz72_5 := blk_frozen BK338.out 5
                 go_wp2_with (first | ((with_reducible refine gate_builtin (b := .append) (xs := #[.tmp 47, .tmp 51]) rfl ?_); at_builtin; refine Kd.R_append (Kd.int .i64) (w0 := w) w.heap.size rfl (.tmp 47) (.tmp 51) 28 3 (.int .i64 0) 8 rfl Try.underlying28 info3 rfl (by decide) (by omega) u12 x12_2 t334 [.int .i64 t334] (fun k_ => some k_ ≠ (v326 : Value).ownBlock) (fun _ => False) rfl rfl ?aP (fun _ hk => hk.elim) ?aF ?aO ?aB ?aS ?aL ?_; (case aP => exact rfl); (case aB => exact z12_1); (case aF => exact (fun k_ hk => Kd.fresh' (Kd.R_lt z12_13) k_ hk)); (case aO => exact z12_9); (case aS => exact (below_size z12_1)); (case aL => have := LMc69.out; omega); intro v358 w73 ho hb hg hat; rw [← Ny357.out] at ho; have n0_ := Aside0.mk (Kd.R_over' z12_8 (Kd.R_typed z12_9) (by decide) hg); have n1_ := Aside0.mk (Kd.R_after (ok := (fun _ => True)) z12_11 hg hat); have n2_ := Aside0.mk (blk_grown (g := gb321) (o := .cells #[.int .i64 t316, .int .i64 t317, .int .i64 t318, .int .i64 t319] 59 (0, 0)) (zL12 BK321.out) hg (Kd.R_ne HO_12.out BK321.out (by decide))); have n3_ := Aside0.mk (blk_grown (g := gb328) (o := .cells #[v323, v326] 54 (0, 0)) (zL12 BK328.out) hg (Kd.R_ne HO_12.out BK328.out (by decide))); have n4_ := Aside0.mk (blk_grown (g := gb338) (o := .cells #[.int .i64 t329, .int .i64 t330, .int .i64 t331, .int .i64 t332, .int .i64 t333, .int .i64 t334, .int .i64 t335, .int .i64 t336] 62 (0, 0)) (zL12 BK338.out) hg (Kd.R_ne HO_12.out BK338.out (by decide))); have n5_ := Aside0.mk (hb); have n6_ := Aside0.mk (ho); clear ae; clear af; clear BK321; clear BK328; clear BK338; clear HB; clear HO_12; have ae := n0_; have af := n1_; have BK321 := n2_; have BK328 := n3_; have BK338 := n4_; have HB := n5_; have HO359 := n6_; clear n0_ n1_ n2_ n3_ n4_ n5_ n6_; clear ho hb hg hat))
                 go_roundg k2
                 case measure => have := HJ4.out; have := HK2.out; omega
                 case rel => exact ⟨(y357), (wrap64 ((5 : Int) + 1)), z12_17, H', ⟨z12_20⟩, ⟨by (with_reducible repeat (first | apply Kd.R_alloc | apply Kd.R_drewN | apply Kd.R_drew)); exact HO359.out⟩, ⟨z12_8⟩, ⟨z12_12⟩, ⟨zL12 BK321.out⟩, ⟨zL12 BK328.out⟩, ⟨zL12 BK338.out⟩, ⟨z12_1⟩⟩
                ·rw [if_neg c69] at H
                 exact absurd H (by simp)
               ·rw [if_neg c68] at H
                clear c68
                by_cases c74 : x44_2 = 6
                ·rw [if_pos c74] at H
                 subst c74
                 replace H : (if x12_2.length < 17592186044416 then (impl_SpanBy.l0 k2 (x12_2 ++ [t335]) (l0.length : Int) (wrap64 ((6 : Int) + 1)) t329 t330 t331 t332 t333 t334 t335 t336) else (none)) = some (r1, r2) := H
                 by_cases c75 : x12_2.length < 17592186044416
                 ·rw [if_pos c75] at H
                  have LMc75 := Aside0.mk c75
                  clear c75
                  obtain ⟨y360, hy360⟩ : ∃ y_ : List Int, y_ = (x12_2 ++ [t335]) := ⟨_, rfl⟩
                  replace H : (impl_SpanBy.l0 k2 y360 (l0.length : Int) (wrap64 ((6 : Int) + 1)) t329 t330 t331 t332 t333 t334 t335 t336) = some (r1, r2) := by first | (rw [hy360]; with_reducible exact H) | (have H2_ := (Option.bind_some _ _).symm.trans H; rw [hy360]; with_reducible exact H2_) | (have H2_ := (Option.bind_some _ _).symm.trans H; with_reducible exact H2_) | with_reducible exact H | (rw [hy360]; exact H) | exact H
                  have Ny360 := Aside0.mk hy360
                  clear hy360
                  have H' := Aside0.mk H
                  clear H
                  have hnb76 := ac.out
                  have hnc76 := aa.out
                  have hnb77 := ad.out
                  have hnc77 := ab.out
                  have hcz78_6 : wr.cell? ⟨gb338, 6, none⟩ = some (.int .i64 t335) := bA12 BK338 rfl
                  have hfz78_6 := blk_frozen BK338.out 6
                  go_wp2_with (first | ((with_reducible refine gate_builtin (b := .append) (xs := #[.tmp 47, .tmp 51]) rfl ?_); at_builtin; refine Kd.R_append (Kd.int .i64) (w0 := w) w.heap.size rfl (.tmp 47) (.tmp 51) 28 3 (.int .i64 0) 8 rfl Try.underlying28 info3 rfl (by decide) (by omega) u12 x12_2 t335 [.int .i64 t335] (fun k_ => some k_ ≠ (v326 : Value).ownBlock) (fun _ => False) rfl rfl ?aP (fun _ hk => hk.elim) ?aF ?aO ?aB ?aS ?aL ?_; (case aP => exact rfl); (case aB => exact z12_1); (case aF => exact (fun k_ hk => Kd.fresh' (Kd.R_lt z12_13) k_ hk)); (case aO => exact z12_9); (case aS => exact (below_size z12_1)); (case aL => have := LMc75.out; omega); intro v361 w79 ho hb hg hat; rw [← Ny360.out] at ho; have n0_ := Aside0.mk (Kd.R_over' z12_8 (Kd.R_typed z12_9) (by decide) hg); have n1_ := Aside0.mk (Kd.R_after (ok := (fun _ => True)) z12_11 hg hat); have n2_ := Aside0.mk (blk_grown (g := gb321) (o := .cells #[.int .i64 t316, .int .i64 t317, .int .i64 t318, .int .i64 t319] 59 (0, 0)) (zL12 BK321.out) hg (Kd.R_ne HO_12.out BK321.out (by decide))); have n3_ := Aside0.mk (blk_grown (g := gb328) (o := .cells #[v323, v326] 54 (0, 0)) (zL12 BK328.out) hg (Kd.R_ne HO_12.out BK328.out (by decide))); have n4_ := Aside0.mk (blk_grown (g := gb338) (o := .cells #[.int .i64 t329, .int .i64 t330, .int .i64 t331, .int .i64 t332, .int .i64 t333, .int .i64 t334, .int .i64 t335, .int .i64 t336] 62 (0, 0)) (zL12 BK338.out) hg (Kd.R_ne HO_12.out BK338.out (by decide))); have n5_ := Aside0.mk (hb); have n6_ := Aside0.mk (ho); clear ae; clear af; clear BK321; clear BK328; clear BK338; clear HB; clear HO_12; have ae := n0_; have af := n1_; have BK321 := n2_; have BK328 := n3_; have BK338 := n4_; have HB := n5_; have HO362 := n6_; clear n0_ n1_ n2_ n3_ n4_ n5_ n6_; clear ho hb hg hat))
                  go_roundg k2
                  case measure => have := HJ4.out; have := HK2.out; omega
                  case rel => exact ⟨(y360), (wrap64 ((6 : Int) + 1)), z12_17, H', ⟨z12_20⟩, ⟨by (with_reducible repeat (first | apply Kd.R_alloc | apply Kd.R_drewN | apply Kd.R_drew)); exact HO362.out⟩, ⟨z12_8⟩, ⟨z12_12⟩, ⟨zL12 BK321.out⟩, ⟨zL12 BK328.out⟩, ⟨zL12 BK338.out⟩, ⟨z12_1⟩⟩
                 ·rw [if_neg c75] at H
                  exact absurd H (by simp)
                ·rw [if_neg c74] at H
                 clear c74
                 by_cases c80 : x44_2 = 7
                 ·rw [if_pos c80] at H
                  subst c80
                  replace H : (if x12_2.length < 17592186044416 then (impl_SpanBy.l0 k2 (x12_2 ++ [t336]) (l0.length : Int) (wrap64 ((7 : Int) + 1)) t329 t330 t331 t332 t333 t334 t335 t336) else (none)) = some (r1, r2) := H
                  by_cases c81 : x12_2.length < 17592186044416
                  ·rw [if_pos c81] at H
                   have LMc81 := Aside0.mk c81
                   clear c81
                   obtain ⟨y363, hy363⟩ : ∃ y_ : List Int, y_ = (x12_2 ++ [t336]) := ⟨_, rfl⟩
                   replace H : (impl_SpanBy.l0 k2 y363 (l0.length : Int) (wrap64 ((7 : Int) + 1)) t329 t330 t331 t332 t333 t334 t335 t336) = some (r1, r2) := by first | (rw [hy363]; with_reducible exact H) | (have H2_ := (Option.bind_some _ _).symm.trans H; rw [hy363]; with_reducible exact H2_) | (have H2_ := (Option.bind_some _ _).symm.trans H; with_reducible exact H2_) | with_reducible exact H | (rw [hy363]; exact H) | exact H
                   have Ny363 := Aside0.mk hy363
                   clear hy363
                   have H' := Aside0.mk H
                   clear H
                   have hnb82 := ac.out
                   have hnc82 := aa.out
                   have hnb83 := ad.out
                   have hnc83 := ab.out
                   have hcz84_7 : wr.cell? ⟨gb338, 7, none⟩ = some (.int .i64 t336) := bA12 BK338 rfl
                   have hfz84_7 := blk_frozen BK338.out 7
                   go_wp2_with (first | ((with_reducible refine gate_builtin (b := .append) (xs := #[.tmp 47, .tmp 51]) rfl ?_); at_builtin; refine Kd.R_append (Kd.int .i64) (w0 := w) w.heap.size rfl (.tmp 47) (.tmp 51) 28 3 (.int .i64 0) 8 rfl Try.underlying28 info3 rfl (by decide) (by omega) u12 x12_2 t336 [.int .i64 t336] (fun k_ => some k_ ≠ (v326 : Value).ownBlock) (fun _ => False) rfl rfl ?aP (fun _ hk => hk.elim) ?aF ?aO ?aB ?aS ?aL ?_; (case aP => exact rfl); (case aB => exact z12_1); (case aF => exact (fun k_ hk => Kd.fresh' (Kd.R_lt z12_13) k_ hk)); (case aO => exact z12_9); (case aS => exact (below_size z12_1)); (case aL => have := LMc81.out; omega); intro v364 w85 ho hb hg hat; rw [← Ny363.out] at ho; have n0_ := Aside0.mk (Kd.R_over' z12_8 (Kd.R_typed z12_9) (by decide) hg); have n1_ := Aside0.mk (Kd.R_after (ok := (fun _ => True)) z12_11 hg hat); have n2_ := Aside0.mk (blk_grown (g := gb321) (o := .cells #[.int .i64 t316, .int .i64 t317, .int .i64 t318, .int .i64 t319] 59 (0, 0)) (zL12 BK321.out) hg (Kd.R_ne HO_12.out BK321.out (by decide))); have n3_ := Aside0.mk (blk_grown (g := gb328) (o := .cells #[v323, v326] 54 (0, 0)) (zL12 BK328.out) hg (Kd.R_ne HO_12.out BK328.out (by decide))); have n4_ := Aside0.mk (blk_grown (g := gb338) (o := .cells #[.int .i64 t329, .int .i64 t330, .int .i64 t331, .int .i64 t332, .int .i64 t333, .int .i64 t334, .int .i64 t335, .int .i64 t336] 62 (0, 0)) (zL12 BK338.out) hg (Kd.R_ne HO_12.out BK338.out (by decide))); have n5_ := Aside0.mk (hb); have n6_ := Aside0.mk (ho); clear ae; clear af; clear BK321; clear BK328; clear BK338; clear HB; clear HO_12; have ae := n0_; have af := n1_; have BK321 := n2_; have BK328 := n3_; have BK338 := n4_; have HB := n5_; have HO365 := n6_; clear n0_ n1_ n2_ n3_ n4_ n5_ n6_; clear ho hb hg hat))
                   go_roundg k2
                   case measure => have := HJ4.out; have := HK2.out; omega
                   case rel => exact ⟨(y363), (wrap64 ((7 : Int) + 1)), z12_17, H', ⟨z12_20⟩, ⟨by (with_reducible repeat (first | apply Kd.R_alloc | apply Kd.R_drewN | apply Kd.R_drew)); exact HO365.out⟩, ⟨z12_8⟩, ⟨z12_12⟩, ⟨zL12 BK321.out⟩, ⟨zL12 BK328.out⟩, ⟨zL12 BK338.out⟩, ⟨z12_1⟩⟩
                  ·rw [if_neg c81] at H
                   exact absurd H (by simp)
                 ·rw [if_neg c80] at H
                  clear c80
                  exact absurd H (by simp)
         ·rw [if_neg c37] at H
          have c37b0 : decide (x44_2 < (l0.length : Int)) = false := decide_eq_false c37
          clear c37
          simp only [Option.some.injEq, Prod.mk.injEq] at H
          obtain ⟨rfl, rfl⟩ := H
          go_wp2
          go_ret2
          exact ⟨_, z12_21, by (with_reducible repeat (first | apply Kd.R_alloc | apply Kd.R_drewN | apply Kd.R_drew)); exact Kd.R_mono HO_12.out (fun _ hk => trivial), z12_1⟩
      ·rw [if_neg c20] at H
       exact absurd H (by simp)
     ·rw [if_neg c19] at H
      exact absurd H (by simp)
    ·replace c18 := Bool.eq_false_iff.mpr c18
     subst c18
     have H1 : (some (([] : List Int), false)) = some (r1, r2) := by rw [if_neg (show ¬ (false = true) by decide)] at H; exact H
     clear H
     have H := H1
     clear H1
     simp only [Option.some.injEq, Prod.mk.injEq] at H
     obtain ⟨rfl, rfl⟩ := H
     obtain ⟨Ao86, co86, eo86⟩ := Kd.R_slice HO_6.out
     subst eo86
     try go_wp2
     have n0_ := Aside0.mk (Kd.R_drew HO_6.out)
     have n1_ := Aside0.mk (blk_drew BK321.out)
     have n2_ := Aside0.mk (below_drew1 HB.out)
     clear HO_6
     clear BK321
     clear HB
     have HO_6 := n0_
     have BK321 := n1_
     have HB := n2_
     clear n0_ n1_ n2_
     refine start_ (n := 10) (S := fun w' => w'.cell? ⟨gb321, 0, none⟩ = some (.int .i64 t316) ∧ w'.cell? ⟨gb321, 1, none⟩ = some (.int .i64 t317) ∧ w'.cell? ⟨gb321, 2, none⟩ = some (.int .i64 t318) ∧ w'.cell? ⟨gb321, 3, none⟩ = some (.int .i64 t319)) (ds := []) #[false, false, false, false, false, false, false, false, false, false] (by kernel_rfl) rfl rfl ⟨bA12 BK321 rfl, bA12 BK321 rfl, bA12 BK321 rfl, bA12 BK321 rfl⟩ (fun hHeld => ?_); refine with_tabW impl_SpanBy.tab5 impl_SpanBy.bits5 (fun HT_ HW_ => ?_)
     generalize wc.drew = w87 at HO_6 BK321 HB hHeld ⊢
     refine pure_ (i := 0) (N := some 31) (v := ?_) (a' := ?_) #[true, false, false, false, false, false, false, false, false, false] rfl rfl (any_of HT_.out (by kernel_rfl)) (fun _ _ _ h => h) (Or.inl ⟨by rfl, ?_⟩) ?_ ?_
     rotate_left
     ·intro w'
      go_simp
      with_reducible rfl
     rotate_left
     ·simp only [Act.put, zs12, zc12, zd12, i64_w, i32_w]
      rfl
     refine take_ (i := 2) (N := some 33) (v := ?_) (a' := ?_) #[true, false, true, false, false, false, false, false, false, false] rfl rfl (take_ofW HT_.out HW_.out (by kernel_rfl)) (fun _ _ _ h => h) (Or.inl ⟨by rfl, ?_⟩) hHeld ?_ ?_
     rotate_left
     ·rintro w' ⟨s0, s1, s2, s3⟩
      go_simp
      with_reducible rfl
     rotate_left
     ·simp only [Act.put, zs12, zc12, zd12, i64_w, i32_w]
      rfl
     refine join_ (σ := Nat × Value × Value × Nat) 2 #[true, true, true, true, true, true, true, true, false, false] (fun s_ => [(32, .pointer (some ⟨s_.1, 0, none⟩)), (34, .tuple #[.agg #[.int .i64 t329, .int .i64 t330, .int .i64 t331, .int .i64 t332, .int .i64 t333, .int .i64 t334, .int .i64 t335, .int .i64 t336], .bool false]), (10, .pointer (some ⟨s_.2.2.2, 0, none⟩)), (30, .tuple #[.agg #[.int .i64 t329, .int .i64 t330, .int .i64 t331, .int .i64 t332, .int .i64 t333, .int .i64 t334, .int .i64 t335, .int .i64 t336], .bool false]), (35, .agg #[.int .i64 t329, .int .i64 t330, .int .i64 t331, .int .i64 t332, .int .i64 t333, .int .i64 t334, .int .i64 t335, .int .i64 t336]), (36, .bool false)]) (fun s_ w' => (w'.cell? ⟨gb321, 0, none⟩ = some (.int .i64 t316) ∧ w'.cell? ⟨gb321, 1, none⟩ = some (.int .i64 t317) ∧ w'.cell? ⟨gb321, 2, none⟩ = some (.int .i64 t318) ∧ w'.cell? ⟨gb321, 3, none⟩ = some (.int .i64 t319)) ∧ (Kd.R k77 77 w' w.heap.size (fun _ => True) s_.2.1 t322) ∧ (Kd.R (Kd.int .i64) 3 w' w.heap.size (fun _ => True) s_.2.2.1 t325) ∧ (Kd.R k59 59 w' w.heap.size (fun k_ => k_ ≠ gb321) (.slice Ao86 t312.length co86) t312) ∧ (w'.heap[gb321]? = some (.cells #[.int .i64 t316, .int .i64 t317, .int .i64 t318, .int .i64 t319] 59 (0, 0))) ∧ (w'.heap[s_.1]? = some (.cells #[s_.2.1, s_.2.2.1] 54 (0, 0))) ∧ (w'.heap[s_.2.2.2]? = some (.cells #[.int .i64 0, .int .i64 0, .int .i64 0, .int .i64 0, .int .i64 0, .int .i64 0, .int .i64 0, .int .i64 0] 62 (0, 0))) ∧ (w.heap.size ≤ s_.1) ∧ (w.heap.size ≤ s_.1) ∧ (gb321 ≠ s_.1) ∧ (s_.1 ≠ gb321) ∧ (s_.2.2.2 ≠ s_.1) ∧ (s_.1 ≠ s_.2.2.2) ∧ (w.heap.size ≤ s_.2.2.2) ∧ (w.heap.size ≤ s_.2.2.2) ∧ (gb321 ≠ s_.2.2.2) ∧ (s_.2.2.2 ≠ gb321) ∧ (Below w.heap.size w w')) ?_ ?_
     rotate_left
     ·intro hCont
      refine two_ (i := 1) (j := 7) (Ni := some 32) (Nj := some 10) #[true, true, true, false, false, false, false, false, false, false] #[true, false, true, false, false, false, false, true, false, false] rfl rfl rfl rfl (two_of HT_.out (by kernel_rfl)) (by decide) (by decide) (fun K hK => ?_) (fun K hK => ?_)
      ·skip
       refine goes_ Try.func54 (by kernel_rfl) rfl #[.slice Ao86 t312.length co86] (by rfl) rfl rfl z12_10 ?_
       with_reducible refine (impl_spanOf.calls kj4 _ _ t312 t322 t325 _ ?side1 ?side2 A16.out).mono ?_
       (case side1 => repeat (first | exact (Kd.R_reads' HO_6.out).2.2 | (with_reducible refine Kd.C_alloc ?_ _) | (with_reducible refine Kd.C_drewN ?_ _) | (with_reducible refine Kd.C_drew ?_)))
       (case side2 => exact (Kd.R_reads' HO_6.out).2.1)
       rintro e w88 ⟨v323, v326, gb328, rfl, hbox, hgr, ho0, ho1, hb⟩
       refine ⟨_, rfl, ?_⟩
       have n0_ := Aside0.mk (Kd.R_below z12_6 hb)
       have n1_ := Aside0.mk (Kd.R_lower ho0 (below_size z12_2))
       have n2_ := Aside0.mk (Kd.R_lower ho1 (below_size z12_2))
       have n3_ := Aside0.mk (blk_below (g := gb321) (o := .cells #[.int .i64 t316, .int .i64 t317, .int .i64 t318, .int .i64 t319] 59 (0, 0)) (zL12 BK321.out) hb)
       have n4_ := Aside0.mk (hbox)
       have n5_ := Aside0.mk ((Nat.le_trans ((below_size z12_2) : w.heap.size ≤ _) hgr : w.heap.size ≤ gb328))
       have n6_ := Aside0.mk ((Nat.le_trans ((below_size z12_2) : w.heap.size ≤ _) hgr : w.heap.size ≤ gb328))
       have n7_ := Aside0.mk ((Nat.ne_of_lt (Nat.lt_of_lt_of_le (blk_lt (g := gb321) (o := .cells #[.int .i64 t316, .int .i64 t317, .int .i64 t318, .int .i64 t319] 59 (0, 0)) (zL12 BK321.out)) hgr) : gb321 ≠ gb328))
       have n8_ := Aside0.mk ((Nat.ne_of_gt (Nat.lt_of_lt_of_le (blk_lt (g := gb321) (o := .cells #[.int .i64 t316, .int .i64 t317, .int .i64 t318, .int .i64 t319] 59 (0, 0)) (zL12 BK321.out)) hgr) : gb328 ≠ gb321))
       have n9_ := Aside0.mk (below_step z12_2 hb)
       clear HO_6
       clear BK321
       clear HB
       have HO_6 := n0_
       have HO324 := n1_
       have HO327 := n2_
       have BK321 := n3_
       have BK328 := n4_
       have GW328 := n5_
       have GE328 := n6_
       have ag := n7_
       have ah := n8_
       have HB := n9_
       clear n0_ n1_ n2_ n3_ n4_ n5_ n6_ n7_ n8_ n9_
       (try clear hb)
       (try clear hb2)
       (try clear hk)
       (try clear hi)
       (try clear ho0)
       (try clear ho1)
       refine hK.out _ _ ⟨bA12 BK321 rfl, bA12 BK321 rfl, bA12 BK321 rfl, bA12 BK321 rfl⟩ (fun hHeld => ?_)
       clear hK K
       refine norm_ (a' := ?_) ?_ ?_
       rotate_left
       ·show Act.put _ (some 32) _ = _
        simp only [Act.put, zs12, zc12, zd12, i64_w, i32_w]
        rfl
       refine two_ (i := 3) (j := 7) (Ni := some 34) (Nj := some 10) #[true, true, true, true, false, false, false, false, false, false] #[true, true, true, false, false, false, false, true, false, false] rfl rfl rfl rfl (two_of HT_.out (by kernel_rfl)) (by decide) (by decide) (fun K hK => ?_) (fun K hK => ?_)
       ·skip
        refine goes_ Try.func57 (by kernel_rfl) rfl #[.pointer (some ⟨gb328, 0, none⟩), .agg #[.int .i64 t316, .int .i64 t317, .int .i64 t318, .int .i64 t319]] (by rfl) rfl rfl z12_10 ?_
        with_reducible refine (impl_span_byB.calls kj4 v323 t322 v326 t325 t316 t317 t318 t319 t329 t330 t331 t332 t333 t334 t335 t336 false _ ?side1 ?side2 ?side3 A17.out).mono ?_
        (case side1 => (with_reducible repeat first|refine blk_drewN ?_ _|refine blk_drew ?_|refine blk_alloc ?_ _); exact BK328.out)
        (case side2 => exact own_open z12_4)
        (case side3 => exact own_open z12_5)
        rintro e w89 ⟨rfl, hb⟩
        refine ⟨_, rfl, ?_⟩
        have n0_ := Aside0.mk (Kd.R_below z12_6 hb)
        have n1_ := Aside0.mk (Kd.R_below z12_4 hb)
        have n2_ := Aside0.mk (Kd.R_below z12_5 hb)
        have n3_ := Aside0.mk (blk_below (g := gb321) (o := .cells #[.int .i64 t316, .int .i64 t317, .int .i64 t318, .int .i64 t319] 59 (0, 0)) (zL12 BK321.out) hb)
        have n4_ := Aside0.mk (blk_below (g := gb328) (o := .cells #[v323, v326] 54 (0, 0)) (zL12 BK328.out) hb)
        have n5_ := Aside0.mk (below_step z12_3 hb)
        clear HO_6
        clear HO324
        clear HO327
        clear BK321
        clear BK328
        clear HB
        have HO_6 := n0_
        have HO324 := n1_
        have HO327 := n2_
        have BK321 := n3_
        have BK328 := n4_
        have HB := n5_
        clear n0_ n1_ n2_ n3_ n4_ n5_
        (try clear hb)
        (try clear hb2)
        (try clear hk)
        (try clear hi)
        refine hK.out _ _ ⟨bA12 BK321 rfl, bA12 BK321 rfl, bA12 BK321 rfl, bA12 BK321 rfl⟩ (fun hHeld => ?_)
        clear hK K
        refine norm_ (a' := ?_) ?_ ?_
        rotate_left
        ·show Act.put _ (some 34) _ = _
         simp only [Act.put, zs12, zc12, zd12, i64_w, i32_w]
         rfl
        refine pure_ (i := 4) (N := some 30) (v := ?_) (a' := ?_) #[true, true, true, true, true, false, false, false, false, false] rfl rfl (any_of HT_.out (by kernel_rfl)) (fun _ _ _ h => h) (Or.inl ⟨by rfl, ?_⟩) ?_ ?_
        rotate_left
        ·intro w'
         go_simp
         with_reducible rfl
        rotate_left
        ·simp only [Act.put, zs12, zc12, zd12, i64_w, i32_w]
         rfl
        refine pure_ (i := 5) (N := some 35) (v := ?_) (a' := ?_) #[true, true, true, true, true, true, false, false, false, false] rfl rfl (any_of HT_.out (by kernel_rfl)) (fun _ _ _ h => h) (Or.inl ⟨by rfl, ?_⟩) ?_ ?_
        rotate_left
        ·intro w'
         go_simp
         with_reducible rfl
        rotate_left
        ·simp only [Act.put, zs12, zc12, zd12, i64_w, i32_w]
         rfl
        refine pure_ (i := 6) (N := some 36) (v := ?_) (a' := ?_) #[true, true, true, true, true, true, true, false, false, false] rfl rfl (any_of HT_.out (by kernel_rfl)) (fun _ _ _ h => h) (Or.inl ⟨by rfl, ?_⟩) ?_ ?_
        rotate_left
        ·intro w'
         go_simp
         with_reducible rfl
        rotate_left
        ·simp only [Act.put, zs12, zc12, zd12, i64_w, i32_w]
         rfl
        refine one_ (i := 7) (N := some 10) #[true, true, true, true, true, true, true, true, false, false] rfl rfl (one_of HT_.out (by kernel_rfl)) (by decide) (fun K hK => ?_)
        refine box_step ?hg (N := 10) ?hd (cs := #[.int .i64 0, .int .i64 0, .int .i64 0, .int .i64 0, .int .i64 0, .int .i64 0, .int .i64 0, .int .i64 0]) (t := 62) ?hr ?_; (case hd => rfl); (case hg => rfl); (case hr => first | (go_simp; done) | (go_simp; rfl))
        intro gb338 hg w90 hbox hb
        have n0_ := Aside0.mk (Kd.R_below z12_6 hb)
        have n1_ := Aside0.mk (Kd.R_below z12_4 hb)
        have n2_ := Aside0.mk (Kd.R_below z12_5 hb)
        have n3_ := Aside0.mk (blk_below (g := gb321) (o := .cells #[.int .i64 t316, .int .i64 t317, .int .i64 t318, .int .i64 t319] 59 (0, 0)) (zL12 BK321.out) hb)
        have n4_ := Aside0.mk (blk_below (g := gb328) (o := .cells #[v323, v326] 54 (0, 0)) (zL12 BK328.out) hb)
        have n5_ := Aside0.mk (below_step z12_3 hb)
        have n6_ := Aside0.mk (hbox)
        have n7_ := Aside0.mk ((by rw [hg]; exact (below_size z12_3) : w.heap.size ≤ gb338))
        have n8_ := Aside0.mk ((by rw [hg]; exact (below_size z12_3) : w.heap.size ≤ gb338))
        have n9_ := Aside0.mk ((by rw [hg]; exact Nat.ne_of_lt (blk_lt (g := gb321) (o := .cells #[.int .i64 t316, .int .i64 t317, .int .i64 t318, .int .i64 t319] 59 (0, 0)) (zL12 BK321.out)) : gb321 ≠ gb338))
        have n10_ := Aside0.mk ((by rw [hg]; exact Nat.ne_of_gt (blk_lt (g := gb321) (o := .cells #[.int .i64 t316, .int .i64 t317, .int .i64 t318, .int .i64 t319] 59 (0, 0)) (zL12 BK321.out)) : gb338 ≠ gb321))
        have n11_ := Aside0.mk ((by rw [hg]; exact Nat.ne_of_lt (blk_lt (g := gb328) (o := .cells #[v323, v326] 54 (0, 0)) (zL12 BK328.out)) : gb328 ≠ gb338))
        have n12_ := Aside0.mk ((by rw [hg]; exact Nat.ne_of_gt (blk_lt (g := gb328) (o := .cells #[v323, v326] 54 (0, 0)) (zL12 BK328.out)) : gb338 ≠ gb328))
        clear HO_6
        clear HO324
        clear HO327
        clear BK321
        clear BK328
        clear HB
        have HO_6 := n0_
        have HO324 := n1_
        have HO327 := n2_
        have BK321 := n3_
        have BK328 := n4_
        have HB := n5_
        have BK338 := n6_
        have GW338 := n7_
        have GE338 := n8_
        have aa := n9_
        have ac := n10_
        have ab := n11_
        have ad := n12_
        clear n0_ n1_ n2_ n3_ n4_ n5_ n6_ n7_ n8_ n9_ n10_ n11_ n12_
        clear hb hbox hg
        refine hK.out _ _ ⟨bA12 BK321 rfl, bA12 BK321 rfl, bA12 BK321 rfl, bA12 BK321 rfl⟩ (fun hHeld => ?_)
        clear hK K
        refine norm_ (a' := ?_) ?_ ?_
        rotate_left
        ·show Act.put _ (some 10) _ = _
         simp only [Act.put, zs12, zc12, zd12, i64_w, i32_w]
         rfl
        exact norm_ z12_18 (hCont (gb328, v323, v326, gb338) _ ⟨hHeld, z12_4, z12_5, z12_6, (zL12 BK321.out), (zL12 BK328.out), (zL12 BK338.out), GW328.out, GE328.out, ag.out, ah.out, ad.out, ab.out, GW338.out, GE338.out, aa.out, ac.out, z12_1⟩)
       ·skip
        refine box_step ?hg (N := 10) ?hd (cs := #[.int .i64 0, .int .i64 0, .int .i64 0, .int .i64 0, .int .i64 0, .int .i64 0, .int .i64 0, .int .i64 0]) (t := 62) ?hr ?_; (case hd => rfl); (case hg => rfl); (case hr => first | (go_simp; done) | (go_simp; rfl))
        intro gb338 hg w89 hbox hb
        have n0_ := Aside0.mk (Kd.R_below z12_6 hb)
        have n1_ := Aside0.mk (Kd.R_below z12_4 hb)
        have n2_ := Aside0.mk (Kd.R_below z12_5 hb)
        have n3_ := Aside0.mk (blk_below (g := gb321) (o := .cells #[.int .i64 t316, .int .i64 t317, .int .i64 t318, .int .i64 t319] 59 (0, 0)) (zL12 BK321.out) hb)
        have n4_ := Aside0.mk (blk_below (g := gb328) (o := .cells #[v323, v326] 54 (0, 0)) (zL12 BK328.out) hb)
        have n5_ := Aside0.mk (below_step z12_3 hb)
        have n6_ := Aside0.mk (hbox)
        have n7_ := Aside0.mk ((by rw [hg]; exact (below_size z12_3) : w.heap.size ≤ gb338))
        have n8_ := Aside0.mk ((by rw [hg]; exact (below_size z12_3) : w.heap.size ≤ gb338))
        have n9_ := Aside0.mk ((by rw [hg]; exact Nat.ne_of_lt (blk_lt (g := gb321) (o := .cells #[.int .i64 t316, .int .i64 t317, .int .i64 t318, .int .i64 t319] 59 (0, 0)) (zL12 BK321.out)) : gb321 ≠ gb338))
        have n10_ := Aside0.mk ((by rw [hg]; exact Nat.ne_of_gt (blk_lt (g := gb321) (o := .cells #[.int .i64 t316, .int .i64 t317, .int .i64 t318, .int .i64 t319] 59 (0, 0)) (zL12 BK321.out)) : gb338 ≠ gb321))
        have n11_ := Aside0.mk ((by rw [hg]; exact Nat.ne_of_lt (blk_lt (g := gb328) (o := .cells #[v323, v326] 54 (0, 0)) (zL12 BK328.out)) : gb328 ≠ gb338))
        have n12_ := Aside0.mk ((by rw [hg]; exact Nat.ne_of_gt (blk_lt (g := gb328) (o := .cells #[v323, v326] 54 (0, 0)) (zL12 BK328.out)) : gb338 ≠ gb328))
        clear HO_6
        clear HO324
        clear HO327
        clear BK321
        clear BK328
        clear HB
        have HO_6 := n0_
        have HO324 := n1_
        have HO327 := n2_
        have BK321 := n3_
        have BK328 := n4_
        have HB := n5_
        have BK338 := n6_
        have GW338 := n7_
        have GE338 := n8_
        have aa := n9_
        have ac := n10_
        have ab := n11_
        have ad := n12_
        clear n0_ n1_ n2_ n3_ n4_ n5_ n6_ n7_ n8_ n9_ n10_ n11_ n12_
        clear hb hbox hg
        refine hK.out _ _ ⟨bA12 BK321 rfl, bA12 BK321 rfl, bA12 BK321 rfl, bA12 BK321 rfl⟩ (fun hHeld => ?_)
        clear hK K
        refine norm_ (a' := ?_) ?_ ?_
        rotate_left
        ·show Act.put _ (some 10) _ = _
         simp only [Act.put, zs12, zc12, zd12, i64_w, i32_w]
         rfl
        refine one_ (i := 3) (N := some 34) #[true, true, true, true, false, false, false, true, false, false] rfl rfl (one_of HT_.out (by kernel_rfl)) (by decide) (fun K hK => ?_)
        refine goes_ Try.func57 (by kernel_rfl) rfl #[.pointer (some ⟨gb328, 0, none⟩), .agg #[.int .i64 t316, .int .i64 t317, .int .i64 t318, .int .i64 t319]] (by rfl) rfl rfl z12_10 ?_
        with_reducible refine (impl_span_byB.calls kj4 v323 t322 v326 t325 t316 t317 t318 t319 t329 t330 t331 t332 t333 t334 t335 t336 false _ ?side1 ?side2 ?side3 A17.out).mono ?_
        (case side1 => (with_reducible repeat first|refine blk_drewN ?_ _|refine blk_drew ?_|refine blk_alloc ?_ _); exact BK328.out)
        (case side2 => exact own_open z12_4)
        (case side3 => exact own_open z12_5)
        rintro e w90 ⟨rfl, hb⟩
        refine ⟨_, rfl, ?_⟩
        have n0_ := Aside0.mk (Kd.R_below z12_6 hb)
        have n1_ := Aside0.mk (Kd.R_below z12_4 hb)
        have n2_ := Aside0.mk (Kd.R_below z12_5 hb)
        have n3_ := Aside0.mk (blk_below (g := gb321) (o := .cells #[.int .i64 t316, .int .i64 t317, .int .i64 t318, .int .i64 t319] 59 (0, 0)) (zL12 BK321.out) hb)
        have n4_ := Aside0.mk (blk_below (g := gb328) (o := .cells #[v323, v326] 54 (0, 0)) (zL12 BK328.out) hb)
        have n5_ := Aside0.mk (blk_below (g := gb338) (o := .cells #[.int .i64 0, .int .i64 0, .int .i64 0, .int .i64 0, .int .i64 0, .int .i64 0, .int .i64 0, .int .i64 0] 62 (0, 0)) (zL12 BK338.out) hb)
        have n6_ := Aside0.mk (below_step z12_1 hb)
        clear HO_6
        clear HO324
        clear HO327
        clear BK321
        clear BK328
        clear BK338
        clear HB
        have HO_6 := n0_
        have HO324 := n1_
        have HO327 := n2_
        have BK321 := n3_
        have BK328 := n4_
        have BK338 := n5_
        have HB := n6_
        clear n0_ n1_ n2_ n3_ n4_ n5_ n6_
        (try clear hb)
        (try clear hb2)
        (try clear hk)
        (try clear hi)
        refine hK.out _ _ ⟨bA12 BK321 rfl, bA12 BK321 rfl, bA12 BK321 rfl, bA12 BK321 rfl⟩ (fun hHeld => ?_)
        clear hK K
        refine norm_ (a' := ?_) ?_ ?_
        rotate_left
        ·show Act.put _ (some 34) _ = _
         simp only [Act.put, zs12, zc12, zd12, i64_w, i32_w]
         rfl
        refine pure_ (i := 4) (N := some 30) (v := ?_) (a' := ?_) #[true, true, true, true, true, false, false, true, false, false] rfl rfl (any_of HT_.out (by kernel_rfl)) (fun _ _ _ h => h) (Or.inl ⟨by rfl, ?_⟩) ?_ ?_
        rotate_left
        ·intro w'
         go_simp
         with_reducible rfl
        rotate_left
        ·simp only [Act.put, zs12, zc12, zd12, i64_w, i32_w]
         rfl
        refine pure_ (i := 5) (N := some 35) (v := ?_) (a' := ?_) #[true, true, true, true, true, true, false, true, false, false] rfl rfl (any_of HT_.out (by kernel_rfl)) (fun _ _ _ h => h) (Or.inl ⟨by rfl, ?_⟩) ?_ ?_
        rotate_left
        ·intro w'
         go_simp
         with_reducible rfl
        rotate_left
        ·simp only [Act.put, zs12, zc12, zd12, i64_w, i32_w]
         rfl
        refine pure_ (i := 6) (N := some 36) (v := ?_) (a' := ?_) #[true, true, true, true, true, true, true, true, false, false] rfl rfl (any_of HT_.out (by kernel_rfl)) (fun _ _ _ h => h) (Or.inl ⟨by rfl, ?_⟩) ?_ ?_
        rotate_left
        ·intro w'
         go_simp
         with_reducible rfl
        rotate_left
        ·simp only [Act.put, zs12, zc12, zd12, i64_w, i32_w]
         rfl
        exact norm_ z12_18 (hCont (gb328, v323, v326, gb338) _ ⟨hHeld, z12_4, z12_5, z12_6, (zL12 BK321.out), (zL12 BK328.out), (zL12 BK338.out), GW328.out, GE328.out, ag.out, ah.out, ad.out, ab.out, GW338.out, GE338.out, aa.out, ac.out, z12_1⟩)
      ·skip
       refine box_step ?hg (N := 10) ?hd (cs := #[.int .i64 0, .int .i64 0, .int .i64 0, .int .i64 0, .int .i64 0, .int .i64 0, .int .i64 0, .int .i64 0]) (t := 62) ?hr ?_; (case hd => rfl); (case hg => rfl); (case hr => first | (go_simp; done) | (go_simp; rfl))
       intro gb338 hg w88 hbox hb
       have n0_ := Aside0.mk (Kd.R_below z12_6 hb)
       have n1_ := Aside0.mk (blk_below (g := gb321) (o := .cells #[.int .i64 t316, .int .i64 t317, .int .i64 t318, .int .i64 t319] 59 (0, 0)) (zL12 BK321.out) hb)
       have n2_ := Aside0.mk (below_step z12_2 hb)
       have n3_ := Aside0.mk (hbox)
       have n4_ := Aside0.mk ((by rw [hg]; exact (below_size z12_2) : w.heap.size ≤ gb338))
       have n5_ := Aside0.mk ((by rw [hg]; exact (below_size z12_2) : w.heap.size ≤ gb338))
       have n6_ := Aside0.mk ((by rw [hg]; exact Nat.ne_of_lt (blk_lt (g := gb321) (o := .cells #[.int .i64 t316, .int .i64 t317, .int .i64 t318, .int .i64 t319] 59 (0, 0)) (zL12 BK321.out)) : gb321 ≠ gb338))
       have n7_ := Aside0.mk ((by rw [hg]; exact Nat.ne_of_gt (blk_lt (g := gb321) (o := .cells #[.int .i64 t316, .int .i64 t317, .int .i64 t318, .int .i64 t319] 59 (0, 0)) (zL12 BK321.out)) : gb338 ≠ gb321))
       clear HO_6
       clear BK321
       clear HB
       have HO_6 := n0_
       have BK321 := n1_
       have HB := n2_
       have BK338 := n3_
       have GW338 := n4_
       have GE338 := n5_
       have aa := n6_
       have ac := n7_
       clear n0_ n1_ n2_ n3_ n4_ n5_ n6_ n7_
       clear hb hbox hg
       refine hK.out _ _ ⟨bA12 BK321 rfl, bA12 BK321 rfl, bA12 BK321 rfl, bA12 BK321 rfl⟩ (fun hHeld => ?_)
       clear hK K
       refine norm_ (a' := ?_) ?_ ?_
       rotate_left
       ·show Act.put _ (some 10) _ = _
        simp only [Act.put, zs12, zc12, zd12, i64_w, i32_w]
        rfl
       refine one_ (i := 1) (N := some 32) #[true, true, true, false, false, false, false, true, false, false] rfl rfl (one_of HT_.out (by kernel_rfl)) (by decide) (fun K hK => ?_)
       refine goes_ Try.func54 (by kernel_rfl) rfl #[.slice Ao86 t312.length co86] (by rfl) rfl rfl z12_10 ?_
       with_reducible refine (impl_spanOf.calls kj4 _ _ t312 t322 t325 _ ?side1 ?side2 A16.out).mono ?_
       (case side1 => repeat (first | exact (Kd.R_reads' HO_6.out).2.2 | (with_reducible refine Kd.C_alloc ?_ _) | (with_reducible refine Kd.C_drewN ?_ _) | (with_reducible refine Kd.C_drew ?_)))
       (case side2 => exact (Kd.R_reads' HO_6.out).2.1)
       rintro e w89 ⟨v323, v326, gb328, rfl, hbox, hgr, ho0, ho1, hb⟩
       refine ⟨_, rfl, ?_⟩
       have n0_ := Aside0.mk (Kd.R_below z12_6 hb)
       have n1_ := Aside0.mk (Kd.R_lower ho0 (below_size z12_7))
       have n2_ := Aside0.mk (Kd.R_lower ho1 (below_size z12_7))
       have n3_ := Aside0.mk (blk_below (g := gb321) (o := .cells #[.int .i64 t316, .int .i64 t317, .int .i64 t318, .int .i64 t319] 59 (0, 0)) (zL12 BK321.out) hb)
       have n4_ := Aside0.mk (blk_below (g := gb338) (o := .cells #[.int .i64 0, .int .i64 0, .int .i64 0, .int .i64 0, .int .i64 0, .int .i64 0, .int .i64 0, .int .i64 0] 62 (0, 0)) (zL12 BK338.out) hb)
       have n5_ := Aside0.mk (hbox)
       have n6_ := Aside0.mk ((Nat.le_trans ((below_size z12_7) : w.heap.size ≤ _) hgr : w.heap.size ≤ gb328))
       have n7_ := Aside0.mk ((Nat.le_trans ((below_size z12_7) : w.heap.size ≤ _) hgr : w.heap.size ≤ gb328))
       have n8_ := Aside0.mk ((Nat.ne_of_lt (Nat.lt_of_lt_of_le (blk_lt (g := gb321) (o := .cells #[.int .i64 t316, .int .i64 t317, .int .i64 t318, .int .i64 t319] 59 (0, 0)) (zL12 BK321.out)) hgr) : gb321 ≠ gb328))
       have n9_ := Aside0.mk ((Nat.ne_of_gt (Nat.lt_of_lt_of_le (blk_lt (g := gb321) (o := .cells #[.int .i64 t316, .int .i64 t317, .int .i64 t318, .int .i64 t319] 59 (0, 0)) (zL12 BK321.out)) hgr) : gb328 ≠ gb321))
       have n10_ := Aside0.mk ((Nat.ne_of_lt (Nat.lt_of_lt_of_le (blk_lt (g := gb338) (o := .cells #[.int .i64 0, .int .i64 0, .int .i64 0, .int .i64 0, .int .i64 0, .int .i64 0, .int .i64 0, .int .i64 0] 62 (0, 0)) (zL12 BK338.out)) hgr) : gb338 ≠ gb328))
       have n11_ := Aside0.mk ((Nat.ne_of_gt (Nat.lt_of_lt_of_le (blk_lt (g := gb338) (o := .cells #[.int .i64 0, .int .i64 0, .int .i64 0, .int .i64 0, .int .i64 0, .int .i64 0, .int .i64 0, .int .i64 0] 62 (0, 0)) (zL12 BK338.out)) hgr) : gb328 ≠ gb338))
       have n12_ := Aside0.mk (below_step z12_7 hb)
       clear HO_6
       clear BK321
       clear BK338
       clear HB
       have HO_6 := n0_
       have HO324 := n1_
       have HO327 := n2_
       have BK321 := n3_
       have BK338 := n4_
       have BK328 := n5_
       have GW328 := n6_
       have GE328 := n7_
       have ag := n8_
       have ah := n9_
       have ad := n10_
       have ab := n11_
       have HB := n12_
       clear n0_ n1_ n2_ n3_ n4_ n5_ n6_ n7_ n8_ n9_ n10_ n11_ n12_
       (try clear hb)
       (try clear hb2)
       (try clear hk)
       (try clear hi)
       (try clear ho0)
       (try clear ho1)
       refine hK.out _ _ ⟨bA12 BK321 rfl, bA12 BK321 rfl, bA12 BK321 rfl, bA12 BK321 rfl⟩ (fun hHeld => ?_)
       clear hK K
       refine norm_ (a' := ?_) ?_ ?_
       rotate_left
       ·show Act.put _ (some 32) _ = _
        simp only [Act.put, zs12, zc12, zd12, i64_w, i32_w]
        rfl
       refine one_ (i := 3) (N := some 34) #[true, true, true, true, false, false, false, true, false, false] rfl rfl (one_of HT_.out (by kernel_rfl)) (by decide) (fun K hK => ?_)
       refine goes_ Try.func57 (by kernel_rfl) rfl #[.pointer (some ⟨gb328, 0, none⟩), .agg #[.int .i64 t316, .int .i64 t317, .int .i64 t318, .int .i64 t319]] (by rfl) rfl rfl z12_10 ?_
       with_reducible refine (impl_span_byB.calls kj4 v323 t322 v326 t325 t316 t317 t318 t319 t329 t330 t331 t332 t333 t334 t335 t336 false _ ?side1 ?side2 ?side3 A17.out).mono ?_
       (case side1 => (with_reducible repeat first|refine blk_drewN ?_ _|refine blk_drew ?_|refine blk_alloc ?_ _); exact BK328.out)
       (case side2 => exact own_open z12_4)
       (case side3 => exact own_open z12_5)
       rintro e w90 ⟨rfl, hb⟩
       refine ⟨_, rfl, ?_⟩
       have n0_ := Aside0.mk (Kd.R_below z12_6 hb)
       have n1_ := Aside0.mk (Kd.R_below z12_4 hb)
       have n2_ := Aside0.mk (Kd.R_below z12_5 hb)
       have n3_ := Aside0.mk (blk_below (g := gb321) (o := .cells #[.int .i64 t316, .int .i64 t317, .int .i64 t318, .int .i64 t319] 59 (0, 0)) (zL12 BK321.out) hb)
       have n4_ := Aside0.mk (blk_below (g := gb338) (o := .cells #[.int .i64 0, .int .i64 0, .int .i64 0, .int .i64 0, .int .i64 0, .int .i64 0, .int .i64 0, .int .i64 0] 62 (0, 0)) (zL12 BK338.out) hb)
       have n5_ := Aside0.mk (blk_below (g := gb328) (o := .cells #[v323, v326] 54 (0, 0)) (zL12 BK328.out) hb)
       have n6_ := Aside0.mk (below_step z12_15 hb)
       clear HO_6
       clear HO324
       clear HO327
       clear BK321
       clear BK338
       clear BK328
       clear HB
       have HO_6 := n0_
       have HO324 := n1_
       have HO327 := n2_
       have BK321 := n3_
       have BK338 := n4_
       have BK328 := n5_
       have HB := n6_
       clear n0_ n1_ n2_ n3_ n4_ n5_ n6_
       (try clear hb)
       (try clear hb2)
       (try clear hk)
       (try clear hi)
       refine hK.out _ _ ⟨bA12 BK321 rfl, bA12 BK321 rfl, bA12 BK321 rfl, bA12 BK321 rfl⟩ (fun hHeld => ?_)
       clear hK K
       refine norm_ (a' := ?_) ?_ ?_
       rotate_left
       ·show Act.put _ (some 34) _ = _
        simp only [Act.put, zs12, zc12, zd12, i64_w, i32_w]
        rfl
       refine pure_ (i := 4) (N := some 30) (v := ?_) (a' := ?_) #[true, true, true, true, true, false, false, true, false, false] rfl rfl (any_of HT_.out (by kernel_rfl)) (fun _ _ _ h => h) (Or.inl ⟨by rfl, ?_⟩) ?_ ?_
       rotate_left
       ·intro w'
        go_simp
        with_reducible rfl
       rotate_left
       ·simp only [Act.put, zs12, zc12, zd12, i64_w, i32_w]
        rfl
       refine pure_ (i := 5) (N := some 35) (v := ?_) (a' := ?_) #[true, true, true, true, true, true, false, true, false, false] rfl rfl (any_of HT_.out (by kernel_rfl)) (fun _ _ _ h => h) (Or.inl ⟨by rfl, ?_⟩) ?_ ?_
       rotate_left
       ·intro w'
        go_simp
        with_reducible rfl
       rotate_left
       ·simp only [Act.put, zs12, zc12, zd12, i64_w, i32_w]
        rfl
       refine pure_ (i := 6) (N := some 36) (v := ?_) (a' := ?_) #[true, true, true, true, true, true, true, true, false, false] rfl rfl (any_of HT_.out (by kernel_rfl)) (fun _ _ _ h => h) (Or.inl ⟨by rfl, ?_⟩) ?_ ?_
       rotate_left
       ·intro w'
        go_simp
        with_reducible rfl
       rotate_left
       ·simp only [Act.put, zs12, zc12, zd12, i64_w, i32_w]
        rfl
       exact norm_ z12_18 (hCont (gb328, v323, v326, gb338) _ ⟨hHeld, z12_4, z12_5, z12_6, (zL12 BK321.out), (zL12 BK328.out), (zL12 BK338.out), GW328.out, GE328.out, ag.out, ah.out, ad.out, ab.out, GW338.out, GE338.out, aa.out, ac.out, z12_15⟩)
     rintro ⟨gb328, v323, v326, gb338⟩ w91 ⟨hS_, h0_, h1_, h2_, h3_, h4_, h5_, h6_, h7_, h8_, h9_, h10_, h11_, h12_, h13_, h14_, h15_, h16_⟩
     have n0_ : Aside0 (Kd.R k77 77 w91 w.heap.size (fun _ => True) v323 t322) := ⟨h0_⟩
     have n1_ : Aside0 (Kd.R (Kd.int .i64) 3 w91 w.heap.size (fun _ => True) v326 t325) := ⟨h1_⟩
     have n2_ : Aside0 (Kd.R k59 59 w91 w.heap.size (fun k_ => k_ ≠ gb321) (.slice Ao86 t312.length co86) t312) := ⟨h2_⟩
     have n3_ : Aside0 (w91.heap[gb321]? = some (.cells #[.int .i64 t316, .int .i64 t317, .int .i64 t318, .int .i64 t319] 59 (0, 0))) := ⟨h3_⟩
     have n4_ : Aside0 (w91.heap[gb328]? = some (.cells #[v323, v326] 54 (0, 0))) := ⟨h4_⟩
     have n5_ : Aside0 (w91.heap[gb338]? = some (.cells #[.int .i64 0, .int .i64 0, .int .i64 0, .int .i64 0, .int .i64 0, .int .i64 0, .int .i64 0, .int .i64 0] 62 (0, 0))) := ⟨h5_⟩
     have n6_ : Aside0 (w.heap.size ≤ gb328) := ⟨h6_⟩
     have n7_ : Aside0 (w.heap.size ≤ gb328) := ⟨h7_⟩
     have n8_ : Aside0 (gb321 ≠ gb328) := ⟨h8_⟩
     have n9_ : Aside0 (gb328 ≠ gb321) := ⟨h9_⟩
     have n10_ : Aside0 (gb338 ≠ gb328) := ⟨h10_⟩
     have n11_ : Aside0 (gb328 ≠ gb338) := ⟨h11_⟩
     have n12_ : Aside0 (w.heap.size ≤ gb338) := ⟨h12_⟩
     have n13_ : Aside0 (w.heap.size ≤ gb338) := ⟨h13_⟩
     have n14_ : Aside0 (gb321 ≠ gb338) := ⟨h14_⟩
     have n15_ : Aside0 (gb338 ≠ gb321) := ⟨h15_⟩
     have n16_ : Aside0 (Below w.heap.size w w91) := ⟨h16_⟩
     clear HO_6
     clear BK321
     clear HB
     clear h0_ h1_ h2_ h3_ h4_ h5_ h6_ h7_ h8_ h9_ h10_ h11_ h12_ h13_ h14_ h15_ h16_
     have HO324 := n0_
     have HO327 := n1_
     have HO_6 := n2_
     have BK321 := n3_
     have BK328 := n4_
     have BK338 := n5_
     have GW328 := n6_
     have GE328 := n7_
     have ag := n8_
     have ah := n9_
     have ad := n10_
     have ab := n11_
     have GW338 := n12_
     have GE338 := n13_
     have aa := n14_
     have ac := n15_
     have HB := n16_
     clear n0_ n1_ n2_ n3_ n4_ n5_ n6_ n7_ n8_ n9_ n10_ n11_ n12_ n13_ n14_ n15_ n16_
     have hHeld : w91.cell? ⟨gb321, 0, none⟩ = some (.int .i64 t316) ∧ w91.cell? ⟨gb321, 1, none⟩ = some (.int .i64 t317) ∧ w91.cell? ⟨gb321, 2, none⟩ = some (.int .i64 t318) ∧ w91.cell? ⟨gb321, 3, none⟩ = some (.int .i64 t319) := hS_
     refine norm_ (a' := ?_) ?_ ?_
     rotate_left
     ·simp only [putAll, Act.put, List.setIfInBounds_toArray, List.set_cons_zero, List.set_cons_succ]
      rfl
     refine one_ (i := 8) (N := none) #[true, true, true, true, true, true, true, true, true, false] rfl rfl (one_of HT_.out (by kernel_rfl)) (by decide) (fun K hK => ?_)
     have hs92 : w91.cell? ⟨gb338, 0, none⟩ = some (.int .i64 0) := bA12 BK338 rfl
     have hfs92 := blk_frozen BK338.out 0
     have hns92_0 := aa.out
     have hns92_1 := ab.out
     have hms92_0 := ac.out
     have hms92_1 := ad.out
     have hs93 : w91.cell? ⟨gb338, 1, none⟩ = some (.int .i64 0) := bA12 BK338 rfl
     have hfs93 := blk_frozen BK338.out 1
     have hns93_0 := aa.out
     have hns93_1 := ab.out
     have hms93_0 := ac.out
     have hms93_1 := ad.out
     have hs94 : w91.cell? ⟨gb338, 2, none⟩ = some (.int .i64 0) := bA12 BK338 rfl
     have hfs94 := blk_frozen BK338.out 2
     have hns94_0 := aa.out
     have hns94_1 := ab.out
     have hms94_0 := ac.out
     have hms94_1 := ad.out
     have hs95 : w91.cell? ⟨gb338, 3, none⟩ = some (.int .i64 0) := bA12 BK338 rfl
     have hfs95 := blk_frozen BK338.out 3
     have hns95_0 := aa.out
     have hns95_1 := ab.out
     have hms95_0 := ac.out
     have hms95_1 := ad.out
     have hs96 : w91.cell? ⟨gb338, 4, none⟩ = some (.int .i64 0) := bA12 BK338 rfl
     have hfs96 := blk_frozen BK338.out 4
     have hns96_0 := aa.out
     have hns96_1 := ab.out
     have hms96_0 := ac.out
     have hms96_1 := ad.out
     have hs97 : w91.cell? ⟨gb338, 5, none⟩ = some (.int .i64 0) := bA12 BK338 rfl
     have hfs97 := blk_frozen BK338.out 5
     have hns97_0 := aa.out
     have hns97_1 := ab.out
     have hms97_0 := ac.out
     have hms97_1 := ad.out
     have hs98 : w91.cell? ⟨gb338, 6, none⟩ = some (.int .i64 0) := bA12 BK338 rfl
     have hfs98 := blk_frozen BK338.out 6
     have hns98_0 := aa.out
     have hns98_1 := ab.out
     have hms98_0 := ac.out
     have hms98_1 := ad.out
     have hs99 : w91.cell? ⟨gb338, 7, none⟩ = some (.int .i64 0) := bA12 BK338 rfl
     have hfs99 := blk_frozen BK338.out 7
     have hns99_0 := aa.out
     have hns99_1 := ab.out
     have hms99_0 := ac.out
     have hms99_1 := ad.out
     refine skip_ (w1 := ?_) (by rfl) rfl ?_ ?_
     rotate_left
     ·go_simp
      rfl
     refine hK.out _ _ ⟨((cell_far (p := ⟨gb338, _, none⟩) aa.out _).trans (((cell_far (p := ⟨gb338, _, none⟩) aa.out _).trans (((cell_far (p := ⟨gb338, _, none⟩) aa.out _).trans (((cell_far (p := ⟨gb338, _, none⟩) aa.out _).trans (((cell_far (p := ⟨gb338, _, none⟩) aa.out _).trans (((cell_far (p := ⟨gb338, _, none⟩) aa.out _).trans (((cell_far (p := ⟨gb338, _, none⟩) aa.out _).trans (((cell_far (p := ⟨gb338, _, none⟩) aa.out _).trans (hHeld.1)))))))))))))))), ((cell_far (p := ⟨gb338, _, none⟩) aa.out _).trans (((cell_far (p := ⟨gb338, _, none⟩) aa.out _).trans (((cell_far (p := ⟨gb338, _, none⟩) aa.out _).trans (((cell_far (p := ⟨gb338, _, none⟩) aa.out _).trans (((cell_far (p := ⟨gb338, _, none⟩) aa.out _).trans (((cell_far (p := ⟨gb338, _, none⟩) aa.out _).trans (((cell_far (p := ⟨gb338, _, none⟩) aa.out _).trans (((cell_far (p := ⟨gb338, _, none⟩) aa.out _).trans (hHeld.2.1)))))))))))))))), ((cell_far (p := ⟨gb338, _, none⟩) aa.out _).trans (((cell_far (p := ⟨gb338, _, none⟩) aa.out _).trans (((cell_far (p := ⟨gb338, _, none⟩) aa.out _).trans (((cell_far (p := ⟨gb338, _, none⟩) aa.out _).trans (((cell_far (p := ⟨gb338, _, none⟩) aa.out _).trans (((cell_far (p := ⟨gb338, _, none⟩) aa.out _).trans (((cell_far (p := ⟨gb338, _, none⟩) aa.out _).trans (((cell_far (p := ⟨gb338, _, none⟩) aa.out _).trans (hHeld.2.2.1)))))))))))))))), ((cell_far (p := ⟨gb338, _, none⟩) aa.out _).trans (((cell_far (p := ⟨gb338, _, none⟩) aa.out _).trans (((cell_far (p := ⟨gb338, _, none⟩) aa.out _).trans (((cell_far (p := ⟨gb338, _, none⟩) aa.out _).trans (((cell_far (p := ⟨gb338, _, none⟩) aa.out _).trans (((cell_far (p := ⟨gb338, _, none⟩) aa.out _).trans (((cell_far (p := ⟨gb338, _, none⟩) aa.out _).trans (((cell_far (p := ⟨gb338, _, none⟩) aa.out _).trans (hHeld.2.2.2))))))))))))))))⟩ (fun hHeld => ?_)
     clear hK K
     refine pure_ (i := 9) (N := some 11) (v := ?_) (a' := ?_) #[true, true, true, true, true, true, true, true, true, true] rfl rfl (any_of HT_.out (by kernel_rfl)) (fun _ _ _ h => h) (Or.inl ⟨by rfl, ?_⟩) ?_ ?_
     rotate_left
     ·intro w'
      go_simp
      with_reducible rfl
     rotate_left
     ·simp only [Act.put, zs12, zc12, zd12, i64_w, i32_w]
      rfl
     refine done_ (done_of HT_.out (by kernel_rfl)) ?_
     try go_wp2
     go_ret2
     exact ⟨_, z12_21, z12_22, z12_1⟩

end Go.Proofs.Ytbhmgbeebhmfkaa.PA
