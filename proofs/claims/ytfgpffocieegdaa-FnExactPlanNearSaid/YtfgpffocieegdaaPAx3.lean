import Derived.Test.YtfgpffocieegdaaPAx0
import Derived.Test.YtfgpffocieegdaaPAx2
import Derived.Test.YtfgpffocieegdaaGw
import Derived.Test.YtfgpffocieegdaaGm
import Derived.Test.YtfgpffocieegdaaGc
namespace Go.Proofs.Ytfgpffocieegdaa.PA
open Go.RowKit Go.Proofs.YtfgpffocieegdaaW.PrintWords Go.Proofs.YtfgpffocieegdaaW.PrintLast Go.Proofs.YtfgpffocieegdaaW.PrintMore
attribute [local go_sem] max2_int min2_int max_two min_two max_three min_three max_four min_four   -- for this text's walks alone
set_option linter.unusedVariables false
set_option linter.unusedSimpArgs false

/-! ### impl_vector_minus: function 61 -/
theorem zL3 {p q : Prop} (h : q) (t : q → p := by intro h_; (with_reducible repeat first|refine blk_drewN ?_ _|refine blk_drew ?_|refine blk_alloc ?_ _); exact h_) : p := t h
theorem z3_1 {p : Prop} (h : p := by repeat (first | (with_reducible first | exact HB.out | apply below_alloc | apply pw_below_drewN | apply below_drew1 | refine below_set ?_ GE150.out | refine below_set ?_ GE151.out | refine below_set ?_ GE152.out) | exact HB.out)) : p := h
theorem z3_2 {p : Prop} (h : p := by (try simp only [List.map_toArray, List.map_cons, List.map_nil]); first | done | rfl | (simp only [List.length_drop, List.length_take]; rfl)) : p := h
theorem z3_3 {p : Prop} (h : p := by repeat (first | (with_reducible first | exact HB.out | apply below_alloc | apply pw_below_drewN | apply below_drew1 | refine below_set ?_ GE150.out | refine below_set ?_ GE151.out) | exact HB.out)) : p := h
theorem z3_4 {p : Prop} (h : p := by repeat (first | (with_reducible first | exact HB.out | apply below_alloc | apply pw_below_drewN | apply below_drew1 | refine below_set ?_ GE150.out) | exact HB.out)) : p := h
theorem z3_5 {p : Prop} (h : p := by repeat (first | (with_reducible first | exact HB.out | apply below_alloc | apply pw_below_drewN | apply below_drew1) | exact HB.out)) : p := h
def impl_vector_minus.f (a0_0 : Int) (a0_1 : Int) (a0_2 : Int) (a0_3 : Int) (a1_0 : Int) (a1_1 : Int) (a1_2 : Int) (a1_3 : Int) : Option (Int × Int × Int × Int) := (impl_elementOf.f (-1)).bind fun t153 => ((impl_vector_times.f a1_0 a1_1 a1_2 a1_3 t153).bind fun bt154 => ((impl_vector_plus.f a0_0 a0_1 a0_2 a0_3 bt154.1 bt154.2.1 bt154.2.2.1 bt154.2.2.2).bind fun bt158 => (some (bt158.1, bt158.2.1, bt158.2.2.1, bt158.2.2.2))))
set_option maxHeartbeats 8000000 in
set_option maxRecDepth 100000 in
theorem impl_vector_minus.calls (a0_0 : Int) (a0_1 : Int) (a0_2 : Int) (a0_3 : Int) (a1_0 : Int) (a1_1 : Int) (a1_2 : Int) (a1_3 : Int) (r1 : Int) (r2 : Int) (r3 : Int) (r4 : Int) (w : World) (h : impl_vector_minus.f a0_0 a0_1 a0_2 a0_3 a1_0 a1_1 a1_2 a1_3 = some (r1, r2, r3, r4)) :
  Calls Try.prog 61 #[.agg #[.int .i64 a0_0, .int .i64 a0_1, .int .i64 a0_2, .int .i64 a0_3], .agg #[.int .i64 a1_0, .int .i64 a1_1, .int .i64 a1_2, .int .i64 a1_3]] w fun e w' => e = .returned (.agg #[.int .i64 r1, .int .i64 r2, .int .i64 r3, .int .i64 r4]) ∧ Below w.heap.size w w' := by
 have hu54 := Try.underlying54
 have HB := Aside0.mk (Below.refl w.heap.size w)
 try unfold impl_vector_minus.f at h
 have H := h
 clear h
 replace H := Option.bind_eq_some_iff.mp H
 obtain ⟨t153, A30, H⟩ := H
 have A3 := Aside0.mk A30
 clear A30
 replace H := Option.bind_eq_some_iff.mp H
 obtain ⟨⟨t154, t155, t156, t157⟩, A40, H⟩ := H
 dsimp only at H
 have A4 := Aside0.mk A40
 clear A40
 replace H := Option.bind_eq_some_iff.mp H
 obtain ⟨⟨t158, t159, t160, t161⟩, A50, H⟩ := H
 dsimp only at H
 have A5 := Aside0.mk A50
 clear A50
 simp only [Option.some.injEq, Prod.mk.injEq] at H
 obtain ⟨rfl, rfl, rfl, rfl⟩ := H
 go_enter Try.func61, Try.ntmps61
 try go_wp2_with (first | ((with_reducible refine gate_dst (N := 2) rfl ?_); refine box_event ?hg (N := 2) ?hd (cs := #[.int .i64 a0_0, .int .i64 a0_1, .int .i64 a0_2, .int .i64 a0_3]) (t := 54) ?hr ?_; (case hd => rfl); (case hg => rfl); (case hr => first | (go_simp; done) | (go_simp; rfl)); intro gb150 hg w6 hbox hb; have BK150 := Aside0.mk (hbox); have GW150 := Aside0.mk ((by rw [hg]; exact (below_size z3_5) : w.heap.size ≤ gb150)); have GE150 := Aside0.mk ((by rw [hg]; exact (below_size z3_5) : w.heap.size ≤ gb150)); replace HB := Aside0.mk (below_step z3_5 hb); clear hb hbox hg) | ((with_reducible refine gate_dst (N := 3) rfl ?_); refine box_event ?hg (N := 3) ?hd (cs := #[.int .i64 a1_0, .int .i64 a1_1, .int .i64 a1_2, .int .i64 a1_3]) (t := 54) ?hr ?_; (case hd => rfl); (case hg => rfl); (case hr => first | (go_simp; done) | (go_simp; rfl)); intro gb151 hg w7 hbox hb; have BK151 := Aside0.mk (hbox); have GW151 := Aside0.mk ((by rw [hg]; exact (below_size z3_4) : w.heap.size ≤ gb151)); have GE151 := Aside0.mk ((by rw [hg]; exact (below_size z3_4) : w.heap.size ≤ gb151)); replace HB := Aside0.mk (below_step z3_4 hb); have NB150_151 := Aside0.mk ((by rw [hg]; exact bLZ_ BK150 : gb150 ≠ gb151)); have NB151_150 := Aside0.mk ((by rw [hg]; exact bGZ_ BK150 : gb151 ≠ gb150)); replace BK150 := bBZ_ BK150 hb; clear hb hbox hg) | ((with_reducible refine gate_dst (N := 4) rfl ?_); refine box_event ?hg (N := 4) ?hd (cs := #[.int .i64 0, .int .i64 0, .int .i64 0, .int .i64 0]) (t := 54) ?hr ?_; (case hd => rfl); (case hg => rfl); (case hr => first | (go_simp; done) | (go_simp; rfl)); intro gb152 hg w8 hbox hb; have BK152 := Aside0.mk (hbox); have GW152 := Aside0.mk ((by rw [hg]; exact (below_size z3_3) : w.heap.size ≤ gb152)); have GE152 := Aside0.mk ((by rw [hg]; exact (below_size z3_3) : w.heap.size ≤ gb152)); replace HB := Aside0.mk (below_step z3_3 hb); have aa := Aside0.mk ((by rw [hg]; exact bLZ_ BK150 : gb150 ≠ gb152)); have ac := Aside0.mk ((by rw [hg]; exact bGZ_ BK150 : gb152 ≠ gb150)); replace BK150 := bBZ_ BK150 hb; have ab := Aside0.mk ((by rw [hg]; exact bLZ_ BK151 : gb151 ≠ gb152)); have ad := Aside0.mk ((by rw [hg]; exact bGZ_ BK151 : gb152 ≠ gb151)); replace BK151 := bBZ_ BK151 hb; clear hb hbox hg))
 replace BK150 := Aside0.mk (blk_drew BK150.out)
 replace BK151 := Aside0.mk (blk_drew BK151.out)
 replace BK152 := Aside0.mk (blk_drew BK152.out)
 replace HB := Aside0.mk (below_drew1 HB.out)
 refine start_ (n := 6) (S := fun w' => w'.cell? ⟨gb150, 0, none⟩ = some (.int .i64 a0_0) ∧ w'.cell? ⟨gb150, 1, none⟩ = some (.int .i64 a0_1) ∧ w'.cell? ⟨gb150, 2, none⟩ = some (.int .i64 a0_2) ∧ w'.cell? ⟨gb150, 3, none⟩ = some (.int .i64 a0_3) ∧ w'.cell? ⟨gb151, 0, none⟩ = some (.int .i64 a1_0) ∧ w'.cell? ⟨gb151, 1, none⟩ = some (.int .i64 a1_1) ∧ w'.cell? ⟨gb151, 2, none⟩ = some (.int .i64 a1_2) ∧ w'.cell? ⟨gb151, 3, none⟩ = some (.int .i64 a1_3)) (ds := []) #[false, false, false, false, false, false] (by kernel_rfl) rfl rfl ⟨(blk_cell BK150.out 0).trans rfl, (blk_cell BK150.out 1).trans rfl, (blk_cell BK150.out 2).trans rfl, (blk_cell BK150.out 3).trans rfl, (blk_cell BK151.out 0).trans rfl, (blk_cell BK151.out 1).trans rfl, (blk_cell BK151.out 2).trans rfl, (blk_cell BK151.out 3).trans rfl⟩ (fun hHeld => ?_)
 generalize w8.drew = w9 at BK150 BK151 BK152 HB hHeld ⊢
 refine take_ (i := 0) (N := some 5) (v := ?_) (a' := ?_) #[true, false, false, false, false, false] rfl rfl (by kernel_rfl) (fun _ _ _ h => h) (Or.inl ⟨by rfl, ?_⟩) hHeld ?_ ?_
 rotate_left
 ·rintro w' ⟨s0, s1, s2, s3, s4, s5, s6, s7⟩
  go_simp
  with_reducible rfl
 rotate_left
 ·simp only [Act.put, List.setIfInBounds_toArray, List.set_cons_zero, List.set_cons_succ, i64_w, i32_w]
  rfl
 refine take_ (i := 1) (N := some 6) (v := ?_) (a' := ?_) #[true, true, false, false, false, false] rfl rfl (by kernel_rfl) (fun _ _ _ h => h) (Or.inl ⟨by rfl, ?_⟩) hHeld ?_ ?_
 rotate_left
 ·rintro w' ⟨s0, s1, s2, s3, s4, s5, s6, s7⟩
  go_simp
  with_reducible rfl
 rotate_left
 ·simp only [Act.put, List.setIfInBounds_toArray, List.set_cons_zero, List.set_cons_succ, i64_w, i32_w]
  rfl
 refine one_ (i := 2) (N := some 7) #[true, true, true, false, false, false] rfl rfl (by kernel_rfl) (by decide) (fun K hK => ?_)
 refine goes_ Try.func54 (by kernel_rfl) rfl #[.int .i64 (-1)] (by rfl) rfl rfl z3_2 ?_
 with_reducible refine (impl_elementOf.calls (-1) t153 _ A3.out).mono ?_
 rintro e w' ⟨rfl, ⟨nd, rfl⟩⟩
 refine ⟨_, rfl, ?_⟩
 refine hK.out _ _ ⟨(blk_cell BK150.out 0).trans rfl, (blk_cell BK150.out 1).trans rfl, (blk_cell BK150.out 2).trans rfl, (blk_cell BK150.out 3).trans rfl, (blk_cell BK151.out 0).trans rfl, (blk_cell BK151.out 1).trans rfl, (blk_cell BK151.out 2).trans rfl, (blk_cell BK151.out 3).trans rfl⟩ (fun hHeld => ?_)
 clear hK K
 refine nZ ?_
 refine one_ (i := 3) (N := some 8) #[true, true, true, true, false, false] rfl rfl (by kernel_rfl) (by decide) (fun K hK => ?_)
 refine goes_ Try.func34 (by kernel_rfl) rfl #[.agg #[.int .i64 a1_0, .int .i64 a1_1, .int .i64 a1_2, .int .i64 a1_3], .int .i64 t153] (by rfl) rfl rfl z3_2 ?_
 with_reducible refine (impl_vector_times.calls a1_0 a1_1 a1_2 a1_3 t153 t154 t155 t156 t157 _ A4.out).mono ?_
 rintro e w10 ⟨rfl, hb⟩
 refine ⟨_, rfl, ?_⟩
 replace BK150 := bBZ_ BK150 hb
 replace BK151 := bBZ_ BK151 hb
 replace BK152 := bBZ_ BK152 hb
 replace HB := Aside0.mk (below_step z3_1 hb)
 (try clear hb)
 (try clear hb2)
 (try clear hk)
 (try clear hi)
 refine hK.out _ _ ⟨(blk_cell BK150.out 0).trans rfl, (blk_cell BK150.out 1).trans rfl, (blk_cell BK150.out 2).trans rfl, (blk_cell BK150.out 3).trans rfl, (blk_cell BK151.out 0).trans rfl, (blk_cell BK151.out 1).trans rfl, (blk_cell BK151.out 2).trans rfl, (blk_cell BK151.out 3).trans rfl⟩ (fun hHeld => ?_)
 clear hK K
 refine nZ ?_
 refine one_ (i := 4) (N := some 9) #[true, true, true, true, true, false] rfl rfl (by kernel_rfl) (by decide) (fun K hK => ?_)
 refine goes_ Try.func32 (by kernel_rfl) rfl #[.agg #[.int .i64 a0_0, .int .i64 a0_1, .int .i64 a0_2, .int .i64 a0_3], .agg #[.int .i64 t154, .int .i64 t155, .int .i64 t156, .int .i64 t157]] (by rfl) rfl rfl z3_2 ?_
 with_reducible refine (impl_vector_plus.calls a0_0 a0_1 a0_2 a0_3 t154 t155 t156 t157 t158 t159 t160 t161 _ A5.out).mono ?_
 rintro e w11 ⟨rfl, hb⟩
 refine ⟨_, rfl, ?_⟩
 replace BK150 := bBZ_ BK150 hb
 replace BK151 := bBZ_ BK151 hb
 replace BK152 := bBZ_ BK152 hb
 replace HB := Aside0.mk (below_step z3_1 hb)
 (try clear hb)
 (try clear hb2)
 (try clear hk)
 (try clear hi)
 refine hK.out _ _ ⟨(blk_cell BK150.out 0).trans rfl, (blk_cell BK150.out 1).trans rfl, (blk_cell BK150.out 2).trans rfl, (blk_cell BK150.out 3).trans rfl, (blk_cell BK151.out 0).trans rfl, (blk_cell BK151.out 1).trans rfl, (blk_cell BK151.out 2).trans rfl, (blk_cell BK151.out 3).trans rfl⟩ (fun hHeld => ?_)
 clear hK K
 refine nZ ?_
 refine one_ (i := 5) (N := none) #[true, true, true, true, true, true] rfl rfl (by kernel_rfl) (by decide) (fun K hK => ?_)
 have hs12 : w11.cell? ⟨gb152, 0, none⟩ = some (.int .i64 0) := (blk_cell BK152.out 0).trans rfl
 have hfs12 := blk_frozen BK152.out 0
 have hns12_0 := aa.out
 have hns12_1 := ab.out
 have hms12_0 := ac.out
 have hms12_1 := ad.out
 have hs13 : w11.cell? ⟨gb152, 1, none⟩ = some (.int .i64 0) := (blk_cell BK152.out 1).trans rfl
 have hfs13 := blk_frozen BK152.out 1
 have hns13_0 := aa.out
 have hns13_1 := ab.out
 have hms13_0 := ac.out
 have hms13_1 := ad.out
 have hs14 : w11.cell? ⟨gb152, 2, none⟩ = some (.int .i64 0) := (blk_cell BK152.out 2).trans rfl
 have hfs14 := blk_frozen BK152.out 2
 have hns14_0 := aa.out
 have hns14_1 := ab.out
 have hms14_0 := ac.out
 have hms14_1 := ad.out
 have hs15 : w11.cell? ⟨gb152, 3, none⟩ = some (.int .i64 0) := (blk_cell BK152.out 3).trans rfl
 have hfs15 := blk_frozen BK152.out 3
 have hns15_0 := aa.out
 have hns15_1 := ab.out
 have hms15_0 := ac.out
 have hms15_1 := ad.out
 refine skip_ (w1 := ?_) (by rfl) rfl ?_ ?_
 rotate_left
 ·go_simp
  rfl
 refine hK.out _ _ ⟨((cell_far (p := ⟨gb152, _, none⟩) aa.out _).trans (((cell_far (p := ⟨gb152, _, none⟩) aa.out _).trans (((cell_far (p := ⟨gb152, _, none⟩) aa.out _).trans (((cell_far (p := ⟨gb152, _, none⟩) aa.out _).trans (hHeld.1)))))))), ((cell_far (p := ⟨gb152, _, none⟩) aa.out _).trans (((cell_far (p := ⟨gb152, _, none⟩) aa.out _).trans (((cell_far (p := ⟨gb152, _, none⟩) aa.out _).trans (((cell_far (p := ⟨gb152, _, none⟩) aa.out _).trans (hHeld.2.1)))))))), ((cell_far (p := ⟨gb152, _, none⟩) aa.out _).trans (((cell_far (p := ⟨gb152, _, none⟩) aa.out _).trans (((cell_far (p := ⟨gb152, _, none⟩) aa.out _).trans (((cell_far (p := ⟨gb152, _, none⟩) aa.out _).trans (hHeld.2.2.1)))))))), ((cell_far (p := ⟨gb152, _, none⟩) aa.out _).trans (((cell_far (p := ⟨gb152, _, none⟩) aa.out _).trans (((cell_far (p := ⟨gb152, _, none⟩) aa.out _).trans (((cell_far (p := ⟨gb152, _, none⟩) aa.out _).trans (hHeld.2.2.2.1)))))))), ((cell_far (p := ⟨gb152, _, none⟩) ab.out _).trans (((cell_far (p := ⟨gb152, _, none⟩) ab.out _).trans (((cell_far (p := ⟨gb152, _, none⟩) ab.out _).trans (((cell_far (p := ⟨gb152, _, none⟩) ab.out _).trans (hHeld.2.2.2.2.1)))))))), ((cell_far (p := ⟨gb152, _, none⟩) ab.out _).trans (((cell_far (p := ⟨gb152, _, none⟩) ab.out _).trans (((cell_far (p := ⟨gb152, _, none⟩) ab.out _).trans (((cell_far (p := ⟨gb152, _, none⟩) ab.out _).trans (hHeld.2.2.2.2.2.1)))))))), ((cell_far (p := ⟨gb152, _, none⟩) ab.out _).trans (((cell_far (p := ⟨gb152, _, none⟩) ab.out _).trans (((cell_far (p := ⟨gb152, _, none⟩) ab.out _).trans (((cell_far (p := ⟨gb152, _, none⟩) ab.out _).trans (hHeld.2.2.2.2.2.2.1)))))))), ((cell_far (p := ⟨gb152, _, none⟩) ab.out _).trans (((cell_far (p := ⟨gb152, _, none⟩) ab.out _).trans (((cell_far (p := ⟨gb152, _, none⟩) ab.out _).trans (((cell_far (p := ⟨gb152, _, none⟩) ab.out _).trans (hHeld.2.2.2.2.2.2.2))))))))⟩ (fun hHeld => ?_)
 clear hK K
 refine done_ (by kernel_rfl) ?_
 try go_wp2
 refine bodyPost_ret (results_cell_row rfl _ _ gb152 54 #[.int .i64 t158, .int .i64 t159, .int .i64 t160, .int .i64 t161] (0, 0) _ rfl (bZ BK152.out) Try.underlying54 rfl (by kernel_rfl)) rfl ?_
 exact ⟨by first | rfl | (simp [errW_none, errW_some] <;> rfl) | (simp [*, errW_none, errW_some] <;> rfl), z3_1⟩

/-! ### impl_element_minus: function 62 -/
def impl_element_minus.f (a0 : Int) (a1 : Int) : Option (Int) := (impl_elementOf.f (wrap64 (a0 - a1))).bind fun t162 => (some t162)
set_option maxHeartbeats 8000000 in
set_option maxRecDepth 100000 in
theorem impl_element_minus.calls (a0 : Int) (a1 : Int) (r : Int) (w : World) (h : impl_element_minus.f a0 a1 = some r) :
  Calls Try.prog 62 #[.int .i64 a0, .int .i64 a1] w fun e w' => e = .returned (.int .i64 r) ∧ Drawn0 w w' := by
 try unfold impl_element_minus.f at h
 have H := h
 clear h
 replace H := Option.bind_eq_some_iff.mp H
 obtain ⟨t162, A30, H⟩ := H
 have A3 := Aside0.mk A30
 clear A30
 obtain rfl := Option.some.inj H
 go_enter Try.func62, Try.ntmps62
 go_wp2_with (first | ((with_reducible refine gate_callee (f := 54) rfl ?_); refine goesL_ (some 8) rfl rfl Try.func54 (by kernel_rfl) rfl #[.int .i64 (wrap64 (a0 - a1))] rfl z3_2 ?_; (with_reducible refine (impl_elementOf.calls (wrap64 (a0 - a1)) t162 _ A3.out).mono ?_); rintro e w' ⟨rfl, ⟨nd, rfl⟩⟩; refine ⟨_, rfl, ?_⟩))
 go_ret
 exact ⟨by first | rfl | (simp; done) | (simp [*]; done), by repeat (first | exact Drawn0.refl _ | apply Drawn0.step)⟩

end Go.Proofs.Ytfgpffocieegdaa.PA
