import Derived.Test.YtfgpffocieegdaaLess
import Derived.Test.YtfgpffocieegdaaGm
/- The walk of a row added to tidy rows, as a function with rounds; the answer 'none': the very rows that came in. -/
set_option linter.unusedVariables false
set_option linter.unusedSimpArgs false
namespace Go.Proofs.Ytfgpffocieegdaa.PA
open Go.RowKit Go.Proofs.YtfgpffocieegdaaW.PrintWords Go.Proofs.YtfgpffocieegdaaW.PrintLast Go.Proofs.YtfgpffocieegdaaW.PrintMore

theorem zhl_0 {p : Prop} (h : p := by repeat (first | (with_reducible first | exact HB.out | apply below_alloc | apply pw_below_drewN | apply below_drew1) | exact HB.out)) : p := h
theorem zhl_1 {p : Prop} (h : p := by (with_reducible repeat (first | apply Kd.R_alloc | apply Kd.R_drewN | apply Kd.R_drew)); exact HZ.out) : p := h
theorem zhl_2 {p : Prop} (h : p := by (with_reducible repeat (first | apply Kd.S_alloc | apply Kd.S_drewN | apply Kd.S_drew)); exact HO.out) : p := h
theorem zhl_3 {p : Prop} (h : p := by repeat (first | exact (Kd.C_below HRr.out HB.out) | (with_reducible refine Kd.C_alloc ?_ _) | (with_reducible refine Kd.C_drewN ?_ _) | (with_reducible refine Kd.C_drew ?_))) : p := h
theorem zhl_4 {p : Prop} (h : p := by (try simp only [List.map_toArray, List.map_cons, List.map_nil]); first | done | rfl) : p := h
theorem zhl_5 {p : Prop} (h : p := by repeat (first | exact HV.out | (with_reducible refine Kd.C_alloc ?_ _) | (with_reducible refine Kd.C_drewN ?_ _) | (with_reducible refine Kd.C_drew ?_))) : p := h
theorem zhl_6 {p : Prop} (h : p := by repeat (first | exact (Kd.R_reads' HZ.out).2.2 | (with_reducible refine Kd.C_alloc ?_ _) | (with_reducible refine Kd.C_drewN ?_ _) | (with_reducible refine Kd.C_drew ?_))) : p := h
theorem zhl_7 {p : Prop} (h : p := by (with_reducible repeat (first | apply Kd.S_alloc | apply Kd.S_drewN | apply Kd.S_drew)); exact Kd.S_mono HO.out (fun k_ hk => ⟨hk.1, fun e_ => hk.2 e_⟩)) : p := h
theorem zhl_8 {p : Prop} (h : p := by (with_reducible repeat (first | apply Kd.R_alloc | apply Kd.R_drewN | apply Kd.R_drew)); exact Kd.R_mono (Kd.R_tight rfl (Kd.R_mono (ok' := fun k_ => (fun _ => True) k_ ∧ some k_ ≠ (u7 : Value).ownBlock) (Kd.R_apart' HZ.out (Kd.S_typed HO.out) (by decide)) (fun k_ hk => ⟨trivial, hk.2⟩))) (fun _ h_ => h_)) : p := h
theorem zhl_9 {p : Prop} (h : p := by repeat (first | exact (Kd.C_below HR0.out HB.out) | (with_reducible refine Kd.C_alloc ?_ _) | (with_reducible refine Kd.C_drewN ?_ _) | (with_reducible refine Kd.C_drew ?_))) : p := h
theorem zhl_10 {p : Prop} (h : p := by repeat (first | exact (Kd.C_below HV.out HB.out) | (with_reducible refine Kd.C_alloc ?_ _) | (with_reducible refine Kd.C_drewN ?_ _) | (with_reducible refine Kd.C_drew ?_))) : p := h
theorem zhl_11 {p : Prop} (h : p := by repeat (first | exact (Kd.S_reads' HO.out).2.2 | (with_reducible refine Kd.C_alloc ?_ _) | (with_reducible refine Kd.C_drewN ?_ _) | (with_reducible refine Kd.C_drew ?_))) : p := h
theorem zhl_12 {p : Prop} (h : p := by repeat (first | exact (Kd.S_reads' HT.out).2.2 | (with_reducible refine Kd.C_alloc ?_ _) | (with_reducible refine Kd.C_drewN ?_ _) | (with_reducible refine Kd.C_drew ?_))) : p := h
theorem zhl_13 {p : Prop} (h : p := by (with_reducible repeat (first | apply Kd.S_alloc | apply Kd.S_drewN | apply Kd.S_drew)); exact Kd.S_mono HO.out (fun k_ hk => ⟨trivial, fun e_ => hk e_⟩)) : p := h
theorem zhl_14 {p : Prop} (h : p := by (with_reducible repeat (first | apply Kd.S_alloc | apply Kd.S_drewN | apply Kd.S_drew)); exact Kd.S_mono HO.out (fun _ _ h_ => absurd h_ (by decide))) : p := h
def l3AddF.l1 : Nat → List (List Int) → List Int → Int → List (List Int) → Bool → Int → Option (Option (List (List Int)))
  | 0, _, _, _, _, _, _ => none
  | k + 1, x0, z, t, out, put, i =>
    if i < (x0.length : Int) then
      (if 0 ≤ i then
        (if put = true then ((spec_l3Less.f k (rd_L4 x0 i) z).bind fun q => if out.length < 5864062014800 then l3AddF.l1 k x0 z t (out ++ [q]) true (wrap64 (i + 1)) else none)
         else ((spec_l2Lead.f k (rd_L4 x0 i)).bind fun s =>
          if s > t then (if out.length < 5864062014800 then ((spec_l3Less.f k (rd_L4 x0 i) z).bind fun q => l3AddF.l1 k x0 z t (out ++ [z] ++ [q]) true (wrap64 (i + 1))) else none)
          else ((spec_l3Less.f k (rd_L4 x0 i) z).bind fun q => if out.length < 5864062014800 then l3AddF.l1 k x0 z t (out ++ [q]) false (wrap64 (i + 1)) else none)))
       else none)
    else (if put = true then some (some out) else (if out.length < 5864062014800 then some (some (out ++ [z])) else none))
def l3AddF.l0 : Nat → List (List Int) → List Int → Int → Option (Option (List (List Int)))
  | 0, _, _, _ => none
  | k + 1, x0, x1, x5 =>
    if x5 < (x0.length : Int) then (if 0 ≤ x5 then ((spec_l3Less.f k x1 (rd_L4 x0 x5)).bind fun t => l3AddF.l0 k x0 t (wrap64 (x5 + 1))) else none)
    else ((spec_l2Lead.f k x1).bind fun t => if t < 0 then some none else (if t < (x1.length : Int) then (if 0 ≤ t then ((spec_l1Inv.f k (rd x1 t)).bind fun u => ((spec_l2Scale.f k x1 u).bind fun z => l3AddF.l1 k x0 z t [] false 0)) else none) else none))
/-- what comes back: the rows that came in, or new ones -/
def AddsTo (A0 : Option Addr) (c0 n : Nat) (base : Nat) (r : Option (List (List Int))) (e : Ending) (w' : World) : Prop :=
  match r with
  | none => e = .returned (.slice A0 n c0)
  | some rr => ∃ v0_ : Value, e = .returned v0_ ∧ Kd.S (Kd.slice 3 (Kd.int .i64)) 28 w' base (fun _ => True) v0_ rr
set_option maxHeartbeats 8000000 in
set_option maxRecDepth 100000 in
theorem l3AddF.calls (k : Nat) (A0 : Option Addr) (c0 : Nat) (l0 : List (List Int)) (A1 : Option Addr) (c1 : Nat) (l1 : List Int) (r : Option (List (List Int))) (w : World) (hr0 : Kd.C (Kd.slice 3 (Kd.int .i64)) w A0 l0.length l0) (hc0 : l0.length ≤ c0) (hr1 : Kd.C (Kd.int .i64) w A1 l1.length l1) (hc1 : l1.length ≤ c1) (h : l3AddF.l0 k l0 l1 0 = some r) :
  Calls Try.prog 70 #[.slice A0 l0.length c0, .slice A1 l1.length c1] w fun e w' => AddsTo A0 c0 l0.length w.heap.size r e w' ∧ Below w.heap.size w w' := by
 have HR0 := Aside0.mk hr0
 have HC0 := Aside0.mk hc0
 have HV := Aside0.mk hr1
 have HVC := Aside0.mk hc1
 clear hr0 hc0 hr1 hc1
 have HB := Aside0.mk (Below.refl w.heap.size w)
 have H' := Aside0.mk h
 clear h
 go_enter Try.func70, Try.ntmps70
 go_wp2
 go_loopg [1, 5] k (fun kq v1 v5 w' => ∃ (Av : Option Addr) (cv : Nat) (x1 : List Int) (x5 : Int), v1 = .slice Av x1.length cv ∧ v5 = .int .i64 x5 ∧ Aside0 (l3AddF.l0 kq l0 x1 x5 = some r) ∧ Aside0 (kq ≤ k) ∧ Aside0 (Kd.C (Kd.int .i64) w' Av x1.length x1) ∧ Aside0 (x1.length ≤ cv) ∧ Aside0 (Below w.heap.size w w'))
 case atStart => exact ⟨A1, c1, l1, 0, rfl, rfl, H', ⟨Nat.le_refl _⟩, ⟨zhl_5⟩, HVC, ⟨zhl_0⟩⟩
 case round =>
  clear H' HV HVC HB; obtain ⟨Av, cv, x1, x5, rfl, rfl, HA, HK1, HV, HVC, HB⟩ := hrel
  cases gk with
  | zero => exact absurd HA.out (by simp [l3AddF.l0])
  | succ k1 =>
   have H := HA.out
   clear HA; simp only [l3AddF.l0] at H
   by_cases c2 : x5 < (l0.length : Int)
   ·rw [if_pos c2] at H
    have c2b0 : decide (x5 < (l0.length : Int)) = true := decide_eq_true c2; clear c2
    by_cases c3 : 0 ≤ x5
    ·rw [if_pos c3] at H
     have c3b0 : decide (0 ≤ x5) = true := decide_eq_true c3; clear c3
     replace H := Option.bind_eq_some_iff.mp H
     obtain ⟨t, A40, H⟩ := H
     have A4 := Aside0.mk A40
     clear A40
     have H' := Aside0.mk H
     clear H; have p1 : 0 ≤ (x5 : Int) := of_decide_eq_true (by assumption); have q1 : x5 < (l0.length : Int) := of_decide_eq_true (by assumption); obtain ⟨ad1, Ar, cr, e1, hx1, hl1, hi1⟩ := at_L4 HR0.out x5 p1 q1; cases e1
     have hxw := hx1
     replace hx1 := (HB.out.cell (World.block_lt_of_cell? w _ hx1)).trans hx1
     have HRr := Aside0.mk hi1
     have HCr := Aside0.mk hl1
     clear hi1 hl1
     replace p1 := eq_true p1
     replace q1 := eq_true q1
     go_wp2_with (first | ((with_reducible refine gate_callee (f := 67) rfl ?_); refine goesL_ (some 21) rfl rfl Try.func67 (by kernel_rfl) rfl #[.slice Av x1.length cv, .slice Ar (rd_L4 l0 x5).length cr] rfl zhl_4 ?_; (with_reducible refine (spec_l3Less.calls k1 _ _ x1 _ _ (rd_L4 l0 x5) t _ ?side1 ?side2 ?side3 ?side4 A4.out).mono ?_); (case side1 => exact zhl_5); (case side2 => exact HVC.out); (case side3 => exact zhl_3); (case side4 => exact HCr.out); rintro e wq_ ⟨vq_, rfl, ho0, hb⟩; refine ⟨_, rfl, ?_⟩; have n0_ := Aside0.mk (Kd.R_lower ho0 (below_size zhl_0)); have n1_ := Aside0.mk (below_step zhl_0 hb); clear HB; have HL_ := n0_; have HB := n1_; clear n0_ n1_; clear hb ho0; obtain ⟨Ao, co, eo_⟩ := Kd.R_slice HL_.out; subst eo_))
     go_roundg k1
     case measure => have := HK1.out; omega
     case rel => exact ⟨Ao, co, t, wrap64 (x5 + 1), rfl, rfl, H', ⟨by have := HK1.out; omega⟩, ⟨(by repeat (first | exact (Kd.R_reads' HL_.out).2.2 | (with_reducible refine Kd.C_alloc ?_ _) | (with_reducible refine Kd.C_drewN ?_ _) | (with_reducible refine Kd.C_drew ?_)))⟩, ⟨(Kd.R_reads' HL_.out).2.1⟩, ⟨zhl_0⟩⟩
    ·rw [if_neg c3] at H
     exact absurd H (by simp)
   ·rw [if_neg c2] at H
    have c2b0 : decide (x5 < (l0.length : Int)) = false := decide_eq_false c2; clear c2
    replace H := Option.bind_eq_some_iff.mp H
    obtain ⟨t, A50, H⟩ := H
    have A5 := Aside0.mk A50
    clear A50
    by_cases c6 : t < 0
    ·rw [if_pos c6] at H
     have c6b0 : decide (t < 0) = true := decide_eq_true c6; clear c6
     obtain rfl := Option.some.inj H
     clear H
     go_wp2_with (first | ((with_reducible refine gate_callee (f := 66) rfl ?_); refine goesL_ (some 23) rfl rfl Try.func66 (by kernel_rfl) rfl #[.slice Av x1.length cv] rfl zhl_4 ?_; (with_reducible refine (spec_l2Lead.calls k1 _ _ x1 t _ ?side1 ?side2 A5.out).mono ?_); (case side1 => exact zhl_5); (case side2 => exact HVC.out); rintro e w' ⟨rfl, ⟨nd, rfl⟩⟩; refine ⟨_, rfl, ?_⟩))
     go_ret; exact ⟨rfl, zhl_0⟩
    ·rw [if_neg c6] at H
     have c6b0 : decide (t < 0) = false := decide_eq_false c6; clear c6
     by_cases c7 : t < (x1.length : Int)
     ·rw [if_pos c7] at H
      by_cases c8 : 0 ≤ t
      ·rw [if_pos c8] at H
       replace H := Option.bind_eq_some_iff.mp H
       obtain ⟨u, A90, H⟩ := H
       have A9 := Aside0.mk A90
       clear A90
       replace H := Option.bind_eq_some_iff.mp H
       obtain ⟨z, A100, H⟩ := H
       have A10 := Aside0.mk A100
       clear A100
       have H' := Aside0.mk H
       clear H; obtain ⟨adv, ev, hxv⟩ := Kd.at_int HV.out t c8 c7; cases ev
       replace c7 := eq_true c7
       replace c8 := eq_true c8
       go_wp2_with (first | ((with_reducible refine gate_callee (f := 66) rfl ?_); refine goesL_ (some 23) rfl rfl Try.func66 (by kernel_rfl) rfl #[.slice (some adv) x1.length cv] rfl zhl_4 ?_; (with_reducible refine (spec_l2Lead.calls k1 _ _ x1 t _ ?side1 ?side2 A5.out).mono ?_); (case side1 => exact zhl_5); (case side2 => exact HVC.out); rintro e w' ⟨rfl, ⟨nd, rfl⟩⟩; refine ⟨_, rfl, ?_⟩) | ((with_reducible refine gate_callee (f := 72) rfl ?_); refine goesL_ (some 32) rfl rfl Try.func72 (by kernel_rfl) rfl #[.int .i64 (rd x1 t)] rfl zhl_4 ?_; (with_reducible refine (spec_l1Inv.calls k1 (rd x1 t) u _ A9.out).mono ?_); rintro e w' ⟨rfl, ⟨nd, rfl⟩⟩; refine ⟨_, rfl, ?_⟩) | ((with_reducible refine gate_callee (f := 68) rfl ?_); refine goesL_ (some 33) rfl rfl Try.func68 (by kernel_rfl) rfl #[.slice (some adv) x1.length cv, .int .i64 u] rfl zhl_4 ?_; (with_reducible refine (spec_l2Scale.calls k1 _ _ x1 u z _ ?side1 ?side2 A10.out).mono ?_); (case side1 => exact zhl_5); (case side2 => exact HVC.out); rintro e wq_ ⟨vq_, rfl, ho0, hb⟩; refine ⟨_, rfl, ?_⟩; have n0_ := Aside0.mk (Kd.R_lower ho0 (below_size zhl_0)); have n1_ := Aside0.mk (below_step zhl_0 hb); clear HB; have HZ := n0_; have HB := n1_; clear n0_ n1_; clear hb ho0; obtain ⟨Az, cz, eo_⟩ := Kd.R_slice HZ.out; subst eo_) | ((with_reducible refine gate_dst (N := 34) rfl ?_); refine Kd.R_lit (Kd.slice 3 (Kd.int .i64)) _ 28 ?hg (N := 34) ?hd (xs := ([] : List (List Int))) (inner := []) (ok := fun _ => True) (okp := fun _ => True) ?hr ?hp (fun _ hk => hk) trivial (Below.refl _ _) (Nat.le_refl _) (by simp) ?_; (case hd => rfl); (case hg => rfl); (case hr => first | (go_simp; done) | (go_simp; rfl)); (case hp => exact (Reps.none _ _)); intro vl_ wl_ ho4 hb hg_ hnew_; clear hg_ hnew_; have n0_ := Aside0.mk (Kd.R_below zhl_1 hb); have n1_ := Aside0.mk (S_of_empty (Kd.R_lower (Kd.R_new' ho4 (Kd.R_lt zhl_1)) (below_size zhl_0))); have n2_ := Aside0.mk (below_step zhl_0 hb); clear HZ; clear HB; have HZ := n0_; have HO := n1_; have HB := n2_; clear n0_ n1_ n2_; clear hb ho4))
       go_loopg [7, 8, 9] k1 (fun kq v7 v8 v9 w' => ∃ (out : List (List Int)) (put : Bool) (x9 : Int), v8 = .bool put ∧ v9 = .int .i64 x9 ∧ Aside0 (l3AddF.l1 kq l0 z t out put x9 = some r) ∧ Aside0 (kq ≤ k1) ∧ Aside0 (Kd.R (Kd.int .i64) 3 w' w.heap.size (fun _ => True) (.slice Az z.length cz) z) ∧ Aside0 (Kd.S (Kd.slice 3 (Kd.int .i64)) 28 w' w.heap.size (fun k_ => put = false → some k_ ≠ (.slice Az z.length cz : Value).ownBlock) v7 out) ∧ Aside0 (Below w.heap.size w w'))
       case atStart => exact ⟨[], false, 0, rfl, rfl, H', ⟨Nat.le_refl _⟩, ⟨zhl_1⟩, ⟨(by (with_reducible repeat (first | apply Kd.S_alloc | apply Kd.S_drewN | apply Kd.S_drew)); exact Kd.S_mono HO.out (fun _ hk _ => hk.2))⟩, ⟨zhl_0⟩⟩
       case round =>
        clear H' HV HZ HO HB hxv; obtain ⟨out, put, x9, rfl, rfl, HA, HK2, HZ, HO, HB⟩ := hrel
        cases gk with
        | zero => exact absurd HA.out (by simp [l3AddF.l1])
        | succ k2 =>
         have H := HA.out
         clear HA; simp only [l3AddF.l1] at H
         by_cases d1 : x9 < (l0.length : Int)
         ·rw [if_pos d1] at H
          have d1b0 : decide (x9 < (l0.length : Int)) = true := decide_eq_true d1; clear d1
          by_cases d2 : 0 ≤ x9
          ·rw [if_pos d2] at H
           have d2b0 : decide (0 ≤ x9) = true := decide_eq_true d2; clear d2
           cases put with
           | true =>
            rw [if_pos rfl] at H
            replace H := Option.bind_eq_some_iff.mp H
            obtain ⟨q, A110, H⟩ := H
            have A11 := Aside0.mk A110
            clear A110
            by_cases d4 : out.length < 5864062014800
            ·rw [if_pos d4] at H
             have LM := Aside0.mk d4
             clear d4
             have H' := Aside0.mk H
             clear H; have HO2 : Aside0 (Kd.S (Kd.slice 3 (Kd.int .i64)) 28 wr w.heap.size (fun _ => True) u7 out) := ⟨Kd.S_mono HO.out (fun _ _ => trivial)⟩; clear HO; have HO := HO2; clear HO2; have p1 : 0 ≤ (x9 : Int) := of_decide_eq_true (by assumption); have q1 : x9 < (l0.length : Int) := of_decide_eq_true (by assumption); obtain ⟨ad1, Ar, cr, e1, hx1, hl1, hi1⟩ := at_L4 HR0.out x9 p1 q1; cases e1
             have hxw := hx1
             replace hx1 := (HB.out.cell (World.block_lt_of_cell? w _ hx1)).trans hx1
             have HRr := Aside0.mk hi1
             have HCr := Aside0.mk hl1
             clear hi1 hl1
             replace p1 := eq_true p1
             replace q1 := eq_true q1
             go_wp2_with (first | ((with_reducible refine gate_callee (f := 67) rfl ?_); refine goesL_ (some 62) rfl rfl Try.func67 (by kernel_rfl) rfl #[.slice Ar (rd_L4 l0 x9).length cr, .slice Az z.length cz] rfl zhl_4 ?_; (with_reducible refine (spec_l3Less.calls k2 _ _ (rd_L4 l0 x9) _ _ z q _ ?side1 ?side2 ?side3 ?side4 A11.out).mono ?_); (case side1 => exact zhl_3); (case side2 => exact HCr.out); (case side3 => exact zhl_6); (case side4 => exact (Kd.R_reads' HZ.out).2.1); rintro e wq_ ⟨vq_, rfl, ho0, hb⟩; refine ⟨_, rfl, ?_⟩; have n0_ := Aside0.mk (Kd.S_elder' zhl_2 (Kd.R_base ho0) hb); have n1_ := Aside0.mk (Kd.R_below zhl_1 hb); have n2_ := Aside0.mk (Kd.R_lower (Kd.R_new' ho0 (Kd.R_lt zhl_1)) (below_size zhl_0)); have n3_ := Aside0.mk (below_step zhl_0 hb); clear HO; clear HZ; clear HB; have HO := n0_; have HZ := n1_; have HQ := n2_; have HB := n3_; clear n0_ n1_ n2_ n3_; clear hb ho0; obtain ⟨Aq, cq, eo_⟩ := Kd.R_slice HQ.out; subst eo_) | ((with_reducible refine gate_builtin (b := .append) (xs := #[.tmp 56, .tmp 63]) rfl ?_); at_builtin; refine Kd.S_append (Kd.slice 3 (Kd.int .i64)) (w0 := w) w.heap.size rfl (.tmp 56) (.tmp 63) 85 28 (.slice none 0 0) 24 rfl Try.underlying85 info28 rfl (by decide) (by omega) u7 out q [.slice Aq q.length cq] (fun _ => True) (fun k_ => some k_ = (.slice Aq q.length cq : Value).ownBlock) rfl rfl ?aP (fun k_ hk_ => (Kd.R_mono (ok' := fun k_ => (fun _ => True) k_ ∧ some k_ ≠ (u7 : Value).ownBlock) (Kd.R_apart' HQ.out (Kd.S_typed HO.out) (by decide)) (fun k_ hk => ⟨trivial, hk.2⟩)).1 k_ hk_.symm) ?aF ?aO ?aB ?aS ?aL ?_; (case aP => exact Kd.M_row (by (with_reducible repeat (first | apply Kd.R_alloc | apply Kd.R_drewN | apply Kd.R_drew)); exact Kd.R_mono (Kd.R_tight rfl (Kd.R_mono (ok' := fun k_ => (fun _ => True) k_ ∧ some k_ ≠ (u7 : Value).ownBlock) (Kd.R_apart' HQ.out (Kd.S_typed HO.out) (by decide)) (fun k_ hk => ⟨trivial, hk.2⟩))) (fun _ h_ => h_))); (case aB => exact zhl_0); (case aF => exact (fun _ _ => trivial)); (case aO => exact zhl_7); (case aS => exact (below_size zhl_0)); (case aL => have := LM.out; omega); intro va_ wa_ ho hb hg hat; have n0_ := Aside0.mk (Kd.R_over' zhl_1 (Kd.S_typed zhl_2) (by decide) hg); have n1_ := Aside0.mk ho; have n2_ := Aside0.mk hb; clear HZ; clear HO; clear HB; have HZ := n0_; have HO := n1_; have HB := n2_; clear n0_ n1_ n2_; clear ho hb hg hat))
             go_roundg k2
             case measure => have := HK2.out; omega
             case rel => exact ⟨out ++ [q], true, wrap64 (x9 + 1), rfl, rfl, H', ⟨by have := HK2.out; omega⟩, ⟨zhl_1⟩, ⟨zhl_14⟩, ⟨zhl_0⟩⟩
            ·rw [if_neg d4] at H
             exact absurd H (by simp)
           | false =>
            rw [if_neg (show ¬ (false = true) by decide)] at H
            replace H := Option.bind_eq_some_iff.mp H
            obtain ⟨s, A120, H⟩ := H
            have A12 := Aside0.mk A120
            clear A120
            by_cases d3 : s > t
            ·rw [if_pos d3] at H
             have d3b0 : decide (s > t) = true := decide_eq_true d3; clear d3
             by_cases d4 : out.length < 5864062014800
             ·rw [if_pos d4] at H
              have LM := Aside0.mk d4
              clear d4; have LML : Aside0 ((out ++ [z]).length < 5864062014801) := ⟨by have := LM.out; simp; omega⟩
              replace H := Option.bind_eq_some_iff.mp H
              obtain ⟨q, A110, H⟩ := H
              have A11 := Aside0.mk A110
              clear A110
              have H' := Aside0.mk H
              clear H; have HO2 : Aside0 (Kd.S (Kd.slice 3 (Kd.int .i64)) 28 wr w.heap.size (fun k_ => some k_ ≠ (.slice Az z.length cz : Value).ownBlock) u7 out) := ⟨Kd.S_mono HO.out (fun _ hk => hk rfl)⟩; clear HO; have HO := HO2; clear HO2; have p1 : 0 ≤ (x9 : Int) := of_decide_eq_true (by assumption); have q1 : x9 < (l0.length : Int) := of_decide_eq_true (by assumption); obtain ⟨ad1, Ar, cr, e1, hx1, hl1, hi1⟩ := at_L4 HR0.out x9 p1 q1; cases e1
              have hxw := hx1
              replace hx1 := (HB.out.cell (World.block_lt_of_cell? w _ hx1)).trans hx1
              have HRr := Aside0.mk hi1
              have HCr := Aside0.mk hl1
              clear hi1 hl1
              replace p1 := eq_true p1
              replace q1 := eq_true q1
              go_wp2_with (first | (go_at_call 66; (with_reducible refine (spec_l2Lead.calls k2 _ _ (rd_L4 l0 x9) s _ ?side1 ?side2 A12.out).mono ?_); (case side1 => exact zhl_3); (case side2 => exact HCr.out); rintro e w' ⟨rfl, ⟨nd, rfl⟩⟩) | ((with_reducible refine gate_builtin (b := .append) (xs := #[.tmp 52, .tmp 54]) rfl ?_); at_builtin; refine Kd.S_append (Kd.slice 3 (Kd.int .i64)) (w0 := w) w.heap.size rfl (.tmp 52) (.tmp 54) 85 28 (.slice none 0 0) 24 rfl Try.underlying85 info28 rfl (by decide) (by omega) u7 out z [.slice Az z.length cz] (fun _ => True) (fun k_ => some k_ = (.slice Az z.length cz : Value).ownBlock) rfl rfl ?aP (fun k_ hk_ => (Kd.R_mono (ok' := fun k_ => (fun _ => True) k_ ∧ some k_ ≠ (u7 : Value).ownBlock) (Kd.R_apart' HZ.out (Kd.S_typed HO.out) (by decide)) (fun k_ hk => ⟨trivial, hk.2⟩)).1 k_ hk_.symm) ?aF ?aO ?aB ?aS ?aL ?_; (case aP => exact Kd.M_row zhl_8); (case aB => exact zhl_0); (case aF => exact (fun _ _ => trivial)); (case aO => exact zhl_13); (case aS => exact (below_size zhl_0)); (case aL => have := LM.out; omega); intro va_ wa_ ho hb hg hat; have n0_ := Aside0.mk (Kd.R_over' zhl_1 (Kd.S_typed zhl_2) (by decide) hg); have n1_ := Aside0.mk ho; have n2_ := Aside0.mk hb; clear HZ; clear HO; clear HB; have HZ := n0_; have HO := n1_; have HB := n2_; clear n0_ n1_ n2_; clear ho hb hg hat; have hx1 := (HB.out.cell (World.block_lt_of_cell? w _ hxw)).trans hxw) | ((with_reducible refine gate_callee (f := 67) rfl ?_); refine goesL_ (some 62) rfl rfl Try.func67 (by kernel_rfl) rfl #[.slice Ar (rd_L4 l0 x9).length cr, .slice Az z.length cz] rfl zhl_4 ?_; (with_reducible refine (spec_l3Less.calls k2 _ _ (rd_L4 l0 x9) _ _ z q _ ?side1 ?side2 ?side3 ?side4 A11.out).mono ?_); (case side1 => exact zhl_3); (case side2 => exact HCr.out); (case side3 => exact zhl_6); (case side4 => exact (Kd.R_reads' HZ.out).2.1); rintro e wq_ ⟨vq_, rfl, ho0, hb⟩; refine ⟨_, rfl, ?_⟩; have n0_ := Aside0.mk (Kd.S_elder' zhl_2 (Kd.R_base ho0) hb); have n1_ := Aside0.mk (Kd.R_below zhl_1 hb); have n2_ := Aside0.mk (Kd.R_lower (Kd.R_new' ho0 (Kd.R_lt zhl_1)) (below_size zhl_0)); have n3_ := Aside0.mk (below_step zhl_0 hb); clear HO; clear HZ; clear HB; have HO := n0_; have HZ := n1_; have HQ := n2_; have HB := n3_; clear n0_ n1_ n2_ n3_; clear hb ho0; obtain ⟨Aq, cq, eo_⟩ := Kd.R_slice HQ.out; subst eo_) | ((with_reducible refine gate_builtin (b := .append) (xs := #[.tmp 56, .tmp 63]) rfl ?_); at_builtin; refine Kd.S_append (Kd.slice 3 (Kd.int .i64)) (w0 := w) w.heap.size rfl (.tmp 56) (.tmp 63) 85 28 (.slice none 0 0) 24 rfl Try.underlying85 info28 rfl (by decide) (by omega) va_ (out ++ [z]) q [.slice Aq q.length cq] (fun _ => True) (fun k_ => some k_ = (.slice Aq q.length cq : Value).ownBlock) rfl rfl ?aP (fun k_ hk_ => (Kd.R_mono (ok' := fun k_ => (fun _ => True) k_ ∧ some k_ ≠ (va_ : Value).ownBlock) (Kd.R_apart' HQ.out (Kd.S_typed HO.out) (by decide)) (fun k_ hk => ⟨trivial, hk.2⟩)).1 k_ hk_.symm) ?aF ?aO ?aB ?aS ?aL ?_; (case aP => exact Kd.M_row (by (with_reducible repeat (first | apply Kd.R_alloc | apply Kd.R_drewN | apply Kd.R_drew)); exact Kd.R_mono (Kd.R_tight rfl (Kd.R_mono (ok' := fun k_ => (fun _ => True) k_ ∧ some k_ ≠ (va_ : Value).ownBlock) (Kd.R_apart' HQ.out (Kd.S_typed HO.out) (by decide)) (fun k_ hk => ⟨trivial, hk.2⟩))) (fun _ h_ => h_))); (case aB => exact zhl_0); (case aF => exact (fun _ _ => trivial)); (case aO => exact zhl_7); (case aS => exact (below_size zhl_0)); (case aL => have := LML.out; omega); intro vb_ wa_ ho hb hg hat; have n0_ := Aside0.mk (Kd.R_over' zhl_1 (Kd.S_typed zhl_2) (by decide) hg); have n1_ := Aside0.mk ho; have n2_ := Aside0.mk hb; clear HZ; clear HO; clear HB; have HZ := n0_; have HO := n1_; have HB := n2_; clear n0_ n1_ n2_; clear ho hb hg hat))
              go_roundg k2
              case measure => have := HK2.out; omega
              case rel => exact ⟨out ++ [z] ++ [q], true, wrap64 (x9 + 1), rfl, rfl, H', ⟨by have := HK2.out; omega⟩, ⟨zhl_1⟩, ⟨zhl_14⟩, ⟨zhl_0⟩⟩
             ·rw [if_neg d4] at H
              exact absurd H (by simp)
            ·rw [if_neg d3] at H
             have d3b0 : decide (s > t) = false := decide_eq_false d3; clear d3
             replace H := Option.bind_eq_some_iff.mp H
             obtain ⟨q, A110, H⟩ := H
             have A11 := Aside0.mk A110
             clear A110
             by_cases d4 : out.length < 5864062014800
             ·rw [if_pos d4] at H
              have LM := Aside0.mk d4
              clear d4
              have H' := Aside0.mk H
              clear H; have HO2 : Aside0 (Kd.S (Kd.slice 3 (Kd.int .i64)) 28 wr w.heap.size (fun k_ => some k_ ≠ (.slice Az z.length cz : Value).ownBlock) u7 out) := ⟨Kd.S_mono HO.out (fun _ hk => hk rfl)⟩; clear HO; have HO := HO2; clear HO2; have p1 : 0 ≤ (x9 : Int) := of_decide_eq_true (by assumption); have q1 : x9 < (l0.length : Int) := of_decide_eq_true (by assumption); obtain ⟨ad1, Ar, cr, e1, hx1, hl1, hi1⟩ := at_L4 HR0.out x9 p1 q1; cases e1
              have hxw := hx1
              replace hx1 := (HB.out.cell (World.block_lt_of_cell? w _ hx1)).trans hx1
              have HRr := Aside0.mk hi1
              have HCr := Aside0.mk hl1
              clear hi1 hl1
              replace p1 := eq_true p1
              replace q1 := eq_true q1
              go_wp2_with (first | (go_at_call 66; (with_reducible refine (spec_l2Lead.calls k2 _ _ (rd_L4 l0 x9) s _ ?side1 ?side2 A12.out).mono ?_); (case side1 => exact zhl_3); (case side2 => exact HCr.out); rintro e w' ⟨rfl, ⟨nd, rfl⟩⟩) | ((with_reducible refine gate_callee (f := 67) rfl ?_); refine goesL_ (some 62) rfl rfl Try.func67 (by kernel_rfl) rfl #[.slice Ar (rd_L4 l0 x9).length cr, .slice Az z.length cz] rfl zhl_4 ?_; (with_reducible refine (spec_l3Less.calls k2 _ _ (rd_L4 l0 x9) _ _ z q _ ?side1 ?side2 ?side3 ?side4 A11.out).mono ?_); (case side1 => exact zhl_3); (case side2 => exact HCr.out); (case side3 => exact zhl_6); (case side4 => exact (Kd.R_reads' HZ.out).2.1); rintro e wq_ ⟨vq_, rfl, ho0, hb⟩; refine ⟨_, rfl, ?_⟩; have n0_ := Aside0.mk (Kd.S_elder' zhl_2 (Kd.R_base ho0) hb); have n1_ := Aside0.mk (Kd.R_below zhl_1 hb); have n2_ := Aside0.mk (Kd.R_lower (Kd.R_new' ho0 (Kd.R_lt zhl_1)) (below_size zhl_0)); have n3_ := Aside0.mk (below_step zhl_0 hb); clear HO; clear HZ; clear HB; have HO := n0_; have HZ := n1_; have HQ := n2_; have HB := n3_; clear n0_ n1_ n2_ n3_; clear hb ho0; obtain ⟨Aq, cq, eo_⟩ := Kd.R_slice HQ.out; subst eo_) | ((with_reducible refine gate_builtin (b := .append) (xs := #[.tmp 56, .tmp 63]) rfl ?_); at_builtin; refine Kd.S_append (Kd.slice 3 (Kd.int .i64)) (w0 := w) w.heap.size rfl (.tmp 56) (.tmp 63) 85 28 (.slice none 0 0) 24 rfl Try.underlying85 info28 rfl (by decide) (by omega) u7 out q [.slice Aq q.length cq] (fun k_ => some k_ ≠ (.slice Az z.length cz : Value).ownBlock) (fun k_ => some k_ = (.slice Aq q.length cq : Value).ownBlock) rfl rfl ?aP (fun k_ hk_ => (Kd.R_mono (ok' := fun k_ => (fun k_ => some k_ ≠ (.slice Az z.length cz : Value).ownBlock) k_ ∧ some k_ ≠ (u7 : Value).ownBlock) (Kd.R_apart' HQ.out (Kd.S_typed HO.out) (by decide)) (fun k_ hk => ⟨hk.1.2, hk.2⟩)).1 k_ hk_.symm) ?aF ?aO ?aB ?aS ?aL ?_; (case aP => exact Kd.M_row (by (with_reducible repeat (first | apply Kd.R_alloc | apply Kd.R_drewN | apply Kd.R_drew)); exact Kd.R_mono (Kd.R_tight rfl (Kd.R_mono (ok' := fun k_ => (fun k_ => some k_ ≠ (.slice Az z.length cz : Value).ownBlock) k_ ∧ some k_ ≠ (u7 : Value).ownBlock) (Kd.R_apart' HQ.out (Kd.S_typed HO.out) (by decide)) (fun k_ hk => ⟨hk.1.2, hk.2⟩))) (fun _ h_ => h_))); (case aB => exact zhl_0); (case aF => exact (fun k_ hk_ e_ => Nat.lt_irrefl _ (Nat.lt_of_lt_of_le (Kd.R_lt zhl_1 k_ e_.symm) hk_))); (case aO => exact zhl_7); (case aS => exact (below_size zhl_0)); (case aL => have := LM.out; omega); intro va_ wa_ ho hb hg hat; have n0_ := Aside0.mk (Kd.R_over' zhl_1 (Kd.S_typed zhl_2) (by decide) hg); have n1_ := Aside0.mk ho; have n2_ := Aside0.mk hb; clear HZ; clear HO; clear HB; have HZ := n0_; have HO := n1_; have HB := n2_; clear n0_ n1_ n2_; clear ho hb hg hat))
              go_roundg k2
              case measure => have := HK2.out; omega
              case rel => exact ⟨out ++ [q], false, wrap64 (x9 + 1), rfl, rfl, H', ⟨by have := HK2.out; omega⟩, ⟨zhl_1⟩, ⟨(by (with_reducible repeat (first | apply Kd.S_alloc | apply Kd.S_drewN | apply Kd.S_drew)); exact Kd.S_mono HO.out (fun _ hk _ => hk))⟩, ⟨zhl_0⟩⟩
             ·rw [if_neg d4] at H
              exact absurd H (by simp)
          ·rw [if_neg d2] at H
           exact absurd H (by simp)
         ·rw [if_neg d1] at H
          have d1b0 : decide (x9 < (l0.length : Int)) = false := decide_eq_false d1; clear d1
          cases put with
          | true =>
           rw [if_pos rfl] at H
           obtain rfl := Option.some.inj H
           clear H
           go_wp2
           go_ret; exact ⟨⟨_, rfl, (by (with_reducible repeat (first | apply Kd.S_alloc | apply Kd.S_drewN | apply Kd.S_drew)); exact Kd.S_mono HO.out (fun _ _ => trivial))⟩, zhl_0⟩
          | false =>
           rw [if_neg (show ¬ (false = true) by decide)] at H
           by_cases d4 : out.length < 5864062014800
           ·rw [if_pos d4] at H
            have LM := Aside0.mk d4
            clear d4; have HO2 : Aside0 (Kd.S (Kd.slice 3 (Kd.int .i64)) 28 wr w.heap.size (fun k_ => some k_ ≠ (.slice Az z.length cz : Value).ownBlock) u7 out) := ⟨Kd.S_mono HO.out (fun _ hk => hk rfl)⟩; clear HO; have HO := HO2; clear HO2
            obtain rfl := Option.some.inj H
            clear H
            go_wp2_with (first | ((with_reducible refine gate_builtin (b := .append) (xs := #[.tmp 67, .tmp 69]) rfl ?_); at_builtin; refine Kd.S_append (Kd.slice 3 (Kd.int .i64)) (w0 := w) w.heap.size rfl (.tmp 67) (.tmp 69) 85 28 (.slice none 0 0) 24 rfl Try.underlying85 info28 rfl (by decide) (by omega) u7 out z [.slice Az z.length cz] (fun _ => True) (fun k_ => some k_ = (.slice Az z.length cz : Value).ownBlock) rfl rfl ?aP (fun k_ hk_ => (Kd.R_mono (ok' := fun k_ => (fun _ => True) k_ ∧ some k_ ≠ (u7 : Value).ownBlock) (Kd.R_apart' HZ.out (Kd.S_typed HO.out) (by decide)) (fun k_ hk => ⟨trivial, hk.2⟩)).1 k_ hk_.symm) ?aF ?aO ?aB ?aS ?aL ?_; (case aP => exact Kd.M_row zhl_8); (case aB => exact zhl_0); (case aF => exact (fun _ _ => trivial)); (case aO => exact zhl_13); (case aS => exact (below_size zhl_0)); (case aL => have := LM.out; omega); intro va_ wa_ ho hb hg hat; have n0_ := Aside0.mk (Kd.R_over' zhl_1 (Kd.S_typed zhl_2) (by decide) hg); have n1_ := Aside0.mk ho; have n2_ := Aside0.mk hb; clear HZ; clear HO; clear HB; have HZ := n0_; have HO := n1_; have HB := n2_; clear n0_ n1_ n2_; clear ho hb hg hat))
            go_ret; exact ⟨⟨_, rfl, zhl_2⟩, zhl_0⟩
           ·rw [if_neg d4] at H
            exact absurd H (by simp)
      ·rw [if_neg c8] at H
       exact absurd H (by simp)
     ·rw [if_neg c7] at H
      exact absurd H (by simp)
def l3TidyF.l0 : Nat → List (List Int) → List (List Int) → Int → Option (List (List Int))
  | 0, _, _, _ => none
  | k + 1, x0, out, i => if i < (x0.length : Int) then (if 0 ≤ i then ((l3AddF.l0 k out (rd_L4 x0 i) 0).bind fun q => l3TidyF.l0 k x0 (q.getD out) (wrap64 (i + 1))) else none) else some out
set_option maxHeartbeats 8000000 in
set_option maxRecDepth 100000 in
theorem l3TidyF.calls (k : Nat) (A0 : Option Addr) (c0 : Nat) (l0 : List (List Int)) (r : List (List Int)) (w : World) (hr0 : Kd.C (Kd.slice 3 (Kd.int .i64)) w A0 l0.length l0) (hc0 : l0.length ≤ c0) (h : l3TidyF.l0 k l0 [] 0 = some r) :
  Calls Try.prog 69 #[.slice A0 l0.length c0] w fun e w' => ∃ v0_ : Value, e = .returned v0_ ∧ Kd.S (Kd.slice 3 (Kd.int .i64)) 28 w' w.heap.size (fun _ => True) v0_ r ∧ Below w.heap.size w w' := by
 have HR0 := Aside0.mk hr0
 have HC0 := Aside0.mk hc0
 clear hr0 hc0
 have HB := Aside0.mk (Below.refl w.heap.size w)
 have H' := Aside0.mk h
 clear h
 go_enter Try.func69, Try.ntmps69
 go_wp2_with (first | ((with_reducible refine gate_dst (N := 5) rfl ?_); refine Kd.R_lit (Kd.slice 3 (Kd.int .i64)) _ 28 ?hg (N := 5) ?hd (xs := ([] : List (List Int))) (inner := []) (ok := fun _ => True) (okp := fun _ => True) ?hr ?hp (fun _ hk => hk) trivial (Below.refl _ _) (Nat.le_refl _) (by simp) ?_; (case hd => rfl); (case hg => rfl); (case hr => first | (go_simp; done) | (go_simp; rfl)); (case hp => exact (Reps.none _ _)); intro vl_ wl_ ho4 hb hg_ hnew_; clear hg_ hnew_; have n0_ := Aside0.mk (S_of_empty (Kd.R_lower ho4 (below_size zhl_0))); have n1_ := Aside0.mk (below_step zhl_0 hb); clear HB; have HO := n0_; have HB := n1_; clear n0_ n1_; clear hb ho4))
 go_loopg [3, 4] k (fun kq v3 v4 w' => ∃ (out : List (List Int)) (x4 : Int), v4 = .int .i64 x4 ∧ Aside0 (l3TidyF.l0 kq l0 out x4 = some r) ∧ Aside0 (kq ≤ k) ∧ Aside0 (Kd.S (Kd.slice 3 (Kd.int .i64)) 28 w' w.heap.size (fun _ => True) v3 out) ∧ Aside0 (Below w.heap.size w w'))
 case atStart => exact ⟨[], 0, rfl, H', ⟨Nat.le_refl _⟩, ⟨zhl_2⟩, ⟨zhl_0⟩⟩
 case round =>
  clear H' HO HB; obtain ⟨out, x4, rfl, HA, HK1, HO, HB⟩ := hrel
  cases gk with
  | zero => exact absurd HA.out (by simp [l3TidyF.l0])
  | succ k1 =>
   have H := HA.out
   clear HA; simp only [l3TidyF.l0] at H
   by_cases c2 : x4 < (l0.length : Int)
   ·rw [if_pos c2] at H
    have c2b0 : decide (x4 < (l0.length : Int)) = true := decide_eq_true c2; clear c2
    by_cases c3 : 0 ≤ x4
    ·rw [if_pos c3] at H
     have c3b0 : decide (0 ≤ x4) = true := decide_eq_true c3; clear c3
     replace H := Option.bind_eq_some_iff.mp H
     obtain ⟨q, A40, H⟩ := H
     have A4 := Aside0.mk A40
     clear A40
     have H' := Aside0.mk H
     clear H; obtain ⟨Ao, co, eo_⟩ := Kd.S_slice HO.out; subst eo_; have p1 : 0 ≤ (x4 : Int) := of_decide_eq_true (by assumption); have q1 : x4 < (l0.length : Int) := of_decide_eq_true (by assumption); obtain ⟨ad1, Ar, cr, e1, hx1, hl1, hi1⟩ := at_L4 HR0.out x4 p1 q1; cases e1
     have hxw := hx1
     replace hx1 := (HB.out.cell (World.block_lt_of_cell? w _ hx1)).trans hx1
     have HRr := Aside0.mk hi1
     have HCr := Aside0.mk hl1
     clear hi1 hl1
     replace p1 := eq_true p1
     replace q1 := eq_true q1
     cases q with
     | none =>
      go_wp2_with (first | ((with_reducible refine gate_callee (f := 70) rfl ?_); refine goesL_ (some 17) rfl rfl Try.func70 (by kernel_rfl) rfl #[.slice Ao out.length co, .slice Ar (rd_L4 l0 x4).length cr] rfl zhl_4 ?_; (with_reducible refine (l3AddF.calls k1 _ _ out _ _ (rd_L4 l0 x4) none _ ?side1 ?side2 ?side3 ?side4 A4.out).mono ?_); (case side1 => exact zhl_11); (case side2 => exact (Kd.S_reads' HO.out).2.1); (case side3 => exact zhl_3); (case side4 => exact HCr.out); rintro e wq_ ⟨ha, hb⟩; obtain rfl : e = _ := ha; refine ⟨_, rfl, ?_⟩; have n0_ := Aside0.mk (Kd.S_below zhl_2 hb); have n1_ := Aside0.mk (below_step zhl_0 hb); clear HO; clear HB; have HO := n0_; have HB := n1_; clear n0_ n1_; clear hb))
      go_roundg k1
      case measure => have := HK1.out; omega
      case rel => exact ⟨out, wrap64 (x4 + 1), rfl, H', ⟨by have := HK1.out; omega⟩, ⟨zhl_2⟩, ⟨zhl_0⟩⟩
     | some rr =>
      go_wp2_with (first | ((with_reducible refine gate_callee (f := 70) rfl ?_); refine goesL_ (some 17) rfl rfl Try.func70 (by kernel_rfl) rfl #[.slice Ao out.length co, .slice Ar (rd_L4 l0 x4).length cr] rfl zhl_4 ?_; (with_reducible refine (l3AddF.calls k1 _ _ out _ _ (rd_L4 l0 x4) (some rr) _ ?side1 ?side2 ?side3 ?side4 A4.out).mono ?_); (case side1 => exact zhl_11); (case side2 => exact (Kd.S_reads' HO.out).2.1); (case side3 => exact zhl_3); (case side4 => exact HCr.out); rintro e wq_ ⟨ha, hb⟩; obtain ⟨vq_, rfl, ho0⟩ : ∃ v0_ : Value, e = .returned v0_ ∧ Kd.S (Kd.slice 3 (Kd.int .i64)) 28 wq_ _ (fun _ => True) v0_ rr := ha; refine ⟨_, rfl, ?_⟩; have n0_ := Aside0.mk (Kd.S_lower ho0 (below_size zhl_0)); have n1_ := Aside0.mk (below_step zhl_0 hb); clear HO; clear HB; have HO := n0_; have HB := n1_; clear n0_ n1_; clear hb ho0))
      go_roundg k1
      case measure => have := HK1.out; omega
      case rel => exact ⟨rr, wrap64 (x4 + 1), rfl, H', ⟨by have := HK1.out; omega⟩, ⟨zhl_2⟩, ⟨zhl_0⟩⟩
    ·rw [if_neg c3] at H
     exact absurd H (by simp)
   ·rw [if_neg c2] at H
    have c2b0 : decide (x4 < (l0.length : Int)) = false := decide_eq_false c2; clear c2
    obtain rfl := Option.some.inj H
    clear H
    go_wp2
    go_ret; exact ⟨_, rfl, zhl_2, zhl_0⟩
def l3HasF (k : Nat) (l0 : List (List Int)) (l1 : List Int) : Option Bool := (l3TidyF.l0 k l0 [] 0).bind fun t => (l3AddF.l0 k t l1 0).bind fun q => some (((q.getD t).length : Int) == (t.length : Int))
set_option maxHeartbeats 8000000 in
set_option maxRecDepth 100000 in
theorem l3HasF.calls (k : Nat) (A0 : Option Addr) (c0 : Nat) (l0 : List (List Int)) (A1 : Option Addr) (c1 : Nat) (l1 : List Int) (r : Bool) (w : World) (hr0 : Kd.C (Kd.slice 3 (Kd.int .i64)) w A0 l0.length l0) (hc0 : l0.length ≤ c0) (hr1 : Kd.C (Kd.int .i64) w A1 l1.length l1) (hc1 : l1.length ≤ c1) (h : l3HasF k l0 l1 = some r) :
  Calls Try.prog 65 #[.slice A0 l0.length c0, .slice A1 l1.length c1] w fun e w' => e = .returned (.bool r) ∧ Below w.heap.size w w' := by
 have HR0 := Aside0.mk hr0
 have HC0 := Aside0.mk hc0
 have HV := Aside0.mk hr1
 have HVC := Aside0.mk hc1
 clear hr0 hc0 hr1 hc1
 have HB := Aside0.mk (Below.refl w.heap.size w)
 obtain ⟨t, A40, H⟩ := Option.bind_eq_some_iff.mp h
 have A4 := Aside0.mk A40
 clear A40 h
 obtain ⟨q, A50, H⟩ := Option.bind_eq_some_iff.mp H
 have A5 := Aside0.mk A50
 clear A50
 obtain rfl := Option.some.inj H
 clear H
 cases q with
 | none =>
  go_enter Try.func65, Try.ntmps65
  go_wp2_with (first | ((with_reducible refine gate_callee (f := 69) rfl ?_); refine goesL_ (some 7) rfl rfl Try.func69 (by kernel_rfl) rfl #[.slice A0 l0.length c0] rfl zhl_4 ?_; (with_reducible refine (l3TidyF.calls k _ _ l0 t _ ?side1 ?side2 A4.out).mono ?_); (case side1 => exact zhl_9); (case side2 => exact HC0.out); rintro e wq_ ⟨vq_, rfl, ho0, hb⟩; refine ⟨_, rfl, ?_⟩; have n0_ := Aside0.mk (Kd.S_lower ho0 (below_size zhl_0)); have n1_ := Aside0.mk (below_step zhl_0 hb); clear HB; have HT := n0_; have HB := n1_; clear n0_ n1_; clear hb ho0; obtain ⟨At, ct, eo_⟩ := Kd.S_slice HT.out; subst eo_) | ((with_reducible refine gate_callee (f := 70) rfl ?_); refine goesL_ (some 10) rfl rfl Try.func70 (by kernel_rfl) rfl #[.slice At t.length ct, .slice A1 l1.length c1] rfl zhl_4 ?_; (with_reducible refine (l3AddF.calls k _ _ t _ _ l1 none _ ?side1 ?side2 ?side3 ?side4 A5.out).mono ?_); (case side1 => exact zhl_12); (case side2 => exact (Kd.S_reads' HT.out).2.1); (case side3 => exact zhl_10); (case side4 => exact HVC.out); rintro e wq_ ⟨ha, hb⟩; obtain rfl : e = _ := ha; refine ⟨_, rfl, ?_⟩; have n0_ := Aside0.mk (Kd.S_below (by (with_reducible repeat (first | apply Kd.S_alloc | apply Kd.S_drewN | apply Kd.S_drew)); exact HT.out) hb); have n1_ := Aside0.mk (below_step zhl_0 hb); clear HT; clear HB; have HT := n0_; have HB := n1_; clear n0_ n1_; clear hb))
  go_ret; exact ⟨by first | rfl | (simp; done), zhl_0⟩
 | some rr =>
  go_enter Try.func65, Try.ntmps65
  go_wp2_with (first | ((with_reducible refine gate_callee (f := 69) rfl ?_); refine goesL_ (some 7) rfl rfl Try.func69 (by kernel_rfl) rfl #[.slice A0 l0.length c0] rfl zhl_4 ?_; (with_reducible refine (l3TidyF.calls k _ _ l0 t _ ?side1 ?side2 A4.out).mono ?_); (case side1 => exact zhl_9); (case side2 => exact HC0.out); rintro e wq_ ⟨vq_, rfl, ho0, hb⟩; refine ⟨_, rfl, ?_⟩; have n0_ := Aside0.mk (Kd.S_lower ho0 (below_size zhl_0)); have n1_ := Aside0.mk (below_step zhl_0 hb); clear HB; have HT := n0_; have HB := n1_; clear n0_ n1_; clear hb ho0; obtain ⟨At, ct, eo_⟩ := Kd.S_slice HT.out; subst eo_) | ((with_reducible refine gate_callee (f := 70) rfl ?_); refine goesL_ (some 10) rfl rfl Try.func70 (by kernel_rfl) rfl #[.slice At t.length ct, .slice A1 l1.length c1] rfl zhl_4 ?_; (with_reducible refine (l3AddF.calls k _ _ t _ _ l1 (some rr) _ ?side1 ?side2 ?side3 ?side4 A5.out).mono ?_); (case side1 => exact zhl_12); (case side2 => exact (Kd.S_reads' HT.out).2.1); (case side3 => exact zhl_10); (case side4 => exact HVC.out); rintro e wq_ ⟨ha, hb⟩; obtain ⟨vq_, rfl, ho0⟩ : ∃ v0_ : Value, e = .returned v0_ ∧ Kd.S (Kd.slice 3 (Kd.int .i64)) 28 wq_ _ (fun _ => True) v0_ rr := ha; refine ⟨_, rfl, ?_⟩; have n0_ := Aside0.mk (Kd.S_lower ho0 (below_size zhl_0)); have n1_ := Aside0.mk (below_step zhl_0 hb); clear HB; have HQ := n0_; have HB := n1_; clear n0_ n1_; clear hb ho0; obtain ⟨Aq, cq, eo_⟩ := Kd.S_slice HQ.out; subst eo_))
  go_ret; exact ⟨by first | rfl | (simp; done), zhl_0⟩
end Go.Proofs.Ytfgpffocieegdaa.PA
