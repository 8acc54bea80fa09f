import Derived.Test.YtfgpffocieegdaaPAx0
import Derived.Test.YtfgpffocieegdaaHl
import Derived.Test.YtfgpffocieegdaaMa
/- spec.l3Tidy and spec.l3Has: their contracts, for all rows of four field elements each. -/
set_option linter.unusedVariables false
set_option linter.unusedSimpArgs false
namespace Go.Proofs.Ytfgpffocieegdaa.Ls
open Go.RowKit Go.Proofs.Ytfgpffocieegdaa.PA Go.Proofs.YtfgpffocieegdaaW.PrintWords Go.Proofs.YtfgpffocieegdaaW.PrintLast Go.Proofs.YtfgpffocieegdaaW.PrintMore Go.Proofs.Ytfgpffocieegdaa.Lin

theorem rdL_nat (m : List (List Int)) (i : Nat) : rd_L4 m (i : Int) = m.getD i [] := by unfold rd_L4; rw [Int.toNat_natCast]
theorem getD_row {m : List (List Int)} {i : Nat} (h : i < m.length) : m.getD i [] = m[i] := by rw [List.getD_eq_getElem?_getD, List.getElem?_eq_getElem h]; rfl
theorem unit_lead {r : List Int} (h : Unit1 r) : 0 ≤ llead r := by rw [llead_ld (vok_iff.1 h.1).2 h.2.1]; omega
theorem addL1_ev {t : List (List Int)} (ht : ∀ r ∈ t, Unit1 r) (hn : t.length ≤ 1000000) {z : List Int} (hz : Unit1 z) : ∀ (d i : Nat) (out : List (List Int)) (put : Bool), i + d = t.length → out.length ≤ 2 * i →
    Evp (fun k => l3AddF.l1 k t z (llead z) out put (i : Int)) (· = some (if put = true then out ++ (t.drop i).map (lless · z) else out ++ linsert z (t.drop i))) := by
  intro d
  induction d with
  | zero =>
    intro i out put hi ho; refine Evp.step (fun k => by rw [l3AddF.l1]) (Evp.neg (by omega) ?_); rw [List.drop_eq_nil_of_le (by omega)]
    cases put with
    | true => exact Evp.pos rfl (Evp.some' (by simp))
    | false => exact Evp.neg (by simp) (Evp.pos (by omega) (Evp.some' (by simp [linsert])))
  | succ d ih =>
    intro i out put hi ho
    have hi1 : i < t.length := by omega
    have hu := ht _ (List.getElem_mem hi1)
    have hle := (vok_iff.1 hu.1).1
    refine Evp.step (fun k => by rw [l3AddF.l1]) (Evp.pos (by omega) (Evp.pos (by omega) ?_)); rw [rdL_nat, getD_row hi1, wrap_succ (by omega), List.drop_eq_getElem_cons hi1]
    cases put with
    | true =>
      refine Evp.pos rfl ?_
      refine Evp.bind (l3Less_ev hu.1 hz.1 (unit_lead hz)) fun q hq => ?_
      subst hq; refine Evp.pos (by omega) ((ih (i + 1) _ true (by omega) (by simp; omega)).mono fun r hr => ?_); rw [hr]; simp only [if_true, Bool.false_eq_true, if_false, List.map_cons, List.append_assoc, List.singleton_append, List.cons_append, List.nil_append]
    | false =>
      refine Evp.neg (by simp) ?_
      refine Evp.bind (l2Lead_ev (by omega)) fun s hs => ?_
      subst hs
      refine Evp.ite (fun hc => ?_) fun hc => ?_
      · refine Evp.pos (by omega) ?_
        refine Evp.bind (l3Less_ev hu.1 hz.1 (unit_lead hz)) fun q hq => ?_
        subst hq
        refine (ih (i + 1) _ true (by omega) (by simp; omega)).mono fun r hr => ?_
        have e : linsert z (t[i] :: t.drop (i + 1)) = z :: (t[i] :: t.drop (i + 1)).map (lless · z) := by
          rw [linsert, if_pos hc]
        rw [hr, e]; simp only [if_true, Bool.false_eq_true, if_false, List.map_cons, List.append_assoc, List.singleton_append, List.cons_append, List.nil_append]
      · refine Evp.bind (l3Less_ev hu.1 hz.1 (unit_lead hz)) fun q hq => ?_
        subst hq; refine Evp.pos (by omega) ((ih (i + 1) _ false (by omega) (by simp; omega)).mono fun r hr => ?_)
        have e : linsert z (t[i] :: t.drop (i + 1)) = lless t[i] z :: linsert z (t.drop (i + 1)) := by
          rw [linsert, if_neg hc]
        rw [hr, e]; simp only [if_true, Bool.false_eq_true, if_false, List.map_cons, List.append_assoc, List.singleton_append, List.cons_append, List.nil_append]
/-- a row, told so that it begins with 1 -/
def zof (x : List Int) : List Int := lscale x (inv (gt x (llead x)))
theorem zof_unit {x : List Int} (hx : vok x = true) (hl : ¬ llead x < 0) : Unit1 (zof x) ∧ llead (zof x) = llead x := by
  have hne : ld (toW x) ≠ 4 := fun k => hl ((llead_neg hx).2 k)
  have hlt : ld (toW x) < 4 := by have := ld_le (toW x); omega
  have e := unitize_list hx hlt
  have hu : Unit1 (zof x) := ⟨vok_lscale (vok_iff.1 hx).1 _, by unfold zof; rw [e, unitize_ld]; exact hlt, by unfold zof; rw [e]; exact unitize_one hlt⟩; refine ⟨hu, ?_⟩; rw [llead_ld (vok_iff.1 hu.1).2 hu.2.1, llead_ld (vok_iff.1 hx).2 hlt]
  congr 1
  show ld (toW (zof x)) = _
  unfold zof; rw [e, unitize_ld]
theorem addL0_ev {t : List (List Int)} (ht : ∀ r ∈ t, Unit1 r) (hn : t.length ≤ 1000000) : ∀ (d i : Nat) (v : List Int), i + d = t.length → vok v = true →
    Evp (fun k => l3AddF.l0 k t v (i : Int)) (· = if llead ((t.drop i).foldl lless v) < 0 then none else some (linsert (zof ((t.drop i).foldl lless v)) t)) := by
  intro d
  induction d with
  | zero =>
    intro i v hi hv
    have hle := (vok_iff.1 hv).1
    refine Evp.step (fun k => by rw [l3AddF.l0]) (Evp.neg (by omega) ?_); rw [List.drop_eq_nil_of_le (by omega), List.foldl_nil]
    refine Evp.bind (l2Lead_ev (by omega)) fun s hs => ?_
    subst hs
    refine Evp.ite (fun hc => Evp.some' ?_) fun hc => ?_
    · rw [if_pos hc]
    · rw [if_neg hc]
      obtain ⟨hz, hzl⟩ := zof_unit hv hc
      obtain ⟨p, hp, e⟩ : ∃ p : Nat, p < 4 ∧ llead v = (p : Int) := by
        rcases llead_cases v with ⟨h, _⟩ | ⟨p, h1, h2, _⟩
        · rw [h] at hc; exact absurd (by decide) hc
        · exact ⟨p, by omega, h2⟩
      have ok1 := can_get (vok_iff.1 hv).2 p
      have oki := inv_range (v.getD p 0)
      refine Evp.pos (by omega) (Evp.pos (by omega) ?_)
      have erd : rd v (llead v) = v.getD p 0 := by rw [e, rd_nat]
      rw [erd]
      refine Evp.bind (spec_l1Inv_ev ok1) fun u hu => ?_
      subst hu
      refine Evp.bind (l2Scale_ev (vok_iff.1 hv).2 (ok_iff.2 ⟨by omega, by omega⟩) (by omega)) fun z hz2 => ?_
      have ez : z = zof v := by
        rw [hz2]; unfold zof; rw [e, gt_nat]
      subst ez; clear hz2
      have := addL1_ev ht hn hz t.length 0 [] false (by omega) (by simp)
      rw [hzl] at this
      refine this.mono fun r hr => ?_
      rw [hr]; simp
  | succ d ih =>
    intro i v hi hv
    have hi1 : i < t.length := by omega
    have hu := ht _ (List.getElem_mem hi1)
    refine Evp.step (fun k => by rw [l3AddF.l0]) (Evp.pos (by omega) (Evp.pos (by omega) ?_)); rw [rdL_nat, getD_row hi1, wrap_succ (by omega), List.drop_eq_getElem_cons hi1, List.foldl_cons]
    refine Evp.bind (l3Less_ev hv hu.1 (unit_lead hu)) fun q hq => ?_
    subst hq; exact ih (i + 1) _ (by omega) (vok_lless hv hu.1)
theorem add_ev {t : List (List Int)} (ht : ∀ r ∈ t, Unit1 r) (hn : t.length ≤ 1000000) {v : List Int} (hv : vok v = true) : Evp (fun k => l3AddF.l0 k t v 0) (fun r => r.getD t = ladd t v) := by
  refine (addL0_ev ht hn t.length 0 v (by omega) hv).mono fun r hr => ?_
  rw [hr, List.drop_zero]; unfold ladd
  by_cases h : llead (t.foldl lless v) < 0
  · rw [if_pos h, if_pos h]; rfl
  · rw [if_neg h, if_neg h]; rfl
theorem tidy_units {m : List (List Int)} (hm : ∀ r ∈ m, vok r = true) : ∀ r ∈ ltidy m, Unit1 r := unit_of_rref (ltidy_toW hm).2 (ltidy_rref hm)
theorem ltidy_snoc (m : List (List Int)) {i : Nat} (hi : i < m.length) : ltidy (m.take (i + 1)) = ladd (ltidy (m.take i)) m[i] := by
  unfold ltidy; rw [List.take_succ_eq_append_getElem hi, List.foldl_append]; rfl
theorem tidyF_ev {m : List (List Int)} (hm : ∀ r ∈ m, vok r = true) (hn : m.length ≤ 1000000) : Evp (fun k => l3TidyF.l0 k m [] 0) (· = ltidy m) := by
  have key : ∀ d i, i + d = m.length → Evp (fun k => l3TidyF.l0 k m (ltidy (m.take i)) (i : Int)) (· = ltidy m) := by
    intro d
    induction d with
    | zero =>
      intro i hi; refine Evp.step (fun k => by rw [l3TidyF.l0]) (Evp.neg (by omega) (Evp.some' ?_)); rw [List.take_of_length_le (by omega)]
    | succ d ih =>
      intro i hi
      have hi1 : i < m.length := by omega
      have hk := vok_take hm i
      refine Evp.step (fun k => by rw [l3TidyF.l0]) (Evp.pos (by omega) (Evp.pos (by omega) ?_)); rw [rdL_nat, getD_row hi1, wrap_succ (by omega)]
      refine Evp.bind (add_ev (tidy_units hk) (by have := ltidy_four hk; omega) (hm _ (List.getElem_mem hi1))) fun q hq => ?_
      rw [hq, ← ltidy_snoc m hi1]; exact ih (i + 1) (by omega)
  exact key m.length 0 (by omega)
theorem hasF_ev {m : List (List Int)} (hm : ∀ r ∈ m, vok r = true) (hn : m.length ≤ 1000000) {v : List Int} (hv : vok v = true) : Evp (fun k => l3HasF k m v) (· = lhas m v) := by
  unfold l3HasF
  refine Evp.bind (tidyF_ev hm hn) fun t ht => ?_
  subst ht
  refine Evp.bind (add_ev (tidy_units hm) (by have := ltidy_four hm; omega) hv) fun q hq => Evp.some' ?_
  rw [hq]; unfold lhas; rw [Bool.eq_iff_iff]; simp; omega
end Go.Proofs.Ytfgpffocieegdaa.Ls
namespace Go.Proofs.Ytfgpffocieegdaa.PA
open Go.RowKit Go.Proofs.YtfgpffocieegdaaW.PrintWords Go.Proofs.YtfgpffocieegdaaW.PrintLast Go.Proofs.YtfgpffocieegdaaW.PrintMore

def spec_l3Has.f (l0 : List (List Int)) (l1 : List Int) : Option Bool := if (l0.length ≤ 1000000 ∧ l0.all Lin.vok = true) ∧ Lin.vok l1 = true then some (Lin.lhas l0 l1) else none
theorem spec_l3Has.calls (A0 : Option Addr) (c0 : Nat) (l0 : List (List Int)) (A1 : Option Addr) (c1 : Nat) (l1 : List Int) (r : Bool) (w : World) (hr0 : Kd.C (Kd.slice 3 (Kd.int .i64)) w A0 l0.length l0) (hc0 : l0.length ≤ c0) (hr1 : Kd.C (Kd.int .i64) w A1 l1.length l1) (hc1 : l1.length ≤ c1) (h : spec_l3Has.f l0 l1 = some r) :
  Calls Try.prog 65 #[.slice A0 l0.length c0, .slice A1 l1.length c1] w fun e w' => e = .returned (.bool r) ∧ Below w.heap.size w w' := by
 unfold spec_l3Has.f at h
 split at h
 ·rename_i hh
  obtain rfl := Option.some.inj h
  obtain ⟨k, hk⟩ := Ls.Evp.rounds (Ls.hasF_ev (List.all_eq_true.1 hh.1.2) hh.1.1 hh.2); exact l3HasF.calls k A0 c0 l0 A1 c1 l1 _ w hr0 hc0 hr1 hc1 hk
 ·cases h
end Go.Proofs.Ytfgpffocieegdaa.PA
