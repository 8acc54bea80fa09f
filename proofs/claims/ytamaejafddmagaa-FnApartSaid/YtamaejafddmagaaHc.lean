import Derived.Test.YtamaejafddmagaaCa
/- impl.CodeApart's contract, for all numbers and lists. -/
set_option linter.unusedVariables false
set_option linter.unusedSimpArgs false
namespace Go.Proofs.Ytamaejafddmagaa.PA
open Go.RowKit Go.Proofs.YtamaejafddmagaaW.PrintWords Go.Proofs.YtamaejafddmagaaW.PrintLast Go.Proofs.YtamaejafddmagaaW.PrintMore

def impl_CodeApart.f (a0 : Int) (l1 : List Int) (l2 : List Int) : Option Int := some (Lc.lapart a0 l1 l2)
theorem impl_CodeApart.calls (a0 : Int) (A1 : Option Addr) (c1 : Nat) (l1 : List Int) (A2 : Option Addr) (c2 : Nat) (l2 : List Int) (r : Int) (w : World) (hr1 : Kd.C (Kd.int .i64) w A1 l1.length l1) (hc1 : l1.length ≤ c1) (hr2 : Kd.C (Kd.int .i64) w A2 l2.length l2) (hc2 : l2.length ≤ c2) (h : impl_CodeApart.f a0 l1 l2 = some r) :
  Calls Try.prog 39 #[.int .i64 a0, .slice A1 l1.length c1, .slice A2 l2.length c2] w fun e w' => e = .returned (.int .i64 r) ∧ Below w.heap.size w w' := by
 obtain rfl := Option.some.inj h
 obtain ⟨k1, hk1⟩ := Lc.Evp.rounds (Lc.impl_CodeAll_ev a0 l1)
 obtain ⟨k2, hk2⟩ := Lc.Evp.rounds (Lc.impl_CodeAll_ev a0 l2)
 rcases Lc.codeAll_two a0 l1 with hx | hx
 ·have e : Lc.lapart a0 l1 l2 = -1 := by unfold Lc.lapart; rw [if_pos (.inl hx)]
  rw [e]
  exact impl_CodeApart.calls1 a0 A1 c1 l1 A2 c2 l2 _ _ (-1) k1 k2 w hr1 hc1 hr2 hc2 hk1 (Lc.codeAll_ne a0 l1) hk2 (Lc.codeAll_ne a0 l2) (List.eq_nil_of_length_eq_zero hx)
 ·rcases Lc.codeAll_two a0 l2 with hy | hy
  ·have e : Lc.lapart a0 l1 l2 = -1 := by unfold Lc.lapart; rw [if_pos (.inr hy)]
   rw [e]
   exact impl_CodeApart.calls2 a0 A1 c1 l1 A2 c2 l2 _ _ (-1) k1 k2 w hr1 hc1 hr2 hc2 hk1 (Lc.codeAll_ne a0 l1) hk2 (Lc.codeAll_ne a0 l2) (by omega) (List.eq_nil_of_length_eq_zero hy)
  ·obtain ⟨kk, hkk⟩ := Lc.Evp.rounds (Lc.apartF_ev (x := Lin.codeAll a0 l1) (y := Lin.codeAll a0 l2) (by omega) (by omega))
   have e : Lc.lapart a0 l1 l2 = (Lc.lcountFrom (Lin.codeAll a0 l1) (Lin.codeAll a0 l2) 0 : Int) := by unfold Lc.lapart; rw [if_neg (by omega)]
   rw [e]
   exact impl_CodeApart.calls3 a0 A1 c1 l1 A2 c2 l2 _ _ _ k1 k2 w hr1 hc1 hr2 hc2 hk1 (Lc.codeAll_ne a0 l1) hk2 (Lc.codeAll_ne a0 l2) (by omega) (by omega) kk hkk
end Go.Proofs.Ytamaejafddmagaa.PA
