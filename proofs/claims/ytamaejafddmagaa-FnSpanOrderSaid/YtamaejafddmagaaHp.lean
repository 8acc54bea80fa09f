import Derived.Test.YtamaejafddmagaaPAx0
/- slices.Clip: what it hands back is the same row without spare. -/
set_option linter.unusedVariables false
namespace Go.Proofs.Ytamaejafddmagaa.PA
open Go.RowKit Go.Proofs.Ytamaejafddmagaa.PA Go.Proofs.YtamaejafddmagaaW.PrintWords Go.Proofs.YtamaejafddmagaaW.PrintLast Go.Proofs.YtamaejafddmagaaW.PrintMore

/-- a row without spare -/
def clip : Value → Value
  | .slice A n _ => .slice A n n
  | v => v
theorem clip_slice (A : Option Addr) (n c : Nat) : clip (.slice A n c) = .slice A n n := rfl
set_option maxHeartbeats 8000000 in
set_option maxRecDepth 100000 in
theorem slices_Clip_rows.calls (A : Option Addr) (n c : Nat) (hc : n ≤ c) (w : World) :
  Calls Try.prog 56 #[.slice A n c] w fun e w' => e = .returned (.slice A n n) ∧ Below w.heap.size w w' := by
 have HB := Aside0.mk (Below.refl w.heap.size w)
 go_enter Try.func56, Try.ntmps56
 go_wp2
 go_ret
 exact ⟨rfl, by repeat (first | (with_reducible first | exact HB.out | apply below_alloc | apply pw_below_drewN | apply below_drew1) | exact HB.out)⟩
end Go.Proofs.Ytamaejafddmagaa.PA
