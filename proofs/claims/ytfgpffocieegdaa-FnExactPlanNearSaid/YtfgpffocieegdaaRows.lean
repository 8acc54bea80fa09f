/-
  No cell of these rows narrows 'for every input' (looked for: loops, veiled, ifaces, maps, wideKeys, modest, calm, conditions, laid).
  DERIVED. THE GIVEN ROWS OF THIS SEAT. 5 by the template 'for every input the law returns true; each argument reads behind the call as it read before'; 0 by the template 'total and deterministic' (their statements: YtfgpffocieegdaaTotals.lean).
  GIVEN WITH THE SEED: the statements are not yours to turn. If you find one false, say at which input.
  Laid BY PROGRAM, IN A SANDBOX (cutbox-rows.mjs): the forced cells as the released guide's own fill.sh prints them over the translation 256ac4536d523eee… (all of the seat's roots in one cut). By AI agents, Wed Nov 11 2026. No macro, syntax, notation, axiom, sorry.
-/
import Derived.Test.YtfgpffocieegdaaChecked
import GoSem.Claim
import GoSem.ClaimJoined
import GoSem.ClaimMapViews
import Derived.JoinedTies
import Derived.KernelRfl
namespace Go.Proofs.Ytfgpffocieegdaa
/- THE CELL 'sum', in the pinned program and in every row, IS THE sha256 OF THE DUMP (.gsa) THAT YtfgpffocieegdaaProg.lean LOADS. Nothing in Lean hashes anything: it is a label: what it is worth is what the hold of that sum in a sandbox is worth. -/
noncomputable def Try.pinned : Pinned := { name := "ytfgpffocieegdaa", sum := "256ac4536d523eeeac8c34ad934158b94b40a4f3ff61f426241c9751e090b91d", checked := Try.checked }
namespace Rows
def none {H : Type} : Left H := { results := [], args := [] }

/-- 'laws.FnExactPlanNear': WHATEVER THE INPUT: true; the input reads as it did. -/
def fnExactPlanNearSpec : ChangeSpec := { name := "fnExactPlanNear", fn := fun _ => fun
  | [d1, d2] => { results := [.lit (.bool true)], args := [d1, d2] }
  | _ => none }
def fnExactPlanNearRow : OpenClaim := { program := "ytfgpffocieegdaa", sum := "256ac4536d523eeeac8c34ad934158b94b40a4f3ff61f426241c9751e090b91d", func := "loop.example/keelson/laws.FnExactPlanNear", spec := "fnExactPlanNear", unfollowed := true, recurses := true, apart := false }
def FnExactPlanNearSaid : Prop := fnExactPlanNearRow.holds Try.pinned (OpenSpec.ofChange fnExactPlanNearSpec)

/-- ITS FALSE NEIGHBOUR: 'it returns false'. Refute it at one input. -/
def fnExactPlanNearWrong : ChangeSpec := { name := "fnExactPlanNear", fn := fun _ => fun
  | [d1, d2] => { results := [.lit (.bool false)], args := [d1, d2] }
  | _ => none }
def FnExactPlanNearWrongFalsely : Prop := fnExactPlanNearRow.holds Try.pinned (OpenSpec.ofChange fnExactPlanNearWrong)

/-- 'laws.FnPlanMore': WHATEVER THE INPUT: true; the input reads as it did. -/
def fnPlanMoreSpec : ChangeSpec := { name := "fnPlanMore", fn := fun _ => fun
  | [d1, d2] => { results := [.lit (.bool true)], args := [d1, d2] }
  | _ => none }
def fnPlanMoreRow : OpenClaim := { program := "ytfgpffocieegdaa", sum := "256ac4536d523eeeac8c34ad934158b94b40a4f3ff61f426241c9751e090b91d", func := "loop.example/keelson/laws.FnPlanMore", spec := "fnPlanMore", unfollowed := true, recurses := true, apart := false }
def FnPlanMoreSaid : Prop := fnPlanMoreRow.holds Try.pinned (OpenSpec.ofChange fnPlanMoreSpec)

/-- ITS FALSE NEIGHBOUR: 'it returns false'. Refute it at one input. -/
def fnPlanMoreWrong : ChangeSpec := { name := "fnPlanMore", fn := fun _ => fun
  | [d1, d2] => { results := [.lit (.bool false)], args := [d1, d2] }
  | _ => none }
def FnPlanMoreWrongFalsely : Prop := fnPlanMoreRow.holds Try.pinned (OpenSpec.ofChange fnPlanMoreWrong)

/-- 'laws.FnPlanOwn': WHATEVER THE INPUT: true; the input reads as it did. -/
def fnPlanOwnSpec : ChangeSpec := { name := "fnPlanOwn", fn := fun _ => fun
  | [d] => { results := [.lit (.bool true)], args := [d] }
  | _ => none }
def fnPlanOwnRow : OpenClaim := { program := "ytfgpffocieegdaa", sum := "256ac4536d523eeeac8c34ad934158b94b40a4f3ff61f426241c9751e090b91d", func := "loop.example/keelson/laws.FnPlanOwn", spec := "fnPlanOwn", unfollowed := true, recurses := true, apart := false }
def FnPlanOwnSaid : Prop := fnPlanOwnRow.holds Try.pinned (OpenSpec.ofChange fnPlanOwnSpec)

/-- ITS FALSE NEIGHBOUR: 'it returns false'. Refute it at one input. -/
def fnPlanOwnWrong : ChangeSpec := { name := "fnPlanOwn", fn := fun _ => fun
  | [d] => { results := [.lit (.bool false)], args := [d] }
  | _ => none }
def FnPlanOwnWrongFalsely : Prop := fnPlanOwnRow.holds Try.pinned (OpenSpec.ofChange fnPlanOwnWrong)

/-- 'laws.FnPlanNear': WHATEVER THE INPUT: true; the input reads as it did. -/
def fnPlanNearSpec : ChangeSpec := { name := "fnPlanNear", fn := fun _ => fun
  | [d] => { results := [.lit (.bool true)], args := [d] }
  | _ => none }
def fnPlanNearRow : OpenClaim := { program := "ytfgpffocieegdaa", sum := "256ac4536d523eeeac8c34ad934158b94b40a4f3ff61f426241c9751e090b91d", func := "loop.example/keelson/laws.FnPlanNear", spec := "fnPlanNear", unfollowed := true, recurses := true, apart := false }
def FnPlanNearSaid : Prop := fnPlanNearRow.holds Try.pinned (OpenSpec.ofChange fnPlanNearSpec)

/-- ITS FALSE NEIGHBOUR: 'it returns false'. Refute it at one input. -/
def fnPlanNearWrong : ChangeSpec := { name := "fnPlanNear", fn := fun _ => fun
  | [d] => { results := [.lit (.bool false)], args := [d] }
  | _ => none }
def FnPlanNearWrongFalsely : Prop := fnPlanNearRow.holds Try.pinned (OpenSpec.ofChange fnPlanNearWrong)

/-- 'laws.FnPlanOf': WHATEVER THE INPUT: true; the input reads as it did. -/
def fnPlanOfSpec : ChangeSpec := { name := "fnPlanOf", fn := fun _ => fun
  | [d] => { results := [.lit (.bool true)], args := [d] }
  | _ => none }
def fnPlanOfRow : OpenClaim := { program := "ytfgpffocieegdaa", sum := "256ac4536d523eeeac8c34ad934158b94b40a4f3ff61f426241c9751e090b91d", func := "loop.example/keelson/laws.FnPlanOf", spec := "fnPlanOf", unfollowed := true, recurses := true, apart := false }
def FnPlanOfSaid : Prop := fnPlanOfRow.holds Try.pinned (OpenSpec.ofChange fnPlanOfSpec)

/-- ITS FALSE NEIGHBOUR: 'it returns false'. Refute it at one input. -/
def fnPlanOfWrong : ChangeSpec := { name := "fnPlanOf", fn := fun _ => fun
  | [d] => { results := [.lit (.bool false)], args := [d] }
  | _ => none }
def FnPlanOfWrongFalsely : Prop := fnPlanOfRow.holds Try.pinned (OpenSpec.ofChange fnPlanOfWrong)

/- THE SECOND FORM. 'bulk': how many values and letters a reading holds, each counted each time it is reached (what is shared counts as often as it is met; a slice's spare places count too). A statement '..UptoSaid' is the law's where the arguments, and the package variables that the reading takes, are together of bulk at most 1048576: NARROWER than '..Said'. Prove '..Said' where nothing that the law and all that it calls make is longer than what came in: it says more and counts as full. Else prove '..UptoSaid'. A law counts once. -/
mutual
def uptoBulk {H : Type} : DataW H → Nat
  | .lit (.string bytes) => bytes.length + 1
  | .lit _ => 1
  | .nil => 1
  | .ptr d => uptoBulk d + 1
  | .slice elems spare => uptoBulkAll elems + uptoBulkAll spare + 1
  | .agg parts => uptoBulkAll parts + 1
  | .iface _ d => uptoBulk d + 1
  | .map entries => uptoBulkEntries entries + 1
  | .held _ => 1
def uptoBulkAll {H : Type} : List (DataW H) → Nat
  | [] => 0
  | d :: r => uptoBulk d + uptoBulkAll r
def uptoBulkEntries {H : Type} : List (Lit × DataW H) → Nat
  | [] => 0
  | x :: r => uptoBulkEntry x + uptoBulkEntries r
def uptoBulkEntry {H : Type} : Lit × DataW H → Nat
  | (.string bytes, d) => bytes.length + uptoBulk d + 1
  | (_, d) => uptoBulk d + 1
 end
def uptoSmall : (H : Type) → List (DataW H) → Bool := fun _ ds => decide (uptoBulkAll ds ≤ 1048576)
def OpenSpec.upto (s : _root_.Go.ChangeSpec) : _root_.Go.OpenSpec := { _root_.Go.OpenSpec.ofChange s with cond := some uptoSmall }

/-- 'laws.FnExactPlanNear', WHERE WHAT IT READS IS OF BULK AT MOST 1048576: true; the input reads as it did. -/
def fnExactPlanNearUptoRow : OpenClaim := { program := "ytfgpffocieegdaa", sum := "256ac4536d523eeeac8c34ad934158b94b40a4f3ff61f426241c9751e090b91d", func := "loop.example/keelson/laws.FnExactPlanNear", spec := "fnExactPlanNear", unfollowed := true, recurses := true, apart := false, narrowed := true }
def FnExactPlanNearUptoSaid : Prop := fnExactPlanNearUptoRow.holds Try.pinned (OpenSpec.upto fnExactPlanNearSpec)

/-- 'laws.FnPlanMore', WHERE WHAT IT READS IS OF BULK AT MOST 1048576: true; the input reads as it did. -/
def fnPlanMoreUptoRow : OpenClaim := { program := "ytfgpffocieegdaa", sum := "256ac4536d523eeeac8c34ad934158b94b40a4f3ff61f426241c9751e090b91d", func := "loop.example/keelson/laws.FnPlanMore", spec := "fnPlanMore", unfollowed := true, recurses := true, apart := false, narrowed := true }
def FnPlanMoreUptoSaid : Prop := fnPlanMoreUptoRow.holds Try.pinned (OpenSpec.upto fnPlanMoreSpec)

/-- 'laws.FnPlanOwn', WHERE WHAT IT READS IS OF BULK AT MOST 1048576: true; the input reads as it did. -/
def fnPlanOwnUptoRow : OpenClaim := { program := "ytfgpffocieegdaa", sum := "256ac4536d523eeeac8c34ad934158b94b40a4f3ff61f426241c9751e090b91d", func := "loop.example/keelson/laws.FnPlanOwn", spec := "fnPlanOwn", unfollowed := true, recurses := true, apart := false, narrowed := true }
def FnPlanOwnUptoSaid : Prop := fnPlanOwnUptoRow.holds Try.pinned (OpenSpec.upto fnPlanOwnSpec)

/-- 'laws.FnPlanNear', WHERE WHAT IT READS IS OF BULK AT MOST 1048576: true; the input reads as it did. -/
def fnPlanNearUptoRow : OpenClaim := { program := "ytfgpffocieegdaa", sum := "256ac4536d523eeeac8c34ad934158b94b40a4f3ff61f426241c9751e090b91d", func := "loop.example/keelson/laws.FnPlanNear", spec := "fnPlanNear", unfollowed := true, recurses := true, apart := false, narrowed := true }
def FnPlanNearUptoSaid : Prop := fnPlanNearUptoRow.holds Try.pinned (OpenSpec.upto fnPlanNearSpec)

/-- 'laws.FnPlanOf', WHERE WHAT IT READS IS OF BULK AT MOST 1048576: true; the input reads as it did. -/
def fnPlanOfUptoRow : OpenClaim := { program := "ytfgpffocieegdaa", sum := "256ac4536d523eeeac8c34ad934158b94b40a4f3ff61f426241c9751e090b91d", func := "loop.example/keelson/laws.FnPlanOf", spec := "fnPlanOf", unfollowed := true, recurses := true, apart := false, narrowed := true }
def FnPlanOfUptoSaid : Prop := fnPlanOfUptoRow.holds Try.pinned (OpenSpec.upto fnPlanOfSpec)

end Rows
end Go.Proofs.Ytfgpffocieegdaa
