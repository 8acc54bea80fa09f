/-
  No cell of these rows narrows 'for every input' (looked for: loops, veiled, ifaces, maps, wideKeys, modest, calm, conditions, laid).
  DERIVED. THE GIVEN ROWS OF THIS SEAT. 12 by the template 'for every input the law returns true; each argument reads behind the call as it read before'; 0 by the template 'total and deterministic' (their statements: YtophhcgecekenaaTotals.lean).
  GIVEN WITH THE SEED: the statements are not yours to turn. If you find one false, say at which input.
  Laid BY PROGRAM, IN A SANDBOX (cutbox-rows.mjs): the forced cells as the released guide's own fill.sh prints them over the translation 7bc55ac3a9cd9055… (all of the seat's roots in one cut). By AI agents, Wed Nov 11 2026. No macro, syntax, notation, axiom, sorry.
-/
import Derived.Test.YtophhcgecekenaaChecked
import GoSem.Claim
import GoSem.ClaimJoined
import GoSem.ClaimMapViews
import Derived.JoinedTies
import Derived.KernelRfl
namespace Go.Proofs.Ytophhcgecekenaa
/- THE CELL 'sum', in the pinned program and in every row, IS THE sha256 OF THE DUMP (.gsa) THAT YtophhcgecekenaaProg.lean LOADS. Nothing in Lean hashes anything: it is a label: what it is worth is what the hold of that sum in a sandbox is worth. -/
noncomputable def Try.pinned : Pinned := { name := "ytophhcgecekenaa", sum := "7bc55ac3a9cd9055b42713a5e43e79a08abf330f9a3766e97c34aa26dca1230d", checked := Try.checked }
namespace Rows
def none {H : Type} : Left H := { results := [], args := [] }

/-- 'laws.FnExactConstants': WHATEVER THE INPUT: true; the input reads as it did. -/
def fnExactConstantsSpec : ChangeSpec := { name := "fnExactConstants", fn := fun _ => fun
  | [] => { results := [.lit (.bool true)], args := [] }
  | _ => none }
def fnExactConstantsRow : OpenClaim := { program := "ytophhcgecekenaa", sum := "7bc55ac3a9cd9055b42713a5e43e79a08abf330f9a3766e97c34aa26dca1230d", func := "loop.example/keelson/laws.FnExactConstants", spec := "fnExactConstants", apart := false }
def FnExactConstantsSaid : Prop := fnExactConstantsRow.holds Try.pinned (OpenSpec.ofChange fnExactConstantsSpec)

/-- ITS FALSE NEIGHBOUR: 'it returns false'. Refute it at one input. -/
def fnExactConstantsWrong : ChangeSpec := { name := "fnExactConstants", fn := fun _ => fun
  | [] => { results := [.lit (.bool false)], args := [] }
  | _ => none }
def FnExactConstantsWrongFalsely : Prop := fnExactConstantsRow.holds Try.pinned (OpenSpec.ofChange fnExactConstantsWrong)

/-- 'laws.FnExactFieldOk': WHATEVER THE INPUT: true; the input reads as it did. -/
def fnExactFieldOkSpec : ChangeSpec := { name := "fnExactFieldOk", fn := fun _ => fun
  | [d] => { results := [.lit (.bool true)], args := [d] }
  | _ => none }
def fnExactFieldOkRow : OpenClaim := { program := "ytophhcgecekenaa", sum := "7bc55ac3a9cd9055b42713a5e43e79a08abf330f9a3766e97c34aa26dca1230d", func := "loop.example/keelson/laws.FnExactFieldOk", spec := "fnExactFieldOk", apart := false }
def FnExactFieldOkSaid : Prop := fnExactFieldOkRow.holds Try.pinned (OpenSpec.ofChange fnExactFieldOkSpec)

/-- ITS FALSE NEIGHBOUR: 'it returns false'. Refute it at one input. -/
def fnExactFieldOkWrong : ChangeSpec := { name := "fnExactFieldOk", fn := fun _ => fun
  | [d] => { results := [.lit (.bool false)], args := [d] }
  | _ => none }
def FnExactFieldOkWrongFalsely : Prop := fnExactFieldOkRow.holds Try.pinned (OpenSpec.ofChange fnExactFieldOkWrong)

/-- 'laws.FnExactFieldDif': WHATEVER THE INPUT: true; the input reads as it did. -/
def fnExactFieldDifSpec : ChangeSpec := { name := "fnExactFieldDif", fn := fun _ => fun
  | [d1, d2] => { results := [.lit (.bool true)], args := [d1, d2] }
  | _ => none }
def fnExactFieldDifRow : OpenClaim := { program := "ytophhcgecekenaa", sum := "7bc55ac3a9cd9055b42713a5e43e79a08abf330f9a3766e97c34aa26dca1230d", func := "loop.example/keelson/laws.FnExactFieldDif", spec := "fnExactFieldDif", apart := false }
def FnExactFieldDifSaid : Prop := fnExactFieldDifRow.holds Try.pinned (OpenSpec.ofChange fnExactFieldDifSpec)

/-- ITS FALSE NEIGHBOUR: 'it returns false'. Refute it at one input. -/
def fnExactFieldDifWrong : ChangeSpec := { name := "fnExactFieldDif", fn := fun _ => fun
  | [d1, d2] => { results := [.lit (.bool false)], args := [d1, d2] }
  | _ => none }
def FnExactFieldDifWrongFalsely : Prop := fnExactFieldDifRow.holds Try.pinned (OpenSpec.ofChange fnExactFieldDifWrong)

/-- 'laws.FnExactFieldMul': WHATEVER THE INPUT: true; the input reads as it did. -/
def fnExactFieldMulSpec : ChangeSpec := { name := "fnExactFieldMul", fn := fun _ => fun
  | [d1, d2] => { results := [.lit (.bool true)], args := [d1, d2] }
  | _ => none }
def fnExactFieldMulRow : OpenClaim := { program := "ytophhcgecekenaa", sum := "7bc55ac3a9cd9055b42713a5e43e79a08abf330f9a3766e97c34aa26dca1230d", func := "loop.example/keelson/laws.FnExactFieldMul", spec := "fnExactFieldMul", apart := false }
def FnExactFieldMulSaid : Prop := fnExactFieldMulRow.holds Try.pinned (OpenSpec.ofChange fnExactFieldMulSpec)

/-- ITS FALSE NEIGHBOUR: 'it returns false'. Refute it at one input. -/
def fnExactFieldMulWrong : ChangeSpec := { name := "fnExactFieldMul", fn := fun _ => fun
  | [d1, d2] => { results := [.lit (.bool false)], args := [d1, d2] }
  | _ => none }
def FnExactFieldMulWrongFalsely : Prop := fnExactFieldMulRow.holds Try.pinned (OpenSpec.ofChange fnExactFieldMulWrong)

/-- 'laws.FnExactFieldSum': WHATEVER THE INPUT: true; the input reads as it did. -/
def fnExactFieldSumSpec : ChangeSpec := { name := "fnExactFieldSum", fn := fun _ => fun
  | [d1, d2] => { results := [.lit (.bool true)], args := [d1, d2] }
  | _ => none }
def fnExactFieldSumRow : OpenClaim := { program := "ytophhcgecekenaa", sum := "7bc55ac3a9cd9055b42713a5e43e79a08abf330f9a3766e97c34aa26dca1230d", func := "loop.example/keelson/laws.FnExactFieldSum", spec := "fnExactFieldSum", apart := false }
def FnExactFieldSumSaid : Prop := fnExactFieldSumRow.holds Try.pinned (OpenSpec.ofChange fnExactFieldSumSpec)

/-- ITS FALSE NEIGHBOUR: 'it returns false'. Refute it at one input. -/
def fnExactFieldSumWrong : ChangeSpec := { name := "fnExactFieldSum", fn := fun _ => fun
  | [d1, d2] => { results := [.lit (.bool false)], args := [d1, d2] }
  | _ => none }
def FnExactFieldSumWrongFalsely : Prop := fnExactFieldSumRow.holds Try.pinned (OpenSpec.ofChange fnExactFieldSumWrong)

/-- 'laws.FnFieldOk': WHATEVER THE INPUT: true; the input reads as it did. -/
def fnFieldOkSpec : ChangeSpec := { name := "fnFieldOk", fn := fun _ => fun
  | [d] => { results := [.lit (.bool true)], args := [d] }
  | _ => none }
def fnFieldOkRow : OpenClaim := { program := "ytophhcgecekenaa", sum := "7bc55ac3a9cd9055b42713a5e43e79a08abf330f9a3766e97c34aa26dca1230d", func := "loop.example/keelson/laws.FnFieldOk", spec := "fnFieldOk", apart := false }
def FnFieldOkSaid : Prop := fnFieldOkRow.holds Try.pinned (OpenSpec.ofChange fnFieldOkSpec)

/-- ITS FALSE NEIGHBOUR: 'it returns false'. Refute it at one input. -/
def fnFieldOkWrong : ChangeSpec := { name := "fnFieldOk", fn := fun _ => fun
  | [d] => { results := [.lit (.bool false)], args := [d] }
  | _ => none }
def FnFieldOkWrongFalsely : Prop := fnFieldOkRow.holds Try.pinned (OpenSpec.ofChange fnFieldOkWrong)

/-- 'laws.FnExactFieldInv': WHATEVER THE INPUT: true; the input reads as it did. -/
def fnExactFieldInvSpec : ChangeSpec := { name := "fnExactFieldInv", fn := fun _ => fun
  | [d] => { results := [.lit (.bool true)], args := [d] }
  | _ => none }
def fnExactFieldInvRow : OpenClaim := { program := "ytophhcgecekenaa", sum := "7bc55ac3a9cd9055b42713a5e43e79a08abf330f9a3766e97c34aa26dca1230d", func := "loop.example/keelson/laws.FnExactFieldInv", spec := "fnExactFieldInv", apart := false }
def FnExactFieldInvSaid : Prop := fnExactFieldInvRow.holds Try.pinned (OpenSpec.ofChange fnExactFieldInvSpec)

/-- ITS FALSE NEIGHBOUR: 'it returns false'. Refute it at one input. -/
def fnExactFieldInvWrong : ChangeSpec := { name := "fnExactFieldInv", fn := fun _ => fun
  | [d] => { results := [.lit (.bool false)], args := [d] }
  | _ => none }
def FnExactFieldInvWrongFalsely : Prop := fnExactFieldInvRow.holds Try.pinned (OpenSpec.ofChange fnExactFieldInvWrong)

/-- 'laws.FnExactVecOk': WHATEVER THE INPUT: true; the input reads as it did. -/
def fnExactVecOkSpec : ChangeSpec := { name := "fnExactVecOk", fn := fun _ => fun
  | [d] => { results := [.lit (.bool true)], args := [d] }
  | _ => none }
def fnExactVecOkRow : OpenClaim := { program := "ytophhcgecekenaa", sum := "7bc55ac3a9cd9055b42713a5e43e79a08abf330f9a3766e97c34aa26dca1230d", func := "loop.example/keelson/laws.FnExactVecOk", spec := "fnExactVecOk", unfollowed := true, recurses := true, apart := false }
def FnExactVecOkSaid : Prop := fnExactVecOkRow.holds Try.pinned (OpenSpec.ofChange fnExactVecOkSpec)

/-- ITS FALSE NEIGHBOUR: 'it returns false'. Refute it at one input. -/
def fnExactVecOkWrong : ChangeSpec := { name := "fnExactVecOk", fn := fun _ => fun
  | [d] => { results := [.lit (.bool false)], args := [d] }
  | _ => none }
def FnExactVecOkWrongFalsely : Prop := fnExactVecOkRow.holds Try.pinned (OpenSpec.ofChange fnExactVecOkWrong)

/-- 'laws.FnExactVecUnit': WHATEVER THE INPUT: true; the input reads as it did. -/
def fnExactVecUnitSpec : ChangeSpec := { name := "fnExactVecUnit", fn := fun _ => fun
  | [d] => { results := [.lit (.bool true)], args := [d] }
  | _ => none }
def fnExactVecUnitRow : OpenClaim := { program := "ytophhcgecekenaa", sum := "7bc55ac3a9cd9055b42713a5e43e79a08abf330f9a3766e97c34aa26dca1230d", func := "loop.example/keelson/laws.FnExactVecUnit", spec := "fnExactVecUnit", apart := false }
def FnExactVecUnitSaid : Prop := fnExactVecUnitRow.holds Try.pinned (OpenSpec.ofChange fnExactVecUnitSpec)

/-- ITS FALSE NEIGHBOUR: 'it returns false'. Refute it at one input. -/
def fnExactVecUnitWrong : ChangeSpec := { name := "fnExactVecUnit", fn := fun _ => fun
  | [d] => { results := [.lit (.bool false)], args := [d] }
  | _ => none }
def FnExactVecUnitWrongFalsely : Prop := fnExactVecUnitRow.holds Try.pinned (OpenSpec.ofChange fnExactVecUnitWrong)

/-- 'laws.FnMulNone': WHATEVER THE INPUT: true; the input reads as it did. -/
def fnMulNoneSpec : ChangeSpec := { name := "fnMulNone", fn := fun _ => fun
  | [d] => { results := [.lit (.bool true)], args := [d] }
  | _ => none }
def fnMulNoneRow : OpenClaim := { program := "ytophhcgecekenaa", sum := "7bc55ac3a9cd9055b42713a5e43e79a08abf330f9a3766e97c34aa26dca1230d", func := "loop.example/keelson/laws.FnMulNone", spec := "fnMulNone", apart := false }
def FnMulNoneSaid : Prop := fnMulNoneRow.holds Try.pinned (OpenSpec.ofChange fnMulNoneSpec)

/-- ITS FALSE NEIGHBOUR: 'it returns false'. Refute it at one input. -/
def fnMulNoneWrong : ChangeSpec := { name := "fnMulNone", fn := fun _ => fun
  | [d] => { results := [.lit (.bool false)], args := [d] }
  | _ => none }
def FnMulNoneWrongFalsely : Prop := fnMulNoneRow.holds Try.pinned (OpenSpec.ofChange fnMulNoneWrong)

/-- 'laws.FnSumLaws': WHATEVER THE INPUT: true; the input reads as it did. -/
def fnSumLawsSpec : ChangeSpec := { name := "fnSumLaws", fn := fun _ => fun
  | [d1, d2] => { results := [.lit (.bool true)], args := [d1, d2] }
  | _ => none }
def fnSumLawsRow : OpenClaim := { program := "ytophhcgecekenaa", sum := "7bc55ac3a9cd9055b42713a5e43e79a08abf330f9a3766e97c34aa26dca1230d", func := "loop.example/keelson/laws.FnSumLaws", spec := "fnSumLaws", apart := false }
def FnSumLawsSaid : Prop := fnSumLawsRow.holds Try.pinned (OpenSpec.ofChange fnSumLawsSpec)

/-- ITS FALSE NEIGHBOUR: 'it returns false'. Refute it at one input. -/
def fnSumLawsWrong : ChangeSpec := { name := "fnSumLaws", fn := fun _ => fun
  | [d1, d2] => { results := [.lit (.bool false)], args := [d1, d2] }
  | _ => none }
def FnSumLawsWrongFalsely : Prop := fnSumLawsRow.holds Try.pinned (OpenSpec.ofChange fnSumLawsWrong)

/-- 'laws.FnSumDif': WHATEVER THE INPUT: true; the input reads as it did. -/
def fnSumDifSpec : ChangeSpec := { name := "fnSumDif", fn := fun _ => fun
  | [d] => { results := [.lit (.bool true)], args := [d] }
  | _ => none }
def fnSumDifRow : OpenClaim := { program := "ytophhcgecekenaa", sum := "7bc55ac3a9cd9055b42713a5e43e79a08abf330f9a3766e97c34aa26dca1230d", func := "loop.example/keelson/laws.FnSumDif", spec := "fnSumDif", apart := false }
def FnSumDifSaid : Prop := fnSumDifRow.holds Try.pinned (OpenSpec.ofChange fnSumDifSpec)

/-- ITS FALSE NEIGHBOUR: 'it returns false'. Refute it at one input. -/
def fnSumDifWrong : ChangeSpec := { name := "fnSumDif", fn := fun _ => fun
  | [d] => { results := [.lit (.bool false)], args := [d] }
  | _ => none }
def FnSumDifWrongFalsely : Prop := fnSumDifRow.holds Try.pinned (OpenSpec.ofChange fnSumDifWrong)

/- THE SECOND FORM. 'bulk': how many values and letters a reading holds, each counted each time it is reached (what is shared counts as often as it is met; a slice's spare places count too). A statement '..UptoSaid' is the law's where the arguments, and the package variables that the reading takes, are together of bulk at most 1048576: NARROWER than '..Said'. Prove '..Said' where nothing that the law and all that it calls make is longer than what came in: it says more and counts as full. Else prove '..UptoSaid'. A law counts once. -/
mutual
def uptoBulk {H : Type} : DataW H → Nat
  | .lit (.string bytes) => bytes.length + 1
  | .lit _ => 1
  | .nil => 1
  | .ptr d => uptoBulk d + 1
  | .slice elems spare => uptoBulkAll elems + uptoBulkAll spare + 1
  | .agg parts => uptoBulkAll parts + 1
  | .iface _ d => uptoBulk d + 1
  | .map entries => uptoBulkEntries entries + 1
  | .held _ => 1
def uptoBulkAll {H : Type} : List (DataW H) → Nat
  | [] => 0
  | d :: r => uptoBulk d + uptoBulkAll r
def uptoBulkEntries {H : Type} : List (Lit × DataW H) → Nat
  | [] => 0
  | x :: r => uptoBulkEntry x + uptoBulkEntries r
def uptoBulkEntry {H : Type} : Lit × DataW H → Nat
  | (.string bytes, d) => bytes.length + uptoBulk d + 1
  | (_, d) => uptoBulk d + 1
 end
def uptoSmall : (H : Type) → List (DataW H) → Bool := fun _ ds => decide (uptoBulkAll ds ≤ 1048576)
def OpenSpec.upto (s : _root_.Go.ChangeSpec) : _root_.Go.OpenSpec := { _root_.Go.OpenSpec.ofChange s with cond := some uptoSmall }

/-- 'laws.FnExactConstants', WHERE WHAT IT READS IS OF BULK AT MOST 1048576: true; the input reads as it did. -/
def fnExactConstantsUptoRow : OpenClaim := { program := "ytophhcgecekenaa", sum := "7bc55ac3a9cd9055b42713a5e43e79a08abf330f9a3766e97c34aa26dca1230d", func := "loop.example/keelson/laws.FnExactConstants", spec := "fnExactConstants", apart := false, narrowed := true }
def FnExactConstantsUptoSaid : Prop := fnExactConstantsUptoRow.holds Try.pinned (OpenSpec.upto fnExactConstantsSpec)

/-- 'laws.FnExactFieldOk', WHERE WHAT IT READS IS OF BULK AT MOST 1048576: true; the input reads as it did. -/
def fnExactFieldOkUptoRow : OpenClaim := { program := "ytophhcgecekenaa", sum := "7bc55ac3a9cd9055b42713a5e43e79a08abf330f9a3766e97c34aa26dca1230d", func := "loop.example/keelson/laws.FnExactFieldOk", spec := "fnExactFieldOk", apart := false, narrowed := true }
def FnExactFieldOkUptoSaid : Prop := fnExactFieldOkUptoRow.holds Try.pinned (OpenSpec.upto fnExactFieldOkSpec)

/-- 'laws.FnExactFieldDif', WHERE WHAT IT READS IS OF BULK AT MOST 1048576: true; the input reads as it did. -/
def fnExactFieldDifUptoRow : OpenClaim := { program := "ytophhcgecekenaa", sum := "7bc55ac3a9cd9055b42713a5e43e79a08abf330f9a3766e97c34aa26dca1230d", func := "loop.example/keelson/laws.FnExactFieldDif", spec := "fnExactFieldDif", apart := false, narrowed := true }
def FnExactFieldDifUptoSaid : Prop := fnExactFieldDifUptoRow.holds Try.pinned (OpenSpec.upto fnExactFieldDifSpec)

/-- 'laws.FnExactFieldMul', WHERE WHAT IT READS IS OF BULK AT MOST 1048576: true; the input reads as it did. -/
def fnExactFieldMulUptoRow : OpenClaim := { program := "ytophhcgecekenaa", sum := "7bc55ac3a9cd9055b42713a5e43e79a08abf330f9a3766e97c34aa26dca1230d", func := "loop.example/keelson/laws.FnExactFieldMul", spec := "fnExactFieldMul", apart := false, narrowed := true }
def FnExactFieldMulUptoSaid : Prop := fnExactFieldMulUptoRow.holds Try.pinned (OpenSpec.upto fnExactFieldMulSpec)

/-- 'laws.FnExactFieldSum', WHERE WHAT IT READS IS OF BULK AT MOST 1048576: true; the input reads as it did. -/
def fnExactFieldSumUptoRow : OpenClaim := { program := "ytophhcgecekenaa", sum := "7bc55ac3a9cd9055b42713a5e43e79a08abf330f9a3766e97c34aa26dca1230d", func := "loop.example/keelson/laws.FnExactFieldSum", spec := "fnExactFieldSum", apart := false, narrowed := true }
def FnExactFieldSumUptoSaid : Prop := fnExactFieldSumUptoRow.holds Try.pinned (OpenSpec.upto fnExactFieldSumSpec)

/-- 'laws.FnFieldOk', WHERE WHAT IT READS IS OF BULK AT MOST 1048576: true; the input reads as it did. -/
def fnFieldOkUptoRow : OpenClaim := { program := "ytophhcgecekenaa", sum := "7bc55ac3a9cd9055b42713a5e43e79a08abf330f9a3766e97c34aa26dca1230d", func := "loop.example/keelson/laws.FnFieldOk", spec := "fnFieldOk", apart := false, narrowed := true }
def FnFieldOkUptoSaid : Prop := fnFieldOkUptoRow.holds Try.pinned (OpenSpec.upto fnFieldOkSpec)

/-- 'laws.FnExactFieldInv', WHERE WHAT IT READS IS OF BULK AT MOST 1048576: true; the input reads as it did. -/
def fnExactFieldInvUptoRow : OpenClaim := { program := "ytophhcgecekenaa", sum := "7bc55ac3a9cd9055b42713a5e43e79a08abf330f9a3766e97c34aa26dca1230d", func := "loop.example/keelson/laws.FnExactFieldInv", spec := "fnExactFieldInv", apart := false, narrowed := true }
def FnExactFieldInvUptoSaid : Prop := fnExactFieldInvUptoRow.holds Try.pinned (OpenSpec.upto fnExactFieldInvSpec)

/-- 'laws.FnExactVecOk', WHERE WHAT IT READS IS OF BULK AT MOST 1048576: true; the input reads as it did. -/
def fnExactVecOkUptoRow : OpenClaim := { program := "ytophhcgecekenaa", sum := "7bc55ac3a9cd9055b42713a5e43e79a08abf330f9a3766e97c34aa26dca1230d", func := "loop.example/keelson/laws.FnExactVecOk", spec := "fnExactVecOk", unfollowed := true, recurses := true, apart := false, narrowed := true }
def FnExactVecOkUptoSaid : Prop := fnExactVecOkUptoRow.holds Try.pinned (OpenSpec.upto fnExactVecOkSpec)

/-- 'laws.FnExactVecUnit', WHERE WHAT IT READS IS OF BULK AT MOST 1048576: true; the input reads as it did. -/
def fnExactVecUnitUptoRow : OpenClaim := { program := "ytophhcgecekenaa", sum := "7bc55ac3a9cd9055b42713a5e43e79a08abf330f9a3766e97c34aa26dca1230d", func := "loop.example/keelson/laws.FnExactVecUnit", spec := "fnExactVecUnit", apart := false, narrowed := true }
def FnExactVecUnitUptoSaid : Prop := fnExactVecUnitUptoRow.holds Try.pinned (OpenSpec.upto fnExactVecUnitSpec)

/-- 'laws.FnMulNone', WHERE WHAT IT READS IS OF BULK AT MOST 1048576: true; the input reads as it did. -/
def fnMulNoneUptoRow : OpenClaim := { program := "ytophhcgecekenaa", sum := "7bc55ac3a9cd9055b42713a5e43e79a08abf330f9a3766e97c34aa26dca1230d", func := "loop.example/keelson/laws.FnMulNone", spec := "fnMulNone", apart := false, narrowed := true }
def FnMulNoneUptoSaid : Prop := fnMulNoneUptoRow.holds Try.pinned (OpenSpec.upto fnMulNoneSpec)

/-- 'laws.FnSumLaws', WHERE WHAT IT READS IS OF BULK AT MOST 1048576: true; the input reads as it did. -/
def fnSumLawsUptoRow : OpenClaim := { program := "ytophhcgecekenaa", sum := "7bc55ac3a9cd9055b42713a5e43e79a08abf330f9a3766e97c34aa26dca1230d", func := "loop.example/keelson/laws.FnSumLaws", spec := "fnSumLaws", apart := false, narrowed := true }
def FnSumLawsUptoSaid : Prop := fnSumLawsUptoRow.holds Try.pinned (OpenSpec.upto fnSumLawsSpec)

/-- 'laws.FnSumDif', WHERE WHAT IT READS IS OF BULK AT MOST 1048576: true; the input reads as it did. -/
def fnSumDifUptoRow : OpenClaim := { program := "ytophhcgecekenaa", sum := "7bc55ac3a9cd9055b42713a5e43e79a08abf330f9a3766e97c34aa26dca1230d", func := "loop.example/keelson/laws.FnSumDif", spec := "fnSumDif", apart := false, narrowed := true }
def FnSumDifUptoSaid : Prop := fnSumDifUptoRow.holds Try.pinned (OpenSpec.upto fnSumDifSpec)

end Rows
end Go.Proofs.Ytophhcgecekenaa
