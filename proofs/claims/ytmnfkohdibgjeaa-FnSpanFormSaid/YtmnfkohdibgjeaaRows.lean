/-
  No cell of these rows narrows 'for every input' (looked for: loops, veiled, ifaces, maps, wideKeys, modest, calm, conditions, laid).
  DERIVED. THE GIVEN ROWS OF THIS SEAT. 12 by the template 'for every input the law returns true; each argument reads behind the call as it read before'; 0 by the template 'total and deterministic' (their statements: YtmnfkohdibgjeaaTotals.lean).
  GIVEN WITH THE SEED: the statements are not yours to turn. If you find one false, say at which input.
  Laid BY PROGRAM, IN A SANDBOX (cutbox-rows.mjs): the forced cells as the released guide's own fill.sh prints them over the translation d8212faef5b9b370… (all of the seat's roots in one cut). By AI agents, Wed Nov 11 2026. No macro, syntax, notation, axiom, sorry.
-/
import Derived.Test.YtmnfkohdibgjeaaChecked
import GoSem.Claim
import GoSem.ClaimJoined
import GoSem.ClaimMapViews
import Derived.JoinedTies
import Derived.KernelRfl
namespace Go.Proofs.Ytmnfkohdibgjeaa
/- THE CELL 'sum', in the pinned program and in every row, IS THE sha256 OF THE DUMP (.gsa) THAT YtmnfkohdibgjeaaProg.lean LOADS. Nothing in Lean hashes anything: it is a label: what it is worth is what the hold of that sum in a sandbox is worth. -/
noncomputable def Try.pinned : Pinned := { name := "ytmnfkohdibgjeaa", sum := "d8212faef5b9b370ee15978c82090c3abab654fbb06f3c2b0756188343c1e5d9", checked := Try.checked }
namespace Rows
def none {H : Type} : Left H := { results := [], args := [] }

/-- 'laws.FnVecDot': WHATEVER THE INPUT: true; the input reads as it did. -/
def fnVecDotSpec : ChangeSpec := { name := "fnVecDot", fn := fun _ => fun
  | [d1, d2] => { results := [.lit (.bool true)], args := [d1, d2] }
  | _ => none }
def fnVecDotRow : OpenClaim := { program := "ytmnfkohdibgjeaa", sum := "d8212faef5b9b370ee15978c82090c3abab654fbb06f3c2b0756188343c1e5d9", func := "loop.example/keelson/laws.FnVecDot", spec := "fnVecDot", unfollowed := true, recurses := true, apart := false }
def FnVecDotSaid : Prop := fnVecDotRow.holds Try.pinned (OpenSpec.ofChange fnVecDotSpec)

/-- ITS FALSE NEIGHBOUR: 'it returns false'. Refute it at one input. -/
def fnVecDotWrong : ChangeSpec := { name := "fnVecDot", fn := fun _ => fun
  | [d1, d2] => { results := [.lit (.bool false)], args := [d1, d2] }
  | _ => none }
def FnVecDotWrongFalsely : Prop := fnVecDotRow.holds Try.pinned (OpenSpec.ofChange fnVecDotWrong)

/-- 'laws.FnVecScale': WHATEVER THE INPUT: true; the input reads as it did. -/
def fnVecScaleSpec : ChangeSpec := { name := "fnVecScale", fn := fun _ => fun
  | [d1, d2] => { results := [.lit (.bool true)], args := [d1, d2] }
  | _ => none }
def fnVecScaleRow : OpenClaim := { program := "ytmnfkohdibgjeaa", sum := "d8212faef5b9b370ee15978c82090c3abab654fbb06f3c2b0756188343c1e5d9", func := "loop.example/keelson/laws.FnVecScale", spec := "fnVecScale", unfollowed := true, recurses := true, apart := false }
def FnVecScaleSaid : Prop := fnVecScaleRow.holds Try.pinned (OpenSpec.ofChange fnVecScaleSpec)

/-- ITS FALSE NEIGHBOUR: 'it returns false'. Refute it at one input. -/
def fnVecScaleWrong : ChangeSpec := { name := "fnVecScale", fn := fun _ => fun
  | [d1, d2] => { results := [.lit (.bool false)], args := [d1, d2] }
  | _ => none }
def FnVecScaleWrongFalsely : Prop := fnVecScaleRow.holds Try.pinned (OpenSpec.ofChange fnVecScaleWrong)

/-- 'laws.FnExactCodeRow': WHATEVER THE INPUT: true; the input reads as it did. -/
def fnExactCodeRowSpec : ChangeSpec := { name := "fnExactCodeRow", fn := fun _ => fun
  | [d1, d2] => { results := [.lit (.bool true)], args := [d1, d2] }
  | _ => none }
def fnExactCodeRowRow : OpenClaim := { program := "ytmnfkohdibgjeaa", sum := "d8212faef5b9b370ee15978c82090c3abab654fbb06f3c2b0756188343c1e5d9", func := "loop.example/keelson/laws.FnExactCodeRow", spec := "fnExactCodeRow", apart := false }
def FnExactCodeRowSaid : Prop := fnExactCodeRowRow.holds Try.pinned (OpenSpec.ofChange fnExactCodeRowSpec)

/-- ITS FALSE NEIGHBOUR: 'it returns false'. Refute it at one input. -/
def fnExactCodeRowWrong : ChangeSpec := { name := "fnExactCodeRow", fn := fun _ => fun
  | [d1, d2] => { results := [.lit (.bool false)], args := [d1, d2] }
  | _ => none }
def FnExactCodeRowWrongFalsely : Prop := fnExactCodeRowRow.holds Try.pinned (OpenSpec.ofChange fnExactCodeRowWrong)

/-- 'laws.FnCodeRow': WHATEVER THE INPUT: true; the input reads as it did. -/
def fnCodeRowSpec : ChangeSpec := { name := "fnCodeRow", fn := fun _ => fun
  | [d] => { results := [.lit (.bool true)], args := [d] }
  | _ => none }
def fnCodeRowRow : OpenClaim := { program := "ytmnfkohdibgjeaa", sum := "d8212faef5b9b370ee15978c82090c3abab654fbb06f3c2b0756188343c1e5d9", func := "loop.example/keelson/laws.FnCodeRow", spec := "fnCodeRow", unfollowed := true, recurses := true, apart := false }
def FnCodeRowSaid : Prop := fnCodeRowRow.holds Try.pinned (OpenSpec.ofChange fnCodeRowSpec)

/-- ITS FALSE NEIGHBOUR: 'it returns false'. Refute it at one input. -/
def fnCodeRowWrong : ChangeSpec := { name := "fnCodeRow", fn := fun _ => fun
  | [d] => { results := [.lit (.bool false)], args := [d] }
  | _ => none }
def FnCodeRowWrongFalsely : Prop := fnCodeRowRow.holds Try.pinned (OpenSpec.ofChange fnCodeRowWrong)

/-- 'laws.FnExactCodeAll': WHATEVER THE INPUT: true; the input reads as it did. -/
def fnExactCodeAllSpec : ChangeSpec := { name := "fnExactCodeAll", fn := fun _ => fun
  | [d1, d2] => { results := [.lit (.bool true)], args := [d1, d2] }
  | _ => none }
def fnExactCodeAllRow : OpenClaim := { program := "ytmnfkohdibgjeaa", sum := "d8212faef5b9b370ee15978c82090c3abab654fbb06f3c2b0756188343c1e5d9", func := "loop.example/keelson/laws.FnExactCodeAll", spec := "fnExactCodeAll", unfollowed := true, recurses := true, apart := false }
def FnExactCodeAllSaid : Prop := fnExactCodeAllRow.holds Try.pinned (OpenSpec.ofChange fnExactCodeAllSpec)

/-- ITS FALSE NEIGHBOUR: 'it returns false'. Refute it at one input. -/
def fnExactCodeAllWrong : ChangeSpec := { name := "fnExactCodeAll", fn := fun _ => fun
  | [d1, d2] => { results := [.lit (.bool false)], args := [d1, d2] }
  | _ => none }
def FnExactCodeAllWrongFalsely : Prop := fnExactCodeAllRow.holds Try.pinned (OpenSpec.ofChange fnExactCodeAllWrong)

/-- 'laws.FnExactCodeApart': WHATEVER THE INPUT: true; the input reads as it did. -/
def fnExactCodeApartSpec : ChangeSpec := { name := "fnExactCodeApart", fn := fun _ => fun
  | [d1, d2, d3] => { results := [.lit (.bool true)], args := [d1, d2, d3] }
  | _ => none }
def fnExactCodeApartRow : OpenClaim := { program := "ytmnfkohdibgjeaa", sum := "d8212faef5b9b370ee15978c82090c3abab654fbb06f3c2b0756188343c1e5d9", func := "loop.example/keelson/laws.FnExactCodeApart", spec := "fnExactCodeApart", unfollowed := true, recurses := true, apart := false }
def FnExactCodeApartSaid : Prop := fnExactCodeApartRow.holds Try.pinned (OpenSpec.ofChange fnExactCodeApartSpec)

/-- ITS FALSE NEIGHBOUR: 'it returns false'. Refute it at one input. -/
def fnExactCodeApartWrong : ChangeSpec := { name := "fnExactCodeApart", fn := fun _ => fun
  | [d1, d2, d3] => { results := [.lit (.bool false)], args := [d1, d2, d3] }
  | _ => none }
def FnExactCodeApartWrongFalsely : Prop := fnExactCodeApartRow.holds Try.pinned (OpenSpec.ofChange fnExactCodeApartWrong)

/-- 'laws.FnCodeData': WHATEVER THE INPUT: true; the input reads as it did. -/
def fnCodeDataSpec : ChangeSpec := { name := "fnCodeData", fn := fun _ => fun
  | [d] => { results := [.lit (.bool true)], args := [d] }
  | _ => none }
def fnCodeDataRow : OpenClaim := { program := "ytmnfkohdibgjeaa", sum := "d8212faef5b9b370ee15978c82090c3abab654fbb06f3c2b0756188343c1e5d9", func := "loop.example/keelson/laws.FnCodeData", spec := "fnCodeData", unfollowed := true, recurses := true, apart := false }
def FnCodeDataSaid : Prop := fnCodeDataRow.holds Try.pinned (OpenSpec.ofChange fnCodeDataSpec)

/-- ITS FALSE NEIGHBOUR: 'it returns false'. Refute it at one input. -/
def fnCodeDataWrong : ChangeSpec := { name := "fnCodeData", fn := fun _ => fun
  | [d] => { results := [.lit (.bool false)], args := [d] }
  | _ => none }
def FnCodeDataWrongFalsely : Prop := fnCodeDataRow.holds Try.pinned (OpenSpec.ofChange fnCodeDataWrong)

/-- 'laws.FnCodeScale': WHATEVER THE INPUT: true; the input reads as it did. -/
def fnCodeScaleSpec : ChangeSpec := { name := "fnCodeScale", fn := fun _ => fun
  | [d1, d2] => { results := [.lit (.bool true)], args := [d1, d2] }
  | _ => none }
def fnCodeScaleRow : OpenClaim := { program := "ytmnfkohdibgjeaa", sum := "d8212faef5b9b370ee15978c82090c3abab654fbb06f3c2b0756188343c1e5d9", func := "loop.example/keelson/laws.FnCodeScale", spec := "fnCodeScale", unfollowed := true, recurses := true, apart := false }
def FnCodeScaleSaid : Prop := fnCodeScaleRow.holds Try.pinned (OpenSpec.ofChange fnCodeScaleSpec)

/-- ITS FALSE NEIGHBOUR: 'it returns false'. Refute it at one input. -/
def fnCodeScaleWrong : ChangeSpec := { name := "fnCodeScale", fn := fun _ => fun
  | [d1, d2] => { results := [.lit (.bool false)], args := [d1, d2] }
  | _ => none }
def FnCodeScaleWrongFalsely : Prop := fnCodeScaleRow.holds Try.pinned (OpenSpec.ofChange fnCodeScaleWrong)

/-- 'laws.FnCodeAll': WHATEVER THE INPUT: true; the input reads as it did. -/
def fnCodeAllSpec : ChangeSpec := { name := "fnCodeAll", fn := fun _ => fun
  | [d1, d2] => { results := [.lit (.bool true)], args := [d1, d2] }
  | _ => none }
def fnCodeAllRow : OpenClaim := { program := "ytmnfkohdibgjeaa", sum := "d8212faef5b9b370ee15978c82090c3abab654fbb06f3c2b0756188343c1e5d9", func := "loop.example/keelson/laws.FnCodeAll", spec := "fnCodeAll", unfollowed := true, recurses := true, apart := false }
def FnCodeAllSaid : Prop := fnCodeAllRow.holds Try.pinned (OpenSpec.ofChange fnCodeAllSpec)

/-- ITS FALSE NEIGHBOUR: 'it returns false'. Refute it at one input. -/
def fnCodeAllWrong : ChangeSpec := { name := "fnCodeAll", fn := fun _ => fun
  | [d1, d2] => { results := [.lit (.bool false)], args := [d1, d2] }
  | _ => none }
def FnCodeAllWrongFalsely : Prop := fnCodeAllRow.holds Try.pinned (OpenSpec.ofChange fnCodeAllWrong)

/-- 'laws.FnExactSpanOk': WHATEVER THE INPUT: true; the input reads as it did. -/
def fnExactSpanOkSpec : ChangeSpec := { name := "fnExactSpanOk", fn := fun _ => fun
  | [d] => { results := [.lit (.bool true)], args := [d] }
  | _ => none }
def fnExactSpanOkRow : OpenClaim := { program := "ytmnfkohdibgjeaa", sum := "d8212faef5b9b370ee15978c82090c3abab654fbb06f3c2b0756188343c1e5d9", func := "loop.example/keelson/laws.FnExactSpanOk", spec := "fnExactSpanOk", unfollowed := true, recurses := true, apart := false }
def FnExactSpanOkSaid : Prop := fnExactSpanOkRow.holds Try.pinned (OpenSpec.ofChange fnExactSpanOkSpec)

/-- ITS FALSE NEIGHBOUR: 'it returns false'. Refute it at one input. -/
def fnExactSpanOkWrong : ChangeSpec := { name := "fnExactSpanOk", fn := fun _ => fun
  | [d] => { results := [.lit (.bool false)], args := [d] }
  | _ => none }
def FnExactSpanOkWrongFalsely : Prop := fnExactSpanOkRow.holds Try.pinned (OpenSpec.ofChange fnExactSpanOkWrong)

/-- 'laws.FnSpanForm': WHATEVER THE INPUT: true; the input reads as it did. -/
def fnSpanFormSpec : ChangeSpec := { name := "fnSpanForm", fn := fun _ => fun
  | [d1, d2] => { results := [.lit (.bool true)], args := [d1, d2] }
  | _ => none }
def fnSpanFormRow : OpenClaim := { program := "ytmnfkohdibgjeaa", sum := "d8212faef5b9b370ee15978c82090c3abab654fbb06f3c2b0756188343c1e5d9", func := "loop.example/keelson/laws.FnSpanForm", spec := "fnSpanForm", unfollowed := true, recurses := true, apart := false }
def FnSpanFormSaid : Prop := fnSpanFormRow.holds Try.pinned (OpenSpec.ofChange fnSpanFormSpec)

/-- ITS FALSE NEIGHBOUR: 'it returns false'. Refute it at one input. -/
def fnSpanFormWrong : ChangeSpec := { name := "fnSpanForm", fn := fun _ => fun
  | [d1, d2] => { results := [.lit (.bool false)], args := [d1, d2] }
  | _ => none }
def FnSpanFormWrongFalsely : Prop := fnSpanFormRow.holds Try.pinned (OpenSpec.ofChange fnSpanFormWrong)

/-- 'laws.FnExactPlanOk': WHATEVER THE INPUT: true; the input reads as it did. -/
def fnExactPlanOkSpec : ChangeSpec := { name := "fnExactPlanOk", fn := fun _ => fun
  | [d1, d2] => { results := [.lit (.bool true)], args := [d1, d2] }
  | _ => none }
def fnExactPlanOkRow : OpenClaim := { program := "ytmnfkohdibgjeaa", sum := "d8212faef5b9b370ee15978c82090c3abab654fbb06f3c2b0756188343c1e5d9", func := "loop.example/keelson/laws.FnExactPlanOk", spec := "fnExactPlanOk", apart := false }
def FnExactPlanOkSaid : Prop := fnExactPlanOkRow.holds Try.pinned (OpenSpec.ofChange fnExactPlanOkSpec)

/-- ITS FALSE NEIGHBOUR: 'it returns false'. Refute it at one input. -/
def fnExactPlanOkWrong : ChangeSpec := { name := "fnExactPlanOk", fn := fun _ => fun
  | [d1, d2] => { results := [.lit (.bool false)], args := [d1, d2] }
  | _ => none }
def FnExactPlanOkWrongFalsely : Prop := fnExactPlanOkRow.holds Try.pinned (OpenSpec.ofChange fnExactPlanOkWrong)

/- THE SECOND FORM. 'bulk': how many values and letters a reading holds, each counted each time it is reached (what is shared counts as often as it is met; a slice's spare places count too). A statement '..UptoSaid' is the law's where the arguments, and the package variables that the reading takes, are together of bulk at most 1048576: NARROWER than '..Said'. Prove '..Said' where nothing that the law and all that it calls make is longer than what came in: it says more and counts as full. Else prove '..UptoSaid'. A law counts once. -/
mutual
def uptoBulk {H : Type} : DataW H → Nat
  | .lit (.string bytes) => bytes.length + 1
  | .lit _ => 1
  | .nil => 1
  | .ptr d => uptoBulk d + 1
  | .slice elems spare => uptoBulkAll elems + uptoBulkAll spare + 1
  | .agg parts => uptoBulkAll parts + 1
  | .iface _ d => uptoBulk d + 1
  | .map entries => uptoBulkEntries entries + 1
  | .held _ => 1
def uptoBulkAll {H : Type} : List (DataW H) → Nat
  | [] => 0
  | d :: r => uptoBulk d + uptoBulkAll r
def uptoBulkEntries {H : Type} : List (Lit × DataW H) → Nat
  | [] => 0
  | x :: r => uptoBulkEntry x + uptoBulkEntries r
def uptoBulkEntry {H : Type} : Lit × DataW H → Nat
  | (.string bytes, d) => bytes.length + uptoBulk d + 1
  | (_, d) => uptoBulk d + 1
 end
def uptoSmall : (H : Type) → List (DataW H) → Bool := fun _ ds => decide (uptoBulkAll ds ≤ 1048576)
def OpenSpec.upto (s : _root_.Go.ChangeSpec) : _root_.Go.OpenSpec := { _root_.Go.OpenSpec.ofChange s with cond := some uptoSmall }

/-- 'laws.FnVecDot', WHERE WHAT IT READS IS OF BULK AT MOST 1048576: true; the input reads as it did. -/
def fnVecDotUptoRow : OpenClaim := { program := "ytmnfkohdibgjeaa", sum := "d8212faef5b9b370ee15978c82090c3abab654fbb06f3c2b0756188343c1e5d9", func := "loop.example/keelson/laws.FnVecDot", spec := "fnVecDot", unfollowed := true, recurses := true, apart := false, narrowed := true }
def FnVecDotUptoSaid : Prop := fnVecDotUptoRow.holds Try.pinned (OpenSpec.upto fnVecDotSpec)

/-- 'laws.FnVecScale', WHERE WHAT IT READS IS OF BULK AT MOST 1048576: true; the input reads as it did. -/
def fnVecScaleUptoRow : OpenClaim := { program := "ytmnfkohdibgjeaa", sum := "d8212faef5b9b370ee15978c82090c3abab654fbb06f3c2b0756188343c1e5d9", func := "loop.example/keelson/laws.FnVecScale", spec := "fnVecScale", unfollowed := true, recurses := true, apart := false, narrowed := true }
def FnVecScaleUptoSaid : Prop := fnVecScaleUptoRow.holds Try.pinned (OpenSpec.upto fnVecScaleSpec)

/-- 'laws.FnExactCodeRow', WHERE WHAT IT READS IS OF BULK AT MOST 1048576: true; the input reads as it did. -/
def fnExactCodeRowUptoRow : OpenClaim := { program := "ytmnfkohdibgjeaa", sum := "d8212faef5b9b370ee15978c82090c3abab654fbb06f3c2b0756188343c1e5d9", func := "loop.example/keelson/laws.FnExactCodeRow", spec := "fnExactCodeRow", apart := false, narrowed := true }
def FnExactCodeRowUptoSaid : Prop := fnExactCodeRowUptoRow.holds Try.pinned (OpenSpec.upto fnExactCodeRowSpec)

/-- 'laws.FnCodeRow', WHERE WHAT IT READS IS OF BULK AT MOST 1048576: true; the input reads as it did. -/
def fnCodeRowUptoRow : OpenClaim := { program := "ytmnfkohdibgjeaa", sum := "d8212faef5b9b370ee15978c82090c3abab654fbb06f3c2b0756188343c1e5d9", func := "loop.example/keelson/laws.FnCodeRow", spec := "fnCodeRow", unfollowed := true, recurses := true, apart := false, narrowed := true }
def FnCodeRowUptoSaid : Prop := fnCodeRowUptoRow.holds Try.pinned (OpenSpec.upto fnCodeRowSpec)

/-- 'laws.FnExactCodeAll', WHERE WHAT IT READS IS OF BULK AT MOST 1048576: true; the input reads as it did. -/
def fnExactCodeAllUptoRow : OpenClaim := { program := "ytmnfkohdibgjeaa", sum := "d8212faef5b9b370ee15978c82090c3abab654fbb06f3c2b0756188343c1e5d9", func := "loop.example/keelson/laws.FnExactCodeAll", spec := "fnExactCodeAll", unfollowed := true, recurses := true, apart := false, narrowed := true }
def FnExactCodeAllUptoSaid : Prop := fnExactCodeAllUptoRow.holds Try.pinned (OpenSpec.upto fnExactCodeAllSpec)

/-- 'laws.FnExactCodeApart', WHERE WHAT IT READS IS OF BULK AT MOST 1048576: true; the input reads as it did. -/
def fnExactCodeApartUptoRow : OpenClaim := { program := "ytmnfkohdibgjeaa", sum := "d8212faef5b9b370ee15978c82090c3abab654fbb06f3c2b0756188343c1e5d9", func := "loop.example/keelson/laws.FnExactCodeApart", spec := "fnExactCodeApart", unfollowed := true, recurses := true, apart := false, narrowed := true }
def FnExactCodeApartUptoSaid : Prop := fnExactCodeApartUptoRow.holds Try.pinned (OpenSpec.upto fnExactCodeApartSpec)

/-- 'laws.FnCodeData', WHERE WHAT IT READS IS OF BULK AT MOST 1048576: true; the input reads as it did. -/
def fnCodeDataUptoRow : OpenClaim := { program := "ytmnfkohdibgjeaa", sum := "d8212faef5b9b370ee15978c82090c3abab654fbb06f3c2b0756188343c1e5d9", func := "loop.example/keelson/laws.FnCodeData", spec := "fnCodeData", unfollowed := true, recurses := true, apart := false, narrowed := true }
def FnCodeDataUptoSaid : Prop := fnCodeDataUptoRow.holds Try.pinned (OpenSpec.upto fnCodeDataSpec)

/-- 'laws.FnCodeScale', WHERE WHAT IT READS IS OF BULK AT MOST 1048576: true; the input reads as it did. -/
def fnCodeScaleUptoRow : OpenClaim := { program := "ytmnfkohdibgjeaa", sum := "d8212faef5b9b370ee15978c82090c3abab654fbb06f3c2b0756188343c1e5d9", func := "loop.example/keelson/laws.FnCodeScale", spec := "fnCodeScale", unfollowed := true, recurses := true, apart := false, narrowed := true }
def FnCodeScaleUptoSaid : Prop := fnCodeScaleUptoRow.holds Try.pinned (OpenSpec.upto fnCodeScaleSpec)

/-- 'laws.FnCodeAll', WHERE WHAT IT READS IS OF BULK AT MOST 1048576: true; the input reads as it did. -/
def fnCodeAllUptoRow : OpenClaim := { program := "ytmnfkohdibgjeaa", sum := "d8212faef5b9b370ee15978c82090c3abab654fbb06f3c2b0756188343c1e5d9", func := "loop.example/keelson/laws.FnCodeAll", spec := "fnCodeAll", unfollowed := true, recurses := true, apart := false, narrowed := true }
def FnCodeAllUptoSaid : Prop := fnCodeAllUptoRow.holds Try.pinned (OpenSpec.upto fnCodeAllSpec)

/-- 'laws.FnExactSpanOk', WHERE WHAT IT READS IS OF BULK AT MOST 1048576: true; the input reads as it did. -/
def fnExactSpanOkUptoRow : OpenClaim := { program := "ytmnfkohdibgjeaa", sum := "d8212faef5b9b370ee15978c82090c3abab654fbb06f3c2b0756188343c1e5d9", func := "loop.example/keelson/laws.FnExactSpanOk", spec := "fnExactSpanOk", unfollowed := true, recurses := true, apart := false, narrowed := true }
def FnExactSpanOkUptoSaid : Prop := fnExactSpanOkUptoRow.holds Try.pinned (OpenSpec.upto fnExactSpanOkSpec)

/-- 'laws.FnSpanForm', WHERE WHAT IT READS IS OF BULK AT MOST 1048576: true; the input reads as it did. -/
def fnSpanFormUptoRow : OpenClaim := { program := "ytmnfkohdibgjeaa", sum := "d8212faef5b9b370ee15978c82090c3abab654fbb06f3c2b0756188343c1e5d9", func := "loop.example/keelson/laws.FnSpanForm", spec := "fnSpanForm", unfollowed := true, recurses := true, apart := false, narrowed := true }
def FnSpanFormUptoSaid : Prop := fnSpanFormUptoRow.holds Try.pinned (OpenSpec.upto fnSpanFormSpec)

/-- 'laws.FnExactPlanOk', WHERE WHAT IT READS IS OF BULK AT MOST 1048576: true; the input reads as it did. -/
def fnExactPlanOkUptoRow : OpenClaim := { program := "ytmnfkohdibgjeaa", sum := "d8212faef5b9b370ee15978c82090c3abab654fbb06f3c2b0756188343c1e5d9", func := "loop.example/keelson/laws.FnExactPlanOk", spec := "fnExactPlanOk", apart := false, narrowed := true }
def FnExactPlanOkUptoSaid : Prop := fnExactPlanOkUptoRow.holds Try.pinned (OpenSpec.upto fnExactPlanOkSpec)

end Rows
end Go.Proofs.Ytmnfkohdibgjeaa
