/-
  No cell of these rows narrows 'for every input' (looked for: loops, veiled, ifaces, maps, wideKeys, modest, calm, conditions, laid).
  DERIVED. THE GIVEN ROWS OF THIS SEAT. 12 by the template 'for every input the law returns true; each argument reads behind the call as it read before'; 0 by the template 'total and deterministic' (their statements: YtlafdcaplmgjkaaTotals.lean).
  GIVEN WITH THE SEED: the statements are not yours to turn. If you find one false, say at which input.
  Laid BY PROGRAM, IN A SANDBOX (cutbox-rows.mjs): the forced cells as the released guide's own fill.sh prints them over the translation a3bf6c8bcc127d94… (all of the seat's roots in one cut). By AI agents, Wed Nov 11 2026. No macro, syntax, notation, axiom, sorry.
-/
import Derived.Test.YtlafdcaplmgjkaaChecked
import GoSem.Claim
import GoSem.ClaimJoined
import GoSem.ClaimMapViews
import Derived.JoinedTies
import Derived.KernelRfl
namespace Go.Proofs.Ytlafdcaplmgjkaa
/- THE CELL 'sum', in the pinned program and in every row, IS THE sha256 OF THE DUMP (.gsa) THAT YtlafdcaplmgjkaaProg.lean LOADS. Nothing in Lean hashes anything: it is a label: what it is worth is what the hold of that sum in a sandbox is worth. -/
noncomputable def Try.pinned : Pinned := { name := "ytlafdcaplmgjkaa", sum := "a3bf6c8bcc127d94a97314d0a34fa3b6071eef8fd703f4c71fe7176c90f930d9", checked := Try.checked }
namespace Rows
def none {H : Type} : Left H := { results := [], args := [] }

/-- 'laws.FnExactVecOk': WHATEVER THE INPUT: true; the input reads as it did. -/
def fnExactVecOkSpec : ChangeSpec := { name := "fnExactVecOk", fn := fun _ => fun
  | [d] => { results := [.lit (.bool true)], args := [d] }
  | _ => none }
def fnExactVecOkRow : OpenClaim := { program := "ytlafdcaplmgjkaa", sum := "a3bf6c8bcc127d94a97314d0a34fa3b6071eef8fd703f4c71fe7176c90f930d9", func := "loop.example/keelson/laws.FnExactVecOk", spec := "fnExactVecOk", unfollowed := true, recurses := true, apart := false }
def FnExactVecOkSaid : Prop := fnExactVecOkRow.holds Try.pinned (OpenSpec.ofChange fnExactVecOkSpec)

/-- ITS FALSE NEIGHBOUR: 'it returns false'. Refute it at one input. -/
def fnExactVecOkWrong : ChangeSpec := { name := "fnExactVecOk", fn := fun _ => fun
  | [d] => { results := [.lit (.bool false)], args := [d] }
  | _ => none }
def FnExactVecOkWrongFalsely : Prop := fnExactVecOkRow.holds Try.pinned (OpenSpec.ofChange fnExactVecOkWrong)

/-- 'laws.FnExactVecUnit': WHATEVER THE INPUT: true; the input reads as it did. -/
def fnExactVecUnitSpec : ChangeSpec := { name := "fnExactVecUnit", fn := fun _ => fun
  | [d] => { results := [.lit (.bool true)], args := [d] }
  | _ => none }
def fnExactVecUnitRow : OpenClaim := { program := "ytlafdcaplmgjkaa", sum := "a3bf6c8bcc127d94a97314d0a34fa3b6071eef8fd703f4c71fe7176c90f930d9", func := "loop.example/keelson/laws.FnExactVecUnit", spec := "fnExactVecUnit", apart := false }
def FnExactVecUnitSaid : Prop := fnExactVecUnitRow.holds Try.pinned (OpenSpec.ofChange fnExactVecUnitSpec)

/-- ITS FALSE NEIGHBOUR: 'it returns false'. Refute it at one input. -/
def fnExactVecUnitWrong : ChangeSpec := { name := "fnExactVecUnit", fn := fun _ => fun
  | [d] => { results := [.lit (.bool false)], args := [d] }
  | _ => none }
def FnExactVecUnitWrongFalsely : Prop := fnExactVecUnitRow.holds Try.pinned (OpenSpec.ofChange fnExactVecUnitWrong)

/-- 'laws.FnVecForm': WHATEVER THE INPUT: true; the input reads as it did. -/
def fnVecFormSpec : ChangeSpec := { name := "fnVecForm", fn := fun _ => fun
  | [d1, d2] => { results := [.lit (.bool true)], args := [d1, d2] }
  | _ => none }
def fnVecFormRow : OpenClaim := { program := "ytlafdcaplmgjkaa", sum := "a3bf6c8bcc127d94a97314d0a34fa3b6071eef8fd703f4c71fe7176c90f930d9", func := "loop.example/keelson/laws.FnVecForm", spec := "fnVecForm", unfollowed := true, recurses := true, apart := false }
def FnVecFormSaid : Prop := fnVecFormRow.holds Try.pinned (OpenSpec.ofChange fnVecFormSpec)

/-- ITS FALSE NEIGHBOUR: 'it returns false'. Refute it at one input. -/
def fnVecFormWrong : ChangeSpec := { name := "fnVecForm", fn := fun _ => fun
  | [d1, d2] => { results := [.lit (.bool false)], args := [d1, d2] }
  | _ => none }
def FnVecFormWrongFalsely : Prop := fnVecFormRow.holds Try.pinned (OpenSpec.ofChange fnVecFormWrong)

/-- 'laws.FnMulLaws': WHATEVER THE INPUT: true; the input reads as it did. -/
def fnMulLawsSpec : ChangeSpec := { name := "fnMulLaws", fn := fun _ => fun
  | [d1, d2] => { results := [.lit (.bool true)], args := [d1, d2] }
  | _ => none }
def fnMulLawsRow : OpenClaim := { program := "ytlafdcaplmgjkaa", sum := "a3bf6c8bcc127d94a97314d0a34fa3b6071eef8fd703f4c71fe7176c90f930d9", func := "loop.example/keelson/laws.FnMulLaws", spec := "fnMulLaws", apart := false }
def FnMulLawsSaid : Prop := fnMulLawsRow.holds Try.pinned (OpenSpec.ofChange fnMulLawsSpec)

/-- ITS FALSE NEIGHBOUR: 'it returns false'. Refute it at one input. -/
def fnMulLawsWrong : ChangeSpec := { name := "fnMulLaws", fn := fun _ => fun
  | [d1, d2] => { results := [.lit (.bool false)], args := [d1, d2] }
  | _ => none }
def FnMulLawsWrongFalsely : Prop := fnMulLawsRow.holds Try.pinned (OpenSpec.ofChange fnMulLawsWrong)

/-- 'laws.FnExactVecLead': WHATEVER THE INPUT: true; the input reads as it did. -/
def fnExactVecLeadSpec : ChangeSpec := { name := "fnExactVecLead", fn := fun _ => fun
  | [d] => { results := [.lit (.bool true)], args := [d] }
  | _ => none }
def fnExactVecLeadRow : OpenClaim := { program := "ytlafdcaplmgjkaa", sum := "a3bf6c8bcc127d94a97314d0a34fa3b6071eef8fd703f4c71fe7176c90f930d9", func := "loop.example/keelson/laws.FnExactVecLead", spec := "fnExactVecLead", unfollowed := true, recurses := true, apart := false }
def FnExactVecLeadSaid : Prop := fnExactVecLeadRow.holds Try.pinned (OpenSpec.ofChange fnExactVecLeadSpec)

/-- ITS FALSE NEIGHBOUR: 'it returns false'. Refute it at one input. -/
def fnExactVecLeadWrong : ChangeSpec := { name := "fnExactVecLead", fn := fun _ => fun
  | [d] => { results := [.lit (.bool false)], args := [d] }
  | _ => none }
def FnExactVecLeadWrongFalsely : Prop := fnExactVecLeadRow.holds Try.pinned (OpenSpec.ofChange fnExactVecLeadWrong)

/-- 'laws.FnInv': WHATEVER THE INPUT: true; the input reads as it did. -/
def fnInvSpec : ChangeSpec := { name := "fnInv", fn := fun _ => fun
  | [d1, d2] => { results := [.lit (.bool true)], args := [d1, d2] }
  | _ => none }
def fnInvRow : OpenClaim := { program := "ytlafdcaplmgjkaa", sum := "a3bf6c8bcc127d94a97314d0a34fa3b6071eef8fd703f4c71fe7176c90f930d9", func := "loop.example/keelson/laws.FnInv", spec := "fnInv", apart := false }
def FnInvSaid : Prop := fnInvRow.holds Try.pinned (OpenSpec.ofChange fnInvSpec)

/-- ITS FALSE NEIGHBOUR: 'it returns false'. Refute it at one input. -/
def fnInvWrong : ChangeSpec := { name := "fnInv", fn := fun _ => fun
  | [d1, d2] => { results := [.lit (.bool false)], args := [d1, d2] }
  | _ => none }
def FnInvWrongFalsely : Prop := fnInvRow.holds Try.pinned (OpenSpec.ofChange fnInvWrong)

/-- 'laws.FnExactVecDot': WHATEVER THE INPUT: true; the input reads as it did. -/
def fnExactVecDotSpec : ChangeSpec := { name := "fnExactVecDot", fn := fun _ => fun
  | [d1, d2] => { results := [.lit (.bool true)], args := [d1, d2] }
  | _ => none }
def fnExactVecDotRow : OpenClaim := { program := "ytlafdcaplmgjkaa", sum := "a3bf6c8bcc127d94a97314d0a34fa3b6071eef8fd703f4c71fe7176c90f930d9", func := "loop.example/keelson/laws.FnExactVecDot", spec := "fnExactVecDot", unfollowed := true, recurses := true, apart := false }
def FnExactVecDotSaid : Prop := fnExactVecDotRow.holds Try.pinned (OpenSpec.ofChange fnExactVecDotSpec)

/-- ITS FALSE NEIGHBOUR: 'it returns false'. Refute it at one input. -/
def fnExactVecDotWrong : ChangeSpec := { name := "fnExactVecDot", fn := fun _ => fun
  | [d1, d2] => { results := [.lit (.bool false)], args := [d1, d2] }
  | _ => none }
def FnExactVecDotWrongFalsely : Prop := fnExactVecDotRow.holds Try.pinned (OpenSpec.ofChange fnExactVecDotWrong)

/-- 'laws.FnExactVecScale': WHATEVER THE INPUT: true; the input reads as it did. -/
def fnExactVecScaleSpec : ChangeSpec := { name := "fnExactVecScale", fn := fun _ => fun
  | [d1, d2] => { results := [.lit (.bool true)], args := [d1, d2] }
  | _ => none }
def fnExactVecScaleRow : OpenClaim := { program := "ytlafdcaplmgjkaa", sum := "a3bf6c8bcc127d94a97314d0a34fa3b6071eef8fd703f4c71fe7176c90f930d9", func := "loop.example/keelson/laws.FnExactVecScale", spec := "fnExactVecScale", unfollowed := true, recurses := true, apart := false }
def FnExactVecScaleSaid : Prop := fnExactVecScaleRow.holds Try.pinned (OpenSpec.ofChange fnExactVecScaleSpec)

/-- ITS FALSE NEIGHBOUR: 'it returns false'. Refute it at one input. -/
def fnExactVecScaleWrong : ChangeSpec := { name := "fnExactVecScale", fn := fun _ => fun
  | [d1, d2] => { results := [.lit (.bool false)], args := [d1, d2] }
  | _ => none }
def FnExactVecScaleWrongFalsely : Prop := fnExactVecScaleRow.holds Try.pinned (OpenSpec.ofChange fnExactVecScaleWrong)

/-- 'laws.FnExactVecSum': WHATEVER THE INPUT: true; the input reads as it did. -/
def fnExactVecSumSpec : ChangeSpec := { name := "fnExactVecSum", fn := fun _ => fun
  | [d1, d2] => { results := [.lit (.bool true)], args := [d1, d2] }
  | _ => none }
def fnExactVecSumRow : OpenClaim := { program := "ytlafdcaplmgjkaa", sum := "a3bf6c8bcc127d94a97314d0a34fa3b6071eef8fd703f4c71fe7176c90f930d9", func := "loop.example/keelson/laws.FnExactVecSum", spec := "fnExactVecSum", unfollowed := true, recurses := true, apart := false }
def FnExactVecSumSaid : Prop := fnExactVecSumRow.holds Try.pinned (OpenSpec.ofChange fnExactVecSumSpec)

/-- ITS FALSE NEIGHBOUR: 'it returns false'. Refute it at one input. -/
def fnExactVecSumWrong : ChangeSpec := { name := "fnExactVecSum", fn := fun _ => fun
  | [d1, d2] => { results := [.lit (.bool false)], args := [d1, d2] }
  | _ => none }
def FnExactVecSumWrongFalsely : Prop := fnExactVecSumRow.holds Try.pinned (OpenSpec.ofChange fnExactVecSumWrong)

/-- 'laws.FnVecUnit': WHATEVER THE INPUT: true; the input reads as it did. -/
def fnVecUnitSpec : ChangeSpec := { name := "fnVecUnit", fn := fun _ => fun
  | [d] => { results := [.lit (.bool true)], args := [d] }
  | _ => none }
def fnVecUnitRow : OpenClaim := { program := "ytlafdcaplmgjkaa", sum := "a3bf6c8bcc127d94a97314d0a34fa3b6071eef8fd703f4c71fe7176c90f930d9", func := "loop.example/keelson/laws.FnVecUnit", spec := "fnVecUnit", unfollowed := true, recurses := true, apart := false }
def FnVecUnitSaid : Prop := fnVecUnitRow.holds Try.pinned (OpenSpec.ofChange fnVecUnitSpec)

/-- ITS FALSE NEIGHBOUR: 'it returns false'. Refute it at one input. -/
def fnVecUnitWrong : ChangeSpec := { name := "fnVecUnit", fn := fun _ => fun
  | [d] => { results := [.lit (.bool false)], args := [d] }
  | _ => none }
def FnVecUnitWrongFalsely : Prop := fnVecUnitRow.holds Try.pinned (OpenSpec.ofChange fnVecUnitWrong)

/-- 'laws.FnVecLead': WHATEVER THE INPUT: true; the input reads as it did. -/
def fnVecLeadSpec : ChangeSpec := { name := "fnVecLead", fn := fun _ => fun
  | [d1, d2] => { results := [.lit (.bool true)], args := [d1, d2] }
  | _ => none }
def fnVecLeadRow : OpenClaim := { program := "ytlafdcaplmgjkaa", sum := "a3bf6c8bcc127d94a97314d0a34fa3b6071eef8fd703f4c71fe7176c90f930d9", func := "loop.example/keelson/laws.FnVecLead", spec := "fnVecLead", unfollowed := true, recurses := true, apart := false }
def FnVecLeadSaid : Prop := fnVecLeadRow.holds Try.pinned (OpenSpec.ofChange fnVecLeadSpec)

/-- ITS FALSE NEIGHBOUR: 'it returns false'. Refute it at one input. -/
def fnVecLeadWrong : ChangeSpec := { name := "fnVecLead", fn := fun _ => fun
  | [d1, d2] => { results := [.lit (.bool false)], args := [d1, d2] }
  | _ => none }
def FnVecLeadWrongFalsely : Prop := fnVecLeadRow.holds Try.pinned (OpenSpec.ofChange fnVecLeadWrong)

/-- 'laws.FnVecSum': WHATEVER THE INPUT: true; the input reads as it did. -/
def fnVecSumSpec : ChangeSpec := { name := "fnVecSum", fn := fun _ => fun
  | [d1, d2] => { results := [.lit (.bool true)], args := [d1, d2] }
  | _ => none }
def fnVecSumRow : OpenClaim := { program := "ytlafdcaplmgjkaa", sum := "a3bf6c8bcc127d94a97314d0a34fa3b6071eef8fd703f4c71fe7176c90f930d9", func := "loop.example/keelson/laws.FnVecSum", spec := "fnVecSum", unfollowed := true, recurses := true, apart := false }
def FnVecSumSaid : Prop := fnVecSumRow.holds Try.pinned (OpenSpec.ofChange fnVecSumSpec)

/-- ITS FALSE NEIGHBOUR: 'it returns false'. Refute it at one input. -/
def fnVecSumWrong : ChangeSpec := { name := "fnVecSum", fn := fun _ => fun
  | [d1, d2] => { results := [.lit (.bool false)], args := [d1, d2] }
  | _ => none }
def FnVecSumWrongFalsely : Prop := fnVecSumRow.holds Try.pinned (OpenSpec.ofChange fnVecSumWrong)

/- THE SECOND FORM. 'bulk': how many values and letters a reading holds, each counted each time it is reached (what is shared counts as often as it is met; a slice's spare places count too). A statement '..UptoSaid' is the law's where the arguments, and the package variables that the reading takes, are together of bulk at most 1048576: NARROWER than '..Said'. Prove '..Said' where nothing that the law and all that it calls make is longer than what came in: it says more and counts as full. Else prove '..UptoSaid'. A law counts once. -/
mutual
def uptoBulk {H : Type} : DataW H → Nat
  | .lit (.string bytes) => bytes.length + 1
  | .lit _ => 1
  | .nil => 1
  | .ptr d => uptoBulk d + 1
  | .slice elems spare => uptoBulkAll elems + uptoBulkAll spare + 1
  | .agg parts => uptoBulkAll parts + 1
  | .iface _ d => uptoBulk d + 1
  | .map entries => uptoBulkEntries entries + 1
  | .held _ => 1
def uptoBulkAll {H : Type} : List (DataW H) → Nat
  | [] => 0
  | d :: r => uptoBulk d + uptoBulkAll r
def uptoBulkEntries {H : Type} : List (Lit × DataW H) → Nat
  | [] => 0
  | x :: r => uptoBulkEntry x + uptoBulkEntries r
def uptoBulkEntry {H : Type} : Lit × DataW H → Nat
  | (.string bytes, d) => bytes.length + uptoBulk d + 1
  | (_, d) => uptoBulk d + 1
 end
def uptoSmall : (H : Type) → List (DataW H) → Bool := fun _ ds => decide (uptoBulkAll ds ≤ 1048576)
def OpenSpec.upto (s : _root_.Go.ChangeSpec) : _root_.Go.OpenSpec := { _root_.Go.OpenSpec.ofChange s with cond := some uptoSmall }

/-- 'laws.FnExactVecOk', WHERE WHAT IT READS IS OF BULK AT MOST 1048576: true; the input reads as it did. -/
def fnExactVecOkUptoRow : OpenClaim := { program := "ytlafdcaplmgjkaa", sum := "a3bf6c8bcc127d94a97314d0a34fa3b6071eef8fd703f4c71fe7176c90f930d9", func := "loop.example/keelson/laws.FnExactVecOk", spec := "fnExactVecOk", unfollowed := true, recurses := true, apart := false, narrowed := true }
def FnExactVecOkUptoSaid : Prop := fnExactVecOkUptoRow.holds Try.pinned (OpenSpec.upto fnExactVecOkSpec)

/-- 'laws.FnExactVecUnit', WHERE WHAT IT READS IS OF BULK AT MOST 1048576: true; the input reads as it did. -/
def fnExactVecUnitUptoRow : OpenClaim := { program := "ytlafdcaplmgjkaa", sum := "a3bf6c8bcc127d94a97314d0a34fa3b6071eef8fd703f4c71fe7176c90f930d9", func := "loop.example/keelson/laws.FnExactVecUnit", spec := "fnExactVecUnit", apart := false, narrowed := true }
def FnExactVecUnitUptoSaid : Prop := fnExactVecUnitUptoRow.holds Try.pinned (OpenSpec.upto fnExactVecUnitSpec)

/-- 'laws.FnVecForm', WHERE WHAT IT READS IS OF BULK AT MOST 1048576: true; the input reads as it did. -/
def fnVecFormUptoRow : OpenClaim := { program := "ytlafdcaplmgjkaa", sum := "a3bf6c8bcc127d94a97314d0a34fa3b6071eef8fd703f4c71fe7176c90f930d9", func := "loop.example/keelson/laws.FnVecForm", spec := "fnVecForm", unfollowed := true, recurses := true, apart := false, narrowed := true }
def FnVecFormUptoSaid : Prop := fnVecFormUptoRow.holds Try.pinned (OpenSpec.upto fnVecFormSpec)

/-- 'laws.FnMulLaws', WHERE WHAT IT READS IS OF BULK AT MOST 1048576: true; the input reads as it did. -/
def fnMulLawsUptoRow : OpenClaim := { program := "ytlafdcaplmgjkaa", sum := "a3bf6c8bcc127d94a97314d0a34fa3b6071eef8fd703f4c71fe7176c90f930d9", func := "loop.example/keelson/laws.FnMulLaws", spec := "fnMulLaws", apart := false, narrowed := true }
def FnMulLawsUptoSaid : Prop := fnMulLawsUptoRow.holds Try.pinned (OpenSpec.upto fnMulLawsSpec)

/-- 'laws.FnExactVecLead', WHERE WHAT IT READS IS OF BULK AT MOST 1048576: true; the input reads as it did. -/
def fnExactVecLeadUptoRow : OpenClaim := { program := "ytlafdcaplmgjkaa", sum := "a3bf6c8bcc127d94a97314d0a34fa3b6071eef8fd703f4c71fe7176c90f930d9", func := "loop.example/keelson/laws.FnExactVecLead", spec := "fnExactVecLead", unfollowed := true, recurses := true, apart := false, narrowed := true }
def FnExactVecLeadUptoSaid : Prop := fnExactVecLeadUptoRow.holds Try.pinned (OpenSpec.upto fnExactVecLeadSpec)

/-- 'laws.FnInv', WHERE WHAT IT READS IS OF BULK AT MOST 1048576: true; the input reads as it did. -/
def fnInvUptoRow : OpenClaim := { program := "ytlafdcaplmgjkaa", sum := "a3bf6c8bcc127d94a97314d0a34fa3b6071eef8fd703f4c71fe7176c90f930d9", func := "loop.example/keelson/laws.FnInv", spec := "fnInv", apart := false, narrowed := true }
def FnInvUptoSaid : Prop := fnInvUptoRow.holds Try.pinned (OpenSpec.upto fnInvSpec)

/-- 'laws.FnExactVecDot', WHERE WHAT IT READS IS OF BULK AT MOST 1048576: true; the input reads as it did. -/
def fnExactVecDotUptoRow : OpenClaim := { program := "ytlafdcaplmgjkaa", sum := "a3bf6c8bcc127d94a97314d0a34fa3b6071eef8fd703f4c71fe7176c90f930d9", func := "loop.example/keelson/laws.FnExactVecDot", spec := "fnExactVecDot", unfollowed := true, recurses := true, apart := false, narrowed := true }
def FnExactVecDotUptoSaid : Prop := fnExactVecDotUptoRow.holds Try.pinned (OpenSpec.upto fnExactVecDotSpec)

/-- 'laws.FnExactVecScale', WHERE WHAT IT READS IS OF BULK AT MOST 1048576: true; the input reads as it did. -/
def fnExactVecScaleUptoRow : OpenClaim := { program := "ytlafdcaplmgjkaa", sum := "a3bf6c8bcc127d94a97314d0a34fa3b6071eef8fd703f4c71fe7176c90f930d9", func := "loop.example/keelson/laws.FnExactVecScale", spec := "fnExactVecScale", unfollowed := true, recurses := true, apart := false, narrowed := true }
def FnExactVecScaleUptoSaid : Prop := fnExactVecScaleUptoRow.holds Try.pinned (OpenSpec.upto fnExactVecScaleSpec)

/-- 'laws.FnExactVecSum', WHERE WHAT IT READS IS OF BULK AT MOST 1048576: true; the input reads as it did. -/
def fnExactVecSumUptoRow : OpenClaim := { program := "ytlafdcaplmgjkaa", sum := "a3bf6c8bcc127d94a97314d0a34fa3b6071eef8fd703f4c71fe7176c90f930d9", func := "loop.example/keelson/laws.FnExactVecSum", spec := "fnExactVecSum", unfollowed := true, recurses := true, apart := false, narrowed := true }
def FnExactVecSumUptoSaid : Prop := fnExactVecSumUptoRow.holds Try.pinned (OpenSpec.upto fnExactVecSumSpec)

/-- 'laws.FnVecUnit', WHERE WHAT IT READS IS OF BULK AT MOST 1048576: true; the input reads as it did. -/
def fnVecUnitUptoRow : OpenClaim := { program := "ytlafdcaplmgjkaa", sum := "a3bf6c8bcc127d94a97314d0a34fa3b6071eef8fd703f4c71fe7176c90f930d9", func := "loop.example/keelson/laws.FnVecUnit", spec := "fnVecUnit", unfollowed := true, recurses := true, apart := false, narrowed := true }
def FnVecUnitUptoSaid : Prop := fnVecUnitUptoRow.holds Try.pinned (OpenSpec.upto fnVecUnitSpec)

/-- 'laws.FnVecLead', WHERE WHAT IT READS IS OF BULK AT MOST 1048576: true; the input reads as it did. -/
def fnVecLeadUptoRow : OpenClaim := { program := "ytlafdcaplmgjkaa", sum := "a3bf6c8bcc127d94a97314d0a34fa3b6071eef8fd703f4c71fe7176c90f930d9", func := "loop.example/keelson/laws.FnVecLead", spec := "fnVecLead", unfollowed := true, recurses := true, apart := false, narrowed := true }
def FnVecLeadUptoSaid : Prop := fnVecLeadUptoRow.holds Try.pinned (OpenSpec.upto fnVecLeadSpec)

/-- 'laws.FnVecSum', WHERE WHAT IT READS IS OF BULK AT MOST 1048576: true; the input reads as it did. -/
def fnVecSumUptoRow : OpenClaim := { program := "ytlafdcaplmgjkaa", sum := "a3bf6c8bcc127d94a97314d0a34fa3b6071eef8fd703f4c71fe7176c90f930d9", func := "loop.example/keelson/laws.FnVecSum", spec := "fnVecSum", unfollowed := true, recurses := true, apart := false, narrowed := true }
def FnVecSumUptoSaid : Prop := fnVecSumUptoRow.holds Try.pinned (OpenSpec.upto fnVecSumSpec)

end Rows
end Go.Proofs.Ytlafdcaplmgjkaa
