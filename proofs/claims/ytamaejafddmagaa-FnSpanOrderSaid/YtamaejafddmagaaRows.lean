/-
  No cell of these rows narrows 'for every input' (looked for: loops, veiled, ifaces, maps, wideKeys, modest, calm, conditions, laid).
  DERIVED. THE GIVEN ROWS OF THIS SEAT. 12 by the template 'for every input the law returns true; each argument reads behind the call as it read before'; 0 by the template 'total and deterministic' (their statements: YtamaejafddmagaaTotals.lean).
  GIVEN WITH THE SEED: the statements are not yours to turn. If you find one false, say at which input.
  Laid BY PROGRAM, IN A SANDBOX (cutbox-rows.mjs): the forced cells as the released guide's own fill.sh prints them over the translation e3a2bdf419da4280… (all of the seat's roots in one cut). By AI agents, Wed Nov 11 2026. No macro, syntax, notation, axiom, sorry.
-/
import Derived.Test.YtamaejafddmagaaChecked
import GoSem.Claim
import GoSem.ClaimJoined
import GoSem.ClaimMapViews
import Derived.JoinedTies
import Derived.KernelRfl
namespace Go.Proofs.Ytamaejafddmagaa
/- THE CELL 'sum', in the pinned program and in every row, IS THE sha256 OF THE DUMP (.gsa) THAT YtamaejafddmagaaProg.lean LOADS. Nothing in Lean hashes anything: it is a label: what it is worth is what the hold of that sum in a sandbox is worth. -/
noncomputable def Try.pinned : Pinned := { name := "ytamaejafddmagaa", sum := "e3a2bdf419da4280f13517326ef18c2985019767ccc2f6df8570b54ed2094074", checked := Try.checked }
namespace Rows
def none {H : Type} : Left H := { results := [], args := [] }

/-- 'laws.FnSpanOrder': WHATEVER THE INPUT: true; the input reads as it did. -/
def fnSpanOrderSpec : ChangeSpec := { name := "fnSpanOrder", fn := fun _ => fun
  | [d1, d2] => { results := [.lit (.bool true)], args := [d1, d2] }
  | _ => none }
def fnSpanOrderRow : OpenClaim := { program := "ytamaejafddmagaa", sum := "e3a2bdf419da4280f13517326ef18c2985019767ccc2f6df8570b54ed2094074", func := "loop.example/keelson/laws.FnSpanOrder", spec := "fnSpanOrder", unfollowed := true, recurses := true, apart := false }
def FnSpanOrderSaid : Prop := fnSpanOrderRow.holds Try.pinned (OpenSpec.ofChange fnSpanOrderSpec)

/-- ITS FALSE NEIGHBOUR: 'it returns false'. Refute it at one input. -/
def fnSpanOrderWrong : ChangeSpec := { name := "fnSpanOrder", fn := fun _ => fun
  | [d1, d2] => { results := [.lit (.bool false)], args := [d1, d2] }
  | _ => none }
def FnSpanOrderWrongFalsely : Prop := fnSpanOrderRow.holds Try.pinned (OpenSpec.ofChange fnSpanOrderWrong)

/-- 'laws.FnTidyForm': WHATEVER THE INPUT: true; the input reads as it did. -/
def fnTidyFormSpec : ChangeSpec := { name := "fnTidyForm", fn := fun _ => fun
  | [d] => { results := [.lit (.bool true)], args := [d] }
  | _ => none }
def fnTidyFormRow : OpenClaim := { program := "ytamaejafddmagaa", sum := "e3a2bdf419da4280f13517326ef18c2985019767ccc2f6df8570b54ed2094074", func := "loop.example/keelson/laws.FnTidyForm", spec := "fnTidyForm", unfollowed := true, recurses := true, apart := false }
def FnTidyFormSaid : Prop := fnTidyFormRow.holds Try.pinned (OpenSpec.ofChange fnTidyFormSpec)

/-- ITS FALSE NEIGHBOUR: 'it returns false'. Refute it at one input. -/
def fnTidyFormWrong : ChangeSpec := { name := "fnTidyForm", fn := fun _ => fun
  | [d] => { results := [.lit (.bool false)], args := [d] }
  | _ => none }
def FnTidyFormWrongFalsely : Prop := fnTidyFormRow.holds Try.pinned (OpenSpec.ofChange fnTidyFormWrong)

/-- 'laws.FnSpanRank': WHATEVER THE INPUT: true; the input reads as it did. -/
def fnSpanRankSpec : ChangeSpec := { name := "fnSpanRank", fn := fun _ => fun
  | [d1, d2] => { results := [.lit (.bool true)], args := [d1, d2] }
  | _ => none }
def fnSpanRankRow : OpenClaim := { program := "ytamaejafddmagaa", sum := "e3a2bdf419da4280f13517326ef18c2985019767ccc2f6df8570b54ed2094074", func := "loop.example/keelson/laws.FnSpanRank", spec := "fnSpanRank", unfollowed := true, recurses := true, apart := false }
def FnSpanRankSaid : Prop := fnSpanRankRow.holds Try.pinned (OpenSpec.ofChange fnSpanRankSpec)

/-- ITS FALSE NEIGHBOUR: 'it returns false'. Refute it at one input. -/
def fnSpanRankWrong : ChangeSpec := { name := "fnSpanRank", fn := fun _ => fun
  | [d1, d2] => { results := [.lit (.bool false)], args := [d1, d2] }
  | _ => none }
def FnSpanRankWrongFalsely : Prop := fnSpanRankRow.holds Try.pinned (OpenSpec.ofChange fnSpanRankWrong)

/-- 'laws.FnExactCodeBears': WHATEVER THE INPUT: true; the input reads as it did. -/
def fnExactCodeBearsSpec : ChangeSpec := { name := "fnExactCodeBears", fn := fun _ => fun
  | [d1, d2] => { results := [.lit (.bool true)], args := [d1, d2] }
  | _ => none }
def fnExactCodeBearsRow : OpenClaim := { program := "ytamaejafddmagaa", sum := "e3a2bdf419da4280f13517326ef18c2985019767ccc2f6df8570b54ed2094074", func := "loop.example/keelson/laws.FnExactCodeBears", spec := "fnExactCodeBears", unfollowed := true, recurses := true, apart := false }
def FnExactCodeBearsSaid : Prop := fnExactCodeBearsRow.holds Try.pinned (OpenSpec.ofChange fnExactCodeBearsSpec)

/-- ITS FALSE NEIGHBOUR: 'it returns false'. Refute it at one input. -/
def fnExactCodeBearsWrong : ChangeSpec := { name := "fnExactCodeBears", fn := fun _ => fun
  | [d1, d2] => { results := [.lit (.bool false)], args := [d1, d2] }
  | _ => none }
def FnExactCodeBearsWrongFalsely : Prop := fnExactCodeBearsRow.holds Try.pinned (OpenSpec.ofChange fnExactCodeBearsWrong)

/-- 'laws.FnExactCodeMost': WHATEVER THE INPUT: true; the input reads as it did. -/
def fnExactCodeMostSpec : ChangeSpec := { name := "fnExactCodeMost", fn := fun _ => fun
  | [d] => { results := [.lit (.bool true)], args := [d] }
  | _ => none }
def fnExactCodeMostRow : OpenClaim := { program := "ytamaejafddmagaa", sum := "e3a2bdf419da4280f13517326ef18c2985019767ccc2f6df8570b54ed2094074", func := "loop.example/keelson/laws.FnExactCodeMost", spec := "fnExactCodeMost", unfollowed := true, recurses := true, apart := false }
def FnExactCodeMostSaid : Prop := fnExactCodeMostRow.holds Try.pinned (OpenSpec.ofChange fnExactCodeMostSpec)

/-- ITS FALSE NEIGHBOUR: 'it returns false'. Refute it at one input. -/
def fnExactCodeMostWrong : ChangeSpec := { name := "fnExactCodeMost", fn := fun _ => fun
  | [d] => { results := [.lit (.bool false)], args := [d] }
  | _ => none }
def FnExactCodeMostWrongFalsely : Prop := fnExactCodeMostRow.holds Try.pinned (OpenSpec.ofChange fnExactCodeMostWrong)

/-- 'laws.FnWideAny': WHATEVER THE INPUT: true; the input reads as it did. -/
def fnWideAnySpec : ChangeSpec := { name := "fnWideAny", fn := fun _ => fun
  | [d] => { results := [.lit (.bool true)], args := [d] }
  | _ => none }
def fnWideAnyRow : OpenClaim := { program := "ytamaejafddmagaa", sum := "e3a2bdf419da4280f13517326ef18c2985019767ccc2f6df8570b54ed2094074", func := "loop.example/keelson/laws.FnWideAny", spec := "fnWideAny", unfollowed := true, recurses := true, apart := false }
def FnWideAnySaid : Prop := fnWideAnyRow.holds Try.pinned (OpenSpec.ofChange fnWideAnySpec)

/-- ITS FALSE NEIGHBOUR: 'it returns false'. Refute it at one input. -/
def fnWideAnyWrong : ChangeSpec := { name := "fnWideAny", fn := fun _ => fun
  | [d] => { results := [.lit (.bool false)], args := [d] }
  | _ => none }
def FnWideAnyWrongFalsely : Prop := fnWideAnyRow.holds Try.pinned (OpenSpec.ofChange fnWideAnyWrong)

/-- 'laws.FnMost': WHATEVER THE INPUT: true; the input reads as it did. -/
def fnMostSpec : ChangeSpec := { name := "fnMost", fn := fun _ => fun
  | [d] => { results := [.lit (.bool true)], args := [d] }
  | _ => none }
def fnMostRow : OpenClaim := { program := "ytamaejafddmagaa", sum := "e3a2bdf419da4280f13517326ef18c2985019767ccc2f6df8570b54ed2094074", func := "loop.example/keelson/laws.FnMost", spec := "fnMost", unfollowed := true, recurses := true, apart := false }
def FnMostSaid : Prop := fnMostRow.holds Try.pinned (OpenSpec.ofChange fnMostSpec)

/-- ITS FALSE NEIGHBOUR: 'it returns false'. Refute it at one input. -/
def fnMostWrong : ChangeSpec := { name := "fnMost", fn := fun _ => fun
  | [d] => { results := [.lit (.bool false)], args := [d] }
  | _ => none }
def FnMostWrongFalsely : Prop := fnMostRow.holds Try.pinned (OpenSpec.ofChange fnMostWrong)

/-- 'laws.FnBears': WHATEVER THE INPUT: true; the input reads as it did. -/
def fnBearsSpec : ChangeSpec := { name := "fnBears", fn := fun _ => fun
  | [d1, d2] => { results := [.lit (.bool true)], args := [d1, d2] }
  | _ => none }
def fnBearsRow : OpenClaim := { program := "ytamaejafddmagaa", sum := "e3a2bdf419da4280f13517326ef18c2985019767ccc2f6df8570b54ed2094074", func := "loop.example/keelson/laws.FnBears", spec := "fnBears", unfollowed := true, recurses := true, apart := false }
def FnBearsSaid : Prop := fnBearsRow.holds Try.pinned (OpenSpec.ofChange fnBearsSpec)

/-- ITS FALSE NEIGHBOUR: 'it returns false'. Refute it at one input. -/
def fnBearsWrong : ChangeSpec := { name := "fnBears", fn := fun _ => fun
  | [d1, d2] => { results := [.lit (.bool false)], args := [d1, d2] }
  | _ => none }
def FnBearsWrongFalsely : Prop := fnBearsRow.holds Try.pinned (OpenSpec.ofChange fnBearsWrong)

/-- 'laws.FnApart': WHATEVER THE INPUT: true; the input reads as it did. -/
def fnApartSpec : ChangeSpec := { name := "fnApart", fn := fun _ => fun
  | [d] => { results := [.lit (.bool true)], args := [d] }
  | _ => none }
def fnApartRow : OpenClaim := { program := "ytamaejafddmagaa", sum := "e3a2bdf419da4280f13517326ef18c2985019767ccc2f6df8570b54ed2094074", func := "loop.example/keelson/laws.FnApart", spec := "fnApart", unfollowed := true, recurses := true, apart := false }
def FnApartSaid : Prop := fnApartRow.holds Try.pinned (OpenSpec.ofChange fnApartSpec)

/-- ITS FALSE NEIGHBOUR: 'it returns false'. Refute it at one input. -/
def fnApartWrong : ChangeSpec := { name := "fnApart", fn := fun _ => fun
  | [d] => { results := [.lit (.bool false)], args := [d] }
  | _ => none }
def FnApartWrongFalsely : Prop := fnApartRow.holds Try.pinned (OpenSpec.ofChange fnApartWrong)

/-- 'laws.FnFitsAll': WHATEVER THE INPUT: true; the input reads as it did. -/
def fnFitsAllSpec : ChangeSpec := { name := "fnFitsAll", fn := fun _ => fun
  | [d1, d2] => { results := [.lit (.bool true)], args := [d1, d2] }
  | _ => none }
def fnFitsAllRow : OpenClaim := { program := "ytamaejafddmagaa", sum := "e3a2bdf419da4280f13517326ef18c2985019767ccc2f6df8570b54ed2094074", func := "loop.example/keelson/laws.FnFitsAll", spec := "fnFitsAll", unfollowed := true, recurses := true, apart := false }
def FnFitsAllSaid : Prop := fnFitsAllRow.holds Try.pinned (OpenSpec.ofChange fnFitsAllSpec)

/-- ITS FALSE NEIGHBOUR: 'it returns false'. Refute it at one input. -/
def fnFitsAllWrong : ChangeSpec := { name := "fnFitsAll", fn := fun _ => fun
  | [d1, d2] => { results := [.lit (.bool false)], args := [d1, d2] }
  | _ => none }
def FnFitsAllWrongFalsely : Prop := fnFitsAllRow.holds Try.pinned (OpenSpec.ofChange fnFitsAllWrong)

/-- 'laws.FnExactCodeFits': WHATEVER THE INPUT: true; the input reads as it did. -/
def fnExactCodeFitsSpec : ChangeSpec := { name := "fnExactCodeFits", fn := fun _ => fun
  | [d1, d2, d3] => { results := [.lit (.bool true)], args := [d1, d2, d3] }
  | _ => none }
def fnExactCodeFitsRow : OpenClaim := { program := "ytamaejafddmagaa", sum := "e3a2bdf419da4280f13517326ef18c2985019767ccc2f6df8570b54ed2094074", func := "loop.example/keelson/laws.FnExactCodeFits", spec := "fnExactCodeFits", unfollowed := true, recurses := true, apart := false }
def FnExactCodeFitsSaid : Prop := fnExactCodeFitsRow.holds Try.pinned (OpenSpec.ofChange fnExactCodeFitsSpec)

/-- ITS FALSE NEIGHBOUR: 'it returns false'. Refute it at one input. -/
def fnExactCodeFitsWrong : ChangeSpec := { name := "fnExactCodeFits", fn := fun _ => fun
  | [d1, d2, d3] => { results := [.lit (.bool false)], args := [d1, d2, d3] }
  | _ => none }
def FnExactCodeFitsWrongFalsely : Prop := fnExactCodeFitsRow.holds Try.pinned (OpenSpec.ofChange fnExactCodeFitsWrong)

/-- 'laws.FnFits': WHATEVER THE INPUT: true; the input reads as it did. -/
def fnFitsSpec : ChangeSpec := { name := "fnFits", fn := fun _ => fun
  | [d1, d2] => { results := [.lit (.bool true)], args := [d1, d2] }
  | _ => none }
def fnFitsRow : OpenClaim := { program := "ytamaejafddmagaa", sum := "e3a2bdf419da4280f13517326ef18c2985019767ccc2f6df8570b54ed2094074", func := "loop.example/keelson/laws.FnFits", spec := "fnFits", unfollowed := true, recurses := true, apart := false }
def FnFitsSaid : Prop := fnFitsRow.holds Try.pinned (OpenSpec.ofChange fnFitsSpec)

/-- ITS FALSE NEIGHBOUR: 'it returns false'. Refute it at one input. -/
def fnFitsWrong : ChangeSpec := { name := "fnFits", fn := fun _ => fun
  | [d1, d2] => { results := [.lit (.bool false)], args := [d1, d2] }
  | _ => none }
def FnFitsWrongFalsely : Prop := fnFitsRow.holds Try.pinned (OpenSpec.ofChange fnFitsWrong)

/- THE SECOND FORM. 'bulk': how many values and letters a reading holds, each counted each time it is reached (what is shared counts as often as it is met; a slice's spare places count too). A statement '..UptoSaid' is the law's where the arguments, and the package variables that the reading takes, are together of bulk at most 1048576: NARROWER than '..Said'. Prove '..Said' where nothing that the law and all that it calls make is longer than what came in: it says more and counts as full. Else prove '..UptoSaid'. A law counts once. -/
mutual
def uptoBulk {H : Type} : DataW H → Nat
  | .lit (.string bytes) => bytes.length + 1
  | .lit _ => 1
  | .nil => 1
  | .ptr d => uptoBulk d + 1
  | .slice elems spare => uptoBulkAll elems + uptoBulkAll spare + 1
  | .agg parts => uptoBulkAll parts + 1
  | .iface _ d => uptoBulk d + 1
  | .map entries => uptoBulkEntries entries + 1
  | .held _ => 1
def uptoBulkAll {H : Type} : List (DataW H) → Nat
  | [] => 0
  | d :: r => uptoBulk d + uptoBulkAll r
def uptoBulkEntries {H : Type} : List (Lit × DataW H) → Nat
  | [] => 0
  | x :: r => uptoBulkEntry x + uptoBulkEntries r
def uptoBulkEntry {H : Type} : Lit × DataW H → Nat
  | (.string bytes, d) => bytes.length + uptoBulk d + 1
  | (_, d) => uptoBulk d + 1
 end
def uptoSmall : (H : Type) → List (DataW H) → Bool := fun _ ds => decide (uptoBulkAll ds ≤ 1048576)
def OpenSpec.upto (s : _root_.Go.ChangeSpec) : _root_.Go.OpenSpec := { _root_.Go.OpenSpec.ofChange s with cond := some uptoSmall }

/-- 'laws.FnSpanOrder', WHERE WHAT IT READS IS OF BULK AT MOST 1048576: true; the input reads as it did. -/
def fnSpanOrderUptoRow : OpenClaim := { program := "ytamaejafddmagaa", sum := "e3a2bdf419da4280f13517326ef18c2985019767ccc2f6df8570b54ed2094074", func := "loop.example/keelson/laws.FnSpanOrder", spec := "fnSpanOrder", unfollowed := true, recurses := true, apart := false, narrowed := true }
def FnSpanOrderUptoSaid : Prop := fnSpanOrderUptoRow.holds Try.pinned (OpenSpec.upto fnSpanOrderSpec)

/-- 'laws.FnTidyForm', WHERE WHAT IT READS IS OF BULK AT MOST 1048576: true; the input reads as it did. -/
def fnTidyFormUptoRow : OpenClaim := { program := "ytamaejafddmagaa", sum := "e3a2bdf419da4280f13517326ef18c2985019767ccc2f6df8570b54ed2094074", func := "loop.example/keelson/laws.FnTidyForm", spec := "fnTidyForm", unfollowed := true, recurses := true, apart := false, narrowed := true }
def FnTidyFormUptoSaid : Prop := fnTidyFormUptoRow.holds Try.pinned (OpenSpec.upto fnTidyFormSpec)

/-- 'laws.FnSpanRank', WHERE WHAT IT READS IS OF BULK AT MOST 1048576: true; the input reads as it did. -/
def fnSpanRankUptoRow : OpenClaim := { program := "ytamaejafddmagaa", sum := "e3a2bdf419da4280f13517326ef18c2985019767ccc2f6df8570b54ed2094074", func := "loop.example/keelson/laws.FnSpanRank", spec := "fnSpanRank", unfollowed := true, recurses := true, apart := false, narrowed := true }
def FnSpanRankUptoSaid : Prop := fnSpanRankUptoRow.holds Try.pinned (OpenSpec.upto fnSpanRankSpec)

/-- 'laws.FnExactCodeBears', WHERE WHAT IT READS IS OF BULK AT MOST 1048576: true; the input reads as it did. -/
def fnExactCodeBearsUptoRow : OpenClaim := { program := "ytamaejafddmagaa", sum := "e3a2bdf419da4280f13517326ef18c2985019767ccc2f6df8570b54ed2094074", func := "loop.example/keelson/laws.FnExactCodeBears", spec := "fnExactCodeBears", unfollowed := true, recurses := true, apart := false, narrowed := true }
def FnExactCodeBearsUptoSaid : Prop := fnExactCodeBearsUptoRow.holds Try.pinned (OpenSpec.upto fnExactCodeBearsSpec)

/-- 'laws.FnExactCodeMost', WHERE WHAT IT READS IS OF BULK AT MOST 1048576: true; the input reads as it did. -/
def fnExactCodeMostUptoRow : OpenClaim := { program := "ytamaejafddmagaa", sum := "e3a2bdf419da4280f13517326ef18c2985019767ccc2f6df8570b54ed2094074", func := "loop.example/keelson/laws.FnExactCodeMost", spec := "fnExactCodeMost", unfollowed := true, recurses := true, apart := false, narrowed := true }
def FnExactCodeMostUptoSaid : Prop := fnExactCodeMostUptoRow.holds Try.pinned (OpenSpec.upto fnExactCodeMostSpec)

/-- 'laws.FnWideAny', WHERE WHAT IT READS IS OF BULK AT MOST 1048576: true; the input reads as it did. -/
def fnWideAnyUptoRow : OpenClaim := { program := "ytamaejafddmagaa", sum := "e3a2bdf419da4280f13517326ef18c2985019767ccc2f6df8570b54ed2094074", func := "loop.example/keelson/laws.FnWideAny", spec := "fnWideAny", unfollowed := true, recurses := true, apart := false, narrowed := true }
def FnWideAnyUptoSaid : Prop := fnWideAnyUptoRow.holds Try.pinned (OpenSpec.upto fnWideAnySpec)

/-- 'laws.FnMost', WHERE WHAT IT READS IS OF BULK AT MOST 1048576: true; the input reads as it did. -/
def fnMostUptoRow : OpenClaim := { program := "ytamaejafddmagaa", sum := "e3a2bdf419da4280f13517326ef18c2985019767ccc2f6df8570b54ed2094074", func := "loop.example/keelson/laws.FnMost", spec := "fnMost", unfollowed := true, recurses := true, apart := false, narrowed := true }
def FnMostUptoSaid : Prop := fnMostUptoRow.holds Try.pinned (OpenSpec.upto fnMostSpec)

/-- 'laws.FnBears', WHERE WHAT IT READS IS OF BULK AT MOST 1048576: true; the input reads as it did. -/
def fnBearsUptoRow : OpenClaim := { program := "ytamaejafddmagaa", sum := "e3a2bdf419da4280f13517326ef18c2985019767ccc2f6df8570b54ed2094074", func := "loop.example/keelson/laws.FnBears", spec := "fnBears", unfollowed := true, recurses := true, apart := false, narrowed := true }
def FnBearsUptoSaid : Prop := fnBearsUptoRow.holds Try.pinned (OpenSpec.upto fnBearsSpec)

/-- 'laws.FnApart', WHERE WHAT IT READS IS OF BULK AT MOST 1048576: true; the input reads as it did. -/
def fnApartUptoRow : OpenClaim := { program := "ytamaejafddmagaa", sum := "e3a2bdf419da4280f13517326ef18c2985019767ccc2f6df8570b54ed2094074", func := "loop.example/keelson/laws.FnApart", spec := "fnApart", unfollowed := true, recurses := true, apart := false, narrowed := true }
def FnApartUptoSaid : Prop := fnApartUptoRow.holds Try.pinned (OpenSpec.upto fnApartSpec)

/-- 'laws.FnFitsAll', WHERE WHAT IT READS IS OF BULK AT MOST 1048576: true; the input reads as it did. -/
def fnFitsAllUptoRow : OpenClaim := { program := "ytamaejafddmagaa", sum := "e3a2bdf419da4280f13517326ef18c2985019767ccc2f6df8570b54ed2094074", func := "loop.example/keelson/laws.FnFitsAll", spec := "fnFitsAll", unfollowed := true, recurses := true, apart := false, narrowed := true }
def FnFitsAllUptoSaid : Prop := fnFitsAllUptoRow.holds Try.pinned (OpenSpec.upto fnFitsAllSpec)

/-- 'laws.FnExactCodeFits', WHERE WHAT IT READS IS OF BULK AT MOST 1048576: true; the input reads as it did. -/
def fnExactCodeFitsUptoRow : OpenClaim := { program := "ytamaejafddmagaa", sum := "e3a2bdf419da4280f13517326ef18c2985019767ccc2f6df8570b54ed2094074", func := "loop.example/keelson/laws.FnExactCodeFits", spec := "fnExactCodeFits", unfollowed := true, recurses := true, apart := false, narrowed := true }
def FnExactCodeFitsUptoSaid : Prop := fnExactCodeFitsUptoRow.holds Try.pinned (OpenSpec.upto fnExactCodeFitsSpec)

/-- 'laws.FnFits', WHERE WHAT IT READS IS OF BULK AT MOST 1048576: true; the input reads as it did. -/
def fnFitsUptoRow : OpenClaim := { program := "ytamaejafddmagaa", sum := "e3a2bdf419da4280f13517326ef18c2985019767ccc2f6df8570b54ed2094074", func := "loop.example/keelson/laws.FnFits", spec := "fnFits", unfollowed := true, recurses := true, apart := false, narrowed := true }
def FnFitsUptoSaid : Prop := fnFitsUptoRow.holds Try.pinned (OpenSpec.upto fnFitsSpec)

end Rows
end Go.Proofs.Ytamaejafddmagaa
