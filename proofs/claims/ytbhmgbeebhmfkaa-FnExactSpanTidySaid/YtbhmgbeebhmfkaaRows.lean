/-
  No cell of these rows narrows 'for every input' (looked for: loops, veiled, ifaces, maps, wideKeys, modest, calm, conditions, laid).
  DERIVED. THE GIVEN ROWS OF THIS SEAT. 12 by the template 'for every input the law returns true; each argument reads behind the call as it read before'; 0 by the template 'total and deterministic' (their statements: YtbhmgbeebhmfkaaTotals.lean).
  GIVEN WITH THE SEED: the statements are not yours to turn. If you find one false, say at which input.
  Laid BY PROGRAM, IN A SANDBOX (cutbox-rows.mjs): the forced cells as the released guide's own fill.sh prints them over the translation 69be59f8674ba086… (all of the seat's roots in one cut). By AI agents, Wed Nov 11 2026. No macro, syntax, notation, axiom, sorry.
-/
import Derived.Test.YtbhmgbeebhmfkaaChecked
import GoSem.Claim
import GoSem.ClaimJoined
import GoSem.ClaimMapViews
import Derived.JoinedTies
import Derived.KernelRfl
namespace Go.Proofs.Ytbhmgbeebhmfkaa
/- THE CELL 'sum', in the pinned program and in every row, IS THE sha256 OF THE DUMP (.gsa) THAT YtbhmgbeebhmfkaaProg.lean LOADS. Nothing in Lean hashes anything: it is a label: what it is worth is what the hold of that sum in a sandbox is worth. -/
noncomputable def Try.pinned : Pinned := { name := "ytbhmgbeebhmfkaa", sum := "69be59f8674ba0868c56afe7ec376ea2efce7503a1774887eda0343aa67a6896", checked := Try.checked }
namespace Rows
def none {H : Type} : Left H := { results := [], args := [] }

/-- 'laws.FnExactSpanRank': WHATEVER THE INPUT: true; the input reads as it did. -/
def fnExactSpanRankSpec : ChangeSpec := { name := "fnExactSpanRank", fn := fun _ => fun
  | [d] => { results := [.lit (.bool true)], args := [d] }
  | _ => none }
def fnExactSpanRankRow : OpenClaim := { program := "ytbhmgbeebhmfkaa", sum := "69be59f8674ba0868c56afe7ec376ea2efce7503a1774887eda0343aa67a6896", func := "loop.example/keelson/laws.FnExactSpanRank", spec := "fnExactSpanRank", unfollowed := true, recurses := true, apart := false }
def FnExactSpanRankSaid : Prop := fnExactSpanRankRow.holds Try.pinned (OpenSpec.ofChange fnExactSpanRankSpec)

/-- ITS FALSE NEIGHBOUR: 'it returns false'. Refute it at one input. -/
def fnExactSpanRankWrong : ChangeSpec := { name := "fnExactSpanRank", fn := fun _ => fun
  | [d] => { results := [.lit (.bool false)], args := [d] }
  | _ => none }
def FnExactSpanRankWrongFalsely : Prop := fnExactSpanRankRow.holds Try.pinned (OpenSpec.ofChange fnExactSpanRankWrong)

/-- 'laws.FnExactSpanHas': WHATEVER THE INPUT: true; the input reads as it did. -/
def fnExactSpanHasSpec : ChangeSpec := { name := "fnExactSpanHas", fn := fun _ => fun
  | [d1, d2] => { results := [.lit (.bool true)], args := [d1, d2] }
  | _ => none }
def fnExactSpanHasRow : OpenClaim := { program := "ytbhmgbeebhmfkaa", sum := "69be59f8674ba0868c56afe7ec376ea2efce7503a1774887eda0343aa67a6896", func := "loop.example/keelson/laws.FnExactSpanHas", spec := "fnExactSpanHas", unfollowed := true, recurses := true, apart := false }
def FnExactSpanHasSaid : Prop := fnExactSpanHasRow.holds Try.pinned (OpenSpec.ofChange fnExactSpanHasSpec)

/-- ITS FALSE NEIGHBOUR: 'it returns false'. Refute it at one input. -/
def fnExactSpanHasWrong : ChangeSpec := { name := "fnExactSpanHas", fn := fun _ => fun
  | [d1, d2] => { results := [.lit (.bool false)], args := [d1, d2] }
  | _ => none }
def FnExactSpanHasWrongFalsely : Prop := fnExactSpanHasRow.holds Try.pinned (OpenSpec.ofChange fnExactSpanHasWrong)

/-- 'laws.FnExactSpanFirst': WHATEVER THE INPUT: true; the input reads as it did. -/
def fnExactSpanFirstSpec : ChangeSpec := { name := "fnExactSpanFirst", fn := fun _ => fun
  | [d] => { results := [.lit (.bool true)], args := [d] }
  | _ => none }
def fnExactSpanFirstRow : OpenClaim := { program := "ytbhmgbeebhmfkaa", sum := "69be59f8674ba0868c56afe7ec376ea2efce7503a1774887eda0343aa67a6896", func := "loop.example/keelson/laws.FnExactSpanFirst", spec := "fnExactSpanFirst", unfollowed := true, recurses := true, apart := false }
def FnExactSpanFirstSaid : Prop := fnExactSpanFirstRow.holds Try.pinned (OpenSpec.ofChange fnExactSpanFirstSpec)

/-- ITS FALSE NEIGHBOUR: 'it returns false'. Refute it at one input. -/
def fnExactSpanFirstWrong : ChangeSpec := { name := "fnExactSpanFirst", fn := fun _ => fun
  | [d] => { results := [.lit (.bool false)], args := [d] }
  | _ => none }
def FnExactSpanFirstWrongFalsely : Prop := fnExactSpanFirstRow.holds Try.pinned (OpenSpec.ofChange fnExactSpanFirstWrong)

/-- 'laws.FnExactSpanBy': WHATEVER THE INPUT: true; the input reads as it did. -/
def fnExactSpanBySpec : ChangeSpec := { name := "fnExactSpanBy", fn := fun _ => fun
  | [d1, d2] => { results := [.lit (.bool true)], args := [d1, d2] }
  | _ => none }
def fnExactSpanByRow : OpenClaim := { program := "ytbhmgbeebhmfkaa", sum := "69be59f8674ba0868c56afe7ec376ea2efce7503a1774887eda0343aa67a6896", func := "loop.example/keelson/laws.FnExactSpanBy", spec := "fnExactSpanBy", unfollowed := true, recurses := true, apart := false }
def FnExactSpanBySaid : Prop := fnExactSpanByRow.holds Try.pinned (OpenSpec.ofChange fnExactSpanBySpec)

/-- ITS FALSE NEIGHBOUR: 'it returns false'. Refute it at one input. -/
def fnExactSpanByWrong : ChangeSpec := { name := "fnExactSpanBy", fn := fun _ => fun
  | [d1, d2] => { results := [.lit (.bool false)], args := [d1, d2] }
  | _ => none }
def FnExactSpanByWrongFalsely : Prop := fnExactSpanByRow.holds Try.pinned (OpenSpec.ofChange fnExactSpanByWrong)

/-- 'laws.FnExactSpanSame': WHATEVER THE INPUT: true; the input reads as it did. -/
def fnExactSpanSameSpec : ChangeSpec := { name := "fnExactSpanSame", fn := fun _ => fun
  | [d1, d2] => { results := [.lit (.bool true)], args := [d1, d2] }
  | _ => none }
def fnExactSpanSameRow : OpenClaim := { program := "ytbhmgbeebhmfkaa", sum := "69be59f8674ba0868c56afe7ec376ea2efce7503a1774887eda0343aa67a6896", func := "loop.example/keelson/laws.FnExactSpanSame", spec := "fnExactSpanSame", unfollowed := true, recurses := true, apart := false }
def FnExactSpanSameSaid : Prop := fnExactSpanSameRow.holds Try.pinned (OpenSpec.ofChange fnExactSpanSameSpec)

/-- ITS FALSE NEIGHBOUR: 'it returns false'. Refute it at one input. -/
def fnExactSpanSameWrong : ChangeSpec := { name := "fnExactSpanSame", fn := fun _ => fun
  | [d1, d2] => { results := [.lit (.bool false)], args := [d1, d2] }
  | _ => none }
def FnExactSpanSameWrongFalsely : Prop := fnExactSpanSameRow.holds Try.pinned (OpenSpec.ofChange fnExactSpanSameWrong)

/-- 'laws.FnExactSpanTidy': WHATEVER THE INPUT: true; the input reads as it did. -/
def fnExactSpanTidySpec : ChangeSpec := { name := "fnExactSpanTidy", fn := fun _ => fun
  | [d] => { results := [.lit (.bool true)], args := [d] }
  | _ => none }
def fnExactSpanTidyRow : OpenClaim := { program := "ytbhmgbeebhmfkaa", sum := "69be59f8674ba0868c56afe7ec376ea2efce7503a1774887eda0343aa67a6896", func := "loop.example/keelson/laws.FnExactSpanTidy", spec := "fnExactSpanTidy", unfollowed := true, recurses := true, apart := false }
def FnExactSpanTidySaid : Prop := fnExactSpanTidyRow.holds Try.pinned (OpenSpec.ofChange fnExactSpanTidySpec)

/-- ITS FALSE NEIGHBOUR: 'it returns false'. Refute it at one input. -/
def fnExactSpanTidyWrong : ChangeSpec := { name := "fnExactSpanTidy", fn := fun _ => fun
  | [d] => { results := [.lit (.bool false)], args := [d] }
  | _ => none }
def FnExactSpanTidyWrongFalsely : Prop := fnExactSpanTidyRow.holds Try.pinned (OpenSpec.ofChange fnExactSpanTidyWrong)

/-- 'laws.FnSpanFirst': WHATEVER THE INPUT: true; the input reads as it did. -/
def fnSpanFirstSpec : ChangeSpec := { name := "fnSpanFirst", fn := fun _ => fun
  | [d] => { results := [.lit (.bool true)], args := [d] }
  | _ => none }
def fnSpanFirstRow : OpenClaim := { program := "ytbhmgbeebhmfkaa", sum := "69be59f8674ba0868c56afe7ec376ea2efce7503a1774887eda0343aa67a6896", func := "loop.example/keelson/laws.FnSpanFirst", spec := "fnSpanFirst", unfollowed := true, recurses := true, apart := false }
def FnSpanFirstSaid : Prop := fnSpanFirstRow.holds Try.pinned (OpenSpec.ofChange fnSpanFirstSpec)

/-- ITS FALSE NEIGHBOUR: 'it returns false'. Refute it at one input. -/
def fnSpanFirstWrong : ChangeSpec := { name := "fnSpanFirst", fn := fun _ => fun
  | [d] => { results := [.lit (.bool false)], args := [d] }
  | _ => none }
def FnSpanFirstWrongFalsely : Prop := fnSpanFirstRow.holds Try.pinned (OpenSpec.ofChange fnSpanFirstWrong)

/-- 'laws.FnTidySame': WHATEVER THE INPUT: true; the input reads as it did. -/
def fnTidySameSpec : ChangeSpec := { name := "fnTidySame", fn := fun _ => fun
  | [d] => { results := [.lit (.bool true)], args := [d] }
  | _ => none }
def fnTidySameRow : OpenClaim := { program := "ytbhmgbeebhmfkaa", sum := "69be59f8674ba0868c56afe7ec376ea2efce7503a1774887eda0343aa67a6896", func := "loop.example/keelson/laws.FnTidySame", spec := "fnTidySame", unfollowed := true, recurses := true, apart := false }
def FnTidySameSaid : Prop := fnTidySameRow.holds Try.pinned (OpenSpec.ofChange fnTidySameSpec)

/-- ITS FALSE NEIGHBOUR: 'it returns false'. Refute it at one input. -/
def fnTidySameWrong : ChangeSpec := { name := "fnTidySame", fn := fun _ => fun
  | [d] => { results := [.lit (.bool false)], args := [d] }
  | _ => none }
def FnTidySameWrongFalsely : Prop := fnTidySameRow.holds Try.pinned (OpenSpec.ofChange fnTidySameWrong)

/-- 'laws.FnSpanSame': WHATEVER THE INPUT: true; the input reads as it did. -/
def fnSpanSameSpec : ChangeSpec := { name := "fnSpanSame", fn := fun _ => fun
  | [d] => { results := [.lit (.bool true)], args := [d] }
  | _ => none }
def fnSpanSameRow : OpenClaim := { program := "ytbhmgbeebhmfkaa", sum := "69be59f8674ba0868c56afe7ec376ea2efce7503a1774887eda0343aa67a6896", func := "loop.example/keelson/laws.FnSpanSame", spec := "fnSpanSame", unfollowed := true, recurses := true, apart := false }
def FnSpanSameSaid : Prop := fnSpanSameRow.holds Try.pinned (OpenSpec.ofChange fnSpanSameSpec)

/-- ITS FALSE NEIGHBOUR: 'it returns false'. Refute it at one input. -/
def fnSpanSameWrong : ChangeSpec := { name := "fnSpanSame", fn := fun _ => fun
  | [d] => { results := [.lit (.bool false)], args := [d] }
  | _ => none }
def FnSpanSameWrongFalsely : Prop := fnSpanSameRow.holds Try.pinned (OpenSpec.ofChange fnSpanSameWrong)

/-- 'laws.FnSpanHas': WHATEVER THE INPUT: true; the input reads as it did. -/
def fnSpanHasSpec : ChangeSpec := { name := "fnSpanHas", fn := fun _ => fun
  | [d1, d2] => { results := [.lit (.bool true)], args := [d1, d2] }
  | _ => none }
def fnSpanHasRow : OpenClaim := { program := "ytbhmgbeebhmfkaa", sum := "69be59f8674ba0868c56afe7ec376ea2efce7503a1774887eda0343aa67a6896", func := "loop.example/keelson/laws.FnSpanHas", spec := "fnSpanHas", unfollowed := true, recurses := true, apart := false }
def FnSpanHasSaid : Prop := fnSpanHasRow.holds Try.pinned (OpenSpec.ofChange fnSpanHasSpec)

/-- ITS FALSE NEIGHBOUR: 'it returns false'. Refute it at one input. -/
def fnSpanHasWrong : ChangeSpec := { name := "fnSpanHas", fn := fun _ => fun
  | [d1, d2] => { results := [.lit (.bool false)], args := [d1, d2] }
  | _ => none }
def FnSpanHasWrongFalsely : Prop := fnSpanHasRow.holds Try.pinned (OpenSpec.ofChange fnSpanHasWrong)

/-- 'laws.FnSpanOne': WHATEVER THE INPUT: true; the input reads as it did. -/
def fnSpanOneSpec : ChangeSpec := { name := "fnSpanOne", fn := fun _ => fun
  | [d1, d2] => { results := [.lit (.bool true)], args := [d1, d2] }
  | _ => none }
def fnSpanOneRow : OpenClaim := { program := "ytbhmgbeebhmfkaa", sum := "69be59f8674ba0868c56afe7ec376ea2efce7503a1774887eda0343aa67a6896", func := "loop.example/keelson/laws.FnSpanOne", spec := "fnSpanOne", unfollowed := true, recurses := true, apart := false }
def FnSpanOneSaid : Prop := fnSpanOneRow.holds Try.pinned (OpenSpec.ofChange fnSpanOneSpec)

/-- ITS FALSE NEIGHBOUR: 'it returns false'. Refute it at one input. -/
def fnSpanOneWrong : ChangeSpec := { name := "fnSpanOne", fn := fun _ => fun
  | [d1, d2] => { results := [.lit (.bool false)], args := [d1, d2] }
  | _ => none }
def FnSpanOneWrongFalsely : Prop := fnSpanOneRow.holds Try.pinned (OpenSpec.ofChange fnSpanOneWrong)

/-- 'laws.FnSpanBy': WHATEVER THE INPUT: true; the input reads as it did. -/
def fnSpanBySpec : ChangeSpec := { name := "fnSpanBy", fn := fun _ => fun
  | [d] => { results := [.lit (.bool true)], args := [d] }
  | _ => none }
def fnSpanByRow : OpenClaim := { program := "ytbhmgbeebhmfkaa", sum := "69be59f8674ba0868c56afe7ec376ea2efce7503a1774887eda0343aa67a6896", func := "loop.example/keelson/laws.FnSpanBy", spec := "fnSpanBy", unfollowed := true, recurses := true, apart := false }
def FnSpanBySaid : Prop := fnSpanByRow.holds Try.pinned (OpenSpec.ofChange fnSpanBySpec)

/-- ITS FALSE NEIGHBOUR: 'it returns false'. Refute it at one input. -/
def fnSpanByWrong : ChangeSpec := { name := "fnSpanBy", fn := fun _ => fun
  | [d] => { results := [.lit (.bool false)], args := [d] }
  | _ => none }
def FnSpanByWrongFalsely : Prop := fnSpanByRow.holds Try.pinned (OpenSpec.ofChange fnSpanByWrong)

/- THE SECOND FORM. 'bulk': how many values and letters a reading holds, each counted each time it is reached (what is shared counts as often as it is met; a slice's spare places count too). A statement '..UptoSaid' is the law's where the arguments, and the package variables that the reading takes, are together of bulk at most 1048576: NARROWER than '..Said'. Prove '..Said' where nothing that the law and all that it calls make is longer than what came in: it says more and counts as full. Else prove '..UptoSaid'. A law counts once. -/
mutual
def uptoBulk {H : Type} : DataW H → Nat
  | .lit (.string bytes) => bytes.length + 1
  | .lit _ => 1
  | .nil => 1
  | .ptr d => uptoBulk d + 1
  | .slice elems spare => uptoBulkAll elems + uptoBulkAll spare + 1
  | .agg parts => uptoBulkAll parts + 1
  | .iface _ d => uptoBulk d + 1
  | .map entries => uptoBulkEntries entries + 1
  | .held _ => 1
def uptoBulkAll {H : Type} : List (DataW H) → Nat
  | [] => 0
  | d :: r => uptoBulk d + uptoBulkAll r
def uptoBulkEntries {H : Type} : List (Lit × DataW H) → Nat
  | [] => 0
  | x :: r => uptoBulkEntry x + uptoBulkEntries r
def uptoBulkEntry {H : Type} : Lit × DataW H → Nat
  | (.string bytes, d) => bytes.length + uptoBulk d + 1
  | (_, d) => uptoBulk d + 1
 end
def uptoSmall : (H : Type) → List (DataW H) → Bool := fun _ ds => decide (uptoBulkAll ds ≤ 1048576)
def OpenSpec.upto (s : _root_.Go.ChangeSpec) : _root_.Go.OpenSpec := { _root_.Go.OpenSpec.ofChange s with cond := some uptoSmall }

/-- 'laws.FnExactSpanRank', WHERE WHAT IT READS IS OF BULK AT MOST 1048576: true; the input reads as it did. -/
def fnExactSpanRankUptoRow : OpenClaim := { program := "ytbhmgbeebhmfkaa", sum := "69be59f8674ba0868c56afe7ec376ea2efce7503a1774887eda0343aa67a6896", func := "loop.example/keelson/laws.FnExactSpanRank", spec := "fnExactSpanRank", unfollowed := true, recurses := true, apart := false, narrowed := true }
def FnExactSpanRankUptoSaid : Prop := fnExactSpanRankUptoRow.holds Try.pinned (OpenSpec.upto fnExactSpanRankSpec)

/-- 'laws.FnExactSpanHas', WHERE WHAT IT READS IS OF BULK AT MOST 1048576: true; the input reads as it did. -/
def fnExactSpanHasUptoRow : OpenClaim := { program := "ytbhmgbeebhmfkaa", sum := "69be59f8674ba0868c56afe7ec376ea2efce7503a1774887eda0343aa67a6896", func := "loop.example/keelson/laws.FnExactSpanHas", spec := "fnExactSpanHas", unfollowed := true, recurses := true, apart := false, narrowed := true }
def FnExactSpanHasUptoSaid : Prop := fnExactSpanHasUptoRow.holds Try.pinned (OpenSpec.upto fnExactSpanHasSpec)

/-- 'laws.FnExactSpanFirst', WHERE WHAT IT READS IS OF BULK AT MOST 1048576: true; the input reads as it did. -/
def fnExactSpanFirstUptoRow : OpenClaim := { program := "ytbhmgbeebhmfkaa", sum := "69be59f8674ba0868c56afe7ec376ea2efce7503a1774887eda0343aa67a6896", func := "loop.example/keelson/laws.FnExactSpanFirst", spec := "fnExactSpanFirst", unfollowed := true, recurses := true, apart := false, narrowed := true }
def FnExactSpanFirstUptoSaid : Prop := fnExactSpanFirstUptoRow.holds Try.pinned (OpenSpec.upto fnExactSpanFirstSpec)

/-- 'laws.FnExactSpanBy', WHERE WHAT IT READS IS OF BULK AT MOST 1048576: true; the input reads as it did. -/
def fnExactSpanByUptoRow : OpenClaim := { program := "ytbhmgbeebhmfkaa", sum := "69be59f8674ba0868c56afe7ec376ea2efce7503a1774887eda0343aa67a6896", func := "loop.example/keelson/laws.FnExactSpanBy", spec := "fnExactSpanBy", unfollowed := true, recurses := true, apart := false, narrowed := true }
def FnExactSpanByUptoSaid : Prop := fnExactSpanByUptoRow.holds Try.pinned (OpenSpec.upto fnExactSpanBySpec)

/-- 'laws.FnExactSpanSame', WHERE WHAT IT READS IS OF BULK AT MOST 1048576: true; the input reads as it did. -/
def fnExactSpanSameUptoRow : OpenClaim := { program := "ytbhmgbeebhmfkaa", sum := "69be59f8674ba0868c56afe7ec376ea2efce7503a1774887eda0343aa67a6896", func := "loop.example/keelson/laws.FnExactSpanSame", spec := "fnExactSpanSame", unfollowed := true, recurses := true, apart := false, narrowed := true }
def FnExactSpanSameUptoSaid : Prop := fnExactSpanSameUptoRow.holds Try.pinned (OpenSpec.upto fnExactSpanSameSpec)

/-- 'laws.FnExactSpanTidy', WHERE WHAT IT READS IS OF BULK AT MOST 1048576: true; the input reads as it did. -/
def fnExactSpanTidyUptoRow : OpenClaim := { program := "ytbhmgbeebhmfkaa", sum := "69be59f8674ba0868c56afe7ec376ea2efce7503a1774887eda0343aa67a6896", func := "loop.example/keelson/laws.FnExactSpanTidy", spec := "fnExactSpanTidy", unfollowed := true, recurses := true, apart := false, narrowed := true }
def FnExactSpanTidyUptoSaid : Prop := fnExactSpanTidyUptoRow.holds Try.pinned (OpenSpec.upto fnExactSpanTidySpec)

/-- 'laws.FnSpanFirst', WHERE WHAT IT READS IS OF BULK AT MOST 1048576: true; the input reads as it did. -/
def fnSpanFirstUptoRow : OpenClaim := { program := "ytbhmgbeebhmfkaa", sum := "69be59f8674ba0868c56afe7ec376ea2efce7503a1774887eda0343aa67a6896", func := "loop.example/keelson/laws.FnSpanFirst", spec := "fnSpanFirst", unfollowed := true, recurses := true, apart := false, narrowed := true }
def FnSpanFirstUptoSaid : Prop := fnSpanFirstUptoRow.holds Try.pinned (OpenSpec.upto fnSpanFirstSpec)

/-- 'laws.FnTidySame', WHERE WHAT IT READS IS OF BULK AT MOST 1048576: true; the input reads as it did. -/
def fnTidySameUptoRow : OpenClaim := { program := "ytbhmgbeebhmfkaa", sum := "69be59f8674ba0868c56afe7ec376ea2efce7503a1774887eda0343aa67a6896", func := "loop.example/keelson/laws.FnTidySame", spec := "fnTidySame", unfollowed := true, recurses := true, apart := false, narrowed := true }
def FnTidySameUptoSaid : Prop := fnTidySameUptoRow.holds Try.pinned (OpenSpec.upto fnTidySameSpec)

/-- 'laws.FnSpanSame', WHERE WHAT IT READS IS OF BULK AT MOST 1048576: true; the input reads as it did. -/
def fnSpanSameUptoRow : OpenClaim := { program := "ytbhmgbeebhmfkaa", sum := "69be59f8674ba0868c56afe7ec376ea2efce7503a1774887eda0343aa67a6896", func := "loop.example/keelson/laws.FnSpanSame", spec := "fnSpanSame", unfollowed := true, recurses := true, apart := false, narrowed := true }
def FnSpanSameUptoSaid : Prop := fnSpanSameUptoRow.holds Try.pinned (OpenSpec.upto fnSpanSameSpec)

/-- 'laws.FnSpanHas', WHERE WHAT IT READS IS OF BULK AT MOST 1048576: true; the input reads as it did. -/
def fnSpanHasUptoRow : OpenClaim := { program := "ytbhmgbeebhmfkaa", sum := "69be59f8674ba0868c56afe7ec376ea2efce7503a1774887eda0343aa67a6896", func := "loop.example/keelson/laws.FnSpanHas", spec := "fnSpanHas", unfollowed := true, recurses := true, apart := false, narrowed := true }
def FnSpanHasUptoSaid : Prop := fnSpanHasUptoRow.holds Try.pinned (OpenSpec.upto fnSpanHasSpec)

/-- 'laws.FnSpanOne', WHERE WHAT IT READS IS OF BULK AT MOST 1048576: true; the input reads as it did. -/
def fnSpanOneUptoRow : OpenClaim := { program := "ytbhmgbeebhmfkaa", sum := "69be59f8674ba0868c56afe7ec376ea2efce7503a1774887eda0343aa67a6896", func := "loop.example/keelson/laws.FnSpanOne", spec := "fnSpanOne", unfollowed := true, recurses := true, apart := false, narrowed := true }
def FnSpanOneUptoSaid : Prop := fnSpanOneUptoRow.holds Try.pinned (OpenSpec.upto fnSpanOneSpec)

/-- 'laws.FnSpanBy', WHERE WHAT IT READS IS OF BULK AT MOST 1048576: true; the input reads as it did. -/
def fnSpanByUptoRow : OpenClaim := { program := "ytbhmgbeebhmfkaa", sum := "69be59f8674ba0868c56afe7ec376ea2efce7503a1774887eda0343aa67a6896", func := "loop.example/keelson/laws.FnSpanBy", spec := "fnSpanBy", unfollowed := true, recurses := true, apart := false, narrowed := true }
def FnSpanByUptoSaid : Prop := fnSpanByUptoRow.holds Try.pinned (OpenSpec.upto fnSpanBySpec)

end Rows
end Go.Proofs.Ytbhmgbeebhmfkaa
