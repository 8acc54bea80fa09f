-- Written by a program of this session (after the manner of the kit's print, several laws in one text).
import Derived.Test.YtophhcgecekenaaProg
import Derived.Below
import Derived.Deep.Draws
import Derived.Deep.AppendLies
import Derived.Maps.AppendAt
import Derived.OwnWalk
import Derived.Laws.BytesArg
import Derived.Laws.MakeOwn
import Derived.Laws.OwnMore
import Derived.Deep.OwnRows
import Derived.Tactics
import Derived.Lib.ConvBytes
import Derived.Laws.Slices
import Derived.WalkKit
import Derived.KernelRfl
import Derived.RowKit3
import Derived.Deep.LoopGhost
import Derived.Deep.QuietTactic
import Derived.BigQuiet
import Derived.WideLaws
import Derived.Deep.DeepCutAuto
import Derived.Deep.CutBlock
import Derived.Deep.RegionHeld3
import Derived.Laws.Rows
import Derived.Lib.AppendStr
import Derived.ArgAppend
import Derived.Laws.IdiomCopy
import Derived.OrdersHeld
import Derived.Laws.BitsLemmas
import Derived.RowKit
import Derived.Test.YtophhcgecekenaaWWords
import Derived.Test.YtophhcgecekenaaWLast
import Derived.Test.YtophhcgecekenaaWTab
import Derived.Test.YtophhcgecekenaaWFour
import Derived.Test.YtophhcgecekenaaWQPut
import Derived.Test.YtophhcgecekenaaWApart
import Derived.Test.YtophhcgecekenaaWArr
import Derived.Test.YtophhcgecekenaaWZeros
import Derived.Test.YtophhcgecekenaaWFoot
import Derived.Test.YtophhcgecekenaaWKept
import Derived.Test.YtophhcgecekenaaWShare
import Derived.Test.YtophhcgecekenaaWN
import Derived.Test.YtophhcgecekenaaWFootNe
import Derived.Test.YtophhcgecekenaaWAt
import Derived.Test.YtophhcgecekenaaWEqStruct
import Derived.Test.YtophhcgecekenaaWRepsOne
import Derived.Test.YtophhcgecekenaaWInv
import Derived.Test.YtophhcgecekenaaWInvWords
import Derived.Test.YtophhcgecekenaaWGuard
import Derived.Test.YtophhcgecekenaaWNEv
import Derived.Test.YtophhcgecekenaaWMore
namespace Go.Proofs.Ytophhcgecekenaa.PS
open Go.RowKit Go.Proofs.YtophhcgecekenaaW.PrintWords Go.Proofs.YtophhcgecekenaaW.PrintLast Go.Proofs.YtophhcgecekenaaW.PrintMore
attribute [local go_sem] max2_int min2_int max_two min_two max_three min_three max_four min_four   -- for this text's walks alone
set_option linter.unusedVariables false
set_option linter.unusedSimpArgs false



def errW : Option Int → Value
  | none => .nilIface
  | some c => .iface 0 (.int .i64 c)
theorem errW_none : errW none = .nilIface := rfl
theorem errW_some (c : Int) : errW (some c) = .iface 0 (.int .i64 c) := rfl

theorem info3 : (Try.prog.info? 3).map (fun i => (i.zero, i.size, i.bytes)) = some (some (.int .i64 0), 1, 8) := by kernel_rfl
theorem info5 : (Try.prog.info? 5).map (fun i => (i.zero, i.size, i.bytes)) = some (some (.int .u8 0), 1, 1) := by kernel_rfl
-- the values' own types

end Go.Proofs.Ytophhcgecekenaa.PS
