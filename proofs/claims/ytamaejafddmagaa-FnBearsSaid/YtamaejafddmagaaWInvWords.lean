import Derived.Test.YtamaejafddmagaaWInv
import Derived.Test.YtamaejafddmagaaWFootNe
namespace Go.Proofs.YtamaejafddmagaaW.PrintWords
open Go.RowKit
end Go.Proofs.YtamaejafddmagaaW.PrintWords
namespace Go.Proofs.YtamaejafddmagaaW.PrintLast
section
variable {ops : Array Oper} {a : Act} {o og : Oper} {g : Nat} {t : Tmp} {u : Bool}
end
end Go.Proofs.YtamaejafddmagaaW.PrintLast
