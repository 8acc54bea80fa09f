import Derived.Test.YtbhmgbeebhmfkaaWInv
import Derived.Test.YtbhmgbeebhmfkaaWFootNe
namespace Go.Proofs.YtbhmgbeebhmfkaaW.PrintWords
open Go.RowKit
end Go.Proofs.YtbhmgbeebhmfkaaW.PrintWords
namespace Go.Proofs.YtbhmgbeebhmfkaaW.PrintLast
section
variable {ops : Array Oper} {a : Act} {o og : Oper} {g : Nat} {t : Tmp} {u : Bool}
end
end Go.Proofs.YtbhmgbeebhmfkaaW.PrintLast
