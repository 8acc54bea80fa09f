-- Written by a program of this session (after the manner of the kit's print, several laws in one text).
import Derived.Test.YtlafdcaplmgjkaaPAx0
import Derived.Test.YtlafdcaplmgjkaaPAx1
import Derived.Test.YtlafdcaplmgjkaaPAx2
import Derived.Test.YtlafdcaplmgjkaaPAx3
import Derived.Test.YtlafdcaplmgjkaaPAx4
import Derived.Test.YtlafdcaplmgjkaaPAx5
namespace Go.Proofs.Ytlafdcaplmgjkaa.PA
open Go.RowKit Go.Proofs.YtlafdcaplmgjkaaW.PrintWords Go.Proofs.YtlafdcaplmgjkaaW.PrintLast Go.Proofs.YtlafdcaplmgjkaaW.PrintMore
attribute [local go_sem] max2_int min2_int max_two min_two max_three min_three max_four min_four   -- for this text's walks alone
set_option linter.unusedVariables false
set_option linter.unusedSimpArgs false

end Go.Proofs.Ytlafdcaplmgjkaa.PA
