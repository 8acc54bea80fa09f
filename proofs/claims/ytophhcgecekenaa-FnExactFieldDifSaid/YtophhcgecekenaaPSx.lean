-- Written by a program of this session (after the manner of the kit's print, several laws in one text).
import Derived.Test.YtophhcgecekenaaPSx0
import Derived.Test.YtophhcgecekenaaPSx1
import Derived.Test.YtophhcgecekenaaPSx2
import Derived.Test.YtophhcgecekenaaPSx3
import Derived.Test.YtophhcgecekenaaPSx4
namespace Go.Proofs.Ytophhcgecekenaa.PS
open Go.RowKit Go.Proofs.YtophhcgecekenaaW.PrintWords Go.Proofs.YtophhcgecekenaaW.PrintLast Go.Proofs.YtophhcgecekenaaW.PrintMore
attribute [local go_sem] max2_int min2_int max_two min_two max_three min_three max_four min_four   -- for this text's walks alone
set_option linter.unusedVariables false
set_option linter.unusedSimpArgs false

end Go.Proofs.Ytophhcgecekenaa.PS
