/- Laid for this claim by a program of this session's (wip/mkprint.py, wip/ext.py); not trusted: Lean checks it. -/
import Derived.Test.YtlcadahihcefnaaPTopAveragex0
import Derived.Test.YtlcadahihcefnaaPTopAveragex1
import Derived.Test.YtlcadahihcefnaaPTopAveragex2
import Derived.Test.YtlcadahihcefnaaPTopAveragex3
import Derived.Test.YtlcadahihcefnaaPTopAveragex4
import Derived.Test.YtlcadahihcefnaaPTopAveragex5
import Derived.Test.YtlcadahihcefnaaPTopAveragex6
import Derived.Test.YtlcadahihcefnaaPTopAveragex7
import Derived.Test.YtlcadahihcefnaaPTopAveragex8
namespace Go.Proofs.Ytlcadahihcefnaa.PTopAverage
open Go.RowKit Go.Proofs.YtlcadahihcefnaaW.PrintWords Go.Proofs.YtlcadahihcefnaaW.PrintLast Go.Proofs.YtlcadahihcefnaaW.PrintMore
attribute [local go_sem] max2_int min2_int max_two min_two max_three min_three max_four min_four   -- for this text's walks alone
set_option linter.unusedVariables false
set_option linter.unusedSimpArgs false

end Go.Proofs.Ytlcadahihcefnaa.PTopAverage
