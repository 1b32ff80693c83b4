/- Laid for this claim by a program of this session's (wip/mkprint.py, wip/ext.py); not trusted: Lean checks it. -/
import Derived.Test.YtfogpifjpnonnaaPWaterfallReturnsx0
import Derived.Test.YtfogpifjpnonnaaPWaterfallReturnsx1
import Derived.Test.YtfogpifjpnonnaaPWaterfallReturnsx2
import Derived.Test.YtfogpifjpnonnaaPWaterfallReturnsx3
import Derived.Test.YtfogpifjpnonnaaPWaterfallReturnsx4
import Derived.Test.YtfogpifjpnonnaaPWaterfallReturnsx5
import Derived.Test.YtfogpifjpnonnaaPWaterfallReturnsx6
import Derived.Test.YtfogpifjpnonnaaPWaterfallReturnsx7
import Derived.Test.YtfogpifjpnonnaaPWaterfallReturnsx8
import Derived.Test.YtfogpifjpnonnaaPWaterfallReturnsx9
import Derived.Test.YtfogpifjpnonnaaPWaterfallReturnsx10
import Derived.Test.YtfogpifjpnonnaaPWaterfallReturnsx11
import Derived.Test.YtfogpifjpnonnaaPWaterfallReturnsx12
import Derived.Test.YtfogpifjpnonnaaPWaterfallReturnsx13
import Derived.Test.YtfogpifjpnonnaaPWaterfallReturnsx14
import Derived.Test.YtfogpifjpnonnaaPWaterfallReturnsx15
import Derived.Test.YtfogpifjpnonnaaPWaterfallReturnsx16
import Derived.Test.YtfogpifjpnonnaaPWaterfallReturnsx17
import Derived.Test.YtfogpifjpnonnaaPWaterfallReturnsx18
namespace Go.Proofs.Ytfogpifjpnonnaa.PWaterfallReturns
open Go.RowKit Go.Proofs.YtfogpifjpnonnaaW.PrintWords Go.Proofs.YtfogpifjpnonnaaW.PrintLast Go.Proofs.YtfogpifjpnonnaaW.PrintMore
attribute [local go_sem] max2_int min2_int max_two min_two max_three min_three max_four min_four   -- for this text's walks alone
set_option linter.unusedVariables false
set_option linter.unusedSimpArgs false

end Go.Proofs.Ytfogpifjpnonnaa.PWaterfallReturns
