/- Laid for this claim by a program of this session's (wip/mkprint.py, wip/ext.py); not trusted: Lean checks it. -/
import Derived.Test.YtfogpifjpnonnaaPWaterfallTakesx0
import Derived.Test.YtfogpifjpnonnaaPWaterfallTakesx1
import Derived.Test.YtfogpifjpnonnaaPWaterfallTakesx2
import Derived.Test.YtfogpifjpnonnaaPWaterfallTakesx3
import Derived.Test.YtfogpifjpnonnaaPWaterfallTakesx4
import Derived.Test.YtfogpifjpnonnaaPWaterfallTakesx5
import Derived.Test.YtfogpifjpnonnaaPWaterfallTakesx6
import Derived.Test.YtfogpifjpnonnaaPWaterfallTakesx7
import Derived.Test.YtfogpifjpnonnaaPWaterfallTakesx8
import Derived.Test.YtfogpifjpnonnaaPWaterfallTakesx9
import Derived.Test.YtfogpifjpnonnaaPWaterfallTakesx10
import Derived.Test.YtfogpifjpnonnaaPWaterfallTakesx11
import Derived.Test.YtfogpifjpnonnaaPWaterfallTakesx12
import Derived.Test.YtfogpifjpnonnaaPWaterfallTakesx13
import Derived.Test.YtfogpifjpnonnaaPWaterfallTakesx14
import Derived.Test.YtfogpifjpnonnaaPWaterfallTakesx15
import Derived.Test.YtfogpifjpnonnaaPWaterfallTakesx16
namespace Go.Proofs.Ytfogpifjpnonnaa.PWaterfallTakes
open Go.RowKit Go.Proofs.YtfogpifjpnonnaaW.PrintWords Go.Proofs.YtfogpifjpnonnaaW.PrintLast Go.Proofs.YtfogpifjpnonnaaW.PrintMore
attribute [local go_sem] max2_int min2_int max_two min_two max_three min_three max_four min_four   -- for this text's walks alone
set_option linter.unusedVariables false
set_option linter.unusedSimpArgs false

end Go.Proofs.Ytfogpifjpnonnaa.PWaterfallTakes
