/- Laid for this claim by a program of this session's (wip/mkprint.py, wip/ext.py); not trusted: Lean checks it. -/
import Derived.Test.YtfogpifjpnonnaaPWaterfallTurnsx0
import Derived.Test.YtfogpifjpnonnaaPWaterfallTurnsx1
import Derived.Test.YtfogpifjpnonnaaPWaterfallTurnsx2
import Derived.Test.YtfogpifjpnonnaaPWaterfallTurnsx3
import Derived.Test.YtfogpifjpnonnaaPWaterfallTurnsx4
import Derived.Test.YtfogpifjpnonnaaPWaterfallTurnsx5
import Derived.Test.YtfogpifjpnonnaaPWaterfallTurnsx6
import Derived.Test.YtfogpifjpnonnaaPWaterfallTurnsx7
import Derived.Test.YtfogpifjpnonnaaPWaterfallTurnsx8
import Derived.Test.YtfogpifjpnonnaaPWaterfallTurnsx9
namespace Go.Proofs.Ytfogpifjpnonnaa.PWaterfallTurns
open Go.RowKit Go.Proofs.YtfogpifjpnonnaaW.PrintWords Go.Proofs.YtfogpifjpnonnaaW.PrintLast Go.Proofs.YtfogpifjpnonnaaW.PrintMore
attribute [local go_sem] max2_int min2_int max_two min_two max_three min_three max_four min_four   -- for this text's walks alone
set_option linter.unusedVariables false
set_option linter.unusedSimpArgs false

end Go.Proofs.Ytfogpifjpnonnaa.PWaterfallTurns
