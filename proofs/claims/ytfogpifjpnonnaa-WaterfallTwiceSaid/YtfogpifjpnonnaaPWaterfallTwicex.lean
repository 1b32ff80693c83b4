/- Laid for this claim by a program of this session's (wip/mkprint.py, wip/ext.py); not trusted: Lean checks it. -/
import Derived.Test.YtfogpifjpnonnaaPWaterfallTwicex0
import Derived.Test.YtfogpifjpnonnaaPWaterfallTwicex1
import Derived.Test.YtfogpifjpnonnaaPWaterfallTwicex2
import Derived.Test.YtfogpifjpnonnaaPWaterfallTwicex3
import Derived.Test.YtfogpifjpnonnaaPWaterfallTwicex4
import Derived.Test.YtfogpifjpnonnaaPWaterfallTwicex5
import Derived.Test.YtfogpifjpnonnaaPWaterfallTwicex6
import Derived.Test.YtfogpifjpnonnaaPWaterfallTwicex7
import Derived.Test.YtfogpifjpnonnaaPWaterfallTwicex8
import Derived.Test.YtfogpifjpnonnaaPWaterfallTwicex9
import Derived.Test.YtfogpifjpnonnaaPWaterfallTwicex10
namespace Go.Proofs.Ytfogpifjpnonnaa.PWaterfallTwice
open Go.RowKit Go.Proofs.YtfogpifjpnonnaaW.PrintWords Go.Proofs.YtfogpifjpnonnaaW.PrintLast Go.Proofs.YtfogpifjpnonnaaW.PrintMore
attribute [local go_sem] max2_int min2_int max_two min_two max_three min_three max_four min_four   -- for this text's walks alone
set_option linter.unusedVariables false
set_option linter.unusedSimpArgs false

end Go.Proofs.Ytfogpifjpnonnaa.PWaterfallTwice
