/- Laid for this claim by a program of this session's (wip/mkprint.py, wip/ext.py); not trusted: Lean checks it. -/
import Derived.Test.YtfogpifjpnonnaaPWaterfallBackx0
import Derived.Test.YtfogpifjpnonnaaPWaterfallBackx1
import Derived.Test.YtfogpifjpnonnaaPWaterfallBackx2
import Derived.Test.YtfogpifjpnonnaaPWaterfallBackx3
import Derived.Test.YtfogpifjpnonnaaPWaterfallBackx4
import Derived.Test.YtfogpifjpnonnaaPWaterfallBackx5
import Derived.Test.YtfogpifjpnonnaaPWaterfallBackx6
import Derived.Test.YtfogpifjpnonnaaPWaterfallBackx7
import Derived.Test.YtfogpifjpnonnaaPWaterfallBackx8
import Derived.Test.YtfogpifjpnonnaaPWaterfallBackx9
import Derived.Test.YtfogpifjpnonnaaPWaterfallBackx10
namespace Go.Proofs.Ytfogpifjpnonnaa.PWaterfallBack
open Go.RowKit Go.Proofs.YtfogpifjpnonnaaW.PrintWords Go.Proofs.YtfogpifjpnonnaaW.PrintLast Go.Proofs.YtfogpifjpnonnaaW.PrintMore
attribute [local go_sem] max2_int min2_int max_two min_two max_three min_three max_four min_four   -- for this text's walks alone
set_option linter.unusedVariables false
set_option linter.unusedSimpArgs false

end Go.Proofs.Ytfogpifjpnonnaa.PWaterfallBack
