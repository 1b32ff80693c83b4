/- Laid for this claim by a program of this session's (wip/mkprint.py, wip/ext.py); not trusted: Lean checks it. -/
import Derived.Test.YtfogpifjpnonnaaPWaterfallJudgesx0
import Derived.Test.YtfogpifjpnonnaaPWaterfallJudgesx1
import Derived.Test.YtfogpifjpnonnaaPWaterfallJudgesx2
import Derived.Test.YtfogpifjpnonnaaPWaterfallJudgesx3
import Derived.Test.YtfogpifjpnonnaaPWaterfallJudgesx4
import Derived.Test.YtfogpifjpnonnaaPWaterfallJudgesx5
import Derived.Test.YtfogpifjpnonnaaPWaterfallJudgesx6
import Derived.Test.YtfogpifjpnonnaaPWaterfallJudgesx7
import Derived.Test.YtfogpifjpnonnaaPWaterfallJudgesx8
import Derived.Test.YtfogpifjpnonnaaPWaterfallJudgesx9
import Derived.Test.YtfogpifjpnonnaaPWaterfallJudgesx10
import Derived.Test.YtfogpifjpnonnaaPWaterfallJudgesx11
import Derived.Test.YtfogpifjpnonnaaPWaterfallJudgesx12
import Derived.Test.YtfogpifjpnonnaaPWaterfallJudgesx13
import Derived.Test.YtfogpifjpnonnaaPWaterfallJudgesx14
namespace Go.Proofs.Ytfogpifjpnonnaa.PWaterfallJudges
open Go.RowKit Go.Proofs.YtfogpifjpnonnaaW.PrintWords Go.Proofs.YtfogpifjpnonnaaW.PrintLast Go.Proofs.YtfogpifjpnonnaaW.PrintMore
attribute [local go_sem] max2_int min2_int max_two min_two max_three min_three max_four min_four   -- for this text's walks alone
set_option linter.unusedVariables false
set_option linter.unusedSimpArgs false

end Go.Proofs.Ytfogpifjpnonnaa.PWaterfallJudges
