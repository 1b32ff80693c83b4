/- Laid for this claim by a program of this session's (wip/mkprint.py, wip/ext.py); not trusted: Lean checks it. -/
import Derived.Test.YthlnecmpakfdmaaPTopTogetherx0
import Derived.Test.YthlnecmpakfdmaaPTopTogetherx1
import Derived.Test.YthlnecmpakfdmaaPTopTogetherx2
import Derived.Test.YthlnecmpakfdmaaPTopTogetherx3
import Derived.Test.YthlnecmpakfdmaaPTopTogetherx4
import Derived.Test.YthlnecmpakfdmaaPTopTogetherx5
import Derived.Test.YthlnecmpakfdmaaPTopTogetherx6
import Derived.Test.YthlnecmpakfdmaaPTopTogetherx7
import Derived.Test.YthlnecmpakfdmaaPTopTogetherx8
namespace Go.Proofs.Ythlnecmpakfdmaa.PTopTogether
open Go.RowKit Go.Proofs.YthlnecmpakfdmaaW.PrintWords Go.Proofs.YthlnecmpakfdmaaW.PrintLast Go.Proofs.YthlnecmpakfdmaaW.PrintMore
attribute [local go_sem] max2_int min2_int max_two min_two max_three min_three max_four min_four   -- for this text's walks alone
set_option linter.unusedVariables false
set_option linter.unusedSimpArgs false

end Go.Proofs.Ythlnecmpakfdmaa.PTopTogether
