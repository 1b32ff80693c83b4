/- Laid for this claim by a program of this session's (wip/mkprint.py, wip/ext.py); not trusted: Lean checks it. -/
import Derived.Test.YtnimfimcpjmbnaaPWireBackx0
import Derived.Test.YtnimfimcpjmbnaaPWireBackx1
import Derived.Test.YtnimfimcpjmbnaaPWireBackx2
import Derived.Test.YtnimfimcpjmbnaaPWireBackx3
import Derived.Test.YtnimfimcpjmbnaaPWireBackx4
namespace Go.Proofs.Ytnimfimcpjmbnaa.PWireBack
open Go.RowKit Go.Proofs.YtnimfimcpjmbnaaW.PrintWords Go.Proofs.YtnimfimcpjmbnaaW.PrintLast Go.Proofs.YtnimfimcpjmbnaaW.PrintMore
attribute [local go_sem] max2_int min2_int max_two min_two max_three min_three max_four min_four   -- for this text's walks alone
set_option linter.unusedVariables false
set_option linter.unusedSimpArgs false

end Go.Proofs.Ytnimfimcpjmbnaa.PWireBack
