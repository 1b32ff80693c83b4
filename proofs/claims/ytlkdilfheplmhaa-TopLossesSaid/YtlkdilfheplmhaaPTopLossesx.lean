/- Laid for this claim by a program of this session's (wip/mkprint.py, wip/ext.py); not trusted: Lean checks it. -/
import Derived.Test.YtlkdilfheplmhaaPTopLossesx0
import Derived.Test.YtlkdilfheplmhaaPTopLossesx1
import Derived.Test.YtlkdilfheplmhaaPTopLossesx2
import Derived.Test.YtlkdilfheplmhaaPTopLossesx3
import Derived.Test.YtlkdilfheplmhaaPTopLossesx4
import Derived.Test.YtlkdilfheplmhaaPTopLossesx5
import Derived.Test.YtlkdilfheplmhaaPTopLossesx6
import Derived.Test.YtlkdilfheplmhaaPTopLossesx7
import Derived.Test.YtlkdilfheplmhaaPTopLossesx8
import Derived.Test.YtlkdilfheplmhaaPTopLossesx9
import Derived.Test.YtlkdilfheplmhaaPTopLossesx10
import Derived.Test.YtlkdilfheplmhaaPTopLossesx11
import Derived.Test.YtlkdilfheplmhaaPTopLossesx12
import Derived.Test.YtlkdilfheplmhaaPTopLossesx13b
namespace Go.Proofs.Ytlkdilfheplmhaa.PTopLosses
open Go.RowKit Go.Proofs.YtlkdilfheplmhaaW.PrintWords Go.Proofs.YtlkdilfheplmhaaW.PrintLast Go.Proofs.YtlkdilfheplmhaaW.PrintMore
attribute [local go_sem] max2_int min2_int max_two min_two max_three min_three max_four min_four   -- for this text's walks alone
set_option linter.unusedVariables false
set_option linter.unusedSimpArgs false

end Go.Proofs.Ytlkdilfheplmhaa.PTopLosses
