/- Laid for this claim by a program of this session's (wip/mkprint.py, wip/ext.py); not trusted: Lean checks it. -/
import Derived.Test.YtmhjomahikaphaaPTopAssessx0
import Derived.Test.YtmhjomahikaphaaPTopAssessx1
import Derived.Test.YtmhjomahikaphaaPTopAssessx2
import Derived.Test.YtmhjomahikaphaaPTopAssessx3
import Derived.Test.YtmhjomahikaphaaPTopAssessx4
import Derived.Test.YtmhjomahikaphaaPTopAssessx5
import Derived.Test.YtmhjomahikaphaaPTopAssessx6
import Derived.Test.YtmhjomahikaphaaPTopAssessx7
import Derived.Test.YtmhjomahikaphaaPTopAssessx8
import Derived.Test.YtmhjomahikaphaaPTopAssessx9
import Derived.Test.YtmhjomahikaphaaPTopAssessx10
import Derived.Test.YtmhjomahikaphaaPTopAssessx11
namespace Go.Proofs.Ytmhjomahikaphaa.PTopAssess
open Go.RowKit Go.Proofs.YtmhjomahikaphaaW.PrintWords Go.Proofs.YtmhjomahikaphaaW.PrintLast Go.Proofs.YtmhjomahikaphaaW.PrintMore
attribute [local go_sem] max2_int min2_int max_two min_two max_three min_three max_four min_four   -- for this text's walks alone
set_option linter.unusedVariables false
set_option linter.unusedSimpArgs false

end Go.Proofs.Ytmhjomahikaphaa.PTopAssess
