-- Written by a program of this session (wip/tools/pp.py) out of the translation; Lean checks it.
import Derived.Test.YtndancjnfdhbfaaCx0
import Derived.Test.YtndancjnfdhbfaaCx1
import Derived.Test.YtndancjnfdhbfaaCx2
import Derived.Test.YtndancjnfdhbfaaCx3
import Derived.Test.YtndancjnfdhbfaaCx4
namespace Go.Proofs.Ytndancjnfdhbfaa.C
open Go.RowKit Go.Proofs.YtndancjnfdhbfaaW.PrintWords Go.Proofs.YtndancjnfdhbfaaW.PrintLast Go.Proofs.YtndancjnfdhbfaaW.PrintMore
open Go.Proofs.Ytndancjnfdhbfaa.S
attribute [local go_sem] max2_int min2_int max_two min_two max_three min_three max_four min_four   -- for this text's walks alone
set_option linter.unusedVariables false
set_option linter.unusedSimpArgs false

end Go.Proofs.Ytndancjnfdhbfaa.C
