-- Written by a program of this session (wip/tools/pp.py) out of the translation; Lean checks it.
import Derived.Test.YtcdlielgifkemaaCx0
import Derived.Test.YtcdlielgifkemaaCx1
import Derived.Test.YtcdlielgifkemaaCx2
import Derived.Test.YtcdlielgifkemaaCx3
import Derived.Test.YtcdlielgifkemaaCx4
import Derived.Test.YtcdlielgifkemaaCx5
import Derived.Test.YtcdlielgifkemaaCx6
import Derived.Test.YtcdlielgifkemaaCx7
import Derived.Test.YtcdlielgifkemaaCx8
import Derived.Test.YtcdlielgifkemaaCx9
namespace Go.Proofs.Ytcdlielgifkemaa.C
open Go.RowKit Go.Proofs.YtcdlielgifkemaaW.PrintWords Go.Proofs.YtcdlielgifkemaaW.PrintLast Go.Proofs.YtcdlielgifkemaaW.PrintMore
open Go.Proofs.Ytcdlielgifkemaa.S
attribute [local go_sem] max2_int min2_int max_two min_two max_three min_three max_four min_four   -- for this text's walks alone
set_option linter.unusedVariables false
set_option linter.unusedSimpArgs false

end Go.Proofs.Ytcdlielgifkemaa.C
