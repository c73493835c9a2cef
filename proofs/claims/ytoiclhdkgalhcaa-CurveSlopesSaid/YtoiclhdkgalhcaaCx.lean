-- Written by a program of this session (wip/tools/pp.py) out of the translation; Lean checks it.
import Derived.Test.YtoiclhdkgalhcaaCx0
import Derived.Test.YtoiclhdkgalhcaaCx1
import Derived.Test.YtoiclhdkgalhcaaCx2
import Derived.Test.YtoiclhdkgalhcaaCx3
import Derived.Test.YtoiclhdkgalhcaaCx4
import Derived.Test.YtoiclhdkgalhcaaCx5
import Derived.Test.YtoiclhdkgalhcaaCx6
namespace Go.Proofs.Ytoiclhdkgalhcaa.C
open Go.RowKit Go.Proofs.YtoiclhdkgalhcaaW.PrintWords Go.Proofs.YtoiclhdkgalhcaaW.PrintLast Go.Proofs.YtoiclhdkgalhcaaW.PrintMore
open Go.Proofs.Ytoiclhdkgalhcaa.S
attribute [local go_sem] max2_int min2_int max_two min_two max_three min_three max_four min_four   -- for this text's walks alone
set_option linter.unusedVariables false
set_option linter.unusedSimpArgs false

end Go.Proofs.Ytoiclhdkgalhcaa.C
