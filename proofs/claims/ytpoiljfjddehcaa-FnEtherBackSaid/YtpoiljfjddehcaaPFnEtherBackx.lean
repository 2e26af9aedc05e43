-- printed by a program of this session (wip/printx) out of the translation; Lean checks it
import Derived.Test.YtpoiljfjddehcaaPFnEtherBackx0
import Derived.Test.YtpoiljfjddehcaaPFnEtherBackx1
import Derived.Test.YtpoiljfjddehcaaPFnEtherBackx2
import Derived.Test.YtpoiljfjddehcaaPFnEtherBackx3
import Derived.Test.YtpoiljfjddehcaaPFnEtherBackx4
import Derived.Test.YtpoiljfjddehcaaPFnEtherBackx5
import Derived.Test.YtpoiljfjddehcaaPFnEtherBackx6
namespace Go.Proofs.Ytpoiljfjddehcaa.PFnEtherBack
open Go.RowKit Go.Proofs.YtpoiljfjddehcaaW.PrintWords Go.Proofs.YtpoiljfjddehcaaW.PrintLast Go.Proofs.YtpoiljfjddehcaaW.PrintMore
attribute [local go_sem] max2_int min2_int max_two min_two max_three min_three max_four min_four   -- for this text's walks alone
set_option linter.unusedVariables false
set_option linter.unusedSimpArgs false

end Go.Proofs.Ytpoiljfjddehcaa.PFnEtherBack
