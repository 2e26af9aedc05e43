-- printed by a program of this session (wip/printx) out of the translation; Lean checks it
import Derived.Test.YtaglpjlapfocfaaPFnChainsCoverx0
import Derived.Test.YtaglpjlapfocfaaPFnChainsCoverx1
import Derived.Test.YtaglpjlapfocfaaPFnChainsCoverx2
import Derived.Test.YtaglpjlapfocfaaPFnChainsCoverx3
import Derived.Test.YtaglpjlapfocfaaPFnChainsCoverx4
import Derived.Test.YtaglpjlapfocfaaPFnChainsCoverx5
import Derived.Test.YtaglpjlapfocfaaPFnChainsCoverx6
import Derived.Test.YtaglpjlapfocfaaPFnChainsCoverx7
import Derived.Test.YtaglpjlapfocfaaPFnChainsCoverx8
import Derived.Test.YtaglpjlapfocfaaPFnChainsCoverx9
import Derived.Test.YtaglpjlapfocfaaPFnChainsCoverx10
namespace Go.Proofs.Ytaglpjlapfocfaa.PFnChainsCover
open Go.RowKit Go.Proofs.YtaglpjlapfocfaaW.PrintWords Go.Proofs.YtaglpjlapfocfaaW.PrintLast Go.Proofs.YtaglpjlapfocfaaW.PrintMore
attribute [local go_sem] max2_int min2_int max_two min_two max_three min_three max_four min_four   -- for this text's walks alone
set_option linter.unusedVariables false
set_option linter.unusedSimpArgs false

end Go.Proofs.Ytaglpjlapfocfaa.PFnChainsCover
