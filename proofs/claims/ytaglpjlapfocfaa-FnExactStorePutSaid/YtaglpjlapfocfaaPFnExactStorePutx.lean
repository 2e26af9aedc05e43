-- printed by a program of this session (wip/printx) out of the translation; Lean checks it
import Derived.Test.YtaglpjlapfocfaaXSq
import Derived.Test.YtaglpjlapfocfaaPFnExactStorePutx0
import Derived.Test.YtaglpjlapfocfaaPFnExactStorePutx1
import Derived.Test.YtaglpjlapfocfaaPFnExactStorePutx2
import Derived.Test.YtaglpjlapfocfaaPFnExactStorePutx3
import Derived.Test.YtaglpjlapfocfaaPFnExactStorePutx4
import Derived.Test.YtaglpjlapfocfaaPFnExactStorePutx5
import Derived.Test.YtaglpjlapfocfaaPFnExactStorePutx6
import Derived.Test.YtaglpjlapfocfaaPFnExactStorePutx7
import Derived.Test.YtaglpjlapfocfaaPFnExactStorePutx8
import Derived.Test.YtaglpjlapfocfaaPFnExactStorePutx9
namespace Go.Proofs.Ytaglpjlapfocfaa.PFnExactStorePut
open Go.RowKit Go.Proofs.YtaglpjlapfocfaaW.PrintWords Go.Proofs.YtaglpjlapfocfaaW.PrintLast Go.Proofs.YtaglpjlapfocfaaW.PrintMore
attribute [local go_sem] max2_int min2_int max_two min_two max_three min_three max_four min_four   -- for this text's walks alone
set_option linter.unusedVariables false
set_option linter.unusedSimpArgs false

end Go.Proofs.Ytaglpjlapfocfaa.PFnExactStorePut
