-- printed by a program of this session (wip/printx) out of the translation; Lean checks it
import Derived.Test.YtaglpjlapfocfaaPFnExactStoreGivex0
import Derived.Test.YtaglpjlapfocfaaPFnExactStoreGivex1
import Derived.Test.YtaglpjlapfocfaaPFnExactStoreGivex2
import Derived.Test.YtaglpjlapfocfaaPFnExactStoreGivex3
import Derived.Test.YtaglpjlapfocfaaPFnExactStoreGivex4
import Derived.Test.YtaglpjlapfocfaaPFnExactStoreGivex5
import Derived.Test.YtaglpjlapfocfaaPFnExactStoreGivex6
import Derived.Test.YtaglpjlapfocfaaPFnExactStoreGivex7
import Derived.Test.YtaglpjlapfocfaaPFnExactStoreGivex8
import Derived.Test.YtaglpjlapfocfaaPFnExactStoreGivex9
import Derived.Test.YtaglpjlapfocfaaPFnExactStoreGivex10
namespace Go.Proofs.Ytaglpjlapfocfaa.PFnExactStoreGive
open Go.RowKit Go.Proofs.YtaglpjlapfocfaaW.PrintWords Go.Proofs.YtaglpjlapfocfaaW.PrintLast Go.Proofs.YtaglpjlapfocfaaW.PrintMore
attribute [local go_sem] max2_int min2_int max_two min_two max_three min_three max_four min_four   -- for this text's walks alone
set_option linter.unusedVariables false
set_option linter.unusedSimpArgs false

end Go.Proofs.Ytaglpjlapfocfaa.PFnExactStoreGive
