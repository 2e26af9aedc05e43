-- printed by a program of this session (wip/printx) out of the translation; Lean checks it
import Derived.Test.YtaglpjlapfocfaaPFnExactSlabChainx0
import Derived.Test.YtaglpjlapfocfaaPFnExactSlabChainx1
import Derived.Test.YtaglpjlapfocfaaPFnExactSlabChainx2
import Derived.Test.YtaglpjlapfocfaaPFnExactSlabChainx3
import Derived.Test.YtaglpjlapfocfaaPFnExactSlabChainx4
import Derived.Test.YtaglpjlapfocfaaPFnExactSlabChainx5
namespace Go.Proofs.Ytaglpjlapfocfaa.PFnExactSlabChain
open Go.RowKit Go.Proofs.YtaglpjlapfocfaaW.PrintWords Go.Proofs.YtaglpjlapfocfaaW.PrintLast Go.Proofs.YtaglpjlapfocfaaW.PrintMore
attribute [local go_sem] max2_int min2_int max_two min_two max_three min_three max_four min_four   -- for this text's walks alone
set_option linter.unusedVariables false
set_option linter.unusedSimpArgs false

end Go.Proofs.Ytaglpjlapfocfaa.PFnExactSlabChain
