-- printed by a program of this session (wip/printx) out of the translation; Lean checks it
import Derived.Test.YtbijdkmchdkgfaaPFnSwapSumx0
import Derived.Test.YtbijdkmchdkgfaaPFnSwapSumx1
import Derived.Test.YtbijdkmchdkgfaaPFnSwapSumx2
import Derived.Test.YtbijdkmchdkgfaaPFnSwapSumx3
namespace Go.Proofs.Ytbijdkmchdkgfaa.PFnSwapSum
open Go.RowKit Go.Proofs.YtbijdkmchdkgfaaW.PrintWords Go.Proofs.YtbijdkmchdkgfaaW.PrintLast Go.Proofs.YtbijdkmchdkgfaaW.PrintMore
attribute [local go_sem] max2_int min2_int max_two min_two max_three min_three max_four min_four   -- for this text's walks alone
set_option linter.unusedVariables false
set_option linter.unusedSimpArgs false

end Go.Proofs.Ytbijdkmchdkgfaa.PFnSwapSum
