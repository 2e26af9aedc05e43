-- printed by a program of this session (wip/printx) out of the translation; Lean checks it
import Derived.Test.YtbijdkmchdkgfaaPFnDovetailNarrowx0
import Derived.Test.YtbijdkmchdkgfaaPFnDovetailNarrowx1
import Derived.Test.YtbijdkmchdkgfaaPFnDovetailNarrowx2
import Derived.Test.YtbijdkmchdkgfaaPFnDovetailNarrowx3
import Derived.Test.YtbijdkmchdkgfaaPFnDovetailNarrowx4
import Derived.Test.YtbijdkmchdkgfaaPFnDovetailNarrowx5
import Derived.Test.YtbijdkmchdkgfaaPFnDovetailNarrowx6
namespace Go.Proofs.Ytbijdkmchdkgfaa.PFnDovetailNarrow
open Go.RowKit Go.Proofs.YtbijdkmchdkgfaaW.PrintWords Go.Proofs.YtbijdkmchdkgfaaW.PrintLast Go.Proofs.YtbijdkmchdkgfaaW.PrintMore
attribute [local go_sem] max2_int min2_int max_two min_two max_three min_three max_four min_four   -- for this text's walks alone
set_option linter.unusedVariables false
set_option linter.unusedSimpArgs false

end Go.Proofs.Ytbijdkmchdkgfaa.PFnDovetailNarrow
