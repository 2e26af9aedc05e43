-- printed by a program of this session (wip/printx) out of the translation; Lean checks it
import Derived.Test.YtbijdkmchdkgfaaPFnEstWithinx0
import Derived.Test.YtbijdkmchdkgfaaPFnEstWithinx1
import Derived.Test.YtbijdkmchdkgfaaPFnEstWithinx2
import Derived.Test.YtbijdkmchdkgfaaPFnEstWithinx3
import Derived.Test.YtbijdkmchdkgfaaPFnEstWithinx4
import Derived.Test.YtbijdkmchdkgfaaPFnEstWithinx5
import Derived.Test.YtbijdkmchdkgfaaPFnEstWithinx6
namespace Go.Proofs.Ytbijdkmchdkgfaa.PFnEstWithin
open Go.RowKit Go.Proofs.YtbijdkmchdkgfaaW.PrintWords Go.Proofs.YtbijdkmchdkgfaaW.PrintLast Go.Proofs.YtbijdkmchdkgfaaW.PrintMore
attribute [local go_sem] max2_int min2_int max_two min_two max_three min_three max_four min_four   -- for this text's walks alone
set_option linter.unusedVariables false
set_option linter.unusedSimpArgs false

end Go.Proofs.Ytbijdkmchdkgfaa.PFnEstWithin
