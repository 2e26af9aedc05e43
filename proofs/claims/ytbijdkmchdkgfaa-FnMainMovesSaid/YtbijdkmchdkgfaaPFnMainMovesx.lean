-- printed by a program of this session (wip/printx) out of the translation; Lean checks it
import Derived.Test.YtbijdkmchdkgfaaPFnMainMovesx0
import Derived.Test.YtbijdkmchdkgfaaPFnMainMovesx1
import Derived.Test.YtbijdkmchdkgfaaPFnMainMovesx2
import Derived.Test.YtbijdkmchdkgfaaPFnMainMovesx3
import Derived.Test.YtbijdkmchdkgfaaPFnMainMovesx4
import Derived.Test.YtbijdkmchdkgfaaPFnMainMovesx5
import Derived.Test.YtbijdkmchdkgfaaPFnMainMovesx6
import Derived.Test.YtbijdkmchdkgfaaPFnMainMovesx7
namespace Go.Proofs.Ytbijdkmchdkgfaa.PFnMainMoves
open Go.RowKit Go.Proofs.YtbijdkmchdkgfaaW.PrintWords Go.Proofs.YtbijdkmchdkgfaaW.PrintLast Go.Proofs.YtbijdkmchdkgfaaW.PrintMore
attribute [local go_sem] max2_int min2_int max_two min_two max_three min_three max_four min_four   -- for this text's walks alone
set_option linter.unusedVariables false
set_option linter.unusedSimpArgs false

end Go.Proofs.Ytbijdkmchdkgfaa.PFnMainMoves
