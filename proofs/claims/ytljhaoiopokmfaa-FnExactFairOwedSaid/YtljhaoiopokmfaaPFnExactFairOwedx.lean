-- printed by a program of this session (wip/printx) out of the translation; Lean checks it
import Derived.Test.YtljhaoiopokmfaaPFnExactFairOwedx0
import Derived.Test.YtljhaoiopokmfaaPFnExactFairOwedx1
import Derived.Test.YtljhaoiopokmfaaPFnExactFairOwedx2
import Derived.Test.YtljhaoiopokmfaaPFnExactFairOwedx3
import Derived.Test.YtljhaoiopokmfaaPFnExactFairOwedx4
import Derived.Test.YtljhaoiopokmfaaPFnExactFairOwedx5
import Derived.Test.YtljhaoiopokmfaaPFnExactFairOwedx6
import Derived.Test.YtljhaoiopokmfaaPFnExactFairOwedx7
import Derived.Test.YtljhaoiopokmfaaPFnExactFairOwedx8
import Derived.Test.YtljhaoiopokmfaaPFnExactFairOwedx9
import Derived.Test.YtljhaoiopokmfaaPFnExactFairOwedx10
import Derived.Test.YtljhaoiopokmfaaPFnExactFairOwedx11
namespace Go.Proofs.Ytljhaoiopokmfaa.PFnExactFairOwed
open Go.RowKit Go.Proofs.YtljhaoiopokmfaaW.PrintWords Go.Proofs.YtljhaoiopokmfaaW.PrintLast Go.Proofs.YtljhaoiopokmfaaW.PrintMore
attribute [local go_sem] max2_int min2_int max_two min_two max_three min_three max_four min_four   -- for this text's walks alone
set_option linter.unusedVariables false
set_option linter.unusedSimpArgs false

end Go.Proofs.Ytljhaoiopokmfaa.PFnExactFairOwed
