-- printed by a program of this session (wip/printx) out of the translation; Lean checks it
import Derived.Test.YtljhaoiopokmfaaPFnExactFairOkx0
import Derived.Test.YtljhaoiopokmfaaPFnExactFairOkx1
import Derived.Test.YtljhaoiopokmfaaPFnExactFairOkx2
import Derived.Test.YtljhaoiopokmfaaPFnExactFairOkx3
import Derived.Test.YtljhaoiopokmfaaPFnExactFairOkx4
import Derived.Test.YtljhaoiopokmfaaPFnExactFairOkx5
import Derived.Test.YtljhaoiopokmfaaPFnExactFairOkx6
import Derived.Test.YtljhaoiopokmfaaPFnExactFairOkx7
namespace Go.Proofs.Ytljhaoiopokmfaa.PFnExactFairOk
open Go.RowKit Go.Proofs.YtljhaoiopokmfaaW.PrintWords Go.Proofs.YtljhaoiopokmfaaW.PrintLast Go.Proofs.YtljhaoiopokmfaaW.PrintMore
attribute [local go_sem] max2_int min2_int max_two min_two max_three min_three max_four min_four   -- for this text's walks alone
set_option linter.unusedVariables false
set_option linter.unusedSimpArgs false

end Go.Proofs.Ytljhaoiopokmfaa.PFnExactFairOk
