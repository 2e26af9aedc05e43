-- printed by a program of this session (wip/printx) out of the translation; Lean checks it
import Derived.Test.YtljhaoiopokmfaaPFnExactFairPickx0
import Derived.Test.YtljhaoiopokmfaaPFnExactFairPickx1
import Derived.Test.YtljhaoiopokmfaaPFnExactFairPickx2
import Derived.Test.YtljhaoiopokmfaaPFnExactFairPickx3
import Derived.Test.YtljhaoiopokmfaaPFnExactFairPickx4
import Derived.Test.YtljhaoiopokmfaaPFnExactFairPickx5
import Derived.Test.YtljhaoiopokmfaaPFnExactFairPickx6
import Derived.Test.YtljhaoiopokmfaaPFnExactFairPickx7
import Derived.Test.YtljhaoiopokmfaaPFnExactFairPickx8
import Derived.Test.YtljhaoiopokmfaaPFnExactFairPickx9
namespace Go.Proofs.Ytljhaoiopokmfaa.PFnExactFairPick
open Go.RowKit Go.Proofs.YtljhaoiopokmfaaW.PrintWords Go.Proofs.YtljhaoiopokmfaaW.PrintLast Go.Proofs.YtljhaoiopokmfaaW.PrintMore
attribute [local go_sem] max2_int min2_int max_two min_two max_three min_three max_four min_four   -- for this text's walks alone
set_option linter.unusedVariables false
set_option linter.unusedSimpArgs false

end Go.Proofs.Ytljhaoiopokmfaa.PFnExactFairPick
