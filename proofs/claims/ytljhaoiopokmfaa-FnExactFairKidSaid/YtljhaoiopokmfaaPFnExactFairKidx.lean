-- printed by a program of this session (wip/printx) out of the translation; Lean checks it
import Derived.Test.YtljhaoiopokmfaaPFnExactFairKidx0
import Derived.Test.YtljhaoiopokmfaaPFnExactFairKidx1
import Derived.Test.YtljhaoiopokmfaaPFnExactFairKidx2
import Derived.Test.YtljhaoiopokmfaaPFnExactFairKidx3
import Derived.Test.YtljhaoiopokmfaaPFnExactFairKidx4
import Derived.Test.YtljhaoiopokmfaaPFnExactFairKidx5
import Derived.Test.YtljhaoiopokmfaaPFnExactFairKidx6
import Derived.Test.YtljhaoiopokmfaaPFnExactFairKidx7
namespace Go.Proofs.Ytljhaoiopokmfaa.PFnExactFairKid
open Go.RowKit Go.Proofs.YtljhaoiopokmfaaW.PrintWords Go.Proofs.YtljhaoiopokmfaaW.PrintLast Go.Proofs.YtljhaoiopokmfaaW.PrintMore
attribute [local go_sem] max2_int min2_int max_two min_two max_three min_three max_four min_four   -- for this text's walks alone
set_option linter.unusedVariables false
set_option linter.unusedSimpArgs false

end Go.Proofs.Ytljhaoiopokmfaa.PFnExactFairKid
