-- printed by a program of this session (wip/printx) out of the translation; Lean checks it
import Derived.Test.YtljhaoiopokmfaaVFnExactFairServe
import Derived.Test.YtljhaoiopokmfaaPFnExactFairServex0
import Derived.Test.YtljhaoiopokmfaaPFnExactFairServex1
import Derived.Test.YtljhaoiopokmfaaPFnExactFairServex2
import Derived.Test.YtljhaoiopokmfaaPFnExactFairServex3
import Derived.Test.YtljhaoiopokmfaaPFnExactFairServex4
import Derived.Test.YtljhaoiopokmfaaPFnExactFairServex5
import Derived.Test.YtljhaoiopokmfaaPFnExactFairServex6
import Derived.Test.YtljhaoiopokmfaaPFnExactFairServex7
import Derived.Test.YtljhaoiopokmfaaPFnExactFairServex8
import Derived.Test.YtljhaoiopokmfaaPFnExactFairServex9
import Derived.Test.YtljhaoiopokmfaaPFnExactFairServex10
import Derived.Test.YtljhaoiopokmfaaPFnExactFairServex11
import Derived.Test.YtljhaoiopokmfaaPFnExactFairServex12
import Derived.Test.YtljhaoiopokmfaaPFnExactFairServex13
namespace Go.Proofs.Ytljhaoiopokmfaa.PFnExactFairServe
open Go.RowKit Go.Proofs.YtljhaoiopokmfaaW.PrintWords Go.Proofs.YtljhaoiopokmfaaW.PrintLast Go.Proofs.YtljhaoiopokmfaaW.PrintMore
attribute [local go_sem] max2_int min2_int max_two min_two max_three min_three max_four min_four   -- for this text's walks alone
set_option linter.unusedVariables false
set_option linter.unusedSimpArgs false

end Go.Proofs.Ytljhaoiopokmfaa.PFnExactFairServe
