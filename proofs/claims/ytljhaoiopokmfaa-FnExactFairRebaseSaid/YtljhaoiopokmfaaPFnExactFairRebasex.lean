-- printed by a program of this session (wip/printx) out of the translation; Lean checks it
import Derived.Test.YtljhaoiopokmfaaPFnExactFairRebasex0
import Derived.Test.YtljhaoiopokmfaaPFnExactFairRebasex1
import Derived.Test.YtljhaoiopokmfaaPFnExactFairRebasex2
import Derived.Test.YtljhaoiopokmfaaPFnExactFairRebasex3
import Derived.Test.YtljhaoiopokmfaaPFnExactFairRebasex4
import Derived.Test.YtljhaoiopokmfaaPFnExactFairRebasex5
import Derived.Test.YtljhaoiopokmfaaPFnExactFairRebasex6
import Derived.Test.YtljhaoiopokmfaaPFnExactFairRebasex7
import Derived.Test.YtljhaoiopokmfaaPFnExactFairRebasex8
import Derived.Test.YtljhaoiopokmfaaPFnExactFairRebasex9
import Derived.Test.YtljhaoiopokmfaaPFnExactFairRebasex10
import Derived.Test.YtljhaoiopokmfaaPFnExactFairRebasex11
namespace Go.Proofs.Ytljhaoiopokmfaa.PFnExactFairRebase
open Go.RowKit Go.Proofs.YtljhaoiopokmfaaW.PrintWords Go.Proofs.YtljhaoiopokmfaaW.PrintLast Go.Proofs.YtljhaoiopokmfaaW.PrintMore
attribute [local go_sem] max2_int min2_int max_two min_two max_three min_three max_four min_four   -- for this text's walks alone
set_option linter.unusedVariables false
set_option linter.unusedSimpArgs false

end Go.Proofs.Ytljhaoiopokmfaa.PFnExactFairRebase
