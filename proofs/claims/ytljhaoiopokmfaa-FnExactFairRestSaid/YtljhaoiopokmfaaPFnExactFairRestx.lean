-- printed by a program of this session (wip/printx) out of the translation; Lean checks it
import Derived.Test.YtljhaoiopokmfaaPFnExactFairRestx0
import Derived.Test.YtljhaoiopokmfaaPFnExactFairRestx1
import Derived.Test.YtljhaoiopokmfaaPFnExactFairRestx2
import Derived.Test.YtljhaoiopokmfaaPFnExactFairRestx3
import Derived.Test.YtljhaoiopokmfaaPFnExactFairRestx4
import Derived.Test.YtljhaoiopokmfaaPFnExactFairRestx5
import Derived.Test.YtljhaoiopokmfaaPFnExactFairRestx6
import Derived.Test.YtljhaoiopokmfaaPFnExactFairRestx7
import Derived.Test.YtljhaoiopokmfaaPFnExactFairRestx8
import Derived.Test.YtljhaoiopokmfaaPFnExactFairRestx9
import Derived.Test.YtljhaoiopokmfaaPFnExactFairRestx10
namespace Go.Proofs.Ytljhaoiopokmfaa.PFnExactFairRest
open Go.RowKit Go.Proofs.YtljhaoiopokmfaaW.PrintWords Go.Proofs.YtljhaoiopokmfaaW.PrintLast Go.Proofs.YtljhaoiopokmfaaW.PrintMore
attribute [local go_sem] max2_int min2_int max_two min_two max_three min_three max_four min_four   -- for this text's walks alone
set_option linter.unusedVariables false
set_option linter.unusedSimpArgs false

end Go.Proofs.Ytljhaoiopokmfaa.PFnExactFairRest
