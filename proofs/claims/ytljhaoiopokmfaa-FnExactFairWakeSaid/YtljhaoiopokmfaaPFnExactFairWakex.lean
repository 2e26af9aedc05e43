-- printed by a program of this session (wip/printx) out of the translation; Lean checks it
import Derived.Test.YtljhaoiopokmfaaPFnExactFairWakex0
import Derived.Test.YtljhaoiopokmfaaPFnExactFairWakex1
import Derived.Test.YtljhaoiopokmfaaPFnExactFairWakex2
import Derived.Test.YtljhaoiopokmfaaPFnExactFairWakex3
import Derived.Test.YtljhaoiopokmfaaPFnExactFairWakex4
import Derived.Test.YtljhaoiopokmfaaPFnExactFairWakex5
import Derived.Test.YtljhaoiopokmfaaPFnExactFairWakex6
import Derived.Test.YtljhaoiopokmfaaPFnExactFairWakex7
import Derived.Test.YtljhaoiopokmfaaPFnExactFairWakex8
import Derived.Test.YtljhaoiopokmfaaPFnExactFairWakex9
namespace Go.Proofs.Ytljhaoiopokmfaa.PFnExactFairWake
open Go.RowKit Go.Proofs.YtljhaoiopokmfaaW.PrintWords Go.Proofs.YtljhaoiopokmfaaW.PrintLast Go.Proofs.YtljhaoiopokmfaaW.PrintMore
attribute [local go_sem] max2_int min2_int max_two min_two max_three min_three max_four min_four   -- for this text's walks alone
set_option linter.unusedVariables false
set_option linter.unusedSimpArgs false

end Go.Proofs.Ytljhaoiopokmfaa.PFnExactFairWake
