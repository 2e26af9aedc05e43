-- printed by a program of this session (wip/printx) out of the translation; Lean checks it
import Derived.Test.YtppmbdfbhahngaaVFnExactFairJoin
import Derived.Test.YtppmbdfbhahngaaPFnExactFairJoinx0
import Derived.Test.YtppmbdfbhahngaaPFnExactFairJoinx1
import Derived.Test.YtppmbdfbhahngaaPFnExactFairJoinx2
import Derived.Test.YtppmbdfbhahngaaPFnExactFairJoinx3
import Derived.Test.YtppmbdfbhahngaaPFnExactFairJoinx4
import Derived.Test.YtppmbdfbhahngaaPFnExactFairJoinx5
import Derived.Test.YtppmbdfbhahngaaPFnExactFairJoinx6
import Derived.Test.YtppmbdfbhahngaaPFnExactFairJoinx7
import Derived.Test.YtppmbdfbhahngaaPFnExactFairJoinx8
import Derived.Test.YtppmbdfbhahngaaPFnExactFairJoinx9
import Derived.Test.YtppmbdfbhahngaaPFnExactFairJoinx10
namespace Go.Proofs.Ytppmbdfbhahngaa.PFnExactFairJoin
open Go.RowKit Go.Proofs.YtppmbdfbhahngaaW.PrintWords Go.Proofs.YtppmbdfbhahngaaW.PrintLast Go.Proofs.YtppmbdfbhahngaaW.PrintMore
attribute [local go_sem] max2_int min2_int max_two min_two max_three min_three max_four min_four   -- for this text's walks alone
set_option linter.unusedVariables false
set_option linter.unusedSimpArgs false

end Go.Proofs.Ytppmbdfbhahngaa.PFnExactFairJoin
