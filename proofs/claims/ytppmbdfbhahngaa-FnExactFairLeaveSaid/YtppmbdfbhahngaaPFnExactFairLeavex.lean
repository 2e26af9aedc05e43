-- printed by a program of this session (wip/printx) out of the translation; Lean checks it
import Derived.Test.YtppmbdfbhahngaaVFnExactFairLeave
import Derived.Test.YtppmbdfbhahngaaPFnExactFairLeavex0
import Derived.Test.YtppmbdfbhahngaaPFnExactFairLeavex1
import Derived.Test.YtppmbdfbhahngaaPFnExactFairLeavex2
import Derived.Test.YtppmbdfbhahngaaPFnExactFairLeavex3
import Derived.Test.YtppmbdfbhahngaaPFnExactFairLeavex4
import Derived.Test.YtppmbdfbhahngaaPFnExactFairLeavex5
import Derived.Test.YtppmbdfbhahngaaPFnExactFairLeavex6
import Derived.Test.YtppmbdfbhahngaaPFnExactFairLeavex7
import Derived.Test.YtppmbdfbhahngaaPFnExactFairLeavex8
import Derived.Test.YtppmbdfbhahngaaPFnExactFairLeavex9
import Derived.Test.YtppmbdfbhahngaaPFnExactFairLeavex10
import Derived.Test.YtppmbdfbhahngaaPFnExactFairLeavex11
namespace Go.Proofs.Ytppmbdfbhahngaa.PFnExactFairLeave
open Go.RowKit Go.Proofs.YtppmbdfbhahngaaW.PrintWords Go.Proofs.YtppmbdfbhahngaaW.PrintLast Go.Proofs.YtppmbdfbhahngaaW.PrintMore
attribute [local go_sem] max2_int min2_int max_two min_two max_three min_three max_four min_four   -- for this text's walks alone
set_option linter.unusedVariables false
set_option linter.unusedSimpArgs false

end Go.Proofs.Ytppmbdfbhahngaa.PFnExactFairLeave
