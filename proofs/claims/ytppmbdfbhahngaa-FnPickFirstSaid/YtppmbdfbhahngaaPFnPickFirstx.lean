-- printed by a program of this session (wip/printx) out of the translation; Lean checks it
import Derived.Test.YtppmbdfbhahngaaVFnPickFirst
import Derived.Test.YtppmbdfbhahngaaPFnPickFirstx0
import Derived.Test.YtppmbdfbhahngaaPFnPickFirstx1
import Derived.Test.YtppmbdfbhahngaaPFnPickFirstx2
import Derived.Test.YtppmbdfbhahngaaPFnPickFirstx3
import Derived.Test.YtppmbdfbhahngaaPFnPickFirstx4
import Derived.Test.YtppmbdfbhahngaaPFnPickFirstx5
import Derived.Test.YtppmbdfbhahngaaPFnPickFirstx6
import Derived.Test.YtppmbdfbhahngaaPFnPickFirstx7
import Derived.Test.YtppmbdfbhahngaaPFnPickFirstx8
import Derived.Test.YtppmbdfbhahngaaPFnPickFirstx9
import Derived.Test.YtppmbdfbhahngaaPFnPickFirstx10
import Derived.Test.YtppmbdfbhahngaaPFnPickFirstx11
import Derived.Test.YtppmbdfbhahngaaPFnPickFirstx12
import Derived.Test.YtppmbdfbhahngaaPFnPickFirstx13
import Derived.Test.YtppmbdfbhahngaaPFnPickFirstx14
import Derived.Test.YtppmbdfbhahngaaPFnPickFirstx15
import Derived.Test.YtppmbdfbhahngaaPFnPickFirstx16
import Derived.Test.YtppmbdfbhahngaaPFnPickFirstx17
import Derived.Test.YtppmbdfbhahngaaPFnPickFirstx18
import Derived.Test.YtppmbdfbhahngaaPFnPickFirstx19
import Derived.Test.YtppmbdfbhahngaaPFnPickFirstx20
namespace Go.Proofs.Ytppmbdfbhahngaa.PFnPickFirst
open Go.RowKit Go.Proofs.YtppmbdfbhahngaaW.PrintWords Go.Proofs.YtppmbdfbhahngaaW.PrintLast Go.Proofs.YtppmbdfbhahngaaW.PrintMore
attribute [local go_sem] max2_int min2_int max_two min_two max_three min_three max_four min_four   -- for this text's walks alone
set_option linter.unusedVariables false
set_option linter.unusedSimpArgs false

end Go.Proofs.Ytppmbdfbhahngaa.PFnPickFirst
