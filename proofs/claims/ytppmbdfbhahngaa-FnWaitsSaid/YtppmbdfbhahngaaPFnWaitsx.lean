-- printed by a program of this session (wip/printx) out of the translation; Lean checks it
import Derived.Test.YtppmbdfbhahngaaVFnWaits
import Derived.Test.YtppmbdfbhahngaaPFnWaitsx0
import Derived.Test.YtppmbdfbhahngaaPFnWaitsx1
import Derived.Test.YtppmbdfbhahngaaPFnWaitsx2
import Derived.Test.YtppmbdfbhahngaaPFnWaitsx3
import Derived.Test.YtppmbdfbhahngaaPFnWaitsx4
import Derived.Test.YtppmbdfbhahngaaPFnWaitsx5
import Derived.Test.YtppmbdfbhahngaaPFnWaitsx6
import Derived.Test.YtppmbdfbhahngaaPFnWaitsx7
import Derived.Test.YtppmbdfbhahngaaPFnWaitsx8
import Derived.Test.YtppmbdfbhahngaaPFnWaitsx9
import Derived.Test.YtppmbdfbhahngaaPFnWaitsx10
import Derived.Test.YtppmbdfbhahngaaPFnWaitsx11
import Derived.Test.YtppmbdfbhahngaaPFnWaitsx12
import Derived.Test.YtppmbdfbhahngaaPFnWaitsx13
import Derived.Test.YtppmbdfbhahngaaPFnWaitsx14
import Derived.Test.YtppmbdfbhahngaaPFnWaitsx15
import Derived.Test.YtppmbdfbhahngaaPFnWaitsx16
import Derived.Test.YtppmbdfbhahngaaPFnWaitsx17
namespace Go.Proofs.Ytppmbdfbhahngaa.PFnWaits
open Go.RowKit Go.Proofs.YtppmbdfbhahngaaW.PrintWords Go.Proofs.YtppmbdfbhahngaaW.PrintLast Go.Proofs.YtppmbdfbhahngaaW.PrintMore
attribute [local go_sem] max2_int min2_int max_two min_two max_three min_three max_four min_four   -- for this text's walks alone
set_option linter.unusedVariables false
set_option linter.unusedSimpArgs false

end Go.Proofs.Ytppmbdfbhahngaa.PFnWaits
