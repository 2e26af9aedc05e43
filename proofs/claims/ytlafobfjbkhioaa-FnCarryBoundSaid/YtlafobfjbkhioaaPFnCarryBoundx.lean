-- printed by a program of this session (wip/printx) out of the translation; Lean checks it
import Derived.Test.YtlafobfjbkhioaaVFnCarryBound
import Derived.Test.YtlafobfjbkhioaaPFnCarryBoundx0
import Derived.Test.YtlafobfjbkhioaaPFnCarryBoundx1
import Derived.Test.YtlafobfjbkhioaaPFnCarryBoundx2
import Derived.Test.YtlafobfjbkhioaaPFnCarryBoundx3
import Derived.Test.YtlafobfjbkhioaaPFnCarryBoundx4
import Derived.Test.YtlafobfjbkhioaaPFnCarryBoundx5
import Derived.Test.YtlafobfjbkhioaaPFnCarryBoundx6
import Derived.Test.YtlafobfjbkhioaaPFnCarryBoundx7
import Derived.Test.YtlafobfjbkhioaaPFnCarryBoundx8
import Derived.Test.YtlafobfjbkhioaaPFnCarryBoundx9
namespace Go.Proofs.Ytlafobfjbkhioaa.PFnCarryBound
open Go.RowKit Go.Proofs.YtlafobfjbkhioaaW.PrintWords Go.Proofs.YtlafobfjbkhioaaW.PrintLast Go.Proofs.YtlafobfjbkhioaaW.PrintMore
attribute [local go_sem] max2_int min2_int max_two min_two max_three min_three max_four min_four   -- for this text's walks alone
set_option linter.unusedVariables false
set_option linter.unusedSimpArgs false

end Go.Proofs.Ytlafobfjbkhioaa.PFnCarryBound
