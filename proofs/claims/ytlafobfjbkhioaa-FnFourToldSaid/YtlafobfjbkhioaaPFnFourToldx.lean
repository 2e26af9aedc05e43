-- printed by a program of this session (wip/printx) out of the translation; Lean checks it
import Derived.Test.YtlafobfjbkhioaaVFnFourTold
import Derived.Test.YtlafobfjbkhioaaPFnFourToldx0
import Derived.Test.YtlafobfjbkhioaaPFnFourToldx1
import Derived.Test.YtlafobfjbkhioaaPFnFourToldx2
import Derived.Test.YtlafobfjbkhioaaPFnFourToldx3
import Derived.Test.YtlafobfjbkhioaaPFnFourToldx4
import Derived.Test.YtlafobfjbkhioaaPFnFourToldx5
import Derived.Test.YtlafobfjbkhioaaPFnFourToldx6
import Derived.Test.YtlafobfjbkhioaaPFnFourToldx7
import Derived.Test.YtlafobfjbkhioaaPFnFourToldx8
import Derived.Test.YtlafobfjbkhioaaPFnFourToldx9
import Derived.Test.YtlafobfjbkhioaaPFnFourToldx10
import Derived.Test.YtlafobfjbkhioaaPFnFourToldx11
namespace Go.Proofs.Ytlafobfjbkhioaa.PFnFourTold
open Go.RowKit Go.Proofs.YtlafobfjbkhioaaW.PrintWords Go.Proofs.YtlafobfjbkhioaaW.PrintLast Go.Proofs.YtlafobfjbkhioaaW.PrintMore
attribute [local go_sem] max2_int min2_int max_two min_two max_three min_three max_four min_four   -- for this text's walks alone
set_option linter.unusedVariables false
set_option linter.unusedSimpArgs false

end Go.Proofs.Ytlafobfjbkhioaa.PFnFourTold
