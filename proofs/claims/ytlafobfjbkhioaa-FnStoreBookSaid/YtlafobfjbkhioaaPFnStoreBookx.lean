-- printed by a program of this session (wip/printx) out of the translation; Lean checks it
import Derived.Test.YtlafobfjbkhioaaXSq
import Derived.Test.YtlafobfjbkhioaaPFnStoreBookx0
import Derived.Test.YtlafobfjbkhioaaPFnStoreBookx1
import Derived.Test.YtlafobfjbkhioaaPFnStoreBookx2
import Derived.Test.YtlafobfjbkhioaaPFnStoreBookx3
import Derived.Test.YtlafobfjbkhioaaPFnStoreBookx4
import Derived.Test.YtlafobfjbkhioaaPFnStoreBookx5
import Derived.Test.YtlafobfjbkhioaaPFnStoreBookx6
import Derived.Test.YtlafobfjbkhioaaPFnStoreBookx7
import Derived.Test.YtlafobfjbkhioaaPFnStoreBookx8
namespace Go.Proofs.Ytlafobfjbkhioaa.PFnStoreBook
open Go.RowKit Go.Proofs.YtlafobfjbkhioaaW.PrintWords Go.Proofs.YtlafobfjbkhioaaW.PrintLast Go.Proofs.YtlafobfjbkhioaaW.PrintMore
attribute [local go_sem] max2_int min2_int max_two min_two max_three min_three max_four min_four   -- for this text's walks alone
set_option linter.unusedVariables false
set_option linter.unusedSimpArgs false

end Go.Proofs.Ytlafobfjbkhioaa.PFnStoreBook
