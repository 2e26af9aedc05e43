-- printed by a program of this session (wip/printx) out of the translation; Lean checks it
import Derived.Test.YtnklakficjpmoaaPFnExactHeapOrderx0
import Derived.Test.YtnklakficjpmoaaPFnExactHeapOrderx1
import Derived.Test.YtnklakficjpmoaaPFnExactHeapOrderx2
import Derived.Test.YtnklakficjpmoaaPFnExactHeapOrderx3
import Derived.Test.YtnklakficjpmoaaPFnExactHeapOrderx4
import Derived.Test.YtnklakficjpmoaaPFnExactHeapOrderx5
import Derived.Test.YtnklakficjpmoaaPFnExactHeapOrderx6
namespace Go.Proofs.Ytnklakficjpmoaa.PFnExactHeapOrder
open Go.RowKit Go.Proofs.YtnklakficjpmoaaW.PrintWords Go.Proofs.YtnklakficjpmoaaW.PrintLast Go.Proofs.YtnklakficjpmoaaW.PrintMore
attribute [local go_sem] max2_int min2_int max_two min_two max_three min_three max_four min_four   -- for this text's walks alone
set_option linter.unusedVariables false
set_option linter.unusedSimpArgs false

end Go.Proofs.Ytnklakficjpmoaa.PFnExactHeapOrder
