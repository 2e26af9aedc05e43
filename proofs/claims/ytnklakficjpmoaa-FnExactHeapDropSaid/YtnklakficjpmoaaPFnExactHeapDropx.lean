-- printed by a program of this session (wip/printx) out of the translation; Lean checks it
import Derived.Test.YtnklakficjpmoaaVFnExactHeapDrop
import Derived.Test.YtnklakficjpmoaaPFnExactHeapDropx0
import Derived.Test.YtnklakficjpmoaaPFnExactHeapDropx1
import Derived.Test.YtnklakficjpmoaaPFnExactHeapDropx2
import Derived.Test.YtnklakficjpmoaaPFnExactHeapDropx3
import Derived.Test.YtnklakficjpmoaaPFnExactHeapDropx4
import Derived.Test.YtnklakficjpmoaaPFnExactHeapDropx5
import Derived.Test.YtnklakficjpmoaaPFnExactHeapDropx6
import Derived.Test.YtnklakficjpmoaaPFnExactHeapDropx7
import Derived.Test.YtnklakficjpmoaaPFnExactHeapDropx8
namespace Go.Proofs.Ytnklakficjpmoaa.PFnExactHeapDrop
open Go.RowKit Go.Proofs.YtnklakficjpmoaaW.PrintWords Go.Proofs.YtnklakficjpmoaaW.PrintLast Go.Proofs.YtnklakficjpmoaaW.PrintMore
attribute [local go_sem] max2_int min2_int max_two min_two max_three min_three max_four min_four   -- for this text's walks alone
set_option linter.unusedVariables false
set_option linter.unusedSimpArgs false

end Go.Proofs.Ytnklakficjpmoaa.PFnExactHeapDrop
