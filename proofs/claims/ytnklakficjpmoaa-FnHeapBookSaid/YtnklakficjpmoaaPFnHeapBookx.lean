-- printed by a program of this session (wip/printx) out of the translation; Lean checks it
import Derived.Test.YtnklakficjpmoaaVFnHeapBook
import Derived.Test.YtnklakficjpmoaaPFnHeapBookx0
import Derived.Test.YtnklakficjpmoaaPFnHeapBookx1
import Derived.Test.YtnklakficjpmoaaPFnHeapBookx2
import Derived.Test.YtnklakficjpmoaaPFnHeapBookx3
import Derived.Test.YtnklakficjpmoaaPFnHeapBookx4
import Derived.Test.YtnklakficjpmoaaPFnHeapBookx5
import Derived.Test.YtnklakficjpmoaaPFnHeapBookx6
import Derived.Test.YtnklakficjpmoaaPFnHeapBookx7
import Derived.Test.YtnklakficjpmoaaPFnHeapBookx8
import Derived.Test.YtnklakficjpmoaaPFnHeapBookx9
import Derived.Test.YtnklakficjpmoaaPFnHeapBookx10
import Derived.Test.YtnklakficjpmoaaPFnHeapBookx11
import Derived.Test.YtnklakficjpmoaaPFnHeapBookx12
import Derived.Test.YtnklakficjpmoaaPFnHeapBookx13
namespace Go.Proofs.Ytnklakficjpmoaa.PFnHeapBook
open Go.RowKit Go.Proofs.YtnklakficjpmoaaW.PrintWords Go.Proofs.YtnklakficjpmoaaW.PrintLast Go.Proofs.YtnklakficjpmoaaW.PrintMore
attribute [local go_sem] max2_int min2_int max_two min_two max_three min_three max_four min_four   -- for this text's walks alone
set_option linter.unusedVariables false
set_option linter.unusedSimpArgs false

end Go.Proofs.Ytnklakficjpmoaa.PFnHeapBook
