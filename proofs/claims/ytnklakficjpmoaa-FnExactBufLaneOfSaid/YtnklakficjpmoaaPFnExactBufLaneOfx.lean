-- printed by a program of this session (wip/printx) out of the translation; Lean checks it
import Derived.Test.YtnklakficjpmoaaPFnExactBufLaneOfx0
import Derived.Test.YtnklakficjpmoaaPFnExactBufLaneOfx1
import Derived.Test.YtnklakficjpmoaaPFnExactBufLaneOfx2
import Derived.Test.YtnklakficjpmoaaPFnExactBufLaneOfx3
import Derived.Test.YtnklakficjpmoaaPFnExactBufLaneOfx4
import Derived.Test.YtnklakficjpmoaaPFnExactBufLaneOfx5
import Derived.Test.YtnklakficjpmoaaPFnExactBufLaneOfx6
import Derived.Test.YtnklakficjpmoaaPFnExactBufLaneOfx7
namespace Go.Proofs.Ytnklakficjpmoaa.PFnExactBufLaneOf
open Go.RowKit Go.Proofs.YtnklakficjpmoaaW.PrintWords Go.Proofs.YtnklakficjpmoaaW.PrintLast Go.Proofs.YtnklakficjpmoaaW.PrintMore
attribute [local go_sem] max2_int min2_int max_two min_two max_three min_three max_four min_four   -- for this text's walks alone
set_option linter.unusedVariables false
set_option linter.unusedSimpArgs false

end Go.Proofs.Ytnklakficjpmoaa.PFnExactBufLaneOf
