-- printed by a program of this session (wip/printx) out of the translation; Lean checks it
import Derived.Test.YtnklakficjpmoaaPFnExactBufBytesx0
import Derived.Test.YtnklakficjpmoaaPFnExactBufBytesx1
import Derived.Test.YtnklakficjpmoaaPFnExactBufBytesx2
import Derived.Test.YtnklakficjpmoaaPFnExactBufBytesx3
import Derived.Test.YtnklakficjpmoaaPFnExactBufBytesx4
import Derived.Test.YtnklakficjpmoaaPFnExactBufBytesx5
import Derived.Test.YtnklakficjpmoaaPFnExactBufBytesx6
import Derived.Test.YtnklakficjpmoaaPFnExactBufBytesx7
namespace Go.Proofs.Ytnklakficjpmoaa.PFnExactBufBytes
open Go.RowKit Go.Proofs.YtnklakficjpmoaaW.PrintWords Go.Proofs.YtnklakficjpmoaaW.PrintLast Go.Proofs.YtnklakficjpmoaaW.PrintMore
attribute [local go_sem] max2_int min2_int max_two min_two max_three min_three max_four min_four   -- for this text's walks alone
set_option linter.unusedVariables false
set_option linter.unusedSimpArgs false

end Go.Proofs.Ytnklakficjpmoaa.PFnExactBufBytes
