-- printed by a program of this session (wip/printx) out of the translation; Lean checks it
import Derived.Test.YtaglpjlapfocfaaPFnExactSlabTakex0
import Derived.Test.YtaglpjlapfocfaaPFnExactSlabTakex1
import Derived.Test.YtaglpjlapfocfaaPFnExactSlabTakex2
import Derived.Test.YtaglpjlapfocfaaPFnExactSlabTakex3
import Derived.Test.YtaglpjlapfocfaaPFnExactSlabTakex4
import Derived.Test.YtaglpjlapfocfaaPFnExactSlabTakex5
import Derived.Test.YtaglpjlapfocfaaPFnExactSlabTakex6
import Derived.Test.YtaglpjlapfocfaaPFnExactSlabTakex7
import Derived.Test.YtaglpjlapfocfaaPFnExactSlabTakex8
namespace Go.Proofs.Ytaglpjlapfocfaa.PFnExactSlabTake
open Go.RowKit Go.Proofs.YtaglpjlapfocfaaW.PrintWords Go.Proofs.YtaglpjlapfocfaaW.PrintLast Go.Proofs.YtaglpjlapfocfaaW.PrintMore
attribute [local go_sem] max2_int min2_int max_two min_two max_three min_three max_four min_four   -- for this text's walks alone
set_option linter.unusedVariables false
set_option linter.unusedSimpArgs false

end Go.Proofs.Ytaglpjlapfocfaa.PFnExactSlabTake
