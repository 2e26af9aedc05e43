-- printed by a program of this session (wip/printx) out of the translation; Lean checks it
import Derived.Test.YtaglpjlapfocfaaPFnExactSlabGivex0
import Derived.Test.YtaglpjlapfocfaaPFnExactSlabGivex1
import Derived.Test.YtaglpjlapfocfaaPFnExactSlabGivex2
import Derived.Test.YtaglpjlapfocfaaPFnExactSlabGivex3
import Derived.Test.YtaglpjlapfocfaaPFnExactSlabGivex4
import Derived.Test.YtaglpjlapfocfaaPFnExactSlabGivex5
import Derived.Test.YtaglpjlapfocfaaPFnExactSlabGivex6
import Derived.Test.YtaglpjlapfocfaaPFnExactSlabGivex7
namespace Go.Proofs.Ytaglpjlapfocfaa.PFnExactSlabGive
open Go.RowKit Go.Proofs.YtaglpjlapfocfaaW.PrintWords Go.Proofs.YtaglpjlapfocfaaW.PrintLast Go.Proofs.YtaglpjlapfocfaaW.PrintMore
attribute [local go_sem] max2_int min2_int max_two min_two max_three min_three max_four min_four   -- for this text's walks alone
set_option linter.unusedVariables false
set_option linter.unusedSimpArgs false

end Go.Proofs.Ytaglpjlapfocfaa.PFnExactSlabGive
