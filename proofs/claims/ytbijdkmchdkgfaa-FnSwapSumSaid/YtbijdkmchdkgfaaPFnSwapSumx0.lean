-- printed by a program of this session (wip/printx) out of the translation; Lean checks it
import Derived.Test.YtbijdkmchdkgfaaProg
import Derived.Below
import Derived.Deep.Draws
import Derived.Deep.AppendLies
import Derived.Maps.AppendAt
import Derived.OwnWalk
import Derived.Laws.BytesArg
import Derived.Laws.MakeOwn
import Derived.Laws.OwnMore
import Derived.Deep.OwnRows
import Derived.Tactics
import Derived.Lib.ConvBytes
import Derived.Laws.Slices
import Derived.WalkKit
import Derived.KernelRfl
import Derived.RowKit3
import Derived.Deep.LoopGhost
import Derived.Deep.QuietTactic
import Derived.BigQuiet
import Derived.WideLaws
import Derived.Deep.DeepCutAuto
import Derived.Deep.CutBlock
import Derived.Deep.RegionHeld3
import Derived.Laws.Rows
import Derived.Lib.AppendStr
import Derived.ArgAppend
import Derived.Laws.IdiomCopy
import Derived.OrdersHeld
import Derived.Laws.BitsLemmas
import Derived.RowKit
import Derived.WalkSpells
import Derived.Test.YtbijdkmchdkgfaaWWords
import Derived.Test.YtbijdkmchdkgfaaWLast
import Derived.Test.YtbijdkmchdkgfaaWTab
import Derived.Test.YtbijdkmchdkgfaaWFour
import Derived.Test.YtbijdkmchdkgfaaWQPut
import Derived.Test.YtbijdkmchdkgfaaWApart
import Derived.Test.YtbijdkmchdkgfaaWArr
import Derived.Test.YtbijdkmchdkgfaaWZeros
import Derived.Test.YtbijdkmchdkgfaaWFoot
import Derived.Test.YtbijdkmchdkgfaaWKept
import Derived.Test.YtbijdkmchdkgfaaWShare
import Derived.Test.YtbijdkmchdkgfaaWN
import Derived.Test.YtbijdkmchdkgfaaWFootNe
import Derived.Test.YtbijdkmchdkgfaaWAt
import Derived.Test.YtbijdkmchdkgfaaWEqStruct
import Derived.Test.YtbijdkmchdkgfaaWRepsOne
import Derived.Test.YtbijdkmchdkgfaaWInv
import Derived.Test.YtbijdkmchdkgfaaWInvWords
import Derived.Test.YtbijdkmchdkgfaaWGuard
import Derived.Test.YtbijdkmchdkgfaaWNEv
import Derived.Test.YtbijdkmchdkgfaaWMore
import Derived.Test.YtbijdkmchdkgfaaXShort
namespace Go.Proofs.Ytbijdkmchdkgfaa.PFnSwapSum
open Go.RowKit Go.Proofs.YtbijdkmchdkgfaaW.PrintWords Go.Proofs.YtbijdkmchdkgfaaW.PrintLast Go.Proofs.YtbijdkmchdkgfaaW.PrintMore
attribute [local go_sem] max2_int min2_int max_two min_two max_three min_three max_four min_four   -- for this text's walks alone
set_option linter.unusedVariables false
set_option linter.unusedSimpArgs false



def errW : Option Int → Value
  | none => .nilIface
  | some c => .iface 0 (.int .i64 c)
theorem errW_none : errW none = .nilIface := rfl
theorem errW_some (c : Int) : errW (some c) = .iface 0 (.int .i64 c) := rfl

theorem info3 : (Try.prog.info? 3).map (fun i => (i.zero, i.size, i.bytes)) = some (some (.int .i64 0), 1, 8) := by kernel_rfl
theorem info5 : (Try.prog.info? 5).map (fun i => (i.zero, i.size, i.bytes)) = some (some (.int .u8 0), 1, 1) := by kernel_rfl
-- the values' own types

end Go.Proofs.Ytbijdkmchdkgfaa.PFnSwapSum
