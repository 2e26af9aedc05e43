/-
  No cell of these rows narrows 'for every input' (looked for: loops, veiled, ifaces, maps, wideKeys, modest, calm, conditions, laid).
  DERIVED. THE GIVEN ROWS OF THIS SEAT. 12 by the template 'for every input the law returns true; each argument reads behind the call as it read before'; 0 by the template 'total and deterministic' (their statements: YtbijdkmchdkgfaaTotals.lean).
  GIVEN WITH THE SEED: the statements are not yours to turn. If you find one false, say at which input.
  Laid BY PROGRAM, IN A SANDBOX (cutbox-rows.mjs): the forced cells as the released guide's own fill.sh prints them over the translation 29aa5bb56e6596ca… (all of the seat's roots in one cut). By AI agents, Wed Nov 11 2026. No macro, syntax, notation, axiom, sorry.
-/
import Derived.Test.YtbijdkmchdkgfaaChecked
import GoSem.Claim
import GoSem.ClaimJoined
import GoSem.ClaimMapViews
import Derived.JoinedTies
import Derived.KernelRfl
namespace Go.Proofs.Ytbijdkmchdkgfaa
/- THE CELL 'sum', in the pinned program and in every row, IS THE sha256 OF THE DUMP (.gsa) THAT YtbijdkmchdkgfaaProg.lean LOADS. Nothing in Lean hashes anything: it is a label: what it is worth is what the hold of that sum in a sandbox is worth. -/
noncomputable def Try.pinned : Pinned := { name := "ytbijdkmchdkgfaa", sum := "29aa5bb56e6596caf364769b54281d8faeee92e2d41e53b43bb7b44291311112", checked := Try.checked }
namespace Rows
def none {H : Type} : Left H := { results := [], args := [] }

/-- 'laws.FnExactLimitsOk': WHATEVER THE INPUT: true; the input reads as it did. -/
def fnExactLimitsOkSpec : ChangeSpec := { name := "fnExactLimitsOk", fn := fun _ => fun
  | [d] => { results := [.lit (.bool true)], args := [d] }
  | _ => none }
def fnExactLimitsOkRow : OpenClaim := { program := "ytbijdkmchdkgfaa", sum := "29aa5bb56e6596caf364769b54281d8faeee92e2d41e53b43bb7b44291311112", func := "loop.example/g00655/laws.FnExactLimitsOk", spec := "fnExactLimitsOk", apart := false }
def FnExactLimitsOkSaid : Prop := fnExactLimitsOkRow.holds Try.pinned (OpenSpec.ofChange fnExactLimitsOkSpec)

/-- ITS FALSE NEIGHBOUR: 'it returns false'. Refute it at one input. -/
def fnExactLimitsOkWrong : ChangeSpec := { name := "fnExactLimitsOk", fn := fun _ => fun
  | [d] => { results := [.lit (.bool false)], args := [d] }
  | _ => none }
def FnExactLimitsOkWrongFalsely : Prop := fnExactLimitsOkRow.holds Try.pinned (OpenSpec.ofChange fnExactLimitsOkWrong)

/-- 'laws.FnPutBe': WHATEVER THE INPUT: true; the input reads as it did. -/
def fnPutBeSpec : ChangeSpec := { name := "fnPutBe", fn := fun _ => fun
  | [d] => { results := [.lit (.bool true)], args := [d] }
  | _ => none }
def fnPutBeRow : OpenClaim := { program := "ytbijdkmchdkgfaa", sum := "29aa5bb56e6596caf364769b54281d8faeee92e2d41e53b43bb7b44291311112", func := "loop.example/g00655/laws.FnPutBe", spec := "fnPutBe", apart := false }
def FnPutBeSaid : Prop := fnPutBeRow.holds Try.pinned (OpenSpec.ofChange fnPutBeSpec)

/-- ITS FALSE NEIGHBOUR: 'it returns false'. Refute it at one input. -/
def fnPutBeWrong : ChangeSpec := { name := "fnPutBe", fn := fun _ => fun
  | [d] => { results := [.lit (.bool false)], args := [d] }
  | _ => none }
def FnPutBeWrongFalsely : Prop := fnPutBeRow.holds Try.pinned (OpenSpec.ofChange fnPutBeWrong)

/-- 'laws.FnDovetailNarrow': WHATEVER THE INPUT: true; the input reads as it did. -/
def fnDovetailNarrowSpec : ChangeSpec := { name := "fnDovetailNarrow", fn := fun _ => fun
  | [d] => { results := [.lit (.bool true)], args := [d] }
  | _ => none }
def fnDovetailNarrowRow : OpenClaim := { program := "ytbijdkmchdkgfaa", sum := "29aa5bb56e6596caf364769b54281d8faeee92e2d41e53b43bb7b44291311112", func := "loop.example/g00655/laws.FnDovetailNarrow", spec := "fnDovetailNarrow", unfollowed := true, recurses := true, apart := false }
def FnDovetailNarrowSaid : Prop := fnDovetailNarrowRow.holds Try.pinned (OpenSpec.ofChange fnDovetailNarrowSpec)

/-- ITS FALSE NEIGHBOUR: 'it returns false'. Refute it at one input. -/
def fnDovetailNarrowWrong : ChangeSpec := { name := "fnDovetailNarrow", fn := fun _ => fun
  | [d] => { results := [.lit (.bool false)], args := [d] }
  | _ => none }
def FnDovetailNarrowWrongFalsely : Prop := fnDovetailNarrowRow.holds Try.pinned (OpenSpec.ofChange fnDovetailNarrowWrong)

/-- 'laws.FnChargeKeeps': WHATEVER THE INPUT: true; the input reads as it did. -/
def fnChargeKeepsSpec : ChangeSpec := { name := "fnChargeKeeps", fn := fun _ => fun
  | [d] => { results := [.lit (.bool true)], args := [d] }
  | _ => none }
def fnChargeKeepsRow : OpenClaim := { program := "ytbijdkmchdkgfaa", sum := "29aa5bb56e6596caf364769b54281d8faeee92e2d41e53b43bb7b44291311112", func := "loop.example/g00655/laws.FnChargeKeeps", spec := "fnChargeKeeps", unfollowed := true, recurses := true, apart := false }
def FnChargeKeepsSaid : Prop := fnChargeKeepsRow.holds Try.pinned (OpenSpec.ofChange fnChargeKeepsSpec)

/-- ITS FALSE NEIGHBOUR: 'it returns false'. Refute it at one input. -/
def fnChargeKeepsWrong : ChangeSpec := { name := "fnChargeKeeps", fn := fun _ => fun
  | [d] => { results := [.lit (.bool false)], args := [d] }
  | _ => none }
def FnChargeKeepsWrongFalsely : Prop := fnChargeKeepsRow.holds Try.pinned (OpenSpec.ofChange fnChargeKeepsWrong)

/-- 'laws.FnTurnedByte': WHATEVER THE INPUT: true; the input reads as it did. -/
def fnTurnedByteSpec : ChangeSpec := { name := "fnTurnedByte", fn := fun _ => fun
  | [d] => { results := [.lit (.bool true)], args := [d] }
  | _ => none }
def fnTurnedByteRow : OpenClaim := { program := "ytbijdkmchdkgfaa", sum := "29aa5bb56e6596caf364769b54281d8faeee92e2d41e53b43bb7b44291311112", func := "loop.example/g00655/laws.FnTurnedByte", spec := "fnTurnedByte", apart := false }
def FnTurnedByteSaid : Prop := fnTurnedByteRow.holds Try.pinned (OpenSpec.ofChange fnTurnedByteSpec)

/-- ITS FALSE NEIGHBOUR: 'it returns false'. Refute it at one input. -/
def fnTurnedByteWrong : ChangeSpec := { name := "fnTurnedByte", fn := fun _ => fun
  | [d] => { results := [.lit (.bool false)], args := [d] }
  | _ => none }
def FnTurnedByteWrongFalsely : Prop := fnTurnedByteRow.holds Try.pinned (OpenSpec.ofChange fnTurnedByteWrong)

/-- 'laws.FnLowered': WHATEVER THE INPUT: true; the input reads as it did. -/
def fnLoweredSpec : ChangeSpec := { name := "fnLowered", fn := fun _ => fun
  | [d] => { results := [.lit (.bool true)], args := [d] }
  | _ => none }
def fnLoweredRow : OpenClaim := { program := "ytbijdkmchdkgfaa", sum := "29aa5bb56e6596caf364769b54281d8faeee92e2d41e53b43bb7b44291311112", func := "loop.example/g00655/laws.FnLowered", spec := "fnLowered", unfollowed := true, recurses := true, apart := false }
def FnLoweredSaid : Prop := fnLoweredRow.holds Try.pinned (OpenSpec.ofChange fnLoweredSpec)

/-- ITS FALSE NEIGHBOUR: 'it returns false'. Refute it at one input. -/
def fnLoweredWrong : ChangeSpec := { name := "fnLowered", fn := fun _ => fun
  | [d] => { results := [.lit (.bool false)], args := [d] }
  | _ => none }
def FnLoweredWrongFalsely : Prop := fnLoweredRow.holds Try.pinned (OpenSpec.ofChange fnLoweredWrong)

/-- 'laws.FnSwapsAny': WHATEVER THE INPUT: true; the input reads as it did. -/
def fnSwapsAnySpec : ChangeSpec := { name := "fnSwapsAny", fn := fun _ => fun
  | [d] => { results := [.lit (.bool true)], args := [d] }
  | _ => none }
def fnSwapsAnyRow : OpenClaim := { program := "ytbijdkmchdkgfaa", sum := "29aa5bb56e6596caf364769b54281d8faeee92e2d41e53b43bb7b44291311112", func := "loop.example/g00655/laws.FnSwapsAny", spec := "fnSwapsAny", apart := false }
def FnSwapsAnySaid : Prop := fnSwapsAnyRow.holds Try.pinned (OpenSpec.ofChange fnSwapsAnySpec)

/-- ITS FALSE NEIGHBOUR: 'it returns false'. Refute it at one input. -/
def fnSwapsAnyWrong : ChangeSpec := { name := "fnSwapsAny", fn := fun _ => fun
  | [d] => { results := [.lit (.bool false)], args := [d] }
  | _ => none }
def FnSwapsAnyWrongFalsely : Prop := fnSwapsAnyRow.holds Try.pinned (OpenSpec.ofChange fnSwapsAnyWrong)

/-- 'laws.FnEstWithin': WHATEVER THE INPUT: true; the input reads as it did. -/
def fnEstWithinSpec : ChangeSpec := { name := "fnEstWithin", fn := fun _ => fun
  | [d] => { results := [.lit (.bool true)], args := [d] }
  | _ => none }
def fnEstWithinRow : OpenClaim := { program := "ytbijdkmchdkgfaa", sum := "29aa5bb56e6596caf364769b54281d8faeee92e2d41e53b43bb7b44291311112", func := "loop.example/g00655/laws.FnEstWithin", spec := "fnEstWithin", unfollowed := true, recurses := true, apart := false }
def FnEstWithinSaid : Prop := fnEstWithinRow.holds Try.pinned (OpenSpec.ofChange fnEstWithinSpec)

/-- ITS FALSE NEIGHBOUR: 'it returns false'. Refute it at one input. -/
def fnEstWithinWrong : ChangeSpec := { name := "fnEstWithin", fn := fun _ => fun
  | [d] => { results := [.lit (.bool false)], args := [d] }
  | _ => none }
def FnEstWithinWrongFalsely : Prop := fnEstWithinRow.holds Try.pinned (OpenSpec.ofChange fnEstWithinWrong)

/-- 'laws.FnExactFairNew': WHATEVER THE INPUT: true; the input reads as it did. -/
def fnExactFairNewSpec : ChangeSpec := { name := "fnExactFairNew", fn := fun _ => fun
  | [d] => { results := [.lit (.bool true)], args := [d] }
  | _ => none }
def fnExactFairNewRow : OpenClaim := { program := "ytbijdkmchdkgfaa", sum := "29aa5bb56e6596caf364769b54281d8faeee92e2d41e53b43bb7b44291311112", func := "loop.example/g00655/laws.FnExactFairNew", spec := "fnExactFairNew", apart := false }
def FnExactFairNewSaid : Prop := fnExactFairNewRow.holds Try.pinned (OpenSpec.ofChange fnExactFairNewSpec)

/-- ITS FALSE NEIGHBOUR: 'it returns false'. Refute it at one input. -/
def fnExactFairNewWrong : ChangeSpec := { name := "fnExactFairNew", fn := fun _ => fun
  | [d] => { results := [.lit (.bool false)], args := [d] }
  | _ => none }
def FnExactFairNewWrongFalsely : Prop := fnExactFairNewRow.holds Try.pinned (OpenSpec.ofChange fnExactFairNewWrong)

/-- 'laws.FnSwapSum': WHATEVER THE INPUT: true; the input reads as it did. -/
def fnSwapSumSpec : ChangeSpec := { name := "fnSwapSum", fn := fun _ => fun
  | [d] => { results := [.lit (.bool true)], args := [d] }
  | _ => none }
def fnSwapSumRow : OpenClaim := { program := "ytbijdkmchdkgfaa", sum := "29aa5bb56e6596caf364769b54281d8faeee92e2d41e53b43bb7b44291311112", func := "loop.example/g00655/laws.FnSwapSum", spec := "fnSwapSum", apart := false }
def FnSwapSumSaid : Prop := fnSwapSumRow.holds Try.pinned (OpenSpec.ofChange fnSwapSumSpec)

/-- ITS FALSE NEIGHBOUR: 'it returns false'. Refute it at one input. -/
def fnSwapSumWrong : ChangeSpec := { name := "fnSwapSum", fn := fun _ => fun
  | [d] => { results := [.lit (.bool false)], args := [d] }
  | _ => none }
def FnSwapSumWrongFalsely : Prop := fnSwapSumRow.holds Try.pinned (OpenSpec.ofChange fnSwapSumWrong)

/-- 'laws.FnMainMoves': WHATEVER THE INPUT: true; the input reads as it did. -/
def fnMainMovesSpec : ChangeSpec := { name := "fnMainMoves", fn := fun _ => fun
  | [d] => { results := [.lit (.bool true)], args := [d] }
  | _ => none }
def fnMainMovesRow : OpenClaim := { program := "ytbijdkmchdkgfaa", sum := "29aa5bb56e6596caf364769b54281d8faeee92e2d41e53b43bb7b44291311112", func := "loop.example/g00655/laws.FnMainMoves", spec := "fnMainMoves", unfollowed := true, recurses := true, apart := false }
def FnMainMovesSaid : Prop := fnMainMovesRow.holds Try.pinned (OpenSpec.ofChange fnMainMovesSpec)

/-- ITS FALSE NEIGHBOUR: 'it returns false'. Refute it at one input. -/
def fnMainMovesWrong : ChangeSpec := { name := "fnMainMoves", fn := fun _ => fun
  | [d] => { results := [.lit (.bool false)], args := [d] }
  | _ => none }
def FnMainMovesWrongFalsely : Prop := fnMainMovesRow.holds Try.pinned (OpenSpec.ofChange fnMainMovesWrong)

/-- 'laws.FnCarryBound': WHATEVER THE INPUT: true; the input reads as it did. -/
def fnCarryBoundSpec : ChangeSpec := { name := "fnCarryBound", fn := fun _ => fun
  | [d] => { results := [.lit (.bool true)], args := [d] }
  | _ => none }
def fnCarryBoundRow : OpenClaim := { program := "ytbijdkmchdkgfaa", sum := "29aa5bb56e6596caf364769b54281d8faeee92e2d41e53b43bb7b44291311112", func := "loop.example/g00655/laws.FnCarryBound", spec := "fnCarryBound", unfollowed := true, recurses := true, apart := false }
def FnCarryBoundSaid : Prop := fnCarryBoundRow.holds Try.pinned (OpenSpec.ofChange fnCarryBoundSpec)

/-- ITS FALSE NEIGHBOUR: 'it returns false'. Refute it at one input. -/
def fnCarryBoundWrong : ChangeSpec := { name := "fnCarryBound", fn := fun _ => fun
  | [d] => { results := [.lit (.bool false)], args := [d] }
  | _ => none }
def FnCarryBoundWrongFalsely : Prop := fnCarryBoundRow.holds Try.pinned (OpenSpec.ofChange fnCarryBoundWrong)

/- THE SECOND FORM. 'bulk': how many values and letters a reading holds, each counted each time it is reached (what is shared counts as often as it is met; a slice's spare places count too). A statement '..UptoSaid' is the law's where the arguments, and the package variables that the reading takes, are together of bulk at most 1048576: NARROWER than '..Said'. Prove '..Said' where nothing that the law and all that it calls make is longer than what came in: it says more and counts as full. Else prove '..UptoSaid'. A law counts once. -/
mutual
def uptoBulk {H : Type} : DataW H → Nat
  | .lit (.string bytes) => bytes.length + 1
  | .lit _ => 1
  | .nil => 1
  | .ptr d => uptoBulk d + 1
  | .slice elems spare => uptoBulkAll elems + uptoBulkAll spare + 1
  | .agg parts => uptoBulkAll parts + 1
  | .iface _ d => uptoBulk d + 1
  | .map entries => uptoBulkEntries entries + 1
  | .held _ => 1
def uptoBulkAll {H : Type} : List (DataW H) → Nat
  | [] => 0
  | d :: r => uptoBulk d + uptoBulkAll r
def uptoBulkEntries {H : Type} : List (Lit × DataW H) → Nat
  | [] => 0
  | x :: r => uptoBulkEntry x + uptoBulkEntries r
def uptoBulkEntry {H : Type} : Lit × DataW H → Nat
  | (.string bytes, d) => bytes.length + uptoBulk d + 1
  | (_, d) => uptoBulk d + 1
 end
def uptoSmall : (H : Type) → List (DataW H) → Bool := fun _ ds => decide (uptoBulkAll ds ≤ 1048576)
def OpenSpec.upto (s : _root_.Go.ChangeSpec) : _root_.Go.OpenSpec := { _root_.Go.OpenSpec.ofChange s with cond := some uptoSmall }

/-- 'laws.FnExactLimitsOk', WHERE WHAT IT READS IS OF BULK AT MOST 1048576: true; the input reads as it did. -/
def fnExactLimitsOkUptoRow : OpenClaim := { program := "ytbijdkmchdkgfaa", sum := "29aa5bb56e6596caf364769b54281d8faeee92e2d41e53b43bb7b44291311112", func := "loop.example/g00655/laws.FnExactLimitsOk", spec := "fnExactLimitsOk", apart := false, narrowed := true }
def FnExactLimitsOkUptoSaid : Prop := fnExactLimitsOkUptoRow.holds Try.pinned (OpenSpec.upto fnExactLimitsOkSpec)

/-- 'laws.FnPutBe', WHERE WHAT IT READS IS OF BULK AT MOST 1048576: true; the input reads as it did. -/
def fnPutBeUptoRow : OpenClaim := { program := "ytbijdkmchdkgfaa", sum := "29aa5bb56e6596caf364769b54281d8faeee92e2d41e53b43bb7b44291311112", func := "loop.example/g00655/laws.FnPutBe", spec := "fnPutBe", apart := false, narrowed := true }
def FnPutBeUptoSaid : Prop := fnPutBeUptoRow.holds Try.pinned (OpenSpec.upto fnPutBeSpec)

/-- 'laws.FnDovetailNarrow', WHERE WHAT IT READS IS OF BULK AT MOST 1048576: true; the input reads as it did. -/
def fnDovetailNarrowUptoRow : OpenClaim := { program := "ytbijdkmchdkgfaa", sum := "29aa5bb56e6596caf364769b54281d8faeee92e2d41e53b43bb7b44291311112", func := "loop.example/g00655/laws.FnDovetailNarrow", spec := "fnDovetailNarrow", unfollowed := true, recurses := true, apart := false, narrowed := true }
def FnDovetailNarrowUptoSaid : Prop := fnDovetailNarrowUptoRow.holds Try.pinned (OpenSpec.upto fnDovetailNarrowSpec)

/-- 'laws.FnChargeKeeps', WHERE WHAT IT READS IS OF BULK AT MOST 1048576: true; the input reads as it did. -/
def fnChargeKeepsUptoRow : OpenClaim := { program := "ytbijdkmchdkgfaa", sum := "29aa5bb56e6596caf364769b54281d8faeee92e2d41e53b43bb7b44291311112", func := "loop.example/g00655/laws.FnChargeKeeps", spec := "fnChargeKeeps", unfollowed := true, recurses := true, apart := false, narrowed := true }
def FnChargeKeepsUptoSaid : Prop := fnChargeKeepsUptoRow.holds Try.pinned (OpenSpec.upto fnChargeKeepsSpec)

/-- 'laws.FnTurnedByte', WHERE WHAT IT READS IS OF BULK AT MOST 1048576: true; the input reads as it did. -/
def fnTurnedByteUptoRow : OpenClaim := { program := "ytbijdkmchdkgfaa", sum := "29aa5bb56e6596caf364769b54281d8faeee92e2d41e53b43bb7b44291311112", func := "loop.example/g00655/laws.FnTurnedByte", spec := "fnTurnedByte", apart := false, narrowed := true }
def FnTurnedByteUptoSaid : Prop := fnTurnedByteUptoRow.holds Try.pinned (OpenSpec.upto fnTurnedByteSpec)

/-- 'laws.FnLowered', WHERE WHAT IT READS IS OF BULK AT MOST 1048576: true; the input reads as it did. -/
def fnLoweredUptoRow : OpenClaim := { program := "ytbijdkmchdkgfaa", sum := "29aa5bb56e6596caf364769b54281d8faeee92e2d41e53b43bb7b44291311112", func := "loop.example/g00655/laws.FnLowered", spec := "fnLowered", unfollowed := true, recurses := true, apart := false, narrowed := true }
def FnLoweredUptoSaid : Prop := fnLoweredUptoRow.holds Try.pinned (OpenSpec.upto fnLoweredSpec)

/-- 'laws.FnSwapsAny', WHERE WHAT IT READS IS OF BULK AT MOST 1048576: true; the input reads as it did. -/
def fnSwapsAnyUptoRow : OpenClaim := { program := "ytbijdkmchdkgfaa", sum := "29aa5bb56e6596caf364769b54281d8faeee92e2d41e53b43bb7b44291311112", func := "loop.example/g00655/laws.FnSwapsAny", spec := "fnSwapsAny", apart := false, narrowed := true }
def FnSwapsAnyUptoSaid : Prop := fnSwapsAnyUptoRow.holds Try.pinned (OpenSpec.upto fnSwapsAnySpec)

/-- 'laws.FnEstWithin', WHERE WHAT IT READS IS OF BULK AT MOST 1048576: true; the input reads as it did. -/
def fnEstWithinUptoRow : OpenClaim := { program := "ytbijdkmchdkgfaa", sum := "29aa5bb56e6596caf364769b54281d8faeee92e2d41e53b43bb7b44291311112", func := "loop.example/g00655/laws.FnEstWithin", spec := "fnEstWithin", unfollowed := true, recurses := true, apart := false, narrowed := true }
def FnEstWithinUptoSaid : Prop := fnEstWithinUptoRow.holds Try.pinned (OpenSpec.upto fnEstWithinSpec)

/-- 'laws.FnExactFairNew', WHERE WHAT IT READS IS OF BULK AT MOST 1048576: true; the input reads as it did. -/
def fnExactFairNewUptoRow : OpenClaim := { program := "ytbijdkmchdkgfaa", sum := "29aa5bb56e6596caf364769b54281d8faeee92e2d41e53b43bb7b44291311112", func := "loop.example/g00655/laws.FnExactFairNew", spec := "fnExactFairNew", apart := false, narrowed := true }
def FnExactFairNewUptoSaid : Prop := fnExactFairNewUptoRow.holds Try.pinned (OpenSpec.upto fnExactFairNewSpec)

/-- 'laws.FnSwapSum', WHERE WHAT IT READS IS OF BULK AT MOST 1048576: true; the input reads as it did. -/
def fnSwapSumUptoRow : OpenClaim := { program := "ytbijdkmchdkgfaa", sum := "29aa5bb56e6596caf364769b54281d8faeee92e2d41e53b43bb7b44291311112", func := "loop.example/g00655/laws.FnSwapSum", spec := "fnSwapSum", apart := false, narrowed := true }
def FnSwapSumUptoSaid : Prop := fnSwapSumUptoRow.holds Try.pinned (OpenSpec.upto fnSwapSumSpec)

/-- 'laws.FnMainMoves', WHERE WHAT IT READS IS OF BULK AT MOST 1048576: true; the input reads as it did. -/
def fnMainMovesUptoRow : OpenClaim := { program := "ytbijdkmchdkgfaa", sum := "29aa5bb56e6596caf364769b54281d8faeee92e2d41e53b43bb7b44291311112", func := "loop.example/g00655/laws.FnMainMoves", spec := "fnMainMoves", unfollowed := true, recurses := true, apart := false, narrowed := true }
def FnMainMovesUptoSaid : Prop := fnMainMovesUptoRow.holds Try.pinned (OpenSpec.upto fnMainMovesSpec)

/-- 'laws.FnCarryBound', WHERE WHAT IT READS IS OF BULK AT MOST 1048576: true; the input reads as it did. -/
def fnCarryBoundUptoRow : OpenClaim := { program := "ytbijdkmchdkgfaa", sum := "29aa5bb56e6596caf364769b54281d8faeee92e2d41e53b43bb7b44291311112", func := "loop.example/g00655/laws.FnCarryBound", spec := "fnCarryBound", unfollowed := true, recurses := true, apart := false, narrowed := true }
def FnCarryBoundUptoSaid : Prop := fnCarryBoundUptoRow.holds Try.pinned (OpenSpec.upto fnCarryBoundSpec)

end Rows
end Go.Proofs.Ytbijdkmchdkgfaa
