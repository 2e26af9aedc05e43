/-
  No cell of these rows narrows 'for every input' (looked for: loops, veiled, ifaces, maps, wideKeys, modest, calm, conditions, laid).
  DERIVED. THE GIVEN ROWS OF THIS SEAT. 12 by the template 'for every input the law returns true; each argument reads behind the call as it read before'; 0 by the template 'total and deterministic' (their statements: YtljhaoiopokmfaaTotals.lean).
  GIVEN WITH THE SEED: the statements are not yours to turn. If you find one false, say at which input.
  Laid BY PROGRAM, IN A SANDBOX (cutbox-rows.mjs): the forced cells as the released guide's own fill.sh prints them over the translation baddd2546d2d8cd6… (all of the seat's roots in one cut). By AI agents, Wed Nov 11 2026. No macro, syntax, notation, axiom, sorry.
-/
import Derived.Test.YtljhaoiopokmfaaChecked
import GoSem.Claim
import GoSem.ClaimJoined
import GoSem.ClaimMapViews
import Derived.JoinedTies
import Derived.KernelRfl
namespace Go.Proofs.Ytljhaoiopokmfaa
/- THE CELL 'sum', in the pinned program and in every row, IS THE sha256 OF THE DUMP (.gsa) THAT YtljhaoiopokmfaaProg.lean LOADS. Nothing in Lean hashes anything: it is a label: what it is worth is what the hold of that sum in a sandbox is worth. -/
noncomputable def Try.pinned : Pinned := { name := "ytljhaoiopokmfaa", sum := "baddd2546d2d8cd6647d7c49c669441623d5b10f36e9c89c8f20dffcbca575d1", checked := Try.checked }
namespace Rows
def none {H : Type} : Left H := { results := [], args := [] }

/-- 'laws.FnExactFairOk': WHATEVER THE INPUT: true; the input reads as it did. -/
def fnExactFairOkSpec : ChangeSpec := { name := "fnExactFairOk", fn := fun _ => fun
  | [d] => { results := [.lit (.bool true)], args := [d] }
  | _ => none }
def fnExactFairOkRow : OpenClaim := { program := "ytljhaoiopokmfaa", sum := "baddd2546d2d8cd6647d7c49c669441623d5b10f36e9c89c8f20dffcbca575d1", func := "loop.example/g00655/laws.FnExactFairOk", spec := "fnExactFairOk", apart := false }
def FnExactFairOkSaid : Prop := fnExactFairOkRow.holds Try.pinned (OpenSpec.ofChange fnExactFairOkSpec)

/-- ITS FALSE NEIGHBOUR: 'it returns false'. Refute it at one input. -/
def fnExactFairOkWrong : ChangeSpec := { name := "fnExactFairOk", fn := fun _ => fun
  | [d] => { results := [.lit (.bool false)], args := [d] }
  | _ => none }
def FnExactFairOkWrongFalsely : Prop := fnExactFairOkRow.holds Try.pinned (OpenSpec.ofChange fnExactFairOkWrong)

/-- 'laws.FnExactFairPick': WHATEVER THE INPUT: true; the input reads as it did. -/
def fnExactFairPickSpec : ChangeSpec := { name := "fnExactFairPick", fn := fun _ => fun
  | [d] => { results := [.lit (.bool true)], args := [d] }
  | _ => none }
def fnExactFairPickRow : OpenClaim := { program := "ytljhaoiopokmfaa", sum := "baddd2546d2d8cd6647d7c49c669441623d5b10f36e9c89c8f20dffcbca575d1", func := "loop.example/g00655/laws.FnExactFairPick", spec := "fnExactFairPick", apart := false }
def FnExactFairPickSaid : Prop := fnExactFairPickRow.holds Try.pinned (OpenSpec.ofChange fnExactFairPickSpec)

/-- ITS FALSE NEIGHBOUR: 'it returns false'. Refute it at one input. -/
def fnExactFairPickWrong : ChangeSpec := { name := "fnExactFairPick", fn := fun _ => fun
  | [d] => { results := [.lit (.bool false)], args := [d] }
  | _ => none }
def FnExactFairPickWrongFalsely : Prop := fnExactFairPickRow.holds Try.pinned (OpenSpec.ofChange fnExactFairPickWrong)

/-- 'laws.FnExactFairKid': WHATEVER THE INPUT: true; the input reads as it did. -/
def fnExactFairKidSpec : ChangeSpec := { name := "fnExactFairKid", fn := fun _ => fun
  | [d1, d2] => { results := [.lit (.bool true)], args := [d1, d2] }
  | _ => none }
def fnExactFairKidRow : OpenClaim := { program := "ytljhaoiopokmfaa", sum := "baddd2546d2d8cd6647d7c49c669441623d5b10f36e9c89c8f20dffcbca575d1", func := "loop.example/g00655/laws.FnExactFairKid", spec := "fnExactFairKid", unfollowed := true, recurses := true, apart := false }
def FnExactFairKidSaid : Prop := fnExactFairKidRow.holds Try.pinned (OpenSpec.ofChange fnExactFairKidSpec)

/-- ITS FALSE NEIGHBOUR: 'it returns false'. Refute it at one input. -/
def fnExactFairKidWrong : ChangeSpec := { name := "fnExactFairKid", fn := fun _ => fun
  | [d1, d2] => { results := [.lit (.bool false)], args := [d1, d2] }
  | _ => none }
def FnExactFairKidWrongFalsely : Prop := fnExactFairKidRow.holds Try.pinned (OpenSpec.ofChange fnExactFairKidWrong)

/-- 'laws.FnExactFairOwed': WHATEVER THE INPUT: true; the input reads as it did. -/
def fnExactFairOwedSpec : ChangeSpec := { name := "fnExactFairOwed", fn := fun _ => fun
  | [d1, d2] => { results := [.lit (.bool true)], args := [d1, d2] }
  | _ => none }
def fnExactFairOwedRow : OpenClaim := { program := "ytljhaoiopokmfaa", sum := "baddd2546d2d8cd6647d7c49c669441623d5b10f36e9c89c8f20dffcbca575d1", func := "loop.example/g00655/laws.FnExactFairOwed", spec := "fnExactFairOwed", unfollowed := true, recurses := true, apart := false }
def FnExactFairOwedSaid : Prop := fnExactFairOwedRow.holds Try.pinned (OpenSpec.ofChange fnExactFairOwedSpec)

/-- ITS FALSE NEIGHBOUR: 'it returns false'. Refute it at one input. -/
def fnExactFairOwedWrong : ChangeSpec := { name := "fnExactFairOwed", fn := fun _ => fun
  | [d1, d2] => { results := [.lit (.bool false)], args := [d1, d2] }
  | _ => none }
def FnExactFairOwedWrongFalsely : Prop := fnExactFairOwedRow.holds Try.pinned (OpenSpec.ofChange fnExactFairOwedWrong)

/-- 'laws.FnExactFairRest': WHATEVER THE INPUT: true; the input reads as it did. -/
def fnExactFairRestSpec : ChangeSpec := { name := "fnExactFairRest", fn := fun _ => fun
  | [d1, d2] => { results := [.lit (.bool true)], args := [d1, d2] }
  | _ => none }
def fnExactFairRestRow : OpenClaim := { program := "ytljhaoiopokmfaa", sum := "baddd2546d2d8cd6647d7c49c669441623d5b10f36e9c89c8f20dffcbca575d1", func := "loop.example/g00655/laws.FnExactFairRest", spec := "fnExactFairRest", unfollowed := true, recurses := true, apart := false }
def FnExactFairRestSaid : Prop := fnExactFairRestRow.holds Try.pinned (OpenSpec.ofChange fnExactFairRestSpec)

/-- ITS FALSE NEIGHBOUR: 'it returns false'. Refute it at one input. -/
def fnExactFairRestWrong : ChangeSpec := { name := "fnExactFairRest", fn := fun _ => fun
  | [d1, d2] => { results := [.lit (.bool false)], args := [d1, d2] }
  | _ => none }
def FnExactFairRestWrongFalsely : Prop := fnExactFairRestRow.holds Try.pinned (OpenSpec.ofChange fnExactFairRestWrong)

/-- 'laws.FnExactFairRebase': WHATEVER THE INPUT: true; the input reads as it did. -/
def fnExactFairRebaseSpec : ChangeSpec := { name := "fnExactFairRebase", fn := fun _ => fun
  | [d] => { results := [.lit (.bool true)], args := [d] }
  | _ => none }
def fnExactFairRebaseRow : OpenClaim := { program := "ytljhaoiopokmfaa", sum := "baddd2546d2d8cd6647d7c49c669441623d5b10f36e9c89c8f20dffcbca575d1", func := "loop.example/g00655/laws.FnExactFairRebase", spec := "fnExactFairRebase", unfollowed := true, recurses := true, apart := false }
def FnExactFairRebaseSaid : Prop := fnExactFairRebaseRow.holds Try.pinned (OpenSpec.ofChange fnExactFairRebaseSpec)

/-- ITS FALSE NEIGHBOUR: 'it returns false'. Refute it at one input. -/
def fnExactFairRebaseWrong : ChangeSpec := { name := "fnExactFairRebase", fn := fun _ => fun
  | [d] => { results := [.lit (.bool false)], args := [d] }
  | _ => none }
def FnExactFairRebaseWrongFalsely : Prop := fnExactFairRebaseRow.holds Try.pinned (OpenSpec.ofChange fnExactFairRebaseWrong)

/-- 'laws.FnExactFairWake': WHATEVER THE INPUT: true; the input reads as it did. -/
def fnExactFairWakeSpec : ChangeSpec := { name := "fnExactFairWake", fn := fun _ => fun
  | [d1, d2] => { results := [.lit (.bool true)], args := [d1, d2] }
  | _ => none }
def fnExactFairWakeRow : OpenClaim := { program := "ytljhaoiopokmfaa", sum := "baddd2546d2d8cd6647d7c49c669441623d5b10f36e9c89c8f20dffcbca575d1", func := "loop.example/g00655/laws.FnExactFairWake", spec := "fnExactFairWake", unfollowed := true, recurses := true, apart := false }
def FnExactFairWakeSaid : Prop := fnExactFairWakeRow.holds Try.pinned (OpenSpec.ofChange fnExactFairWakeSpec)

/-- ITS FALSE NEIGHBOUR: 'it returns false'. Refute it at one input. -/
def fnExactFairWakeWrong : ChangeSpec := { name := "fnExactFairWake", fn := fun _ => fun
  | [d1, d2] => { results := [.lit (.bool false)], args := [d1, d2] }
  | _ => none }
def FnExactFairWakeWrongFalsely : Prop := fnExactFairWakeRow.holds Try.pinned (OpenSpec.ofChange fnExactFairWakeWrong)

/-- 'laws.FnExactFairLeave': WHATEVER THE INPUT: true; the input reads as it did. -/
def fnExactFairLeaveSpec : ChangeSpec := { name := "fnExactFairLeave", fn := fun _ => fun
  | [d1, d2] => { results := [.lit (.bool true)], args := [d1, d2] }
  | _ => none }
def fnExactFairLeaveRow : OpenClaim := { program := "ytljhaoiopokmfaa", sum := "baddd2546d2d8cd6647d7c49c669441623d5b10f36e9c89c8f20dffcbca575d1", func := "loop.example/g00655/laws.FnExactFairLeave", spec := "fnExactFairLeave", unfollowed := true, recurses := true, apart := false }
def FnExactFairLeaveSaid : Prop := fnExactFairLeaveRow.holds Try.pinned (OpenSpec.ofChange fnExactFairLeaveSpec)

/-- ITS FALSE NEIGHBOUR: 'it returns false'. Refute it at one input. -/
def fnExactFairLeaveWrong : ChangeSpec := { name := "fnExactFairLeave", fn := fun _ => fun
  | [d1, d2] => { results := [.lit (.bool false)], args := [d1, d2] }
  | _ => none }
def FnExactFairLeaveWrongFalsely : Prop := fnExactFairLeaveRow.holds Try.pinned (OpenSpec.ofChange fnExactFairLeaveWrong)

/-- 'laws.FnWaits': WHATEVER THE INPUT: true; the input reads as it did. -/
def fnWaitsSpec : ChangeSpec := { name := "fnWaits", fn := fun _ => fun
  | [d] => { results := [.lit (.bool true)], args := [d] }
  | _ => none }
def fnWaitsRow : OpenClaim := { program := "ytljhaoiopokmfaa", sum := "baddd2546d2d8cd6647d7c49c669441623d5b10f36e9c89c8f20dffcbca575d1", func := "loop.example/g00655/laws.FnWaits", spec := "fnWaits", unfollowed := true, recurses := true, apart := false }
def FnWaitsSaid : Prop := fnWaitsRow.holds Try.pinned (OpenSpec.ofChange fnWaitsSpec)

/-- ITS FALSE NEIGHBOUR: 'it returns false'. Refute it at one input. -/
def fnWaitsWrong : ChangeSpec := { name := "fnWaits", fn := fun _ => fun
  | [d] => { results := [.lit (.bool false)], args := [d] }
  | _ => none }
def FnWaitsWrongFalsely : Prop := fnWaitsRow.holds Try.pinned (OpenSpec.ofChange fnWaitsWrong)

/-- 'laws.FnPickFirst': WHATEVER THE INPUT: true; the input reads as it did. -/
def fnPickFirstSpec : ChangeSpec := { name := "fnPickFirst", fn := fun _ => fun
  | [d] => { results := [.lit (.bool true)], args := [d] }
  | _ => none }
def fnPickFirstRow : OpenClaim := { program := "ytljhaoiopokmfaa", sum := "baddd2546d2d8cd6647d7c49c669441623d5b10f36e9c89c8f20dffcbca575d1", func := "loop.example/g00655/laws.FnPickFirst", spec := "fnPickFirst", unfollowed := true, recurses := true, apart := false }
def FnPickFirstSaid : Prop := fnPickFirstRow.holds Try.pinned (OpenSpec.ofChange fnPickFirstSpec)

/-- ITS FALSE NEIGHBOUR: 'it returns false'. Refute it at one input. -/
def fnPickFirstWrong : ChangeSpec := { name := "fnPickFirst", fn := fun _ => fun
  | [d] => { results := [.lit (.bool false)], args := [d] }
  | _ => none }
def FnPickFirstWrongFalsely : Prop := fnPickFirstRow.holds Try.pinned (OpenSpec.ofChange fnPickFirstWrong)

/-- 'laws.FnExactFairServe': WHATEVER THE INPUT: true; the input reads as it did. -/
def fnExactFairServeSpec : ChangeSpec := { name := "fnExactFairServe", fn := fun _ => fun
  | [d1, d2, d3] => { results := [.lit (.bool true)], args := [d1, d2, d3] }
  | _ => none }
def fnExactFairServeRow : OpenClaim := { program := "ytljhaoiopokmfaa", sum := "baddd2546d2d8cd6647d7c49c669441623d5b10f36e9c89c8f20dffcbca575d1", func := "loop.example/g00655/laws.FnExactFairServe", spec := "fnExactFairServe", unfollowed := true, recurses := true, apart := false }
def FnExactFairServeSaid : Prop := fnExactFairServeRow.holds Try.pinned (OpenSpec.ofChange fnExactFairServeSpec)

/-- ITS FALSE NEIGHBOUR: 'it returns false'. Refute it at one input. -/
def fnExactFairServeWrong : ChangeSpec := { name := "fnExactFairServe", fn := fun _ => fun
  | [d1, d2, d3] => { results := [.lit (.bool false)], args := [d1, d2, d3] }
  | _ => none }
def FnExactFairServeWrongFalsely : Prop := fnExactFairServeRow.holds Try.pinned (OpenSpec.ofChange fnExactFairServeWrong)

/-- 'laws.FnExactFairJoin': WHATEVER THE INPUT: true; the input reads as it did. -/
def fnExactFairJoinSpec : ChangeSpec := { name := "fnExactFairJoin", fn := fun _ => fun
  | [d1, d2, d3] => { results := [.lit (.bool true)], args := [d1, d2, d3] }
  | _ => none }
def fnExactFairJoinRow : OpenClaim := { program := "ytljhaoiopokmfaa", sum := "baddd2546d2d8cd6647d7c49c669441623d5b10f36e9c89c8f20dffcbca575d1", func := "loop.example/g00655/laws.FnExactFairJoin", spec := "fnExactFairJoin", inPlace := ["slices.overlaps[loop.example/g00655/impl.Kid]"], unfollowed := true, recurses := true, apart := false }
def FnExactFairJoinSaid : Prop := fnExactFairJoinRow.holds Try.pinned (OpenSpec.ofChange fnExactFairJoinSpec)

/-- ITS FALSE NEIGHBOUR: 'it returns false'. Refute it at one input. -/
def fnExactFairJoinWrong : ChangeSpec := { name := "fnExactFairJoin", fn := fun _ => fun
  | [d1, d2, d3] => { results := [.lit (.bool false)], args := [d1, d2, d3] }
  | _ => none }
def FnExactFairJoinWrongFalsely : Prop := fnExactFairJoinRow.holds Try.pinned (OpenSpec.ofChange fnExactFairJoinWrong)

/- THE SECOND FORM. 'bulk': how many values and letters a reading holds, each counted each time it is reached (what is shared counts as often as it is met; a slice's spare places count too). A statement '..UptoSaid' is the law's where the arguments, and the package variables that the reading takes, are together of bulk at most 1048576: NARROWER than '..Said'. Prove '..Said' where nothing that the law and all that it calls make is longer than what came in: it says more and counts as full. Else prove '..UptoSaid'. A law counts once. -/
mutual
def uptoBulk {H : Type} : DataW H → Nat
  | .lit (.string bytes) => bytes.length + 1
  | .lit _ => 1
  | .nil => 1
  | .ptr d => uptoBulk d + 1
  | .slice elems spare => uptoBulkAll elems + uptoBulkAll spare + 1
  | .agg parts => uptoBulkAll parts + 1
  | .iface _ d => uptoBulk d + 1
  | .map entries => uptoBulkEntries entries + 1
  | .held _ => 1
def uptoBulkAll {H : Type} : List (DataW H) → Nat
  | [] => 0
  | d :: r => uptoBulk d + uptoBulkAll r
def uptoBulkEntries {H : Type} : List (Lit × DataW H) → Nat
  | [] => 0
  | x :: r => uptoBulkEntry x + uptoBulkEntries r
def uptoBulkEntry {H : Type} : Lit × DataW H → Nat
  | (.string bytes, d) => bytes.length + uptoBulk d + 1
  | (_, d) => uptoBulk d + 1
 end
def uptoSmall : (H : Type) → List (DataW H) → Bool := fun _ ds => decide (uptoBulkAll ds ≤ 1048576)
def OpenSpec.upto (s : _root_.Go.ChangeSpec) : _root_.Go.OpenSpec := { _root_.Go.OpenSpec.ofChange s with cond := some uptoSmall }

/-- 'laws.FnExactFairOk', WHERE WHAT IT READS IS OF BULK AT MOST 1048576: true; the input reads as it did. -/
def fnExactFairOkUptoRow : OpenClaim := { program := "ytljhaoiopokmfaa", sum := "baddd2546d2d8cd6647d7c49c669441623d5b10f36e9c89c8f20dffcbca575d1", func := "loop.example/g00655/laws.FnExactFairOk", spec := "fnExactFairOk", apart := false, narrowed := true }
def FnExactFairOkUptoSaid : Prop := fnExactFairOkUptoRow.holds Try.pinned (OpenSpec.upto fnExactFairOkSpec)

/-- 'laws.FnExactFairPick', WHERE WHAT IT READS IS OF BULK AT MOST 1048576: true; the input reads as it did. -/
def fnExactFairPickUptoRow : OpenClaim := { program := "ytljhaoiopokmfaa", sum := "baddd2546d2d8cd6647d7c49c669441623d5b10f36e9c89c8f20dffcbca575d1", func := "loop.example/g00655/laws.FnExactFairPick", spec := "fnExactFairPick", apart := false, narrowed := true }
def FnExactFairPickUptoSaid : Prop := fnExactFairPickUptoRow.holds Try.pinned (OpenSpec.upto fnExactFairPickSpec)

/-- 'laws.FnExactFairKid', WHERE WHAT IT READS IS OF BULK AT MOST 1048576: true; the input reads as it did. -/
def fnExactFairKidUptoRow : OpenClaim := { program := "ytljhaoiopokmfaa", sum := "baddd2546d2d8cd6647d7c49c669441623d5b10f36e9c89c8f20dffcbca575d1", func := "loop.example/g00655/laws.FnExactFairKid", spec := "fnExactFairKid", unfollowed := true, recurses := true, apart := false, narrowed := true }
def FnExactFairKidUptoSaid : Prop := fnExactFairKidUptoRow.holds Try.pinned (OpenSpec.upto fnExactFairKidSpec)

/-- 'laws.FnExactFairOwed', WHERE WHAT IT READS IS OF BULK AT MOST 1048576: true; the input reads as it did. -/
def fnExactFairOwedUptoRow : OpenClaim := { program := "ytljhaoiopokmfaa", sum := "baddd2546d2d8cd6647d7c49c669441623d5b10f36e9c89c8f20dffcbca575d1", func := "loop.example/g00655/laws.FnExactFairOwed", spec := "fnExactFairOwed", unfollowed := true, recurses := true, apart := false, narrowed := true }
def FnExactFairOwedUptoSaid : Prop := fnExactFairOwedUptoRow.holds Try.pinned (OpenSpec.upto fnExactFairOwedSpec)

/-- 'laws.FnExactFairRest', WHERE WHAT IT READS IS OF BULK AT MOST 1048576: true; the input reads as it did. -/
def fnExactFairRestUptoRow : OpenClaim := { program := "ytljhaoiopokmfaa", sum := "baddd2546d2d8cd6647d7c49c669441623d5b10f36e9c89c8f20dffcbca575d1", func := "loop.example/g00655/laws.FnExactFairRest", spec := "fnExactFairRest", unfollowed := true, recurses := true, apart := false, narrowed := true }
def FnExactFairRestUptoSaid : Prop := fnExactFairRestUptoRow.holds Try.pinned (OpenSpec.upto fnExactFairRestSpec)

/-- 'laws.FnExactFairRebase', WHERE WHAT IT READS IS OF BULK AT MOST 1048576: true; the input reads as it did. -/
def fnExactFairRebaseUptoRow : OpenClaim := { program := "ytljhaoiopokmfaa", sum := "baddd2546d2d8cd6647d7c49c669441623d5b10f36e9c89c8f20dffcbca575d1", func := "loop.example/g00655/laws.FnExactFairRebase", spec := "fnExactFairRebase", unfollowed := true, recurses := true, apart := false, narrowed := true }
def FnExactFairRebaseUptoSaid : Prop := fnExactFairRebaseUptoRow.holds Try.pinned (OpenSpec.upto fnExactFairRebaseSpec)

/-- 'laws.FnExactFairWake', WHERE WHAT IT READS IS OF BULK AT MOST 1048576: true; the input reads as it did. -/
def fnExactFairWakeUptoRow : OpenClaim := { program := "ytljhaoiopokmfaa", sum := "baddd2546d2d8cd6647d7c49c669441623d5b10f36e9c89c8f20dffcbca575d1", func := "loop.example/g00655/laws.FnExactFairWake", spec := "fnExactFairWake", unfollowed := true, recurses := true, apart := false, narrowed := true }
def FnExactFairWakeUptoSaid : Prop := fnExactFairWakeUptoRow.holds Try.pinned (OpenSpec.upto fnExactFairWakeSpec)

/-- 'laws.FnExactFairLeave', WHERE WHAT IT READS IS OF BULK AT MOST 1048576: true; the input reads as it did. -/
def fnExactFairLeaveUptoRow : OpenClaim := { program := "ytljhaoiopokmfaa", sum := "baddd2546d2d8cd6647d7c49c669441623d5b10f36e9c89c8f20dffcbca575d1", func := "loop.example/g00655/laws.FnExactFairLeave", spec := "fnExactFairLeave", unfollowed := true, recurses := true, apart := false, narrowed := true }
def FnExactFairLeaveUptoSaid : Prop := fnExactFairLeaveUptoRow.holds Try.pinned (OpenSpec.upto fnExactFairLeaveSpec)

/-- 'laws.FnWaits', WHERE WHAT IT READS IS OF BULK AT MOST 1048576: true; the input reads as it did. -/
def fnWaitsUptoRow : OpenClaim := { program := "ytljhaoiopokmfaa", sum := "baddd2546d2d8cd6647d7c49c669441623d5b10f36e9c89c8f20dffcbca575d1", func := "loop.example/g00655/laws.FnWaits", spec := "fnWaits", unfollowed := true, recurses := true, apart := false, narrowed := true }
def FnWaitsUptoSaid : Prop := fnWaitsUptoRow.holds Try.pinned (OpenSpec.upto fnWaitsSpec)

/-- 'laws.FnPickFirst', WHERE WHAT IT READS IS OF BULK AT MOST 1048576: true; the input reads as it did. -/
def fnPickFirstUptoRow : OpenClaim := { program := "ytljhaoiopokmfaa", sum := "baddd2546d2d8cd6647d7c49c669441623d5b10f36e9c89c8f20dffcbca575d1", func := "loop.example/g00655/laws.FnPickFirst", spec := "fnPickFirst", unfollowed := true, recurses := true, apart := false, narrowed := true }
def FnPickFirstUptoSaid : Prop := fnPickFirstUptoRow.holds Try.pinned (OpenSpec.upto fnPickFirstSpec)

/-- 'laws.FnExactFairServe', WHERE WHAT IT READS IS OF BULK AT MOST 1048576: true; the input reads as it did. -/
def fnExactFairServeUptoRow : OpenClaim := { program := "ytljhaoiopokmfaa", sum := "baddd2546d2d8cd6647d7c49c669441623d5b10f36e9c89c8f20dffcbca575d1", func := "loop.example/g00655/laws.FnExactFairServe", spec := "fnExactFairServe", unfollowed := true, recurses := true, apart := false, narrowed := true }
def FnExactFairServeUptoSaid : Prop := fnExactFairServeUptoRow.holds Try.pinned (OpenSpec.upto fnExactFairServeSpec)

/-- 'laws.FnExactFairJoin', WHERE WHAT IT READS IS OF BULK AT MOST 1048576: true; the input reads as it did. -/
def fnExactFairJoinUptoRow : OpenClaim := { program := "ytljhaoiopokmfaa", sum := "baddd2546d2d8cd6647d7c49c669441623d5b10f36e9c89c8f20dffcbca575d1", func := "loop.example/g00655/laws.FnExactFairJoin", spec := "fnExactFairJoin", inPlace := ["slices.overlaps[loop.example/g00655/impl.Kid]"], unfollowed := true, recurses := true, apart := false, narrowed := true }
def FnExactFairJoinUptoSaid : Prop := fnExactFairJoinUptoRow.holds Try.pinned (OpenSpec.upto fnExactFairJoinSpec)

end Rows
end Go.Proofs.Ytljhaoiopokmfaa
