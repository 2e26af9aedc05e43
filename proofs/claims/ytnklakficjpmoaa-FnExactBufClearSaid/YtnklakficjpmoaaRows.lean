/-
  No cell of these rows narrows 'for every input' (looked for: loops, veiled, ifaces, maps, wideKeys, modest, calm, conditions, laid).
  DERIVED. THE GIVEN ROWS OF THIS SEAT. 12 by the template 'for every input the law returns true; each argument reads behind the call as it read before'; 0 by the template 'total and deterministic' (their statements: YtnklakficjpmoaaTotals.lean).
  GIVEN WITH THE SEED: the statements are not yours to turn. If you find one false, say at which input.
  Laid BY PROGRAM, IN A SANDBOX (cutbox-rows.mjs): the forced cells as the released guide's own fill.sh prints them over the translation b6649ff230b8f52e… (all of the seat's roots in one cut). By AI agents, Wed Nov 11 2026. No macro, syntax, notation, axiom, sorry.
-/
import Derived.Test.YtnklakficjpmoaaChecked
import GoSem.Claim
import GoSem.ClaimJoined
import GoSem.ClaimMapViews
import Derived.JoinedTies
import Derived.KernelRfl
namespace Go.Proofs.Ytnklakficjpmoaa
/- THE CELL 'sum', in the pinned program and in every row, IS THE sha256 OF THE DUMP (.gsa) THAT YtnklakficjpmoaaProg.lean LOADS. Nothing in Lean hashes anything: it is a label: what it is worth is what the hold of that sum in a sandbox is worth. -/
noncomputable def Try.pinned : Pinned := { name := "ytnklakficjpmoaa", sum := "b6649ff230b8f52e79d8c6cdf70065d9d0dada5f2b2860da7cfb6d296e5c2259", checked := Try.checked }
namespace Rows
def none {H : Type} : Left H := { results := [], args := [] }

/-- 'laws.FnExactHeapOrder': WHATEVER THE INPUT: true; the input reads as it did. -/
def fnExactHeapOrderSpec : ChangeSpec := { name := "fnExactHeapOrder", fn := fun _ => fun
  | [d] => { results := [.lit (.bool true)], args := [d] }
  | _ => none }
def fnExactHeapOrderRow : OpenClaim := { program := "ytnklakficjpmoaa", sum := "b6649ff230b8f52e79d8c6cdf70065d9d0dada5f2b2860da7cfb6d296e5c2259", func := "loop.example/g00655/laws.FnExactHeapOrder", spec := "fnExactHeapOrder", unfollowed := true, recurses := true, apart := false }
def FnExactHeapOrderSaid : Prop := fnExactHeapOrderRow.holds Try.pinned (OpenSpec.ofChange fnExactHeapOrderSpec)

/-- ITS FALSE NEIGHBOUR: 'it returns false'. Refute it at one input. -/
def fnExactHeapOrderWrong : ChangeSpec := { name := "fnExactHeapOrder", fn := fun _ => fun
  | [d] => { results := [.lit (.bool false)], args := [d] }
  | _ => none }
def FnExactHeapOrderWrongFalsely : Prop := fnExactHeapOrderRow.holds Try.pinned (OpenSpec.ofChange fnExactHeapOrderWrong)

/-- 'laws.FnExactBufPut': WHATEVER THE INPUT: true; the input reads as it did. -/
def fnExactBufPutSpec : ChangeSpec := { name := "fnExactBufPut", fn := fun _ => fun
  | [d1, d2, d3] => { results := [.lit (.bool true)], args := [d1, d2, d3] }
  | _ => none }
def fnExactBufPutRow : OpenClaim := { program := "ytnklakficjpmoaa", sum := "b6649ff230b8f52e79d8c6cdf70065d9d0dada5f2b2860da7cfb6d296e5c2259", func := "loop.example/g00655/laws.FnExactBufPut", spec := "fnExactBufPut", inPlace := ["slices.overlaps[loop.example/g00655/impl.Lane]"], unfollowed := true, recurses := true, apart := false }
def FnExactBufPutSaid : Prop := fnExactBufPutRow.holds Try.pinned (OpenSpec.ofChange fnExactBufPutSpec)

/-- ITS FALSE NEIGHBOUR: 'it returns false'. Refute it at one input. -/
def fnExactBufPutWrong : ChangeSpec := { name := "fnExactBufPut", fn := fun _ => fun
  | [d1, d2, d3] => { results := [.lit (.bool false)], args := [d1, d2, d3] }
  | _ => none }
def FnExactBufPutWrongFalsely : Prop := fnExactBufPutRow.holds Try.pinned (OpenSpec.ofChange fnExactBufPutWrong)

/-- 'laws.FnExactHeapDrop': WHATEVER THE INPUT: true; the input reads as it did. -/
def fnExactHeapDropSpec : ChangeSpec := { name := "fnExactHeapDrop", fn := fun _ => fun
  | [d1, d2] => { results := [.lit (.bool true)], args := [d1, d2] }
  | _ => none }
def fnExactHeapDropRow : OpenClaim := { program := "ytnklakficjpmoaa", sum := "b6649ff230b8f52e79d8c6cdf70065d9d0dada5f2b2860da7cfb6d296e5c2259", func := "loop.example/g00655/laws.FnExactHeapDrop", spec := "fnExactHeapDrop", unfollowed := true, recurses := true, apart := false }
def FnExactHeapDropSaid : Prop := fnExactHeapDropRow.holds Try.pinned (OpenSpec.ofChange fnExactHeapDropSpec)

/-- ITS FALSE NEIGHBOUR: 'it returns false'. Refute it at one input. -/
def fnExactHeapDropWrong : ChangeSpec := { name := "fnExactHeapDrop", fn := fun _ => fun
  | [d1, d2] => { results := [.lit (.bool false)], args := [d1, d2] }
  | _ => none }
def FnExactHeapDropWrongFalsely : Prop := fnExactHeapDropRow.holds Try.pinned (OpenSpec.ofChange fnExactHeapDropWrong)

/-- 'laws.FnHeapBook': WHATEVER THE INPUT: true; the input reads as it did. -/
def fnHeapBookSpec : ChangeSpec := { name := "fnHeapBook", fn := fun _ => fun
  | [d] => { results := [.lit (.bool true)], args := [d] }
  | _ => none }
def fnHeapBookRow : OpenClaim := { program := "ytnklakficjpmoaa", sum := "b6649ff230b8f52e79d8c6cdf70065d9d0dada5f2b2860da7cfb6d296e5c2259", func := "loop.example/g00655/laws.FnHeapBook", spec := "fnHeapBook", unfollowed := true, recurses := true, apart := false }
def FnHeapBookSaid : Prop := fnHeapBookRow.holds Try.pinned (OpenSpec.ofChange fnHeapBookSpec)

/-- ITS FALSE NEIGHBOUR: 'it returns false'. Refute it at one input. -/
def fnHeapBookWrong : ChangeSpec := { name := "fnHeapBook", fn := fun _ => fun
  | [d] => { results := [.lit (.bool false)], args := [d] }
  | _ => none }
def FnHeapBookWrongFalsely : Prop := fnHeapBookRow.holds Try.pinned (OpenSpec.ofChange fnHeapBookWrong)

/-- 'laws.FnExactBufOk': WHATEVER THE INPUT: true; the input reads as it did. -/
def fnExactBufOkSpec : ChangeSpec := { name := "fnExactBufOk", fn := fun _ => fun
  | [d] => { results := [.lit (.bool true)], args := [d] }
  | _ => none }
def fnExactBufOkRow : OpenClaim := { program := "ytnklakficjpmoaa", sum := "b6649ff230b8f52e79d8c6cdf70065d9d0dada5f2b2860da7cfb6d296e5c2259", func := "loop.example/g00655/laws.FnExactBufOk", spec := "fnExactBufOk", apart := false }
def FnExactBufOkSaid : Prop := fnExactBufOkRow.holds Try.pinned (OpenSpec.ofChange fnExactBufOkSpec)

/-- ITS FALSE NEIGHBOUR: 'it returns false'. Refute it at one input. -/
def fnExactBufOkWrong : ChangeSpec := { name := "fnExactBufOk", fn := fun _ => fun
  | [d] => { results := [.lit (.bool false)], args := [d] }
  | _ => none }
def FnExactBufOkWrongFalsely : Prop := fnExactBufOkRow.holds Try.pinned (OpenSpec.ofChange fnExactBufOkWrong)

/-- 'laws.FnExactBufBytes': WHATEVER THE INPUT: true; the input reads as it did. -/
def fnExactBufBytesSpec : ChangeSpec := { name := "fnExactBufBytes", fn := fun _ => fun
  | [d] => { results := [.lit (.bool true)], args := [d] }
  | _ => none }
def fnExactBufBytesRow : OpenClaim := { program := "ytnklakficjpmoaa", sum := "b6649ff230b8f52e79d8c6cdf70065d9d0dada5f2b2860da7cfb6d296e5c2259", func := "loop.example/g00655/laws.FnExactBufBytes", spec := "fnExactBufBytes", apart := false }
def FnExactBufBytesSaid : Prop := fnExactBufBytesRow.holds Try.pinned (OpenSpec.ofChange fnExactBufBytesSpec)

/-- ITS FALSE NEIGHBOUR: 'it returns false'. Refute it at one input. -/
def fnExactBufBytesWrong : ChangeSpec := { name := "fnExactBufBytes", fn := fun _ => fun
  | [d] => { results := [.lit (.bool false)], args := [d] }
  | _ => none }
def FnExactBufBytesWrongFalsely : Prop := fnExactBufBytesRow.holds Try.pinned (OpenSpec.ofChange fnExactBufBytesWrong)

/-- 'laws.FnExactBufLongest': WHATEVER THE INPUT: true; the input reads as it did. -/
def fnExactBufLongestSpec : ChangeSpec := { name := "fnExactBufLongest", fn := fun _ => fun
  | [d] => { results := [.lit (.bool true)], args := [d] }
  | _ => none }
def fnExactBufLongestRow : OpenClaim := { program := "ytnklakficjpmoaa", sum := "b6649ff230b8f52e79d8c6cdf70065d9d0dada5f2b2860da7cfb6d296e5c2259", func := "loop.example/g00655/laws.FnExactBufLongest", spec := "fnExactBufLongest", apart := false }
def FnExactBufLongestSaid : Prop := fnExactBufLongestRow.holds Try.pinned (OpenSpec.ofChange fnExactBufLongestSpec)

/-- ITS FALSE NEIGHBOUR: 'it returns false'. Refute it at one input. -/
def fnExactBufLongestWrong : ChangeSpec := { name := "fnExactBufLongest", fn := fun _ => fun
  | [d] => { results := [.lit (.bool false)], args := [d] }
  | _ => none }
def FnExactBufLongestWrongFalsely : Prop := fnExactBufLongestRow.holds Try.pinned (OpenSpec.ofChange fnExactBufLongestWrong)

/-- 'laws.FnExactBufLaneOf': WHATEVER THE INPUT: true; the input reads as it did. -/
def fnExactBufLaneOfSpec : ChangeSpec := { name := "fnExactBufLaneOf", fn := fun _ => fun
  | [d1, d2] => { results := [.lit (.bool true)], args := [d1, d2] }
  | _ => none }
def fnExactBufLaneOfRow : OpenClaim := { program := "ytnklakficjpmoaa", sum := "b6649ff230b8f52e79d8c6cdf70065d9d0dada5f2b2860da7cfb6d296e5c2259", func := "loop.example/g00655/laws.FnExactBufLaneOf", spec := "fnExactBufLaneOf", unfollowed := true, recurses := true, apart := false }
def FnExactBufLaneOfSaid : Prop := fnExactBufLaneOfRow.holds Try.pinned (OpenSpec.ofChange fnExactBufLaneOfSpec)

/-- ITS FALSE NEIGHBOUR: 'it returns false'. Refute it at one input. -/
def fnExactBufLaneOfWrong : ChangeSpec := { name := "fnExactBufLaneOf", fn := fun _ => fun
  | [d1, d2] => { results := [.lit (.bool false)], args := [d1, d2] }
  | _ => none }
def FnExactBufLaneOfWrongFalsely : Prop := fnExactBufLaneOfRow.holds Try.pinned (OpenSpec.ofChange fnExactBufLaneOfWrong)

/-- 'laws.FnPutTaken': WHATEVER THE INPUT: true; the input reads as it did. -/
def fnPutTakenSpec : ChangeSpec := { name := "fnPutTaken", fn := fun _ => fun
  | [d] => { results := [.lit (.bool true)], args := [d] }
  | _ => none }
def fnPutTakenRow : OpenClaim := { program := "ytnklakficjpmoaa", sum := "b6649ff230b8f52e79d8c6cdf70065d9d0dada5f2b2860da7cfb6d296e5c2259", func := "loop.example/g00655/laws.FnPutTaken", spec := "fnPutTaken", unfollowed := true, recurses := true, apart := false }
def FnPutTakenSaid : Prop := fnPutTakenRow.holds Try.pinned (OpenSpec.ofChange fnPutTakenSpec)

/-- ITS FALSE NEIGHBOUR: 'it returns false'. Refute it at one input. -/
def fnPutTakenWrong : ChangeSpec := { name := "fnPutTaken", fn := fun _ => fun
  | [d] => { results := [.lit (.bool false)], args := [d] }
  | _ => none }
def FnPutTakenWrongFalsely : Prop := fnPutTakenRow.holds Try.pinned (OpenSpec.ofChange fnPutTakenWrong)

/-- 'laws.FnExactBufTake': WHATEVER THE INPUT: true; the input reads as it did. -/
def fnExactBufTakeSpec : ChangeSpec := { name := "fnExactBufTake", fn := fun _ => fun
  | [d1, d2] => { results := [.lit (.bool true)], args := [d1, d2] }
  | _ => none }
def fnExactBufTakeRow : OpenClaim := { program := "ytnklakficjpmoaa", sum := "b6649ff230b8f52e79d8c6cdf70065d9d0dada5f2b2860da7cfb6d296e5c2259", func := "loop.example/g00655/laws.FnExactBufTake", spec := "fnExactBufTake", unfollowed := true, recurses := true, apart := false }
def FnExactBufTakeSaid : Prop := fnExactBufTakeRow.holds Try.pinned (OpenSpec.ofChange fnExactBufTakeSpec)

/-- ITS FALSE NEIGHBOUR: 'it returns false'. Refute it at one input. -/
def fnExactBufTakeWrong : ChangeSpec := { name := "fnExactBufTake", fn := fun _ => fun
  | [d1, d2] => { results := [.lit (.bool false)], args := [d1, d2] }
  | _ => none }
def FnExactBufTakeWrongFalsely : Prop := fnExactBufTakeRow.holds Try.pinned (OpenSpec.ofChange fnExactBufTakeWrong)

/-- 'laws.FnExactBufClear': WHATEVER THE INPUT: true; the input reads as it did. -/
def fnExactBufClearSpec : ChangeSpec := { name := "fnExactBufClear", fn := fun _ => fun
  | [d1, d2] => { results := [.lit (.bool true)], args := [d1, d2] }
  | _ => none }
def fnExactBufClearRow : OpenClaim := { program := "ytnklakficjpmoaa", sum := "b6649ff230b8f52e79d8c6cdf70065d9d0dada5f2b2860da7cfb6d296e5c2259", func := "loop.example/g00655/laws.FnExactBufClear", spec := "fnExactBufClear", unfollowed := true, recurses := true, apart := false }
def FnExactBufClearSaid : Prop := fnExactBufClearRow.holds Try.pinned (OpenSpec.ofChange fnExactBufClearSpec)

/-- ITS FALSE NEIGHBOUR: 'it returns false'. Refute it at one input. -/
def fnExactBufClearWrong : ChangeSpec := { name := "fnExactBufClear", fn := fun _ => fun
  | [d1, d2] => { results := [.lit (.bool false)], args := [d1, d2] }
  | _ => none }
def FnExactBufClearWrongFalsely : Prop := fnExactBufClearRow.holds Try.pinned (OpenSpec.ofChange fnExactBufClearWrong)

/-- 'laws.FnLongest': WHATEVER THE INPUT: true; the input reads as it did. -/
def fnLongestSpec : ChangeSpec := { name := "fnLongest", fn := fun _ => fun
  | [d] => { results := [.lit (.bool true)], args := [d] }
  | _ => none }
def fnLongestRow : OpenClaim := { program := "ytnklakficjpmoaa", sum := "b6649ff230b8f52e79d8c6cdf70065d9d0dada5f2b2860da7cfb6d296e5c2259", func := "loop.example/g00655/laws.FnLongest", spec := "fnLongest", inPlace := ["slices.overlaps[loop.example/g00655/impl.Lane]"], unfollowed := true, recurses := true, apart := false }
def FnLongestSaid : Prop := fnLongestRow.holds Try.pinned (OpenSpec.ofChange fnLongestSpec)

/-- ITS FALSE NEIGHBOUR: 'it returns false'. Refute it at one input. -/
def fnLongestWrong : ChangeSpec := { name := "fnLongest", fn := fun _ => fun
  | [d] => { results := [.lit (.bool false)], args := [d] }
  | _ => none }
def FnLongestWrongFalsely : Prop := fnLongestRow.holds Try.pinned (OpenSpec.ofChange fnLongestWrong)

/- THE SECOND FORM. 'bulk': how many values and letters a reading holds, each counted each time it is reached (what is shared counts as often as it is met; a slice's spare places count too). A statement '..UptoSaid' is the law's where the arguments, and the package variables that the reading takes, are together of bulk at most 1048576: NARROWER than '..Said'. Prove '..Said' where nothing that the law and all that it calls make is longer than what came in: it says more and counts as full. Else prove '..UptoSaid'. A law counts once. -/
mutual
def uptoBulk {H : Type} : DataW H → Nat
  | .lit (.string bytes) => bytes.length + 1
  | .lit _ => 1
  | .nil => 1
  | .ptr d => uptoBulk d + 1
  | .slice elems spare => uptoBulkAll elems + uptoBulkAll spare + 1
  | .agg parts => uptoBulkAll parts + 1
  | .iface _ d => uptoBulk d + 1
  | .map entries => uptoBulkEntries entries + 1
  | .held _ => 1
def uptoBulkAll {H : Type} : List (DataW H) → Nat
  | [] => 0
  | d :: r => uptoBulk d + uptoBulkAll r
def uptoBulkEntries {H : Type} : List (Lit × DataW H) → Nat
  | [] => 0
  | x :: r => uptoBulkEntry x + uptoBulkEntries r
def uptoBulkEntry {H : Type} : Lit × DataW H → Nat
  | (.string bytes, d) => bytes.length + uptoBulk d + 1
  | (_, d) => uptoBulk d + 1
 end
def uptoSmall : (H : Type) → List (DataW H) → Bool := fun _ ds => decide (uptoBulkAll ds ≤ 1048576)
def OpenSpec.upto (s : _root_.Go.ChangeSpec) : _root_.Go.OpenSpec := { _root_.Go.OpenSpec.ofChange s with cond := some uptoSmall }

/-- 'laws.FnExactHeapOrder', WHERE WHAT IT READS IS OF BULK AT MOST 1048576: true; the input reads as it did. -/
def fnExactHeapOrderUptoRow : OpenClaim := { program := "ytnklakficjpmoaa", sum := "b6649ff230b8f52e79d8c6cdf70065d9d0dada5f2b2860da7cfb6d296e5c2259", func := "loop.example/g00655/laws.FnExactHeapOrder", spec := "fnExactHeapOrder", unfollowed := true, recurses := true, apart := false, narrowed := true }
def FnExactHeapOrderUptoSaid : Prop := fnExactHeapOrderUptoRow.holds Try.pinned (OpenSpec.upto fnExactHeapOrderSpec)

/-- 'laws.FnExactBufPut', WHERE WHAT IT READS IS OF BULK AT MOST 1048576: true; the input reads as it did. -/
def fnExactBufPutUptoRow : OpenClaim := { program := "ytnklakficjpmoaa", sum := "b6649ff230b8f52e79d8c6cdf70065d9d0dada5f2b2860da7cfb6d296e5c2259", func := "loop.example/g00655/laws.FnExactBufPut", spec := "fnExactBufPut", inPlace := ["slices.overlaps[loop.example/g00655/impl.Lane]"], unfollowed := true, recurses := true, apart := false, narrowed := true }
def FnExactBufPutUptoSaid : Prop := fnExactBufPutUptoRow.holds Try.pinned (OpenSpec.upto fnExactBufPutSpec)

/-- 'laws.FnExactHeapDrop', WHERE WHAT IT READS IS OF BULK AT MOST 1048576: true; the input reads as it did. -/
def fnExactHeapDropUptoRow : OpenClaim := { program := "ytnklakficjpmoaa", sum := "b6649ff230b8f52e79d8c6cdf70065d9d0dada5f2b2860da7cfb6d296e5c2259", func := "loop.example/g00655/laws.FnExactHeapDrop", spec := "fnExactHeapDrop", unfollowed := true, recurses := true, apart := false, narrowed := true }
def FnExactHeapDropUptoSaid : Prop := fnExactHeapDropUptoRow.holds Try.pinned (OpenSpec.upto fnExactHeapDropSpec)

/-- 'laws.FnHeapBook', WHERE WHAT IT READS IS OF BULK AT MOST 1048576: true; the input reads as it did. -/
def fnHeapBookUptoRow : OpenClaim := { program := "ytnklakficjpmoaa", sum := "b6649ff230b8f52e79d8c6cdf70065d9d0dada5f2b2860da7cfb6d296e5c2259", func := "loop.example/g00655/laws.FnHeapBook", spec := "fnHeapBook", unfollowed := true, recurses := true, apart := false, narrowed := true }
def FnHeapBookUptoSaid : Prop := fnHeapBookUptoRow.holds Try.pinned (OpenSpec.upto fnHeapBookSpec)

/-- 'laws.FnExactBufOk', WHERE WHAT IT READS IS OF BULK AT MOST 1048576: true; the input reads as it did. -/
def fnExactBufOkUptoRow : OpenClaim := { program := "ytnklakficjpmoaa", sum := "b6649ff230b8f52e79d8c6cdf70065d9d0dada5f2b2860da7cfb6d296e5c2259", func := "loop.example/g00655/laws.FnExactBufOk", spec := "fnExactBufOk", apart := false, narrowed := true }
def FnExactBufOkUptoSaid : Prop := fnExactBufOkUptoRow.holds Try.pinned (OpenSpec.upto fnExactBufOkSpec)

/-- 'laws.FnExactBufBytes', WHERE WHAT IT READS IS OF BULK AT MOST 1048576: true; the input reads as it did. -/
def fnExactBufBytesUptoRow : OpenClaim := { program := "ytnklakficjpmoaa", sum := "b6649ff230b8f52e79d8c6cdf70065d9d0dada5f2b2860da7cfb6d296e5c2259", func := "loop.example/g00655/laws.FnExactBufBytes", spec := "fnExactBufBytes", apart := false, narrowed := true }
def FnExactBufBytesUptoSaid : Prop := fnExactBufBytesUptoRow.holds Try.pinned (OpenSpec.upto fnExactBufBytesSpec)

/-- 'laws.FnExactBufLongest', WHERE WHAT IT READS IS OF BULK AT MOST 1048576: true; the input reads as it did. -/
def fnExactBufLongestUptoRow : OpenClaim := { program := "ytnklakficjpmoaa", sum := "b6649ff230b8f52e79d8c6cdf70065d9d0dada5f2b2860da7cfb6d296e5c2259", func := "loop.example/g00655/laws.FnExactBufLongest", spec := "fnExactBufLongest", apart := false, narrowed := true }
def FnExactBufLongestUptoSaid : Prop := fnExactBufLongestUptoRow.holds Try.pinned (OpenSpec.upto fnExactBufLongestSpec)

/-- 'laws.FnExactBufLaneOf', WHERE WHAT IT READS IS OF BULK AT MOST 1048576: true; the input reads as it did. -/
def fnExactBufLaneOfUptoRow : OpenClaim := { program := "ytnklakficjpmoaa", sum := "b6649ff230b8f52e79d8c6cdf70065d9d0dada5f2b2860da7cfb6d296e5c2259", func := "loop.example/g00655/laws.FnExactBufLaneOf", spec := "fnExactBufLaneOf", unfollowed := true, recurses := true, apart := false, narrowed := true }
def FnExactBufLaneOfUptoSaid : Prop := fnExactBufLaneOfUptoRow.holds Try.pinned (OpenSpec.upto fnExactBufLaneOfSpec)

/-- 'laws.FnPutTaken', WHERE WHAT IT READS IS OF BULK AT MOST 1048576: true; the input reads as it did. -/
def fnPutTakenUptoRow : OpenClaim := { program := "ytnklakficjpmoaa", sum := "b6649ff230b8f52e79d8c6cdf70065d9d0dada5f2b2860da7cfb6d296e5c2259", func := "loop.example/g00655/laws.FnPutTaken", spec := "fnPutTaken", unfollowed := true, recurses := true, apart := false, narrowed := true }
def FnPutTakenUptoSaid : Prop := fnPutTakenUptoRow.holds Try.pinned (OpenSpec.upto fnPutTakenSpec)

/-- 'laws.FnExactBufTake', WHERE WHAT IT READS IS OF BULK AT MOST 1048576: true; the input reads as it did. -/
def fnExactBufTakeUptoRow : OpenClaim := { program := "ytnklakficjpmoaa", sum := "b6649ff230b8f52e79d8c6cdf70065d9d0dada5f2b2860da7cfb6d296e5c2259", func := "loop.example/g00655/laws.FnExactBufTake", spec := "fnExactBufTake", unfollowed := true, recurses := true, apart := false, narrowed := true }
def FnExactBufTakeUptoSaid : Prop := fnExactBufTakeUptoRow.holds Try.pinned (OpenSpec.upto fnExactBufTakeSpec)

/-- 'laws.FnExactBufClear', WHERE WHAT IT READS IS OF BULK AT MOST 1048576: true; the input reads as it did. -/
def fnExactBufClearUptoRow : OpenClaim := { program := "ytnklakficjpmoaa", sum := "b6649ff230b8f52e79d8c6cdf70065d9d0dada5f2b2860da7cfb6d296e5c2259", func := "loop.example/g00655/laws.FnExactBufClear", spec := "fnExactBufClear", unfollowed := true, recurses := true, apart := false, narrowed := true }
def FnExactBufClearUptoSaid : Prop := fnExactBufClearUptoRow.holds Try.pinned (OpenSpec.upto fnExactBufClearSpec)

/-- 'laws.FnLongest', WHERE WHAT IT READS IS OF BULK AT MOST 1048576: true; the input reads as it did. -/
def fnLongestUptoRow : OpenClaim := { program := "ytnklakficjpmoaa", sum := "b6649ff230b8f52e79d8c6cdf70065d9d0dada5f2b2860da7cfb6d296e5c2259", func := "loop.example/g00655/laws.FnLongest", spec := "fnLongest", inPlace := ["slices.overlaps[loop.example/g00655/impl.Lane]"], unfollowed := true, recurses := true, apart := false, narrowed := true }
def FnLongestUptoSaid : Prop := fnLongestUptoRow.holds Try.pinned (OpenSpec.upto fnLongestSpec)

end Rows
end Go.Proofs.Ytnklakficjpmoaa
