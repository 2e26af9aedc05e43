/-
  No cell of these rows narrows 'for every input' (looked for: loops, veiled, ifaces, maps, wideKeys, modest, calm, conditions, laid).
  DERIVED. THE GIVEN ROWS OF THIS SEAT. 7 by the template 'for every input the law returns true; each argument reads behind the call as it read before'; 0 by the template 'total and deterministic' (their statements: YtlafobfjbkhioaaTotals.lean).
  GIVEN WITH THE SEED: the statements are not yours to turn. If you find one false, say at which input.
  Laid BY PROGRAM, IN A SANDBOX (cutbox-rows.mjs): the forced cells as the released guide's own fill.sh prints them over the translation a486835220c95387… (all of the seat's roots in one cut). By AI agents, Wed Nov 11 2026. No macro, syntax, notation, axiom, sorry.
-/
import Derived.Test.YtlafobfjbkhioaaChecked
import GoSem.Claim
import GoSem.ClaimJoined
import GoSem.ClaimMapViews
import Derived.JoinedTies
import Derived.KernelRfl
namespace Go.Proofs.Ytlafobfjbkhioaa
/- THE CELL 'sum', in the pinned program and in every row, IS THE sha256 OF THE DUMP (.gsa) THAT YtlafobfjbkhioaaProg.lean LOADS. Nothing in Lean hashes anything: it is a label: what it is worth is what the hold of that sum in a sandbox is worth. -/
noncomputable def Try.pinned : Pinned := { name := "ytlafobfjbkhioaa", sum := "a486835220c95387acf71abd6ec21100a933dbd4892e2076c17c2a319de1b54d", checked := Try.checked }
namespace Rows
def none {H : Type} : Left H := { results := [], args := [] }

/-- 'laws.FnStoreBook': WHATEVER THE INPUT: true; the input reads as it did. -/
def fnStoreBookSpec : ChangeSpec := { name := "fnStoreBook", fn := fun _ => fun
  | [d] => { results := [.lit (.bool true)], args := [d] }
  | _ => none }
def fnStoreBookRow : OpenClaim := { program := "ytlafobfjbkhioaa", sum := "a486835220c95387acf71abd6ec21100a933dbd4892e2076c17c2a319de1b54d", func := "loop.example/g00655/laws.FnStoreBook", spec := "fnStoreBook", apart := false }
def FnStoreBookSaid : Prop := fnStoreBookRow.holds Try.pinned (OpenSpec.ofChange fnStoreBookSpec)

/-- ITS FALSE NEIGHBOUR: 'it returns false'. Refute it at one input. -/
def fnStoreBookWrong : ChangeSpec := { name := "fnStoreBook", fn := fun _ => fun
  | [d] => { results := [.lit (.bool false)], args := [d] }
  | _ => none }
def FnStoreBookWrongFalsely : Prop := fnStoreBookRow.holds Try.pinned (OpenSpec.ofChange fnStoreBookWrong)

/-- 'laws.FnCarryBound': WHATEVER THE INPUT: true; the input reads as it did. -/
def fnCarryBoundSpec : ChangeSpec := { name := "fnCarryBound", fn := fun _ => fun
  | [d] => { results := [.lit (.bool true)], args := [d] }
  | _ => none }
def fnCarryBoundRow : OpenClaim := { program := "ytlafobfjbkhioaa", sum := "a486835220c95387acf71abd6ec21100a933dbd4892e2076c17c2a319de1b54d", func := "loop.example/g00655/laws.FnCarryBound", spec := "fnCarryBound", unfollowed := true, recurses := true, apart := false }
def FnCarryBoundSaid : Prop := fnCarryBoundRow.holds Try.pinned (OpenSpec.ofChange fnCarryBoundSpec)

/-- ITS FALSE NEIGHBOUR: 'it returns false'. Refute it at one input. -/
def fnCarryBoundWrong : ChangeSpec := { name := "fnCarryBound", fn := fun _ => fun
  | [d] => { results := [.lit (.bool false)], args := [d] }
  | _ => none }
def FnCarryBoundWrongFalsely : Prop := fnCarryBoundRow.holds Try.pinned (OpenSpec.ofChange fnCarryBoundWrong)

/-- 'laws.FnUpperTurned': WHATEVER THE INPUT: true; the input reads as it did. -/
def fnUpperTurnedSpec : ChangeSpec := { name := "fnUpperTurned", fn := fun _ => fun
  | [d] => { results := [.lit (.bool true)], args := [d] }
  | _ => none }
def fnUpperTurnedRow : OpenClaim := { program := "ytlafobfjbkhioaa", sum := "a486835220c95387acf71abd6ec21100a933dbd4892e2076c17c2a319de1b54d", func := "loop.example/g00655/laws.FnUpperTurned", spec := "fnUpperTurned", unfollowed := true, recurses := true, apart := false }
def FnUpperTurnedSaid : Prop := fnUpperTurnedRow.holds Try.pinned (OpenSpec.ofChange fnUpperTurnedSpec)

/-- ITS FALSE NEIGHBOUR: 'it returns false'. Refute it at one input. -/
def fnUpperTurnedWrong : ChangeSpec := { name := "fnUpperTurned", fn := fun _ => fun
  | [d] => { results := [.lit (.bool false)], args := [d] }
  | _ => none }
def FnUpperTurnedWrongFalsely : Prop := fnUpperTurnedRow.holds Try.pinned (OpenSpec.ofChange fnUpperTurnedWrong)

/-- 'laws.FnFourTold': WHATEVER THE INPUT: true; the input reads as it did. -/
def fnFourToldSpec : ChangeSpec := { name := "fnFourTold", fn := fun _ => fun
  | [d] => { results := [.lit (.bool true)], args := [d] }
  | _ => none }
def fnFourToldRow : OpenClaim := { program := "ytlafobfjbkhioaa", sum := "a486835220c95387acf71abd6ec21100a933dbd4892e2076c17c2a319de1b54d", func := "loop.example/g00655/laws.FnFourTold", spec := "fnFourTold", apart := false }
def FnFourToldSaid : Prop := fnFourToldRow.holds Try.pinned (OpenSpec.ofChange fnFourToldSpec)

/-- ITS FALSE NEIGHBOUR: 'it returns false'. Refute it at one input. -/
def fnFourToldWrong : ChangeSpec := { name := "fnFourTold", fn := fun _ => fun
  | [d] => { results := [.lit (.bool false)], args := [d] }
  | _ => none }
def FnFourToldWrongFalsely : Prop := fnFourToldRow.holds Try.pinned (OpenSpec.ofChange fnFourToldWrong)

/-- 'laws.FnFourBack': WHATEVER THE INPUT: true; the input reads as it did. -/
def fnFourBackSpec : ChangeSpec := { name := "fnFourBack", fn := fun _ => fun
  | [d] => { results := [.lit (.bool true)], args := [d] }
  | _ => none }
def fnFourBackRow : OpenClaim := { program := "ytlafobfjbkhioaa", sum := "a486835220c95387acf71abd6ec21100a933dbd4892e2076c17c2a319de1b54d", func := "loop.example/g00655/laws.FnFourBack", spec := "fnFourBack", apart := false }
def FnFourBackSaid : Prop := fnFourBackRow.holds Try.pinned (OpenSpec.ofChange fnFourBackSpec)

/-- ITS FALSE NEIGHBOUR: 'it returns false'. Refute it at one input. -/
def fnFourBackWrong : ChangeSpec := { name := "fnFourBack", fn := fun _ => fun
  | [d] => { results := [.lit (.bool false)], args := [d] }
  | _ => none }
def FnFourBackWrongFalsely : Prop := fnFourBackRow.holds Try.pinned (OpenSpec.ofChange fnFourBackWrong)

/-- 'laws.FnSixBack': WHATEVER THE INPUT: true; the input reads as it did. -/
def fnSixBackSpec : ChangeSpec := { name := "fnSixBack", fn := fun _ => fun
  | [d] => { results := [.lit (.bool true)], args := [d] }
  | _ => none }
def fnSixBackRow : OpenClaim := { program := "ytlafobfjbkhioaa", sum := "a486835220c95387acf71abd6ec21100a933dbd4892e2076c17c2a319de1b54d", func := "loop.example/g00655/laws.FnSixBack", spec := "fnSixBack", unfollowed := true, recurses := true, apart := false }
def FnSixBackSaid : Prop := fnSixBackRow.holds Try.pinned (OpenSpec.ofChange fnSixBackSpec)

/-- ITS FALSE NEIGHBOUR: 'it returns false'. Refute it at one input. -/
def fnSixBackWrong : ChangeSpec := { name := "fnSixBack", fn := fun _ => fun
  | [d] => { results := [.lit (.bool false)], args := [d] }
  | _ => none }
def FnSixBackWrongFalsely : Prop := fnSixBackRow.holds Try.pinned (OpenSpec.ofChange fnSixBackWrong)

/-- 'laws.FnGrown': WHATEVER THE INPUT: true; the input reads as it did. -/
def fnGrownSpec : ChangeSpec := { name := "fnGrown", fn := fun _ => fun
  | [d] => { results := [.lit (.bool true)], args := [d] }
  | _ => none }
def fnGrownRow : OpenClaim := { program := "ytlafobfjbkhioaa", sum := "a486835220c95387acf71abd6ec21100a933dbd4892e2076c17c2a319de1b54d", func := "loop.example/g00655/laws.FnGrown", spec := "fnGrown", apart := false }
def FnGrownSaid : Prop := fnGrownRow.holds Try.pinned (OpenSpec.ofChange fnGrownSpec)

/-- ITS FALSE NEIGHBOUR: 'it returns false'. Refute it at one input. -/
def fnGrownWrong : ChangeSpec := { name := "fnGrown", fn := fun _ => fun
  | [d] => { results := [.lit (.bool false)], args := [d] }
  | _ => none }
def FnGrownWrongFalsely : Prop := fnGrownRow.holds Try.pinned (OpenSpec.ofChange fnGrownWrong)

/- THE SECOND FORM. 'bulk': how many values and letters a reading holds, each counted each time it is reached (what is shared counts as often as it is met; a slice's spare places count too). A statement '..UptoSaid' is the law's where the arguments, and the package variables that the reading takes, are together of bulk at most 1048576: NARROWER than '..Said'. Prove '..Said' where nothing that the law and all that it calls make is longer than what came in: it says more and counts as full. Else prove '..UptoSaid'. A law counts once. -/
mutual
def uptoBulk {H : Type} : DataW H → Nat
  | .lit (.string bytes) => bytes.length + 1
  | .lit _ => 1
  | .nil => 1
  | .ptr d => uptoBulk d + 1
  | .slice elems spare => uptoBulkAll elems + uptoBulkAll spare + 1
  | .agg parts => uptoBulkAll parts + 1
  | .iface _ d => uptoBulk d + 1
  | .map entries => uptoBulkEntries entries + 1
  | .held _ => 1
def uptoBulkAll {H : Type} : List (DataW H) → Nat
  | [] => 0
  | d :: r => uptoBulk d + uptoBulkAll r
def uptoBulkEntries {H : Type} : List (Lit × DataW H) → Nat
  | [] => 0
  | x :: r => uptoBulkEntry x + uptoBulkEntries r
def uptoBulkEntry {H : Type} : Lit × DataW H → Nat
  | (.string bytes, d) => bytes.length + uptoBulk d + 1
  | (_, d) => uptoBulk d + 1
 end
def uptoSmall : (H : Type) → List (DataW H) → Bool := fun _ ds => decide (uptoBulkAll ds ≤ 1048576)
def OpenSpec.upto (s : _root_.Go.ChangeSpec) : _root_.Go.OpenSpec := { _root_.Go.OpenSpec.ofChange s with cond := some uptoSmall }

/-- 'laws.FnStoreBook', WHERE WHAT IT READS IS OF BULK AT MOST 1048576: true; the input reads as it did. -/
def fnStoreBookUptoRow : OpenClaim := { program := "ytlafobfjbkhioaa", sum := "a486835220c95387acf71abd6ec21100a933dbd4892e2076c17c2a319de1b54d", func := "loop.example/g00655/laws.FnStoreBook", spec := "fnStoreBook", apart := false, narrowed := true }
def FnStoreBookUptoSaid : Prop := fnStoreBookUptoRow.holds Try.pinned (OpenSpec.upto fnStoreBookSpec)

/-- 'laws.FnCarryBound', WHERE WHAT IT READS IS OF BULK AT MOST 1048576: true; the input reads as it did. -/
def fnCarryBoundUptoRow : OpenClaim := { program := "ytlafobfjbkhioaa", sum := "a486835220c95387acf71abd6ec21100a933dbd4892e2076c17c2a319de1b54d", func := "loop.example/g00655/laws.FnCarryBound", spec := "fnCarryBound", unfollowed := true, recurses := true, apart := false, narrowed := true }
def FnCarryBoundUptoSaid : Prop := fnCarryBoundUptoRow.holds Try.pinned (OpenSpec.upto fnCarryBoundSpec)

/-- 'laws.FnUpperTurned', WHERE WHAT IT READS IS OF BULK AT MOST 1048576: true; the input reads as it did. -/
def fnUpperTurnedUptoRow : OpenClaim := { program := "ytlafobfjbkhioaa", sum := "a486835220c95387acf71abd6ec21100a933dbd4892e2076c17c2a319de1b54d", func := "loop.example/g00655/laws.FnUpperTurned", spec := "fnUpperTurned", unfollowed := true, recurses := true, apart := false, narrowed := true }
def FnUpperTurnedUptoSaid : Prop := fnUpperTurnedUptoRow.holds Try.pinned (OpenSpec.upto fnUpperTurnedSpec)

/-- 'laws.FnFourTold', WHERE WHAT IT READS IS OF BULK AT MOST 1048576: true; the input reads as it did. -/
def fnFourToldUptoRow : OpenClaim := { program := "ytlafobfjbkhioaa", sum := "a486835220c95387acf71abd6ec21100a933dbd4892e2076c17c2a319de1b54d", func := "loop.example/g00655/laws.FnFourTold", spec := "fnFourTold", apart := false, narrowed := true }
def FnFourToldUptoSaid : Prop := fnFourToldUptoRow.holds Try.pinned (OpenSpec.upto fnFourToldSpec)

/-- 'laws.FnFourBack', WHERE WHAT IT READS IS OF BULK AT MOST 1048576: true; the input reads as it did. -/
def fnFourBackUptoRow : OpenClaim := { program := "ytlafobfjbkhioaa", sum := "a486835220c95387acf71abd6ec21100a933dbd4892e2076c17c2a319de1b54d", func := "loop.example/g00655/laws.FnFourBack", spec := "fnFourBack", apart := false, narrowed := true }
def FnFourBackUptoSaid : Prop := fnFourBackUptoRow.holds Try.pinned (OpenSpec.upto fnFourBackSpec)

/-- 'laws.FnSixBack', WHERE WHAT IT READS IS OF BULK AT MOST 1048576: true; the input reads as it did. -/
def fnSixBackUptoRow : OpenClaim := { program := "ytlafobfjbkhioaa", sum := "a486835220c95387acf71abd6ec21100a933dbd4892e2076c17c2a319de1b54d", func := "loop.example/g00655/laws.FnSixBack", spec := "fnSixBack", unfollowed := true, recurses := true, apart := false, narrowed := true }
def FnSixBackUptoSaid : Prop := fnSixBackUptoRow.holds Try.pinned (OpenSpec.upto fnSixBackSpec)

/-- 'laws.FnGrown', WHERE WHAT IT READS IS OF BULK AT MOST 1048576: true; the input reads as it did. -/
def fnGrownUptoRow : OpenClaim := { program := "ytlafobfjbkhioaa", sum := "a486835220c95387acf71abd6ec21100a933dbd4892e2076c17c2a319de1b54d", func := "loop.example/g00655/laws.FnGrown", spec := "fnGrown", apart := false, narrowed := true }
def FnGrownUptoSaid : Prop := fnGrownUptoRow.holds Try.pinned (OpenSpec.upto fnGrownSpec)

end Rows
end Go.Proofs.Ytlafobfjbkhioaa
