/-
  No cell of these rows narrows 'for every input' (looked for: loops, veiled, ifaces, maps, wideKeys, modest, calm, conditions, laid).
  DERIVED. THE GIVEN ROWS OF THIS SEAT. 4 by the template 'for every input the law returns true; each argument reads behind the call as it read before'; 0 by the template 'total and deterministic' (their statements: YtppmbdfbhahngaaTotals.lean).
  GIVEN WITH THE SEED: the statements are not yours to turn. If you find one false, say at which input.
  Laid BY PROGRAM, IN A SANDBOX (cutbox-rows.mjs): the forced cells as the released guide's own fill.sh prints them over the translation 9e73fb19ea74cbd7… (all of the seat's roots in one cut). By AI agents, Wed Nov 11 2026. No macro, syntax, notation, axiom, sorry.
-/
import Derived.Test.YtppmbdfbhahngaaChecked
import GoSem.Claim
import GoSem.ClaimJoined
import GoSem.ClaimMapViews
import Derived.JoinedTies
import Derived.KernelRfl
namespace Go.Proofs.Ytppmbdfbhahngaa
/- THE CELL 'sum', in the pinned program and in every row, IS THE sha256 OF THE DUMP (.gsa) THAT YtppmbdfbhahngaaProg.lean LOADS. Nothing in Lean hashes anything: it is a label: what it is worth is what the hold of that sum in a sandbox is worth. -/
noncomputable def Try.pinned : Pinned := { name := "ytppmbdfbhahngaa", sum := "9e73fb19ea74cbd750043d84a5f68011016fa5c1301ff2af965f5498e9be51e4", checked := Try.checked }
namespace Rows
def none {H : Type} : Left H := { results := [], args := [] }

/-- 'laws.FnExactFairLeave': WHATEVER THE INPUT: true; the input reads as it did. -/
def fnExactFairLeaveSpec : ChangeSpec := { name := "fnExactFairLeave", fn := fun _ => fun
  | [d1, d2] => { results := [.lit (.bool true)], args := [d1, d2] }
  | _ => none }
def fnExactFairLeaveRow : OpenClaim := { program := "ytppmbdfbhahngaa", sum := "9e73fb19ea74cbd750043d84a5f68011016fa5c1301ff2af965f5498e9be51e4", func := "loop.example/g00655/laws.FnExactFairLeave", spec := "fnExactFairLeave", unfollowed := true, recurses := true, apart := false }
def FnExactFairLeaveSaid : Prop := fnExactFairLeaveRow.holds Try.pinned (OpenSpec.ofChange fnExactFairLeaveSpec)

/-- ITS FALSE NEIGHBOUR: 'it returns false'. Refute it at one input. -/
def fnExactFairLeaveWrong : ChangeSpec := { name := "fnExactFairLeave", fn := fun _ => fun
  | [d1, d2] => { results := [.lit (.bool false)], args := [d1, d2] }
  | _ => none }
def FnExactFairLeaveWrongFalsely : Prop := fnExactFairLeaveRow.holds Try.pinned (OpenSpec.ofChange fnExactFairLeaveWrong)

/-- 'laws.FnExactFairJoin': WHATEVER THE INPUT: true; the input reads as it did. -/
def fnExactFairJoinSpec : ChangeSpec := { name := "fnExactFairJoin", fn := fun _ => fun
  | [d1, d2, d3] => { results := [.lit (.bool true)], args := [d1, d2, d3] }
  | _ => none }
def fnExactFairJoinRow : OpenClaim := { program := "ytppmbdfbhahngaa", sum := "9e73fb19ea74cbd750043d84a5f68011016fa5c1301ff2af965f5498e9be51e4", func := "loop.example/g00655/laws.FnExactFairJoin", spec := "fnExactFairJoin", inPlace := ["slices.overlaps[loop.example/g00655/impl.Kid]"], unfollowed := true, recurses := true, apart := false }
def FnExactFairJoinSaid : Prop := fnExactFairJoinRow.holds Try.pinned (OpenSpec.ofChange fnExactFairJoinSpec)

/-- ITS FALSE NEIGHBOUR: 'it returns false'. Refute it at one input. -/
def fnExactFairJoinWrong : ChangeSpec := { name := "fnExactFairJoin", fn := fun _ => fun
  | [d1, d2, d3] => { results := [.lit (.bool false)], args := [d1, d2, d3] }
  | _ => none }
def FnExactFairJoinWrongFalsely : Prop := fnExactFairJoinRow.holds Try.pinned (OpenSpec.ofChange fnExactFairJoinWrong)

/-- 'laws.FnWaits': WHATEVER THE INPUT: true; the input reads as it did. -/
def fnWaitsSpec : ChangeSpec := { name := "fnWaits", fn := fun _ => fun
  | [d] => { results := [.lit (.bool true)], args := [d] }
  | _ => none }
def fnWaitsRow : OpenClaim := { program := "ytppmbdfbhahngaa", sum := "9e73fb19ea74cbd750043d84a5f68011016fa5c1301ff2af965f5498e9be51e4", func := "loop.example/g00655/laws.FnWaits", spec := "fnWaits", unfollowed := true, recurses := true, apart := false }
def FnWaitsSaid : Prop := fnWaitsRow.holds Try.pinned (OpenSpec.ofChange fnWaitsSpec)

/-- ITS FALSE NEIGHBOUR: 'it returns false'. Refute it at one input. -/
def fnWaitsWrong : ChangeSpec := { name := "fnWaits", fn := fun _ => fun
  | [d] => { results := [.lit (.bool false)], args := [d] }
  | _ => none }
def FnWaitsWrongFalsely : Prop := fnWaitsRow.holds Try.pinned (OpenSpec.ofChange fnWaitsWrong)

/-- 'laws.FnPickFirst': WHATEVER THE INPUT: true; the input reads as it did. -/
def fnPickFirstSpec : ChangeSpec := { name := "fnPickFirst", fn := fun _ => fun
  | [d] => { results := [.lit (.bool true)], args := [d] }
  | _ => none }
def fnPickFirstRow : OpenClaim := { program := "ytppmbdfbhahngaa", sum := "9e73fb19ea74cbd750043d84a5f68011016fa5c1301ff2af965f5498e9be51e4", func := "loop.example/g00655/laws.FnPickFirst", spec := "fnPickFirst", unfollowed := true, recurses := true, apart := false }
def FnPickFirstSaid : Prop := fnPickFirstRow.holds Try.pinned (OpenSpec.ofChange fnPickFirstSpec)

/-- ITS FALSE NEIGHBOUR: 'it returns false'. Refute it at one input. -/
def fnPickFirstWrong : ChangeSpec := { name := "fnPickFirst", fn := fun _ => fun
  | [d] => { results := [.lit (.bool false)], args := [d] }
  | _ => none }
def FnPickFirstWrongFalsely : Prop := fnPickFirstRow.holds Try.pinned (OpenSpec.ofChange fnPickFirstWrong)

/- THE SECOND FORM. 'bulk': how many values and letters a reading holds, each counted each time it is reached (what is shared counts as often as it is met; a slice's spare places count too). A statement '..UptoSaid' is the law's where the arguments, and the package variables that the reading takes, are together of bulk at most 1048576: NARROWER than '..Said'. Prove '..Said' where nothing that the law and all that it calls make is longer than what came in: it says more and counts as full. Else prove '..UptoSaid'. A law counts once. -/
mutual
def uptoBulk {H : Type} : DataW H → Nat
  | .lit (.string bytes) => bytes.length + 1
  | .lit _ => 1
  | .nil => 1
  | .ptr d => uptoBulk d + 1
  | .slice elems spare => uptoBulkAll elems + uptoBulkAll spare + 1
  | .agg parts => uptoBulkAll parts + 1
  | .iface _ d => uptoBulk d + 1
  | .map entries => uptoBulkEntries entries + 1
  | .held _ => 1
def uptoBulkAll {H : Type} : List (DataW H) → Nat
  | [] => 0
  | d :: r => uptoBulk d + uptoBulkAll r
def uptoBulkEntries {H : Type} : List (Lit × DataW H) → Nat
  | [] => 0
  | x :: r => uptoBulkEntry x + uptoBulkEntries r
def uptoBulkEntry {H : Type} : Lit × DataW H → Nat
  | (.string bytes, d) => bytes.length + uptoBulk d + 1
  | (_, d) => uptoBulk d + 1
 end
def uptoSmall : (H : Type) → List (DataW H) → Bool := fun _ ds => decide (uptoBulkAll ds ≤ 1048576)
def OpenSpec.upto (s : _root_.Go.ChangeSpec) : _root_.Go.OpenSpec := { _root_.Go.OpenSpec.ofChange s with cond := some uptoSmall }

/-- 'laws.FnExactFairLeave', WHERE WHAT IT READS IS OF BULK AT MOST 1048576: true; the input reads as it did. -/
def fnExactFairLeaveUptoRow : OpenClaim := { program := "ytppmbdfbhahngaa", sum := "9e73fb19ea74cbd750043d84a5f68011016fa5c1301ff2af965f5498e9be51e4", func := "loop.example/g00655/laws.FnExactFairLeave", spec := "fnExactFairLeave", unfollowed := true, recurses := true, apart := false, narrowed := true }
def FnExactFairLeaveUptoSaid : Prop := fnExactFairLeaveUptoRow.holds Try.pinned (OpenSpec.upto fnExactFairLeaveSpec)

/-- 'laws.FnExactFairJoin', WHERE WHAT IT READS IS OF BULK AT MOST 1048576: true; the input reads as it did. -/
def fnExactFairJoinUptoRow : OpenClaim := { program := "ytppmbdfbhahngaa", sum := "9e73fb19ea74cbd750043d84a5f68011016fa5c1301ff2af965f5498e9be51e4", func := "loop.example/g00655/laws.FnExactFairJoin", spec := "fnExactFairJoin", inPlace := ["slices.overlaps[loop.example/g00655/impl.Kid]"], unfollowed := true, recurses := true, apart := false, narrowed := true }
def FnExactFairJoinUptoSaid : Prop := fnExactFairJoinUptoRow.holds Try.pinned (OpenSpec.upto fnExactFairJoinSpec)

/-- 'laws.FnWaits', WHERE WHAT IT READS IS OF BULK AT MOST 1048576: true; the input reads as it did. -/
def fnWaitsUptoRow : OpenClaim := { program := "ytppmbdfbhahngaa", sum := "9e73fb19ea74cbd750043d84a5f68011016fa5c1301ff2af965f5498e9be51e4", func := "loop.example/g00655/laws.FnWaits", spec := "fnWaits", unfollowed := true, recurses := true, apart := false, narrowed := true }
def FnWaitsUptoSaid : Prop := fnWaitsUptoRow.holds Try.pinned (OpenSpec.upto fnWaitsSpec)

/-- 'laws.FnPickFirst', WHERE WHAT IT READS IS OF BULK AT MOST 1048576: true; the input reads as it did. -/
def fnPickFirstUptoRow : OpenClaim := { program := "ytppmbdfbhahngaa", sum := "9e73fb19ea74cbd750043d84a5f68011016fa5c1301ff2af965f5498e9be51e4", func := "loop.example/g00655/laws.FnPickFirst", spec := "fnPickFirst", unfollowed := true, recurses := true, apart := false, narrowed := true }
def FnPickFirstUptoSaid : Prop := fnPickFirstUptoRow.holds Try.pinned (OpenSpec.upto fnPickFirstSpec)

end Rows
end Go.Proofs.Ytppmbdfbhahngaa
