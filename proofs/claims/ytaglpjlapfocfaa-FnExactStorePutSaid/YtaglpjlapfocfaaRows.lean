/-
  No cell of these rows narrows 'for every input' (looked for: loops, veiled, ifaces, maps, wideKeys, modest, calm, conditions, laid).
  DERIVED. THE GIVEN ROWS OF THIS SEAT. 14 by the template 'for every input the law returns true; each argument reads behind the call as it read before'; 0 by the template 'total and deterministic' (their statements: YtaglpjlapfocfaaTotals.lean).
  GIVEN WITH THE SEED: the statements are not yours to turn. If you find one false, say at which input.
  Laid BY PROGRAM, IN A SANDBOX (cutbox-rows.mjs): the forced cells as the released guide's own fill.sh prints them over the translation 8dccc3fdcb7eecd0… (all of the seat's roots in one cut). By AI agents, Wed Nov 11 2026. No macro, syntax, notation, axiom, sorry.
-/
import Derived.Test.YtaglpjlapfocfaaChecked
import GoSem.Claim
import GoSem.ClaimJoined
import GoSem.ClaimMapViews
import Derived.JoinedTies
import Derived.KernelRfl
namespace Go.Proofs.Ytaglpjlapfocfaa
/- THE CELL 'sum', in the pinned program and in every row, IS THE sha256 OF THE DUMP (.gsa) THAT YtaglpjlapfocfaaProg.lean LOADS. Nothing in Lean hashes anything: it is a label: what it is worth is what the hold of that sum in a sandbox is worth. -/
noncomputable def Try.pinned : Pinned := { name := "ytaglpjlapfocfaa", sum := "8dccc3fdcb7eecd014e061cb7c59cd3057180e7ada5e170f84c244ce3538977d", checked := Try.checked }
namespace Rows
def none {H : Type} : Left H := { results := [], args := [] }

/-- 'laws.FnExactSlabNew': WHATEVER THE INPUT: true; the input reads as it did. -/
def fnExactSlabNewSpec : ChangeSpec := { name := "fnExactSlabNew", fn := fun _ => fun
  | [d] => { results := [.lit (.bool true)], args := [d] }
  | _ => none }
def fnExactSlabNewRow : OpenClaim := { program := "ytaglpjlapfocfaa", sum := "8dccc3fdcb7eecd014e061cb7c59cd3057180e7ada5e170f84c244ce3538977d", func := "loop.example/g00655/laws.FnExactSlabNew", spec := "fnExactSlabNew", apart := false }
def FnExactSlabNewSaid : Prop := fnExactSlabNewRow.holds Try.pinned (OpenSpec.ofChange fnExactSlabNewSpec)

/-- ITS FALSE NEIGHBOUR: 'it returns false'. Refute it at one input. -/
def fnExactSlabNewWrong : ChangeSpec := { name := "fnExactSlabNew", fn := fun _ => fun
  | [d] => { results := [.lit (.bool false)], args := [d] }
  | _ => none }
def FnExactSlabNewWrongFalsely : Prop := fnExactSlabNewRow.holds Try.pinned (OpenSpec.ofChange fnExactSlabNewWrong)

/-- 'laws.FnExactSlabOk': WHATEVER THE INPUT: true; the input reads as it did. -/
def fnExactSlabOkSpec : ChangeSpec := { name := "fnExactSlabOk", fn := fun _ => fun
  | [d] => { results := [.lit (.bool true)], args := [d] }
  | _ => none }
def fnExactSlabOkRow : OpenClaim := { program := "ytaglpjlapfocfaa", sum := "8dccc3fdcb7eecd014e061cb7c59cd3057180e7ada5e170f84c244ce3538977d", func := "loop.example/g00655/laws.FnExactSlabOk", spec := "fnExactSlabOk", apart := false }
def FnExactSlabOkSaid : Prop := fnExactSlabOkRow.holds Try.pinned (OpenSpec.ofChange fnExactSlabOkSpec)

/-- ITS FALSE NEIGHBOUR: 'it returns false'. Refute it at one input. -/
def fnExactSlabOkWrong : ChangeSpec := { name := "fnExactSlabOk", fn := fun _ => fun
  | [d] => { results := [.lit (.bool false)], args := [d] }
  | _ => none }
def FnExactSlabOkWrongFalsely : Prop := fnExactSlabOkRow.holds Try.pinned (OpenSpec.ofChange fnExactSlabOkWrong)

/-- 'laws.FnExactStoreNew': WHATEVER THE INPUT: true; the input reads as it did. -/
def fnExactStoreNewSpec : ChangeSpec := { name := "fnExactStoreNew", fn := fun _ => fun
  | [d] => { results := [.lit (.bool true)], args := [d] }
  | _ => none }
def fnExactStoreNewRow : OpenClaim := { program := "ytaglpjlapfocfaa", sum := "8dccc3fdcb7eecd014e061cb7c59cd3057180e7ada5e170f84c244ce3538977d", func := "loop.example/g00655/laws.FnExactStoreNew", spec := "fnExactStoreNew", apart := false }
def FnExactStoreNewSaid : Prop := fnExactStoreNewRow.holds Try.pinned (OpenSpec.ofChange fnExactStoreNewSpec)

/-- ITS FALSE NEIGHBOUR: 'it returns false'. Refute it at one input. -/
def fnExactStoreNewWrong : ChangeSpec := { name := "fnExactStoreNew", fn := fun _ => fun
  | [d] => { results := [.lit (.bool false)], args := [d] }
  | _ => none }
def FnExactStoreNewWrongFalsely : Prop := fnExactStoreNewRow.holds Try.pinned (OpenSpec.ofChange fnExactStoreNewWrong)

/-- 'laws.FnExactSlabRoom': WHATEVER THE INPUT: true; the input reads as it did. -/
def fnExactSlabRoomSpec : ChangeSpec := { name := "fnExactSlabRoom", fn := fun _ => fun
  | [d] => { results := [.lit (.bool true)], args := [d] }
  | _ => none }
def fnExactSlabRoomRow : OpenClaim := { program := "ytaglpjlapfocfaa", sum := "8dccc3fdcb7eecd014e061cb7c59cd3057180e7ada5e170f84c244ce3538977d", func := "loop.example/g00655/laws.FnExactSlabRoom", spec := "fnExactSlabRoom", apart := false }
def FnExactSlabRoomSaid : Prop := fnExactSlabRoomRow.holds Try.pinned (OpenSpec.ofChange fnExactSlabRoomSpec)

/-- ITS FALSE NEIGHBOUR: 'it returns false'. Refute it at one input. -/
def fnExactSlabRoomWrong : ChangeSpec := { name := "fnExactSlabRoom", fn := fun _ => fun
  | [d] => { results := [.lit (.bool false)], args := [d] }
  | _ => none }
def FnExactSlabRoomWrongFalsely : Prop := fnExactSlabRoomRow.holds Try.pinned (OpenSpec.ofChange fnExactSlabRoomWrong)

/-- 'laws.FnExactSlabChain': WHATEVER THE INPUT: true; the input reads as it did. -/
def fnExactSlabChainSpec : ChangeSpec := { name := "fnExactSlabChain", fn := fun _ => fun
  | [d1, d2] => { results := [.lit (.bool true)], args := [d1, d2] }
  | _ => none }
def fnExactSlabChainRow : OpenClaim := { program := "ytaglpjlapfocfaa", sum := "8dccc3fdcb7eecd014e061cb7c59cd3057180e7ada5e170f84c244ce3538977d", func := "loop.example/g00655/laws.FnExactSlabChain", spec := "fnExactSlabChain", apart := false }
def FnExactSlabChainSaid : Prop := fnExactSlabChainRow.holds Try.pinned (OpenSpec.ofChange fnExactSlabChainSpec)

/-- ITS FALSE NEIGHBOUR: 'it returns false'. Refute it at one input. -/
def fnExactSlabChainWrong : ChangeSpec := { name := "fnExactSlabChain", fn := fun _ => fun
  | [d1, d2] => { results := [.lit (.bool false)], args := [d1, d2] }
  | _ => none }
def FnExactSlabChainWrongFalsely : Prop := fnExactSlabChainRow.holds Try.pinned (OpenSpec.ofChange fnExactSlabChainWrong)

/-- 'laws.FnExactStoreOk': WHATEVER THE INPUT: true; the input reads as it did. -/
def fnExactStoreOkSpec : ChangeSpec := { name := "fnExactStoreOk", fn := fun _ => fun
  | [d] => { results := [.lit (.bool true)], args := [d] }
  | _ => none }
def fnExactStoreOkRow : OpenClaim := { program := "ytaglpjlapfocfaa", sum := "8dccc3fdcb7eecd014e061cb7c59cd3057180e7ada5e170f84c244ce3538977d", func := "loop.example/g00655/laws.FnExactStoreOk", spec := "fnExactStoreOk", apart := false }
def FnExactStoreOkSaid : Prop := fnExactStoreOkRow.holds Try.pinned (OpenSpec.ofChange fnExactStoreOkSpec)

/-- ITS FALSE NEIGHBOUR: 'it returns false'. Refute it at one input. -/
def fnExactStoreOkWrong : ChangeSpec := { name := "fnExactStoreOk", fn := fun _ => fun
  | [d] => { results := [.lit (.bool false)], args := [d] }
  | _ => none }
def FnExactStoreOkWrongFalsely : Prop := fnExactStoreOkRow.holds Try.pinned (OpenSpec.ofChange fnExactStoreOkWrong)

/-- 'laws.FnExactSlabGive': WHATEVER THE INPUT: true; the input reads as it did. -/
def fnExactSlabGiveSpec : ChangeSpec := { name := "fnExactSlabGive", fn := fun _ => fun
  | [d1, d2] => { results := [.lit (.bool true)], args := [d1, d2] }
  | _ => none }
def fnExactSlabGiveRow : OpenClaim := { program := "ytaglpjlapfocfaa", sum := "8dccc3fdcb7eecd014e061cb7c59cd3057180e7ada5e170f84c244ce3538977d", func := "loop.example/g00655/laws.FnExactSlabGive", spec := "fnExactSlabGive", apart := false }
def FnExactSlabGiveSaid : Prop := fnExactSlabGiveRow.holds Try.pinned (OpenSpec.ofChange fnExactSlabGiveSpec)

/-- ITS FALSE NEIGHBOUR: 'it returns false'. Refute it at one input. -/
def fnExactSlabGiveWrong : ChangeSpec := { name := "fnExactSlabGive", fn := fun _ => fun
  | [d1, d2] => { results := [.lit (.bool false)], args := [d1, d2] }
  | _ => none }
def FnExactSlabGiveWrongFalsely : Prop := fnExactSlabGiveRow.holds Try.pinned (OpenSpec.ofChange fnExactSlabGiveWrong)

/-- 'laws.FnExactSlabTake': WHATEVER THE INPUT: true; the input reads as it did. -/
def fnExactSlabTakeSpec : ChangeSpec := { name := "fnExactSlabTake", fn := fun _ => fun
  | [d1, d2] => { results := [.lit (.bool true)], args := [d1, d2] }
  | _ => none }
def fnExactSlabTakeRow : OpenClaim := { program := "ytaglpjlapfocfaa", sum := "8dccc3fdcb7eecd014e061cb7c59cd3057180e7ada5e170f84c244ce3538977d", func := "loop.example/g00655/laws.FnExactSlabTake", spec := "fnExactSlabTake", apart := false }
def FnExactSlabTakeSaid : Prop := fnExactSlabTakeRow.holds Try.pinned (OpenSpec.ofChange fnExactSlabTakeSpec)

/-- ITS FALSE NEIGHBOUR: 'it returns false'. Refute it at one input. -/
def fnExactSlabTakeWrong : ChangeSpec := { name := "fnExactSlabTake", fn := fun _ => fun
  | [d1, d2] => { results := [.lit (.bool false)], args := [d1, d2] }
  | _ => none }
def FnExactSlabTakeWrongFalsely : Prop := fnExactSlabTakeRow.holds Try.pinned (OpenSpec.ofChange fnExactSlabTakeWrong)

/-- 'laws.FnStoreBook': WHATEVER THE INPUT: true; the input reads as it did. -/
def fnStoreBookSpec : ChangeSpec := { name := "fnStoreBook", fn := fun _ => fun
  | [d] => { results := [.lit (.bool true)], args := [d] }
  | _ => none }
def fnStoreBookRow : OpenClaim := { program := "ytaglpjlapfocfaa", sum := "8dccc3fdcb7eecd014e061cb7c59cd3057180e7ada5e170f84c244ce3538977d", func := "loop.example/g00655/laws.FnStoreBook", spec := "fnStoreBook", apart := false }
def FnStoreBookSaid : Prop := fnStoreBookRow.holds Try.pinned (OpenSpec.ofChange fnStoreBookSpec)

/-- ITS FALSE NEIGHBOUR: 'it returns false'. Refute it at one input. -/
def fnStoreBookWrong : ChangeSpec := { name := "fnStoreBook", fn := fun _ => fun
  | [d] => { results := [.lit (.bool false)], args := [d] }
  | _ => none }
def FnStoreBookWrongFalsely : Prop := fnStoreBookRow.holds Try.pinned (OpenSpec.ofChange fnStoreBookWrong)

/-- 'laws.FnChainsCover': WHATEVER THE INPUT: true; the input reads as it did. -/
def fnChainsCoverSpec : ChangeSpec := { name := "fnChainsCover", fn := fun _ => fun
  | [d] => { results := [.lit (.bool true)], args := [d] }
  | _ => none }
def fnChainsCoverRow : OpenClaim := { program := "ytaglpjlapfocfaa", sum := "8dccc3fdcb7eecd014e061cb7c59cd3057180e7ada5e170f84c244ce3538977d", func := "loop.example/g00655/laws.FnChainsCover", spec := "fnChainsCover", apart := false }
def FnChainsCoverSaid : Prop := fnChainsCoverRow.holds Try.pinned (OpenSpec.ofChange fnChainsCoverSpec)

/-- ITS FALSE NEIGHBOUR: 'it returns false'. Refute it at one input. -/
def fnChainsCoverWrong : ChangeSpec := { name := "fnChainsCover", fn := fun _ => fun
  | [d] => { results := [.lit (.bool false)], args := [d] }
  | _ => none }
def FnChainsCoverWrongFalsely : Prop := fnChainsCoverRow.holds Try.pinned (OpenSpec.ofChange fnChainsCoverWrong)

/-- 'laws.FnExactStoreGet': WHATEVER THE INPUT: true; the input reads as it did. -/
def fnExactStoreGetSpec : ChangeSpec := { name := "fnExactStoreGet", fn := fun _ => fun
  | [d1, d2, d3] => { results := [.lit (.bool true)], args := [d1, d2, d3] }
  | _ => none }
def fnExactStoreGetRow : OpenClaim := { program := "ytaglpjlapfocfaa", sum := "8dccc3fdcb7eecd014e061cb7c59cd3057180e7ada5e170f84c244ce3538977d", func := "loop.example/g00655/laws.FnExactStoreGet", spec := "fnExactStoreGet", apart := false }
def FnExactStoreGetSaid : Prop := fnExactStoreGetRow.holds Try.pinned (OpenSpec.ofChange fnExactStoreGetSpec)

/-- ITS FALSE NEIGHBOUR: 'it returns false'. Refute it at one input. -/
def fnExactStoreGetWrong : ChangeSpec := { name := "fnExactStoreGet", fn := fun _ => fun
  | [d1, d2, d3] => { results := [.lit (.bool false)], args := [d1, d2, d3] }
  | _ => none }
def FnExactStoreGetWrongFalsely : Prop := fnExactStoreGetRow.holds Try.pinned (OpenSpec.ofChange fnExactStoreGetWrong)

/-- 'laws.FnTakeGive': WHATEVER THE INPUT: true; the input reads as it did. -/
def fnTakeGiveSpec : ChangeSpec := { name := "fnTakeGive", fn := fun _ => fun
  | [d] => { results := [.lit (.bool true)], args := [d] }
  | _ => none }
def fnTakeGiveRow : OpenClaim := { program := "ytaglpjlapfocfaa", sum := "8dccc3fdcb7eecd014e061cb7c59cd3057180e7ada5e170f84c244ce3538977d", func := "loop.example/g00655/laws.FnTakeGive", spec := "fnTakeGive", apart := false }
def FnTakeGiveSaid : Prop := fnTakeGiveRow.holds Try.pinned (OpenSpec.ofChange fnTakeGiveSpec)

/-- ITS FALSE NEIGHBOUR: 'it returns false'. Refute it at one input. -/
def fnTakeGiveWrong : ChangeSpec := { name := "fnTakeGive", fn := fun _ => fun
  | [d] => { results := [.lit (.bool false)], args := [d] }
  | _ => none }
def FnTakeGiveWrongFalsely : Prop := fnTakeGiveRow.holds Try.pinned (OpenSpec.ofChange fnTakeGiveWrong)

/-- 'laws.FnExactStoreGive': WHATEVER THE INPUT: true; the input reads as it did. -/
def fnExactStoreGiveSpec : ChangeSpec := { name := "fnExactStoreGive", fn := fun _ => fun
  | [d1, d2] => { results := [.lit (.bool true)], args := [d1, d2] }
  | _ => none }
def fnExactStoreGiveRow : OpenClaim := { program := "ytaglpjlapfocfaa", sum := "8dccc3fdcb7eecd014e061cb7c59cd3057180e7ada5e170f84c244ce3538977d", func := "loop.example/g00655/laws.FnExactStoreGive", spec := "fnExactStoreGive", apart := false }
def FnExactStoreGiveSaid : Prop := fnExactStoreGiveRow.holds Try.pinned (OpenSpec.ofChange fnExactStoreGiveSpec)

/-- ITS FALSE NEIGHBOUR: 'it returns false'. Refute it at one input. -/
def fnExactStoreGiveWrong : ChangeSpec := { name := "fnExactStoreGive", fn := fun _ => fun
  | [d1, d2] => { results := [.lit (.bool false)], args := [d1, d2] }
  | _ => none }
def FnExactStoreGiveWrongFalsely : Prop := fnExactStoreGiveRow.holds Try.pinned (OpenSpec.ofChange fnExactStoreGiveWrong)

/-- 'laws.FnExactStorePut': WHATEVER THE INPUT: true; the input reads as it did. -/
def fnExactStorePutSpec : ChangeSpec := { name := "fnExactStorePut", fn := fun _ => fun
  | [d1, d2] => { results := [.lit (.bool true)], args := [d1, d2] }
  | _ => none }
def fnExactStorePutRow : OpenClaim := { program := "ytaglpjlapfocfaa", sum := "8dccc3fdcb7eecd014e061cb7c59cd3057180e7ada5e170f84c244ce3538977d", func := "loop.example/g00655/laws.FnExactStorePut", spec := "fnExactStorePut", apart := false }
def FnExactStorePutSaid : Prop := fnExactStorePutRow.holds Try.pinned (OpenSpec.ofChange fnExactStorePutSpec)

/-- ITS FALSE NEIGHBOUR: 'it returns false'. Refute it at one input. -/
def fnExactStorePutWrong : ChangeSpec := { name := "fnExactStorePut", fn := fun _ => fun
  | [d1, d2] => { results := [.lit (.bool false)], args := [d1, d2] }
  | _ => none }
def FnExactStorePutWrongFalsely : Prop := fnExactStorePutRow.holds Try.pinned (OpenSpec.ofChange fnExactStorePutWrong)

/- THE SECOND FORM. 'bulk': how many values and letters a reading holds, each counted each time it is reached (what is shared counts as often as it is met; a slice's spare places count too). A statement '..UptoSaid' is the law's where the arguments, and the package variables that the reading takes, are together of bulk at most 1048576: NARROWER than '..Said'. Prove '..Said' where nothing that the law and all that it calls make is longer than what came in: it says more and counts as full. Else prove '..UptoSaid'. A law counts once. -/
mutual
def uptoBulk {H : Type} : DataW H → Nat
  | .lit (.string bytes) => bytes.length + 1
  | .lit _ => 1
  | .nil => 1
  | .ptr d => uptoBulk d + 1
  | .slice elems spare => uptoBulkAll elems + uptoBulkAll spare + 1
  | .agg parts => uptoBulkAll parts + 1
  | .iface _ d => uptoBulk d + 1
  | .map entries => uptoBulkEntries entries + 1
  | .held _ => 1
def uptoBulkAll {H : Type} : List (DataW H) → Nat
  | [] => 0
  | d :: r => uptoBulk d + uptoBulkAll r
def uptoBulkEntries {H : Type} : List (Lit × DataW H) → Nat
  | [] => 0
  | x :: r => uptoBulkEntry x + uptoBulkEntries r
def uptoBulkEntry {H : Type} : Lit × DataW H → Nat
  | (.string bytes, d) => bytes.length + uptoBulk d + 1
  | (_, d) => uptoBulk d + 1
 end
def uptoSmall : (H : Type) → List (DataW H) → Bool := fun _ ds => decide (uptoBulkAll ds ≤ 1048576)
def OpenSpec.upto (s : _root_.Go.ChangeSpec) : _root_.Go.OpenSpec := { _root_.Go.OpenSpec.ofChange s with cond := some uptoSmall }

/-- 'laws.FnExactSlabNew', WHERE WHAT IT READS IS OF BULK AT MOST 1048576: true; the input reads as it did. -/
def fnExactSlabNewUptoRow : OpenClaim := { program := "ytaglpjlapfocfaa", sum := "8dccc3fdcb7eecd014e061cb7c59cd3057180e7ada5e170f84c244ce3538977d", func := "loop.example/g00655/laws.FnExactSlabNew", spec := "fnExactSlabNew", apart := false, narrowed := true }
def FnExactSlabNewUptoSaid : Prop := fnExactSlabNewUptoRow.holds Try.pinned (OpenSpec.upto fnExactSlabNewSpec)

/-- 'laws.FnExactSlabOk', WHERE WHAT IT READS IS OF BULK AT MOST 1048576: true; the input reads as it did. -/
def fnExactSlabOkUptoRow : OpenClaim := { program := "ytaglpjlapfocfaa", sum := "8dccc3fdcb7eecd014e061cb7c59cd3057180e7ada5e170f84c244ce3538977d", func := "loop.example/g00655/laws.FnExactSlabOk", spec := "fnExactSlabOk", apart := false, narrowed := true }
def FnExactSlabOkUptoSaid : Prop := fnExactSlabOkUptoRow.holds Try.pinned (OpenSpec.upto fnExactSlabOkSpec)

/-- 'laws.FnExactStoreNew', WHERE WHAT IT READS IS OF BULK AT MOST 1048576: true; the input reads as it did. -/
def fnExactStoreNewUptoRow : OpenClaim := { program := "ytaglpjlapfocfaa", sum := "8dccc3fdcb7eecd014e061cb7c59cd3057180e7ada5e170f84c244ce3538977d", func := "loop.example/g00655/laws.FnExactStoreNew", spec := "fnExactStoreNew", apart := false, narrowed := true }
def FnExactStoreNewUptoSaid : Prop := fnExactStoreNewUptoRow.holds Try.pinned (OpenSpec.upto fnExactStoreNewSpec)

/-- 'laws.FnExactSlabRoom', WHERE WHAT IT READS IS OF BULK AT MOST 1048576: true; the input reads as it did. -/
def fnExactSlabRoomUptoRow : OpenClaim := { program := "ytaglpjlapfocfaa", sum := "8dccc3fdcb7eecd014e061cb7c59cd3057180e7ada5e170f84c244ce3538977d", func := "loop.example/g00655/laws.FnExactSlabRoom", spec := "fnExactSlabRoom", apart := false, narrowed := true }
def FnExactSlabRoomUptoSaid : Prop := fnExactSlabRoomUptoRow.holds Try.pinned (OpenSpec.upto fnExactSlabRoomSpec)

/-- 'laws.FnExactSlabChain', WHERE WHAT IT READS IS OF BULK AT MOST 1048576: true; the input reads as it did. -/
def fnExactSlabChainUptoRow : OpenClaim := { program := "ytaglpjlapfocfaa", sum := "8dccc3fdcb7eecd014e061cb7c59cd3057180e7ada5e170f84c244ce3538977d", func := "loop.example/g00655/laws.FnExactSlabChain", spec := "fnExactSlabChain", apart := false, narrowed := true }
def FnExactSlabChainUptoSaid : Prop := fnExactSlabChainUptoRow.holds Try.pinned (OpenSpec.upto fnExactSlabChainSpec)

/-- 'laws.FnExactStoreOk', WHERE WHAT IT READS IS OF BULK AT MOST 1048576: true; the input reads as it did. -/
def fnExactStoreOkUptoRow : OpenClaim := { program := "ytaglpjlapfocfaa", sum := "8dccc3fdcb7eecd014e061cb7c59cd3057180e7ada5e170f84c244ce3538977d", func := "loop.example/g00655/laws.FnExactStoreOk", spec := "fnExactStoreOk", apart := false, narrowed := true }
def FnExactStoreOkUptoSaid : Prop := fnExactStoreOkUptoRow.holds Try.pinned (OpenSpec.upto fnExactStoreOkSpec)

/-- 'laws.FnExactSlabGive', WHERE WHAT IT READS IS OF BULK AT MOST 1048576: true; the input reads as it did. -/
def fnExactSlabGiveUptoRow : OpenClaim := { program := "ytaglpjlapfocfaa", sum := "8dccc3fdcb7eecd014e061cb7c59cd3057180e7ada5e170f84c244ce3538977d", func := "loop.example/g00655/laws.FnExactSlabGive", spec := "fnExactSlabGive", apart := false, narrowed := true }
def FnExactSlabGiveUptoSaid : Prop := fnExactSlabGiveUptoRow.holds Try.pinned (OpenSpec.upto fnExactSlabGiveSpec)

/-- 'laws.FnExactSlabTake', WHERE WHAT IT READS IS OF BULK AT MOST 1048576: true; the input reads as it did. -/
def fnExactSlabTakeUptoRow : OpenClaim := { program := "ytaglpjlapfocfaa", sum := "8dccc3fdcb7eecd014e061cb7c59cd3057180e7ada5e170f84c244ce3538977d", func := "loop.example/g00655/laws.FnExactSlabTake", spec := "fnExactSlabTake", apart := false, narrowed := true }
def FnExactSlabTakeUptoSaid : Prop := fnExactSlabTakeUptoRow.holds Try.pinned (OpenSpec.upto fnExactSlabTakeSpec)

/-- 'laws.FnStoreBook', WHERE WHAT IT READS IS OF BULK AT MOST 1048576: true; the input reads as it did. -/
def fnStoreBookUptoRow : OpenClaim := { program := "ytaglpjlapfocfaa", sum := "8dccc3fdcb7eecd014e061cb7c59cd3057180e7ada5e170f84c244ce3538977d", func := "loop.example/g00655/laws.FnStoreBook", spec := "fnStoreBook", apart := false, narrowed := true }
def FnStoreBookUptoSaid : Prop := fnStoreBookUptoRow.holds Try.pinned (OpenSpec.upto fnStoreBookSpec)

/-- 'laws.FnChainsCover', WHERE WHAT IT READS IS OF BULK AT MOST 1048576: true; the input reads as it did. -/
def fnChainsCoverUptoRow : OpenClaim := { program := "ytaglpjlapfocfaa", sum := "8dccc3fdcb7eecd014e061cb7c59cd3057180e7ada5e170f84c244ce3538977d", func := "loop.example/g00655/laws.FnChainsCover", spec := "fnChainsCover", apart := false, narrowed := true }
def FnChainsCoverUptoSaid : Prop := fnChainsCoverUptoRow.holds Try.pinned (OpenSpec.upto fnChainsCoverSpec)

/-- 'laws.FnExactStoreGet', WHERE WHAT IT READS IS OF BULK AT MOST 1048576: true; the input reads as it did. -/
def fnExactStoreGetUptoRow : OpenClaim := { program := "ytaglpjlapfocfaa", sum := "8dccc3fdcb7eecd014e061cb7c59cd3057180e7ada5e170f84c244ce3538977d", func := "loop.example/g00655/laws.FnExactStoreGet", spec := "fnExactStoreGet", apart := false, narrowed := true }
def FnExactStoreGetUptoSaid : Prop := fnExactStoreGetUptoRow.holds Try.pinned (OpenSpec.upto fnExactStoreGetSpec)

/-- 'laws.FnTakeGive', WHERE WHAT IT READS IS OF BULK AT MOST 1048576: true; the input reads as it did. -/
def fnTakeGiveUptoRow : OpenClaim := { program := "ytaglpjlapfocfaa", sum := "8dccc3fdcb7eecd014e061cb7c59cd3057180e7ada5e170f84c244ce3538977d", func := "loop.example/g00655/laws.FnTakeGive", spec := "fnTakeGive", apart := false, narrowed := true }
def FnTakeGiveUptoSaid : Prop := fnTakeGiveUptoRow.holds Try.pinned (OpenSpec.upto fnTakeGiveSpec)

/-- 'laws.FnExactStoreGive', WHERE WHAT IT READS IS OF BULK AT MOST 1048576: true; the input reads as it did. -/
def fnExactStoreGiveUptoRow : OpenClaim := { program := "ytaglpjlapfocfaa", sum := "8dccc3fdcb7eecd014e061cb7c59cd3057180e7ada5e170f84c244ce3538977d", func := "loop.example/g00655/laws.FnExactStoreGive", spec := "fnExactStoreGive", apart := false, narrowed := true }
def FnExactStoreGiveUptoSaid : Prop := fnExactStoreGiveUptoRow.holds Try.pinned (OpenSpec.upto fnExactStoreGiveSpec)

/-- 'laws.FnExactStorePut', WHERE WHAT IT READS IS OF BULK AT MOST 1048576: true; the input reads as it did. -/
def fnExactStorePutUptoRow : OpenClaim := { program := "ytaglpjlapfocfaa", sum := "8dccc3fdcb7eecd014e061cb7c59cd3057180e7ada5e170f84c244ce3538977d", func := "loop.example/g00655/laws.FnExactStorePut", spec := "fnExactStorePut", apart := false, narrowed := true }
def FnExactStorePutUptoSaid : Prop := fnExactStorePutUptoRow.holds Try.pinned (OpenSpec.upto fnExactStorePutSpec)

end Rows
end Go.Proofs.Ytaglpjlapfocfaa
