/-
  No cell of these rows narrows 'for every input' (looked for: loops, veiled, ifaces, maps, wideKeys, modest, calm, conditions, laid).
  DERIVED. THE GIVEN ROWS OF THIS SEAT. 9 by the template 'for every input the law returns true; each argument reads behind the call as it read before'; 0 by the template 'total and deterministic' (their statements: YtinnmloliknilabTotals.lean).
  GIVEN WITH THE SEED: the statements are not yours to turn. If you find one false, say at which input.
  Laid BY PROGRAM, IN A SANDBOX (cutbox-rows.mjs): the forced cells as the released guide's own fill.sh prints them over the translation 29f254497d9a74c3… (all of the seat's roots in one cut). By AI agents, Wed Nov 11 2026. No macro, syntax, notation, axiom, sorry.
-/
import Derived.Test.YtinnmloliknilabChecked
import GoSem.Claim
import GoSem.ClaimJoined
import GoSem.ClaimMapViews
import Derived.JoinedTies
import Derived.KernelRfl
namespace Go.Proofs.Ytinnmloliknilab
/- THE CELL 'sum', in the pinned program and in every row, IS THE sha256 OF THE DUMP (.gsa) THAT YtinnmloliknilabProg.lean LOADS. Nothing in Lean hashes anything: it is a label: what it is worth is what the hold of that sum in a sandbox is worth. -/
noncomputable def Try.pinned : Pinned := { name := "ytinnmloliknilab", sum := "29f254497d9a74c3d1839538c9810ea7f6f6e37c49de633de9e10f479b7f19dd", checked := Try.checked }
namespace Rows
def none {H : Type} : Left H := { results := [], args := [] }

/-- 'laws.FnExactCountEntries': WHATEVER THE INPUT: true; the input reads as it did. -/
def fnExactCountEntriesSpec : ChangeSpec := { name := "fnExactCountEntries", fn := fun _ => fun
  | [d1, d2] => { results := [.lit (.bool true)], args := [d1, d2] }
  | _ => none }
def fnExactCountEntriesRow : OpenClaim := { program := "ytinnmloliknilab", sum := "29f254497d9a74c3d1839538c9810ea7f6f6e37c49de633de9e10f479b7f19dd", func := "loop.example/g01236/laws.FnExactCountEntries", spec := "fnExactCountEntries", unfollowed := true, recurses := true, apart := false }
def FnExactCountEntriesSaid : Prop := fnExactCountEntriesRow.holds Try.pinned (OpenSpec.ofChange fnExactCountEntriesSpec)

/-- ITS FALSE NEIGHBOUR: 'it returns false'. Refute it at one input. -/
def fnExactCountEntriesWrong : ChangeSpec := { name := "fnExactCountEntries", fn := fun _ => fun
  | [d1, d2] => { results := [.lit (.bool false)], args := [d1, d2] }
  | _ => none }
def FnExactCountEntriesWrongFalsely : Prop := fnExactCountEntriesRow.holds Try.pinned (OpenSpec.ofChange fnExactCountEntriesWrong)

/-- 'laws.FnExactFriezeOf': WHATEVER THE INPUT: true; the input reads as it did. -/
def fnExactFriezeOfSpec : ChangeSpec := { name := "fnExactFriezeOf", fn := fun _ => fun
  | [d] => { results := [.lit (.bool true)], args := [d] }
  | _ => none }
def fnExactFriezeOfRow : OpenClaim := { program := "ytinnmloliknilab", sum := "29f254497d9a74c3d1839538c9810ea7f6f6e37c49de633de9e10f479b7f19dd", func := "loop.example/g01236/laws.FnExactFriezeOf", spec := "fnExactFriezeOf", unfollowed := true, recurses := true, apart := false }
def FnExactFriezeOfSaid : Prop := fnExactFriezeOfRow.holds Try.pinned (OpenSpec.ofChange fnExactFriezeOfSpec)

/-- ITS FALSE NEIGHBOUR: 'it returns false'. Refute it at one input. -/
def fnExactFriezeOfWrong : ChangeSpec := { name := "fnExactFriezeOf", fn := fun _ => fun
  | [d] => { results := [.lit (.bool false)], args := [d] }
  | _ => none }
def FnExactFriezeOfWrongFalsely : Prop := fnExactFriezeOfRow.holds Try.pinned (OpenSpec.ofChange fnExactFriezeOfWrong)

/-- 'laws.FnExactGreatestEntry': WHATEVER THE INPUT: true; the input reads as it did. -/
def fnExactGreatestEntrySpec : ChangeSpec := { name := "fnExactGreatestEntry", fn := fun _ => fun
  | [d] => { results := [.lit (.bool true)], args := [d] }
  | _ => none }
def fnExactGreatestEntryRow : OpenClaim := { program := "ytinnmloliknilab", sum := "29f254497d9a74c3d1839538c9810ea7f6f6e37c49de633de9e10f479b7f19dd", func := "loop.example/g01236/laws.FnExactGreatestEntry", spec := "fnExactGreatestEntry", unfollowed := true, recurses := true, apart := false }
def FnExactGreatestEntrySaid : Prop := fnExactGreatestEntryRow.holds Try.pinned (OpenSpec.ofChange fnExactGreatestEntrySpec)

/-- ITS FALSE NEIGHBOUR: 'it returns false'. Refute it at one input. -/
def fnExactGreatestEntryWrong : ChangeSpec := { name := "fnExactGreatestEntry", fn := fun _ => fun
  | [d] => { results := [.lit (.bool false)], args := [d] }
  | _ => none }
def FnExactGreatestEntryWrongFalsely : Prop := fnExactGreatestEntryRow.holds Try.pinned (OpenSpec.ofChange fnExactGreatestEntryWrong)

/-- 'laws.FnExactFriezeOfDiagonal': WHATEVER THE INPUT: true; the input reads as it did. -/
def fnExactFriezeOfDiagonalSpec : ChangeSpec := { name := "fnExactFriezeOfDiagonal", fn := fun _ => fun
  | [d] => { results := [.lit (.bool true)], args := [d] }
  | _ => none }
def fnExactFriezeOfDiagonalRow : OpenClaim := { program := "ytinnmloliknilab", sum := "29f254497d9a74c3d1839538c9810ea7f6f6e37c49de633de9e10f479b7f19dd", func := "loop.example/g01236/laws.FnExactFriezeOfDiagonal", spec := "fnExactFriezeOfDiagonal", unfollowed := true, recurses := true, apart := false }
def FnExactFriezeOfDiagonalSaid : Prop := fnExactFriezeOfDiagonalRow.holds Try.pinned (OpenSpec.ofChange fnExactFriezeOfDiagonalSpec)

/-- ITS FALSE NEIGHBOUR: 'it returns false'. Refute it at one input. -/
def fnExactFriezeOfDiagonalWrong : ChangeSpec := { name := "fnExactFriezeOfDiagonal", fn := fun _ => fun
  | [d] => { results := [.lit (.bool false)], args := [d] }
  | _ => none }
def FnExactFriezeOfDiagonalWrongFalsely : Prop := fnExactFriezeOfDiagonalRow.holds Try.pinned (OpenSpec.ofChange fnExactFriezeOfDiagonalWrong)

/-- 'laws.FnExactOnesOf': WHATEVER THE INPUT: true; the input reads as it did. -/
def fnExactOnesOfSpec : ChangeSpec := { name := "fnExactOnesOf", fn := fun _ => fun
  | [d] => { results := [.lit (.bool true)], args := [d] }
  | _ => none }
def fnExactOnesOfRow : OpenClaim := { program := "ytinnmloliknilab", sum := "29f254497d9a74c3d1839538c9810ea7f6f6e37c49de633de9e10f479b7f19dd", func := "loop.example/g01236/laws.FnExactOnesOf", spec := "fnExactOnesOf", unfollowed := true, recurses := true, apart := false }
def FnExactOnesOfSaid : Prop := fnExactOnesOfRow.holds Try.pinned (OpenSpec.ofChange fnExactOnesOfSpec)

/-- ITS FALSE NEIGHBOUR: 'it returns false'. Refute it at one input. -/
def fnExactOnesOfWrong : ChangeSpec := { name := "fnExactOnesOf", fn := fun _ => fun
  | [d] => { results := [.lit (.bool false)], args := [d] }
  | _ => none }
def FnExactOnesOfWrongFalsely : Prop := fnExactOnesOfRow.holds Try.pinned (OpenSpec.ofChange fnExactOnesOfWrong)

/-- 'laws.FnExactIsFrieze': WHATEVER THE INPUT: true; the input reads as it did. -/
def fnExactIsFriezeSpec : ChangeSpec := { name := "fnExactIsFrieze", fn := fun _ => fun
  | [d] => { results := [.lit (.bool true)], args := [d] }
  | _ => none }
def fnExactIsFriezeRow : OpenClaim := { program := "ytinnmloliknilab", sum := "29f254497d9a74c3d1839538c9810ea7f6f6e37c49de633de9e10f479b7f19dd", func := "loop.example/g01236/laws.FnExactIsFrieze", spec := "fnExactIsFrieze", unfollowed := true, recurses := true, apart := false }
def FnExactIsFriezeSaid : Prop := fnExactIsFriezeRow.holds Try.pinned (OpenSpec.ofChange fnExactIsFriezeSpec)

/-- ITS FALSE NEIGHBOUR: 'it returns false'. Refute it at one input. -/
def fnExactIsFriezeWrong : ChangeSpec := { name := "fnExactIsFrieze", fn := fun _ => fun
  | [d] => { results := [.lit (.bool false)], args := [d] }
  | _ => none }
def FnExactIsFriezeWrongFalsely : Prop := fnExactIsFriezeRow.holds Try.pinned (OpenSpec.ofChange fnExactIsFriezeWrong)

/-- 'laws.FnExactGlueEar': WHATEVER THE INPUT: true; the input reads as it did. -/
def fnExactGlueEarSpec : ChangeSpec := { name := "fnExactGlueEar", fn := fun _ => fun
  | [d1, d2] => { results := [.lit (.bool true)], args := [d1, d2] }
  | _ => none }
def fnExactGlueEarRow : OpenClaim := { program := "ytinnmloliknilab", sum := "29f254497d9a74c3d1839538c9810ea7f6f6e37c49de633de9e10f479b7f19dd", func := "loop.example/g01236/laws.FnExactGlueEar", spec := "fnExactGlueEar", inPlace := ["slices.overlaps[int]"], unfollowed := true, recurses := true, apart := false }
def FnExactGlueEarSaid : Prop := fnExactGlueEarRow.holds Try.pinned (OpenSpec.ofChange fnExactGlueEarSpec)

/-- ITS FALSE NEIGHBOUR: 'it returns false'. Refute it at one input. -/
def fnExactGlueEarWrong : ChangeSpec := { name := "fnExactGlueEar", fn := fun _ => fun
  | [d1, d2] => { results := [.lit (.bool false)], args := [d1, d2] }
  | _ => none }
def FnExactGlueEarWrongFalsely : Prop := fnExactGlueEarRow.holds Try.pinned (OpenSpec.ofChange fnExactGlueEarWrong)

/-- 'laws.FnExactQuiddityOfFrieze': WHATEVER THE INPUT: true; the input reads as it did. -/
def fnExactQuiddityOfFriezeSpec : ChangeSpec := { name := "fnExactQuiddityOfFrieze", fn := fun _ => fun
  | [d] => { results := [.lit (.bool true)], args := [d] }
  | _ => none }
def fnExactQuiddityOfFriezeRow : OpenClaim := { program := "ytinnmloliknilab", sum := "29f254497d9a74c3d1839538c9810ea7f6f6e37c49de633de9e10f479b7f19dd", func := "loop.example/g01236/laws.FnExactQuiddityOfFrieze", spec := "fnExactQuiddityOfFrieze", unfollowed := true, recurses := true, apart := false }
def FnExactQuiddityOfFriezeSaid : Prop := fnExactQuiddityOfFriezeRow.holds Try.pinned (OpenSpec.ofChange fnExactQuiddityOfFriezeSpec)

/-- ITS FALSE NEIGHBOUR: 'it returns false'. Refute it at one input. -/
def fnExactQuiddityOfFriezeWrong : ChangeSpec := { name := "fnExactQuiddityOfFrieze", fn := fun _ => fun
  | [d] => { results := [.lit (.bool false)], args := [d] }
  | _ => none }
def FnExactQuiddityOfFriezeWrongFalsely : Prop := fnExactQuiddityOfFriezeRow.holds Try.pinned (OpenSpec.ofChange fnExactQuiddityOfFriezeWrong)

/-- 'laws.FnExactMirrorFrieze': WHATEVER THE INPUT: true; the input reads as it did. -/
def fnExactMirrorFriezeSpec : ChangeSpec := { name := "fnExactMirrorFrieze", fn := fun _ => fun
  | [d] => { results := [.lit (.bool true)], args := [d] }
  | _ => none }
def fnExactMirrorFriezeRow : OpenClaim := { program := "ytinnmloliknilab", sum := "29f254497d9a74c3d1839538c9810ea7f6f6e37c49de633de9e10f479b7f19dd", func := "loop.example/g01236/laws.FnExactMirrorFrieze", spec := "fnExactMirrorFrieze", unfollowed := true, recurses := true, apart := false }
def FnExactMirrorFriezeSaid : Prop := fnExactMirrorFriezeRow.holds Try.pinned (OpenSpec.ofChange fnExactMirrorFriezeSpec)

/-- ITS FALSE NEIGHBOUR: 'it returns false'. Refute it at one input. -/
def fnExactMirrorFriezeWrong : ChangeSpec := { name := "fnExactMirrorFrieze", fn := fun _ => fun
  | [d] => { results := [.lit (.bool false)], args := [d] }
  | _ => none }
def FnExactMirrorFriezeWrongFalsely : Prop := fnExactMirrorFriezeRow.holds Try.pinned (OpenSpec.ofChange fnExactMirrorFriezeWrong)

/- THE SECOND FORM. 'bulk': how many values and letters a reading holds, each counted each time it is reached (what is shared counts as often as it is met; a slice's spare places count too). A statement '..UptoSaid' is the law's where the arguments, and the package variables that the reading takes, are together of bulk at most 1048576: NARROWER than '..Said'. Prove '..Said' where nothing that the law and all that it calls make is longer than what came in: it says more and counts as full. Else prove '..UptoSaid'. A law counts once. -/
mutual
def uptoBulk {H : Type} : DataW H → Nat
  | .lit (.string bytes) => bytes.length + 1
  | .lit _ => 1
  | .nil => 1
  | .ptr d => uptoBulk d + 1
  | .slice elems spare => uptoBulkAll elems + uptoBulkAll spare + 1
  | .agg parts => uptoBulkAll parts + 1
  | .iface _ d => uptoBulk d + 1
  | .map entries => uptoBulkEntries entries + 1
  | .held _ => 1
def uptoBulkAll {H : Type} : List (DataW H) → Nat
  | [] => 0
  | d :: r => uptoBulk d + uptoBulkAll r
def uptoBulkEntries {H : Type} : List (Lit × DataW H) → Nat
  | [] => 0
  | x :: r => uptoBulkEntry x + uptoBulkEntries r
def uptoBulkEntry {H : Type} : Lit × DataW H → Nat
  | (.string bytes, d) => bytes.length + uptoBulk d + 1
  | (_, d) => uptoBulk d + 1
 end
def uptoSmall : (H : Type) → List (DataW H) → Bool := fun _ ds => decide (uptoBulkAll ds ≤ 1048576)
def OpenSpec.upto (s : _root_.Go.ChangeSpec) : _root_.Go.OpenSpec := { _root_.Go.OpenSpec.ofChange s with cond := some uptoSmall }

/-- 'laws.FnExactCountEntries', WHERE WHAT IT READS IS OF BULK AT MOST 1048576: true; the input reads as it did. -/
def fnExactCountEntriesUptoRow : OpenClaim := { program := "ytinnmloliknilab", sum := "29f254497d9a74c3d1839538c9810ea7f6f6e37c49de633de9e10f479b7f19dd", func := "loop.example/g01236/laws.FnExactCountEntries", spec := "fnExactCountEntries", unfollowed := true, recurses := true, apart := false, narrowed := true }
def FnExactCountEntriesUptoSaid : Prop := fnExactCountEntriesUptoRow.holds Try.pinned (OpenSpec.upto fnExactCountEntriesSpec)

/-- 'laws.FnExactFriezeOf', WHERE WHAT IT READS IS OF BULK AT MOST 1048576: true; the input reads as it did. -/
def fnExactFriezeOfUptoRow : OpenClaim := { program := "ytinnmloliknilab", sum := "29f254497d9a74c3d1839538c9810ea7f6f6e37c49de633de9e10f479b7f19dd", func := "loop.example/g01236/laws.FnExactFriezeOf", spec := "fnExactFriezeOf", unfollowed := true, recurses := true, apart := false, narrowed := true }
def FnExactFriezeOfUptoSaid : Prop := fnExactFriezeOfUptoRow.holds Try.pinned (OpenSpec.upto fnExactFriezeOfSpec)

/-- 'laws.FnExactGreatestEntry', WHERE WHAT IT READS IS OF BULK AT MOST 1048576: true; the input reads as it did. -/
def fnExactGreatestEntryUptoRow : OpenClaim := { program := "ytinnmloliknilab", sum := "29f254497d9a74c3d1839538c9810ea7f6f6e37c49de633de9e10f479b7f19dd", func := "loop.example/g01236/laws.FnExactGreatestEntry", spec := "fnExactGreatestEntry", unfollowed := true, recurses := true, apart := false, narrowed := true }
def FnExactGreatestEntryUptoSaid : Prop := fnExactGreatestEntryUptoRow.holds Try.pinned (OpenSpec.upto fnExactGreatestEntrySpec)

/-- 'laws.FnExactFriezeOfDiagonal', WHERE WHAT IT READS IS OF BULK AT MOST 1048576: true; the input reads as it did. -/
def fnExactFriezeOfDiagonalUptoRow : OpenClaim := { program := "ytinnmloliknilab", sum := "29f254497d9a74c3d1839538c9810ea7f6f6e37c49de633de9e10f479b7f19dd", func := "loop.example/g01236/laws.FnExactFriezeOfDiagonal", spec := "fnExactFriezeOfDiagonal", unfollowed := true, recurses := true, apart := false, narrowed := true }
def FnExactFriezeOfDiagonalUptoSaid : Prop := fnExactFriezeOfDiagonalUptoRow.holds Try.pinned (OpenSpec.upto fnExactFriezeOfDiagonalSpec)

/-- 'laws.FnExactOnesOf', WHERE WHAT IT READS IS OF BULK AT MOST 1048576: true; the input reads as it did. -/
def fnExactOnesOfUptoRow : OpenClaim := { program := "ytinnmloliknilab", sum := "29f254497d9a74c3d1839538c9810ea7f6f6e37c49de633de9e10f479b7f19dd", func := "loop.example/g01236/laws.FnExactOnesOf", spec := "fnExactOnesOf", unfollowed := true, recurses := true, apart := false, narrowed := true }
def FnExactOnesOfUptoSaid : Prop := fnExactOnesOfUptoRow.holds Try.pinned (OpenSpec.upto fnExactOnesOfSpec)

/-- 'laws.FnExactIsFrieze', WHERE WHAT IT READS IS OF BULK AT MOST 1048576: true; the input reads as it did. -/
def fnExactIsFriezeUptoRow : OpenClaim := { program := "ytinnmloliknilab", sum := "29f254497d9a74c3d1839538c9810ea7f6f6e37c49de633de9e10f479b7f19dd", func := "loop.example/g01236/laws.FnExactIsFrieze", spec := "fnExactIsFrieze", unfollowed := true, recurses := true, apart := false, narrowed := true }
def FnExactIsFriezeUptoSaid : Prop := fnExactIsFriezeUptoRow.holds Try.pinned (OpenSpec.upto fnExactIsFriezeSpec)

/-- 'laws.FnExactGlueEar', WHERE WHAT IT READS IS OF BULK AT MOST 1048576: true; the input reads as it did. -/
def fnExactGlueEarUptoRow : OpenClaim := { program := "ytinnmloliknilab", sum := "29f254497d9a74c3d1839538c9810ea7f6f6e37c49de633de9e10f479b7f19dd", func := "loop.example/g01236/laws.FnExactGlueEar", spec := "fnExactGlueEar", inPlace := ["slices.overlaps[int]"], unfollowed := true, recurses := true, apart := false, narrowed := true }
def FnExactGlueEarUptoSaid : Prop := fnExactGlueEarUptoRow.holds Try.pinned (OpenSpec.upto fnExactGlueEarSpec)

/-- 'laws.FnExactQuiddityOfFrieze', WHERE WHAT IT READS IS OF BULK AT MOST 1048576: true; the input reads as it did. -/
def fnExactQuiddityOfFriezeUptoRow : OpenClaim := { program := "ytinnmloliknilab", sum := "29f254497d9a74c3d1839538c9810ea7f6f6e37c49de633de9e10f479b7f19dd", func := "loop.example/g01236/laws.FnExactQuiddityOfFrieze", spec := "fnExactQuiddityOfFrieze", unfollowed := true, recurses := true, apart := false, narrowed := true }
def FnExactQuiddityOfFriezeUptoSaid : Prop := fnExactQuiddityOfFriezeUptoRow.holds Try.pinned (OpenSpec.upto fnExactQuiddityOfFriezeSpec)

/-- 'laws.FnExactMirrorFrieze', WHERE WHAT IT READS IS OF BULK AT MOST 1048576: true; the input reads as it did. -/
def fnExactMirrorFriezeUptoRow : OpenClaim := { program := "ytinnmloliknilab", sum := "29f254497d9a74c3d1839538c9810ea7f6f6e37c49de633de9e10f479b7f19dd", func := "loop.example/g01236/laws.FnExactMirrorFrieze", spec := "fnExactMirrorFrieze", unfollowed := true, recurses := true, apart := false, narrowed := true }
def FnExactMirrorFriezeUptoSaid : Prop := fnExactMirrorFriezeUptoRow.holds Try.pinned (OpenSpec.upto fnExactMirrorFriezeSpec)

end Rows
end Go.Proofs.Ytinnmloliknilab
