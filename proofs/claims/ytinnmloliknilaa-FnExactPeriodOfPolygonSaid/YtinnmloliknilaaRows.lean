/-
  No cell of these rows narrows 'for every input' (looked for: loops, veiled, ifaces, maps, wideKeys, modest, calm, conditions, laid).
  DERIVED. THE GIVEN ROWS OF THIS SEAT. 12 by the template 'for every input the law returns true; each argument reads behind the call as it read before'; 0 by the template 'total and deterministic' (their statements: YtinnmloliknilaaTotals.lean).
  GIVEN WITH THE SEED: the statements are not yours to turn. If you find one false, say at which input.
  Laid BY PROGRAM, IN A SANDBOX (cutbox-rows.mjs): the forced cells as the released guide's own fill.sh prints them over the translation f10dd9854d4794ca… (all of the seat's roots in one cut). By AI agents, Wed Nov 11 2026. No macro, syntax, notation, axiom, sorry.
-/
import Derived.Test.YtinnmloliknilaaChecked
import GoSem.Claim
import GoSem.ClaimJoined
import GoSem.ClaimMapViews
import Derived.JoinedTies
import Derived.KernelRfl
namespace Go.Proofs.Ytinnmloliknilaa
/- THE CELL 'sum', in the pinned program and in every row, IS THE sha256 OF THE DUMP (.gsa) THAT YtinnmloliknilaaProg.lean LOADS. Nothing in Lean hashes anything: it is a label: what it is worth is what the hold of that sum in a sandbox is worth. -/
noncomputable def Try.pinned : Pinned := { name := "ytinnmloliknilaa", sum := "f10dd9854d4794caaede8cdd1a8ed922913c4ba2ba461054a876b2286dcaf5ab", checked := Try.checked }
namespace Rows
def none {H : Type} : Left H := { results := [], args := [] }

/-- 'laws.FnExactZigzagOf': WHATEVER THE INPUT: true; the input reads as it did. -/
def fnExactZigzagOfSpec : ChangeSpec := { name := "fnExactZigzagOf", fn := fun _ => fun
  | [d] => { results := [.lit (.bool true)], args := [d] }
  | _ => none }
def fnExactZigzagOfRow : OpenClaim := { program := "ytinnmloliknilaa", sum := "f10dd9854d4794caaede8cdd1a8ed922913c4ba2ba461054a876b2286dcaf5ab", func := "loop.example/g01236/laws.FnExactZigzagOf", spec := "fnExactZigzagOf", unfollowed := true, recurses := true, apart := false }
def FnExactZigzagOfSaid : Prop := fnExactZigzagOfRow.holds Try.pinned (OpenSpec.ofChange fnExactZigzagOfSpec)

/-- ITS FALSE NEIGHBOUR: 'it returns false'. Refute it at one input. -/
def fnExactZigzagOfWrong : ChangeSpec := { name := "fnExactZigzagOf", fn := fun _ => fun
  | [d] => { results := [.lit (.bool false)], args := [d] }
  | _ => none }
def FnExactZigzagOfWrongFalsely : Prop := fnExactZigzagOfRow.holds Try.pinned (OpenSpec.ofChange fnExactZigzagOfWrong)

/-- 'laws.FnExactMirrorPolygon': WHATEVER THE INPUT: true; the input reads as it did. -/
def fnExactMirrorPolygonSpec : ChangeSpec := { name := "fnExactMirrorPolygon", fn := fun _ => fun
  | [d1, d2] => { results := [.lit (.bool true)], args := [d1, d2] }
  | _ => none }
def fnExactMirrorPolygonRow : OpenClaim := { program := "ytinnmloliknilaa", sum := "f10dd9854d4794caaede8cdd1a8ed922913c4ba2ba461054a876b2286dcaf5ab", func := "loop.example/g01236/laws.FnExactMirrorPolygon", spec := "fnExactMirrorPolygon", unfollowed := true, recurses := true, apart := false }
def FnExactMirrorPolygonSaid : Prop := fnExactMirrorPolygonRow.holds Try.pinned (OpenSpec.ofChange fnExactMirrorPolygonSpec)

/-- ITS FALSE NEIGHBOUR: 'it returns false'. Refute it at one input. -/
def fnExactMirrorPolygonWrong : ChangeSpec := { name := "fnExactMirrorPolygon", fn := fun _ => fun
  | [d1, d2] => { results := [.lit (.bool false)], args := [d1, d2] }
  | _ => none }
def FnExactMirrorPolygonWrongFalsely : Prop := fnExactMirrorPolygonRow.holds Try.pinned (OpenSpec.ofChange fnExactMirrorPolygonWrong)

/-- 'laws.FnExactTurnPolygon': WHATEVER THE INPUT: true; the input reads as it did. -/
def fnExactTurnPolygonSpec : ChangeSpec := { name := "fnExactTurnPolygon", fn := fun _ => fun
  | [d1, d2, d3] => { results := [.lit (.bool true)], args := [d1, d2, d3] }
  | _ => none }
def fnExactTurnPolygonRow : OpenClaim := { program := "ytinnmloliknilaa", sum := "f10dd9854d4794caaede8cdd1a8ed922913c4ba2ba461054a876b2286dcaf5ab", func := "loop.example/g01236/laws.FnExactTurnPolygon", spec := "fnExactTurnPolygon", unfollowed := true, recurses := true, apart := false }
def FnExactTurnPolygonSaid : Prop := fnExactTurnPolygonRow.holds Try.pinned (OpenSpec.ofChange fnExactTurnPolygonSpec)

/-- ITS FALSE NEIGHBOUR: 'it returns false'. Refute it at one input. -/
def fnExactTurnPolygonWrong : ChangeSpec := { name := "fnExactTurnPolygon", fn := fun _ => fun
  | [d1, d2, d3] => { results := [.lit (.bool false)], args := [d1, d2, d3] }
  | _ => none }
def FnExactTurnPolygonWrongFalsely : Prop := fnExactTurnPolygonRow.holds Try.pinned (OpenSpec.ofChange fnExactTurnPolygonWrong)

/-- 'laws.FnExactPeriodOfPolygon': WHATEVER THE INPUT: true; the input reads as it did. -/
def fnExactPeriodOfPolygonSpec : ChangeSpec := { name := "fnExactPeriodOfPolygon", fn := fun _ => fun
  | [d1, d2] => { results := [.lit (.bool true)], args := [d1, d2] }
  | _ => none }
def fnExactPeriodOfPolygonRow : OpenClaim := { program := "ytinnmloliknilaa", sum := "f10dd9854d4794caaede8cdd1a8ed922913c4ba2ba461054a876b2286dcaf5ab", func := "loop.example/g01236/laws.FnExactPeriodOfPolygon", spec := "fnExactPeriodOfPolygon", unfollowed := true, recurses := true, apart := false }
def FnExactPeriodOfPolygonSaid : Prop := fnExactPeriodOfPolygonRow.holds Try.pinned (OpenSpec.ofChange fnExactPeriodOfPolygonSpec)

/-- ITS FALSE NEIGHBOUR: 'it returns false'. Refute it at one input. -/
def fnExactPeriodOfPolygonWrong : ChangeSpec := { name := "fnExactPeriodOfPolygon", fn := fun _ => fun
  | [d1, d2] => { results := [.lit (.bool false)], args := [d1, d2] }
  | _ => none }
def FnExactPeriodOfPolygonWrongFalsely : Prop := fnExactPeriodOfPolygonRow.holds Try.pinned (OpenSpec.ofChange fnExactPeriodOfPolygonWrong)

/-- 'laws.FnExactIsQuiddity': WHATEVER THE INPUT: true; the input reads as it did. -/
def fnExactIsQuidditySpec : ChangeSpec := { name := "fnExactIsQuiddity", fn := fun _ => fun
  | [d] => { results := [.lit (.bool true)], args := [d] }
  | _ => none }
def fnExactIsQuiddityRow : OpenClaim := { program := "ytinnmloliknilaa", sum := "f10dd9854d4794caaede8cdd1a8ed922913c4ba2ba461054a876b2286dcaf5ab", func := "loop.example/g01236/laws.FnExactIsQuiddity", spec := "fnExactIsQuiddity", unfollowed := true, recurses := true, apart := false }
def FnExactIsQuidditySaid : Prop := fnExactIsQuiddityRow.holds Try.pinned (OpenSpec.ofChange fnExactIsQuidditySpec)

/-- ITS FALSE NEIGHBOUR: 'it returns false'. Refute it at one input. -/
def fnExactIsQuiddityWrong : ChangeSpec := { name := "fnExactIsQuiddity", fn := fun _ => fun
  | [d] => { results := [.lit (.bool false)], args := [d] }
  | _ => none }
def FnExactIsQuiddityWrongFalsely : Prop := fnExactIsQuiddityRow.holds Try.pinned (OpenSpec.ofChange fnExactIsQuiddityWrong)

/-- 'laws.FnExactGlideOf': WHATEVER THE INPUT: true; the input reads as it did. -/
def fnExactGlideOfSpec : ChangeSpec := { name := "fnExactGlideOf", fn := fun _ => fun
  | [d1, d2, d3] => { results := [.lit (.bool true)], args := [d1, d2, d3] }
  | _ => none }
def fnExactGlideOfRow : OpenClaim := { program := "ytinnmloliknilaa", sum := "f10dd9854d4794caaede8cdd1a8ed922913c4ba2ba461054a876b2286dcaf5ab", func := "loop.example/g01236/laws.FnExactGlideOf", spec := "fnExactGlideOf", unfollowed := true, recurses := true, apart := false }
def FnExactGlideOfSaid : Prop := fnExactGlideOfRow.holds Try.pinned (OpenSpec.ofChange fnExactGlideOfSpec)

/-- ITS FALSE NEIGHBOUR: 'it returns false'. Refute it at one input. -/
def fnExactGlideOfWrong : ChangeSpec := { name := "fnExactGlideOf", fn := fun _ => fun
  | [d1, d2, d3] => { results := [.lit (.bool false)], args := [d1, d2, d3] }
  | _ => none }
def FnExactGlideOfWrongFalsely : Prop := fnExactGlideOfRow.holds Try.pinned (OpenSpec.ofChange fnExactGlideOfWrong)

/-- 'laws.FnExactCutEar': WHATEVER THE INPUT: true; the input reads as it did. -/
def fnExactCutEarSpec : ChangeSpec := { name := "fnExactCutEar", fn := fun _ => fun
  | [d1, d2] => { results := [.lit (.bool true)], args := [d1, d2] }
  | _ => none }
def fnExactCutEarRow : OpenClaim := { program := "ytinnmloliknilaa", sum := "f10dd9854d4794caaede8cdd1a8ed922913c4ba2ba461054a876b2286dcaf5ab", func := "loop.example/g01236/laws.FnExactCutEar", spec := "fnExactCutEar", unfollowed := true, recurses := true, apart := false }
def FnExactCutEarSaid : Prop := fnExactCutEarRow.holds Try.pinned (OpenSpec.ofChange fnExactCutEarSpec)

/-- ITS FALSE NEIGHBOUR: 'it returns false'. Refute it at one input. -/
def fnExactCutEarWrong : ChangeSpec := { name := "fnExactCutEar", fn := fun _ => fun
  | [d1, d2] => { results := [.lit (.bool false)], args := [d1, d2] }
  | _ => none }
def FnExactCutEarWrongFalsely : Prop := fnExactCutEarRow.holds Try.pinned (OpenSpec.ofChange fnExactCutEarWrong)

/-- 'laws.FnExactEntryOf': WHATEVER THE INPUT: true; the input reads as it did. -/
def fnExactEntryOfSpec : ChangeSpec := { name := "fnExactEntryOf", fn := fun _ => fun
  | [d1, d2, d3] => { results := [.lit (.bool true)], args := [d1, d2, d3] }
  | _ => none }
def fnExactEntryOfRow : OpenClaim := { program := "ytinnmloliknilaa", sum := "f10dd9854d4794caaede8cdd1a8ed922913c4ba2ba461054a876b2286dcaf5ab", func := "loop.example/g01236/laws.FnExactEntryOf", spec := "fnExactEntryOf", unfollowed := true, recurses := true, apart := false }
def FnExactEntryOfSaid : Prop := fnExactEntryOfRow.holds Try.pinned (OpenSpec.ofChange fnExactEntryOfSpec)

/-- ITS FALSE NEIGHBOUR: 'it returns false'. Refute it at one input. -/
def fnExactEntryOfWrong : ChangeSpec := { name := "fnExactEntryOf", fn := fun _ => fun
  | [d1, d2, d3] => { results := [.lit (.bool false)], args := [d1, d2, d3] }
  | _ => none }
def FnExactEntryOfWrongFalsely : Prop := fnExactEntryOfRow.holds Try.pinned (OpenSpec.ofChange fnExactEntryOfWrong)

/-- 'laws.FnExactEntryByContinuant': WHATEVER THE INPUT: true; the input reads as it did. -/
def fnExactEntryByContinuantSpec : ChangeSpec := { name := "fnExactEntryByContinuant", fn := fun _ => fun
  | [d1, d2, d3] => { results := [.lit (.bool true)], args := [d1, d2, d3] }
  | _ => none }
def fnExactEntryByContinuantRow : OpenClaim := { program := "ytinnmloliknilaa", sum := "f10dd9854d4794caaede8cdd1a8ed922913c4ba2ba461054a876b2286dcaf5ab", func := "loop.example/g01236/laws.FnExactEntryByContinuant", spec := "fnExactEntryByContinuant", unfollowed := true, recurses := true, apart := false }
def FnExactEntryByContinuantSaid : Prop := fnExactEntryByContinuantRow.holds Try.pinned (OpenSpec.ofChange fnExactEntryByContinuantSpec)

/-- ITS FALSE NEIGHBOUR: 'it returns false'. Refute it at one input. -/
def fnExactEntryByContinuantWrong : ChangeSpec := { name := "fnExactEntryByContinuant", fn := fun _ => fun
  | [d1, d2, d3] => { results := [.lit (.bool false)], args := [d1, d2, d3] }
  | _ => none }
def FnExactEntryByContinuantWrongFalsely : Prop := fnExactEntryByContinuantRow.holds Try.pinned (OpenSpec.ofChange fnExactEntryByContinuantWrong)

/-- 'laws.FnExactTriangulationOf': WHATEVER THE INPUT: true; the input reads as it did. -/
def fnExactTriangulationOfSpec : ChangeSpec := { name := "fnExactTriangulationOf", fn := fun _ => fun
  | [d] => { results := [.lit (.bool true)], args := [d] }
  | _ => none }
def fnExactTriangulationOfRow : OpenClaim := { program := "ytinnmloliknilaa", sum := "f10dd9854d4794caaede8cdd1a8ed922913c4ba2ba461054a876b2286dcaf5ab", func := "loop.example/g01236/laws.FnExactTriangulationOf", spec := "fnExactTriangulationOf", unfollowed := true, recurses := true, apart := false }
def FnExactTriangulationOfSaid : Prop := fnExactTriangulationOfRow.holds Try.pinned (OpenSpec.ofChange fnExactTriangulationOfSpec)

/-- ITS FALSE NEIGHBOUR: 'it returns false'. Refute it at one input. -/
def fnExactTriangulationOfWrong : ChangeSpec := { name := "fnExactTriangulationOf", fn := fun _ => fun
  | [d] => { results := [.lit (.bool false)], args := [d] }
  | _ => none }
def FnExactTriangulationOfWrongFalsely : Prop := fnExactTriangulationOfRow.holds Try.pinned (OpenSpec.ofChange fnExactTriangulationOfWrong)

/-- 'laws.FnExactDiagonalOfFrieze': WHATEVER THE INPUT: true; the input reads as it did. -/
def fnExactDiagonalOfFriezeSpec : ChangeSpec := { name := "fnExactDiagonalOfFrieze", fn := fun _ => fun
  | [d1, d2] => { results := [.lit (.bool true)], args := [d1, d2] }
  | _ => none }
def fnExactDiagonalOfFriezeRow : OpenClaim := { program := "ytinnmloliknilaa", sum := "f10dd9854d4794caaede8cdd1a8ed922913c4ba2ba461054a876b2286dcaf5ab", func := "loop.example/g01236/laws.FnExactDiagonalOfFrieze", spec := "fnExactDiagonalOfFrieze", unfollowed := true, recurses := true, apart := false }
def FnExactDiagonalOfFriezeSaid : Prop := fnExactDiagonalOfFriezeRow.holds Try.pinned (OpenSpec.ofChange fnExactDiagonalOfFriezeSpec)

/-- ITS FALSE NEIGHBOUR: 'it returns false'. Refute it at one input. -/
def fnExactDiagonalOfFriezeWrong : ChangeSpec := { name := "fnExactDiagonalOfFrieze", fn := fun _ => fun
  | [d1, d2] => { results := [.lit (.bool false)], args := [d1, d2] }
  | _ => none }
def FnExactDiagonalOfFriezeWrongFalsely : Prop := fnExactDiagonalOfFriezeRow.holds Try.pinned (OpenSpec.ofChange fnExactDiagonalOfFriezeWrong)

/-- 'laws.FnExactRowOfFrieze': WHATEVER THE INPUT: true; the input reads as it did. -/
def fnExactRowOfFriezeSpec : ChangeSpec := { name := "fnExactRowOfFrieze", fn := fun _ => fun
  | [d1, d2] => { results := [.lit (.bool true)], args := [d1, d2] }
  | _ => none }
def fnExactRowOfFriezeRow : OpenClaim := { program := "ytinnmloliknilaa", sum := "f10dd9854d4794caaede8cdd1a8ed922913c4ba2ba461054a876b2286dcaf5ab", func := "loop.example/g01236/laws.FnExactRowOfFrieze", spec := "fnExactRowOfFrieze", unfollowed := true, recurses := true, apart := false }
def FnExactRowOfFriezeSaid : Prop := fnExactRowOfFriezeRow.holds Try.pinned (OpenSpec.ofChange fnExactRowOfFriezeSpec)

/-- ITS FALSE NEIGHBOUR: 'it returns false'. Refute it at one input. -/
def fnExactRowOfFriezeWrong : ChangeSpec := { name := "fnExactRowOfFrieze", fn := fun _ => fun
  | [d1, d2] => { results := [.lit (.bool false)], args := [d1, d2] }
  | _ => none }
def FnExactRowOfFriezeWrongFalsely : Prop := fnExactRowOfFriezeRow.holds Try.pinned (OpenSpec.ofChange fnExactRowOfFriezeWrong)

/- THE SECOND FORM. 'bulk': how many values and letters a reading holds, each counted each time it is reached (what is shared counts as often as it is met; a slice's spare places count too). A statement '..UptoSaid' is the law's where the arguments, and the package variables that the reading takes, are together of bulk at most 1048576: NARROWER than '..Said'. Prove '..Said' where nothing that the law and all that it calls make is longer than what came in: it says more and counts as full. Else prove '..UptoSaid'. A law counts once. -/
mutual
def uptoBulk {H : Type} : DataW H → Nat
  | .lit (.string bytes) => bytes.length + 1
  | .lit _ => 1
  | .nil => 1
  | .ptr d => uptoBulk d + 1
  | .slice elems spare => uptoBulkAll elems + uptoBulkAll spare + 1
  | .agg parts => uptoBulkAll parts + 1
  | .iface _ d => uptoBulk d + 1
  | .map entries => uptoBulkEntries entries + 1
  | .held _ => 1
def uptoBulkAll {H : Type} : List (DataW H) → Nat
  | [] => 0
  | d :: r => uptoBulk d + uptoBulkAll r
def uptoBulkEntries {H : Type} : List (Lit × DataW H) → Nat
  | [] => 0
  | x :: r => uptoBulkEntry x + uptoBulkEntries r
def uptoBulkEntry {H : Type} : Lit × DataW H → Nat
  | (.string bytes, d) => bytes.length + uptoBulk d + 1
  | (_, d) => uptoBulk d + 1
 end
def uptoSmall : (H : Type) → List (DataW H) → Bool := fun _ ds => decide (uptoBulkAll ds ≤ 1048576)
def OpenSpec.upto (s : _root_.Go.ChangeSpec) : _root_.Go.OpenSpec := { _root_.Go.OpenSpec.ofChange s with cond := some uptoSmall }

/-- 'laws.FnExactZigzagOf', WHERE WHAT IT READS IS OF BULK AT MOST 1048576: true; the input reads as it did. -/
def fnExactZigzagOfUptoRow : OpenClaim := { program := "ytinnmloliknilaa", sum := "f10dd9854d4794caaede8cdd1a8ed922913c4ba2ba461054a876b2286dcaf5ab", func := "loop.example/g01236/laws.FnExactZigzagOf", spec := "fnExactZigzagOf", unfollowed := true, recurses := true, apart := false, narrowed := true }
def FnExactZigzagOfUptoSaid : Prop := fnExactZigzagOfUptoRow.holds Try.pinned (OpenSpec.upto fnExactZigzagOfSpec)

/-- 'laws.FnExactMirrorPolygon', WHERE WHAT IT READS IS OF BULK AT MOST 1048576: true; the input reads as it did. -/
def fnExactMirrorPolygonUptoRow : OpenClaim := { program := "ytinnmloliknilaa", sum := "f10dd9854d4794caaede8cdd1a8ed922913c4ba2ba461054a876b2286dcaf5ab", func := "loop.example/g01236/laws.FnExactMirrorPolygon", spec := "fnExactMirrorPolygon", unfollowed := true, recurses := true, apart := false, narrowed := true }
def FnExactMirrorPolygonUptoSaid : Prop := fnExactMirrorPolygonUptoRow.holds Try.pinned (OpenSpec.upto fnExactMirrorPolygonSpec)

/-- 'laws.FnExactTurnPolygon', WHERE WHAT IT READS IS OF BULK AT MOST 1048576: true; the input reads as it did. -/
def fnExactTurnPolygonUptoRow : OpenClaim := { program := "ytinnmloliknilaa", sum := "f10dd9854d4794caaede8cdd1a8ed922913c4ba2ba461054a876b2286dcaf5ab", func := "loop.example/g01236/laws.FnExactTurnPolygon", spec := "fnExactTurnPolygon", unfollowed := true, recurses := true, apart := false, narrowed := true }
def FnExactTurnPolygonUptoSaid : Prop := fnExactTurnPolygonUptoRow.holds Try.pinned (OpenSpec.upto fnExactTurnPolygonSpec)

/-- 'laws.FnExactPeriodOfPolygon', WHERE WHAT IT READS IS OF BULK AT MOST 1048576: true; the input reads as it did. -/
def fnExactPeriodOfPolygonUptoRow : OpenClaim := { program := "ytinnmloliknilaa", sum := "f10dd9854d4794caaede8cdd1a8ed922913c4ba2ba461054a876b2286dcaf5ab", func := "loop.example/g01236/laws.FnExactPeriodOfPolygon", spec := "fnExactPeriodOfPolygon", unfollowed := true, recurses := true, apart := false, narrowed := true }
def FnExactPeriodOfPolygonUptoSaid : Prop := fnExactPeriodOfPolygonUptoRow.holds Try.pinned (OpenSpec.upto fnExactPeriodOfPolygonSpec)

/-- 'laws.FnExactIsQuiddity', WHERE WHAT IT READS IS OF BULK AT MOST 1048576: true; the input reads as it did. -/
def fnExactIsQuiddityUptoRow : OpenClaim := { program := "ytinnmloliknilaa", sum := "f10dd9854d4794caaede8cdd1a8ed922913c4ba2ba461054a876b2286dcaf5ab", func := "loop.example/g01236/laws.FnExactIsQuiddity", spec := "fnExactIsQuiddity", unfollowed := true, recurses := true, apart := false, narrowed := true }
def FnExactIsQuiddityUptoSaid : Prop := fnExactIsQuiddityUptoRow.holds Try.pinned (OpenSpec.upto fnExactIsQuidditySpec)

/-- 'laws.FnExactGlideOf', WHERE WHAT IT READS IS OF BULK AT MOST 1048576: true; the input reads as it did. -/
def fnExactGlideOfUptoRow : OpenClaim := { program := "ytinnmloliknilaa", sum := "f10dd9854d4794caaede8cdd1a8ed922913c4ba2ba461054a876b2286dcaf5ab", func := "loop.example/g01236/laws.FnExactGlideOf", spec := "fnExactGlideOf", unfollowed := true, recurses := true, apart := false, narrowed := true }
def FnExactGlideOfUptoSaid : Prop := fnExactGlideOfUptoRow.holds Try.pinned (OpenSpec.upto fnExactGlideOfSpec)

/-- 'laws.FnExactCutEar', WHERE WHAT IT READS IS OF BULK AT MOST 1048576: true; the input reads as it did. -/
def fnExactCutEarUptoRow : OpenClaim := { program := "ytinnmloliknilaa", sum := "f10dd9854d4794caaede8cdd1a8ed922913c4ba2ba461054a876b2286dcaf5ab", func := "loop.example/g01236/laws.FnExactCutEar", spec := "fnExactCutEar", unfollowed := true, recurses := true, apart := false, narrowed := true }
def FnExactCutEarUptoSaid : Prop := fnExactCutEarUptoRow.holds Try.pinned (OpenSpec.upto fnExactCutEarSpec)

/-- 'laws.FnExactEntryOf', WHERE WHAT IT READS IS OF BULK AT MOST 1048576: true; the input reads as it did. -/
def fnExactEntryOfUptoRow : OpenClaim := { program := "ytinnmloliknilaa", sum := "f10dd9854d4794caaede8cdd1a8ed922913c4ba2ba461054a876b2286dcaf5ab", func := "loop.example/g01236/laws.FnExactEntryOf", spec := "fnExactEntryOf", unfollowed := true, recurses := true, apart := false, narrowed := true }
def FnExactEntryOfUptoSaid : Prop := fnExactEntryOfUptoRow.holds Try.pinned (OpenSpec.upto fnExactEntryOfSpec)

/-- 'laws.FnExactEntryByContinuant', WHERE WHAT IT READS IS OF BULK AT MOST 1048576: true; the input reads as it did. -/
def fnExactEntryByContinuantUptoRow : OpenClaim := { program := "ytinnmloliknilaa", sum := "f10dd9854d4794caaede8cdd1a8ed922913c4ba2ba461054a876b2286dcaf5ab", func := "loop.example/g01236/laws.FnExactEntryByContinuant", spec := "fnExactEntryByContinuant", unfollowed := true, recurses := true, apart := false, narrowed := true }
def FnExactEntryByContinuantUptoSaid : Prop := fnExactEntryByContinuantUptoRow.holds Try.pinned (OpenSpec.upto fnExactEntryByContinuantSpec)

/-- 'laws.FnExactTriangulationOf', WHERE WHAT IT READS IS OF BULK AT MOST 1048576: true; the input reads as it did. -/
def fnExactTriangulationOfUptoRow : OpenClaim := { program := "ytinnmloliknilaa", sum := "f10dd9854d4794caaede8cdd1a8ed922913c4ba2ba461054a876b2286dcaf5ab", func := "loop.example/g01236/laws.FnExactTriangulationOf", spec := "fnExactTriangulationOf", unfollowed := true, recurses := true, apart := false, narrowed := true }
def FnExactTriangulationOfUptoSaid : Prop := fnExactTriangulationOfUptoRow.holds Try.pinned (OpenSpec.upto fnExactTriangulationOfSpec)

/-- 'laws.FnExactDiagonalOfFrieze', WHERE WHAT IT READS IS OF BULK AT MOST 1048576: true; the input reads as it did. -/
def fnExactDiagonalOfFriezeUptoRow : OpenClaim := { program := "ytinnmloliknilaa", sum := "f10dd9854d4794caaede8cdd1a8ed922913c4ba2ba461054a876b2286dcaf5ab", func := "loop.example/g01236/laws.FnExactDiagonalOfFrieze", spec := "fnExactDiagonalOfFrieze", unfollowed := true, recurses := true, apart := false, narrowed := true }
def FnExactDiagonalOfFriezeUptoSaid : Prop := fnExactDiagonalOfFriezeUptoRow.holds Try.pinned (OpenSpec.upto fnExactDiagonalOfFriezeSpec)

/-- 'laws.FnExactRowOfFrieze', WHERE WHAT IT READS IS OF BULK AT MOST 1048576: true; the input reads as it did. -/
def fnExactRowOfFriezeUptoRow : OpenClaim := { program := "ytinnmloliknilaa", sum := "f10dd9854d4794caaede8cdd1a8ed922913c4ba2ba461054a876b2286dcaf5ab", func := "loop.example/g01236/laws.FnExactRowOfFrieze", spec := "fnExactRowOfFrieze", unfollowed := true, recurses := true, apart := false, narrowed := true }
def FnExactRowOfFriezeUptoSaid : Prop := fnExactRowOfFriezeUptoRow.holds Try.pinned (OpenSpec.upto fnExactRowOfFriezeSpec)

end Rows
end Go.Proofs.Ytinnmloliknilaa
