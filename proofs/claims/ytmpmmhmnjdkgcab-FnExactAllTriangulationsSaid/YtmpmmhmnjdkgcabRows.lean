/-
  No cell of these rows narrows 'for every input' (looked for: loops, veiled, ifaces, maps, wideKeys, modest, calm, conditions, laid).
  DERIVED. THE GIVEN ROWS OF THIS SEAT. 9 by the template 'for every input the law returns true; each argument reads behind the call as it read before'; 0 by the template 'total and deterministic' (their statements: YtmpmmhmnjdkgcabTotals.lean).
  GIVEN WITH THE SEED: the statements are not yours to turn. If you find one false, say at which input.
  Laid BY PROGRAM, IN A SANDBOX (cutbox-rows.mjs): the forced cells as the released guide's own fill.sh prints them over the translation bd343c5c2e100ae4… (all of the seat's roots in one cut). By AI agents, Wed Nov 11 2026. No macro, syntax, notation, axiom, sorry.
-/
import Derived.Test.YtmpmmhmnjdkgcabChecked
import GoSem.Claim
import GoSem.ClaimJoined
import GoSem.ClaimMapViews
import Derived.JoinedTies
import Derived.KernelRfl
namespace Go.Proofs.Ytmpmmhmnjdkgcab
/- THE CELL 'sum', in the pinned program and in every row, IS THE sha256 OF THE DUMP (.gsa) THAT YtmpmmhmnjdkgcabProg.lean LOADS. Nothing in Lean hashes anything: it is a label: what it is worth is what the hold of that sum in a sandbox is worth. -/
noncomputable def Try.pinned : Pinned := { name := "ytmpmmhmnjdkgcab", sum := "bd343c5c2e100ae4820292680f5ef47f66fbbeeeeb4335854d06775687e81a46", checked := Try.checked }
namespace Rows
def none {H : Type} : Left H := { results := [], args := [] }

/-- 'laws.FnExactContinuantTable': WHATEVER THE INPUT: true; the input reads as it did. -/
def fnExactContinuantTableSpec : ChangeSpec := { name := "fnExactContinuantTable", fn := fun _ => fun
  | [d] => { results := [.lit (.bool true)], args := [d] }
  | _ => none }
def fnExactContinuantTableRow : OpenClaim := { program := "ytmpmmhmnjdkgcab", sum := "bd343c5c2e100ae4820292680f5ef47f66fbbeeeeb4335854d06775687e81a46", func := "loop.example/g01236/laws.FnExactContinuantTable", spec := "fnExactContinuantTable", unfollowed := true, recurses := true, apart := false }
def FnExactContinuantTableSaid : Prop := fnExactContinuantTableRow.holds Try.pinned (OpenSpec.ofChange fnExactContinuantTableSpec)

/-- ITS FALSE NEIGHBOUR: 'it returns false'. Refute it at one input. -/
def fnExactContinuantTableWrong : ChangeSpec := { name := "fnExactContinuantTable", fn := fun _ => fun
  | [d] => { results := [.lit (.bool false)], args := [d] }
  | _ => none }
def FnExactContinuantTableWrongFalsely : Prop := fnExactContinuantTableRow.holds Try.pinned (OpenSpec.ofChange fnExactContinuantTableWrong)

/-- 'laws.FnExactIsTriangulation': WHATEVER THE INPUT: true; the input reads as it did. -/
def fnExactIsTriangulationSpec : ChangeSpec := { name := "fnExactIsTriangulation", fn := fun _ => fun
  | [d1, d2] => { results := [.lit (.bool true)], args := [d1, d2] }
  | _ => none }
def fnExactIsTriangulationRow : OpenClaim := { program := "ytmpmmhmnjdkgcab", sum := "bd343c5c2e100ae4820292680f5ef47f66fbbeeeeb4335854d06775687e81a46", func := "loop.example/g01236/laws.FnExactIsTriangulation", spec := "fnExactIsTriangulation", unfollowed := true, recurses := true, apart := false }
def FnExactIsTriangulationSaid : Prop := fnExactIsTriangulationRow.holds Try.pinned (OpenSpec.ofChange fnExactIsTriangulationSpec)

/-- ITS FALSE NEIGHBOUR: 'it returns false'. Refute it at one input. -/
def fnExactIsTriangulationWrong : ChangeSpec := { name := "fnExactIsTriangulation", fn := fun _ => fun
  | [d1, d2] => { results := [.lit (.bool false)], args := [d1, d2] }
  | _ => none }
def FnExactIsTriangulationWrongFalsely : Prop := fnExactIsTriangulationRow.holds Try.pinned (OpenSpec.ofChange fnExactIsTriangulationWrong)

/-- 'laws.FnExactAllTriangulations': WHATEVER THE INPUT: true; the input reads as it did. -/
def fnExactAllTriangulationsSpec : ChangeSpec := { name := "fnExactAllTriangulations", fn := fun _ => fun
  | [d] => { results := [.lit (.bool true)], args := [d] }
  | _ => none }
def fnExactAllTriangulationsRow : OpenClaim := { program := "ytmpmmhmnjdkgcab", sum := "bd343c5c2e100ae4820292680f5ef47f66fbbeeeeb4335854d06775687e81a46", func := "loop.example/g01236/laws.FnExactAllTriangulations", spec := "fnExactAllTriangulations", unfollowed := true, recurses := true, apart := false }
def FnExactAllTriangulationsSaid : Prop := fnExactAllTriangulationsRow.holds Try.pinned (OpenSpec.ofChange fnExactAllTriangulationsSpec)

/-- ITS FALSE NEIGHBOUR: 'it returns false'. Refute it at one input. -/
def fnExactAllTriangulationsWrong : ChangeSpec := { name := "fnExactAllTriangulations", fn := fun _ => fun
  | [d] => { results := [.lit (.bool false)], args := [d] }
  | _ => none }
def FnExactAllTriangulationsWrongFalsely : Prop := fnExactAllTriangulationsRow.holds Try.pinned (OpenSpec.ofChange fnExactAllTriangulationsWrong)

/-- 'laws.FnExactClosesAt': WHATEVER THE INPUT: true; the input reads as it did. -/
def fnExactClosesAtSpec : ChangeSpec := { name := "fnExactClosesAt", fn := fun _ => fun
  | [d] => { results := [.lit (.bool true)], args := [d] }
  | _ => none }
def fnExactClosesAtRow : OpenClaim := { program := "ytmpmmhmnjdkgcab", sum := "bd343c5c2e100ae4820292680f5ef47f66fbbeeeeb4335854d06775687e81a46", func := "loop.example/g01236/laws.FnExactClosesAt", spec := "fnExactClosesAt", unfollowed := true, recurses := true, apart := false }
def FnExactClosesAtSaid : Prop := fnExactClosesAtRow.holds Try.pinned (OpenSpec.ofChange fnExactClosesAtSpec)

/-- ITS FALSE NEIGHBOUR: 'it returns false'. Refute it at one input. -/
def fnExactClosesAtWrong : ChangeSpec := { name := "fnExactClosesAt", fn := fun _ => fun
  | [d] => { results := [.lit (.bool false)], args := [d] }
  | _ => none }
def FnExactClosesAtWrongFalsely : Prop := fnExactClosesAtRow.holds Try.pinned (OpenSpec.ofChange fnExactClosesAtWrong)

/-- 'laws.FnExactExtendFrieze': WHATEVER THE INPUT: true; the input reads as it did. -/
def fnExactExtendFriezeSpec : ChangeSpec := { name := "fnExactExtendFrieze", fn := fun _ => fun
  | [d1, d2] => { results := [.lit (.bool true)], args := [d1, d2] }
  | _ => none }
def fnExactExtendFriezeRow : OpenClaim := { program := "ytmpmmhmnjdkgcab", sum := "bd343c5c2e100ae4820292680f5ef47f66fbbeeeeb4335854d06775687e81a46", func := "loop.example/g01236/laws.FnExactExtendFrieze", spec := "fnExactExtendFrieze", unfollowed := true, recurses := true, apart := false }
def FnExactExtendFriezeSaid : Prop := fnExactExtendFriezeRow.holds Try.pinned (OpenSpec.ofChange fnExactExtendFriezeSpec)

/-- ITS FALSE NEIGHBOUR: 'it returns false'. Refute it at one input. -/
def fnExactExtendFriezeWrong : ChangeSpec := { name := "fnExactExtendFrieze", fn := fun _ => fun
  | [d1, d2] => { results := [.lit (.bool false)], args := [d1, d2] }
  | _ => none }
def FnExactExtendFriezeWrongFalsely : Prop := fnExactExtendFriezeRow.holds Try.pinned (OpenSpec.ofChange fnExactExtendFriezeWrong)

/-- 'laws.FnExactQuiddityOf': WHATEVER THE INPUT: true; the input reads as it did. -/
def fnExactQuiddityOfSpec : ChangeSpec := { name := "fnExactQuiddityOf", fn := fun _ => fun
  | [d1, d2] => { results := [.lit (.bool true)], args := [d1, d2] }
  | _ => none }
def fnExactQuiddityOfRow : OpenClaim := { program := "ytmpmmhmnjdkgcab", sum := "bd343c5c2e100ae4820292680f5ef47f66fbbeeeeb4335854d06775687e81a46", func := "loop.example/g01236/laws.FnExactQuiddityOf", spec := "fnExactQuiddityOf", unfollowed := true, recurses := true, apart := false }
def FnExactQuiddityOfSaid : Prop := fnExactQuiddityOfRow.holds Try.pinned (OpenSpec.ofChange fnExactQuiddityOfSpec)

/-- ITS FALSE NEIGHBOUR: 'it returns false'. Refute it at one input. -/
def fnExactQuiddityOfWrong : ChangeSpec := { name := "fnExactQuiddityOf", fn := fun _ => fun
  | [d1, d2] => { results := [.lit (.bool false)], args := [d1, d2] }
  | _ => none }
def FnExactQuiddityOfWrongFalsely : Prop := fnExactQuiddityOfRow.holds Try.pinned (OpenSpec.ofChange fnExactQuiddityOfWrong)

/-- 'laws.FnExactEarsOf': WHATEVER THE INPUT: true; the input reads as it did. -/
def fnExactEarsOfSpec : ChangeSpec := { name := "fnExactEarsOf", fn := fun _ => fun
  | [d1, d2] => { results := [.lit (.bool true)], args := [d1, d2] }
  | _ => none }
def fnExactEarsOfRow : OpenClaim := { program := "ytmpmmhmnjdkgcab", sum := "bd343c5c2e100ae4820292680f5ef47f66fbbeeeeb4335854d06775687e81a46", func := "loop.example/g01236/laws.FnExactEarsOf", spec := "fnExactEarsOf", unfollowed := true, recurses := true, apart := false }
def FnExactEarsOfSaid : Prop := fnExactEarsOfRow.holds Try.pinned (OpenSpec.ofChange fnExactEarsOfSpec)

/-- ITS FALSE NEIGHBOUR: 'it returns false'. Refute it at one input. -/
def fnExactEarsOfWrong : ChangeSpec := { name := "fnExactEarsOf", fn := fun _ => fun
  | [d1, d2] => { results := [.lit (.bool false)], args := [d1, d2] }
  | _ => none }
def FnExactEarsOfWrongFalsely : Prop := fnExactEarsOfRow.holds Try.pinned (OpenSpec.ofChange fnExactEarsOfWrong)

/-- 'laws.FnExactTrianglesOf': WHATEVER THE INPUT: true; the input reads as it did. -/
def fnExactTrianglesOfSpec : ChangeSpec := { name := "fnExactTrianglesOf", fn := fun _ => fun
  | [d1, d2] => { results := [.lit (.bool true)], args := [d1, d2] }
  | _ => none }
def fnExactTrianglesOfRow : OpenClaim := { program := "ytmpmmhmnjdkgcab", sum := "bd343c5c2e100ae4820292680f5ef47f66fbbeeeeb4335854d06775687e81a46", func := "loop.example/g01236/laws.FnExactTrianglesOf", spec := "fnExactTrianglesOf", unfollowed := true, recurses := true, apart := false }
def FnExactTrianglesOfSaid : Prop := fnExactTrianglesOfRow.holds Try.pinned (OpenSpec.ofChange fnExactTrianglesOfSpec)

/-- ITS FALSE NEIGHBOUR: 'it returns false'. Refute it at one input. -/
def fnExactTrianglesOfWrong : ChangeSpec := { name := "fnExactTrianglesOf", fn := fun _ => fun
  | [d1, d2] => { results := [.lit (.bool false)], args := [d1, d2] }
  | _ => none }
def FnExactTrianglesOfWrongFalsely : Prop := fnExactTrianglesOfRow.holds Try.pinned (OpenSpec.ofChange fnExactTrianglesOfWrong)

/-- 'laws.FnExactTrianglesBeside': WHATEVER THE INPUT: true; the input reads as it did. -/
def fnExactTrianglesBesideSpec : ChangeSpec := { name := "fnExactTrianglesBeside", fn := fun _ => fun
  | [d1, d2] => { results := [.lit (.bool true)], args := [d1, d2] }
  | _ => none }
def fnExactTrianglesBesideRow : OpenClaim := { program := "ytmpmmhmnjdkgcab", sum := "bd343c5c2e100ae4820292680f5ef47f66fbbeeeeb4335854d06775687e81a46", func := "loop.example/g01236/laws.FnExactTrianglesBeside", spec := "fnExactTrianglesBeside", unfollowed := true, recurses := true, apart := false }
def FnExactTrianglesBesideSaid : Prop := fnExactTrianglesBesideRow.holds Try.pinned (OpenSpec.ofChange fnExactTrianglesBesideSpec)

/-- ITS FALSE NEIGHBOUR: 'it returns false'. Refute it at one input. -/
def fnExactTrianglesBesideWrong : ChangeSpec := { name := "fnExactTrianglesBeside", fn := fun _ => fun
  | [d1, d2] => { results := [.lit (.bool false)], args := [d1, d2] }
  | _ => none }
def FnExactTrianglesBesideWrongFalsely : Prop := fnExactTrianglesBesideRow.holds Try.pinned (OpenSpec.ofChange fnExactTrianglesBesideWrong)

/- THE SECOND FORM. 'bulk': how many values and letters a reading holds, each counted each time it is reached (what is shared counts as often as it is met; a slice's spare places count too). A statement '..UptoSaid' is the law's where the arguments, and the package variables that the reading takes, are together of bulk at most 1048576: NARROWER than '..Said'. Prove '..Said' where nothing that the law and all that it calls make is longer than what came in: it says more and counts as full. Else prove '..UptoSaid'. A law counts once. -/
mutual
def uptoBulk {H : Type} : DataW H → Nat
  | .lit (.string bytes) => bytes.length + 1
  | .lit _ => 1
  | .nil => 1
  | .ptr d => uptoBulk d + 1
  | .slice elems spare => uptoBulkAll elems + uptoBulkAll spare + 1
  | .agg parts => uptoBulkAll parts + 1
  | .iface _ d => uptoBulk d + 1
  | .map entries => uptoBulkEntries entries + 1
  | .held _ => 1
def uptoBulkAll {H : Type} : List (DataW H) → Nat
  | [] => 0
  | d :: r => uptoBulk d + uptoBulkAll r
def uptoBulkEntries {H : Type} : List (Lit × DataW H) → Nat
  | [] => 0
  | x :: r => uptoBulkEntry x + uptoBulkEntries r
def uptoBulkEntry {H : Type} : Lit × DataW H → Nat
  | (.string bytes, d) => bytes.length + uptoBulk d + 1
  | (_, d) => uptoBulk d + 1
 end
def uptoSmall : (H : Type) → List (DataW H) → Bool := fun _ ds => decide (uptoBulkAll ds ≤ 1048576)
def OpenSpec.upto (s : _root_.Go.ChangeSpec) : _root_.Go.OpenSpec := { _root_.Go.OpenSpec.ofChange s with cond := some uptoSmall }

/-- 'laws.FnExactContinuantTable', WHERE WHAT IT READS IS OF BULK AT MOST 1048576: true; the input reads as it did. -/
def fnExactContinuantTableUptoRow : OpenClaim := { program := "ytmpmmhmnjdkgcab", sum := "bd343c5c2e100ae4820292680f5ef47f66fbbeeeeb4335854d06775687e81a46", func := "loop.example/g01236/laws.FnExactContinuantTable", spec := "fnExactContinuantTable", unfollowed := true, recurses := true, apart := false, narrowed := true }
def FnExactContinuantTableUptoSaid : Prop := fnExactContinuantTableUptoRow.holds Try.pinned (OpenSpec.upto fnExactContinuantTableSpec)

/-- 'laws.FnExactIsTriangulation', WHERE WHAT IT READS IS OF BULK AT MOST 1048576: true; the input reads as it did. -/
def fnExactIsTriangulationUptoRow : OpenClaim := { program := "ytmpmmhmnjdkgcab", sum := "bd343c5c2e100ae4820292680f5ef47f66fbbeeeeb4335854d06775687e81a46", func := "loop.example/g01236/laws.FnExactIsTriangulation", spec := "fnExactIsTriangulation", unfollowed := true, recurses := true, apart := false, narrowed := true }
def FnExactIsTriangulationUptoSaid : Prop := fnExactIsTriangulationUptoRow.holds Try.pinned (OpenSpec.upto fnExactIsTriangulationSpec)

/-- 'laws.FnExactAllTriangulations', WHERE WHAT IT READS IS OF BULK AT MOST 1048576: true; the input reads as it did. -/
def fnExactAllTriangulationsUptoRow : OpenClaim := { program := "ytmpmmhmnjdkgcab", sum := "bd343c5c2e100ae4820292680f5ef47f66fbbeeeeb4335854d06775687e81a46", func := "loop.example/g01236/laws.FnExactAllTriangulations", spec := "fnExactAllTriangulations", unfollowed := true, recurses := true, apart := false, narrowed := true }
def FnExactAllTriangulationsUptoSaid : Prop := fnExactAllTriangulationsUptoRow.holds Try.pinned (OpenSpec.upto fnExactAllTriangulationsSpec)

/-- 'laws.FnExactClosesAt', WHERE WHAT IT READS IS OF BULK AT MOST 1048576: true; the input reads as it did. -/
def fnExactClosesAtUptoRow : OpenClaim := { program := "ytmpmmhmnjdkgcab", sum := "bd343c5c2e100ae4820292680f5ef47f66fbbeeeeb4335854d06775687e81a46", func := "loop.example/g01236/laws.FnExactClosesAt", spec := "fnExactClosesAt", unfollowed := true, recurses := true, apart := false, narrowed := true }
def FnExactClosesAtUptoSaid : Prop := fnExactClosesAtUptoRow.holds Try.pinned (OpenSpec.upto fnExactClosesAtSpec)

/-- 'laws.FnExactExtendFrieze', WHERE WHAT IT READS IS OF BULK AT MOST 1048576: true; the input reads as it did. -/
def fnExactExtendFriezeUptoRow : OpenClaim := { program := "ytmpmmhmnjdkgcab", sum := "bd343c5c2e100ae4820292680f5ef47f66fbbeeeeb4335854d06775687e81a46", func := "loop.example/g01236/laws.FnExactExtendFrieze", spec := "fnExactExtendFrieze", unfollowed := true, recurses := true, apart := false, narrowed := true }
def FnExactExtendFriezeUptoSaid : Prop := fnExactExtendFriezeUptoRow.holds Try.pinned (OpenSpec.upto fnExactExtendFriezeSpec)

/-- 'laws.FnExactQuiddityOf', WHERE WHAT IT READS IS OF BULK AT MOST 1048576: true; the input reads as it did. -/
def fnExactQuiddityOfUptoRow : OpenClaim := { program := "ytmpmmhmnjdkgcab", sum := "bd343c5c2e100ae4820292680f5ef47f66fbbeeeeb4335854d06775687e81a46", func := "loop.example/g01236/laws.FnExactQuiddityOf", spec := "fnExactQuiddityOf", unfollowed := true, recurses := true, apart := false, narrowed := true }
def FnExactQuiddityOfUptoSaid : Prop := fnExactQuiddityOfUptoRow.holds Try.pinned (OpenSpec.upto fnExactQuiddityOfSpec)

/-- 'laws.FnExactEarsOf', WHERE WHAT IT READS IS OF BULK AT MOST 1048576: true; the input reads as it did. -/
def fnExactEarsOfUptoRow : OpenClaim := { program := "ytmpmmhmnjdkgcab", sum := "bd343c5c2e100ae4820292680f5ef47f66fbbeeeeb4335854d06775687e81a46", func := "loop.example/g01236/laws.FnExactEarsOf", spec := "fnExactEarsOf", unfollowed := true, recurses := true, apart := false, narrowed := true }
def FnExactEarsOfUptoSaid : Prop := fnExactEarsOfUptoRow.holds Try.pinned (OpenSpec.upto fnExactEarsOfSpec)

/-- 'laws.FnExactTrianglesOf', WHERE WHAT IT READS IS OF BULK AT MOST 1048576: true; the input reads as it did. -/
def fnExactTrianglesOfUptoRow : OpenClaim := { program := "ytmpmmhmnjdkgcab", sum := "bd343c5c2e100ae4820292680f5ef47f66fbbeeeeb4335854d06775687e81a46", func := "loop.example/g01236/laws.FnExactTrianglesOf", spec := "fnExactTrianglesOf", unfollowed := true, recurses := true, apart := false, narrowed := true }
def FnExactTrianglesOfUptoSaid : Prop := fnExactTrianglesOfUptoRow.holds Try.pinned (OpenSpec.upto fnExactTrianglesOfSpec)

/-- 'laws.FnExactTrianglesBeside', WHERE WHAT IT READS IS OF BULK AT MOST 1048576: true; the input reads as it did. -/
def fnExactTrianglesBesideUptoRow : OpenClaim := { program := "ytmpmmhmnjdkgcab", sum := "bd343c5c2e100ae4820292680f5ef47f66fbbeeeeb4335854d06775687e81a46", func := "loop.example/g01236/laws.FnExactTrianglesBeside", spec := "fnExactTrianglesBeside", unfollowed := true, recurses := true, apart := false, narrowed := true }
def FnExactTrianglesBesideUptoSaid : Prop := fnExactTrianglesBesideUptoRow.holds Try.pinned (OpenSpec.upto fnExactTrianglesBesideSpec)

end Rows
end Go.Proofs.Ytmpmmhmnjdkgcab
