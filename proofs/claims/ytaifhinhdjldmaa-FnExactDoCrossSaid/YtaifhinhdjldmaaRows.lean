/-
  No cell of these rows narrows 'for every input' (looked for: loops, veiled, ifaces, maps, wideKeys, modest, calm, conditions, laid).
  DERIVED. THE GIVEN ROWS OF THIS SEAT. 11 by the template 'for every input the law returns true; each argument reads behind the call as it read before'; 0 by the template 'total and deterministic' (their statements: YtaifhinhdjldmaaTotals.lean).
  GIVEN WITH THE SEED: the statements are not yours to turn. If you find one false, say at which input.
  Laid BY PROGRAM, IN A SANDBOX (cutbox-rows.mjs): the forced cells as the released guide's own fill.sh prints them over the translation c177b59b1b609612… (all of the seat's roots in one cut). By AI agents, Wed Nov 11 2026. No macro, syntax, notation, axiom, sorry.
-/
import Derived.Test.YtaifhinhdjldmaaChecked
import GoSem.Claim
import GoSem.ClaimJoined
import GoSem.ClaimMapViews
import Derived.JoinedTies
import Derived.KernelRfl
namespace Go.Proofs.Ytaifhinhdjldmaa
/- THE CELL 'sum', in the pinned program and in every row, IS THE sha256 OF THE DUMP (.gsa) THAT YtaifhinhdjldmaaProg.lean LOADS. Nothing in Lean hashes anything: it is a label: what it is worth is what the hold of that sum in a sandbox is worth. -/
noncomputable def Try.pinned : Pinned := { name := "ytaifhinhdjldmaa", sum := "c177b59b1b6096120eeff968cae975f67b44ecdf376ed8763c52ffcc254a0832", checked := Try.checked }
namespace Rows
def none {H : Type} : Left H := { results := [], args := [] }

/-- 'laws.FnExactConstants': WHATEVER THE INPUT: true; the input reads as it did. -/
def fnExactConstantsSpec : ChangeSpec := { name := "fnExactConstants", fn := fun _ => fun
  | [] => { results := [.lit (.bool true)], args := [] }
  | _ => none }
def fnExactConstantsRow : OpenClaim := { program := "ytaifhinhdjldmaa", sum := "c177b59b1b6096120eeff968cae975f67b44ecdf376ed8763c52ffcc254a0832", func := "loop.example/g01236/laws.FnExactConstants", spec := "fnExactConstants", apart := false }
def FnExactConstantsSaid : Prop := fnExactConstantsRow.holds Try.pinned (OpenSpec.ofChange fnExactConstantsSpec)

/-- ITS FALSE NEIGHBOUR: 'it returns false'. Refute it at one input. -/
def fnExactConstantsWrong : ChangeSpec := { name := "fnExactConstants", fn := fun _ => fun
  | [] => { results := [.lit (.bool false)], args := [] }
  | _ => none }
def FnExactConstantsWrongFalsely : Prop := fnExactConstantsRow.holds Try.pinned (OpenSpec.ofChange fnExactConstantsWrong)

/-- 'laws.FnExactIsDiagonal': WHATEVER THE INPUT: true; the input reads as it did. -/
def fnExactIsDiagonalSpec : ChangeSpec := { name := "fnExactIsDiagonal", fn := fun _ => fun
  | [d1, d2] => { results := [.lit (.bool true)], args := [d1, d2] }
  | _ => none }
def fnExactIsDiagonalRow : OpenClaim := { program := "ytaifhinhdjldmaa", sum := "c177b59b1b6096120eeff968cae975f67b44ecdf376ed8763c52ffcc254a0832", func := "loop.example/g01236/laws.FnExactIsDiagonal", spec := "fnExactIsDiagonal", apart := false }
def FnExactIsDiagonalSaid : Prop := fnExactIsDiagonalRow.holds Try.pinned (OpenSpec.ofChange fnExactIsDiagonalSpec)

/-- ITS FALSE NEIGHBOUR: 'it returns false'. Refute it at one input. -/
def fnExactIsDiagonalWrong : ChangeSpec := { name := "fnExactIsDiagonal", fn := fun _ => fun
  | [d1, d2] => { results := [.lit (.bool false)], args := [d1, d2] }
  | _ => none }
def FnExactIsDiagonalWrongFalsely : Prop := fnExactIsDiagonalRow.holds Try.pinned (OpenSpec.ofChange fnExactIsDiagonalWrong)

/-- 'laws.FnExactIsMatrix': WHATEVER THE INPUT: true; the input reads as it did. -/
def fnExactIsMatrixSpec : ChangeSpec := { name := "fnExactIsMatrix", fn := fun _ => fun
  | [d] => { results := [.lit (.bool true)], args := [d] }
  | _ => none }
def fnExactIsMatrixRow : OpenClaim := { program := "ytaifhinhdjldmaa", sum := "c177b59b1b6096120eeff968cae975f67b44ecdf376ed8763c52ffcc254a0832", func := "loop.example/g01236/laws.FnExactIsMatrix", spec := "fnExactIsMatrix", apart := false }
def FnExactIsMatrixSaid : Prop := fnExactIsMatrixRow.holds Try.pinned (OpenSpec.ofChange fnExactIsMatrixSpec)

/-- ITS FALSE NEIGHBOUR: 'it returns false'. Refute it at one input. -/
def fnExactIsMatrixWrong : ChangeSpec := { name := "fnExactIsMatrix", fn := fun _ => fun
  | [d] => { results := [.lit (.bool false)], args := [d] }
  | _ => none }
def FnExactIsMatrixWrongFalsely : Prop := fnExactIsMatrixRow.holds Try.pinned (OpenSpec.ofChange fnExactIsMatrixWrong)

/-- 'laws.FnExactDoCross': WHATEVER THE INPUT: true; the input reads as it did. -/
def fnExactDoCrossSpec : ChangeSpec := { name := "fnExactDoCross", fn := fun _ => fun
  | [d1, d2, d3] => { results := [.lit (.bool true)], args := [d1, d2, d3] }
  | _ => none }
def fnExactDoCrossRow : OpenClaim := { program := "ytaifhinhdjldmaa", sum := "c177b59b1b6096120eeff968cae975f67b44ecdf376ed8763c52ffcc254a0832", func := "loop.example/g01236/laws.FnExactDoCross", spec := "fnExactDoCross", apart := false }
def FnExactDoCrossSaid : Prop := fnExactDoCrossRow.holds Try.pinned (OpenSpec.ofChange fnExactDoCrossSpec)

/-- ITS FALSE NEIGHBOUR: 'it returns false'. Refute it at one input. -/
def fnExactDoCrossWrong : ChangeSpec := { name := "fnExactDoCross", fn := fun _ => fun
  | [d1, d2, d3] => { results := [.lit (.bool false)], args := [d1, d2, d3] }
  | _ => none }
def FnExactDoCrossWrongFalsely : Prop := fnExactDoCrossRow.holds Try.pinned (OpenSpec.ofChange fnExactDoCrossWrong)

/-- 'laws.FnExactTraceOf': WHATEVER THE INPUT: true; the input reads as it did. -/
def fnExactTraceOfSpec : ChangeSpec := { name := "fnExactTraceOf", fn := fun _ => fun
  | [d] => { results := [.lit (.bool true)], args := [d] }
  | _ => none }
def fnExactTraceOfRow : OpenClaim := { program := "ytaifhinhdjldmaa", sum := "c177b59b1b6096120eeff968cae975f67b44ecdf376ed8763c52ffcc254a0832", func := "loop.example/g01236/laws.FnExactTraceOf", spec := "fnExactTraceOf", apart := false }
def FnExactTraceOfSaid : Prop := fnExactTraceOfRow.holds Try.pinned (OpenSpec.ofChange fnExactTraceOfSpec)

/-- ITS FALSE NEIGHBOUR: 'it returns false'. Refute it at one input. -/
def fnExactTraceOfWrong : ChangeSpec := { name := "fnExactTraceOf", fn := fun _ => fun
  | [d] => { results := [.lit (.bool false)], args := [d] }
  | _ => none }
def FnExactTraceOfWrongFalsely : Prop := fnExactTraceOfRow.holds Try.pinned (OpenSpec.ofChange fnExactTraceOfWrong)

/-- 'laws.FnExactIsTermList': WHATEVER THE INPUT: true; the input reads as it did. -/
def fnExactIsTermListSpec : ChangeSpec := { name := "fnExactIsTermList", fn := fun _ => fun
  | [d] => { results := [.lit (.bool true)], args := [d] }
  | _ => none }
def fnExactIsTermListRow : OpenClaim := { program := "ytaifhinhdjldmaa", sum := "c177b59b1b6096120eeff968cae975f67b44ecdf376ed8763c52ffcc254a0832", func := "loop.example/g01236/laws.FnExactIsTermList", spec := "fnExactIsTermList", unfollowed := true, recurses := true, apart := false }
def FnExactIsTermListSaid : Prop := fnExactIsTermListRow.holds Try.pinned (OpenSpec.ofChange fnExactIsTermListSpec)

/-- ITS FALSE NEIGHBOUR: 'it returns false'. Refute it at one input. -/
def fnExactIsTermListWrong : ChangeSpec := { name := "fnExactIsTermList", fn := fun _ => fun
  | [d] => { results := [.lit (.bool false)], args := [d] }
  | _ => none }
def FnExactIsTermListWrongFalsely : Prop := fnExactIsTermListRow.holds Try.pinned (OpenSpec.ofChange fnExactIsTermListWrong)

/-- 'laws.FnExactNegateMatrix': WHATEVER THE INPUT: true; the input reads as it did. -/
def fnExactNegateMatrixSpec : ChangeSpec := { name := "fnExactNegateMatrix", fn := fun _ => fun
  | [d] => { results := [.lit (.bool true)], args := [d] }
  | _ => none }
def fnExactNegateMatrixRow : OpenClaim := { program := "ytaifhinhdjldmaa", sum := "c177b59b1b6096120eeff968cae975f67b44ecdf376ed8763c52ffcc254a0832", func := "loop.example/g01236/laws.FnExactNegateMatrix", spec := "fnExactNegateMatrix", apart := false }
def FnExactNegateMatrixSaid : Prop := fnExactNegateMatrixRow.holds Try.pinned (OpenSpec.ofChange fnExactNegateMatrixSpec)

/-- ITS FALSE NEIGHBOUR: 'it returns false'. Refute it at one input. -/
def fnExactNegateMatrixWrong : ChangeSpec := { name := "fnExactNegateMatrix", fn := fun _ => fun
  | [d] => { results := [.lit (.bool false)], args := [d] }
  | _ => none }
def FnExactNegateMatrixWrongFalsely : Prop := fnExactNegateMatrixRow.holds Try.pinned (OpenSpec.ofChange fnExactNegateMatrixWrong)

/-- 'laws.FnExactInverseMatrix': WHATEVER THE INPUT: true; the input reads as it did. -/
def fnExactInverseMatrixSpec : ChangeSpec := { name := "fnExactInverseMatrix", fn := fun _ => fun
  | [d] => { results := [.lit (.bool true)], args := [d] }
  | _ => none }
def fnExactInverseMatrixRow : OpenClaim := { program := "ytaifhinhdjldmaa", sum := "c177b59b1b6096120eeff968cae975f67b44ecdf376ed8763c52ffcc254a0832", func := "loop.example/g01236/laws.FnExactInverseMatrix", spec := "fnExactInverseMatrix", apart := false }
def FnExactInverseMatrixSaid : Prop := fnExactInverseMatrixRow.holds Try.pinned (OpenSpec.ofChange fnExactInverseMatrixSpec)

/-- ITS FALSE NEIGHBOUR: 'it returns false'. Refute it at one input. -/
def fnExactInverseMatrixWrong : ChangeSpec := { name := "fnExactInverseMatrix", fn := fun _ => fun
  | [d] => { results := [.lit (.bool false)], args := [d] }
  | _ => none }
def FnExactInverseMatrixWrongFalsely : Prop := fnExactInverseMatrixRow.holds Try.pinned (OpenSpec.ofChange fnExactInverseMatrixWrong)

/-- 'laws.FnExactFixedSign': WHATEVER THE INPUT: true; the input reads as it did. -/
def fnExactFixedSignSpec : ChangeSpec := { name := "fnExactFixedSign", fn := fun _ => fun
  | [d] => { results := [.lit (.bool true)], args := [d] }
  | _ => none }
def fnExactFixedSignRow : OpenClaim := { program := "ytaifhinhdjldmaa", sum := "c177b59b1b6096120eeff968cae975f67b44ecdf376ed8763c52ffcc254a0832", func := "loop.example/g01236/laws.FnExactFixedSign", spec := "fnExactFixedSign", apart := false }
def FnExactFixedSignSaid : Prop := fnExactFixedSignRow.holds Try.pinned (OpenSpec.ofChange fnExactFixedSignSpec)

/-- ITS FALSE NEIGHBOUR: 'it returns false'. Refute it at one input. -/
def fnExactFixedSignWrong : ChangeSpec := { name := "fnExactFixedSign", fn := fun _ => fun
  | [d] => { results := [.lit (.bool false)], args := [d] }
  | _ => none }
def FnExactFixedSignWrongFalsely : Prop := fnExactFixedSignRow.holds Try.pinned (OpenSpec.ofChange fnExactFixedSignWrong)

/-- 'laws.FnExactTimesMatrix': WHATEVER THE INPUT: true; the input reads as it did. -/
def fnExactTimesMatrixSpec : ChangeSpec := { name := "fnExactTimesMatrix", fn := fun _ => fun
  | [d1, d2] => { results := [.lit (.bool true)], args := [d1, d2] }
  | _ => none }
def fnExactTimesMatrixRow : OpenClaim := { program := "ytaifhinhdjldmaa", sum := "c177b59b1b6096120eeff968cae975f67b44ecdf376ed8763c52ffcc254a0832", func := "loop.example/g01236/laws.FnExactTimesMatrix", spec := "fnExactTimesMatrix", apart := false }
def FnExactTimesMatrixSaid : Prop := fnExactTimesMatrixRow.holds Try.pinned (OpenSpec.ofChange fnExactTimesMatrixSpec)

/-- ITS FALSE NEIGHBOUR: 'it returns false'. Refute it at one input. -/
def fnExactTimesMatrixWrong : ChangeSpec := { name := "fnExactTimesMatrix", fn := fun _ => fun
  | [d1, d2] => { results := [.lit (.bool false)], args := [d1, d2] }
  | _ => none }
def FnExactTimesMatrixWrongFalsely : Prop := fnExactTimesMatrixRow.holds Try.pinned (OpenSpec.ofChange fnExactTimesMatrixWrong)

/-- 'laws.FnExactContinuantOf': WHATEVER THE INPUT: true; the input reads as it did. -/
def fnExactContinuantOfSpec : ChangeSpec := { name := "fnExactContinuantOf", fn := fun _ => fun
  | [d] => { results := [.lit (.bool true)], args := [d] }
  | _ => none }
def fnExactContinuantOfRow : OpenClaim := { program := "ytaifhinhdjldmaa", sum := "c177b59b1b6096120eeff968cae975f67b44ecdf376ed8763c52ffcc254a0832", func := "loop.example/g01236/laws.FnExactContinuantOf", spec := "fnExactContinuantOf", unfollowed := true, recurses := true, apart := false }
def FnExactContinuantOfSaid : Prop := fnExactContinuantOfRow.holds Try.pinned (OpenSpec.ofChange fnExactContinuantOfSpec)

/-- ITS FALSE NEIGHBOUR: 'it returns false'. Refute it at one input. -/
def fnExactContinuantOfWrong : ChangeSpec := { name := "fnExactContinuantOf", fn := fun _ => fun
  | [d] => { results := [.lit (.bool false)], args := [d] }
  | _ => none }
def FnExactContinuantOfWrongFalsely : Prop := fnExactContinuantOfRow.holds Try.pinned (OpenSpec.ofChange fnExactContinuantOfWrong)

/- THE SECOND FORM. 'bulk': how many values and letters a reading holds, each counted each time it is reached (what is shared counts as often as it is met; a slice's spare places count too). A statement '..UptoSaid' is the law's where the arguments, and the package variables that the reading takes, are together of bulk at most 1048576: NARROWER than '..Said'. Prove '..Said' where nothing that the law and all that it calls make is longer than what came in: it says more and counts as full. Else prove '..UptoSaid'. A law counts once. -/
mutual
def uptoBulk {H : Type} : DataW H → Nat
  | .lit (.string bytes) => bytes.length + 1
  | .lit _ => 1
  | .nil => 1
  | .ptr d => uptoBulk d + 1
  | .slice elems spare => uptoBulkAll elems + uptoBulkAll spare + 1
  | .agg parts => uptoBulkAll parts + 1
  | .iface _ d => uptoBulk d + 1
  | .map entries => uptoBulkEntries entries + 1
  | .held _ => 1
def uptoBulkAll {H : Type} : List (DataW H) → Nat
  | [] => 0
  | d :: r => uptoBulk d + uptoBulkAll r
def uptoBulkEntries {H : Type} : List (Lit × DataW H) → Nat
  | [] => 0
  | x :: r => uptoBulkEntry x + uptoBulkEntries r
def uptoBulkEntry {H : Type} : Lit × DataW H → Nat
  | (.string bytes, d) => bytes.length + uptoBulk d + 1
  | (_, d) => uptoBulk d + 1
 end
def uptoSmall : (H : Type) → List (DataW H) → Bool := fun _ ds => decide (uptoBulkAll ds ≤ 1048576)
def OpenSpec.upto (s : _root_.Go.ChangeSpec) : _root_.Go.OpenSpec := { _root_.Go.OpenSpec.ofChange s with cond := some uptoSmall }

/-- 'laws.FnExactConstants', WHERE WHAT IT READS IS OF BULK AT MOST 1048576: true; the input reads as it did. -/
def fnExactConstantsUptoRow : OpenClaim := { program := "ytaifhinhdjldmaa", sum := "c177b59b1b6096120eeff968cae975f67b44ecdf376ed8763c52ffcc254a0832", func := "loop.example/g01236/laws.FnExactConstants", spec := "fnExactConstants", apart := false, narrowed := true }
def FnExactConstantsUptoSaid : Prop := fnExactConstantsUptoRow.holds Try.pinned (OpenSpec.upto fnExactConstantsSpec)

/-- 'laws.FnExactIsDiagonal', WHERE WHAT IT READS IS OF BULK AT MOST 1048576: true; the input reads as it did. -/
def fnExactIsDiagonalUptoRow : OpenClaim := { program := "ytaifhinhdjldmaa", sum := "c177b59b1b6096120eeff968cae975f67b44ecdf376ed8763c52ffcc254a0832", func := "loop.example/g01236/laws.FnExactIsDiagonal", spec := "fnExactIsDiagonal", apart := false, narrowed := true }
def FnExactIsDiagonalUptoSaid : Prop := fnExactIsDiagonalUptoRow.holds Try.pinned (OpenSpec.upto fnExactIsDiagonalSpec)

/-- 'laws.FnExactIsMatrix', WHERE WHAT IT READS IS OF BULK AT MOST 1048576: true; the input reads as it did. -/
def fnExactIsMatrixUptoRow : OpenClaim := { program := "ytaifhinhdjldmaa", sum := "c177b59b1b6096120eeff968cae975f67b44ecdf376ed8763c52ffcc254a0832", func := "loop.example/g01236/laws.FnExactIsMatrix", spec := "fnExactIsMatrix", apart := false, narrowed := true }
def FnExactIsMatrixUptoSaid : Prop := fnExactIsMatrixUptoRow.holds Try.pinned (OpenSpec.upto fnExactIsMatrixSpec)

/-- 'laws.FnExactDoCross', WHERE WHAT IT READS IS OF BULK AT MOST 1048576: true; the input reads as it did. -/
def fnExactDoCrossUptoRow : OpenClaim := { program := "ytaifhinhdjldmaa", sum := "c177b59b1b6096120eeff968cae975f67b44ecdf376ed8763c52ffcc254a0832", func := "loop.example/g01236/laws.FnExactDoCross", spec := "fnExactDoCross", apart := false, narrowed := true }
def FnExactDoCrossUptoSaid : Prop := fnExactDoCrossUptoRow.holds Try.pinned (OpenSpec.upto fnExactDoCrossSpec)

/-- 'laws.FnExactTraceOf', WHERE WHAT IT READS IS OF BULK AT MOST 1048576: true; the input reads as it did. -/
def fnExactTraceOfUptoRow : OpenClaim := { program := "ytaifhinhdjldmaa", sum := "c177b59b1b6096120eeff968cae975f67b44ecdf376ed8763c52ffcc254a0832", func := "loop.example/g01236/laws.FnExactTraceOf", spec := "fnExactTraceOf", apart := false, narrowed := true }
def FnExactTraceOfUptoSaid : Prop := fnExactTraceOfUptoRow.holds Try.pinned (OpenSpec.upto fnExactTraceOfSpec)

/-- 'laws.FnExactIsTermList', WHERE WHAT IT READS IS OF BULK AT MOST 1048576: true; the input reads as it did. -/
def fnExactIsTermListUptoRow : OpenClaim := { program := "ytaifhinhdjldmaa", sum := "c177b59b1b6096120eeff968cae975f67b44ecdf376ed8763c52ffcc254a0832", func := "loop.example/g01236/laws.FnExactIsTermList", spec := "fnExactIsTermList", unfollowed := true, recurses := true, apart := false, narrowed := true }
def FnExactIsTermListUptoSaid : Prop := fnExactIsTermListUptoRow.holds Try.pinned (OpenSpec.upto fnExactIsTermListSpec)

/-- 'laws.FnExactNegateMatrix', WHERE WHAT IT READS IS OF BULK AT MOST 1048576: true; the input reads as it did. -/
def fnExactNegateMatrixUptoRow : OpenClaim := { program := "ytaifhinhdjldmaa", sum := "c177b59b1b6096120eeff968cae975f67b44ecdf376ed8763c52ffcc254a0832", func := "loop.example/g01236/laws.FnExactNegateMatrix", spec := "fnExactNegateMatrix", apart := false, narrowed := true }
def FnExactNegateMatrixUptoSaid : Prop := fnExactNegateMatrixUptoRow.holds Try.pinned (OpenSpec.upto fnExactNegateMatrixSpec)

/-- 'laws.FnExactInverseMatrix', WHERE WHAT IT READS IS OF BULK AT MOST 1048576: true; the input reads as it did. -/
def fnExactInverseMatrixUptoRow : OpenClaim := { program := "ytaifhinhdjldmaa", sum := "c177b59b1b6096120eeff968cae975f67b44ecdf376ed8763c52ffcc254a0832", func := "loop.example/g01236/laws.FnExactInverseMatrix", spec := "fnExactInverseMatrix", apart := false, narrowed := true }
def FnExactInverseMatrixUptoSaid : Prop := fnExactInverseMatrixUptoRow.holds Try.pinned (OpenSpec.upto fnExactInverseMatrixSpec)

/-- 'laws.FnExactFixedSign', WHERE WHAT IT READS IS OF BULK AT MOST 1048576: true; the input reads as it did. -/
def fnExactFixedSignUptoRow : OpenClaim := { program := "ytaifhinhdjldmaa", sum := "c177b59b1b6096120eeff968cae975f67b44ecdf376ed8763c52ffcc254a0832", func := "loop.example/g01236/laws.FnExactFixedSign", spec := "fnExactFixedSign", apart := false, narrowed := true }
def FnExactFixedSignUptoSaid : Prop := fnExactFixedSignUptoRow.holds Try.pinned (OpenSpec.upto fnExactFixedSignSpec)

/-- 'laws.FnExactTimesMatrix', WHERE WHAT IT READS IS OF BULK AT MOST 1048576: true; the input reads as it did. -/
def fnExactTimesMatrixUptoRow : OpenClaim := { program := "ytaifhinhdjldmaa", sum := "c177b59b1b6096120eeff968cae975f67b44ecdf376ed8763c52ffcc254a0832", func := "loop.example/g01236/laws.FnExactTimesMatrix", spec := "fnExactTimesMatrix", apart := false, narrowed := true }
def FnExactTimesMatrixUptoSaid : Prop := fnExactTimesMatrixUptoRow.holds Try.pinned (OpenSpec.upto fnExactTimesMatrixSpec)

/-- 'laws.FnExactContinuantOf', WHERE WHAT IT READS IS OF BULK AT MOST 1048576: true; the input reads as it did. -/
def fnExactContinuantOfUptoRow : OpenClaim := { program := "ytaifhinhdjldmaa", sum := "c177b59b1b6096120eeff968cae975f67b44ecdf376ed8763c52ffcc254a0832", func := "loop.example/g01236/laws.FnExactContinuantOf", spec := "fnExactContinuantOf", unfollowed := true, recurses := true, apart := false, narrowed := true }
def FnExactContinuantOfUptoSaid : Prop := fnExactContinuantOfUptoRow.holds Try.pinned (OpenSpec.upto fnExactContinuantOfSpec)

end Rows
end Go.Proofs.Ytaifhinhdjldmaa
