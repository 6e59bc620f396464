/-
  No cell of these rows narrows 'for every input' (looked for: loops, veiled, ifaces, maps, wideKeys, modest, calm, conditions, laid).
  DERIVED. THE GIVEN ROWS OF THIS SEAT. 10 by the template 'for every input the law returns true; each argument reads behind the call as it read before'; 0 by the template 'total and deterministic' (their statements: YtmpmmhmnjdkgcaaTotals.lean).
  GIVEN WITH THE SEED: the statements are not yours to turn. If you find one false, say at which input.
  Laid BY PROGRAM, IN A SANDBOX (cutbox-rows.mjs): the forced cells as the released guide's own fill.sh prints them over the translation bfc1098f667e3ca3… (all of the seat's roots in one cut). By AI agents, Wed Nov 11 2026. No macro, syntax, notation, axiom, sorry.
-/
import Derived.Test.YtmpmmhmnjdkgcaaChecked
import GoSem.Claim
import GoSem.ClaimJoined
import GoSem.ClaimMapViews
import Derived.JoinedTies
import Derived.KernelRfl
namespace Go.Proofs.Ytmpmmhmnjdkgcaa
/- THE CELL 'sum', in the pinned program and in every row, IS THE sha256 OF THE DUMP (.gsa) THAT YtmpmmhmnjdkgcaaProg.lean LOADS. Nothing in Lean hashes anything: it is a label: what it is worth is what the hold of that sum in a sandbox is worth. -/
noncomputable def Try.pinned : Pinned := { name := "ytmpmmhmnjdkgcaa", sum := "bfc1098f667e3ca3f99f2cd1276062768f09ac9673ada59d2144c5682cca8bf0", checked := Try.checked }
namespace Rows
def none {H : Type} : Left H := { results := [], args := [] }

/-- 'laws.FnExactPlusContinuantOf': WHATEVER THE INPUT: true; the input reads as it did. -/
def fnExactPlusContinuantOfSpec : ChangeSpec := { name := "fnExactPlusContinuantOf", fn := fun _ => fun
  | [d] => { results := [.lit (.bool true)], args := [d] }
  | _ => none }
def fnExactPlusContinuantOfRow : OpenClaim := { program := "ytmpmmhmnjdkgcaa", sum := "bfc1098f667e3ca3f99f2cd1276062768f09ac9673ada59d2144c5682cca8bf0", func := "loop.example/g01236/laws.FnExactPlusContinuantOf", spec := "fnExactPlusContinuantOf", unfollowed := true, recurses := true, apart := false }
def FnExactPlusContinuantOfSaid : Prop := fnExactPlusContinuantOfRow.holds Try.pinned (OpenSpec.ofChange fnExactPlusContinuantOfSpec)

/-- ITS FALSE NEIGHBOUR: 'it returns false'. Refute it at one input. -/
def fnExactPlusContinuantOfWrong : ChangeSpec := { name := "fnExactPlusContinuantOf", fn := fun _ => fun
  | [d] => { results := [.lit (.bool false)], args := [d] }
  | _ => none }
def FnExactPlusContinuantOfWrongFalsely : Prop := fnExactPlusContinuantOfRow.holds Try.pinned (OpenSpec.ofChange fnExactPlusContinuantOfWrong)

/-- 'laws.FnExactCountTerms': WHATEVER THE INPUT: true; the input reads as it did. -/
def fnExactCountTermsSpec : ChangeSpec := { name := "fnExactCountTerms", fn := fun _ => fun
  | [d] => { results := [.lit (.bool true)], args := [d] }
  | _ => none }
def fnExactCountTermsRow : OpenClaim := { program := "ytmpmmhmnjdkgcaa", sum := "bfc1098f667e3ca3f99f2cd1276062768f09ac9673ada59d2144c5682cca8bf0", func := "loop.example/g01236/laws.FnExactCountTerms", spec := "fnExactCountTerms", apart := false }
def FnExactCountTermsSaid : Prop := fnExactCountTermsRow.holds Try.pinned (OpenSpec.ofChange fnExactCountTermsSpec)

/-- ITS FALSE NEIGHBOUR: 'it returns false'. Refute it at one input. -/
def fnExactCountTermsWrong : ChangeSpec := { name := "fnExactCountTerms", fn := fun _ => fun
  | [d] => { results := [.lit (.bool false)], args := [d] }
  | _ => none }
def FnExactCountTermsWrongFalsely : Prop := fnExactCountTermsRow.holds Try.pinned (OpenSpec.ofChange fnExactCountTermsWrong)

/-- 'laws.FnExactIsConjugateBy': WHATEVER THE INPUT: true; the input reads as it did. -/
def fnExactIsConjugateBySpec : ChangeSpec := { name := "fnExactIsConjugateBy", fn := fun _ => fun
  | [d1, d2, d3] => { results := [.lit (.bool true)], args := [d1, d2, d3] }
  | _ => none }
def fnExactIsConjugateByRow : OpenClaim := { program := "ytmpmmhmnjdkgcaa", sum := "bfc1098f667e3ca3f99f2cd1276062768f09ac9673ada59d2144c5682cca8bf0", func := "loop.example/g01236/laws.FnExactIsConjugateBy", spec := "fnExactIsConjugateBy", apart := false }
def FnExactIsConjugateBySaid : Prop := fnExactIsConjugateByRow.holds Try.pinned (OpenSpec.ofChange fnExactIsConjugateBySpec)

/-- ITS FALSE NEIGHBOUR: 'it returns false'. Refute it at one input. -/
def fnExactIsConjugateByWrong : ChangeSpec := { name := "fnExactIsConjugateBy", fn := fun _ => fun
  | [d1, d2, d3] => { results := [.lit (.bool false)], args := [d1, d2, d3] }
  | _ => none }
def FnExactIsConjugateByWrongFalsely : Prop := fnExactIsConjugateByRow.holds Try.pinned (OpenSpec.ofChange fnExactIsConjugateByWrong)

/-- 'laws.FnExactSplitContinuant': WHATEVER THE INPUT: true; the input reads as it did. -/
def fnExactSplitContinuantSpec : ChangeSpec := { name := "fnExactSplitContinuant", fn := fun _ => fun
  | [d1, d2] => { results := [.lit (.bool true)], args := [d1, d2] }
  | _ => none }
def fnExactSplitContinuantRow : OpenClaim := { program := "ytmpmmhmnjdkgcaa", sum := "bfc1098f667e3ca3f99f2cd1276062768f09ac9673ada59d2144c5682cca8bf0", func := "loop.example/g01236/laws.FnExactSplitContinuant", spec := "fnExactSplitContinuant", unfollowed := true, recurses := true, apart := false }
def FnExactSplitContinuantSaid : Prop := fnExactSplitContinuantRow.holds Try.pinned (OpenSpec.ofChange fnExactSplitContinuantSpec)

/-- ITS FALSE NEIGHBOUR: 'it returns false'. Refute it at one input. -/
def fnExactSplitContinuantWrong : ChangeSpec := { name := "fnExactSplitContinuant", fn := fun _ => fun
  | [d1, d2] => { results := [.lit (.bool false)], args := [d1, d2] }
  | _ => none }
def FnExactSplitContinuantWrongFalsely : Prop := fnExactSplitContinuantRow.holds Try.pinned (OpenSpec.ofChange fnExactSplitContinuantWrong)

/-- 'laws.FnExactPowerMatrix': WHATEVER THE INPUT: true; the input reads as it did. -/
def fnExactPowerMatrixSpec : ChangeSpec := { name := "fnExactPowerMatrix", fn := fun _ => fun
  | [d1, d2] => { results := [.lit (.bool true)], args := [d1, d2] }
  | _ => none }
def fnExactPowerMatrixRow : OpenClaim := { program := "ytmpmmhmnjdkgcaa", sum := "bfc1098f667e3ca3f99f2cd1276062768f09ac9673ada59d2144c5682cca8bf0", func := "loop.example/g01236/laws.FnExactPowerMatrix", spec := "fnExactPowerMatrix", apart := false }
def FnExactPowerMatrixSaid : Prop := fnExactPowerMatrixRow.holds Try.pinned (OpenSpec.ofChange fnExactPowerMatrixSpec)

/-- ITS FALSE NEIGHBOUR: 'it returns false'. Refute it at one input. -/
def fnExactPowerMatrixWrong : ChangeSpec := { name := "fnExactPowerMatrix", fn := fun _ => fun
  | [d1, d2] => { results := [.lit (.bool false)], args := [d1, d2] }
  | _ => none }
def FnExactPowerMatrixWrongFalsely : Prop := fnExactPowerMatrixRow.holds Try.pinned (OpenSpec.ofChange fnExactPowerMatrixWrong)

/-- 'laws.FnExactNextRow': WHATEVER THE INPUT: true; the input reads as it did. -/
def fnExactNextRowSpec : ChangeSpec := { name := "fnExactNextRow", fn := fun _ => fun
  | [d1, d2] => { results := [.lit (.bool true)], args := [d1, d2] }
  | _ => none }
def fnExactNextRowRow : OpenClaim := { program := "ytmpmmhmnjdkgcaa", sum := "bfc1098f667e3ca3f99f2cd1276062768f09ac9673ada59d2144c5682cca8bf0", func := "loop.example/g01236/laws.FnExactNextRow", spec := "fnExactNextRow", unfollowed := true, recurses := true, apart := false }
def FnExactNextRowSaid : Prop := fnExactNextRowRow.holds Try.pinned (OpenSpec.ofChange fnExactNextRowSpec)

/-- ITS FALSE NEIGHBOUR: 'it returns false'. Refute it at one input. -/
def fnExactNextRowWrong : ChangeSpec := { name := "fnExactNextRow", fn := fun _ => fun
  | [d1, d2] => { results := [.lit (.bool false)], args := [d1, d2] }
  | _ => none }
def FnExactNextRowWrongFalsely : Prop := fnExactNextRowRow.holds Try.pinned (OpenSpec.ofChange fnExactNextRowWrong)

/-- 'laws.FnExactFractionOfMinus': WHATEVER THE INPUT: true; the input reads as it did. -/
def fnExactFractionOfMinusSpec : ChangeSpec := { name := "fnExactFractionOfMinus", fn := fun _ => fun
  | [d] => { results := [.lit (.bool true)], args := [d] }
  | _ => none }
def fnExactFractionOfMinusRow : OpenClaim := { program := "ytmpmmhmnjdkgcaa", sum := "bfc1098f667e3ca3f99f2cd1276062768f09ac9673ada59d2144c5682cca8bf0", func := "loop.example/g01236/laws.FnExactFractionOfMinus", spec := "fnExactFractionOfMinus", unfollowed := true, recurses := true, apart := false }
def FnExactFractionOfMinusSaid : Prop := fnExactFractionOfMinusRow.holds Try.pinned (OpenSpec.ofChange fnExactFractionOfMinusSpec)

/-- ITS FALSE NEIGHBOUR: 'it returns false'. Refute it at one input. -/
def fnExactFractionOfMinusWrong : ChangeSpec := { name := "fnExactFractionOfMinus", fn := fun _ => fun
  | [d] => { results := [.lit (.bool false)], args := [d] }
  | _ => none }
def FnExactFractionOfMinusWrongFalsely : Prop := fnExactFractionOfMinusRow.holds Try.pinned (OpenSpec.ofChange fnExactFractionOfMinusWrong)

/-- 'laws.FnExactFractionOfPlus': WHATEVER THE INPUT: true; the input reads as it did. -/
def fnExactFractionOfPlusSpec : ChangeSpec := { name := "fnExactFractionOfPlus", fn := fun _ => fun
  | [d] => { results := [.lit (.bool true)], args := [d] }
  | _ => none }
def fnExactFractionOfPlusRow : OpenClaim := { program := "ytmpmmhmnjdkgcaa", sum := "bfc1098f667e3ca3f99f2cd1276062768f09ac9673ada59d2144c5682cca8bf0", func := "loop.example/g01236/laws.FnExactFractionOfPlus", spec := "fnExactFractionOfPlus", unfollowed := true, recurses := true, apart := false }
def FnExactFractionOfPlusSaid : Prop := fnExactFractionOfPlusRow.holds Try.pinned (OpenSpec.ofChange fnExactFractionOfPlusSpec)

/-- ITS FALSE NEIGHBOUR: 'it returns false'. Refute it at one input. -/
def fnExactFractionOfPlusWrong : ChangeSpec := { name := "fnExactFractionOfPlus", fn := fun _ => fun
  | [d] => { results := [.lit (.bool false)], args := [d] }
  | _ => none }
def FnExactFractionOfPlusWrongFalsely : Prop := fnExactFractionOfPlusRow.holds Try.pinned (OpenSpec.ofChange fnExactFractionOfPlusWrong)

/-- 'laws.FnExactFanOf': WHATEVER THE INPUT: true; the input reads as it did. -/
def fnExactFanOfSpec : ChangeSpec := { name := "fnExactFanOf", fn := fun _ => fun
  | [d1, d2] => { results := [.lit (.bool true)], args := [d1, d2] }
  | _ => none }
def fnExactFanOfRow : OpenClaim := { program := "ytmpmmhmnjdkgcaa", sum := "bfc1098f667e3ca3f99f2cd1276062768f09ac9673ada59d2144c5682cca8bf0", func := "loop.example/g01236/laws.FnExactFanOf", spec := "fnExactFanOf", apart := false }
def FnExactFanOfSaid : Prop := fnExactFanOfRow.holds Try.pinned (OpenSpec.ofChange fnExactFanOfSpec)

/-- ITS FALSE NEIGHBOUR: 'it returns false'. Refute it at one input. -/
def fnExactFanOfWrong : ChangeSpec := { name := "fnExactFanOf", fn := fun _ => fun
  | [d1, d2] => { results := [.lit (.bool false)], args := [d1, d2] }
  | _ => none }
def FnExactFanOfWrongFalsely : Prop := fnExactFanOfRow.holds Try.pinned (OpenSpec.ofChange fnExactFanOfWrong)

/-- 'laws.FnExactTermsOf': WHATEVER THE INPUT: true; the input reads as it did. -/
def fnExactTermsOfSpec : ChangeSpec := { name := "fnExactTermsOf", fn := fun _ => fun
  | [d] => { results := [.lit (.bool true)], args := [d] }
  | _ => none }
def fnExactTermsOfRow : OpenClaim := { program := "ytmpmmhmnjdkgcaa", sum := "bfc1098f667e3ca3f99f2cd1276062768f09ac9673ada59d2144c5682cca8bf0", func := "loop.example/g01236/laws.FnExactTermsOf", spec := "fnExactTermsOf", unfollowed := true, recurses := true, apart := false }
def FnExactTermsOfSaid : Prop := fnExactTermsOfRow.holds Try.pinned (OpenSpec.ofChange fnExactTermsOfSpec)

/-- ITS FALSE NEIGHBOUR: 'it returns false'. Refute it at one input. -/
def fnExactTermsOfWrong : ChangeSpec := { name := "fnExactTermsOf", fn := fun _ => fun
  | [d] => { results := [.lit (.bool false)], args := [d] }
  | _ => none }
def FnExactTermsOfWrongFalsely : Prop := fnExactTermsOfRow.holds Try.pinned (OpenSpec.ofChange fnExactTermsOfWrong)

/- THE SECOND FORM. 'bulk': how many values and letters a reading holds, each counted each time it is reached (what is shared counts as often as it is met; a slice's spare places count too). A statement '..UptoSaid' is the law's where the arguments, and the package variables that the reading takes, are together of bulk at most 1048576: NARROWER than '..Said'. Prove '..Said' where nothing that the law and all that it calls make is longer than what came in: it says more and counts as full. Else prove '..UptoSaid'. A law counts once. -/
mutual
def uptoBulk {H : Type} : DataW H → Nat
  | .lit (.string bytes) => bytes.length + 1
  | .lit _ => 1
  | .nil => 1
  | .ptr d => uptoBulk d + 1
  | .slice elems spare => uptoBulkAll elems + uptoBulkAll spare + 1
  | .agg parts => uptoBulkAll parts + 1
  | .iface _ d => uptoBulk d + 1
  | .map entries => uptoBulkEntries entries + 1
  | .held _ => 1
def uptoBulkAll {H : Type} : List (DataW H) → Nat
  | [] => 0
  | d :: r => uptoBulk d + uptoBulkAll r
def uptoBulkEntries {H : Type} : List (Lit × DataW H) → Nat
  | [] => 0
  | x :: r => uptoBulkEntry x + uptoBulkEntries r
def uptoBulkEntry {H : Type} : Lit × DataW H → Nat
  | (.string bytes, d) => bytes.length + uptoBulk d + 1
  | (_, d) => uptoBulk d + 1
 end
def uptoSmall : (H : Type) → List (DataW H) → Bool := fun _ ds => decide (uptoBulkAll ds ≤ 1048576)
def OpenSpec.upto (s : _root_.Go.ChangeSpec) : _root_.Go.OpenSpec := { _root_.Go.OpenSpec.ofChange s with cond := some uptoSmall }

/-- 'laws.FnExactPlusContinuantOf', WHERE WHAT IT READS IS OF BULK AT MOST 1048576: true; the input reads as it did. -/
def fnExactPlusContinuantOfUptoRow : OpenClaim := { program := "ytmpmmhmnjdkgcaa", sum := "bfc1098f667e3ca3f99f2cd1276062768f09ac9673ada59d2144c5682cca8bf0", func := "loop.example/g01236/laws.FnExactPlusContinuantOf", spec := "fnExactPlusContinuantOf", unfollowed := true, recurses := true, apart := false, narrowed := true }
def FnExactPlusContinuantOfUptoSaid : Prop := fnExactPlusContinuantOfUptoRow.holds Try.pinned (OpenSpec.upto fnExactPlusContinuantOfSpec)

/-- 'laws.FnExactCountTerms', WHERE WHAT IT READS IS OF BULK AT MOST 1048576: true; the input reads as it did. -/
def fnExactCountTermsUptoRow : OpenClaim := { program := "ytmpmmhmnjdkgcaa", sum := "bfc1098f667e3ca3f99f2cd1276062768f09ac9673ada59d2144c5682cca8bf0", func := "loop.example/g01236/laws.FnExactCountTerms", spec := "fnExactCountTerms", apart := false, narrowed := true }
def FnExactCountTermsUptoSaid : Prop := fnExactCountTermsUptoRow.holds Try.pinned (OpenSpec.upto fnExactCountTermsSpec)

/-- 'laws.FnExactIsConjugateBy', WHERE WHAT IT READS IS OF BULK AT MOST 1048576: true; the input reads as it did. -/
def fnExactIsConjugateByUptoRow : OpenClaim := { program := "ytmpmmhmnjdkgcaa", sum := "bfc1098f667e3ca3f99f2cd1276062768f09ac9673ada59d2144c5682cca8bf0", func := "loop.example/g01236/laws.FnExactIsConjugateBy", spec := "fnExactIsConjugateBy", apart := false, narrowed := true }
def FnExactIsConjugateByUptoSaid : Prop := fnExactIsConjugateByUptoRow.holds Try.pinned (OpenSpec.upto fnExactIsConjugateBySpec)

/-- 'laws.FnExactSplitContinuant', WHERE WHAT IT READS IS OF BULK AT MOST 1048576: true; the input reads as it did. -/
def fnExactSplitContinuantUptoRow : OpenClaim := { program := "ytmpmmhmnjdkgcaa", sum := "bfc1098f667e3ca3f99f2cd1276062768f09ac9673ada59d2144c5682cca8bf0", func := "loop.example/g01236/laws.FnExactSplitContinuant", spec := "fnExactSplitContinuant", unfollowed := true, recurses := true, apart := false, narrowed := true }
def FnExactSplitContinuantUptoSaid : Prop := fnExactSplitContinuantUptoRow.holds Try.pinned (OpenSpec.upto fnExactSplitContinuantSpec)

/-- 'laws.FnExactPowerMatrix', WHERE WHAT IT READS IS OF BULK AT MOST 1048576: true; the input reads as it did. -/
def fnExactPowerMatrixUptoRow : OpenClaim := { program := "ytmpmmhmnjdkgcaa", sum := "bfc1098f667e3ca3f99f2cd1276062768f09ac9673ada59d2144c5682cca8bf0", func := "loop.example/g01236/laws.FnExactPowerMatrix", spec := "fnExactPowerMatrix", apart := false, narrowed := true }
def FnExactPowerMatrixUptoSaid : Prop := fnExactPowerMatrixUptoRow.holds Try.pinned (OpenSpec.upto fnExactPowerMatrixSpec)

/-- 'laws.FnExactNextRow', WHERE WHAT IT READS IS OF BULK AT MOST 1048576: true; the input reads as it did. -/
def fnExactNextRowUptoRow : OpenClaim := { program := "ytmpmmhmnjdkgcaa", sum := "bfc1098f667e3ca3f99f2cd1276062768f09ac9673ada59d2144c5682cca8bf0", func := "loop.example/g01236/laws.FnExactNextRow", spec := "fnExactNextRow", unfollowed := true, recurses := true, apart := false, narrowed := true }
def FnExactNextRowUptoSaid : Prop := fnExactNextRowUptoRow.holds Try.pinned (OpenSpec.upto fnExactNextRowSpec)

/-- 'laws.FnExactFractionOfMinus', WHERE WHAT IT READS IS OF BULK AT MOST 1048576: true; the input reads as it did. -/
def fnExactFractionOfMinusUptoRow : OpenClaim := { program := "ytmpmmhmnjdkgcaa", sum := "bfc1098f667e3ca3f99f2cd1276062768f09ac9673ada59d2144c5682cca8bf0", func := "loop.example/g01236/laws.FnExactFractionOfMinus", spec := "fnExactFractionOfMinus", unfollowed := true, recurses := true, apart := false, narrowed := true }
def FnExactFractionOfMinusUptoSaid : Prop := fnExactFractionOfMinusUptoRow.holds Try.pinned (OpenSpec.upto fnExactFractionOfMinusSpec)

/-- 'laws.FnExactFractionOfPlus', WHERE WHAT IT READS IS OF BULK AT MOST 1048576: true; the input reads as it did. -/
def fnExactFractionOfPlusUptoRow : OpenClaim := { program := "ytmpmmhmnjdkgcaa", sum := "bfc1098f667e3ca3f99f2cd1276062768f09ac9673ada59d2144c5682cca8bf0", func := "loop.example/g01236/laws.FnExactFractionOfPlus", spec := "fnExactFractionOfPlus", unfollowed := true, recurses := true, apart := false, narrowed := true }
def FnExactFractionOfPlusUptoSaid : Prop := fnExactFractionOfPlusUptoRow.holds Try.pinned (OpenSpec.upto fnExactFractionOfPlusSpec)

/-- 'laws.FnExactFanOf', WHERE WHAT IT READS IS OF BULK AT MOST 1048576: true; the input reads as it did. -/
def fnExactFanOfUptoRow : OpenClaim := { program := "ytmpmmhmnjdkgcaa", sum := "bfc1098f667e3ca3f99f2cd1276062768f09ac9673ada59d2144c5682cca8bf0", func := "loop.example/g01236/laws.FnExactFanOf", spec := "fnExactFanOf", apart := false, narrowed := true }
def FnExactFanOfUptoSaid : Prop := fnExactFanOfUptoRow.holds Try.pinned (OpenSpec.upto fnExactFanOfSpec)

/-- 'laws.FnExactTermsOf', WHERE WHAT IT READS IS OF BULK AT MOST 1048576: true; the input reads as it did. -/
def fnExactTermsOfUptoRow : OpenClaim := { program := "ytmpmmhmnjdkgcaa", sum := "bfc1098f667e3ca3f99f2cd1276062768f09ac9673ada59d2144c5682cca8bf0", func := "loop.example/g01236/laws.FnExactTermsOf", spec := "fnExactTermsOf", unfollowed := true, recurses := true, apart := false, narrowed := true }
def FnExactTermsOfUptoSaid : Prop := fnExactTermsOfUptoRow.holds Try.pinned (OpenSpec.upto fnExactTermsOfSpec)

end Rows
end Go.Proofs.Ytmpmmhmnjdkgcaa
