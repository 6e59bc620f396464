/-
  DERIVED. GIVEN WITH THE SEED: THE CARDS: each row of YtcfcnnnkpdhecaaDoorRows.lean that lists a variable, with what it lists TIED to the program's text (the seventh form; the later family's looks); each row that meets fmt, with fmt's text TOLD by the authors' own Lean function (tested against real Go, not proved from fmt's source: count such statements apart). THE CARD IS WHAT COUNTS. Prove the row's statement (the work); the ties are given (YtcfcnnnkpdhecaaDoorTie.lean); close each card by the builder's one call (the guide's Derived/Test/ToyasCard.lean, 'card_holds'). Laid BY PROGRAM, IN A SANDBOX (cutbox-door.mjs). By AI agents, Wed Nov 11 2026. No macro, syntax, notation, axiom, sorry.
-/
import Derived.Test.YtcfcnnnkpdhecaaDoorRows
import GoSem.ClaimSeven
namespace Go.Proofs.YtcfcnnnkpdhecaaDoor
namespace Rows

/-- THE TIED CARD OF 'laws.FnExactParseDiagonals'. -/
def fnExactParseDiagonalsCard : Claim7 := { stood := { row := fnExactParseDiagonalsRow, standIns := [], harness := (true, "e20e862450e35e99e9cdf3b5bcf585f09b749143c21d807db23665fdae0b957e"), looks := true }, kinds := [], alts := [], laidByText := true, laidKinds := [.data, .data, .data, .data, .sentinel, .sentinel, .pinned], laidTests := true, laidLooks := .later }
def FnExactParseDiagonalsCardSaid : Prop := Claim7.holds Tryd.pinned (.plain (OpenSpec.ofChange fnExactParseDiagonalsSpec)) fnExactParseDiagonalsCard

/-- THE SECOND FORM's CARD OF 'laws.FnExactParseDiagonals'. -/
def fnExactParseDiagonalsUptoCard : Claim7 := { stood := { row := fnExactParseDiagonalsUptoRow, standIns := [], harness := (true, "e20e862450e35e99e9cdf3b5bcf585f09b749143c21d807db23665fdae0b957e"), looks := true }, kinds := [], alts := [], laidByText := true, laidKinds := [.data, .data, .data, .data, .sentinel, .sentinel, .pinned], laidTests := true, laidLooks := .later }
def FnExactParseDiagonalsUptoCardSaid : Prop := Claim7.holds Tryd.pinned (.plain (OpenSpec.upto fnExactParseDiagonalsSpec)) fnExactParseDiagonalsUptoCard
end Rows
end Go.Proofs.YtcfcnnnkpdhecaaDoor
