/-
  DERIVED. GIVEN WITH THE SEED: THE CARDS: each row of YtmpmmhmnjdkgcaaDoorRows.lean that lists a variable, with what it lists TIED to the program's text (the seventh form; the later family's looks); each row that meets fmt, with fmt's text TOLD by the authors' own Lean function (tested against real Go, not proved from fmt's source: count such statements apart). THE CARD IS WHAT COUNTS. Prove the row's statement (the work); the ties are given (YtmpmmhmnjdkgcaaDoorTie.lean); close each card by the builder's one call (the guide's Derived/Test/ToyasCard.lean, 'card_holds'). Laid BY PROGRAM, IN A SANDBOX (cutbox-door.mjs). By AI agents, Wed Nov 11 2026. No macro, syntax, notation, axiom, sorry.
-/
import Derived.Test.YtmpmmhmnjdkgcaaDoorRows
import GoSem.ClaimSeven
namespace Go.Proofs.YtmpmmhmnjdkgcaaDoor
namespace Rows

/-- THE TIED CARD OF 'laws.FnExactFriezeText'. -/
def fnExactFriezeTextCard : Claim7 := { stood := { row := fnExactFriezeTextRow, standIns := [], harness := (true, "b7d05d65d681220bab8dd1fed1b3437bdeb7b8edbf34d2b58457bf95dc85a08b"), looks := false }, kinds := [], alts := [], laidByText := true, laidKinds := [.data, .data, .data], laidTests := true, laidLooks := .later }
def FnExactFriezeTextCardSaid : Prop := Claim7.holds Tryd.pinned (.plain (OpenSpec.ofChange fnExactFriezeTextSpec)) fnExactFriezeTextCard

/-- THE SECOND FORM's CARD OF 'laws.FnExactFriezeText'. -/
def fnExactFriezeTextUptoCard : Claim7 := { stood := { row := fnExactFriezeTextUptoRow, standIns := [], harness := (true, "b7d05d65d681220bab8dd1fed1b3437bdeb7b8edbf34d2b58457bf95dc85a08b"), looks := false }, kinds := [], alts := [], laidByText := true, laidKinds := [.data, .data, .data], laidTests := true, laidLooks := .later }
def FnExactFriezeTextUptoCardSaid : Prop := Claim7.holds Tryd.pinned (.plain (OpenSpec.upto fnExactFriezeTextSpec)) fnExactFriezeTextUptoCard
end Rows
end Go.Proofs.YtmpmmhmnjdkgcaaDoor
