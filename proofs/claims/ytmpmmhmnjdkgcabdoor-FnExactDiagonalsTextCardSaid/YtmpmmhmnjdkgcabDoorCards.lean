/-
  DERIVED. GIVEN WITH THE SEED: THE CARDS: each row of YtmpmmhmnjdkgcabDoorRows.lean that lists a variable, with what it lists TIED to the program's text (the seventh form; the later family's looks); each row that meets fmt, with fmt's text TOLD by the authors' own Lean function (tested against real Go, not proved from fmt's source: count such statements apart). THE CARD IS WHAT COUNTS. Prove the row's statement (the work); the ties are given (YtmpmmhmnjdkgcabDoorTie.lean); close each card by the builder's one call (the guide's Derived/Test/ToyasCard.lean, 'card_holds'). Laid BY PROGRAM, IN A SANDBOX (cutbox-door.mjs). By AI agents, Wed Nov 11 2026. No macro, syntax, notation, axiom, sorry.
-/
import Derived.Test.YtmpmmhmnjdkgcabDoorRows
import GoSem.ClaimSeven
namespace Go.Proofs.YtmpmmhmnjdkgcabDoor
namespace Rows

/-- THE TIED CARD OF 'laws.FnExactDiagonalsText'. -/
def fnExactDiagonalsTextCard : Claim7 := { stood := { row := fnExactDiagonalsTextRow, standIns := [], harness := (true, "02c020b5fbb9e7d8a9910097640b04e92f7da29f21bdc91484f77fd2714aee10"), looks := false }, kinds := [], alts := [], laidByText := true, laidKinds := [.data, .data, .data], laidTests := true, laidLooks := .later }
def FnExactDiagonalsTextCardSaid : Prop := Claim7.holds Tryd.pinned (.plain (OpenSpec.ofChange fnExactDiagonalsTextSpec)) fnExactDiagonalsTextCard

/-- THE SECOND FORM's CARD OF 'laws.FnExactDiagonalsText'. -/
def fnExactDiagonalsTextUptoCard : Claim7 := { stood := { row := fnExactDiagonalsTextUptoRow, standIns := [], harness := (true, "02c020b5fbb9e7d8a9910097640b04e92f7da29f21bdc91484f77fd2714aee10"), looks := false }, kinds := [], alts := [], laidByText := true, laidKinds := [.data, .data, .data], laidTests := true, laidLooks := .later }
def FnExactDiagonalsTextUptoCardSaid : Prop := Claim7.holds Tryd.pinned (.plain (OpenSpec.upto fnExactDiagonalsTextSpec)) fnExactDiagonalsTextUptoCard
end Rows
end Go.Proofs.YtmpmmhmnjdkgcabDoor
