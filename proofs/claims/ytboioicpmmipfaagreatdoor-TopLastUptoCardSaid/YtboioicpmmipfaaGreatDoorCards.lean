/-
  DERIVED. GIVEN WITH THE SEED: THE CARDS: each row of YtboioicpmmipfaaGreatDoorRows.lean that lists a variable, with what it lists TIED to the program's text (the seventh form; the later family's looks); each row that meets fmt, with fmt's text TOLD by the authors' own Lean function (tested against real Go, not proved from fmt's source: count such statements apart). THE CARD IS WHAT COUNTS. Prove the row's statement (the work); the ties are given (YtboioicpmmipfaaGreatDoorTie.lean); close each card by the builder's one call (the guide's Derived/Test/ToyasCard.lean, 'card_holds'). Laid BY PROGRAM, IN A SANDBOX (cutbox-door.mjs). By AI agents, Wed Nov 11 2026. No macro, syntax, notation, axiom, sorry.
-/
import Derived.Test.YtboioicpmmipfaaGreatDoorRows
import GoSem.ClaimSeven
namespace Go.Proofs.YtboioicpmmipfaaGreatDoor
namespace Rows

/-- THE TIED CARD OF 'postmarktop.TopLast'. -/
def topLastCard : Claim7 := { stood := { row := topLastRow, standIns := [], harness := (true, "eccd7225128349ec8503dd2ca8b47716a7c9f9be235d9a916298578d5b25efb4"), looks := true }, kinds := [], alts := [], laidByText := true, laidKinds := [.data, .data, .data, .data, .sentinel, .sentinel, .pinned], laidTests := true, laidLooks := .later }
def TopLastCardSaid : Prop := Claim7.holds Tryz.pinned (.plain (OpenSpec.ofChange topLastSpec)) topLastCard

/-- THE SECOND FORM's CARD OF 'postmarktop.TopLast'. -/
def topLastUptoCard : Claim7 := { stood := { row := topLastUptoRow, standIns := [], harness := (true, "eccd7225128349ec8503dd2ca8b47716a7c9f9be235d9a916298578d5b25efb4"), looks := true }, kinds := [], alts := [], laidByText := true, laidKinds := [.data, .data, .data, .data, .sentinel, .sentinel, .pinned], laidTests := true, laidLooks := .later }
def TopLastUptoCardSaid : Prop := Claim7.holds Tryz.pinned (.plain (OpenSpec.upto topLastSpec)) topLastUptoCard
end Rows
end Go.Proofs.YtboioicpmmipfaaGreatDoor
