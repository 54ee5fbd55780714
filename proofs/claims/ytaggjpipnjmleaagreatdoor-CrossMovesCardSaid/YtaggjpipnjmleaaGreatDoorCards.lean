/-
  DERIVED. GIVEN WITH THE SEED: THE CARDS: each row of YtaggjpipnjmleaaGreatDoorRows.lean that lists a variable, with what it lists TIED to the program's text (the seventh form; the later family's looks); each row that meets fmt, with fmt's text TOLD by the authors' own Lean function (tested against real Go, not proved from fmt's source: count such statements apart). THE CARD IS WHAT COUNTS. Prove the row's statement (the work); the ties are given (YtaggjpipnjmleaaGreatDoorTie.lean); close each card by the builder's one call (the guide's Derived/Test/ToyasCard.lean, 'card_holds'). Laid BY PROGRAM, IN A SANDBOX (cutbox-door.mjs). By AI agents, Wed Nov 11 2026. No macro, syntax, notation, axiom, sorry.
-/
import Derived.Test.YtaggjpipnjmleaaGreatDoorRows
import GoSem.ClaimSeven
namespace Go.Proofs.YtaggjpipnjmleaaGreatDoor
namespace Rows

/-- THE TIED CARD OF 'postmarklaw20.CrossMoves'. -/
def crossMovesCard : Claim7 := { stood := { row := crossMovesRow, standIns := [], harness := (true, "1c288100124d6e90f2068c369a02a32deacdf2540e5a4138e106f9add7dd9820"), looks := true }, kinds := [], alts := [], laidByText := true, laidKinds := [.data, .pinned], laidTests := true, laidLooks := .later }
def CrossMovesCardSaid : Prop := Claim7.holds Tryz.pinned (.plain (OpenSpec.ofChange crossMovesSpec)) crossMovesCard

/-- THE SECOND FORM's CARD OF 'postmarklaw20.CrossMoves'. -/
def crossMovesUptoCard : Claim7 := { stood := { row := crossMovesUptoRow, standIns := [], harness := (true, "1c288100124d6e90f2068c369a02a32deacdf2540e5a4138e106f9add7dd9820"), looks := true }, kinds := [], alts := [], laidByText := true, laidKinds := [.data, .pinned], laidTests := true, laidLooks := .later }
def CrossMovesUptoCardSaid : Prop := Claim7.holds Tryz.pinned (.plain (OpenSpec.upto crossMovesSpec)) crossMovesUptoCard
end Rows
end Go.Proofs.YtaggjpipnjmleaaGreatDoor
