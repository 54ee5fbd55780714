/-
  DERIVED. GIVEN WITH THE SEED: THE CARDS: each row of YtjglbndncdkhhaaGreatDoorRows.lean that lists a variable, with what it lists TIED to the program's text (the seventh form; the later family's looks); each row that meets fmt, with fmt's text TOLD by the authors' own Lean function (tested against real Go, not proved from fmt's source: count such statements apart). THE CARD IS WHAT COUNTS. Prove the row's statement (the work); the ties are given (YtjglbndncdkhhaaGreatDoorTie.lean); close each card by the builder's one call (the guide's Derived/Test/ToyasCard.lean, 'card_holds'). Laid BY PROGRAM, IN A SANDBOX (cutbox-door.mjs). By AI agents, Wed Nov 11 2026. No macro, syntax, notation, axiom, sorry.
-/
import Derived.Test.YtjglbndncdkhhaaGreatDoorRows
import GoSem.ClaimSeven
namespace Go.Proofs.YtjglbndncdkhhaaGreatDoor
namespace Rows

/-- THE TIED CARD OF 'postmarktop.TopCross'. -/
def topCrossCard : Claim7 := { stood := { row := topCrossRow, standIns := [], harness := (true, "f83a74752136f9ef00499ca84f8266e97a78aaa8277d47b33e183d17605df0b0"), looks := true }, kinds := [], alts := [], laidByText := true, laidKinds := [.data, .pinned], laidTests := true, laidLooks := .later }
def TopCrossCardSaid : Prop := Claim7.holds Tryz.pinned (.plain (OpenSpec.ofChange topCrossSpec)) topCrossCard

/-- THE SECOND FORM's CARD OF 'postmarktop.TopCross'. -/
def topCrossUptoCard : Claim7 := { stood := { row := topCrossUptoRow, standIns := [], harness := (true, "f83a74752136f9ef00499ca84f8266e97a78aaa8277d47b33e183d17605df0b0"), looks := true }, kinds := [], alts := [], laidByText := true, laidKinds := [.data, .pinned], laidTests := true, laidLooks := .later }
def TopCrossUptoCardSaid : Prop := Claim7.holds Tryz.pinned (.plain (OpenSpec.upto topCrossSpec)) topCrossUptoCard
end Rows
end Go.Proofs.YtjglbndncdkhhaaGreatDoor
