/-
  DERIVED. GIVEN WITH THE SEED: THE CARDS: each row of YtpioimdhbbgniaaGreatDoorRows.lean that lists a variable, with what it lists TIED to the program's text (the seventh form; the later family's looks); each row that meets fmt, with fmt's text TOLD by the authors' own Lean function (tested against real Go, not proved from fmt's source: count such statements apart). THE CARD IS WHAT COUNTS. Prove the row's statement (the work); the ties are given (YtpioimdhbbgniaaGreatDoorTie.lean); close each card by the builder's one call (the guide's Derived/Test/ToyasCard.lean, 'card_holds'). Laid BY PROGRAM, IN A SANDBOX (cutbox-door.mjs). By AI agents, Wed Nov 11 2026. No macro, syntax, notation, axiom, sorry.
-/
import Derived.Test.YtpioimdhbbgniaaGreatDoorRows
import GoSem.ClaimSeven
namespace Go.Proofs.YtpioimdhbbgniaaGreatDoor
namespace Rows

/-- THE TIED CARD OF 'postmarklaw19.SchemaLong'. -/
def schemaLongCard : Claim7 := { stood := { row := schemaLongRow, standIns := [], harness := (true, "d073a3fd41c7dccc962e74dfe60647278613ad39dadd978c94b3fb31a2b1ed14"), looks := true }, kinds := [], alts := [], laidByText := true, laidKinds := [.data, .pinned], laidTests := true, laidLooks := .later }
def SchemaLongCardSaid : Prop := Claim7.holds Tryz.pinned (.plain (OpenSpec.ofChange schemaLongSpec)) schemaLongCard

/-- THE SECOND FORM's CARD OF 'postmarklaw19.SchemaLong'. -/
def schemaLongUptoCard : Claim7 := { stood := { row := schemaLongUptoRow, standIns := [], harness := (true, "d073a3fd41c7dccc962e74dfe60647278613ad39dadd978c94b3fb31a2b1ed14"), looks := true }, kinds := [], alts := [], laidByText := true, laidKinds := [.data, .pinned], laidTests := true, laidLooks := .later }
def SchemaLongUptoCardSaid : Prop := Claim7.holds Tryz.pinned (.plain (OpenSpec.upto schemaLongSpec)) schemaLongUptoCard
end Rows
end Go.Proofs.YtpioimdhbbgniaaGreatDoor
