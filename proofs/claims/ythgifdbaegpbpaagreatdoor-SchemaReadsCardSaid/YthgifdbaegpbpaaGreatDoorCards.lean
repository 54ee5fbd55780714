/-
  DERIVED. GIVEN WITH THE SEED: THE CARDS: each row of YthgifdbaegpbpaaGreatDoorRows.lean that lists a variable, with what it lists TIED to the program's text (the seventh form; the later family's looks); each row that meets fmt, with fmt's text TOLD by the authors' own Lean function (tested against real Go, not proved from fmt's source: count such statements apart). THE CARD IS WHAT COUNTS. Prove the row's statement (the work); the ties are given (YthgifdbaegpbpaaGreatDoorTie.lean); close each card by the builder's one call (the guide's Derived/Test/ToyasCard.lean, 'card_holds'). Laid BY PROGRAM, IN A SANDBOX (cutbox-door.mjs). By AI agents, Wed Nov 11 2026. No macro, syntax, notation, axiom, sorry.
-/
import Derived.Test.YthgifdbaegpbpaaGreatDoorRows
import GoSem.ClaimSeven
namespace Go.Proofs.YthgifdbaegpbpaaGreatDoor
namespace Rows

/-- THE TIED CARD OF 'postmarklaw19.SchemaWrites'. -/
def schemaWritesCard : Claim7 := { stood := { row := schemaWritesRow, standIns := [], harness := (true, "4148f11222a606a6bf3f2b3d85e58b40bd215be92aba814f096903aa4eef4fbf"), looks := true }, kinds := [], alts := [], laidByText := true, laidKinds := [.data, .pinned], laidTests := true, laidLooks := .later }
def SchemaWritesCardSaid : Prop := Claim7.holds Tryz.pinned (.plain (OpenSpec.ofChange schemaWritesSpec)) schemaWritesCard

/-- THE TIED CARD OF 'postmarktop.TopCross'. -/
def topCrossCard : Claim7 := { stood := { row := topCrossRow, standIns := [], harness := (true, "4148f11222a606a6bf3f2b3d85e58b40bd215be92aba814f096903aa4eef4fbf"), looks := true }, kinds := [], alts := [], laidByText := true, laidKinds := [.data, .pinned], laidTests := true, laidLooks := .later }
def TopCrossCardSaid : Prop := Claim7.holds Tryz.pinned (.plain (OpenSpec.ofChange topCrossSpec)) topCrossCard

/-- THE TIED CARD OF 'postmarklaw19.SchemaReads'. -/
def schemaReadsCard : Claim7 := { stood := { row := schemaReadsRow, standIns := [], harness := (true, "4148f11222a606a6bf3f2b3d85e58b40bd215be92aba814f096903aa4eef4fbf"), looks := true }, kinds := [], alts := [], laidByText := true, laidKinds := [.data, .pinned], laidTests := true, laidLooks := .later }
def SchemaReadsCardSaid : Prop := Claim7.holds Tryz.pinned (.plain (OpenSpec.ofChange schemaReadsSpec)) schemaReadsCard

/-- THE TIED CARD OF 'postmarklaw20.CrossMoves'. -/
def crossMovesCard : Claim7 := { stood := { row := crossMovesRow, standIns := [], harness := (true, "4148f11222a606a6bf3f2b3d85e58b40bd215be92aba814f096903aa4eef4fbf"), looks := true }, kinds := [], alts := [], laidByText := true, laidKinds := [.data, .pinned], laidTests := true, laidLooks := .later }
def CrossMovesCardSaid : Prop := Claim7.holds Tryz.pinned (.plain (OpenSpec.ofChange crossMovesSpec)) crossMovesCard

/-- THE TIED CARD OF 'postmarklaw19.SchemaBack'. -/
def schemaBackCard : Claim7 := { stood := { row := schemaBackRow, standIns := [], harness := (true, "4148f11222a606a6bf3f2b3d85e58b40bd215be92aba814f096903aa4eef4fbf"), looks := true }, kinds := [], alts := [], laidByText := true, laidKinds := [.data, .pinned], laidTests := true, laidLooks := .later }
def SchemaBackCardSaid : Prop := Claim7.holds Tryz.pinned (.plain (OpenSpec.ofChange schemaBackSpec)) schemaBackCard

/-- THE TIED CARD OF 'postmarklaw20.CrossSteps'. -/
def crossStepsCard : Claim7 := { stood := { row := crossStepsRow, standIns := [], harness := (true, "4148f11222a606a6bf3f2b3d85e58b40bd215be92aba814f096903aa4eef4fbf"), looks := true }, kinds := [], alts := [], laidByText := true, laidKinds := [.data, .pinned], laidTests := true, laidLooks := .later }
def CrossStepsCardSaid : Prop := Claim7.holds Tryz.pinned (.plain (OpenSpec.ofChange crossStepsSpec)) crossStepsCard

/-- THE SECOND FORM's CARD OF 'postmarklaw19.SchemaWrites'. -/
def schemaWritesUptoCard : Claim7 := { stood := { row := schemaWritesUptoRow, standIns := [], harness := (true, "4148f11222a606a6bf3f2b3d85e58b40bd215be92aba814f096903aa4eef4fbf"), looks := true }, kinds := [], alts := [], laidByText := true, laidKinds := [.data, .pinned], laidTests := true, laidLooks := .later }
def SchemaWritesUptoCardSaid : Prop := Claim7.holds Tryz.pinned (.plain (OpenSpec.upto schemaWritesSpec)) schemaWritesUptoCard

/-- THE SECOND FORM's CARD OF 'postmarktop.TopCross'. -/
def topCrossUptoCard : Claim7 := { stood := { row := topCrossUptoRow, standIns := [], harness := (true, "4148f11222a606a6bf3f2b3d85e58b40bd215be92aba814f096903aa4eef4fbf"), looks := true }, kinds := [], alts := [], laidByText := true, laidKinds := [.data, .pinned], laidTests := true, laidLooks := .later }
def TopCrossUptoCardSaid : Prop := Claim7.holds Tryz.pinned (.plain (OpenSpec.upto topCrossSpec)) topCrossUptoCard

/-- THE SECOND FORM's CARD OF 'postmarklaw19.SchemaReads'. -/
def schemaReadsUptoCard : Claim7 := { stood := { row := schemaReadsUptoRow, standIns := [], harness := (true, "4148f11222a606a6bf3f2b3d85e58b40bd215be92aba814f096903aa4eef4fbf"), looks := true }, kinds := [], alts := [], laidByText := true, laidKinds := [.data, .pinned], laidTests := true, laidLooks := .later }
def SchemaReadsUptoCardSaid : Prop := Claim7.holds Tryz.pinned (.plain (OpenSpec.upto schemaReadsSpec)) schemaReadsUptoCard

/-- THE SECOND FORM's CARD OF 'postmarklaw20.CrossMoves'. -/
def crossMovesUptoCard : Claim7 := { stood := { row := crossMovesUptoRow, standIns := [], harness := (true, "4148f11222a606a6bf3f2b3d85e58b40bd215be92aba814f096903aa4eef4fbf"), looks := true }, kinds := [], alts := [], laidByText := true, laidKinds := [.data, .pinned], laidTests := true, laidLooks := .later }
def CrossMovesUptoCardSaid : Prop := Claim7.holds Tryz.pinned (.plain (OpenSpec.upto crossMovesSpec)) crossMovesUptoCard

/-- THE SECOND FORM's CARD OF 'postmarklaw19.SchemaBack'. -/
def schemaBackUptoCard : Claim7 := { stood := { row := schemaBackUptoRow, standIns := [], harness := (true, "4148f11222a606a6bf3f2b3d85e58b40bd215be92aba814f096903aa4eef4fbf"), looks := true }, kinds := [], alts := [], laidByText := true, laidKinds := [.data, .pinned], laidTests := true, laidLooks := .later }
def SchemaBackUptoCardSaid : Prop := Claim7.holds Tryz.pinned (.plain (OpenSpec.upto schemaBackSpec)) schemaBackUptoCard

/-- THE SECOND FORM's CARD OF 'postmarklaw20.CrossSteps'. -/
def crossStepsUptoCard : Claim7 := { stood := { row := crossStepsUptoRow, standIns := [], harness := (true, "4148f11222a606a6bf3f2b3d85e58b40bd215be92aba814f096903aa4eef4fbf"), looks := true }, kinds := [], alts := [], laidByText := true, laidKinds := [.data, .pinned], laidTests := true, laidLooks := .later }
def CrossStepsUptoCardSaid : Prop := Claim7.holds Tryz.pinned (.plain (OpenSpec.upto crossStepsSpec)) crossStepsUptoCard
end Rows
end Go.Proofs.YthgifdbaegpbpaaGreatDoor
