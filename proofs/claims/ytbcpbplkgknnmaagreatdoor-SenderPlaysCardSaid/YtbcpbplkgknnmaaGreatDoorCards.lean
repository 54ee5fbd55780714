/-
  DERIVED. GIVEN WITH THE SEED: THE CARDS: each row of YtbcpbplkgknnmaaGreatDoorRows.lean that lists a variable, with what it lists TIED to the program's text (the seventh form; the later family's looks); each row that meets fmt, with fmt's text TOLD by the authors' own Lean function (tested against real Go, not proved from fmt's source: count such statements apart). THE CARD IS WHAT COUNTS. Prove the row's statement (the work); the ties are given (YtbcpbplkgknnmaaGreatDoorTie.lean); close each card by the builder's one call (the guide's Derived/Test/ToyasCard.lean, 'card_holds'). Laid BY PROGRAM, IN A SANDBOX (cutbox-door.mjs). By AI agents, Wed Nov 11 2026. No macro, syntax, notation, axiom, sorry.
-/
import Derived.Test.YtbcpbplkgknnmaaGreatDoorRows
import GoSem.ClaimSeven
namespace Go.Proofs.YtbcpbplkgknnmaaGreatDoor
namespace Rows

/-- THE TIED CARD OF 'postmarklaw13.TableTells'. -/
def tableTellsCard : Claim7 := { stood := { row := tableTellsRow, standIns := [], harness := (true, "4e873417c93e45429a763d7f480fa35cd51773e8b5584d6fd98f8290d2d42d05"), looks := true }, kinds := [], alts := [], laidByText := true, laidKinds := [.data, .pinned], laidTests := true, laidLooks := .later }
def TableTellsCardSaid : Prop := Claim7.holds Tryz.pinned (.plain (OpenSpec.ofChange tableTellsSpec)) tableTellsCard

/-- THE TIED CARD OF 'postmarklaw19.SchemaWrites'. -/
def schemaWritesCard : Claim7 := { stood := { row := schemaWritesRow, standIns := [], harness := (true, "4e873417c93e45429a763d7f480fa35cd51773e8b5584d6fd98f8290d2d42d05"), looks := true }, kinds := [], alts := [], laidByText := true, laidKinds := [.data, .pinned], laidTests := true, laidLooks := .later }
def SchemaWritesCardSaid : Prop := Claim7.holds Tryz.pinned (.plain (OpenSpec.ofChange schemaWritesSpec)) schemaWritesCard

/-- THE TIED CARD OF 'postmarklaw18.MessageSets'. -/
def messageSetsCard : Claim7 := { stood := { row := messageSetsRow, standIns := [], harness := (true, "4e873417c93e45429a763d7f480fa35cd51773e8b5584d6fd98f8290d2d42d05"), looks := true }, kinds := [], alts := [], laidByText := true, laidKinds := [.data, .pinned], laidTests := true, laidLooks := .later }
def MessageSetsCardSaid : Prop := Claim7.holds Tryz.pinned (.plain (OpenSpec.ofChange messageSetsSpec)) messageSetsCard

/-- THE TIED CARD OF 'postmarklaw18.MessageBack'. -/
def messageBackCard : Claim7 := { stood := { row := messageBackRow, standIns := [], harness := (true, "4e873417c93e45429a763d7f480fa35cd51773e8b5584d6fd98f8290d2d42d05"), looks := true }, kinds := [], alts := [], laidByText := true, laidKinds := [.data, .pinned], laidTests := true, laidLooks := .later }
def MessageBackCardSaid : Prop := Claim7.holds Tryz.pinned (.plain (OpenSpec.ofChange messageBackSpec)) messageBackCard

/-- THE TIED CARD OF 'postmarklaw21.QueuePlays'. -/
def queuePlaysCard : Claim7 := { stood := { row := queuePlaysRow, standIns := [], harness := (true, "4e873417c93e45429a763d7f480fa35cd51773e8b5584d6fd98f8290d2d42d05"), looks := true }, kinds := [], alts := [], laidByText := true, laidKinds := [.data, .pinned], laidTests := true, laidLooks := .later }
def QueuePlaysCardSaid : Prop := Claim7.holds Tryz.pinned (.plain (OpenSpec.ofChange queuePlaysSpec)) queuePlaysCard

/-- THE TIED CARD OF 'postmarklaw24.SenderPlays'. -/
def senderPlaysCard : Claim7 := { stood := { row := senderPlaysRow, standIns := [], harness := (true, "4e873417c93e45429a763d7f480fa35cd51773e8b5584d6fd98f8290d2d42d05"), looks := true }, kinds := [], alts := [], laidByText := true, laidKinds := [.data, .pinned], laidTests := true, laidLooks := .later }
def SenderPlaysCardSaid : Prop := Claim7.holds Tryz.pinned (.plain (OpenSpec.ofChange senderPlaysSpec)) senderPlaysCard

/-- THE TIED CARD OF 'postmarklaw24.SenderOld'. -/
def senderOldCard : Claim7 := { stood := { row := senderOldRow, standIns := [], harness := (true, "4e873417c93e45429a763d7f480fa35cd51773e8b5584d6fd98f8290d2d42d05"), looks := true }, kinds := [], alts := [], laidByText := true, laidKinds := [.data, .pinned], laidTests := true, laidLooks := .later }
def SenderOldCardSaid : Prop := Claim7.holds Tryz.pinned (.plain (OpenSpec.ofChange senderOldSpec)) senderOldCard

/-- THE TIED CARD OF 'postmarklaw24.SenderLeads'. -/
def senderLeadsCard : Claim7 := { stood := { row := senderLeadsRow, standIns := [], harness := (true, "4e873417c93e45429a763d7f480fa35cd51773e8b5584d6fd98f8290d2d42d05"), looks := true }, kinds := [], alts := [], laidByText := true, laidKinds := [.data, .pinned], laidTests := true, laidLooks := .later }
def SenderLeadsCardSaid : Prop := Claim7.holds Tryz.pinned (.plain (OpenSpec.ofChange senderLeadsSpec)) senderLeadsCard

/-- THE SECOND FORM's CARD OF 'postmarklaw13.TableTells'. -/
def tableTellsUptoCard : Claim7 := { stood := { row := tableTellsUptoRow, standIns := [], harness := (true, "4e873417c93e45429a763d7f480fa35cd51773e8b5584d6fd98f8290d2d42d05"), looks := true }, kinds := [], alts := [], laidByText := true, laidKinds := [.data, .pinned], laidTests := true, laidLooks := .later }
def TableTellsUptoCardSaid : Prop := Claim7.holds Tryz.pinned (.plain (OpenSpec.upto tableTellsSpec)) tableTellsUptoCard

/-- THE SECOND FORM's CARD OF 'postmarklaw19.SchemaWrites'. -/
def schemaWritesUptoCard : Claim7 := { stood := { row := schemaWritesUptoRow, standIns := [], harness := (true, "4e873417c93e45429a763d7f480fa35cd51773e8b5584d6fd98f8290d2d42d05"), looks := true }, kinds := [], alts := [], laidByText := true, laidKinds := [.data, .pinned], laidTests := true, laidLooks := .later }
def SchemaWritesUptoCardSaid : Prop := Claim7.holds Tryz.pinned (.plain (OpenSpec.upto schemaWritesSpec)) schemaWritesUptoCard

/-- THE SECOND FORM's CARD OF 'postmarklaw18.MessageSets'. -/
def messageSetsUptoCard : Claim7 := { stood := { row := messageSetsUptoRow, standIns := [], harness := (true, "4e873417c93e45429a763d7f480fa35cd51773e8b5584d6fd98f8290d2d42d05"), looks := true }, kinds := [], alts := [], laidByText := true, laidKinds := [.data, .pinned], laidTests := true, laidLooks := .later }
def MessageSetsUptoCardSaid : Prop := Claim7.holds Tryz.pinned (.plain (OpenSpec.upto messageSetsSpec)) messageSetsUptoCard

/-- THE SECOND FORM's CARD OF 'postmarklaw18.MessageBack'. -/
def messageBackUptoCard : Claim7 := { stood := { row := messageBackUptoRow, standIns := [], harness := (true, "4e873417c93e45429a763d7f480fa35cd51773e8b5584d6fd98f8290d2d42d05"), looks := true }, kinds := [], alts := [], laidByText := true, laidKinds := [.data, .pinned], laidTests := true, laidLooks := .later }
def MessageBackUptoCardSaid : Prop := Claim7.holds Tryz.pinned (.plain (OpenSpec.upto messageBackSpec)) messageBackUptoCard

/-- THE SECOND FORM's CARD OF 'postmarklaw21.QueuePlays'. -/
def queuePlaysUptoCard : Claim7 := { stood := { row := queuePlaysUptoRow, standIns := [], harness := (true, "4e873417c93e45429a763d7f480fa35cd51773e8b5584d6fd98f8290d2d42d05"), looks := true }, kinds := [], alts := [], laidByText := true, laidKinds := [.data, .pinned], laidTests := true, laidLooks := .later }
def QueuePlaysUptoCardSaid : Prop := Claim7.holds Tryz.pinned (.plain (OpenSpec.upto queuePlaysSpec)) queuePlaysUptoCard

/-- THE SECOND FORM's CARD OF 'postmarklaw24.SenderPlays'. -/
def senderPlaysUptoCard : Claim7 := { stood := { row := senderPlaysUptoRow, standIns := [], harness := (true, "4e873417c93e45429a763d7f480fa35cd51773e8b5584d6fd98f8290d2d42d05"), looks := true }, kinds := [], alts := [], laidByText := true, laidKinds := [.data, .pinned], laidTests := true, laidLooks := .later }
def SenderPlaysUptoCardSaid : Prop := Claim7.holds Tryz.pinned (.plain (OpenSpec.upto senderPlaysSpec)) senderPlaysUptoCard

/-- THE SECOND FORM's CARD OF 'postmarklaw24.SenderOld'. -/
def senderOldUptoCard : Claim7 := { stood := { row := senderOldUptoRow, standIns := [], harness := (true, "4e873417c93e45429a763d7f480fa35cd51773e8b5584d6fd98f8290d2d42d05"), looks := true }, kinds := [], alts := [], laidByText := true, laidKinds := [.data, .pinned], laidTests := true, laidLooks := .later }
def SenderOldUptoCardSaid : Prop := Claim7.holds Tryz.pinned (.plain (OpenSpec.upto senderOldSpec)) senderOldUptoCard

/-- THE SECOND FORM's CARD OF 'postmarklaw24.SenderLeads'. -/
def senderLeadsUptoCard : Claim7 := { stood := { row := senderLeadsUptoRow, standIns := [], harness := (true, "4e873417c93e45429a763d7f480fa35cd51773e8b5584d6fd98f8290d2d42d05"), looks := true }, kinds := [], alts := [], laidByText := true, laidKinds := [.data, .pinned], laidTests := true, laidLooks := .later }
def SenderLeadsUptoCardSaid : Prop := Claim7.holds Tryz.pinned (.plain (OpenSpec.upto senderLeadsSpec)) senderLeadsUptoCard
end Rows
end Go.Proofs.YtbcpbplkgknnmaaGreatDoor
