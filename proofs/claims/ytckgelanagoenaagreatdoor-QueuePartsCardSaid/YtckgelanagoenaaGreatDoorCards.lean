/-
  DERIVED. GIVEN WITH THE SEED: THE CARDS: each row of YtckgelanagoenaaGreatDoorRows.lean that lists a variable, with what it lists TIED to the program's text (the seventh form; the later family's looks); each row that meets fmt, with fmt's text TOLD by the authors' own Lean function (tested against real Go, not proved from fmt's source: count such statements apart). THE CARD IS WHAT COUNTS. Prove the row's statement (the work); the ties are given (YtckgelanagoenaaGreatDoorTie.lean); close each card by the builder's one call (the guide's Derived/Test/ToyasCard.lean, 'card_holds'). Laid BY PROGRAM, IN A SANDBOX (cutbox-door.mjs). By AI agents, Wed Nov 11 2026. No macro, syntax, notation, axiom, sorry.
-/
import Derived.Test.YtckgelanagoenaaGreatDoorRows
import GoSem.ClaimSeven
namespace Go.Proofs.YtckgelanagoenaaGreatDoor
namespace Rows

/-- THE TIED CARD OF 'postmarklaw18.MessageChecks'. -/
def messageChecksCard : Claim7 := { stood := { row := messageChecksRow, standIns := [], harness := (true, "d3863ae85f214fadf15373442e295d639c99fc78c5ceb7961bfd0cc5b3064df3"), looks := true }, kinds := [], alts := [], laidByText := true, laidKinds := [.data, .pinned], laidTests := true, laidLooks := .later }
def MessageChecksCardSaid : Prop := Claim7.holds Tryz.pinned (.plain (OpenSpec.ofChange messageChecksSpec)) messageChecksCard

/-- THE TIED CARD OF 'postmarklaw19.SchemaWrites'. -/
def schemaWritesCard : Claim7 := { stood := { row := schemaWritesRow, standIns := [], harness := (true, "d3863ae85f214fadf15373442e295d639c99fc78c5ceb7961bfd0cc5b3064df3"), looks := true }, kinds := [], alts := [], laidByText := true, laidKinds := [.data, .pinned], laidTests := true, laidLooks := .later }
def SchemaWritesCardSaid : Prop := Claim7.holds Tryz.pinned (.plain (OpenSpec.ofChange schemaWritesSpec)) schemaWritesCard

/-- THE TIED CARD OF 'postmarklaw18.MessageSets'. -/
def messageSetsCard : Claim7 := { stood := { row := messageSetsRow, standIns := [], harness := (true, "d3863ae85f214fadf15373442e295d639c99fc78c5ceb7961bfd0cc5b3064df3"), looks := true }, kinds := [], alts := [], laidByText := true, laidKinds := [.data, .pinned], laidTests := true, laidLooks := .later }
def MessageSetsCardSaid : Prop := Claim7.holds Tryz.pinned (.plain (OpenSpec.ofChange messageSetsSpec)) messageSetsCard

/-- THE TIED CARD OF 'postmarklaw21.QueueOnce'. -/
def queueOnceCard : Claim7 := { stood := { row := queueOnceRow, standIns := [], harness := (true, "d3863ae85f214fadf15373442e295d639c99fc78c5ceb7961bfd0cc5b3064df3"), looks := true }, kinds := [], alts := [], laidByText := true, laidKinds := [.data, .pinned], laidTests := true, laidLooks := .later }
def QueueOnceCardSaid : Prop := Claim7.holds Tryz.pinned (.plain (OpenSpec.ofChange queueOnceSpec)) queueOnceCard

/-- THE TIED CARD OF 'postmarklaw21.QueuePlays'. -/
def queuePlaysCard : Claim7 := { stood := { row := queuePlaysRow, standIns := [], harness := (true, "d3863ae85f214fadf15373442e295d639c99fc78c5ceb7961bfd0cc5b3064df3"), looks := true }, kinds := [], alts := [], laidByText := true, laidKinds := [.data, .pinned], laidTests := true, laidLooks := .later }
def QueuePlaysCardSaid : Prop := Claim7.holds Tryz.pinned (.plain (OpenSpec.ofChange queuePlaysSpec)) queuePlaysCard

/-- THE TIED CARD OF 'postmarklaw21.QueueParts'. -/
def queuePartsCard : Claim7 := { stood := { row := queuePartsRow, standIns := [], harness := (true, "d3863ae85f214fadf15373442e295d639c99fc78c5ceb7961bfd0cc5b3064df3"), looks := true }, kinds := [], alts := [], laidByText := true, laidKinds := [.data, .pinned], laidTests := true, laidLooks := .later }
def QueuePartsCardSaid : Prop := Claim7.holds Tryz.pinned (.plain (OpenSpec.ofChange queuePartsSpec)) queuePartsCard

/-- THE TIED CARD OF 'postmarklaw23.AgreeHellos'. -/
def agreeHellosCard : Claim7 := { stood := { row := agreeHellosRow, standIns := [], harness := (true, "d3863ae85f214fadf15373442e295d639c99fc78c5ceb7961bfd0cc5b3064df3"), looks := true }, kinds := [], alts := [], laidByText := true, laidKinds := [.data, .pinned], laidTests := true, laidLooks := .later }
def AgreeHellosCardSaid : Prop := Claim7.holds Tryz.pinned (.plain (OpenSpec.ofChange agreeHellosSpec)) agreeHellosCard

/-- THE SECOND FORM's CARD OF 'postmarklaw18.MessageChecks'. -/
def messageChecksUptoCard : Claim7 := { stood := { row := messageChecksUptoRow, standIns := [], harness := (true, "d3863ae85f214fadf15373442e295d639c99fc78c5ceb7961bfd0cc5b3064df3"), looks := true }, kinds := [], alts := [], laidByText := true, laidKinds := [.data, .pinned], laidTests := true, laidLooks := .later }
def MessageChecksUptoCardSaid : Prop := Claim7.holds Tryz.pinned (.plain (OpenSpec.upto messageChecksSpec)) messageChecksUptoCard

/-- THE SECOND FORM's CARD OF 'postmarklaw19.SchemaWrites'. -/
def schemaWritesUptoCard : Claim7 := { stood := { row := schemaWritesUptoRow, standIns := [], harness := (true, "d3863ae85f214fadf15373442e295d639c99fc78c5ceb7961bfd0cc5b3064df3"), looks := true }, kinds := [], alts := [], laidByText := true, laidKinds := [.data, .pinned], laidTests := true, laidLooks := .later }
def SchemaWritesUptoCardSaid : Prop := Claim7.holds Tryz.pinned (.plain (OpenSpec.upto schemaWritesSpec)) schemaWritesUptoCard

/-- THE SECOND FORM's CARD OF 'postmarklaw18.MessageSets'. -/
def messageSetsUptoCard : Claim7 := { stood := { row := messageSetsUptoRow, standIns := [], harness := (true, "d3863ae85f214fadf15373442e295d639c99fc78c5ceb7961bfd0cc5b3064df3"), looks := true }, kinds := [], alts := [], laidByText := true, laidKinds := [.data, .pinned], laidTests := true, laidLooks := .later }
def MessageSetsUptoCardSaid : Prop := Claim7.holds Tryz.pinned (.plain (OpenSpec.upto messageSetsSpec)) messageSetsUptoCard

/-- THE SECOND FORM's CARD OF 'postmarklaw21.QueueOnce'. -/
def queueOnceUptoCard : Claim7 := { stood := { row := queueOnceUptoRow, standIns := [], harness := (true, "d3863ae85f214fadf15373442e295d639c99fc78c5ceb7961bfd0cc5b3064df3"), looks := true }, kinds := [], alts := [], laidByText := true, laidKinds := [.data, .pinned], laidTests := true, laidLooks := .later }
def QueueOnceUptoCardSaid : Prop := Claim7.holds Tryz.pinned (.plain (OpenSpec.upto queueOnceSpec)) queueOnceUptoCard

/-- THE SECOND FORM's CARD OF 'postmarklaw21.QueuePlays'. -/
def queuePlaysUptoCard : Claim7 := { stood := { row := queuePlaysUptoRow, standIns := [], harness := (true, "d3863ae85f214fadf15373442e295d639c99fc78c5ceb7961bfd0cc5b3064df3"), looks := true }, kinds := [], alts := [], laidByText := true, laidKinds := [.data, .pinned], laidTests := true, laidLooks := .later }
def QueuePlaysUptoCardSaid : Prop := Claim7.holds Tryz.pinned (.plain (OpenSpec.upto queuePlaysSpec)) queuePlaysUptoCard

/-- THE SECOND FORM's CARD OF 'postmarklaw21.QueueParts'. -/
def queuePartsUptoCard : Claim7 := { stood := { row := queuePartsUptoRow, standIns := [], harness := (true, "d3863ae85f214fadf15373442e295d639c99fc78c5ceb7961bfd0cc5b3064df3"), looks := true }, kinds := [], alts := [], laidByText := true, laidKinds := [.data, .pinned], laidTests := true, laidLooks := .later }
def QueuePartsUptoCardSaid : Prop := Claim7.holds Tryz.pinned (.plain (OpenSpec.upto queuePartsSpec)) queuePartsUptoCard

/-- THE SECOND FORM's CARD OF 'postmarklaw23.AgreeHellos'. -/
def agreeHellosUptoCard : Claim7 := { stood := { row := agreeHellosUptoRow, standIns := [], harness := (true, "d3863ae85f214fadf15373442e295d639c99fc78c5ceb7961bfd0cc5b3064df3"), looks := true }, kinds := [], alts := [], laidByText := true, laidKinds := [.data, .pinned], laidTests := true, laidLooks := .later }
def AgreeHellosUptoCardSaid : Prop := Claim7.holds Tryz.pinned (.plain (OpenSpec.upto agreeHellosSpec)) agreeHellosUptoCard
end Rows
end Go.Proofs.YtckgelanagoenaaGreatDoor
