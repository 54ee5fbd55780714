/-
  DERIVED. GIVEN WITH THE SEED: THE CARDS: each row of YtlifdeocdbjalaaGreatDoorRows.lean that lists a variable, with what it lists TIED to the program's text (the seventh form; the later family's looks); each row that meets fmt, with fmt's text TOLD by the authors' own Lean function (tested against real Go, not proved from fmt's source: count such statements apart). THE CARD IS WHAT COUNTS. Prove the row's statement (the work); the ties are given (YtlifdeocdbjalaaGreatDoorTie.lean); close each card by the builder's one call (the guide's Derived/Test/ToyasCard.lean, 'card_holds'). Laid BY PROGRAM, IN A SANDBOX (cutbox-door.mjs). By AI agents, Wed Nov 11 2026. No macro, syntax, notation, axiom, sorry.
-/
import Derived.Test.YtlifdeocdbjalaaGreatDoorRows
import GoSem.ClaimSeven
namespace Go.Proofs.YtlifdeocdbjalaaGreatDoor
namespace Rows

/-- THE TIED CARD OF 'postmarklaw25.ReceiverFollows'. -/
def receiverFollowsCard : Claim7 := { stood := { row := receiverFollowsRow, standIns := [], harness := (true, "af01ce641db53fb66eda0d66abd3b7fdf315efdcd35b543c6fdf2335d3f696df"), looks := true }, kinds := [], alts := [], laidByText := true, laidKinds := [.data, .pinned], laidTests := true, laidLooks := .later }
def ReceiverFollowsCardSaid : Prop := Claim7.holds Tryz.pinned (.plain (OpenSpec.ofChange receiverFollowsSpec)) receiverFollowsCard

/-- THE TIED CARD OF 'postmarklaw25.ReceiverPlays'. -/
def receiverPlaysCard : Claim7 := { stood := { row := receiverPlaysRow, standIns := [], harness := (true, "af01ce641db53fb66eda0d66abd3b7fdf315efdcd35b543c6fdf2335d3f696df"), looks := true }, kinds := [], alts := [], laidByText := true, laidKinds := [.data, .pinned], laidTests := true, laidLooks := .later }
def ReceiverPlaysCardSaid : Prop := Claim7.holds Tryz.pinned (.plain (OpenSpec.ofChange receiverPlaysSpec)) receiverPlaysCard

/-- THE SECOND FORM's CARD OF 'postmarklaw25.ReceiverFollows'. -/
def receiverFollowsUptoCard : Claim7 := { stood := { row := receiverFollowsUptoRow, standIns := [], harness := (true, "af01ce641db53fb66eda0d66abd3b7fdf315efdcd35b543c6fdf2335d3f696df"), looks := true }, kinds := [], alts := [], laidByText := true, laidKinds := [.data, .pinned], laidTests := true, laidLooks := .later }
def ReceiverFollowsUptoCardSaid : Prop := Claim7.holds Tryz.pinned (.plain (OpenSpec.upto receiverFollowsSpec)) receiverFollowsUptoCard

/-- THE SECOND FORM's CARD OF 'postmarklaw25.ReceiverPlays'. -/
def receiverPlaysUptoCard : Claim7 := { stood := { row := receiverPlaysUptoRow, standIns := [], harness := (true, "af01ce641db53fb66eda0d66abd3b7fdf315efdcd35b543c6fdf2335d3f696df"), looks := true }, kinds := [], alts := [], laidByText := true, laidKinds := [.data, .pinned], laidTests := true, laidLooks := .later }
def ReceiverPlaysUptoCardSaid : Prop := Claim7.holds Tryz.pinned (.plain (OpenSpec.upto receiverPlaysSpec)) receiverPlaysUptoCard
end Rows
end Go.Proofs.YtlifdeocdbjalaaGreatDoor
