/-
  DERIVED. GIVEN WITH THE SEED: THE CARDS: each row of YtcpfjpcdcafjmaaGreatDoorRows.lean that lists a variable, with what it lists TIED to the program's text (the seventh form; the later family's looks); each row that meets fmt, with fmt's text TOLD by the authors' own Lean function (tested against real Go, not proved from fmt's source: count such statements apart). THE CARD IS WHAT COUNTS. Prove the row's statement (the work); the ties are given (YtcpfjpcdcafjmaaGreatDoorTie.lean); close each card by the builder's one call (the guide's Derived/Test/ToyasCard.lean, 'card_holds'). Laid BY PROGRAM, IN A SANDBOX (cutbox-door.mjs). By AI agents, Wed Nov 11 2026. No macro, syntax, notation, axiom, sorry.
-/
import Derived.Test.YtcpfjpcdcafjmaaGreatDoorRows
import GoSem.ClaimSeven
namespace Go.Proofs.YtcpfjpcdcafjmaaGreatDoor
namespace Rows

/-- THE TIED CARD OF 'postmarklaw20.CrossTells'. -/
def crossTellsCard : Claim7 := { stood := { row := crossTellsRow, standIns := [], harness := (true, "c2de12dc1ec45994816172ec197cd1e4e67ae362d582f6662ae786094c01fecb"), looks := true }, kinds := [], alts := [], laidByText := true, laidKinds := [.data, .pinned], laidTests := true, laidLooks := .later }
def CrossTellsCardSaid : Prop := Claim7.holds Tryz.pinned (.plain (OpenSpec.ofChange crossTellsSpec)) crossTellsCard

/-- THE TIED CARD OF 'postmarklaw20.CrossBack'. -/
def crossBackCard : Claim7 := { stood := { row := crossBackRow, standIns := [], harness := (true, "c2de12dc1ec45994816172ec197cd1e4e67ae362d582f6662ae786094c01fecb"), looks := true }, kinds := [], alts := [], laidByText := true, laidKinds := [.data, .pinned], laidTests := true, laidLooks := .later }
def CrossBackCardSaid : Prop := Claim7.holds Tryz.pinned (.plain (OpenSpec.ofChange crossBackSpec)) crossBackCard

/-- THE SECOND FORM's CARD OF 'postmarklaw20.CrossTells'. -/
def crossTellsUptoCard : Claim7 := { stood := { row := crossTellsUptoRow, standIns := [], harness := (true, "c2de12dc1ec45994816172ec197cd1e4e67ae362d582f6662ae786094c01fecb"), looks := true }, kinds := [], alts := [], laidByText := true, laidKinds := [.data, .pinned], laidTests := true, laidLooks := .later }
def CrossTellsUptoCardSaid : Prop := Claim7.holds Tryz.pinned (.plain (OpenSpec.upto crossTellsSpec)) crossTellsUptoCard

/-- THE SECOND FORM's CARD OF 'postmarklaw20.CrossBack'. -/
def crossBackUptoCard : Claim7 := { stood := { row := crossBackUptoRow, standIns := [], harness := (true, "c2de12dc1ec45994816172ec197cd1e4e67ae362d582f6662ae786094c01fecb"), looks := true }, kinds := [], alts := [], laidByText := true, laidKinds := [.data, .pinned], laidTests := true, laidLooks := .later }
def CrossBackUptoCardSaid : Prop := Claim7.holds Tryz.pinned (.plain (OpenSpec.upto crossBackSpec)) crossBackUptoCard
end Rows
end Go.Proofs.YtcpfjpcdcafjmaaGreatDoor
