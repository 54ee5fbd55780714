/-
  DERIVED. GIVEN WITH THE SEED: THE CARDS: each row of YtpkihgnabejkkaaGreatDoorRows.lean that lists a variable, with what it lists TIED to the program's text (the seventh form; the later family's looks); each row that meets fmt, with fmt's text TOLD by the authors' own Lean function (tested against real Go, not proved from fmt's source: count such statements apart). THE CARD IS WHAT COUNTS. Prove the row's statement (the work); the ties are given (YtpkihgnabejkkaaGreatDoorTie.lean); close each card by the builder's one call (the guide's Derived/Test/ToyasCard.lean, 'card_holds'). Laid BY PROGRAM, IN A SANDBOX (cutbox-door.mjs). By AI agents, Wed Nov 11 2026. No macro, syntax, notation, axiom, sorry.
-/
import Derived.Test.YtpkihgnabejkkaaGreatDoorRows
import GoSem.ClaimSeven
namespace Go.Proofs.YtpkihgnabejkkaaGreatDoor
namespace Rows

/-- THE TIED CARD OF 'postmarklaw18.MessageSets'. -/
def messageSetsCard : Claim7 := { stood := { row := messageSetsRow, standIns := [], harness := (true, "01cca53f1270431d4bf3b179db8b90477c9bc1a954d940f75b882d99fd3a7906"), looks := true }, kinds := [], alts := [], laidByText := true, laidKinds := [.data, .pinned], laidTests := true, laidLooks := .later }
def MessageSetsCardSaid : Prop := Claim7.holds Tryz.pinned (.plain (OpenSpec.ofChange messageSetsSpec)) messageSetsCard

/-- THE TIED CARD OF 'postmarklaw18.MessageBack'. -/
def messageBackCard : Claim7 := { stood := { row := messageBackRow, standIns := [], harness := (true, "01cca53f1270431d4bf3b179db8b90477c9bc1a954d940f75b882d99fd3a7906"), looks := true }, kinds := [], alts := [], laidByText := true, laidKinds := [.data, .pinned], laidTests := true, laidLooks := .later }
def MessageBackCardSaid : Prop := Claim7.holds Tryz.pinned (.plain (OpenSpec.ofChange messageBackSpec)) messageBackCard

/-- THE SECOND FORM's CARD OF 'postmarklaw18.MessageSets'. -/
def messageSetsUptoCard : Claim7 := { stood := { row := messageSetsUptoRow, standIns := [], harness := (true, "01cca53f1270431d4bf3b179db8b90477c9bc1a954d940f75b882d99fd3a7906"), looks := true }, kinds := [], alts := [], laidByText := true, laidKinds := [.data, .pinned], laidTests := true, laidLooks := .later }
def MessageSetsUptoCardSaid : Prop := Claim7.holds Tryz.pinned (.plain (OpenSpec.upto messageSetsSpec)) messageSetsUptoCard

/-- THE SECOND FORM's CARD OF 'postmarklaw18.MessageBack'. -/
def messageBackUptoCard : Claim7 := { stood := { row := messageBackUptoRow, standIns := [], harness := (true, "01cca53f1270431d4bf3b179db8b90477c9bc1a954d940f75b882d99fd3a7906"), looks := true }, kinds := [], alts := [], laidByText := true, laidKinds := [.data, .pinned], laidTests := true, laidLooks := .later }
def MessageBackUptoCardSaid : Prop := Claim7.holds Tryz.pinned (.plain (OpenSpec.upto messageBackSpec)) messageBackUptoCard
end Rows
end Go.Proofs.YtpkihgnabejkkaaGreatDoor
