/-
  DERIVED. GIVEN WITH THE SEED: THE CARDS: each row of YtilkjidelblkfaaGreatDoorRows.lean that lists a variable, with what it lists TIED to the program's text (the seventh form; the later family's looks); each row that meets fmt, with fmt's text TOLD by the authors' own Lean function (tested against real Go, not proved from fmt's source: count such statements apart). THE CARD IS WHAT COUNTS. Prove the row's statement (the work); the ties are given (YtilkjidelblkfaaGreatDoorTie.lean); close each card by the builder's one call (the guide's Derived/Test/ToyasCard.lean, 'card_holds'). Laid BY PROGRAM, IN A SANDBOX (cutbox-door.mjs). By AI agents, Wed Nov 11 2026. No macro, syntax, notation, axiom, sorry.
-/
import Derived.Test.YtilkjidelblkfaaGreatDoorRows
import GoSem.ClaimSeven
namespace Go.Proofs.YtilkjidelblkfaaGreatDoor
namespace Rows

/-- THE TIED CARD OF 'postmarklaw26.SessionAgrees'. -/
def sessionAgreesCard : Claim7 := { stood := { row := sessionAgreesRow, standIns := [], harness := (true, "cdc6e3e93f028404154f2aa3aed6ed0c7f229b1cfd306bd5bc24c2657b14e673"), looks := true }, kinds := [], alts := [], laidByText := true, laidKinds := [.data, .pinned], laidTests := true, laidLooks := .later }
def SessionAgreesCardSaid : Prop := Claim7.holds Tryz.pinned (.plain (OpenSpec.ofChange sessionAgreesSpec)) sessionAgreesCard

/-- THE TIED CARD OF 'postmarklaw27.PairSpoils'. -/
def pairSpoilsCard : Claim7 := { stood := { row := pairSpoilsRow, standIns := [], harness := (true, "cdc6e3e93f028404154f2aa3aed6ed0c7f229b1cfd306bd5bc24c2657b14e673"), looks := true }, kinds := [], alts := [], laidByText := true, laidKinds := [.data, .pinned], laidTests := true, laidLooks := .later }
def PairSpoilsCardSaid : Prop := Claim7.holds Tryz.pinned (.plain (OpenSpec.ofChange pairSpoilsSpec)) pairSpoilsCard

/-- THE SECOND FORM's CARD OF 'postmarklaw26.SessionAgrees'. -/
def sessionAgreesUptoCard : Claim7 := { stood := { row := sessionAgreesUptoRow, standIns := [], harness := (true, "cdc6e3e93f028404154f2aa3aed6ed0c7f229b1cfd306bd5bc24c2657b14e673"), looks := true }, kinds := [], alts := [], laidByText := true, laidKinds := [.data, .pinned], laidTests := true, laidLooks := .later }
def SessionAgreesUptoCardSaid : Prop := Claim7.holds Tryz.pinned (.plain (OpenSpec.upto sessionAgreesSpec)) sessionAgreesUptoCard

/-- THE SECOND FORM's CARD OF 'postmarklaw27.PairSpoils'. -/
def pairSpoilsUptoCard : Claim7 := { stood := { row := pairSpoilsUptoRow, standIns := [], harness := (true, "cdc6e3e93f028404154f2aa3aed6ed0c7f229b1cfd306bd5bc24c2657b14e673"), looks := true }, kinds := [], alts := [], laidByText := true, laidKinds := [.data, .pinned], laidTests := true, laidLooks := .later }
def PairSpoilsUptoCardSaid : Prop := Claim7.holds Tryz.pinned (.plain (OpenSpec.upto pairSpoilsSpec)) pairSpoilsUptoCard
end Rows
end Go.Proofs.YtilkjidelblkfaaGreatDoor
