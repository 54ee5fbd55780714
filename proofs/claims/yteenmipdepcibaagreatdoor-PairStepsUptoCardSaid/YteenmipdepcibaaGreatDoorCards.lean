/-
  DERIVED. GIVEN WITH THE SEED: THE CARDS: each row of YteenmipdepcibaaGreatDoorRows.lean that lists a variable, with what it lists TIED to the program's text (the seventh form; the later family's looks); each row that meets fmt, with fmt's text TOLD by the authors' own Lean function (tested against real Go, not proved from fmt's source: count such statements apart). THE CARD IS WHAT COUNTS. Prove the row's statement (the work); the ties are given (YteenmipdepcibaaGreatDoorTie.lean); close each card by the builder's one call (the guide's Derived/Test/ToyasCard.lean, 'card_holds'). Laid BY PROGRAM, IN A SANDBOX (cutbox-door.mjs). By AI agents, Wed Nov 11 2026. No macro, syntax, notation, axiom, sorry.
-/
import Derived.Test.YteenmipdepcibaaGreatDoorRows
import GoSem.ClaimSeven
namespace Go.Proofs.YteenmipdepcibaaGreatDoor
namespace Rows

/-- THE TIED CARD OF 'postmarklaw27.PairSteps'. -/
def pairStepsCard : Claim7 := { stood := { row := pairStepsRow, standIns := [], harness := (true, "37587451a1e9d9678dce9645b77f964f74bf02752c345f5dae12d6f4ccebe1cf"), looks := true }, kinds := [], alts := [], laidByText := true, laidKinds := [.data, .pinned], laidTests := true, laidLooks := .later }
def PairStepsCardSaid : Prop := Claim7.holds Tryz.pinned (.plain (OpenSpec.ofChange pairStepsSpec)) pairStepsCard

/-- THE SECOND FORM's CARD OF 'postmarklaw27.PairSteps'. -/
def pairStepsUptoCard : Claim7 := { stood := { row := pairStepsUptoRow, standIns := [], harness := (true, "37587451a1e9d9678dce9645b77f964f74bf02752c345f5dae12d6f4ccebe1cf"), looks := true }, kinds := [], alts := [], laidByText := true, laidKinds := [.data, .pinned], laidTests := true, laidLooks := .later }
def PairStepsUptoCardSaid : Prop := Claim7.holds Tryz.pinned (.plain (OpenSpec.upto pairStepsSpec)) pairStepsUptoCard
end Rows
end Go.Proofs.YteenmipdepcibaaGreatDoor
