/-
  DERIVED. GIVEN WITH THE SEED: THE CARDS: each row of YtogfeeabnklegaaGreatDoorRows.lean that lists a variable, with what it lists TIED to the program's text (the seventh form; the later family's looks); each row that meets fmt, with fmt's text TOLD by the authors' own Lean function (tested against real Go, not proved from fmt's source: count such statements apart). THE CARD IS WHAT COUNTS. Prove the row's statement (the work); the ties are given (YtogfeeabnklegaaGreatDoorTie.lean); close each card by the builder's one call (the guide's Derived/Test/ToyasCard.lean, 'card_holds'). Laid BY PROGRAM, IN A SANDBOX (cutbox-door.mjs). By AI agents, Wed Nov 11 2026. No macro, syntax, notation, axiom, sorry.
-/
import Derived.Test.YtogfeeabnklegaaGreatDoorRows
import GoSem.ClaimSeven
namespace Go.Proofs.YtogfeeabnklegaaGreatDoor
namespace Rows

/-- THE TIED CARD OF 'postmarklaw27.PairSafe'. -/
def pairSafeCard : Claim7 := { stood := { row := pairSafeRow, standIns := [], harness := (true, "73961fdfaa4dd269f4969f05a5302fea8763fcfbd09dc93d0648d3ab31714fe8"), looks := true }, kinds := [], alts := [], laidByText := true, laidKinds := [.data, .pinned], laidTests := true, laidLooks := .later }
def PairSafeCardSaid : Prop := Claim7.holds Tryz.pinned (.plain (OpenSpec.ofChange pairSafeSpec)) pairSafeCard

/-- THE SECOND FORM's CARD OF 'postmarklaw27.PairSafe'. -/
def pairSafeUptoCard : Claim7 := { stood := { row := pairSafeUptoRow, standIns := [], harness := (true, "73961fdfaa4dd269f4969f05a5302fea8763fcfbd09dc93d0648d3ab31714fe8"), looks := true }, kinds := [], alts := [], laidByText := true, laidKinds := [.data, .pinned], laidTests := true, laidLooks := .later }
def PairSafeUptoCardSaid : Prop := Claim7.holds Tryz.pinned (.plain (OpenSpec.upto pairSafeSpec)) pairSafeUptoCard
end Rows
end Go.Proofs.YtogfeeabnklegaaGreatDoor
