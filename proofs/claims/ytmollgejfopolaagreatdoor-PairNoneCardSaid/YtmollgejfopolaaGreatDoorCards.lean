/-
  DERIVED. GIVEN WITH THE SEED: THE CARDS: each row of YtmollgejfopolaaGreatDoorRows.lean that lists a variable, with what it lists TIED to the program's text (the seventh form; the later family's looks); each row that meets fmt, with fmt's text TOLD by the authors' own Lean function (tested against real Go, not proved from fmt's source: count such statements apart). THE CARD IS WHAT COUNTS. Prove the row's statement (the work); the ties are given (YtmollgejfopolaaGreatDoorTie.lean); close each card by the builder's one call (the guide's Derived/Test/ToyasCard.lean, 'card_holds'). Laid BY PROGRAM, IN A SANDBOX (cutbox-door.mjs). By AI agents, Wed Nov 11 2026. No macro, syntax, notation, axiom, sorry.
-/
import Derived.Test.YtmollgejfopolaaGreatDoorRows
import GoSem.ClaimSeven
namespace Go.Proofs.YtmollgejfopolaaGreatDoor
namespace Rows

/-- THE TIED CARD OF 'postmarklaw27.PairNone'. -/
def pairNoneCard : Claim7 := { stood := { row := pairNoneRow, standIns := [], harness := (true, "73551b497cd337a9973ea66a66c7cc34893ae9995be466d8d162557ea21cbd59"), looks := true }, kinds := [], alts := [], laidByText := true, laidKinds := [.data, .pinned], laidTests := true, laidLooks := .later }
def PairNoneCardSaid : Prop := Claim7.holds Tryz.pinned (.plain (OpenSpec.ofChange pairNoneSpec)) pairNoneCard

/-- THE SECOND FORM's CARD OF 'postmarklaw27.PairNone'. -/
def pairNoneUptoCard : Claim7 := { stood := { row := pairNoneUptoRow, standIns := [], harness := (true, "73551b497cd337a9973ea66a66c7cc34893ae9995be466d8d162557ea21cbd59"), looks := true }, kinds := [], alts := [], laidByText := true, laidKinds := [.data, .pinned], laidTests := true, laidLooks := .later }
def PairNoneUptoCardSaid : Prop := Claim7.holds Tryz.pinned (.plain (OpenSpec.upto pairNoneSpec)) pairNoneUptoCard
end Rows
end Go.Proofs.YtmollgejfopolaaGreatDoor
