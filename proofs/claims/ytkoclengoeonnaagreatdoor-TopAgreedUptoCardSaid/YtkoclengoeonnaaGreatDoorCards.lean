/-
  DERIVED. GIVEN WITH THE SEED: THE CARDS: each row of YtkoclengoeonnaaGreatDoorRows.lean that lists a variable, with what it lists TIED to the program's text (the seventh form; the later family's looks); each row that meets fmt, with fmt's text TOLD by the authors' own Lean function (tested against real Go, not proved from fmt's source: count such statements apart). THE CARD IS WHAT COUNTS. Prove the row's statement (the work); the ties are given (YtkoclengoeonnaaGreatDoorTie.lean); close each card by the builder's one call (the guide's Derived/Test/ToyasCard.lean, 'card_holds'). Laid BY PROGRAM, IN A SANDBOX (cutbox-door.mjs). By AI agents, Wed Nov 11 2026. No macro, syntax, notation, axiom, sorry.
-/
import Derived.Test.YtkoclengoeonnaaGreatDoorRows
import GoSem.ClaimSeven
namespace Go.Proofs.YtkoclengoeonnaaGreatDoor
namespace Rows

/-- THE TIED CARD OF 'postmarktop.TopAgreed'. -/
def topAgreedCard : Claim7 := { stood := { row := topAgreedRow, standIns := [], harness := (true, "9164349cd5ae3ea1d0bb00825e8f22d550d5b896730c2b60c1613185869173e4"), looks := true }, kinds := [], alts := [], laidByText := true, laidKinds := [.data, .data, .data, .data, .sentinel, .sentinel, .pinned], laidTests := true, laidLooks := .later }
def TopAgreedCardSaid : Prop := Claim7.holds Tryz.pinned (.plain (OpenSpec.ofChange topAgreedSpec)) topAgreedCard

/-- THE SECOND FORM's CARD OF 'postmarktop.TopAgreed'. -/
def topAgreedUptoCard : Claim7 := { stood := { row := topAgreedUptoRow, standIns := [], harness := (true, "9164349cd5ae3ea1d0bb00825e8f22d550d5b896730c2b60c1613185869173e4"), looks := true }, kinds := [], alts := [], laidByText := true, laidKinds := [.data, .data, .data, .data, .sentinel, .sentinel, .pinned], laidTests := true, laidLooks := .later }
def TopAgreedUptoCardSaid : Prop := Claim7.holds Tryz.pinned (.plain (OpenSpec.upto topAgreedSpec)) topAgreedUptoCard
end Rows
end Go.Proofs.YtkoclengoeonnaaGreatDoor
