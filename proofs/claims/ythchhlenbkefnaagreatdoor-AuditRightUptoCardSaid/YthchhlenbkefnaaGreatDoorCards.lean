/-
  DERIVED. GIVEN WITH THE SEED: THE CARDS: each row of YthchhlenbkefnaaGreatDoorRows.lean that lists a variable, with what it lists TIED to the program's text (the seventh form; the later family's looks); each row that meets fmt, with fmt's text TOLD by the authors' own Lean function (tested against real Go, not proved from fmt's source: count such statements apart). THE CARD IS WHAT COUNTS. Prove the row's statement (the work); the ties are given (YthchhlenbkefnaaGreatDoorTie.lean); close each card by the builder's one call (the guide's Derived/Test/ToyasCard.lean, 'card_holds'). Laid BY PROGRAM, IN A SANDBOX (cutbox-door.mjs). By AI agents, Wed Nov 11 2026. No macro, syntax, notation, axiom, sorry.
-/
import Derived.Test.YthchhlenbkefnaaGreatDoorRows
import GoSem.ClaimSeven
namespace Go.Proofs.YthchhlenbkefnaaGreatDoor
namespace Rows

/-- THE TIED CARD OF 'postmarklaw30.AuditRight'. -/
def auditRightCard : Claim7 := { stood := { row := auditRightRow, standIns := [], harness := (true, "c73a1147d1f87394c6278f784ac7fa075c5d3d68b7a67163ad6583a7c718d05f"), looks := true }, kinds := [], alts := [], laidByText := true, laidKinds := [.data, .data, .data, .data, .sentinel, .sentinel, .pinned], laidTests := true, laidLooks := .later }
def AuditRightCardSaid : Prop := Claim7.holds Tryz.pinned (.plain (OpenSpec.ofChange auditRightSpec)) auditRightCard

/-- THE SECOND FORM's CARD OF 'postmarklaw30.AuditRight'. -/
def auditRightUptoCard : Claim7 := { stood := { row := auditRightUptoRow, standIns := [], harness := (true, "c73a1147d1f87394c6278f784ac7fa075c5d3d68b7a67163ad6583a7c718d05f"), looks := true }, kinds := [], alts := [], laidByText := true, laidKinds := [.data, .data, .data, .data, .sentinel, .sentinel, .pinned], laidTests := true, laidLooks := .later }
def AuditRightUptoCardSaid : Prop := Claim7.holds Tryz.pinned (.plain (OpenSpec.upto auditRightSpec)) auditRightUptoCard
end Rows
end Go.Proofs.YthchhlenbkefnaaGreatDoor
