/-
  DERIVED. GIVEN WITH THE SEED: THE CARDS: each row of YtincemehblfipaaGreatDoorRows.lean that lists a variable, with what it lists TIED to the program's text (the seventh form; the later family's looks); each row that meets fmt, with fmt's text TOLD by the authors' own Lean function (tested against real Go, not proved from fmt's source: count such statements apart). THE CARD IS WHAT COUNTS. Prove the row's statement (the work); the ties are given (YtincemehblfipaaGreatDoorTie.lean); close each card by the builder's one call (the guide's Derived/Test/ToyasCard.lean, 'card_holds'). Laid BY PROGRAM, IN A SANDBOX (cutbox-door.mjs). By AI agents, Wed Nov 11 2026. No macro, syntax, notation, axiom, sorry.
-/
import Derived.Test.YtincemehblfipaaGreatDoorRows
import GoSem.ClaimSeven
namespace Go.Proofs.YtincemehblfipaaGreatDoor
namespace Rows

/-- THE TIED CARD OF 'postmarklaw21.QueueNone'. -/
def queueNoneCard : Claim7 := { stood := { row := queueNoneRow, standIns := [], harness := (true, "8a61375201ce92bcd879731b082a304c7bb10cfda00749e32e7024d6f65e641f"), looks := true }, kinds := [], alts := [], laidByText := true, laidKinds := [.data, .pinned], laidTests := true, laidLooks := .later }
def QueueNoneCardSaid : Prop := Claim7.holds Tryz.pinned (.plain (OpenSpec.ofChange queueNoneSpec)) queueNoneCard

/-- THE TIED CARD OF 'postmarklaw22.LinkNone'. -/
def linkNoneCard : Claim7 := { stood := { row := linkNoneRow, standIns := [], harness := (true, "8a61375201ce92bcd879731b082a304c7bb10cfda00749e32e7024d6f65e641f"), looks := true }, kinds := [], alts := [], laidByText := true, laidKinds := [.data, .pinned], laidTests := true, laidLooks := .later }
def LinkNoneCardSaid : Prop := Claim7.holds Tryz.pinned (.plain (OpenSpec.ofChange linkNoneSpec)) linkNoneCard

/-- THE TIED CARD OF 'postmarklaw24.SenderNone'. -/
def senderNoneCard : Claim7 := { stood := { row := senderNoneRow, standIns := [], harness := (true, "8a61375201ce92bcd879731b082a304c7bb10cfda00749e32e7024d6f65e641f"), looks := true }, kinds := [], alts := [], laidByText := true, laidKinds := [.data, .pinned], laidTests := true, laidLooks := .later }
def SenderNoneCardSaid : Prop := Claim7.holds Tryz.pinned (.plain (OpenSpec.ofChange senderNoneSpec)) senderNoneCard

/-- THE TIED CARD OF 'postmarklaw25.ReceiverNone'. -/
def receiverNoneCard : Claim7 := { stood := { row := receiverNoneRow, standIns := [], harness := (true, "8a61375201ce92bcd879731b082a304c7bb10cfda00749e32e7024d6f65e641f"), looks := true }, kinds := [], alts := [], laidByText := true, laidKinds := [.data, .pinned], laidTests := true, laidLooks := .later }
def ReceiverNoneCardSaid : Prop := Claim7.holds Tryz.pinned (.plain (OpenSpec.ofChange receiverNoneSpec)) receiverNoneCard

/-- THE TIED CARD OF 'postmarklaw26.SessionNone'. -/
def sessionNoneCard : Claim7 := { stood := { row := sessionNoneRow, standIns := [], harness := (true, "8a61375201ce92bcd879731b082a304c7bb10cfda00749e32e7024d6f65e641f"), looks := true }, kinds := [], alts := [], laidByText := true, laidKinds := [.data, .pinned], laidTests := true, laidLooks := .later }
def SessionNoneCardSaid : Prop := Claim7.holds Tryz.pinned (.plain (OpenSpec.ofChange sessionNoneSpec)) sessionNoneCard

/-- THE SECOND FORM's CARD OF 'postmarklaw21.QueueNone'. -/
def queueNoneUptoCard : Claim7 := { stood := { row := queueNoneUptoRow, standIns := [], harness := (true, "8a61375201ce92bcd879731b082a304c7bb10cfda00749e32e7024d6f65e641f"), looks := true }, kinds := [], alts := [], laidByText := true, laidKinds := [.data, .pinned], laidTests := true, laidLooks := .later }
def QueueNoneUptoCardSaid : Prop := Claim7.holds Tryz.pinned (.plain (OpenSpec.upto queueNoneSpec)) queueNoneUptoCard

/-- THE SECOND FORM's CARD OF 'postmarklaw22.LinkNone'. -/
def linkNoneUptoCard : Claim7 := { stood := { row := linkNoneUptoRow, standIns := [], harness := (true, "8a61375201ce92bcd879731b082a304c7bb10cfda00749e32e7024d6f65e641f"), looks := true }, kinds := [], alts := [], laidByText := true, laidKinds := [.data, .pinned], laidTests := true, laidLooks := .later }
def LinkNoneUptoCardSaid : Prop := Claim7.holds Tryz.pinned (.plain (OpenSpec.upto linkNoneSpec)) linkNoneUptoCard

/-- THE SECOND FORM's CARD OF 'postmarklaw24.SenderNone'. -/
def senderNoneUptoCard : Claim7 := { stood := { row := senderNoneUptoRow, standIns := [], harness := (true, "8a61375201ce92bcd879731b082a304c7bb10cfda00749e32e7024d6f65e641f"), looks := true }, kinds := [], alts := [], laidByText := true, laidKinds := [.data, .pinned], laidTests := true, laidLooks := .later }
def SenderNoneUptoCardSaid : Prop := Claim7.holds Tryz.pinned (.plain (OpenSpec.upto senderNoneSpec)) senderNoneUptoCard

/-- THE SECOND FORM's CARD OF 'postmarklaw25.ReceiverNone'. -/
def receiverNoneUptoCard : Claim7 := { stood := { row := receiverNoneUptoRow, standIns := [], harness := (true, "8a61375201ce92bcd879731b082a304c7bb10cfda00749e32e7024d6f65e641f"), looks := true }, kinds := [], alts := [], laidByText := true, laidKinds := [.data, .pinned], laidTests := true, laidLooks := .later }
def ReceiverNoneUptoCardSaid : Prop := Claim7.holds Tryz.pinned (.plain (OpenSpec.upto receiverNoneSpec)) receiverNoneUptoCard

/-- THE SECOND FORM's CARD OF 'postmarklaw26.SessionNone'. -/
def sessionNoneUptoCard : Claim7 := { stood := { row := sessionNoneUptoRow, standIns := [], harness := (true, "8a61375201ce92bcd879731b082a304c7bb10cfda00749e32e7024d6f65e641f"), looks := true }, kinds := [], alts := [], laidByText := true, laidKinds := [.data, .pinned], laidTests := true, laidLooks := .later }
def SessionNoneUptoCardSaid : Prop := Claim7.holds Tryz.pinned (.plain (OpenSpec.upto sessionNoneSpec)) sessionNoneUptoCard
end Rows
end Go.Proofs.YtincemehblfipaaGreatDoor
