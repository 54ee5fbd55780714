/-
  DERIVED. GIVEN WITH THE SEED: THE CARDS: each row of YtamcdgfjjeldeaaGreatDoorRows.lean that lists a variable, with what it lists TIED to the program's text (the seventh form; the later family's looks); each row that meets fmt, with fmt's text TOLD by the authors' own Lean function (tested against real Go, not proved from fmt's source: count such statements apart). THE CARD IS WHAT COUNTS. Prove the row's statement (the work); the ties are given (YtamcdgfjjeldeaaGreatDoorTie.lean); close each card by the builder's one call (the guide's Derived/Test/ToyasCard.lean, 'card_holds'). Laid BY PROGRAM, IN A SANDBOX (cutbox-door.mjs). By AI agents, Wed Nov 11 2026. No macro, syntax, notation, axiom, sorry.
-/
import Derived.Test.YtamcdgfjjeldeaaGreatDoorRows
import GoSem.ClaimSeven
namespace Go.Proofs.YtamcdgfjjeldeaaGreatDoor
namespace Rows

/-- THE TIED CARD OF 'postmarklaw13.TableOrder'. -/
def tableOrderCard : Claim7 := { stood := { row := tableOrderRow, standIns := [], harness := (true, "1b17f0c61cdceab3dda0a1d0584dcb1dc5d0098b7386272d0d8250edacb522e5"), looks := true }, kinds := [], alts := [], laidByText := true, laidKinds := [.data, .pinned], laidTests := true, laidLooks := .later }
def TableOrderCardSaid : Prop := Claim7.holds Tryz.pinned (.plain (OpenSpec.ofChange tableOrderSpec)) tableOrderCard

/-- THE TIED CARD OF 'postmarklaw13.TableSorts'. -/
def tableSortsCard : Claim7 := { stood := { row := tableSortsRow, standIns := [], harness := (true, "1b17f0c61cdceab3dda0a1d0584dcb1dc5d0098b7386272d0d8250edacb522e5"), looks := true }, kinds := [], alts := [], laidByText := true, laidKinds := [.data, .pinned], laidTests := true, laidLooks := .later }
def TableSortsCardSaid : Prop := Claim7.holds Tryz.pinned (.plain (OpenSpec.ofChange tableSortsSpec)) tableSortsCard

/-- THE TIED CARD OF 'postmarklaw13.TableTells'. -/
def tableTellsCard : Claim7 := { stood := { row := tableTellsRow, standIns := [], harness := (true, "1b17f0c61cdceab3dda0a1d0584dcb1dc5d0098b7386272d0d8250edacb522e5"), looks := true }, kinds := [], alts := [], laidByText := true, laidKinds := [.data, .pinned], laidTests := true, laidLooks := .later }
def TableTellsCardSaid : Prop := Claim7.holds Tryz.pinned (.plain (OpenSpec.ofChange tableTellsSpec)) tableTellsCard

/-- THE TIED CARD OF 'postmarklaw14.PrefixTells'. -/
def prefixTellsCard : Claim7 := { stood := { row := prefixTellsRow, standIns := [], harness := (true, "1b17f0c61cdceab3dda0a1d0584dcb1dc5d0098b7386272d0d8250edacb522e5"), looks := true }, kinds := [], alts := [], laidByText := true, laidKinds := [.data, .pinned], laidTests := true, laidLooks := .later }
def PrefixTellsCardSaid : Prop := Claim7.holds Tryz.pinned (.plain (OpenSpec.ofChange prefixTellsSpec)) prefixTellsCard

/-- THE TIED CARD OF 'postmarklaw14.PrefixBack'. -/
def prefixBackCard : Claim7 := { stood := { row := prefixBackRow, standIns := [], harness := (true, "1b17f0c61cdceab3dda0a1d0584dcb1dc5d0098b7386272d0d8250edacb522e5"), looks := true }, kinds := [], alts := [], laidByText := true, laidKinds := [.data, .pinned], laidTests := true, laidLooks := .later }
def PrefixBackCardSaid : Prop := Claim7.holds Tryz.pinned (.plain (OpenSpec.ofChange prefixBackSpec)) prefixBackCard

/-- THE TIED CARD OF 'postmarklaw15.PackTells'. -/
def packTellsCard : Claim7 := { stood := { row := packTellsRow, standIns := [], harness := (true, "1b17f0c61cdceab3dda0a1d0584dcb1dc5d0098b7386272d0d8250edacb522e5"), looks := true }, kinds := [], alts := [], laidByText := true, laidKinds := [.data, .pinned], laidTests := true, laidLooks := .later }
def PackTellsCardSaid : Prop := Claim7.holds Tryz.pinned (.plain (OpenSpec.ofChange packTellsSpec)) packTellsCard

/-- THE TIED CARD OF 'postmarklaw15.PackBack'. -/
def packBackCard : Claim7 := { stood := { row := packBackRow, standIns := [], harness := (true, "1b17f0c61cdceab3dda0a1d0584dcb1dc5d0098b7386272d0d8250edacb522e5"), looks := true }, kinds := [], alts := [], laidByText := true, laidKinds := [.data, .pinned], laidTests := true, laidLooks := .later }
def PackBackCardSaid : Prop := Claim7.holds Tryz.pinned (.plain (OpenSpec.ofChange packBackSpec)) packBackCard

/-- THE TIED CARD OF 'postmarklaw16.DeltaJoins'. -/
def deltaJoinsCard : Claim7 := { stood := { row := deltaJoinsRow, standIns := [], harness := (true, "1b17f0c61cdceab3dda0a1d0584dcb1dc5d0098b7386272d0d8250edacb522e5"), looks := true }, kinds := [], alts := [], laidByText := true, laidKinds := [.data, .pinned], laidTests := true, laidLooks := .later }
def DeltaJoinsCardSaid : Prop := Claim7.holds Tryz.pinned (.plain (OpenSpec.ofChange deltaJoinsSpec)) deltaJoinsCard

/-- THE TIED CARD OF 'postmarklaw16.DeltaBack'. -/
def deltaBackCard : Claim7 := { stood := { row := deltaBackRow, standIns := [], harness := (true, "1b17f0c61cdceab3dda0a1d0584dcb1dc5d0098b7386272d0d8250edacb522e5"), looks := true }, kinds := [], alts := [], laidByText := true, laidKinds := [.data, .pinned], laidTests := true, laidLooks := .later }
def DeltaBackCardSaid : Prop := Claim7.holds Tryz.pinned (.plain (OpenSpec.ofChange deltaBackSpec)) deltaBackCard

/-- THE TIED CARD OF 'postmarklaw16.DeltaTells'. -/
def deltaTellsCard : Claim7 := { stood := { row := deltaTellsRow, standIns := [], harness := (true, "1b17f0c61cdceab3dda0a1d0584dcb1dc5d0098b7386272d0d8250edacb522e5"), looks := true }, kinds := [], alts := [], laidByText := true, laidKinds := [.data, .pinned], laidTests := true, laidLooks := .later }
def DeltaTellsCardSaid : Prop := Claim7.holds Tryz.pinned (.plain (OpenSpec.ofChange deltaTellsSpec)) deltaTellsCard

/-- THE TIED CARD OF 'postmarklaw23.AgreeTells'. -/
def agreeTellsCard : Claim7 := { stood := { row := agreeTellsRow, standIns := [], harness := (true, "1b17f0c61cdceab3dda0a1d0584dcb1dc5d0098b7386272d0d8250edacb522e5"), looks := true }, kinds := [], alts := [], laidByText := true, laidKinds := [.data, .pinned], laidTests := true, laidLooks := .later }
def AgreeTellsCardSaid : Prop := Claim7.holds Tryz.pinned (.plain (OpenSpec.ofChange agreeTellsSpec)) agreeTellsCard

/-- THE TIED CARD OF 'postmarklaw23.AgreeSame'. -/
def agreeSameCard : Claim7 := { stood := { row := agreeSameRow, standIns := [], harness := (true, "1b17f0c61cdceab3dda0a1d0584dcb1dc5d0098b7386272d0d8250edacb522e5"), looks := true }, kinds := [], alts := [], laidByText := true, laidKinds := [.data, .pinned], laidTests := true, laidLooks := .later }
def AgreeSameCardSaid : Prop := Claim7.holds Tryz.pinned (.plain (OpenSpec.ofChange agreeSameSpec)) agreeSameCard

/-- THE SECOND FORM's CARD OF 'postmarklaw13.TableOrder'. -/
def tableOrderUptoCard : Claim7 := { stood := { row := tableOrderUptoRow, standIns := [], harness := (true, "1b17f0c61cdceab3dda0a1d0584dcb1dc5d0098b7386272d0d8250edacb522e5"), looks := true }, kinds := [], alts := [], laidByText := true, laidKinds := [.data, .pinned], laidTests := true, laidLooks := .later }
def TableOrderUptoCardSaid : Prop := Claim7.holds Tryz.pinned (.plain (OpenSpec.upto tableOrderSpec)) tableOrderUptoCard

/-- THE SECOND FORM's CARD OF 'postmarklaw13.TableSorts'. -/
def tableSortsUptoCard : Claim7 := { stood := { row := tableSortsUptoRow, standIns := [], harness := (true, "1b17f0c61cdceab3dda0a1d0584dcb1dc5d0098b7386272d0d8250edacb522e5"), looks := true }, kinds := [], alts := [], laidByText := true, laidKinds := [.data, .pinned], laidTests := true, laidLooks := .later }
def TableSortsUptoCardSaid : Prop := Claim7.holds Tryz.pinned (.plain (OpenSpec.upto tableSortsSpec)) tableSortsUptoCard

/-- THE SECOND FORM's CARD OF 'postmarklaw13.TableTells'. -/
def tableTellsUptoCard : Claim7 := { stood := { row := tableTellsUptoRow, standIns := [], harness := (true, "1b17f0c61cdceab3dda0a1d0584dcb1dc5d0098b7386272d0d8250edacb522e5"), looks := true }, kinds := [], alts := [], laidByText := true, laidKinds := [.data, .pinned], laidTests := true, laidLooks := .later }
def TableTellsUptoCardSaid : Prop := Claim7.holds Tryz.pinned (.plain (OpenSpec.upto tableTellsSpec)) tableTellsUptoCard

/-- THE SECOND FORM's CARD OF 'postmarklaw14.PrefixTells'. -/
def prefixTellsUptoCard : Claim7 := { stood := { row := prefixTellsUptoRow, standIns := [], harness := (true, "1b17f0c61cdceab3dda0a1d0584dcb1dc5d0098b7386272d0d8250edacb522e5"), looks := true }, kinds := [], alts := [], laidByText := true, laidKinds := [.data, .pinned], laidTests := true, laidLooks := .later }
def PrefixTellsUptoCardSaid : Prop := Claim7.holds Tryz.pinned (.plain (OpenSpec.upto prefixTellsSpec)) prefixTellsUptoCard

/-- THE SECOND FORM's CARD OF 'postmarklaw14.PrefixBack'. -/
def prefixBackUptoCard : Claim7 := { stood := { row := prefixBackUptoRow, standIns := [], harness := (true, "1b17f0c61cdceab3dda0a1d0584dcb1dc5d0098b7386272d0d8250edacb522e5"), looks := true }, kinds := [], alts := [], laidByText := true, laidKinds := [.data, .pinned], laidTests := true, laidLooks := .later }
def PrefixBackUptoCardSaid : Prop := Claim7.holds Tryz.pinned (.plain (OpenSpec.upto prefixBackSpec)) prefixBackUptoCard

/-- THE SECOND FORM's CARD OF 'postmarklaw15.PackTells'. -/
def packTellsUptoCard : Claim7 := { stood := { row := packTellsUptoRow, standIns := [], harness := (true, "1b17f0c61cdceab3dda0a1d0584dcb1dc5d0098b7386272d0d8250edacb522e5"), looks := true }, kinds := [], alts := [], laidByText := true, laidKinds := [.data, .pinned], laidTests := true, laidLooks := .later }
def PackTellsUptoCardSaid : Prop := Claim7.holds Tryz.pinned (.plain (OpenSpec.upto packTellsSpec)) packTellsUptoCard

/-- THE SECOND FORM's CARD OF 'postmarklaw15.PackBack'. -/
def packBackUptoCard : Claim7 := { stood := { row := packBackUptoRow, standIns := [], harness := (true, "1b17f0c61cdceab3dda0a1d0584dcb1dc5d0098b7386272d0d8250edacb522e5"), looks := true }, kinds := [], alts := [], laidByText := true, laidKinds := [.data, .pinned], laidTests := true, laidLooks := .later }
def PackBackUptoCardSaid : Prop := Claim7.holds Tryz.pinned (.plain (OpenSpec.upto packBackSpec)) packBackUptoCard

/-- THE SECOND FORM's CARD OF 'postmarklaw16.DeltaJoins'. -/
def deltaJoinsUptoCard : Claim7 := { stood := { row := deltaJoinsUptoRow, standIns := [], harness := (true, "1b17f0c61cdceab3dda0a1d0584dcb1dc5d0098b7386272d0d8250edacb522e5"), looks := true }, kinds := [], alts := [], laidByText := true, laidKinds := [.data, .pinned], laidTests := true, laidLooks := .later }
def DeltaJoinsUptoCardSaid : Prop := Claim7.holds Tryz.pinned (.plain (OpenSpec.upto deltaJoinsSpec)) deltaJoinsUptoCard

/-- THE SECOND FORM's CARD OF 'postmarklaw16.DeltaBack'. -/
def deltaBackUptoCard : Claim7 := { stood := { row := deltaBackUptoRow, standIns := [], harness := (true, "1b17f0c61cdceab3dda0a1d0584dcb1dc5d0098b7386272d0d8250edacb522e5"), looks := true }, kinds := [], alts := [], laidByText := true, laidKinds := [.data, .pinned], laidTests := true, laidLooks := .later }
def DeltaBackUptoCardSaid : Prop := Claim7.holds Tryz.pinned (.plain (OpenSpec.upto deltaBackSpec)) deltaBackUptoCard

/-- THE SECOND FORM's CARD OF 'postmarklaw16.DeltaTells'. -/
def deltaTellsUptoCard : Claim7 := { stood := { row := deltaTellsUptoRow, standIns := [], harness := (true, "1b17f0c61cdceab3dda0a1d0584dcb1dc5d0098b7386272d0d8250edacb522e5"), looks := true }, kinds := [], alts := [], laidByText := true, laidKinds := [.data, .pinned], laidTests := true, laidLooks := .later }
def DeltaTellsUptoCardSaid : Prop := Claim7.holds Tryz.pinned (.plain (OpenSpec.upto deltaTellsSpec)) deltaTellsUptoCard

/-- THE SECOND FORM's CARD OF 'postmarklaw23.AgreeTells'. -/
def agreeTellsUptoCard : Claim7 := { stood := { row := agreeTellsUptoRow, standIns := [], harness := (true, "1b17f0c61cdceab3dda0a1d0584dcb1dc5d0098b7386272d0d8250edacb522e5"), looks := true }, kinds := [], alts := [], laidByText := true, laidKinds := [.data, .pinned], laidTests := true, laidLooks := .later }
def AgreeTellsUptoCardSaid : Prop := Claim7.holds Tryz.pinned (.plain (OpenSpec.upto agreeTellsSpec)) agreeTellsUptoCard

/-- THE SECOND FORM's CARD OF 'postmarklaw23.AgreeSame'. -/
def agreeSameUptoCard : Claim7 := { stood := { row := agreeSameUptoRow, standIns := [], harness := (true, "1b17f0c61cdceab3dda0a1d0584dcb1dc5d0098b7386272d0d8250edacb522e5"), looks := true }, kinds := [], alts := [], laidByText := true, laidKinds := [.data, .pinned], laidTests := true, laidLooks := .later }
def AgreeSameUptoCardSaid : Prop := Claim7.holds Tryz.pinned (.plain (OpenSpec.upto agreeSameSpec)) agreeSameUptoCard
end Rows
end Go.Proofs.YtamcdgfjjeldeaaGreatDoor
