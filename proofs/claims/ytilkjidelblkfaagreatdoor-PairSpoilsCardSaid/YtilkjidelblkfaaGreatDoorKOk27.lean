/- The examples of all chapters are one step each. -/
import Derived.Test.YtilkjidelblkfaaGreatDoorKAw01
import Derived.Test.YtilkjidelblkfaaGreatDoorKNames
import Derived.Test.YtilkjidelblkfaaGreatDoorKAw18
import Derived.Test.YtilkjidelblkfaaGreatDoorKAw23
namespace Go.Proofs.YtilkjidelblkfaaGreatDoor
open Go.Abs
theorem pl01_ok : ∀ p ∈ pl01, PrimOk Tryz.prog p.1 p.2 := closed_ok primList_ok run01
theorem pl02_ok : ∀ p ∈ pl02, PrimOk Tryz.prog p.1 p.2 := closed_ok pl01_ok run02
theorem pl03_ok : ∀ p ∈ pl03, PrimOk Tryz.prog p.1 p.2 := closed_ok pl02_ok run03
theorem pl04_ok : ∀ p ∈ pl04, PrimOk Tryz.prog p.1 p.2 := closed_ok pl03_ok run04
theorem pl05_ok : ∀ p ∈ pl05, PrimOk Tryz.prog p.1 p.2 := closed_ok pl04_ok run05
theorem pl06_ok : ∀ p ∈ pl06, PrimOk Tryz.prog p.1 p.2 := closed_ok pl05_ok run06
theorem pl07_ok : ∀ p ∈ pl07, PrimOk Tryz.prog p.1 p.2 := closed_ok pl06_ok run07
theorem pl08_ok : ∀ p ∈ pl08, PrimOk Tryz.prog p.1 p.2 := closed_ok pl07_ok run08
theorem pl09_ok : ∀ p ∈ pl09, PrimOk Tryz.prog p.1 p.2 := closed_ok pl08_ok run09
theorem pl10_ok : ∀ p ∈ pl10, PrimOk Tryz.prog p.1 p.2 := closed_ok pl09_ok run10
theorem pl11_ok : ∀ p ∈ pl11, PrimOk Tryz.prog p.1 p.2 := closed_ok pl10_ok run11
theorem pl12_ok : ∀ p ∈ pl12, PrimOk Tryz.prog p.1 p.2 := closed_ok pl11_ok run12
theorem pl13_ok : ∀ p ∈ pl13, PrimOk Tryz.prog p.1 p.2 := closed_ok pl12_ok run13
theorem pl14_ok : ∀ p ∈ pl14, PrimOk Tryz.prog p.1 p.2 := closed_ok pl13_ok run14
theorem pl15_ok : ∀ p ∈ pl15, PrimOk Tryz.prog p.1 p.2 := closed_ok pl14_ok run15
theorem pl16_ok : ∀ p ∈ pl16, PrimOk Tryz.prog p.1 p.2 := closed_ok pl15_ok run16
theorem pl17_ok : ∀ p ∈ pl17, PrimOk Tryz.prog p.1 p.2 := closed_ok pl16_ok run17
theorem plN_ok : ∀ p ∈ plN, PrimOk Tryz.prog p.1 p.2 := by
  intro p hp
  rcases List.mem_cons.1 hp with rfl | hp
  · exact names_ok pl17_ok
  · exact pl17_ok p hp
theorem pl18_ok : ∀ p ∈ pl18, PrimOk Tryz.prog p.1 p.2 := closed_ok plN_ok run18
theorem pl19_ok : ∀ p ∈ pl19, PrimOk Tryz.prog p.1 p.2 := closed_ok pl18_ok run19
theorem pl20_ok : ∀ p ∈ pl20, PrimOk Tryz.prog p.1 p.2 := closed_ok pl19_ok run20
theorem pl21_ok : ∀ p ∈ pl21, PrimOk Tryz.prog p.1 p.2 := closed_ok pl20_ok run21
theorem pl22_ok : ∀ p ∈ pl22, PrimOk Tryz.prog p.1 p.2 := closed_ok pl21_ok run22
theorem pl23_ok : ∀ p ∈ pl23, PrimOk Tryz.prog p.1 p.2 := closed_ok pl22_ok run23
theorem pl24_ok : ∀ p ∈ pl24, PrimOk Tryz.prog p.1 p.2 := closed_ok pl23_ok run24
theorem pl25_ok : ∀ p ∈ pl25, PrimOk Tryz.prog p.1 p.2 := closed_ok pl24_ok run25
theorem pl26_ok : ∀ p ∈ pl26, PrimOk Tryz.prog p.1 p.2 := closed_ok pl25_ok run26
theorem pl27_ok : ∀ p ∈ pl27, PrimOk Tryz.prog p.1 p.2 := closed_ok pl26_ok run27
end Go.Proofs.YtilkjidelblkfaaGreatDoor
