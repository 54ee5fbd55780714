/- The examples of all chapters are one step each. -/
import Derived.Test.YtehcokoigbiciaaGreatDoorKAw01
import Derived.Test.YtehcokoigbiciaaGreatDoorKAw11
import Derived.Test.YtehcokoigbiciaaGreatDoorKAw13
namespace Go.Proofs.YtehcokoigbiciaaGreatDoor
open Go.Abs
theorem pl01_ok : ∀ p ∈ pl01, PrimOk Tryz.prog p.1 p.2 := closed_ok primList_ok run01
theorem pl02_ok : ∀ p ∈ pl02, PrimOk Tryz.prog p.1 p.2 := closed_ok pl01_ok run02
theorem pl03_ok : ∀ p ∈ pl03, PrimOk Tryz.prog p.1 p.2 := closed_ok pl02_ok run03
theorem pl04_ok : ∀ p ∈ pl04, PrimOk Tryz.prog p.1 p.2 := closed_ok pl03_ok run04
theorem pl05_ok : ∀ p ∈ pl05, PrimOk Tryz.prog p.1 p.2 := closed_ok pl04_ok run05
theorem pl06_ok : ∀ p ∈ pl06, PrimOk Tryz.prog p.1 p.2 := closed_ok pl05_ok run06
theorem pl07_ok : ∀ p ∈ pl07, PrimOk Tryz.prog p.1 p.2 := closed_ok pl06_ok run07
theorem pl08_ok : ∀ p ∈ pl08, PrimOk Tryz.prog p.1 p.2 := closed_ok pl07_ok run08
theorem pl09_ok : ∀ p ∈ pl09, PrimOk Tryz.prog p.1 p.2 := closed_ok pl08_ok run09
theorem pl10_ok : ∀ p ∈ pl10, PrimOk Tryz.prog p.1 p.2 := closed_ok pl09_ok run10
theorem pl11_ok : ∀ p ∈ pl11, PrimOk Tryz.prog p.1 p.2 := closed_ok pl10_ok run11
theorem pl12_ok : ∀ p ∈ pl12, PrimOk Tryz.prog p.1 p.2 := closed_ok pl11_ok run12
theorem pl13_ok : ∀ p ∈ pl13, PrimOk Tryz.prog p.1 p.2 := closed_ok pl12_ok run13
end Go.Proofs.YtehcokoigbiciaaGreatDoor
