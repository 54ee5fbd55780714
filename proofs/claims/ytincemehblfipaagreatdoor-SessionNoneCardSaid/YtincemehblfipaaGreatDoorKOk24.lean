/- The examples of further chapters are one step each. -/
import Derived.Test.YtincemehblfipaaGreatDoorKOk22
import Derived.Test.YtincemehblfipaaGreatDoorKAw23
import Derived.Test.YtincemehblfipaaGreatDoorKAw24
namespace Go.Proofs.YtincemehblfipaaGreatDoor
open Go.Abs
theorem pl23_ok : ∀ p ∈ pl23, PrimOk Tryz.prog p.1 p.2 := closed_ok pl22_ok run23
theorem pl24_ok : ∀ p ∈ pl24, PrimOk Tryz.prog p.1 p.2 := closed_ok pl23_ok run24
end Go.Proofs.YtincemehblfipaaGreatDoor
