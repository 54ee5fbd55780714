/- The examples of further chapters are one step each. -/
import Derived.Test.YtincemehblfipaaGreatDoorKOk21
import Derived.Test.YtincemehblfipaaGreatDoorKAw22
namespace Go.Proofs.YtincemehblfipaaGreatDoor
open Go.Abs
theorem pl22_ok : ∀ p ∈ pl22, PrimOk Tryz.prog p.1 p.2 := closed_ok pl21_ok run22
end Go.Proofs.YtincemehblfipaaGreatDoor
