/- The examples of further chapters are one step each. -/
import Derived.Test.YtincemehblfipaaGreatDoorKOk24
import Derived.Test.YtincemehblfipaaGreatDoorKAw25
namespace Go.Proofs.YtincemehblfipaaGreatDoor
open Go.Abs
theorem pl25_ok : ∀ p ∈ pl25, PrimOk Tryz.prog p.1 p.2 := closed_ok pl24_ok run25
end Go.Proofs.YtincemehblfipaaGreatDoor
