/- The examples of further chapters are one step each. -/
import Derived.Test.YtincemehblfipaaGreatDoorKOk25
import Derived.Test.YtincemehblfipaaGreatDoorKAw26
namespace Go.Proofs.YtincemehblfipaaGreatDoor
open Go.Abs
theorem pl26_ok : ∀ p ∈ pl26, PrimOk Tryz.prog p.1 p.2 := closed_ok pl25_ok run26
end Go.Proofs.YtincemehblfipaaGreatDoor
