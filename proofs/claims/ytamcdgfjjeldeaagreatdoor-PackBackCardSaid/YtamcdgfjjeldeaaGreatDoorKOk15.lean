/- The examples of further chapters are one step each. -/
import Derived.Test.YtamcdgfjjeldeaaGreatDoorKOk14
import Derived.Test.YtamcdgfjjeldeaaGreatDoorKAw15
namespace Go.Proofs.YtamcdgfjjeldeaaGreatDoor
open Go.Abs
theorem pl15_ok : ∀ p ∈ pl15, PrimOk Tryz.prog p.1 p.2 := closed_ok pl14_ok run15
end Go.Proofs.YtamcdgfjjeldeaaGreatDoor
