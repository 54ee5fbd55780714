/- The examples of further chapters are one step each. -/
import Derived.Test.YtckgelanagoenaaGreatDoorKOk18
import Derived.Test.YtckgelanagoenaaGreatDoorKAw19
import Derived.Test.YtckgelanagoenaaGreatDoorKAw20
import Derived.Test.YtckgelanagoenaaGreatDoorKAw21
import Derived.Test.YtckgelanagoenaaGreatDoorKAw22
import Derived.Test.YtckgelanagoenaaGreatDoorKAw23
namespace Go.Proofs.YtckgelanagoenaaGreatDoor
open Go.Abs
theorem pl19_ok : ∀ p ∈ pl19, PrimOk Tryz.prog p.1 p.2 := closed_ok pl18_ok run19
theorem pl20_ok : ∀ p ∈ pl20, PrimOk Tryz.prog p.1 p.2 := closed_ok pl19_ok run20
theorem pl21_ok : ∀ p ∈ pl21, PrimOk Tryz.prog p.1 p.2 := closed_ok pl20_ok run21
theorem pl22_ok : ∀ p ∈ pl22, PrimOk Tryz.prog p.1 p.2 := closed_ok pl21_ok run22
theorem pl23_ok : ∀ p ∈ pl23, PrimOk Tryz.prog p.1 p.2 := closed_ok pl22_ok run23
end Go.Proofs.YtckgelanagoenaaGreatDoor
