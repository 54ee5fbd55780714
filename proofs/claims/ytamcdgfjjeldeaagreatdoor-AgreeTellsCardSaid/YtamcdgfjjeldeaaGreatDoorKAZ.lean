/- What is computed is what the program does. -/
import Derived.Test.YtamcdgfjjeldeaaGreatDoorKAG0
import Derived.Test.YtamcdgfjjeldeaaGreatDoorKAG1
import Derived.Test.YtamcdgfjjeldeaaGreatDoorKAG2
import Derived.Test.YtamcdgfjjeldeaaGreatDoorKAG3
namespace Go.Proofs.YtamcdgfjjeldeaaGreatDoor
open Go Go.Abs
set_option maxRecDepth 100000
set_option linter.unusedVariables false
set_option linter.unusedSimpArgs false
namespace A
theorem allGood : AllGood C Ds Cs := ⟨t0, t1, t2, t3, t4, t5, t6, t7, t8, trivial⟩
theorem lim_ctr : ∀ k gs out, TT.lim k gs = some out → C k gs out := lim_good allGood
end A
end Go.Proofs.YtamcdgfjjeldeaaGreatDoor
