/- What is computed is what the program does. -/
import Derived.Test.YtamcdgfjjeldeaaGreatDoorKFG0
import Derived.Test.YtamcdgfjjeldeaaGreatDoorKFG1
import Derived.Test.YtamcdgfjjeldeaaGreatDoorKFG2
import Derived.Test.YtamcdgfjjeldeaaGreatDoorKFG3
namespace Go.Proofs.YtamcdgfjjeldeaaGreatDoor
open Go Go.Abs
set_option maxRecDepth 100000
set_option linter.unusedVariables false
set_option linter.unusedSimpArgs false
namespace F
theorem allGood : AllGood C Ds Cs := ⟨t0, t1, t2, t3, fun _ _ _ _ _ => trivial, t5, t6, t7, t8, t9, t10, t11, t12, t13, t14, t15, t16, t17, t18, t19, t20, t21, t22, t23, t24, t25, t26, trivial⟩
theorem lim_ctr : ∀ k gs out, TT.lim k gs = some out → C k gs out := lim_good allGood
end F
end Go.Proofs.YtamcdgfjjeldeaaGreatDoor
