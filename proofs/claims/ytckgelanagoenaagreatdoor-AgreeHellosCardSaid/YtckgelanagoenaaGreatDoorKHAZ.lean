/- What is computed is what the program does. -/
import Derived.Test.YtckgelanagoenaaGreatDoorKHAG0
import Derived.Test.YtckgelanagoenaaGreatDoorKHAG1
import Derived.Test.YtckgelanagoenaaGreatDoorKHAG2
import Derived.Test.YtckgelanagoenaaGreatDoorKHAG3
namespace Go.Proofs.YtckgelanagoenaaGreatDoor
open Go Go.Abs
set_option maxRecDepth 100000
set_option linter.unusedVariables false
set_option linter.unusedSimpArgs false
namespace HA
theorem allGood : AllGood C Ds Cs := ⟨t0, t1, t2, t3, t4, t5, t6, t7, t8, t9, t10, t11, t12, t13, t14, t15, t16, t17, t18, t19, t20, t21, t22, trivial⟩
theorem lim_ctr : ∀ k gs out, TT.lim k gs = some out → C k gs out := lim_good allGood
end HA
end Go.Proofs.YtckgelanagoenaaGreatDoor
