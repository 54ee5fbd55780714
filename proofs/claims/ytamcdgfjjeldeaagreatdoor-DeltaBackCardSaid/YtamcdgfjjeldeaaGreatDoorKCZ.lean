/- What is computed is what the program does. -/
import Derived.Test.YtamcdgfjjeldeaaGreatDoorKCG0
import Derived.Test.YtamcdgfjjeldeaaGreatDoorKCG1
import Derived.Test.YtamcdgfjjeldeaaGreatDoorKCG2
import Derived.Test.YtamcdgfjjeldeaaGreatDoorKCG3
namespace Go.Proofs.YtamcdgfjjeldeaaGreatDoor
open Go Go.Abs
set_option maxRecDepth 100000
set_option linter.unusedVariables false
set_option linter.unusedSimpArgs false
namespace C
theorem allGood : AllGood C Ds Cs := ⟨t0, t1, t2, t3, t4, t5, t6, t7, t8, t9, t10, t11, t12, t13, t14, t15, t16, t17, t18, t19, t20, t21, t22, t23, t24, t25, t26, t27, t28, t29, t30, t31, t32, t33, t34, t35, t36, t37, t38, t39, t40, t41, t42, t43, t44, t45, t46, t47, t48, t49, t50, t51, trivial⟩
theorem lim_ctr : ∀ k gs out, TT.lim k gs = some out → C k gs out := lim_good allGood
end C
end Go.Proofs.YtamcdgfjjeldeaaGreatDoor
