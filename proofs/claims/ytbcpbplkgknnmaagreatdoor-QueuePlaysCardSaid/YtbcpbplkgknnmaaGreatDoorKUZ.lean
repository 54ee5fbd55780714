/- What is computed is what the program does. -/
import Derived.Test.YtbcpbplkgknnmaaGreatDoorKUG0
import Derived.Test.YtbcpbplkgknnmaaGreatDoorKUG1
import Derived.Test.YtbcpbplkgknnmaaGreatDoorKUG2
import Derived.Test.YtbcpbplkgknnmaaGreatDoorKUG3
namespace Go.Proofs.YtbcpbplkgknnmaaGreatDoor
open Go Go.Abs
set_option maxRecDepth 100000
set_option linter.unusedVariables false
set_option linter.unusedSimpArgs false
namespace U
theorem allGood : AllGood C Ds Cs := ⟨t0, t1, t2, fun _ _ _ _ _ => trivial, fun _ _ _ _ _ => trivial, fun _ _ _ _ _ => trivial, t6, t7, t8, t9, t10, t11, t12, t13, t14, fun _ _ _ _ _ => trivial, fun _ _ _ _ _ => trivial, t17, t18, t19, t20, t21, t22, t23, t24, t25, trivial⟩
theorem lim_ctr : ∀ k gs out, TT.lim k gs = some out → C k gs out := lim_good allGood
end U
end Go.Proofs.YtbcpbplkgknnmaaGreatDoor
