/- What is computed is what the program does. -/
import Derived.Test.YtbcpbplkgknnmaaGreatDoorKWG0
import Derived.Test.YtbcpbplkgknnmaaGreatDoorKWG1
import Derived.Test.YtbcpbplkgknnmaaGreatDoorKWG2
import Derived.Test.YtbcpbplkgknnmaaGreatDoorKWG3
namespace Go.Proofs.YtbcpbplkgknnmaaGreatDoor
open Go Go.Abs
set_option maxRecDepth 100000
set_option linter.unusedVariables false
set_option linter.unusedSimpArgs false
namespace W
theorem allGood : AllGood C Ds Cs := ⟨t0, t1, t2, t3, t4, t5, t6, t7, t8, t9, t10, t11, t12, fun _ _ _ _ _ => trivial, fun _ _ _ _ _ => trivial, fun _ _ _ _ _ => trivial, fun _ _ _ _ _ => trivial, fun _ _ _ _ _ => trivial, fun _ _ _ _ _ => trivial, fun _ _ _ _ _ => trivial, t20, t21, t22, fun _ _ _ _ _ => trivial, t24, t25, t26, t27, t28, t29, t30, t31, t32, t33, t34, t35, t36, t37, t38, t39, t40, t41, fun _ _ _ _ _ => trivial, t43, t44, t45, t46, t47, t48, t49, t50, t51, t52, t53, t54, t55, t56, t57, t58, t59, t60, t61, t62, t63, t64, t65, trivial⟩
theorem lim_ctr : ∀ k gs out, TT.lim k gs = some out → C k gs out := lim_good allGood
end W
end Go.Proofs.YtbcpbplkgknnmaaGreatDoor
