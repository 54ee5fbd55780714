/- The rows of definitions are as they say: the ways of the bodies, run by the kernel. -/
import Derived.Test.YtnlegpmfkopalaaGreatDoorKSD
namespace Go.Proofs.YtnlegpmfkopalaaGreatDoor
open Go Go.aN
set_option maxRecDepth 100000
set_option linter.unusedVariables false
set_option linter.unusedSimpArgs false
namespace S
theorem g0:jK Tryz.prog fF pl rows Ds 0 2=true:=by kernel_rfl
theorem g47:jK Tryz.prog fF pl rows Ds 47 25=true:=by kernel_rfl
theorem g76:jK Tryz.prog fF pl rows Ds 76 1=true:=by kernel_rfl
theorem g77:jK Tryz.prog fF pl rows Ds 77 13=true:=by kernel_rfl
theorem g93:jK Tryz.prog fF pl rows Ds 93 7=true:=by kernel_rfl
theorem ai4:jK Tryz.prog fF pl rows Ds 122 6=true:=by kernel_rfl
theorem ai5:jK Tryz.prog fF pl rows Ds 128 3=true:=by kernel_rfl
theorem ai7:jK Tryz.prog fF pl rows Ds 132 1=true:=by kernel_rfl
theorem ai9:jK Tryz.prog fF pl rows Ds 134 13=true:=by kernel_rfl
end S
end Go.Proofs.YtnlegpmfkopalaaGreatDoor
