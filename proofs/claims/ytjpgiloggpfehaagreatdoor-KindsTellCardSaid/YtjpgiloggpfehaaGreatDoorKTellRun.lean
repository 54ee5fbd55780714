/- The evaluator's runs of the law KindsTell: every case of its three integers. -/
import Derived.Test.YtjpgiloggpfehaaGreatDoorKRAw4
namespace Go.Proofs.YtjpgiloggpfehaaGreatDoor
open Go.Abs
set_option maxRecDepth 100000
namespace KindsTell
def minI : Int := -9223372036854775808
def maxI : Int := 9223372036854775807
def versions : List AV := [.z .i64 minI 0, .i .i64 1, .i .i64 2, .i .i64 3, .z .i64 4 maxI]
def uses : List AV := [.z .i64 minI (-1), .i .i64 0, .i .i64 1, .i .i64 2, .i .i64 3, .i .i64 4, .i .i64 5, .z .i64 6 maxI]
noncomputable def good (k : AV) : Bool := versions.all fun v => uses.all fun u => isT (call pl17 100000 14 [k, v, u] σ0)
theorem run0 : good (.z .i64 minI 0) = true := by kernel_rfl
theorem run1 : good (.i .i64 1) = true := by kernel_rfl
theorem run2 : good (.i .i64 2) = true := by kernel_rfl
theorem run3 : good (.i .i64 3) = true := by kernel_rfl
theorem run4 : good (.i .i64 4) = true := by kernel_rfl
theorem run5 : good (.i .i64 5) = true := by kernel_rfl
theorem run6 : good (.i .i64 6) = true := by kernel_rfl
theorem run7 : good (.i .i64 7) = true := by kernel_rfl
theorem run8 : good (.i .i64 8) = true := by kernel_rfl
theorem run9 : good (.z .i64 9 maxI) = true := by kernel_rfl
end KindsTell
end Go.Proofs.YtjpgiloggpfehaaGreatDoor
