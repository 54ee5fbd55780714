/- Definitions keep their contracts: the ways of the bodies, run by the kernel. -/
import Derived.Test.YtbcpbplkgknnmaaGreatDoorKUP
namespace Go.Proofs.YtbcpbplkgknnmaaGreatDoor
open Go Go.Abs
set_option maxRecDepth 100000
set_option linter.unusedVariables false
set_option linter.unusedSimpArgs false
namespace U
theorem t2 : GoodC C d2 c2 := fun I hI gs out h =>
  LoopC.of_tree_at low mixed names (pl_ok I hI) (specs := [(0, s23)]) (fuel := 100000) (sp := s2) (by kernel_rfl) rfl (ps := []) (b := b2) (SpecsOk.cons rfl (fun gs out h => hI 23 gs out h) SpecsOk.nil) (fun gs out h => hI 2 gs out h) (by kernel_rfl) h
end U
end Go.Proofs.YtbcpbplkgknnmaaGreatDoor
