/- Definitions keep their contracts: the ways of the bodies, run by the kernel. -/
import Derived.Test.YtckgelanagoenaaGreatDoorKQP
namespace Go.Proofs.YtckgelanagoenaaGreatDoor
open Go Go.Abs
set_option maxRecDepth 100000
set_option linter.unusedVariables false
set_option linter.unusedSimpArgs false
namespace Q
theorem t15 : GoodC C d15 c15 := fun I hI gs out h =>
  LoopC.of_tree_at low mixed names (pl_ok I hI) (specs := []) (fuel := 100000) (sp := s15) (by kernel_rfl) rfl (ps := []) (b := b15) SpecsOk.nil (fun gs out h => hI 15 gs out h) (by kernel_rfl) h
end Q
end Go.Proofs.YtckgelanagoenaaGreatDoor
