/- Definitions keep their contracts: the ways of the bodies, run by the kernel. -/
import Derived.Test.YtckgelanagoenaaGreatDoorKRP
namespace Go.Proofs.YtckgelanagoenaaGreatDoor
open Go Go.Abs
set_option maxRecDepth 100000
set_option linter.unusedVariables false
set_option linter.unusedSimpArgs false
namespace R
theorem t16 : GoodC C d16 c16 := fun I hI gs out h =>
  LoopC.of_tree_at low mixed names (pl_ok I hI) (specs := []) (fuel := 100000) (sp := s16) (by kernel_rfl) rfl (ps := []) (b := b16) SpecsOk.nil (fun gs out h => hI 16 gs out h) (by kernel_rfl) h
end R
end Go.Proofs.YtckgelanagoenaaGreatDoor
