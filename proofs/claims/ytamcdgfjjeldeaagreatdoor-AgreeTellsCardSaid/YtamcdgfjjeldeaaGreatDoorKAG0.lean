/- Definitions keep their contracts: the ways of the bodies, run by the kernel. -/
import Derived.Test.YtamcdgfjjeldeaaGreatDoorKAP
namespace Go.Proofs.YtamcdgfjjeldeaaGreatDoor
open Go Go.Abs
set_option maxRecDepth 100000
set_option linter.unusedVariables false
set_option linter.unusedSimpArgs false
namespace A
theorem t4 : GoodC C d4 c4 := fun I hI gs out h =>
  FnC.of_tree low mixed names (pl_ok I hI) (specs := [(0, s5)]) (fuel := 100000) (c := code13) (pe := []) Tryz.func13 (by kernel_rfl) (SpecsOk.cons rfl (fun gs out h => hI 5 gs out h) SpecsOk.nil) (by kernel_rfl) h
end A
end Go.Proofs.YtamcdgfjjeldeaaGreatDoor
