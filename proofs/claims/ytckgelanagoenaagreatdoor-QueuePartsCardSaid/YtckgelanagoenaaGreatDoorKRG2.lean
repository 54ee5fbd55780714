/- Definitions keep their contracts: the ways of the bodies, run by the kernel. -/
import Derived.Test.YtckgelanagoenaaGreatDoorKRP
namespace Go.Proofs.YtckgelanagoenaaGreatDoor
open Go Go.Abs
set_option maxRecDepth 100000
set_option linter.unusedVariables false
set_option linter.unusedSimpArgs false
namespace R
theorem t0 : GoodC C d0 c0 := fun _ _ _ _ h => h
theorem t1 : GoodC C d1 c1 := fun I hI gs out h =>
  FnC.of_tree low mixed names (pl_ok I hI) (specs := [(0, s2)]) (fuel := 100000) (c := code8) (pe := []) Tryz.func8 (by kernel_rfl) (SpecsOk.cons rfl (fun gs out h => hI 2 gs out h) SpecsOk.nil) (by kernel_rfl) h
theorem t2 : GoodC C d2 c2 := fun I hI gs out h =>
  LoopC.of_tree_at low mixed names (pl_ok I hI) (specs := []) (fuel := 100000) (sp := s2) (by kernel_rfl) rfl (ps := []) (b := b2) SpecsOk.nil (fun gs out h => hI 2 gs out h) (by kernel_rfl) h
theorem t8 : GoodC C d8 c8 := fun I hI gs out h =>
  FnS.of_tree low mixed names (pl_ok I hI) (specs := []) (fuel := 100000) (c := code111) (pe := []) (sp := s8) rfl Tryz.func111 (by kernel_rfl) SpecsOk.nil (by kernel_rfl) h
theorem t18 : GoodC C d18 c18 := fun I hI gs out h =>
  LoopC.of_tree_at low mixed names (pl_ok I hI) (specs := []) (fuel := 100000) (sp := s18) (by kernel_rfl) rfl (ps := []) (b := b18) SpecsOk.nil (fun gs out h => hI 18 gs out h) (by kernel_rfl) h
end R
end Go.Proofs.YtckgelanagoenaaGreatDoor
