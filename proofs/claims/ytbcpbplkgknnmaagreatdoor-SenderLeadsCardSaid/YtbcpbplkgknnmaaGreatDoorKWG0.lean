/- Definitions keep their contracts: the ways of the bodies, run by the kernel. -/
import Derived.Test.YtbcpbplkgknnmaaGreatDoorKWC0
import Derived.Test.YtbcpbplkgknnmaaGreatDoorKWC1
import Derived.Test.YtbcpbplkgknnmaaGreatDoorKWC2
import Derived.Test.YtbcpbplkgknnmaaGreatDoorKWC3
namespace Go.Proofs.YtbcpbplkgknnmaaGreatDoor
open Go Go.Abs
set_option maxRecDepth 100000
set_option linter.unusedVariables false
set_option linter.unusedSimpArgs false
namespace W
theorem w1_all : (PDef.treeOf d1).chk (leafLoop Tryz.prog tabsL pl [] 100000 s1 (annot [] b1)) (List.replicate s1.pre.np .arg) [] = true := (Tree.chkP_nil _ _ _).symm.trans (show w1 [] = true from (Tree.chkP_cut _ [] _ _ (Tree.chkP_cut _ [true] _ _ w1_TT (Tree.chkP_cut _ [true, false] _ _ w1_TFT (Tree.chkP_cut _ [true, false, false] _ _ (Tree.chkP_cut _ [true, false, false, true] _ _ w1_TFFTT w1_TFFTF) (Tree.chkP_cut _ [true, false, false, false] _ _ (Tree.chkP_cut _ [true, false, false, false, true] _ _ w1_TFFFTT w1_TFFFTF) (Tree.chkP_cut _ [true, false, false, false, false] _ _ (Tree.chkP_cut _ [true, false, false, false, false, true] _ _ w1_TFFFFTT w1_TFFFFTF) (Tree.chkP_cut _ [true, false, false, false, false, false] _ _ (Tree.chkP_cut _ [true, false, false, false, false, false, true] _ _ (Tree.chkP_cut _ [true, false, false, false, false, false, true, true] _ _ w1_TFFFFFTTT w1_TFFFFFTTF) w1_TFFFFFTF) (Tree.chkP_cut _ [true, false, false, false, false, false, false] _ _ (Tree.chkP_cut _ [true, false, false, false, false, false, false, true] _ _ w1_TFFFFFFTT w1_TFFFFFFTF) (Tree.chkP_cut _ [true, false, false, false, false, false, false, false] _ _ w1_TFFFFFFFT w1_TFFFFFFFF)))))))) w1_F))
theorem t1 : GoodC C d1 c1 := fun I hI gs out h =>
  LoopC.of_tree_at low mixed names (pl_ok I hI) (specs := []) (fuel := 100000) (sp := s1) (by kernel_rfl) rfl (ps := []) (b := b1) SpecsOk.nil (fun gs out h => hI 1 gs out h) w1_all h
end W
end Go.Proofs.YtbcpbplkgknnmaaGreatDoor
