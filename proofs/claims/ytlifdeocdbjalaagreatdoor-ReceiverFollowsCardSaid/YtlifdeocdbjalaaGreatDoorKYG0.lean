/- Definitions keep their contracts: the ways of the bodies, run by the kernel. -/
import Derived.Test.YtlifdeocdbjalaaGreatDoorKYC0
import Derived.Test.YtlifdeocdbjalaaGreatDoorKYC1
import Derived.Test.YtlifdeocdbjalaaGreatDoorKYC2
import Derived.Test.YtlifdeocdbjalaaGreatDoorKYC3
namespace Go.Proofs.YtlifdeocdbjalaaGreatDoor
open Go Go.Abs
set_option maxRecDepth 100000
set_option linter.unusedVariables false
set_option linter.unusedSimpArgs false
namespace Y
theorem w1_all : (PDef.treeOf d1).chk (leafLoop Tryz.prog tabsL pl [] 100000 s1 (annot [] b1)) (List.replicate s1.pre.np .arg) [] = true := (Tree.chkP_nil _ _ _).symm.trans (show w1 [] = true from (Tree.chkP_cut _ [] _ _ (Tree.chkP_cut _ [true] _ _ w1_TT (Tree.chkP_cut _ [true, false] _ _ w1_TFT (Tree.chkP_cut _ [true, false, false] _ _ (Tree.chkP_cut _ [true, false, false, true] _ _ (Tree.chkP_cut _ [true, false, false, true, true] _ _ (Tree.chkP_cut _ [true, false, false, true, true, true] _ _ w1_TFFTTTT w1_TFFTTTF) w1_TFFTTF) (Tree.chkP_cut _ [true, false, false, true, false] _ _ (Tree.chkP_cut _ [true, false, false, true, false, true] _ _ w1_TFFTFTT w1_TFFTFTF) w1_TFFTFF)) (Tree.chkP_cut _ [true, false, false, false] _ _ (Tree.chkP_cut _ [true, false, false, false, true] _ _ (Tree.chkP_cut _ [true, false, false, false, true, true] _ _ w1_TFFFTTT w1_TFFFTTF) w1_TFFFTF) (Tree.chkP_cut _ [true, false, false, false, false] _ _ (Tree.chkP_cut _ [true, false, false, false, false, true] _ _ w1_TFFFFTT w1_TFFFFTF) w1_TFFFFF))))) w1_F))
theorem t1 : GoodC C d1 c1 := fun I hI gs out h =>
  LoopC.of_tree_at low mixed names (pl_ok I hI) (specs := []) (fuel := 100000) (sp := s1) (by kernel_rfl) rfl (ps := []) (b := b1) SpecsOk.nil (fun gs out h => hI 1 gs out h) w1_all h
theorem t70 : GoodC C d70 c70 := fun _ _ _ _ h => names_okC h
theorem t73 : GoodC C d73 c73 := fun I hI gs out h =>
  FnS.of_tree low mixed names (pl_ok I hI) (specs := []) (fuel := 100000) (c := code63) (pe := []) (sp := s73) rfl Tryz.func63 (by kernel_rfl) SpecsOk.nil (by kernel_rfl) h
theorem t82 : GoodC C d82 c82 := fun I hI gs out h =>
  FnS.of_tree low mixed names (pl_ok I hI) (specs := []) (fuel := 100000) (c := code63) (pe := []) (sp := s82) rfl Tryz.func63 (by kernel_rfl) SpecsOk.nil (by kernel_rfl) h
theorem t86 : GoodC C d86 c86 := fun I hI gs out h =>
  FnS.of_tree low mixed names (pl_ok I hI) (specs := []) (fuel := 100000) (c := code63) (pe := []) (sp := s86) rfl Tryz.func63 (by kernel_rfl) SpecsOk.nil (by kernel_rfl) h
end Y
end Go.Proofs.YtlifdeocdbjalaaGreatDoor
