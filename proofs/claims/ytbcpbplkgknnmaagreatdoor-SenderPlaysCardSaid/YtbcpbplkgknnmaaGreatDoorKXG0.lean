/- Definitions keep their contracts: the ways of the bodies, run by the kernel. -/
import Derived.Test.YtbcpbplkgknnmaaGreatDoorKXC0
import Derived.Test.YtbcpbplkgknnmaaGreatDoorKXC1
import Derived.Test.YtbcpbplkgknnmaaGreatDoorKXC2
import Derived.Test.YtbcpbplkgknnmaaGreatDoorKXC3
namespace Go.Proofs.YtbcpbplkgknnmaaGreatDoor
open Go Go.Abs
set_option maxRecDepth 100000
set_option linter.unusedVariables false
set_option linter.unusedSimpArgs false
namespace X
theorem w1_all : (PDef.treeOf d1).chk (leafLoop Tryz.prog tabsL pl [] 100000 s1 (annot [] b1)) (List.replicate s1.pre.np .arg) [] = true := (Tree.chkP_nil _ _ _).symm.trans (show w1 [] = true from (Tree.chkP_cut _ [] _ _ (Tree.chkP_cut _ [true] _ _ w1_TT (Tree.chkP_cut _ [true, false] _ _ w1_TFT (Tree.chkP_cut _ [true, false, false] _ _ (Tree.chkP_cut _ [true, false, false, true] _ _ w1_TFFTT (Tree.chkP_cut _ [true, false, false, true, false] _ _ w1_TFFTFT w1_TFFTFF)) (Tree.chkP_cut _ [true, false, false, false] _ _ w1_TFFFT (Tree.chkP_cut _ [true, false, false, false, false] _ _ w1_TFFFFT w1_TFFFFF))))) w1_F))
theorem t1 : GoodC C d1 c1 := fun I hI gs out h =>
  LoopC.of_tree_at low mixed names (pl_ok I hI) (specs := []) (fuel := 100000) (sp := s1) (by kernel_rfl) rfl (ps := []) (b := b1) SpecsOk.nil (fun gs out h => hI 1 gs out h) w1_all h
theorem t3 : GoodC C d3 c3 := fun I hI gs out h =>
  LoopC.of_tree_at low mixed names (pl_ok I hI) (specs := []) (fuel := 100000) (sp := s3) (by kernel_rfl) rfl (ps := []) (b := b3) SpecsOk.nil (fun gs out h => hI 3 gs out h) (by kernel_rfl) h
theorem t8 : GoodC C d8 c8 := fun I hI gs out h =>
  FnC.of_tree low mixed names (pl_ok I hI) (specs := [(0, s9)]) (fuel := 100000) (c := code169) (pe := []) Tryz.func169 (by kernel_rfl) (SpecsOk.cons rfl (fun gs out h => hI 9 gs out h) SpecsOk.nil) (by kernel_rfl) h
theorem t12 : GoodC C d12 c12 := fun I hI gs out h =>
  FnC.of_tree low mixed names (pl_ok I hI) (specs := []) (fuel := 100000) (c := code155) (pe := []) Tryz.func155 (by kernel_rfl) SpecsOk.nil (by kernel_rfl) h
theorem t22 : GoodC C d22 c22 := fun I hI gs out h =>
  FnC.of_tree low mixed names (pl_ok I hI) (specs := []) (fuel := 100000) (c := code212) (pe := []) Tryz.func212 (by kernel_rfl) SpecsOk.nil (by kernel_rfl) h
theorem t24 : GoodC C d24 c24 := fun I hI gs out h =>
  FnC.of_tree low mixed names (pl_ok I hI) (specs := []) (fuel := 100000) (c := code253) (pe := []) Tryz.func253 (by kernel_rfl) SpecsOk.nil (by kernel_rfl) h
theorem t39 : GoodC C d39 c39 := fun I hI gs out h =>
  LoopC.of_tree_at low mixed names (pl_ok I hI) (specs := []) (fuel := 100000) (sp := s39) (by kernel_rfl) rfl (ps := []) (b := b39) SpecsOk.nil (fun gs out h => hI 39 gs out h) (by kernel_rfl) h
theorem t58 : GoodC C d58 c58 := fun I hI gs out h =>
  LoopC.of_tree_at low mixed names (pl_ok I hI) (specs := []) (fuel := 100000) (sp := s58) (by kernel_rfl) rfl (ps := []) (b := b58) SpecsOk.nil (fun gs out h => hI 58 gs out h) (by kernel_rfl) h
theorem t59 : GoodC C d59 c59 := fun I hI gs out h =>
  LoopC.of_tree_at low mixed names (pl_ok I hI) (specs := []) (fuel := 100000) (sp := s59) (by kernel_rfl) rfl (ps := []) (b := b59) SpecsOk.nil (fun gs out h => hI 59 gs out h) (by kernel_rfl) h
theorem t61 : GoodC C d61 c61 := fun I hI gs out h =>
  FnC.of_tree low mixed names (pl_ok I hI) (specs := []) (fuel := 100000) (c := code87) (pe := []) Tryz.func87 (by kernel_rfl) SpecsOk.nil (by kernel_rfl) h
theorem t62 : GoodC C d62 c62 := fun I hI gs out h =>
  FnC.of_tree low mixed names (pl_ok I hI) (specs := [(0, s63)]) (fuel := 100000) (c := code26) (pe := []) Tryz.func26 (by kernel_rfl) (SpecsOk.cons rfl (fun gs out h => hI 63 gs out h) SpecsOk.nil) (by kernel_rfl) h
theorem t66 : GoodC C d66 c66 := fun I hI gs out h =>
  LoopC.of_tree_at low mixed names (pl_ok I hI) (specs := []) (fuel := 100000) (sp := s66) (by kernel_rfl) rfl (ps := []) (b := b66) SpecsOk.nil (fun gs out h => hI 66 gs out h) (by kernel_rfl) h
theorem t70 : GoodC C d70 c70 := fun I hI gs out h =>
  FnC.of_tree low mixed names (pl_ok I hI) (specs := [(0, s71)]) (fuel := 100000) (c := code24) (pe := []) Tryz.func24 (by kernel_rfl) (SpecsOk.cons rfl (fun gs out h => hI 71 gs out h) SpecsOk.nil) (by kernel_rfl) h
theorem t72 : GoodC C d72 c72 := fun I hI gs out h =>
  FnC.of_tree low mixed names (pl_ok I hI) (specs := []) (fuel := 100000) (c := code145) (pe := []) Tryz.func145 (by kernel_rfl) SpecsOk.nil (by kernel_rfl) h
theorem t74 : GoodC C d74 c74 := fun I hI gs out h =>
  LoopC.of_tree_at low mixed names (pl_ok I hI) (specs := [(0, s75)]) (fuel := 100000) (sp := s74) (by kernel_rfl) rfl (ps := []) (b := b74) (SpecsOk.cons rfl (fun gs out h => hI 75 gs out h) SpecsOk.nil) (fun gs out h => hI 74 gs out h) (by kernel_rfl) h
theorem t75 : GoodC C d75 c75 := fun I hI gs out h =>
  LoopC.of_tree_at low mixed names (pl_ok I hI) (specs := []) (fuel := 100000) (sp := s75) (by kernel_rfl) rfl (ps := []) (b := b75) SpecsOk.nil (fun gs out h => hI 75 gs out h) (by kernel_rfl) h
theorem t78 : GoodC C d78 c78 := fun I hI gs out h =>
  FnC.of_tree low mixed names (pl_ok I hI) (specs := [(0, s79)]) (fuel := 100000) (c := code146) (pe := []) Tryz.func146 (by kernel_rfl) (SpecsOk.cons rfl (fun gs out h => hI 79 gs out h) SpecsOk.nil) (by kernel_rfl) h
theorem t79 : GoodC C d79 c79 := fun I hI gs out h =>
  LoopC.of_tree_at low mixed names (pl_ok I hI) (specs := []) (fuel := 100000) (sp := s79) (by kernel_rfl) rfl (ps := []) (b := b79) SpecsOk.nil (fun gs out h => hI 79 gs out h) (by kernel_rfl) h
theorem t82 : GoodC C d82 c82 := fun I hI gs out h =>
  LoopC.of_tree_at low mixed names (pl_ok I hI) (specs := []) (fuel := 100000) (sp := s82) (by kernel_rfl) rfl (ps := []) (b := b82) SpecsOk.nil (fun gs out h => hI 82 gs out h) (by kernel_rfl) h
theorem t87 : GoodC C d87 c87 := fun I hI gs out h =>
  FnC.of_tree low mixed names (pl_ok I hI) (specs := [(0, s88)]) (fuel := 100000) (c := code110) (pe := []) Tryz.func110 (by kernel_rfl) (SpecsOk.cons rfl (fun gs out h => hI 88 gs out h) SpecsOk.nil) (by kernel_rfl) h
theorem t90 : GoodC C d90 c90 := fun I hI gs out h =>
  LoopC.of_tree_at low mixed names (pl_ok I hI) (specs := []) (fuel := 100000) (sp := s90) (by kernel_rfl) rfl (ps := []) (b := b90) SpecsOk.nil (fun gs out h => hI 90 gs out h) (by kernel_rfl) h
theorem t95 : GoodC C d95 c95 := fun I hI gs out h =>
  LoopC.of_tree_at low mixed names (pl_ok I hI) (specs := []) (fuel := 100000) (sp := s95) (by kernel_rfl) rfl (ps := []) (b := b95) SpecsOk.nil (fun gs out h => hI 95 gs out h) (by kernel_rfl) h
theorem t97 : GoodC C d97 c97 := fun I hI gs out h =>
  FnC.of_tree low mixed names (pl_ok I hI) (specs := [(0, s98)]) (fuel := 100000) (c := code305) (pe := []) Tryz.func305 (by kernel_rfl) (SpecsOk.cons rfl (fun gs out h => hI 98 gs out h) SpecsOk.nil) (by kernel_rfl) h
theorem t117 : GoodC C d117 c117 := fun I hI gs out h =>
  LoopC.of_tree_at low mixed names (pl_ok I hI) (specs := []) (fuel := 100000) (sp := s117) (by kernel_rfl) rfl (ps := []) (b := b117) SpecsOk.nil (fun gs out h => hI 117 gs out h) (by kernel_rfl) h
theorem t127 : GoodC C d127 c127 := fun I hI gs out h =>
  LoopC.of_tree_at low mixed names (pl_ok I hI) (specs := []) (fuel := 100000) (sp := s127) (by kernel_rfl) rfl (ps := []) (b := b127) SpecsOk.nil (fun gs out h => hI 127 gs out h) (by kernel_rfl) h
end X
end Go.Proofs.YtbcpbplkgknnmaaGreatDoor
