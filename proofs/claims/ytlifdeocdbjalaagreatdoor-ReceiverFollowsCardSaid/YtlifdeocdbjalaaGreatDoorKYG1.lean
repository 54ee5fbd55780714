/- Definitions keep their contracts: the ways of the bodies, run by the kernel. -/
import Derived.Test.YtlifdeocdbjalaaGreatDoorKYC0
import Derived.Test.YtlifdeocdbjalaaGreatDoorKYC1
import Derived.Test.YtlifdeocdbjalaaGreatDoorKYC2
import Derived.Test.YtlifdeocdbjalaaGreatDoorKYC3
namespace Go.Proofs.YtlifdeocdbjalaaGreatDoor
open Go Go.Abs
set_option maxRecDepth 100000
set_option linter.unusedVariables false
set_option linter.unusedSimpArgs false
namespace Y
theorem t0 : GoodC C d0 c0 := fun I hI gs out h =>
  FnC.of_tree low mixed names (pl_ok I hI) (specs := [(0, s1), (1, s106)]) (fuel := 100000) (c := code3) (pe := []) Tryz.func3 (by kernel_rfl) (SpecsOk.cons rfl (fun gs out h => hI 1 gs out h) (SpecsOk.cons rfl (fun gs out h => hI 106 gs out h) SpecsOk.nil)) (by kernel_rfl) h
theorem t3 : GoodC C d3 c3 := fun I hI gs out h =>
  FnC.of_tree low mixed names (pl_ok I hI) (specs := [(0, s4)]) (fuel := 100000) (c := code31) (pe := []) Tryz.func31 (by kernel_rfl) (SpecsOk.cons rfl (fun gs out h => hI 4 gs out h) SpecsOk.nil) (by kernel_rfl) h
theorem t8 : GoodC C d8 c8 := fun I hI gs out h =>
  FnC.of_tree low mixed names (pl_ok I hI) (specs := [(0, s11)]) (fuel := 100000) (c := code103) (pe := []) Tryz.func103 (by kernel_rfl) (SpecsOk.cons rfl (fun gs out h => hI 11 gs out h) SpecsOk.nil) (by kernel_rfl) h
theorem t18 : GoodC C d18 c18 := fun I hI gs out h =>
  FnC.of_tree low mixed names (pl_ok I hI) (specs := []) (fuel := 100000) (c := code33) (pe := []) Tryz.func33 (by kernel_rfl) SpecsOk.nil (by kernel_rfl) h
theorem t23 : GoodC C d23 c23 := fun I hI gs out h =>
  LoopC.of_tree_at low mixed names (pl_ok I hI) (specs := []) (fuel := 100000) (sp := s23) (by kernel_rfl) rfl (ps := []) (b := b23) SpecsOk.nil (fun gs out h => hI 23 gs out h) (by kernel_rfl) h
theorem t27 : GoodC C d27 c27 := fun _ _ _ _ h => valid_ok h
theorem t28 : GoodC C d28 c28 := fun I hI gs out h =>
  FnC.of_tree low mixed names (pl_ok I hI) (specs := []) (fuel := 100000) (c := code72) (pe := []) Tryz.func72 (by kernel_rfl) SpecsOk.nil (by kernel_rfl) h
theorem t32 : GoodC C d32 c32 := fun I hI gs out h =>
  FnC.of_tree low mixed names (pl_ok I hI) (specs := []) (fuel := 100000) (c := code71) (pe := []) Tryz.func71 (by kernel_rfl) SpecsOk.nil (by kernel_rfl) h
theorem t36 : GoodC C d36 c36 := fun I hI gs out h =>
  FnC.of_tree low mixed names (pl_ok I hI) (specs := [(0, s37)]) (fuel := 100000) (c := code35) (pe := []) Tryz.func35 (by kernel_rfl) (SpecsOk.cons rfl (fun gs out h => hI 37 gs out h) SpecsOk.nil) (by kernel_rfl) h
theorem t37 : GoodC C d37 c37 := fun I hI gs out h =>
  LoopC.of_tree_at low mixed names (pl_ok I hI) (specs := []) (fuel := 100000) (sp := s37) (by kernel_rfl) rfl (ps := []) (b := b37) SpecsOk.nil (fun gs out h => hI 37 gs out h) (by kernel_rfl) h
theorem t43 : GoodC C d43 c43 := fun I hI gs out h =>
  LoopC.of_tree_at low mixed names (pl_ok I hI) (specs := []) (fuel := 100000) (sp := s43) (by kernel_rfl) rfl (ps := []) (b := b43) SpecsOk.nil (fun gs out h => hI 43 gs out h) (by kernel_rfl) h
theorem t44 : GoodC C d44 c44 := fun I hI gs out h =>
  FnC.of_tree low mixed names (pl_ok I hI) (specs := []) (fuel := 100000) (c := code75) (pe := []) Tryz.func75 (by kernel_rfl) SpecsOk.nil (by kernel_rfl) h
theorem t45 : GoodC C d45 c45 := fun I hI gs out h =>
  FnC.of_tree low mixed names (pl_ok I hI) (specs := [(0, s46)]) (fuel := 100000) (c := code76) (pe := []) Tryz.func76 (by kernel_rfl) (SpecsOk.cons rfl (fun gs out h => hI 46 gs out h) SpecsOk.nil) (by kernel_rfl) h
theorem t50 : GoodC C d50 c50 := fun I hI gs out h =>
  LoopC.of_tree_at low mixed names (pl_ok I hI) (specs := []) (fuel := 100000) (sp := s50) (by kernel_rfl) rfl (ps := []) (b := b50) SpecsOk.nil (fun gs out h => hI 50 gs out h) (by kernel_rfl) h
theorem t53 : GoodC C d53 c53 := fun I hI gs out h =>
  LoopC.of_tree_at low mixed names (pl_ok I hI) (specs := [(0, s54)]) (fuel := 100000) (sp := s53) (by kernel_rfl) rfl (ps := []) (b := b53) (SpecsOk.cons rfl (fun gs out h => hI 54 gs out h) SpecsOk.nil) (fun gs out h => hI 53 gs out h) (by kernel_rfl) h
theorem t56 : GoodC C d56 c56 := fun I hI gs out h =>
  FnS.of_tree low mixed names (pl_ok I hI) (specs := []) (fuel := 100000) (c := code12) (pe := []) (sp := s56) rfl Tryz.func12 (by kernel_rfl) SpecsOk.nil (by kernel_rfl) h
theorem t60 : GoodC C d60 c60 := fun I hI gs out h =>
  FnC.of_tree low mixed names (pl_ok I hI) (specs := []) (fuel := 100000) (c := code122) (pe := []) Tryz.func122 (by kernel_rfl) SpecsOk.nil (by kernel_rfl) h
theorem t62 : GoodC C d62 c62 := fun I hI gs out h =>
  FnC.of_tree low mixed names (pl_ok I hI) (specs := []) (fuel := 100000) (c := code123) (pe := []) Tryz.func123 (by kernel_rfl) SpecsOk.nil (by kernel_rfl) h
theorem t65 : GoodC C d65 c65 := fun I hI gs out h =>
  FnC.of_tree low mixed names (pl_ok I hI) (specs := []) (fuel := 100000) (c := code126) (pe := []) Tryz.func126 (by kernel_rfl) SpecsOk.nil (by kernel_rfl) h
theorem t66 : GoodC C d66 c66 := fun I hI gs out h =>
  FnC.of_tree low mixed names (pl_ok I hI) (specs := []) (fuel := 100000) (c := code127) (pe := []) Tryz.func127 (by kernel_rfl) SpecsOk.nil (by kernel_rfl) h
theorem w71_all : (PDef.treeOf d71).chk (leafLoop Tryz.prog tabsL pl [] 100000 s71 (annot [] b71)) (List.replicate s71.pre.np .arg) [] = true := (Tree.chkP_nil _ _ _).symm.trans (show w71 [] = true from (Tree.chkP_cut _ [] _ _ (Tree.chkP_cut _ [true] _ _ (Tree.chkP_cut _ [true, true] _ _ w71_TTT (Tree.chkP_cut _ [true, true, false] _ _ w71_TTFT (Tree.chkP_cut _ [true, true, false, false] _ _ w71_TTFFT (Tree.chkP_cut _ [true, true, false, false, false] _ _ w71_TTFFFT (Tree.chkP_cut _ [true, true, false, false, false, false] _ _ w71_TTFFFFT (Tree.chkP_cut _ [true, true, false, false, false, false, false] _ _ w71_TTFFFFFT (Tree.chkP_cut _ [true, true, false, false, false, false, false, false] _ _ w71_TTFFFFFFT (Tree.chkP_cut _ [true, true, false, false, false, false, false, false, false] _ _ w71_TTFFFFFFFT (Tree.chkP_cut _ [true, true, false, false, false, false, false, false, false, false] _ _ w71_TTFFFFFFFFT (Tree.chkP_cut _ [true, true, false, false, false, false, false, false, false, false, false] _ _ w71_TTFFFFFFFFFT (Tree.chkP_cut _ [true, true, false, false, false, false, false, false, false, false, false, false] _ _ w71_TTFFFFFFFFFFT (Tree.chkP_cut _ [true, true, false, false, false, false, false, false, false, false, false, false, false] _ _ w71_TTFFFFFFFFFFFT (Tree.chkP_cut _ [true, true, false, false, false, false, false, false, false, false, false, false, false, false] _ _ w71_TTFFFFFFFFFFFFT w71_TTFFFFFFFFFFFFF))))))))))))) w71_TF) w71_F))
theorem t71 : GoodC C d71 c71 := fun I hI gs out h =>
  LoopC.of_tree_at low mixed names (pl_ok I hI) (specs := []) (fuel := 100000) (sp := s71) (by kernel_rfl) rfl (ps := []) (b := b71) SpecsOk.nil (fun gs out h => hI 71 gs out h) w71_all h
theorem t74 : GoodC C d74 c74 := fun I hI gs out h =>
  FnS.of_tree low mixed names (pl_ok I hI) (specs := []) (fuel := 100000) (c := code63) (pe := []) (sp := s74) rfl Tryz.func63 (by kernel_rfl) SpecsOk.nil (by kernel_rfl) h
theorem t76 : GoodC C d76 c76 := fun I hI gs out h =>
  FnS.of_tree low mixed names (pl_ok I hI) (specs := []) (fuel := 100000) (c := code63) (pe := []) (sp := s76) rfl Tryz.func63 (by kernel_rfl) SpecsOk.nil (by kernel_rfl) h
theorem t79 : GoodC C d79 c79 := fun I hI gs out h =>
  FnS.of_tree low mixed names (pl_ok I hI) (specs := []) (fuel := 100000) (c := code63) (pe := []) (sp := s79) rfl Tryz.func63 (by kernel_rfl) SpecsOk.nil (by kernel_rfl) h
theorem t83 : GoodC C d83 c83 := fun I hI gs out h =>
  FnS.of_tree low mixed names (pl_ok I hI) (specs := []) (fuel := 100000) (c := code63) (pe := []) (sp := s83) rfl Tryz.func63 (by kernel_rfl) SpecsOk.nil (by kernel_rfl) h
theorem t87 : GoodC C d87 c87 := fun I hI gs out h =>
  FnS.of_tree low mixed names (pl_ok I hI) (specs := []) (fuel := 100000) (c := code63) (pe := []) (sp := s87) rfl Tryz.func63 (by kernel_rfl) SpecsOk.nil (by kernel_rfl) h
theorem t90 : GoodC C d90 c90 := fun I hI gs out h =>
  FnS.of_tree low mixed names (pl_ok I hI) (specs := []) (fuel := 100000) (c := code63) (pe := []) (sp := s90) rfl Tryz.func63 (by kernel_rfl) SpecsOk.nil (by kernel_rfl) h
theorem t93 : GoodC C d93 c93 := fun I hI gs out h =>
  FnS.of_tree low mixed names (pl_ok I hI) (specs := []) (fuel := 100000) (c := code63) (pe := []) (sp := s93) rfl Tryz.func63 (by kernel_rfl) SpecsOk.nil (by kernel_rfl) h
theorem t97 : GoodC C d97 c97 := fun I hI gs out h =>
  FnC.of_tree low mixed names (pl_ok I hI) (specs := [(0, s98)]) (fuel := 100000) (c := code100) (pe := []) Tryz.func100 (by kernel_rfl) (SpecsOk.cons rfl (fun gs out h => hI 98 gs out h) SpecsOk.nil) (by kernel_rfl) h
theorem t100 : GoodC C d100 c100 := fun I hI gs out h =>
  LoopC.of_tree_at low mixed names (pl_ok I hI) (specs := []) (fuel := 100000) (sp := s100) (by kernel_rfl) rfl (ps := []) (b := b100) SpecsOk.nil (fun gs out h => hI 100 gs out h) (by kernel_rfl) h
theorem t101 : GoodC C d101 c101 := fun I hI gs out h =>
  FnS.of_tree low mixed names (pl_ok I hI) (specs := []) (fuel := 100000) (c := code13) (pe := []) (sp := s101) rfl Tryz.func13 (by kernel_rfl) SpecsOk.nil (by kernel_rfl) h
theorem t106 : GoodC C d106 c106 := fun I hI gs out h =>
  LoopC.of_tree_at low mixed names (pl_ok I hI) (specs := []) (fuel := 100000) (sp := s106) (by kernel_rfl) rfl (ps := []) (b := b106) SpecsOk.nil (fun gs out h => hI 106 gs out h) (by kernel_rfl) h
end Y
end Go.Proofs.YtlifdeocdbjalaaGreatDoor
