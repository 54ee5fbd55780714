/- Definitions keep their contracts: the ways of the bodies, run by the kernel. -/
import Derived.Test.YtlifdeocdbjalaaGreatDoorKYP
import Derived.Test.YtlifdeocdbjalaaGreatDoorKYC0
import Derived.Test.YtlifdeocdbjalaaGreatDoorKYC1
import Derived.Test.YtlifdeocdbjalaaGreatDoorKYC2
import Derived.Test.YtlifdeocdbjalaaGreatDoorKYC3
namespace Go.Proofs.YtlifdeocdbjalaaGreatDoor
open Go Go.Abs
set_option maxRecDepth 100000
set_option linter.unusedVariables false
set_option linter.unusedSimpArgs false
namespace Y
theorem t4 : GoodC C d4 c4 := fun I hI gs out h =>
  LoopC.of_tree_at low mixed names (pl_ok I hI) (specs := []) (fuel := 100000) (sp := s4) (by kernel_rfl) rfl (ps := []) (b := b4) SpecsOk.nil (fun gs out h => hI 4 gs out h) (by kernel_rfl) h
theorem t5 : GoodC C d5 c5 := fun I hI gs out h =>
  FnC.of_tree low mixed names (pl_ok I hI) (specs := [(0, s6)]) (fuel := 100000) (c := code46) (pe := []) Tryz.func46 (by kernel_rfl) (SpecsOk.cons rfl (fun gs out h => hI 6 gs out h) SpecsOk.nil) (by kernel_rfl) h
theorem t7 : GoodC C d7 c7 := fun I hI gs out h =>
  FnC.of_tree low mixed names (pl_ok I hI) (specs := [(0, s12)]) (fuel := 100000) (c := code67) (pe := []) Tryz.func67 (by kernel_rfl) (SpecsOk.cons rfl (fun gs out h => hI 12 gs out h) SpecsOk.nil) (by kernel_rfl) h
theorem t9 : GoodC C d9 c9 := fun I hI gs out h =>
  FnC.of_tree low mixed names (pl_ok I hI) (specs := [(0, s10)]) (fuel := 100000) (c := code139) (pe := []) Tryz.func139 (by kernel_rfl) (SpecsOk.cons rfl (fun gs out h => hI 10 gs out h) SpecsOk.nil) (by kernel_rfl) h
theorem t10 : GoodC C d10 c10 := fun I hI gs out h =>
  LoopC.of_tree_at low mixed names (pl_ok I hI) (specs := []) (fuel := 100000) (sp := s10) (by kernel_rfl) rfl (ps := []) (b := b10) SpecsOk.nil (fun gs out h => hI 10 gs out h) (by kernel_rfl) h
theorem t24 : GoodC C d24 c24 := fun I hI gs out h =>
  FnC.of_tree low mixed names (pl_ok I hI) (specs := []) (fuel := 100000) (c := code134) (pe := []) Tryz.func134 (by kernel_rfl) SpecsOk.nil (by kernel_rfl) h
theorem t25 : GoodC C d25 c25 := fun I hI gs out h =>
  FnC.of_tree low mixed names (pl_ok I hI) (specs := []) (fuel := 100000) (c := code98) (pe := []) Tryz.func98 (by kernel_rfl) SpecsOk.nil (by kernel_rfl) h
theorem t26 : GoodC C d26 c26 := fun I hI gs out h =>
  FnC.of_tree low mixed names (pl_ok I hI) (specs := []) (fuel := 100000) (c := code132) (pe := []) Tryz.func132 (by kernel_rfl) SpecsOk.nil (by kernel_rfl) h
theorem t30 : GoodC C d30 c30 := fun I hI gs out h =>
  LoopC.of_tree_at low mixed names (pl_ok I hI) (specs := []) (fuel := 100000) (sp := s30) (by kernel_rfl) rfl (ps := []) (b := b30) SpecsOk.nil (fun gs out h => hI 30 gs out h) (by kernel_rfl) h
theorem t31 : GoodC C d31 c31 := fun _ _ _ _ h => cloneP_ok123 h
theorem t33 : GoodC C d33 c33 := fun _ _ _ _ h => cmp_ok h
theorem t39 : GoodC C d39 c39 := fun I hI gs out h =>
  FnS.of_tree low mixed names (pl_ok I hI) (specs := []) (fuel := 100000) (c := code14) (pe := []) (sp := s39) rfl Tryz.func14 (by kernel_rfl) SpecsOk.nil (by kernel_rfl) h
theorem t40 : GoodC C d40 c40 := fun I hI gs out h =>
  FnS.of_tree low mixed names (pl_ok I hI) (specs := []) (fuel := 100000) (c := code44) (pe := []) (sp := s40) rfl Tryz.func44 (by kernel_rfl) SpecsOk.nil (by kernel_rfl) h
theorem t42 : GoodC C d42 c42 := fun I hI gs out h =>
  FnC.of_tree low mixed names (pl_ok I hI) (specs := [(0, s43)]) (fuel := 100000) (c := code74) (pe := []) Tryz.func74 (by kernel_rfl) (SpecsOk.cons rfl (fun gs out h => hI 43 gs out h) SpecsOk.nil) (by kernel_rfl) h
theorem t51 : GoodC C d51 c51 := fun I hI gs out h =>
  FnC.of_tree low mixed names (pl_ok I hI) (specs := [(0, s55)]) (fuel := 100000) (c := code38) (pe := []) Tryz.func38 (by kernel_rfl) (SpecsOk.cons rfl (fun gs out h => hI 55 gs out h) SpecsOk.nil) (by kernel_rfl) h
theorem t54 : GoodC C d54 c54 := fun I hI gs out h =>
  LoopC.of_tree_at low mixed names (pl_ok I hI) (specs := []) (fuel := 100000) (sp := s54) (by kernel_rfl) rfl (ps := []) (b := b54) SpecsOk.nil (fun gs out h => hI 54 gs out h) (by kernel_rfl) h
theorem t55 : GoodC C d55 c55 := fun I hI gs out h =>
  LoopC.of_tree_at low mixed names (pl_ok I hI) (specs := []) (fuel := 100000) (sp := s55) (by kernel_rfl) rfl (ps := []) (b := b55) SpecsOk.nil (fun gs out h => hI 55 gs out h) (by kernel_rfl) h
theorem t61 : GoodC C d61 c61 := fun I hI gs out h =>
  LoopC.of_tree_at low mixed names (pl_ok I hI) (specs := []) (fuel := 100000) (sp := s61) (by kernel_rfl) rfl (ps := []) (b := b61) SpecsOk.nil (fun gs out h => hI 61 gs out h) (by kernel_rfl) h
theorem t63 : GoodC C d63 c63 := fun I hI gs out h =>
  FnC.of_tree low mixed names (pl_ok I hI) (specs := []) (fuel := 100000) (c := code124) (pe := []) Tryz.func124 (by kernel_rfl) SpecsOk.nil (by kernel_rfl) h
theorem t64 : GoodC C d64 c64 := fun I hI gs out h =>
  FnC.of_tree low mixed names (pl_ok I hI) (specs := []) (fuel := 100000) (c := code125) (pe := []) Tryz.func125 (by kernel_rfl) SpecsOk.nil (by kernel_rfl) h
theorem t68 : GoodC C d68 c68 := fun I hI gs out h =>
  FnC.of_tree low mixed names (pl_ok I hI) (specs := []) (fuel := 100000) (c := code129) (pe := []) Tryz.func129 (by kernel_rfl) SpecsOk.nil (by kernel_rfl) h
theorem t69 : GoodC C d69 c69 := fun I hI gs out h =>
  LoopC.of_tree_at low mixed names (pl_ok I hI) (specs := []) (fuel := 100000) (sp := s69) (by kernel_rfl) rfl (ps := []) (b := b69) SpecsOk.nil (fun gs out h => hI 69 gs out h) (by kernel_rfl) h
theorem w72_all : (PDef.treeOf d72).chk (leafLoop Tryz.prog tabsL pl [] 100000 s72 (annot [] b72)) (List.replicate s72.pre.np .arg) [] = true := (Tree.chkP_nil _ _ _).symm.trans (show w72 [] = true from (Tree.chkP_cut _ [] _ _ (Tree.chkP_cut _ [true] _ _ w72_TT (Tree.chkP_cut _ [true, false] _ _ w72_TFT (Tree.chkP_cut _ [true, false, false] _ _ w72_TFFT (Tree.chkP_cut _ [true, false, false, false] _ _ w72_TFFFT (Tree.chkP_cut _ [true, false, false, false, false] _ _ w72_TFFFFT w72_TFFFFF))))) w72_F))
theorem t72 : GoodC C d72 c72 := fun I hI gs out h =>
  LoopC.of_tree_at low mixed names (pl_ok I hI) (specs := []) (fuel := 100000) (sp := s72) (by kernel_rfl) rfl (ps := []) (b := b72) SpecsOk.nil (fun gs out h => hI 72 gs out h) w72_all h
theorem t75 : GoodC C d75 c75 := fun I hI gs out h =>
  FnS.of_tree low mixed names (pl_ok I hI) (specs := []) (fuel := 100000) (c := code63) (pe := []) (sp := s75) rfl Tryz.func63 (by kernel_rfl) SpecsOk.nil (by kernel_rfl) h
theorem t81 : GoodC C d81 c81 := fun I hI gs out h =>
  FnS.of_tree low mixed names (pl_ok I hI) (specs := []) (fuel := 100000) (c := code63) (pe := []) (sp := s81) rfl Tryz.func63 (by kernel_rfl) SpecsOk.nil (by kernel_rfl) h
theorem t85 : GoodC C d85 c85 := fun I hI gs out h =>
  FnS.of_tree low mixed names (pl_ok I hI) (specs := []) (fuel := 100000) (c := code63) (pe := []) (sp := s85) rfl Tryz.func63 (by kernel_rfl) SpecsOk.nil (by kernel_rfl) h
theorem t89 : GoodC C d89 c89 := fun I hI gs out h =>
  FnS.of_tree low mixed names (pl_ok I hI) (specs := []) (fuel := 100000) (c := code63) (pe := []) (sp := s89) rfl Tryz.func63 (by kernel_rfl) SpecsOk.nil (by kernel_rfl) h
theorem t92 : GoodC C d92 c92 := fun I hI gs out h =>
  FnS.of_tree low mixed names (pl_ok I hI) (specs := []) (fuel := 100000) (c := code63) (pe := []) (sp := s92) rfl Tryz.func63 (by kernel_rfl) SpecsOk.nil (by kernel_rfl) h
theorem t95 : GoodC C d95 c95 := fun I hI gs out h =>
  FnS.of_tree low mixed names (pl_ok I hI) (specs := []) (fuel := 100000) (c := code63) (pe := []) (sp := s95) rfl Tryz.func63 (by kernel_rfl) SpecsOk.nil (by kernel_rfl) h
theorem t99 : GoodC C d99 c99 := fun I hI gs out h =>
  LoopC.of_tree_at low mixed names (pl_ok I hI) (specs := [(0, s100)]) (fuel := 100000) (sp := s99) (by kernel_rfl) rfl (ps := []) (b := b99) (SpecsOk.cons rfl (fun gs out h => hI 100 gs out h) SpecsOk.nil) (fun gs out h => hI 99 gs out h) (by kernel_rfl) h
theorem t102 : GoodC C d102 c102 := fun I hI gs out h =>
  FnS.of_tree low mixed names (pl_ok I hI) (specs := []) (fuel := 100000) (c := code42) (pe := []) (sp := s102) rfl Tryz.func42 (by kernel_rfl) SpecsOk.nil (by kernel_rfl) h
theorem t103 : GoodC C d103 c103 := fun I hI gs out h =>
  FnS.of_tree low mixed names (pl_ok I hI) (specs := []) (fuel := 100000) (c := code9) (pe := []) (sp := s103) rfl Tryz.func9 (by kernel_rfl) SpecsOk.nil (by kernel_rfl) h
theorem t105 : GoodC C d105 c105 := fun I hI gs out h =>
  FnS.of_tree low mixed names (pl_ok I hI) (specs := []) (fuel := 100000) (c := code10) (pe := []) (sp := s105) rfl Tryz.func10 (by kernel_rfl) SpecsOk.nil (by kernel_rfl) h
theorem t2 : GoodC C d2 c2 := fun I hI gs out h =>
  FnC.of_tree low mixed names (pl_ok I hI) (specs := []) (fuel := 100000) (c := code8) (pe := []) Tryz.func8 (by kernel_rfl) SpecsOk.nil (by kernel_rfl) h
theorem t6 : GoodC C d6 c6 := fun I hI gs out h =>
  LoopC.of_tree_at low mixed names (pl_ok I hI) (specs := []) (fuel := 100000) (sp := s6) (by kernel_rfl) rfl (ps := []) (b := b6) SpecsOk.nil (fun gs out h => hI 6 gs out h) (by kernel_rfl) h
theorem t11 : GoodC C d11 c11 := fun I hI gs out h =>
  LoopC.of_tree_at low mixed names (pl_ok I hI) (specs := []) (fuel := 100000) (sp := s11) (by kernel_rfl) rfl (ps := []) (b := b11) SpecsOk.nil (fun gs out h => hI 11 gs out h) (by kernel_rfl) h
theorem t12 : GoodC C d12 c12 := fun I hI gs out h =>
  LoopC.of_tree_at low mixed names (pl_ok I hI) (specs := []) (fuel := 100000) (sp := s12) (by kernel_rfl) rfl (ps := []) (b := b12) SpecsOk.nil (fun gs out h => hI 12 gs out h) (by kernel_rfl) h
theorem t13 : GoodC C d13 c13 := fun I hI gs out h =>
  FnC.of_tree low mixed names (pl_ok I hI) (specs := []) (fuel := 100000) (c := code104) (pe := []) Tryz.func104 (by kernel_rfl) SpecsOk.nil (by kernel_rfl) h
theorem t17 : GoodC C d17 c17 := fun I hI gs out h =>
  FnC.of_tree low mixed names (pl_ok I hI) (specs := []) (fuel := 100000) (c := code41) (pe := []) Tryz.func41 (by kernel_rfl) SpecsOk.nil (by kernel_rfl) h
theorem t19 : GoodC C d19 c19 := fun I hI gs out h =>
  FnC.of_tree low mixed names (pl_ok I hI) (specs := [(0, s20)]) (fuel := 100000) (c := code68) (pe := []) Tryz.func68 (by kernel_rfl) (SpecsOk.cons rfl (fun gs out h => hI 20 gs out h) SpecsOk.nil) (by kernel_rfl) h
theorem t20 : GoodC C d20 c20 := fun I hI gs out h =>
  LoopC.of_tree_at low mixed names (pl_ok I hI) (specs := []) (fuel := 100000) (sp := s20) (by kernel_rfl) rfl (ps := []) (b := b20) SpecsOk.nil (fun gs out h => hI 20 gs out h) (by kernel_rfl) h
theorem t21 : GoodC C d21 c21 := fun I hI gs out h =>
  FnC.of_tree low mixed names (pl_ok I hI) (specs := []) (fuel := 100000) (c := code106) (pe := []) Tryz.func106 (by kernel_rfl) SpecsOk.nil (by kernel_rfl) h
theorem t22 : GoodC C d22 c22 := fun I hI gs out h =>
  FnC.of_tree low mixed names (pl_ok I hI) (specs := [(0, s23)]) (fuel := 100000) (c := code99) (pe := []) Tryz.func99 (by kernel_rfl) (SpecsOk.cons rfl (fun gs out h => hI 23 gs out h) SpecsOk.nil) (by kernel_rfl) h
theorem t29 : GoodC C d29 c29 := fun I hI gs out h =>
  FnC.of_tree low mixed names (pl_ok I hI) (specs := [(0, s30)]) (fuel := 100000) (c := code73) (pe := []) Tryz.func73 (by kernel_rfl) (SpecsOk.cons rfl (fun gs out h => hI 30 gs out h) SpecsOk.nil) (by kernel_rfl) h
theorem t34 : GoodC C d34 c34 := fun _ _ _ _ h => add64_ok h
theorem t41 : GoodC C d41 c41 := fun I hI gs out h =>
  FnC.of_tree low mixed names (pl_ok I hI) (specs := []) (fuel := 100000) (c := code45) (pe := []) Tryz.func45 (by kernel_rfl) SpecsOk.nil (by kernel_rfl) h
theorem t46 : GoodC C d46 c46 := fun I hI gs out h =>
  LoopC.of_tree_at low mixed names (pl_ok I hI) (specs := []) (fuel := 100000) (sp := s46) (by kernel_rfl) rfl (ps := []) (b := b46) SpecsOk.nil (fun gs out h => hI 46 gs out h) (by kernel_rfl) h
theorem t47 : GoodC C d47 c47 := fun I hI gs out h =>
  FnS.of_tree low mixed names (pl_ok I hI) (specs := []) (fuel := 100000) (c := code11) (pe := []) (sp := s47) rfl Tryz.func11 (by kernel_rfl) SpecsOk.nil (by kernel_rfl) h
theorem t48 : GoodC C d48 c48 := fun I hI gs out h =>
  FnS.of_tree low mixed names (pl_ok I hI) (specs := []) (fuel := 100000) (c := code17) (pe := []) (sp := s48) rfl Tryz.func17 (by kernel_rfl) SpecsOk.nil (by kernel_rfl) h
theorem t49 : GoodC C d49 c49 := fun I hI gs out h =>
  FnS.of_tree low mixed names (pl_ok I hI) (specs := [(0, s50)]) (fuel := 100000) (c := code37) (pe := []) (sp := s49) rfl Tryz.func37 (by kernel_rfl) (SpecsOk.cons rfl (fun gs out h => hI 50 gs out h) SpecsOk.nil) (by kernel_rfl) h
theorem t52 : GoodC C d52 c52 := fun I hI gs out h =>
  FnC.of_tree low mixed names (pl_ok I hI) (specs := [(0, s53)]) (fuel := 100000) (c := code34) (pe := []) Tryz.func34 (by kernel_rfl) (SpecsOk.cons rfl (fun gs out h => hI 53 gs out h) SpecsOk.nil) (by kernel_rfl) h
theorem t57 : GoodC C d57 c57 := fun I hI gs out h =>
  FnC.of_tree low mixed names (pl_ok I hI) (specs := [(0, s69), (1, s71), (2, s72), (3, s99)]) (fuel := 100000) (c := code27) (pe := []) Tryz.func27 (by kernel_rfl) (SpecsOk.cons rfl (fun gs out h => hI 69 gs out h) (SpecsOk.cons rfl (fun gs out h => hI 71 gs out h) (SpecsOk.cons rfl (fun gs out h => hI 72 gs out h) (SpecsOk.cons rfl (fun gs out h => hI 99 gs out h) SpecsOk.nil)))) (by kernel_rfl) h
theorem t58 : GoodC C d58 c58 := fun I hI gs out h =>
  FnC.of_tree low mixed names (pl_ok I hI) (specs := []) (fuel := 100000) (c := code58) (pe := []) Tryz.func58 (by kernel_rfl) SpecsOk.nil (by kernel_rfl) h
theorem t59 : GoodC C d59 c59 := fun I hI gs out h =>
  FnC.of_tree low mixed names (pl_ok I hI) (specs := [(0, s61)]) (fuel := 100000) (c := code59) (pe := []) Tryz.func59 (by kernel_rfl) (SpecsOk.cons rfl (fun gs out h => hI 61 gs out h) SpecsOk.nil) (by kernel_rfl) h
theorem t67 : GoodC C d67 c67 := fun I hI gs out h =>
  FnC.of_tree low mixed names (pl_ok I hI) (specs := []) (fuel := 100000) (c := code128) (pe := []) Tryz.func128 (by kernel_rfl) SpecsOk.nil (by kernel_rfl) h
theorem t77 : GoodC C d77 c77 := fun I hI gs out h =>
  FnS.of_tree low mixed names (pl_ok I hI) (specs := []) (fuel := 100000) (c := code63) (pe := []) (sp := s77) rfl Tryz.func63 (by kernel_rfl) SpecsOk.nil (by kernel_rfl) h
theorem t78 : GoodC C d78 c78 := fun I hI gs out h =>
  FnS.of_tree low mixed names (pl_ok I hI) (specs := []) (fuel := 100000) (c := code63) (pe := []) (sp := s78) rfl Tryz.func63 (by kernel_rfl) SpecsOk.nil (by kernel_rfl) h
theorem t80 : GoodC C d80 c80 := fun I hI gs out h =>
  FnS.of_tree low mixed names (pl_ok I hI) (specs := []) (fuel := 100000) (c := code63) (pe := []) (sp := s80) rfl Tryz.func63 (by kernel_rfl) SpecsOk.nil (by kernel_rfl) h
theorem t84 : GoodC C d84 c84 := fun I hI gs out h =>
  FnS.of_tree low mixed names (pl_ok I hI) (specs := []) (fuel := 100000) (c := code63) (pe := []) (sp := s84) rfl Tryz.func63 (by kernel_rfl) SpecsOk.nil (by kernel_rfl) h
theorem t88 : GoodC C d88 c88 := fun I hI gs out h =>
  FnS.of_tree low mixed names (pl_ok I hI) (specs := []) (fuel := 100000) (c := code63) (pe := []) (sp := s88) rfl Tryz.func63 (by kernel_rfl) SpecsOk.nil (by kernel_rfl) h
theorem t91 : GoodC C d91 c91 := fun I hI gs out h =>
  FnS.of_tree low mixed names (pl_ok I hI) (specs := []) (fuel := 100000) (c := code63) (pe := []) (sp := s91) rfl Tryz.func63 (by kernel_rfl) SpecsOk.nil (by kernel_rfl) h
theorem t94 : GoodC C d94 c94 := fun I hI gs out h =>
  FnS.of_tree low mixed names (pl_ok I hI) (specs := []) (fuel := 100000) (c := code63) (pe := []) (sp := s94) rfl Tryz.func63 (by kernel_rfl) SpecsOk.nil (by kernel_rfl) h
theorem t96 : GoodC C d96 c96 := fun I hI gs out h =>
  FnC.of_tree low mixed names (pl_ok I hI) (specs := []) (fuel := 100000) (c := code65) (pe := []) Tryz.func65 (by kernel_rfl) SpecsOk.nil (by kernel_rfl) h
theorem t98 : GoodC C d98 c98 := fun I hI gs out h =>
  LoopC.of_tree_at low mixed names (pl_ok I hI) (specs := []) (fuel := 100000) (sp := s98) (by kernel_rfl) rfl (ps := []) (b := b98) SpecsOk.nil (fun gs out h => hI 98 gs out h) (by kernel_rfl) h
theorem t104 : GoodC C d104 c104 := fun I hI gs out h =>
  FnS.of_tree low mixed names (pl_ok I hI) (specs := []) (fuel := 100000) (c := code32) (pe := []) (sp := s104) rfl Tryz.func32 (by kernel_rfl) SpecsOk.nil (by kernel_rfl) h
end Y
end Go.Proofs.YtlifdeocdbjalaaGreatDoor
