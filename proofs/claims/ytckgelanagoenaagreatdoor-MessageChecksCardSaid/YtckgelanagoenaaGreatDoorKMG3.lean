/- Definitions keep their contracts: the ways of the bodies, run by the kernel. -/
import Derived.Test.YtckgelanagoenaaGreatDoorKMP
namespace Go.Proofs.YtckgelanagoenaaGreatDoor
open Go Go.Abs
set_option maxRecDepth 100000
set_option linter.unusedVariables false
set_option linter.unusedSimpArgs false
namespace M
theorem t0 : GoodC C d0 c0 := fun I hI gs out h =>
  FnC.of_tree low mixed names (pl_ok I hI) (specs := []) (fuel := 100000) (c := code3) (pe := []) Tryz.func3 (by kernel_rfl) SpecsOk.nil (by kernel_rfl) h
theorem t6 : GoodC C d6 c6 := fun I hI gs out h =>
  FnC.of_tree low mixed names (pl_ok I hI) (specs := [(0, s11)]) (fuel := 100000) (c := code80) (pe := []) Tryz.func80 (by kernel_rfl) (SpecsOk.cons rfl (fun gs out h => hI 11 gs out h) SpecsOk.nil) (by kernel_rfl) h
theorem t14 : GoodC C d14 c14 := fun I hI gs out h =>
  LoopC.of_tree_at low mixed names (pl_ok I hI) (specs := []) (fuel := 100000) (sp := s14) (by kernel_rfl) rfl (ps := []) (b := b14) SpecsOk.nil (fun gs out h => hI 14 gs out h) (by kernel_rfl) h
theorem t16 : GoodC C d16 c16 := fun I hI gs out h =>
  FnC.of_tree low mixed names (pl_ok I hI) (specs := []) (fuel := 100000) (c := code58) (pe := []) Tryz.func58 (by kernel_rfl) SpecsOk.nil (by kernel_rfl) h
theorem t17 : GoodC C d17 c17 := fun I hI gs out h =>
  FnC.of_tree low mixed names (pl_ok I hI) (specs := [(0, s18)]) (fuel := 100000) (c := code117) (pe := []) Tryz.func117 (by kernel_rfl) (SpecsOk.cons rfl (fun gs out h => hI 18 gs out h) SpecsOk.nil) (by kernel_rfl) h
theorem t18 : GoodC C d18 c18 := fun I hI gs out h =>
  LoopC.of_tree_at low mixed names (pl_ok I hI) (specs := []) (fuel := 100000) (sp := s18) (by kernel_rfl) rfl (ps := []) (b := b18) SpecsOk.nil (fun gs out h => hI 18 gs out h) (by kernel_rfl) h
theorem t21 : GoodC C d21 c21 := fun I hI gs out h =>
  LoopC.of_tree_at low mixed names (pl_ok I hI) (specs := []) (fuel := 100000) (sp := s21) (by kernel_rfl) rfl (ps := []) (b := b21) SpecsOk.nil (fun gs out h => hI 21 gs out h) (by kernel_rfl) h
theorem t31 : GoodC C d31 c31 := fun I hI gs out h =>
  FnC.of_tree low mixed names (pl_ok I hI) (specs := []) (fuel := 100000) (c := code166) (pe := []) Tryz.func166 (by kernel_rfl) SpecsOk.nil (by kernel_rfl) h
theorem t33 : GoodC C d33 c33 := fun I hI gs out h =>
  FnC.of_tree low mixed names (pl_ok I hI) (specs := []) (fuel := 100000) (c := code168) (pe := []) Tryz.func168 (by kernel_rfl) SpecsOk.nil (by kernel_rfl) h
theorem t36 : GoodC C d36 c36 := fun I hI gs out h =>
  FnC.of_tree low mixed names (pl_ok I hI) (specs := []) (fuel := 100000) (c := code171) (pe := []) Tryz.func171 (by kernel_rfl) SpecsOk.nil (by kernel_rfl) h
theorem t42 : GoodC C d42 c42 := fun I hI gs out h =>
  FnS.of_tree low mixed names (pl_ok I hI) (specs := []) (fuel := 100000) (c := code65) (pe := []) (sp := s42) rfl Tryz.func65 (by kernel_rfl) SpecsOk.nil (by kernel_rfl) h
theorem t60 : GoodC C d60 c60 := fun I hI gs out h =>
  FnS.of_tree low mixed names (pl_ok I hI) (specs := []) (fuel := 100000) (c := code65) (pe := []) (sp := s60) rfl Tryz.func65 (by kernel_rfl) SpecsOk.nil (by kernel_rfl) h
theorem t64 : GoodC C d64 c64 := fun I hI gs out h =>
  FnS.of_tree low mixed names (pl_ok I hI) (specs := []) (fuel := 100000) (c := code65) (pe := []) (sp := s64) rfl Tryz.func65 (by kernel_rfl) SpecsOk.nil (by kernel_rfl) h
theorem t68 : GoodC C d68 c68 := fun I hI gs out h =>
  FnS.of_tree low mixed names (pl_ok I hI) (specs := []) (fuel := 100000) (c := code65) (pe := []) (sp := s68) rfl Tryz.func65 (by kernel_rfl) SpecsOk.nil (by kernel_rfl) h
theorem t72 : GoodC C d72 c72 := fun I hI gs out h =>
  FnS.of_tree low mixed names (pl_ok I hI) (specs := []) (fuel := 100000) (c := code65) (pe := []) (sp := s72) rfl Tryz.func65 (by kernel_rfl) SpecsOk.nil (by kernel_rfl) h
theorem t74 : GoodC C d74 c74 := fun I hI gs out h =>
  FnC.of_tree low mixed names (pl_ok I hI) (specs := []) (fuel := 100000) (c := code67) (pe := []) Tryz.func67 (by kernel_rfl) SpecsOk.nil (by kernel_rfl) h
theorem t75 : GoodC C d75 c75 := fun I hI gs out h =>
  FnC.of_tree low mixed names (pl_ok I hI) (specs := [(0, s76)]) (fuel := 100000) (c := code122) (pe := []) Tryz.func122 (by kernel_rfl) (SpecsOk.cons rfl (fun gs out h => hI 76 gs out h) SpecsOk.nil) (by kernel_rfl) h
theorem t77 : GoodC C d77 c77 := fun I hI gs out h =>
  LoopC.of_tree_at low mixed names (pl_ok I hI) (specs := [(0, s78)]) (fuel := 100000) (sp := s77) (by kernel_rfl) rfl (ps := []) (b := b77) (SpecsOk.cons rfl (fun gs out h => hI 78 gs out h) SpecsOk.nil) (fun gs out h => hI 77 gs out h) (by kernel_rfl) h
theorem t80 : GoodC C d80 c80 := fun I hI gs out h =>
  FnC.of_tree low mixed names (pl_ok I hI) (specs := [(0, s82)]) (fuel := 100000) (c := code68) (pe := []) Tryz.func68 (by kernel_rfl) (SpecsOk.cons rfl (fun gs out h => hI 82 gs out h) SpecsOk.nil) (by kernel_rfl) h
theorem t81 : GoodC C d81 c81 := fun I hI gs out h =>
  FnC.of_tree low mixed names (pl_ok I hI) (specs := []) (fuel := 100000) (c := code85) (pe := []) Tryz.func85 (by kernel_rfl) SpecsOk.nil (by kernel_rfl) h
theorem t82 : GoodC C d82 c82 := fun I hI gs out h =>
  LoopC.of_tree_at low mixed names (pl_ok I hI) (specs := []) (fuel := 100000) (sp := s82) (by kernel_rfl) rfl (ps := []) (b := b82) SpecsOk.nil (fun gs out h => hI 82 gs out h) (by kernel_rfl) h
theorem t86 : GoodC C d86 c86 := fun I hI gs out h =>
  FnC.of_tree low mixed names (pl_ok I hI) (specs := []) (fuel := 100000) (c := code69) (pe := []) Tryz.func69 (by kernel_rfl) SpecsOk.nil (by kernel_rfl) h
theorem t90 : GoodC C d90 c90 := fun I hI gs out h =>
  LoopC.of_tree_at low mixed names (pl_ok I hI) (specs := []) (fuel := 100000) (sp := s90) (by kernel_rfl) rfl (ps := []) (b := b90) SpecsOk.nil (fun gs out h => hI 90 gs out h) (by kernel_rfl) h
theorem t93 : GoodC C d93 c93 := fun I hI gs out h =>
  FnC.of_tree low mixed names (pl_ok I hI) (specs := [(0, s96)]) (fuel := 100000) (c := code89) (pe := []) Tryz.func89 (by kernel_rfl) (SpecsOk.cons rfl (fun gs out h => hI 96 gs out h) SpecsOk.nil) (by kernel_rfl) h
theorem t105 : GoodC C d105 c105 := fun I hI gs out h =>
  FnC.of_tree low mixed names (pl_ok I hI) (specs := []) (fuel := 100000) (c := code70) (pe := []) Tryz.func70 (by kernel_rfl) SpecsOk.nil (by kernel_rfl) h
theorem t108 : GoodC C d108 c108 := fun I hI gs out h =>
  FnC.of_tree low mixed names (pl_ok I hI) (specs := [(0, s109)]) (fuel := 100000) (c := code178) (pe := []) Tryz.func178 (by kernel_rfl) (SpecsOk.cons rfl (fun gs out h => hI 109 gs out h) SpecsOk.nil) (by kernel_rfl) h
theorem t109 : GoodC C d109 c109 := fun I hI gs out h =>
  LoopC.of_tree_at low mixed names (pl_ok I hI) (specs := []) (fuel := 100000) (sp := s109) (by kernel_rfl) rfl (ps := []) (b := b109) SpecsOk.nil (fun gs out h => hI 109 gs out h) (by kernel_rfl) h
theorem t110 : GoodC C d110 c110 := fun I hI gs out h =>
  FnC.of_tree low mixed names (pl_ok I hI) (specs := []) (fuel := 100000) (c := code126) (pe := []) Tryz.func126 (by kernel_rfl) SpecsOk.nil (by kernel_rfl) h
theorem t112 : GoodC C d112 c112 := fun I hI gs out h =>
  FnC.of_tree low mixed names (pl_ok I hI) (specs := [(0, s113)]) (fuel := 100000) (c := code215) (pe := []) Tryz.func215 (by kernel_rfl) (SpecsOk.cons rfl (fun gs out h => hI 113 gs out h) SpecsOk.nil) (by kernel_rfl) h
theorem t116 : GoodC C d116 c116 := fun I hI gs out h =>
  LoopC.of_tree_at low mixed names (pl_ok I hI) (specs := []) (fuel := 100000) (sp := s116) (by kernel_rfl) rfl (ps := []) (b := b116) SpecsOk.nil (fun gs out h => hI 116 gs out h) (by kernel_rfl) h
theorem t120 : GoodC C d120 c120 := fun I hI gs out h =>
  LoopC.of_tree_at low mixed names (pl_ok I hI) (specs := []) (fuel := 100000) (sp := s120) (by kernel_rfl) rfl (ps := []) (b := b120) SpecsOk.nil (fun gs out h => hI 120 gs out h) (by kernel_rfl) h
theorem t125 : GoodC C d125 c125 := fun I hI gs out h =>
  FnC.of_tree low mixed names (pl_ok I hI) (specs := [(0, s126)]) (fuel := 100000) (c := code16) (pe := []) Tryz.func16 (by kernel_rfl) (SpecsOk.cons rfl (fun gs out h => hI 126 gs out h) SpecsOk.nil) (by kernel_rfl) h
theorem t128 : GoodC C d128 c128 := fun I hI gs out h =>
  FnC.of_tree low mixed names (pl_ok I hI) (specs := [(0, s129)]) (fuel := 100000) (c := code84) (pe := []) Tryz.func84 (by kernel_rfl) (SpecsOk.cons rfl (fun gs out h => hI 129 gs out h) SpecsOk.nil) (by kernel_rfl) h
theorem t130 : GoodC C d130 c130 := fun I hI gs out h =>
  FnC.of_tree low mixed names (pl_ok I hI) (specs := []) (fuel := 100000) (c := code135) (pe := []) Tryz.func135 (by kernel_rfl) SpecsOk.nil (by kernel_rfl) h
end M
end Go.Proofs.YtckgelanagoenaaGreatDoor
