/- Definitions keep their contracts: the ways of the bodies, run by the kernel. -/
import Derived.Test.YtckgelanagoenaaGreatDoorKMP
namespace Go.Proofs.YtckgelanagoenaaGreatDoor
open Go Go.Abs
set_option maxRecDepth 100000
set_option linter.unusedVariables false
set_option linter.unusedSimpArgs false
namespace M
theorem t1 : GoodC C d1 c1 := fun I hI gs out h =>
  FnC.of_tree low mixed names (pl_ok I hI) (specs := []) (fuel := 100000) (c := code11) (pe := []) Tryz.func11 (by kernel_rfl) SpecsOk.nil (by kernel_rfl) h
theorem t5 : GoodC C d5 c5 := fun I hI gs out h =>
  LoopC.of_tree_at low mixed names (pl_ok I hI) (specs := []) (fuel := 100000) (sp := s5) (by kernel_rfl) rfl (ps := []) (b := b5) SpecsOk.nil (fun gs out h => hI 5 gs out h) (by kernel_rfl) h
theorem t7 : GoodC C d7 c7 := fun I hI gs out h =>
  FnC.of_tree low mixed names (pl_ok I hI) (specs := [(0, s10)]) (fuel := 100000) (c := code93) (pe := []) Tryz.func93 (by kernel_rfl) (SpecsOk.cons rfl (fun gs out h => hI 10 gs out h) SpecsOk.nil) (by kernel_rfl) h
theorem t9 : GoodC C d9 c9 := fun I hI gs out h =>
  LoopC.of_tree_at low mixed names (pl_ok I hI) (specs := []) (fuel := 100000) (sp := s9) (by kernel_rfl) rfl (ps := []) (b := b9) SpecsOk.nil (fun gs out h => hI 9 gs out h) (by kernel_rfl) h
theorem t19 : GoodC C d19 c19 := fun I hI gs out h =>
  FnC.of_tree low mixed names (pl_ok I hI) (specs := []) (fuel := 100000) (c := code13) (pe := []) Tryz.func13 (by kernel_rfl) SpecsOk.nil (by kernel_rfl) h
theorem t22 : GoodC C d22 c22 := fun I hI gs out h =>
  FnC.of_tree low mixed names (pl_ok I hI) (specs := [(0, s23)]) (fuel := 100000) (c := code60) (pe := []) Tryz.func60 (by kernel_rfl) (SpecsOk.cons rfl (fun gs out h => hI 23 gs out h) SpecsOk.nil) (by kernel_rfl) h
theorem t25 : GoodC C d25 c25 := fun I hI gs out h =>
  LoopC.of_tree_at low mixed names (pl_ok I hI) (specs := []) (fuel := 100000) (sp := s25) (by kernel_rfl) rfl (ps := []) (b := b25) SpecsOk.nil (fun gs out h => hI 25 gs out h) (by kernel_rfl) h
theorem t28 : GoodC C d28 c28 := fun I hI gs out h =>
  FnC.of_tree low mixed names (pl_ok I hI) (specs := [(0, s30)]) (fuel := 100000) (c := code62) (pe := []) Tryz.func62 (by kernel_rfl) (SpecsOk.cons rfl (fun gs out h => hI 30 gs out h) SpecsOk.nil) (by kernel_rfl) h
theorem t32 : GoodC C d32 c32 := fun I hI gs out h =>
  FnC.of_tree low mixed names (pl_ok I hI) (specs := []) (fuel := 100000) (c := code167) (pe := []) Tryz.func167 (by kernel_rfl) SpecsOk.nil (by kernel_rfl) h
theorem t40 : GoodC C d40 c40 := fun I hI gs out h =>
  LoopC.of_tree_at low mixed names (pl_ok I hI) (specs := []) (fuel := 100000) (sp := s40) (by kernel_rfl) rfl (ps := []) (b := b40) SpecsOk.nil (fun gs out h => hI 40 gs out h) (by kernel_rfl) h
theorem t41 : GoodC C d41 c41 := fun I hI gs out h =>
  LoopC.of_tree_at low mixed names (pl_ok I hI) (specs := []) (fuel := 100000) (sp := s41) (by kernel_rfl) rfl (ps := []) (b := b41) SpecsOk.nil (fun gs out h => hI 41 gs out h) (by kernel_rfl) h
theorem t43 : GoodC C d43 c43 := fun I hI gs out h =>
  FnS.of_tree low mixed names (pl_ok I hI) (specs := []) (fuel := 100000) (c := code65) (pe := []) (sp := s43) rfl Tryz.func65 (by kernel_rfl) SpecsOk.nil (by kernel_rfl) h
theorem t46 : GoodC C d46 c46 := fun I hI gs out h =>
  FnC.of_tree low mixed names (pl_ok I hI) (specs := []) (fuel := 100000) (c := code173) (pe := []) Tryz.func173 (by kernel_rfl) SpecsOk.nil (by kernel_rfl) h
theorem t48 : GoodC C d48 c48 := fun I hI gs out h =>
  FnS.of_tree low mixed names (pl_ok I hI) (specs := []) (fuel := 100000) (c := code65) (pe := []) (sp := s48) rfl Tryz.func65 (by kernel_rfl) SpecsOk.nil (by kernel_rfl) h
theorem t51 : GoodC C d51 c51 := fun I hI gs out h =>
  FnC.of_tree low mixed names (pl_ok I hI) (specs := [(0, s52)]) (fuel := 100000) (c := code121) (pe := []) Tryz.func121 (by kernel_rfl) (SpecsOk.cons rfl (fun gs out h => hI 52 gs out h) SpecsOk.nil) (by kernel_rfl) h
theorem t52 : GoodC C d52 c52 := fun I hI gs out h =>
  LoopC.of_tree_at low mixed names (pl_ok I hI) (specs := []) (fuel := 100000) (sp := s52) (by kernel_rfl) rfl (ps := []) (b := b52) SpecsOk.nil (fun gs out h => hI 52 gs out h) (by kernel_rfl) h
theorem t55 : GoodC C d55 c55 := fun I hI gs out h =>
  FnC.of_tree low mixed names (pl_ok I hI) (specs := [(0, s56)]) (fuel := 100000) (c := code19) (pe := []) Tryz.func19 (by kernel_rfl) (SpecsOk.cons rfl (fun gs out h => hI 56 gs out h) SpecsOk.nil) (by kernel_rfl) h
theorem t61 : GoodC C d61 c61 := fun I hI gs out h =>
  FnS.of_tree low mixed names (pl_ok I hI) (specs := []) (fuel := 100000) (c := code65) (pe := []) (sp := s61) rfl Tryz.func65 (by kernel_rfl) SpecsOk.nil (by kernel_rfl) h
theorem t65 : GoodC C d65 c65 := fun I hI gs out h =>
  FnS.of_tree low mixed names (pl_ok I hI) (specs := []) (fuel := 100000) (c := code65) (pe := []) (sp := s65) rfl Tryz.func65 (by kernel_rfl) SpecsOk.nil (by kernel_rfl) h
theorem t69 : GoodC C d69 c69 := fun I hI gs out h =>
  FnS.of_tree low mixed names (pl_ok I hI) (specs := []) (fuel := 100000) (c := code65) (pe := []) (sp := s69) rfl Tryz.func65 (by kernel_rfl) SpecsOk.nil (by kernel_rfl) h
theorem t73 : GoodC C d73 c73 := fun I hI gs out h =>
  FnS.of_tree low mixed names (pl_ok I hI) (specs := []) (fuel := 100000) (c := code65) (pe := []) (sp := s73) rfl Tryz.func65 (by kernel_rfl) SpecsOk.nil (by kernel_rfl) h
theorem t78 : GoodC C d78 c78 := fun I hI gs out h =>
  LoopC.of_tree_at low mixed names (pl_ok I hI) (specs := []) (fuel := 100000) (sp := s78) (by kernel_rfl) rfl (ps := []) (b := b78) SpecsOk.nil (fun gs out h => hI 78 gs out h) (by kernel_rfl) h
theorem t84 : GoodC C d84 c84 := fun I hI gs out h =>
  LoopC.of_tree_at low mixed names (pl_ok I hI) (specs := [(0, s85)]) (fuel := 100000) (sp := s84) (by kernel_rfl) rfl (ps := []) (b := b84) (SpecsOk.cons rfl (fun gs out h => hI 85 gs out h) SpecsOk.nil) (fun gs out h => hI 84 gs out h) (by kernel_rfl) h
theorem t96 : GoodC C d96 c96 := fun I hI gs out h =>
  LoopC.of_tree_at low mixed names (pl_ok I hI) (specs := []) (fuel := 100000) (sp := s96) (by kernel_rfl) rfl (ps := []) (b := b96) SpecsOk.nil (fun gs out h => hI 96 gs out h) (by kernel_rfl) h
theorem t98 : GoodC C d98 c98 := fun I hI gs out h =>
  FnC.of_tree low mixed names (pl_ok I hI) (specs := []) (fuel := 100000) (c := code90) (pe := []) Tryz.func90 (by kernel_rfl) SpecsOk.nil (by kernel_rfl) h
theorem t101 : GoodC C d101 c101 := fun I hI gs out h =>
  FnC.of_tree low mixed names (pl_ok I hI) (specs := []) (fuel := 100000) (c := code127) (pe := []) Tryz.func127 (by kernel_rfl) SpecsOk.nil (by kernel_rfl) h
theorem t104 : GoodC C d104 c104 := fun I hI gs out h =>
  FnC.of_tree low mixed names (pl_ok I hI) (specs := []) (fuel := 100000) (c := code125) (pe := []) Tryz.func125 (by kernel_rfl) SpecsOk.nil (by kernel_rfl) h
theorem t113 : GoodC C d113 c113 := fun I hI gs out h =>
  LoopC.of_tree_at low mixed names (pl_ok I hI) (specs := []) (fuel := 100000) (sp := s113) (by kernel_rfl) rfl (ps := []) (b := b113) SpecsOk.nil (fun gs out h => hI 113 gs out h) (by kernel_rfl) h
theorem t114 : GoodC C d114 c114 := fun I hI gs out h =>
  FnC.of_tree low mixed names (pl_ok I hI) (specs := []) (fuel := 100000) (c := code128) (pe := []) Tryz.func128 (by kernel_rfl) SpecsOk.nil (by kernel_rfl) h
theorem t115 : GoodC C d115 c115 := fun I hI gs out h =>
  FnC.of_tree low mixed names (pl_ok I hI) (specs := [(0, s116)]) (fuel := 100000) (c := code137) (pe := []) Tryz.func137 (by kernel_rfl) (SpecsOk.cons rfl (fun gs out h => hI 116 gs out h) SpecsOk.nil) (by kernel_rfl) h
theorem t117 : GoodC C d117 c117 := fun I hI gs out h =>
  FnC.of_tree low mixed names (pl_ok I hI) (specs := []) (fuel := 100000) (c := code193) (pe := []) Tryz.func193 (by kernel_rfl) SpecsOk.nil (by kernel_rfl) h
theorem t124 : GoodC C d124 c124 := fun I hI gs out h =>
  LoopC.of_tree_at low mixed names (pl_ok I hI) (specs := []) (fuel := 100000) (sp := s124) (by kernel_rfl) rfl (ps := []) (b := b124) SpecsOk.nil (fun gs out h => hI 124 gs out h) (by kernel_rfl) h
theorem t129 : GoodC C d129 c129 := fun I hI gs out h =>
  LoopC.of_tree_at low mixed names (pl_ok I hI) (specs := []) (fuel := 100000) (sp := s129) (by kernel_rfl) rfl (ps := []) (b := b129) SpecsOk.nil (fun gs out h => hI 129 gs out h) (by kernel_rfl) h
theorem t133 : GoodC C d133 c133 := fun I hI gs out h =>
  FnC.of_tree low mixed names (pl_ok I hI) (specs := [(0, s134)]) (fuel := 100000) (c := code22) (pe := []) Tryz.func22 (by kernel_rfl) (SpecsOk.cons rfl (fun gs out h => hI 134 gs out h) SpecsOk.nil) (by kernel_rfl) h
end M
end Go.Proofs.YtckgelanagoenaaGreatDoor
