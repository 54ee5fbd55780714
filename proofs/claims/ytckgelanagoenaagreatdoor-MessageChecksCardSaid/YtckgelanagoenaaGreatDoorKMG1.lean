/- Definitions keep their contracts: the ways of the bodies, run by the kernel. -/
import Derived.Test.YtckgelanagoenaaGreatDoorKMP
namespace Go.Proofs.YtckgelanagoenaaGreatDoor
open Go Go.Abs
set_option maxRecDepth 100000
set_option linter.unusedVariables false
set_option linter.unusedSimpArgs false
namespace M
theorem t2 : GoodC C d2 c2 := fun I hI gs out h =>
  FnC.of_tree low mixed names (pl_ok I hI) (specs := [(0, s3)]) (fuel := 100000) (c := code55) (pe := []) Tryz.func55 (by kernel_rfl) (SpecsOk.cons rfl (fun gs out h => hI 3 gs out h) SpecsOk.nil) (by kernel_rfl) h
theorem t3 : GoodC C d3 c3 := fun I hI gs out h =>
  LoopC.of_tree_at low mixed names (pl_ok I hI) (specs := []) (fuel := 100000) (sp := s3) (by kernel_rfl) rfl (ps := []) (b := b3) SpecsOk.nil (fun gs out h => hI 3 gs out h) (by kernel_rfl) h
theorem t10 : GoodC C d10 c10 := fun I hI gs out h =>
  LoopC.of_tree_at low mixed names (pl_ok I hI) (specs := []) (fuel := 100000) (sp := s10) (by kernel_rfl) rfl (ps := []) (b := b10) SpecsOk.nil (fun gs out h => hI 10 gs out h) (by kernel_rfl) h
theorem t20 : GoodC C d20 c20 := fun I hI gs out h =>
  FnC.of_tree low mixed names (pl_ok I hI) (specs := [(0, s21)]) (fuel := 100000) (c := code59) (pe := []) Tryz.func59 (by kernel_rfl) (SpecsOk.cons rfl (fun gs out h => hI 21 gs out h) SpecsOk.nil) (by kernel_rfl) h
theorem t24 : GoodC C d24 c24 := fun I hI gs out h =>
  FnC.of_tree low mixed names (pl_ok I hI) (specs := [(0, s25)]) (fuel := 100000) (c := code32) (pe := []) Tryz.func32 (by kernel_rfl) (SpecsOk.cons rfl (fun gs out h => hI 25 gs out h) SpecsOk.nil) (by kernel_rfl) h
theorem t27 : GoodC C d27 c27 := fun I hI gs out h =>
  FnC.of_tree low mixed names (pl_ok I hI) (specs := []) (fuel := 100000) (c := code61) (pe := []) Tryz.func61 (by kernel_rfl) SpecsOk.nil (by kernel_rfl) h
theorem t29 : GoodC C d29 c29 := fun I hI gs out h =>
  FnC.of_tree low mixed names (pl_ok I hI) (specs := []) (fuel := 100000) (c := code165) (pe := []) Tryz.func165 (by kernel_rfl) SpecsOk.nil (by kernel_rfl) h
theorem t34 : GoodC C d34 c34 := fun I hI gs out h =>
  FnC.of_tree low mixed names (pl_ok I hI) (specs := []) (fuel := 100000) (c := code169) (pe := []) Tryz.func169 (by kernel_rfl) SpecsOk.nil (by kernel_rfl) h
theorem t38 : GoodC C d38 c38 := fun I hI gs out h =>
  LoopC.of_tree_at low mixed names (pl_ok I hI) (specs := []) (fuel := 100000) (sp := s38) (by kernel_rfl) rfl (ps := []) (b := b38) SpecsOk.nil (fun gs out h => hI 38 gs out h) (by kernel_rfl) h
theorem t47 : GoodC C d47 c47 := fun _ _ _ _ h => valid_ok h
theorem t49 : GoodC C d49 c49 := fun I hI gs out h =>
  FnS.of_tree low mixed names (pl_ok I hI) (specs := []) (fuel := 100000) (c := code65) (pe := []) (sp := s49) rfl Tryz.func65 (by kernel_rfl) SpecsOk.nil (by kernel_rfl) h
theorem t54 : GoodC C d54 c54 := fun I hI gs out h =>
  FnS.of_tree low mixed names (pl_ok I hI) (specs := []) (fuel := 100000) (c := code65) (pe := []) (sp := s54) rfl Tryz.func65 (by kernel_rfl) SpecsOk.nil (by kernel_rfl) h
theorem t56 : GoodC C d56 c56 := fun I hI gs out h =>
  LoopC.of_tree_at low mixed names (pl_ok I hI) (specs := []) (fuel := 100000) (sp := s56) (by kernel_rfl) rfl (ps := []) (b := b56) SpecsOk.nil (fun gs out h => hI 56 gs out h) (by kernel_rfl) h
theorem t58 : GoodC C d58 c58 := fun I hI gs out h =>
  FnS.of_tree low mixed names (pl_ok I hI) (specs := []) (fuel := 100000) (c := code65) (pe := []) (sp := s58) rfl Tryz.func65 (by kernel_rfl) SpecsOk.nil (by kernel_rfl) h
theorem t62 : GoodC C d62 c62 := fun I hI gs out h =>
  FnS.of_tree low mixed names (pl_ok I hI) (specs := []) (fuel := 100000) (c := code65) (pe := []) (sp := s62) rfl Tryz.func65 (by kernel_rfl) SpecsOk.nil (by kernel_rfl) h
theorem t66 : GoodC C d66 c66 := fun I hI gs out h =>
  FnS.of_tree low mixed names (pl_ok I hI) (specs := []) (fuel := 100000) (c := code65) (pe := []) (sp := s66) rfl Tryz.func65 (by kernel_rfl) SpecsOk.nil (by kernel_rfl) h
theorem t70 : GoodC C d70 c70 := fun I hI gs out h =>
  FnS.of_tree low mixed names (pl_ok I hI) (specs := []) (fuel := 100000) (c := code65) (pe := []) (sp := s70) rfl Tryz.func65 (by kernel_rfl) SpecsOk.nil (by kernel_rfl) h
theorem t79 : GoodC C d79 c79 := fun I hI gs out h =>
  FnC.of_tree low mixed names (pl_ok I hI) (specs := [(0, s84), (1, s120), (2, s123)]) (fuel := 100000) (c := code15) (pe := []) Tryz.func15 (by kernel_rfl) (SpecsOk.cons rfl (fun gs out h => hI 84 gs out h) (SpecsOk.cons rfl (fun gs out h => hI 120 gs out h) (SpecsOk.cons rfl (fun gs out h => hI 123 gs out h) SpecsOk.nil))) (by kernel_rfl) h
theorem t83 : GoodC C d83 c83 := fun I hI gs out h =>
  FnC.of_tree low mixed names (pl_ok I hI) (specs := []) (fuel := 100000) (c := code18) (pe := []) Tryz.func18 (by kernel_rfl) SpecsOk.nil (by kernel_rfl) h
theorem t87 : GoodC C d87 c87 := fun I hI gs out h =>
  FnC.of_tree low mixed names (pl_ok I hI) (specs := []) (fuel := 100000) (c := code23) (pe := []) Tryz.func23 (by kernel_rfl) SpecsOk.nil (by kernel_rfl) h
theorem t91 : GoodC C d91 c91 := fun I hI gs out h =>
  FnC.of_tree low mixed names (pl_ok I hI) (specs := []) (fuel := 100000) (c := code87) (pe := []) Tryz.func87 (by kernel_rfl) SpecsOk.nil (by kernel_rfl) h
theorem t94 : GoodC C d94 c94 := fun I hI gs out h =>
  FnC.of_tree low mixed names (pl_ok I hI) (specs := [(0, s95)]) (fuel := 100000) (c := code98) (pe := []) Tryz.func98 (by kernel_rfl) (SpecsOk.cons rfl (fun gs out h => hI 95 gs out h) SpecsOk.nil) (by kernel_rfl) h
theorem t95 : GoodC C d95 c95 := fun I hI gs out h =>
  LoopC.of_tree_at low mixed names (pl_ok I hI) (specs := []) (fuel := 100000) (sp := s95) (by kernel_rfl) rfl (ps := []) (b := b95) SpecsOk.nil (fun gs out h => hI 95 gs out h) (by kernel_rfl) h
theorem t97 : GoodC C d97 c97 := fun I hI gs out h =>
  FnC.of_tree low mixed names (pl_ok I hI) (specs := []) (fuel := 100000) (c := code136) (pe := []) Tryz.func136 (by kernel_rfl) SpecsOk.nil (by kernel_rfl) h
theorem t99 : GoodC C d99 c99 := fun I hI gs out h =>
  FnC.of_tree low mixed names (pl_ok I hI) (specs := [(0, s100)]) (fuel := 100000) (c := code73) (pe := []) Tryz.func73 (by kernel_rfl) (SpecsOk.cons rfl (fun gs out h => hI 100 gs out h) SpecsOk.nil) (by kernel_rfl) h
theorem t103 : GoodC C d103 c103 := fun I hI gs out h =>
  LoopC.of_tree_at low mixed names (pl_ok I hI) (specs := []) (fuel := 100000) (sp := s103) (by kernel_rfl) rfl (ps := []) (b := b103) SpecsOk.nil (fun gs out h => hI 103 gs out h) (by kernel_rfl) h
theorem t107 : GoodC C d107 c107 := fun I hI gs out h =>
  LoopC.of_tree_at low mixed names (pl_ok I hI) (specs := []) (fuel := 100000) (sp := s107) (by kernel_rfl) rfl (ps := []) (b := b107) SpecsOk.nil (fun gs out h => hI 107 gs out h) (by kernel_rfl) h
theorem t118 : GoodC C d118 c118 := fun I hI gs out h =>
  FnC.of_tree low mixed names (pl_ok I hI) (specs := [(0, s119)]) (fuel := 100000) (c := code223) (pe := []) Tryz.func223 (by kernel_rfl) (SpecsOk.cons rfl (fun gs out h => hI 119 gs out h) SpecsOk.nil) (by kernel_rfl) h
theorem t119 : GoodC C d119 c119 := fun I hI gs out h =>
  LoopC.of_tree_at low mixed names (pl_ok I hI) (specs := []) (fuel := 100000) (sp := s119) (by kernel_rfl) rfl (ps := []) (b := b119) SpecsOk.nil (fun gs out h => hI 119 gs out h) (by kernel_rfl) h
theorem t121 : GoodC C d121 c121 := fun I hI gs out h =>
  FnC.of_tree low mixed names (pl_ok I hI) (specs := [(0, s122)]) (fuel := 100000) (c := code75) (pe := []) Tryz.func75 (by kernel_rfl) (SpecsOk.cons rfl (fun gs out h => hI 122 gs out h) SpecsOk.nil) (by kernel_rfl) h
theorem t126 : GoodC C d126 c126 := fun I hI gs out h =>
  LoopC.of_tree_at low mixed names (pl_ok I hI) (specs := []) (fuel := 100000) (sp := s126) (by kernel_rfl) rfl (ps := []) (b := b126) SpecsOk.nil (fun gs out h => hI 126 gs out h) (by kernel_rfl) h
theorem t127 : GoodC C d127 c127 := fun I hI gs out h =>
  FnC.of_tree low mixed names (pl_ok I hI) (specs := []) (fuel := 100000) (c := code20) (pe := []) Tryz.func20 (by kernel_rfl) SpecsOk.nil (by kernel_rfl) h
theorem t132 : GoodC C d132 c132 := fun I hI gs out h =>
  LoopC.of_tree_at low mixed names (pl_ok I hI) (specs := []) (fuel := 100000) (sp := s132) (by kernel_rfl) rfl (ps := []) (b := b132) SpecsOk.nil (fun gs out h => hI 132 gs out h) (by kernel_rfl) h
theorem t134 : GoodC C d134 c134 := fun I hI gs out h =>
  LoopC.of_tree_at low mixed names (pl_ok I hI) (specs := [(0, s135)]) (fuel := 100000) (sp := s134) (by kernel_rfl) rfl (ps := []) (b := b134) (SpecsOk.cons rfl (fun gs out h => hI 135 gs out h) SpecsOk.nil) (fun gs out h => hI 134 gs out h) (by kernel_rfl) h
end M
end Go.Proofs.YtckgelanagoenaaGreatDoor
