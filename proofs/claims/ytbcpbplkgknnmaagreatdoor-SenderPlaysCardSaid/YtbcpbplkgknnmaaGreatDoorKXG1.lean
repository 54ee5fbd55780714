/- Definitions keep their contracts: the ways of the bodies, run by the kernel. -/
import Derived.Test.YtbcpbplkgknnmaaGreatDoorKXP
namespace Go.Proofs.YtbcpbplkgknnmaaGreatDoor
open Go Go.Abs
set_option maxRecDepth 100000
set_option linter.unusedVariables false
set_option linter.unusedSimpArgs false
namespace X
theorem t5 : GoodC C d5 c5 := fun I hI gs out h =>
  LoopC.of_tree_at low mixed names (pl_ok I hI) (specs := []) (fuel := 100000) (sp := s5) (by kernel_rfl) rfl (ps := []) (b := b5) SpecsOk.nil (fun gs out h => hI 5 gs out h) (by kernel_rfl) h
theorem t9 : GoodC C d9 c9 := fun I hI gs out h =>
  LoopC.of_tree_at low mixed names (pl_ok I hI) (specs := []) (fuel := 100000) (sp := s9) (by kernel_rfl) rfl (ps := []) (b := b9) SpecsOk.nil (fun gs out h => hI 9 gs out h) (by kernel_rfl) h
theorem t23 : GoodC C d23 c23 := fun I hI gs out h =>
  FnC.of_tree low mixed names (pl_ok I hI) (specs := []) (fuel := 100000) (c := code189) (pe := []) Tryz.func189 (by kernel_rfl) SpecsOk.nil (by kernel_rfl) h
theorem t27 : GoodC C d27 c27 := fun I hI gs out h =>
  LoopC.of_tree_at low mixed names (pl_ok I hI) (specs := []) (fuel := 100000) (sp := s27) (by kernel_rfl) rfl (ps := []) (b := b27) SpecsOk.nil (fun gs out h => hI 27 gs out h) (by kernel_rfl) h
theorem t40 : GoodC C d40 c40 := fun I hI gs out h =>
  FnC.of_tree low mixed names (pl_ok I hI) (specs := [(0, s66)]) (fuel := 100000) (c := code205) (pe := []) Tryz.func205 (by kernel_rfl) (SpecsOk.cons rfl (fun gs out h => hI 66 gs out h) SpecsOk.nil) (by kernel_rfl) h
theorem t41 : GoodC C d41 c41 := fun I hI gs out h =>
  FnC.of_tree low mixed names (pl_ok I hI) (specs := [(0, s42)]) (fuel := 100000) (c := code19) (pe := []) Tryz.func19 (by kernel_rfl) (SpecsOk.cons rfl (fun gs out h => hI 42 gs out h) SpecsOk.nil) (by kernel_rfl) h
theorem t46 : GoodC C d46 c46 := fun I hI gs out h =>
  FnC.of_tree low mixed names (pl_ok I hI) (specs := []) (fuel := 100000) (c := code234) (pe := []) Tryz.func234 (by kernel_rfl) SpecsOk.nil (by kernel_rfl) h
theorem t48 : GoodC C d48 c48 := fun I hI gs out h =>
  FnC.of_tree low mixed names (pl_ok I hI) (specs := [(0, s49)]) (fuel := 100000) (c := code192) (pe := []) Tryz.func192 (by kernel_rfl) (SpecsOk.cons rfl (fun gs out h => hI 49 gs out h) SpecsOk.nil) (by kernel_rfl) h
theorem t50 : GoodC C d50 c50 := fun I hI gs out h =>
  FnC.of_tree low mixed names (pl_ok I hI) (specs := [(0, s51)]) (fuel := 100000) (c := code258) (pe := []) Tryz.func258 (by kernel_rfl) (SpecsOk.cons rfl (fun gs out h => hI 51 gs out h) SpecsOk.nil) (by kernel_rfl) h
theorem t53 : GoodC C d53 c53 := fun I hI gs out h =>
  FnC.of_tree low mixed names (pl_ok I hI) (specs := []) (fuel := 100000) (c := code164) (pe := []) Tryz.func164 (by kernel_rfl) SpecsOk.nil (by kernel_rfl) h
theorem t54 : GoodC C d54 c54 := fun I hI gs out h =>
  FnC.of_tree low mixed names (pl_ok I hI) (specs := [(0, s55)]) (fuel := 100000) (c := code236) (pe := []) Tryz.func236 (by kernel_rfl) (SpecsOk.cons rfl (fun gs out h => hI 55 gs out h) SpecsOk.nil) (by kernel_rfl) h
theorem t63 : GoodC C d63 c63 := fun I hI gs out h =>
  LoopC.of_tree_at low mixed names (pl_ok I hI) (specs := []) (fuel := 100000) (sp := s63) (by kernel_rfl) rfl (ps := []) (b := b63) SpecsOk.nil (fun gs out h => hI 63 gs out h) (by kernel_rfl) h
theorem t71 : GoodC C d71 c71 := fun I hI gs out h =>
  LoopC.of_tree_at low mixed names (pl_ok I hI) (specs := []) (fuel := 100000) (sp := s71) (by kernel_rfl) rfl (ps := []) (b := b71) SpecsOk.nil (fun gs out h => hI 71 gs out h) (by kernel_rfl) h
theorem t73 : GoodC C d73 c73 := fun I hI gs out h =>
  FnC.of_tree low mixed names (pl_ok I hI) (specs := [(0, s74)]) (fuel := 100000) (c := code17) (pe := []) Tryz.func17 (by kernel_rfl) (SpecsOk.cons rfl (fun gs out h => hI 74 gs out h) SpecsOk.nil) (by kernel_rfl) h
theorem t81 : GoodC C d81 c81 := fun I hI gs out h =>
  FnC.of_tree low mixed names (pl_ok I hI) (specs := [(0, s82)]) (fuel := 100000) (c := code38) (pe := []) Tryz.func38 (by kernel_rfl) (SpecsOk.cons rfl (fun gs out h => hI 82 gs out h) SpecsOk.nil) (by kernel_rfl) h
theorem t84 : GoodC C d84 c84 := fun I hI gs out h =>
  FnC.of_tree low mixed names (pl_ok I hI) (specs := []) (fuel := 100000) (c := code118) (pe := []) Tryz.func118 (by kernel_rfl) SpecsOk.nil (by kernel_rfl) h
theorem t88 : GoodC C d88 c88 := fun I hI gs out h =>
  LoopC.of_tree_at low mixed names (pl_ok I hI) (specs := [(0, s90)]) (fuel := 100000) (sp := s88) (by kernel_rfl) rfl (ps := []) (b := b88) (SpecsOk.cons rfl (fun gs out h => hI 90 gs out h) SpecsOk.nil) (fun gs out h => hI 88 gs out h) (by kernel_rfl) h
theorem t92 : GoodC C d92 c92 := fun I hI gs out h =>
  FnC.of_tree low mixed names (pl_ok I hI) (specs := []) (fuel := 100000) (c := code171) (pe := []) Tryz.func171 (by kernel_rfl) SpecsOk.nil (by kernel_rfl) h
theorem t101 : GoodC C d101 c101 := fun I hI gs out h =>
  LoopC.of_tree_at low mixed names (pl_ok I hI) (specs := []) (fuel := 100000) (sp := s101) (by kernel_rfl) rfl (ps := []) (b := b101) SpecsOk.nil (fun gs out h => hI 101 gs out h) (by kernel_rfl) h
theorem t103 : GoodC C d103 c103 := fun I hI gs out h =>
  FnC.of_tree low mixed names (pl_ok I hI) (specs := []) (fuel := 100000) (c := code79) (pe := []) Tryz.func79 (by kernel_rfl) SpecsOk.nil (by kernel_rfl) h
theorem t105 : GoodC C d105 c105 := fun I hI gs out h =>
  FnC.of_tree low mixed names (pl_ok I hI) (specs := [(0, s106)]) (fuel := 100000) (c := code152) (pe := []) Tryz.func152 (by kernel_rfl) (SpecsOk.cons rfl (fun gs out h => hI 106 gs out h) SpecsOk.nil) (by kernel_rfl) h
theorem t107 : GoodC C d107 c107 := fun I hI gs out h =>
  FnC.of_tree low mixed names (pl_ok I hI) (specs := []) (fuel := 100000) (c := code206) (pe := []) Tryz.func206 (by kernel_rfl) SpecsOk.nil (by kernel_rfl) h
theorem t108 : GoodC C d108 c108 := fun _ _ _ _ h => cmp_ok h
theorem t111 : GoodC C d111 c111 := fun I hI gs out h =>
  FnC.of_tree low mixed names (pl_ok I hI) (specs := []) (fuel := 100000) (c := code71) (pe := []) Tryz.func71 (by kernel_rfl) SpecsOk.nil (by kernel_rfl) h
theorem t113 : GoodC C d113 c113 := fun I hI gs out h =>
  FnS.of_tree low mixed names (pl_ok I hI) (specs := []) (fuel := 100000) (c := code66) (pe := []) (sp := s113) rfl Tryz.func66 (by kernel_rfl) SpecsOk.nil (by kernel_rfl) h
theorem t114 : GoodC C d114 c114 := fun I hI gs out h =>
  LoopC.of_tree_at low mixed names (pl_ok I hI) (specs := []) (fuel := 100000) (sp := s114) (by kernel_rfl) rfl (ps := []) (b := b114) SpecsOk.nil (fun gs out h => hI 114 gs out h) (by kernel_rfl) h
theorem t119 : GoodC C d119 c119 := fun I hI gs out h =>
  FnC.of_tree low mixed names (pl_ok I hI) (specs := [(0, s120)]) (fuel := 100000) (c := code25) (pe := []) Tryz.func25 (by kernel_rfl) (SpecsOk.cons rfl (fun gs out h => hI 120 gs out h) SpecsOk.nil) (by kernel_rfl) h
theorem t122 : GoodC C d122 c122 := fun I hI gs out h =>
  LoopC.of_tree_at low mixed names (pl_ok I hI) (specs := []) (fuel := 100000) (sp := s122) (by kernel_rfl) rfl (ps := []) (b := b122) SpecsOk.nil (fun gs out h => hI 122 gs out h) (by kernel_rfl) h
theorem t123 : GoodC C d123 c123 := fun I hI gs out h =>
  FnS.of_tree low mixed names (pl_ok I hI) (specs := [(0, s124)]) (fuel := 100000) (c := code77) (pe := []) (sp := s123) rfl Tryz.func77 (by kernel_rfl) (SpecsOk.cons rfl (fun gs out h => hI 124 gs out h) SpecsOk.nil) (by kernel_rfl) h
theorem t128 : GoodC C d128 c128 := fun I hI gs out h =>
  FnS.of_tree low mixed names (pl_ok I hI) (specs := []) (fuel := 100000) (c := code65) (pe := []) (sp := s128) rfl Tryz.func65 (by kernel_rfl) SpecsOk.nil (by kernel_rfl) h
end X
end Go.Proofs.YtbcpbplkgknnmaaGreatDoor
