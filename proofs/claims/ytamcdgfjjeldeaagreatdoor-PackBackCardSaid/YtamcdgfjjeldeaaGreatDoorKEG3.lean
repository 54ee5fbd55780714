/- Definitions keep their contracts: the ways of the bodies, run by the kernel. -/
import Derived.Test.YtamcdgfjjeldeaaGreatDoorKEP
namespace Go.Proofs.YtamcdgfjjeldeaaGreatDoor
open Go Go.Abs
set_option maxRecDepth 100000
set_option linter.unusedVariables false
set_option linter.unusedSimpArgs false
namespace E
theorem t0 : GoodC C d0 c0 := fun I hI gs out h =>
  FnC.of_tree low mixed names (pl_ok I hI) (specs := [(0, s40)]) (fuel := 100000) (c := code6) (pe := []) Tryz.func6 (by kernel_rfl) (SpecsOk.cons rfl (fun gs out h => hI 40 gs out h) SpecsOk.nil) (by kernel_rfl) h
theorem t5 : GoodC C d5 c5 := fun I hI gs out h =>
  FnC.of_tree low mixed names (pl_ok I hI) (specs := []) (fuel := 100000) (c := code44) (pe := []) Tryz.func44 (by kernel_rfl) SpecsOk.nil (by kernel_rfl) h
theorem t7 : GoodC C d7 c7 := fun I hI gs out h =>
  LoopC.of_tree_at low mixed names (pl_ok I hI) (specs := []) (fuel := 100000) (sp := s7) (by kernel_rfl) rfl (ps := []) (b := b7) SpecsOk.nil (fun gs out h => hI 7 gs out h) (by kernel_rfl) h
theorem t9 : GoodC C d9 c9 := fun I hI gs out h =>
  FnC.of_tree low mixed names (pl_ok I hI) (specs := [(0, s10)]) (fuel := 100000) (c := code129) (pe := []) Tryz.func129 (by kernel_rfl) (SpecsOk.cons rfl (fun gs out h => hI 10 gs out h) SpecsOk.nil) (by kernel_rfl) h
theorem t16 : GoodC C d16 c16 := fun I hI gs out h =>
  FnC.of_tree low mixed names (pl_ok I hI) (specs := [(0, s17)]) (fuel := 100000) (c := code43) (pe := []) Tryz.func43 (by kernel_rfl) (SpecsOk.cons rfl (fun gs out h => hI 17 gs out h) SpecsOk.nil) (by kernel_rfl) h
theorem t18 : GoodC C d18 c18 := fun I hI gs out h =>
  FnC.of_tree low mixed names (pl_ok I hI) (specs := [(0, s19)]) (fuel := 100000) (c := code100) (pe := []) Tryz.func100 (by kernel_rfl) (SpecsOk.cons rfl (fun gs out h => hI 19 gs out h) SpecsOk.nil) (by kernel_rfl) h
theorem t19 : GoodC C d19 c19 := fun I hI gs out h =>
  LoopC.of_tree_at low mixed names (pl_ok I hI) (specs := []) (fuel := 100000) (sp := s19) (by kernel_rfl) rfl (ps := []) (b := b19) SpecsOk.nil (fun gs out h => hI 19 gs out h) (by kernel_rfl) h
theorem t27 : GoodC C d27 c27 := fun I hI gs out h =>
  FnS.of_tree low mixed names (pl_ok I hI) (specs := []) (fuel := 100000) (c := code96) (pe := []) (sp := s27) rfl Tryz.func96 (by kernel_rfl) SpecsOk.nil (by kernel_rfl) h
theorem t29 : GoodC C d29 c29 := fun I hI gs out h =>
  LoopC.of_tree_at low mixed names (pl_ok I hI) (specs := []) (fuel := 100000) (sp := s29) (by kernel_rfl) rfl (ps := []) (b := b29) SpecsOk.nil (fun gs out h => hI 29 gs out h) (by kernel_rfl) h
theorem t34 : GoodC C d34 c34 := fun I hI gs out h =>
  LoopC.of_tree_at low mixed names (pl_ok I hI) (specs := []) (fuel := 100000) (sp := s34) (by kernel_rfl) rfl (ps := []) (b := b34) SpecsOk.nil (fun gs out h => hI 34 gs out h) (by kernel_rfl) h
theorem t44 : GoodC C d44 c44 := fun I hI gs out h =>
  FnC.of_tree low mixed names (pl_ok I hI) (specs := [(0, s45)]) (fuel := 100000) (c := code22) (pe := []) Tryz.func22 (by kernel_rfl) (SpecsOk.cons rfl (fun gs out h => hI 45 gs out h) SpecsOk.nil) (by kernel_rfl) h
theorem t45 : GoodC C d45 c45 := fun I hI gs out h =>
  LoopC.of_tree_at low mixed names (pl_ok I hI) (specs := []) (fuel := 100000) (sp := s45) (by kernel_rfl) rfl (ps := []) (b := b45) SpecsOk.nil (fun gs out h => hI 45 gs out h) (by kernel_rfl) h
theorem t47 : GoodC C d47 c47 := fun I hI gs out h =>
  LoopC.of_tree_at low mixed names (pl_ok I hI) (specs := []) (fuel := 100000) (sp := s47) (by kernel_rfl) rfl (ps := []) (b := b47) SpecsOk.nil (fun gs out h => hI 47 gs out h) (by kernel_rfl) h
theorem t49 : GoodC C d49 c49 := fun I hI gs out h =>
  FnC.of_tree low mixed names (pl_ok I hI) (specs := [(0, s59)]) (fuel := 100000) (c := code50) (pe := []) Tryz.func50 (by kernel_rfl) (SpecsOk.cons rfl (fun gs out h => hI 59 gs out h) SpecsOk.nil) (by kernel_rfl) h
theorem t52 : GoodC C d52 c52 := fun I hI gs out h =>
  FnC.of_tree low mixed names (pl_ok I hI) (specs := []) (fuel := 100000) (c := code82) (pe := []) Tryz.func82 (by kernel_rfl) SpecsOk.nil (by kernel_rfl) h
theorem t54 : GoodC C d54 c54 := fun I hI gs out h =>
  LoopC.of_tree_at low mixed names (pl_ok I hI) (specs := []) (fuel := 100000) (sp := s54) (by kernel_rfl) rfl (ps := []) (b := b54) SpecsOk.nil (fun gs out h => hI 54 gs out h) (by kernel_rfl) h
theorem t58 : GoodC C d58 c58 := fun _ _ _ _ h => valid_ok h
theorem t62 : GoodC C d62 c62 := fun I hI gs out h =>
  FnC.of_tree low mixed names (pl_ok I hI) (specs := [(0, s63)]) (fuel := 100000) (c := code29) (pe := []) Tryz.func29 (by kernel_rfl) (SpecsOk.cons rfl (fun gs out h => hI 63 gs out h) SpecsOk.nil) (by kernel_rfl) h
theorem t64 : GoodC C d64 c64 := fun I hI gs out h =>
  FnC.of_tree low mixed names (pl_ok I hI) (specs := []) (fuel := 100000) (c := code51) (pe := []) Tryz.func51 (by kernel_rfl) SpecsOk.nil (by kernel_rfl) h
theorem t66 : GoodC C d66 c66 := fun I hI gs out h =>
  LoopC.of_tree_at low mixed names (pl_ok I hI) (specs := []) (fuel := 100000) (sp := s66) (by kernel_rfl) rfl (ps := []) (b := b66) SpecsOk.nil (fun gs out h => hI 66 gs out h) (by kernel_rfl) h
theorem t70 : GoodC C d70 c70 := fun I hI gs out h =>
  FnC.of_tree low mixed names (pl_ok I hI) (specs := []) (fuel := 100000) (c := code161) (pe := []) Tryz.func161 (by kernel_rfl) SpecsOk.nil (by kernel_rfl) h
theorem t84 : GoodC C d84 c84 := fun I hI gs out h =>
  LoopC.of_tree_at low mixed names (pl_ok I hI) (specs := []) (fuel := 100000) (sp := s84) (by kernel_rfl) rfl (ps := []) (b := b84) SpecsOk.nil (fun gs out h => hI 84 gs out h) (by kernel_rfl) h
theorem t91 : GoodC C d91 c91 := fun I hI gs out h =>
  FnC.of_tree low mixed names (pl_ok I hI) (specs := []) (fuel := 100000) (c := code53) (pe := []) Tryz.func53 (by kernel_rfl) SpecsOk.nil (by kernel_rfl) h
theorem t93 : GoodC C d93 c93 := fun I hI gs out h =>
  LoopC.of_tree_at low mixed names (pl_ok I hI) (specs := []) (fuel := 100000) (sp := s93) (by kernel_rfl) rfl (ps := []) (b := b93) SpecsOk.nil (fun gs out h => hI 93 gs out h) (by kernel_rfl) h
theorem t94 : GoodC C d94 c94 := fun I hI gs out h =>
  FnC.of_tree low mixed names (pl_ok I hI) (specs := []) (fuel := 100000) (c := code106) (pe := []) Tryz.func106 (by kernel_rfl) SpecsOk.nil (by kernel_rfl) h
theorem t97 : GoodC C d97 c97 := fun I hI gs out h =>
  FnC.of_tree low mixed names (pl_ok I hI) (specs := []) (fuel := 100000) (c := code166) (pe := []) Tryz.func166 (by kernel_rfl) SpecsOk.nil (by kernel_rfl) h
theorem t98 : GoodC C d98 c98 := fun I hI gs out h =>
  FnC.of_tree low mixed names (pl_ok I hI) (specs := []) (fuel := 100000) (c := code185) (pe := []) Tryz.func185 (by kernel_rfl) SpecsOk.nil (by kernel_rfl) h
theorem t103 : GoodC C d103 c103 := fun I hI gs out h =>
  FnC.of_tree low mixed names (pl_ok I hI) (specs := []) (fuel := 100000) (c := code9) (pe := []) Tryz.func9 (by kernel_rfl) SpecsOk.nil (by kernel_rfl) h
end E
end Go.Proofs.YtamcdgfjjeldeaaGreatDoor
