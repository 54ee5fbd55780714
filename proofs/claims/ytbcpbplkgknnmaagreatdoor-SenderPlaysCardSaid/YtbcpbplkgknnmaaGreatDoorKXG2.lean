/- Definitions keep their contracts: the ways of the bodies, run by the kernel. -/
import Derived.Test.YtbcpbplkgknnmaaGreatDoorKXP
namespace Go.Proofs.YtbcpbplkgknnmaaGreatDoor
open Go Go.Abs
set_option maxRecDepth 100000
set_option linter.unusedVariables false
set_option linter.unusedSimpArgs false
namespace X
theorem t2 : GoodC C d2 c2 := fun I hI gs out h =>
  FnC.of_tree low mixed names (pl_ok I hI) (specs := [(0, s3)]) (fuel := 100000) (c := code12) (pe := []) Tryz.func12 (by kernel_rfl) (SpecsOk.cons rfl (fun gs out h => hI 3 gs out h) SpecsOk.nil) (by kernel_rfl) h
theorem t4 : GoodC C d4 c4 := fun I hI gs out h =>
  FnC.of_tree low mixed names (pl_ok I hI) (specs := [(0, s5)]) (fuel := 100000) (c := code13) (pe := []) Tryz.func13 (by kernel_rfl) (SpecsOk.cons rfl (fun gs out h => hI 5 gs out h) SpecsOk.nil) (by kernel_rfl) h
theorem t6 : GoodC C d6 c6 := fun I hI gs out h =>
  FnC.of_tree low mixed names (pl_ok I hI) (specs := [(0, s11)]) (fuel := 100000) (c := code81) (pe := []) Tryz.func81 (by kernel_rfl) (SpecsOk.cons rfl (fun gs out h => hI 11 gs out h) SpecsOk.nil) (by kernel_rfl) h
theorem t10 : GoodC C d10 c10 := fun I hI gs out h =>
  LoopC.of_tree_at low mixed names (pl_ok I hI) (specs := []) (fuel := 100000) (sp := s10) (by kernel_rfl) rfl (ps := []) (b := b10) SpecsOk.nil (fun gs out h => hI 10 gs out h) (by kernel_rfl) h
theorem t11 : GoodC C d11 c11 := fun I hI gs out h =>
  LoopC.of_tree_at low mixed names (pl_ok I hI) (specs := []) (fuel := 100000) (sp := s11) (by kernel_rfl) rfl (ps := []) (b := b11) SpecsOk.nil (fun gs out h => hI 11 gs out h) (by kernel_rfl) h
theorem t16 : GoodC C d16 c16 := fun I hI gs out h =>
  FnC.of_tree low mixed names (pl_ok I hI) (specs := []) (fuel := 100000) (c := code141) (pe := []) Tryz.func141 (by kernel_rfl) SpecsOk.nil (by kernel_rfl) h
theorem t18 : GoodC C d18 c18 := fun I hI gs out h =>
  LoopC.of_tree_at low mixed names (pl_ok I hI) (specs := []) (fuel := 100000) (sp := s18) (by kernel_rfl) rfl (ps := []) (b := b18) SpecsOk.nil (fun gs out h => hI 18 gs out h) (by kernel_rfl) h
theorem t20 : GoodC C d20 c20 := fun I hI gs out h =>
  FnC.of_tree low mixed names (pl_ok I hI) (specs := [(0, s21)]) (fuel := 100000) (c := code157) (pe := []) Tryz.func157 (by kernel_rfl) (SpecsOk.cons rfl (fun gs out h => hI 21 gs out h) SpecsOk.nil) (by kernel_rfl) h
theorem t25 : GoodC C d25 c25 := fun _ _ _ _ h => valid_ok h
theorem t28 : GoodC C d28 c28 := fun _ _ _ _ h => cloneP_ok123 h
theorem t34 : GoodC C d34 c34 := fun I hI gs out h =>
  LoopC.of_tree_at low mixed names (pl_ok I hI) (specs := []) (fuel := 100000) (sp := s34) (by kernel_rfl) rfl (ps := []) (b := b34) SpecsOk.nil (fun gs out h => hI 34 gs out h) (by kernel_rfl) h
theorem t38 : GoodC C d38 c38 := fun I hI gs out h =>
  FnC.of_tree low mixed names (pl_ok I hI) (specs := [(0, s39)]) (fuel := 100000) (c := code144) (pe := []) Tryz.func144 (by kernel_rfl) (SpecsOk.cons rfl (fun gs out h => hI 39 gs out h) SpecsOk.nil) (by kernel_rfl) h
theorem t43 : GoodC C d43 c43 := fun I hI gs out h =>
  FnC.of_tree low mixed names (pl_ok I hI) (specs := []) (fuel := 100000) (c := code86) (pe := []) Tryz.func86 (by kernel_rfl) SpecsOk.nil (by kernel_rfl) h
theorem t44 : GoodC C d44 c44 := fun I hI gs out h =>
  FnC.of_tree low mixed names (pl_ok I hI) (specs := [(0, s45)]) (fuel := 100000) (c := code163) (pe := []) Tryz.func163 (by kernel_rfl) (SpecsOk.cons rfl (fun gs out h => hI 45 gs out h) SpecsOk.nil) (by kernel_rfl) h
theorem t45 : GoodC C d45 c45 := fun I hI gs out h =>
  LoopC.of_tree_at low mixed names (pl_ok I hI) (specs := []) (fuel := 100000) (sp := s45) (by kernel_rfl) rfl (ps := []) (b := b45) SpecsOk.nil (fun gs out h => hI 45 gs out h) (by kernel_rfl) h
theorem t47 : GoodC C d47 c47 := fun I hI gs out h =>
  FnC.of_tree low mixed names (pl_ok I hI) (specs := []) (fuel := 100000) (c := code113) (pe := []) Tryz.func113 (by kernel_rfl) SpecsOk.nil (by kernel_rfl) h
theorem t49 : GoodC C d49 c49 := fun I hI gs out h =>
  LoopC.of_tree_at low mixed names (pl_ok I hI) (specs := []) (fuel := 100000) (sp := s49) (by kernel_rfl) rfl (ps := []) (b := b49) SpecsOk.nil (fun gs out h => hI 49 gs out h) (by kernel_rfl) h
theorem t56 : GoodC C d56 c56 := fun I hI gs out h =>
  FnC.of_tree low mixed names (pl_ok I hI) (specs := [(0, s59)]) (fuel := 100000) (c := code88) (pe := []) Tryz.func88 (by kernel_rfl) (SpecsOk.cons rfl (fun gs out h => hI 59 gs out h) SpecsOk.nil) (by kernel_rfl) h
theorem t57 : GoodC C d57 c57 := fun I hI gs out h =>
  FnC.of_tree low mixed names (pl_ok I hI) (specs := [(0, s58)]) (fuel := 100000) (c := code105) (pe := []) Tryz.func105 (by kernel_rfl) (SpecsOk.cons rfl (fun gs out h => hI 58 gs out h) SpecsOk.nil) (by kernel_rfl) h
theorem t64 : GoodC C d64 c64 := fun I hI gs out h =>
  FnC.of_tree low mixed names (pl_ok I hI) (specs := [(0, s65)]) (fuel := 100000) (c := code23) (pe := []) Tryz.func23 (by kernel_rfl) (SpecsOk.cons rfl (fun gs out h => hI 65 gs out h) SpecsOk.nil) (by kernel_rfl) h
theorem t83 : GoodC C d83 c83 := fun I hI gs out h =>
  FnC.of_tree low mixed names (pl_ok I hI) (specs := [(0, s85), (1, s101)]) (fuel := 100000) (c := code44) (pe := []) Tryz.func44 (by kernel_rfl) (SpecsOk.cons rfl (fun gs out h => hI 85 gs out h) (SpecsOk.cons rfl (fun gs out h => hI 101 gs out h) SpecsOk.nil)) (by kernel_rfl) h
theorem t85 : GoodC C d85 c85 := fun I hI gs out h =>
  LoopC.of_tree_at low mixed names (pl_ok I hI) (specs := []) (fuel := 100000) (sp := s85) (by kernel_rfl) rfl (ps := []) (b := b85) SpecsOk.nil (fun gs out h => hI 85 gs out h) (by kernel_rfl) h
theorem t86 : GoodC C d86 c86 := fun I hI gs out h =>
  FnC.of_tree low mixed names (pl_ok I hI) (specs := []) (fuel := 100000) (c := code102) (pe := []) Tryz.func102 (by kernel_rfl) SpecsOk.nil (by kernel_rfl) h
theorem t89 : GoodC C d89 c89 := fun I hI gs out h =>
  FnC.of_tree low mixed names (pl_ok I hI) (specs := []) (fuel := 100000) (c := code179) (pe := []) Tryz.func179 (by kernel_rfl) SpecsOk.nil (by kernel_rfl) h
theorem t98 : GoodC C d98 c98 := fun I hI gs out h =>
  LoopC.of_tree_at low mixed names (pl_ok I hI) (specs := []) (fuel := 100000) (sp := s98) (by kernel_rfl) rfl (ps := []) (b := b98) SpecsOk.nil (fun gs out h => hI 98 gs out h) (by kernel_rfl) h
theorem t99 : GoodC C d99 c99 := fun I hI gs out h =>
  FnC.of_tree low mixed names (pl_ok I hI) (specs := [(0, s100)]) (fuel := 100000) (c := code37) (pe := []) Tryz.func37 (by kernel_rfl) (SpecsOk.cons rfl (fun gs out h => hI 100 gs out h) SpecsOk.nil) (by kernel_rfl) h
theorem t118 : GoodC C d118 c118 := fun I hI gs out h =>
  FnC.of_tree low mixed names (pl_ok I hI) (specs := [(0, s122)]) (fuel := 100000) (c := code147) (pe := []) Tryz.func147 (by kernel_rfl) (SpecsOk.cons rfl (fun gs out h => hI 122 gs out h) SpecsOk.nil) (by kernel_rfl) h
theorem t120 : GoodC C d120 c120 := fun I hI gs out h =>
  LoopC.of_tree_at low mixed names (pl_ok I hI) (specs := [(0, s121)]) (fuel := 100000) (sp := s120) (by kernel_rfl) rfl (ps := []) (b := b120) (SpecsOk.cons rfl (fun gs out h => hI 121 gs out h) SpecsOk.nil) (fun gs out h => hI 120 gs out h) (by kernel_rfl) h
theorem t124 : GoodC C d124 c124 := fun I hI gs out h =>
  LoopC.of_tree_at low mixed names (pl_ok I hI) (specs := []) (fuel := 100000) (sp := s124) (by kernel_rfl) rfl (ps := []) (b := b124) SpecsOk.nil (fun gs out h => hI 124 gs out h) (by kernel_rfl) h
theorem t126 : GoodC C d126 c126 := fun I hI gs out h =>
  FnS.of_tree low mixed names (pl_ok I hI) (specs := [(0, s127)]) (fuel := 100000) (c := code63) (pe := []) (sp := s126) rfl Tryz.func63 (by kernel_rfl) (SpecsOk.cons rfl (fun gs out h => hI 127 gs out h) SpecsOk.nil) (by kernel_rfl) h
theorem t129 : GoodC C d129 c129 := fun I hI gs out h =>
  FnS.of_tree low mixed names (pl_ok I hI) (specs := []) (fuel := 100000) (c := code70) (pe := []) (sp := s129) rfl Tryz.func70 (by kernel_rfl) SpecsOk.nil (by kernel_rfl) h
end X
end Go.Proofs.YtbcpbplkgknnmaaGreatDoor
