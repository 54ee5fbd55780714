/- The codes, shapes and contracts. -/
import Derived.Test.YtbcpbplkgknnmaaGreatDoorKRBase
import Derived.Test.YtbcpbplkgknnmaaGreatDoorKUT
import Derived.Test.YtbcpbplkgknnmaaGreatDoorAbsPl
import Derived.Test.YtbcpbplkgknnmaaGreatDoorAbsTold
import Derived.Test.YtbcpbplkgknnmaaGreatDoorAbsCloneO
namespace Go.Proofs.YtbcpbplkgknnmaaGreatDoor
open Go Go.Abs
set_option maxRecDepth 100000
set_option linter.unusedVariables false
set_option linter.unusedSimpArgs false
namespace U
theorem low : TabsLow tabsL Tryz.prog.globals.size := by
  rw [nGlobals]
  refine ⟨fun p hp => ?_, fun p hp => ?_⟩
  all_goals
    simp only [tabsL, List.mem_cons, List.mem_nil_iff, or_false] at hp
    rcases hp with rfl | rfl
    all_goals first | decide | rfl
noncomputable def code7 : Code := Tryz.f7.body.getD .skip
noncomputable def code58 : Code := Tryz.f58.body.getD .skip
noncomputable def code56 : Code := Tryz.f56.body.getD .skip
noncomputable def code55 : Code := Tryz.f55.body.getD .skip
noncomputable def code57 : Code := Tryz.f57.body.getD .skip
noncomputable def code53 : Code := Tryz.f53.body.getD .skip
noncomputable def code202 : Code := Tryz.f202.body.getD .skip
noncomputable def code137 : Code := Tryz.f137.body.getD .skip
noncomputable def code54 : Code := Tryz.f54.body.getD .skip
noncomputable def code136 : Code := Tryz.f136.body.getD .skip
noncomputable def code201 : Code := Tryz.f201.body.getD .skip
noncomputable def b22 : Code := bodyOf code57 [([], 0)]
noncomputable def b20 : Code := bodyOf code53 [([], 0)]
noncomputable def b18 : Code := bodyOf code56 [([], 0)]
noncomputable def b25 : Code := bodyOf code58 [([], 0)]
noncomputable def b12 : Code := bodyOf code202 [([], 0)]
noncomputable def b2 : Code := bodyOf code7 [([], 0)]
noncomputable def b14 : Code := bodyOf code55 [([], 0)]
noncomputable def b7 : Code := bodyOf code201 [([], 0)]
noncomputable def b23 : Code := bodyOf b2 [([], 0)]
def s23 : LoopSpec := ⟨23, { np := 11, n := 169, gn := 3, next := 7, slots := [(3, .p 4 0), (4, .nd 0), (6, .p 5 0), (23, .nd 1), (24, .nd 2), (25, .nd 3), (54, .nd 4), (55, .nd 5), (56, .nd 6)], objs := [(5, .cells [.nd 7, .nd 8, .nd 4] 100 true false), (4, .cells [.sv 6 9, .nd 10] 232 true false), (6, .vec 9 235 false)] },
  [(.exit 3, { np := 6, n := 169, gn := 3, next := 6, slots := [(3, .p 4 0), (4, .nd 0), (23, .nd 1), (24, .nd 2), (25, .nd 3)], objs := [(4, .cells [.sv 5 4, .nd 5] 232 true false), (5, .vec 4 235 false)], al := [none, some 1, some 2, some 3, some 9, some 10] })]⟩
def s22 : LoopSpec := ⟨22, { np := 4, n := 34, gn := 3, next := 7, slots := [(0, .p 4 0), (1, .nd 0), (5, .sv 5 1)], objs := [(4, .cells [.sv 6 2, .nd 3] 232 true false), (6, .vec 2 235 false), (5, .vec 1 9 true)], ka := 1 },
  [(.ret, { np := 3, n := 34, gn := 3, next := 7, slots := [(4, .sv 5 0)], objs := [(4, .cells [.sv 6 1, .nd 2] 232 true false), (6, .vec 1 235 false), (5, .vec 0 9 true)], ka := 1, al := [none, none, some 3] })]⟩
def s20 : LoopSpec := ⟨20, { np := 6, n := 37, gn := 3, next := 6, slots := [(0, .p 4 0), (1, .nd 0), (10, .nd 1), (11, .nd 2), (12, .nd 3)], objs := [(4, .cells [.sv 5 4, .nd 5] 232 true false), (5, .vec 4 235 false)], ka := 1 },
  [(.exit 0, { np := 2, n := 37, gn := 3, next := 6, slots := [], objs := [(4, .cells [.sv 5 0, .nd 1] 232 true false), (5, .vec 0 235 false)], ka := 1 })]⟩
def s18 : LoopSpec := ⟨18, { np := 4, n := 26, gn := 3, next := 4, slots := [(0, .nd 0), (1, .nd 1), (12, .nd 2), (13, .nd 3)], objs := [] },
  [(.ret, { np := 0, n := 26, gn := 3, next := 4, slots := [(4, .b false)], objs := [] }),
   (.exit 0, { np := 0, n := 26, gn := 3, next := 4, slots := [], objs := [] })]⟩
def s25 : LoopSpec := ⟨25, { np := 4, n := 40, gn := 3, next := 4, slots := [(0, .nd 0), (1, .nd 1), (2, .nd 2), (7, .nd 3)], objs := [] },
  [(.exit 0, { np := 4, n := 40, gn := 3, next := 4, slots := [(0, .nd 0), (1, .nd 1), (2, .nd 2), (7, .nd 3)], objs := [], al := [some 0, some 1, some 2, none] })]⟩
def s12 : LoopSpec := ⟨12, { np := 5, n := 48, gn := 3, next := 6, slots := [(0, .ifc 237 (.p 4 0)), (1, .nd 0), (2, .nd 1), (7, .nd 2)], objs := [(4, .cells [.sv 5 3, .nd 4] 232 true false), (5, .vec 3 235 false)], ka := 1 },
  [(.exit 0, { np := 4, n := 48, gn := 3, next := 6, slots := [(1, .nd 0), (7, .nd 1)], objs := [(4, .cells [.sv 5 2, .nd 3] 232 true false), (5, .vec 2 235 false)], ka := 1, al := [some 0, none, none, some 4] })]⟩
def s2 : LoopSpec := ⟨2, { np := 6, n := 169, gn := 3, next := 6, slots := [(3, .p 4 0), (4, .nd 0), (23, .nd 1), (24, .nd 2), (25, .nd 3)], objs := [(4, .cells [.sv 5 4, .nd 5] 232 true false), (5, .vec 4 235 false)] },
  [(.ret, { np := 1, n := 169, gn := 3, next := 4, slots := [(2, .nd 0)], objs := [] }),
   (.exit 0, { np := 0, n := 169, gn := 3, next := 4, slots := [], objs := [] })]⟩
def s14 : LoopSpec := ⟨14, { np := 4, n := 35, gn := 3, next := 5, slots := [(0, .nd 0), (1, .nd 1), (6, .sv 4 2), (7, .nd 3)], objs := [(4, .vec 2 9 true)] },
  [(.exit 0, { np := 3, n := 35, gn := 3, next := 5, slots := [(0, .nd 0), (6, .sv 4 1), (7, .nd 2)], objs := [(4, .vec 1 9 true)], al := [some 0, none, none] })]⟩
def s7 : LoopSpec := ⟨7, { np := 3, n := 23, gn := 3, next := 6, slots := [(0, .ifc 237 (.p 4 0)), (1, .nd 0)], objs := [(4, .cells [.sv 5 1, .nd 2] 232 true false), (5, .vec 1 235 false)], ka := 1 },
  [(.exit 0, { np := 2, n := 23, gn := 3, next := 6, slots := [], objs := [(4, .cells [.sv 5 0, .nd 1] 232 true false), (5, .vec 0 235 false)], ka := 1, al := [none, some 2] })]⟩
def s21 : LoopSpec := ⟨21, { np := 3, n := 34, gn := 3, next := 6, slots := [(0, .p 4 0), (1, .nd 0)], objs := [(4, .cells [.sv 5 1, .nd 2] 232 true false), (5, .vec 1 235 false)], ka := 1 },
  [(.ret, { np := 3, n := 1, gn := 3, next := 7, slots := [(0, .sv 5 0)], objs := [(4, .cells [.sv 6 1, .nd 2] 232 true false), (6, .vec 1 235 false), (5, .vec 0 9 true)], ka := 1, al := [none, none, some 2] })]⟩
def s19 : LoopSpec := ⟨19, { np := 4, n := 37, gn := 3, next := 6, slots := [(0, .p 4 0), (1, .nd 0), (2, .nd 1)], objs := [(4, .cells [.sv 5 2, .nd 3] 232 true false), (5, .vec 2 235 false)], ka := 1 },
  [(.ret, { np := 2, n := 0, gn := 3, next := 6, slots := [], objs := [(4, .cells [.sv 5 0, .nd 1] 232 true false), (5, .vec 0 235 false)], ka := 1 })]⟩
def s11 : LoopSpec := ⟨11, { np := 4, n := 48, gn := 3, next := 6, slots := [(0, .ifc 237 (.p 4 0)), (1, .nd 0), (2, .nd 1)], objs := [(4, .cells [.sv 5 2, .nd 3] 232 true false), (5, .vec 2 235 false)], ka := 1 },
  [(.ret, { np := 3, n := 1, gn := 3, next := 6, slots := [(0, .nd 0)], objs := [(4, .cells [.sv 5 1, .nd 2] 232 true false), (5, .vec 1 235 false)], ka := 1, al := [none, none, some 3] })]⟩
def s10 : LoopSpec := ⟨10, { np := 2, n := 15, gn := 3, next := 6, slots := [(0, .ifc 237 (.p 4 0))], objs := [(4, .cells [.sv 5 0, .nd 1] 232 true false), (5, .vec 0 235 false)], ka := 1 },
  [(.ret, { np := 5, n := 1, gn := 3, next := 6, slots := [(0, .ifc 235 (.agg [.nd 0, .nd 1, .nd 2]))], objs := [(4, .cells [.sv 5 3, .nd 4] 232 true false), (5, .vec 3 235 false)], ka := 1, al := [none, none, none, none, some 1] })]⟩
def s9 : LoopSpec := ⟨9, { np := 2, n := 24, gn := 3, next := 6, slots := [(0, .p 4 0)], objs := [(4, .cells [.sv 5 0, .nd 1] 232 true false), (5, .vec 0 235 false)], ka := 1 },
  [(.ret, { np := 5, n := 3, gn := 3, next := 6, slots := [(0, .nd 0), (1, .nd 1), (2, .nd 2)], objs := [(4, .cells [.sv 5 3, .nd 4] 232 true false), (5, .vec 3 235 false)], ka := 1, al := [none, none, none, none, some 1] })]⟩
def s8 : LoopSpec := ⟨8, { np := 4, n := 12, gn := 3, next := 6, slots := [(0, .ifc 237 (.p 4 0)), (1, .ifc 235 (.agg [.nd 0, .nd 1, .nd 2]))], objs := [(4, .cells [.sv 5 3, .nd 1] 232 true false), (5, .vec 3 235 false)], ka := 1 },
  [(.ret, { np := 2, n := 0, gn := 3, next := 6, slots := [], objs := [(4, .cells [.sv 5 0, .nd 1] 232 true false), (5, .vec 0 235 false)], ka := 1, al := [none, some 1] })]⟩
def s6 : LoopSpec := ⟨6, { np := 3, n := 23, gn := 3, next := 6, slots := [(0, .ifc 237 (.p 4 0)), (1, .nd 0)], objs := [(4, .cells [.sv 5 1, .nd 2] 232 true false), (5, .vec 1 235 false)], ka := 1 },
  [(.ret, { np := 2, n := 0, gn := 3, next := 6, slots := [], objs := [(4, .cells [.sv 5 0, .nd 1] 232 true false), (5, .vec 0 235 false)], ka := 1, al := [none, some 2] })]⟩
abbrev c1 : Ctr := fun gs out => FnC Tryz.prog tabsL 7 [] [.sc] gs out
abbrev c24 : Ctr := fun gs out => FnC Tryz.prog tabsL 58 [] [.sc] gs out
abbrev c0 : Ctr := fun gs out => cloneP 32 3 gs = some out
abbrev c17 : Ctr := fun gs out => FnC Tryz.prog tabsL 56 [] [.sc] gs out
abbrev c13 : Ctr := fun gs out => FnC Tryz.prog tabsL 55 [] [.sc, .sc] gs out
abbrev c21 : Ctr := fun gs out => FnS Tryz.prog tabsL 57 [] s21.pre s21.posts gs out
abbrev c19 : Ctr := fun gs out => FnS Tryz.prog tabsL 53 [] s19.pre s19.posts gs out
abbrev c11 : Ctr := fun gs out => FnS Tryz.prog tabsL 202 [] s11.pre s11.posts gs out
abbrev c10 : Ctr := fun gs out => FnS Tryz.prog tabsL 137 [] s10.pre s10.posts gs out
abbrev c9 : Ctr := fun gs out => FnS Tryz.prog tabsL 54 [] s9.pre s9.posts gs out
abbrev c8 : Ctr := fun gs out => FnS Tryz.prog tabsL 136 [] s8.pre s8.posts gs out
abbrev c6 : Ctr := fun gs out => FnS Tryz.prog tabsL 201 [] s6.pre s6.posts gs out
abbrev c23 : Ctr := fun gs out => LoopC Tryz.prog tabsL b23 s23.pre s23.posts gs out
abbrev c22 : Ctr := fun gs out => LoopC Tryz.prog tabsL b22 s22.pre s22.posts gs out
abbrev c20 : Ctr := fun gs out => LoopC Tryz.prog tabsL b20 s20.pre s20.posts gs out
abbrev c18 : Ctr := fun gs out => LoopC Tryz.prog tabsL b18 s18.pre s18.posts gs out
abbrev c25 : Ctr := fun gs out => LoopC Tryz.prog tabsL b25 s25.pre s25.posts gs out
abbrev c12 : Ctr := fun gs out => LoopC Tryz.prog tabsL b12 s12.pre s12.posts gs out
abbrev c2 : Ctr := fun gs out => LoopC Tryz.prog tabsL b2 s2.pre s2.posts gs out
abbrev c14 : Ctr := fun gs out => LoopC Tryz.prog tabsL b14 s14.pre s14.posts gs out
abbrev c7 : Ctr := fun gs out => LoopC Tryz.prog tabsL b7 s7.pre s7.posts gs out
noncomputable def Cs : List Ctr := [c0, c1, c2, fun _ _ => True, fun _ _ => True, fun _ _ => True, c6, c7, c8, c9, c10, c11, c12, c13, c14, fun _ _ => True, fun _ _ => True, c17, c18, c19, c20, c21, c22, c23, c24, c25]
noncomputable abbrev C := CofL Cs
noncomputable def pl : PList := PL.cons 201 (fun N => @pCallS N Tryz.prog [] s6) (PL.cons 136 (fun N => @pCallS N Tryz.prog [] s8) (PL.cons 54 (fun N => @pCallS N Tryz.prog [] s9) (PL.cons 137 (fun N => @pCallS N Tryz.prog [] s10) (PL.cons 202 (fun N => @pCallS N Tryz.prog [] s11) (PL.cons 53 (fun N => @pCallS N Tryz.prog [] s19) (PL.cons 57 (fun N => @pCallS N Tryz.prog [] s21) (PL.cons 55 (fun N => @pCall N Tryz.prog 13 [] [.sc, .sc]) (PL.cons 56 (fun N => @pCall N Tryz.prog 17 [] [.sc]) (PL.cons 135 (fun N => @pCloneO N 0 235) (PL.cons 58 (fun N => @pCall N Tryz.prog 24 [] [.sc]) (PL.cons 7 (fun N => @pCall N Tryz.prog 1 [] [.sc]) (PL.cons 50 (fun _ => pClosed) (PL.cons 282 (fun _ => pNoEscape) (PL.nil))))))))))))))
end U
end Go.Proofs.YtbcpbplkgknnmaaGreatDoor
