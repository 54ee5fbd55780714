/- The codes, shapes and contracts. -/
import Derived.Test.YtckgelanagoenaaGreatDoorKRBase
import Derived.Test.YtckgelanagoenaaGreatDoorKRT
import Derived.Test.YtckgelanagoenaaGreatDoorAbsPl
import Derived.Test.YtckgelanagoenaaGreatDoorAbsTold
import Derived.Test.YtckgelanagoenaaGreatDoorAbsCloneO
namespace Go.Proofs.YtckgelanagoenaaGreatDoor
open Go Go.Abs
set_option maxRecDepth 100000
set_option linter.unusedVariables false
set_option linter.unusedSimpArgs false
namespace R
theorem low : TabsLow tabsL Tryz.prog.globals.size := by
  rw [nGlobals]
  refine ⟨fun p hp => ?_, fun p hp => ?_⟩
  all_goals
    simp only [tabsL, List.mem_cons, List.mem_nil_iff, or_false] at hp
    rcases hp with rfl | rfl
    all_goals first | decide | rfl
noncomputable def code16 : Code := Tryz.f16.body.getD .skip
noncomputable def code8 : Code := Tryz.f8.body.getD .skip
noncomputable def code158 : Code := Tryz.f158.body.getD .skip
noncomputable def code112 : Code := Tryz.f112.body.getD .skip
noncomputable def code43 : Code := Tryz.f43.body.getD .skip
noncomputable def code42 : Code := Tryz.f42.body.getD .skip
noncomputable def code41 : Code := Tryz.f41.body.getD .skip
noncomputable def code111 : Code := Tryz.f111.body.getD .skip
noncomputable def code157 : Code := Tryz.f157.body.getD .skip
noncomputable def b16 : Code := bodyOf code158 [([], 0)]
noncomputable def b18 : Code := bodyOf code16 [([], 0)]
noncomputable def b10 : Code := bodyOf code41 [([], 0)]
noncomputable def b12 : Code := bodyOf code42 [([], 0)]
noncomputable def b2 : Code := bodyOf code8 [([], 0)]
noncomputable def b7 : Code := bodyOf code157 [([], 0)]
def s16 : LoopSpec := ⟨16, { np := 5, n := 48, gn := 3, next := 6, slots := [(0, .ifc 192 (.p 4 0)), (1, .nd 0), (2, .nd 1), (7, .nd 2)], objs := [(4, .cells [.sv 5 3, .nd 4] 190 true false), (5, .vec 3 194 false)], ka := 1 },
  [(.exit 0, { np := 4, n := 48, gn := 3, next := 6, slots := [(1, .nd 0), (7, .nd 1)], objs := [(4, .cells [.sv 5 2, .nd 3] 190 true false), (5, .vec 2 194 false)], ka := 1, al := [some 0, none, none, some 4] })]⟩
def s18 : LoopSpec := ⟨18, { np := 4, n := 26, gn := 3, next := 4, slots := [(0, .nd 0), (1, .nd 1), (12, .nd 2), (13, .nd 3)], objs := [] },
  [(.ret, { np := 0, n := 26, gn := 3, next := 4, slots := [(4, .b false)], objs := [] }),
   (.exit 0, { np := 0, n := 26, gn := 3, next := 4, slots := [], objs := [] })]⟩
def s10 : LoopSpec := ⟨10, { np := 6, n := 37, gn := 3, next := 6, slots := [(0, .p 4 0), (1, .nd 0), (10, .nd 1), (11, .nd 2), (12, .nd 3)], objs := [(4, .cells [.sv 5 4, .nd 5] 190 true false), (5, .vec 4 194 true)], ka := 1 },
  [(.exit 0, { np := 2, n := 37, gn := 3, next := 6, slots := [], objs := [(4, .cells [.sv 5 0, .nd 1] 190 true false), (5, .vec 0 194 true)], ka := 1 })]⟩
def s12 : LoopSpec := ⟨12, { np := 4, n := 34, gn := 3, next := 7, slots := [(0, .p 4 0), (1, .nd 0), (5, .sv 5 1)], objs := [(4, .cells [.sv 6 2, .nd 3] 190 true false), (6, .vec 2 194 false), (5, .vec 1 9 true)], ka := 1 },
  [(.ret, { np := 3, n := 34, gn := 3, next := 7, slots := [(4, .sv 5 0)], objs := [(4, .cells [.sv 6 1, .nd 2] 190 true false), (6, .vec 1 194 false), (5, .vec 0 9 true)], ka := 1, al := [none, none, some 3] })]⟩
def s2 : LoopSpec := ⟨2, { np := 7, n := 61, gn := 3, next := 6, slots := [(1, .nd 0), (2, .nd 1), (7, .p 4 0), (18, .nd 2), (19, .nd 3), (20, .nd 4)], objs := [(4, .cells [.sv 5 5, .nd 6] 190 true false), (5, .vec 5 194 true)] },
  [(.exit 0, { np := 4, n := 61, gn := 3, next := 6, slots := [(1, .nd 0), (2, .nd 1), (7, .p 4 0)], objs := [(4, .cells [.sv 5 2, .nd 3] 190 true false), (5, .vec 2 194 true)], al := [some 0, some 1, none, none] })]⟩
def s7 : LoopSpec := ⟨7, { np := 3, n := 23, gn := 3, next := 6, slots := [(0, .ifc 192 (.p 4 0)), (1, .nd 0)], objs := [(4, .cells [.sv 5 1, .nd 2] 190 true false), (5, .vec 1 194 true)], ka := 1 },
  [(.exit 0, { np := 2, n := 23, gn := 3, next := 6, slots := [], objs := [(4, .cells [.sv 5 0, .nd 1] 190 true false), (5, .vec 0 194 true)], ka := 1, al := [none, some 2] })]⟩
def s15 : LoopSpec := ⟨15, { np := 4, n := 48, gn := 3, next := 6, slots := [(0, .ifc 192 (.p 4 0)), (1, .nd 0), (2, .nd 1)], objs := [(4, .cells [.sv 5 2, .nd 3] 190 true false), (5, .vec 2 194 false)], ka := 1 },
  [(.ret, { np := 3, n := 1, gn := 3, next := 6, slots := [(0, .nd 0)], objs := [(4, .cells [.sv 5 1, .nd 2] 190 true false), (5, .vec 1 194 false)], ka := 1, al := [none, none, some 3] })]⟩
def s14 : LoopSpec := ⟨14, { np := 2, n := 15, gn := 3, next := 6, slots := [(0, .ifc 192 (.p 4 0))], objs := [(4, .cells [.sv 5 0, .nd 1] 190 true false), (5, .vec 0 194 false)], ka := 1 },
  [(.ret, { np := 5, n := 1, gn := 3, next := 6, slots := [(0, .ifc 194 (.agg [.nd 0, .nd 1, .nd 2]))], objs := [(4, .cells [.sv 5 3, .nd 4] 190 true false), (5, .vec 3 194 false)], ka := 1, al := [none, none, none, none, some 1] })]⟩
def s13 : LoopSpec := ⟨13, { np := 2, n := 24, gn := 3, next := 6, slots := [(0, .p 4 0)], objs := [(4, .cells [.sv 5 0, .nd 1] 190 true false), (5, .vec 0 194 false)], ka := 1 },
  [(.ret, { np := 5, n := 3, gn := 3, next := 6, slots := [(0, .nd 0), (1, .nd 1), (2, .nd 2)], objs := [(4, .cells [.sv 5 3, .nd 4] 190 true false), (5, .vec 3 194 false)], ka := 1, al := [none, none, none, none, some 1] })]⟩
def s11 : LoopSpec := ⟨11, { np := 3, n := 34, gn := 3, next := 6, slots := [(0, .p 4 0), (1, .nd 0)], objs := [(4, .cells [.sv 5 1, .nd 2] 190 true false), (5, .vec 1 194 false)], ka := 1 },
  [(.ret, { np := 3, n := 1, gn := 3, next := 7, slots := [(0, .sv 5 0)], objs := [(4, .cells [.sv 6 1, .nd 2] 190 true false), (6, .vec 1 194 false), (5, .vec 0 9 true)], ka := 1, al := [none, none, some 2] })]⟩
def s9 : LoopSpec := ⟨9, { np := 4, n := 37, gn := 3, next := 6, slots := [(0, .p 4 0), (1, .nd 0), (2, .nd 1)], objs := [(4, .cells [.sv 5 2, .nd 3] 190 true false), (5, .vec 2 194 true)], ka := 1 },
  [(.ret, { np := 2, n := 0, gn := 3, next := 6, slots := [], objs := [(4, .cells [.sv 5 0, .nd 1] 190 true false), (5, .vec 0 194 true)], ka := 1 })]⟩
def s8 : LoopSpec := ⟨8, { np := 4, n := 12, gn := 3, next := 6, slots := [(0, .ifc 192 (.p 4 0)), (1, .ifc 194 (.agg [.nd 0, .nd 1, .nd 2]))], objs := [(4, .cells [.sv 5 3, .nd 1] 190 true false), (5, .vec 3 194 true)], ka := 1 },
  [(.ret, { np := 2, n := 0, gn := 3, next := 6, slots := [], objs := [(4, .cells [.sv 5 0, .nd 1] 190 true false), (5, .vec 0 194 true)], ka := 1, al := [none, some 1] })]⟩
def s6 : LoopSpec := ⟨6, { np := 3, n := 23, gn := 3, next := 6, slots := [(0, .ifc 192 (.p 4 0)), (1, .nd 0)], objs := [(4, .cells [.sv 5 1, .nd 2] 190 true false), (5, .vec 1 194 true)], ka := 1 },
  [(.ret, { np := 2, n := 0, gn := 3, next := 6, slots := [], objs := [(4, .cells [.sv 5 0, .nd 1] 190 true false), (5, .vec 0 194 true)], ka := 1, al := [none, some 2] })]⟩
abbrev c17 : Ctr := fun gs out => FnC Tryz.prog tabsL 16 [] [.sc] gs out
abbrev c0 : Ctr := fun gs out => cloneP 32 3 gs = some out
abbrev c1 : Ctr := fun gs out => FnC Tryz.prog tabsL 8 [] [.sc] gs out
abbrev c15 : Ctr := fun gs out => FnS Tryz.prog tabsL 158 [] s15.pre s15.posts gs out
abbrev c14 : Ctr := fun gs out => FnS Tryz.prog tabsL 112 [] s14.pre s14.posts gs out
abbrev c13 : Ctr := fun gs out => FnS Tryz.prog tabsL 43 [] s13.pre s13.posts gs out
abbrev c11 : Ctr := fun gs out => FnS Tryz.prog tabsL 42 [] s11.pre s11.posts gs out
abbrev c9 : Ctr := fun gs out => FnS Tryz.prog tabsL 41 [] s9.pre s9.posts gs out
abbrev c8 : Ctr := fun gs out => FnS Tryz.prog tabsL 111 [] s8.pre s8.posts gs out
abbrev c6 : Ctr := fun gs out => FnS Tryz.prog tabsL 157 [] s6.pre s6.posts gs out
abbrev c16 : Ctr := fun gs out => LoopC Tryz.prog tabsL b16 s16.pre s16.posts gs out
abbrev c18 : Ctr := fun gs out => LoopC Tryz.prog tabsL b18 s18.pre s18.posts gs out
abbrev c10 : Ctr := fun gs out => LoopC Tryz.prog tabsL b10 s10.pre s10.posts gs out
abbrev c12 : Ctr := fun gs out => LoopC Tryz.prog tabsL b12 s12.pre s12.posts gs out
abbrev c2 : Ctr := fun gs out => LoopC Tryz.prog tabsL b2 s2.pre s2.posts gs out
abbrev c7 : Ctr := fun gs out => LoopC Tryz.prog tabsL b7 s7.pre s7.posts gs out
noncomputable def Cs : List Ctr := [c0, c1, c2, fun _ _ => True, fun _ _ => True, fun _ _ => True, c6, c7, c8, c9, c10, c11, c12, c13, c14, c15, c16, c17, c18]
noncomputable abbrev C := CofL Cs
noncomputable def pl : PList := PL.cons 157 (fun N => @pCallS N Tryz.prog [] s6) (PL.cons 111 (fun N => @pCallS N Tryz.prog [] s8) (PL.cons 41 (fun N => @pCallS N Tryz.prog [] s9) (PL.cons 42 (fun N => @pCallS N Tryz.prog [] s11) (PL.cons 43 (fun N => @pCallS N Tryz.prog [] s13) (PL.cons 112 (fun N => @pCallS N Tryz.prog [] s14) (PL.cons 158 (fun N => @pCallS N Tryz.prog [] s15) (PL.cons 8 (fun N => @pCall N Tryz.prog 1 [] [.sc]) (PL.cons 113 (fun N => @pCloneO N 0 194) (PL.cons 16 (fun N => @pCall N Tryz.prog 17 [] [.sc]) (PL.cons 39 (fun _ => pClosed) (PL.cons 222 (fun _ => pNoEscape) (PL.nil))))))))))))
end R
end Go.Proofs.YtckgelanagoenaaGreatDoor
