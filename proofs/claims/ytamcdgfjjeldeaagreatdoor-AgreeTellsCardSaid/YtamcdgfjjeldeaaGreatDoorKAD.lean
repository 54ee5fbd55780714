/- The codes, shapes and contracts. -/
import Derived.Test.YtamcdgfjjeldeaaGreatDoorKRBase
import Derived.Test.YtamcdgfjjeldeaaGreatDoorKAT
namespace Go.Proofs.YtamcdgfjjeldeaaGreatDoor
open Go Go.Abs
set_option maxRecDepth 100000
set_option linter.unusedVariables false
set_option linter.unusedSimpArgs false
namespace A
theorem low : TabsLow tabsL Tryz.prog.globals.size := by
  rw [nGlobals]
  refine ⟨fun p hp => ?_, fun p hp => ?_⟩
  all_goals
    simp only [tabsL, List.mem_cons, List.mem_nil_iff, or_false] at hp
    rcases hp with rfl | rfl
    all_goals first | decide | rfl
noncomputable def code13 : Code := Tryz.f13.body.getD .skip
noncomputable def code14 : Code := Tryz.f14.body.getD .skip
noncomputable def code73 : Code := Tryz.f73.body.getD .skip
noncomputable def code74 : Code := Tryz.f74.body.getD .skip
noncomputable def code75 : Code := Tryz.f75.body.getD .skip
noncomputable def b7 : Code := bodyOf code74 [([], 0)]
noncomputable def b3 : Code := bodyOf code75 [([], 0)]
noncomputable def b5 : Code := bodyOf code13 [([], 0)]
noncomputable def b8 : Code := bodyOf b7 [([], 0)]
def s7 : LoopSpec := ⟨7, { np := 3, n := 39, gn := 3, next := 4, slots := [(0, .nd 0), (1, .nd 1), (6, .nd 2)], objs := [] },
  [(.ret, { np := 1, n := 39, gn := 3, next := 4, slots := [(4, .nd 0), (5, .b true)], objs := [] }),
   (.exit 0, { np := 0, n := 39, gn := 3, next := 4, slots := [], objs := [] })]⟩
def s3 : LoopSpec := ⟨3, { np := 5, n := 40, gn := 3, next := 5, slots := [(4, .p 4 0), (14, .nd 0), (15, .nd 1), (16, .nd 2)], objs := [(4, .cells [.nd 3, .nd 4] 114 true false)] },
  [(.exit 0, { np := 2, n := 40, gn := 3, next := 5, slots := [(4, .p 4 0)], objs := [(4, .cells [.nd 0, .nd 1] 114 true false)] })]⟩
def s8 : LoopSpec := ⟨8, { np := 6, n := 39, gn := 3, next := 4, slots := [(0, .nd 0), (1, .nd 1), (6, .nd 2), (7, .nd 3), (17, .nd 4), (18, .nd 5)], objs := [] },
  [(.exit 2, { np := 4, n := 39, gn := 3, next := 4, slots := [(0, .nd 0), (1, .nd 1), (6, .nd 2), (7, .nd 3)], objs := [] })]⟩
def s5 : LoopSpec := ⟨5, { np := 10, n := 127, gn := 3, next := 8, slots := [(2, .nd 0), (3, .nd 1), (4, .p 4 0), (5, .p 5 0), (9, .sv 6 2), (10, .sv 7 3), (36, .nd 0), (37, .nd 4), (38, .nd 5)], objs := [(7, .vec 3 35 true), (6, .vec 2 35 true), (5, .cells [.nd 6, .nd 7] 114 true false), (4, .cells [.nd 8, .nd 9] 114 true false)] },
  [(.ret, { np := 0, n := 127, gn := 3, next := 4, slots := [(8, .b true)], objs := [] }),
   (.exit 0, { np := 8, n := 127, gn := 3, next := 8, slots := [(2, .nd 0), (3, .nd 1), (4, .p 4 0), (5, .p 5 0), (9, .sv 6 2), (10, .sv 7 3)], objs := [(7, .vec 3 35 true), (6, .vec 2 35 true), (5, .cells [.nd 4, .nd 5] 114 true false), (4, .cells [.nd 6, .nd 7] 114 true false)] })]⟩
abbrev c4 : Ctr := fun gs out => FnC Tryz.prog tabsL 13 [] [.sc] gs out
abbrev c0 : Ctr := fun gs out => FnC Tryz.prog tabsL 14 [] [.sc] gs out
abbrev c1 : Ctr := fun gs out => FnC Tryz.prog tabsL 73 [] [.sc, .sc] gs out
abbrev c6 : Ctr := fun gs out => FnC Tryz.prog tabsL 74 [] [.sc, .sc] gs out
abbrev c2 : Ctr := fun gs out => FnC Tryz.prog tabsL 75 [] [.sc, .sc] gs out
abbrev c7 : Ctr := fun gs out => LoopC Tryz.prog tabsL b7 s7.pre s7.posts gs out
abbrev c3 : Ctr := fun gs out => LoopC Tryz.prog tabsL b3 s3.pre s3.posts gs out
abbrev c8 : Ctr := fun gs out => LoopC Tryz.prog tabsL b8 s8.pre s8.posts gs out
abbrev c5 : Ctr := fun gs out => LoopC Tryz.prog tabsL b5 s5.pre s5.posts gs out
noncomputable def Cs : List Ctr := [c0, c1, c2, c3, c4, c5, c6, c7, c8]
noncomputable abbrev C := CofL Cs
noncomputable def pl : PList := PL.cons 75 (fun N => @pCall N Tryz.prog 2 [] [.sc, .sc]) (PL.cons 74 (fun N => @pCall N Tryz.prog 6 [] [.sc, .sc]) (PL.cons 73 (fun N => @pCall N Tryz.prog 1 [] [.sc, .sc]) (PL.cons 14 (fun N => @pCall N Tryz.prog 0 [] [.sc]) (PL.cons 13 (fun N => @pCall N Tryz.prog 4 [] [.sc]) (PL.cons 72 (fun _ => pClosed) (PL.cons 164 (fun _ => pNoEscape) (PL.nil)))))))
end A
end Go.Proofs.YtamcdgfjjeldeaaGreatDoor
