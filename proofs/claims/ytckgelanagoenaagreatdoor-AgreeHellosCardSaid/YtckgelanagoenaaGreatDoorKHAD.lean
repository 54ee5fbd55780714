/- The codes, shapes and contracts. -/
import Derived.Test.YtckgelanagoenaaGreatDoorKRBase
import Derived.Test.YtckgelanagoenaaGreatDoorKHAT
namespace Go.Proofs.YtckgelanagoenaaGreatDoor
open Go Go.Abs
set_option maxRecDepth 100000
set_option linter.unusedVariables false
set_option linter.unusedSimpArgs false
namespace HA
theorem low : TabsLow tabsL Tryz.prog.globals.size := by
  rw [nGlobals]
  refine ⟨fun p hp => ?_, fun p hp => ?_⟩
  all_goals
    simp only [tabsL, List.mem_cons, List.mem_nil_iff, or_false] at hp
    rcases hp with rfl | rfl
    all_goals first | decide | rfl
noncomputable def code52 : Code := Tryz.f52.body.getD .skip
noncomputable def code132 : Code := Tryz.f132.body.getD .skip
noncomputable def code117 : Code := Tryz.f117.body.getD .skip
noncomputable def code50 : Code := Tryz.f50.body.getD .skip
noncomputable def code11 : Code := Tryz.f11.body.getD .skip
noncomputable def code53 : Code := Tryz.f53.body.getD .skip
noncomputable def code93 : Code := Tryz.f93.body.getD .skip
noncomputable def code80 : Code := Tryz.f80.body.getD .skip
noncomputable def code140 : Code := Tryz.f140.body.getD .skip
noncomputable def code57 : Code := Tryz.f57.body.getD .skip
noncomputable def code51 : Code := Tryz.f51.body.getD .skip
noncomputable def code58 : Code := Tryz.f58.body.getD .skip
noncomputable def code9 : Code := Tryz.f9.body.getD .skip
noncomputable def code12 : Code := Tryz.f12.body.getD .skip
noncomputable def code55 : Code := Tryz.f55.body.getD .skip
noncomputable def code56 : Code := Tryz.f56.body.getD .skip
noncomputable def b10 : Code := bodyOf code93 [([], 0)]
noncomputable def b5 : Code := bodyOf code56 [([], 0)]
noncomputable def b18 : Code := bodyOf code117 [([], 0)]
noncomputable def b3 : Code := bodyOf code55 [([], 0)]
noncomputable def b9 : Code := bodyOf code140 [([], 0)]
noncomputable def b14 : Code := bodyOf code57 [([], 0)]
noncomputable def b11 : Code := bodyOf code80 [([], 0)]
def s10 : LoopSpec := ⟨10, { np := 4, n := 33, gn := 3, next := 5, slots := [(0, .nd 0), (3, .sv 4 1), (9, .nd 2), (10, .nd 3)], objs := [(4, .vec 1 5 false)] },
  [(.exit 0, { np := 1, n := 33, gn := 3, next := 5, slots := [(3, .sv 4 0)], objs := [(4, .vec 0 5 false)] })]⟩
def s5 : LoopSpec := ⟨5, { np := 3, n := 37, gn := 3, next := 4, slots := [(0, .nd 0), (5, .nd 0), (6, .nd 1), (7, .nd 2)], objs := [] },
  [(.ret, { np := 0, n := 37, gn := 3, next := 4, slots := [(2, .b false)], objs := [] }),
   (.exit 0, { np := 1, n := 37, gn := 3, next := 4, slots := [(0, .nd 0)], objs := [] })]⟩
def s18 : LoopSpec := ⟨18, { np := 3, n := 54, gn := 3, next := 5, slots := [(0, .nd 0), (1, .nd 1), (6, .sv 4 2)], objs := [(4, .vec 2 51 true)] },
  [(.exit 0, { np := 2, n := 54, gn := 3, next := 5, slots := [(0, .nd 0), (6, .sv 4 1)], objs := [(4, .vec 1 51 true)] })]⟩
def s3 : LoopSpec := ⟨3, { np := 3, n := 23, gn := 3, next := 4, slots := [(0, .nd 0), (5, .nd 0), (6, .nd 1), (7, .nd 2)], objs := [] },
  [(.ret, { np := 0, n := 23, gn := 3, next := 4, slots := [(2, .b false)], objs := [] }),
   (.exit 0, { np := 1, n := 23, gn := 3, next := 4, slots := [(0, .nd 0)], objs := [] })]⟩
def s9 : LoopSpec := ⟨9, { np := 2, n := 11, gn := 3, next := 4, slots := [(0, .nd 0), (3, .nd 1)], objs := [] },
  [(.exit 0, { np := 1, n := 11, gn := 3, next := 4, slots := [(3, .nd 0)], objs := [] })]⟩
def s14 : LoopSpec := ⟨14, { np := 3, n := 19, gn := 3, next := 4, slots := [(0, .nd 0), (5, .nd 0), (6, .nd 1), (7, .nd 2)], objs := [] },
  [(.ret, { np := 0, n := 19, gn := 3, next := 4, slots := [(2, .b false)], objs := [] }),
   (.exit 0, { np := 1, n := 19, gn := 3, next := 4, slots := [(0, .nd 0)], objs := [] })]⟩
def s11 : LoopSpec := ⟨11, { np := 4, n := 22, gn := 3, next := 6, slots := [(3, .p 4 0), (11, .nd 0), (12, .nd 1), (13, .nd 2)], objs := [(4, .cells [.p 4 0, .sv 5 3] 226 true false), (5, .vec 3 5 true)] },
  [(.exit 0, { np := 1, n := 22, gn := 3, next := 6, slots := [(3, .p 4 0)], objs := [(4, .cells [.p 4 0, .sv 5 0] 226 true false), (5, .vec 0 5 true)] })]⟩
abbrev c22 : Ctr := fun gs out => FnC Tryz.prog tabsL 52 [] [.ag 24] gs out
abbrev c12 : Ctr := fun gs out => FnC Tryz.prog tabsL 132 [] [.sc] gs out
abbrev c17 : Ctr := fun gs out => FnC Tryz.prog tabsL 117 [] [.sc, .sc] gs out
abbrev c19 : Ctr := fun gs out => FnC Tryz.prog tabsL 50 [] [.ag 2, .sc] gs out
abbrev c1 : Ctr := fun gs out => FnC Tryz.prog tabsL 11 [] [.sc] gs out
abbrev c20 : Ctr := fun gs out => FnC Tryz.prog tabsL 53 [] [.sc] gs out
abbrev c7 : Ctr := fun gs out => FnC Tryz.prog tabsL 93 [] [.sc] gs out
abbrev c6 : Ctr := fun gs out => FnC Tryz.prog tabsL 80 [] [.sc] gs out
abbrev c8 : Ctr := fun gs out => FnC Tryz.prog tabsL 140 [] [.sc] gs out
abbrev c13 : Ctr := fun gs out => FnC Tryz.prog tabsL 57 [] [.sc] gs out
abbrev c21 : Ctr := fun gs out => FnC Tryz.prog tabsL 51 [] [.sc] gs out
abbrev c16 : Ctr := fun gs out => FnC Tryz.prog tabsL 58 [] [.sc] gs out
abbrev c0 : Ctr := fun gs out => FnC Tryz.prog tabsL 9 [] [.sc] gs out
abbrev c15 : Ctr := fun gs out => FnC Tryz.prog tabsL 12 [] [.ag 24] gs out
abbrev c2 : Ctr := fun gs out => FnC Tryz.prog tabsL 55 [] [.sc] gs out
abbrev c4 : Ctr := fun gs out => FnC Tryz.prog tabsL 56 [] [.sc] gs out
abbrev c10 : Ctr := fun gs out => LoopC Tryz.prog tabsL b10 s10.pre s10.posts gs out
abbrev c5 : Ctr := fun gs out => LoopC Tryz.prog tabsL b5 s5.pre s5.posts gs out
abbrev c18 : Ctr := fun gs out => LoopC Tryz.prog tabsL b18 s18.pre s18.posts gs out
abbrev c3 : Ctr := fun gs out => LoopC Tryz.prog tabsL b3 s3.pre s3.posts gs out
abbrev c9 : Ctr := fun gs out => LoopC Tryz.prog tabsL b9 s9.pre s9.posts gs out
abbrev c14 : Ctr := fun gs out => LoopC Tryz.prog tabsL b14 s14.pre s14.posts gs out
abbrev c11 : Ctr := fun gs out => LoopC Tryz.prog tabsL b11 s11.pre s11.posts gs out
noncomputable def Cs : List Ctr := [c0, c1, c2, c3, c4, c5, c6, c7, c8, c9, c10, c11, c12, c13, c14, c15, c16, c17, c18, c19, c20, c21, c22]
noncomputable abbrev C := CofL Cs
noncomputable def pl : PList := PL.cons 56 (fun N => @pCall N Tryz.prog 4 [] [.sc]) (PL.cons 55 (fun N => @pCall N Tryz.prog 2 [] [.sc]) (PL.cons 12 (fun N => @pCall N Tryz.prog 15 [] [.ag 24]) (PL.cons 9 (fun N => @pCall N Tryz.prog 0 [] [.sc]) (PL.cons 58 (fun N => @pCall N Tryz.prog 16 [] [.sc]) (PL.cons 51 (fun N => @pCall N Tryz.prog 21 [] [.sc]) (PL.cons 57 (fun N => @pCall N Tryz.prog 13 [] [.sc]) (PL.cons 140 (fun N => @pCall N Tryz.prog 8 [] [.sc]) (PL.cons 80 (fun N => @pCall N Tryz.prog 6 [] [.sc]) (PL.cons 93 (fun N => @pCall N Tryz.prog 7 [] [.sc]) (PL.cons 53 (fun N => @pCall N Tryz.prog 20 [] [.sc]) (PL.cons 11 (fun N => @pCall N Tryz.prog 1 [] [.sc]) (PL.cons 50 (fun N => @pCall N Tryz.prog 19 [] [.ag 2, .sc]) (PL.cons 117 (fun N => @pCall N Tryz.prog 17 [] [.sc, .sc]) (PL.cons 132 (fun N => @pCall N Tryz.prog 12 [] [.sc]) (PL.cons 52 (fun N => @pCall N Tryz.prog 22 [] [.ag 24]) (PL.cons 49 (fun _ => pClosed) (PL.cons 222 (fun _ => pNoEscape) (PL.nil))))))))))))))))))
end HA
end Go.Proofs.YtckgelanagoenaaGreatDoor
