/- The codes, shapes and contracts. -/
import Derived.Test.YtamcdgfjjeldeaaGreatDoorKRBase
import Derived.Test.YtamcdgfjjeldeaaGreatDoorKFT
import Derived.Test.YtamcdgfjjeldeaaGreatDoorAbsPl
import Derived.Test.YtamcdgfjjeldeaaGreatDoorAbsTold
namespace Go.Proofs.YtamcdgfjjeldeaaGreatDoor
open Go Go.Abs
set_option maxRecDepth 100000
set_option linter.unusedVariables false
set_option linter.unusedSimpArgs false
namespace F
theorem low : TabsLow tabsL Tryz.prog.globals.size := by
  rw [nGlobals]
  refine ⟨fun p hp => ?_, fun p hp => ?_⟩
  all_goals
    simp only [tabsL, List.mem_cons, List.mem_nil_iff, or_false] at hp
    rcases hp with rfl | rfl
    all_goals first | decide | rfl
noncomputable def code99 : Code := Tryz.f99.body.getD .skip
noncomputable def code47 : Code := Tryz.f47.body.getD .skip
noncomputable def code128 : Code := Tryz.f128.body.getD .skip
noncomputable def code40 : Code := Tryz.f40.body.getD .skip
noncomputable def code129 : Code := Tryz.f129.body.getD .skip
noncomputable def code7 : Code := Tryz.f7.body.getD .skip
noncomputable def code35 : Code := Tryz.f35.body.getD .skip
noncomputable def code32 : Code := Tryz.f32.body.getD .skip
noncomputable def code33 : Code := Tryz.f33.body.getD .skip
noncomputable def code46 : Code := Tryz.f46.body.getD .skip
noncomputable def code42 : Code := Tryz.f42.body.getD .skip
noncomputable def code44 : Code := Tryz.f44.body.getD .skip
noncomputable def code96 : Code := Tryz.f96.body.getD .skip
noncomputable def code38 : Code := Tryz.f38.body.getD .skip
noncomputable def b22 : Code := bodyOf code46 [([], 0)]
noncomputable def b20 : Code := bodyOf code40 [([], 0)]
noncomputable def b18 : Code := bodyOf code128 [([], 0)]
noncomputable def b25 : Code := bodyOf code47 [([], 0)]
noncomputable def b10 : Code := bodyOf code129 [([], 0)]
noncomputable def b2 : Code := bodyOf code32 [([], 0)]
noncomputable def b12 : Code := bodyOf code33 [([0], 0)]
noncomputable def b11 : Code := bodyOf code99 [([], 0)]
noncomputable def b14 : Code := bodyOf code35 [([], 0)]
noncomputable def b7 : Code := bodyOf code42 [([], 0)]
noncomputable def b26 : Code := bodyOf b25 [([], 0)]
def s22 : LoopSpec := ⟨22, { np := 2, n := 21, gn := 3, next := 4, slots := [(0, .nd 0), (3, .nd 1)], objs := [] },
  [(.ret, { np := 0, n := 21, gn := 3, next := 4, slots := [(2, .b false)], objs := [] }),
   (.exit 0, { np := 0, n := 21, gn := 3, next := 4, slots := [], objs := [] })]⟩
def s20 : LoopSpec := ⟨20, { np := 4, n := 26, gn := 3, next := 4, slots := [(0, .nd 0), (1, .nd 1), (12, .nd 2), (13, .nd 3)], objs := [] },
  [(.ret, { np := 0, n := 26, gn := 3, next := 4, slots := [(4, .b false)], objs := [] }),
   (.exit 0, { np := 0, n := 26, gn := 3, next := 4, slots := [], objs := [] })]⟩
def s18 : LoopSpec := ⟨18, { np := 4, n := 50, gn := 3, next := 4, slots := [(0, .nd 0), (5, .nd 1), (9, .nd 2), (10, .nd 3)], objs := [] },
  [(.ret, { np := 3, n := 50, gn := 3, next := 4, slots := [(2, .nd 0), (3, .nd 1), (4, .nd 2)], objs := [] }),
   (.exit 0, { np := 1, n := 50, gn := 3, next := 4, slots := [(0, .nd 0)], objs := [] })]⟩
def s25 : LoopSpec := ⟨25, { np := 2, n := 61, gn := 3, next := 4, slots := [(0, .nd 0), (3, .nd 1)], objs := [] },
  [(.exit 0, { np := 1, n := 61, gn := 3, next := 4, slots := [(0, .nd 0)], objs := [] })]⟩
def s10 : LoopSpec := ⟨10, { np := 2, n := 11, gn := 3, next := 4, slots := [(0, .nd 0), (3, .nd 1)], objs := [] },
  [(.exit 0, { np := 1, n := 11, gn := 3, next := 4, slots := [(3, .nd 0)], objs := [] })]⟩
def s2 : LoopSpec := ⟨2, { np := 3, n := 18, gn := 3, next := 4, slots := [(0, .nd 0), (5, .nd 0), (6, .nd 1), (7, .nd 2)], objs := [] },
  [(.ret, { np := 0, n := 18, gn := 3, next := 4, slots := [(2, .b false)], objs := [] }),
   (.exit 0, { np := 1, n := 18, gn := 3, next := 4, slots := [(0, .nd 0)], objs := [] })]⟩
def s12 : LoopSpec := ⟨12, { np := 5, n := 29, gn := 3, next := 6, slots := [(4, .p 4 0), (5, .nd 0), (8, .nd 1), (9, .nd 2), (10, .nd 3)], objs := [(4, .cells [.p 4 0, .sv 5 4] 144 true false), (5, .vec 4 5 true)] },
  [(.ret, { np := 0, n := 29, gn := 3, next := 4, slots := [(2, .s []), (3, .i .i64 7)], objs := [] }),
   (.exit 0, { np := 1, n := 29, gn := 3, next := 6, slots := [(4, .p 4 0)], objs := [(4, .cells [.p 4 0, .sv 5 0] 144 true false), (5, .vec 0 5 true)] })]⟩
def s11 : LoopSpec := ⟨11, { np := 4, n := 33, gn := 3, next := 5, slots := [(0, .nd 0), (3, .sv 4 1), (9, .nd 2), (10, .nd 3)], objs := [(4, .vec 1 5 false)] },
  [(.exit 0, { np := 1, n := 33, gn := 3, next := 5, slots := [(3, .sv 4 0)], objs := [(4, .vec 0 5 false)] })]⟩
def s14 : LoopSpec := ⟨14, { np := 4, n := 32, gn := 3, next := 6, slots := [(4, .sv 4 0), (5, .p 5 0), (6, .nd 1)], objs := [(5, .cells [.nd 2, .nd 3] 151 true false), (4, .vec 0 9 true)] },
  [(.ret, { np := 1, n := 32, gn := 3, next := 4, slots := [(2, .nils), (3, .nd 0)], objs := [] }),
   (.exit 0, { np := 1, n := 32, gn := 3, next := 5, slots := [(4, .sv 4 0)], objs := [(4, .vec 0 9 true)] })]⟩
def s7 : LoopSpec := ⟨7, { np := 3, n := 28, gn := 3, next := 4, slots := [(0, .nd 0), (1, .nd 1), (5, .nd 2)], objs := [] },
  [(.exit 0, { np := 1, n := 28, gn := 3, next := 4, slots := [(5, .nd 0)], objs := [] })]⟩
def s26 : LoopSpec := ⟨26, { np := 4, n := 61, gn := 3, next := 4, slots := [(0, .nd 0), (3, .nd 1), (4, .nd 2), (5, .nd 3)], objs := [] },
  [(.exit 2, { np := 2, n := 61, gn := 3, next := 4, slots := [(0, .nd 0), (3, .nd 1)], objs := [] })]⟩
def s16 : LoopSpec := ⟨16, { np := 2, n := 24, gn := 3, next := 5, slots := [(0, .p 4 0)], objs := [(4, .cells [.nd 0, .nd 1] 151 true false)], ka := 1 },
  [(.ret, { np := 4, n := 2, gn := 3, next := 5, slots := [(0, .nd 0), (1, .nd 1)], objs := [(4, .cells [.nd 2, .nd 3] 151 true false)], ka := 1 })]⟩
def s15 : LoopSpec := ⟨15, { np := 4, n := 63, gn := 3, next := 5, slots := [(0, .p 4 0), (1, .nd 1), (2, .nd 2)], objs := [(4, .cells [.nd 0, .nd 3] 151 true false)], ka := 1 },
  [(.ret, { np := 4, n := 2, gn := 3, next := 5, slots := [(0, .nd 0), (1, .nd 1)], objs := [(4, .cells [.nd 2, .nd 3] 151 true false)], ka := 1 })]⟩
abbrev c8 : Ctr := fun gs out => FnC Tryz.prog tabsL 99 [] [.sc] gs out
abbrev c23 : Ctr := fun gs out => FnC Tryz.prog tabsL 48 [] [.sc] gs out
abbrev c24 : Ctr := fun gs out => FnC Tryz.prog tabsL 47 [] [.sc] gs out
abbrev c17 : Ctr := fun gs out => FnC Tryz.prog tabsL 128 [] [.sc, .sc, .sc] gs out
abbrev c19 : Ctr := fun gs out => FnC Tryz.prog tabsL 40 [] [.sc] gs out
abbrev c9 : Ctr := fun gs out => FnC Tryz.prog tabsL 129 [] [.sc] gs out
abbrev c0 : Ctr := fun gs out => FnC Tryz.prog tabsL 7 [] [.sc] gs out
abbrev c13 : Ctr := fun gs out => FnC Tryz.prog tabsL 35 [] [.sc, .sc] gs out
abbrev c1 : Ctr := fun gs out => FnC Tryz.prog tabsL 32 [] [.sc] gs out
abbrev c3 : Ctr := fun gs out => FnC Tryz.prog tabsL 33 [] [.sc, .sc] gs out
abbrev c21 : Ctr := fun gs out => FnC Tryz.prog tabsL 46 [] [.sc] gs out
abbrev c6 : Ctr := fun gs out => FnC Tryz.prog tabsL 42 [] [.sc] gs out
abbrev c5 : Ctr := fun gs out => FnC Tryz.prog tabsL 44 [] [.sc] gs out
abbrev c16 : Ctr := fun gs out => FnS Tryz.prog tabsL 96 [] s16.pre s16.posts gs out
abbrev c15 : Ctr := fun gs out => FnS Tryz.prog tabsL 38 [] s15.pre s15.posts gs out
abbrev c22 : Ctr := fun gs out => LoopC Tryz.prog tabsL b22 s22.pre s22.posts gs out
abbrev c20 : Ctr := fun gs out => LoopC Tryz.prog tabsL b20 s20.pre s20.posts gs out
abbrev c18 : Ctr := fun gs out => LoopC Tryz.prog tabsL b18 s18.pre s18.posts gs out
abbrev c25 : Ctr := fun gs out => LoopC Tryz.prog tabsL b25 s25.pre s25.posts gs out
abbrev c10 : Ctr := fun gs out => LoopC Tryz.prog tabsL b10 s10.pre s10.posts gs out
abbrev c2 : Ctr := fun gs out => LoopC Tryz.prog tabsL b2 s2.pre s2.posts gs out
abbrev c12 : Ctr := fun gs out => LoopC Tryz.prog tabsL b12 s12.pre s12.posts gs out
abbrev c11 : Ctr := fun gs out => LoopC Tryz.prog tabsL b11 s11.pre s11.posts gs out
abbrev c14 : Ctr := fun gs out => LoopC Tryz.prog tabsL b14 s14.pre s14.posts gs out
abbrev c7 : Ctr := fun gs out => LoopC Tryz.prog tabsL b7 s7.pre s7.posts gs out
abbrev c26 : Ctr := fun gs out => LoopC Tryz.prog tabsL b26 s26.pre s26.posts gs out
noncomputable def Cs : List Ctr := [c0, c1, c2, c3, fun _ _ => True, c5, c6, c7, c8, c9, c10, c11, c12, c13, c14, c15, c16, c17, c18, c19, c20, c21, c22, c23, c24, c25, c26]
noncomputable abbrev C := CofL Cs
noncomputable def pl : PList := PL.cons 38 (fun N => @pCallS N Tryz.prog [] s15) (PL.cons 96 (fun N => @pCallS N Tryz.prog [] s16) (PL.cons 44 (fun N => @pCall N Tryz.prog 5 [] [.sc]) (PL.cons 42 (fun N => @pCall N Tryz.prog 6 [] [.sc]) (PL.cons 46 (fun N => @pCall N Tryz.prog 21 [] [.sc]) (PL.cons 33 (fun N => @pCall N Tryz.prog 3 [] [.sc, .sc]) (PL.cons 32 (fun N => @pCall N Tryz.prog 1 [] [.sc]) (PL.cons 35 (fun N => @pCall N Tryz.prog 13 [] [.sc, .sc]) (PL.cons 7 (fun N => @pCall N Tryz.prog 0 [] [.sc]) (PL.cons 129 (fun N => @pCall N Tryz.prog 9 [] [.sc]) (PL.cons 40 (fun N => @pCall N Tryz.prog 19 [] [.sc]) (PL.cons 128 (fun N => @pCall N Tryz.prog 17 [] [.sc, .sc, .sc]) (PL.cons 47 (fun N => @pCall N Tryz.prog 24 [] [.sc]) (PL.cons 48 (fun N => @pCall N Tryz.prog 23 [] [.sc]) (PL.cons 99 (fun N => @pCall N Tryz.prog 8 [] [.sc]) (PL.cons 31 (fun _ => pClosed) (PL.cons 164 (fun _ => pNoEscape) (PL.nil)))))))))))))))))
end F
end Go.Proofs.YtamcdgfjjeldeaaGreatDoor
