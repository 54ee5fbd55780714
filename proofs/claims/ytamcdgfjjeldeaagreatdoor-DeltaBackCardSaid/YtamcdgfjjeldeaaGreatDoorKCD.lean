/- The codes, shapes and contracts. -/
import Derived.Test.YtamcdgfjjeldeaaGreatDoorKRBase
import Derived.Test.YtamcdgfjjeldeaaGreatDoorKCT
import Derived.Test.YtamcdgfjjeldeaaGreatDoorAbsSort
import Derived.Test.YtamcdgfjjeldeaaGreatDoorAbsTold
import Derived.Test.YtamcdgfjjeldeaaGreatDoorAbsTold2
namespace Go.Proofs.YtamcdgfjjeldeaaGreatDoor
open Go Go.Abs
set_option maxRecDepth 100000
set_option linter.unusedVariables false
set_option linter.unusedSimpArgs false
namespace C
theorem low : TabsLow tabsL Tryz.prog.globals.size := by
  rw [nGlobals]
  refine ⟨fun p hp => ?_, fun p hp => ?_⟩
  all_goals
    simp only [tabsL, List.mem_cons, List.mem_nil_iff, or_false] at hp
    rcases hp with rfl | rfl
    all_goals first | decide | rfl
noncomputable def code117 : Code := Tryz.f117.body.getD .skip
noncomputable def code16 : Code := Tryz.f16.body.getD .skip
noncomputable def code197 : Code := Tryz.f197.body.getD .skip
noncomputable def code3 : Code := Tryz.f3.body.getD .skip
noncomputable def code86 : Code := Tryz.f86.body.getD .skip
noncomputable def code177 : Code := Tryz.f177.body.getD .skip
noncomputable def code57 : Code := Tryz.f57.body.getD .skip
noncomputable def code18 : Code := Tryz.f18.body.getD .skip
noncomputable def code87 : Code := Tryz.f87.body.getD .skip
noncomputable def code17 : Code := Tryz.f17.body.getD .skip
noncomputable def code10 : Code := Tryz.f10.body.getD .skip
noncomputable def code109 : Code := Tryz.f109.body.getD .skip
noncomputable def code88 : Code := Tryz.f88.body.getD .skip
noncomputable def code59 : Code := Tryz.f59.body.getD .skip
noncomputable def code99 : Code := Tryz.f99.body.getD .skip
noncomputable def code11 : Code := Tryz.f11.body.getD .skip
noncomputable def code20 : Code := Tryz.f20.body.getD .skip
noncomputable def code81 : Code := Tryz.f81.body.getD .skip
noncomputable def code110 : Code := Tryz.f110.body.getD .skip
noncomputable def code129 : Code := Tryz.f129.body.getD .skip
noncomputable def code58 : Code := Tryz.f58.body.getD .skip
noncomputable def code21 : Code := Tryz.f21.body.getD .skip
noncomputable def code61 : Code := Tryz.f61.body.getD .skip
noncomputable def code22 : Code := Tryz.f22.body.getD .skip
noncomputable def code19 : Code := Tryz.f19.body.getD .skip
noncomputable def code4 : Code := Tryz.f4.body.getD .skip
noncomputable def code62 : Code := Tryz.f62.body.getD .skip
noncomputable def code82 : Code := Tryz.f82.body.getD .skip
noncomputable def code116 : Code := Tryz.f116.body.getD .skip
noncomputable def code139 : Code := Tryz.f139.body.getD .skip
noncomputable def b5 : Code := bodyOf code22 [([], 0)]
noncomputable def b9 : Code := bodyOf code129 [([], 0)]
noncomputable def b50 : Code := bodyOf code58 [([], 0)]
noncomputable def b17 : Code := bodyOf code117 [([], 0)]
noncomputable def b32 : Code := bodyOf code88 [([], 0)]
noncomputable def b3 : Code := bodyOf code16 [([], 0)]
noncomputable def b34 : Code := bodyOf code4 [([], 0)]
noncomputable def b22 : Code := bodyOf code17 [([], 1)]
noncomputable def b25 : Code := bodyOf code18 [([], 0)]
noncomputable def b38 : Code := bodyOf code21 [([], 0)]
noncomputable def b10 : Code := bodyOf code99 [([], 0)]
noncomputable def b36 : Code := bodyOf code20 [([], 0)]
noncomputable def b14 : Code := bodyOf code17 [([], 0)]
noncomputable def b43 : Code := bodyOf code109 [([], 0)]
noncomputable def b11 : Code := bodyOf code81 [([], 0)]
noncomputable def b29 : Code := bodyOf code86 [([], 0)]
noncomputable def b26 : Code := bodyOf b25 [([], 0)]
def s5 : LoopSpec := ⟨5, { np := 3, n := 23, gn := 3, next := 4, slots := [(0, .nd 0), (5, .nd 0), (6, .nd 1), (7, .nd 2)], objs := [] },
  [(.ret, { np := 0, n := 23, gn := 3, next := 4, slots := [(2, .b false)], objs := [] }),
   (.exit 0, { np := 1, n := 23, gn := 3, next := 4, slots := [(0, .nd 0)], objs := [] })]⟩
def s9 : LoopSpec := ⟨9, { np := 2, n := 11, gn := 3, next := 4, slots := [(0, .nd 0), (3, .nd 1)], objs := [] },
  [(.exit 0, { np := 1, n := 11, gn := 3, next := 4, slots := [(3, .nd 0)], objs := [] })]⟩
def s50 : LoopSpec := ⟨50, { np := 7, n := 85, gn := 3, next := 7, slots := [(4, .p 4 0), (7, .p 5 0), (8, .nd 0), (43, .nd 1), (44, .nd 2), (45, .nd 3)], objs := [(5, .cells [.nd 4, .nd 5, .sv 6 6] 86 true false), (6, .vec 6 37 true), (4, .cells [.i .u64 0, .i .u64 0, .nils] 86 true false)] },
  [(.exit 0, { np := 3, n := 85, gn := 3, next := 7, slots := [(4, .p 4 0), (7, .p 5 0)], objs := [(5, .cells [.nd 0, .nd 1, .sv 6 2] 86 true false), (6, .vec 2 37 true), (4, .cells [.i .u64 0, .i .u64 0, .nils] 86 true false)] })]⟩
def s17 : LoopSpec := ⟨17, { np := 3, n := 42, gn := 3, next := 4, slots := [(0, .nd 0), (15, .nd 0), (16, .nd 1), (17, .nd 2)], objs := [] },
  [(.ret, { np := 1, n := 42, gn := 3, next := 4, slots := [(2, .nd 0)], objs := [] }),
   (.exit 0, { np := 0, n := 42, gn := 3, next := 4, slots := [], objs := [] })]⟩
def s32 : LoopSpec := ⟨32, { np := 4, n := 26, gn := 3, next := 4, slots := [(0, .nd 0), (1, .nd 1), (12, .nd 2), (13, .nd 3)], objs := [] },
  [(.ret, { np := 0, n := 26, gn := 3, next := 4, slots := [(4, .b false)], objs := [] }),
   (.exit 0, { np := 0, n := 26, gn := 3, next := 4, slots := [], objs := [] })]⟩
def s3 : LoopSpec := ⟨3, { np := 3, n := 37, gn := 3, next := 4, slots := [(0, .nd 0), (5, .nd 0), (6, .nd 1), (7, .nd 2)], objs := [] },
  [(.ret, { np := 0, n := 37, gn := 3, next := 4, slots := [(2, .b false)], objs := [] }),
   (.exit 0, { np := 1, n := 37, gn := 3, next := 4, slots := [(0, .nd 0)], objs := [] })]⟩
def s34 : LoopSpec := ⟨34, { np := 6, n := 92, gn := 3, next := 4, slots := [(0, .nd 0), (5, .nd 1), (8, .nd 2), (9, .nd 3), (59, .nd 0), (60, .nd 4), (61, .nd 5)], objs := [] },
  [(.ret, { np := 0, n := 92, gn := 3, next := 4, slots := [(4, .b false)], objs := [] }),
   (.exit 0, { np := 4, n := 92, gn := 3, next := 4, slots := [(0, .nd 0), (5, .nd 1), (8, .nd 2), (9, .nd 3)], objs := [] })]⟩
def s22 : LoopSpec := ⟨22, { np := 4, n := 69, gn := 3, next := 7, slots := [(4, .p 4 0), (8, .sv 5 0), (41, .sv 6 1), (42, .nd 2), (43, .nd 3)], objs := [(6, .vec 1 128 true), (5, .vec 0 37 false), (4, .cells [.sv 6 1] 126 true false)] },
  [(.ret, { np := 0, n := 69, gn := 3, next := 4, slots := [(2, .nils), (3, .i .i64 14)], objs := [] }),
   (.exit 2, { np := 1, n := 69, gn := 3, next := 5, slots := [(8, .sv 4 0)], objs := [(4, .vec 0 37 false)] })]⟩
def s26 : LoopSpec := ⟨26, { np := 8, n := 59, gn := 3, next := 5, slots := [(0, .nd 0), (5, .nd 1), (7, .p 4 0), (8, .nd 2), (9, .nd 3), (10, .nd 4), (11, .nd 5)], objs := [(4, .cells [.nd 6, .nd 7] 37 true false)] },
  [(.exit 2, { np := 11, n := 59, gn := 3, next := 5, slots := [(0, .nd 0), (5, .nd 1), (7, .p 4 0), (8, .nd 2), (9, .nd 3), (10, .nd 4), (11, .nd 5), (23, .nd 0), (24, .nd 1), (25, .rx 6 0), (26, .rx 6 0), (27, .nd 7), (28, .nd 8), (29, .nd 2), (30, .b false)], objs := [(4, .cells [.nd 9, .nd 10] 37 true false)] }),
   (.exit 2, { np := 8, n := 59, gn := 3, next := 5, slots := [(0, .nd 0), (5, .nd 1), (7, .p 4 0), (8, .nd 2), (9, .nd 3), (10, .nd 4), (11, .nd 5), (23, .tup []), (24, .tup []), (25, .tup []), (26, .tup []), (27, .tup []), (28, .tup []), (29, .tup []), (30, .tup [])], objs := [(4, .cells [.nd 6, .nd 7] 37 true false)] })]⟩
def s25 : LoopSpec := ⟨25, { np := 5, n := 59, gn := 3, next := 4, slots := [(0, .nd 0), (5, .nd 1), (9, .nd 2), (10, .nd 3), (11, .nd 4)], objs := [] },
  [(.ret, { np := 0, n := 59, gn := 3, next := 4, slots := [(4, .b false)], objs := [] }),
   (.exit 0, { np := 0, n := 59, gn := 3, next := 4, slots := [], objs := [] })]⟩
def s38 : LoopSpec := ⟨38, { np := 4, n := 42, gn := 3, next := 4, slots := [(3, .nd 0), (11, .nd 1), (12, .nd 2), (13, .nd 3)], objs := [] },
  [(.ret, { np := 1, n := 42, gn := 3, next := 4, slots := [(2, .nd 0)], objs := [] }),
   (.exit 0, { np := 0, n := 42, gn := 3, next := 4, slots := [], objs := [] })]⟩
def s10 : LoopSpec := ⟨10, { np := 4, n := 33, gn := 3, next := 5, slots := [(0, .nd 0), (3, .sv 4 1), (9, .nd 2), (10, .nd 3)], objs := [(4, .vec 1 5 false)] },
  [(.exit 0, { np := 1, n := 33, gn := 3, next := 5, slots := [(3, .sv 4 0)], objs := [(4, .vec 0 5 false)] })]⟩
def s36 : LoopSpec := ⟨36, { np := 4, n := 20, gn := 3, next := 4, slots := [(1, .nd 0), (7, .nd 1), (8, .nd 2), (9, .nd 3)], objs := [] },
  [(.ret, { np := 1, n := 20, gn := 3, next := 4, slots := [(4, .nd 0)], objs := [] }),
   (.exit 0, { np := 0, n := 20, gn := 3, next := 4, slots := [], objs := [] })]⟩
def s14 : LoopSpec := ⟨14, { np := 4, n := 69, gn := 3, next := 6, slots := [(4, .p 4 0), (14, .nd 0), (15, .nd 1), (16, .nd 2)], objs := [(4, .cells [.sv 5 3] 126 true false), (5, .vec 3 128 true)] },
  [(.ret, { np := 1, n := 69, gn := 3, next := 4, slots := [(2, .nils), (3, .nd 0)], objs := [] }),
   (.exit 0, { np := 1, n := 69, gn := 3, next := 6, slots := [(4, .p 4 0)], objs := [(4, .cells [.sv 5 0] 126 true false), (5, .vec 0 128 true)] })]⟩
def s43 : LoopSpec := ⟨43, { np := 3, n := 106, gn := 3, next := 5, slots := [(0, .nd 0), (1, .nd 1), (6, .sv 4 2)], objs := [(4, .vec 2 37 false)] },
  [(.ret, { np := 0, n := 106, gn := 3, next := 4, slots := [(4, .nils), (5, .i .i64 3)], objs := [] }),
   (.exit 0, { np := 1, n := 106, gn := 3, next := 5, slots := [(6, .sv 4 0)], objs := [(4, .vec 0 37 false)] })]⟩
def s11 : LoopSpec := ⟨11, { np := 4, n := 22, gn := 3, next := 6, slots := [(3, .p 4 0), (11, .nd 0), (12, .nd 1), (13, .nd 2)], objs := [(4, .cells [.p 4 0, .sv 5 3] 144 true false), (5, .vec 3 5 true)] },
  [(.exit 0, { np := 1, n := 22, gn := 3, next := 6, slots := [(3, .p 4 0)], objs := [(4, .cells [.p 4 0, .sv 5 0] 144 true false), (5, .vec 0 5 true)] })]⟩
def s29 : LoopSpec := ⟨29, { np := 4, n := 32, gn := 3, next := 4, slots := [(1, .nd 0), (2, .fn 87 [] []), (15, .nd 1), (16, .nd 2), (17, .nd 3)], objs := [] },
  [(.ret, { np := 0, n := 32, gn := 3, next := 4, slots := [(6, .b false)], objs := [] }),
   (.exit 0, { np := 0, n := 32, gn := 3, next := 4, slots := [], objs := [] })]⟩
abbrev c16 : Ctr := fun gs out => FnC Tryz.prog tabsL 117 [] [.sc] gs out
abbrev c2 : Ctr := fun gs out => FnC Tryz.prog tabsL 16 [] [.sc] gs out
abbrev c20 : Ctr := fun gs out => FnC Tryz.prog tabsL 197 [] [.sc] gs out
abbrev c21 : Ctr := fun gs out => FnC Tryz.prog tabsL 213 [] [.sc] gs out
abbrev c1 : Ctr := fun gs out => FnC Tryz.prog tabsL 3 [] [.sc] gs out
abbrev c28 : Ctr := fun gs out => FnC Tryz.prog tabsL 86 [none, none, some 87] [.sc] gs out
abbrev c19 : Ctr := fun gs out => FnC Tryz.prog tabsL 177 [] [.sc] gs out
abbrev c40 : Ctr := fun gs out => FnC Tryz.prog tabsL 57 [] [.ag 3, .sc] gs out
abbrev c24 : Ctr := fun gs out => FnC Tryz.prog tabsL 18 [] [.sc] gs out
abbrev c30 : Ctr := fun gs out => FnC Tryz.prog tabsL 87 [] [.sc] gs out
abbrev c13 : Ctr := fun gs out => FnC Tryz.prog tabsL 17 [] [.sc, .sc] gs out
abbrev c39 : Ctr := fun gs out => FnC Tryz.prog tabsL 10 [] [.sc] gs out
abbrev c42 : Ctr := fun gs out => FnC Tryz.prog tabsL 109 [] [.sc, .sc] gs out
abbrev c45 : Ctr := fun gs out => FnC Tryz.prog tabsL 186 [] [.sc] gs out
abbrev c31 : Ctr := fun gs out => FnC Tryz.prog tabsL 88 [] [.sc] gs out
abbrev c51 : Ctr := fun gs out => FnC Tryz.prog tabsL 59 [] [.ag 2, .sc] gs out
abbrev c7 : Ctr := fun gs out => FnC Tryz.prog tabsL 99 [] [.sc] gs out
abbrev c0 : Ctr := fun gs out => sortP gs = some out
abbrev c47 : Ctr := fun gs out => FnC Tryz.prog tabsL 11 [] [.sc] gs out
abbrev c35 : Ctr := fun gs out => FnC Tryz.prog tabsL 20 [] [.sc] gs out
abbrev c6 : Ctr := fun gs out => FnC Tryz.prog tabsL 81 [] [.sc] gs out
abbrev c46 : Ctr := fun gs out => FnC Tryz.prog tabsL 133 [] [.sc, .sc] gs out
abbrev c44 : Ctr := fun gs out => FnC Tryz.prog tabsL 110 [] [.sc] gs out
abbrev c8 : Ctr := fun gs out => FnC Tryz.prog tabsL 129 [] [.sc] gs out
abbrev c23 : Ctr := fun gs out => FnC Tryz.prog tabsL 123 [] [.sc] gs out
abbrev c48 : Ctr := fun gs out => FnC Tryz.prog tabsL 58 [] [.ag 3, .sc] gs out
abbrev c37 : Ctr := fun gs out => FnC Tryz.prog tabsL 21 [] [.sc] gs out
abbrev c41 : Ctr := fun gs out => FnC Tryz.prog tabsL 61 [] [.sc] gs out
abbrev c4 : Ctr := fun gs out => FnC Tryz.prog tabsL 22 [] [.sc] gs out
abbrev c27 : Ctr := fun gs out => FnC Tryz.prog tabsL 19 [] [.sc] gs out
abbrev c33 : Ctr := fun gs out => FnC Tryz.prog tabsL 4 [] [.sc] gs out
abbrev c49 : Ctr := fun gs out => FnC Tryz.prog tabsL 62 [] [.sc] gs out
abbrev c15 : Ctr := fun gs out => FnC Tryz.prog tabsL 82 [] [.sc] gs out
abbrev c12 : Ctr := fun gs out => FnC Tryz.prog tabsL 116 [] [.sc] gs out
abbrev c18 : Ctr := fun gs out => FnC Tryz.prog tabsL 139 [] [.sc] gs out
abbrev c5 : Ctr := fun gs out => LoopC Tryz.prog tabsL b5 s5.pre s5.posts gs out
abbrev c9 : Ctr := fun gs out => LoopC Tryz.prog tabsL b9 s9.pre s9.posts gs out
abbrev c50 : Ctr := fun gs out => LoopC Tryz.prog tabsL b50 s50.pre s50.posts gs out
abbrev c17 : Ctr := fun gs out => LoopC Tryz.prog tabsL b17 s17.pre s17.posts gs out
abbrev c32 : Ctr := fun gs out => LoopC Tryz.prog tabsL b32 s32.pre s32.posts gs out
abbrev c3 : Ctr := fun gs out => LoopC Tryz.prog tabsL b3 s3.pre s3.posts gs out
abbrev c34 : Ctr := fun gs out => LoopC Tryz.prog tabsL b34 s34.pre s34.posts gs out
abbrev c22 : Ctr := fun gs out => LoopC Tryz.prog tabsL b22 s22.pre s22.posts gs out
abbrev c26 : Ctr := fun gs out => LoopC Tryz.prog tabsL b26 s26.pre s26.posts gs out
abbrev c25 : Ctr := fun gs out => LoopC Tryz.prog tabsL b25 s25.pre s25.posts gs out
abbrev c38 : Ctr := fun gs out => LoopC Tryz.prog tabsL b38 s38.pre s38.posts gs out
abbrev c10 : Ctr := fun gs out => LoopC Tryz.prog tabsL b10 s10.pre s10.posts gs out
abbrev c36 : Ctr := fun gs out => LoopC Tryz.prog tabsL b36 s36.pre s36.posts gs out
abbrev c14 : Ctr := fun gs out => LoopC Tryz.prog tabsL b14 s14.pre s14.posts gs out
abbrev c43 : Ctr := fun gs out => LoopC Tryz.prog tabsL b43 s43.pre s43.posts gs out
abbrev c11 : Ctr := fun gs out => LoopC Tryz.prog tabsL b11 s11.pre s11.posts gs out
abbrev c29 : Ctr := fun gs out => LoopC Tryz.prog tabsL b29 s29.pre s29.posts gs out
noncomputable def Cs : List Ctr := [c0, c1, c2, c3, c4, c5, c6, c7, c8, c9, c10, c11, c12, c13, c14, c15, c16, c17, c18, c19, c20, c21, c22, c23, c24, c25, c26, c27, c28, c29, c30, c31, c32, c33, c34, c35, c36, c37, c38, c39, c40, c41, c42, c43, c44, c45, c46, c47, c48, c49, c50, c51]
noncomputable abbrev C := CofL Cs
noncomputable def pl : PList := PL.cons 139 (fun N => @pCall N Tryz.prog 18 [] [.sc]) (PL.cons 116 (fun N => @pCall N Tryz.prog 12 [] [.sc]) (PL.cons 82 (fun N => @pCall N Tryz.prog 15 [] [.sc]) (PL.cons 62 (fun N => @pCall N Tryz.prog 49 [] [.sc]) (PL.cons 4 (fun N => @pCall N Tryz.prog 33 [] [.sc]) (PL.cons 19 (fun N => @pCall N Tryz.prog 27 [] [.sc]) (PL.cons 22 (fun N => @pCall N Tryz.prog 4 [] [.sc]) (PL.cons 61 (fun N => @pCall N Tryz.prog 41 [] [.sc]) (PL.cons 21 (fun N => @pCall N Tryz.prog 37 [] [.sc]) (PL.cons 58 (fun N => @pCall N Tryz.prog 48 [] [.ag 3, .sc]) (PL.cons 123 (fun N => @pCall N Tryz.prog 23 [] [.sc]) (PL.cons 129 (fun N => @pCall N Tryz.prog 8 [] [.sc]) (PL.cons 110 (fun N => @pCall N Tryz.prog 44 [] [.sc]) (PL.cons 133 (fun N => @pCall N Tryz.prog 46 [] [.sc, .sc]) (PL.cons 81 (fun N => @pCall N Tryz.prog 6 [] [.sc]) (PL.cons 20 (fun N => @pCall N Tryz.prog 35 [] [.sc]) (PL.cons 11 (fun N => @pCall N Tryz.prog 47 [] [.sc]) (PL.cons 83 (fun N => @pSort N 0 84 126) (PL.cons 99 (fun N => @pCall N Tryz.prog 7 [] [.sc]) (PL.cons 59 (fun N => @pCall N Tryz.prog 51 [] [.ag 2, .sc]) (PL.cons 88 (fun N => @pCall N Tryz.prog 31 [] [.sc]) (PL.cons 186 (fun N => @pCall N Tryz.prog 45 [] [.sc]) (PL.cons 109 (fun N => @pCall N Tryz.prog 42 [] [.sc, .sc]) (PL.cons 10 (fun N => @pCall N Tryz.prog 39 [] [.sc]) (PL.cons 17 (fun N => @pCall N Tryz.prog 13 [] [.sc, .sc]) (PL.cons 87 (fun N => @pCall N Tryz.prog 30 [] [.sc]) (PL.cons 18 (fun N => @pCall N Tryz.prog 24 [] [.sc]) (PL.cons 57 (fun N => @pCall N Tryz.prog 40 [] [.ag 3, .sc]) (PL.cons 177 (fun N => @pCall N Tryz.prog 19 [] [.sc]) (PL.cons 86 (fun N => @pCall N Tryz.prog 28 [none, none, some 87] [.sc]) (PL.cons 3 (fun N => @pCall N Tryz.prog 1 [] [.sc]) (PL.cons 213 (fun N => @pCall N Tryz.prog 21 [] [.sc]) (PL.cons 197 (fun N => @pCall N Tryz.prog 20 [] [.sc]) (PL.cons 16 (fun N => @pCall N Tryz.prog 2 [] [.sc]) (PL.cons 117 (fun N => @pCall N Tryz.prog 16 [] [.sc]) (PL.cons 56 (fun _ => pClosed) (PL.cons 15 (fun _ => pClosed) (PL.cons 164 (fun _ => pNoEscape) (PL.nil))))))))))))))))))))))))))))))))))))))
end C
end Go.Proofs.YtamcdgfjjeldeaaGreatDoor
