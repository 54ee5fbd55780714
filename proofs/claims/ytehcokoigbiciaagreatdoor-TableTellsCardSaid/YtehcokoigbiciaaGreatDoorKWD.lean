/- The shapes, and all definitions as rows. -/
import Derived.Test.YtehcokoigbiciaaGreatDoorKRBase
import Derived.Test.YtehcokoigbiciaaGreatDoorKWT
import Derived.Test.YtehcokoigbiciaaGreatDoorAbsTab
import Derived.Test.YtehcokoigbiciaaGreatDoorAbsPl
import Derived.Test.YtehcokoigbiciaaGreatDoorAbsTold
import Derived.Test.YtehcokoigbiciaaGreatDoorAbsSort
namespace Go.Proofs.YtehcokoigbiciaaGreatDoor
open Go Go.Abs
set_option maxRecDepth 100000
set_option linter.unusedVariables false
set_option linter.unusedSimpArgs false
namespace W
theorem low : TabsLow tabsL Tryz.prog.globals.size := by
  rw [nGlobals]
  refine ⟨fun p hp => ?_, fun p hp => ?_⟩
  all_goals
    simp only [tabsL, List.mem_cons, List.mem_nil_iff, or_false] at hp
    rcases hp with rfl | rfl
    all_goals first | decide | rfl
def s57 : LoopSpec := ⟨57, { np := 3, n := 67, gn := 3, next := 4, slots := [(0, .nd 0), (9, .nd 1), (10, .nd 2)], objs := [] },
  [(.ret, { np := 1, n := 67, gn := 3, next := 4, slots := [(2, .nd 0)], objs := [] }),
   (.exit 0, { np := 0, n := 67, gn := 3, next := 4, slots := [], objs := [] })]⟩
def s55 : LoopSpec := ⟨55, { np := 4, n := 42, gn := 3, next := 4, slots := [(3, .nd 0), (11, .nd 1), (12, .nd 2), (13, .nd 3)], objs := [] },
  [(.ret, { np := 1, n := 42, gn := 3, next := 4, slots := [(2, .nd 0)], objs := [] }),
   (.exit 0, { np := 0, n := 42, gn := 3, next := 4, slots := [], objs := [] })]⟩
def s63 : LoopSpec := ⟨63, { np := 4, n := 26, gn := 3, next := 4, slots := [(0, .nd 0), (1, .nd 1), (12, .nd 2), (13, .nd 3)], objs := [] },
  [(.ret, { np := 0, n := 26, gn := 3, next := 4, slots := [(4, .b false)], objs := [] }),
   (.exit 0, { np := 0, n := 26, gn := 3, next := 4, slots := [], objs := [] })]⟩
def s48 : LoopSpec := ⟨48, { np := 4, n := 22, gn := 3, next := 4, slots := [(3, .nd 0), (10, .nd 1), (11, .nd 2), (12, .nd 3)], objs := [] },
  [(.exit 0, { np := 1, n := 22, gn := 3, next := 4, slots := [(3, .nd 0)], objs := [] })]⟩
def s72 : LoopSpec := ⟨72, { np := 8, n := 59, gn := 3, next := 5, slots := [(0, .nd 0), (5, .nd 1), (7, .p 4 0), (8, .nd 2), (9, .nd 3), (10, .nd 4), (11, .nd 5)], objs := [(4, .cells [.nd 6, .nd 7] 43 true false)] },
  [(.exit 2, { np := 11, n := 59, gn := 3, next := 5, slots := [(0, .nd 0), (5, .nd 1), (7, .p 4 0), (8, .nd 2), (9, .nd 3), (10, .nd 4), (11, .nd 5), (23, .nd 0), (24, .nd 1), (25, .rx 6 0), (26, .rx 6 0), (27, .nd 7), (28, .nd 8), (29, .nd 2), (30, .b false)], objs := [(4, .cells [.nd 9, .nd 10] 43 true false)], al := [some 0, none, some 2, some 3, some 4, some 5, none, none, none, some 6, some 7] }),
   (.exit 2, { np := 8, n := 59, gn := 3, next := 5, slots := [(0, .nd 0), (5, .nd 1), (7, .p 4 0), (8, .nd 2), (9, .nd 3), (10, .nd 4), (11, .nd 5), (23, .tup []), (24, .tup []), (25, .tup []), (26, .tup []), (27, .tup []), (28, .tup []), (29, .tup []), (30, .tup [])], objs := [(4, .cells [.nd 6, .nd 7] 43 true false)], al := [some 0, none, some 2, some 3, some 4, some 5, some 6, some 7] })]⟩
def s38 : LoopSpec := ⟨38, { np := 5, n := 81, gn := 3, next := 4, slots := [(0, .nd 0), (4, .nd 1), (5, .nd 2), (6, .nd 3), (7, .nd 4)], objs := [] },
  [(.ret, { np := 0, n := 81, gn := 3, next := 4, slots := [(2, .i .i64 0)], objs := [] }),
   (.exit 0, { np := 3, n := 81, gn := 3, next := 4, slots := [(4, .nd 0), (5, .nd 1), (6, .nd 2)], objs := [], al := [some 1, none, some 3] })]⟩
def s32 : LoopSpec := ⟨32, { np := 3, n := 41, gn := 3, next := 4, slots := [(0, .nd 0), (3, .nd 1), (4, .nd 2)], objs := [] },
  [(.exit 0, { np := 1, n := 41, gn := 3, next := 4, slots := [(3, .nd 0)], objs := [] })]⟩
def s27 : LoopSpec := ⟨27, { np := 4, n := 18, gn := 3, next := 5, slots := [(3, .sv 4 0), (6, .nd 1), (7, .nd 2), (8, .nd 3)], objs := [(4, .vec 0 64 false)] },
  [(.exit 0, { np := 1, n := 18, gn := 3, next := 5, slots := [(3, .sv 4 0)], objs := [(4, .vec 0 64 false)] })]⟩
def s53 : LoopSpec := ⟨53, { np := 11, n := 71, gn := 3, next := 4, slots := [(0, .nd 0), (1, .nd 1), (5, .nd 2), (13, .nd 3), (14, .nd 2), (29, .nd 0), (30, .nd 2), (31, .rx 4 0), (32, .rx 4 0), (33, .nd 5), (34, .nd 6), (35, .nd 1), (36, .nd 2), (37, .rx 7 0), (38, .rx 7 0), (39, .nd 8), (40, .nd 9), (41, .b false), (48, .nd 6), (49, .nd 10)], objs := [] },
  [(.ret, { np := 0, n := 71, gn := 3, next := 4, slots := [(4, .b false)], objs := [] }),
   (.exit 2, { np := 10, n := 71, gn := 3, next := 4, slots := [(0, .nd 0), (1, .nd 1), (13, .nd 2), (14, .nd 3), (29, .nd 0), (30, .nd 3), (31, .rx 4 0), (32, .rx 4 0), (33, .nd 5), (34, .nd 6), (35, .nd 1), (36, .nd 3), (37, .rx 7 0), (38, .rx 7 0), (39, .nd 8), (40, .nd 9), (41, .b false)], objs := [], al := [some 0, some 1, some 3, some 2, some 4, some 5, some 6, some 7, some 8, some 9] })]⟩
def s14 : LoopSpec := ⟨14, { np := 4, n := 69, gn := 3, next := 6, slots := [(4, .p 4 0), (14, .nd 0), (15, .nd 1), (16, .nd 2)], objs := [(4, .cells [.sv 5 3] 53 true false), (5, .vec 3 55 false)] },
  [(.ret, { np := 1, n := 69, gn := 3, next := 4, slots := [(2, .nils), (3, .nd 0)], objs := [] }),
   (.exit 0, { np := 1, n := 69, gn := 3, next := 6, slots := [(4, .p 4 0)], objs := [(4, .cells [.sv 5 0] 53 true false), (5, .vec 0 55 false)] })]⟩
def s44 : LoopSpec := ⟨44, { np := 7, n := 83, gn := 3, next := 5, slots := [(7, .nd 0), (9, .p 4 0), (10, .nd 1), (27, .nd 2), (28, .nd 3), (29, .nd 4)], objs := [(4, .cells [.nd 5, .nd 6] 60 true false)] },
  [(.exit 4, { np := 11, n := 83, gn := 3, next := 5, slots := [(7, .nd 0), (9, .p 4 0), (10, .nd 1), (27, .nd 2), (28, .nd 3), (29, .nd 4), (38, .nd 0), (39, .nd 1), (40, .rx 5 0), (41, .rx 5 0), (42, .nd 6), (43, .nd 7), (44, .p 4 0), (45, .nd 8), (46, .nd 9), (47, .b false)], objs := [(4, .cells [.nd 8, .nd 10] 60 true false)], al := [some 0, none, some 2, some 3, some 4, none, none, none, some 5, none, some 6] }),
   (.exit 4, { np := 7, n := 83, gn := 3, next := 5, slots := [(7, .nd 0), (9, .p 4 0), (10, .nd 1), (27, .nd 2), (28, .nd 3), (29, .nd 4), (38, .tup []), (39, .tup []), (40, .tup []), (41, .tup []), (42, .tup []), (43, .tup []), (44, .tup []), (45, .tup []), (46, .tup []), (47, .tup [])], objs := [(4, .cells [.nd 5, .nd 6] 60 true false)], al := [some 0, none, some 2, some 3, some 4, some 5, some 6] })]⟩
def s43 : LoopSpec := ⟨43, { np := 4, n := 83, gn := 3, next := 5, slots := [(7, .sv 4 0), (27, .nd 1), (28, .nd 2), (29, .nd 3)], objs := [(4, .vec 0 60 false)] },
  [(.ret, { np := 0, n := 83, gn := 3, next := 4, slots := [(2, .nils), (3, .i .i64 14)], objs := [] }),
   (.exit 2, { np := 1, n := 83, gn := 3, next := 5, slots := [(7, .sv 4 0)], objs := [(4, .vec 0 60 false)] })]⟩
def s65 : LoopSpec := ⟨65, { np := 4, n := 22, gn := 3, next := 5, slots := [(3, .sv 4 0), (9, .nd 1), (10, .nd 2), (11, .nd 3)], objs := [(4, .vec 0 43 false)] },
  [(.exit 0, { np := 1, n := 22, gn := 3, next := 5, slots := [(3, .sv 4 0)], objs := [(4, .vec 0 43 false)] })]⟩
def s71 : LoopSpec := ⟨71, { np := 5, n := 59, gn := 3, next := 4, slots := [(0, .nd 0), (5, .nd 1), (9, .nd 2), (10, .nd 3), (11, .nd 4)], objs := [] },
  [(.ret, { np := 0, n := 59, gn := 3, next := 4, slots := [(4, .b false)], objs := [] }),
   (.exit 0, { np := 0, n := 59, gn := 3, next := 4, slots := [], objs := [] })]⟩
def s67 : LoopSpec := ⟨67, { np := 4, n := 20, gn := 3, next := 4, slots := [(1, .nd 0), (7, .nd 1), (8, .nd 2), (9, .nd 3)], objs := [] },
  [(.ret, { np := 1, n := 20, gn := 3, next := 4, slots := [(4, .nd 0)], objs := [] }),
   (.exit 0, { np := 0, n := 20, gn := 3, next := 4, slots := [], objs := [] })]⟩
def s25 : LoopSpec := ⟨25, { np := 4, n := 23, gn := 3, next := 5, slots := [(3, .sv 4 0), (6, .nd 1), (7, .nd 2), (8, .nd 3)], objs := [(4, .vec 0 60 false)] },
  [(.exit 0, { np := 1, n := 23, gn := 3, next := 5, slots := [(3, .sv 4 0)], objs := [(4, .vec 0 60 false)] })]⟩
def s42 : LoopSpec := ⟨42, { np := 3, n := 37, gn := 3, next := 4, slots := [(0, .nd 0), (1, .nd 1), (5, .nd 2)], objs := [] },
  [(.ret, { np := 1, n := 37, gn := 3, next := 4, slots := [(4, .nd 0)], objs := [] }),
   (.exit 0, { np := 2, n := 37, gn := 3, next := 4, slots := [(0, .nd 0), (1, .nd 1)], objs := [], al := [some 0, some 1] })]⟩
def s22 : LoopSpec := ⟨22, { np := 4, n := 69, gn := 3, next := 7, slots := [(4, .p 4 0), (8, .sv 5 0), (41, .sv 6 1), (42, .nd 2), (43, .nd 3)], objs := [(6, .vec 1 55 false), (5, .vec 0 43 false), (4, .cells [.sv 6 1] 53 true false)] },
  [(.ret, { np := 0, n := 69, gn := 3, next := 4, slots := [(2, .nils), (3, .i .i64 14)], objs := [] }),
   (.exit 2, { np := 1, n := 69, gn := 3, next := 5, slots := [(8, .sv 4 0)], objs := [(4, .vec 0 43 false)] })]⟩
def s52 : LoopSpec := ⟨52, { np := 4, n := 71, gn := 3, next := 4, slots := [(0, .nd 0), (1, .nd 1), (13, .nd 2), (14, .nd 3)], objs := [] },
  [(.ret, { np := 0, n := 71, gn := 3, next := 4, slots := [(4, .b false)], objs := [] }),
   (.exit 0, { np := 0, n := 71, gn := 3, next := 4, slots := [], objs := [] })]⟩
def s3 : LoopSpec := ⟨3, { np := 3, n := 37, gn := 3, next := 4, slots := [(0, .nd 0), (5, .nd 0), (6, .nd 1), (7, .nd 2)], objs := [] },
  [(.ret, { np := 0, n := 37, gn := 3, next := 4, slots := [(2, .b false)], objs := [] }),
   (.exit 0, { np := 1, n := 37, gn := 3, next := 4, slots := [(0, .nd 0)], objs := [], al := [some 0] })]⟩
def s69 : LoopSpec := ⟨69, { np := 4, n := 22, gn := 3, next := 4, slots := [(1, .nd 0), (7, .nd 1), (8, .nd 2), (9, .nd 3)], objs := [] },
  [(.ret, { np := 1, n := 22, gn := 3, next := 4, slots := [(4, .nd 0)], objs := [] }),
   (.exit 0, { np := 0, n := 22, gn := 3, next := 4, slots := [], objs := [] })]⟩
def s17 : LoopSpec := ⟨17, { np := 3, n := 42, gn := 3, next := 4, slots := [(0, .nd 0), (15, .nd 0), (16, .nd 1), (17, .nd 2)], objs := [] },
  [(.ret, { np := 1, n := 42, gn := 3, next := 4, slots := [(2, .nd 0)], objs := [] }),
   (.exit 0, { np := 0, n := 42, gn := 3, next := 4, slots := [], objs := [] })]⟩
def s11 : LoopSpec := ⟨11, { np := 4, n := 22, gn := 3, next := 6, slots := [(3, .p 4 0), (11, .nd 0), (12, .nd 1), (13, .nd 2)], objs := [(4, .cells [.p 4 0, .sv 5 3] 71 true false), (5, .vec 3 5 true)] },
  [(.exit 0, { np := 1, n := 22, gn := 3, next := 6, slots := [(3, .p 4 0)], objs := [(4, .cells [.p 4 0, .sv 5 0] 71 true false), (5, .vec 0 5 true)] })]⟩
def s29 : LoopSpec := ⟨29, { np := 3, n := 83, gn := 3, next := 4, slots := [(0, .nd 0), (15, .nd 0), (16, .nd 1), (17, .nd 2)], objs := [] },
  [(.ret, { np := 1, n := 83, gn := 3, next := 4, slots := [(2, .nils), (3, .nd 0)], objs := [] }),
   (.exit 0, { np := 1, n := 83, gn := 3, next := 4, slots := [(0, .nd 0)], objs := [], al := [some 0] })]⟩
def s10 : LoopSpec := ⟨10, { np := 4, n := 33, gn := 3, next := 5, slots := [(0, .nd 0), (3, .sv 4 1), (9, .nd 2), (10, .nd 3)], objs := [(4, .vec 1 5 false)] },
  [(.exit 0, { np := 1, n := 33, gn := 3, next := 5, slots := [(3, .sv 4 0)], objs := [(4, .vec 0 5 false)] })]⟩
def s5 : LoopSpec := ⟨5, { np := 3, n := 23, gn := 3, next := 4, slots := [(0, .nd 0), (5, .nd 0), (6, .nd 1), (7, .nd 2)], objs := [] },
  [(.ret, { np := 0, n := 23, gn := 3, next := 4, slots := [(2, .b false)], objs := [] }),
   (.exit 0, { np := 1, n := 23, gn := 3, next := 4, slots := [(0, .nd 0)], objs := [], al := [some 0] })]⟩
def s36 : LoopSpec := ⟨36, { np := 1, n := 14, gn := 3, next := 4, slots := [(0, .nd 0)], objs := [] },
  [(.ret, { np := 0, n := 14, gn := 3, next := 4, slots := [(2, .b false)], objs := [] }),
   (.exit 0, { np := 0, n := 14, gn := 3, next := 4, slots := [], objs := [] })]⟩
def s47 : LoopSpec := ⟨47, { np := 2, n := 22, gn := 3, next := 4, slots := [(0, .nd 0), (3, .nd 1)], objs := [] },
  [(.exit 0, { np := 2, n := 22, gn := 3, next := 4, slots := [(0, .nd 0), (3, .nd 1)], objs := [] })]⟩
def s60 : LoopSpec := ⟨60, { np := 4, n := 32, gn := 3, next := 4, slots := [(1, .nd 0), (2, .fn 30 [] []), (15, .nd 1), (16, .nd 2), (17, .nd 3)], objs := [] },
  [(.ret, { np := 0, n := 32, gn := 3, next := 4, slots := [(6, .b false)], objs := [] }),
   (.exit 0, { np := 0, n := 32, gn := 3, next := 4, slots := [], objs := [] })]⟩
def s74 : LoopSpec := ⟨74, { np := 4, n := 21, gn := 3, next := 4, slots := [(0, .nd 0), (7, .nd 1), (8, .nd 2), (9, .nd 3)], objs := [] },
  [(.ret, { np := 0, n := 21, gn := 3, next := 4, slots := [(4, .b false)], objs := [] }),
   (.exit 0, { np := 0, n := 21, gn := 3, next := 4, slots := [], objs := [] })]⟩
def s9 : LoopSpec := ⟨9, { np := 2, n := 11, gn := 3, next := 4, slots := [(0, .nd 0), (3, .nd 1)], objs := [] },
  [(.exit 0, { np := 1, n := 11, gn := 3, next := 4, slots := [(3, .nd 0)], objs := [] })]⟩
noncomputable def rows : List Row := [
  .any (fun gs out => sortP gs = some out),
  .told 3 [] [.sc],
  .fn 5 [] [.sc] [] [(0, 3)],
  .lp 5 [([], 0)] s3 [] [],
  .fn 6 [] [.sc] [] [(0, 5)],
  .lp 6 [([], 0)] s5 [] [],
  .fn 21 [] [.sc] [] [(0, 11)],
  .fn 34 [] [.sc] [] [(0, 10)],
  .fn 51 [] [.sc] [] [(0, 9)],
  .lp 51 [([], 0)] s9 [] [],
  .lp 34 [([], 0)] s10 [] [],
  .lp 21 [([], 0)] s11 [] [],
  .fn 35 [] [.sc] [] [],
  .fn 7 [] [.sc, .sc] [] [(0, 14), (1, 22)],
  .lp 7 [([], 0)] s14 [] [],
  .fn 22 [] [.sc] [] [],
  .fn 37 [] [.sc] [] [(0, 17)],
  .lp 37 [([], 0)] s17 [] [],
  .fn 53 [] [.sc] [] [],
  .fn 83 [] [.sc] [] [],
  .fn 93 [] [.sc] [] [],
  .told 106 [] [.sc],
  .lp 7 [([], 1)] s22 [] [],
  .told 43 [] [.sc],
  .fn 9 [] [.sc] [] [(0, 25)],
  .lp 9 [([], 0)] s25 [] [],
  .fn 17 [] [.sc] [] [(0, 27)],
  .lp 17 [([], 0)] s27 [] [],
  .fn 8 [] [.sc, .sc] [] [(0, 29), (1, 43)],
  .lp 8 [([], 0)] s29 [] [],
  .fn 26 [] [.sc] [] [],
  .fn 44 [] [.sc] [] [(0, 32)],
  .lp 44 [([], 0)] s32 [] [],
  .fn 75 [] [.sc] [] [],
  .fn 89 [] [.sc] [] [],
  .fn 95 [] [.sc] [] [(0, 36)],
  .lp 95 [([], 0)] s36 [] [],
  .fn 107 [] [.sc] [] [(0, 38)],
  .lp 107 [([], 0)] s38 [] [],
  .fn 76 [] [.sc] [] [],
  .fn 45 [] [.sc] [] [],
  .fn 77 [] [.sc] [] [(0, 42)],
  .lp 77 [([], 0)] s42 [] [],
  .lp 8 [([], 1)] s43 [] [(0, 44)],
  .lp 8 [([], 1), ([], 0)] s44 [] [],
  .fn 28 [] [.sc] [] [(0, 48)],
  .fn 46 [] [.sc] [] [(0, 47)],
  .lp 46 [([], 0)] s47 [] [],
  .lp 28 [([], 0)] s48 [] [],
  .fn 47 [] [.sc] [] [],
  .fn 27 [] [.sc] [] [],
  .fn 10 [] [.sc] [] [(0, 52)],
  .lp 10 [([], 0)] s52 [] [(0, 53)],
  .lp 10 [([], 0), ([], 0)] s53 [] [],
  .fn 11 [] [.sc] [] [(0, 55)],
  .lp 11 [([], 0)] s55 [] [],
  .fn 12 [] [.sc] [] [(0, 57)],
  .lp 12 [([], 0)] s57 [] [],
  .fn 13 [] [.sc] [] [],
  .fn 29 [none, none, some 30] [.sc] [] [(0, 60)],
  .lp 29 [([], 0)] s60 [] [],
  .fn 30 [] [.sc] [] [],
  .fn 31 [] [.sc] [] [(0, 63)],
  .lp 31 [([], 0)] s63 [] [],
  .fn 14 [] [.sc] [] [(0, 65)],
  .lp 14 [([], 0)] s65 [] [],
  .fn 15 [] [.sc] [] [(0, 67)],
  .lp 15 [([], 0)] s67 [] [],
  .fn 16 [] [.sc] [] [(0, 69)],
  .lp 16 [([], 0)] s69 [] [],
  .fn 18 [] [.sc] [] [(0, 71)],
  .lp 18 [([], 0)] s71 [] [(0, 72)],
  .lp 18 [([], 0), ([], 0)] s72 [] [],
  .fn 19 [] [.sc] [] [(0, 74)],
  .lp 19 [([], 0)] s74 [] []]
noncomputable abbrev C := ctrs Tryz.prog tabsL rows
noncomputable def code3 : Code := Tryz.f3.body.getD .skip
noncomputable def pl0 : PList := PL.cons 23 (fun N => @pSort N 0 24 53) (PL.cons 4 (fun _ => pClosed) (PL.cons 82 (fun _ => pNoEscape) (PL.nil)))
noncomputable def es : List (FuncId × List Nat) := [(12, [56]), (43, [23]), (44, [31]), (5, [2]), (75, [33]), (19, [73]), (22, [15]), (21, [6]), (89, [34]), (51, [8]), (46, [46]), (6, [4]), (27, [50]), (37, [16]), (28, [45]), (77, [41]), (29, [59]), (93, [20]), (53, [18]), (45, [40]), (8, [28]), (11, [54]), (83, [19]), (106, [21]), (34, [7]), (15, [66]), (9, [24]), (76, [39]), (31, [62]), (95, [35]), (17, [26]), (10, [51]), (35, [12]), (7, [13]), (14, [64]), (18, [70]), (30, [61]), (107, [37]), (3, [1]), (26, [30]), (16, [68]), (47, [49]), (13, [58])]
noncomputable def pl : PList := plOf Tryz.prog rows es pl0
end W
end Go.Proofs.YtehcokoigbiciaaGreatDoor
