/- The shapes, and all definitions as rows. -/
import Derived.Test.YtcnadokjijncjaaGreatDoorKRBase
import Derived.Test.YtcnadokjijncjaaGreatDoorKVT
import Derived.Test.YtcnadokjijncjaaGreatDoorAbsTab
import Derived.Test.YtcnadokjijncjaaGreatDoorAbsPl
import Derived.Test.YtcnadokjijncjaaGreatDoorAbsTold
import Derived.Test.YtcnadokjijncjaaGreatDoorAbsScr
namespace Go.Proofs.YtcnadokjijncjaaGreatDoor
open Go Go.Abs
set_option maxRecDepth 100000
set_option linter.unusedVariables false
set_option linter.unusedSimpArgs false
namespace V
theorem low : TabsLow tabsL Tryz.prog.globals.size := by
  rw [nGlobals]
  refine ⟨fun p hp => ?_, fun p hp => ?_⟩
  all_goals
    simp only [tabsL, List.mem_cons, List.mem_nil_iff, or_false] at hp
    rcases hp with rfl | rfl | rfl | rfl | rfl | rfl
    all_goals first | decide | rfl
def s44 : LoopSpec := ⟨44, { np := 4, n := 26, gn := 8, next := 9, slots := [(0, .nd 0), (1, .nd 1), (12, .nd 2), (13, .nd 3)], objs := [] },
  [(.ret, { np := 0, n := 26, gn := 8, next := 9, slots := [(4, .b false)], objs := [] }),
   (.exit 0, { np := 0, n := 26, gn := 8, next := 9, slots := [], objs := [] })]⟩
def s33 : LoopSpec := ⟨33, { np := 4, n := 18, gn := 8, next := 10, slots := [(3, .sv 9 0), (6, .nd 1), (7, .nd 2), (8, .nd 3)], objs := [(9, .vec 0 58 true)] },
  [(.exit 0, { np := 1, n := 18, gn := 8, next := 10, slots := [(3, .sv 9 0)], objs := [(9, .vec 0 58 true)] })]⟩
def s24 : LoopSpec := ⟨24, { np := 5, n := 41, gn := 8, next := 10, slots := [(0, .nd 0), (1, .nd 1), (6, .sv 9 2), (16, .nd 3), (17, .nd 4)], objs := [(9, .vec 2 23 true)] },
  [(.ret, { np := 1, n := 41, gn := 8, next := 9, slots := [(4, .nils), (5, .nd 0)], objs := [] }),
   (.exit 0, { np := 1, n := 41, gn := 8, next := 10, slots := [(6, .sv 9 0)], objs := [(9, .vec 0 23 true)] })]⟩
def s26 : LoopSpec := ⟨26, { np := 3, n := 62, gn := 8, next := 9, slots := [(0, .nd 0), (1, .nd 1), (6, .nd 2)], objs := [] },
  [(.ret, { np := 0, n := 62, gn := 8, next := 9, slots := [(4, .i .u64 0), (5, .i .i64 23)], objs := [] }),
   (.exit 0, { np := 2, n := 62, gn := 8, next := 9, slots := [(0, .nd 0), (1, .nd 1)], objs := [], al := [some 0, some 1] })]⟩
def s34 : LoopSpec := ⟨34, { np := 10, n := 40, gn := 8, next := 12, slots := [(2, .p 9 0), (3, .p 10 0), (26, .nd 0), (27, .nd 1), (28, .nd 2)], objs := [(10, .cells [.nd 3, .nd 4, .nd 5, .nd 6, .nd 7, .nd 8, .sv 11 9] 36 true false), (11, .vec 9 43 true), (9, .cells [.i .u64 0, .i .u64 0, .i .u64 0, .i .u64 0, .nils, .nils, .nils] 36 true false)] },
  [(.exit 0, { np := 7, n := 40, gn := 8, next := 12, slots := [(2, .p 9 0), (3, .p 10 0)], objs := [(10, .cells [.nd 0, .nd 1, .nd 2, .nd 3, .nd 4, .nd 5, .sv 11 6] 36 true false), (11, .vec 6 43 true), (9, .cells [.i .u64 0, .i .u64 0, .i .u64 0, .i .u64 0, .nils, .nils, .nils] 36 true false)], al := [some 3, some 4, some 5, some 6, some 7, some 8, none] })]⟩
def s37 : LoopSpec := ⟨37, { np := 4, n := 28, gn := 8, next := 9, slots := [(0, .nd 0), (1, .nd 1), (12, .nd 2), (13, .nd 3)], objs := [] },
  [(.ret, { np := 0, n := 28, gn := 8, next := 9, slots := [(4, .b false)], objs := [] }),
   (.exit 0, { np := 0, n := 28, gn := 8, next := 9, slots := [], objs := [] })]⟩
def s3 : LoopSpec := ⟨3, { np := 11, n := 53, gn := 8, next := 14, slots := [(2, .p 9 0), (5, .p 10 0), (6, .nd 0), (16, .nd 1), (17, .nd 2), (18, .nd 3)], objs := [(10, .cells [.nd 4, .nd 5, .nd 6, .nd 7, .sv 11 8, .sv 12 9, .sv 13 10] 29 true false), (13, .vec 10 45 true), (12, .vec 9 72 true), (11, .vec 8 72 true), (9, .cells [.i .u64 0, .i .u64 0, .i .u64 0, .i .u64 0, .nils, .nils, .nils] 29 true false)] },
  [(.ret, { np := 2, n := 53, gn := 8, next := 10, slots := [(2, .p 9 0), (3, .nd 0), (4, .nd 1)], objs := [(9, .cells [.i .u64 0, .i .u64 0, .i .u64 0, .i .u64 0, .nils, .nils, .nils] 29 true false)] }),
   (.exit 0, { np := 8, n := 53, gn := 8, next := 14, slots := [(2, .p 9 0), (5, .p 10 0), (6, .nd 0)], objs := [(10, .cells [.nd 1, .nd 2, .nd 3, .nd 4, .sv 11 5, .sv 12 6, .sv 13 7] 29 true false), (13, .vec 7 45 true), (12, .vec 6 72 true), (11, .vec 5 72 true), (9, .cells [.i .u64 0, .i .u64 0, .i .u64 0, .i .u64 0, .nils, .nils, .nils] 29 true false)] })]⟩
def s7 : LoopSpec := ⟨7, { np := 5, n := 38, gn := 8, next := 10, slots := [(0, .nd 0), (6, .sv 9 1), (11, .nd 2), (12, .nd 3), (13, .nd 4)], objs := [(9, .vec 1 23 true)] },
  [(.ret, { np := 1, n := 38, gn := 8, next := 9, slots := [(4, .nils), (5, .nd 0)], objs := [] }),
   (.exit 0, { np := 1, n := 38, gn := 8, next := 10, slots := [(6, .sv 9 0)], objs := [(9, .vec 0 23 true)] })]⟩
def s27 : LoopSpec := ⟨27, { np := 4, n := 62, gn := 8, next := 9, slots := [(0, .nd 0), (1, .nd 1), (7, .nd 2), (8, .nd 3)], objs := [] },
  [(.ret, { np := 0, n := 62, gn := 8, next := 9, slots := [(4, .i .u64 0), (5, .i .i64 3)], objs := [] }),
   (.exit 2, { np := 2, n := 62, gn := 8, next := 9, slots := [(1, .nd 0), (7, .nd 1)], objs := [], al := [some 1, none] })]⟩
def s19 : LoopSpec := ⟨19, { np := 5, n := 34, gn := 8, next := 10, slots := [(0, .nd 0), (1, .nd 1), (5, .sv 9 2), (6, .nd 3), (7, .nd 4)], objs := [(9, .vec 2 9 true)] },
  [(.exit 0, { np := 3, n := 34, gn := 8, next := 10, slots := [(0, .nd 0), (5, .sv 9 1), (6, .nd 2)], objs := [(9, .vec 1 9 true)], al := [some 0, none, none] })]⟩
def s38 : LoopSpec := ⟨38, { np := 16, n := 94, gn := 8, next := 11, slots := [(2, .p 9 0), (3, .p 10 0), (63, .nd 0), (64, .nd 1)], objs := [(10, .cells [.nd 2, .nd 3, .nd 4, .nd 5, .nd 6, .nd 7, .nd 8] 36 true false), (9, .cells [.nd 9, .nd 10, .nd 11, .nd 12, .nd 13, .nd 14, .nd 15] 36 true false)] },
  [(.ret, { np := 0, n := 94, gn := 8, next := 9, slots := [(4, .b false)], objs := [] }),
   (.exit 0, { np := 0, n := 94, gn := 8, next := 9, slots := [], objs := [] })]⟩
def s22 : LoopSpec := ⟨22, { np := 4, n := 31, gn := 8, next := 10, slots := [(3, .sv 9 0), (7, .nd 1), (8, .nd 2), (9, .nd 3)], objs := [(9, .vec 0 9 true)] },
  [(.exit 0, { np := 1, n := 31, gn := 8, next := 10, slots := [(3, .sv 9 0)], objs := [(9, .vec 0 9 true)] })]⟩
def s30 : LoopSpec := ⟨30, { np := 3, n := 98, gn := 8, next := 10, slots := [(0, .nd 0), (1, .nd 1), (4, .p 9 0), (6, .nd 2)], objs := [(9, .cells [.i .i64 0, .i .u8 0, .i .i64 0, .i .u64 0, .s []] 43 true false)] },
  [(.exit 0, { np := 3, n := 98, gn := 8, next := 10, slots := [(0, .nd 0), (1, .nd 1), (4, .p 9 0), (6, .nd 2)], objs := [(9, .cells [.i .i64 0, .i .u8 0, .i .i64 0, .i .u64 0, .s []] 43 true false)], al := [some 0, some 1, none] })]⟩
def s20 : LoopSpec := ⟨20, { np := 11, n := 144, gn := 8, next := 14, slots := [(2, .p 9 0), (5, .p 10 0), (6, .nd 0), (22, .nd 1), (23, .nd 2), (24, .nd 3)], objs := [(10, .cells [.nd 4, .nd 5, .nd 6, .nd 7, .sv 11 8, .sv 12 9, .sv 13 10] 36 true false), (13, .vec 10 43 true), (12, .vec 9 58 true), (11, .vec 8 58 true), (9, .cells [.i .u64 0, .i .u64 0, .i .u64 0, .i .u64 0, .nils, .nils, .nils] 36 true false)] },
  [(.ret, { np := 2, n := 144, gn := 8, next := 10, slots := [(2, .p 9 0), (3, .nd 0), (4, .nd 1)], objs := [(9, .cells [.i .u64 0, .i .u64 0, .i .u64 0, .i .u64 0, .nils, .nils, .nils] 36 true false)] }),
   (.exit 0, { np := 8, n := 144, gn := 8, next := 14, slots := [(2, .p 9 0), (5, .p 10 0), (6, .nd 0)], objs := [(10, .cells [.nd 1, .nd 2, .nd 3, .nd 4, .sv 11 5, .sv 12 6, .sv 13 7] 36 true false), (13, .vec 7 43 true), (12, .vec 6 58 true), (11, .vec 5 58 true), (9, .cells [.i .u64 0, .i .u64 0, .i .u64 0, .i .u64 0, .nils, .nils, .nils] 36 true false)] })]⟩
def s16 : LoopSpec := ⟨16, { np := 8, n := 46, gn := 8, next := 13, slots := [(0, .p 9 0), (1, .nd 0)], objs := [(9, .cells [.nd 1, .nd 2, .nd 3, .nd 4, .sv 10 5, .sv 11 6, .sv 12 7] 29 true false), (12, .vec 7 45 true), (11, .vec 6 72 true), (10, .vec 5 72 true)], ka := 1 },
  [(.ret, { np := 8, n := 1, gn := 8, next := 13, slots := [(0, .nd 0)], objs := [(9, .cells [.nd 1, .nd 2, .nd 3, .nd 4, .sv 10 5, .sv 11 6, .sv 12 7] 29 true false), (12, .vec 7 45 true), (11, .vec 6 72 true), (10, .vec 5 72 true)], ka := 1, al := [none, none, none, none, none, some 5, some 6, some 7] })]⟩
def s15 : LoopSpec := ⟨15, { np := 9, n := 91, gn := 8, next := 13, slots := [(0, .p 9 0), (1, .nd 0), (2, .nd 1)], objs := [(9, .cells [.nd 2, .nd 3, .nd 4, .nd 5, .sv 10 6, .sv 11 7, .sv 12 8] 29 true false), (12, .vec 8 45 true), (11, .vec 7 72 true), (10, .vec 6 72 true)], ka := 1 },
  [(.ret, { np := 8, n := 1, gn := 8, next := 13, slots := [(0, .nd 0)], objs := [(9, .cells [.nd 1, .nd 2, .nd 3, .nd 4, .sv 10 5, .sv 11 6, .sv 12 7] 29 true false), (12, .vec 7 45 true), (11, .vec 6 72 true), (10, .vec 5 72 true)], ka := 1, al := [none, some 2, some 3, some 4, some 5, none, none, none] })]⟩
noncomputable def rows : List Row := [
  .fn 3 [] [.sc] [] [],
  .fn 5 [] [.ag 7, .sc, .sc] [] [(0, 3)],
  .told 11 [] [.sc],
  .lp 5 [([], 0)] s3 [] [],
  .told 12 [none, some 13] [.sc],
  .any (fun gs out => True),
  .fn 28 [] [.sc, .sc] [] [(0, 7)],
  .lp 28 [([], 0)] s7 [] [],
  .told 44 [] [.sc, .sc],
  .any (fun gs out => True),
  .fn 26 [] [.ag 6, .sc] [] [],
  .fn 27 [] [.ag 5, .sc] [] [],
  .fn 43 [] [.ag 5, .sc] [] [],
  .any (fun gs out => True),
  .any (fun gs out => True),
  .fs 14 [] s15 [] [],
  .fs 15 [] s16 [] [],
  .fn 6 [] [.ag 7, .sc, .sc] [] [(0, 20)],
  .fn 16 [] [.sc] [] [(0, 19)],
  .lp 16 [([], 0)] s19 [] [],
  .lp 6 [([], 0)] s20 [] [],
  .fn 17 [] [.sc] [] [(0, 22)],
  .lp 17 [([], 0)] s22 [] [],
  .fn 18 [] [.sc, .sc] [] [(0, 24)],
  .lp 18 [([], 0)] s24 [] [],
  .fn 29 [] [.sc, .sc] [] [(0, 26), (1, 27)],
  .lp 29 [([], 0)] s26 [] [],
  .lp 29 [([], 1)] s27 [] [],
  .fn 19 [] [.ag 6, .sc] [] [],
  .fn 20 [] [.ag 5, .sc] [] [(0, 30)],
  .lp 20 [([], 0)] s30 [] [],
  .fn 8 [] [.ag 7] [] [(0, 34)],
  .fn 23 [] [.sc] [] [(0, 33)],
  .lp 23 [([], 0)] s33 [] [],
  .lp 8 [([], 0)] s34 [] [],
  .fn 7 [] [.sc] [] [(0, 38)],
  .fn 21 [] [.sc] [] [(0, 37)],
  .lp 21 [([], 0)] s37 [] [],
  .lp 7 [([], 0)] s38 [] [],
  .fn 22 [] [.sc, .sc] [] [],
  .fn 32 [] [.sc] [] [],
  .told 45 [] [.sc],
  .told 33 [] [.sc],
  .fn 9 [] [.sc] [] [(0, 44)],
  .lp 9 [([], 0)] s44 [] []]
noncomputable abbrev C := ctrs Tryz.prog tabsL rows
noncomputable def code3 : Code := Tryz.f3.body.getD .skip
noncomputable def pl0 : PList := PL.cons 4 (fun _ => pClosed) (PL.cons 270 (fun _ => pNoEscape) (PL.nil))
noncomputable def es : List (FuncId × List Nat) := [(14, [15]), (15, [16]), (43, [12]), (5, [1]), (44, [8]), (19, [28]), (22, [39]), (23, [32]), (21, [36]), (6, [17]), (27, [11]), (28, [6]), (45, [41]), (8, [31]), (20, [29]), (11, [2]), (9, [43]), (17, [21]), (33, [42]), (32, [40]), (7, [35]), (18, [23]), (3, [0]), (26, [10]), (12, [4]), (16, [18]), (29, [25])]
noncomputable def pl : PList := plOf Tryz.prog rows es pl0
end V
end Go.Proofs.YtcnadokjijncjaaGreatDoor
