/- The codes, shapes and contracts. -/
import Derived.Test.YtbcpbplkgknnmaaGreatDoorKRBase
import Derived.Test.YtbcpbplkgknnmaaGreatDoorKXT
import Derived.Test.YtbcpbplkgknnmaaGreatDoorAbsPl
import Derived.Test.YtbcpbplkgknnmaaGreatDoorAbsTold
import Derived.Test.YtbcpbplkgknnmaaGreatDoorAbsTold2
namespace Go.Proofs.YtbcpbplkgknnmaaGreatDoor
open Go Go.Abs
set_option maxRecDepth 100000
set_option linter.unusedVariables false
set_option linter.unusedSimpArgs false
namespace X
theorem low : TabsLow tabsL Tryz.prog.globals.size := by
  rw [nGlobals]
  refine ⟨fun p hp => ?_, fun p hp => ?_⟩
  all_goals
    simp only [tabsL, List.mem_cons, List.mem_nil_iff, or_false] at hp
    rcases hp with rfl | rfl
    all_goals first | decide | rfl
noncomputable def code253 : Code := Tryz.f253.body.getD .skip
noncomputable def code26 : Code := Tryz.f26.body.getD .skip
noncomputable def code296 : Code := Tryz.f296.body.getD .skip
noncomputable def code38 : Code := Tryz.f38.body.getD .skip
noncomputable def code72 : Code := Tryz.f72.body.getD .skip
noncomputable def code30 : Code := Tryz.f30.body.getD .skip
noncomputable def code182 : Code := Tryz.f182.body.getD .skip
noncomputable def code165 : Code := Tryz.f165.body.getD .skip
noncomputable def code17 : Code := Tryz.f17.body.getD .skip
noncomputable def code155 : Code := Tryz.f155.body.getD .skip
noncomputable def code248 : Code := Tryz.f248.body.getD .skip
noncomputable def code145 : Code := Tryz.f145.body.getD .skip
noncomputable def code163 : Code := Tryz.f163.body.getD .skip
noncomputable def code179 : Code := Tryz.f179.body.getD .skip
noncomputable def code169 : Code := Tryz.f169.body.getD .skip
noncomputable def code8 : Code := Tryz.f8.body.getD .skip
noncomputable def code81 : Code := Tryz.f81.body.getD .skip
noncomputable def code68 : Code := Tryz.f68.body.getD .skip
noncomputable def code234 : Code := Tryz.f234.body.getD .skip
noncomputable def code23 : Code := Tryz.f23.body.getD .skip
noncomputable def code19 : Code := Tryz.f19.body.getD .skip
noncomputable def code151 : Code := Tryz.f151.body.getD .skip
noncomputable def code102 : Code := Tryz.f102.body.getD .skip
noncomputable def code86 : Code := Tryz.f86.body.getD .skip
noncomputable def code13 : Code := Tryz.f13.body.getD .skip
noncomputable def code113 : Code := Tryz.f113.body.getD .skip
noncomputable def code16 : Code := Tryz.f16.body.getD .skip
noncomputable def code164 : Code := Tryz.f164.body.getD .skip
noncomputable def code141 : Code := Tryz.f141.body.getD .skip
noncomputable def code152 : Code := Tryz.f152.body.getD .skip
noncomputable def code180 : Code := Tryz.f180.body.getD .skip
noncomputable def code18 : Code := Tryz.f18.body.getD .skip
noncomputable def code79 : Code := Tryz.f79.body.getD .skip
noncomputable def code87 : Code := Tryz.f87.body.getD .skip
noncomputable def code146 : Code := Tryz.f146.body.getD .skip
noncomputable def code147 : Code := Tryz.f147.body.getD .skip
noncomputable def code258 : Code := Tryz.f258.body.getD .skip
noncomputable def code235 : Code := Tryz.f235.body.getD .skip
noncomputable def code71 : Code := Tryz.f71.body.getD .skip
noncomputable def code171 : Code := Tryz.f171.body.getD .skip
noncomputable def code206 : Code := Tryz.f206.body.getD .skip
noncomputable def code88 : Code := Tryz.f88.body.getD .skip
noncomputable def code24 : Code := Tryz.f24.body.getD .skip
noncomputable def code118 : Code := Tryz.f118.body.getD .skip
noncomputable def code25 : Code := Tryz.f25.body.getD .skip
noncomputable def code189 : Code := Tryz.f189.body.getD .skip
noncomputable def code157 : Code := Tryz.f157.body.getD .skip
noncomputable def code192 : Code := Tryz.f192.body.getD .skip
noncomputable def code140 : Code := Tryz.f140.body.getD .skip
noncomputable def code212 : Code := Tryz.f212.body.getD .skip
noncomputable def code37 : Code := Tryz.f37.body.getD .skip
noncomputable def code110 : Code := Tryz.f110.body.getD .skip
noncomputable def code144 : Code := Tryz.f144.body.getD .skip
noncomputable def code236 : Code := Tryz.f236.body.getD .skip
noncomputable def code105 : Code := Tryz.f105.body.getD .skip
noncomputable def code305 : Code := Tryz.f305.body.getD .skip
noncomputable def code44 : Code := Tryz.f44.body.getD .skip
noncomputable def code82 : Code := Tryz.f82.body.getD .skip
noncomputable def code205 : Code := Tryz.f205.body.getD .skip
noncomputable def code12 : Code := Tryz.f12.body.getD .skip
noncomputable def code96 : Code := Tryz.f96.body.getD .skip
noncomputable def code70 : Code := Tryz.f70.body.getD .skip
noncomputable def code65 : Code := Tryz.f65.body.getD .skip
noncomputable def code63 : Code := Tryz.f63.body.getD .skip
noncomputable def code67 : Code := Tryz.f67.body.getD .skip
noncomputable def code77 : Code := Tryz.f77.body.getD .skip
noncomputable def code143 : Code := Tryz.f143.body.getD .skip
noncomputable def code74 : Code := Tryz.f74.body.getD .skip
noncomputable def code66 : Code := Tryz.f66.body.getD .skip
noncomputable def code73 : Code := Tryz.f73.body.getD .skip
noncomputable def b101 : Code := bodyOf code44 [([], 1)]
noncomputable def b59 : Code := bodyOf code88 [([], 0)]
noncomputable def b117 : Code := bodyOf code143 [([], 0)]
noncomputable def b1 : Code := bodyOf code8 [([], 0)]
noncomputable def b49 : Code := bodyOf code192 [([], 0)]
noncomputable def b55 : Code := bodyOf code236 [([], 0)]
noncomputable def b106 : Code := bodyOf code152 [([], 0)]
noncomputable def b63 : Code := bodyOf code26 [([], 0)]
noncomputable def b122 : Code := bodyOf code147 [([], 0)]
noncomputable def b85 : Code := bodyOf code44 [([], 0)]
noncomputable def b27 : Code := bodyOf code140 [([], 0)]
noncomputable def b114 : Code := bodyOf code73 [([], 0)]
noncomputable def b51 : Code := bodyOf code258 [([], 0)]
noncomputable def b65 : Code := bodyOf code23 [([], 0)]
noncomputable def b71 : Code := bodyOf code24 [([], 0)]
noncomputable def b42 : Code := bodyOf code19 [([], 0)]
noncomputable def b120 : Code := bodyOf code25 [([], 0)]
noncomputable def b82 : Code := bodyOf code38 [([], 0)]
noncomputable def b95 : Code := bodyOf code248 [([], 0)]
noncomputable def b98 : Code := bodyOf code305 [([], 0)]
noncomputable def b127 : Code := bodyOf code63 [([], 0)]
noncomputable def b79 : Code := bodyOf code146 [([], 0)]
noncomputable def b39 : Code := bodyOf code144 [([], 0)]
noncomputable def b88 : Code := bodyOf code110 [([], 0)]
noncomputable def b3 : Code := bodyOf code12 [([], 0)]
noncomputable def b66 : Code := bodyOf code205 [([], 0)]
noncomputable def b69 : Code := bodyOf code16 [([], 0)]
noncomputable def b58 : Code := bodyOf code105 [([], 0)]
noncomputable def b11 : Code := bodyOf code81 [([], 0)]
noncomputable def b124 : Code := bodyOf code77 [([], 0)]
noncomputable def b10 : Code := bodyOf code96 [([], 0)]
noncomputable def b5 : Code := bodyOf code13 [([], 0)]
noncomputable def b100 : Code := bodyOf code37 [([], 0)]
noncomputable def b34 : Code := bodyOf code68 [([], 0)]
noncomputable def b21 : Code := bodyOf code157 [([], 0)]
noncomputable def b18 : Code := bodyOf code18 [([], 0)]
noncomputable def b45 : Code := bodyOf code163 [([], 0)]
noncomputable def b74 : Code := bodyOf code17 [([], 0)]
noncomputable def b9 : Code := bodyOf code169 [([], 0)]
noncomputable def b75 : Code := bodyOf b74 [([], 0)]
noncomputable def b121 : Code := bodyOf b120 [([], 0)]
noncomputable def b90 : Code := bodyOf b88 [([], 0)]
def s101 : LoopSpec := ⟨101, { np := 50, n := 93, gn := 3, next := 6, slots := [(2, .p 4 0), (3, .p 5 0), (77, .nd 0), (78, .nd 1)], objs := [(5, .cells [.nd 2, .nd 3, .nd 4, .nd 5, .nd 6, .nd 7, .nd 8, .nd 9, .nd 10, .nd 11, .nd 12, .nd 13, .nd 14, .nd 15, .nd 16, .nd 17, .nd 18, .nd 19, .nd 20, .nd 21, .nd 22, .nd 23, .nd 24, .nd 25] 63 true false), (4, .cells [.nd 26, .nd 27, .nd 28, .nd 29, .nd 30, .nd 31, .nd 32, .nd 33, .nd 34, .nd 35, .nd 36, .nd 37, .nd 38, .nd 39, .nd 40, .nd 41, .nd 42, .nd 43, .nd 44, .nd 45, .nd 46, .nd 47, .nd 48, .nd 49] 63 true false)] },
  [(.ret, { np := 0, n := 93, gn := 3, next := 4, slots := [(4, .b false)], objs := [] }),
   (.exit 2, { np := 0, n := 93, gn := 3, next := 4, slots := [], objs := [] })]⟩
def s75 : LoopSpec := ⟨75, { np := 11, n := 71, gn := 3, next := 4, slots := [(0, .nd 0), (1, .nd 1), (5, .nd 2), (13, .nd 3), (14, .nd 2), (29, .nd 0), (30, .nd 2), (31, .rx 4 0), (32, .rx 4 0), (33, .nd 5), (34, .nd 6), (35, .nd 1), (36, .nd 2), (37, .rx 7 0), (38, .rx 7 0), (39, .nd 8), (40, .nd 9), (41, .b false), (48, .nd 6), (49, .nd 10)], objs := [] },
  [(.ret, { np := 0, n := 71, gn := 3, next := 4, slots := [(4, .b false)], objs := [] }),
   (.exit 2, { np := 10, n := 71, gn := 3, next := 4, slots := [(0, .nd 0), (1, .nd 1), (13, .nd 2), (14, .nd 3), (29, .nd 0), (30, .nd 3), (31, .rx 4 0), (32, .rx 4 0), (33, .nd 5), (34, .nd 6), (35, .nd 1), (36, .nd 3), (37, .rx 7 0), (38, .rx 7 0), (39, .nd 8), (40, .nd 9), (41, .b false)], objs := [], al := [some 0, some 1, some 3, some 2, some 4, some 5, some 6, some 7, some 8, some 9] })]⟩
def s59 : LoopSpec := ⟨59, { np := 4, n := 22, gn := 3, next := 4, slots := [(3, .nd 0), (10, .nd 1), (11, .nd 2), (12, .nd 3)], objs := [] },
  [(.exit 0, { np := 1, n := 22, gn := 3, next := 4, slots := [(3, .nd 0)], objs := [] })]⟩
def s117 : LoopSpec := ⟨117, { np := 6, n := 24, gn := 3, next := 6, slots := [(1, .nd 0), (11, .sv 5 1), (12, .nd 2), (13, .nd 3)], objs := [(4, .cells [.nd 4, .sv 5 1, .nd 5] 243 true false), (5, .vec 1 123 true)], ka := 1 },
  [(.ret, { np := 4, n := 24, gn := 3, next := 6, slots := [(4, .nd 0), (5, .b true)], objs := [(4, .cells [.nd 1, .sv 5 2, .nd 3] 243 true false), (5, .vec 2 123 true)], ka := 1, al := [none, some 4, some 1, some 5] }),
   (.exit 0, { np := 3, n := 24, gn := 3, next := 6, slots := [], objs := [(4, .cells [.nd 0, .sv 5 1, .nd 2] 243 true false), (5, .vec 1 123 true)], ka := 1, al := [some 4, some 1, some 5] })]⟩
def s1 : LoopSpec := ⟨1, { np := 9, n := 187, gn := 3, next := 7, slots := [(5, .p 4 0), (7, .p 5 0), (60, .nd 0), (61, .nd 1), (62, .nd 2)], objs := [(5, .cells [.nd 3, .nd 4, .nd 5] 121 true false), (4, .cells [.nd 6, .sv 6 7, .nd 8] 243 true false), (6, .vec 7 123 true)] },
  [(.ret, { np := 1, n := 187, gn := 3, next := 4, slots := [(4, .nd 0)], objs := [] }),
   (.exit 0, { np := 0, n := 187, gn := 3, next := 4, slots := [], objs := [] })]⟩
def s49 : LoopSpec := ⟨49, { np := 1, n := 14, gn := 3, next := 4, slots := [(0, .nd 0)], objs := [] },
  [(.ret, { np := 0, n := 14, gn := 3, next := 4, slots := [(2, .b false)], objs := [] }),
   (.exit 0, { np := 0, n := 14, gn := 3, next := 4, slots := [], objs := [] })]⟩
def s55 : LoopSpec := ⟨55, { np := 3, n := 37, gn := 3, next := 4, slots := [(0, .nd 0), (1, .nd 1), (5, .nd 2)], objs := [] },
  [(.ret, { np := 1, n := 37, gn := 3, next := 4, slots := [(4, .nd 0)], objs := [] }),
   (.exit 0, { np := 2, n := 37, gn := 3, next := 4, slots := [(0, .nd 0), (1, .nd 1)], objs := [], al := [some 0, some 1] })]⟩
def s106 : LoopSpec := ⟨106, { np := 3, n := 106, gn := 3, next := 5, slots := [(0, .nd 0), (1, .nd 1), (6, .sv 4 2)], objs := [(4, .vec 2 43 false)] },
  [(.ret, { np := 0, n := 106, gn := 3, next := 4, slots := [(4, .nils), (5, .i .i64 3)], objs := [] }),
   (.exit 0, { np := 1, n := 106, gn := 3, next := 5, slots := [(6, .sv 4 0)], objs := [(4, .vec 0 43 false)] })]⟩
def s63 : LoopSpec := ⟨63, { np := 4, n := 21, gn := 3, next := 4, slots := [(0, .nd 0), (7, .nd 1), (8, .nd 2), (9, .nd 3)], objs := [] },
  [(.ret, { np := 0, n := 21, gn := 3, next := 4, slots := [(4, .b false)], objs := [] }),
   (.exit 0, { np := 0, n := 21, gn := 3, next := 4, slots := [], objs := [] })]⟩
def s122 : LoopSpec := ⟨122, { np := 7, n := 85, gn := 3, next := 7, slots := [(4, .p 4 0), (7, .p 5 0), (8, .nd 0), (43, .nd 1), (44, .nd 2), (45, .nd 3)], objs := [(5, .cells [.nd 4, .nd 5, .sv 6 6] 152 true false), (6, .vec 6 43 true), (4, .cells [.i .u64 0, .i .u64 0, .nils] 152 true false)] },
  [(.exit 0, { np := 3, n := 85, gn := 3, next := 7, slots := [(4, .p 4 0), (7, .p 5 0)], objs := [(5, .cells [.nd 0, .nd 1, .sv 6 2] 152 true false), (6, .vec 2 43 true), (4, .cells [.i .u64 0, .i .u64 0, .nils] 152 true false)], al := [some 4, some 5, none] })]⟩
def s85 : LoopSpec := ⟨85, { np := 51, n := 93, gn := 3, next := 6, slots := [(2, .p 4 0), (3, .p 5 0), (12, .nd 0), (13, .nd 1), (14, .nd 2)], objs := [(5, .cells [.nd 3, .nd 4, .nd 5, .nd 6, .nd 7, .nd 8, .nd 9, .nd 10, .nd 11, .nd 12, .nd 13, .nd 14, .nd 15, .nd 16, .nd 17, .nd 18, .nd 19, .nd 20, .nd 21, .nd 22, .nd 23, .nd 24, .nd 25, .nd 26] 63 true false), (4, .cells [.nd 27, .nd 28, .nd 29, .nd 30, .nd 31, .nd 32, .nd 33, .nd 34, .nd 35, .nd 36, .nd 37, .nd 38, .nd 39, .nd 40, .nd 41, .nd 42, .nd 43, .nd 44, .nd 45, .nd 46, .nd 47, .nd 48, .nd 49, .nd 50] 63 true false)] },
  [(.ret, { np := 0, n := 93, gn := 3, next := 4, slots := [(4, .b false)], objs := [] }),
   (.exit 0, { np := 48, n := 93, gn := 3, next := 6, slots := [(2, .p 4 0), (3, .p 5 0)], objs := [(5, .cells [.nd 0, .nd 1, .nd 2, .nd 3, .nd 4, .nd 5, .nd 6, .nd 7, .nd 8, .nd 9, .nd 10, .nd 11, .nd 12, .nd 13, .nd 14, .nd 15, .nd 16, .nd 17, .nd 18, .nd 19, .nd 20, .nd 21, .nd 22, .nd 23] 63 true false), (4, .cells [.nd 24, .nd 25, .nd 26, .nd 27, .nd 28, .nd 29, .nd 30, .nd 31, .nd 32, .nd 33, .nd 34, .nd 35, .nd 36, .nd 37, .nd 38, .nd 39, .nd 40, .nd 41, .nd 42, .nd 43, .nd 44, .nd 45, .nd 46, .nd 47] 63 true false)], al := [some 3, some 4, some 5, some 6, some 7, some 8, some 9, some 10, some 11, some 12, some 13, some 14, some 15, some 16, some 17, some 18, some 19, some 20, some 21, some 22, some 23, some 24, some 25, some 26, some 27, some 28, some 29, some 30, some 31, some 32, some 33, some 34, some 35, some 36, some 37, some 38, some 39, some 40, some 41, some 42, some 43, some 44, some 45, some 46, some 47, some 48, some 49, some 50] })]⟩
def s27 : LoopSpec := ⟨27, { np := 5, n := 32, gn := 3, next := 7, slots := [(2, .p 4 0), (3, .p 5 0), (14, .nd 0), (15, .nd 1), (16, .nd 2)], objs := [(5, .cells [.nd 3, .sv 6 4] 123 true false), (6, .vec 4 43 false), (4, .cells [.i .u64 0, .nils] 123 true false)] },
  [(.exit 0, { np := 2, n := 32, gn := 3, next := 7, slots := [(2, .p 4 0), (3, .p 5 0)], objs := [(5, .cells [.nd 0, .sv 6 1] 123 true false), (6, .vec 1 43 false), (4, .cells [.i .u64 0, .nils] 123 true false)], al := [some 3, none] })]⟩
def s121 : LoopSpec := ⟨121, { np := 8, n := 59, gn := 3, next := 5, slots := [(0, .nd 0), (5, .nd 1), (7, .p 4 0), (8, .nd 2), (9, .nd 3), (10, .nd 4), (11, .nd 5)], objs := [(4, .cells [.nd 6, .nd 7] 43 true false)] },
  [(.exit 2, { np := 11, n := 59, gn := 3, next := 5, slots := [(0, .nd 0), (5, .nd 1), (7, .p 4 0), (8, .nd 2), (9, .nd 3), (10, .nd 4), (11, .nd 5), (23, .nd 0), (24, .nd 1), (25, .rx 6 0), (26, .rx 6 0), (27, .nd 7), (28, .nd 8), (29, .nd 2), (30, .b false)], objs := [(4, .cells [.nd 9, .nd 10] 43 true false)], al := [some 0, none, some 2, some 3, some 4, some 5, none, none, none, some 6, some 7] }),
   (.exit 2, { np := 8, n := 59, gn := 3, next := 5, slots := [(0, .nd 0), (5, .nd 1), (7, .p 4 0), (8, .nd 2), (9, .nd 3), (10, .nd 4), (11, .nd 5), (23, .tup []), (24, .tup []), (25, .tup []), (26, .tup []), (27, .tup []), (28, .tup []), (29, .tup []), (30, .tup [])], objs := [(4, .cells [.nd 6, .nd 7] 43 true false)], al := [some 0, none, some 2, some 3, some 4, some 5, some 6, some 7] })]⟩
def s114 : LoopSpec := ⟨114, { np := 14, n := 80, gn := 3, next := 10, slots := [(0, .p 4 0), (3, .p 5 0), (5, .p 6 0), (6, .nd 0), (7, .p 7 0), (8, .sv 8 1), (21, .nd 2), (22, .nd 3), (23, .nd 4)], objs := [(4, .cells [.nd 5, .sv 9 6, .nd 7] 243 true false), (9, .vec 6 123 true), (8, .vec 1 41 true), (7, .cells [.nd 8, .nd 9] 137 true false), (6, .cells [.nd 10, .nd 11] 123 true false), (5, .cells [.nd 12, .nd 2, .nd 13] 121 true false)], ka := 1 },
  [(.exit 0, { np := 12, n := 80, gn := 3, next := 10, slots := [(0, .p 4 0), (3, .p 5 0), (5, .p 6 0), (6, .nd 0), (7, .p 7 0), (8, .sv 8 1)], objs := [(4, .cells [.nd 2, .sv 9 3, .nd 4] 243 true false), (9, .vec 3 123 true), (8, .vec 1 41 true), (7, .cells [.nd 5, .nd 6] 137 true false), (6, .cells [.nd 7, .nd 8] 123 true false), (5, .cells [.nd 9, .nd 10, .nd 11] 121 true false)], ka := 1, al := [some 0, none, some 5, some 6, some 7, none, none, some 10, some 11, some 12, some 2, some 13] })]⟩
def s51 : LoopSpec := ⟨51, { np := 5, n := 81, gn := 3, next := 4, slots := [(0, .nd 0), (4, .nd 1), (5, .nd 2), (6, .nd 3), (7, .nd 4)], objs := [] },
  [(.ret, { np := 0, n := 81, gn := 3, next := 4, slots := [(2, .i .i64 0)], objs := [] }),
   (.exit 0, { np := 3, n := 81, gn := 3, next := 4, slots := [(4, .nd 0), (5, .nd 1), (6, .nd 2)], objs := [], al := [some 1, none, some 3] })]⟩
def s65 : LoopSpec := ⟨65, { np := 4, n := 22, gn := 3, next := 4, slots := [(1, .nd 0), (7, .nd 1), (8, .nd 2), (9, .nd 3)], objs := [] },
  [(.ret, { np := 1, n := 22, gn := 3, next := 4, slots := [(4, .nd 0)], objs := [] }),
   (.exit 0, { np := 0, n := 22, gn := 3, next := 4, slots := [], objs := [] })]⟩
def s90 : LoopSpec := ⟨90, { np := 5, n := 24, gn := 3, next := 4, slots := [(0, .nd 0), (3, .nd 1), (11, .nd 2), (12, .nd 3), (13, .nd 4)], objs := [] },
  [(.ret, { np := 1, n := 24, gn := 3, next := 4, slots := [(2, .nd 0)], objs := [] }),
   (.exit 2, { np := 2, n := 24, gn := 3, next := 4, slots := [(0, .nd 0), (3, .nd 1)], objs := [], al := [some 0, some 1] })]⟩
def s71 : LoopSpec := ⟨71, { np := 4, n := 18, gn := 3, next := 5, slots := [(3, .sv 4 0), (6, .nd 1), (7, .nd 2), (8, .nd 3)], objs := [(4, .vec 0 166 true)] },
  [(.exit 0, { np := 1, n := 18, gn := 3, next := 5, slots := [(3, .sv 4 0)], objs := [(4, .vec 0 166 true)] })]⟩
def s42 : LoopSpec := ⟨42, { np := 3, n := 67, gn := 3, next := 4, slots := [(0, .nd 0), (9, .nd 1), (10, .nd 2)], objs := [] },
  [(.ret, { np := 1, n := 67, gn := 3, next := 4, slots := [(2, .nd 0)], objs := [] }),
   (.exit 0, { np := 0, n := 67, gn := 3, next := 4, slots := [], objs := [] })]⟩
def s120 : LoopSpec := ⟨120, { np := 5, n := 59, gn := 3, next := 4, slots := [(0, .nd 0), (5, .nd 1), (9, .nd 2), (10, .nd 3), (11, .nd 4)], objs := [] },
  [(.ret, { np := 0, n := 59, gn := 3, next := 4, slots := [(4, .b false)], objs := [] }),
   (.exit 0, { np := 0, n := 59, gn := 3, next := 4, slots := [], objs := [] })]⟩
def s82 : LoopSpec := ⟨82, { np := 4, n := 29, gn := 3, next := 5, slots := [(3, .sv 4 0), (6, .nd 1), (7, .nd 2), (8, .nd 3)], objs := [(4, .vec 0 187 true)] },
  [(.exit 0, { np := 1, n := 29, gn := 3, next := 5, slots := [(3, .sv 4 0)], objs := [(4, .vec 0 187 true)] })]⟩
def s95 : LoopSpec := ⟨95, { np := 4, n := 40, gn := 3, next := 4, slots := [(0, .nd 0), (3, .nd 1), (11, .nd 0), (12, .nd 2), (13, .nd 3)], objs := [] },
  [(.exit 0, { np := 1, n := 40, gn := 3, next := 4, slots := [(3, .nd 0)], objs := [] })]⟩
def s98 : LoopSpec := ⟨98, { np := 3, n := 31, gn := 3, next := 4, slots := [(0, .nd 0), (1, .nd 1), (5, .nd 2)], objs := [] },
  [(.ret, { np := 1, n := 31, gn := 3, next := 4, slots := [(4, .nd 0)], objs := [] }),
   (.exit 0, { np := 2, n := 31, gn := 3, next := 4, slots := [(0, .nd 0), (1, .nd 1)], objs := [], al := [some 0, some 1] })]⟩
def s127 : LoopSpec := ⟨127, { np := 6, n := 40, gn := 3, next := 8, slots := [(3, .p 5 0), (21, .sv 6 0), (22, .nd 1), (23, .nd 2)], objs := [(4, .cells [.nd 3, .sv 6 0, .nd 4] 243 true false), (6, .vec 0 123 true), (5, .cells [.nd 3, .sv 7 5, .nd 4] 243 true false), (7, .vec 5 123 true)], ka := 1 },
  [(.exit 0, { np := 4, n := 40, gn := 3, next := 8, slots := [(3, .p 5 0)], objs := [(4, .cells [.nd 0, .sv 6 1, .nd 2] 243 true false), (6, .vec 1 123 true), (5, .cells [.nd 0, .sv 7 3, .nd 2] 243 true false), (7, .vec 3 123 true)], ka := 1, al := [some 3, some 0, some 4, none] })]⟩
def s79 : LoopSpec := ⟨79, { np := 4, n := 26, gn := 3, next := 4, slots := [(0, .nd 0), (1, .nd 1), (12, .nd 2), (13, .nd 3)], objs := [] },
  [(.ret, { np := 0, n := 26, gn := 3, next := 4, slots := [(4, .b false)], objs := [] }),
   (.exit 0, { np := 0, n := 26, gn := 3, next := 4, slots := [], objs := [] })]⟩
def s39 : LoopSpec := ⟨39, { np := 7, n := 73, gn := 3, next := 7, slots := [(1, .p 4 0), (2, .p 5 0), (5, .p 6 0), (43, .nd 0), (44, .nd 1), (45, .nd 2)], objs := [(6, .cells [.nd 3, .nd 4] 137 true false), (5, .cells [.i .i64 0, .i .u64 0, .i .u64 0, .i .u64 0, .i .u64 0, .i .u64 0, .i .u64 0, .i .u64 0, .i .u64 0, .i .u64 0, .i .u64 0, .i .u64 0, .i .u64 0, .i .u64 0, .i .u64 0, .i .u64 0, .i .i64 0, .b false, .s [], .s [], .s [], .nils, .nils, .nils] 63 true false), (4, .cells [.nd 5, .nd 0, .nd 6] 121 true false)] },
  [(.ret, { np := 3, n := 73, gn := 3, next := 5, slots := [(2, .p 4 0), (3, .i .i64 0)], objs := [(4, .cells [.i .i64 6, .i .u64 0, .i .u64 0, .i .u64 0, .i .u64 0, .i .u64 0, .i .u64 0, .i .u64 0, .i .u64 0, .i .u64 0, .nd 0, .nd 1, .i .u64 0, .i .u64 0, .i .u64 0, .i .u64 0, .i .i64 0, .b false, .s [], .s [], .s [], .nils, .nd 2, .nils] 63 true false)] }),
   (.exit 0, { np := 2, n := 73, gn := 3, next := 6, slots := [(2, .p 4 0), (5, .p 5 0)], objs := [(5, .cells [.nd 0, .nd 1] 137 true false), (4, .cells [.i .i64 0, .i .u64 0, .i .u64 0, .i .u64 0, .i .u64 0, .i .u64 0, .i .u64 0, .i .u64 0, .i .u64 0, .i .u64 0, .i .u64 0, .i .u64 0, .i .u64 0, .i .u64 0, .i .u64 0, .i .u64 0, .i .i64 0, .b false, .s [], .s [], .s [], .nils, .nils, .nils] 63 true false)], al := [some 3, some 4] })]⟩
def s88 : LoopSpec := ⟨88, { np := 2, n := 24, gn := 3, next := 4, slots := [(0, .nd 0), (3, .nd 1)], objs := [] },
  [(.ret, { np := 1, n := 24, gn := 3, next := 4, slots := [(2, .nd 0)], objs := [] }),
   (.exit 0, { np := 0, n := 24, gn := 3, next := 4, slots := [], objs := [] })]⟩
def s3 : LoopSpec := ⟨3, { np := 3, n := 37, gn := 3, next := 4, slots := [(0, .nd 0), (5, .nd 0), (6, .nd 1), (7, .nd 2)], objs := [] },
  [(.ret, { np := 0, n := 37, gn := 3, next := 4, slots := [(2, .b false)], objs := [] }),
   (.exit 0, { np := 1, n := 37, gn := 3, next := 4, slots := [(0, .nd 0)], objs := [], al := [some 0] })]⟩
def s66 : LoopSpec := ⟨66, { np := 7, n := 77, gn := 3, next := 8, slots := [(2, .p 4 0), (4, .p 5 0), (7, .p 6 0), (48, .nd 0), (49, .nd 1), (50, .nd 2)], objs := [(6, .cells [.nd 3, .nd 4, .sv 7 5] 335 true false), (7, .vec 5 162 true), (5, .cells [.i .u64 0, .i .u64 0, .nils] 335 true false), (4, .cells [.nd 3, .nd 6] 137 true false)] },
  [(.exit 0, { np := 3, n := 77, gn := 3, next := 7, slots := [(4, .p 4 0), (7, .p 5 0)], objs := [(5, .cells [.nd 0, .nd 1, .sv 6 2] 335 true false), (6, .vec 2 162 true), (4, .cells [.i .u64 0, .i .u64 0, .nils] 335 true false)], al := [some 3, some 4, none] })]⟩
def s69 : LoopSpec := ⟨69, { np := 4, n := 23, gn := 3, next := 5, slots := [(3, .sv 4 0), (6, .nd 1), (7, .nd 2), (8, .nd 3)], objs := [(4, .vec 0 162 true)] },
  [(.exit 0, { np := 1, n := 23, gn := 3, next := 5, slots := [(3, .sv 4 0)], objs := [(4, .vec 0 162 true)] })]⟩
def s58 : LoopSpec := ⟨58, { np := 2, n := 22, gn := 3, next := 4, slots := [(0, .nd 0), (3, .nd 1)], objs := [] },
  [(.exit 0, { np := 2, n := 22, gn := 3, next := 4, slots := [(0, .nd 0), (3, .nd 1)], objs := [] })]⟩
def s11 : LoopSpec := ⟨11, { np := 4, n := 22, gn := 3, next := 6, slots := [(3, .p 4 0), (11, .nd 0), (12, .nd 1), (13, .nd 2)], objs := [(4, .cells [.p 4 0, .sv 5 3] 260 true false), (5, .vec 3 5 true)] },
  [(.exit 0, { np := 1, n := 22, gn := 3, next := 6, slots := [(3, .p 4 0)], objs := [(4, .cells [.p 4 0, .sv 5 0] 260 true false), (5, .vec 0 5 true)] })]⟩
def s124 : LoopSpec := ⟨124, { np := 6, n := 24, gn := 3, next := 7, slots := [(3, .sv 5 0), (11, .sv 6 1), (12, .nd 2), (13, .nd 3)], objs := [(4, .cells [.nd 4, .sv 6 1, .nd 5] 243 true false), (6, .vec 1 123 true), (5, .vec 0 41 true)], ka := 1 },
  [(.exit 0, { np := 4, n := 24, gn := 3, next := 7, slots := [(3, .sv 5 0)], objs := [(4, .cells [.nd 1, .sv 6 2, .nd 3] 243 true false), (6, .vec 2 123 true), (5, .vec 0 41 true)], ka := 1, al := [none, some 4, some 1, some 5] })]⟩
def s10 : LoopSpec := ⟨10, { np := 4, n := 33, gn := 3, next := 5, slots := [(0, .nd 0), (3, .sv 4 1), (9, .nd 2), (10, .nd 3)], objs := [(4, .vec 1 5 false)] },
  [(.exit 0, { np := 1, n := 33, gn := 3, next := 5, slots := [(3, .sv 4 0)], objs := [(4, .vec 0 5 false)] })]⟩
def s5 : LoopSpec := ⟨5, { np := 3, n := 23, gn := 3, next := 4, slots := [(0, .nd 0), (5, .nd 0), (6, .nd 1), (7, .nd 2)], objs := [] },
  [(.ret, { np := 0, n := 23, gn := 3, next := 4, slots := [(2, .b false)], objs := [] }),
   (.exit 0, { np := 1, n := 23, gn := 3, next := 4, slots := [(0, .nd 0)], objs := [], al := [some 0] })]⟩
def s100 : LoopSpec := ⟨100, { np := 4, n := 81, gn := 3, next := 4, slots := [(0, .nd 0), (1, .nd 1), (12, .nd 2), (13, .nd 3)], objs := [] },
  [(.ret, { np := 0, n := 81, gn := 3, next := 4, slots := [(4, .b false)], objs := [] }),
   (.exit 0, { np := 0, n := 81, gn := 3, next := 4, slots := [], objs := [] })]⟩
def s34 : LoopSpec := ⟨34, { np := 6, n := 36, gn := 3, next := 6, slots := [(1, .nd 0), (2, .p 4 0), (4, .p 5 0), (9, .nd 1), (10, .nd 2), (11, .nd 3)], objs := [(5, .cells [.i .i64 0, .nils, .i .u64 0] 121 true false), (4, .cells [.nd 4, .nd 1, .nd 5] 121 true false)] },
  [(.ret, { np := 3, n := 36, gn := 3, next := 5, slots := [(4, .p 4 0), (5, .b true)], objs := [(4, .cells [.nd 0, .nd 1, .nd 2] 121 true false)], al := [some 4, none, some 0] }),
   (.exit 0, { np := 3, n := 36, gn := 3, next := 6, slots := [(2, .p 4 0), (4, .p 5 0)], objs := [(5, .cells [.i .i64 0, .nils, .i .u64 0] 121 true false), (4, .cells [.nd 0, .nd 1, .nd 2] 121 true false)], al := [some 4, some 1, some 5] })]⟩
def s21 : LoopSpec := ⟨21, { np := 3, n := 42, gn := 3, next := 4, slots := [(0, .nd 0), (15, .nd 0), (16, .nd 1), (17, .nd 2)], objs := [] },
  [(.ret, { np := 1, n := 42, gn := 3, next := 4, slots := [(2, .nd 0)], objs := [] }),
   (.exit 0, { np := 0, n := 42, gn := 3, next := 4, slots := [], objs := [] })]⟩
def s18 : LoopSpec := ⟨18, { np := 4, n := 42, gn := 3, next := 4, slots := [(3, .nd 0), (11, .nd 1), (12, .nd 2), (13, .nd 3)], objs := [] },
  [(.ret, { np := 1, n := 42, gn := 3, next := 4, slots := [(2, .nd 0)], objs := [] }),
   (.exit 0, { np := 0, n := 42, gn := 3, next := 4, slots := [], objs := [] })]⟩
def s45 : LoopSpec := ⟨45, { np := 3, n := 41, gn := 3, next := 4, slots := [(0, .nd 0), (3, .nd 1), (4, .nd 2)], objs := [] },
  [(.exit 0, { np := 1, n := 41, gn := 3, next := 4, slots := [(3, .nd 0)], objs := [] })]⟩
def s74 : LoopSpec := ⟨74, { np := 4, n := 71, gn := 3, next := 4, slots := [(0, .nd 0), (1, .nd 1), (13, .nd 2), (14, .nd 3)], objs := [] },
  [(.ret, { np := 0, n := 71, gn := 3, next := 4, slots := [(4, .b false)], objs := [] }),
   (.exit 0, { np := 0, n := 71, gn := 3, next := 4, slots := [], objs := [] })]⟩
def s9 : LoopSpec := ⟨9, { np := 2, n := 11, gn := 3, next := 4, slots := [(0, .nd 0), (3, .nd 1)], objs := [] },
  [(.exit 0, { np := 1, n := 11, gn := 3, next := 4, slots := [(3, .nd 0)], objs := [] })]⟩
def s129 : LoopSpec := ⟨129, { np := 8, n := 35, gn := 3, next := 6, slots := [(0, .p 4 0), (1, .agg [.nd 0, .nd 1, .nd 2, .nd 3, .nd 4])], objs := [(4, .cells [.nd 5, .sv 5 6, .nd 7] 243 true false), (5, .vec 6 123 true)], ka := 1 },
  [(.ret, { np := 5, n := 1, gn := 3, next := 6, slots := [(0, .agg [.nd 0, .nd 1])], objs := [(4, .cells [.nd 2, .sv 5 3, .nd 4] 243 true false), (5, .vec 3 123 true)], ka := 1, al := [none, none, some 5, some 6, some 7] })]⟩
def s128 : LoopSpec := ⟨128, { np := 5, n := 80, gn := 3, next := 6, slots := [(0, .p 4 0), (1, .agg [.nd 0, .nd 1])], objs := [(4, .cells [.nd 2, .sv 5 3, .nd 4] 243 true false), (5, .vec 3 123 true)], ka := 1 },
  [(.ret, { np := 4, n := 1, gn := 3, next := 6, slots := [(0, .nd 0)], objs := [(4, .cells [.nd 1, .sv 5 2, .nd 3] 243 true false), (5, .vec 2 123 true)], ka := 1, al := [none, some 2, none, none] })]⟩
def s126 : LoopSpec := ⟨126, { np := 3, n := 40, gn := 3, next := 6, slots := [(0, .p 4 0)], objs := [(4, .cells [.nd 0, .sv 5 1, .nd 2] 243 true false), (5, .vec 1 123 true)], ka := 1 },
  [(.ret, { np := 4, n := 1, gn := 3, next := 8, slots := [(0, .p 5 0)], objs := [(4, .cells [.nd 0, .sv 6 1, .nd 2] 243 true false), (6, .vec 1 123 true), (5, .cells [.nd 0, .sv 7 3, .nd 2] 243 true false), (7, .vec 3 123 true)], ka := 1, al := [some 0, some 1, some 2, none] })]⟩
def s125 : LoopSpec := ⟨125, { np := 4, n := 32, gn := 3, next := 6, slots := [(0, .p 4 0), (1, .nd 0)], objs := [(4, .cells [.nd 1, .sv 5 2, .nd 3] 243 true false), (5, .vec 2 123 true)], ka := 1 },
  [(.ret, { np := 4, n := 1, gn := 3, next := 6, slots := [(0, .nd 0)], objs := [(4, .cells [.nd 1, .sv 5 2, .nd 3] 243 true false), (5, .vec 2 123 true)], ka := 1, al := [none, some 1, none, none] })]⟩
def s123 : LoopSpec := ⟨123, { np := 3, n := 24, gn := 3, next := 6, slots := [(0, .p 4 0)], objs := [(4, .cells [.nd 0, .sv 5 1, .nd 2] 243 true false), (5, .vec 1 123 true)], ka := 1 },
  [(.ret, { np := 4, n := 1, gn := 3, next := 6, slots := [(0, .nd 0)], objs := [(4, .cells [.nd 1, .sv 5 2, .nd 3] 243 true false), (5, .vec 2 123 true)], ka := 1, al := [none, some 0, some 1, some 2] })]⟩
def s116 : LoopSpec := ⟨116, { np := 4, n := 24, gn := 3, next := 6, slots := [(0, .p 4 0), (1, .nd 0)], objs := [(4, .cells [.nd 1, .sv 5 2, .nd 3] 243 true false), (5, .vec 2 123 true)], ka := 1 },
  [(.ret, { np := 5, n := 2, gn := 3, next := 6, slots := [(0, .nd 0), (1, .nd 1)], objs := [(4, .cells [.nd 2, .sv 5 3, .nd 4] 243 true false), (5, .vec 3 123 true)], ka := 1, al := [none, none, some 1, some 2, some 3] })]⟩
def s115 : LoopSpec := ⟨115, { np := 3, n := 75, gn := 3, next := 6, slots := [(0, .p 4 0)], objs := [(4, .cells [.nd 0, .sv 5 1, .nd 2] 243 true false), (5, .vec 1 123 true)], ka := 1 },
  [(.ret, { np := 8, n := 2, gn := 3, next := 6, slots := [(0, .agg [.nd 0, .i .u64 0, .i .u64 0, .i .u64 0, .i .u64 0, .i .u64 0, .i .u64 0, .i .u64 0, .i .u64 0, .i .u64 0, .nd 1, .nd 2, .i .u64 0, .i .u64 0, .i .u64 0, .i .u64 0, .i .i64 0, .b false, .s [], .s [], .s [], .nils, .nd 3, .nils]), (1, .nd 4)], objs := [(4, .cells [.nd 5, .sv 5 6, .nd 7] 243 true false), (5, .vec 6 123 true)], ka := 1, al := [none, none, none, none, none, some 0, some 1, some 2] })]⟩
def s113 : LoopSpec := ⟨113, { np := 3, n := 28, gn := 3, next := 6, slots := [(0, .p 4 0)], objs := [(4, .cells [.nd 0, .sv 5 1, .nd 2] 243 true false), (5, .vec 1 123 true)], ka := 1 },
  [(.ret, { np := 6, n := 2, gn := 3, next := 6, slots := [(0, .agg [.nd 0, .nd 1]), (1, .nd 2)], objs := [(4, .cells [.nd 3, .sv 5 4, .nd 5] 243 true false), (5, .vec 4 123 true)], ka := 1, al := [none, none, none, some 0, some 1, some 2] })]⟩
def s112 : LoopSpec := ⟨112, { np := 6, n := 80, gn := 3, next := 6, slots := [(0, .p 4 0), (1, .agg [.nd 0, .nd 1, .nd 2])], objs := [(4, .cells [.nd 3, .sv 5 4, .nd 5] 243 true false), (5, .vec 4 123 true)], ka := 1 },
  [(.ret, { np := 4, n := 1, gn := 3, next := 6, slots := [(0, .nd 0)], objs := [(4, .cells [.nd 1, .sv 5 2, .nd 3] 243 true false), (5, .vec 2 123 true)], ka := 1, al := [none, some 3, some 4, some 5] })]⟩
abbrev c24 : Ctr := fun gs out => FnC Tryz.prog tabsL 253 [] [.sc] gs out
abbrev c62 : Ctr := fun gs out => FnC Tryz.prog tabsL 26 [] [.sc] gs out
abbrev c96 : Ctr := fun gs out => FnC Tryz.prog tabsL 296 [] [.sc] gs out
abbrev c81 : Ctr := fun gs out => FnC Tryz.prog tabsL 38 [] [.sc] gs out
abbrev c67 : Ctr := fun gs out => FnC Tryz.prog tabsL 72 [] [.ag 2] gs out
abbrev c80 : Ctr := fun gs out => FnC Tryz.prog tabsL 30 [] [.ag 24] gs out
abbrev c93 : Ctr := fun gs out => FnC Tryz.prog tabsL 182 [] [.sc, .sc] gs out
abbrev c60 : Ctr := fun gs out => FnC Tryz.prog tabsL 165 [] [.sc] gs out
abbrev c73 : Ctr := fun gs out => FnC Tryz.prog tabsL 17 [] [.sc] gs out
abbrev c25 : Ctr := fun gs out => FnC Tryz.prog tabsL 299 [] [.sc] gs out
abbrev c12 : Ctr := fun gs out => FnC Tryz.prog tabsL 155 [] [.sc] gs out
abbrev c94 : Ctr := fun gs out => FnC Tryz.prog tabsL 248 [] [.sc] gs out
abbrev c72 : Ctr := fun gs out => FnC Tryz.prog tabsL 145 [] [.sc] gs out
abbrev c44 : Ctr := fun gs out => FnC Tryz.prog tabsL 163 [] [.sc] gs out
abbrev c89 : Ctr := fun gs out => FnC Tryz.prog tabsL 179 [] [.sc] gs out
abbrev c8 : Ctr := fun gs out => FnC Tryz.prog tabsL 169 [] [.sc] gs out
abbrev c0 : Ctr := fun gs out => FnC Tryz.prog tabsL 8 [] [.sc] gs out
abbrev c6 : Ctr := fun gs out => FnC Tryz.prog tabsL 81 [] [.sc] gs out
abbrev c33 : Ctr := fun gs out => FnC Tryz.prog tabsL 68 [] [.ag 3, .sc] gs out
abbrev c46 : Ctr := fun gs out => FnC Tryz.prog tabsL 234 [] [.sc] gs out
abbrev c64 : Ctr := fun gs out => FnC Tryz.prog tabsL 23 [] [.sc] gs out
abbrev c41 : Ctr := fun gs out => FnC Tryz.prog tabsL 19 [] [.sc] gs out
abbrev c104 : Ctr := fun gs out => FnC Tryz.prog tabsL 151 [] [.sc] gs out
abbrev c86 : Ctr := fun gs out => FnC Tryz.prog tabsL 102 [] [.sc, .sc] gs out
abbrev c43 : Ctr := fun gs out => FnC Tryz.prog tabsL 86 [] [.sc] gs out
abbrev c4 : Ctr := fun gs out => FnC Tryz.prog tabsL 13 [] [.sc] gs out
abbrev c47 : Ctr := fun gs out => FnC Tryz.prog tabsL 113 [] [.sc] gs out
abbrev c68 : Ctr := fun gs out => FnC Tryz.prog tabsL 16 [] [.sc] gs out
abbrev c109 : Ctr := fun gs out => FnC Tryz.prog tabsL 207 [] [.sc, .sc] gs out
abbrev c53 : Ctr := fun gs out => FnC Tryz.prog tabsL 164 [] [.sc] gs out
abbrev c16 : Ctr := fun gs out => FnC Tryz.prog tabsL 141 [] [.sc] gs out
abbrev c108 : Ctr := fun gs out => FnC Tryz.prog tabsL 335 [] [.sc] gs out
abbrev c105 : Ctr := fun gs out => FnC Tryz.prog tabsL 152 [] [.sc, .sc] gs out
abbrev c91 : Ctr := fun gs out => FnC Tryz.prog tabsL 180 [] [.sc] gs out
abbrev c17 : Ctr := fun gs out => FnC Tryz.prog tabsL 18 [] [.sc] gs out
abbrev c103 : Ctr := fun gs out => FnC Tryz.prog tabsL 79 [] [.ag 2, .sc] gs out
abbrev c61 : Ctr := fun gs out => FnC Tryz.prog tabsL 87 [] [.sc] gs out
abbrev c78 : Ctr := fun gs out => FnC Tryz.prog tabsL 146 [] [.sc] gs out
abbrev c118 : Ctr := fun gs out => FnC Tryz.prog tabsL 147 [] [.ag 3, .sc] gs out
abbrev c50 : Ctr := fun gs out => FnC Tryz.prog tabsL 258 [] [.sc] gs out
abbrev c52 : Ctr := fun gs out => FnC Tryz.prog tabsL 235 [] [.sc] gs out
abbrev c111 : Ctr := fun gs out => FnC Tryz.prog tabsL 71 [] [.ag 3, .sc] gs out
abbrev c92 : Ctr := fun gs out => FnC Tryz.prog tabsL 171 [] [.sc] gs out
abbrev c107 : Ctr := fun gs out => FnC Tryz.prog tabsL 206 [] [.sc] gs out
abbrev c56 : Ctr := fun gs out => FnC Tryz.prog tabsL 88 [] [.sc] gs out
abbrev c70 : Ctr := fun gs out => FnC Tryz.prog tabsL 24 [] [.sc] gs out
abbrev c84 : Ctr := fun gs out => FnC Tryz.prog tabsL 118 [] [.sc] gs out
abbrev c119 : Ctr := fun gs out => FnC Tryz.prog tabsL 25 [] [.sc] gs out
abbrev c23 : Ctr := fun gs out => FnC Tryz.prog tabsL 189 [] [.sc] gs out
abbrev c20 : Ctr := fun gs out => FnC Tryz.prog tabsL 157 [] [.sc] gs out
abbrev c48 : Ctr := fun gs out => FnC Tryz.prog tabsL 192 [] [.sc] gs out
abbrev c26 : Ctr := fun gs out => FnC Tryz.prog tabsL 140 [] [.ag 2] gs out
abbrev c22 : Ctr := fun gs out => FnC Tryz.prog tabsL 212 [] [.sc] gs out
abbrev c99 : Ctr := fun gs out => FnC Tryz.prog tabsL 37 [] [.sc] gs out
abbrev c87 : Ctr := fun gs out => FnC Tryz.prog tabsL 110 [] [.sc] gs out
abbrev c38 : Ctr := fun gs out => FnC Tryz.prog tabsL 144 [] [.ag 24, .sc] gs out
abbrev c54 : Ctr := fun gs out => FnC Tryz.prog tabsL 236 [] [.sc] gs out
abbrev c57 : Ctr := fun gs out => FnC Tryz.prog tabsL 105 [] [.sc] gs out
abbrev c97 : Ctr := fun gs out => FnC Tryz.prog tabsL 305 [] [.sc] gs out
abbrev c83 : Ctr := fun gs out => FnC Tryz.prog tabsL 44 [] [.sc] gs out
abbrev c28 : Ctr := fun gs out => FnC Tryz.prog tabsL 116 [] [.sc] gs out
abbrev c19 : Ctr := fun gs out => FnC Tryz.prog tabsL 82 [] [.sc] gs out
abbrev c40 : Ctr := fun gs out => FnC Tryz.prog tabsL 205 [] [.ag 3, .sc] gs out
abbrev c2 : Ctr := fun gs out => FnC Tryz.prog tabsL 12 [] [.sc] gs out
abbrev c7 : Ctr := fun gs out => FnC Tryz.prog tabsL 96 [] [.sc] gs out
abbrev c129 : Ctr := fun gs out => FnS Tryz.prog tabsL 70 [] s129.pre s129.posts gs out
abbrev c128 : Ctr := fun gs out => FnS Tryz.prog tabsL 65 [] s128.pre s128.posts gs out
abbrev c126 : Ctr := fun gs out => FnS Tryz.prog tabsL 63 [] s126.pre s126.posts gs out
abbrev c125 : Ctr := fun gs out => FnS Tryz.prog tabsL 67 [] s125.pre s125.posts gs out
abbrev c123 : Ctr := fun gs out => FnS Tryz.prog tabsL 77 [] s123.pre s123.posts gs out
abbrev c116 : Ctr := fun gs out => FnS Tryz.prog tabsL 143 [] s116.pre s116.posts gs out
abbrev c115 : Ctr := fun gs out => FnS Tryz.prog tabsL 74 [] s115.pre s115.posts gs out
abbrev c113 : Ctr := fun gs out => FnS Tryz.prog tabsL 66 [] s113.pre s113.posts gs out
abbrev c112 : Ctr := fun gs out => FnS Tryz.prog tabsL 73 [] s112.pre s112.posts gs out
abbrev c101 : Ctr := fun gs out => LoopC Tryz.prog tabsL b101 s101.pre s101.posts gs out
abbrev c75 : Ctr := fun gs out => LoopC Tryz.prog tabsL b75 s75.pre s75.posts gs out
abbrev c59 : Ctr := fun gs out => LoopC Tryz.prog tabsL b59 s59.pre s59.posts gs out
abbrev c117 : Ctr := fun gs out => LoopC Tryz.prog tabsL b117 s117.pre s117.posts gs out
abbrev c1 : Ctr := fun gs out => LoopC Tryz.prog tabsL b1 s1.pre s1.posts gs out
abbrev c49 : Ctr := fun gs out => LoopC Tryz.prog tabsL b49 s49.pre s49.posts gs out
abbrev c55 : Ctr := fun gs out => LoopC Tryz.prog tabsL b55 s55.pre s55.posts gs out
abbrev c106 : Ctr := fun gs out => LoopC Tryz.prog tabsL b106 s106.pre s106.posts gs out
abbrev c63 : Ctr := fun gs out => LoopC Tryz.prog tabsL b63 s63.pre s63.posts gs out
abbrev c122 : Ctr := fun gs out => LoopC Tryz.prog tabsL b122 s122.pre s122.posts gs out
abbrev c85 : Ctr := fun gs out => LoopC Tryz.prog tabsL b85 s85.pre s85.posts gs out
abbrev c27 : Ctr := fun gs out => LoopC Tryz.prog tabsL b27 s27.pre s27.posts gs out
abbrev c121 : Ctr := fun gs out => LoopC Tryz.prog tabsL b121 s121.pre s121.posts gs out
abbrev c114 : Ctr := fun gs out => LoopC Tryz.prog tabsL b114 s114.pre s114.posts gs out
abbrev c51 : Ctr := fun gs out => LoopC Tryz.prog tabsL b51 s51.pre s51.posts gs out
abbrev c65 : Ctr := fun gs out => LoopC Tryz.prog tabsL b65 s65.pre s65.posts gs out
abbrev c90 : Ctr := fun gs out => LoopC Tryz.prog tabsL b90 s90.pre s90.posts gs out
abbrev c71 : Ctr := fun gs out => LoopC Tryz.prog tabsL b71 s71.pre s71.posts gs out
abbrev c42 : Ctr := fun gs out => LoopC Tryz.prog tabsL b42 s42.pre s42.posts gs out
abbrev c120 : Ctr := fun gs out => LoopC Tryz.prog tabsL b120 s120.pre s120.posts gs out
abbrev c82 : Ctr := fun gs out => LoopC Tryz.prog tabsL b82 s82.pre s82.posts gs out
abbrev c95 : Ctr := fun gs out => LoopC Tryz.prog tabsL b95 s95.pre s95.posts gs out
abbrev c98 : Ctr := fun gs out => LoopC Tryz.prog tabsL b98 s98.pre s98.posts gs out
abbrev c127 : Ctr := fun gs out => LoopC Tryz.prog tabsL b127 s127.pre s127.posts gs out
abbrev c79 : Ctr := fun gs out => LoopC Tryz.prog tabsL b79 s79.pre s79.posts gs out
abbrev c39 : Ctr := fun gs out => LoopC Tryz.prog tabsL b39 s39.pre s39.posts gs out
abbrev c88 : Ctr := fun gs out => LoopC Tryz.prog tabsL b88 s88.pre s88.posts gs out
abbrev c3 : Ctr := fun gs out => LoopC Tryz.prog tabsL b3 s3.pre s3.posts gs out
abbrev c66 : Ctr := fun gs out => LoopC Tryz.prog tabsL b66 s66.pre s66.posts gs out
abbrev c69 : Ctr := fun gs out => LoopC Tryz.prog tabsL b69 s69.pre s69.posts gs out
abbrev c58 : Ctr := fun gs out => LoopC Tryz.prog tabsL b58 s58.pre s58.posts gs out
abbrev c11 : Ctr := fun gs out => LoopC Tryz.prog tabsL b11 s11.pre s11.posts gs out
abbrev c124 : Ctr := fun gs out => LoopC Tryz.prog tabsL b124 s124.pre s124.posts gs out
abbrev c10 : Ctr := fun gs out => LoopC Tryz.prog tabsL b10 s10.pre s10.posts gs out
abbrev c5 : Ctr := fun gs out => LoopC Tryz.prog tabsL b5 s5.pre s5.posts gs out
abbrev c100 : Ctr := fun gs out => LoopC Tryz.prog tabsL b100 s100.pre s100.posts gs out
abbrev c34 : Ctr := fun gs out => LoopC Tryz.prog tabsL b34 s34.pre s34.posts gs out
abbrev c21 : Ctr := fun gs out => LoopC Tryz.prog tabsL b21 s21.pre s21.posts gs out
abbrev c18 : Ctr := fun gs out => LoopC Tryz.prog tabsL b18 s18.pre s18.posts gs out
abbrev c45 : Ctr := fun gs out => LoopC Tryz.prog tabsL b45 s45.pre s45.posts gs out
abbrev c74 : Ctr := fun gs out => LoopC Tryz.prog tabsL b74 s74.pre s74.posts gs out
abbrev c9 : Ctr := fun gs out => LoopC Tryz.prog tabsL b9 s9.pre s9.posts gs out
noncomputable def Cs : List Ctr := [c0, c1, c2, c3, c4, c5, c6, c7, c8, c9, c10, c11, c12, fun _ _ => True, fun _ _ => True, fun _ _ => True, c16, c17, c18, c19, c20, c21, c22, c23, c24, c25, c26, c27, c28, fun _ _ => True, fun _ _ => True, fun _ _ => True, fun _ _ => True, c33, c34, fun _ _ => True, fun _ _ => True, fun _ _ => True, c38, c39, c40, c41, c42, c43, c44, c45, c46, c47, c48, c49, c50, c51, c52, c53, c54, c55, c56, c57, c58, c59, c60, c61, c62, c63, c64, c65, c66, c67, c68, c69, c70, c71, c72, c73, c74, c75, fun _ _ => True, fun _ _ => True, c78, c79, c80, c81, c82, c83, c84, c85, c86, c87, c88, c89, c90, c91, c92, c93, c94, c95, c96, c97, c98, c99, c100, c101, fun _ _ => True, c103, c104, c105, c106, c107, c108, c109, fun _ _ => True, c111, c112, c113, c114, c115, c116, c117, c118, c119, c120, c121, c122, c123, c124, c125, c126, c127, c128, c129]
noncomputable abbrev C := CofL Cs
noncomputable def pl : PList := PL.cons 73 (fun N => @pCallS N Tryz.prog [] s112) (PL.cons 66 (fun N => @pCallS N Tryz.prog [] s113) (PL.cons 74 (fun N => @pCallS N Tryz.prog [] s115) (PL.cons 143 (fun N => @pCallS N Tryz.prog [] s116) (PL.cons 77 (fun N => @pCallS N Tryz.prog [] s123) (PL.cons 67 (fun N => @pCallS N Tryz.prog [] s125) (PL.cons 63 (fun N => @pCallS N Tryz.prog [] s126) (PL.cons 65 (fun N => @pCallS N Tryz.prog [] s128) (PL.cons 70 (fun N => @pCallS N Tryz.prog [] s129) (PL.cons 96 (fun N => @pCall N Tryz.prog 7 [] [.sc]) (PL.cons 12 (fun N => @pCall N Tryz.prog 2 [] [.sc]) (PL.cons 205 (fun N => @pCall N Tryz.prog 40 [] [.ag 3, .sc]) (PL.cons 82 (fun N => @pCall N Tryz.prog 19 [] [.sc]) (PL.cons 116 (fun N => @pCall N Tryz.prog 28 [] [.sc]) (PL.cons 44 (fun N => @pCall N Tryz.prog 83 [] [.sc]) (PL.cons 305 (fun N => @pCall N Tryz.prog 97 [] [.sc]) (PL.cons 105 (fun N => @pCall N Tryz.prog 57 [] [.sc]) (PL.cons 236 (fun N => @pCall N Tryz.prog 54 [] [.sc]) (PL.cons 144 (fun N => @pCall N Tryz.prog 38 [] [.ag 24, .sc]) (PL.cons 110 (fun N => @pCall N Tryz.prog 87 [] [.sc]) (PL.cons 37 (fun N => @pCall N Tryz.prog 99 [] [.sc]) (PL.cons 212 (fun N => @pCall N Tryz.prog 22 [] [.sc]) (PL.cons 140 (fun N => @pCall N Tryz.prog 26 [] [.ag 2]) (PL.cons 192 (fun N => @pCall N Tryz.prog 48 [] [.sc]) (PL.cons 157 (fun N => @pCall N Tryz.prog 20 [] [.sc]) (PL.cons 189 (fun N => @pCall N Tryz.prog 23 [] [.sc]) (PL.cons 25 (fun N => @pCall N Tryz.prog 119 [] [.sc]) (PL.cons 118 (fun N => @pCall N Tryz.prog 84 [] [.sc]) (PL.cons 24 (fun N => @pCall N Tryz.prog 70 [] [.sc]) (PL.cons 88 (fun N => @pCall N Tryz.prog 56 [] [.sc]) (PL.cons 206 (fun N => @pCall N Tryz.prog 107 [] [.sc]) (PL.cons 171 (fun N => @pCall N Tryz.prog 92 [] [.sc]) (PL.cons 71 (fun N => @pCall N Tryz.prog 111 [] [.ag 3, .sc]) (PL.cons 235 (fun N => @pCall N Tryz.prog 52 [] [.sc]) (PL.cons 258 (fun N => @pCall N Tryz.prog 50 [] [.sc]) (PL.cons 147 (fun N => @pCall N Tryz.prog 118 [] [.ag 3, .sc]) (PL.cons 146 (fun N => @pCall N Tryz.prog 78 [] [.sc]) (PL.cons 87 (fun N => @pCall N Tryz.prog 61 [] [.sc]) (PL.cons 79 (fun N => @pCall N Tryz.prog 103 [] [.ag 2, .sc]) (PL.cons 18 (fun N => @pCall N Tryz.prog 17 [] [.sc]) (PL.cons 180 (fun N => @pCall N Tryz.prog 91 [] [.sc]) (PL.cons 152 (fun N => @pCall N Tryz.prog 105 [] [.sc, .sc]) (PL.cons 335 (fun N => @pCall N Tryz.prog 108 [] [.sc]) (PL.cons 141 (fun N => @pCall N Tryz.prog 16 [] [.sc]) (PL.cons 164 (fun N => @pCall N Tryz.prog 53 [] [.sc]) (PL.cons 207 (fun N => @pCall N Tryz.prog 109 [] [.sc, .sc]) (PL.cons 16 (fun N => @pCall N Tryz.prog 68 [] [.sc]) (PL.cons 113 (fun N => @pCall N Tryz.prog 47 [] [.sc]) (PL.cons 13 (fun N => @pCall N Tryz.prog 4 [] [.sc]) (PL.cons 86 (fun N => @pCall N Tryz.prog 43 [] [.sc]) (PL.cons 102 (fun N => @pCall N Tryz.prog 86 [] [.sc, .sc]) (PL.cons 151 (fun N => @pCall N Tryz.prog 104 [] [.sc]) (PL.cons 19 (fun N => @pCall N Tryz.prog 41 [] [.sc]) (PL.cons 23 (fun N => @pCall N Tryz.prog 64 [] [.sc]) (PL.cons 234 (fun N => @pCall N Tryz.prog 46 [] [.sc]) (PL.cons 68 (fun N => @pCall N Tryz.prog 33 [] [.ag 3, .sc]) (PL.cons 81 (fun N => @pCall N Tryz.prog 6 [] [.sc]) (PL.cons 8 (fun N => @pCall N Tryz.prog 0 [] [.sc]) (PL.cons 169 (fun N => @pCall N Tryz.prog 8 [] [.sc]) (PL.cons 179 (fun N => @pCall N Tryz.prog 89 [] [.sc]) (PL.cons 163 (fun N => @pCall N Tryz.prog 44 [] [.sc]) (PL.cons 145 (fun N => @pCall N Tryz.prog 72 [] [.sc]) (PL.cons 248 (fun N => @pCall N Tryz.prog 94 [] [.sc]) (PL.cons 155 (fun N => @pCall N Tryz.prog 12 [] [.sc]) (PL.cons 299 (fun N => @pCall N Tryz.prog 25 [] [.sc]) (PL.cons 17 (fun N => @pCall N Tryz.prog 73 [] [.sc]) (PL.cons 165 (fun N => @pCall N Tryz.prog 60 [] [.sc]) (PL.cons 182 (fun N => @pCall N Tryz.prog 93 [] [.sc, .sc]) (PL.cons 30 (fun N => @pCall N Tryz.prog 80 [] [.ag 24]) (PL.cons 72 (fun N => @pCall N Tryz.prog 67 [] [.ag 2]) (PL.cons 38 (fun N => @pCall N Tryz.prog 81 [] [.sc]) (PL.cons 296 (fun N => @pCall N Tryz.prog 96 [] [.sc]) (PL.cons 26 (fun N => @pCall N Tryz.prog 62 [] [.sc]) (PL.cons 253 (fun N => @pCall N Tryz.prog 24 [] [.sc]) (PL.cons 61 (fun _ => pClosed) (PL.cons 282 (fun _ => pNoEscape) (PL.nil))))))))))))))))))))))))))))))))))))))))))))))))))))))))))))))))))))))))))))
end X
end Go.Proofs.YtbcpbplkgknnmaaGreatDoor
