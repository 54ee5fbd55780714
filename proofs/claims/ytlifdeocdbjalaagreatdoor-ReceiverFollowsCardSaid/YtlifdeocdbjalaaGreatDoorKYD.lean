/- The codes, shapes and contracts. -/
import Derived.Test.YtlifdeocdbjalaaGreatDoorKRBase
import Derived.Test.YtlifdeocdbjalaaGreatDoorKYT
import Derived.Test.YtlifdeocdbjalaaGreatDoorAbsPl
import Derived.Test.YtlifdeocdbjalaaGreatDoorAbsTold
import Derived.Test.YtlifdeocdbjalaaGreatDoorAbsTold2
import Derived.Test.YtlifdeocdbjalaaGreatDoorAbsTold3
namespace Go.Proofs.YtlifdeocdbjalaaGreatDoor
open Go Go.Abs
set_option maxRecDepth 100000
set_option linter.unusedVariables false
set_option linter.unusedSimpArgs false
namespace Y
theorem low : TabsLow tabsL Tryz.prog.globals.size := by
  rw [nGlobals]
  refine ⟨fun p hp => ?_, fun p hp => ?_⟩
  all_goals
    simp only [tabsL, List.mem_cons, List.mem_nil_iff, or_false] at hp
    rcases hp with rfl | rfl
    all_goals first | decide | rfl
noncomputable def code74 : Code := Tryz.f74.body.getD .skip
noncomputable def code65 : Code := Tryz.f65.body.getD .skip
noncomputable def code38 : Code := Tryz.f38.body.getD .skip
noncomputable def code3 : Code := Tryz.f3.body.getD .skip
noncomputable def code127 : Code := Tryz.f127.body.getD .skip
noncomputable def code72 : Code := Tryz.f72.body.getD .skip
noncomputable def code104 : Code := Tryz.f104.body.getD .skip
noncomputable def code35 : Code := Tryz.f35.body.getD .skip
noncomputable def code33 : Code := Tryz.f33.body.getD .skip
noncomputable def code98 : Code := Tryz.f98.body.getD .skip
noncomputable def code125 : Code := Tryz.f125.body.getD .skip
noncomputable def code76 : Code := Tryz.f76.body.getD .skip
noncomputable def code31 : Code := Tryz.f31.body.getD .skip
noncomputable def code71 : Code := Tryz.f71.body.getD .skip
noncomputable def code59 : Code := Tryz.f59.body.getD .skip
noncomputable def code34 : Code := Tryz.f34.body.getD .skip
noncomputable def code99 : Code := Tryz.f99.body.getD .skip
noncomputable def code106 : Code := Tryz.f106.body.getD .skip
noncomputable def code132 : Code := Tryz.f132.body.getD .skip
noncomputable def code128 : Code := Tryz.f128.body.getD .skip
noncomputable def code73 : Code := Tryz.f73.body.getD .skip
noncomputable def code134 : Code := Tryz.f134.body.getD .skip
noncomputable def code41 : Code := Tryz.f41.body.getD .skip
noncomputable def code8 : Code := Tryz.f8.body.getD .skip
noncomputable def code67 : Code := Tryz.f67.body.getD .skip
noncomputable def code45 : Code := Tryz.f45.body.getD .skip
noncomputable def code124 : Code := Tryz.f124.body.getD .skip
noncomputable def code122 : Code := Tryz.f122.body.getD .skip
noncomputable def code27 : Code := Tryz.f27.body.getD .skip
noncomputable def code103 : Code := Tryz.f103.body.getD .skip
noncomputable def code100 : Code := Tryz.f100.body.getD .skip
noncomputable def code129 : Code := Tryz.f129.body.getD .skip
noncomputable def code123 : Code := Tryz.f123.body.getD .skip
noncomputable def code46 : Code := Tryz.f46.body.getD .skip
noncomputable def code68 : Code := Tryz.f68.body.getD .skip
noncomputable def code58 : Code := Tryz.f58.body.getD .skip
noncomputable def code126 : Code := Tryz.f126.body.getD .skip
noncomputable def code75 : Code := Tryz.f75.body.getD .skip
noncomputable def code139 : Code := Tryz.f139.body.getD .skip
noncomputable def code10 : Code := Tryz.f10.body.getD .skip
noncomputable def code32 : Code := Tryz.f32.body.getD .skip
noncomputable def code9 : Code := Tryz.f9.body.getD .skip
noncomputable def code42 : Code := Tryz.f42.body.getD .skip
noncomputable def code13 : Code := Tryz.f13.body.getD .skip
noncomputable def code63 : Code := Tryz.f63.body.getD .skip
noncomputable def code12 : Code := Tryz.f12.body.getD .skip
noncomputable def code37 : Code := Tryz.f37.body.getD .skip
noncomputable def code17 : Code := Tryz.f17.body.getD .skip
noncomputable def code11 : Code := Tryz.f11.body.getD .skip
noncomputable def code44 : Code := Tryz.f44.body.getD .skip
noncomputable def code14 : Code := Tryz.f14.body.getD .skip
noncomputable def b106 : Code := bodyOf code3 [([], 1)]
noncomputable def b98 : Code := bodyOf code100 [([], 0)]
noncomputable def b23 : Code := bodyOf code99 [([], 0)]
noncomputable def b99 : Code := bodyOf code27 [([], 3)]
noncomputable def b55 : Code := bodyOf code38 [([], 0)]
noncomputable def b1 : Code := bodyOf code3 [([], 0)]
noncomputable def b20 : Code := bodyOf code68 [([], 0)]
noncomputable def b46 : Code := bodyOf code76 [([], 0)]
noncomputable def b72 : Code := bodyOf code27 [([], 2)]
noncomputable def b53 : Code := bodyOf code34 [([], 0)]
noncomputable def b10 : Code := bodyOf code139 [([], 0)]
noncomputable def b37 : Code := bodyOf code35 [([], 0)]
noncomputable def b69 : Code := bodyOf code27 [([], 0)]
noncomputable def b50 : Code := bodyOf code37 [([], 0)]
noncomputable def b71 : Code := bodyOf code27 [([], 1)]
noncomputable def b12 : Code := bodyOf code67 [([], 0)]
noncomputable def b43 : Code := bodyOf code74 [([], 0)]
noncomputable def b30 : Code := bodyOf code73 [([], 0)]
noncomputable def b61 : Code := bodyOf code59 [([], 0)]
noncomputable def b4 : Code := bodyOf code31 [([], 0)]
noncomputable def b11 : Code := bodyOf code103 [([], 0)]
noncomputable def b6 : Code := bodyOf code46 [([], 0)]
noncomputable def b100 : Code := bodyOf b99 [([], 0)]
noncomputable def b54 : Code := bodyOf b53 [([], 0)]
def s106 : LoopSpec := ⟨106, { np := 7, n := 236, gn := 3, next := 7, slots := [(8, .p 4 0), (10, .p 5 0), (195, .nd 0)], objs := [(5, .cells [.nd 1, .nd 2, .nd 3, .nd 4] 87 true false), (4, .cells [.nd 1, .sv 6 5, .nd 6] 85 true false), (6, .vec 5 38 true)] },
  [(.exit 2, { np := 6, n := 236, gn := 3, next := 7, slots := [(8, .p 4 0), (10, .p 5 0)], objs := [(5, .cells [.nd 0, .nd 1, .nd 2, .nd 3] 87 true false), (4, .cells [.nd 0, .sv 6 4, .nd 5] 85 true false), (6, .vec 4 38 true)], al := [some 1, none, none, none, none, none] })]⟩
def s100 : LoopSpec := ⟨100, { np := 11, n := 116, gn := 3, next := 5, slots := [(6, .nd 0), (18, .p 4 0), (97, .nd 1), (98, .nd 2), (99, .nd 3), (103, .nd 0), (104, .nd 4), (105, .nd 5)], objs := [(4, .cells [.nd 6, .nd 7, .nd 8, .nd 9, .nd 10] 136 true false)] },
  [(.ret, { np := 0, n := 116, gn := 3, next := 4, slots := [(4, .i .i64 14)], objs := [] }),
   (.exit 8, { np := 4, n := 116, gn := 3, next := 4, slots := [(6, .nd 0), (97, .nd 1), (98, .nd 2), (99, .nd 3)], objs := [], al := [some 0, some 1, some 2, some 3] })]⟩
def s98 : LoopSpec := ⟨98, { np := 5, n := 46, gn := 3, next := 4, slots := [(1, .nd 0), (5, .nd 1), (9, .nd 2), (10, .nd 3), (11, .nd 4)], objs := [] },
  [(.ret, { np := 1, n := 46, gn := 3, next := 4, slots := [(4, .nd 0)], objs := [] }),
   (.exit 0, { np := 0, n := 46, gn := 3, next := 4, slots := [], objs := [] })]⟩
def s23 : LoopSpec := ⟨23, { np := 3, n := 42, gn := 3, next := 4, slots := [(0, .nd 0), (15, .nd 0), (16, .nd 1), (17, .nd 2)], objs := [] },
  [(.ret, { np := 1, n := 42, gn := 3, next := 4, slots := [(2, .nd 0)], objs := [] }),
   (.exit 0, { np := 0, n := 42, gn := 3, next := 4, slots := [], objs := [] })]⟩
def s99 : LoopSpec := ⟨99, { np := 4, n := 116, gn := 3, next := 4, slots := [(6, .nd 0), (97, .nd 1), (98, .nd 2), (99, .nd 3)], objs := [] },
  [(.ret, { np := 0, n := 116, gn := 3, next := 4, slots := [(4, .i .i64 14)], objs := [] }),
   (.exit 6, { np := 0, n := 116, gn := 3, next := 4, slots := [], objs := [] })]⟩
def s54 : LoopSpec := ⟨54, { np := 8, n := 59, gn := 3, next := 5, slots := [(0, .nd 0), (5, .nd 1), (7, .p 4 0), (8, .nd 2), (9, .nd 3), (10, .nd 4), (11, .nd 5)], objs := [(4, .cells [.nd 6, .nd 7] 138 true false)] },
  [(.exit 2, { np := 11, n := 59, gn := 3, next := 5, slots := [(0, .nd 0), (5, .nd 1), (7, .p 4 0), (8, .nd 2), (9, .nd 3), (10, .nd 4), (11, .nd 5), (23, .nd 0), (24, .nd 1), (25, .rx 6 0), (26, .rx 6 0), (27, .nd 7), (28, .nd 8), (29, .nd 2), (30, .b false)], objs := [(4, .cells [.nd 9, .nd 10] 138 true false)], al := [some 0, none, some 2, some 3, some 4, some 5, none, none, none, some 6, some 7] }),
   (.exit 2, { np := 8, n := 59, gn := 3, next := 5, slots := [(0, .nd 0), (5, .nd 1), (7, .p 4 0), (8, .nd 2), (9, .nd 3), (10, .nd 4), (11, .nd 5), (23, .tup []), (24, .tup []), (25, .tup []), (26, .tup []), (27, .tup []), (28, .tup []), (29, .tup []), (30, .tup [])], objs := [(4, .cells [.nd 6, .nd 7] 138 true false)], al := [some 0, none, some 2, some 3, some 4, some 5, some 6, some 7] })]⟩
def s55 : LoopSpec := ⟨55, { np := 7, n := 85, gn := 3, next := 7, slots := [(4, .p 4 0), (7, .p 5 0), (8, .nd 0), (43, .nd 1), (44, .nd 2), (45, .nd 3)], objs := [(5, .cells [.nd 4, .nd 5, .sv 6 6] 97 true false), (6, .vec 6 138 true), (4, .cells [.i .u64 0, .i .u64 0, .nils] 97 true false)] },
  [(.exit 0, { np := 3, n := 85, gn := 3, next := 7, slots := [(4, .p 4 0), (7, .p 5 0)], objs := [(5, .cells [.nd 0, .nd 1, .sv 6 2] 97 true false), (6, .vec 2 138 true), (4, .cells [.i .u64 0, .i .u64 0, .nils] 97 true false)], al := [some 4, some 5, none] })]⟩
def s1 : LoopSpec := ⟨1, { np := 13, n := 236, gn := 3, next := 10, slots := [(2, .nd 0), (8, .p 4 0), (10, .p 5 0), (12, .mp 6), (13, .sv 7 1), (14, .sv 8 2), (15, .nd 3), (72, .nd 4), (73, .nd 5), (74, .nd 6)], objs := [(8, .vec 2 47 true), (7, .vec 1 47 true), (6, .smap 7 (some .u64) (some 2)), (5, .cells [.nd 8, .nd 9, .nd 3, .nd 10] 87 true false), (4, .cells [.nd 8, .sv 9 11, .nd 12] 85 true false), (9, .vec 11 38 true)] },
  [(.ret, { np := 1, n := 236, gn := 3, next := 4, slots := [(6, .nd 0)], objs := [] }),
   (.exit 0, { np := 6, n := 236, gn := 3, next := 7, slots := [(8, .p 4 0), (10, .p 5 0)], objs := [(5, .cells [.nd 0, .nd 1, .nd 2, .nd 3] 87 true false), (4, .cells [.nd 0, .sv 6 4, .nd 5] 85 true false), (6, .vec 4 38 true)], al := [some 8, none, none, none, none, none] })]⟩
def s20 : LoopSpec := ⟨20, { np := 4, n := 42, gn := 3, next := 4, slots := [(3, .nd 0), (11, .nd 1), (12, .nd 2), (13, .nd 3)], objs := [] },
  [(.ret, { np := 1, n := 42, gn := 3, next := 4, slots := [(2, .nd 0)], objs := [] }),
   (.exit 0, { np := 0, n := 42, gn := 3, next := 4, slots := [], objs := [] })]⟩
def s46 : LoopSpec := ⟨46, { np := 4, n := 26, gn := 3, next := 4, slots := [(0, .nd 0), (1, .nd 1), (12, .nd 2), (13, .nd 3)], objs := [] },
  [(.ret, { np := 0, n := 26, gn := 3, next := 4, slots := [(4, .b false)], objs := [] }),
   (.exit 0, { np := 0, n := 26, gn := 3, next := 4, slots := [], objs := [] })]⟩
def s72 : LoopSpec := ⟨72, { np := 27, n := 116, gn := 3, next := 5, slots := [(2, .p 4 0), (6, .nd 0), (71, .nd 0), (72, .nd 1), (73, .nd 2)], objs := [(4, .cells [.nd 3, .nd 4, .nd 5, .nd 6, .nd 7, .nd 8, .nd 9, .nd 10, .nd 11, .nd 12, .nd 13, .nd 14, .nd 15, .nd 16, .nd 17, .nd 18, .nd 19, .nd 20, .nd 21, .nd 22, .nd 23, .nd 24, .nd 25, .nd 26] 47 true false)] },
  [(.ret, { np := 1, n := 116, gn := 3, next := 4, slots := [(4, .nd 0)], objs := [] }),
   (.exit 4, { np := 25, n := 116, gn := 3, next := 5, slots := [(2, .p 4 0), (6, .nd 0)], objs := [(4, .cells [.nd 1, .nd 2, .nd 3, .nd 4, .nd 5, .nd 6, .nd 7, .nd 8, .nd 9, .nd 10, .nd 11, .nd 12, .nd 13, .nd 14, .nd 15, .nd 16, .nd 17, .nd 18, .nd 19, .nd 20, .nd 21, .nd 22, .nd 23, .nd 24] 47 true false)], al := [some 0, some 3, some 4, some 5, some 6, some 7, some 8, some 9, some 10, some 11, some 12, some 13, some 14, some 15, some 16, some 17, some 18, some 19, some 20, some 21, some 22, some 23, some 24, some 25, some 26] })]⟩
def s53 : LoopSpec := ⟨53, { np := 5, n := 59, gn := 3, next := 4, slots := [(0, .nd 0), (5, .nd 1), (9, .nd 2), (10, .nd 3), (11, .nd 4)], objs := [] },
  [(.ret, { np := 0, n := 59, gn := 3, next := 4, slots := [(4, .b false)], objs := [] }),
   (.exit 0, { np := 0, n := 59, gn := 3, next := 4, slots := [], objs := [] })]⟩
def s10 : LoopSpec := ⟨10, { np := 2, n := 11, gn := 3, next := 4, slots := [(0, .nd 0), (3, .nd 1)], objs := [] },
  [(.exit 0, { np := 1, n := 11, gn := 3, next := 4, slots := [(3, .nd 0)], objs := [] })]⟩
def s37 : LoopSpec := ⟨37, { np := 5, n := 32, gn := 3, next := 7, slots := [(2, .p 4 0), (3, .p 5 0), (14, .nd 0), (15, .nd 1), (16, .nd 2)], objs := [(5, .cells [.nd 3, .sv 6 4] 38 true false), (6, .vec 4 138 false), (4, .cells [.i .u64 0, .nils] 38 true false)] },
  [(.exit 0, { np := 2, n := 32, gn := 3, next := 7, slots := [(2, .p 4 0), (3, .p 5 0)], objs := [(5, .cells [.nd 0, .sv 6 1] 38 true false), (6, .vec 1 138 false), (4, .cells [.i .u64 0, .nils] 38 true false)], al := [some 3, none] })]⟩
def s69 : LoopSpec := ⟨69, { np := 28, n := 116, gn := 3, next := 6, slots := [(2, .p 4 0), (6, .nd 0), (7, .mp 5), (44, .nd 0), (45, .nd 1), (46, .nd 2)], objs := [(5, .smap 3 none none), (4, .cells [.nd 4, .nd 5, .nd 6, .nd 7, .nd 8, .nd 9, .nd 10, .nd 11, .nd 12, .nd 13, .nd 14, .nd 15, .nd 16, .nd 17, .nd 18, .nd 19, .nd 20, .nd 21, .nd 22, .nd 23, .nd 24, .nd 25, .nd 26, .nd 27] 47 true false)] },
  [(.exit 0, { np := 26, n := 116, gn := 3, next := 6, slots := [(2, .p 4 0), (6, .nd 0), (7, .mp 5)], objs := [(5, .smap 1 none none), (4, .cells [.nd 2, .nd 3, .nd 4, .nd 5, .nd 6, .nd 7, .nd 8, .nd 9, .nd 10, .nd 11, .nd 12, .nd 13, .nd 14, .nd 15, .nd 16, .nd 17, .nd 18, .nd 19, .nd 20, .nd 21, .nd 22, .nd 23, .nd 24, .nd 25] 47 true false)], al := [some 0, none, some 4, some 5, some 6, some 7, some 8, some 9, some 10, some 11, some 12, some 13, some 14, some 15, some 16, some 17, some 18, some 19, some 20, some 21, some 22, some 23, some 24, some 25, some 26, some 27] })]⟩
def s50 : LoopSpec := ⟨50, { np := 6, n := 24, gn := 3, next := 6, slots := [(1, .nd 0), (11, .sv 5 1), (12, .nd 2), (13, .nd 3)], objs := [(4, .cells [.nd 4, .sv 5 1, .nd 5] 85 true false), (5, .vec 1 38 true)], ka := 1 },
  [(.ret, { np := 4, n := 24, gn := 3, next := 6, slots := [(4, .nd 0), (5, .b true)], objs := [(4, .cells [.nd 1, .sv 5 2, .nd 3] 85 true false), (5, .vec 2 38 true)], ka := 1, al := [none, some 4, some 1, some 5] }),
   (.exit 0, { np := 3, n := 24, gn := 3, next := 6, slots := [], objs := [(4, .cells [.nd 0, .sv 5 1, .nd 2] 85 true false), (5, .vec 1 38 true)], ka := 1, al := [some 4, some 1, some 5] })]⟩
def s71 : LoopSpec := ⟨71, { np := 29, n := 116, gn := 3, next := 6, slots := [(2, .p 4 0), (6, .nd 0), (7, .mp 5), (54, .nd 1), (55, .nd 2), (56, .nd 3)], objs := [(5, .smap 4 none none), (4, .cells [.nd 5, .nd 6, .nd 7, .nd 8, .nd 9, .nd 10, .nd 11, .nd 12, .nd 13, .nd 14, .nd 15, .nd 16, .nd 17, .nd 18, .nd 19, .nd 20, .nd 21, .nd 22, .nd 23, .nd 24, .nd 25, .nd 26, .nd 27, .nd 28] 47 true false)] },
  [(.ret, { np := 0, n := 116, gn := 3, next := 4, slots := [(4, .i .i64 26)], objs := [] }),
   (.exit 2, { np := 25, n := 116, gn := 3, next := 5, slots := [(2, .p 4 0), (6, .nd 0)], objs := [(4, .cells [.nd 1, .nd 2, .nd 3, .nd 4, .nd 5, .nd 6, .nd 7, .nd 8, .nd 9, .nd 10, .nd 11, .nd 12, .nd 13, .nd 14, .nd 15, .nd 16, .nd 17, .nd 18, .nd 19, .nd 20, .nd 21, .nd 22, .nd 23, .nd 24] 47 true false)], al := [some 0, some 5, some 6, some 7, some 8, some 9, some 10, some 11, some 12, some 13, some 14, some 15, some 16, some 17, some 18, some 19, some 20, some 21, some 22, some 23, some 24, some 25, some 26, some 27, some 28] })]⟩
def s12 : LoopSpec := ⟨12, { np := 4, n := 22, gn := 3, next := 6, slots := [(3, .p 4 0), (11, .nd 0), (12, .nd 1), (13, .nd 2)], objs := [(4, .cells [.p 4 0, .sv 5 3] 198 true false), (5, .vec 3 5 true)] },
  [(.exit 0, { np := 1, n := 22, gn := 3, next := 6, slots := [(3, .p 4 0)], objs := [(4, .cells [.p 4 0, .sv 5 0] 198 true false), (5, .vec 0 5 true)] })]⟩
def s43 : LoopSpec := ⟨43, { np := 4, n := 32, gn := 3, next := 4, slots := [(1, .nd 0), (2, .fn 75 [] []), (15, .nd 1), (16, .nd 2), (17, .nd 3)], objs := [] },
  [(.ret, { np := 0, n := 32, gn := 3, next := 4, slots := [(6, .b false)], objs := [] }),
   (.exit 0, { np := 0, n := 32, gn := 3, next := 4, slots := [], objs := [] })]⟩
def s30 : LoopSpec := ⟨30, { np := 3, n := 106, gn := 3, next := 5, slots := [(0, .nd 0), (1, .nd 1), (6, .sv 4 2)], objs := [(4, .vec 2 138 false)] },
  [(.ret, { np := 0, n := 106, gn := 3, next := 4, slots := [(4, .nils), (5, .i .i64 3)], objs := [] }),
   (.exit 0, { np := 1, n := 106, gn := 3, next := 5, slots := [(6, .sv 4 0)], objs := [(4, .vec 0 138 false)] })]⟩
def s61 : LoopSpec := ⟨61, { np := 5, n := 46, gn := 3, next := 5, slots := [(1, .nd 0), (7, .sv 4 1), (30, .nd 2), (31, .nd 3), (32, .nd 4)], objs := [(4, .vec 1 130 true)] },
  [(.exit 0, { np := 1, n := 46, gn := 3, next := 5, slots := [(7, .sv 4 0)], objs := [(4, .vec 0 130 true)] })]⟩
def s4 : LoopSpec := ⟨4, { np := 3, n := 37, gn := 3, next := 4, slots := [(0, .nd 0), (5, .nd 0), (6, .nd 1), (7, .nd 2)], objs := [] },
  [(.ret, { np := 0, n := 37, gn := 3, next := 4, slots := [(2, .b false)], objs := [] }),
   (.exit 0, { np := 1, n := 37, gn := 3, next := 4, slots := [(0, .nd 0)], objs := [], al := [some 0] })]⟩
def s11 : LoopSpec := ⟨11, { np := 4, n := 33, gn := 3, next := 5, slots := [(0, .nd 0), (3, .sv 4 1), (9, .nd 2), (10, .nd 3)], objs := [(4, .vec 1 5 false)] },
  [(.exit 0, { np := 1, n := 33, gn := 3, next := 5, slots := [(3, .sv 4 0)], objs := [(4, .vec 0 5 false)] })]⟩
def s6 : LoopSpec := ⟨6, { np := 3, n := 23, gn := 3, next := 4, slots := [(0, .nd 0), (5, .nd 0), (6, .nd 1), (7, .nd 2)], objs := [] },
  [(.ret, { np := 0, n := 23, gn := 3, next := 4, slots := [(2, .b false)], objs := [] }),
   (.exit 0, { np := 1, n := 23, gn := 3, next := 4, slots := [(0, .nd 0)], objs := [], al := [some 0] })]⟩
def s105 : LoopSpec := ⟨105, { np := 5, n := 80, gn := 3, next := 6, slots := [(0, .p 4 0), (1, .agg [.nd 0, .nd 1])], objs := [(4, .cells [.nd 2, .sv 5 3, .nd 4] 85 true false), (5, .vec 3 38 true)], ka := 1 },
  [(.ret, { np := 4, n := 1, gn := 3, next := 6, slots := [(0, .nd 0)], objs := [(4, .cells [.nd 1, .sv 5 2, .nd 3] 85 true false), (5, .vec 2 38 true)], ka := 1, al := [none, some 2, none, none] })]⟩
def s104 : LoopSpec := ⟨104, { np := 8, n := 35, gn := 3, next := 6, slots := [(0, .p 4 0), (1, .agg [.nd 0, .nd 1, .nd 2, .nd 3, .nd 4])], objs := [(4, .cells [.nd 5, .sv 5 6, .nd 7] 85 true false), (5, .vec 6 38 true)], ka := 1 },
  [(.ret, { np := 5, n := 1, gn := 3, next := 6, slots := [(0, .agg [.nd 0, .nd 1])], objs := [(4, .cells [.nd 2, .sv 5 3, .nd 4] 85 true false), (5, .vec 3 38 true)], ka := 1, al := [none, none, some 5, some 6, some 7] })]⟩
def s103 : LoopSpec := ⟨103, { np := 8, n := 8, gn := 3, next := 6, slots := [(0, .agg [.nd 0, .nd 1, .nd 2, .nd 3, .nd 4]), (1, .p 4 0)], objs := [(4, .cells [.nd 5, .sv 5 6, .nd 7] 85 true false), (5, .vec 6 38 true)], ka := 1 },
  [(.ret, { np := 5, n := 1, gn := 3, next := 6, slots := [(0, .agg [.nd 0, .nd 1])], objs := [(4, .cells [.nd 2, .sv 5 3, .nd 4] 85 true false), (5, .vec 3 38 true)], ka := 1, al := [none, none, some 5, some 6, some 7] })]⟩
def s102 : LoopSpec := ⟨102, { np := 4, n := 32, gn := 3, next := 6, slots := [(0, .p 4 0), (1, .nd 0)], objs := [(4, .cells [.nd 1, .sv 5 2, .nd 3] 85 true false), (5, .vec 2 38 true)], ka := 1 },
  [(.ret, { np := 4, n := 1, gn := 3, next := 6, slots := [(0, .nd 0)], objs := [(4, .cells [.nd 1, .sv 5 2, .nd 3] 85 true false), (5, .vec 2 38 true)], ka := 1, al := [none, some 1, none, none] })]⟩
def s101 : LoopSpec := ⟨101, { np := 27, n := 16, gn := 3, next := 6, slots := [(0, .p 4 0), (1, .agg [.nd 0, .nd 1, .nd 2, .nd 3, .nd 4, .nd 5, .nd 6, .nd 7, .nd 8, .nd 9, .nd 10, .nd 11, .nd 12, .nd 13, .nd 14, .nd 15, .nd 16, .nd 17, .nd 18, .nd 19, .nd 20, .nd 21, .nd 22, .nd 23])], objs := [(4, .cells [.nd 24, .sv 5 25, .nd 26] 85 true false), (5, .vec 25 38 true)], ka := 1 },
  [(.ret, { np := 3, n := 0, gn := 3, next := 6, slots := [], objs := [(4, .cells [.nd 0, .sv 5 1, .nd 2] 85 true false), (5, .vec 1 38 true)], ka := 1, al := [some 24, none, none] })]⟩
def s95 : LoopSpec := ⟨95, { np := 0, n := 33, gn := 3, next := 4, slots := [(0, .nili)], objs := [] },
  [(.ret, { np := 0, n := 1, gn := 3, next := 4, slots := [(0, .i .i64 0)], objs := [] })]⟩
def s94 : LoopSpec := ⟨94, { np := 24, n := 33, gn := 3, next := 5, slots := [(0, .ifc 186 (.p 4 15))], objs := [(4, .cells [.nd 0, .nd 1, .nd 2, .nd 3, .nd 4, .nd 5, .nd 6, .nd 7, .nd 8, .nd 9, .nd 10, .nd 11, .nd 12, .nd 13, .nd 14, .nd 15, .nd 16, .nd 17, .nd 18, .nd 19, .nd 20, .nd 21, .nd 22, .nd 23] 47 true false)], ka := 1 },
  [(.ret, { np := 24, n := 1, gn := 3, next := 5, slots := [(0, .i .i64 0)], objs := [(4, .cells [.nd 0, .nd 1, .nd 2, .nd 3, .nd 4, .nd 5, .nd 6, .nd 7, .nd 8, .nd 9, .nd 10, .nd 11, .nd 12, .nd 13, .nd 14, .nd 15, .nd 16, .nd 17, .nd 18, .nd 19, .nd 20, .nd 21, .nd 22, .nd 23] 47 true false)], ka := 1, al := [some 0, some 1, some 2, some 3, some 4, some 5, some 6, some 7, some 8, some 9, some 10, some 11, some 12, some 13, some 14, some 15, some 16, some 17, some 18, some 19, some 20, some 21, some 22, some 23] })]⟩
def s93 : LoopSpec := ⟨93, { np := 24, n := 33, gn := 3, next := 5, slots := [(0, .ifc 186 (.p 4 14))], objs := [(4, .cells [.nd 0, .nd 1, .nd 2, .nd 3, .nd 4, .nd 5, .nd 6, .nd 7, .nd 8, .nd 9, .nd 10, .nd 11, .nd 12, .nd 13, .nd 14, .nd 15, .nd 16, .nd 17, .nd 18, .nd 19, .nd 20, .nd 21, .nd 22, .nd 23] 47 true false)], ka := 1 },
  [(.ret, { np := 24, n := 1, gn := 3, next := 5, slots := [(0, .i .i64 0)], objs := [(4, .cells [.nd 0, .nd 1, .nd 2, .nd 3, .nd 4, .nd 5, .nd 6, .nd 7, .nd 8, .nd 9, .nd 10, .nd 11, .nd 12, .nd 13, .nd 14, .nd 15, .nd 16, .nd 17, .nd 18, .nd 19, .nd 20, .nd 21, .nd 22, .nd 23] 47 true false)], ka := 1, al := [some 0, some 1, some 2, some 3, some 4, some 5, some 6, some 7, some 8, some 9, some 10, some 11, some 12, some 13, some 14, some 15, some 16, some 17, some 18, some 19, some 20, some 21, some 22, some 23] })]⟩
def s92 : LoopSpec := ⟨92, { np := 24, n := 33, gn := 3, next := 5, slots := [(0, .ifc 186 (.p 4 13))], objs := [(4, .cells [.nd 0, .nd 1, .nd 2, .nd 3, .nd 4, .nd 5, .nd 6, .nd 7, .nd 8, .nd 9, .nd 10, .nd 11, .nd 12, .nd 13, .nd 14, .nd 15, .nd 16, .nd 17, .nd 18, .nd 19, .nd 20, .nd 21, .nd 22, .nd 23] 47 true false)], ka := 1 },
  [(.ret, { np := 24, n := 1, gn := 3, next := 5, slots := [(0, .i .i64 0)], objs := [(4, .cells [.nd 0, .nd 1, .nd 2, .nd 3, .nd 4, .nd 5, .nd 6, .nd 7, .nd 8, .nd 9, .nd 10, .nd 11, .nd 12, .nd 13, .nd 14, .nd 15, .nd 16, .nd 17, .nd 18, .nd 19, .nd 20, .nd 21, .nd 22, .nd 23] 47 true false)], ka := 1, al := [some 0, some 1, some 2, some 3, some 4, some 5, some 6, some 7, some 8, some 9, some 10, some 11, some 12, some 13, some 14, some 15, some 16, some 17, some 18, some 19, some 20, some 21, some 22, some 23] })]⟩
def s91 : LoopSpec := ⟨91, { np := 24, n := 33, gn := 3, next := 5, slots := [(0, .ifc 186 (.p 4 12))], objs := [(4, .cells [.nd 0, .nd 1, .nd 2, .nd 3, .nd 4, .nd 5, .nd 6, .nd 7, .nd 8, .nd 9, .nd 10, .nd 11, .nd 12, .nd 13, .nd 14, .nd 15, .nd 16, .nd 17, .nd 18, .nd 19, .nd 20, .nd 21, .nd 22, .nd 23] 47 true false)], ka := 1 },
  [(.ret, { np := 24, n := 1, gn := 3, next := 5, slots := [(0, .i .i64 0)], objs := [(4, .cells [.nd 0, .nd 1, .nd 2, .nd 3, .nd 4, .nd 5, .nd 6, .nd 7, .nd 8, .nd 9, .nd 10, .nd 11, .nd 12, .nd 13, .nd 14, .nd 15, .nd 16, .nd 17, .nd 18, .nd 19, .nd 20, .nd 21, .nd 22, .nd 23] 47 true false)], ka := 1, al := [some 0, some 1, some 2, some 3, some 4, some 5, some 6, some 7, some 8, some 9, some 10, some 11, some 12, some 13, some 14, some 15, some 16, some 17, some 18, some 19, some 20, some 21, some 22, some 23] })]⟩
def s90 : LoopSpec := ⟨90, { np := 24, n := 33, gn := 3, next := 5, slots := [(0, .ifc 186 (.p 4 11))], objs := [(4, .cells [.nd 0, .nd 1, .nd 2, .nd 3, .nd 4, .nd 5, .nd 6, .nd 7, .nd 8, .nd 9, .nd 10, .nd 11, .nd 12, .nd 13, .nd 14, .nd 15, .nd 16, .nd 17, .nd 18, .nd 19, .nd 20, .nd 21, .nd 22, .nd 23] 47 true false)], ka := 1 },
  [(.ret, { np := 24, n := 1, gn := 3, next := 5, slots := [(0, .i .i64 0)], objs := [(4, .cells [.nd 0, .nd 1, .nd 2, .nd 3, .nd 4, .nd 5, .nd 6, .nd 7, .nd 8, .nd 9, .nd 10, .nd 11, .nd 12, .nd 13, .nd 14, .nd 15, .nd 16, .nd 17, .nd 18, .nd 19, .nd 20, .nd 21, .nd 22, .nd 23] 47 true false)], ka := 1, al := [some 0, some 1, some 2, some 3, some 4, some 5, some 6, some 7, some 8, some 9, some 10, some 11, some 12, some 13, some 14, some 15, some 16, some 17, some 18, some 19, some 20, some 21, some 22, some 23] })]⟩
def s89 : LoopSpec := ⟨89, { np := 24, n := 33, gn := 3, next := 5, slots := [(0, .ifc 186 (.p 4 10))], objs := [(4, .cells [.nd 0, .nd 1, .nd 2, .nd 3, .nd 4, .nd 5, .nd 6, .nd 7, .nd 8, .nd 9, .nd 10, .nd 11, .nd 12, .nd 13, .nd 14, .nd 15, .nd 16, .nd 17, .nd 18, .nd 19, .nd 20, .nd 21, .nd 22, .nd 23] 47 true false)], ka := 1 },
  [(.ret, { np := 24, n := 1, gn := 3, next := 5, slots := [(0, .i .i64 0)], objs := [(4, .cells [.nd 0, .nd 1, .nd 2, .nd 3, .nd 4, .nd 5, .nd 6, .nd 7, .nd 8, .nd 9, .nd 10, .nd 11, .nd 12, .nd 13, .nd 14, .nd 15, .nd 16, .nd 17, .nd 18, .nd 19, .nd 20, .nd 21, .nd 22, .nd 23] 47 true false)], ka := 1, al := [some 0, some 1, some 2, some 3, some 4, some 5, some 6, some 7, some 8, some 9, some 10, some 11, some 12, some 13, some 14, some 15, some 16, some 17, some 18, some 19, some 20, some 21, some 22, some 23] })]⟩
def s88 : LoopSpec := ⟨88, { np := 24, n := 33, gn := 3, next := 5, slots := [(0, .ifc 186 (.p 4 9))], objs := [(4, .cells [.nd 0, .nd 1, .nd 2, .nd 3, .nd 4, .nd 5, .nd 6, .nd 7, .nd 8, .nd 9, .nd 10, .nd 11, .nd 12, .nd 13, .nd 14, .nd 15, .nd 16, .nd 17, .nd 18, .nd 19, .nd 20, .nd 21, .nd 22, .nd 23] 47 true false)], ka := 1 },
  [(.ret, { np := 24, n := 1, gn := 3, next := 5, slots := [(0, .i .i64 0)], objs := [(4, .cells [.nd 0, .nd 1, .nd 2, .nd 3, .nd 4, .nd 5, .nd 6, .nd 7, .nd 8, .nd 9, .nd 10, .nd 11, .nd 12, .nd 13, .nd 14, .nd 15, .nd 16, .nd 17, .nd 18, .nd 19, .nd 20, .nd 21, .nd 22, .nd 23] 47 true false)], ka := 1, al := [some 0, some 1, some 2, some 3, some 4, some 5, some 6, some 7, some 8, some 9, some 10, some 11, some 12, some 13, some 14, some 15, some 16, some 17, some 18, some 19, some 20, some 21, some 22, some 23] })]⟩
def s87 : LoopSpec := ⟨87, { np := 24, n := 33, gn := 3, next := 5, slots := [(0, .ifc 186 (.p 4 8))], objs := [(4, .cells [.nd 0, .nd 1, .nd 2, .nd 3, .nd 4, .nd 5, .nd 6, .nd 7, .nd 8, .nd 9, .nd 10, .nd 11, .nd 12, .nd 13, .nd 14, .nd 15, .nd 16, .nd 17, .nd 18, .nd 19, .nd 20, .nd 21, .nd 22, .nd 23] 47 true false)], ka := 1 },
  [(.ret, { np := 24, n := 1, gn := 3, next := 5, slots := [(0, .i .i64 0)], objs := [(4, .cells [.nd 0, .nd 1, .nd 2, .nd 3, .nd 4, .nd 5, .nd 6, .nd 7, .nd 8, .nd 9, .nd 10, .nd 11, .nd 12, .nd 13, .nd 14, .nd 15, .nd 16, .nd 17, .nd 18, .nd 19, .nd 20, .nd 21, .nd 22, .nd 23] 47 true false)], ka := 1, al := [some 0, some 1, some 2, some 3, some 4, some 5, some 6, some 7, some 8, some 9, some 10, some 11, some 12, some 13, some 14, some 15, some 16, some 17, some 18, some 19, some 20, some 21, some 22, some 23] })]⟩
def s86 : LoopSpec := ⟨86, { np := 24, n := 33, gn := 3, next := 5, slots := [(0, .ifc 186 (.p 4 7))], objs := [(4, .cells [.nd 0, .nd 1, .nd 2, .nd 3, .nd 4, .nd 5, .nd 6, .nd 7, .nd 8, .nd 9, .nd 10, .nd 11, .nd 12, .nd 13, .nd 14, .nd 15, .nd 16, .nd 17, .nd 18, .nd 19, .nd 20, .nd 21, .nd 22, .nd 23] 47 true false)], ka := 1 },
  [(.ret, { np := 24, n := 1, gn := 3, next := 5, slots := [(0, .i .i64 0)], objs := [(4, .cells [.nd 0, .nd 1, .nd 2, .nd 3, .nd 4, .nd 5, .nd 6, .nd 7, .nd 8, .nd 9, .nd 10, .nd 11, .nd 12, .nd 13, .nd 14, .nd 15, .nd 16, .nd 17, .nd 18, .nd 19, .nd 20, .nd 21, .nd 22, .nd 23] 47 true false)], ka := 1, al := [some 0, some 1, some 2, some 3, some 4, some 5, some 6, some 7, some 8, some 9, some 10, some 11, some 12, some 13, some 14, some 15, some 16, some 17, some 18, some 19, some 20, some 21, some 22, some 23] })]⟩
def s85 : LoopSpec := ⟨85, { np := 24, n := 33, gn := 3, next := 5, slots := [(0, .ifc 186 (.p 4 6))], objs := [(4, .cells [.nd 0, .nd 1, .nd 2, .nd 3, .nd 4, .nd 5, .nd 6, .nd 7, .nd 8, .nd 9, .nd 10, .nd 11, .nd 12, .nd 13, .nd 14, .nd 15, .nd 16, .nd 17, .nd 18, .nd 19, .nd 20, .nd 21, .nd 22, .nd 23] 47 true false)], ka := 1 },
  [(.ret, { np := 24, n := 1, gn := 3, next := 5, slots := [(0, .i .i64 0)], objs := [(4, .cells [.nd 0, .nd 1, .nd 2, .nd 3, .nd 4, .nd 5, .nd 6, .nd 7, .nd 8, .nd 9, .nd 10, .nd 11, .nd 12, .nd 13, .nd 14, .nd 15, .nd 16, .nd 17, .nd 18, .nd 19, .nd 20, .nd 21, .nd 22, .nd 23] 47 true false)], ka := 1, al := [some 0, some 1, some 2, some 3, some 4, some 5, some 6, some 7, some 8, some 9, some 10, some 11, some 12, some 13, some 14, some 15, some 16, some 17, some 18, some 19, some 20, some 21, some 22, some 23] })]⟩
def s84 : LoopSpec := ⟨84, { np := 24, n := 33, gn := 3, next := 5, slots := [(0, .ifc 186 (.p 4 5))], objs := [(4, .cells [.nd 0, .nd 1, .nd 2, .nd 3, .nd 4, .nd 5, .nd 6, .nd 7, .nd 8, .nd 9, .nd 10, .nd 11, .nd 12, .nd 13, .nd 14, .nd 15, .nd 16, .nd 17, .nd 18, .nd 19, .nd 20, .nd 21, .nd 22, .nd 23] 47 true false)], ka := 1 },
  [(.ret, { np := 24, n := 1, gn := 3, next := 5, slots := [(0, .i .i64 0)], objs := [(4, .cells [.nd 0, .nd 1, .nd 2, .nd 3, .nd 4, .nd 5, .nd 6, .nd 7, .nd 8, .nd 9, .nd 10, .nd 11, .nd 12, .nd 13, .nd 14, .nd 15, .nd 16, .nd 17, .nd 18, .nd 19, .nd 20, .nd 21, .nd 22, .nd 23] 47 true false)], ka := 1, al := [some 0, some 1, some 2, some 3, some 4, some 5, some 6, some 7, some 8, some 9, some 10, some 11, some 12, some 13, some 14, some 15, some 16, some 17, some 18, some 19, some 20, some 21, some 22, some 23] })]⟩
def s83 : LoopSpec := ⟨83, { np := 24, n := 33, gn := 3, next := 5, slots := [(0, .ifc 186 (.p 4 4))], objs := [(4, .cells [.nd 0, .nd 1, .nd 2, .nd 3, .nd 4, .nd 5, .nd 6, .nd 7, .nd 8, .nd 9, .nd 10, .nd 11, .nd 12, .nd 13, .nd 14, .nd 15, .nd 16, .nd 17, .nd 18, .nd 19, .nd 20, .nd 21, .nd 22, .nd 23] 47 true false)], ka := 1 },
  [(.ret, { np := 24, n := 1, gn := 3, next := 5, slots := [(0, .i .i64 0)], objs := [(4, .cells [.nd 0, .nd 1, .nd 2, .nd 3, .nd 4, .nd 5, .nd 6, .nd 7, .nd 8, .nd 9, .nd 10, .nd 11, .nd 12, .nd 13, .nd 14, .nd 15, .nd 16, .nd 17, .nd 18, .nd 19, .nd 20, .nd 21, .nd 22, .nd 23] 47 true false)], ka := 1, al := [some 0, some 1, some 2, some 3, some 4, some 5, some 6, some 7, some 8, some 9, some 10, some 11, some 12, some 13, some 14, some 15, some 16, some 17, some 18, some 19, some 20, some 21, some 22, some 23] })]⟩
def s82 : LoopSpec := ⟨82, { np := 24, n := 33, gn := 3, next := 5, slots := [(0, .ifc 186 (.p 4 3))], objs := [(4, .cells [.nd 0, .nd 1, .nd 2, .nd 3, .nd 4, .nd 5, .nd 6, .nd 7, .nd 8, .nd 9, .nd 10, .nd 11, .nd 12, .nd 13, .nd 14, .nd 15, .nd 16, .nd 17, .nd 18, .nd 19, .nd 20, .nd 21, .nd 22, .nd 23] 47 true false)], ka := 1 },
  [(.ret, { np := 24, n := 1, gn := 3, next := 5, slots := [(0, .i .i64 0)], objs := [(4, .cells [.nd 0, .nd 1, .nd 2, .nd 3, .nd 4, .nd 5, .nd 6, .nd 7, .nd 8, .nd 9, .nd 10, .nd 11, .nd 12, .nd 13, .nd 14, .nd 15, .nd 16, .nd 17, .nd 18, .nd 19, .nd 20, .nd 21, .nd 22, .nd 23] 47 true false)], ka := 1, al := [some 0, some 1, some 2, some 3, some 4, some 5, some 6, some 7, some 8, some 9, some 10, some 11, some 12, some 13, some 14, some 15, some 16, some 17, some 18, some 19, some 20, some 21, some 22, some 23] })]⟩
def s81 : LoopSpec := ⟨81, { np := 24, n := 33, gn := 3, next := 5, slots := [(0, .ifc 186 (.p 4 2))], objs := [(4, .cells [.nd 0, .nd 1, .nd 2, .nd 3, .nd 4, .nd 5, .nd 6, .nd 7, .nd 8, .nd 9, .nd 10, .nd 11, .nd 12, .nd 13, .nd 14, .nd 15, .nd 16, .nd 17, .nd 18, .nd 19, .nd 20, .nd 21, .nd 22, .nd 23] 47 true false)], ka := 1 },
  [(.ret, { np := 24, n := 1, gn := 3, next := 5, slots := [(0, .i .i64 0)], objs := [(4, .cells [.nd 0, .nd 1, .nd 2, .nd 3, .nd 4, .nd 5, .nd 6, .nd 7, .nd 8, .nd 9, .nd 10, .nd 11, .nd 12, .nd 13, .nd 14, .nd 15, .nd 16, .nd 17, .nd 18, .nd 19, .nd 20, .nd 21, .nd 22, .nd 23] 47 true false)], ka := 1, al := [some 0, some 1, some 2, some 3, some 4, some 5, some 6, some 7, some 8, some 9, some 10, some 11, some 12, some 13, some 14, some 15, some 16, some 17, some 18, some 19, some 20, some 21, some 22, some 23] })]⟩
def s80 : LoopSpec := ⟨80, { np := 24, n := 33, gn := 3, next := 5, slots := [(0, .ifc 186 (.p 4 1))], objs := [(4, .cells [.nd 0, .nd 1, .nd 2, .nd 3, .nd 4, .nd 5, .nd 6, .nd 7, .nd 8, .nd 9, .nd 10, .nd 11, .nd 12, .nd 13, .nd 14, .nd 15, .nd 16, .nd 17, .nd 18, .nd 19, .nd 20, .nd 21, .nd 22, .nd 23] 47 true false)], ka := 1 },
  [(.ret, { np := 24, n := 1, gn := 3, next := 5, slots := [(0, .i .i64 0)], objs := [(4, .cells [.nd 0, .nd 1, .nd 2, .nd 3, .nd 4, .nd 5, .nd 6, .nd 7, .nd 8, .nd 9, .nd 10, .nd 11, .nd 12, .nd 13, .nd 14, .nd 15, .nd 16, .nd 17, .nd 18, .nd 19, .nd 20, .nd 21, .nd 22, .nd 23] 47 true false)], ka := 1, al := [some 0, some 1, some 2, some 3, some 4, some 5, some 6, some 7, some 8, some 9, some 10, some 11, some 12, some 13, some 14, some 15, some 16, some 17, some 18, some 19, some 20, some 21, some 22, some 23] })]⟩
def s79 : LoopSpec := ⟨79, { np := 24, n := 33, gn := 3, next := 5, slots := [(0, .ifc 191 (.p 4 22))], objs := [(4, .cells [.nd 0, .nd 1, .nd 2, .nd 3, .nd 4, .nd 5, .nd 6, .nd 7, .nd 8, .nd 9, .nd 10, .nd 11, .nd 12, .nd 13, .nd 14, .nd 15, .nd 16, .nd 17, .nd 18, .nd 19, .nd 20, .nd 21, .nd 22, .nd 23] 47 true false)], ka := 1 },
  [(.ret, { np := 25, n := 1, gn := 3, next := 5, slots := [(0, .nd 0)], objs := [(4, .cells [.nd 1, .nd 2, .nd 3, .nd 4, .nd 5, .nd 6, .nd 7, .nd 8, .nd 9, .nd 10, .nd 11, .nd 12, .nd 13, .nd 14, .nd 15, .nd 16, .nd 17, .nd 18, .nd 19, .nd 20, .nd 21, .nd 22, .nd 23, .nd 24] 47 true false)], ka := 1, al := [none, some 0, some 1, some 2, some 3, some 4, some 5, some 6, some 7, some 8, some 9, some 10, some 11, some 12, some 13, some 14, some 15, some 16, some 17, some 18, some 19, some 20, some 21, some 22, some 23] })]⟩
def s78 : LoopSpec := ⟨78, { np := 24, n := 33, gn := 3, next := 5, slots := [(0, .ifc 190 (.p 4 21))], objs := [(4, .cells [.nd 0, .nd 1, .nd 2, .nd 3, .nd 4, .nd 5, .nd 6, .nd 7, .nd 8, .nd 9, .nd 10, .nd 11, .nd 12, .nd 13, .nd 14, .nd 15, .nd 16, .nd 17, .nd 18, .nd 19, .nd 20, .nd 21, .nd 22, .nd 23] 47 true false)], ka := 1 },
  [(.ret, { np := 25, n := 1, gn := 3, next := 5, slots := [(0, .nd 0)], objs := [(4, .cells [.nd 1, .nd 2, .nd 3, .nd 4, .nd 5, .nd 6, .nd 7, .nd 8, .nd 9, .nd 10, .nd 11, .nd 12, .nd 13, .nd 14, .nd 15, .nd 16, .nd 17, .nd 18, .nd 19, .nd 20, .nd 21, .nd 22, .nd 23, .nd 24] 47 true false)], ka := 1, al := [none, some 0, some 1, some 2, some 3, some 4, some 5, some 6, some 7, some 8, some 9, some 10, some 11, some 12, some 13, some 14, some 15, some 16, some 17, some 18, some 19, some 20, some 21, some 22, some 23] })]⟩
def s77 : LoopSpec := ⟨77, { np := 24, n := 33, gn := 3, next := 5, slots := [(0, .ifc 189 (.p 4 20))], objs := [(4, .cells [.nd 0, .nd 1, .nd 2, .nd 3, .nd 4, .nd 5, .nd 6, .nd 7, .nd 8, .nd 9, .nd 10, .nd 11, .nd 12, .nd 13, .nd 14, .nd 15, .nd 16, .nd 17, .nd 18, .nd 19, .nd 20, .nd 21, .nd 22, .nd 23] 47 true false)], ka := 1 },
  [(.ret, { np := 25, n := 1, gn := 3, next := 5, slots := [(0, .nd 0)], objs := [(4, .cells [.nd 1, .nd 2, .nd 3, .nd 4, .nd 5, .nd 6, .nd 7, .nd 8, .nd 9, .nd 10, .nd 11, .nd 12, .nd 13, .nd 14, .nd 15, .nd 16, .nd 17, .nd 18, .nd 19, .nd 20, .nd 21, .nd 22, .nd 23, .nd 24] 47 true false)], ka := 1, al := [none, some 0, some 1, some 2, some 3, some 4, some 5, some 6, some 7, some 8, some 9, some 10, some 11, some 12, some 13, some 14, some 15, some 16, some 17, some 18, some 19, some 20, some 21, some 22, some 23] })]⟩
def s76 : LoopSpec := ⟨76, { np := 24, n := 33, gn := 3, next := 5, slots := [(0, .ifc 189 (.p 4 19))], objs := [(4, .cells [.nd 0, .nd 1, .nd 2, .nd 3, .nd 4, .nd 5, .nd 6, .nd 7, .nd 8, .nd 9, .nd 10, .nd 11, .nd 12, .nd 13, .nd 14, .nd 15, .nd 16, .nd 17, .nd 18, .nd 19, .nd 20, .nd 21, .nd 22, .nd 23] 47 true false)], ka := 1 },
  [(.ret, { np := 25, n := 1, gn := 3, next := 5, slots := [(0, .nd 0)], objs := [(4, .cells [.nd 1, .nd 2, .nd 3, .nd 4, .nd 5, .nd 6, .nd 7, .nd 8, .nd 9, .nd 10, .nd 11, .nd 12, .nd 13, .nd 14, .nd 15, .nd 16, .nd 17, .nd 18, .nd 19, .nd 20, .nd 21, .nd 22, .nd 23, .nd 24] 47 true false)], ka := 1, al := [none, some 0, some 1, some 2, some 3, some 4, some 5, some 6, some 7, some 8, some 9, some 10, some 11, some 12, some 13, some 14, some 15, some 16, some 17, some 18, some 19, some 20, some 21, some 22, some 23] })]⟩
def s75 : LoopSpec := ⟨75, { np := 24, n := 33, gn := 3, next := 5, slots := [(0, .ifc 189 (.p 4 18))], objs := [(4, .cells [.nd 0, .nd 1, .nd 2, .nd 3, .nd 4, .nd 5, .nd 6, .nd 7, .nd 8, .nd 9, .nd 10, .nd 11, .nd 12, .nd 13, .nd 14, .nd 15, .nd 16, .nd 17, .nd 18, .nd 19, .nd 20, .nd 21, .nd 22, .nd 23] 47 true false)], ka := 1 },
  [(.ret, { np := 25, n := 1, gn := 3, next := 5, slots := [(0, .nd 0)], objs := [(4, .cells [.nd 1, .nd 2, .nd 3, .nd 4, .nd 5, .nd 6, .nd 7, .nd 8, .nd 9, .nd 10, .nd 11, .nd 12, .nd 13, .nd 14, .nd 15, .nd 16, .nd 17, .nd 18, .nd 19, .nd 20, .nd 21, .nd 22, .nd 23, .nd 24] 47 true false)], ka := 1, al := [none, some 0, some 1, some 2, some 3, some 4, some 5, some 6, some 7, some 8, some 9, some 10, some 11, some 12, some 13, some 14, some 15, some 16, some 17, some 18, some 19, some 20, some 21, some 22, some 23] })]⟩
def s74 : LoopSpec := ⟨74, { np := 24, n := 33, gn := 3, next := 5, slots := [(0, .ifc 187 (.p 4 17))], objs := [(4, .cells [.nd 0, .nd 1, .nd 2, .nd 3, .nd 4, .nd 5, .nd 6, .nd 7, .nd 8, .nd 9, .nd 10, .nd 11, .nd 12, .nd 13, .nd 14, .nd 15, .nd 16, .nd 17, .nd 18, .nd 19, .nd 20, .nd 21, .nd 22, .nd 23] 47 true false)], ka := 1 },
  [(.ret, { np := 24, n := 1, gn := 3, next := 5, slots := [(0, .i .i64 0)], objs := [(4, .cells [.nd 0, .nd 1, .nd 2, .nd 3, .nd 4, .nd 5, .nd 6, .nd 7, .nd 8, .nd 9, .nd 10, .nd 11, .nd 12, .nd 13, .nd 14, .nd 15, .nd 16, .nd 17, .nd 18, .nd 19, .nd 20, .nd 21, .nd 22, .nd 23] 47 true false)], ka := 1, al := [some 0, some 1, some 2, some 3, some 4, some 5, some 6, some 7, some 8, some 9, some 10, some 11, some 12, some 13, some 14, some 15, some 16, some 17, some 18, some 19, some 20, some 21, some 22, some 23] })]⟩
def s73 : LoopSpec := ⟨73, { np := 24, n := 33, gn := 3, next := 5, slots := [(0, .ifc 188 (.p 4 16))], objs := [(4, .cells [.nd 0, .nd 1, .nd 2, .nd 3, .nd 4, .nd 5, .nd 6, .nd 7, .nd 8, .nd 9, .nd 10, .nd 11, .nd 12, .nd 13, .nd 14, .nd 15, .nd 16, .nd 17, .nd 18, .nd 19, .nd 20, .nd 21, .nd 22, .nd 23] 47 true false)], ka := 1 },
  [(.ret, { np := 24, n := 1, gn := 3, next := 5, slots := [(0, .i .i64 0)], objs := [(4, .cells [.nd 0, .nd 1, .nd 2, .nd 3, .nd 4, .nd 5, .nd 6, .nd 7, .nd 8, .nd 9, .nd 10, .nd 11, .nd 12, .nd 13, .nd 14, .nd 15, .nd 16, .nd 17, .nd 18, .nd 19, .nd 20, .nd 21, .nd 22, .nd 23] 47 true false)], ka := 1, al := [some 0, some 1, some 2, some 3, some 4, some 5, some 6, some 7, some 8, some 9, some 10, some 11, some 12, some 13, some 14, some 15, some 16, some 17, some 18, some 19, some 20, some 21, some 22, some 23] })]⟩
def s56 : LoopSpec := ⟨56, { np := 28, n := 97, gn := 3, next := 5, slots := [(0, .p 4 0), (1, .agg [.nd 0, .nd 1, .nd 2, .nd 3, .nd 4, .nd 5, .nd 6, .nd 7, .nd 8, .nd 9, .nd 10, .nd 11, .nd 12, .nd 13, .nd 14, .nd 15, .nd 16, .nd 17, .nd 18, .nd 19, .nd 20, .nd 21, .nd 22, .nd 23])], objs := [(4, .cells [.nd 24, .nd 25, .nd 26, .nd 27] 87 true false)], ka := 1 },
  [(.ret, { np := 9, n := 2, gn := 3, next := 5, slots := [(0, .agg [.nd 0, .i .u64 0, .i .u64 0, .i .u64 0, .i .u64 0, .i .u64 0, .i .u64 0, .i .u64 0, .i .u64 0, .i .u64 0, .nd 1, .i .u64 0, .i .u64 0, .i .u64 0, .nd 2, .nd 3, .i .i64 0, .b false, .s [], .s [], .s [], .nils, .nils, .nils]), (1, .nd 4)], objs := [(4, .cells [.nd 5, .nd 6, .nd 7, .nd 8] 87 true false)], ka := 1, al := [none, none, none, none, none, some 24, none, none, none] })]⟩
def s49 : LoopSpec := ⟨49, { np := 4, n := 24, gn := 3, next := 6, slots := [(0, .p 4 0), (1, .nd 0)], objs := [(4, .cells [.nd 1, .sv 5 2, .nd 3] 85 true false), (5, .vec 2 38 true)], ka := 1 },
  [(.ret, { np := 5, n := 2, gn := 3, next := 6, slots := [(0, .nd 0), (1, .nd 1)], objs := [(4, .cells [.nd 2, .sv 5 3, .nd 4] 85 true false), (5, .vec 3 38 true)], ka := 1, al := [none, none, some 1, some 2, some 3] })]⟩
def s48 : LoopSpec := ⟨48, { np := 3, n := 28, gn := 3, next := 6, slots := [(0, .p 4 0)], objs := [(4, .cells [.nd 0, .sv 5 1, .nd 2] 85 true false), (5, .vec 1 38 true)], ka := 1 },
  [(.ret, { np := 6, n := 2, gn := 3, next := 6, slots := [(0, .agg [.nd 0, .nd 1]), (1, .nd 2)], objs := [(4, .cells [.nd 3, .sv 5 4, .nd 5] 85 true false), (5, .vec 4 38 true)], ka := 1, al := [none, none, none, some 0, some 1, some 2] })]⟩
def s47 : LoopSpec := ⟨47, { np := 3, n := 75, gn := 3, next := 6, slots := [(0, .p 4 0)], objs := [(4, .cells [.nd 0, .sv 5 1, .nd 2] 85 true false), (5, .vec 1 38 true)], ka := 1 },
  [(.ret, { np := 8, n := 2, gn := 3, next := 6, slots := [(0, .agg [.nd 0, .i .u64 0, .i .u64 0, .i .u64 0, .i .u64 0, .i .u64 0, .i .u64 0, .i .u64 0, .i .u64 0, .i .u64 0, .nd 1, .nd 2, .i .u64 0, .i .u64 0, .i .u64 0, .i .u64 0, .i .i64 0, .b false, .s [], .s [], .s [], .nils, .nd 3, .nils]), (1, .nd 4)], objs := [(4, .cells [.nd 5, .sv 5 6, .nd 7] 85 true false), (5, .vec 6 38 true)], ka := 1, al := [none, none, none, none, none, some 0, some 1, some 2] })]⟩
def s40 : LoopSpec := ⟨40, { np := 4, n := 16, gn := 3, next := 5, slots := [(0, .agg [.nd 0, .nd 1]), (1, .p 4 0)], objs := [(4, .cells [.nd 2, .nd 3] 38 true false)], ka := 1 },
  [(.ret, { np := 3, n := 1, gn := 3, next := 5, slots := [(0, .nd 0)], objs := [(4, .cells [.nd 1, .nd 2] 38 true false)], ka := 1, al := [none, some 2, some 3] })]⟩
def s39 : LoopSpec := ⟨39, { np := 4, n := 19, gn := 3, next := 5, slots := [(0, .p 4 0)], objs := [(4, .cells [.nd 0, .nd 1, .nd 2, .nd 3] 87 true false)], ka := 1 },
  [(.ret, { np := 7, n := 2, gn := 3, next := 5, slots := [(0, .agg [.nd 0, .nd 1]), (1, .nd 2)], objs := [(4, .cells [.nd 3, .nd 4, .nd 5, .nd 6] 87 true false)], ka := 1, al := [none, none, none, some 0, some 1, some 2, some 3] })]⟩
abbrev c42 : Ctr := fun gs out => FnC Tryz.prog tabsL 74 [none, none, some 75] [.sc] gs out
abbrev c96 : Ctr := fun gs out => FnC Tryz.prog tabsL 65 [] [.sc] gs out
abbrev c51 : Ctr := fun gs out => FnC Tryz.prog tabsL 38 [] [.ag 3, .sc] gs out
abbrev c0 : Ctr := fun gs out => FnC Tryz.prog tabsL 3 [] [.sc] gs out
abbrev c31 : Ctr := fun gs out => FnC Tryz.prog tabsL 107 [] [.sc] gs out
abbrev c66 : Ctr := fun gs out => FnC Tryz.prog tabsL 127 [] [.sc] gs out
abbrev c28 : Ctr := fun gs out => FnC Tryz.prog tabsL 72 [] [.sc] gs out
abbrev c13 : Ctr := fun gs out => FnC Tryz.prog tabsL 104 [] [.sc] gs out
abbrev c36 : Ctr := fun gs out => FnC Tryz.prog tabsL 35 [] [.ag 2] gs out
abbrev c18 : Ctr := fun gs out => FnC Tryz.prog tabsL 33 [] [.sc] gs out
abbrev c34 : Ctr := fun gs out => FnC Tryz.prog tabsL 109 [] [.sc, .sc] gs out
abbrev c25 : Ctr := fun gs out => FnC Tryz.prog tabsL 98 [] [.sc] gs out
abbrev c64 : Ctr := fun gs out => FnC Tryz.prog tabsL 125 [] [.sc] gs out
abbrev c45 : Ctr := fun gs out => FnC Tryz.prog tabsL 76 [] [.sc] gs out
abbrev c3 : Ctr := fun gs out => FnC Tryz.prog tabsL 31 [] [.sc] gs out
abbrev c27 : Ctr := fun gs out => FnC Tryz.prog tabsL 155 [] [.sc] gs out
abbrev c32 : Ctr := fun gs out => FnC Tryz.prog tabsL 71 [] [.sc] gs out
abbrev c59 : Ctr := fun gs out => FnC Tryz.prog tabsL 59 [] [.sc] gs out
abbrev c52 : Ctr := fun gs out => FnC Tryz.prog tabsL 34 [] [.sc] gs out
abbrev c22 : Ctr := fun gs out => FnC Tryz.prog tabsL 99 [] [.sc] gs out
abbrev c21 : Ctr := fun gs out => FnC Tryz.prog tabsL 106 [] [.sc] gs out
abbrev c26 : Ctr := fun gs out => FnC Tryz.prog tabsL 132 [] [.sc] gs out
abbrev c67 : Ctr := fun gs out => FnC Tryz.prog tabsL 128 [] [.sc] gs out
abbrev c29 : Ctr := fun gs out => FnC Tryz.prog tabsL 73 [] [.sc, .sc] gs out
abbrev c24 : Ctr := fun gs out => FnC Tryz.prog tabsL 134 [] [.sc] gs out
abbrev c17 : Ctr := fun gs out => FnC Tryz.prog tabsL 41 [] [.ag 2, .sc] gs out
abbrev c2 : Ctr := fun gs out => FnC Tryz.prog tabsL 8 [] [.sc] gs out
abbrev c70 : Ctr := fun gs out => FnC Tryz.prog tabsL 60 [] [.sc] gs out
abbrev c7 : Ctr := fun gs out => FnC Tryz.prog tabsL 67 [] [.sc] gs out
abbrev c41 : Ctr := fun gs out => FnC Tryz.prog tabsL 45 [] [.sc] gs out
abbrev c63 : Ctr := fun gs out => FnC Tryz.prog tabsL 124 [] [.sc] gs out
abbrev c60 : Ctr := fun gs out => FnC Tryz.prog tabsL 122 [] [.sc] gs out
abbrev c57 : Ctr := fun gs out => FnC Tryz.prog tabsL 27 [] [.sc] gs out
abbrev c8 : Ctr := fun gs out => FnC Tryz.prog tabsL 103 [] [.sc] gs out
abbrev c97 : Ctr := fun gs out => FnC Tryz.prog tabsL 100 [] [.sc] gs out
abbrev c68 : Ctr := fun gs out => FnC Tryz.prog tabsL 129 [] [.sc] gs out
abbrev c62 : Ctr := fun gs out => FnC Tryz.prog tabsL 123 [] [.sc] gs out
abbrev c5 : Ctr := fun gs out => FnC Tryz.prog tabsL 46 [] [.sc] gs out
abbrev c19 : Ctr := fun gs out => FnC Tryz.prog tabsL 68 [] [.sc] gs out
abbrev c33 : Ctr := fun gs out => FnC Tryz.prog tabsL 159 [] [.sc] gs out
abbrev c58 : Ctr := fun gs out => FnC Tryz.prog tabsL 58 [] [.sc] gs out
abbrev c65 : Ctr := fun gs out => FnC Tryz.prog tabsL 126 [] [.sc] gs out
abbrev c44 : Ctr := fun gs out => FnC Tryz.prog tabsL 75 [] [.sc] gs out
abbrev c9 : Ctr := fun gs out => FnC Tryz.prog tabsL 139 [] [.sc] gs out
abbrev c105 : Ctr := fun gs out => FnS Tryz.prog tabsL 10 [] s105.pre s105.posts gs out
abbrev c104 : Ctr := fun gs out => FnS Tryz.prog tabsL 32 [] s104.pre s104.posts gs out
abbrev c103 : Ctr := fun gs out => FnS Tryz.prog tabsL 9 [] s103.pre s103.posts gs out
abbrev c102 : Ctr := fun gs out => FnS Tryz.prog tabsL 42 [] s102.pre s102.posts gs out
abbrev c101 : Ctr := fun gs out => FnS Tryz.prog tabsL 13 [] s101.pre s101.posts gs out
abbrev c95 : Ctr := fun gs out => FnS Tryz.prog tabsL 63 [] s95.pre s95.posts gs out
abbrev c94 : Ctr := fun gs out => FnS Tryz.prog tabsL 63 [] s94.pre s94.posts gs out
abbrev c93 : Ctr := fun gs out => FnS Tryz.prog tabsL 63 [] s93.pre s93.posts gs out
abbrev c92 : Ctr := fun gs out => FnS Tryz.prog tabsL 63 [] s92.pre s92.posts gs out
abbrev c91 : Ctr := fun gs out => FnS Tryz.prog tabsL 63 [] s91.pre s91.posts gs out
abbrev c90 : Ctr := fun gs out => FnS Tryz.prog tabsL 63 [] s90.pre s90.posts gs out
abbrev c89 : Ctr := fun gs out => FnS Tryz.prog tabsL 63 [] s89.pre s89.posts gs out
abbrev c88 : Ctr := fun gs out => FnS Tryz.prog tabsL 63 [] s88.pre s88.posts gs out
abbrev c87 : Ctr := fun gs out => FnS Tryz.prog tabsL 63 [] s87.pre s87.posts gs out
abbrev c86 : Ctr := fun gs out => FnS Tryz.prog tabsL 63 [] s86.pre s86.posts gs out
abbrev c85 : Ctr := fun gs out => FnS Tryz.prog tabsL 63 [] s85.pre s85.posts gs out
abbrev c84 : Ctr := fun gs out => FnS Tryz.prog tabsL 63 [] s84.pre s84.posts gs out
abbrev c83 : Ctr := fun gs out => FnS Tryz.prog tabsL 63 [] s83.pre s83.posts gs out
abbrev c82 : Ctr := fun gs out => FnS Tryz.prog tabsL 63 [] s82.pre s82.posts gs out
abbrev c81 : Ctr := fun gs out => FnS Tryz.prog tabsL 63 [] s81.pre s81.posts gs out
abbrev c80 : Ctr := fun gs out => FnS Tryz.prog tabsL 63 [] s80.pre s80.posts gs out
abbrev c79 : Ctr := fun gs out => FnS Tryz.prog tabsL 63 [] s79.pre s79.posts gs out
abbrev c78 : Ctr := fun gs out => FnS Tryz.prog tabsL 63 [] s78.pre s78.posts gs out
abbrev c77 : Ctr := fun gs out => FnS Tryz.prog tabsL 63 [] s77.pre s77.posts gs out
abbrev c76 : Ctr := fun gs out => FnS Tryz.prog tabsL 63 [] s76.pre s76.posts gs out
abbrev c75 : Ctr := fun gs out => FnS Tryz.prog tabsL 63 [] s75.pre s75.posts gs out
abbrev c74 : Ctr := fun gs out => FnS Tryz.prog tabsL 63 [] s74.pre s74.posts gs out
abbrev c73 : Ctr := fun gs out => FnS Tryz.prog tabsL 63 [] s73.pre s73.posts gs out
abbrev c56 : Ctr := fun gs out => FnS Tryz.prog tabsL 12 [] s56.pre s56.posts gs out
abbrev c49 : Ctr := fun gs out => FnS Tryz.prog tabsL 37 [] s49.pre s49.posts gs out
abbrev c48 : Ctr := fun gs out => FnS Tryz.prog tabsL 17 [] s48.pre s48.posts gs out
abbrev c47 : Ctr := fun gs out => FnS Tryz.prog tabsL 11 [] s47.pre s47.posts gs out
abbrev c40 : Ctr := fun gs out => FnS Tryz.prog tabsL 44 [] s40.pre s40.posts gs out
abbrev c39 : Ctr := fun gs out => FnS Tryz.prog tabsL 14 [] s39.pre s39.posts gs out
abbrev c106 : Ctr := fun gs out => LoopC Tryz.prog tabsL b106 s106.pre s106.posts gs out
abbrev c100 : Ctr := fun gs out => LoopC Tryz.prog tabsL b100 s100.pre s100.posts gs out
abbrev c98 : Ctr := fun gs out => LoopC Tryz.prog tabsL b98 s98.pre s98.posts gs out
abbrev c23 : Ctr := fun gs out => LoopC Tryz.prog tabsL b23 s23.pre s23.posts gs out
abbrev c99 : Ctr := fun gs out => LoopC Tryz.prog tabsL b99 s99.pre s99.posts gs out
abbrev c54 : Ctr := fun gs out => LoopC Tryz.prog tabsL b54 s54.pre s54.posts gs out
abbrev c55 : Ctr := fun gs out => LoopC Tryz.prog tabsL b55 s55.pre s55.posts gs out
abbrev c1 : Ctr := fun gs out => LoopC Tryz.prog tabsL b1 s1.pre s1.posts gs out
abbrev c20 : Ctr := fun gs out => LoopC Tryz.prog tabsL b20 s20.pre s20.posts gs out
abbrev c46 : Ctr := fun gs out => LoopC Tryz.prog tabsL b46 s46.pre s46.posts gs out
abbrev c72 : Ctr := fun gs out => LoopC Tryz.prog tabsL b72 s72.pre s72.posts gs out
abbrev c53 : Ctr := fun gs out => LoopC Tryz.prog tabsL b53 s53.pre s53.posts gs out
abbrev c10 : Ctr := fun gs out => LoopC Tryz.prog tabsL b10 s10.pre s10.posts gs out
abbrev c37 : Ctr := fun gs out => LoopC Tryz.prog tabsL b37 s37.pre s37.posts gs out
abbrev c69 : Ctr := fun gs out => LoopC Tryz.prog tabsL b69 s69.pre s69.posts gs out
abbrev c50 : Ctr := fun gs out => LoopC Tryz.prog tabsL b50 s50.pre s50.posts gs out
abbrev c71 : Ctr := fun gs out => LoopC Tryz.prog tabsL b71 s71.pre s71.posts gs out
abbrev c12 : Ctr := fun gs out => LoopC Tryz.prog tabsL b12 s12.pre s12.posts gs out
abbrev c43 : Ctr := fun gs out => LoopC Tryz.prog tabsL b43 s43.pre s43.posts gs out
abbrev c30 : Ctr := fun gs out => LoopC Tryz.prog tabsL b30 s30.pre s30.posts gs out
abbrev c61 : Ctr := fun gs out => LoopC Tryz.prog tabsL b61 s61.pre s61.posts gs out
abbrev c4 : Ctr := fun gs out => LoopC Tryz.prog tabsL b4 s4.pre s4.posts gs out
abbrev c11 : Ctr := fun gs out => LoopC Tryz.prog tabsL b11 s11.pre s11.posts gs out
abbrev c6 : Ctr := fun gs out => LoopC Tryz.prog tabsL b6 s6.pre s6.posts gs out
noncomputable def Cs : List Ctr := [c0, c1, c2, c3, c4, c5, c6, c7, c8, c9, c10, c11, c12, c13, fun _ _ => True, fun _ _ => True, fun _ _ => True, c17, c18, c19, c20, c21, c22, c23, c24, c25, c26, c27, c28, c29, c30, c31, c32, c33, c34, fun _ _ => True, c36, c37, fun _ _ => True, c39, c40, c41, c42, c43, c44, c45, c46, c47, c48, c49, c50, c51, c52, c53, c54, c55, c56, c57, c58, c59, c60, c61, c62, c63, c64, c65, c66, c67, c68, c69, c70, c71, c72, c73, c74, c75, c76, c77, c78, c79, c80, c81, c82, c83, c84, c85, c86, c87, c88, c89, c90, c91, c92, c93, c94, c95, c96, c97, c98, c99, c100, c101, c102, c103, c104, c105, c106]
noncomputable abbrev C := CofL Cs
noncomputable def pl : PList := PL.cons 14 (fun N => @pCallS N Tryz.prog [] s39) (PL.cons 44 (fun N => @pCallS N Tryz.prog [] s40) (PL.cons 11 (fun N => @pCallS N Tryz.prog [] s47) (PL.cons 17 (fun N => @pCallS N Tryz.prog [] s48) (PL.cons 37 (fun N => @pCallS N Tryz.prog [] s49) (PL.cons 12 (fun N => @pCallS N Tryz.prog [] s56) (PL.cons 63 (fun N => orP (orP (orP (orP (orP (orP (orP (orP (orP (orP (orP (orP (orP (orP (orP (orP (orP (orP (orP (orP (orP (orP (@pCallS N Tryz.prog [] s95) (@pCallS N Tryz.prog [] s94)) (@pCallS N Tryz.prog [] s93)) (@pCallS N Tryz.prog [] s92)) (@pCallS N Tryz.prog [] s91)) (@pCallS N Tryz.prog [] s90)) (@pCallS N Tryz.prog [] s89)) (@pCallS N Tryz.prog [] s88)) (@pCallS N Tryz.prog [] s87)) (@pCallS N Tryz.prog [] s86)) (@pCallS N Tryz.prog [] s85)) (@pCallS N Tryz.prog [] s84)) (@pCallS N Tryz.prog [] s83)) (@pCallS N Tryz.prog [] s82)) (@pCallS N Tryz.prog [] s81)) (@pCallS N Tryz.prog [] s80)) (@pCallS N Tryz.prog [] s79)) (@pCallS N Tryz.prog [] s78)) (@pCallS N Tryz.prog [] s77)) (@pCallS N Tryz.prog [] s76)) (@pCallS N Tryz.prog [] s75)) (@pCallS N Tryz.prog [] s74)) (@pCallS N Tryz.prog [] s73)) (PL.cons 13 (fun N => @pCallS N Tryz.prog [] s101) (PL.cons 42 (fun N => @pCallS N Tryz.prog [] s102) (PL.cons 9 (fun N => @pCallS N Tryz.prog [] s103) (PL.cons 32 (fun N => @pCallS N Tryz.prog [] s104) (PL.cons 10 (fun N => @pCallS N Tryz.prog [] s105) (PL.cons 139 (fun N => @pCall N Tryz.prog 9 [] [.sc]) (PL.cons 75 (fun N => @pCall N Tryz.prog 44 [] [.sc]) (PL.cons 126 (fun N => @pCall N Tryz.prog 65 [] [.sc]) (PL.cons 58 (fun N => @pCall N Tryz.prog 58 [] [.sc]) (PL.cons 159 (fun N => @pCall N Tryz.prog 33 [] [.sc]) (PL.cons 68 (fun N => @pCall N Tryz.prog 19 [] [.sc]) (PL.cons 46 (fun N => @pCall N Tryz.prog 5 [] [.sc]) (PL.cons 123 (fun N => @pCall N Tryz.prog 62 [] [.sc]) (PL.cons 129 (fun N => @pCall N Tryz.prog 68 [] [.sc]) (PL.cons 100 (fun N => @pCall N Tryz.prog 97 [] [.sc]) (PL.cons 103 (fun N => @pCall N Tryz.prog 8 [] [.sc]) (PL.cons 27 (fun N => @pCall N Tryz.prog 57 [] [.sc]) (PL.cons 122 (fun N => @pCall N Tryz.prog 60 [] [.sc]) (PL.cons 124 (fun N => @pCall N Tryz.prog 63 [] [.sc]) (PL.cons 45 (fun N => @pCall N Tryz.prog 41 [] [.sc]) (PL.cons 67 (fun N => @pCall N Tryz.prog 7 [] [.sc]) (PL.cons 60 (fun N => @pCall N Tryz.prog 70 [] [.sc]) (PL.cons 8 (fun N => @pCall N Tryz.prog 2 [] [.sc]) (PL.cons 41 (fun N => @pCall N Tryz.prog 17 [] [.ag 2, .sc]) (PL.cons 134 (fun N => @pCall N Tryz.prog 24 [] [.sc]) (PL.cons 73 (fun N => @pCall N Tryz.prog 29 [] [.sc, .sc]) (PL.cons 128 (fun N => @pCall N Tryz.prog 67 [] [.sc]) (PL.cons 132 (fun N => @pCall N Tryz.prog 26 [] [.sc]) (PL.cons 106 (fun N => @pCall N Tryz.prog 21 [] [.sc]) (PL.cons 99 (fun N => @pCall N Tryz.prog 22 [] [.sc]) (PL.cons 34 (fun N => @pCall N Tryz.prog 52 [] [.sc]) (PL.cons 59 (fun N => @pCall N Tryz.prog 59 [] [.sc]) (PL.cons 71 (fun N => @pCall N Tryz.prog 32 [] [.sc]) (PL.cons 155 (fun N => @pCall N Tryz.prog 27 [] [.sc]) (PL.cons 31 (fun N => @pCall N Tryz.prog 3 [] [.sc]) (PL.cons 76 (fun N => @pCall N Tryz.prog 45 [] [.sc]) (PL.cons 125 (fun N => @pCall N Tryz.prog 64 [] [.sc]) (PL.cons 98 (fun N => @pCall N Tryz.prog 25 [] [.sc]) (PL.cons 109 (fun N => @pCall N Tryz.prog 34 [] [.sc, .sc]) (PL.cons 33 (fun N => @pCall N Tryz.prog 18 [] [.sc]) (PL.cons 35 (fun N => @pCall N Tryz.prog 36 [] [.ag 2]) (PL.cons 104 (fun N => @pCall N Tryz.prog 13 [] [.sc]) (PL.cons 72 (fun N => @pCall N Tryz.prog 28 [] [.sc]) (PL.cons 127 (fun N => @pCall N Tryz.prog 66 [] [.sc]) (PL.cons 107 (fun N => @pCall N Tryz.prog 31 [] [.sc]) (PL.cons 3 (fun N => @pCall N Tryz.prog 0 [] [.sc]) (PL.cons 38 (fun N => @pCall N Tryz.prog 51 [] [.ag 3, .sc]) (PL.cons 65 (fun N => @pCall N Tryz.prog 96 [] [.sc]) (PL.cons 74 (fun N => @pCall N Tryz.prog 42 [none, none, some 75] [.sc]) (PL.cons 5 (fun _ => pClosed) (PL.cons 158 (fun _ => pNoEscape) (PL.nil))))))))))))))))))))))))))))))))))))))))))))))))))))))))))
end Y
end Go.Proofs.YtlifdeocdbjalaaGreatDoor
