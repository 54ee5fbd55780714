/- The codes, shapes and contracts. -/
import Derived.Test.YtckgelanagoenaaGreatDoorKRBase
import Derived.Test.YtckgelanagoenaaGreatDoorKMT
import Derived.Test.YtckgelanagoenaaGreatDoorAbsTold
import Derived.Test.YtckgelanagoenaaGreatDoorAbsTold3
namespace Go.Proofs.YtckgelanagoenaaGreatDoor
open Go Go.Abs
set_option maxRecDepth 100000
set_option linter.unusedVariables false
set_option linter.unusedSimpArgs false
namespace M
theorem low : TabsLow tabsL Tryz.prog.globals.size := by
  rw [nGlobals]
  refine ⟨fun p hp => ?_, fun p hp => ?_⟩
  all_goals
    simp only [tabsL, List.mem_cons, List.mem_nil_iff, or_false] at hp
    rcases hp with rfl | rfl
    all_goals first | decide | rfl
noncomputable def code166 : Code := Tryz.f166.body.getD .skip
noncomputable def code3 : Code := Tryz.f3.body.getD .skip
noncomputable def code137 : Code := Tryz.f137.body.getD .skip
noncomputable def code72 : Code := Tryz.f72.body.getD .skip
noncomputable def code127 : Code := Tryz.f127.body.getD .skip
noncomputable def code69 : Code := Tryz.f69.body.getD .skip
noncomputable def code170 : Code := Tryz.f170.body.getD .skip
noncomputable def code14 : Code := Tryz.f14.body.getD .skip
noncomputable def code165 : Code := Tryz.f165.body.getD .skip
noncomputable def code15 : Code := Tryz.f15.body.getD .skip
noncomputable def code56 : Code := Tryz.f56.body.getD .skip
noncomputable def code179 : Code := Tryz.f179.body.getD .skip
noncomputable def code169 : Code := Tryz.f169.body.getD .skip
noncomputable def code20 : Code := Tryz.f20.body.getD .skip
noncomputable def code173 : Code := Tryz.f173.body.getD .skip
noncomputable def code67 : Code := Tryz.f67.body.getD .skip
noncomputable def code223 : Code := Tryz.f223.body.getD .skip
noncomputable def code80 : Code := Tryz.f80.body.getD .skip
noncomputable def code68 : Code := Tryz.f68.body.getD .skip
noncomputable def code175 : Code := Tryz.f175.body.getD .skip
noncomputable def code21 : Code := Tryz.f21.body.getD .skip
noncomputable def code23 : Code := Tryz.f23.body.getD .skip
noncomputable def code22 : Code := Tryz.f22.body.getD .skip
noncomputable def code126 : Code := Tryz.f126.body.getD .skip
noncomputable def code19 : Code := Tryz.f19.body.getD .skip
noncomputable def code135 : Code := Tryz.f135.body.getD .skip
noncomputable def code136 : Code := Tryz.f136.body.getD .skip
noncomputable def code13 : Code := Tryz.f13.body.getD .skip
noncomputable def code84 : Code := Tryz.f84.body.getD .skip
noncomputable def code16 : Code := Tryz.f16.body.getD .skip
noncomputable def code117 : Code := Tryz.f117.body.getD .skip
noncomputable def code193 : Code := Tryz.f193.body.getD .skip
noncomputable def code90 : Code := Tryz.f90.body.getD .skip
noncomputable def code57 : Code := Tryz.f57.body.getD .skip
noncomputable def code18 : Code := Tryz.f18.body.getD .skip
noncomputable def code79 : Code := Tryz.f79.body.getD .skip
noncomputable def code87 : Code := Tryz.f87.body.getD .skip
noncomputable def code32 : Code := Tryz.f32.body.getD .skip
noncomputable def code70 : Code := Tryz.f70.body.getD .skip
noncomputable def code172 : Code := Tryz.f172.body.getD .skip
noncomputable def code98 : Code := Tryz.f98.body.getD .skip
noncomputable def code125 : Code := Tryz.f125.body.getD .skip
noncomputable def code171 : Code := Tryz.f171.body.getD .skip
noncomputable def code71 : Code := Tryz.f71.body.getD .skip
noncomputable def code59 : Code := Tryz.f59.body.getD .skip
noncomputable def code55 : Code := Tryz.f55.body.getD .skip
noncomputable def code85 : Code := Tryz.f85.body.getD .skip
noncomputable def code215 : Code := Tryz.f215.body.getD .skip
noncomputable def code132 : Code := Tryz.f132.body.getD .skip
noncomputable def code128 : Code := Tryz.f128.body.getD .skip
noncomputable def code73 : Code := Tryz.f73.body.getD .skip
noncomputable def code11 : Code := Tryz.f11.body.getD .skip
noncomputable def code192 : Code := Tryz.f192.body.getD .skip
noncomputable def code60 : Code := Tryz.f60.body.getD .skip
noncomputable def code93 : Code := Tryz.f93.body.getD .skip
noncomputable def code140 : Code := Tryz.f140.body.getD .skip
noncomputable def code122 : Code := Tryz.f122.body.getD .skip
noncomputable def code121 : Code := Tryz.f121.body.getD .skip
noncomputable def code123 : Code := Tryz.f123.body.getD .skip
noncomputable def code168 : Code := Tryz.f168.body.getD .skip
noncomputable def code120 : Code := Tryz.f120.body.getD .skip
noncomputable def code178 : Code := Tryz.f178.body.getD .skip
noncomputable def code89 : Code := Tryz.f89.body.getD .skip
noncomputable def code58 : Code := Tryz.f58.body.getD .skip
noncomputable def code61 : Code := Tryz.f61.body.getD .skip
noncomputable def code75 : Code := Tryz.f75.body.getD .skip
noncomputable def code62 : Code := Tryz.f62.body.getD .skip
noncomputable def code167 : Code := Tryz.f167.body.getD .skip
noncomputable def code12 : Code := Tryz.f12.body.getD .skip
noncomputable def code65 : Code := Tryz.f65.body.getD .skip
noncomputable def b23 : Code := bodyOf code60 [([], 0)]
noncomputable def b103 : Code := bodyOf code72 [([], 0)]
noncomputable def b119 : Code := bodyOf code223 [([], 0)]
noncomputable def b76 : Code := bodyOf code122 [([], 0)]
noncomputable def b38 : Code := bodyOf code14 [([], 0)]
noncomputable def b107 : Code := bodyOf code123 [([], 0)]
noncomputable def b14 : Code := bodyOf code57 [([], 0)]
noncomputable def b84 : Code := bodyOf code15 [([], 0)]
noncomputable def b123 : Code := bodyOf code15 [([], 2)]
noncomputable def b129 : Code := bodyOf code84 [([], 0)]
noncomputable def b113 : Code := bodyOf code215 [([], 0)]
noncomputable def b122 : Code := bodyOf code75 [([], 0)]
noncomputable def b25 : Code := bodyOf code32 [([], 0)]
noncomputable def b41 : Code := bodyOf code14 [([], 2)]
noncomputable def b132 : Code := bodyOf code192 [([], 0)]
noncomputable def b95 : Code := bodyOf code98 [([], 0)]
noncomputable def b116 : Code := bodyOf code137 [([], 0)]
noncomputable def b52 : Code := bodyOf code121 [([], 0)]
noncomputable def b82 : Code := bodyOf code68 [([], 0)]
noncomputable def b77 : Code := bodyOf code14 [([], 3)]
noncomputable def b3 : Code := bodyOf code55 [([], 0)]
noncomputable def b134 : Code := bodyOf code22 [([], 0)]
noncomputable def b89 : Code := bodyOf code21 [([], 0)]
noncomputable def b11 : Code := bodyOf code80 [([], 0)]
noncomputable def b96 : Code := bodyOf code89 [([], 0)]
noncomputable def b30 : Code := bodyOf code62 [([], 0)]
noncomputable def b10 : Code := bodyOf code93 [([], 0)]
noncomputable def b5 : Code := bodyOf code56 [([], 0)]
noncomputable def b120 : Code := bodyOf code15 [([], 1)]
noncomputable def b100 : Code := bodyOf code73 [([], 0)]
noncomputable def b40 : Code := bodyOf code14 [([], 1)]
noncomputable def b21 : Code := bodyOf code59 [([], 0)]
noncomputable def b18 : Code := bodyOf code117 [([], 0)]
noncomputable def b126 : Code := bodyOf code16 [([], 0)]
noncomputable def b109 : Code := bodyOf code178 [([], 0)]
noncomputable def b9 : Code := bodyOf code140 [([], 0)]
noncomputable def b56 : Code := bodyOf code19 [([], 0)]
noncomputable def b135 : Code := bodyOf b134 [([], 0)]
noncomputable def b124 : Code := bodyOf b123 [([], 0)]
noncomputable def b90 : Code := bodyOf b89 [([], 0)]
noncomputable def b85 : Code := bodyOf b84 [([], 0)]
noncomputable def b78 : Code := bodyOf b77 [([], 0)]
def s23 : LoopSpec := ⟨23, { np := 4, n := 23, gn := 3, next := 5, slots := [(3, .sv 4 0), (6, .nd 1), (7, .nd 2), (8, .nd 3)], objs := [(4, .vec 0 204 true)] },
  [(.exit 0, { np := 1, n := 23, gn := 3, next := 5, slots := [(3, .sv 4 0)], objs := [(4, .vec 0 204 true)] })]⟩
def s135 : LoopSpec := ⟨135, { np := 5, n := 80, gn := 3, next := 6, slots := [(5, .sv 4 0), (6, .p 5 0), (37, .nd 1), (38, .nd 2)], objs := [(5, .cells [.nd 3, .nd 4] 156 true false), (4, .vec 0 156 false)] },
  [(.ret, { np := 0, n := 80, gn := 3, next := 4, slots := [(4, .b false)], objs := [] }),
   (.exit 2, { np := 1, n := 80, gn := 3, next := 5, slots := [(5, .sv 4 0)], objs := [(4, .vec 0 156 false)] })]⟩
def s103 : LoopSpec := ⟨103, { np := 3, n := 41, gn := 3, next := 4, slots := [(0, .nd 0), (3, .nd 1), (4, .nd 2)], objs := [] },
  [(.exit 0, { np := 1, n := 41, gn := 3, next := 4, slots := [(3, .nd 0)], objs := [] })]⟩
def s119 : LoopSpec := ⟨119, { np := 3, n := 31, gn := 3, next := 4, slots := [(0, .nd 0), (1, .nd 1), (5, .nd 2)], objs := [] },
  [(.ret, { np := 1, n := 31, gn := 3, next := 4, slots := [(4, .nd 0)], objs := [] }),
   (.exit 0, { np := 2, n := 31, gn := 3, next := 4, slots := [(0, .nd 0), (1, .nd 1)], objs := [], al := [some 0, some 1] })]⟩
def s76 : LoopSpec := ⟨76, { np := 5, n := 46, gn := 3, next := 4, slots := [(1, .nd 0), (5, .nd 1), (9, .nd 2), (10, .nd 3), (11, .nd 4)], objs := [] },
  [(.ret, { np := 1, n := 46, gn := 3, next := 4, slots := [(4, .nd 0)], objs := [] }),
   (.exit 0, { np := 0, n := 46, gn := 3, next := 4, slots := [], objs := [] })]⟩
def s38 : LoopSpec := ⟨38, { np := 28, n := 116, gn := 3, next := 6, slots := [(2, .p 4 0), (6, .nd 0), (7, .mp 5), (44, .nd 0), (45, .nd 1), (46, .nd 2)], objs := [(5, .smap 3 none none), (4, .cells [.nd 4, .nd 5, .nd 6, .nd 7, .nd 8, .nd 9, .nd 10, .nd 11, .nd 12, .nd 13, .nd 14, .nd 15, .nd 16, .nd 17, .nd 18, .nd 19, .nd 20, .nd 21, .nd 22, .nd 23, .nd 24, .nd 25, .nd 26, .nd 27] 35 true false)] },
  [(.exit 0, { np := 26, n := 116, gn := 3, next := 6, slots := [(2, .p 4 0), (6, .nd 0), (7, .mp 5)], objs := [(5, .smap 1 none none), (4, .cells [.nd 2, .nd 3, .nd 4, .nd 5, .nd 6, .nd 7, .nd 8, .nd 9, .nd 10, .nd 11, .nd 12, .nd 13, .nd 14, .nd 15, .nd 16, .nd 17, .nd 18, .nd 19, .nd 20, .nd 21, .nd 22, .nd 23, .nd 24, .nd 25] 35 true false)], al := [some 0, none, some 4, some 5, some 6, some 7, some 8, some 9, some 10, some 11, some 12, some 13, some 14, some 15, some 16, some 17, some 18, some 19, some 20, some 21, some 22, some 23, some 24, some 25, some 26, some 27] })]⟩
def s107 : LoopSpec := ⟨107, { np := 1, n := 14, gn := 3, next := 4, slots := [(0, .nd 0)], objs := [] },
  [(.ret, { np := 0, n := 14, gn := 3, next := 4, slots := [(2, .b false)], objs := [] }),
   (.exit 0, { np := 0, n := 14, gn := 3, next := 4, slots := [], objs := [] })]⟩
def s14 : LoopSpec := ⟨14, { np := 3, n := 19, gn := 3, next := 4, slots := [(0, .nd 0), (5, .nd 0), (6, .nd 1), (7, .nd 2)], objs := [] },
  [(.ret, { np := 0, n := 19, gn := 3, next := 4, slots := [(2, .b false)], objs := [] }),
   (.exit 0, { np := 1, n := 19, gn := 3, next := 4, slots := [(0, .nd 0)], objs := [], al := [some 0] })]⟩
def s84 : LoopSpec := ⟨84, { np := 28, n := 127, gn := 3, next := 5, slots := [(2, .p 4 0), (5, .nd 0), (32, .nd 1), (33, .nd 2), (34, .nd 3)], objs := [(4, .cells [.nd 4, .nd 5, .nd 6, .nd 7, .nd 8, .nd 9, .nd 10, .nd 11, .nd 12, .nd 13, .nd 14, .nd 15, .nd 16, .nd 17, .nd 18, .nd 19, .nd 20, .nd 21, .nd 22, .nd 23, .nd 24, .nd 25, .nd 26, .nd 27] 41 true false)] },
  [(.ret, { np := 0, n := 127, gn := 3, next := 4, slots := [(4, .i .i64 26)], objs := [] }),
   (.exit 0, { np := 25, n := 127, gn := 3, next := 5, slots := [(2, .p 4 0), (5, .nd 0)], objs := [(4, .cells [.nd 1, .nd 2, .nd 3, .nd 4, .nd 5, .nd 6, .nd 7, .nd 8, .nd 9, .nd 10, .nd 11, .nd 12, .nd 13, .nd 14, .nd 15, .nd 16, .nd 17, .nd 18, .nd 19, .nd 20, .nd 21, .nd 22, .nd 23, .nd 24] 41 true false)], al := [some 0, some 4, some 5, some 6, some 7, some 8, some 9, some 10, some 11, some 12, some 13, some 14, some 15, some 16, some 17, some 18, some 19, some 20, some 21, some 22, some 23, some 24, some 25, some 26, some 27] })]⟩
def s123 : LoopSpec := ⟨123, { np := 4, n := 127, gn := 3, next := 4, slots := [(5, .nd 0), (108, .nd 1), (109, .nd 2), (110, .nd 3)], objs := [] },
  [(.ret, { np := 0, n := 127, gn := 3, next := 4, slots := [(4, .i .i64 14)], objs := [] }),
   (.exit 6, { np := 0, n := 127, gn := 3, next := 4, slots := [], objs := [] })]⟩
def s129 : LoopSpec := ⟨129, { np := 5, n := 42, gn := 3, next := 6, slots := [(5, .p 4 0), (6, .nd 0), (22, .nd 1), (23, .nd 2), (24, .nd 3)], objs := [(4, .cells [.p 4 0, .sv 5 4] 226 true false), (5, .vec 4 5 true)] },
  [(.exit 0, { np := 1, n := 42, gn := 3, next := 6, slots := [(5, .p 4 0)], objs := [(4, .cells [.p 4 0, .sv 5 0] 226 true false), (5, .vec 0 5 true)] })]⟩
def s113 : LoopSpec := ⟨113, { np := 3, n := 37, gn := 3, next := 4, slots := [(0, .nd 0), (1, .nd 1), (5, .nd 2)], objs := [] },
  [(.ret, { np := 1, n := 37, gn := 3, next := 4, slots := [(4, .nd 0)], objs := [] }),
   (.exit 0, { np := 2, n := 37, gn := 3, next := 4, slots := [(0, .nd 0), (1, .nd 1)], objs := [], al := [some 0, some 1] })]⟩
def s124 : LoopSpec := ⟨124, { np := 11, n := 127, gn := 3, next := 5, slots := [(5, .nd 0), (16, .p 4 0), (108, .nd 1), (109, .nd 2), (110, .nd 3), (114, .nd 0), (115, .nd 4), (116, .nd 5)], objs := [(4, .cells [.nd 6, .nd 7, .nd 8, .nd 9, .nd 10] 137 true false)] },
  [(.ret, { np := 0, n := 127, gn := 3, next := 4, slots := [(4, .i .i64 14)], objs := [] }),
   (.exit 8, { np := 4, n := 127, gn := 3, next := 4, slots := [(5, .nd 0), (108, .nd 1), (109, .nd 2), (110, .nd 3)], objs := [], al := [some 0, some 1, some 2, some 3] })]⟩
def s122 : LoopSpec := ⟨122, { np := 4, n := 91, gn := 3, next := 4, slots := [(0, .nd 0), (1, .nd 1), (8, .nd 0), (9, .nd 2), (10, .nd 3)], objs := [] },
  [(.ret, { np := 1, n := 91, gn := 3, next := 4, slots := [(4, .nd 0)], objs := [] }),
   (.exit 0, { np := 0, n := 91, gn := 3, next := 4, slots := [], objs := [] })]⟩
def s90 : LoopSpec := ⟨90, { np := 5, n := 24, gn := 3, next := 4, slots := [(0, .nd 0), (3, .nd 1), (11, .nd 2), (12, .nd 3), (13, .nd 4)], objs := [] },
  [(.ret, { np := 1, n := 24, gn := 3, next := 4, slots := [(2, .nd 0)], objs := [] }),
   (.exit 2, { np := 2, n := 24, gn := 3, next := 4, slots := [(0, .nd 0), (3, .nd 1)], objs := [], al := [some 0, some 1] })]⟩
def s25 : LoopSpec := ⟨25, { np := 4, n := 29, gn := 3, next := 5, slots := [(3, .sv 4 0), (6, .nd 1), (7, .nd 2), (8, .nd 3)], objs := [(4, .vec 0 137 true)] },
  [(.exit 0, { np := 1, n := 29, gn := 3, next := 5, slots := [(3, .sv 4 0)], objs := [(4, .vec 0 137 true)] })]⟩
def s41 : LoopSpec := ⟨41, { np := 27, n := 116, gn := 3, next := 5, slots := [(2, .p 4 0), (6, .nd 0), (71, .nd 0), (72, .nd 1), (73, .nd 2)], objs := [(4, .cells [.nd 3, .nd 4, .nd 5, .nd 6, .nd 7, .nd 8, .nd 9, .nd 10, .nd 11, .nd 12, .nd 13, .nd 14, .nd 15, .nd 16, .nd 17, .nd 18, .nd 19, .nd 20, .nd 21, .nd 22, .nd 23, .nd 24, .nd 25, .nd 26] 35 true false)] },
  [(.ret, { np := 1, n := 116, gn := 3, next := 4, slots := [(4, .nd 0)], objs := [] }),
   (.exit 4, { np := 25, n := 116, gn := 3, next := 5, slots := [(2, .p 4 0), (6, .nd 0)], objs := [(4, .cells [.nd 1, .nd 2, .nd 3, .nd 4, .nd 5, .nd 6, .nd 7, .nd 8, .nd 9, .nd 10, .nd 11, .nd 12, .nd 13, .nd 14, .nd 15, .nd 16, .nd 17, .nd 18, .nd 19, .nd 20, .nd 21, .nd 22, .nd 23, .nd 24] 35 true false)], al := [some 0, some 3, some 4, some 5, some 6, some 7, some 8, some 9, some 10, some 11, some 12, some 13, some 14, some 15, some 16, some 17, some 18, some 19, some 20, some 21, some 22, some 23, some 24, some 25, some 26] })]⟩
def s132 : LoopSpec := ⟨132, { np := 3, n := 28, gn := 3, next := 4, slots := [(0, .nd 0), (1, .nd 1), (5, .nd 2)], objs := [] },
  [(.exit 0, { np := 1, n := 28, gn := 3, next := 4, slots := [(5, .nd 0)], objs := [] })]⟩
def s95 : LoopSpec := ⟨95, { np := 2, n := 22, gn := 3, next := 4, slots := [(0, .nd 0), (3, .nd 1)], objs := [] },
  [(.exit 0, { np := 2, n := 22, gn := 3, next := 4, slots := [(0, .nd 0), (3, .nd 1)], objs := [] })]⟩
def s116 : LoopSpec := ⟨116, { np := 4, n := 40, gn := 3, next := 4, slots := [(0, .nd 0), (3, .nd 1), (11, .nd 0), (12, .nd 2), (13, .nd 3)], objs := [] },
  [(.exit 0, { np := 1, n := 40, gn := 3, next := 4, slots := [(3, .nd 0)], objs := [] })]⟩
def s52 : LoopSpec := ⟨52, { np := 3, n := 42, gn := 3, next := 4, slots := [(0, .nd 0), (15, .nd 0), (16, .nd 1), (17, .nd 2)], objs := [] },
  [(.ret, { np := 1, n := 42, gn := 3, next := 4, slots := [(2, .nd 0)], objs := [] }),
   (.exit 0, { np := 0, n := 42, gn := 3, next := 4, slots := [], objs := [] })]⟩
def s82 : LoopSpec := ⟨82, { np := 5, n := 29, gn := 3, next := 5, slots := [(1, .nd 0), (5, .sv 4 1), (9, .nd 2), (10, .nd 3), (11, .nd 4)], objs := [(4, .vec 1 128 true)] },
  [(.exit 0, { np := 1, n := 29, gn := 3, next := 5, slots := [(5, .sv 4 0)], objs := [(4, .vec 0 128 true)] })]⟩
def s85 : LoopSpec := ⟨85, { np := 32, n := 127, gn := 3, next := 5, slots := [(2, .p 4 0), (5, .nd 0), (7, .nd 1), (8, .nd 2), (32, .nd 3), (33, .nd 4), (34, .nd 5), (38, .nd 0), (39, .nd 6), (40, .nd 7)], objs := [(4, .cells [.nd 8, .nd 9, .nd 10, .nd 11, .nd 12, .nd 13, .nd 14, .nd 15, .nd 16, .nd 17, .nd 18, .nd 19, .nd 20, .nd 21, .nd 22, .nd 23, .nd 24, .nd 25, .nd 26, .nd 27, .nd 28, .nd 29, .nd 30, .nd 31] 41 true false)] },
  [(.exit 2, { np := 30, n := 127, gn := 3, next := 5, slots := [(2, .p 4 0), (5, .nd 0), (7, .nd 1), (8, .nd 2), (32, .nd 3), (33, .nd 4), (34, .nd 5)], objs := [(4, .cells [.nd 6, .nd 7, .nd 8, .nd 9, .nd 10, .nd 11, .nd 12, .nd 13, .nd 14, .nd 15, .nd 16, .nd 17, .nd 18, .nd 19, .nd 20, .nd 21, .nd 22, .nd 23, .nd 24, .nd 25, .nd 26, .nd 27, .nd 28, .nd 29] 41 true false)], al := [some 0, some 1, none, some 3, some 4, some 5, some 8, some 9, some 10, some 11, some 12, some 13, some 14, some 15, some 16, some 17, some 18, some 19, some 20, some 21, some 22, some 23, some 24, some 25, some 26, some 27, some 28, some 29, some 30, some 31] })]⟩
def s77 : LoopSpec := ⟨77, { np := 4, n := 116, gn := 3, next := 4, slots := [(6, .nd 0), (97, .nd 1), (98, .nd 2), (99, .nd 3)], objs := [] },
  [(.ret, { np := 0, n := 116, gn := 3, next := 4, slots := [(4, .i .i64 14)], objs := [] }),
   (.exit 6, { np := 0, n := 116, gn := 3, next := 4, slots := [], objs := [] })]⟩
def s3 : LoopSpec := ⟨3, { np := 3, n := 23, gn := 3, next := 4, slots := [(0, .nd 0), (5, .nd 0), (6, .nd 1), (7, .nd 2)], objs := [] },
  [(.ret, { np := 0, n := 23, gn := 3, next := 4, slots := [(2, .b false)], objs := [] }),
   (.exit 0, { np := 1, n := 23, gn := 3, next := 4, slots := [(0, .nd 0)], objs := [], al := [some 0] })]⟩
def s134 : LoopSpec := ⟨134, { np := 1, n := 80, gn := 3, next := 5, slots := [(5, .sv 4 0)], objs := [(4, .vec 0 156 false)] },
  [(.ret, { np := 0, n := 80, gn := 3, next := 4, slots := [(4, .b false)], objs := [] }),
   (.exit 0, { np := 0, n := 80, gn := 3, next := 4, slots := [], objs := [] })]⟩
def s89 : LoopSpec := ⟨89, { np := 2, n := 24, gn := 3, next := 4, slots := [(0, .nd 0), (3, .nd 1)], objs := [] },
  [(.ret, { np := 1, n := 24, gn := 3, next := 4, slots := [(2, .nd 0)], objs := [] }),
   (.exit 0, { np := 0, n := 24, gn := 3, next := 4, slots := [], objs := [] })]⟩
def s11 : LoopSpec := ⟨11, { np := 4, n := 22, gn := 3, next := 6, slots := [(3, .p 4 0), (11, .nd 0), (12, .nd 1), (13, .nd 2)], objs := [(4, .cells [.p 4 0, .sv 5 3] 226 true false), (5, .vec 3 5 true)] },
  [(.exit 0, { np := 1, n := 22, gn := 3, next := 6, slots := [(3, .p 4 0)], objs := [(4, .cells [.p 4 0, .sv 5 0] 226 true false), (5, .vec 0 5 true)] })]⟩
def s96 : LoopSpec := ⟨96, { np := 4, n := 22, gn := 3, next := 4, slots := [(3, .nd 0), (10, .nd 1), (11, .nd 2), (12, .nd 3)], objs := [] },
  [(.exit 0, { np := 1, n := 22, gn := 3, next := 4, slots := [(3, .nd 0)], objs := [] })]⟩
def s30 : LoopSpec := ⟨30, { np := 5, n := 46, gn := 3, next := 5, slots := [(1, .nd 0), (7, .sv 4 1), (30, .nd 2), (31, .nd 3), (32, .nd 4)], objs := [(4, .vec 1 121 true)] },
  [(.exit 0, { np := 1, n := 46, gn := 3, next := 5, slots := [(7, .sv 4 0)], objs := [(4, .vec 0 121 true)] })]⟩
def s10 : LoopSpec := ⟨10, { np := 4, n := 33, gn := 3, next := 5, slots := [(0, .nd 0), (3, .sv 4 1), (9, .nd 2), (10, .nd 3)], objs := [(4, .vec 1 5 false)] },
  [(.exit 0, { np := 1, n := 33, gn := 3, next := 5, slots := [(3, .sv 4 0)], objs := [(4, .vec 0 5 false)] })]⟩
def s5 : LoopSpec := ⟨5, { np := 3, n := 37, gn := 3, next := 4, slots := [(0, .nd 0), (5, .nd 0), (6, .nd 1), (7, .nd 2)], objs := [] },
  [(.ret, { np := 0, n := 37, gn := 3, next := 4, slots := [(2, .b false)], objs := [] }),
   (.exit 0, { np := 1, n := 37, gn := 3, next := 4, slots := [(0, .nd 0)], objs := [], al := [some 0] })]⟩
def s120 : LoopSpec := ⟨120, { np := 27, n := 127, gn := 3, next := 5, slots := [(2, .p 4 0), (5, .nd 0), (61, .nd 0), (62, .nd 1), (63, .nd 2)], objs := [(4, .cells [.nd 3, .nd 4, .nd 5, .nd 6, .nd 7, .nd 8, .nd 9, .nd 10, .nd 11, .nd 12, .nd 13, .nd 14, .nd 15, .nd 16, .nd 17, .nd 18, .nd 19, .nd 20, .nd 21, .nd 22, .nd 23, .nd 24, .nd 25, .nd 26] 41 true false)] },
  [(.ret, { np := 1, n := 127, gn := 3, next := 4, slots := [(4, .nd 0)], objs := [] }),
   (.exit 4, { np := 25, n := 127, gn := 3, next := 5, slots := [(2, .p 4 0), (5, .nd 0)], objs := [(4, .cells [.nd 1, .nd 2, .nd 3, .nd 4, .nd 5, .nd 6, .nd 7, .nd 8, .nd 9, .nd 10, .nd 11, .nd 12, .nd 13, .nd 14, .nd 15, .nd 16, .nd 17, .nd 18, .nd 19, .nd 20, .nd 21, .nd 22, .nd 23, .nd 24] 41 true false)], al := [some 0, some 3, some 4, some 5, some 6, some 7, some 8, some 9, some 10, some 11, some 12, some 13, some 14, some 15, some 16, some 17, some 18, some 19, some 20, some 21, some 22, some 23, some 24, some 25, some 26] })]⟩
def s100 : LoopSpec := ⟨100, { np := 3, n := 67, gn := 3, next := 4, slots := [(0, .nd 0), (9, .nd 1), (10, .nd 2)], objs := [] },
  [(.ret, { np := 1, n := 67, gn := 3, next := 4, slots := [(2, .nd 0)], objs := [] }),
   (.exit 0, { np := 0, n := 67, gn := 3, next := 4, slots := [], objs := [] })]⟩
def s40 : LoopSpec := ⟨40, { np := 29, n := 116, gn := 3, next := 6, slots := [(2, .p 4 0), (6, .nd 0), (7, .mp 5), (54, .nd 1), (55, .nd 2), (56, .nd 3)], objs := [(5, .smap 4 none none), (4, .cells [.nd 5, .nd 6, .nd 7, .nd 8, .nd 9, .nd 10, .nd 11, .nd 12, .nd 13, .nd 14, .nd 15, .nd 16, .nd 17, .nd 18, .nd 19, .nd 20, .nd 21, .nd 22, .nd 23, .nd 24, .nd 25, .nd 26, .nd 27, .nd 28] 35 true false)] },
  [(.ret, { np := 0, n := 116, gn := 3, next := 4, slots := [(4, .i .i64 26)], objs := [] }),
   (.exit 2, { np := 25, n := 116, gn := 3, next := 5, slots := [(2, .p 4 0), (6, .nd 0)], objs := [(4, .cells [.nd 1, .nd 2, .nd 3, .nd 4, .nd 5, .nd 6, .nd 7, .nd 8, .nd 9, .nd 10, .nd 11, .nd 12, .nd 13, .nd 14, .nd 15, .nd 16, .nd 17, .nd 18, .nd 19, .nd 20, .nd 21, .nd 22, .nd 23, .nd 24] 35 true false)], al := [some 0, some 5, some 6, some 7, some 8, some 9, some 10, some 11, some 12, some 13, some 14, some 15, some 16, some 17, some 18, some 19, some 20, some 21, some 22, some 23, some 24, some 25, some 26, some 27, some 28] })]⟩
def s78 : LoopSpec := ⟨78, { np := 11, n := 116, gn := 3, next := 5, slots := [(6, .nd 0), (18, .p 4 0), (97, .nd 1), (98, .nd 2), (99, .nd 3), (103, .nd 0), (104, .nd 4), (105, .nd 5)], objs := [(4, .cells [.nd 6, .nd 7, .nd 8, .nd 9, .nd 10] 51 true false)] },
  [(.ret, { np := 0, n := 116, gn := 3, next := 4, slots := [(4, .i .i64 14)], objs := [] }),
   (.exit 8, { np := 4, n := 116, gn := 3, next := 4, slots := [(6, .nd 0), (97, .nd 1), (98, .nd 2), (99, .nd 3)], objs := [], al := [some 0, some 1, some 2, some 3] })]⟩
def s21 : LoopSpec := ⟨21, { np := 4, n := 18, gn := 3, next := 5, slots := [(3, .sv 4 0), (6, .nd 1), (7, .nd 2), (8, .nd 3)], objs := [(4, .vec 0 185 true)] },
  [(.exit 0, { np := 1, n := 18, gn := 3, next := 5, slots := [(3, .sv 4 0)], objs := [(4, .vec 0 185 true)] })]⟩
def s18 : LoopSpec := ⟨18, { np := 3, n := 54, gn := 3, next := 5, slots := [(0, .nd 0), (1, .nd 1), (6, .sv 4 2)], objs := [(4, .vec 2 51 true)] },
  [(.exit 0, { np := 2, n := 54, gn := 3, next := 5, slots := [(0, .nd 0), (6, .sv 4 1)], objs := [(4, .vec 1 51 true)] })]⟩
def s126 : LoopSpec := ⟨126, { np := 4, n := 26, gn := 3, next := 4, slots := [(0, .nd 0), (1, .nd 1), (12, .nd 2), (13, .nd 3)], objs := [] },
  [(.ret, { np := 0, n := 26, gn := 3, next := 4, slots := [(4, .b false)], objs := [] }),
   (.exit 0, { np := 0, n := 26, gn := 3, next := 4, slots := [], objs := [] })]⟩
def s109 : LoopSpec := ⟨109, { np := 5, n := 81, gn := 3, next := 4, slots := [(0, .nd 0), (4, .nd 1), (5, .nd 2), (6, .nd 3), (7, .nd 4)], objs := [] },
  [(.ret, { np := 0, n := 81, gn := 3, next := 4, slots := [(2, .i .i64 0)], objs := [] }),
   (.exit 0, { np := 3, n := 81, gn := 3, next := 4, slots := [(4, .nd 0), (5, .nd 1), (6, .nd 2)], objs := [], al := [some 1, none, some 3] })]⟩
def s9 : LoopSpec := ⟨9, { np := 2, n := 11, gn := 3, next := 4, slots := [(0, .nd 0), (3, .nd 1)], objs := [] },
  [(.exit 0, { np := 1, n := 11, gn := 3, next := 4, slots := [(3, .nd 0)], objs := [] })]⟩
def s56 : LoopSpec := ⟨56, { np := 4, n := 42, gn := 3, next := 4, slots := [(3, .nd 0), (11, .nd 1), (12, .nd 2), (13, .nd 3)], objs := [] },
  [(.ret, { np := 1, n := 42, gn := 3, next := 4, slots := [(2, .nd 0)], objs := [] }),
   (.exit 0, { np := 0, n := 42, gn := 3, next := 4, slots := [], objs := [] })]⟩
def s73 : LoopSpec := ⟨73, { np := 0, n := 33, gn := 3, next := 4, slots := [(0, .nili)], objs := [] },
  [(.ret, { np := 0, n := 1, gn := 3, next := 4, slots := [(0, .i .i64 0)], objs := [] })]⟩
def s72 : LoopSpec := ⟨72, { np := 24, n := 33, gn := 3, next := 5, slots := [(0, .ifc 144 (.p 4 15))], objs := [(4, .cells [.nd 0, .nd 1, .nd 2, .nd 3, .nd 4, .nd 5, .nd 6, .nd 7, .nd 8, .nd 9, .nd 10, .nd 11, .nd 12, .nd 13, .nd 14, .nd 15, .nd 16, .nd 17, .nd 18, .nd 19, .nd 20, .nd 21, .nd 22, .nd 23] 35 true false)], ka := 1 },
  [(.ret, { np := 24, n := 1, gn := 3, next := 5, slots := [(0, .i .i64 0)], objs := [(4, .cells [.nd 0, .nd 1, .nd 2, .nd 3, .nd 4, .nd 5, .nd 6, .nd 7, .nd 8, .nd 9, .nd 10, .nd 11, .nd 12, .nd 13, .nd 14, .nd 15, .nd 16, .nd 17, .nd 18, .nd 19, .nd 20, .nd 21, .nd 22, .nd 23] 35 true false)], ka := 1, al := [some 0, some 1, some 2, some 3, some 4, some 5, some 6, some 7, some 8, some 9, some 10, some 11, some 12, some 13, some 14, some 15, some 16, some 17, some 18, some 19, some 20, some 21, some 22, some 23] })]⟩
def s71 : LoopSpec := ⟨71, { np := 24, n := 33, gn := 3, next := 5, slots := [(0, .ifc 144 (.p 4 14))], objs := [(4, .cells [.nd 0, .nd 1, .nd 2, .nd 3, .nd 4, .nd 5, .nd 6, .nd 7, .nd 8, .nd 9, .nd 10, .nd 11, .nd 12, .nd 13, .nd 14, .nd 15, .nd 16, .nd 17, .nd 18, .nd 19, .nd 20, .nd 21, .nd 22, .nd 23] 35 true false)], ka := 1 },
  [(.ret, { np := 24, n := 1, gn := 3, next := 5, slots := [(0, .i .i64 0)], objs := [(4, .cells [.nd 0, .nd 1, .nd 2, .nd 3, .nd 4, .nd 5, .nd 6, .nd 7, .nd 8, .nd 9, .nd 10, .nd 11, .nd 12, .nd 13, .nd 14, .nd 15, .nd 16, .nd 17, .nd 18, .nd 19, .nd 20, .nd 21, .nd 22, .nd 23] 35 true false)], ka := 1, al := [some 0, some 1, some 2, some 3, some 4, some 5, some 6, some 7, some 8, some 9, some 10, some 11, some 12, some 13, some 14, some 15, some 16, some 17, some 18, some 19, some 20, some 21, some 22, some 23] })]⟩
def s70 : LoopSpec := ⟨70, { np := 24, n := 33, gn := 3, next := 5, slots := [(0, .ifc 144 (.p 4 13))], objs := [(4, .cells [.nd 0, .nd 1, .nd 2, .nd 3, .nd 4, .nd 5, .nd 6, .nd 7, .nd 8, .nd 9, .nd 10, .nd 11, .nd 12, .nd 13, .nd 14, .nd 15, .nd 16, .nd 17, .nd 18, .nd 19, .nd 20, .nd 21, .nd 22, .nd 23] 35 true false)], ka := 1 },
  [(.ret, { np := 24, n := 1, gn := 3, next := 5, slots := [(0, .i .i64 0)], objs := [(4, .cells [.nd 0, .nd 1, .nd 2, .nd 3, .nd 4, .nd 5, .nd 6, .nd 7, .nd 8, .nd 9, .nd 10, .nd 11, .nd 12, .nd 13, .nd 14, .nd 15, .nd 16, .nd 17, .nd 18, .nd 19, .nd 20, .nd 21, .nd 22, .nd 23] 35 true false)], ka := 1, al := [some 0, some 1, some 2, some 3, some 4, some 5, some 6, some 7, some 8, some 9, some 10, some 11, some 12, some 13, some 14, some 15, some 16, some 17, some 18, some 19, some 20, some 21, some 22, some 23] })]⟩
def s69 : LoopSpec := ⟨69, { np := 24, n := 33, gn := 3, next := 5, slots := [(0, .ifc 144 (.p 4 12))], objs := [(4, .cells [.nd 0, .nd 1, .nd 2, .nd 3, .nd 4, .nd 5, .nd 6, .nd 7, .nd 8, .nd 9, .nd 10, .nd 11, .nd 12, .nd 13, .nd 14, .nd 15, .nd 16, .nd 17, .nd 18, .nd 19, .nd 20, .nd 21, .nd 22, .nd 23] 35 true false)], ka := 1 },
  [(.ret, { np := 24, n := 1, gn := 3, next := 5, slots := [(0, .i .i64 0)], objs := [(4, .cells [.nd 0, .nd 1, .nd 2, .nd 3, .nd 4, .nd 5, .nd 6, .nd 7, .nd 8, .nd 9, .nd 10, .nd 11, .nd 12, .nd 13, .nd 14, .nd 15, .nd 16, .nd 17, .nd 18, .nd 19, .nd 20, .nd 21, .nd 22, .nd 23] 35 true false)], ka := 1, al := [some 0, some 1, some 2, some 3, some 4, some 5, some 6, some 7, some 8, some 9, some 10, some 11, some 12, some 13, some 14, some 15, some 16, some 17, some 18, some 19, some 20, some 21, some 22, some 23] })]⟩
def s68 : LoopSpec := ⟨68, { np := 24, n := 33, gn := 3, next := 5, slots := [(0, .ifc 144 (.p 4 11))], objs := [(4, .cells [.nd 0, .nd 1, .nd 2, .nd 3, .nd 4, .nd 5, .nd 6, .nd 7, .nd 8, .nd 9, .nd 10, .nd 11, .nd 12, .nd 13, .nd 14, .nd 15, .nd 16, .nd 17, .nd 18, .nd 19, .nd 20, .nd 21, .nd 22, .nd 23] 35 true false)], ka := 1 },
  [(.ret, { np := 24, n := 1, gn := 3, next := 5, slots := [(0, .i .i64 0)], objs := [(4, .cells [.nd 0, .nd 1, .nd 2, .nd 3, .nd 4, .nd 5, .nd 6, .nd 7, .nd 8, .nd 9, .nd 10, .nd 11, .nd 12, .nd 13, .nd 14, .nd 15, .nd 16, .nd 17, .nd 18, .nd 19, .nd 20, .nd 21, .nd 22, .nd 23] 35 true false)], ka := 1, al := [some 0, some 1, some 2, some 3, some 4, some 5, some 6, some 7, some 8, some 9, some 10, some 11, some 12, some 13, some 14, some 15, some 16, some 17, some 18, some 19, some 20, some 21, some 22, some 23] })]⟩
def s67 : LoopSpec := ⟨67, { np := 24, n := 33, gn := 3, next := 5, slots := [(0, .ifc 144 (.p 4 10))], objs := [(4, .cells [.nd 0, .nd 1, .nd 2, .nd 3, .nd 4, .nd 5, .nd 6, .nd 7, .nd 8, .nd 9, .nd 10, .nd 11, .nd 12, .nd 13, .nd 14, .nd 15, .nd 16, .nd 17, .nd 18, .nd 19, .nd 20, .nd 21, .nd 22, .nd 23] 35 true false)], ka := 1 },
  [(.ret, { np := 24, n := 1, gn := 3, next := 5, slots := [(0, .i .i64 0)], objs := [(4, .cells [.nd 0, .nd 1, .nd 2, .nd 3, .nd 4, .nd 5, .nd 6, .nd 7, .nd 8, .nd 9, .nd 10, .nd 11, .nd 12, .nd 13, .nd 14, .nd 15, .nd 16, .nd 17, .nd 18, .nd 19, .nd 20, .nd 21, .nd 22, .nd 23] 35 true false)], ka := 1, al := [some 0, some 1, some 2, some 3, some 4, some 5, some 6, some 7, some 8, some 9, some 10, some 11, some 12, some 13, some 14, some 15, some 16, some 17, some 18, some 19, some 20, some 21, some 22, some 23] })]⟩
def s66 : LoopSpec := ⟨66, { np := 24, n := 33, gn := 3, next := 5, slots := [(0, .ifc 144 (.p 4 9))], objs := [(4, .cells [.nd 0, .nd 1, .nd 2, .nd 3, .nd 4, .nd 5, .nd 6, .nd 7, .nd 8, .nd 9, .nd 10, .nd 11, .nd 12, .nd 13, .nd 14, .nd 15, .nd 16, .nd 17, .nd 18, .nd 19, .nd 20, .nd 21, .nd 22, .nd 23] 35 true false)], ka := 1 },
  [(.ret, { np := 24, n := 1, gn := 3, next := 5, slots := [(0, .i .i64 0)], objs := [(4, .cells [.nd 0, .nd 1, .nd 2, .nd 3, .nd 4, .nd 5, .nd 6, .nd 7, .nd 8, .nd 9, .nd 10, .nd 11, .nd 12, .nd 13, .nd 14, .nd 15, .nd 16, .nd 17, .nd 18, .nd 19, .nd 20, .nd 21, .nd 22, .nd 23] 35 true false)], ka := 1, al := [some 0, some 1, some 2, some 3, some 4, some 5, some 6, some 7, some 8, some 9, some 10, some 11, some 12, some 13, some 14, some 15, some 16, some 17, some 18, some 19, some 20, some 21, some 22, some 23] })]⟩
def s65 : LoopSpec := ⟨65, { np := 24, n := 33, gn := 3, next := 5, slots := [(0, .ifc 144 (.p 4 8))], objs := [(4, .cells [.nd 0, .nd 1, .nd 2, .nd 3, .nd 4, .nd 5, .nd 6, .nd 7, .nd 8, .nd 9, .nd 10, .nd 11, .nd 12, .nd 13, .nd 14, .nd 15, .nd 16, .nd 17, .nd 18, .nd 19, .nd 20, .nd 21, .nd 22, .nd 23] 35 true false)], ka := 1 },
  [(.ret, { np := 24, n := 1, gn := 3, next := 5, slots := [(0, .i .i64 0)], objs := [(4, .cells [.nd 0, .nd 1, .nd 2, .nd 3, .nd 4, .nd 5, .nd 6, .nd 7, .nd 8, .nd 9, .nd 10, .nd 11, .nd 12, .nd 13, .nd 14, .nd 15, .nd 16, .nd 17, .nd 18, .nd 19, .nd 20, .nd 21, .nd 22, .nd 23] 35 true false)], ka := 1, al := [some 0, some 1, some 2, some 3, some 4, some 5, some 6, some 7, some 8, some 9, some 10, some 11, some 12, some 13, some 14, some 15, some 16, some 17, some 18, some 19, some 20, some 21, some 22, some 23] })]⟩
def s64 : LoopSpec := ⟨64, { np := 24, n := 33, gn := 3, next := 5, slots := [(0, .ifc 144 (.p 4 7))], objs := [(4, .cells [.nd 0, .nd 1, .nd 2, .nd 3, .nd 4, .nd 5, .nd 6, .nd 7, .nd 8, .nd 9, .nd 10, .nd 11, .nd 12, .nd 13, .nd 14, .nd 15, .nd 16, .nd 17, .nd 18, .nd 19, .nd 20, .nd 21, .nd 22, .nd 23] 35 true false)], ka := 1 },
  [(.ret, { np := 24, n := 1, gn := 3, next := 5, slots := [(0, .i .i64 0)], objs := [(4, .cells [.nd 0, .nd 1, .nd 2, .nd 3, .nd 4, .nd 5, .nd 6, .nd 7, .nd 8, .nd 9, .nd 10, .nd 11, .nd 12, .nd 13, .nd 14, .nd 15, .nd 16, .nd 17, .nd 18, .nd 19, .nd 20, .nd 21, .nd 22, .nd 23] 35 true false)], ka := 1, al := [some 0, some 1, some 2, some 3, some 4, some 5, some 6, some 7, some 8, some 9, some 10, some 11, some 12, some 13, some 14, some 15, some 16, some 17, some 18, some 19, some 20, some 21, some 22, some 23] })]⟩
def s63 : LoopSpec := ⟨63, { np := 24, n := 33, gn := 3, next := 5, slots := [(0, .ifc 144 (.p 4 6))], objs := [(4, .cells [.nd 0, .nd 1, .nd 2, .nd 3, .nd 4, .nd 5, .nd 6, .nd 7, .nd 8, .nd 9, .nd 10, .nd 11, .nd 12, .nd 13, .nd 14, .nd 15, .nd 16, .nd 17, .nd 18, .nd 19, .nd 20, .nd 21, .nd 22, .nd 23] 35 true false)], ka := 1 },
  [(.ret, { np := 24, n := 1, gn := 3, next := 5, slots := [(0, .i .i64 0)], objs := [(4, .cells [.nd 0, .nd 1, .nd 2, .nd 3, .nd 4, .nd 5, .nd 6, .nd 7, .nd 8, .nd 9, .nd 10, .nd 11, .nd 12, .nd 13, .nd 14, .nd 15, .nd 16, .nd 17, .nd 18, .nd 19, .nd 20, .nd 21, .nd 22, .nd 23] 35 true false)], ka := 1, al := [some 0, some 1, some 2, some 3, some 4, some 5, some 6, some 7, some 8, some 9, some 10, some 11, some 12, some 13, some 14, some 15, some 16, some 17, some 18, some 19, some 20, some 21, some 22, some 23] })]⟩
def s62 : LoopSpec := ⟨62, { np := 24, n := 33, gn := 3, next := 5, slots := [(0, .ifc 144 (.p 4 5))], objs := [(4, .cells [.nd 0, .nd 1, .nd 2, .nd 3, .nd 4, .nd 5, .nd 6, .nd 7, .nd 8, .nd 9, .nd 10, .nd 11, .nd 12, .nd 13, .nd 14, .nd 15, .nd 16, .nd 17, .nd 18, .nd 19, .nd 20, .nd 21, .nd 22, .nd 23] 35 true false)], ka := 1 },
  [(.ret, { np := 24, n := 1, gn := 3, next := 5, slots := [(0, .i .i64 0)], objs := [(4, .cells [.nd 0, .nd 1, .nd 2, .nd 3, .nd 4, .nd 5, .nd 6, .nd 7, .nd 8, .nd 9, .nd 10, .nd 11, .nd 12, .nd 13, .nd 14, .nd 15, .nd 16, .nd 17, .nd 18, .nd 19, .nd 20, .nd 21, .nd 22, .nd 23] 35 true false)], ka := 1, al := [some 0, some 1, some 2, some 3, some 4, some 5, some 6, some 7, some 8, some 9, some 10, some 11, some 12, some 13, some 14, some 15, some 16, some 17, some 18, some 19, some 20, some 21, some 22, some 23] })]⟩
def s61 : LoopSpec := ⟨61, { np := 24, n := 33, gn := 3, next := 5, slots := [(0, .ifc 144 (.p 4 4))], objs := [(4, .cells [.nd 0, .nd 1, .nd 2, .nd 3, .nd 4, .nd 5, .nd 6, .nd 7, .nd 8, .nd 9, .nd 10, .nd 11, .nd 12, .nd 13, .nd 14, .nd 15, .nd 16, .nd 17, .nd 18, .nd 19, .nd 20, .nd 21, .nd 22, .nd 23] 35 true false)], ka := 1 },
  [(.ret, { np := 24, n := 1, gn := 3, next := 5, slots := [(0, .i .i64 0)], objs := [(4, .cells [.nd 0, .nd 1, .nd 2, .nd 3, .nd 4, .nd 5, .nd 6, .nd 7, .nd 8, .nd 9, .nd 10, .nd 11, .nd 12, .nd 13, .nd 14, .nd 15, .nd 16, .nd 17, .nd 18, .nd 19, .nd 20, .nd 21, .nd 22, .nd 23] 35 true false)], ka := 1, al := [some 0, some 1, some 2, some 3, some 4, some 5, some 6, some 7, some 8, some 9, some 10, some 11, some 12, some 13, some 14, some 15, some 16, some 17, some 18, some 19, some 20, some 21, some 22, some 23] })]⟩
def s60 : LoopSpec := ⟨60, { np := 24, n := 33, gn := 3, next := 5, slots := [(0, .ifc 144 (.p 4 3))], objs := [(4, .cells [.nd 0, .nd 1, .nd 2, .nd 3, .nd 4, .nd 5, .nd 6, .nd 7, .nd 8, .nd 9, .nd 10, .nd 11, .nd 12, .nd 13, .nd 14, .nd 15, .nd 16, .nd 17, .nd 18, .nd 19, .nd 20, .nd 21, .nd 22, .nd 23] 35 true false)], ka := 1 },
  [(.ret, { np := 24, n := 1, gn := 3, next := 5, slots := [(0, .i .i64 0)], objs := [(4, .cells [.nd 0, .nd 1, .nd 2, .nd 3, .nd 4, .nd 5, .nd 6, .nd 7, .nd 8, .nd 9, .nd 10, .nd 11, .nd 12, .nd 13, .nd 14, .nd 15, .nd 16, .nd 17, .nd 18, .nd 19, .nd 20, .nd 21, .nd 22, .nd 23] 35 true false)], ka := 1, al := [some 0, some 1, some 2, some 3, some 4, some 5, some 6, some 7, some 8, some 9, some 10, some 11, some 12, some 13, some 14, some 15, some 16, some 17, some 18, some 19, some 20, some 21, some 22, some 23] })]⟩
def s59 : LoopSpec := ⟨59, { np := 24, n := 33, gn := 3, next := 5, slots := [(0, .ifc 144 (.p 4 2))], objs := [(4, .cells [.nd 0, .nd 1, .nd 2, .nd 3, .nd 4, .nd 5, .nd 6, .nd 7, .nd 8, .nd 9, .nd 10, .nd 11, .nd 12, .nd 13, .nd 14, .nd 15, .nd 16, .nd 17, .nd 18, .nd 19, .nd 20, .nd 21, .nd 22, .nd 23] 35 true false)], ka := 1 },
  [(.ret, { np := 24, n := 1, gn := 3, next := 5, slots := [(0, .i .i64 0)], objs := [(4, .cells [.nd 0, .nd 1, .nd 2, .nd 3, .nd 4, .nd 5, .nd 6, .nd 7, .nd 8, .nd 9, .nd 10, .nd 11, .nd 12, .nd 13, .nd 14, .nd 15, .nd 16, .nd 17, .nd 18, .nd 19, .nd 20, .nd 21, .nd 22, .nd 23] 35 true false)], ka := 1, al := [some 0, some 1, some 2, some 3, some 4, some 5, some 6, some 7, some 8, some 9, some 10, some 11, some 12, some 13, some 14, some 15, some 16, some 17, some 18, some 19, some 20, some 21, some 22, some 23] })]⟩
def s58 : LoopSpec := ⟨58, { np := 24, n := 33, gn := 3, next := 5, slots := [(0, .ifc 144 (.p 4 1))], objs := [(4, .cells [.nd 0, .nd 1, .nd 2, .nd 3, .nd 4, .nd 5, .nd 6, .nd 7, .nd 8, .nd 9, .nd 10, .nd 11, .nd 12, .nd 13, .nd 14, .nd 15, .nd 16, .nd 17, .nd 18, .nd 19, .nd 20, .nd 21, .nd 22, .nd 23] 35 true false)], ka := 1 },
  [(.ret, { np := 24, n := 1, gn := 3, next := 5, slots := [(0, .i .i64 0)], objs := [(4, .cells [.nd 0, .nd 1, .nd 2, .nd 3, .nd 4, .nd 5, .nd 6, .nd 7, .nd 8, .nd 9, .nd 10, .nd 11, .nd 12, .nd 13, .nd 14, .nd 15, .nd 16, .nd 17, .nd 18, .nd 19, .nd 20, .nd 21, .nd 22, .nd 23] 35 true false)], ka := 1, al := [some 0, some 1, some 2, some 3, some 4, some 5, some 6, some 7, some 8, some 9, some 10, some 11, some 12, some 13, some 14, some 15, some 16, some 17, some 18, some 19, some 20, some 21, some 22, some 23] })]⟩
def s54 : LoopSpec := ⟨54, { np := 24, n := 33, gn := 3, next := 5, slots := [(0, .ifc 152 (.p 4 22))], objs := [(4, .cells [.nd 0, .nd 1, .nd 2, .nd 3, .nd 4, .nd 5, .nd 6, .nd 7, .nd 8, .nd 9, .nd 10, .nd 11, .nd 12, .nd 13, .nd 14, .nd 15, .nd 16, .nd 17, .nd 18, .nd 19, .nd 20, .nd 21, .nd 22, .nd 23] 35 true false)], ka := 1 },
  [(.ret, { np := 25, n := 1, gn := 3, next := 5, slots := [(0, .nd 0)], objs := [(4, .cells [.nd 1, .nd 2, .nd 3, .nd 4, .nd 5, .nd 6, .nd 7, .nd 8, .nd 9, .nd 10, .nd 11, .nd 12, .nd 13, .nd 14, .nd 15, .nd 16, .nd 17, .nd 18, .nd 19, .nd 20, .nd 21, .nd 22, .nd 23, .nd 24] 35 true false)], ka := 1, al := [none, some 0, some 1, some 2, some 3, some 4, some 5, some 6, some 7, some 8, some 9, some 10, some 11, some 12, some 13, some 14, some 15, some 16, some 17, some 18, some 19, some 20, some 21, some 22, some 23] })]⟩
def s50 : LoopSpec := ⟨50, { np := 24, n := 33, gn := 3, next := 5, slots := [(0, .ifc 151 (.p 4 21))], objs := [(4, .cells [.nd 0, .nd 1, .nd 2, .nd 3, .nd 4, .nd 5, .nd 6, .nd 7, .nd 8, .nd 9, .nd 10, .nd 11, .nd 12, .nd 13, .nd 14, .nd 15, .nd 16, .nd 17, .nd 18, .nd 19, .nd 20, .nd 21, .nd 22, .nd 23] 35 true false)], ka := 1 },
  [(.ret, { np := 25, n := 1, gn := 3, next := 5, slots := [(0, .nd 0)], objs := [(4, .cells [.nd 1, .nd 2, .nd 3, .nd 4, .nd 5, .nd 6, .nd 7, .nd 8, .nd 9, .nd 10, .nd 11, .nd 12, .nd 13, .nd 14, .nd 15, .nd 16, .nd 17, .nd 18, .nd 19, .nd 20, .nd 21, .nd 22, .nd 23, .nd 24] 35 true false)], ka := 1, al := [none, some 0, some 1, some 2, some 3, some 4, some 5, some 6, some 7, some 8, some 9, some 10, some 11, some 12, some 13, some 14, some 15, some 16, some 17, some 18, some 19, some 20, some 21, some 22, some 23] })]⟩
def s49 : LoopSpec := ⟨49, { np := 24, n := 33, gn := 3, next := 5, slots := [(0, .ifc 149 (.p 4 20))], objs := [(4, .cells [.nd 0, .nd 1, .nd 2, .nd 3, .nd 4, .nd 5, .nd 6, .nd 7, .nd 8, .nd 9, .nd 10, .nd 11, .nd 12, .nd 13, .nd 14, .nd 15, .nd 16, .nd 17, .nd 18, .nd 19, .nd 20, .nd 21, .nd 22, .nd 23] 35 true false)], ka := 1 },
  [(.ret, { np := 25, n := 1, gn := 3, next := 5, slots := [(0, .nd 0)], objs := [(4, .cells [.nd 1, .nd 2, .nd 3, .nd 4, .nd 5, .nd 6, .nd 7, .nd 8, .nd 9, .nd 10, .nd 11, .nd 12, .nd 13, .nd 14, .nd 15, .nd 16, .nd 17, .nd 18, .nd 19, .nd 20, .nd 21, .nd 22, .nd 23, .nd 24] 35 true false)], ka := 1, al := [none, some 0, some 1, some 2, some 3, some 4, some 5, some 6, some 7, some 8, some 9, some 10, some 11, some 12, some 13, some 14, some 15, some 16, some 17, some 18, some 19, some 20, some 21, some 22, some 23] })]⟩
def s48 : LoopSpec := ⟨48, { np := 24, n := 33, gn := 3, next := 5, slots := [(0, .ifc 149 (.p 4 19))], objs := [(4, .cells [.nd 0, .nd 1, .nd 2, .nd 3, .nd 4, .nd 5, .nd 6, .nd 7, .nd 8, .nd 9, .nd 10, .nd 11, .nd 12, .nd 13, .nd 14, .nd 15, .nd 16, .nd 17, .nd 18, .nd 19, .nd 20, .nd 21, .nd 22, .nd 23] 35 true false)], ka := 1 },
  [(.ret, { np := 25, n := 1, gn := 3, next := 5, slots := [(0, .nd 0)], objs := [(4, .cells [.nd 1, .nd 2, .nd 3, .nd 4, .nd 5, .nd 6, .nd 7, .nd 8, .nd 9, .nd 10, .nd 11, .nd 12, .nd 13, .nd 14, .nd 15, .nd 16, .nd 17, .nd 18, .nd 19, .nd 20, .nd 21, .nd 22, .nd 23, .nd 24] 35 true false)], ka := 1, al := [none, some 0, some 1, some 2, some 3, some 4, some 5, some 6, some 7, some 8, some 9, some 10, some 11, some 12, some 13, some 14, some 15, some 16, some 17, some 18, some 19, some 20, some 21, some 22, some 23] })]⟩
def s44 : LoopSpec := ⟨44, { np := 24, n := 33, gn := 3, next := 5, slots := [(0, .ifc 149 (.p 4 18))], objs := [(4, .cells [.nd 0, .nd 1, .nd 2, .nd 3, .nd 4, .nd 5, .nd 6, .nd 7, .nd 8, .nd 9, .nd 10, .nd 11, .nd 12, .nd 13, .nd 14, .nd 15, .nd 16, .nd 17, .nd 18, .nd 19, .nd 20, .nd 21, .nd 22, .nd 23] 35 true false)], ka := 1 },
  [(.ret, { np := 25, n := 1, gn := 3, next := 5, slots := [(0, .nd 0)], objs := [(4, .cells [.nd 1, .nd 2, .nd 3, .nd 4, .nd 5, .nd 6, .nd 7, .nd 8, .nd 9, .nd 10, .nd 11, .nd 12, .nd 13, .nd 14, .nd 15, .nd 16, .nd 17, .nd 18, .nd 19, .nd 20, .nd 21, .nd 22, .nd 23, .nd 24] 35 true false)], ka := 1, al := [none, some 0, some 1, some 2, some 3, some 4, some 5, some 6, some 7, some 8, some 9, some 10, some 11, some 12, some 13, some 14, some 15, some 16, some 17, some 18, some 19, some 20, some 21, some 22, some 23] })]⟩
def s43 : LoopSpec := ⟨43, { np := 24, n := 33, gn := 3, next := 5, slots := [(0, .ifc 146 (.p 4 17))], objs := [(4, .cells [.nd 0, .nd 1, .nd 2, .nd 3, .nd 4, .nd 5, .nd 6, .nd 7, .nd 8, .nd 9, .nd 10, .nd 11, .nd 12, .nd 13, .nd 14, .nd 15, .nd 16, .nd 17, .nd 18, .nd 19, .nd 20, .nd 21, .nd 22, .nd 23] 35 true false)], ka := 1 },
  [(.ret, { np := 24, n := 1, gn := 3, next := 5, slots := [(0, .i .i64 0)], objs := [(4, .cells [.nd 0, .nd 1, .nd 2, .nd 3, .nd 4, .nd 5, .nd 6, .nd 7, .nd 8, .nd 9, .nd 10, .nd 11, .nd 12, .nd 13, .nd 14, .nd 15, .nd 16, .nd 17, .nd 18, .nd 19, .nd 20, .nd 21, .nd 22, .nd 23] 35 true false)], ka := 1, al := [some 0, some 1, some 2, some 3, some 4, some 5, some 6, some 7, some 8, some 9, some 10, some 11, some 12, some 13, some 14, some 15, some 16, some 17, some 18, some 19, some 20, some 21, some 22, some 23] })]⟩
def s42 : LoopSpec := ⟨42, { np := 24, n := 33, gn := 3, next := 5, slots := [(0, .ifc 147 (.p 4 16))], objs := [(4, .cells [.nd 0, .nd 1, .nd 2, .nd 3, .nd 4, .nd 5, .nd 6, .nd 7, .nd 8, .nd 9, .nd 10, .nd 11, .nd 12, .nd 13, .nd 14, .nd 15, .nd 16, .nd 17, .nd 18, .nd 19, .nd 20, .nd 21, .nd 22, .nd 23] 35 true false)], ka := 1 },
  [(.ret, { np := 24, n := 1, gn := 3, next := 5, slots := [(0, .i .i64 0)], objs := [(4, .cells [.nd 0, .nd 1, .nd 2, .nd 3, .nd 4, .nd 5, .nd 6, .nd 7, .nd 8, .nd 9, .nd 10, .nd 11, .nd 12, .nd 13, .nd 14, .nd 15, .nd 16, .nd 17, .nd 18, .nd 19, .nd 20, .nd 21, .nd 22, .nd 23] 35 true false)], ka := 1, al := [some 0, some 1, some 2, some 3, some 4, some 5, some 6, some 7, some 8, some 9, some 10, some 11, some 12, some 13, some 14, some 15, some 16, some 17, some 18, some 19, some 20, some 21, some 22, some 23] })]⟩
abbrev c31 : Ctr := fun gs out => FnC Tryz.prog tabsL 166 [] [.sc] gs out
abbrev c0 : Ctr := fun gs out => FnC Tryz.prog tabsL 3 [] [.sc] gs out
abbrev c115 : Ctr := fun gs out => FnC Tryz.prog tabsL 137 [] [.sc] gs out
abbrev c102 : Ctr := fun gs out => FnC Tryz.prog tabsL 72 [] [.sc] gs out
abbrev c101 : Ctr := fun gs out => FnC Tryz.prog tabsL 127 [] [.sc] gs out
abbrev c86 : Ctr := fun gs out => FnC Tryz.prog tabsL 69 [] [.sc] gs out
abbrev c35 : Ctr := fun gs out => FnC Tryz.prog tabsL 170 [] [.sc] gs out
abbrev c26 : Ctr := fun gs out => FnC Tryz.prog tabsL 14 [] [.sc] gs out
abbrev c29 : Ctr := fun gs out => FnC Tryz.prog tabsL 165 [] [.sc] gs out
abbrev c39 : Ctr := fun gs out => FnC Tryz.prog tabsL 17 [] [.sc] gs out
abbrev c79 : Ctr := fun gs out => FnC Tryz.prog tabsL 15 [] [.sc] gs out
abbrev c4 : Ctr := fun gs out => FnC Tryz.prog tabsL 56 [] [.sc] gs out
abbrev c111 : Ctr := fun gs out => FnC Tryz.prog tabsL 179 [] [.sc] gs out
abbrev c34 : Ctr := fun gs out => FnC Tryz.prog tabsL 169 [] [.sc] gs out
abbrev c127 : Ctr := fun gs out => FnC Tryz.prog tabsL 20 [] [.ag 5, .sc] gs out
abbrev c46 : Ctr := fun gs out => FnC Tryz.prog tabsL 173 [] [.sc] gs out
abbrev c74 : Ctr := fun gs out => FnC Tryz.prog tabsL 67 [] [.sc] gs out
abbrev c118 : Ctr := fun gs out => FnC Tryz.prog tabsL 223 [] [.sc] gs out
abbrev c6 : Ctr := fun gs out => FnC Tryz.prog tabsL 80 [] [.sc] gs out
abbrev c80 : Ctr := fun gs out => FnC Tryz.prog tabsL 68 [] [.sc] gs out
abbrev c53 : Ctr := fun gs out => FnC Tryz.prog tabsL 175 [] [.sc] gs out
abbrev c88 : Ctr := fun gs out => FnC Tryz.prog tabsL 21 [] [.sc] gs out
abbrev c87 : Ctr := fun gs out => FnC Tryz.prog tabsL 23 [] [.sc, .sc] gs out
abbrev c133 : Ctr := fun gs out => FnC Tryz.prog tabsL 22 [] [.sc] gs out
abbrev c110 : Ctr := fun gs out => FnC Tryz.prog tabsL 126 [] [.sc] gs out
abbrev c55 : Ctr := fun gs out => FnC Tryz.prog tabsL 19 [] [.sc] gs out
abbrev c130 : Ctr := fun gs out => FnC Tryz.prog tabsL 135 [] [.sc] gs out
abbrev c97 : Ctr := fun gs out => FnC Tryz.prog tabsL 136 [] [.sc] gs out
abbrev c19 : Ctr := fun gs out => FnC Tryz.prog tabsL 13 [] [.ag 24] gs out
abbrev c128 : Ctr := fun gs out => FnC Tryz.prog tabsL 84 [] [.sc, .sc] gs out
abbrev c125 : Ctr := fun gs out => FnC Tryz.prog tabsL 16 [] [.sc] gs out
abbrev c17 : Ctr := fun gs out => FnC Tryz.prog tabsL 117 [] [.sc, .sc] gs out
abbrev c117 : Ctr := fun gs out => FnC Tryz.prog tabsL 193 [] [.sc] gs out
abbrev c98 : Ctr := fun gs out => FnC Tryz.prog tabsL 90 [] [.sc, .sc] gs out
abbrev c13 : Ctr := fun gs out => FnC Tryz.prog tabsL 57 [] [.sc] gs out
abbrev c83 : Ctr := fun gs out => FnC Tryz.prog tabsL 18 [] [.sc] gs out
abbrev c57 : Ctr := fun gs out => FnC Tryz.prog tabsL 79 [] [.sc] gs out
abbrev c91 : Ctr := fun gs out => FnC Tryz.prog tabsL 87 [] [.sc] gs out
abbrev c24 : Ctr := fun gs out => FnC Tryz.prog tabsL 32 [] [.sc] gs out
abbrev c105 : Ctr := fun gs out => FnC Tryz.prog tabsL 70 [] [.sc] gs out
abbrev c37 : Ctr := fun gs out => FnC Tryz.prog tabsL 172 [] [.sc] gs out
abbrev c94 : Ctr := fun gs out => FnC Tryz.prog tabsL 98 [] [.sc] gs out
abbrev c104 : Ctr := fun gs out => FnC Tryz.prog tabsL 125 [] [.sc] gs out
abbrev c36 : Ctr := fun gs out => FnC Tryz.prog tabsL 171 [] [.sc] gs out
abbrev c92 : Ctr := fun gs out => FnC Tryz.prog tabsL 71 [] [.sc] gs out
abbrev c20 : Ctr := fun gs out => FnC Tryz.prog tabsL 59 [] [.sc] gs out
abbrev c2 : Ctr := fun gs out => FnC Tryz.prog tabsL 55 [] [.sc] gs out
abbrev c81 : Ctr := fun gs out => FnC Tryz.prog tabsL 85 [] [.sc] gs out
abbrev c112 : Ctr := fun gs out => FnC Tryz.prog tabsL 215 [] [.sc] gs out
abbrev c12 : Ctr := fun gs out => FnC Tryz.prog tabsL 132 [] [.sc] gs out
abbrev c114 : Ctr := fun gs out => FnC Tryz.prog tabsL 128 [] [.sc] gs out
abbrev c99 : Ctr := fun gs out => FnC Tryz.prog tabsL 73 [] [.sc] gs out
abbrev c1 : Ctr := fun gs out => FnC Tryz.prog tabsL 11 [] [.sc] gs out
abbrev c131 : Ctr := fun gs out => FnC Tryz.prog tabsL 192 [] [.sc] gs out
abbrev c22 : Ctr := fun gs out => FnC Tryz.prog tabsL 60 [] [.sc] gs out
abbrev c7 : Ctr := fun gs out => FnC Tryz.prog tabsL 93 [] [.sc] gs out
abbrev c8 : Ctr := fun gs out => FnC Tryz.prog tabsL 140 [] [.sc] gs out
abbrev c75 : Ctr := fun gs out => FnC Tryz.prog tabsL 122 [] [.sc] gs out
abbrev c51 : Ctr := fun gs out => FnC Tryz.prog tabsL 121 [] [.sc] gs out
abbrev c106 : Ctr := fun gs out => FnC Tryz.prog tabsL 123 [] [.sc] gs out
abbrev c47 : Ctr := fun gs out => FnC Tryz.prog tabsL 214 [] [.sc] gs out
abbrev c33 : Ctr := fun gs out => FnC Tryz.prog tabsL 168 [] [.sc] gs out
abbrev c45 : Ctr := fun gs out => FnC Tryz.prog tabsL 120 [] [.sc] gs out
abbrev c108 : Ctr := fun gs out => FnC Tryz.prog tabsL 178 [] [.sc] gs out
abbrev c93 : Ctr := fun gs out => FnC Tryz.prog tabsL 89 [] [.sc] gs out
abbrev c16 : Ctr := fun gs out => FnC Tryz.prog tabsL 58 [] [.sc] gs out
abbrev c27 : Ctr := fun gs out => FnC Tryz.prog tabsL 61 [] [.sc] gs out
abbrev c121 : Ctr := fun gs out => FnC Tryz.prog tabsL 75 [] [.sc] gs out
abbrev c28 : Ctr := fun gs out => FnC Tryz.prog tabsL 62 [] [.sc] gs out
abbrev c32 : Ctr := fun gs out => FnC Tryz.prog tabsL 167 [] [.sc] gs out
abbrev c15 : Ctr := fun gs out => FnC Tryz.prog tabsL 12 [] [.ag 24] gs out
abbrev c73 : Ctr := fun gs out => FnS Tryz.prog tabsL 65 [] s73.pre s73.posts gs out
abbrev c72 : Ctr := fun gs out => FnS Tryz.prog tabsL 65 [] s72.pre s72.posts gs out
abbrev c71 : Ctr := fun gs out => FnS Tryz.prog tabsL 65 [] s71.pre s71.posts gs out
abbrev c70 : Ctr := fun gs out => FnS Tryz.prog tabsL 65 [] s70.pre s70.posts gs out
abbrev c69 : Ctr := fun gs out => FnS Tryz.prog tabsL 65 [] s69.pre s69.posts gs out
abbrev c68 : Ctr := fun gs out => FnS Tryz.prog tabsL 65 [] s68.pre s68.posts gs out
abbrev c67 : Ctr := fun gs out => FnS Tryz.prog tabsL 65 [] s67.pre s67.posts gs out
abbrev c66 : Ctr := fun gs out => FnS Tryz.prog tabsL 65 [] s66.pre s66.posts gs out
abbrev c65 : Ctr := fun gs out => FnS Tryz.prog tabsL 65 [] s65.pre s65.posts gs out
abbrev c64 : Ctr := fun gs out => FnS Tryz.prog tabsL 65 [] s64.pre s64.posts gs out
abbrev c63 : Ctr := fun gs out => FnS Tryz.prog tabsL 65 [] s63.pre s63.posts gs out
abbrev c62 : Ctr := fun gs out => FnS Tryz.prog tabsL 65 [] s62.pre s62.posts gs out
abbrev c61 : Ctr := fun gs out => FnS Tryz.prog tabsL 65 [] s61.pre s61.posts gs out
abbrev c60 : Ctr := fun gs out => FnS Tryz.prog tabsL 65 [] s60.pre s60.posts gs out
abbrev c59 : Ctr := fun gs out => FnS Tryz.prog tabsL 65 [] s59.pre s59.posts gs out
abbrev c58 : Ctr := fun gs out => FnS Tryz.prog tabsL 65 [] s58.pre s58.posts gs out
abbrev c54 : Ctr := fun gs out => FnS Tryz.prog tabsL 65 [] s54.pre s54.posts gs out
abbrev c50 : Ctr := fun gs out => FnS Tryz.prog tabsL 65 [] s50.pre s50.posts gs out
abbrev c49 : Ctr := fun gs out => FnS Tryz.prog tabsL 65 [] s49.pre s49.posts gs out
abbrev c48 : Ctr := fun gs out => FnS Tryz.prog tabsL 65 [] s48.pre s48.posts gs out
abbrev c44 : Ctr := fun gs out => FnS Tryz.prog tabsL 65 [] s44.pre s44.posts gs out
abbrev c43 : Ctr := fun gs out => FnS Tryz.prog tabsL 65 [] s43.pre s43.posts gs out
abbrev c42 : Ctr := fun gs out => FnS Tryz.prog tabsL 65 [] s42.pre s42.posts gs out
abbrev c23 : Ctr := fun gs out => LoopC Tryz.prog tabsL b23 s23.pre s23.posts gs out
abbrev c135 : Ctr := fun gs out => LoopC Tryz.prog tabsL b135 s135.pre s135.posts gs out
abbrev c103 : Ctr := fun gs out => LoopC Tryz.prog tabsL b103 s103.pre s103.posts gs out
abbrev c119 : Ctr := fun gs out => LoopC Tryz.prog tabsL b119 s119.pre s119.posts gs out
abbrev c76 : Ctr := fun gs out => LoopC Tryz.prog tabsL b76 s76.pre s76.posts gs out
abbrev c38 : Ctr := fun gs out => LoopC Tryz.prog tabsL b38 s38.pre s38.posts gs out
abbrev c107 : Ctr := fun gs out => LoopC Tryz.prog tabsL b107 s107.pre s107.posts gs out
abbrev c14 : Ctr := fun gs out => LoopC Tryz.prog tabsL b14 s14.pre s14.posts gs out
abbrev c84 : Ctr := fun gs out => LoopC Tryz.prog tabsL b84 s84.pre s84.posts gs out
abbrev c123 : Ctr := fun gs out => LoopC Tryz.prog tabsL b123 s123.pre s123.posts gs out
abbrev c129 : Ctr := fun gs out => LoopC Tryz.prog tabsL b129 s129.pre s129.posts gs out
abbrev c113 : Ctr := fun gs out => LoopC Tryz.prog tabsL b113 s113.pre s113.posts gs out
abbrev c124 : Ctr := fun gs out => LoopC Tryz.prog tabsL b124 s124.pre s124.posts gs out
abbrev c122 : Ctr := fun gs out => LoopC Tryz.prog tabsL b122 s122.pre s122.posts gs out
abbrev c90 : Ctr := fun gs out => LoopC Tryz.prog tabsL b90 s90.pre s90.posts gs out
abbrev c25 : Ctr := fun gs out => LoopC Tryz.prog tabsL b25 s25.pre s25.posts gs out
abbrev c41 : Ctr := fun gs out => LoopC Tryz.prog tabsL b41 s41.pre s41.posts gs out
abbrev c132 : Ctr := fun gs out => LoopC Tryz.prog tabsL b132 s132.pre s132.posts gs out
abbrev c95 : Ctr := fun gs out => LoopC Tryz.prog tabsL b95 s95.pre s95.posts gs out
abbrev c116 : Ctr := fun gs out => LoopC Tryz.prog tabsL b116 s116.pre s116.posts gs out
abbrev c52 : Ctr := fun gs out => LoopC Tryz.prog tabsL b52 s52.pre s52.posts gs out
abbrev c82 : Ctr := fun gs out => LoopC Tryz.prog tabsL b82 s82.pre s82.posts gs out
abbrev c85 : Ctr := fun gs out => LoopC Tryz.prog tabsL b85 s85.pre s85.posts gs out
abbrev c77 : Ctr := fun gs out => LoopC Tryz.prog tabsL b77 s77.pre s77.posts gs out
abbrev c3 : Ctr := fun gs out => LoopC Tryz.prog tabsL b3 s3.pre s3.posts gs out
abbrev c134 : Ctr := fun gs out => LoopC Tryz.prog tabsL b134 s134.pre s134.posts gs out
abbrev c89 : Ctr := fun gs out => LoopC Tryz.prog tabsL b89 s89.pre s89.posts gs out
abbrev c11 : Ctr := fun gs out => LoopC Tryz.prog tabsL b11 s11.pre s11.posts gs out
abbrev c96 : Ctr := fun gs out => LoopC Tryz.prog tabsL b96 s96.pre s96.posts gs out
abbrev c30 : Ctr := fun gs out => LoopC Tryz.prog tabsL b30 s30.pre s30.posts gs out
abbrev c10 : Ctr := fun gs out => LoopC Tryz.prog tabsL b10 s10.pre s10.posts gs out
abbrev c5 : Ctr := fun gs out => LoopC Tryz.prog tabsL b5 s5.pre s5.posts gs out
abbrev c120 : Ctr := fun gs out => LoopC Tryz.prog tabsL b120 s120.pre s120.posts gs out
abbrev c100 : Ctr := fun gs out => LoopC Tryz.prog tabsL b100 s100.pre s100.posts gs out
abbrev c40 : Ctr := fun gs out => LoopC Tryz.prog tabsL b40 s40.pre s40.posts gs out
abbrev c78 : Ctr := fun gs out => LoopC Tryz.prog tabsL b78 s78.pre s78.posts gs out
abbrev c21 : Ctr := fun gs out => LoopC Tryz.prog tabsL b21 s21.pre s21.posts gs out
abbrev c18 : Ctr := fun gs out => LoopC Tryz.prog tabsL b18 s18.pre s18.posts gs out
abbrev c126 : Ctr := fun gs out => LoopC Tryz.prog tabsL b126 s126.pre s126.posts gs out
abbrev c109 : Ctr := fun gs out => LoopC Tryz.prog tabsL b109 s109.pre s109.posts gs out
abbrev c9 : Ctr := fun gs out => LoopC Tryz.prog tabsL b9 s9.pre s9.posts gs out
abbrev c56 : Ctr := fun gs out => LoopC Tryz.prog tabsL b56 s56.pre s56.posts gs out
noncomputable def Cs : List Ctr := [c0, c1, c2, c3, c4, c5, c6, c7, c8, c9, c10, c11, c12, c13, c14, c15, c16, c17, c18, c19, c20, c21, c22, c23, c24, c25, c26, c27, c28, c29, c30, c31, c32, c33, c34, c35, c36, c37, c38, c39, c40, c41, c42, c43, c44, c45, c46, c47, c48, c49, c50, c51, c52, c53, c54, c55, c56, c57, c58, c59, c60, c61, c62, c63, c64, c65, c66, c67, c68, c69, c70, c71, c72, c73, c74, c75, c76, c77, c78, c79, c80, c81, c82, c83, c84, c85, c86, c87, c88, c89, c90, c91, c92, c93, c94, c95, c96, c97, c98, c99, c100, c101, c102, c103, c104, c105, c106, c107, c108, c109, c110, c111, c112, c113, c114, c115, c116, c117, c118, c119, c120, c121, c122, c123, c124, c125, c126, c127, c128, c129, c130, c131, c132, c133, c134, c135]
noncomputable abbrev C := CofL Cs
noncomputable def pl : PList := PL.cons 65 (fun N => orP (orP (orP (orP (orP (orP (orP (orP (orP (orP (orP (orP (orP (orP (orP (orP (orP (orP (orP (orP (orP (orP (@pCallS N Tryz.prog [] s73) (@pCallS N Tryz.prog [] s72)) (@pCallS N Tryz.prog [] s71)) (@pCallS N Tryz.prog [] s70)) (@pCallS N Tryz.prog [] s69)) (@pCallS N Tryz.prog [] s68)) (@pCallS N Tryz.prog [] s67)) (@pCallS N Tryz.prog [] s66)) (@pCallS N Tryz.prog [] s65)) (@pCallS N Tryz.prog [] s64)) (@pCallS N Tryz.prog [] s63)) (@pCallS N Tryz.prog [] s62)) (@pCallS N Tryz.prog [] s61)) (@pCallS N Tryz.prog [] s60)) (@pCallS N Tryz.prog [] s59)) (@pCallS N Tryz.prog [] s58)) (@pCallS N Tryz.prog [] s54)) (@pCallS N Tryz.prog [] s50)) (@pCallS N Tryz.prog [] s49)) (@pCallS N Tryz.prog [] s48)) (@pCallS N Tryz.prog [] s44)) (@pCallS N Tryz.prog [] s43)) (@pCallS N Tryz.prog [] s42)) (PL.cons 12 (fun N => @pCall N Tryz.prog 15 [] [.ag 24]) (PL.cons 167 (fun N => @pCall N Tryz.prog 32 [] [.sc]) (PL.cons 62 (fun N => @pCall N Tryz.prog 28 [] [.sc]) (PL.cons 75 (fun N => @pCall N Tryz.prog 121 [] [.sc]) (PL.cons 61 (fun N => @pCall N Tryz.prog 27 [] [.sc]) (PL.cons 58 (fun N => @pCall N Tryz.prog 16 [] [.sc]) (PL.cons 89 (fun N => @pCall N Tryz.prog 93 [] [.sc]) (PL.cons 178 (fun N => @pCall N Tryz.prog 108 [] [.sc]) (PL.cons 120 (fun N => @pCall N Tryz.prog 45 [] [.sc]) (PL.cons 168 (fun N => @pCall N Tryz.prog 33 [] [.sc]) (PL.cons 214 (fun N => @pCall N Tryz.prog 47 [] [.sc]) (PL.cons 123 (fun N => @pCall N Tryz.prog 106 [] [.sc]) (PL.cons 121 (fun N => @pCall N Tryz.prog 51 [] [.sc]) (PL.cons 122 (fun N => @pCall N Tryz.prog 75 [] [.sc]) (PL.cons 140 (fun N => @pCall N Tryz.prog 8 [] [.sc]) (PL.cons 93 (fun N => @pCall N Tryz.prog 7 [] [.sc]) (PL.cons 60 (fun N => @pCall N Tryz.prog 22 [] [.sc]) (PL.cons 192 (fun N => @pCall N Tryz.prog 131 [] [.sc]) (PL.cons 11 (fun N => @pCall N Tryz.prog 1 [] [.sc]) (PL.cons 73 (fun N => @pCall N Tryz.prog 99 [] [.sc]) (PL.cons 128 (fun N => @pCall N Tryz.prog 114 [] [.sc]) (PL.cons 132 (fun N => @pCall N Tryz.prog 12 [] [.sc]) (PL.cons 215 (fun N => @pCall N Tryz.prog 112 [] [.sc]) (PL.cons 85 (fun N => @pCall N Tryz.prog 81 [] [.sc]) (PL.cons 55 (fun N => @pCall N Tryz.prog 2 [] [.sc]) (PL.cons 59 (fun N => @pCall N Tryz.prog 20 [] [.sc]) (PL.cons 71 (fun N => @pCall N Tryz.prog 92 [] [.sc]) (PL.cons 171 (fun N => @pCall N Tryz.prog 36 [] [.sc]) (PL.cons 125 (fun N => @pCall N Tryz.prog 104 [] [.sc]) (PL.cons 98 (fun N => @pCall N Tryz.prog 94 [] [.sc]) (PL.cons 172 (fun N => @pCall N Tryz.prog 37 [] [.sc]) (PL.cons 70 (fun N => @pCall N Tryz.prog 105 [] [.sc]) (PL.cons 32 (fun N => @pCall N Tryz.prog 24 [] [.sc]) (PL.cons 87 (fun N => @pCall N Tryz.prog 91 [] [.sc]) (PL.cons 79 (fun N => @pCall N Tryz.prog 57 [] [.sc]) (PL.cons 18 (fun N => @pCall N Tryz.prog 83 [] [.sc]) (PL.cons 57 (fun N => @pCall N Tryz.prog 13 [] [.sc]) (PL.cons 90 (fun N => @pCall N Tryz.prog 98 [] [.sc, .sc]) (PL.cons 193 (fun N => @pCall N Tryz.prog 117 [] [.sc]) (PL.cons 117 (fun N => @pCall N Tryz.prog 17 [] [.sc, .sc]) (PL.cons 16 (fun N => @pCall N Tryz.prog 125 [] [.sc]) (PL.cons 84 (fun N => @pCall N Tryz.prog 128 [] [.sc, .sc]) (PL.cons 13 (fun N => @pCall N Tryz.prog 19 [] [.ag 24]) (PL.cons 136 (fun N => @pCall N Tryz.prog 97 [] [.sc]) (PL.cons 135 (fun N => @pCall N Tryz.prog 130 [] [.sc]) (PL.cons 19 (fun N => @pCall N Tryz.prog 55 [] [.sc]) (PL.cons 126 (fun N => @pCall N Tryz.prog 110 [] [.sc]) (PL.cons 22 (fun N => @pCall N Tryz.prog 133 [] [.sc]) (PL.cons 23 (fun N => @pCall N Tryz.prog 87 [] [.sc, .sc]) (PL.cons 21 (fun N => @pCall N Tryz.prog 88 [] [.sc]) (PL.cons 175 (fun N => @pCall N Tryz.prog 53 [] [.sc]) (PL.cons 68 (fun N => @pCall N Tryz.prog 80 [] [.sc]) (PL.cons 80 (fun N => @pCall N Tryz.prog 6 [] [.sc]) (PL.cons 223 (fun N => @pCall N Tryz.prog 118 [] [.sc]) (PL.cons 67 (fun N => @pCall N Tryz.prog 74 [] [.sc]) (PL.cons 173 (fun N => @pCall N Tryz.prog 46 [] [.sc]) (PL.cons 20 (fun N => @pCall N Tryz.prog 127 [] [.ag 5, .sc]) (PL.cons 169 (fun N => @pCall N Tryz.prog 34 [] [.sc]) (PL.cons 179 (fun N => @pCall N Tryz.prog 111 [] [.sc]) (PL.cons 56 (fun N => @pCall N Tryz.prog 4 [] [.sc]) (PL.cons 15 (fun N => @pCall N Tryz.prog 79 [] [.sc]) (PL.cons 17 (fun N => @pCall N Tryz.prog 39 [] [.sc]) (PL.cons 165 (fun N => @pCall N Tryz.prog 29 [] [.sc]) (PL.cons 14 (fun N => @pCall N Tryz.prog 26 [] [.sc]) (PL.cons 170 (fun N => @pCall N Tryz.prog 35 [] [.sc]) (PL.cons 69 (fun N => @pCall N Tryz.prog 86 [] [.sc]) (PL.cons 127 (fun N => @pCall N Tryz.prog 101 [] [.sc]) (PL.cons 72 (fun N => @pCall N Tryz.prog 102 [] [.sc]) (PL.cons 137 (fun N => @pCall N Tryz.prog 115 [] [.sc]) (PL.cons 3 (fun N => @pCall N Tryz.prog 0 [] [.sc]) (PL.cons 166 (fun N => @pCall N Tryz.prog 31 [] [.sc]) (PL.cons 10 (fun _ => pClosed) (PL.cons 222 (fun _ => pNoEscape) (PL.nil))))))))))))))))))))))))))))))))))))))))))))))))))))))))))))))))))))))))))
end M
end Go.Proofs.YtckgelanagoenaaGreatDoor
