/- The codes, shapes and contracts. -/
import Derived.Test.YtamcdgfjjeldeaaGreatDoorKRBase
import Derived.Test.YtamcdgfjjeldeaaGreatDoorKDT
import Derived.Test.YtamcdgfjjeldeaaGreatDoorAbsSort
import Derived.Test.YtamcdgfjjeldeaaGreatDoorAbsTold
import Derived.Test.YtamcdgfjjeldeaaGreatDoorAbsTold2
namespace Go.Proofs.YtamcdgfjjeldeaaGreatDoor
open Go Go.Abs
set_option maxRecDepth 100000
set_option linter.unusedVariables false
set_option linter.unusedSimpArgs false
namespace D
theorem low : TabsLow tabsL Tryz.prog.globals.size := by
  rw [nGlobals]
  refine ⟨fun p hp => ?_, fun p hp => ?_⟩
  all_goals
    simp only [tabsL, List.mem_cons, List.mem_nil_iff, or_false] at hp
    rcases hp with rfl | rfl
    all_goals first | decide | rfl
noncomputable def code162 : Code := Tryz.f162.body.getD .skip
noncomputable def code197 : Code := Tryz.f197.body.getD .skip
noncomputable def code26 : Code := Tryz.f26.body.getD .skip
noncomputable def code3 : Code := Tryz.f3.body.getD .skip
noncomputable def code86 : Code := Tryz.f86.body.getD .skip
noncomputable def code69 : Code := Tryz.f69.body.getD .skip
noncomputable def code177 : Code := Tryz.f177.body.getD .skip
noncomputable def code30 : Code := Tryz.f30.body.getD .skip
noncomputable def code17 : Code := Tryz.f17.body.getD .skip
noncomputable def code64 : Code := Tryz.f64.body.getD .skip
noncomputable def code99 : Code := Tryz.f99.body.getD .skip
noncomputable def code163 : Code := Tryz.f163.body.getD .skip
noncomputable def code20 : Code := Tryz.f20.body.getD .skip
noncomputable def code81 : Code := Tryz.f81.body.getD .skip
noncomputable def code67 : Code := Tryz.f67.body.getD .skip
noncomputable def code124 : Code := Tryz.f124.body.getD .skip
noncomputable def code183 : Code := Tryz.f183.body.getD .skip
noncomputable def code66 : Code := Tryz.f66.body.getD .skip
noncomputable def code100 : Code := Tryz.f100.body.getD .skip
noncomputable def code129 : Code := Tryz.f129.body.getD .skip
noncomputable def code68 : Code := Tryz.f68.body.getD .skip
noncomputable def code21 : Code := Tryz.f21.body.getD .skip
noncomputable def code23 : Code := Tryz.f23.body.getD .skip
noncomputable def code126 : Code := Tryz.f126.body.getD .skip
noncomputable def code22 : Code := Tryz.f22.body.getD .skip
noncomputable def code19 : Code := Tryz.f19.body.getD .skip
noncomputable def code139 : Code := Tryz.f139.body.getD .skip
noncomputable def code29 : Code := Tryz.f29.body.getD .skip
noncomputable def code113 : Code := Tryz.f113.body.getD .skip
noncomputable def code65 : Code := Tryz.f65.body.getD .skip
noncomputable def code16 : Code := Tryz.f16.body.getD .skip
noncomputable def code117 : Code := Tryz.f117.body.getD .skip
noncomputable def code91 : Code := Tryz.f91.body.getD .skip
noncomputable def code90 : Code := Tryz.f90.body.getD .skip
noncomputable def code18 : Code := Tryz.f18.body.getD .skip
noncomputable def code57 : Code := Tryz.f57.body.getD .skip
noncomputable def code199 : Code := Tryz.f199.body.getD .skip
noncomputable def code87 : Code := Tryz.f87.body.getD .skip
noncomputable def code10 : Code := Tryz.f10.body.getD .skip
noncomputable def code109 : Code := Tryz.f109.body.getD .skip
noncomputable def code70 : Code := Tryz.f70.body.getD .skip
noncomputable def code125 : Code := Tryz.f125.body.getD .skip
noncomputable def code71 : Code := Tryz.f71.body.getD .skip
noncomputable def code88 : Code := Tryz.f88.body.getD .skip
noncomputable def code24 : Code := Tryz.f24.body.getD .skip
noncomputable def code59 : Code := Tryz.f59.body.getD .skip
noncomputable def code25 : Code := Tryz.f25.body.getD .skip
noncomputable def code11 : Code := Tryz.f11.body.getD .skip
noncomputable def code63 : Code := Tryz.f63.body.getD .skip
noncomputable def code161 : Code := Tryz.f161.body.getD .skip
noncomputable def code28 : Code := Tryz.f28.body.getD .skip
noncomputable def code110 : Code := Tryz.f110.body.getD .skip
noncomputable def code214 : Code := Tryz.f214.body.getD .skip
noncomputable def code89 : Code := Tryz.f89.body.getD .skip
noncomputable def code58 : Code := Tryz.f58.body.getD .skip
noncomputable def code61 : Code := Tryz.f61.body.getD .skip
noncomputable def code4 : Code := Tryz.f4.body.getD .skip
noncomputable def code116 : Code := Tryz.f116.body.getD .skip
noncomputable def code82 : Code := Tryz.f82.body.getD .skip
noncomputable def code62 : Code := Tryz.f62.body.getD .skip
noncomputable def code12 : Code := Tryz.f12.body.getD .skip
noncomputable def b5 : Code := bodyOf code22 [([], 0)]
noncomputable def b9 : Code := bodyOf code129 [([], 0)]
noncomputable def b92 : Code := bodyOf code23 [([], 0)]
noncomputable def b63 : Code := bodyOf code124 [([], 0)]
noncomputable def b50 : Code := bodyOf code58 [([], 0)]
noncomputable def b98 : Code := bodyOf code25 [([], 0)]
noncomputable def b17 : Code := bodyOf code117 [([], 0)]
noncomputable def b67 : Code := bodyOf code199 [([], 0)]
noncomputable def b60 : Code := bodyOf code26 [([], 0)]
noncomputable def b102 : Code := bodyOf code71 [([], 0)]
noncomputable def b55 : Code := bodyOf code24 [([], 0)]
noncomputable def b11 : Code := bodyOf code81 [([], 0)]
noncomputable def b90 : Code := bodyOf code113 [([], 1)]
noncomputable def b76 : Code := bodyOf code100 [([], 0)]
noncomputable def b89 : Code := bodyOf code113 [([], 0)]
noncomputable def b32 : Code := bodyOf code88 [([], 0)]
noncomputable def b77 : Code := bodyOf code91 [([], 0)]
noncomputable def b3 : Code := bodyOf code16 [([], 0)]
noncomputable def b84 : Code := bodyOf code63 [([], 0)]
noncomputable def b83 : Code := bodyOf code28 [([], 0)]
noncomputable def b34 : Code := bodyOf code4 [([], 0)]
noncomputable def b22 : Code := bodyOf code17 [([], 1)]
noncomputable def b93 : Code := bodyOf code23 [([], 1)]
noncomputable def b25 : Code := bodyOf code18 [([], 0)]
noncomputable def b73 : Code := bodyOf code163 [([], 0)]
noncomputable def b38 : Code := bodyOf code21 [([], 0)]
noncomputable def b10 : Code := bodyOf code99 [([], 0)]
noncomputable def b69 : Code := bodyOf code214 [([], 0)]
noncomputable def b81 : Code := bodyOf code30 [([], 0)]
noncomputable def b57 : Code := bodyOf code29 [([], 0)]
noncomputable def b14 : Code := bodyOf code17 [([], 0)]
noncomputable def b36 : Code := bodyOf code20 [([], 0)]
noncomputable def b43 : Code := bodyOf code109 [([], 0)]
noncomputable def b29 : Code := bodyOf code86 [([], 0)]
noncomputable def b94 : Code := bodyOf b93 [([], 0)]
noncomputable def b26 : Code := bodyOf b25 [([], 0)]
noncomputable def b99 : Code := bodyOf b98 [([], 0)]
def s5 : LoopSpec := ⟨5, { np := 3, n := 23, gn := 3, next := 4, slots := [(0, .nd 0), (5, .nd 0), (6, .nd 1), (7, .nd 2)], objs := [] },
  [(.ret, { np := 0, n := 23, gn := 3, next := 4, slots := [(2, .b false)], objs := [] }),
   (.exit 0, { np := 1, n := 23, gn := 3, next := 4, slots := [(0, .nd 0)], objs := [] })]⟩
def s9 : LoopSpec := ⟨9, { np := 2, n := 11, gn := 3, next := 4, slots := [(0, .nd 0), (3, .nd 1)], objs := [] },
  [(.exit 0, { np := 1, n := 11, gn := 3, next := 4, slots := [(3, .nd 0)], objs := [] })]⟩
def s92 : LoopSpec := ⟨92, { np := 3, n := 83, gn := 3, next := 4, slots := [(0, .nd 0), (15, .nd 0), (16, .nd 1), (17, .nd 2)], objs := [] },
  [(.ret, { np := 1, n := 83, gn := 3, next := 4, slots := [(2, .nils), (3, .nd 0)], objs := [] }),
   (.exit 0, { np := 1, n := 83, gn := 3, next := 4, slots := [(0, .nd 0)], objs := [] })]⟩
def s63 : LoopSpec := ⟨63, { np := 3, n := 41, gn := 3, next := 4, slots := [(0, .nd 0), (3, .nd 1), (4, .nd 2)], objs := [] },
  [(.exit 0, { np := 1, n := 41, gn := 3, next := 4, slots := [(3, .nd 0)], objs := [] })]⟩
def s50 : LoopSpec := ⟨50, { np := 7, n := 85, gn := 3, next := 7, slots := [(4, .p 4 0), (7, .p 5 0), (8, .nd 0), (43, .nd 1), (44, .nd 2), (45, .nd 3)], objs := [(5, .cells [.nd 4, .nd 5, .sv 6 6] 86 true false), (6, .vec 6 37 true), (4, .cells [.i .u64 0, .i .u64 0, .nils] 86 true false)] },
  [(.exit 0, { np := 3, n := 85, gn := 3, next := 7, slots := [(4, .p 4 0), (7, .p 5 0)], objs := [(5, .cells [.nd 0, .nd 1, .sv 6 2] 86 true false), (6, .vec 2 37 true), (4, .cells [.i .u64 0, .i .u64 0, .nils] 86 true false)] })]⟩
def s98 : LoopSpec := ⟨98, { np := 4, n := 71, gn := 3, next := 4, slots := [(0, .nd 0), (1, .nd 1), (13, .nd 2), (14, .nd 3)], objs := [] },
  [(.ret, { np := 0, n := 71, gn := 3, next := 4, slots := [(4, .b false)], objs := [] }),
   (.exit 0, { np := 0, n := 71, gn := 3, next := 4, slots := [], objs := [] })]⟩
def s17 : LoopSpec := ⟨17, { np := 3, n := 42, gn := 3, next := 4, slots := [(0, .nd 0), (15, .nd 0), (16, .nd 1), (17, .nd 2)], objs := [] },
  [(.ret, { np := 1, n := 42, gn := 3, next := 4, slots := [(2, .nd 0)], objs := [] }),
   (.exit 0, { np := 0, n := 42, gn := 3, next := 4, slots := [], objs := [] })]⟩
def s67 : LoopSpec := ⟨67, { np := 1, n := 14, gn := 3, next := 4, slots := [(0, .nd 0)], objs := [] },
  [(.ret, { np := 0, n := 14, gn := 3, next := 4, slots := [(2, .b false)], objs := [] }),
   (.exit 0, { np := 0, n := 14, gn := 3, next := 4, slots := [], objs := [] })]⟩
def s60 : LoopSpec := ⟨60, { np := 3, n := 67, gn := 3, next := 4, slots := [(0, .nd 0), (9, .nd 1), (10, .nd 2)], objs := [] },
  [(.ret, { np := 1, n := 67, gn := 3, next := 4, slots := [(2, .nd 0)], objs := [] }),
   (.exit 0, { np := 0, n := 67, gn := 3, next := 4, slots := [], objs := [] })]⟩
def s102 : LoopSpec := ⟨102, { np := 5, n := 32, gn := 3, next := 7, slots := [(2, .p 4 0), (3, .p 5 0), (14, .nd 0), (15, .nd 1), (16, .nd 2)], objs := [(5, .cells [.nd 3, .sv 6 4] 92 true false), (6, .vec 4 37 false), (4, .cells [.i .u64 0, .nils] 92 true false)] },
  [(.exit 0, { np := 2, n := 32, gn := 3, next := 7, slots := [(2, .p 4 0), (3, .p 5 0)], objs := [(5, .cells [.nd 0, .sv 6 1] 92 true false), (6, .vec 1 37 false), (4, .cells [.i .u64 0, .nils] 92 true false)] })]⟩
def s94 : LoopSpec := ⟨94, { np := 7, n := 83, gn := 3, next := 5, slots := [(7, .nd 0), (9, .p 4 0), (10, .nd 1), (27, .nd 2), (28, .nd 3), (29, .nd 4)], objs := [(4, .cells [.nd 5, .nd 6] 136 true false)] },
  [(.exit 4, { np := 11, n := 83, gn := 3, next := 5, slots := [(7, .nd 0), (9, .p 4 0), (10, .nd 1), (27, .nd 2), (28, .nd 3), (29, .nd 4), (38, .nd 0), (39, .nd 1), (40, .rx 5 0), (41, .rx 5 0), (42, .nd 6), (43, .nd 7), (44, .p 4 0), (45, .nd 8), (46, .nd 9), (47, .b false)], objs := [(4, .cells [.nd 8, .nd 10] 136 true false)] }),
   (.exit 4, { np := 7, n := 83, gn := 3, next := 5, slots := [(7, .nd 0), (9, .p 4 0), (10, .nd 1), (27, .nd 2), (28, .nd 3), (29, .nd 4), (38, .tup []), (39, .tup []), (40, .tup []), (41, .tup []), (42, .tup []), (43, .tup []), (44, .tup []), (45, .tup []), (46, .tup []), (47, .tup [])], objs := [(4, .cells [.nd 5, .nd 6] 136 true false)] })]⟩
def s55 : LoopSpec := ⟨55, { np := 4, n := 23, gn := 3, next := 5, slots := [(3, .sv 4 0), (6, .nd 1), (7, .nd 2), (8, .nd 3)], objs := [(4, .vec 0 136 true)] },
  [(.exit 0, { np := 1, n := 23, gn := 3, next := 5, slots := [(3, .sv 4 0)], objs := [(4, .vec 0 136 true)] })]⟩
def s11 : LoopSpec := ⟨11, { np := 4, n := 22, gn := 3, next := 6, slots := [(3, .p 4 0), (11, .nd 0), (12, .nd 1), (13, .nd 2)], objs := [(4, .cells [.p 4 0, .sv 5 3] 144 true false), (5, .vec 3 5 true)] },
  [(.exit 0, { np := 1, n := 22, gn := 3, next := 6, slots := [(3, .p 4 0)], objs := [(4, .cells [.p 4 0, .sv 5 0] 144 true false), (5, .vec 0 5 true)] })]⟩
def s90 : LoopSpec := ⟨90, { np := 5, n := 58, gn := 3, next := 5, slots := [(0, .nd 0), (6, .sv 4 1), (38, .nd 2), (39, .nd 3), (40, .nd 4)], objs := [(4, .vec 1 136 true)] },
  [(.exit 2, { np := 1, n := 58, gn := 3, next := 5, slots := [(6, .sv 4 0)], objs := [(4, .vec 0 136 true)] })]⟩
def s76 : LoopSpec := ⟨76, { np := 2, n := 22, gn := 3, next := 4, slots := [(0, .nd 0), (3, .nd 1)], objs := [] },
  [(.exit 0, { np := 2, n := 22, gn := 3, next := 4, slots := [(0, .nd 0), (3, .nd 1)], objs := [] })]⟩
def s89 : LoopSpec := ⟨89, { np := 5, n := 58, gn := 3, next := 5, slots := [(0, .nd 0), (1, .nd 1), (6, .sv 4 2), (12, .nd 0), (13, .nd 3), (14, .nd 4)], objs := [(4, .vec 2 136 true)] },
  [(.ret, { np := 0, n := 58, gn := 3, next := 4, slots := [(4, .nils), (5, .i .i64 3)], objs := [] }),
   (.exit 0, { np := 3, n := 58, gn := 3, next := 5, slots := [(0, .nd 0), (1, .nd 1), (6, .sv 4 2)], objs := [(4, .vec 2 136 true)] })]⟩
def s32 : LoopSpec := ⟨32, { np := 4, n := 26, gn := 3, next := 4, slots := [(0, .nd 0), (1, .nd 1), (12, .nd 2), (13, .nd 3)], objs := [] },
  [(.ret, { np := 0, n := 26, gn := 3, next := 4, slots := [(4, .b false)], objs := [] }),
   (.exit 0, { np := 0, n := 26, gn := 3, next := 4, slots := [], objs := [] })]⟩
def s77 : LoopSpec := ⟨77, { np := 4, n := 22, gn := 3, next := 4, slots := [(3, .nd 0), (10, .nd 1), (11, .nd 2), (12, .nd 3)], objs := [] },
  [(.exit 0, { np := 1, n := 22, gn := 3, next := 4, slots := [(3, .nd 0)], objs := [] })]⟩
def s3 : LoopSpec := ⟨3, { np := 3, n := 37, gn := 3, next := 4, slots := [(0, .nd 0), (5, .nd 0), (6, .nd 1), (7, .nd 2)], objs := [] },
  [(.ret, { np := 0, n := 37, gn := 3, next := 4, slots := [(2, .b false)], objs := [] }),
   (.exit 0, { np := 1, n := 37, gn := 3, next := 4, slots := [(0, .nd 0)], objs := [] })]⟩
def s84 : LoopSpec := ⟨84, { np := 7, n := 77, gn := 3, next := 8, slots := [(2, .p 4 0), (4, .p 5 0), (7, .p 6 0), (48, .nd 0), (49, .nd 1), (50, .nd 2)], objs := [(6, .cells [.nd 3, .nd 4, .sv 7 5] 99 true false), (7, .vec 5 136 true), (5, .cells [.i .u64 0, .i .u64 0, .nils] 99 true false), (4, .cells [.nd 3, .nd 6] 103 true false)] },
  [(.exit 0, { np := 3, n := 77, gn := 3, next := 7, slots := [(4, .p 4 0), (7, .p 5 0)], objs := [(5, .cells [.nd 0, .nd 1, .sv 6 2] 99 true false), (6, .vec 2 136 true), (4, .cells [.i .u64 0, .i .u64 0, .nils] 99 true false)] })]⟩
def s83 : LoopSpec := ⟨83, { np := 4, n := 22, gn := 3, next := 4, slots := [(1, .nd 0), (7, .nd 1), (8, .nd 2), (9, .nd 3)], objs := [] },
  [(.ret, { np := 1, n := 22, gn := 3, next := 4, slots := [(4, .nd 0)], objs := [] }),
   (.exit 0, { np := 0, n := 22, gn := 3, next := 4, slots := [], objs := [] })]⟩
def s34 : LoopSpec := ⟨34, { np := 6, n := 92, gn := 3, next := 4, slots := [(0, .nd 0), (5, .nd 1), (8, .nd 2), (9, .nd 3), (59, .nd 0), (60, .nd 4), (61, .nd 5)], objs := [] },
  [(.ret, { np := 0, n := 92, gn := 3, next := 4, slots := [(4, .b false)], objs := [] }),
   (.exit 0, { np := 4, n := 92, gn := 3, next := 4, slots := [(0, .nd 0), (5, .nd 1), (8, .nd 2), (9, .nd 3)], objs := [] })]⟩
def s22 : LoopSpec := ⟨22, { np := 4, n := 69, gn := 3, next := 7, slots := [(4, .p 4 0), (8, .sv 5 0), (41, .sv 6 1), (42, .nd 2), (43, .nd 3)], objs := [(6, .vec 1 128 true), (5, .vec 0 37 false), (4, .cells [.sv 6 1] 126 true false)] },
  [(.ret, { np := 0, n := 69, gn := 3, next := 4, slots := [(2, .nils), (3, .i .i64 14)], objs := [] }),
   (.exit 2, { np := 1, n := 69, gn := 3, next := 5, slots := [(8, .sv 4 0)], objs := [(4, .vec 0 37 false)] })]⟩
def s93 : LoopSpec := ⟨93, { np := 4, n := 83, gn := 3, next := 5, slots := [(7, .sv 4 0), (27, .nd 1), (28, .nd 2), (29, .nd 3)], objs := [(4, .vec 0 136 true)] },
  [(.ret, { np := 0, n := 83, gn := 3, next := 4, slots := [(2, .nils), (3, .i .i64 14)], objs := [] }),
   (.exit 2, { np := 1, n := 83, gn := 3, next := 5, slots := [(7, .sv 4 0)], objs := [(4, .vec 0 136 true)] })]⟩
def s26 : LoopSpec := ⟨26, { np := 8, n := 59, gn := 3, next := 5, slots := [(0, .nd 0), (5, .nd 1), (7, .p 4 0), (8, .nd 2), (9, .nd 3), (10, .nd 4), (11, .nd 5)], objs := [(4, .cells [.nd 6, .nd 7] 37 true false)] },
  [(.exit 2, { np := 11, n := 59, gn := 3, next := 5, slots := [(0, .nd 0), (5, .nd 1), (7, .p 4 0), (8, .nd 2), (9, .nd 3), (10, .nd 4), (11, .nd 5), (23, .nd 0), (24, .nd 1), (25, .rx 6 0), (26, .rx 6 0), (27, .nd 7), (28, .nd 8), (29, .nd 2), (30, .b false)], objs := [(4, .cells [.nd 9, .nd 10] 37 true false)] }),
   (.exit 2, { np := 8, n := 59, gn := 3, next := 5, slots := [(0, .nd 0), (5, .nd 1), (7, .p 4 0), (8, .nd 2), (9, .nd 3), (10, .nd 4), (11, .nd 5), (23, .tup []), (24, .tup []), (25, .tup []), (26, .tup []), (27, .tup []), (28, .tup []), (29, .tup []), (30, .tup [])], objs := [(4, .cells [.nd 6, .nd 7] 37 true false)] })]⟩
def s25 : LoopSpec := ⟨25, { np := 5, n := 59, gn := 3, next := 4, slots := [(0, .nd 0), (5, .nd 1), (9, .nd 2), (10, .nd 3), (11, .nd 4)], objs := [] },
  [(.ret, { np := 0, n := 59, gn := 3, next := 4, slots := [(4, .b false)], objs := [] }),
   (.exit 0, { np := 0, n := 59, gn := 3, next := 4, slots := [], objs := [] })]⟩
def s73 : LoopSpec := ⟨73, { np := 3, n := 37, gn := 3, next := 4, slots := [(0, .nd 0), (1, .nd 1), (5, .nd 2)], objs := [] },
  [(.ret, { np := 1, n := 37, gn := 3, next := 4, slots := [(4, .nd 0)], objs := [] }),
   (.exit 0, { np := 2, n := 37, gn := 3, next := 4, slots := [(0, .nd 0), (1, .nd 1)], objs := [] })]⟩
def s38 : LoopSpec := ⟨38, { np := 4, n := 42, gn := 3, next := 4, slots := [(3, .nd 0), (11, .nd 1), (12, .nd 2), (13, .nd 3)], objs := [] },
  [(.ret, { np := 1, n := 42, gn := 3, next := 4, slots := [(2, .nd 0)], objs := [] }),
   (.exit 0, { np := 0, n := 42, gn := 3, next := 4, slots := [], objs := [] })]⟩
def s99 : LoopSpec := ⟨99, { np := 11, n := 71, gn := 3, next := 4, slots := [(0, .nd 0), (1, .nd 1), (5, .nd 2), (13, .nd 3), (14, .nd 2), (29, .nd 0), (30, .nd 2), (31, .rx 4 0), (32, .rx 4 0), (33, .nd 5), (34, .nd 6), (35, .nd 1), (36, .nd 2), (37, .rx 7 0), (38, .rx 7 0), (39, .nd 8), (40, .nd 9), (41, .b false), (48, .nd 6), (49, .nd 10)], objs := [] },
  [(.ret, { np := 0, n := 71, gn := 3, next := 4, slots := [(4, .b false)], objs := [] }),
   (.exit 2, { np := 10, n := 71, gn := 3, next := 4, slots := [(0, .nd 0), (1, .nd 1), (13, .nd 2), (14, .nd 3), (29, .nd 0), (30, .nd 3), (31, .rx 4 0), (32, .rx 4 0), (33, .nd 5), (34, .nd 6), (35, .nd 1), (36, .nd 3), (37, .rx 7 0), (38, .rx 7 0), (39, .nd 8), (40, .nd 9), (41, .b false)], objs := [] })]⟩
def s10 : LoopSpec := ⟨10, { np := 4, n := 33, gn := 3, next := 5, slots := [(0, .nd 0), (3, .sv 4 1), (9, .nd 2), (10, .nd 3)], objs := [(4, .vec 1 5 false)] },
  [(.exit 0, { np := 1, n := 33, gn := 3, next := 5, slots := [(3, .sv 4 0)], objs := [(4, .vec 0 5 false)] })]⟩
def s69 : LoopSpec := ⟨69, { np := 5, n := 81, gn := 3, next := 4, slots := [(0, .nd 0), (4, .nd 1), (5, .nd 2), (6, .nd 3), (7, .nd 4)], objs := [] },
  [(.ret, { np := 0, n := 81, gn := 3, next := 4, slots := [(2, .i .i64 0)], objs := [] }),
   (.exit 0, { np := 3, n := 81, gn := 3, next := 4, slots := [(4, .nd 0), (5, .nd 1), (6, .nd 2)], objs := [] })]⟩
def s81 : LoopSpec := ⟨81, { np := 4, n := 21, gn := 3, next := 4, slots := [(0, .nd 0), (7, .nd 1), (8, .nd 2), (9, .nd 3)], objs := [] },
  [(.ret, { np := 0, n := 21, gn := 3, next := 4, slots := [(4, .b false)], objs := [] }),
   (.exit 0, { np := 0, n := 21, gn := 3, next := 4, slots := [], objs := [] })]⟩
def s57 : LoopSpec := ⟨57, { np := 4, n := 18, gn := 3, next := 5, slots := [(3, .sv 4 0), (6, .nd 1), (7, .nd 2), (8, .nd 3)], objs := [(4, .vec 0 140 true)] },
  [(.exit 0, { np := 1, n := 18, gn := 3, next := 5, slots := [(3, .sv 4 0)], objs := [(4, .vec 0 140 true)] })]⟩
def s14 : LoopSpec := ⟨14, { np := 4, n := 69, gn := 3, next := 6, slots := [(4, .p 4 0), (14, .nd 0), (15, .nd 1), (16, .nd 2)], objs := [(4, .cells [.sv 5 3] 126 true false), (5, .vec 3 128 true)] },
  [(.ret, { np := 1, n := 69, gn := 3, next := 4, slots := [(2, .nils), (3, .nd 0)], objs := [] }),
   (.exit 0, { np := 1, n := 69, gn := 3, next := 6, slots := [(4, .p 4 0)], objs := [(4, .cells [.sv 5 0] 126 true false), (5, .vec 0 128 true)] })]⟩
def s36 : LoopSpec := ⟨36, { np := 4, n := 20, gn := 3, next := 4, slots := [(1, .nd 0), (7, .nd 1), (8, .nd 2), (9, .nd 3)], objs := [] },
  [(.ret, { np := 1, n := 20, gn := 3, next := 4, slots := [(4, .nd 0)], objs := [] }),
   (.exit 0, { np := 0, n := 20, gn := 3, next := 4, slots := [], objs := [] })]⟩
def s43 : LoopSpec := ⟨43, { np := 3, n := 106, gn := 3, next := 5, slots := [(0, .nd 0), (1, .nd 1), (6, .sv 4 2)], objs := [(4, .vec 2 37 false)] },
  [(.ret, { np := 0, n := 106, gn := 3, next := 4, slots := [(4, .nils), (5, .i .i64 3)], objs := [] }),
   (.exit 0, { np := 1, n := 106, gn := 3, next := 5, slots := [(6, .sv 4 0)], objs := [(4, .vec 0 37 false)] })]⟩
def s29 : LoopSpec := ⟨29, { np := 4, n := 32, gn := 3, next := 4, slots := [(1, .nd 0), (2, .fn 87 [] []), (15, .nd 1), (16, .nd 2), (17, .nd 3)], objs := [] },
  [(.ret, { np := 0, n := 32, gn := 3, next := 4, slots := [(6, .b false)], objs := [] }),
   (.exit 0, { np := 0, n := 32, gn := 3, next := 4, slots := [], objs := [] })]⟩
abbrev c70 : Ctr := fun gs out => FnC Tryz.prog tabsL 162 [] [.sc] gs out
abbrev c20 : Ctr := fun gs out => FnC Tryz.prog tabsL 197 [] [.sc] gs out
abbrev c59 : Ctr := fun gs out => FnC Tryz.prog tabsL 26 [] [.sc] gs out
abbrev c1 : Ctr := fun gs out => FnC Tryz.prog tabsL 3 [] [.sc] gs out
abbrev c28 : Ctr := fun gs out => FnC Tryz.prog tabsL 86 [none, none, some 87] [.sc] gs out
abbrev c100 : Ctr := fun gs out => FnC Tryz.prog tabsL 69 [] [.sc] gs out
abbrev c19 : Ctr := fun gs out => FnC Tryz.prog tabsL 177 [] [.sc] gs out
abbrev c80 : Ctr := fun gs out => FnC Tryz.prog tabsL 30 [] [.sc] gs out
abbrev c13 : Ctr := fun gs out => FnC Tryz.prog tabsL 17 [] [.sc, .sc] gs out
abbrev c53 : Ctr := fun gs out => FnC Tryz.prog tabsL 64 [] [.ag 2] gs out
abbrev c7 : Ctr := fun gs out => FnC Tryz.prog tabsL 99 [] [.sc] gs out
abbrev c72 : Ctr := fun gs out => FnC Tryz.prog tabsL 163 [] [.sc] gs out
abbrev c0 : Ctr := fun gs out => sortP gs = some out
abbrev c35 : Ctr := fun gs out => FnC Tryz.prog tabsL 20 [] [.sc] gs out
abbrev c6 : Ctr := fun gs out => FnC Tryz.prog tabsL 81 [] [.sc] gs out
abbrev c95 : Ctr := fun gs out => FnC Tryz.prog tabsL 67 [] [.ag 3, .sc] gs out
abbrev c62 : Ctr := fun gs out => FnC Tryz.prog tabsL 124 [] [.sc] gs out
abbrev c65 : Ctr := fun gs out => FnC Tryz.prog tabsL 183 [] [.sc] gs out
abbrev c85 : Ctr := fun gs out => FnC Tryz.prog tabsL 66 [] [.ag 3] gs out
abbrev c75 : Ctr := fun gs out => FnC Tryz.prog tabsL 100 [] [.sc] gs out
abbrev c8 : Ctr := fun gs out => FnC Tryz.prog tabsL 129 [] [.sc] gs out
abbrev c96 : Ctr := fun gs out => FnC Tryz.prog tabsL 68 [] [.sc] gs out
abbrev c37 : Ctr := fun gs out => FnC Tryz.prog tabsL 21 [] [.sc] gs out
abbrev c91 : Ctr := fun gs out => FnC Tryz.prog tabsL 23 [] [.sc, .sc] gs out
abbrev c78 : Ctr := fun gs out => FnC Tryz.prog tabsL 126 [] [.sc] gs out
abbrev c4 : Ctr := fun gs out => FnC Tryz.prog tabsL 22 [] [.sc] gs out
abbrev c27 : Ctr := fun gs out => FnC Tryz.prog tabsL 19 [] [.sc] gs out
abbrev c18 : Ctr := fun gs out => FnC Tryz.prog tabsL 139 [] [.sc] gs out
abbrev c56 : Ctr := fun gs out => FnC Tryz.prog tabsL 29 [] [.sc] gs out
abbrev c88 : Ctr := fun gs out => FnC Tryz.prog tabsL 113 [] [.sc, .sc] gs out
abbrev c86 : Ctr := fun gs out => FnC Tryz.prog tabsL 65 [] [.ag 2, .sc] gs out
abbrev c2 : Ctr := fun gs out => FnC Tryz.prog tabsL 16 [] [.sc] gs out
abbrev c16 : Ctr := fun gs out => FnC Tryz.prog tabsL 117 [] [.sc] gs out
abbrev c74 : Ctr := fun gs out => FnC Tryz.prog tabsL 91 [] [.sc] gs out
abbrev c21 : Ctr := fun gs out => FnC Tryz.prog tabsL 213 [] [.sc] gs out
abbrev c79 : Ctr := fun gs out => FnC Tryz.prog tabsL 90 [] [.sc] gs out
abbrev c24 : Ctr := fun gs out => FnC Tryz.prog tabsL 18 [] [.sc] gs out
abbrev c40 : Ctr := fun gs out => FnC Tryz.prog tabsL 57 [] [.ag 3, .sc] gs out
abbrev c66 : Ctr := fun gs out => FnC Tryz.prog tabsL 199 [] [.sc] gs out
abbrev c30 : Ctr := fun gs out => FnC Tryz.prog tabsL 87 [] [.sc] gs out
abbrev c39 : Ctr := fun gs out => FnC Tryz.prog tabsL 10 [] [.sc] gs out
abbrev c42 : Ctr := fun gs out => FnC Tryz.prog tabsL 109 [] [.sc, .sc] gs out
abbrev c87 : Ctr := fun gs out => FnC Tryz.prog tabsL 70 [] [.sc] gs out
abbrev c71 : Ctr := fun gs out => FnC Tryz.prog tabsL 125 [] [.sc] gs out
abbrev c101 : Ctr := fun gs out => FnC Tryz.prog tabsL 71 [] [.ag 2] gs out
abbrev c45 : Ctr := fun gs out => FnC Tryz.prog tabsL 186 [] [.sc] gs out
abbrev c31 : Ctr := fun gs out => FnC Tryz.prog tabsL 88 [] [.sc] gs out
abbrev c54 : Ctr := fun gs out => FnC Tryz.prog tabsL 24 [] [.sc] gs out
abbrev c51 : Ctr := fun gs out => FnC Tryz.prog tabsL 59 [] [.ag 2, .sc] gs out
abbrev c97 : Ctr := fun gs out => FnC Tryz.prog tabsL 25 [] [.sc] gs out
abbrev c47 : Ctr := fun gs out => FnC Tryz.prog tabsL 11 [] [.sc] gs out
abbrev c58 : Ctr := fun gs out => FnC Tryz.prog tabsL 63 [] [.ag 3, .sc] gs out
abbrev c64 : Ctr := fun gs out => FnC Tryz.prog tabsL 161 [] [.sc] gs out
abbrev c82 : Ctr := fun gs out => FnC Tryz.prog tabsL 28 [] [.sc] gs out
abbrev c46 : Ctr := fun gs out => FnC Tryz.prog tabsL 133 [] [.sc, .sc] gs out
abbrev c44 : Ctr := fun gs out => FnC Tryz.prog tabsL 110 [] [.sc] gs out
abbrev c23 : Ctr := fun gs out => FnC Tryz.prog tabsL 123 [] [.sc] gs out
abbrev c68 : Ctr := fun gs out => FnC Tryz.prog tabsL 214 [] [.sc] gs out
abbrev c61 : Ctr := fun gs out => FnC Tryz.prog tabsL 89 [] [.sc] gs out
abbrev c48 : Ctr := fun gs out => FnC Tryz.prog tabsL 58 [] [.ag 3, .sc] gs out
abbrev c41 : Ctr := fun gs out => FnC Tryz.prog tabsL 61 [] [.sc] gs out
abbrev c33 : Ctr := fun gs out => FnC Tryz.prog tabsL 4 [] [.sc] gs out
abbrev c12 : Ctr := fun gs out => FnC Tryz.prog tabsL 116 [] [.sc] gs out
abbrev c15 : Ctr := fun gs out => FnC Tryz.prog tabsL 82 [] [.sc] gs out
abbrev c49 : Ctr := fun gs out => FnC Tryz.prog tabsL 62 [] [.sc] gs out
abbrev c52 : Ctr := fun gs out => FnC Tryz.prog tabsL 12 [] [.sc] gs out
abbrev c5 : Ctr := fun gs out => LoopC Tryz.prog tabsL b5 s5.pre s5.posts gs out
abbrev c9 : Ctr := fun gs out => LoopC Tryz.prog tabsL b9 s9.pre s9.posts gs out
abbrev c92 : Ctr := fun gs out => LoopC Tryz.prog tabsL b92 s92.pre s92.posts gs out
abbrev c63 : Ctr := fun gs out => LoopC Tryz.prog tabsL b63 s63.pre s63.posts gs out
abbrev c50 : Ctr := fun gs out => LoopC Tryz.prog tabsL b50 s50.pre s50.posts gs out
abbrev c98 : Ctr := fun gs out => LoopC Tryz.prog tabsL b98 s98.pre s98.posts gs out
abbrev c17 : Ctr := fun gs out => LoopC Tryz.prog tabsL b17 s17.pre s17.posts gs out
abbrev c67 : Ctr := fun gs out => LoopC Tryz.prog tabsL b67 s67.pre s67.posts gs out
abbrev c60 : Ctr := fun gs out => LoopC Tryz.prog tabsL b60 s60.pre s60.posts gs out
abbrev c102 : Ctr := fun gs out => LoopC Tryz.prog tabsL b102 s102.pre s102.posts gs out
abbrev c94 : Ctr := fun gs out => LoopC Tryz.prog tabsL b94 s94.pre s94.posts gs out
abbrev c55 : Ctr := fun gs out => LoopC Tryz.prog tabsL b55 s55.pre s55.posts gs out
abbrev c11 : Ctr := fun gs out => LoopC Tryz.prog tabsL b11 s11.pre s11.posts gs out
abbrev c90 : Ctr := fun gs out => LoopC Tryz.prog tabsL b90 s90.pre s90.posts gs out
abbrev c76 : Ctr := fun gs out => LoopC Tryz.prog tabsL b76 s76.pre s76.posts gs out
abbrev c89 : Ctr := fun gs out => LoopC Tryz.prog tabsL b89 s89.pre s89.posts gs out
abbrev c32 : Ctr := fun gs out => LoopC Tryz.prog tabsL b32 s32.pre s32.posts gs out
abbrev c77 : Ctr := fun gs out => LoopC Tryz.prog tabsL b77 s77.pre s77.posts gs out
abbrev c3 : Ctr := fun gs out => LoopC Tryz.prog tabsL b3 s3.pre s3.posts gs out
abbrev c84 : Ctr := fun gs out => LoopC Tryz.prog tabsL b84 s84.pre s84.posts gs out
abbrev c83 : Ctr := fun gs out => LoopC Tryz.prog tabsL b83 s83.pre s83.posts gs out
abbrev c34 : Ctr := fun gs out => LoopC Tryz.prog tabsL b34 s34.pre s34.posts gs out
abbrev c22 : Ctr := fun gs out => LoopC Tryz.prog tabsL b22 s22.pre s22.posts gs out
abbrev c93 : Ctr := fun gs out => LoopC Tryz.prog tabsL b93 s93.pre s93.posts gs out
abbrev c26 : Ctr := fun gs out => LoopC Tryz.prog tabsL b26 s26.pre s26.posts gs out
abbrev c25 : Ctr := fun gs out => LoopC Tryz.prog tabsL b25 s25.pre s25.posts gs out
abbrev c73 : Ctr := fun gs out => LoopC Tryz.prog tabsL b73 s73.pre s73.posts gs out
abbrev c38 : Ctr := fun gs out => LoopC Tryz.prog tabsL b38 s38.pre s38.posts gs out
abbrev c99 : Ctr := fun gs out => LoopC Tryz.prog tabsL b99 s99.pre s99.posts gs out
abbrev c10 : Ctr := fun gs out => LoopC Tryz.prog tabsL b10 s10.pre s10.posts gs out
abbrev c69 : Ctr := fun gs out => LoopC Tryz.prog tabsL b69 s69.pre s69.posts gs out
abbrev c81 : Ctr := fun gs out => LoopC Tryz.prog tabsL b81 s81.pre s81.posts gs out
abbrev c57 : Ctr := fun gs out => LoopC Tryz.prog tabsL b57 s57.pre s57.posts gs out
abbrev c14 : Ctr := fun gs out => LoopC Tryz.prog tabsL b14 s14.pre s14.posts gs out
abbrev c36 : Ctr := fun gs out => LoopC Tryz.prog tabsL b36 s36.pre s36.posts gs out
abbrev c43 : Ctr := fun gs out => LoopC Tryz.prog tabsL b43 s43.pre s43.posts gs out
abbrev c29 : Ctr := fun gs out => LoopC Tryz.prog tabsL b29 s29.pre s29.posts gs out
noncomputable def Cs : List Ctr := [c0, c1, c2, c3, c4, c5, c6, c7, c8, c9, c10, c11, c12, c13, c14, c15, c16, c17, c18, c19, c20, c21, c22, c23, c24, c25, c26, c27, c28, c29, c30, c31, c32, c33, c34, c35, c36, c37, c38, c39, c40, c41, c42, c43, c44, c45, c46, c47, c48, c49, c50, c51, c52, c53, c54, c55, c56, c57, c58, c59, c60, c61, c62, c63, c64, c65, c66, c67, c68, c69, c70, c71, c72, c73, c74, c75, c76, c77, c78, c79, c80, c81, c82, c83, c84, c85, c86, c87, c88, c89, c90, c91, c92, c93, c94, c95, c96, c97, c98, c99, c100, c101, c102]
noncomputable abbrev C := CofL Cs
noncomputable def pl : PList := PL.cons 12 (fun N => @pCall N Tryz.prog 52 [] [.sc]) (PL.cons 62 (fun N => @pCall N Tryz.prog 49 [] [.sc]) (PL.cons 82 (fun N => @pCall N Tryz.prog 15 [] [.sc]) (PL.cons 116 (fun N => @pCall N Tryz.prog 12 [] [.sc]) (PL.cons 4 (fun N => @pCall N Tryz.prog 33 [] [.sc]) (PL.cons 61 (fun N => @pCall N Tryz.prog 41 [] [.sc]) (PL.cons 58 (fun N => @pCall N Tryz.prog 48 [] [.ag 3, .sc]) (PL.cons 89 (fun N => @pCall N Tryz.prog 61 [] [.sc]) (PL.cons 214 (fun N => @pCall N Tryz.prog 68 [] [.sc]) (PL.cons 123 (fun N => @pCall N Tryz.prog 23 [] [.sc]) (PL.cons 110 (fun N => @pCall N Tryz.prog 44 [] [.sc]) (PL.cons 133 (fun N => @pCall N Tryz.prog 46 [] [.sc, .sc]) (PL.cons 28 (fun N => @pCall N Tryz.prog 82 [] [.sc]) (PL.cons 161 (fun N => @pCall N Tryz.prog 64 [] [.sc]) (PL.cons 63 (fun N => @pCall N Tryz.prog 58 [] [.ag 3, .sc]) (PL.cons 11 (fun N => @pCall N Tryz.prog 47 [] [.sc]) (PL.cons 25 (fun N => @pCall N Tryz.prog 97 [] [.sc]) (PL.cons 59 (fun N => @pCall N Tryz.prog 51 [] [.ag 2, .sc]) (PL.cons 24 (fun N => @pCall N Tryz.prog 54 [] [.sc]) (PL.cons 88 (fun N => @pCall N Tryz.prog 31 [] [.sc]) (PL.cons 186 (fun N => @pCall N Tryz.prog 45 [] [.sc]) (PL.cons 71 (fun N => @pCall N Tryz.prog 101 [] [.ag 2]) (PL.cons 125 (fun N => @pCall N Tryz.prog 71 [] [.sc]) (PL.cons 70 (fun N => @pCall N Tryz.prog 87 [] [.sc]) (PL.cons 109 (fun N => @pCall N Tryz.prog 42 [] [.sc, .sc]) (PL.cons 10 (fun N => @pCall N Tryz.prog 39 [] [.sc]) (PL.cons 87 (fun N => @pCall N Tryz.prog 30 [] [.sc]) (PL.cons 199 (fun N => @pCall N Tryz.prog 66 [] [.sc]) (PL.cons 57 (fun N => @pCall N Tryz.prog 40 [] [.ag 3, .sc]) (PL.cons 18 (fun N => @pCall N Tryz.prog 24 [] [.sc]) (PL.cons 90 (fun N => @pCall N Tryz.prog 79 [] [.sc]) (PL.cons 213 (fun N => @pCall N Tryz.prog 21 [] [.sc]) (PL.cons 91 (fun N => @pCall N Tryz.prog 74 [] [.sc]) (PL.cons 117 (fun N => @pCall N Tryz.prog 16 [] [.sc]) (PL.cons 16 (fun N => @pCall N Tryz.prog 2 [] [.sc]) (PL.cons 65 (fun N => @pCall N Tryz.prog 86 [] [.ag 2, .sc]) (PL.cons 113 (fun N => @pCall N Tryz.prog 88 [] [.sc, .sc]) (PL.cons 29 (fun N => @pCall N Tryz.prog 56 [] [.sc]) (PL.cons 139 (fun N => @pCall N Tryz.prog 18 [] [.sc]) (PL.cons 19 (fun N => @pCall N Tryz.prog 27 [] [.sc]) (PL.cons 22 (fun N => @pCall N Tryz.prog 4 [] [.sc]) (PL.cons 126 (fun N => @pCall N Tryz.prog 78 [] [.sc]) (PL.cons 23 (fun N => @pCall N Tryz.prog 91 [] [.sc, .sc]) (PL.cons 21 (fun N => @pCall N Tryz.prog 37 [] [.sc]) (PL.cons 68 (fun N => @pCall N Tryz.prog 96 [] [.sc]) (PL.cons 129 (fun N => @pCall N Tryz.prog 8 [] [.sc]) (PL.cons 100 (fun N => @pCall N Tryz.prog 75 [] [.sc]) (PL.cons 66 (fun N => @pCall N Tryz.prog 85 [] [.ag 3]) (PL.cons 183 (fun N => @pCall N Tryz.prog 65 [] [.sc]) (PL.cons 124 (fun N => @pCall N Tryz.prog 62 [] [.sc]) (PL.cons 67 (fun N => @pCall N Tryz.prog 95 [] [.ag 3, .sc]) (PL.cons 81 (fun N => @pCall N Tryz.prog 6 [] [.sc]) (PL.cons 20 (fun N => @pCall N Tryz.prog 35 [] [.sc]) (PL.cons 83 (fun N => @pSort N 0 84 126) (PL.cons 163 (fun N => @pCall N Tryz.prog 72 [] [.sc]) (PL.cons 99 (fun N => @pCall N Tryz.prog 7 [] [.sc]) (PL.cons 64 (fun N => @pCall N Tryz.prog 53 [] [.ag 2]) (PL.cons 17 (fun N => @pCall N Tryz.prog 13 [] [.sc, .sc]) (PL.cons 30 (fun N => @pCall N Tryz.prog 80 [] [.sc]) (PL.cons 177 (fun N => @pCall N Tryz.prog 19 [] [.sc]) (PL.cons 69 (fun N => @pCall N Tryz.prog 100 [] [.sc]) (PL.cons 86 (fun N => @pCall N Tryz.prog 28 [none, none, some 87] [.sc]) (PL.cons 3 (fun N => @pCall N Tryz.prog 1 [] [.sc]) (PL.cons 26 (fun N => @pCall N Tryz.prog 59 [] [.sc]) (PL.cons 197 (fun N => @pCall N Tryz.prog 20 [] [.sc]) (PL.cons 162 (fun N => @pCall N Tryz.prog 70 [] [.sc]) (PL.cons 56 (fun _ => pClosed) (PL.cons 15 (fun _ => pClosed) (PL.cons 164 (fun _ => pNoEscape) (PL.nil)))))))))))))))))))))))))))))))))))))))))))))))))))))))))))))))))))))
end D
end Go.Proofs.YtamcdgfjjeldeaaGreatDoor
