/- The codes, shapes and contracts. -/
import Derived.Test.YtamcdgfjjeldeaaGreatDoorKRBase
import Derived.Test.YtamcdgfjjeldeaaGreatDoorKET
import Derived.Test.YtamcdgfjjeldeaaGreatDoorAbsPl
import Derived.Test.YtamcdgfjjeldeaaGreatDoorAbsTold
namespace Go.Proofs.YtamcdgfjjeldeaaGreatDoor
open Go Go.Abs
set_option maxRecDepth 100000
set_option linter.unusedVariables false
set_option linter.unusedSimpArgs false
namespace E
theorem low : TabsLow tabsL Tryz.prog.globals.size := by
  rw [nGlobals]
  refine ⟨fun p hp => ?_, fun p hp => ?_⟩
  all_goals
    simp only [tabsL, List.mem_cons, List.mem_nil_iff, or_false] at hp
    rcases hp with rfl | rfl
    all_goals first | decide | rfl
noncomputable def code162 : Code := Tryz.f162.body.getD .skip
noncomputable def code166 : Code := Tryz.f166.body.getD .skip
noncomputable def code197 : Code := Tryz.f197.body.getD .skip
noncomputable def code26 : Code := Tryz.f26.body.getD .skip
noncomputable def code86 : Code := Tryz.f86.body.getD .skip
noncomputable def code177 : Code := Tryz.f177.body.getD .skip
noncomputable def code131 : Code := Tryz.f131.body.getD .skip
noncomputable def code33 : Code := Tryz.f33.body.getD .skip
noncomputable def code9 : Code := Tryz.f9.body.getD .skip
noncomputable def code99 : Code := Tryz.f99.body.getD .skip
noncomputable def code163 : Code := Tryz.f163.body.getD .skip
noncomputable def code50 : Code := Tryz.f50.body.getD .skip
noncomputable def code81 : Code := Tryz.f81.body.getD .skip
noncomputable def code8 : Code := Tryz.f8.body.getD .skip
noncomputable def code53 : Code := Tryz.f53.body.getD .skip
noncomputable def code40 : Code := Tryz.f40.body.getD .skip
noncomputable def code45 : Code := Tryz.f45.body.getD .skip
noncomputable def code124 : Code := Tryz.f124.body.getD .skip
noncomputable def code183 : Code := Tryz.f183.body.getD .skip
noncomputable def code129 : Code := Tryz.f129.body.getD .skip
noncomputable def code100 : Code := Tryz.f100.body.getD .skip
noncomputable def code36 : Code := Tryz.f36.body.getD .skip
noncomputable def code51 : Code := Tryz.f51.body.getD .skip
noncomputable def code21 : Code := Tryz.f21.body.getD .skip
noncomputable def code22 : Code := Tryz.f22.body.getD .skip
noncomputable def code126 : Code := Tryz.f126.body.getD .skip
noncomputable def code19 : Code := Tryz.f19.body.getD .skip
noncomputable def code43 : Code := Tryz.f43.body.getD .skip
noncomputable def code139 : Code := Tryz.f139.body.getD .skip
noncomputable def code29 : Code := Tryz.f29.body.getD .skip
noncomputable def code52 : Code := Tryz.f52.body.getD .skip
noncomputable def code16 : Code := Tryz.f16.body.getD .skip
noncomputable def code117 : Code := Tryz.f117.body.getD .skip
noncomputable def code91 : Code := Tryz.f91.body.getD .skip
noncomputable def code90 : Code := Tryz.f90.body.getD .skip
noncomputable def code104 : Code := Tryz.f104.body.getD .skip
noncomputable def code199 : Code := Tryz.f199.body.getD .skip
noncomputable def code87 : Code := Tryz.f87.body.getD .skip
noncomputable def code35 : Code := Tryz.f35.body.getD .skip
noncomputable def code32 : Code := Tryz.f32.body.getD .skip
noncomputable def code185 : Code := Tryz.f185.body.getD .skip
noncomputable def code98 : Code := Tryz.f98.body.getD .skip
noncomputable def code125 : Code := Tryz.f125.body.getD .skip
noncomputable def code88 : Code := Tryz.f88.body.getD .skip
noncomputable def code24 : Code := Tryz.f24.body.getD .skip
noncomputable def code55 : Code := Tryz.f55.body.getD .skip
noncomputable def code34 : Code := Tryz.f34.body.getD .skip
noncomputable def code106 : Code := Tryz.f106.body.getD .skip
noncomputable def code132 : Code := Tryz.f132.body.getD .skip
noncomputable def code128 : Code := Tryz.f128.body.getD .skip
noncomputable def code25 : Code := Tryz.f25.body.getD .skip
noncomputable def code161 : Code := Tryz.f161.body.getD .skip
noncomputable def code6 : Code := Tryz.f6.body.getD .skip
noncomputable def code214 : Code := Tryz.f214.body.getD .skip
noncomputable def code42 : Code := Tryz.f42.body.getD .skip
noncomputable def code89 : Code := Tryz.f89.body.getD .skip
noncomputable def code39 : Code := Tryz.f39.body.getD .skip
noncomputable def code44 : Code := Tryz.f44.body.getD .skip
noncomputable def code116 : Code := Tryz.f116.body.getD .skip
noncomputable def code82 : Code := Tryz.f82.body.getD .skip
noncomputable def code54 : Code := Tryz.f54.body.getD .skip
noncomputable def code200 : Code := Tryz.f200.body.getD .skip
noncomputable def code184 : Code := Tryz.f184.body.getD .skip
noncomputable def code165 : Code := Tryz.f165.body.getD .skip
noncomputable def code105 : Code := Tryz.f105.body.getD .skip
noncomputable def code96 : Code := Tryz.f96.body.getD .skip
noncomputable def code38 : Code := Tryz.f38.body.getD .skip
noncomputable def b23 : Code := bodyOf code163 [([], 0)]
noncomputable def b73 : Code := bodyOf code199 [([], 0)]
noncomputable def b40 : Code := bodyOf code6 [([], 0)]
noncomputable def b106 : Code := bodyOf code86 [([], 0)]
noncomputable def b63 : Code := bodyOf code29 [([], 0)]
noncomputable def b35 : Code := bodyOf code98 [([], 1)]
noncomputable def b84 : Code := bodyOf code54 [([], 0)]
noncomputable def b10 : Code := bodyOf code129 [([], 0)]
noncomputable def b59 : Code := bodyOf code50 [([], 0)]
noncomputable def b14 : Code := bodyOf code34 [([], 0)]
noncomputable def b51 : Code := bodyOf code21 [([], 0)]
noncomputable def b93 : Code := bodyOf code55 [([], 0)]
noncomputable def b96 : Code := bodyOf code132 [([], 0)]
noncomputable def b43 : Code := bodyOf code16 [([], 0)]
noncomputable def b25 : Code := bodyOf code35 [([], 0)]
noncomputable def b12 : Code := bodyOf code33 [([0], 0)]
noncomputable def b101 : Code := bodyOf code25 [([], 0)]
noncomputable def b78 : Code := bodyOf code91 [([], 0)]
noncomputable def b39 : Code := bodyOf code40 [([], 0)]
noncomputable def b81 : Code := bodyOf code104 [([], 0)]
noncomputable def b88 : Code := bodyOf code165 [([], 0)]
noncomputable def b54 : Code := bodyOf code117 [([], 0)]
noncomputable def b69 : Code := bodyOf code124 [([], 0)]
noncomputable def b2 : Code := bodyOf code32 [([], 0)]
noncomputable def b17 : Code := bodyOf code43 [([], 0)]
noncomputable def b66 : Code := bodyOf code26 [([], 0)]
noncomputable def b7 : Code := bodyOf code42 [([], 0)]
noncomputable def b29 : Code := bodyOf code128 [([], 0)]
noncomputable def b61 : Code := bodyOf code24 [([], 0)]
noncomputable def b19 : Code := bodyOf code100 [([], 0)]
noncomputable def b47 : Code := bodyOf code81 [([], 0)]
noncomputable def b34 : Code := bodyOf code98 [([], 0)]
noncomputable def b31 : Code := bodyOf code36 [([], 0)]
noncomputable def b75 : Code := bodyOf code214 [([], 0)]
noncomputable def b45 : Code := bodyOf code22 [([], 0)]
noncomputable def b109 : Code := bodyOf code88 [([], 0)]
noncomputable def b11 : Code := bodyOf code99 [([], 0)]
noncomputable def b102 : Code := bodyOf b101 [([], 0)]
def s23 : LoopSpec := ⟨23, { np := 3, n := 37, gn := 3, next := 4, slots := [(0, .nd 0), (1, .nd 1), (5, .nd 2)], objs := [] },
  [(.ret, { np := 1, n := 37, gn := 3, next := 4, slots := [(4, .nd 0)], objs := [] }),
   (.exit 0, { np := 2, n := 37, gn := 3, next := 4, slots := [(0, .nd 0), (1, .nd 1)], objs := [] })]⟩
def s73 : LoopSpec := ⟨73, { np := 1, n := 14, gn := 3, next := 4, slots := [(0, .nd 0)], objs := [] },
  [(.ret, { np := 0, n := 14, gn := 3, next := 4, slots := [(2, .b false)], objs := [] }),
   (.exit 0, { np := 0, n := 14, gn := 3, next := 4, slots := [], objs := [] })]⟩
def s40 : LoopSpec := ⟨40, { np := 4, n := 151, gn := 3, next := 4, slots := [(1, .nd 0), (128, .nd 1), (129, .nd 2), (130, .nd 3)], objs := [] },
  [(.ret, { np := 0, n := 151, gn := 3, next := 4, slots := [(8, .b false)], objs := [] }),
   (.exit 0, { np := 0, n := 151, gn := 3, next := 4, slots := [], objs := [] })]⟩
def s106 : LoopSpec := ⟨106, { np := 4, n := 32, gn := 3, next := 4, slots := [(1, .nd 0), (2, .fn 87 [] []), (15, .nd 1), (16, .nd 2), (17, .nd 3)], objs := [] },
  [(.ret, { np := 0, n := 32, gn := 3, next := 4, slots := [(6, .b false)], objs := [] }),
   (.exit 0, { np := 0, n := 32, gn := 3, next := 4, slots := [], objs := [] })]⟩
def s63 : LoopSpec := ⟨63, { np := 4, n := 18, gn := 3, next := 5, slots := [(3, .sv 4 0), (6, .nd 1), (7, .nd 2), (8, .nd 3)], objs := [(4, .vec 0 140 true)] },
  [(.exit 0, { np := 1, n := 18, gn := 3, next := 5, slots := [(3, .sv 4 0)], objs := [(4, .vec 0 140 true)] })]⟩
def s35 : LoopSpec := ⟨35, { np := 5, n := 73, gn := 3, next := 4, slots := [(0, .nd 0), (5, .nd 1), (7, .nd 2), (8, .nd 3), (9, .nd 4)], objs := [] },
  [(.exit 2, { np := 2, n := 73, gn := 3, next := 4, slots := [(5, .nd 0), (7, .nd 1)], objs := [] })]⟩
def s84 : LoopSpec := ⟨84, { np := 6, n := 56, gn := 3, next := 6, slots := [(0, .p 4 0), (6, .sv 5 0), (7, .nd 1), (25, .nd 2), (26, .nd 3)], objs := [(4, .cells [.nd 4, .nd 5] 151 true false), (5, .vec 0 37 false)], ka := 1 },
  [(.ret, { np := 3, n := 56, gn := 3, next := 5, slots := [(2, .nils), (3, .nd 0)], objs := [(4, .cells [.nd 1, .nd 2] 151 true false)], ka := 1 }),
   (.exit 0, { np := 3, n := 56, gn := 3, next := 6, slots := [(6, .sv 5 0)], objs := [(4, .cells [.nd 1, .nd 2] 151 true false), (5, .vec 0 37 false)], ka := 1 })]⟩
def s10 : LoopSpec := ⟨10, { np := 2, n := 11, gn := 3, next := 4, slots := [(0, .nd 0), (3, .nd 1)], objs := [] },
  [(.exit 0, { np := 1, n := 11, gn := 3, next := 4, slots := [(3, .nd 0)], objs := [] })]⟩
def s59 : LoopSpec := ⟨59, { np := 5, n := 42, gn := 3, next := 6, slots := [(5, .p 4 0), (6, .nd 0), (22, .nd 1), (23, .nd 2), (24, .nd 3)], objs := [(4, .cells [.p 4 0, .sv 5 4] 144 true false), (5, .vec 4 5 true)] },
  [(.exit 0, { np := 1, n := 42, gn := 3, next := 6, slots := [(5, .p 4 0)], objs := [(4, .cells [.p 4 0, .sv 5 0] 144 true false), (5, .vec 0 5 true)] })]⟩
def s14 : LoopSpec := ⟨14, { np := 4, n := 45, gn := 3, next := 4, slots := [(0, .nd 0), (4, .nd 1), (7, .nd 2), (8, .nd 3)], objs := [] },
  [(.ret, { np := 0, n := 45, gn := 3, next := 4, slots := [(2, .s []), (3, .i .i64 7)], objs := [] }),
   (.exit 0, { np := 1, n := 45, gn := 3, next := 4, slots := [(4, .nd 0)], objs := [] })]⟩
def s51 : LoopSpec := ⟨51, { np := 4, n := 42, gn := 3, next := 4, slots := [(3, .nd 0), (11, .nd 1), (12, .nd 2), (13, .nd 3)], objs := [] },
  [(.ret, { np := 1, n := 42, gn := 3, next := 4, slots := [(2, .nd 0)], objs := [] }),
   (.exit 0, { np := 0, n := 42, gn := 3, next := 4, slots := [], objs := [] })]⟩
def s93 : LoopSpec := ⟨93, { np := 5, n := 81, gn := 3, next := 5, slots := [(0, .nd 0), (5, .nd 1), (8, .sv 4 2), (9, .nd 3), (10, .nd 4)], objs := [(4, .vec 2 136 true)] },
  [(.ret, { np := 1, n := 81, gn := 3, next := 4, slots := [(2, .nils), (3, .s []), (4, .nd 0)], objs := [] }),
   (.exit 0, { np := 2, n := 81, gn := 3, next := 5, slots := [(0, .nd 0), (8, .sv 4 1)], objs := [(4, .vec 1 136 true)] })]⟩
def s96 : LoopSpec := ⟨96, { np := 4, n := 63, gn := 3, next := 5, slots := [(0, .nd 0), (5, .nd 1), (8, .sv 4 2), (9, .nd 3)], objs := [(4, .vec 2 140 true)] },
  [(.ret, { np := 1, n := 63, gn := 3, next := 4, slots := [(2, .nils), (3, .s []), (4, .nd 0)], objs := [] }),
   (.exit 0, { np := 2, n := 63, gn := 3, next := 5, slots := [(0, .nd 0), (8, .sv 4 1)], objs := [(4, .vec 1 140 true)] })]⟩
def s43 : LoopSpec := ⟨43, { np := 3, n := 37, gn := 3, next := 4, slots := [(0, .nd 0), (5, .nd 0), (6, .nd 1), (7, .nd 2)], objs := [] },
  [(.ret, { np := 0, n := 37, gn := 3, next := 4, slots := [(2, .b false)], objs := [] }),
   (.exit 0, { np := 1, n := 37, gn := 3, next := 4, slots := [(0, .nd 0)], objs := [] })]⟩
def s25 : LoopSpec := ⟨25, { np := 4, n := 32, gn := 3, next := 6, slots := [(4, .sv 4 0), (5, .p 5 0), (6, .nd 1)], objs := [(5, .cells [.nd 2, .nd 3] 151 true false), (4, .vec 0 9 true)] },
  [(.ret, { np := 1, n := 32, gn := 3, next := 4, slots := [(2, .nils), (3, .nd 0)], objs := [] }),
   (.exit 0, { np := 1, n := 32, gn := 3, next := 5, slots := [(4, .sv 4 0)], objs := [(4, .vec 0 9 true)] })]⟩
def s12 : LoopSpec := ⟨12, { np := 5, n := 29, gn := 3, next := 6, slots := [(4, .p 4 0), (5, .nd 0), (8, .nd 1), (9, .nd 2), (10, .nd 3)], objs := [(4, .cells [.p 4 0, .sv 5 4] 144 true false), (5, .vec 4 5 true)] },
  [(.ret, { np := 0, n := 29, gn := 3, next := 4, slots := [(2, .s []), (3, .i .i64 7)], objs := [] }),
   (.exit 0, { np := 1, n := 29, gn := 3, next := 6, slots := [(4, .p 4 0)], objs := [(4, .cells [.p 4 0, .sv 5 0] 144 true false), (5, .vec 0 5 true)] })]⟩
def s101 : LoopSpec := ⟨101, { np := 4, n := 71, gn := 3, next := 4, slots := [(0, .nd 0), (1, .nd 1), (13, .nd 2), (14, .nd 3)], objs := [] },
  [(.ret, { np := 0, n := 71, gn := 3, next := 4, slots := [(4, .b false)], objs := [] }),
   (.exit 0, { np := 0, n := 71, gn := 3, next := 4, slots := [], objs := [] })]⟩
def s78 : LoopSpec := ⟨78, { np := 4, n := 22, gn := 3, next := 4, slots := [(3, .nd 0), (10, .nd 1), (11, .nd 2), (12, .nd 3)], objs := [] },
  [(.exit 0, { np := 1, n := 22, gn := 3, next := 4, slots := [(3, .nd 0)], objs := [] })]⟩
def s39 : LoopSpec := ⟨39, { np := 4, n := 26, gn := 3, next := 4, slots := [(0, .nd 0), (1, .nd 1), (12, .nd 2), (13, .nd 3)], objs := [] },
  [(.ret, { np := 0, n := 26, gn := 3, next := 4, slots := [(4, .b false)], objs := [] }),
   (.exit 0, { np := 0, n := 26, gn := 3, next := 4, slots := [], objs := [] })]⟩
def s81 : LoopSpec := ⟨81, { np := 4, n := 40, gn := 3, next := 4, slots := [(0, .nd 0), (3, .nd 1), (11, .nd 0), (12, .nd 2), (13, .nd 3)], objs := [] },
  [(.exit 0, { np := 1, n := 40, gn := 3, next := 4, slots := [(3, .nd 0)], objs := [] })]⟩
def s88 : LoopSpec := ⟨88, { np := 5, n := 60, gn := 3, next := 6, slots := [(0, .p 4 0), (7, .sv 5 0), (28, .nd 1), (29, .nd 2)], objs := [(4, .cells [.nd 3, .nd 4] 151 true false), (5, .vec 0 50 false)], ka := 1 },
  [(.ret, { np := 3, n := 60, gn := 3, next := 5, slots := [(2, .nils), (3, .nd 0)], objs := [(4, .cells [.nd 1, .nd 2] 151 true false)], ka := 1 }),
   (.exit 0, { np := 3, n := 60, gn := 3, next := 6, slots := [(7, .sv 5 0)], objs := [(4, .cells [.nd 1, .nd 2] 151 true false), (5, .vec 0 50 false)], ka := 1 })]⟩
def s54 : LoopSpec := ⟨54, { np := 3, n := 42, gn := 3, next := 4, slots := [(0, .nd 0), (15, .nd 0), (16, .nd 1), (17, .nd 2)], objs := [] },
  [(.ret, { np := 1, n := 42, gn := 3, next := 4, slots := [(2, .nd 0)], objs := [] }),
   (.exit 0, { np := 0, n := 42, gn := 3, next := 4, slots := [], objs := [] })]⟩
def s69 : LoopSpec := ⟨69, { np := 3, n := 41, gn := 3, next := 4, slots := [(0, .nd 0), (3, .nd 1), (4, .nd 2)], objs := [] },
  [(.exit 0, { np := 1, n := 41, gn := 3, next := 4, slots := [(3, .nd 0)], objs := [] })]⟩
def s2 : LoopSpec := ⟨2, { np := 3, n := 18, gn := 3, next := 4, slots := [(0, .nd 0), (5, .nd 0), (6, .nd 1), (7, .nd 2)], objs := [] },
  [(.ret, { np := 0, n := 18, gn := 3, next := 4, slots := [(2, .b false)], objs := [] }),
   (.exit 0, { np := 1, n := 18, gn := 3, next := 4, slots := [(0, .nd 0)], objs := [] })]⟩
def s17 : LoopSpec := ⟨17, { np := 3, n := 31, gn := 3, next := 4, slots := [(0, .nd 0), (1, .nd 1), (5, .nd 2)], objs := [] },
  [(.ret, { np := 1, n := 31, gn := 3, next := 4, slots := [(4, .nd 0)], objs := [] }),
   (.exit 0, { np := 2, n := 31, gn := 3, next := 4, slots := [(0, .nd 0), (1, .nd 1)], objs := [] })]⟩
def s66 : LoopSpec := ⟨66, { np := 3, n := 67, gn := 3, next := 4, slots := [(0, .nd 0), (9, .nd 1), (10, .nd 2)], objs := [] },
  [(.ret, { np := 1, n := 67, gn := 3, next := 4, slots := [(2, .nd 0)], objs := [] }),
   (.exit 0, { np := 0, n := 67, gn := 3, next := 4, slots := [], objs := [] })]⟩
def s7 : LoopSpec := ⟨7, { np := 3, n := 28, gn := 3, next := 4, slots := [(0, .nd 0), (1, .nd 1), (5, .nd 2)], objs := [] },
  [(.exit 0, { np := 1, n := 28, gn := 3, next := 4, slots := [(5, .nd 0)], objs := [] })]⟩
def s29 : LoopSpec := ⟨29, { np := 4, n := 50, gn := 3, next := 4, slots := [(0, .nd 0), (5, .nd 1), (9, .nd 2), (10, .nd 3)], objs := [] },
  [(.ret, { np := 3, n := 50, gn := 3, next := 4, slots := [(2, .nd 0), (3, .nd 1), (4, .nd 2)], objs := [] }),
   (.exit 0, { np := 1, n := 50, gn := 3, next := 4, slots := [(0, .nd 0)], objs := [] })]⟩
def s61 : LoopSpec := ⟨61, { np := 4, n := 23, gn := 3, next := 5, slots := [(3, .sv 4 0), (6, .nd 1), (7, .nd 2), (8, .nd 3)], objs := [(4, .vec 0 136 true)] },
  [(.exit 0, { np := 1, n := 23, gn := 3, next := 5, slots := [(3, .sv 4 0)], objs := [(4, .vec 0 136 true)] })]⟩
def s102 : LoopSpec := ⟨102, { np := 11, n := 71, gn := 3, next := 4, slots := [(0, .nd 0), (1, .nd 1), (5, .nd 2), (13, .nd 3), (14, .nd 2), (29, .nd 0), (30, .nd 2), (31, .rx 4 0), (32, .rx 4 0), (33, .nd 5), (34, .nd 6), (35, .nd 1), (36, .nd 2), (37, .rx 7 0), (38, .rx 7 0), (39, .nd 8), (40, .nd 9), (41, .b false), (48, .nd 6), (49, .nd 10)], objs := [] },
  [(.ret, { np := 0, n := 71, gn := 3, next := 4, slots := [(4, .b false)], objs := [] }),
   (.exit 2, { np := 10, n := 71, gn := 3, next := 4, slots := [(0, .nd 0), (1, .nd 1), (13, .nd 2), (14, .nd 3), (29, .nd 0), (30, .nd 3), (31, .rx 4 0), (32, .rx 4 0), (33, .nd 5), (34, .nd 6), (35, .nd 1), (36, .nd 3), (37, .rx 7 0), (38, .rx 7 0), (39, .nd 8), (40, .nd 9), (41, .b false)], objs := [] })]⟩
def s19 : LoopSpec := ⟨19, { np := 2, n := 22, gn := 3, next := 4, slots := [(0, .nd 0), (3, .nd 1)], objs := [] },
  [(.exit 0, { np := 2, n := 22, gn := 3, next := 4, slots := [(0, .nd 0), (3, .nd 1)], objs := [] })]⟩
def s47 : LoopSpec := ⟨47, { np := 4, n := 22, gn := 3, next := 6, slots := [(3, .p 4 0), (11, .nd 0), (12, .nd 1), (13, .nd 2)], objs := [(4, .cells [.p 4 0, .sv 5 3] 144 true false), (5, .vec 3 5 true)] },
  [(.exit 0, { np := 1, n := 22, gn := 3, next := 6, slots := [(3, .p 4 0)], objs := [(4, .cells [.p 4 0, .sv 5 0] 144 true false), (5, .vec 0 5 true)] })]⟩
def s34 : LoopSpec := ⟨34, { np := 3, n := 73, gn := 3, next := 4, slots := [(0, .nd 0), (5, .nd 1), (6, .nd 2)], objs := [] },
  [(.exit 0, { np := 2, n := 73, gn := 3, next := 4, slots := [(0, .nd 0), (5, .nd 1)], objs := [] })]⟩
def s31 : LoopSpec := ⟨31, { np := 3, n := 31, gn := 3, next := 5, slots := [(0, .nd 0), (4, .sv 4 1), (5, .nd 2)], objs := [(4, .vec 1 9 true)] },
  [(.ret, { np := 1, n := 31, gn := 3, next := 4, slots := [(2, .nils), (3, .nd 0)], objs := [] }),
   (.exit 0, { np := 1, n := 31, gn := 3, next := 5, slots := [(4, .sv 4 0)], objs := [(4, .vec 0 9 true)] })]⟩
def s75 : LoopSpec := ⟨75, { np := 5, n := 81, gn := 3, next := 4, slots := [(0, .nd 0), (4, .nd 1), (5, .nd 2), (6, .nd 3), (7, .nd 4)], objs := [] },
  [(.ret, { np := 0, n := 81, gn := 3, next := 4, slots := [(2, .i .i64 0)], objs := [] }),
   (.exit 0, { np := 3, n := 81, gn := 3, next := 4, slots := [(4, .nd 0), (5, .nd 1), (6, .nd 2)], objs := [] })]⟩
def s45 : LoopSpec := ⟨45, { np := 3, n := 23, gn := 3, next := 4, slots := [(0, .nd 0), (5, .nd 0), (6, .nd 1), (7, .nd 2)], objs := [] },
  [(.ret, { np := 0, n := 23, gn := 3, next := 4, slots := [(2, .b false)], objs := [] }),
   (.exit 0, { np := 1, n := 23, gn := 3, next := 4, slots := [(0, .nd 0)], objs := [] })]⟩
def s109 : LoopSpec := ⟨109, { np := 4, n := 26, gn := 3, next := 4, slots := [(0, .nd 0), (1, .nd 1), (12, .nd 2), (13, .nd 3)], objs := [] },
  [(.ret, { np := 0, n := 26, gn := 3, next := 4, slots := [(4, .b false)], objs := [] }),
   (.exit 0, { np := 0, n := 26, gn := 3, next := 4, slots := [], objs := [] })]⟩
def s11 : LoopSpec := ⟨11, { np := 4, n := 33, gn := 3, next := 5, slots := [(0, .nd 0), (3, .sv 4 1), (9, .nd 2), (10, .nd 3)], objs := [(4, .vec 1 5 false)] },
  [(.exit 0, { np := 1, n := 33, gn := 3, next := 5, slots := [(3, .sv 4 0)], objs := [(4, .vec 0 5 false)] })]⟩
def s99 : LoopSpec := ⟨99, { np := 0, n := 56, gn := 3, next := 4, slots := [(0, .nilp)], objs := [] },
  [(.ret, { np := 0, n := 2, gn := 3, next := 4, slots := [(0, .nils), (1, .i .i64 25)], objs := [] })]⟩
def s90 : LoopSpec := ⟨90, { np := 2, n := 25, gn := 3, next := 5, slots := [(0, .p 4 0)], objs := [(4, .cells [.nd 0, .nd 1] 151 true false)], ka := 1 },
  [(.ret, { np := 4, n := 2, gn := 3, next := 5, slots := [(0, .nd 0), (1, .nd 1)], objs := [(4, .cells [.nd 2, .nd 3] 151 true false)], ka := 1 })]⟩
def s89 : LoopSpec := ⟨89, { np := 2, n := 37, gn := 3, next := 5, slots := [(0, .p 4 0)], objs := [(4, .cells [.nd 0, .nd 1] 151 true false)], ka := 1 },
  [(.ret, { np := 5, n := 2, gn := 3, next := 5, slots := [(0, .agg [.nd 0, .nd 1]), (1, .nd 2)], objs := [(4, .cells [.nd 3, .nd 4] 151 true false)], ka := 1 })]⟩
def s87 : LoopSpec := ⟨87, { np := 2, n := 60, gn := 3, next := 5, slots := [(0, .p 4 0)], objs := [(4, .cells [.nd 0, .nd 1] 151 true false)], ka := 1 },
  [(.ret, { np := 4, n := 2, gn := 3, next := 5, slots := [(0, .nd 0), (1, .nd 1)], objs := [(4, .cells [.nd 2, .nd 3] 151 true false)], ka := 1 })]⟩
def s85 : LoopSpec := ⟨85, { np := 3, n := 33, gn := 3, next := 5, slots := [(0, .p 4 0), (1, .nd 0)], objs := [(4, .cells [.nd 1, .nd 2] 151 true false)], ka := 1 },
  [(.ret, { np := 5, n := 2, gn := 3, next := 5, slots := [(0, .agg [.nd 0, .nd 1]), (1, .nd 2)], objs := [(4, .cells [.nd 3, .nd 4] 151 true false)], ka := 1 })]⟩
def s83 : LoopSpec := ⟨83, { np := 2, n := 56, gn := 3, next := 5, slots := [(0, .p 4 0)], objs := [(4, .cells [.nd 0, .nd 1] 151 true false)], ka := 1 },
  [(.ret, { np := 4, n := 2, gn := 3, next := 5, slots := [(0, .nd 0), (1, .nd 1)], objs := [(4, .cells [.nd 2, .nd 3] 151 true false)], ka := 1 })]⟩
def s37 : LoopSpec := ⟨37, { np := 0, n := 24, gn := 3, next := 4, slots := [(0, .nilp)], objs := [] },
  [(.ret, { np := 0, n := 2, gn := 3, next := 4, slots := [(0, .i .u64 0), (1, .i .i64 25)], objs := [] })]⟩
def s36 : LoopSpec := ⟨36, { np := 2, n := 63, gn := 3, next := 4, slots := [(0, .nilp), (1, .nd 0), (2, .nd 1)], objs := [] },
  [(.ret, { np := 0, n := 2, gn := 3, next := 4, slots := [(0, .s []), (1, .i .i64 25)], objs := [] })]⟩
def s27 : LoopSpec := ⟨27, { np := 2, n := 24, gn := 3, next := 5, slots := [(0, .p 4 0)], objs := [(4, .cells [.nd 0, .nd 1] 151 true false)], ka := 1 },
  [(.ret, { np := 4, n := 2, gn := 3, next := 5, slots := [(0, .nd 0), (1, .nd 1)], objs := [(4, .cells [.nd 2, .nd 3] 151 true false)], ka := 1 })]⟩
def s26 : LoopSpec := ⟨26, { np := 4, n := 63, gn := 3, next := 5, slots := [(0, .p 4 0), (1, .nd 1), (2, .nd 2)], objs := [(4, .cells [.nd 0, .nd 3] 151 true false)], ka := 1 },
  [(.ret, { np := 4, n := 2, gn := 3, next := 5, slots := [(0, .nd 0), (1, .nd 1)], objs := [(4, .cells [.nd 2, .nd 3] 151 true false)], ka := 1 })]⟩
abbrev c76 : Ctr := fun gs out => FnC Tryz.prog tabsL 162 [] [.sc] gs out
abbrev c97 : Ctr := fun gs out => FnC Tryz.prog tabsL 166 [] [.ag 2, .sc, .sc] gs out
abbrev c57 : Ctr := fun gs out => FnC Tryz.prog tabsL 197 [] [.sc] gs out
abbrev c65 : Ctr := fun gs out => FnC Tryz.prog tabsL 26 [] [.sc] gs out
abbrev c105 : Ctr := fun gs out => FnC Tryz.prog tabsL 86 [none, none, some 87] [.sc] gs out
abbrev c56 : Ctr := fun gs out => FnC Tryz.prog tabsL 177 [] [.sc] gs out
abbrev c86 : Ctr := fun gs out => FnC Tryz.prog tabsL 131 [] [.sc, .sc] gs out
abbrev c3 : Ctr := fun gs out => FnC Tryz.prog tabsL 33 [] [.sc, .sc] gs out
abbrev c103 : Ctr := fun gs out => FnC Tryz.prog tabsL 9 [] [.sc] gs out
abbrev c8 : Ctr := fun gs out => FnC Tryz.prog tabsL 99 [] [.sc] gs out
abbrev c22 : Ctr := fun gs out => FnC Tryz.prog tabsL 163 [] [.sc] gs out
abbrev c49 : Ctr := fun gs out => FnC Tryz.prog tabsL 50 [] [.sc, .sc] gs out
abbrev c46 : Ctr := fun gs out => FnC Tryz.prog tabsL 81 [] [.sc] gs out
abbrev c41 : Ctr := fun gs out => FnC Tryz.prog tabsL 8 [] [.sc] gs out
abbrev c91 : Ctr := fun gs out => FnC Tryz.prog tabsL 53 [] [.sc, .sc] gs out
abbrev c38 : Ctr := fun gs out => FnC Tryz.prog tabsL 40 [] [.sc] gs out
abbrev c15 : Ctr := fun gs out => FnC Tryz.prog tabsL 45 [] [.sc] gs out
abbrev c68 : Ctr := fun gs out => FnC Tryz.prog tabsL 124 [] [.sc] gs out
abbrev c71 : Ctr := fun gs out => FnC Tryz.prog tabsL 183 [] [.sc] gs out
abbrev c9 : Ctr := fun gs out => FnC Tryz.prog tabsL 129 [] [.sc] gs out
abbrev c18 : Ctr := fun gs out => FnC Tryz.prog tabsL 100 [] [.sc] gs out
abbrev c30 : Ctr := fun gs out => FnC Tryz.prog tabsL 36 [] [.sc, .sc] gs out
abbrev c64 : Ctr := fun gs out => FnC Tryz.prog tabsL 51 [] [.sc, .sc] gs out
abbrev c50 : Ctr := fun gs out => FnC Tryz.prog tabsL 21 [] [.sc] gs out
abbrev c44 : Ctr := fun gs out => FnC Tryz.prog tabsL 22 [] [.sc] gs out
abbrev c79 : Ctr := fun gs out => FnC Tryz.prog tabsL 126 [] [.sc] gs out
abbrev c104 : Ctr := fun gs out => FnC Tryz.prog tabsL 19 [] [.sc] gs out
abbrev c16 : Ctr := fun gs out => FnC Tryz.prog tabsL 43 [] [.sc] gs out
abbrev c55 : Ctr := fun gs out => FnC Tryz.prog tabsL 139 [] [.sc] gs out
abbrev c62 : Ctr := fun gs out => FnC Tryz.prog tabsL 29 [] [.sc] gs out
abbrev c82 : Ctr := fun gs out => FnC Tryz.prog tabsL 52 [] [.sc, .sc] gs out
abbrev c42 : Ctr := fun gs out => FnC Tryz.prog tabsL 16 [] [.sc] gs out
abbrev c53 : Ctr := fun gs out => FnC Tryz.prog tabsL 117 [] [.sc] gs out
abbrev c58 : Ctr := fun gs out => FnC Tryz.prog tabsL 213 [] [.sc] gs out
abbrev c77 : Ctr := fun gs out => FnC Tryz.prog tabsL 91 [] [.sc] gs out
abbrev c20 : Ctr := fun gs out => FnC Tryz.prog tabsL 90 [] [.sc] gs out
abbrev c80 : Ctr := fun gs out => FnC Tryz.prog tabsL 104 [] [.sc] gs out
abbrev c72 : Ctr := fun gs out => FnC Tryz.prog tabsL 199 [] [.sc] gs out
abbrev c107 : Ctr := fun gs out => FnC Tryz.prog tabsL 87 [] [.sc] gs out
abbrev c24 : Ctr := fun gs out => FnC Tryz.prog tabsL 35 [] [.sc, .sc] gs out
abbrev c1 : Ctr := fun gs out => FnC Tryz.prog tabsL 32 [] [.sc] gs out
abbrev c98 : Ctr := fun gs out => FnC Tryz.prog tabsL 185 [] [.sc, .sc, .sc] gs out
abbrev c33 : Ctr := fun gs out => FnC Tryz.prog tabsL 98 [] [.sc, .sc, .sc] gs out
abbrev c21 : Ctr := fun gs out => FnC Tryz.prog tabsL 125 [] [.sc] gs out
abbrev c108 : Ctr := fun gs out => FnC Tryz.prog tabsL 88 [] [.sc] gs out
abbrev c60 : Ctr := fun gs out => FnC Tryz.prog tabsL 24 [] [.sc] gs out
abbrev c92 : Ctr := fun gs out => FnC Tryz.prog tabsL 55 [] [.sc, .sc, .sc] gs out
abbrev c13 : Ctr := fun gs out => FnC Tryz.prog tabsL 34 [] [.sc, .sc] gs out
abbrev c94 : Ctr := fun gs out => FnC Tryz.prog tabsL 106 [] [.sc, .sc] gs out
abbrev c95 : Ctr := fun gs out => FnC Tryz.prog tabsL 132 [] [.sc, .sc, .sc] gs out
abbrev c28 : Ctr := fun gs out => FnC Tryz.prog tabsL 128 [] [.sc, .sc, .sc] gs out
abbrev c100 : Ctr := fun gs out => FnC Tryz.prog tabsL 25 [] [.sc] gs out
abbrev c70 : Ctr := fun gs out => FnC Tryz.prog tabsL 161 [] [.sc] gs out
abbrev c0 : Ctr := fun gs out => FnC Tryz.prog tabsL 6 [] [.sc] gs out
abbrev c74 : Ctr := fun gs out => FnC Tryz.prog tabsL 214 [] [.sc] gs out
abbrev c6 : Ctr := fun gs out => FnC Tryz.prog tabsL 42 [] [.sc] gs out
abbrev c67 : Ctr := fun gs out => FnC Tryz.prog tabsL 89 [] [.sc] gs out
abbrev c32 : Ctr := fun gs out => FnC Tryz.prog tabsL 39 [] [.sc, .sc, .sc] gs out
abbrev c5 : Ctr := fun gs out => FnC Tryz.prog tabsL 44 [] [.sc] gs out
abbrev c48 : Ctr := fun gs out => FnC Tryz.prog tabsL 116 [] [.sc] gs out
abbrev c52 : Ctr := fun gs out => FnC Tryz.prog tabsL 82 [] [.sc] gs out
abbrev c99 : Ctr := fun gs out => FnS Tryz.prog tabsL 54 [] s99.pre s99.posts gs out
abbrev c90 : Ctr := fun gs out => FnS Tryz.prog tabsL 200 [] s90.pre s90.posts gs out
abbrev c89 : Ctr := fun gs out => FnS Tryz.prog tabsL 184 [] s89.pre s89.posts gs out
abbrev c87 : Ctr := fun gs out => FnS Tryz.prog tabsL 165 [] s87.pre s87.posts gs out
abbrev c85 : Ctr := fun gs out => FnS Tryz.prog tabsL 105 [] s85.pre s85.posts gs out
abbrev c83 : Ctr := fun gs out => FnS Tryz.prog tabsL 54 [] s83.pre s83.posts gs out
abbrev c37 : Ctr := fun gs out => FnS Tryz.prog tabsL 96 [] s37.pre s37.posts gs out
abbrev c36 : Ctr := fun gs out => FnS Tryz.prog tabsL 38 [] s36.pre s36.posts gs out
abbrev c27 : Ctr := fun gs out => FnS Tryz.prog tabsL 96 [] s27.pre s27.posts gs out
abbrev c26 : Ctr := fun gs out => FnS Tryz.prog tabsL 38 [] s26.pre s26.posts gs out
abbrev c23 : Ctr := fun gs out => LoopC Tryz.prog tabsL b23 s23.pre s23.posts gs out
abbrev c73 : Ctr := fun gs out => LoopC Tryz.prog tabsL b73 s73.pre s73.posts gs out
abbrev c40 : Ctr := fun gs out => LoopC Tryz.prog tabsL b40 s40.pre s40.posts gs out
abbrev c106 : Ctr := fun gs out => LoopC Tryz.prog tabsL b106 s106.pre s106.posts gs out
abbrev c63 : Ctr := fun gs out => LoopC Tryz.prog tabsL b63 s63.pre s63.posts gs out
abbrev c35 : Ctr := fun gs out => LoopC Tryz.prog tabsL b35 s35.pre s35.posts gs out
abbrev c84 : Ctr := fun gs out => LoopC Tryz.prog tabsL b84 s84.pre s84.posts gs out
abbrev c10 : Ctr := fun gs out => LoopC Tryz.prog tabsL b10 s10.pre s10.posts gs out
abbrev c59 : Ctr := fun gs out => LoopC Tryz.prog tabsL b59 s59.pre s59.posts gs out
abbrev c14 : Ctr := fun gs out => LoopC Tryz.prog tabsL b14 s14.pre s14.posts gs out
abbrev c51 : Ctr := fun gs out => LoopC Tryz.prog tabsL b51 s51.pre s51.posts gs out
abbrev c93 : Ctr := fun gs out => LoopC Tryz.prog tabsL b93 s93.pre s93.posts gs out
abbrev c96 : Ctr := fun gs out => LoopC Tryz.prog tabsL b96 s96.pre s96.posts gs out
abbrev c43 : Ctr := fun gs out => LoopC Tryz.prog tabsL b43 s43.pre s43.posts gs out
abbrev c25 : Ctr := fun gs out => LoopC Tryz.prog tabsL b25 s25.pre s25.posts gs out
abbrev c12 : Ctr := fun gs out => LoopC Tryz.prog tabsL b12 s12.pre s12.posts gs out
abbrev c101 : Ctr := fun gs out => LoopC Tryz.prog tabsL b101 s101.pre s101.posts gs out
abbrev c78 : Ctr := fun gs out => LoopC Tryz.prog tabsL b78 s78.pre s78.posts gs out
abbrev c39 : Ctr := fun gs out => LoopC Tryz.prog tabsL b39 s39.pre s39.posts gs out
abbrev c81 : Ctr := fun gs out => LoopC Tryz.prog tabsL b81 s81.pre s81.posts gs out
abbrev c88 : Ctr := fun gs out => LoopC Tryz.prog tabsL b88 s88.pre s88.posts gs out
abbrev c54 : Ctr := fun gs out => LoopC Tryz.prog tabsL b54 s54.pre s54.posts gs out
abbrev c69 : Ctr := fun gs out => LoopC Tryz.prog tabsL b69 s69.pre s69.posts gs out
abbrev c2 : Ctr := fun gs out => LoopC Tryz.prog tabsL b2 s2.pre s2.posts gs out
abbrev c17 : Ctr := fun gs out => LoopC Tryz.prog tabsL b17 s17.pre s17.posts gs out
abbrev c66 : Ctr := fun gs out => LoopC Tryz.prog tabsL b66 s66.pre s66.posts gs out
abbrev c7 : Ctr := fun gs out => LoopC Tryz.prog tabsL b7 s7.pre s7.posts gs out
abbrev c29 : Ctr := fun gs out => LoopC Tryz.prog tabsL b29 s29.pre s29.posts gs out
abbrev c61 : Ctr := fun gs out => LoopC Tryz.prog tabsL b61 s61.pre s61.posts gs out
abbrev c102 : Ctr := fun gs out => LoopC Tryz.prog tabsL b102 s102.pre s102.posts gs out
abbrev c19 : Ctr := fun gs out => LoopC Tryz.prog tabsL b19 s19.pre s19.posts gs out
abbrev c47 : Ctr := fun gs out => LoopC Tryz.prog tabsL b47 s47.pre s47.posts gs out
abbrev c34 : Ctr := fun gs out => LoopC Tryz.prog tabsL b34 s34.pre s34.posts gs out
abbrev c31 : Ctr := fun gs out => LoopC Tryz.prog tabsL b31 s31.pre s31.posts gs out
abbrev c75 : Ctr := fun gs out => LoopC Tryz.prog tabsL b75 s75.pre s75.posts gs out
abbrev c45 : Ctr := fun gs out => LoopC Tryz.prog tabsL b45 s45.pre s45.posts gs out
abbrev c109 : Ctr := fun gs out => LoopC Tryz.prog tabsL b109 s109.pre s109.posts gs out
abbrev c11 : Ctr := fun gs out => LoopC Tryz.prog tabsL b11 s11.pre s11.posts gs out
noncomputable def Cs : List Ctr := [c0, c1, c2, c3, fun _ _ => True, c5, c6, c7, c8, c9, c10, c11, c12, c13, c14, c15, c16, c17, c18, c19, c20, c21, c22, c23, c24, c25, c26, c27, c28, c29, c30, c31, c32, c33, c34, c35, c36, c37, c38, c39, c40, c41, c42, c43, c44, c45, c46, c47, c48, c49, c50, c51, c52, c53, c54, c55, c56, c57, c58, c59, c60, c61, c62, c63, c64, c65, c66, c67, c68, c69, c70, c71, c72, c73, c74, c75, c76, c77, c78, c79, c80, c81, c82, c83, c84, c85, c86, c87, c88, c89, c90, c91, c92, c93, c94, c95, c96, c97, c98, c99, c100, c101, c102, c103, c104, c105, c106, c107, c108, c109]
noncomputable abbrev C := CofL Cs
noncomputable def pl : PList := PL.cons 38 (fun N => orP (@pCallS N Tryz.prog [] s36) (@pCallS N Tryz.prog [] s26)) (PL.cons 96 (fun N => orP (@pCallS N Tryz.prog [] s37) (@pCallS N Tryz.prog [] s27)) (PL.cons 105 (fun N => @pCallS N Tryz.prog [] s85) (PL.cons 165 (fun N => @pCallS N Tryz.prog [] s87) (PL.cons 184 (fun N => @pCallS N Tryz.prog [] s89) (PL.cons 200 (fun N => @pCallS N Tryz.prog [] s90) (PL.cons 54 (fun N => orP (@pCallS N Tryz.prog [] s99) (@pCallS N Tryz.prog [] s83)) (PL.cons 82 (fun N => @pCall N Tryz.prog 52 [] [.sc]) (PL.cons 116 (fun N => @pCall N Tryz.prog 48 [] [.sc]) (PL.cons 44 (fun N => @pCall N Tryz.prog 5 [] [.sc]) (PL.cons 39 (fun N => @pCall N Tryz.prog 32 [] [.sc, .sc, .sc]) (PL.cons 89 (fun N => @pCall N Tryz.prog 67 [] [.sc]) (PL.cons 42 (fun N => @pCall N Tryz.prog 6 [] [.sc]) (PL.cons 214 (fun N => @pCall N Tryz.prog 74 [] [.sc]) (PL.cons 6 (fun N => @pCall N Tryz.prog 0 [] [.sc]) (PL.cons 161 (fun N => @pCall N Tryz.prog 70 [] [.sc]) (PL.cons 25 (fun N => @pCall N Tryz.prog 100 [] [.sc]) (PL.cons 128 (fun N => @pCall N Tryz.prog 28 [] [.sc, .sc, .sc]) (PL.cons 132 (fun N => @pCall N Tryz.prog 95 [] [.sc, .sc, .sc]) (PL.cons 106 (fun N => @pCall N Tryz.prog 94 [] [.sc, .sc]) (PL.cons 34 (fun N => @pCall N Tryz.prog 13 [] [.sc, .sc]) (PL.cons 55 (fun N => @pCall N Tryz.prog 92 [] [.sc, .sc, .sc]) (PL.cons 24 (fun N => @pCall N Tryz.prog 60 [] [.sc]) (PL.cons 88 (fun N => @pCall N Tryz.prog 108 [] [.sc]) (PL.cons 125 (fun N => @pCall N Tryz.prog 21 [] [.sc]) (PL.cons 98 (fun N => @pCall N Tryz.prog 33 [] [.sc, .sc, .sc]) (PL.cons 185 (fun N => @pCall N Tryz.prog 98 [] [.sc, .sc, .sc]) (PL.cons 32 (fun N => @pCall N Tryz.prog 1 [] [.sc]) (PL.cons 35 (fun N => @pCall N Tryz.prog 24 [] [.sc, .sc]) (PL.cons 87 (fun N => @pCall N Tryz.prog 107 [] [.sc]) (PL.cons 199 (fun N => @pCall N Tryz.prog 72 [] [.sc]) (PL.cons 104 (fun N => @pCall N Tryz.prog 80 [] [.sc]) (PL.cons 90 (fun N => @pCall N Tryz.prog 20 [] [.sc]) (PL.cons 91 (fun N => @pCall N Tryz.prog 77 [] [.sc]) (PL.cons 213 (fun N => @pCall N Tryz.prog 58 [] [.sc]) (PL.cons 117 (fun N => @pCall N Tryz.prog 53 [] [.sc]) (PL.cons 16 (fun N => @pCall N Tryz.prog 42 [] [.sc]) (PL.cons 52 (fun N => @pCall N Tryz.prog 82 [] [.sc, .sc]) (PL.cons 29 (fun N => @pCall N Tryz.prog 62 [] [.sc]) (PL.cons 139 (fun N => @pCall N Tryz.prog 55 [] [.sc]) (PL.cons 43 (fun N => @pCall N Tryz.prog 16 [] [.sc]) (PL.cons 19 (fun N => @pCall N Tryz.prog 104 [] [.sc]) (PL.cons 126 (fun N => @pCall N Tryz.prog 79 [] [.sc]) (PL.cons 22 (fun N => @pCall N Tryz.prog 44 [] [.sc]) (PL.cons 21 (fun N => @pCall N Tryz.prog 50 [] [.sc]) (PL.cons 51 (fun N => @pCall N Tryz.prog 64 [] [.sc, .sc]) (PL.cons 36 (fun N => @pCall N Tryz.prog 30 [] [.sc, .sc]) (PL.cons 100 (fun N => @pCall N Tryz.prog 18 [] [.sc]) (PL.cons 129 (fun N => @pCall N Tryz.prog 9 [] [.sc]) (PL.cons 183 (fun N => @pCall N Tryz.prog 71 [] [.sc]) (PL.cons 124 (fun N => @pCall N Tryz.prog 68 [] [.sc]) (PL.cons 45 (fun N => @pCall N Tryz.prog 15 [] [.sc]) (PL.cons 40 (fun N => @pCall N Tryz.prog 38 [] [.sc]) (PL.cons 53 (fun N => @pCall N Tryz.prog 91 [] [.sc, .sc]) (PL.cons 8 (fun N => @pCall N Tryz.prog 41 [] [.sc]) (PL.cons 81 (fun N => @pCall N Tryz.prog 46 [] [.sc]) (PL.cons 50 (fun N => @pCall N Tryz.prog 49 [] [.sc, .sc]) (PL.cons 163 (fun N => @pCall N Tryz.prog 22 [] [.sc]) (PL.cons 99 (fun N => @pCall N Tryz.prog 8 [] [.sc]) (PL.cons 9 (fun N => @pCall N Tryz.prog 103 [] [.sc]) (PL.cons 33 (fun N => @pCall N Tryz.prog 3 [] [.sc, .sc]) (PL.cons 131 (fun N => @pCall N Tryz.prog 86 [] [.sc, .sc]) (PL.cons 177 (fun N => @pCall N Tryz.prog 56 [] [.sc]) (PL.cons 86 (fun N => @pCall N Tryz.prog 105 [none, none, some 87] [.sc]) (PL.cons 26 (fun N => @pCall N Tryz.prog 65 [] [.sc]) (PL.cons 197 (fun N => @pCall N Tryz.prog 57 [] [.sc]) (PL.cons 166 (fun N => @pCall N Tryz.prog 97 [] [.ag 2, .sc, .sc]) (PL.cons 162 (fun N => @pCall N Tryz.prog 76 [] [.sc]) (PL.cons 49 (fun _ => pClosed) (PL.cons 31 (fun _ => pClosed) (PL.cons 164 (fun _ => pNoEscape) (PL.nil)))))))))))))))))))))))))))))))))))))))))))))))))))))))))))))))))))))))
end E
end Go.Proofs.YtamcdgfjjeldeaaGreatDoor
