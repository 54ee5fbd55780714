/- The codes, shapes and contracts. -/
import Derived.Test.YtbcpbplkgknnmaaGreatDoorKRBase
import Derived.Test.YtbcpbplkgknnmaaGreatDoorKWT
import Derived.Test.YtbcpbplkgknnmaaGreatDoorAbsPl
import Derived.Test.YtbcpbplkgknnmaaGreatDoorAbsTold
import Derived.Test.YtbcpbplkgknnmaaGreatDoorAbsTold2
namespace Go.Proofs.YtbcpbplkgknnmaaGreatDoor
open Go Go.Abs
set_option maxRecDepth 100000
set_option linter.unusedVariables false
set_option linter.unusedSimpArgs false
namespace W
theorem low : TabsLow tabsL Tryz.prog.globals.size := by
  rw [nGlobals]
  refine ⟨fun p hp => ?_, fun p hp => ?_⟩
  all_goals
    simp only [tabsL, List.mem_cons, List.mem_nil_iff, or_false] at hp
    rcases hp with rfl | rfl
    all_goals first | decide | rfl
noncomputable def code13 : Code := Tryz.f13.body.getD .skip
noncomputable def code253 : Code := Tryz.f253.body.getD .skip
noncomputable def code91 : Code := Tryz.f91.body.getD .skip
noncomputable def code141 : Code := Tryz.f141.body.getD .skip
noncomputable def code90 : Code := Tryz.f90.body.getD .skip
noncomputable def code152 : Code := Tryz.f152.body.getD .skip
noncomputable def code18 : Code := Tryz.f18.body.getD .skip
noncomputable def code79 : Code := Tryz.f79.body.getD .skip
noncomputable def code148 : Code := Tryz.f148.body.getD .skip
noncomputable def code147 : Code := Tryz.f147.body.getD .skip
noncomputable def code10 : Code := Tryz.f10.body.getD .skip
noncomputable def code76 : Code := Tryz.f76.body.getD .skip
noncomputable def code155 : Code := Tryz.f155.body.getD .skip
noncomputable def code206 : Code := Tryz.f206.body.getD .skip
noncomputable def code169 : Code := Tryz.f169.body.getD .skip
noncomputable def code25 : Code := Tryz.f25.body.getD .skip
noncomputable def code20 : Code := Tryz.f20.body.getD .skip
noncomputable def code81 : Code := Tryz.f81.body.getD .skip
noncomputable def code189 : Code := Tryz.f189.body.getD .skip
noncomputable def code157 : Code := Tryz.f157.body.getD .skip
noncomputable def code140 : Code := Tryz.f140.body.getD .skip
noncomputable def code212 : Code := Tryz.f212.body.getD .skip
noncomputable def code89 : Code := Tryz.f89.body.getD .skip
noncomputable def code82 : Code := Tryz.f82.body.getD .skip
noncomputable def code151 : Code := Tryz.f151.body.getD .skip
noncomputable def code96 : Code := Tryz.f96.body.getD .skip
noncomputable def code12 : Code := Tryz.f12.body.getD .skip
noncomputable def code65 : Code := Tryz.f65.body.getD .skip
noncomputable def code70 : Code := Tryz.f70.body.getD .skip
noncomputable def code149 : Code := Tryz.f149.body.getD .skip
noncomputable def code67 : Code := Tryz.f67.body.getD .skip
noncomputable def code77 : Code := Tryz.f77.body.getD .skip
noncomputable def code143 : Code := Tryz.f143.body.getD .skip
noncomputable def code74 : Code := Tryz.f74.body.getD .skip
noncomputable def code66 : Code := Tryz.f66.body.getD .skip
noncomputable def b44 : Code := bodyOf code140 [([], 0)]
noncomputable def b1 : Code := bodyOf code10 [([], 0)]
noncomputable def b55 : Code := bodyOf code77 [([], 0)]
noncomputable def b63 : Code := bodyOf code91 [([], 0)]
noncomputable def b3 : Code := bodyOf code12 [([], 0)]
noncomputable def b37 : Code := bodyOf code152 [([], 0)]
noncomputable def b53 : Code := bodyOf code147 [([], 0)]
noncomputable def b27 : Code := bodyOf code18 [([], 0)]
noncomputable def b11 : Code := bodyOf code81 [([], 0)]
noncomputable def b51 : Code := bodyOf code25 [([], 0)]
noncomputable def b5 : Code := bodyOf code13 [([], 0)]
noncomputable def b10 : Code := bodyOf code96 [([], 0)]
noncomputable def b22 : Code := bodyOf code148 [([], 0)]
noncomputable def b30 : Code := bodyOf code157 [([], 0)]
noncomputable def b60 : Code := bodyOf code89 [([], 0)]
noncomputable def b9 : Code := bodyOf code169 [([], 0)]
noncomputable def b48 : Code := bodyOf code143 [([], 0)]
noncomputable def b52 : Code := bodyOf b51 [([], 0)]
def s44 : LoopSpec := ⟨44, { np := 5, n := 32, gn := 3, next := 7, slots := [(2, .p 4 0), (3, .p 5 0), (14, .nd 0), (15, .nd 1), (16, .nd 2)], objs := [(5, .cells [.nd 3, .sv 6 4] 123 true false), (6, .vec 4 43 false), (4, .cells [.i .u64 0, .nils] 123 true false)] },
  [(.exit 0, { np := 2, n := 32, gn := 3, next := 7, slots := [(2, .p 4 0), (3, .p 5 0)], objs := [(5, .cells [.nd 0, .sv 6 1] 123 true false), (6, .vec 1 43 false), (4, .cells [.i .u64 0, .nils] 123 true false)], al := [some 3, none] })]⟩
def s1 : LoopSpec := ⟨1, { np := 7, n := 183, gn := 3, next := 7, slots := [(5, .p 4 0), (7, .mp 5), (39, .nd 0), (40, .nd 1), (41, .nd 2)], objs := [(5, .smap 3 (some .u64) (some 2)), (4, .cells [.nd 4, .sv 6 5, .nd 6] 243 true false), (6, .vec 5 123 true)] },
  [(.ret, { np := 1, n := 183, gn := 3, next := 4, slots := [(4, .nd 0)], objs := [] }),
   (.exit 0, { np := 0, n := 183, gn := 3, next := 4, slots := [], objs := [] })]⟩
def s55 : LoopSpec := ⟨55, { np := 6, n := 24, gn := 3, next := 7, slots := [(3, .sv 5 0), (11, .sv 6 1), (12, .nd 2), (13, .nd 3)], objs := [(4, .cells [.nd 4, .sv 6 1, .nd 5] 243 true false), (6, .vec 1 123 true), (5, .vec 0 41 true)], ka := 1 },
  [(.exit 0, { np := 4, n := 24, gn := 3, next := 7, slots := [(3, .sv 5 0)], objs := [(4, .cells [.nd 1, .sv 6 2, .nd 3] 243 true false), (6, .vec 2 123 true), (5, .vec 0 41 true)], ka := 1, al := [none, some 4, some 1, some 5] })]⟩
def s52 : LoopSpec := ⟨52, { np := 8, n := 59, gn := 3, next := 5, slots := [(0, .nd 0), (5, .nd 1), (7, .p 4 0), (8, .nd 2), (9, .nd 3), (10, .nd 4), (11, .nd 5)], objs := [(4, .cells [.nd 6, .nd 7] 43 true false)] },
  [(.exit 2, { np := 11, n := 59, gn := 3, next := 5, slots := [(0, .nd 0), (5, .nd 1), (7, .p 4 0), (8, .nd 2), (9, .nd 3), (10, .nd 4), (11, .nd 5), (23, .nd 0), (24, .nd 1), (25, .rx 6 0), (26, .rx 6 0), (27, .nd 7), (28, .nd 8), (29, .nd 2), (30, .b false)], objs := [(4, .cells [.nd 9, .nd 10] 43 true false)], al := [some 0, none, some 2, some 3, some 4, some 5, none, none, none, some 6, some 7] }),
   (.exit 2, { np := 8, n := 59, gn := 3, next := 5, slots := [(0, .nd 0), (5, .nd 1), (7, .p 4 0), (8, .nd 2), (9, .nd 3), (10, .nd 4), (11, .nd 5), (23, .tup []), (24, .tup []), (25, .tup []), (26, .tup []), (27, .tup []), (28, .tup []), (29, .tup []), (30, .tup [])], objs := [(4, .cells [.nd 6, .nd 7] 43 true false)], al := [some 0, none, some 2, some 3, some 4, some 5, some 6, some 7] })]⟩
def s63 : LoopSpec := ⟨63, { np := 4, n := 26, gn := 3, next := 4, slots := [(0, .nd 0), (1, .nd 1), (12, .nd 2), (13, .nd 3)], objs := [] },
  [(.ret, { np := 0, n := 26, gn := 3, next := 4, slots := [(4, .b false)], objs := [] }),
   (.exit 0, { np := 0, n := 26, gn := 3, next := 4, slots := [], objs := [] })]⟩
def s3 : LoopSpec := ⟨3, { np := 3, n := 37, gn := 3, next := 4, slots := [(0, .nd 0), (5, .nd 0), (6, .nd 1), (7, .nd 2)], objs := [] },
  [(.ret, { np := 0, n := 37, gn := 3, next := 4, slots := [(2, .b false)], objs := [] }),
   (.exit 0, { np := 1, n := 37, gn := 3, next := 4, slots := [(0, .nd 0)], objs := [], al := [some 0] })]⟩
def s37 : LoopSpec := ⟨37, { np := 3, n := 106, gn := 3, next := 5, slots := [(0, .nd 0), (1, .nd 1), (6, .sv 4 2)], objs := [(4, .vec 2 43 false)] },
  [(.ret, { np := 0, n := 106, gn := 3, next := 4, slots := [(4, .nils), (5, .i .i64 3)], objs := [] }),
   (.exit 0, { np := 1, n := 106, gn := 3, next := 5, slots := [(6, .sv 4 0)], objs := [(4, .vec 0 43 false)] })]⟩
def s53 : LoopSpec := ⟨53, { np := 7, n := 85, gn := 3, next := 7, slots := [(4, .p 4 0), (7, .p 5 0), (8, .nd 0), (43, .nd 1), (44, .nd 2), (45, .nd 3)], objs := [(5, .cells [.nd 4, .nd 5, .sv 6 6] 152 true false), (6, .vec 6 43 true), (4, .cells [.i .u64 0, .i .u64 0, .nils] 152 true false)] },
  [(.exit 0, { np := 3, n := 85, gn := 3, next := 7, slots := [(4, .p 4 0), (7, .p 5 0)], objs := [(5, .cells [.nd 0, .nd 1, .sv 6 2] 152 true false), (6, .vec 2 43 true), (4, .cells [.i .u64 0, .i .u64 0, .nils] 152 true false)], al := [some 4, some 5, none] })]⟩
def s27 : LoopSpec := ⟨27, { np := 4, n := 42, gn := 3, next := 4, slots := [(3, .nd 0), (11, .nd 1), (12, .nd 2), (13, .nd 3)], objs := [] },
  [(.ret, { np := 1, n := 42, gn := 3, next := 4, slots := [(2, .nd 0)], objs := [] }),
   (.exit 0, { np := 0, n := 42, gn := 3, next := 4, slots := [], objs := [] })]⟩
def s11 : LoopSpec := ⟨11, { np := 4, n := 22, gn := 3, next := 6, slots := [(3, .p 4 0), (11, .nd 0), (12, .nd 1), (13, .nd 2)], objs := [(4, .cells [.p 4 0, .sv 5 3] 260 true false), (5, .vec 3 5 true)] },
  [(.exit 0, { np := 1, n := 22, gn := 3, next := 6, slots := [(3, .p 4 0)], objs := [(4, .cells [.p 4 0, .sv 5 0] 260 true false), (5, .vec 0 5 true)] })]⟩
def s51 : LoopSpec := ⟨51, { np := 5, n := 59, gn := 3, next := 4, slots := [(0, .nd 0), (5, .nd 1), (9, .nd 2), (10, .nd 3), (11, .nd 4)], objs := [] },
  [(.ret, { np := 0, n := 59, gn := 3, next := 4, slots := [(4, .b false)], objs := [] }),
   (.exit 0, { np := 0, n := 59, gn := 3, next := 4, slots := [], objs := [] })]⟩
def s5 : LoopSpec := ⟨5, { np := 3, n := 23, gn := 3, next := 4, slots := [(0, .nd 0), (5, .nd 0), (6, .nd 1), (7, .nd 2)], objs := [] },
  [(.ret, { np := 0, n := 23, gn := 3, next := 4, slots := [(2, .b false)], objs := [] }),
   (.exit 0, { np := 1, n := 23, gn := 3, next := 4, slots := [(0, .nd 0)], objs := [], al := [some 0] })]⟩
def s10 : LoopSpec := ⟨10, { np := 4, n := 33, gn := 3, next := 5, slots := [(0, .nd 0), (3, .sv 4 1), (9, .nd 2), (10, .nd 3)], objs := [(4, .vec 1 5 false)] },
  [(.exit 0, { np := 1, n := 33, gn := 3, next := 5, slots := [(3, .sv 4 0)], objs := [(4, .vec 0 5 false)] })]⟩
def s22 : LoopSpec := ⟨22, { np := 4, n := 19, gn := 3, next := 4, slots := [(0, .nd 0), (1, .nd 1), (7, .nd 2), (8, .nd 3)], objs := [] },
  [(.ret, { np := 1, n := 19, gn := 3, next := 4, slots := [(4, .nd 0)], objs := [] }),
   (.exit 0, { np := 0, n := 19, gn := 3, next := 4, slots := [], objs := [] })]⟩
def s30 : LoopSpec := ⟨30, { np := 3, n := 42, gn := 3, next := 4, slots := [(0, .nd 0), (15, .nd 0), (16, .nd 1), (17, .nd 2)], objs := [] },
  [(.ret, { np := 1, n := 42, gn := 3, next := 4, slots := [(2, .nd 0)], objs := [] }),
   (.exit 0, { np := 0, n := 42, gn := 3, next := 4, slots := [], objs := [] })]⟩
def s60 : LoopSpec := ⟨60, { np := 4, n := 32, gn := 3, next := 4, slots := [(1, .nd 0), (2, .fn 90 [] []), (15, .nd 1), (16, .nd 2), (17, .nd 3)], objs := [] },
  [(.ret, { np := 0, n := 32, gn := 3, next := 4, slots := [(6, .b false)], objs := [] }),
   (.exit 0, { np := 0, n := 32, gn := 3, next := 4, slots := [], objs := [] })]⟩
def s9 : LoopSpec := ⟨9, { np := 2, n := 11, gn := 3, next := 4, slots := [(0, .nd 0), (3, .nd 1)], objs := [] },
  [(.exit 0, { np := 1, n := 11, gn := 3, next := 4, slots := [(3, .nd 0)], objs := [] })]⟩
def s48 : LoopSpec := ⟨48, { np := 6, n := 24, gn := 3, next := 6, slots := [(1, .nd 0), (11, .sv 5 1), (12, .nd 2), (13, .nd 3)], objs := [(4, .cells [.nd 4, .sv 5 1, .nd 5] 243 true false), (5, .vec 1 123 true)], ka := 1 },
  [(.ret, { np := 4, n := 24, gn := 3, next := 6, slots := [(4, .nd 0), (5, .b true)], objs := [(4, .cells [.nd 1, .sv 5 2, .nd 3] 243 true false), (5, .vec 2 123 true)], ka := 1, al := [none, some 4, some 1, some 5] }),
   (.exit 0, { np := 3, n := 24, gn := 3, next := 6, slots := [], objs := [(4, .cells [.nd 0, .sv 5 1, .nd 2] 243 true false), (5, .vec 1 123 true)], ka := 1, al := [some 4, some 1, some 5] })]⟩
def s65 : LoopSpec := ⟨65, { np := 5, n := 80, gn := 3, next := 6, slots := [(0, .p 4 0), (1, .agg [.nd 0, .nd 1])], objs := [(4, .cells [.nd 2, .sv 5 3, .nd 4] 243 true false), (5, .vec 3 123 true)], ka := 1 },
  [(.ret, { np := 4, n := 1, gn := 3, next := 6, slots := [(0, .nd 0)], objs := [(4, .cells [.nd 1, .sv 5 2, .nd 3] 243 true false), (5, .vec 2 123 true)], ka := 1, al := [none, some 2, none, none] })]⟩
def s64 : LoopSpec := ⟨64, { np := 8, n := 35, gn := 3, next := 6, slots := [(0, .p 4 0), (1, .agg [.nd 0, .nd 1, .nd 2, .nd 3, .nd 4])], objs := [(4, .cells [.nd 5, .sv 5 6, .nd 7] 243 true false), (5, .vec 6 123 true)], ka := 1 },
  [(.ret, { np := 5, n := 1, gn := 3, next := 6, slots := [(0, .agg [.nd 0, .nd 1])], objs := [(4, .cells [.nd 2, .sv 5 3, .nd 4] 243 true false), (5, .vec 3 123 true)], ka := 1, al := [none, none, some 5, some 6, some 7] })]⟩
def s57 : LoopSpec := ⟨57, { np := 4, n := 16, gn := 3, next := 5, slots := [(0, .agg [.nd 0, .nd 1]), (1, .p 4 0)], objs := [(4, .cells [.nd 2, .nd 3] 123 true false)], ka := 1 },
  [(.ret, { np := 3, n := 1, gn := 3, next := 5, slots := [(0, .nd 0)], objs := [(4, .cells [.nd 1, .nd 2] 123 true false)], ka := 1, al := [none, some 2, some 3] })]⟩
def s56 : LoopSpec := ⟨56, { np := 4, n := 32, gn := 3, next := 6, slots := [(0, .p 4 0), (1, .nd 0)], objs := [(4, .cells [.nd 1, .sv 5 2, .nd 3] 243 true false), (5, .vec 2 123 true)], ka := 1 },
  [(.ret, { np := 4, n := 1, gn := 3, next := 6, slots := [(0, .nd 0)], objs := [(4, .cells [.nd 1, .sv 5 2, .nd 3] 243 true false), (5, .vec 2 123 true)], ka := 1, al := [none, some 1, none, none] })]⟩
def s54 : LoopSpec := ⟨54, { np := 3, n := 24, gn := 3, next := 6, slots := [(0, .p 4 0)], objs := [(4, .cells [.nd 0, .sv 5 1, .nd 2] 243 true false), (5, .vec 1 123 true)], ka := 1 },
  [(.ret, { np := 4, n := 1, gn := 3, next := 6, slots := [(0, .nd 0)], objs := [(4, .cells [.nd 1, .sv 5 2, .nd 3] 243 true false), (5, .vec 2 123 true)], ka := 1, al := [none, some 0, some 1, some 2] })]⟩
def s47 : LoopSpec := ⟨47, { np := 4, n := 24, gn := 3, next := 6, slots := [(0, .p 4 0), (1, .nd 0)], objs := [(4, .cells [.nd 1, .sv 5 2, .nd 3] 243 true false), (5, .vec 2 123 true)], ka := 1 },
  [(.ret, { np := 5, n := 2, gn := 3, next := 6, slots := [(0, .nd 0), (1, .nd 1)], objs := [(4, .cells [.nd 2, .sv 5 3, .nd 4] 243 true false), (5, .vec 3 123 true)], ka := 1, al := [none, none, some 1, some 2, some 3] })]⟩
def s46 : LoopSpec := ⟨46, { np := 3, n := 75, gn := 3, next := 6, slots := [(0, .p 4 0)], objs := [(4, .cells [.nd 0, .sv 5 1, .nd 2] 243 true false), (5, .vec 1 123 true)], ka := 1 },
  [(.ret, { np := 8, n := 2, gn := 3, next := 6, slots := [(0, .agg [.nd 0, .i .u64 0, .i .u64 0, .i .u64 0, .i .u64 0, .i .u64 0, .i .u64 0, .i .u64 0, .i .u64 0, .i .u64 0, .nd 1, .nd 2, .i .u64 0, .i .u64 0, .i .u64 0, .i .u64 0, .i .i64 0, .b false, .s [], .s [], .s [], .nils, .nd 3, .nils]), (1, .nd 4)], objs := [(4, .cells [.nd 5, .sv 5 6, .nd 7] 243 true false), (5, .vec 6 123 true)], ka := 1, al := [none, none, none, none, none, some 0, some 1, some 2] })]⟩
def s45 : LoopSpec := ⟨45, { np := 3, n := 28, gn := 3, next := 6, slots := [(0, .p 4 0)], objs := [(4, .cells [.nd 0, .sv 5 1, .nd 2] 243 true false), (5, .vec 1 123 true)], ka := 1 },
  [(.ret, { np := 6, n := 2, gn := 3, next := 6, slots := [(0, .agg [.nd 0, .nd 1]), (1, .nd 2)], objs := [(4, .cells [.nd 3, .sv 5 4, .nd 5] 243 true false), (5, .vec 4 123 true)], ka := 1, al := [none, none, none, some 0, some 1, some 2] })]⟩
abbrev c4 : Ctr := fun gs out => FnC Tryz.prog tabsL 13 [] [.sc] gs out
abbrev c33 : Ctr := fun gs out => FnC Tryz.prog tabsL 253 [] [.sc] gs out
abbrev c62 : Ctr := fun gs out => FnC Tryz.prog tabsL 91 [] [.sc] gs out
abbrev c41 : Ctr := fun gs out => FnC Tryz.prog tabsL 207 [] [.sc, .sc] gs out
abbrev c25 : Ctr := fun gs out => FnC Tryz.prog tabsL 141 [] [.sc] gs out
abbrev c61 : Ctr := fun gs out => FnC Tryz.prog tabsL 90 [] [.sc] gs out
abbrev c36 : Ctr := fun gs out => FnC Tryz.prog tabsL 152 [] [.sc, .sc] gs out
abbrev c40 : Ctr := fun gs out => FnC Tryz.prog tabsL 335 [] [.sc] gs out
abbrev c26 : Ctr := fun gs out => FnC Tryz.prog tabsL 18 [] [.sc] gs out
abbrev c24 : Ctr := fun gs out => FnC Tryz.prog tabsL 79 [] [.ag 2, .sc] gs out
abbrev c21 : Ctr := fun gs out => FnC Tryz.prog tabsL 148 [] [.sc] gs out
abbrev c49 : Ctr := fun gs out => FnC Tryz.prog tabsL 147 [] [.ag 3, .sc] gs out
abbrev c0 : Ctr := fun gs out => FnC Tryz.prog tabsL 10 [] [.sc] gs out
abbrev c34 : Ctr := fun gs out => FnC Tryz.prog tabsL 299 [] [.sc] gs out
abbrev c20 : Ctr := fun gs out => FnC Tryz.prog tabsL 76 [] [.sc] gs out
abbrev c12 : Ctr := fun gs out => FnC Tryz.prog tabsL 155 [] [.sc] gs out
abbrev c39 : Ctr := fun gs out => FnC Tryz.prog tabsL 206 [] [.sc] gs out
abbrev c8 : Ctr := fun gs out => FnC Tryz.prog tabsL 169 [] [.sc] gs out
abbrev c50 : Ctr := fun gs out => FnC Tryz.prog tabsL 25 [] [.sc] gs out
abbrev c58 : Ctr := fun gs out => FnC Tryz.prog tabsL 20 [] [.sc] gs out
abbrev c6 : Ctr := fun gs out => FnC Tryz.prog tabsL 81 [] [.sc] gs out
abbrev c32 : Ctr := fun gs out => FnC Tryz.prog tabsL 189 [] [.sc] gs out
abbrev c29 : Ctr := fun gs out => FnC Tryz.prog tabsL 157 [] [.sc] gs out
abbrev c43 : Ctr := fun gs out => FnC Tryz.prog tabsL 140 [] [.ag 2] gs out
abbrev c31 : Ctr := fun gs out => FnC Tryz.prog tabsL 212 [] [.sc] gs out
abbrev c59 : Ctr := fun gs out => FnC Tryz.prog tabsL 89 [none, none, some 90] [.sc] gs out
abbrev c28 : Ctr := fun gs out => FnC Tryz.prog tabsL 82 [] [.sc] gs out
abbrev c35 : Ctr := fun gs out => FnC Tryz.prog tabsL 151 [] [.sc] gs out
abbrev c38 : Ctr := fun gs out => FnC Tryz.prog tabsL 116 [] [.sc] gs out
abbrev c7 : Ctr := fun gs out => FnC Tryz.prog tabsL 96 [] [.sc] gs out
abbrev c2 : Ctr := fun gs out => FnC Tryz.prog tabsL 12 [] [.sc] gs out
abbrev c65 : Ctr := fun gs out => FnS Tryz.prog tabsL 65 [] s65.pre s65.posts gs out
abbrev c64 : Ctr := fun gs out => FnS Tryz.prog tabsL 70 [] s64.pre s64.posts gs out
abbrev c57 : Ctr := fun gs out => FnS Tryz.prog tabsL 149 [] s57.pre s57.posts gs out
abbrev c56 : Ctr := fun gs out => FnS Tryz.prog tabsL 67 [] s56.pre s56.posts gs out
abbrev c54 : Ctr := fun gs out => FnS Tryz.prog tabsL 77 [] s54.pre s54.posts gs out
abbrev c47 : Ctr := fun gs out => FnS Tryz.prog tabsL 143 [] s47.pre s47.posts gs out
abbrev c46 : Ctr := fun gs out => FnS Tryz.prog tabsL 74 [] s46.pre s46.posts gs out
abbrev c45 : Ctr := fun gs out => FnS Tryz.prog tabsL 66 [] s45.pre s45.posts gs out
abbrev c44 : Ctr := fun gs out => LoopC Tryz.prog tabsL b44 s44.pre s44.posts gs out
abbrev c1 : Ctr := fun gs out => LoopC Tryz.prog tabsL b1 s1.pre s1.posts gs out
abbrev c55 : Ctr := fun gs out => LoopC Tryz.prog tabsL b55 s55.pre s55.posts gs out
abbrev c52 : Ctr := fun gs out => LoopC Tryz.prog tabsL b52 s52.pre s52.posts gs out
abbrev c63 : Ctr := fun gs out => LoopC Tryz.prog tabsL b63 s63.pre s63.posts gs out
abbrev c3 : Ctr := fun gs out => LoopC Tryz.prog tabsL b3 s3.pre s3.posts gs out
abbrev c37 : Ctr := fun gs out => LoopC Tryz.prog tabsL b37 s37.pre s37.posts gs out
abbrev c53 : Ctr := fun gs out => LoopC Tryz.prog tabsL b53 s53.pre s53.posts gs out
abbrev c27 : Ctr := fun gs out => LoopC Tryz.prog tabsL b27 s27.pre s27.posts gs out
abbrev c11 : Ctr := fun gs out => LoopC Tryz.prog tabsL b11 s11.pre s11.posts gs out
abbrev c51 : Ctr := fun gs out => LoopC Tryz.prog tabsL b51 s51.pre s51.posts gs out
abbrev c5 : Ctr := fun gs out => LoopC Tryz.prog tabsL b5 s5.pre s5.posts gs out
abbrev c10 : Ctr := fun gs out => LoopC Tryz.prog tabsL b10 s10.pre s10.posts gs out
abbrev c22 : Ctr := fun gs out => LoopC Tryz.prog tabsL b22 s22.pre s22.posts gs out
abbrev c30 : Ctr := fun gs out => LoopC Tryz.prog tabsL b30 s30.pre s30.posts gs out
abbrev c60 : Ctr := fun gs out => LoopC Tryz.prog tabsL b60 s60.pre s60.posts gs out
abbrev c9 : Ctr := fun gs out => LoopC Tryz.prog tabsL b9 s9.pre s9.posts gs out
abbrev c48 : Ctr := fun gs out => LoopC Tryz.prog tabsL b48 s48.pre s48.posts gs out
noncomputable def Cs : List Ctr := [c0, c1, c2, c3, c4, c5, c6, c7, c8, c9, c10, c11, c12, fun _ _ => True, fun _ _ => True, fun _ _ => True, fun _ _ => True, fun _ _ => True, fun _ _ => True, fun _ _ => True, c20, c21, c22, fun _ _ => True, c24, c25, c26, c27, c28, c29, c30, c31, c32, c33, c34, c35, c36, c37, c38, c39, c40, c41, fun _ _ => True, c43, c44, c45, c46, c47, c48, c49, c50, c51, c52, c53, c54, c55, c56, c57, c58, c59, c60, c61, c62, c63, c64, c65]
noncomputable abbrev C := CofL Cs
noncomputable def pl : PList := PL.cons 66 (fun N => @pCallS N Tryz.prog [] s45) (PL.cons 74 (fun N => @pCallS N Tryz.prog [] s46) (PL.cons 143 (fun N => @pCallS N Tryz.prog [] s47) (PL.cons 77 (fun N => @pCallS N Tryz.prog [] s54) (PL.cons 67 (fun N => @pCallS N Tryz.prog [] s56) (PL.cons 149 (fun N => @pCallS N Tryz.prog [] s57) (PL.cons 70 (fun N => @pCallS N Tryz.prog [] s64) (PL.cons 65 (fun N => @pCallS N Tryz.prog [] s65) (PL.cons 12 (fun N => @pCall N Tryz.prog 2 [] [.sc]) (PL.cons 96 (fun N => @pCall N Tryz.prog 7 [] [.sc]) (PL.cons 116 (fun N => @pCall N Tryz.prog 38 [] [.sc]) (PL.cons 151 (fun N => @pCall N Tryz.prog 35 [] [.sc]) (PL.cons 82 (fun N => @pCall N Tryz.prog 28 [] [.sc]) (PL.cons 89 (fun N => @pCall N Tryz.prog 59 [none, none, some 90] [.sc]) (PL.cons 212 (fun N => @pCall N Tryz.prog 31 [] [.sc]) (PL.cons 140 (fun N => @pCall N Tryz.prog 43 [] [.ag 2]) (PL.cons 157 (fun N => @pCall N Tryz.prog 29 [] [.sc]) (PL.cons 189 (fun N => @pCall N Tryz.prog 32 [] [.sc]) (PL.cons 81 (fun N => @pCall N Tryz.prog 6 [] [.sc]) (PL.cons 20 (fun N => @pCall N Tryz.prog 58 [] [.sc]) (PL.cons 25 (fun N => @pCall N Tryz.prog 50 [] [.sc]) (PL.cons 169 (fun N => @pCall N Tryz.prog 8 [] [.sc]) (PL.cons 206 (fun N => @pCall N Tryz.prog 39 [] [.sc]) (PL.cons 155 (fun N => @pCall N Tryz.prog 12 [] [.sc]) (PL.cons 76 (fun N => @pCall N Tryz.prog 20 [] [.sc]) (PL.cons 299 (fun N => @pCall N Tryz.prog 34 [] [.sc]) (PL.cons 10 (fun N => @pCall N Tryz.prog 0 [] [.sc]) (PL.cons 147 (fun N => @pCall N Tryz.prog 49 [] [.ag 3, .sc]) (PL.cons 148 (fun N => @pCall N Tryz.prog 21 [] [.sc]) (PL.cons 79 (fun N => @pCall N Tryz.prog 24 [] [.ag 2, .sc]) (PL.cons 18 (fun N => @pCall N Tryz.prog 26 [] [.sc]) (PL.cons 335 (fun N => @pCall N Tryz.prog 40 [] [.sc]) (PL.cons 152 (fun N => @pCall N Tryz.prog 36 [] [.sc, .sc]) (PL.cons 90 (fun N => @pCall N Tryz.prog 61 [] [.sc]) (PL.cons 141 (fun N => @pCall N Tryz.prog 25 [] [.sc]) (PL.cons 207 (fun N => @pCall N Tryz.prog 41 [] [.sc, .sc]) (PL.cons 91 (fun N => @pCall N Tryz.prog 62 [] [.sc]) (PL.cons 253 (fun N => @pCall N Tryz.prog 33 [] [.sc]) (PL.cons 13 (fun N => @pCall N Tryz.prog 4 [] [.sc]) (PL.cons 61 (fun _ => pClosed) (PL.cons 282 (fun _ => pNoEscape) (PL.nil)))))))))))))))))))))))))))))))))))))))))
end W
end Go.Proofs.YtbcpbplkgknnmaaGreatDoor
