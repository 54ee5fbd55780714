/- The codes, shapes and contracts. -/
import Derived.Test.YtpkihgnabejkkaaGreatDoorKRBase
import Derived.Test.YtpkihgnabejkkaaGreatDoorKBT
import Derived.Test.YtpkihgnabejkkaaGreatDoorAbsPl
import Derived.Test.YtpkihgnabejkkaaGreatDoorAbsTold
import Derived.Test.YtpkihgnabejkkaaGreatDoorAbsTold3
import Derived.Test.YtpkihgnabejkkaaGreatDoorAbsFields
namespace Go.Proofs.YtpkihgnabejkkaaGreatDoor
open Go Go.aJ
set_option maxRecDepth 100000
set_option linter.unusedVariables false
set_option linter.unusedSimpArgs false
namespace B
theorem low:rU aI Tryz.prog.globals.size:=by
 rw [NH]
 refine ⟨fun p hp=>?_,fun p hp=>?_⟩
 all_goals
  simp only [aI,List.mem_cons,List.mem_nil_iff,or_false] at hp
  rcases hp with rfl | rfl
  all_goals first | decide | rfl
noncomputable def code119:Code:=Tryz.f119.body.getD .skip
noncomputable def code14:Code:=Tryz.f14.body.getD .skip
noncomputable def adW:Code:=Tryz.f7.body.getD .skip
noncomputable def code17:Code:=Tryz.f17.body.getD .skip
noncomputable def adT:Code:=Tryz.f64.body.getD .skip
noncomputable def Uy:Code:=Tryz.f111.body.getD .skip
noncomputable def ad4:Code:=Tryz.f9.body.getD .skip
noncomputable def Uw:Code:=Tryz.f108.body.getD .skip
noncomputable def code15:Code:=Tryz.f15.body.getD .skip
noncomputable def code56:Code:=Tryz.f56.body.getD .skip
noncomputable def code83:Code:=Tryz.f83.body.getD .skip
noncomputable def code114:Code:=Tryz.f114.body.getD .skip
noncomputable def UH:Code:=Tryz.f20.body.getD .skip
noncomputable def Uz:Code:=Tryz.f112.body.getD .skip
noncomputable def UW:Code:=Tryz.f45.body.getD .skip
noncomputable def ad3:Code:=Tryz.f80.body.getD .skip
noncomputable def code46:Code:=Tryz.f46.body.getD .skip
noncomputable def UJ:Code:=Tryz.f21.body.getD .skip
noncomputable def adJ:Code:=Tryz.f23.body.getD .skip
noncomputable def UK:Code:=Tryz.f22.body.getD .skip
noncomputable def code52:Code:=Tryz.f52.body.getD .skip
noncomputable def code86:Code:=Tryz.f86.body.getD .skip
noncomputable def UA:Code:=Tryz.f13.body.getD .skip
noncomputable def code47:Code:=Tryz.f47.body.getD .skip
noncomputable def code113:Code:=Tryz.f113.body.getD .skip
noncomputable def code117:Code:=Tryz.f117.body.getD .skip
noncomputable def adU:Code:=Tryz.f65.body.getD .skip
noncomputable def UG:Code:=Tryz.f18.body.getD .skip
noncomputable def U4:Code:=Tryz.f79.body.getD .skip
noncomputable def adw:Code:=Tryz.f109.body.getD .skip
noncomputable def ad1:Code:=Tryz.f76.body.getD .skip
noncomputable def code115:Code:=Tryz.f115.body.getD .skip
noncomputable def UY:Code:=Tryz.f59.body.getD .skip
noncomputable def code85:Code:=Tryz.f85.body.getD .skip
noncomputable def code48:Code:=Tryz.f48.body.getD .skip
noncomputable def code118:Code:=Tryz.f118.body.getD .skip
noncomputable def Ux:Code:=Tryz.f11.body.getD .skip
noncomputable def ad5:Code:=Tryz.f93.body.getD .skip
noncomputable def adS:Code:=Tryz.f63.body.getD .skip
noncomputable def adx:Code:=Tryz.f122.body.getD .skip
noncomputable def adQ:Code:=Tryz.f6.body.getD .skip
noncomputable def code120:Code:=Tryz.f120.body.getD .skip
noncomputable def UD:Code:=Tryz.f159.body.getD .skip
noncomputable def adR:Code:=Tryz.f61.body.getD .skip
noncomputable def U3:Code:=Tryz.f75.body.getD .skip
noncomputable def code4:Code:=Tryz.f4.body.getD .skip
noncomputable def code116:Code:=Tryz.f116.body.getD .skip
noncomputable def adB:Code:=Tryz.f141.body.getD .skip
noncomputable def adA:Code:=Tryz.f140.body.getD .skip
noncomputable def U6:Code:=Tryz.f97.body.getD .skip
noncomputable def adI:Code:=Tryz.f162.body.getD .skip
noncomputable def adz:Code:=Tryz.f139.body.getD .skip
noncomputable def ady:Code:=Tryz.f138.body.getD .skip
noncomputable def U5:Code:=Tryz.f95.body.getD .skip
noncomputable def adK:Code:=Tryz.f27.body.getD .skip
noncomputable def code50:Code:=Tryz.f50.body.getD .skip
noncomputable def b23:Code:=dX code17 [([],0)]
noncomputable def QG:Code:=dX code85 [([],0)]
noncomputable def b39:Code:=dX code48 [([],0)]
noncomputable def b76:Code:=dX code86 [([],0)]
noncomputable def b10:Code:=dX Uy [([],0)]
noncomputable def b49:Code:=dX code15 [([],1)]
noncomputable def Qy:Code:=dX Uw [([],0)]
noncomputable def Q7:Code:=dX U6 [([],0)]
noncomputable def b90:Code:=dX UD [([],0)]
noncomputable def b4:Code:=dX UH [([],0)]
noncomputable def QX:Code:=dX Ux [([],0)]
noncomputable def QZ:Code:=dX U5 [([],0)]
noncomputable def b110:Code:=dX code4 [([],0)]
noncomputable def QA:Code:=dX UG [([],0)]
noncomputable def b50:Code:=dX code15 [([],2)]
noncomputable def b15:Code:=dX UK [([],0)]
noncomputable def b12:Code:=dX UW [([],0)]
noncomputable def b47:Code:=dX code15 [([],0)]
noncomputable def b19:Code:=dX UY [([],0)]
noncomputable def b102:Code:=dX U3 [([],0)]
noncomputable def b31:Code:=dX code46 [([],0)]
noncomputable def b77:Code:=dX code15 [([],3)]
noncomputable def b100:Code:=dX UA [([],0)]
noncomputable def b34:Code:=dX Uz [([],0)]
noncomputable def b11:Code:=dX U4 [([],0)]
noncomputable def b6:Code:=dX UJ [([],0)]
noncomputable def b109:Code:=dX QA [([],0)]
noncomputable def QW:Code:=dX b77 [([],0)]
def s23:bY:=⟨23, { np:=4,n:=42,gn:=3,next:=4,slots:=[(3,.nd 0),(11,.nd 1),(12,.nd 2),(13,.nd 3)],objs:=[] },
 [(.ret, { np:=1,n:=42,gn:=3,next:=4,slots:=[(2,.nd 0)],objs:=[] }),
  (.exit 0, { np:=0,n:=42,gn:=3,next:=4,slots:=[],objs:=[] })]⟩
def s26:bY:=⟨26, { np:=3,n:=42,gn:=3,next:=4,slots:=[(0,.nd 0),(15,.nd 0),(16,.nd 1),(17,.nd 2)],objs:=[] },
 [(.ret, { np:=1,n:=42,gn:=3,next:=4,slots:=[(2,.nd 0)],objs:=[] }),
  (.exit 0, { np:=0,n:=42,gn:=3,next:=4,slots:=[],objs:=[] })]⟩
def IW:bY:=⟨39, { np:=5,n:=46,gn:=3,next:=5,slots:=[(1,.nd 0),(7,.sv 4 1),(30,.nd 2),(31,.nd 3),(32,.nd 4)],objs:=[(4,.vec 1 108 true)] },
 [(.exit 0, { np:=1,n:=46,gn:=3,next:=5,slots:=[(7,.sv 4 0)],objs:=[(4,.vec 0 108 true)] })]⟩
def s76:bY:=⟨76, { np:=5,n:=46,gn:=3,next:=4,slots:=[(1,.nd 0),(5,.nd 1),(9,.nd 2),(10,.nd 3),(11,.nd 4)],objs:=[] },
 [(.ret, { np:=1,n:=46,gn:=3,next:=4,slots:=[(4,.nd 0)],objs:=[] }),
  (.exit 0, { np:=0,n:=46,gn:=3,next:=4,slots:=[],objs:=[] })]⟩
def s10:bY:=⟨10, { np:=2,n:=11,gn:=3,next:=4,slots:=[(0,.nd 0),(3,.nd 1)],objs:=[] },
 [(.exit 0, { np:=1,n:=11,gn:=3,next:=4,slots:=[(3,.nd 0)],objs:=[] })]⟩
def s109:bY:=⟨109, { np:=5,n:=80,gn:=3,next:=6,slots:=[(5,.sv 4 0),(6,.p 5 0),(37,.nd 1),(38,.nd 2)],objs:=[(5,.cells [.nd 3,.nd 4] 116 true false),(4,.vec 0 116 false)] },
 [(.ret, { np:=0,n:=80,gn:=3,next:=4,slots:=[(4,.b false)],objs:=[] }),
  (.exit 2, { np:=1,n:=80,gn:=3,next:=5,slots:=[(5,.sv 4 0)],objs:=[(4,.vec 0 116 false)] })]⟩
def s49:bY:=⟨49, { np:=29,n:=116,gn:=3,next:=6,slots:=[(2,.p 4 0),(6,.nd 0),(7,.mp 5),(54,.nd 1),(55,.nd 2),(56,.nd 3)],objs:=[(5,.smap 4 none none),(4,.cells [.nd 5,.nd 6,.nd 7,.nd 8,.nd 9,.nd 10,.nd 11,.nd 12,.nd 13,.nd 14,.nd 15,.nd 16,.nd 17,.nd 18,.nd 19,.nd 20,.nd 21,.nd 22,.nd 23,.nd 24,.nd 25,.nd 26,.nd 27,.nd 28] 36 true false)] },
 [(.ret, { np:=0,n:=116,gn:=3,next:=4,slots:=[(4,.i .i64 26)],objs:=[] }),
  (.exit 2, { np:=25,n:=116,gn:=3,next:=5,slots:=[(2,.p 4 0),(6,.nd 0)],objs:=[(4,.cells [.nd 1,.nd 2,.nd 3,.nd 4,.nd 5,.nd 6,.nd 7,.nd 8,.nd 9,.nd 10,.nd 11,.nd 12,.nd 13,.nd 14,.nd 15,.nd 16,.nd 17,.nd 18,.nd 19,.nd 20,.nd 21,.nd 22,.nd 23,.nd 24] 36 true false)],al:=[some 0,some 5,some 6,some 7,some 8,some 9,some 10,some 11,some 12,some 13,some 14,some 15,some 16,some 17,some 18,some 19,some 20,some 21,some 22,some 23,some 24,some 25,some 26,some 27,some 28] })]⟩
def Iw:bY:=⟨105, { np:=4,n:=32,gn:=3,next:=4,slots:=[(1,.nd 0),(2,.fn 109 [] []),(15,.nd 1),(16,.nd 2),(17,.nd 3)],objs:=[] },
 [(.ret, { np:=0,n:=32,gn:=3,next:=4,slots:=[(6,.b false)],objs:=[] }),
  (.exit 0, { np:=0,n:=32,gn:=3,next:=4,slots:=[],objs:=[] })]⟩
def Ji:bY:=⟨96, { np:=6,n:=56,gn:=3,next:=6,slots:=[(0,.p 4 0),(6,.sv 5 0),(7,.nd 1),(25,.nd 2),(26,.nd 3)],objs:=[(4,.cells [.nd 4,.nd 5] 219 true false),(5,.vec 0 82 false)],ka:=1 },
 [(.ret, { np:=3,n:=56,gn:=3,next:=5,slots:=[(2,.dH),(3,.nd 0)],objs:=[(4,.cells [.nd 1,.nd 2] 219 true false)],ka:=1 }),
  (.exit 0, { np:=3,n:=56,gn:=3,next:=6,slots:=[(6,.sv 5 0)],objs:=[(4,.cells [.nd 1,.nd 2] 219 true false),(5,.vec 0 82 false)],ka:=1 })]⟩
def s78:bY:=⟨78, { np:=11,n:=116,gn:=3,next:=5,slots:=[(6,.nd 0),(18,.p 4 0),(97,.nd 1),(98,.nd 2),(99,.nd 3),(103,.nd 0),(104,.nd 4),(105,.nd 5)],objs:=[(4,.cells [.nd 6,.nd 7,.nd 8,.nd 9,.nd 10] 48 true false)] },
 [(.ret, { np:=0,n:=116,gn:=3,next:=4,slots:=[(4,.i .i64 14)],objs:=[] }),
  (.exit 8, { np:=4,n:=116,gn:=3,next:=4,slots:=[(6,.nd 0),(97,.nd 1),(98,.nd 2),(99,.nd 3)],objs:=[],al:=[some 0,some 1,some 2,some 3] })]⟩
def s90:bY:=⟨90, { np:=4,n:=50,gn:=3,next:=4,slots:=[(0,.nd 0),(5,.nd 1),(9,.nd 2),(10,.nd 3)],objs:=[] },
 [(.ret, { np:=3,n:=50,gn:=3,next:=4,slots:=[(2,.nd 0),(3,.nd 1),(4,.nd 2)],objs:=[] }),
  (.exit 0, { np:=1,n:=50,gn:=3,next:=4,slots:=[(0,.nd 0)],objs:=[] })]⟩
def s4:bY:=⟨4, { np:=3,n:=23,gn:=3,next:=4,slots:=[(0,.nd 0),(5,.nd 0),(6,.nd 1),(7,.nd 2)],objs:=[] },
 [(.ret, { np:=0,n:=23,gn:=3,next:=4,slots:=[(2,.b false)],objs:=[] }),
  (.exit 0, { np:=1,n:=23,gn:=3,next:=4,slots:=[(0,.nd 0)],objs:=[],al:=[some 0] })]⟩
def s82:bY:=⟨82, { np:=27,n:=38,gn:=3,next:=7,slots:=[(1,.p 4 0),(2,.p 5 0),(3,.sv 6 0),(15,.nd 1),(16,.nd 2),(17,.nd 3)],objs:=[(6,.vec 0 82 false),(5,.cells [.i .i64 0,.i .u64 0,.i .u64 0,.i .u64 0,.i .u64 0,.i .u64 0,.i .u64 0,.i .u64 0,.i .u64 0,.i .u64 0,.i .u64 0,.i .u64 0,.i .u64 0,.i .u64 0,.i .u64 0,.i .u64 0,.i .i64 0,.b false,.s [],.s [],.s [],.dH,.dH,.dH] 36 true false),(4,.cells [.nd 4,.nd 5,.nd 6,.nd 7,.nd 8,.nd 9,.nd 10,.nd 11,.nd 12,.nd 13,.nd 14,.nd 15,.nd 16,.nd 17,.nd 18,.nd 19,.nd 20,.nd 21,.nd 22,.nd 23,.nd 24,.nd 25,.nd 1,.nd 26] 36 true false)] },
 [(.exit 0, { np:=25,n:=38,gn:=3,next:=7,slots:=[(1,.p 4 0),(2,.p 5 0),(3,.sv 6 0)],objs:=[(6,.vec 0 82 false),(5,.cells [.i .i64 0,.i .u64 0,.i .u64 0,.i .u64 0,.i .u64 0,.i .u64 0,.i .u64 0,.i .u64 0,.i .u64 0,.i .u64 0,.i .u64 0,.i .u64 0,.i .u64 0,.i .u64 0,.i .u64 0,.i .u64 0,.i .i64 0,.b false,.s [],.s [],.s [],.dH,.dH,.dH] 36 true false),(4,.cells [.nd 1,.nd 2,.nd 3,.nd 4,.nd 5,.nd 6,.nd 7,.nd 8,.nd 9,.nd 10,.nd 11,.nd 12,.nd 13,.nd 14,.nd 15,.nd 16,.nd 17,.nd 18,.nd 19,.nd 20,.nd 21,.nd 22,.nd 23,.nd 24] 36 true false)],al:=[none,some 4,some 5,some 6,some 7,some 8,some 9,some 10,some 11,some 12,some 13,some 14,some 15,some 16,some 17,some 18,some 19,some 20,some 21,some 22,some 23,some 24,some 25,some 1,some 26] })]⟩
def Jg:bY:=⟨91, { np:=5,n:=60,gn:=3,next:=6,slots:=[(0,.p 4 0),(7,.sv 5 0),(28,.nd 1),(29,.nd 2)],objs:=[(4,.cells [.nd 3,.nd 4] 219 true false),(5,.vec 0 80 false)],ka:=1 },
 [(.ret, { np:=3,n:=60,gn:=3,next:=5,slots:=[(2,.dH),(3,.nd 0)],objs:=[(4,.cells [.nd 1,.nd 2] 219 true false)],ka:=1 }),
  (.exit 0, { np:=3,n:=60,gn:=3,next:=6,slots:=[(7,.sv 5 0)],objs:=[(4,.cells [.nd 1,.nd 2] 219 true false),(5,.vec 0 80 false)],ka:=1 })]⟩
def s110:bY:=⟨110, { np:=57,n:=142,gn:=3,next:=7,slots:=[(3,.nd 0),(10,.p 4 0),(11,.p 5 0),(15,.p 6 0),(87,.nd 1),(88,.nd 2),(89,.nd 3)],objs:=[(6,.cells [.nd 4,.nd 5,.nd 6,.nd 7,.nd 8,.nd 9,.nd 10,.nd 11,.nd 12,.nd 13,.nd 14,.nd 15,.nd 16,.nd 17,.nd 18,.nd 19,.nd 20,.nd 21,.nd 22,.nd 23,.nd 24,.nd 25,.nd 26,.nd 27] 36 true false),(5,.cells [.nd 28,.nd 29,.nd 30,.nd 31,.nd 32] 48 true false),(4,.cells [.nd 33,.nd 34,.nd 35,.nd 36,.nd 37,.nd 38,.nd 39,.nd 40,.nd 41,.nd 42,.nd 43,.nd 44,.nd 45,.nd 46,.nd 47,.nd 48,.nd 49,.nd 50,.nd 51,.nd 52,.nd 53,.nd 54,.nd 55,.nd 56] 36 true false)] },
 [(.ret, { np:=0,n:=142,gn:=3,next:=4,slots:=[(8,.b false)],objs:=[] }),
  (.exit 0, { np:=48,n:=142,gn:=3,next:=6,slots:=[(10,.p 4 0),(15,.p 5 0)],objs:=[(5,.cells [.nd 0,.nd 1,.nd 2,.nd 3,.nd 4,.nd 5,.nd 6,.nd 7,.nd 8,.nd 9,.nd 10,.nd 11,.nd 12,.nd 13,.nd 14,.nd 15,.nd 16,.nd 17,.nd 18,.nd 19,.nd 20,.nd 21,.nd 22,.nd 23] 36 true false),(4,.cells [.nd 24,.nd 25,.nd 26,.nd 27,.nd 28,.nd 29,.nd 30,.nd 31,.nd 32,.nd 33,.nd 34,.nd 35,.nd 36,.nd 37,.nd 38,.nd 39,.nd 40,.nd 41,.nd 42,.nd 43,.nd 44,.nd 45,.nd 46,.nd 47] 36 true false)],al:=[some 4,some 5,some 6,some 7,some 8,some 9,some 10,some 11,some 12,some 13,some 14,some 15,some 16,some 17,some 18,some 19,some 20,some 21,some 22,some 23,some 24,some 25,some 26,some 27,some 33,some 34,some 35,some 36,some 37,some 38,some 39,some 40,some 41,some 42,some 43,some 44,some 45,some 46,some 47,some 48,some 49,some 50,some 51,some 52,some 53,some 54,some 55,some 56] })]⟩
def Iz:bY:=⟨108, { np:=1,n:=80,gn:=3,next:=5,slots:=[(5,.sv 4 0)],objs:=[(4,.vec 0 116 false)] },
 [(.ret, { np:=0,n:=80,gn:=3,next:=4,slots:=[(4,.b false)],objs:=[] }),
  (.exit 0, { np:=0,n:=80,gn:=3,next:=4,slots:=[],objs:=[] })]⟩
def s50:bY:=⟨50, { np:=27,n:=116,gn:=3,next:=5,slots:=[(2,.p 4 0),(6,.nd 0),(71,.nd 0),(72,.nd 1),(73,.nd 2)],objs:=[(4,.cells [.nd 3,.nd 4,.nd 5,.nd 6,.nd 7,.nd 8,.nd 9,.nd 10,.nd 11,.nd 12,.nd 13,.nd 14,.nd 15,.nd 16,.nd 17,.nd 18,.nd 19,.nd 20,.nd 21,.nd 22,.nd 23,.nd 24,.nd 25,.nd 26] 36 true false)] },
 [(.ret, { np:=1,n:=116,gn:=3,next:=4,slots:=[(4,.nd 0)],objs:=[] }),
  (.exit 4, { np:=25,n:=116,gn:=3,next:=5,slots:=[(2,.p 4 0),(6,.nd 0)],objs:=[(4,.cells [.nd 1,.nd 2,.nd 3,.nd 4,.nd 5,.nd 6,.nd 7,.nd 8,.nd 9,.nd 10,.nd 11,.nd 12,.nd 13,.nd 14,.nd 15,.nd 16,.nd 17,.nd 18,.nd 19,.nd 20,.nd 21,.nd 22,.nd 23,.nd 24] 36 true false)],al:=[some 0,some 3,some 4,some 5,some 6,some 7,some 8,some 9,some 10,some 11,some 12,some 13,some 14,some 15,some 16,some 17,some 18,some 19,some 20,some 21,some 22,some 23,some 24,some 25,some 26] })]⟩
def s15:bY:=⟨15, { np:=3,n:=19,gn:=3,next:=4,slots:=[(0,.nd 0),(5,.nd 0),(6,.nd 1),(7,.nd 2)],objs:=[] },
 [(.ret, { np:=0,n:=19,gn:=3,next:=4,slots:=[(2,.b false)],objs:=[] }),
  (.exit 0, { np:=1,n:=19,gn:=3,next:=4,slots:=[(0,.nd 0)],objs:=[],al:=[some 0] })]⟩
def s12:bY:=⟨12, { np:=4,n:=22,gn:=3,next:=6,slots:=[(3,.p 4 0),(11,.nd 0),(12,.nd 1),(13,.nd 2)],objs:=[(4,.cells [.p 4 0,.sv 5 3] 163 true false),(5,.vec 3 5 true)] },
 [(.exit 0, { np:=1,n:=22,gn:=3,next:=6,slots:=[(3,.p 4 0)],objs:=[(4,.cells [.p 4 0,.sv 5 0] 163 true false),(5,.vec 0 5 true)] })]⟩
def IZ:bY:=⟨47, { np:=28,n:=116,gn:=3,next:=6,slots:=[(2,.p 4 0),(6,.nd 0),(7,.mp 5),(44,.nd 0),(45,.nd 1),(46,.nd 2)],objs:=[(5,.smap 3 none none),(4,.cells [.nd 4,.nd 5,.nd 6,.nd 7,.nd 8,.nd 9,.nd 10,.nd 11,.nd 12,.nd 13,.nd 14,.nd 15,.nd 16,.nd 17,.nd 18,.nd 19,.nd 20,.nd 21,.nd 22,.nd 23,.nd 24,.nd 25,.nd 26,.nd 27] 36 true false)] },
 [(.exit 0, { np:=26,n:=116,gn:=3,next:=6,slots:=[(2,.p 4 0),(6,.nd 0),(7,.mp 5)],objs:=[(5,.smap 1 none none),(4,.cells [.nd 2,.nd 3,.nd 4,.nd 5,.nd 6,.nd 7,.nd 8,.nd 9,.nd 10,.nd 11,.nd 12,.nd 13,.nd 14,.nd 15,.nd 16,.nd 17,.nd 18,.nd 19,.nd 20,.nd 21,.nd 22,.nd 23,.nd 24,.nd 25] 36 true false)],al:=[some 0,none,some 4,some 5,some 6,some 7,some 8,some 9,some 10,some 11,some 12,some 13,some 14,some 15,some 16,some 17,some 18,some 19,some 20,some 21,some 22,some 23,some 24,some 25,some 26,some 27] })]⟩
def IK:bY:=⟨19, { np:=3,n:=54,gn:=3,next:=5,slots:=[(0,.nd 0),(1,.nd 1),(6,.sv 4 2)],objs:=[(4,.vec 2 48 true)] },
 [(.exit 0, { np:=2,n:=54,gn:=3,next:=5,slots:=[(0,.nd 0),(6,.sv 4 1)],objs:=[(4,.vec 1 48 true)] })]⟩
def s102:bY:=⟨102, { np:=4,n:=26,gn:=3,next:=4,slots:=[(0,.nd 0),(1,.nd 1),(12,.nd 2),(13,.nd 3)],objs:=[] },
 [(.ret, { np:=0,n:=26,gn:=3,next:=4,slots:=[(4,.b false)],objs:=[] }),
  (.exit 0, { np:=0,n:=26,gn:=3,next:=4,slots:=[],objs:=[] })]⟩
def s31:bY:=⟨31, { np:=5,n:=42,gn:=3,next:=6,slots:=[(5,.p 4 0),(6,.nd 0),(22,.nd 1),(23,.nd 2),(24,.nd 3)],objs:=[(4,.cells [.p 4 0,.sv 5 4] 163 true false),(5,.vec 4 5 true)] },
 [(.exit 0, { np:=1,n:=42,gn:=3,next:=6,slots:=[(5,.p 4 0)],objs:=[(4,.cells [.p 4 0,.sv 5 0] 163 true false),(5,.vec 0 5 true)] })]⟩
def s77:bY:=⟨77, { np:=4,n:=116,gn:=3,next:=4,slots:=[(6,.nd 0),(97,.nd 1),(98,.nd 2),(99,.nd 3)],objs:=[] },
 [(.ret, { np:=0,n:=116,gn:=3,next:=4,slots:=[(4,.i .i64 14)],objs:=[] }),
  (.exit 6, { np:=0,n:=116,gn:=3,next:=4,slots:=[],objs:=[] })]⟩
def s100:bY:=⟨100, { np:=51,n:=30,gn:=3,next:=6,slots:=[(2,.p 4 0),(3,.p 5 0),(12,.nd 0),(13,.nd 1),(14,.nd 2)],objs:=[(5,.cells [.nd 3,.nd 4,.nd 5,.nd 6,.nd 7,.nd 8,.nd 9,.nd 10,.nd 11,.nd 12,.nd 13,.nd 14,.nd 15,.nd 16,.nd 17,.nd 18,.nd 19,.nd 20,.nd 21,.nd 22,.nd 23,.nd 24,.nd 25,.nd 26] 36 true false),(4,.cells [.nd 27,.nd 28,.nd 29,.nd 30,.nd 31,.nd 32,.nd 33,.nd 34,.nd 35,.nd 36,.nd 37,.nd 38,.nd 39,.nd 40,.nd 41,.nd 42,.nd 43,.nd 44,.nd 45,.nd 46,.nd 47,.nd 48,.nd 49,.nd 50] 36 true false)] },
 [(.ret, { np:=0,n:=30,gn:=3,next:=4,slots:=[(4,.b false)],objs:=[] }),
  (.exit 0, { np:=48,n:=30,gn:=3,next:=6,slots:=[(2,.p 4 0),(3,.p 5 0)],objs:=[(5,.cells [.nd 0,.nd 1,.nd 2,.nd 3,.nd 4,.nd 5,.nd 6,.nd 7,.nd 8,.nd 9,.nd 10,.nd 11,.nd 12,.nd 13,.nd 14,.nd 15,.nd 16,.nd 17,.nd 18,.nd 19,.nd 20,.nd 21,.nd 22,.nd 23] 36 true false),(4,.cells [.nd 24,.nd 25,.nd 26,.nd 27,.nd 28,.nd 29,.nd 30,.nd 31,.nd 32,.nd 33,.nd 34,.nd 35,.nd 36,.nd 37,.nd 38,.nd 39,.nd 40,.nd 41,.nd 42,.nd 43,.nd 44,.nd 45,.nd 46,.nd 47] 36 true false)],al:=[some 3,some 4,some 5,some 6,some 7,some 8,some 9,some 10,some 11,some 12,some 13,some 14,some 15,some 16,some 17,some 18,some 19,some 20,some 21,some 22,some 23,some 24,some 25,some 26,some 27,some 28,some 29,some 30,some 31,some 32,some 33,some 34,some 35,some 36,some 37,some 38,some 39,some 40,some 41,some 42,some 43,some 44,some 45,some 46,some 47,some 48,some 49,some 50] })]⟩
def s34:bY:=⟨34, { np:=3,n:=28,gn:=3,next:=4,slots:=[(0,.nd 0),(1,.nd 1),(5,.nd 2)],objs:=[] },
 [(.exit 0, { np:=1,n:=28,gn:=3,next:=4,slots:=[(5,.nd 0)],objs:=[] })]⟩
def s11:bY:=⟨11, { np:=4,n:=33,gn:=3,next:=5,slots:=[(0,.nd 0),(3,.sv 4 1),(9,.nd 2),(10,.nd 3)],objs:=[(4,.vec 1 5 false)] },
 [(.exit 0, { np:=1,n:=33,gn:=3,next:=5,slots:=[(3,.sv 4 0)],objs:=[(4,.vec 0 5 false)] })]⟩
def s6:bY:=⟨6, { np:=3,n:=37,gn:=3,next:=4,slots:=[(0,.nd 0),(5,.nd 0),(6,.nd 1),(7,.nd 2)],objs:=[] },
 [(.ret, { np:=0,n:=37,gn:=3,next:=4,slots:=[(2,.b false)],objs:=[] }),
  (.exit 0, { np:=1,n:=37,gn:=3,next:=4,slots:=[(0,.nd 0)],objs:=[],al:=[some 0] })]⟩
def s98:bY:=⟨98, { np:=3,n:=33,gn:=3,next:=5,slots:=[(0,.p 4 0),(1,.nd 0)],objs:=[(4,.cells [.nd 1,.nd 2] 219 true false)],ka:=1 },
 [(.ret, { np:=5,n:=2,gn:=3,next:=5,slots:=[(0,.agg [.nd 0,.nd 1]),(1,.nd 2)],objs:=[(4,.cells [.nd 3,.nd 4] 219 true false)],ka:=1 })]⟩
def s97:bY:=⟨97, { np:=4,n:=63,gn:=3,next:=5,slots:=[(0,.p 4 0),(1,.nd 2),(2,.nd 3)],objs:=[(4,.cells [.nd 0,.nd 1] 219 true false)],ka:=1 },
 [(.ret, { np:=4,n:=2,gn:=3,next:=5,slots:=[(0,.nd 0),(1,.nd 1)],objs:=[(4,.cells [.nd 2,.nd 3] 219 true false)],ka:=1 })]⟩
def s95:bY:=⟨95, { np:=2,n:=56,gn:=3,next:=5,slots:=[(0,.p 4 0)],objs:=[(4,.cells [.nd 0,.nd 1] 219 true false)],ka:=1 },
 [(.ret, { np:=4,n:=2,gn:=3,next:=5,slots:=[(0,.nd 0),(1,.nd 1)],objs:=[(4,.cells [.nd 2,.nd 3] 219 true false)],ka:=1 })]⟩
def s93:bY:=⟨93, { np:=2,n:=25,gn:=3,next:=5,slots:=[(0,.p 4 0)],objs:=[(4,.cells [.nd 0,.nd 1] 219 true false)],ka:=1 },
 [(.ret, { np:=4,n:=2,gn:=3,next:=5,slots:=[(0,.nd 0),(1,.nd 1)],objs:=[(4,.cells [.nd 2,.nd 3] 219 true false)],ka:=1 })]⟩
def Jh:bY:=⟨92, { np:=2,n:=37,gn:=3,next:=5,slots:=[(0,.p 4 0)],objs:=[(4,.cells [.nd 0,.nd 1] 219 true false)],ka:=1 },
 [(.ret, { np:=5,n:=2,gn:=3,next:=5,slots:=[(0,.agg [.nd 0,.nd 1]),(1,.nd 2)],objs:=[(4,.cells [.nd 3,.nd 4] 219 true false)],ka:=1 })]⟩
def s88:bY:=⟨88, { np:=2,n:=24,gn:=3,next:=5,slots:=[(0,.p 4 0)],objs:=[(4,.cells [.nd 0,.nd 1] 219 true false)],ka:=1 },
 [(.ret, { np:=4,n:=2,gn:=3,next:=5,slots:=[(0,.nd 0),(1,.nd 1)],objs:=[(4,.cells [.nd 2,.nd 3] 219 true false)],ka:=1 })]⟩
def s87:bY:=⟨87, { np:=2,n:=60,gn:=3,next:=5,slots:=[(0,.p 4 0)],objs:=[(4,.cells [.nd 0,.nd 1] 219 true false)],ka:=1 },
 [(.ret, { np:=4,n:=2,gn:=3,next:=5,slots:=[(0,.nd 0),(1,.nd 1)],objs:=[(4,.cells [.nd 2,.nd 3] 219 true false)],ka:=1 })]⟩
def s84:bY:=⟨84, { np:=30,n:=117,gn:=3,next:=5,slots:=[(0,.p 4 0),(1,.nd 0),(2,.agg [.nd 1,.nd 2,.nd 3,.nd 4,.nd 5])],objs:=[(4,.cells [.nd 6,.nd 7,.nd 8,.nd 9,.nd 10,.nd 11,.nd 12,.nd 13,.nd 14,.nd 15,.nd 16,.nd 17,.nd 18,.nd 19,.nd 20,.nd 21,.nd 22,.nd 23,.nd 24,.nd 25,.nd 26,.nd 27,.nd 28,.nd 29] 36 true false)],ka:=1 },
 [(.ret, { np:=25,n:=1,gn:=3,next:=5,slots:=[(0,.nd 0)],objs:=[(4,.cells [.nd 1,.nd 2,.nd 3,.nd 4,.nd 5,.nd 6,.nd 7,.nd 8,.nd 9,.nd 10,.nd 11,.nd 12,.nd 13,.nd 14,.nd 15,.nd 16,.nd 17,.nd 18,.nd 19,.nd 20,.nd 21,.nd 22,.nd 23,.nd 24] 36 true false)],ka:=1,al:=[none,some 6,none,none,none,none,none,none,none,none,none,none,none,none,none,none,none,none,none,none,none,none,none,none,some 29] })]⟩
def s73:bY:=⟨73, { np:=0,n:=33,gn:=3,next:=4,slots:=[(0,.nI)],objs:=[] },
 [(.ret, { np:=0,n:=1,gn:=3,next:=4,slots:=[(0,.i .i64 0)],objs:=[] })]⟩
def s72:bY:=⟨72, { np:=24,n:=33,gn:=3,next:=5,slots:=[(0,.fO 91 (.p 4 15))],objs:=[(4,.cells [.nd 0,.nd 1,.nd 2,.nd 3,.nd 4,.nd 5,.nd 6,.nd 7,.nd 8,.nd 9,.nd 10,.nd 11,.nd 12,.nd 13,.nd 14,.nd 15,.nd 16,.nd 17,.nd 18,.nd 19,.nd 20,.nd 21,.nd 22,.nd 23] 36 true false)],ka:=1 },
 [(.ret, { np:=24,n:=1,gn:=3,next:=5,slots:=[(0,.i .i64 0)],objs:=[(4,.cells [.nd 0,.nd 1,.nd 2,.nd 3,.nd 4,.nd 5,.nd 6,.nd 7,.nd 8,.nd 9,.nd 10,.nd 11,.nd 12,.nd 13,.nd 14,.nd 15,.nd 16,.nd 17,.nd 18,.nd 19,.nd 20,.nd 21,.nd 22,.nd 23] 36 true false)],ka:=1,al:=[some 0,some 1,some 2,some 3,some 4,some 5,some 6,some 7,some 8,some 9,some 10,some 11,some 12,some 13,some 14,some 15,some 16,some 17,some 18,some 19,some 20,some 21,some 22,some 23] })]⟩
def s71:bY:=⟨71, { np:=24,n:=33,gn:=3,next:=5,slots:=[(0,.fO 91 (.p 4 14))],objs:=[(4,.cells [.nd 0,.nd 1,.nd 2,.nd 3,.nd 4,.nd 5,.nd 6,.nd 7,.nd 8,.nd 9,.nd 10,.nd 11,.nd 12,.nd 13,.nd 14,.nd 15,.nd 16,.nd 17,.nd 18,.nd 19,.nd 20,.nd 21,.nd 22,.nd 23] 36 true false)],ka:=1 },
 [(.ret, { np:=24,n:=1,gn:=3,next:=5,slots:=[(0,.i .i64 0)],objs:=[(4,.cells [.nd 0,.nd 1,.nd 2,.nd 3,.nd 4,.nd 5,.nd 6,.nd 7,.nd 8,.nd 9,.nd 10,.nd 11,.nd 12,.nd 13,.nd 14,.nd 15,.nd 16,.nd 17,.nd 18,.nd 19,.nd 20,.nd 21,.nd 22,.nd 23] 36 true false)],ka:=1,al:=[some 0,some 1,some 2,some 3,some 4,some 5,some 6,some 7,some 8,some 9,some 10,some 11,some 12,some 13,some 14,some 15,some 16,some 17,some 18,some 19,some 20,some 21,some 22,some 23] })]⟩
def s70:bY:=⟨70, { np:=24,n:=33,gn:=3,next:=5,slots:=[(0,.fO 91 (.p 4 13))],objs:=[(4,.cells [.nd 0,.nd 1,.nd 2,.nd 3,.nd 4,.nd 5,.nd 6,.nd 7,.nd 8,.nd 9,.nd 10,.nd 11,.nd 12,.nd 13,.nd 14,.nd 15,.nd 16,.nd 17,.nd 18,.nd 19,.nd 20,.nd 21,.nd 22,.nd 23] 36 true false)],ka:=1 },
 [(.ret, { np:=24,n:=1,gn:=3,next:=5,slots:=[(0,.i .i64 0)],objs:=[(4,.cells [.nd 0,.nd 1,.nd 2,.nd 3,.nd 4,.nd 5,.nd 6,.nd 7,.nd 8,.nd 9,.nd 10,.nd 11,.nd 12,.nd 13,.nd 14,.nd 15,.nd 16,.nd 17,.nd 18,.nd 19,.nd 20,.nd 21,.nd 22,.nd 23] 36 true false)],ka:=1,al:=[some 0,some 1,some 2,some 3,some 4,some 5,some 6,some 7,some 8,some 9,some 10,some 11,some 12,some 13,some 14,some 15,some 16,some 17,some 18,some 19,some 20,some 21,some 22,some 23] })]⟩
def s69:bY:=⟨69, { np:=24,n:=33,gn:=3,next:=5,slots:=[(0,.fO 91 (.p 4 12))],objs:=[(4,.cells [.nd 0,.nd 1,.nd 2,.nd 3,.nd 4,.nd 5,.nd 6,.nd 7,.nd 8,.nd 9,.nd 10,.nd 11,.nd 12,.nd 13,.nd 14,.nd 15,.nd 16,.nd 17,.nd 18,.nd 19,.nd 20,.nd 21,.nd 22,.nd 23] 36 true false)],ka:=1 },
 [(.ret, { np:=24,n:=1,gn:=3,next:=5,slots:=[(0,.i .i64 0)],objs:=[(4,.cells [.nd 0,.nd 1,.nd 2,.nd 3,.nd 4,.nd 5,.nd 6,.nd 7,.nd 8,.nd 9,.nd 10,.nd 11,.nd 12,.nd 13,.nd 14,.nd 15,.nd 16,.nd 17,.nd 18,.nd 19,.nd 20,.nd 21,.nd 22,.nd 23] 36 true false)],ka:=1,al:=[some 0,some 1,some 2,some 3,some 4,some 5,some 6,some 7,some 8,some 9,some 10,some 11,some 12,some 13,some 14,some 15,some 16,some 17,some 18,some 19,some 20,some 21,some 22,some 23] })]⟩
def s68:bY:=⟨68, { np:=24,n:=33,gn:=3,next:=5,slots:=[(0,.fO 91 (.p 4 11))],objs:=[(4,.cells [.nd 0,.nd 1,.nd 2,.nd 3,.nd 4,.nd 5,.nd 6,.nd 7,.nd 8,.nd 9,.nd 10,.nd 11,.nd 12,.nd 13,.nd 14,.nd 15,.nd 16,.nd 17,.nd 18,.nd 19,.nd 20,.nd 21,.nd 22,.nd 23] 36 true false)],ka:=1 },
 [(.ret, { np:=24,n:=1,gn:=3,next:=5,slots:=[(0,.i .i64 0)],objs:=[(4,.cells [.nd 0,.nd 1,.nd 2,.nd 3,.nd 4,.nd 5,.nd 6,.nd 7,.nd 8,.nd 9,.nd 10,.nd 11,.nd 12,.nd 13,.nd 14,.nd 15,.nd 16,.nd 17,.nd 18,.nd 19,.nd 20,.nd 21,.nd 22,.nd 23] 36 true false)],ka:=1,al:=[some 0,some 1,some 2,some 3,some 4,some 5,some 6,some 7,some 8,some 9,some 10,some 11,some 12,some 13,some 14,some 15,some 16,some 17,some 18,some 19,some 20,some 21,some 22,some 23] })]⟩
def Jd:bY:=⟨67, { np:=24,n:=33,gn:=3,next:=5,slots:=[(0,.fO 91 (.p 4 10))],objs:=[(4,.cells [.nd 0,.nd 1,.nd 2,.nd 3,.nd 4,.nd 5,.nd 6,.nd 7,.nd 8,.nd 9,.nd 10,.nd 11,.nd 12,.nd 13,.nd 14,.nd 15,.nd 16,.nd 17,.nd 18,.nd 19,.nd 20,.nd 21,.nd 22,.nd 23] 36 true false)],ka:=1 },
 [(.ret, { np:=24,n:=1,gn:=3,next:=5,slots:=[(0,.i .i64 0)],objs:=[(4,.cells [.nd 0,.nd 1,.nd 2,.nd 3,.nd 4,.nd 5,.nd 6,.nd 7,.nd 8,.nd 9,.nd 10,.nd 11,.nd 12,.nd 13,.nd 14,.nd 15,.nd 16,.nd 17,.nd 18,.nd 19,.nd 20,.nd 21,.nd 22,.nd 23] 36 true false)],ka:=1,al:=[some 0,some 1,some 2,some 3,some 4,some 5,some 6,some 7,some 8,some 9,some 10,some 11,some 12,some 13,some 14,some 15,some 16,some 17,some 18,some 19,some 20,some 21,some 22,some 23] })]⟩
def Jc:bY:=⟨66, { np:=24,n:=33,gn:=3,next:=5,slots:=[(0,.fO 91 (.p 4 9))],objs:=[(4,.cells [.nd 0,.nd 1,.nd 2,.nd 3,.nd 4,.nd 5,.nd 6,.nd 7,.nd 8,.nd 9,.nd 10,.nd 11,.nd 12,.nd 13,.nd 14,.nd 15,.nd 16,.nd 17,.nd 18,.nd 19,.nd 20,.nd 21,.nd 22,.nd 23] 36 true false)],ka:=1 },
 [(.ret, { np:=24,n:=1,gn:=3,next:=5,slots:=[(0,.i .i64 0)],objs:=[(4,.cells [.nd 0,.nd 1,.nd 2,.nd 3,.nd 4,.nd 5,.nd 6,.nd 7,.nd 8,.nd 9,.nd 10,.nd 11,.nd 12,.nd 13,.nd 14,.nd 15,.nd 16,.nd 17,.nd 18,.nd 19,.nd 20,.nd 21,.nd 22,.nd 23] 36 true false)],ka:=1,al:=[some 0,some 1,some 2,some 3,some 4,some 5,some 6,some 7,some 8,some 9,some 10,some 11,some 12,some 13,some 14,some 15,some 16,some 17,some 18,some 19,some 20,some 21,some 22,some 23] })]⟩
def s65:bY:=⟨65, { np:=24,n:=33,gn:=3,next:=5,slots:=[(0,.fO 91 (.p 4 8))],objs:=[(4,.cells [.nd 0,.nd 1,.nd 2,.nd 3,.nd 4,.nd 5,.nd 6,.nd 7,.nd 8,.nd 9,.nd 10,.nd 11,.nd 12,.nd 13,.nd 14,.nd 15,.nd 16,.nd 17,.nd 18,.nd 19,.nd 20,.nd 21,.nd 22,.nd 23] 36 true false)],ka:=1 },
 [(.ret, { np:=24,n:=1,gn:=3,next:=5,slots:=[(0,.i .i64 0)],objs:=[(4,.cells [.nd 0,.nd 1,.nd 2,.nd 3,.nd 4,.nd 5,.nd 6,.nd 7,.nd 8,.nd 9,.nd 10,.nd 11,.nd 12,.nd 13,.nd 14,.nd 15,.nd 16,.nd 17,.nd 18,.nd 19,.nd 20,.nd 21,.nd 22,.nd 23] 36 true false)],ka:=1,al:=[some 0,some 1,some 2,some 3,some 4,some 5,some 6,some 7,some 8,some 9,some 10,some 11,some 12,some 13,some 14,some 15,some 16,some 17,some 18,some 19,some 20,some 21,some 22,some 23] })]⟩
def s64:bY:=⟨64, { np:=24,n:=33,gn:=3,next:=5,slots:=[(0,.fO 91 (.p 4 7))],objs:=[(4,.cells [.nd 0,.nd 1,.nd 2,.nd 3,.nd 4,.nd 5,.nd 6,.nd 7,.nd 8,.nd 9,.nd 10,.nd 11,.nd 12,.nd 13,.nd 14,.nd 15,.nd 16,.nd 17,.nd 18,.nd 19,.nd 20,.nd 21,.nd 22,.nd 23] 36 true false)],ka:=1 },
 [(.ret, { np:=24,n:=1,gn:=3,next:=5,slots:=[(0,.i .i64 0)],objs:=[(4,.cells [.nd 0,.nd 1,.nd 2,.nd 3,.nd 4,.nd 5,.nd 6,.nd 7,.nd 8,.nd 9,.nd 10,.nd 11,.nd 12,.nd 13,.nd 14,.nd 15,.nd 16,.nd 17,.nd 18,.nd 19,.nd 20,.nd 21,.nd 22,.nd 23] 36 true false)],ka:=1,al:=[some 0,some 1,some 2,some 3,some 4,some 5,some 6,some 7,some 8,some 9,some 10,some 11,some 12,some 13,some 14,some 15,some 16,some 17,some 18,some 19,some 20,some 21,some 22,some 23] })]⟩
def s63:bY:=⟨63, { np:=24,n:=33,gn:=3,next:=5,slots:=[(0,.fO 91 (.p 4 6))],objs:=[(4,.cells [.nd 0,.nd 1,.nd 2,.nd 3,.nd 4,.nd 5,.nd 6,.nd 7,.nd 8,.nd 9,.nd 10,.nd 11,.nd 12,.nd 13,.nd 14,.nd 15,.nd 16,.nd 17,.nd 18,.nd 19,.nd 20,.nd 21,.nd 22,.nd 23] 36 true false)],ka:=1 },
 [(.ret, { np:=24,n:=1,gn:=3,next:=5,slots:=[(0,.i .i64 0)],objs:=[(4,.cells [.nd 0,.nd 1,.nd 2,.nd 3,.nd 4,.nd 5,.nd 6,.nd 7,.nd 8,.nd 9,.nd 10,.nd 11,.nd 12,.nd 13,.nd 14,.nd 15,.nd 16,.nd 17,.nd 18,.nd 19,.nd 20,.nd 21,.nd 22,.nd 23] 36 true false)],ka:=1,al:=[some 0,some 1,some 2,some 3,some 4,some 5,some 6,some 7,some 8,some 9,some 10,some 11,some 12,some 13,some 14,some 15,some 16,some 17,some 18,some 19,some 20,some 21,some 22,some 23] })]⟩
def Jb:bY:=⟨62, { np:=24,n:=33,gn:=3,next:=5,slots:=[(0,.fO 91 (.p 4 5))],objs:=[(4,.cells [.nd 0,.nd 1,.nd 2,.nd 3,.nd 4,.nd 5,.nd 6,.nd 7,.nd 8,.nd 9,.nd 10,.nd 11,.nd 12,.nd 13,.nd 14,.nd 15,.nd 16,.nd 17,.nd 18,.nd 19,.nd 20,.nd 21,.nd 22,.nd 23] 36 true false)],ka:=1 },
 [(.ret, { np:=24,n:=1,gn:=3,next:=5,slots:=[(0,.i .i64 0)],objs:=[(4,.cells [.nd 0,.nd 1,.nd 2,.nd 3,.nd 4,.nd 5,.nd 6,.nd 7,.nd 8,.nd 9,.nd 10,.nd 11,.nd 12,.nd 13,.nd 14,.nd 15,.nd 16,.nd 17,.nd 18,.nd 19,.nd 20,.nd 21,.nd 22,.nd 23] 36 true false)],ka:=1,al:=[some 0,some 1,some 2,some 3,some 4,some 5,some 6,some 7,some 8,some 9,some 10,some 11,some 12,some 13,some 14,some 15,some 16,some 17,some 18,some 19,some 20,some 21,some 22,some 23] })]⟩
def s61:bY:=⟨61, { np:=24,n:=33,gn:=3,next:=5,slots:=[(0,.fO 91 (.p 4 4))],objs:=[(4,.cells [.nd 0,.nd 1,.nd 2,.nd 3,.nd 4,.nd 5,.nd 6,.nd 7,.nd 8,.nd 9,.nd 10,.nd 11,.nd 12,.nd 13,.nd 14,.nd 15,.nd 16,.nd 17,.nd 18,.nd 19,.nd 20,.nd 21,.nd 22,.nd 23] 36 true false)],ka:=1 },
 [(.ret, { np:=24,n:=1,gn:=3,next:=5,slots:=[(0,.i .i64 0)],objs:=[(4,.cells [.nd 0,.nd 1,.nd 2,.nd 3,.nd 4,.nd 5,.nd 6,.nd 7,.nd 8,.nd 9,.nd 10,.nd 11,.nd 12,.nd 13,.nd 14,.nd 15,.nd 16,.nd 17,.nd 18,.nd 19,.nd 20,.nd 21,.nd 22,.nd 23] 36 true false)],ka:=1,al:=[some 0,some 1,some 2,some 3,some 4,some 5,some 6,some 7,some 8,some 9,some 10,some 11,some 12,some 13,some 14,some 15,some 16,some 17,some 18,some 19,some 20,some 21,some 22,some 23] })]⟩
def Ja:bY:=⟨60, { np:=24,n:=33,gn:=3,next:=5,slots:=[(0,.fO 91 (.p 4 3))],objs:=[(4,.cells [.nd 0,.nd 1,.nd 2,.nd 3,.nd 4,.nd 5,.nd 6,.nd 7,.nd 8,.nd 9,.nd 10,.nd 11,.nd 12,.nd 13,.nd 14,.nd 15,.nd 16,.nd 17,.nd 18,.nd 19,.nd 20,.nd 21,.nd 22,.nd 23] 36 true false)],ka:=1 },
 [(.ret, { np:=24,n:=1,gn:=3,next:=5,slots:=[(0,.i .i64 0)],objs:=[(4,.cells [.nd 0,.nd 1,.nd 2,.nd 3,.nd 4,.nd 5,.nd 6,.nd 7,.nd 8,.nd 9,.nd 10,.nd 11,.nd 12,.nd 13,.nd 14,.nd 15,.nd 16,.nd 17,.nd 18,.nd 19,.nd 20,.nd 21,.nd 22,.nd 23] 36 true false)],ka:=1,al:=[some 0,some 1,some 2,some 3,some 4,some 5,some 6,some 7,some 8,some 9,some 10,some 11,some 12,some 13,some 14,some 15,some 16,some 17,some 18,some 19,some 20,some 21,some 22,some 23] })]⟩
def s59:bY:=⟨59, { np:=24,n:=33,gn:=3,next:=5,slots:=[(0,.fO 91 (.p 4 2))],objs:=[(4,.cells [.nd 0,.nd 1,.nd 2,.nd 3,.nd 4,.nd 5,.nd 6,.nd 7,.nd 8,.nd 9,.nd 10,.nd 11,.nd 12,.nd 13,.nd 14,.nd 15,.nd 16,.nd 17,.nd 18,.nd 19,.nd 20,.nd 21,.nd 22,.nd 23] 36 true false)],ka:=1 },
 [(.ret, { np:=24,n:=1,gn:=3,next:=5,slots:=[(0,.i .i64 0)],objs:=[(4,.cells [.nd 0,.nd 1,.nd 2,.nd 3,.nd 4,.nd 5,.nd 6,.nd 7,.nd 8,.nd 9,.nd 10,.nd 11,.nd 12,.nd 13,.nd 14,.nd 15,.nd 16,.nd 17,.nd 18,.nd 19,.nd 20,.nd 21,.nd 22,.nd 23] 36 true false)],ka:=1,al:=[some 0,some 1,some 2,some 3,some 4,some 5,some 6,some 7,some 8,some 9,some 10,some 11,some 12,some 13,some 14,some 15,some 16,some 17,some 18,some 19,some 20,some 21,some 22,some 23] })]⟩
def s58:bY:=⟨58, { np:=24,n:=33,gn:=3,next:=5,slots:=[(0,.fO 91 (.p 4 1))],objs:=[(4,.cells [.nd 0,.nd 1,.nd 2,.nd 3,.nd 4,.nd 5,.nd 6,.nd 7,.nd 8,.nd 9,.nd 10,.nd 11,.nd 12,.nd 13,.nd 14,.nd 15,.nd 16,.nd 17,.nd 18,.nd 19,.nd 20,.nd 21,.nd 22,.nd 23] 36 true false)],ka:=1 },
 [(.ret, { np:=24,n:=1,gn:=3,next:=5,slots:=[(0,.i .i64 0)],objs:=[(4,.cells [.nd 0,.nd 1,.nd 2,.nd 3,.nd 4,.nd 5,.nd 6,.nd 7,.nd 8,.nd 9,.nd 10,.nd 11,.nd 12,.nd 13,.nd 14,.nd 15,.nd 16,.nd 17,.nd 18,.nd 19,.nd 20,.nd 21,.nd 22,.nd 23] 36 true false)],ka:=1,al:=[some 0,some 1,some 2,some 3,some 4,some 5,some 6,some 7,some 8,some 9,some 10,some 11,some 12,some 13,some 14,some 15,some 16,some 17,some 18,some 19,some 20,some 21,some 22,some 23] })]⟩
def I9:bY:=⟨57, { np:=24,n:=33,gn:=3,next:=5,slots:=[(0,.fO 100 (.p 4 22))],objs:=[(4,.cells [.nd 0,.nd 1,.nd 2,.nd 3,.nd 4,.nd 5,.nd 6,.nd 7,.nd 8,.nd 9,.nd 10,.nd 11,.nd 12,.nd 13,.nd 14,.nd 15,.nd 16,.nd 17,.nd 18,.nd 19,.nd 20,.nd 21,.nd 22,.nd 23] 36 true false)],ka:=1 },
 [(.ret, { np:=25,n:=1,gn:=3,next:=5,slots:=[(0,.nd 0)],objs:=[(4,.cells [.nd 1,.nd 2,.nd 3,.nd 4,.nd 5,.nd 6,.nd 7,.nd 8,.nd 9,.nd 10,.nd 11,.nd 12,.nd 13,.nd 14,.nd 15,.nd 16,.nd 17,.nd 18,.nd 19,.nd 20,.nd 21,.nd 22,.nd 23,.nd 24] 36 true false)],ka:=1,al:=[none,some 0,some 1,some 2,some 3,some 4,some 5,some 6,some 7,some 8,some 9,some 10,some 11,some 12,some 13,some 14,some 15,some 16,some 17,some 18,some 19,some 20,some 21,some 22,some 23] })]⟩
def s56:bY:=⟨56, { np:=24,n:=33,gn:=3,next:=5,slots:=[(0,.fO 98 (.p 4 21))],objs:=[(4,.cells [.nd 0,.nd 1,.nd 2,.nd 3,.nd 4,.nd 5,.nd 6,.nd 7,.nd 8,.nd 9,.nd 10,.nd 11,.nd 12,.nd 13,.nd 14,.nd 15,.nd 16,.nd 17,.nd 18,.nd 19,.nd 20,.nd 21,.nd 22,.nd 23] 36 true false)],ka:=1 },
 [(.ret, { np:=25,n:=1,gn:=3,next:=5,slots:=[(0,.nd 0)],objs:=[(4,.cells [.nd 1,.nd 2,.nd 3,.nd 4,.nd 5,.nd 6,.nd 7,.nd 8,.nd 9,.nd 10,.nd 11,.nd 12,.nd 13,.nd 14,.nd 15,.nd 16,.nd 17,.nd 18,.nd 19,.nd 20,.nd 21,.nd 22,.nd 23,.nd 24] 36 true false)],ka:=1,al:=[none,some 0,some 1,some 2,some 3,some 4,some 5,some 6,some 7,some 8,some 9,some 10,some 11,some 12,some 13,some 14,some 15,some 16,some 17,some 18,some 19,some 20,some 21,some 22,some 23] })]⟩
def I8:bY:=⟨55, { np:=24,n:=33,gn:=3,next:=5,slots:=[(0,.fO 96 (.p 4 20))],objs:=[(4,.cells [.nd 0,.nd 1,.nd 2,.nd 3,.nd 4,.nd 5,.nd 6,.nd 7,.nd 8,.nd 9,.nd 10,.nd 11,.nd 12,.nd 13,.nd 14,.nd 15,.nd 16,.nd 17,.nd 18,.nd 19,.nd 20,.nd 21,.nd 22,.nd 23] 36 true false)],ka:=1 },
 [(.ret, { np:=25,n:=1,gn:=3,next:=5,slots:=[(0,.nd 0)],objs:=[(4,.cells [.nd 1,.nd 2,.nd 3,.nd 4,.nd 5,.nd 6,.nd 7,.nd 8,.nd 9,.nd 10,.nd 11,.nd 12,.nd 13,.nd 14,.nd 15,.nd 16,.nd 17,.nd 18,.nd 19,.nd 20,.nd 21,.nd 22,.nd 23,.nd 24] 36 true false)],ka:=1,al:=[none,some 0,some 1,some 2,some 3,some 4,some 5,some 6,some 7,some 8,some 9,some 10,some 11,some 12,some 13,some 14,some 15,some 16,some 17,some 18,some 19,some 20,some 21,some 22,some 23] })]⟩
def s54:bY:=⟨54, { np:=24,n:=33,gn:=3,next:=5,slots:=[(0,.fO 96 (.p 4 19))],objs:=[(4,.cells [.nd 0,.nd 1,.nd 2,.nd 3,.nd 4,.nd 5,.nd 6,.nd 7,.nd 8,.nd 9,.nd 10,.nd 11,.nd 12,.nd 13,.nd 14,.nd 15,.nd 16,.nd 17,.nd 18,.nd 19,.nd 20,.nd 21,.nd 22,.nd 23] 36 true false)],ka:=1 },
 [(.ret, { np:=25,n:=1,gn:=3,next:=5,slots:=[(0,.nd 0)],objs:=[(4,.cells [.nd 1,.nd 2,.nd 3,.nd 4,.nd 5,.nd 6,.nd 7,.nd 8,.nd 9,.nd 10,.nd 11,.nd 12,.nd 13,.nd 14,.nd 15,.nd 16,.nd 17,.nd 18,.nd 19,.nd 20,.nd 21,.nd 22,.nd 23,.nd 24] 36 true false)],ka:=1,al:=[none,some 0,some 1,some 2,some 3,some 4,some 5,some 6,some 7,some 8,some 9,some 10,some 11,some 12,some 13,some 14,some 15,some 16,some 17,some 18,some 19,some 20,some 21,some 22,some 23] })]⟩
def s53:bY:=⟨53, { np:=24,n:=33,gn:=3,next:=5,slots:=[(0,.fO 96 (.p 4 18))],objs:=[(4,.cells [.nd 0,.nd 1,.nd 2,.nd 3,.nd 4,.nd 5,.nd 6,.nd 7,.nd 8,.nd 9,.nd 10,.nd 11,.nd 12,.nd 13,.nd 14,.nd 15,.nd 16,.nd 17,.nd 18,.nd 19,.nd 20,.nd 21,.nd 22,.nd 23] 36 true false)],ka:=1 },
 [(.ret, { np:=25,n:=1,gn:=3,next:=5,slots:=[(0,.nd 0)],objs:=[(4,.cells [.nd 1,.nd 2,.nd 3,.nd 4,.nd 5,.nd 6,.nd 7,.nd 8,.nd 9,.nd 10,.nd 11,.nd 12,.nd 13,.nd 14,.nd 15,.nd 16,.nd 17,.nd 18,.nd 19,.nd 20,.nd 21,.nd 22,.nd 23,.nd 24] 36 true false)],ka:=1,al:=[none,some 0,some 1,some 2,some 3,some 4,some 5,some 6,some 7,some 8,some 9,some 10,some 11,some 12,some 13,some 14,some 15,some 16,some 17,some 18,some 19,some 20,some 21,some 22,some 23] })]⟩
def I7:bY:=⟨52, { np:=24,n:=33,gn:=3,next:=5,slots:=[(0,.fO 93 (.p 4 17))],objs:=[(4,.cells [.nd 0,.nd 1,.nd 2,.nd 3,.nd 4,.nd 5,.nd 6,.nd 7,.nd 8,.nd 9,.nd 10,.nd 11,.nd 12,.nd 13,.nd 14,.nd 15,.nd 16,.nd 17,.nd 18,.nd 19,.nd 20,.nd 21,.nd 22,.nd 23] 36 true false)],ka:=1 },
 [(.ret, { np:=24,n:=1,gn:=3,next:=5,slots:=[(0,.i .i64 0)],objs:=[(4,.cells [.nd 0,.nd 1,.nd 2,.nd 3,.nd 4,.nd 5,.nd 6,.nd 7,.nd 8,.nd 9,.nd 10,.nd 11,.nd 12,.nd 13,.nd 14,.nd 15,.nd 16,.nd 17,.nd 18,.nd 19,.nd 20,.nd 21,.nd 22,.nd 23] 36 true false)],ka:=1,al:=[some 0,some 1,some 2,some 3,some 4,some 5,some 6,some 7,some 8,some 9,some 10,some 11,some 12,some 13,some 14,some 15,some 16,some 17,some 18,some 19,some 20,some 21,some 22,some 23] })]⟩
def I5:bY:=⟨51, { np:=24,n:=33,gn:=3,next:=5,slots:=[(0,.fO 94 (.p 4 16))],objs:=[(4,.cells [.nd 0,.nd 1,.nd 2,.nd 3,.nd 4,.nd 5,.nd 6,.nd 7,.nd 8,.nd 9,.nd 10,.nd 11,.nd 12,.nd 13,.nd 14,.nd 15,.nd 16,.nd 17,.nd 18,.nd 19,.nd 20,.nd 21,.nd 22,.nd 23] 36 true false)],ka:=1 },
 [(.ret, { np:=24,n:=1,gn:=3,next:=5,slots:=[(0,.i .i64 0)],objs:=[(4,.cells [.nd 0,.nd 1,.nd 2,.nd 3,.nd 4,.nd 5,.nd 6,.nd 7,.nd 8,.nd 9,.nd 10,.nd 11,.nd 12,.nd 13,.nd 14,.nd 15,.nd 16,.nd 17,.nd 18,.nd 19,.nd 20,.nd 21,.nd 22,.nd 23] 36 true false)],ka:=1,al:=[some 0,some 1,some 2,some 3,some 4,some 5,some 6,some 7,some 8,some 9,some 10,some 11,some 12,some 13,some 14,some 15,some 16,some 17,some 18,some 19,some 20,some 21,some 22,some 23] })]⟩
abbrev Sj:aP:=fun gs out=>aG Tryz.prog aI 137 [] [.sc] gs out
abbrev SG:aP:=fun gs out=>aG Tryz.prog aI 119 [] [.sc] gs out
abbrev c20:aP:=fun gs out=>aG Tryz.prog aI 14 [] [.ag 5,.sc] gs out
abbrev c16:aP:=fun gs out=>aG Tryz.prog aI 7 [] [.ag 24] gs out
abbrev RY:aP:=fun gs out=>aG Tryz.prog aI 17 [] [.sc] gs out
abbrev TK:aP:=fun gs out=>aG Tryz.prog aI 64 [] [.sc,.sc] gs out
abbrev c9:aP:=fun gs out=>aG Tryz.prog aI 111 [] [.sc] gs out
abbrev TD:aP:=fun gs out=>aG Tryz.prog aI 9 [] [.ag 24,.sc] gs out
abbrev RG:aP:=fun gs out=>aG Tryz.prog aI 108 [none,none,some 109] [.sc] gs out
abbrev Sm:aP:=fun gs out=>aG Tryz.prog aI 15 [] [.sc] gs out
abbrev c24:aP:=fun gs out=>aG Tryz.prog aI 56 [] [.sc] gs out
abbrev c32:aP:=fun gs out=>aG Tryz.prog aI 83 [] [.sc] gs out
abbrev c40:aP:=fun gs out=>aG Tryz.prog aI 114 [] [.sc] gs out
abbrev c3:aP:=fun gs out=>aG Tryz.prog aI 20 [] [.sc] gs out
abbrev Sl:aP:=fun gs out=>aG Tryz.prog aI 112 [] [.sc] gs out
abbrev c7:aP:=fun gs out=>aG Tryz.prog aI 45 [] [.sc] gs out
abbrev c13:aP:=fun gs out=>aG Tryz.prog aI 80 [] [.sc] gs out
abbrev c21:aP:=fun gs out=>aG Tryz.prog aI 46 [] [.sc,.sc] gs out
abbrev c5:aP:=fun gs out=>aG Tryz.prog aI 21 [] [.sc] gs out
abbrev c17:aP:=fun gs out=>aG Tryz.prog aI 23 [] [.sc] gs out
abbrev c14:aP:=fun gs out=>aG Tryz.prog aI 22 [] [.sc] gs out
abbrev Tz:aP:=fun gs out=>aG Tryz.prog aI 52 [] [.sc] gs out
abbrev c75:aP:=fun gs out=>aG Tryz.prog aI 86 [] [.sc] gs out
abbrev TY:aP:=fun gs out=>aG Tryz.prog aI 13 [] [.sc] gs out
abbrev Sr:aP:=fun gs out=>aG Tryz.prog aI 47 [] [.sc] gs out
abbrev Sv:aP:=fun gs out=>aG Tryz.prog aI 113 [] [.sc] gs out
abbrev SC:aP:=fun gs out=>aG Tryz.prog aI 117 [] [.sc] gs out
abbrev SI:aP:=fun gs out=>aG Tryz.prog aI 16 [] [.sc] gs out
abbrev TQ:aP:=fun gs out=>aG Tryz.prog aI 65 [] [.sc,.sc] gs out
abbrev c107:aP:=fun gs out=>aG Tryz.prog aI 18 [] [.sc] gs out
abbrev c8:aP:=fun gs out=>aG Tryz.prog aI 79 [] [.sc] gs out
abbrev TI:aP:=fun gs out=>aG Tryz.prog aI 35 [] [.sc] gs out
abbrev RH:aP:=fun gs out=>aG Tryz.prog aI 109 [] [.sc] gs out
abbrev RF:aP:=fun gs out=>aG Tryz.prog aI 76 [] [.sc] gs out
abbrev SA:aP:=fun gs out=>aG Tryz.prog aI 115 [] [.sc] gs out
abbrev c18:aP:=fun gs out=>aG Tryz.prog aI 59 [] [.sc,.sc] gs out
abbrev c25:aP:=fun gs out=>aG Tryz.prog aI 85 [] [.sc] gs out
abbrev c37:aP:=fun gs out=>aG Tryz.prog aI 48 [] [.sc] gs out
abbrev TF:aP:=fun gs out=>aG Tryz.prog aI 34 [] [.sc] gs out
abbrev SE:aP:=fun gs out=>aG Tryz.prog aI 118 [] [.sc] gs out
abbrev c80:aP:=fun gs out=>aG Tryz.prog aI 11 [] [.ag 24] gs out
abbrev c29:aP:=fun gs out=>aG Tryz.prog aI 93 [] [.sc] gs out
abbrev c28:aP:=fun gs out=>aG Tryz.prog aI 63 [] [.sc] gs out
abbrev Si:aP:=fun gs out=>aG Tryz.prog aI 122 [] [.sc] gs out
abbrev c2:aP:=fun gs out=>aG Tryz.prog aI 6 [] [.sc] gs out
abbrev c46:aP:=fun gs out=>aG Tryz.prog aI 120 [] [.sc] gs out
abbrev TM:aP:=fun gs out=>aG Tryz.prog aI 159 [] [.sc,.sc,.sc] gs out
abbrev c85:aP:=fun gs out=>aG Tryz.prog aI 61 [] [.sc] gs out
abbrev Rz:aP:=fun gs out=>aG Tryz.prog aI 75 [] [.sc] gs out
abbrev c1:aP:=fun gs out=>aG Tryz.prog aI 4 [] [.sc] gs out
abbrev SB:aP:=fun gs out=>aG Tryz.prog aI 116 [] [.sc] gs out
abbrev TW:aP:=fun gs out=>lC Tryz.prog aI 141 [] s98.pre s98.posts gs out
abbrev TV:aP:=fun gs out=>lC Tryz.prog aI 140 [] s97.pre s97.posts gs out
abbrev TS:aP:=fun gs out=>lC Tryz.prog aI 97 [] s95.pre s95.posts gs out
abbrev c93:aP:=fun gs out=>lC Tryz.prog aI 162 [] s93.pre s93.posts gs out
abbrev TP:aP:=fun gs out=>lC Tryz.prog aI 139 [] Jh.pre Jh.posts gs out
abbrev TL:aP:=fun gs out=>lC Tryz.prog aI 138 [] s88.pre s88.posts gs out
abbrev c87:aP:=fun gs out=>lC Tryz.prog aI 95 [] s87.pre s87.posts gs out
abbrev TJ:aP:=fun gs out=>lC Tryz.prog aI 27 [] s84.pre s84.posts gs out
abbrev Tv:aP:=fun gs out=>lC Tryz.prog aI 50 [] s73.pre s73.posts gs out
abbrev c72:aP:=fun gs out=>lC Tryz.prog aI 50 [] s72.pre s72.posts gs out
abbrev Tt:aP:=fun gs out=>lC Tryz.prog aI 50 [] s71.pre s71.posts gs out
abbrev c70:aP:=fun gs out=>lC Tryz.prog aI 50 [] s70.pre s70.posts gs out
abbrev Tq:aP:=fun gs out=>lC Tryz.prog aI 50 [] s69.pre s69.posts gs out
abbrev Tn:aP:=fun gs out=>lC Tryz.prog aI 50 [] s68.pre s68.posts gs out
abbrev Tj:aP:=fun gs out=>lC Tryz.prog aI 50 [] Jd.pre Jd.posts gs out
abbrev Ti:aP:=fun gs out=>lC Tryz.prog aI 50 [] Jc.pre Jc.posts gs out
abbrev Tf:aP:=fun gs out=>lC Tryz.prog aI 50 [] s65.pre s65.posts gs out
abbrev c64:aP:=fun gs out=>lC Tryz.prog aI 50 [] s64.pre s64.posts gs out
abbrev Td:aP:=fun gs out=>lC Tryz.prog aI 50 [] s63.pre s63.posts gs out
abbrev Tc:aP:=fun gs out=>lC Tryz.prog aI 50 [] Jb.pre Jb.posts gs out
abbrev S9:aP:=fun gs out=>lC Tryz.prog aI 50 [] s61.pre s61.posts gs out
abbrev SY:aP:=fun gs out=>lC Tryz.prog aI 50 [] Ja.pre Ja.posts gs out
abbrev c59:aP:=fun gs out=>lC Tryz.prog aI 50 [] s59.pre s59.posts gs out
abbrev SX:aP:=fun gs out=>lC Tryz.prog aI 50 [] s58.pre s58.posts gs out
abbrev SV:aP:=fun gs out=>lC Tryz.prog aI 50 [] I9.pre I9.posts gs out
abbrev SS:aP:=fun gs out=>lC Tryz.prog aI 50 [] s56.pre s56.posts gs out
abbrev SQ:aP:=fun gs out=>lC Tryz.prog aI 50 [] I8.pre I8.posts gs out
abbrev SN:aP:=fun gs out=>lC Tryz.prog aI 50 [] s54.pre s54.posts gs out
abbrev c53:aP:=fun gs out=>lC Tryz.prog aI 50 [] s53.pre s53.posts gs out
abbrev SL:aP:=fun gs out=>lC Tryz.prog aI 50 [] I7.pre I7.posts gs out
abbrev c51:aP:=fun gs out=>lC Tryz.prog aI 50 [] I5.pre I5.posts gs out
abbrev c23:aP:=fun gs out=>aZ Tryz.prog aI b23 s23.pre s23.posts gs out
abbrev RZ:aP:=fun gs out=>aZ Tryz.prog aI QG s26.pre s26.posts gs out
abbrev Sz:aP:=fun gs out=>aZ Tryz.prog aI b39 IW.pre IW.posts gs out
abbrev c76:aP:=fun gs out=>aZ Tryz.prog aI b76 s76.pre s76.posts gs out
abbrev c10:aP:=fun gs out=>aZ Tryz.prog aI b10 s10.pre s10.posts gs out
abbrev c109:aP:=fun gs out=>aZ Tryz.prog aI b109 s109.pre s109.posts gs out
abbrev c49:aP:=fun gs out=>aZ Tryz.prog aI b49 s49.pre s49.posts gs out
abbrev c105:aP:=fun gs out=>aZ Tryz.prog aI Qy Iw.pre Iw.posts gs out
abbrev TU:aP:=fun gs out=>aZ Tryz.prog aI Q7 Ji.pre Ji.posts gs out
abbrev TB:aP:=fun gs out=>aZ Tryz.prog aI QW s78.pre s78.posts gs out
abbrev TN:aP:=fun gs out=>aZ Tryz.prog aI b90 s90.pre s90.posts gs out
abbrev c4:aP:=fun gs out=>aZ Tryz.prog aI b4 s4.pre s4.posts gs out
abbrev TG:aP:=fun gs out=>aZ Tryz.prog aI QX s82.pre s82.posts gs out
abbrev c91:aP:=fun gs out=>aZ Tryz.prog aI QZ Jg.pre Jg.posts gs out
abbrev RJ:aP:=fun gs out=>aZ Tryz.prog aI b110 s110.pre s110.posts gs out
abbrev RI:aP:=fun gs out=>aZ Tryz.prog aI QA Iz.pre Iz.posts gs out
abbrev SK:aP:=fun gs out=>aZ Tryz.prog aI b50 s50.pre s50.posts gs out
abbrev c15:aP:=fun gs out=>aZ Tryz.prog aI b15 s15.pre s15.posts gs out
abbrev c12:aP:=fun gs out=>aZ Tryz.prog aI b12 s12.pre s12.posts gs out
abbrev SH:aP:=fun gs out=>aZ Tryz.prog aI b47 IZ.pre IZ.posts gs out
abbrev c19:aP:=fun gs out=>aZ Tryz.prog aI b19 IK.pre IK.posts gs out
abbrev RD:aP:=fun gs out=>aZ Tryz.prog aI b102 s102.pre s102.posts gs out
abbrev c31:aP:=fun gs out=>aZ Tryz.prog aI b31 s31.pre s31.posts gs out
abbrev TA:aP:=fun gs out=>aZ Tryz.prog aI b77 s77.pre s77.posts gs out
abbrev Ry:aP:=fun gs out=>aZ Tryz.prog aI b100 s100.pre s100.posts gs out
abbrev c34:aP:=fun gs out=>aZ Tryz.prog aI b34 s34.pre s34.posts gs out
abbrev c11:aP:=fun gs out=>aZ Tryz.prog aI b11 s11.pre s11.posts gs out
abbrev c6:aP:=fun gs out=>aZ Tryz.prog aI b6 s6.pre s6.posts gs out
noncomputable def Cs:List aP:=[fun _ _=>True,c1,c2,c3,c4,c5,c6,c7,c8,c9,c10,c11,c12,c13,c14,c15,c16,c17,c18,c19,c20,c21,RY,c23,c24,c25,RZ,Si,c28,c29,Sj,c31,c32,Sl,c34,Sm,Sr,c37,Sv,Sz,c40,SA,SB,SC,SE,SG,c46,SH,SI,c49,SK,c51,SL,c53,SN,SQ,SS,SV,SX,c59,SY,S9,Tc,Td,c64,Tf,Ti,Tj,Tn,Tq,c70,Tt,c72,Tv,Tz,c75,c76,TA,TB,TD,c80,TF,TG,TI,TJ,c85,TK,c87,TL,TM,TN,c91,TP,c93,TQ,TS,TU,TV,TW,TY,Ry,Rz,RD,RF,RG,c105,RH,c107,RI,c109,RJ]
noncomputable abbrev C:=ER Cs
noncomputable def pl:mY:=PL.cons 50 (fun N=>orP (orP (orP (orP (orP (orP (orP (orP (orP (orP (orP (orP (orP (orP (orP (orP (orP (orP (orP (orP (orP (orP (@sW N Tryz.prog [] s73) (@sW N Tryz.prog [] s72)) (@sW N Tryz.prog [] s71)) (@sW N Tryz.prog [] s70)) (@sW N Tryz.prog [] s69)) (@sW N Tryz.prog [] s68)) (@sW N Tryz.prog [] Jd)) (@sW N Tryz.prog [] Jc)) (@sW N Tryz.prog [] s65)) (@sW N Tryz.prog [] s64)) (@sW N Tryz.prog [] s63)) (@sW N Tryz.prog [] Jb)) (@sW N Tryz.prog [] s61)) (@sW N Tryz.prog [] Ja)) (@sW N Tryz.prog [] s59)) (@sW N Tryz.prog [] s58)) (@sW N Tryz.prog [] I9)) (@sW N Tryz.prog [] s56)) (@sW N Tryz.prog [] I8)) (@sW N Tryz.prog [] s54)) (@sW N Tryz.prog [] s53)) (@sW N Tryz.prog [] I7)) (@sW N Tryz.prog [] I5)) (PL.cons 27 (fun N=>@sW N Tryz.prog [] s84) (PL.cons 95 (fun N=>@sW N Tryz.prog [] s87) (PL.cons 138 (fun N=>@sW N Tryz.prog [] s88) (PL.cons 139 (fun N=>@sW N Tryz.prog [] Jh) (PL.cons 162 (fun N=>@sW N Tryz.prog [] s93) (PL.cons 97 (fun N=>@sW N Tryz.prog [] s95) (PL.cons 140 (fun N=>@sW N Tryz.prog [] s97) (PL.cons 141 (fun N=>@sW N Tryz.prog [] s98) (PL.cons 116 (fun N=>@bJ N Tryz.prog 42 [] [.sc]) (PL.cons 4 (fun N=>@bJ N Tryz.prog 1 [] [.sc]) (PL.cons 75 (fun N=>@bJ N Tryz.prog 101 [] [.sc]) (PL.cons 61 (fun N=>@bJ N Tryz.prog 85 [] [.sc]) (PL.cons 159 (fun N=>@bJ N Tryz.prog 89 [] [.sc,.sc,.sc]) (PL.cons 120 (fun N=>@bJ N Tryz.prog 46 [] [.sc]) (PL.cons 6 (fun N=>@bJ N Tryz.prog 2 [] [.sc]) (PL.cons 122 (fun N=>@bJ N Tryz.prog 27 [] [.sc]) (PL.cons 63 (fun N=>@bJ N Tryz.prog 28 [] [.sc]) (PL.cons 93 (fun N=>@bJ N Tryz.prog 29 [] [.sc]) (PL.cons 11 (fun N=>@bJ N Tryz.prog 80 [] [.ag 24]) (PL.cons 118 (fun N=>@bJ N Tryz.prog 44 [] [.sc]) (PL.cons 34 (fun N=>@bJ N Tryz.prog 81 [] [.sc]) (PL.cons 48 (fun N=>@bJ N Tryz.prog 37 [] [.sc]) (PL.cons 85 (fun N=>@bJ N Tryz.prog 25 [] [.sc]) (PL.cons 59 (fun N=>@bJ N Tryz.prog 18 [] [.sc,.sc]) (PL.cons 115 (fun N=>@bJ N Tryz.prog 41 [] [.sc]) (PL.cons 76 (fun N=>@bJ N Tryz.prog 103 [] [.sc]) (PL.cons 109 (fun N=>@bJ N Tryz.prog 106 [] [.sc]) (PL.cons 35 (fun N=>@bJ N Tryz.prog 83 [] [.sc]) (PL.cons 79 (fun N=>@bJ N Tryz.prog 8 [] [.sc]) (PL.cons 18 (fun N=>@bJ N Tryz.prog 107 [] [.sc]) (PL.cons 65 (fun N=>@bJ N Tryz.prog 94 [] [.sc,.sc]) (PL.cons 16 (fun N=>@bJ N Tryz.prog 48 [] [.sc]) (PL.cons 117 (fun N=>@bJ N Tryz.prog 43 [] [.sc]) (PL.cons 113 (fun N=>@bJ N Tryz.prog 38 [] [.sc]) (PL.cons 47 (fun N=>@bJ N Tryz.prog 36 [] [.sc]) (PL.cons 13 (fun N=>@bJ N Tryz.prog 99 [] [.sc]) (PL.cons 86 (fun N=>@bJ N Tryz.prog 75 [] [.sc]) (PL.cons 52 (fun N=>@bJ N Tryz.prog 74 [] [.sc]) (PL.cons 22 (fun N=>@bJ N Tryz.prog 14 [] [.sc]) (PL.cons 23 (fun N=>@bJ N Tryz.prog 17 [] [.sc]) (PL.cons 21 (fun N=>@bJ N Tryz.prog 5 [] [.sc]) (PL.cons 46 (fun N=>@bJ N Tryz.prog 21 [] [.sc,.sc]) (PL.cons 80 (fun N=>@bJ N Tryz.prog 13 [] [.sc]) (PL.cons 45 (fun N=>@bJ N Tryz.prog 7 [] [.sc]) (PL.cons 112 (fun N=>@bJ N Tryz.prog 33 [] [.sc]) (PL.cons 20 (fun N=>@bJ N Tryz.prog 3 [] [.sc]) (PL.cons 114 (fun N=>@bJ N Tryz.prog 40 [] [.sc]) (PL.cons 83 (fun N=>@bJ N Tryz.prog 32 [] [.sc]) (PL.cons 56 (fun N=>@bJ N Tryz.prog 24 [] [.sc]) (PL.cons 15 (fun N=>@bJ N Tryz.prog 35 [] [.sc]) (PL.cons 108 (fun N=>@bJ N Tryz.prog 104 [none,none,some 109] [.sc]) (PL.cons 9 (fun N=>@bJ N Tryz.prog 79 [] [.ag 24,.sc]) (PL.cons 111 (fun N=>@bJ N Tryz.prog 9 [] [.sc]) (PL.cons 64 (fun N=>@bJ N Tryz.prog 86 [] [.sc,.sc]) (PL.cons 17 (fun N=>@bJ N Tryz.prog 22 [] [.sc]) (PL.cons 7 (fun N=>@bJ N Tryz.prog 16 [] [.ag 24]) (PL.cons 14 (fun N=>@bJ N Tryz.prog 20 [] [.ag 5,.sc]) (PL.cons 119 (fun N=>@bJ N Tryz.prog 45 [] [.sc]) (PL.cons 137 (fun N=>@bJ N Tryz.prog 30 [] [.sc]) (PL.cons 5 (fun _=>zh) (PL.cons 149 (fun _=>Ei) (PL.nil))))))))))))))))))))))))))))))))))))))))))))))))))))))))))))))
end B
end Go.Proofs.YtpkihgnabejkkaaGreatDoor
