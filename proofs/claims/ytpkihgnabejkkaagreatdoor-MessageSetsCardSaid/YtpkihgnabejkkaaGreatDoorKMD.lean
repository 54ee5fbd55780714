/- The codes, shapes and contracts. -/
import Derived.Test.YtpkihgnabejkkaaGreatDoorKRBase
import Derived.Test.YtpkihgnabejkkaaGreatDoorKMT
import Derived.Test.YtpkihgnabejkkaaGreatDoorAbsPl
import Derived.Test.YtpkihgnabejkkaaGreatDoorAbsTold
import Derived.Test.YtpkihgnabejkkaaGreatDoorAbsTold3
import Derived.Test.YtpkihgnabejkkaaGreatDoorAbsFields
namespace Go.Proofs.YtpkihgnabejkkaaGreatDoor
open Go Go.aJ
set_option maxRecDepth 100000
set_option linter.unusedVariables false
set_option linter.unusedSimpArgs false
namespace M
theorem low:rU aI Tryz.prog.globals.size:=by
 rw [NH]
 refine ⟨fun p hp=>?_,fun p hp=>?_⟩
 all_goals
  simp only [aI,List.mem_cons,List.mem_nil_iff,or_false] at hp
  rcases hp with rfl | rfl
  all_goals first | decide | rfl
noncomputable def UN:Code:=Tryz.f26.body.getD .skip
noncomputable def UR:Code:=Tryz.f38.body.getD .skip
noncomputable def UQ:Code:=Tryz.f3.body.getD .skip
noncomputable def Uu:Code:=Tryz.f107.body.getD .skip
noncomputable def adY:Code:=Tryz.f72.body.getD .skip
noncomputable def U1:Code:=Tryz.f69.body.getD .skip
noncomputable def adH:Code:=Tryz.f148.body.getD .skip
noncomputable def adW:Code:=Tryz.f7.body.getD .skip
noncomputable def adN:Code:=Tryz.f33.body.getD .skip
noncomputable def adT:Code:=Tryz.f64.body.getD .skip
noncomputable def Uy:Code:=Tryz.f111.body.getD .skip
noncomputable def ad4:Code:=Tryz.f9.body.getD .skip
noncomputable def adC:Code:=Tryz.f142.body.getD .skip
noncomputable def Uw:Code:=Tryz.f108.body.getD .skip
noncomputable def adF:Code:=Tryz.f145.body.getD .skip
noncomputable def KT:Code:=Tryz.f99.body.getD .skip
noncomputable def UE:Code:=Tryz.f163.body.getD .skip
noncomputable def UH:Code:=Tryz.f20.body.getD .skip
noncomputable def ad2:Code:=Tryz.f8.body.getD .skip
noncomputable def Uz:Code:=Tryz.f112.body.getD .skip
noncomputable def UW:Code:=Tryz.f45.body.getD .skip
noncomputable def UZ:Code:=Tryz.f67.body.getD .skip
noncomputable def ad3:Code:=Tryz.f80.body.getD .skip
noncomputable def adt:Code:=Tryz.f103.body.getD .skip
noncomputable def adV:Code:=Tryz.f66.body.getD .skip
noncomputable def adO:Code:=Tryz.f36.body.getD .skip
noncomputable def U0:Code:=Tryz.f68.body.getD .skip
noncomputable def UJ:Code:=Tryz.f21.body.getD .skip
noncomputable def adJ:Code:=Tryz.f23.body.getD .skip
noncomputable def UK:Code:=Tryz.f22.body.getD .skip
noncomputable def ads:Code:=Tryz.f102.body.getD .skip
noncomputable def UA:Code:=Tryz.f13.body.getD .skip
noncomputable def adU:Code:=Tryz.f65.body.getD .skip
noncomputable def adr:Code:=Tryz.f101.body.getD .skip
noncomputable def UF:Code:=Tryz.f164.body.getD .skip
noncomputable def Us:Code:=Tryz.f104.body.getD .skip
noncomputable def UG:Code:=Tryz.f18.body.getD .skip
noncomputable def UC:Code:=Tryz.f146.body.getD .skip
noncomputable def U4:Code:=Tryz.f79.body.getD .skip
noncomputable def adG:Code:=Tryz.f147.body.getD .skip
noncomputable def adM:Code:=Tryz.f32.body.getD .skip
noncomputable def adq:Code:=Tryz.f10.body.getD .skip
noncomputable def adw:Code:=Tryz.f109.body.getD .skip
noncomputable def adX:Code:=Tryz.f70.body.getD .skip
noncomputable def U7:Code:=Tryz.f98.body.getD .skip
noncomputable def ad1:Code:=Tryz.f76.body.getD .skip
noncomputable def adL:Code:=Tryz.f31.body.getD .skip
noncomputable def adZ:Code:=Tryz.f74.body.getD .skip
noncomputable def UL:Code:=Tryz.f24.body.getD .skip
noncomputable def UY:Code:=Tryz.f59.body.getD .skip
noncomputable def Ut:Code:=Tryz.f106.body.getD .skip
noncomputable def adD:Code:=Tryz.f143.body.getD .skip
noncomputable def U2:Code:=Tryz.f73.body.getD .skip
noncomputable def Ux:Code:=Tryz.f11.body.getD .skip
noncomputable def UM:Code:=Tryz.f25.body.getD .skip
noncomputable def ad5:Code:=Tryz.f93.body.getD .skip
noncomputable def adS:Code:=Tryz.f63.body.getD .skip
noncomputable def adP:Code:=Tryz.f37.body.getD .skip
noncomputable def adx:Code:=Tryz.f122.body.getD .skip
noncomputable def UO:Code:=Tryz.f28.body.getD .skip
noncomputable def adQ:Code:=Tryz.f6.body.getD .skip
noncomputable def adE:Code:=Tryz.f144.body.getD .skip
noncomputable def adu:Code:=Tryz.f105.body.getD .skip
noncomputable def UD:Code:=Tryz.f159.body.getD .skip
noncomputable def adR:Code:=Tryz.f61.body.getD .skip
noncomputable def UU:Code:=Tryz.f39.body.getD .skip
noncomputable def U3:Code:=Tryz.f75.body.getD .skip
noncomputable def KR:Code:=Tryz.f12.body.getD .skip
noncomputable def adB:Code:=Tryz.f141.body.getD .skip
noncomputable def adA:Code:=Tryz.f140.body.getD .skip
noncomputable def U6:Code:=Tryz.f97.body.getD .skip
noncomputable def adI:Code:=Tryz.f162.body.getD .skip
noncomputable def adz:Code:=Tryz.f139.body.getD .skip
noncomputable def ady:Code:=Tryz.f138.body.getD .skip
noncomputable def U5:Code:=Tryz.f95.body.getD .skip
noncomputable def adK:Code:=Tryz.f27.body.getD .skip
noncomputable def QF:Code:=dX UM [([],0)]
noncomputable def QA:Code:=dX KR [([],1)]
noncomputable def QT:Code:=dX KT [([],1)]
noncomputable def KF:Code:=dX UO [([],0)]
noncomputable def QG:Code:=dX UN [([],0)]
noncomputable def KE:Code:=dX UG [([],0)]
noncomputable def KD:Code:=dX UR [([],0)]
noncomputable def QY:Code:=dX KR [([],0)]
noncomputable def b10:Code:=dX Uy [([],0)]
noncomputable def Qz:Code:=dX UU [([],0)]
noncomputable def QC:Code:=dX U3 [([],0)]
noncomputable def QL:Code:=dX Uz [([],0)]
noncomputable def Q7:Code:=dX Ut [([],0)]
noncomputable def QU:Code:=dX U0 [([],0)]
noncomputable def Q5:Code:=dX U2 [([],0)]
noncomputable def QZ:Code:=dX Us [([],0)]
noncomputable def QX:Code:=dX UC [([],0)]
noncomputable def b4:Code:=dX UH [([],0)]
noncomputable def Qx:Code:=dX Uu [([],0)]
noncomputable def QD:Code:=dX Uw [([],0)]
noncomputable def QW:Code:=dX U1 [([],0)]
noncomputable def QJ:Code:=dX U5 [([],0)]
noncomputable def QI:Code:=dX UD [([],0)]
noncomputable def Q8:Code:=dX UF [([],0)]
noncomputable def QS:Code:=dX KT [([],0)]
noncomputable def QO:Code:=dX U7 [([],0)]
noncomputable def QH:Code:=dX Ux [([],0)]
noncomputable def b15:Code:=dX UK [([],0)]
noncomputable def b12:Code:=dX UW [([],0)]
noncomputable def b19:Code:=dX UY [([],0)]
noncomputable def b22:Code:=dX UL [([],0)]
noncomputable def QV:Code:=dX UE [([],0)]
noncomputable def QB:Code:=dX UA [([],0)]
noncomputable def QN:Code:=dX UZ [([],0)]
noncomputable def b11:Code:=dX U4 [([],0)]
noncomputable def b6:Code:=dX UJ [([],0)]
noncomputable def QK:Code:=dX U6 [([],0)]
noncomputable def Qy:Code:=dX KD [([],0)]
noncomputable def QM:Code:=dX KF [([],0)]
noncomputable def QE:Code:=dX KE [([],0)]
def s24:bY:=⟨24, { np:=4,n:=23,gn:=3,next:=5,slots:=[(3,.sv 4 0),(6,.nd 1),(7,.nd 2),(8,.nd 3)],objs:=[(4,.vec 0 125 true)] },
 [(.exit 0, { np:=1,n:=23,gn:=3,next:=5,slots:=[(3,.sv 4 0)],objs:=[(4,.vec 0 125 true)] })]⟩
def Iz:bY:=⟨108, { np:=50,n:=93,gn:=3,next:=6,slots:=[(2,.p 4 0),(3,.p 5 0),(77,.nd 0),(78,.nd 1)],objs:=[(5,.cells [.nd 2,.nd 3,.nd 4,.nd 5,.nd 6,.nd 7,.nd 8,.nd 9,.nd 10,.nd 11,.nd 12,.nd 13,.nd 14,.nd 15,.nd 16,.nd 17,.nd 18,.nd 19,.nd 20,.nd 21,.nd 22,.nd 23,.nd 24,.nd 25] 42 true false),(4,.cells [.nd 26,.nd 27,.nd 28,.nd 29,.nd 30,.nd 31,.nd 32,.nd 33,.nd 34,.nd 35,.nd 36,.nd 37,.nd 38,.nd 39,.nd 40,.nd 41,.nd 42,.nd 43,.nd 44,.nd 45,.nd 46,.nd 47,.nd 48,.nd 49] 42 true false)] },
 [(.ret, { np:=0,n:=93,gn:=3,next:=4,slots:=[(4,.b false)],objs:=[] }),
  (.exit 2, { np:=0,n:=93,gn:=3,next:=4,slots:=[],objs:=[] })]⟩
def Jd:bY:=⟨67, { np:=5,n:=73,gn:=3,next:=4,slots:=[(0,.nd 0),(5,.nd 1),(7,.nd 2),(8,.nd 3),(9,.nd 4)],objs:=[] },
 [(.exit 2, { np:=2,n:=73,gn:=3,next:=4,slots:=[(5,.nd 0),(7,.nd 1)],objs:=[] })]⟩
def I8:bY:=⟨55, { np:=2,n:=24,gn:=3,next:=4,slots:=[(0,.nd 0),(3,.nd 1)],objs:=[] },
 [(.ret, { np:=1,n:=24,gn:=3,next:=4,slots:=[(2,.nd 0)],objs:=[] }),
  (.exit 0, { np:=0,n:=24,gn:=3,next:=4,slots:=[],objs:=[] })]⟩
def s26:bY:=⟨26, { np:=4,n:=29,gn:=3,next:=5,slots:=[(3,.sv 4 0),(6,.nd 1),(7,.nd 2),(8,.nd 3)],objs:=[(4,.vec 0 127 true)] },
 [(.exit 0, { np:=1,n:=29,gn:=3,next:=5,slots:=[(3,.sv 4 0)],objs:=[(4,.vec 0 127 true)] })]⟩
def IG:bY:=⟨119, { np:=1,n:=80,gn:=3,next:=5,slots:=[(5,.sv 4 0)],objs:=[(4,.vec 0 116 false)] },
 [(.ret, { np:=0,n:=80,gn:=3,next:=4,slots:=[(4,.b false)],objs:=[] }),
  (.exit 0, { np:=0,n:=80,gn:=3,next:=4,slots:=[],objs:=[] })]⟩
def Iu:bY:=⟨104, { np:=4,n:=71,gn:=3,next:=4,slots:=[(0,.nd 0),(1,.nd 1),(13,.nd 2),(14,.nd 3)],objs:=[] },
 [(.ret, { np:=0,n:=71,gn:=3,next:=4,slots:=[(4,.b false)],objs:=[] }),
  (.exit 0, { np:=0,n:=71,gn:=3,next:=4,slots:=[],objs:=[] })]⟩
def Jf:bY:=⟨85, { np:=51,n:=93,gn:=3,next:=6,slots:=[(2,.p 4 0),(3,.p 5 0),(12,.nd 0),(13,.nd 1),(14,.nd 2)],objs:=[(5,.cells [.nd 3,.nd 4,.nd 5,.nd 6,.nd 7,.nd 8,.nd 9,.nd 10,.nd 11,.nd 12,.nd 13,.nd 14,.nd 15,.nd 16,.nd 17,.nd 18,.nd 19,.nd 20,.nd 21,.nd 22,.nd 23,.nd 24,.nd 25,.nd 26] 42 true false),(4,.cells [.nd 27,.nd 28,.nd 29,.nd 30,.nd 31,.nd 32,.nd 33,.nd 34,.nd 35,.nd 36,.nd 37,.nd 38,.nd 39,.nd 40,.nd 41,.nd 42,.nd 43,.nd 44,.nd 45,.nd 46,.nd 47,.nd 48,.nd 49,.nd 50] 42 true false)] },
 [(.ret, { np:=0,n:=93,gn:=3,next:=4,slots:=[(4,.b false)],objs:=[] }),
  (.exit 0, { np:=48,n:=93,gn:=3,next:=6,slots:=[(2,.p 4 0),(3,.p 5 0)],objs:=[(5,.cells [.nd 0,.nd 1,.nd 2,.nd 3,.nd 4,.nd 5,.nd 6,.nd 7,.nd 8,.nd 9,.nd 10,.nd 11,.nd 12,.nd 13,.nd 14,.nd 15,.nd 16,.nd 17,.nd 18,.nd 19,.nd 20,.nd 21,.nd 22,.nd 23] 42 true false),(4,.cells [.nd 24,.nd 25,.nd 26,.nd 27,.nd 28,.nd 29,.nd 30,.nd 31,.nd 32,.nd 33,.nd 34,.nd 35,.nd 36,.nd 37,.nd 38,.nd 39,.nd 40,.nd 41,.nd 42,.nd 43,.nd 44,.nd 45,.nd 46,.nd 47] 42 true false)],al:=[some 3,some 4,some 5,some 6,some 7,some 8,some 9,some 10,some 11,some 12,some 13,some 14,some 15,some 16,some 17,some 18,some 19,some 20,some 21,some 22,some 23,some 24,some 25,some 26,some 27,some 28,some 29,some 30,some 31,some 32,some 33,some 34,some 35,some 36,some 37,some 38,some 39,some 40,some 41,some 42,some 43,some 44,some 45,some 46,some 47,some 48,some 49,some 50] })]⟩
def s10:bY:=⟨10, { np:=2,n:=11,gn:=3,next:=4,slots:=[(0,.nd 0),(3,.nd 1)],objs:=[] },
 [(.exit 0, { np:=1,n:=11,gn:=3,next:=4,slots:=[(3,.nd 0)],objs:=[] })]⟩
def Iy:bY:=⟨107, { np:=4,n:=81,gn:=3,next:=4,slots:=[(0,.nd 0),(1,.nd 1),(12,.nd 2),(13,.nd 3)],objs:=[] },
 [(.ret, { np:=0,n:=81,gn:=3,next:=4,slots:=[(4,.b false)],objs:=[] }),
  (.exit 0, { np:=0,n:=81,gn:=3,next:=4,slots:=[],objs:=[] })]⟩
def IC:bY:=⟨113, { np:=4,n:=26,gn:=3,next:=4,slots:=[(0,.nd 0),(1,.nd 1),(12,.nd 2),(13,.nd 3)],objs:=[] },
 [(.ret, { np:=0,n:=26,gn:=3,next:=4,slots:=[(4,.b false)],objs:=[] }),
  (.exit 0, { np:=0,n:=26,gn:=3,next:=4,slots:=[],objs:=[] })]⟩
def I5:bY:=⟨51, { np:=3,n:=28,gn:=3,next:=4,slots:=[(0,.nd 0),(1,.nd 1),(5,.nd 2)],objs:=[] },
 [(.exit 0, { np:=1,n:=28,gn:=3,next:=4,slots:=[(5,.nd 0)],objs:=[] })]⟩
def Ji:bY:=⟨96, { np:=3,n:=67,gn:=3,next:=4,slots:=[(0,.nd 0),(9,.nd 1),(10,.nd 2)],objs:=[] },
 [(.ret, { np:=1,n:=67,gn:=3,next:=4,slots:=[(2,.nd 0)],objs:=[] }),
  (.exit 0, { np:=0,n:=67,gn:=3,next:=4,slots:=[],objs:=[] })]⟩
def s68:bY:=⟨68, { np:=4,n:=63,gn:=3,next:=5,slots:=[(0,.nd 0),(5,.nd 1),(8,.sv 4 2),(9,.nd 3)],objs:=[(4,.vec 2 88 true)] },
 [(.ret, { np:=1,n:=63,gn:=3,next:=4,slots:=[(2,.dH),(3,.s []),(4,.nd 0)],objs:=[] }),
  (.exit 0, { np:=2,n:=63,gn:=3,next:=5,slots:=[(0,.nd 0),(8,.sv 4 1)],objs:=[(4,.vec 1 88 true)] })]⟩
def Jh:bY:=⟨92, { np:=4,n:=22,gn:=3,next:=4,slots:=[(3,.nd 0),(10,.nd 1),(11,.nd 2),(12,.nd 3)],objs:=[] },
 [(.exit 0, { np:=1,n:=22,gn:=3,next:=4,slots:=[(3,.nd 0)],objs:=[] })]⟩
def Iw:bY:=⟨105, { np:=11,n:=71,gn:=3,next:=4,slots:=[(0,.nd 0),(1,.nd 1),(5,.nd 2),(13,.nd 3),(14,.nd 2),(29,.nd 0),(30,.nd 2),(31,.rx 4 0),(32,.rx 4 0),(33,.nd 5),(34,.nd 6),(35,.nd 1),(36,.nd 2),(37,.rx 7 0),(38,.rx 7 0),(39,.nd 8),(40,.nd 9),(41,.b false),(48,.nd 6),(49,.nd 10)],objs:=[] },
 [(.ret, { np:=0,n:=71,gn:=3,next:=4,slots:=[(4,.b false)],objs:=[] }),
  (.exit 2, { np:=10,n:=71,gn:=3,next:=4,slots:=[(0,.nd 0),(1,.nd 1),(13,.nd 2),(14,.nd 3),(29,.nd 0),(30,.nd 3),(31,.rx 4 0),(32,.rx 4 0),(33,.nd 5),(34,.nd 6),(35,.nd 1),(36,.nd 3),(37,.rx 7 0),(38,.rx 7 0),(39,.nd 8),(40,.nd 9),(41,.b false)],objs:=[],al:=[some 0,some 1,some 3,some 2,some 4,some 5,some 6,some 7,some 8,some 9] })]⟩
def Jg:bY:=⟨91, { np:=2,n:=22,gn:=3,next:=4,slots:=[(0,.nd 0),(3,.nd 1)],objs:=[] },
 [(.exit 0, { np:=2,n:=22,gn:=3,next:=4,slots:=[(0,.nd 0),(3,.nd 1)],objs:=[] })]⟩
def s82:bY:=⟨82, { np:=3,n:=31,gn:=3,next:=4,slots:=[(0,.nd 0),(1,.nd 1),(5,.nd 2)],objs:=[] },
 [(.ret, { np:=1,n:=31,gn:=3,next:=4,slots:=[(4,.nd 0)],objs:=[] }),
  (.exit 0, { np:=2,n:=31,gn:=3,next:=4,slots:=[(0,.nd 0),(1,.nd 1)],objs:=[],al:=[some 0,some 1] })]⟩
def s4:bY:=⟨4, { np:=3,n:=23,gn:=3,next:=4,slots:=[(0,.nd 0),(5,.nd 0),(6,.nd 1),(7,.nd 2)],objs:=[] },
 [(.ret, { np:=0,n:=23,gn:=3,next:=4,slots:=[(2,.b false)],objs:=[] }),
  (.exit 0, { np:=1,n:=23,gn:=3,next:=4,slots:=[(0,.nd 0)],objs:=[],al:=[some 0] })]⟩
def Ir:bY:=⟨101, { np:=4,n:=40,gn:=3,next:=4,slots:=[(0,.nd 0),(3,.nd 1),(11,.nd 0),(12,.nd 2),(13,.nd 3)],objs:=[] },
 [(.exit 0, { np:=1,n:=40,gn:=3,next:=4,slots:=[(3,.nd 0)],objs:=[] })]⟩
def IE:bY:=⟨116, { np:=4,n:=32,gn:=3,next:=4,slots:=[(1,.nd 0),(2,.fn 109 [] []),(15,.nd 1),(16,.nd 2),(17,.nd 3)],objs:=[] },
 [(.ret, { np:=0,n:=32,gn:=3,next:=4,slots:=[(6,.b false)],objs:=[] }),
  (.exit 0, { np:=0,n:=32,gn:=3,next:=4,slots:=[],objs:=[] })]⟩
def s78:bY:=⟨78, { np:=5,n:=81,gn:=3,next:=5,slots:=[(0,.nd 0),(5,.nd 1),(8,.sv 4 2),(9,.nd 3),(10,.nd 4)],objs:=[(4,.vec 2 125 true)] },
 [(.ret, { np:=1,n:=81,gn:=3,next:=4,slots:=[(2,.dH),(3,.s []),(4,.nd 0)],objs:=[] }),
  (.exit 0, { np:=2,n:=81,gn:=3,next:=5,slots:=[(0,.nd 0),(8,.sv 4 1)],objs:=[(4,.vec 1 125 true)] })]⟩
def IY:bY:=⟨42, { np:=5,n:=60,gn:=3,next:=6,slots:=[(0,.p 4 0),(7,.sv 5 0),(28,.nd 1),(29,.nd 2)],objs:=[(4,.cells [.nd 3,.nd 4] 219 true false),(5,.vec 0 80 false)],ka:=1 },
 [(.ret, { np:=3,n:=60,gn:=3,next:=5,slots:=[(2,.dH),(3,.nd 0)],objs:=[(4,.cells [.nd 1,.nd 2] 219 true false)],ka:=1 }),
  (.exit 0, { np:=3,n:=60,gn:=3,next:=6,slots:=[(7,.sv 5 0)],objs:=[(4,.cells [.nd 1,.nd 2] 219 true false),(5,.vec 0 80 false)],ka:=1 })]⟩
def I9:bY:=⟨57, { np:=5,n:=24,gn:=3,next:=4,slots:=[(0,.nd 0),(3,.nd 1),(11,.nd 2),(12,.nd 3),(13,.nd 4)],objs:=[] },
 [(.ret, { np:=1,n:=24,gn:=3,next:=4,slots:=[(2,.nd 0)],objs:=[] }),
  (.exit 2, { np:=2,n:=24,gn:=3,next:=4,slots:=[(0,.nd 0),(3,.nd 1)],objs:=[],al:=[some 0,some 1] })]⟩
def IJ:bY:=⟨120, { np:=5,n:=80,gn:=3,next:=6,slots:=[(5,.sv 4 0),(6,.p 5 0),(37,.nd 1),(38,.nd 2)],objs:=[(5,.cells [.nd 3,.nd 4] 116 true false),(4,.vec 0 116 false)] },
 [(.ret, { np:=0,n:=80,gn:=3,next:=4,slots:=[(4,.b false)],objs:=[] }),
  (.exit 2, { np:=1,n:=80,gn:=3,next:=5,slots:=[(5,.sv 4 0)],objs:=[(4,.vec 0 116 false)] })]⟩
def IX:bY:=⟨41, { np:=4,n:=50,gn:=3,next:=4,slots:=[(0,.nd 0),(5,.nd 1),(9,.nd 2),(10,.nd 3)],objs:=[] },
 [(.ret, { np:=3,n:=50,gn:=3,next:=4,slots:=[(2,.nd 0),(3,.nd 1),(4,.nd 2)],objs:=[] }),
  (.exit 0, { np:=1,n:=50,gn:=3,next:=4,slots:=[(0,.nd 0)],objs:=[] })]⟩
def Jj:bY:=⟨99, { np:=3,n:=41,gn:=3,next:=4,slots:=[(0,.nd 0),(3,.nd 1),(4,.nd 2)],objs:=[] },
 [(.exit 0, { np:=1,n:=41,gn:=3,next:=4,slots:=[(3,.nd 0)],objs:=[] })]⟩
def Jc:bY:=⟨66, { np:=3,n:=73,gn:=3,next:=4,slots:=[(0,.nd 0),(5,.nd 1),(6,.nd 2)],objs:=[] },
 [(.exit 0, { np:=2,n:=73,gn:=3,next:=4,slots:=[(0,.nd 0),(5,.nd 1)],objs:=[] })]⟩
def Jb:bY:=⟨62, { np:=5,n:=81,gn:=3,next:=4,slots:=[(0,.nd 0),(4,.nd 1),(5,.nd 2),(6,.nd 3),(7,.nd 4)],objs:=[] },
 [(.ret, { np:=0,n:=81,gn:=3,next:=4,slots:=[(2,.i .i64 0)],objs:=[] }),
  (.exit 0, { np:=3,n:=81,gn:=3,next:=4,slots:=[(4,.nd 0),(5,.nd 1),(6,.nd 2)],objs:=[],al:=[some 1,none,some 3] })]⟩
def IQ:bY:=⟨30, { np:=27,n:=38,gn:=3,next:=7,slots:=[(1,.p 4 0),(2,.p 5 0),(3,.sv 6 0),(15,.nd 1),(16,.nd 2),(17,.nd 3)],objs:=[(6,.vec 0 82 false),(5,.cells [.i .i64 0,.i .u64 0,.i .u64 0,.i .u64 0,.i .u64 0,.i .u64 0,.i .u64 0,.i .u64 0,.i .u64 0,.i .u64 0,.i .u64 0,.i .u64 0,.i .u64 0,.i .u64 0,.i .u64 0,.i .u64 0,.i .i64 0,.b false,.s [],.s [],.s [],.dH,.dH,.dH] 36 true false),(4,.cells [.nd 4,.nd 5,.nd 6,.nd 7,.nd 8,.nd 9,.nd 10,.nd 11,.nd 12,.nd 13,.nd 14,.nd 15,.nd 16,.nd 17,.nd 18,.nd 19,.nd 20,.nd 21,.nd 22,.nd 23,.nd 24,.nd 25,.nd 1,.nd 26] 36 true false)] },
 [(.exit 0, { np:=25,n:=38,gn:=3,next:=7,slots:=[(1,.p 4 0),(2,.p 5 0),(3,.sv 6 0)],objs:=[(6,.vec 0 82 false),(5,.cells [.i .i64 0,.i .u64 0,.i .u64 0,.i .u64 0,.i .u64 0,.i .u64 0,.i .u64 0,.i .u64 0,.i .u64 0,.i .u64 0,.i .u64 0,.i .u64 0,.i .u64 0,.i .u64 0,.i .u64 0,.i .u64 0,.i .i64 0,.b false,.s [],.s [],.s [],.dH,.dH,.dH] 36 true false),(4,.cells [.nd 1,.nd 2,.nd 3,.nd 4,.nd 5,.nd 6,.nd 7,.nd 8,.nd 9,.nd 10,.nd 11,.nd 12,.nd 13,.nd 14,.nd 15,.nd 16,.nd 17,.nd 18,.nd 19,.nd 20,.nd 21,.nd 22,.nd 23,.nd 24] 36 true false)],al:=[none,some 4,some 5,some 6,some 7,some 8,some 9,some 10,some 11,some 12,some 13,some 14,some 15,some 16,some 17,some 18,some 19,some 20,some 21,some 22,some 23,some 24,some 25,some 1,some 26] })]⟩
def s15:bY:=⟨15, { np:=3,n:=19,gn:=3,next:=4,slots:=[(0,.nd 0),(5,.nd 0),(6,.nd 1),(7,.nd 2)],objs:=[] },
 [(.ret, { np:=0,n:=19,gn:=3,next:=4,slots:=[(2,.b false)],objs:=[] }),
  (.exit 0, { np:=1,n:=19,gn:=3,next:=4,slots:=[(0,.nd 0)],objs:=[],al:=[some 0] })]⟩
def s12:bY:=⟨12, { np:=4,n:=22,gn:=3,next:=6,slots:=[(3,.p 4 0),(11,.nd 0),(12,.nd 1),(13,.nd 2)],objs:=[(4,.cells [.p 4 0,.sv 5 3] 163 true false),(5,.vec 3 5 true)] },
 [(.exit 0, { np:=1,n:=22,gn:=3,next:=6,slots:=[(3,.p 4 0)],objs:=[(4,.cells [.p 4 0,.sv 5 0] 163 true false),(5,.vec 0 5 true)] })]⟩
def IK:bY:=⟨19, { np:=3,n:=54,gn:=3,next:=5,slots:=[(0,.nd 0),(1,.nd 1),(6,.sv 4 2)],objs:=[(4,.vec 2 48 true)] },
 [(.exit 0, { np:=2,n:=54,gn:=3,next:=5,slots:=[(0,.nd 0),(6,.sv 4 1)],objs:=[(4,.vec 1 48 true)] })]⟩
def IL:bY:=⟨22, { np:=4,n:=18,gn:=3,next:=5,slots:=[(3,.sv 4 0),(6,.nd 1),(7,.nd 2),(8,.nd 3)],objs:=[(4,.vec 0 88 true)] },
 [(.exit 0, { np:=1,n:=18,gn:=3,next:=5,slots:=[(3,.sv 4 0)],objs:=[(4,.vec 0 88 true)] })]⟩
def Je:bY:=⟨75, { np:=3,n:=37,gn:=3,next:=4,slots:=[(0,.nd 0),(1,.nd 1),(5,.nd 2)],objs:=[] },
 [(.ret, { np:=1,n:=37,gn:=3,next:=4,slots:=[(4,.nd 0)],objs:=[] }),
  (.exit 0, { np:=2,n:=37,gn:=3,next:=4,slots:=[(0,.nd 0),(1,.nd 1)],objs:=[],al:=[some 0,some 1] })]⟩
def IB:bY:=⟨111, { np:=51,n:=30,gn:=3,next:=6,slots:=[(2,.p 4 0),(3,.p 5 0),(12,.nd 0),(13,.nd 1),(14,.nd 2)],objs:=[(5,.cells [.nd 3,.nd 4,.nd 5,.nd 6,.nd 7,.nd 8,.nd 9,.nd 10,.nd 11,.nd 12,.nd 13,.nd 14,.nd 15,.nd 16,.nd 17,.nd 18,.nd 19,.nd 20,.nd 21,.nd 22,.nd 23,.nd 24,.nd 25,.nd 26] 36 true false),(4,.cells [.nd 27,.nd 28,.nd 29,.nd 30,.nd 31,.nd 32,.nd 33,.nd 34,.nd 35,.nd 36,.nd 37,.nd 38,.nd 39,.nd 40,.nd 41,.nd 42,.nd 43,.nd 44,.nd 45,.nd 46,.nd 47,.nd 48,.nd 49,.nd 50] 36 true false)] },
 [(.ret, { np:=0,n:=30,gn:=3,next:=4,slots:=[(4,.b false)],objs:=[] }),
  (.exit 0, { np:=48,n:=30,gn:=3,next:=6,slots:=[(2,.p 4 0),(3,.p 5 0)],objs:=[(5,.cells [.nd 0,.nd 1,.nd 2,.nd 3,.nd 4,.nd 5,.nd 6,.nd 7,.nd 8,.nd 9,.nd 10,.nd 11,.nd 12,.nd 13,.nd 14,.nd 15,.nd 16,.nd 17,.nd 18,.nd 19,.nd 20,.nd 21,.nd 22,.nd 23] 36 true false),(4,.cells [.nd 24,.nd 25,.nd 26,.nd 27,.nd 28,.nd 29,.nd 30,.nd 31,.nd 32,.nd 33,.nd 34,.nd 35,.nd 36,.nd 37,.nd 38,.nd 39,.nd 40,.nd 41,.nd 42,.nd 43,.nd 44,.nd 45,.nd 46,.nd 47] 36 true false)],al:=[some 3,some 4,some 5,some 6,some 7,some 8,some 9,some 10,some 11,some 12,some 13,some 14,some 15,some 16,some 17,some 18,some 19,some 20,some 21,some 22,some 23,some 24,some 25,some 26,some 27,some 28,some 29,some 30,some 31,some 32,some 33,some 34,some 35,some 36,some 37,some 38,some 39,some 40,some 41,some 42,some 43,some 44,some 45,some 46,some 47,some 48,some 49,some 50] })]⟩
def Ja:bY:=⟨60, { np:=1,n:=14,gn:=3,next:=4,slots:=[(0,.nd 0)],objs:=[] },
 [(.ret, { np:=0,n:=14,gn:=3,next:=4,slots:=[(2,.b false)],objs:=[] }),
  (.exit 0, { np:=0,n:=14,gn:=3,next:=4,slots:=[],objs:=[] })]⟩
def s11:bY:=⟨11, { np:=4,n:=33,gn:=3,next:=5,slots:=[(0,.nd 0),(3,.sv 4 1),(9,.nd 2),(10,.nd 3)],objs:=[(4,.vec 1 5 false)] },
 [(.exit 0, { np:=1,n:=33,gn:=3,next:=5,slots:=[(3,.sv 4 0)],objs:=[(4,.vec 0 5 false)] })]⟩
def s6:bY:=⟨6, { np:=3,n:=37,gn:=3,next:=4,slots:=[(0,.nd 0),(5,.nd 0),(6,.nd 1),(7,.nd 2)],objs:=[] },
 [(.ret, { np:=0,n:=37,gn:=3,next:=4,slots:=[(2,.b false)],objs:=[] }),
  (.exit 0, { np:=1,n:=37,gn:=3,next:=4,slots:=[(0,.nd 0)],objs:=[],al:=[some 0] })]⟩
def I4:bY:=⟨48, { np:=6,n:=56,gn:=3,next:=6,slots:=[(0,.p 4 0),(6,.sv 5 0),(7,.nd 1),(25,.nd 2),(26,.nd 3)],objs:=[(4,.cells [.nd 4,.nd 5] 219 true false),(5,.vec 0 82 false)],ka:=1 },
 [(.ret, { np:=3,n:=56,gn:=3,next:=5,slots:=[(2,.dH),(3,.nd 0)],objs:=[(4,.cells [.nd 1,.nd 2] 219 true false)],ka:=1 }),
  (.exit 0, { np:=3,n:=56,gn:=3,next:=6,slots:=[(6,.sv 5 0)],objs:=[(4,.cells [.nd 1,.nd 2] 219 true false),(5,.vec 0 82 false)],ka:=1 })]⟩
def I7:bY:=⟨52, { np:=3,n:=33,gn:=3,next:=5,slots:=[(0,.p 4 0),(1,.nd 0)],objs:=[(4,.cells [.nd 1,.nd 2] 219 true false)],ka:=1 },
 [(.ret, { np:=5,n:=2,gn:=3,next:=5,slots:=[(0,.agg [.nd 0,.nd 1]),(1,.nd 2)],objs:=[(4,.cells [.nd 3,.nd 4] 219 true false)],ka:=1 })]⟩
def s49:bY:=⟨49, { np:=4,n:=63,gn:=3,next:=5,slots:=[(0,.p 4 0),(1,.nd 2),(2,.nd 3)],objs:=[(4,.cells [.nd 0,.nd 1] 219 true false)],ka:=1 },
 [(.ret, { np:=4,n:=2,gn:=3,next:=5,slots:=[(0,.nd 0),(1,.nd 1)],objs:=[(4,.cells [.nd 2,.nd 3] 219 true false)],ka:=1 })]⟩
def IZ:bY:=⟨47, { np:=2,n:=56,gn:=3,next:=5,slots:=[(0,.p 4 0)],objs:=[(4,.cells [.nd 0,.nd 1] 219 true false)],ka:=1 },
 [(.ret, { np:=4,n:=2,gn:=3,next:=5,slots:=[(0,.nd 0),(1,.nd 1)],objs:=[(4,.cells [.nd 2,.nd 3] 219 true false)],ka:=1 })]⟩
def s44:bY:=⟨44, { np:=2,n:=25,gn:=3,next:=5,slots:=[(0,.p 4 0)],objs:=[(4,.cells [.nd 0,.nd 1] 219 true false)],ka:=1 },
 [(.ret, { np:=4,n:=2,gn:=3,next:=5,slots:=[(0,.nd 0),(1,.nd 1)],objs:=[(4,.cells [.nd 2,.nd 3] 219 true false)],ka:=1 })]⟩
def s43:bY:=⟨43, { np:=2,n:=37,gn:=3,next:=5,slots:=[(0,.p 4 0)],objs:=[(4,.cells [.nd 0,.nd 1] 219 true false)],ka:=1 },
 [(.ret, { np:=5,n:=2,gn:=3,next:=5,slots:=[(0,.agg [.nd 0,.nd 1]),(1,.nd 2)],objs:=[(4,.cells [.nd 3,.nd 4] 219 true false)],ka:=1 })]⟩
def IW:bY:=⟨39, { np:=2,n:=24,gn:=3,next:=5,slots:=[(0,.p 4 0)],objs:=[(4,.cells [.nd 0,.nd 1] 219 true false)],ka:=1 },
 [(.ret, { np:=4,n:=2,gn:=3,next:=5,slots:=[(0,.nd 0),(1,.nd 1)],objs:=[(4,.cells [.nd 2,.nd 3] 219 true false)],ka:=1 })]⟩
def IV:bY:=⟨38, { np:=2,n:=60,gn:=3,next:=5,slots:=[(0,.p 4 0)],objs:=[(4,.cells [.nd 0,.nd 1] 219 true false)],ka:=1 },
 [(.ret, { np:=4,n:=2,gn:=3,next:=5,slots:=[(0,.nd 0),(1,.nd 1)],objs:=[(4,.cells [.nd 2,.nd 3] 219 true false)],ka:=1 })]⟩
def IU:bY:=⟨32, { np:=30,n:=117,gn:=3,next:=5,slots:=[(0,.p 4 0),(1,.nd 0),(2,.agg [.nd 1,.nd 2,.nd 3,.nd 4,.nd 5])],objs:=[(4,.cells [.nd 6,.nd 7,.nd 8,.nd 9,.nd 10,.nd 11,.nd 12,.nd 13,.nd 14,.nd 15,.nd 16,.nd 17,.nd 18,.nd 19,.nd 20,.nd 21,.nd 22,.nd 23,.nd 24,.nd 25,.nd 26,.nd 27,.nd 28,.nd 29] 36 true false)],ka:=1 },
 [(.ret, { np:=25,n:=1,gn:=3,next:=5,slots:=[(0,.nd 0)],objs:=[(4,.cells [.nd 1,.nd 2,.nd 3,.nd 4,.nd 5,.nd 6,.nd 7,.nd 8,.nd 9,.nd 10,.nd 11,.nd 12,.nd 13,.nd 14,.nd 15,.nd 16,.nd 17,.nd 18,.nd 19,.nd 20,.nd 21,.nd 22,.nd 23,.nd 24] 36 true false)],ka:=1,al:=[none,some 6,none,none,none,none,none,none,none,none,none,none,none,none,none,none,none,none,none,none,none,none,none,none,some 29] })]⟩
abbrev c25:aP:=fun gs out=>aG Tryz.prog aI 26 [] [.sc] gs out
abbrev RF:aP:=fun gs out=>aG Tryz.prog aI 38 [] [.sc] gs out
abbrev c1:aP:=fun gs out=>aG Tryz.prog aI 3 [] [.sc] gs out
abbrev Ry:aP:=fun gs out=>aG Tryz.prog aI 107 [] [.sc] gs out
abbrev Sr:aP:=fun gs out=>aG Tryz.prog aI 137 [] [.sc] gs out
abbrev TL:aP:=fun gs out=>aG Tryz.prog aI 72 [] [.sc] gs out
abbrev TA:aP:=fun gs out=>aG Tryz.prog aI 69 [] [.sc,.sc,.sc] gs out
abbrev RD:aP:=fun gs out=>aG Tryz.prog aI 148 [] [.sc] gs out
abbrev c16:aP:=fun gs out=>aG Tryz.prog aI 7 [] [.ag 24] gs out
abbrev c76:aP:=fun gs out=>aG Tryz.prog aI 33 [] [.sc,.sc] gs out
abbrev c37:aP:=fun gs out=>aG Tryz.prog aI 64 [] [.sc,.sc] gs out
abbrev c9:aP:=fun gs out=>aG Tryz.prog aI 111 [] [.sc] gs out
abbrev Si:aP:=fun gs out=>aG Tryz.prog aI 9 [] [.ag 24,.sc] gs out
abbrev c70:aP:=fun gs out=>aG Tryz.prog aI 142 [] [.sc,.sc,.sc] gs out
abbrev RU:aP:=fun gs out=>aG Tryz.prog aI 108 [none,none,some 109] [.sc] gs out
abbrev c80:aP:=fun gs out=>aG Tryz.prog aI 145 [] [.sc] gs out
abbrev Tf:aP:=fun gs out=>aG Tryz.prog aI 99 [] [.sc,.sc,.sc] gs out
abbrev Tz:aP:=fun gs out=>aG Tryz.prog aI 163 [] [.sc] gs out
abbrev c3:aP:=fun gs out=>aG Tryz.prog aI 20 [] [.sc] gs out
abbrev c20:aP:=fun gs out=>aG Tryz.prog aI 8 [] [.ag 24] gs out
abbrev SK:aP:=fun gs out=>aG Tryz.prog aI 112 [] [.sc] gs out
abbrev c7:aP:=fun gs out=>aG Tryz.prog aI 45 [] [.sc] gs out
abbrev c59:aP:=fun gs out=>aG Tryz.prog aI 67 [] [.sc] gs out
abbrev c13:aP:=fun gs out=>aG Tryz.prog aI 80 [] [.sc] gs out
abbrev TD:aP:=fun gs out=>aG Tryz.prog aI 103 [] [.sc,.sc,.sc] gs out
abbrev SS:aP:=fun gs out=>aG Tryz.prog aI 66 [] [.sc] gs out
abbrev TJ:aP:=fun gs out=>aG Tryz.prog aI 36 [] [.sc] gs out
abbrev c64:aP:=fun gs out=>aG Tryz.prog aI 68 [] [.sc,.sc,.sc] gs out
abbrev c5:aP:=fun gs out=>aG Tryz.prog aI 21 [] [.sc] gs out
abbrev c17:aP:=fun gs out=>aG Tryz.prog aI 23 [] [.sc] gs out
abbrev c14:aP:=fun gs out=>aG Tryz.prog aI 22 [] [.sc] gs out
abbrev c72:aP:=fun gs out=>aG Tryz.prog aI 102 [] [.sc] gs out
abbrev c109:aP:=fun gs out=>aG Tryz.prog aI 13 [] [.sc] gs out
abbrev RJ:aP:=fun gs out=>aG Tryz.prog aI 16 [] [.sc] gs out
abbrev c46:aP:=fun gs out=>aG Tryz.prog aI 65 [] [.sc,.sc] gs out
abbrev Tq:aP:=fun gs out=>aG Tryz.prog aI 101 [] [.ag 2,.sc,.sc] gs out
abbrev TW:aP:=fun gs out=>aG Tryz.prog aI 164 [] [.sc] gs out
abbrev TN:aP:=fun gs out=>aG Tryz.prog aI 104 [] [.sc] gs out
abbrev RV:aP:=fun gs out=>aG Tryz.prog aI 18 [] [.sc] gs out
abbrev TF:aP:=fun gs out=>aG Tryz.prog aI 146 [] [.sc] gs out
abbrev c31:aP:=fun gs out=>aG Tryz.prog aI 35 [] [.sc] gs out
abbrev c8:aP:=fun gs out=>aG Tryz.prog aI 79 [] [.sc] gs out
abbrev TV:aP:=fun gs out=>aG Tryz.prog aI 147 [] [.sc] gs out
abbrev Td:aP:=fun gs out=>aG Tryz.prog aI 32 [] [.sc,.sc] gs out
abbrev c53:aP:=fun gs out=>aG Tryz.prog aI 10 [] [.ag 24,.sc] gs out
abbrev c117:aP:=fun gs out=>aG Tryz.prog aI 109 [] [.sc] gs out
abbrev c87:aP:=fun gs out=>aG Tryz.prog aI 70 [] [.sc] gs out
abbrev S9:aP:=fun gs out=>aG Tryz.prog aI 98 [] [.sc] gs out
abbrev RS:aP:=fun gs out=>aG Tryz.prog aI 76 [] [.sc] gs out
abbrev SX:aP:=fun gs out=>aG Tryz.prog aI 31 [] [.sc] gs out
abbrev TQ:aP:=fun gs out=>aG Tryz.prog aI 74 [] [.sc,.sc] gs out
abbrev c21:aP:=fun gs out=>aG Tryz.prog aI 24 [] [.sc] gs out
abbrev c18:aP:=fun gs out=>aG Tryz.prog aI 59 [] [.sc,.sc] gs out
abbrev c29:aP:=fun gs out=>aG Tryz.prog aI 34 [] [.sc] gs out
abbrev TS:aP:=fun gs out=>aG Tryz.prog aI 106 [] [.sc] gs out
abbrev Tt:aP:=fun gs out=>aG Tryz.prog aI 143 [] [.sc] gs out
abbrev TM:aP:=fun gs out=>aG Tryz.prog aI 73 [] [.sc] gs out
abbrev c28:aP:=fun gs out=>aG Tryz.prog aI 11 [] [.ag 24] gs out
abbrev c23:aP:=fun gs out=>aG Tryz.prog aI 25 [] [.sc] gs out
abbrev Sm:aP:=fun gs out=>aG Tryz.prog aI 93 [] [.sc] gs out
abbrev c34:aP:=fun gs out=>aG Tryz.prog aI 63 [] [.sc] gs out
abbrev TK:aP:=fun gs out=>aG Tryz.prog aI 37 [] [.sc,.sc] gs out
abbrev SG:aP:=fun gs out=>aG Tryz.prog aI 122 [] [.sc] gs out
abbrev SN:aP:=fun gs out=>aG Tryz.prog aI 28 [] [.sc] gs out
abbrev c2:aP:=fun gs out=>aG Tryz.prog aI 6 [] [.sc] gs out
abbrev Tv:aP:=fun gs out=>aG Tryz.prog aI 144 [] [.sc] gs out
abbrev c93:aP:=fun gs out=>aG Tryz.prog aI 105 [] [.sc] gs out
abbrev c40:aP:=fun gs out=>aG Tryz.prog aI 159 [] [.sc,.sc,.sc] gs out
abbrev Sl:aP:=fun gs out=>aG Tryz.prog aI 61 [] [.sc] gs out
abbrev RH:aP:=fun gs out=>aG Tryz.prog aI 39 [] [.sc] gs out
abbrev RP:aP:=fun gs out=>aG Tryz.prog aI 75 [] [.sc] gs out
abbrev TI:aP:=fun gs out=>aG Tryz.prog aI 12 [] [.sc] gs out
abbrev SL:aP:=fun gs out=>lC Tryz.prog aI 141 [] I7.pre I7.posts gs out
abbrev c49:aP:=fun gs out=>lC Tryz.prog aI 140 [] s49.pre s49.posts gs out
abbrev SH:aP:=fun gs out=>lC Tryz.prog aI 97 [] IZ.pre IZ.posts gs out
abbrev SE:aP:=fun gs out=>lC Tryz.prog aI 162 [] s44.pre s44.posts gs out
abbrev SC:aP:=fun gs out=>lC Tryz.prog aI 139 [] s43.pre s43.posts gs out
abbrev Sz:aP:=fun gs out=>lC Tryz.prog aI 138 [] IW.pre IW.posts gs out
abbrev Sv:aP:=fun gs out=>lC Tryz.prog aI 95 [] IV.pre IV.posts gs out
abbrev c32:aP:=fun gs out=>lC Tryz.prog aI 27 [] IU.pre IU.posts gs out
abbrev c24:aP:=fun gs out=>aZ Tryz.prog aI QF s24.pre s24.posts gs out
abbrev RI:aP:=fun gs out=>aZ Tryz.prog aI QA Iz.pre Iz.posts gs out
abbrev Tj:aP:=fun gs out=>aZ Tryz.prog aI QT Jd.pre Jd.posts gs out
abbrev SQ:aP:=fun gs out=>aZ Tryz.prog aI KF I8.pre I8.posts gs out
abbrev RZ:aP:=fun gs out=>aZ Tryz.prog aI QG s26.pre s26.posts gs out
abbrev c119:aP:=fun gs out=>aZ Tryz.prog aI KE IG.pre IG.posts gs out
abbrev RG:aP:=fun gs out=>aZ Tryz.prog aI KD Iu.pre Iu.posts gs out
abbrev c85:aP:=fun gs out=>aZ Tryz.prog aI QY Jf.pre Jf.posts gs out
abbrev c10:aP:=fun gs out=>aZ Tryz.prog aI b10 s10.pre s10.posts gs out
abbrev c107:aP:=fun gs out=>aZ Tryz.prog aI Qz Iy.pre Iy.posts gs out
abbrev RQ:aP:=fun gs out=>aZ Tryz.prog aI QC IC.pre IC.posts gs out
abbrev c51:aP:=fun gs out=>aZ Tryz.prog aI QL I5.pre I5.posts gs out
abbrev TU:aP:=fun gs out=>aZ Tryz.prog aI Q7 Ji.pre Ji.posts gs out
abbrev Tn:aP:=fun gs out=>aZ Tryz.prog aI QU s68.pre s68.posts gs out
abbrev TP:aP:=fun gs out=>aZ Tryz.prog aI Q5 Jh.pre Jh.posts gs out
abbrev c105:aP:=fun gs out=>aZ Tryz.prog aI Qy Iw.pre Iw.posts gs out
abbrev c91:aP:=fun gs out=>aZ Tryz.prog aI QZ Jg.pre Jg.posts gs out
abbrev TG:aP:=fun gs out=>aZ Tryz.prog aI QX s82.pre s82.posts gs out
abbrev c4:aP:=fun gs out=>aZ Tryz.prog aI b4 s4.pre s4.posts gs out
abbrev Rz:aP:=fun gs out=>aZ Tryz.prog aI Qx Ir.pre Ir.posts gs out
abbrev c116:aP:=fun gs out=>aZ Tryz.prog aI QD IE.pre IE.posts gs out
abbrev TB:aP:=fun gs out=>aZ Tryz.prog aI QW s78.pre s78.posts gs out
abbrev SB:aP:=fun gs out=>aZ Tryz.prog aI QJ IY.pre IY.posts gs out
abbrev SV:aP:=fun gs out=>aZ Tryz.prog aI QM I9.pre I9.posts gs out
abbrev RX:aP:=fun gs out=>aZ Tryz.prog aI QE IJ.pre IJ.posts gs out
abbrev SA:aP:=fun gs out=>aZ Tryz.prog aI QI IX.pre IX.posts gs out
abbrev TY:aP:=fun gs out=>aZ Tryz.prog aI Q8 Jj.pre Jj.posts gs out
abbrev Ti:aP:=fun gs out=>aZ Tryz.prog aI QS Jc.pre Jc.posts gs out
abbrev Tc:aP:=fun gs out=>aZ Tryz.prog aI QO Jb.pre Jb.posts gs out
abbrev Sj:aP:=fun gs out=>aZ Tryz.prog aI QH IQ.pre IQ.posts gs out
abbrev c15:aP:=fun gs out=>aZ Tryz.prog aI b15 s15.pre s15.posts gs out
abbrev c12:aP:=fun gs out=>aZ Tryz.prog aI b12 s12.pre s12.posts gs out
abbrev c19:aP:=fun gs out=>aZ Tryz.prog aI b19 IK.pre IK.posts gs out
abbrev RY:aP:=fun gs out=>aZ Tryz.prog aI b22 IL.pre IL.posts gs out
abbrev c75:aP:=fun gs out=>aZ Tryz.prog aI QV Je.pre Je.posts gs out
abbrev RN:aP:=fun gs out=>aZ Tryz.prog aI QB IB.pre IB.posts gs out
abbrev SY:aP:=fun gs out=>aZ Tryz.prog aI QN Ja.pre Ja.posts gs out
abbrev c11:aP:=fun gs out=>aZ Tryz.prog aI b11 s11.pre s11.posts gs out
abbrev c6:aP:=fun gs out=>aZ Tryz.prog aI b6 s6.pre s6.posts gs out
abbrev SI:aP:=fun gs out=>aZ Tryz.prog aI QK I4.pre I4.posts gs out
noncomputable def Cs:List aP:=[fun _ _=>True,c1,c2,c3,c4,c5,c6,c7,c8,c9,c10,c11,c12,c13,c14,c15,c16,c17,c18,c19,c20,c21,RY,c23,c24,c25,RZ,Si,c28,c29,Sj,c31,c32,Sl,c34,Sm,Sr,c37,Sv,Sz,c40,SA,SB,SC,SE,SG,c46,SH,SI,c49,SK,c51,SL,c53,SN,SQ,SS,SV,SX,c59,SY,S9,Tc,Td,c64,Tf,Ti,Tj,Tn,Tq,c70,Tt,c72,Tv,Tz,c75,c76,TA,TB,TD,c80,TF,TG,TI,TJ,c85,TK,c87,TL,TM,TN,c91,TP,c93,TQ,TS,TU,TV,TW,TY,Ry,Rz,RD,RF,RG,c105,RH,c107,RI,c109,RJ,RN,RP,RQ,RS,RU,c116,c117,RV,c119,RX]
noncomputable abbrev C:=ER Cs
noncomputable def pl:mY:=PL.cons 27 (fun N=>@sW N Tryz.prog [] IU) (PL.cons 95 (fun N=>@sW N Tryz.prog [] IV) (PL.cons 138 (fun N=>@sW N Tryz.prog [] IW) (PL.cons 139 (fun N=>@sW N Tryz.prog [] s43) (PL.cons 162 (fun N=>@sW N Tryz.prog [] s44) (PL.cons 97 (fun N=>@sW N Tryz.prog [] IZ) (PL.cons 140 (fun N=>@sW N Tryz.prog [] s49) (PL.cons 141 (fun N=>@sW N Tryz.prog [] I7) (PL.cons 12 (fun N=>@bJ N Tryz.prog 83 [] [.sc]) (PL.cons 75 (fun N=>@bJ N Tryz.prog 112 [] [.sc]) (PL.cons 39 (fun N=>@bJ N Tryz.prog 106 [] [.sc]) (PL.cons 61 (fun N=>@bJ N Tryz.prog 33 [] [.sc]) (PL.cons 159 (fun N=>@bJ N Tryz.prog 40 [] [.sc,.sc,.sc]) (PL.cons 105 (fun N=>@bJ N Tryz.prog 93 [] [.sc]) (PL.cons 144 (fun N=>@bJ N Tryz.prog 73 [] [.sc]) (PL.cons 6 (fun N=>@bJ N Tryz.prog 2 [] [.sc]) (PL.cons 28 (fun N=>@bJ N Tryz.prog 54 [] [.sc]) (PL.cons 122 (fun N=>@bJ N Tryz.prog 45 [] [.sc]) (PL.cons 37 (fun N=>@bJ N Tryz.prog 86 [] [.sc,.sc]) (PL.cons 63 (fun N=>@bJ N Tryz.prog 34 [] [.sc]) (PL.cons 93 (fun N=>@bJ N Tryz.prog 35 [] [.sc]) (PL.cons 25 (fun N=>@bJ N Tryz.prog 23 [] [.sc]) (PL.cons 11 (fun N=>@bJ N Tryz.prog 28 [] [.ag 24]) (PL.cons 73 (fun N=>@bJ N Tryz.prog 89 [] [.sc]) (PL.cons 143 (fun N=>@bJ N Tryz.prog 71 [] [.sc]) (PL.cons 106 (fun N=>@bJ N Tryz.prog 95 [] [.sc]) (PL.cons 34 (fun N=>@bJ N Tryz.prog 29 [] [.sc]) (PL.cons 59 (fun N=>@bJ N Tryz.prog 18 [] [.sc,.sc]) (PL.cons 24 (fun N=>@bJ N Tryz.prog 21 [] [.sc]) (PL.cons 74 (fun N=>@bJ N Tryz.prog 94 [] [.sc,.sc]) (PL.cons 31 (fun N=>@bJ N Tryz.prog 58 [] [.sc]) (PL.cons 76 (fun N=>@bJ N Tryz.prog 114 [] [.sc]) (PL.cons 98 (fun N=>@bJ N Tryz.prog 61 [] [.sc]) (PL.cons 70 (fun N=>@bJ N Tryz.prog 87 [] [.sc]) (PL.cons 109 (fun N=>@bJ N Tryz.prog 117 [] [.sc]) (PL.cons 10 (fun N=>@bJ N Tryz.prog 53 [] [.ag 24,.sc]) (PL.cons 32 (fun N=>@bJ N Tryz.prog 63 [] [.sc,.sc]) (PL.cons 147 (fun N=>@bJ N Tryz.prog 97 [] [.sc]) (PL.cons 79 (fun N=>@bJ N Tryz.prog 8 [] [.sc]) (PL.cons 35 (fun N=>@bJ N Tryz.prog 31 [] [.sc]) (PL.cons 146 (fun N=>@bJ N Tryz.prog 81 [] [.sc]) (PL.cons 18 (fun N=>@bJ N Tryz.prog 118 [] [.sc]) (PL.cons 104 (fun N=>@bJ N Tryz.prog 90 [] [.sc]) (PL.cons 164 (fun N=>@bJ N Tryz.prog 98 [] [.sc]) (PL.cons 101 (fun N=>@bJ N Tryz.prog 69 [] [.ag 2,.sc,.sc]) (PL.cons 65 (fun N=>@bJ N Tryz.prog 46 [] [.sc,.sc]) (PL.cons 16 (fun N=>@bJ N Tryz.prog 110 [] [.sc]) (PL.cons 13 (fun N=>@bJ N Tryz.prog 109 [] [.sc]) (PL.cons 102 (fun N=>@bJ N Tryz.prog 72 [] [.sc]) (PL.cons 22 (fun N=>@bJ N Tryz.prog 14 [] [.sc]) (PL.cons 23 (fun N=>@bJ N Tryz.prog 17 [] [.sc]) (PL.cons 21 (fun N=>@bJ N Tryz.prog 5 [] [.sc]) (PL.cons 68 (fun N=>@bJ N Tryz.prog 64 [] [.sc,.sc,.sc]) (PL.cons 36 (fun N=>@bJ N Tryz.prog 84 [] [.sc]) (PL.cons 66 (fun N=>@bJ N Tryz.prog 56 [] [.sc]) (PL.cons 103 (fun N=>@bJ N Tryz.prog 79 [] [.sc,.sc,.sc]) (PL.cons 80 (fun N=>@bJ N Tryz.prog 13 [] [.sc]) (PL.cons 67 (fun N=>@bJ N Tryz.prog 59 [] [.sc]) (PL.cons 45 (fun N=>@bJ N Tryz.prog 7 [] [.sc]) (PL.cons 112 (fun N=>@bJ N Tryz.prog 50 [] [.sc]) (PL.cons 8 (fun N=>@bJ N Tryz.prog 20 [] [.ag 24]) (PL.cons 20 (fun N=>@bJ N Tryz.prog 3 [] [.sc]) (PL.cons 163 (fun N=>@bJ N Tryz.prog 74 [] [.sc]) (PL.cons 99 (fun N=>@bJ N Tryz.prog 65 [] [.sc,.sc,.sc]) (PL.cons 145 (fun N=>@bJ N Tryz.prog 80 [] [.sc]) (PL.cons 108 (fun N=>@bJ N Tryz.prog 115 [none,none,some 109] [.sc]) (PL.cons 142 (fun N=>@bJ N Tryz.prog 70 [] [.sc,.sc,.sc]) (PL.cons 9 (fun N=>@bJ N Tryz.prog 27 [] [.ag 24,.sc]) (PL.cons 111 (fun N=>@bJ N Tryz.prog 9 [] [.sc]) (PL.cons 64 (fun N=>@bJ N Tryz.prog 37 [] [.sc,.sc]) (PL.cons 33 (fun N=>@bJ N Tryz.prog 76 [] [.sc,.sc]) (PL.cons 7 (fun N=>@bJ N Tryz.prog 16 [] [.ag 24]) (PL.cons 148 (fun N=>@bJ N Tryz.prog 102 [] [.sc]) (PL.cons 69 (fun N=>@bJ N Tryz.prog 77 [] [.sc,.sc,.sc]) (PL.cons 72 (fun N=>@bJ N Tryz.prog 88 [] [.sc]) (PL.cons 137 (fun N=>@bJ N Tryz.prog 36 [] [.sc]) (PL.cons 107 (fun N=>@bJ N Tryz.prog 100 [] [.sc]) (PL.cons 3 (fun N=>@bJ N Tryz.prog 1 [] [.sc]) (PL.cons 38 (fun N=>@bJ N Tryz.prog 103 [] [.sc]) (PL.cons 26 (fun N=>@bJ N Tryz.prog 25 [] [.sc]) (PL.cons 5 (fun _=>zh) (PL.cons 149 (fun _=>Ei) (PL.nil))))))))))))))))))))))))))))))))))))))))))))))))))))))))))))))))))))))))))))))))))
end M
end Go.Proofs.YtpkihgnabejkkaaGreatDoor
