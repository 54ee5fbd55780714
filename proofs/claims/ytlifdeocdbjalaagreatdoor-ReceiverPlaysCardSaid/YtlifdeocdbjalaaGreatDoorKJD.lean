/- The codes, shapes and contracts. -/
import Derived.Test.YtlifdeocdbjalaaGreatDoorKRBase
import Derived.Test.YtlifdeocdbjalaaGreatDoorKJT
import Derived.Test.YtlifdeocdbjalaaGreatDoorAbsPl
import Derived.Test.YtlifdeocdbjalaaGreatDoorAbsTold
import Derived.Test.YtlifdeocdbjalaaGreatDoorAbsTold2
import Derived.Test.YtlifdeocdbjalaaGreatDoorAbsTold3
namespace Go.Proofs.YtlifdeocdbjalaaGreatDoor
open Go Go.aN
set_option maxRecDepth 100000
set_option linter.unusedVariables false
set_option linter.unusedSimpArgs false
namespace J
theorem low:sO aF Tryz.prog.globals.size:=by
 rw [PK]
 refine ⟨fun p hp=>?_,fun p hp=>?_⟩
 all_goals
  simp only [aF,List.mem_cons,List.mem_nil_iff,or_false] at hp
  rcases hp with rfl | rfl
  all_goals first | decide | rfl
noncomputable def agx:Code:=Tryz.f26.body.getD .skip
noncomputable def WZ:Code:=Tryz.f119.body.getD .skip
noncomputable def agi:Code:=Tryz.f127.body.getD .skip
noncomputable def agJ:Code:=Tryz.f72.body.getD .skip
noncomputable def agy:Code:=Tryz.f33.body.getD .skip
noncomputable def agE:Code:=Tryz.f54.body.getD .skip
noncomputable def WX:Code:=Tryz.f111.body.getD .skip
noncomputable def agp:Code:=Tryz.f142.body.getD .skip
noncomputable def Xl:Code:=Tryz.f56.body.getD .skip
noncomputable def XB:Code:=Tryz.f99.body.getD .skip
noncomputable def Xx:Code:=Tryz.f83.body.getD .skip
noncomputable def agD:Code:=Tryz.f50.body.getD .skip
noncomputable def af6:Code:=Tryz.f114.body.getD .skip
noncomputable def Xc:Code:=Tryz.f160.body.getD .skip
noncomputable def agN:Code:=Tryz.f81.body.getD .skip
noncomputable def agB:Code:=Tryz.f45.body.getD .skip
noncomputable def Xo:Code:=Tryz.f67.body.getD .skip
noncomputable def Xk:Code:=Tryz.f53.body.getD .skip
noncomputable def agM:Code:=Tryz.f80.body.getD .skip
noncomputable def agd:Code:=Tryz.f124.body.getD .skip
noncomputable def Xu:Code:=Tryz.f77.body.getD .skip
noncomputable def WW:Code:=Tryz.f103.body.getD .skip
noncomputable def agk:Code:=Tryz.f129.body.getD .skip
noncomputable def WV:Code:=Tryz.f100.body.getD .skip
noncomputable def Xg:Code:=Tryz.f46.body.getD .skip
noncomputable def Xp:Code:=Tryz.f68.body.getD .skip
noncomputable def Xi:Code:=Tryz.f51.body.getD .skip
noncomputable def agt:Code:=Tryz.f21.body.getD .skip
noncomputable def agv:Code:=Tryz.f23.body.getD .skip
noncomputable def agh:Code:=Tryz.f126.body.getD .skip
noncomputable def agu:Code:=Tryz.f22.body.getD .skip
noncomputable def Xa:Code:=Tryz.f139.body.getD .skip
noncomputable def Xr:Code:=Tryz.f74.body.getD .skip
noncomputable def agO:Code:=Tryz.f86.body.getD .skip
noncomputable def Xj:Code:=Tryz.f52.body.getD .skip
noncomputable def Xh:Code:=Tryz.f47.body.getD .skip
noncomputable def Xv:Code:=Tryz.f78.body.getD .skip
noncomputable def WY:Code:=Tryz.f117.body.getD .skip
noncomputable def af5:Code:=Tryz.f113.body.getD .skip
noncomputable def agH:Code:=Tryz.f65.body.getD .skip
noncomputable def XA:Code:=Tryz.f91.body.getD .skip
noncomputable def Xb:Code:=Tryz.f141.body.getD .skip
noncomputable def af0:Code:=Tryz.f104.body.getD .skip
noncomputable def Hw:Code:=Tryz.f49.body.getD .skip
noncomputable def Xm:Code:=Tryz.f57.body.getD .skip
noncomputable def agr:Code:=Tryz.f18.body.getD .skip
noncomputable def NP:Code:=Tryz.f87.body.getD .skip
noncomputable def agL:Code:=Tryz.f79.body.getD .skip
noncomputable def Xf:Code:=Tryz.f35.body.getD .skip
noncomputable def agR:Code:=Tryz.f98.body.getD .skip
noncomputable def Xt:Code:=Tryz.f76.body.getD .skip
noncomputable def agf:Code:=Tryz.f125.body.getD .skip
noncomputable def Xe:Code:=Tryz.f31.body.getD .skip
noncomputable def agI:Code:=Tryz.f71.body.getD .skip
noncomputable def af7:Code:=Tryz.f115.body.getD .skip
noncomputable def NK:Code:=Tryz.f24.body.getD .skip
noncomputable def Xz:Code:=Tryz.f88.body.getD .skip
noncomputable def agF:Code:=Tryz.f55.body.getD .skip
noncomputable def Xn:Code:=Tryz.f59.body.getD .skip
noncomputable def Xy:Code:=Tryz.f85.body.getD .skip
noncomputable def agC:Code:=Tryz.f48.body.getD .skip
noncomputable def af2:Code:=Tryz.f106.body.getD .skip
noncomputable def NJ:Code:=Tryz.f118.body.getD .skip
noncomputable def agl:Code:=Tryz.f132.body.getD .skip
noncomputable def agq:Code:=Tryz.f143.body.getD .skip
noncomputable def agj:Code:=Tryz.f128.body.getD .skip
noncomputable def Xq:Code:=Tryz.f73.body.getD .skip
noncomputable def agw:Code:=Tryz.f25.body.getD .skip
noncomputable def agm:Code:=Tryz.f134.body.getD .skip
noncomputable def agz:Code:=Tryz.f41.body.getD .skip
noncomputable def Xd:Code:=Tryz.f161.body.getD .skip
noncomputable def agb:Code:=Tryz.f122.body.getD .skip
noncomputable def agQ:Code:=Tryz.f92.body.getD .skip
noncomputable def Ep:Code:=Tryz.f27.body.getD .skip
noncomputable def af4:Code:=Tryz.f110.body.getD .skip
noncomputable def W9:Code:=Tryz.f121.body.getD .skip
noncomputable def agc:Code:=Tryz.f123.body.getD .skip
noncomputable def aga:Code:=Tryz.f120.body.getD .skip
noncomputable def agP:Code:=Tryz.f89.body.getD .skip
noncomputable def agG:Code:=Tryz.f58.body.getD .skip
noncomputable def agK:Code:=Tryz.f75.body.getD .skip
noncomputable def NM:Code:=Tryz.f4.body.getD .skip
noncomputable def af8:Code:=Tryz.f116.body.getD .skip
noncomputable def Xw:Code:=Tryz.f82.body.getD .skip
noncomputable def agA:Code:=Tryz.f44.body.getD .skip
noncomputable def agn:Code:=Tryz.f14.body.getD .skip
noncomputable def jA:Code:=Tryz.f63.body.getD .skip
noncomputable def af9:Code:=Tryz.f12.body.getD .skip
noncomputable def ags:Code:=Tryz.f20.body.getD .skip
noncomputable def b25:Code:=dw Xn [([],0)]
noncomputable def b1:Code:=dw NM [([],0)]
noncomputable def Na:Code:=dw Xz [([],0)]
noncomputable def Nc:Code:=dw NJ [([],1)]
noncomputable def Tq:Code:=dw Xc [([],0)]
noncomputable def Nj:Code:=dw Ep [([],3)]
noncomputable def TU:Code:=dw Xp [([],0)]
noncomputable def Tj:Code:=dw WX [([],0)]
noncomputable def Nb:Code:=dw Hw [([],2)]
noncomputable def Nk:Code:=dw Hw [([],0)]
noncomputable def TP:Code:=dw Xt [([],0)]
noncomputable def TY:Code:=dw Xq [([],0)]
noncomputable def TD:Code:=dw WY [([],0)]
noncomputable def b15:Code:=dw Xh [([],0)]
noncomputable def Tt:Code:=dw W9 [([],0)]
noncomputable def TQ:Code:=dw Ep [([],0)]
noncomputable def TS:Code:=dw XB [([],0)]
noncomputable def Tf:Code:=dw Xx [([],0)]
noncomputable def b18:Code:=dw Xf [([],0)]
noncomputable def Nh:Code:=dw Xl [([],0)]
noncomputable def Tc:Code:=dw WZ [([],0)]
noncomputable def Td:Code:=dw XA [([],0)]
noncomputable def b11:Code:=dw WW [([],0)]
noncomputable def TL:Code:=dw Xm [([],0)]
noncomputable def TB:Code:=dw NP [([],0)]
noncomputable def Ti:Code:=dw Xw [([],0)]
noncomputable def b10:Code:=dw Xa [([],0)]
noncomputable def TN:Code:=dw Xr [([],0)]
noncomputable def Ue:Code:=dw Xv [([],0)]
noncomputable def G5:Code:=dw Ep [([],1)]
noncomputable def G6:Code:=dw Ep [([],2)]
noncomputable def TV:Code:=dw WV [([],0)]
noncomputable def TM:Code:=dw NK [([],1)]
noncomputable def Uc:Code:=dw Xj [([],0)]
noncomputable def b4:Code:=dw Xg [([],0)]
noncomputable def TG:Code:=dw NJ [([],0)]
noncomputable def Ub:Code:=dw Xi [([],0)]
noncomputable def TF:Code:=dw NP [([],1)]
noncomputable def Tv:Code:=dw Xd [([],0)]
noncomputable def TJ:Code:=dw NK [([],0)]
noncomputable def Ud:Code:=dw Xk [([],0)]
noncomputable def b12:Code:=dw Xo [([],0)]
noncomputable def Tn:Code:=dw Xb [([],0)]
noncomputable def GZ:Code:=dw Xy [([],0)]
noncomputable def Ua:Code:=dw Xu [([],0)]
noncomputable def Tz:Code:=dw Hw [([],1)]
noncomputable def b6:Code:=dw Xe [([],0)]
noncomputable def TI:Code:=dw Nc [([],0)]
noncomputable def TK:Code:=dw Nh [([],0)]
noncomputable def S9:Code:=dw Na [([],0)]
noncomputable def TW:Code:=dw Nj [([],0)]
noncomputable def SY:Code:=dw Nk [([],0)]
noncomputable def TA:Code:=dw Nb [([],0)]
def J6:aW:=⟨25, { np:=5,n:=46,gn:=3,next:=5,slots:=[(1,.nd 0),(7,.sv 4 1),(30,.nd 2),(31,.nd 3),(32,.nd 4)],objs:=[(4,.vec 1 130 true)] },
 [(.exit 0, { np:=1,n:=46,gn:=3,next:=5,slots:=[(7,.sv 4 0)],objs:=[(4,.vec 0 130 true)] })]⟩
def s1:aW:=⟨1, { np:=12,n:=194,gn:=3,next:=6,slots:=[(2,.nd 0),(7,.p 4 0),(9,.p 5 0),(61,.nd 1),(62,.nd 2),(63,.nd 3)],objs:=[(5,.cells [.nd 4,.nd 5,.nd 6,.nd 7] 62 true false),(4,.cells [.nd 8,.nd 9,.nd 10,.nd 11] 87 true false)] },
 [(.ret, { np:=1,n:=194,gn:=3,next:=4,slots:=[(6,.nd 0)],objs:=[] }),
  (.exit 0, { np:=0,n:=194,gn:=3,next:=4,slots:=[],objs:=[] })]⟩
def Ju:aW:=⟨104, { np:=2,n:=24,gn:=3,next:=4,slots:=[(0,.nd 0),(3,.nd 1)],objs:=[] },
 [(.ret, { np:=1,n:=24,gn:=3,next:=4,slots:=[(2,.nd 0)],objs:=[] }),
  (.exit 0, { np:=0,n:=24,gn:=3,next:=4,slots:=[],objs:=[] })]⟩
def JO:aW:=⟨149, { np:=4,n:=83,gn:=3,next:=5,slots:=[(7,.sv 4 0),(27,.nd 1),(28,.nd 2),(29,.nd 3)],objs:=[(4,.vec 0 170 true)] },
 [(.ret, { np:=0,n:=83,gn:=3,next:=4,slots:=[(2,.cZ),(3,.i .i64 14)],objs:=[] }),
  (.exit 2, { np:=1,n:=83,gn:=3,next:=5,slots:=[(7,.sv 4 0)],objs:=[(4,.vec 0 170 true)] })]⟩
def JD:aW:=⟨128, { np:=3,n:=37,gn:=3,next:=4,slots:=[(0,.nd 0),(1,.nd 1),(5,.nd 2)],objs:=[] },
 [(.ret, { np:=1,n:=37,gn:=3,next:=4,slots:=[(4,.nd 0)],objs:=[] }),
  (.exit 0, { np:=2,n:=37,gn:=3,next:=4,slots:=[(0,.nd 0),(1,.nd 1)],objs:=[],al:=[some 0,some 1] })]⟩
def s72:aW:=⟨72, { np:=4,n:=116,gn:=3,next:=4,slots:=[(6,.nd 0),(97,.nd 1),(98,.nd 2),(99,.nd 3)],objs:=[] },
 [(.ret, { np:=0,n:=116,gn:=3,next:=4,slots:=[(4,.i .i64 14)],objs:=[] }),
  (.exit 6, { np:=0,n:=116,gn:=3,next:=4,slots:=[],objs:=[] })]⟩
def Kt:aW:=⟨51, { np:=4,n:=42,gn:=3,next:=4,slots:=[(3,.nd 0),(11,.nd 1),(12,.nd 2),(13,.nd 3)],objs:=[] },
 [(.ret, { np:=1,n:=42,gn:=3,next:=4,slots:=[(2,.nd 0)],objs:=[] }),
  (.exit 0, { np:=0,n:=42,gn:=3,next:=4,slots:=[],objs:=[] })]⟩
def JQ:aW:=⟨150, { np:=7,n:=83,gn:=3,next:=5,slots:=[(7,.nd 0),(9,.p 4 0),(10,.nd 1),(27,.nd 2),(28,.nd 3),(29,.nd 4)],objs:=[(4,.cells [.nd 5,.nd 6] 170 true false)] },
 [(.exit 4, { np:=11,n:=83,gn:=3,next:=5,slots:=[(7,.nd 0),(9,.p 4 0),(10,.nd 1),(27,.nd 2),(28,.nd 3),(29,.nd 4),(38,.nd 0),(39,.nd 1),(40,.rx 5 0),(41,.rx 5 0),(42,.nd 6),(43,.nd 7),(44,.p 4 0),(45,.nd 8),(46,.nd 9),(47,.b false)],objs:=[(4,.cells [.nd 8,.nd 10] 170 true false)],al:=[some 0,none,some 2,some 3,some 4,none,none,none,some 5,none,some 6] }),
  (.exit 4, { np:=7,n:=83,gn:=3,next:=5,slots:=[(7,.nd 0),(9,.p 4 0),(10,.nd 1),(27,.nd 2),(28,.nd 3),(29,.nd 4),(38,.bH []),(39,.bH []),(40,.bH []),(41,.bH []),(42,.bH []),(43,.bH []),(44,.bH []),(45,.bH []),(46,.bH []),(47,.bH [])],objs:=[(4,.cells [.nd 5,.nd 6] 170 true false)],al:=[some 0,none,some 2,some 3,some 4,some 5,some 6] })]⟩
def JW:aW:=⟨156, { np:=11,n:=71,gn:=3,next:=4,slots:=[(0,.nd 0),(1,.nd 1),(5,.nd 2),(13,.nd 3),(14,.nd 2),(29,.nd 0),(30,.nd 2),(31,.rx 4 0),(32,.rx 4 0),(33,.nd 5),(34,.nd 6),(35,.nd 1),(36,.nd 2),(37,.rx 7 0),(38,.rx 7 0),(39,.nd 8),(40,.nd 9),(41,.b false),(48,.nd 6),(49,.nd 10)],objs:=[] },
 [(.ret, { np:=0,n:=71,gn:=3,next:=4,slots:=[(4,.b false)],objs:=[] }),
  (.exit 2, { np:=10,n:=71,gn:=3,next:=4,slots:=[(0,.nd 0),(1,.nd 1),(13,.nd 2),(14,.nd 3),(29,.nd 0),(30,.nd 3),(31,.rx 4 0),(32,.rx 4 0),(33,.nd 5),(34,.nd 6),(35,.nd 1),(36,.nd 3),(37,.rx 7 0),(38,.rx 7 0),(39,.nd 8),(40,.nd 9),(41,.b false)],objs:=[],al:=[some 0,some 1,some 3,some 2,some 4,some 5,some 6,some 7,some 8,some 9] })]⟩
def JB:aW:=⟨122, { np:=1,n:=14,gn:=3,next:=4,slots:=[(0,.nd 0)],objs:=[] },
 [(.ret, { np:=0,n:=14,gn:=3,next:=4,slots:=[(2,.b false)],objs:=[] }),
  (.exit 0, { np:=0,n:=14,gn:=3,next:=4,slots:=[],objs:=[] })]⟩
def JH:aW:=⟨138, { np:=4,n:=127,gn:=3,next:=4,slots:=[(5,.nd 0),(108,.nd 1),(109,.nd 2),(110,.nd 3)],objs:=[] },
 [(.ret, { np:=0,n:=127,gn:=3,next:=4,slots:=[(4,.i .i64 14)],objs:=[] }),
  (.exit 6, { np:=0,n:=127,gn:=3,next:=4,slots:=[],objs:=[] })]⟩
def Jv:aW:=⟨105, { np:=5,n:=24,gn:=3,next:=4,slots:=[(0,.nd 0),(3,.nd 1),(11,.nd 2),(12,.nd 3),(13,.nd 4)],objs:=[] },
 [(.ret, { np:=1,n:=24,gn:=3,next:=4,slots:=[(2,.nd 0)],objs:=[] }),
  (.exit 2, { np:=2,n:=24,gn:=3,next:=4,slots:=[(0,.nd 0),(3,.nd 1)],objs:=[],al:=[some 0,some 1] })]⟩
def KU:aW:=⟨99, { np:=28,n:=127,gn:=3,next:=5,slots:=[(2,.p 4 0),(5,.nd 0),(32,.nd 1),(33,.nd 2),(34,.nd 3)],objs:=[(4,.cells [.nd 4,.nd 5,.nd 6,.nd 7,.nd 8,.nd 9,.nd 10,.nd 11,.nd 12,.nd 13,.nd 14,.nd 15,.nd 16,.nd 17,.nd 18,.nd 19,.nd 20,.nd 21,.nd 22,.nd 23,.nd 24,.nd 25,.nd 26,.nd 27] 74 true false)] },
 [(.ret, { np:=0,n:=127,gn:=3,next:=4,slots:=[(4,.i .i64 26)],objs:=[] }),
  (.exit 0, { np:=25,n:=127,gn:=3,next:=5,slots:=[(2,.p 4 0),(5,.nd 0)],objs:=[(4,.cells [.nd 1,.nd 2,.nd 3,.nd 4,.nd 5,.nd 6,.nd 7,.nd 8,.nd 9,.nd 10,.nd 11,.nd 12,.nd 13,.nd 14,.nd 15,.nd 16,.nd 17,.nd 18,.nd 19,.nd 20,.nd 21,.nd 22,.nd 23,.nd 24] 74 true false)],al:=[some 0,some 4,some 5,some 6,some 7,some 8,some 9,some 10,some 11,some 12,some 13,some 14,some 15,some 16,some 17,some 18,some 19,some 20,some 21,some 22,some 23,some 24,some 25,some 26,some 27] })]⟩
def J4:aW:=⟨168, { np:=4,n:=26,gn:=3,next:=4,slots:=[(0,.nd 0),(1,.nd 1),(12,.nd 2),(13,.nd 3)],objs:=[] },
 [(.ret, { np:=0,n:=26,gn:=3,next:=4,slots:=[(4,.b false)],objs:=[] }),
  (.exit 0, { np:=0,n:=26,gn:=3,next:=4,slots:=[],objs:=[] })]⟩
def s78:aW:=⟨78, { np:=3,n:=106,gn:=3,next:=5,slots:=[(0,.nd 0),(1,.nd 1),(6,.sv 4 2)],objs:=[(4,.vec 2 138 false)] },
 [(.ret, { np:=0,n:=106,gn:=3,next:=4,slots:=[(4,.cZ),(5,.i .i64 3)],objs:=[] }),
  (.exit 0, { np:=1,n:=106,gn:=3,next:=5,slots:=[(6,.sv 4 0)],objs:=[(4,.vec 0 138 false)] })]⟩
def KN:aW:=⟨73, { np:=11,n:=116,gn:=3,next:=5,slots:=[(6,.nd 0),(18,.p 4 0),(97,.nd 1),(98,.nd 2),(99,.nd 3),(103,.nd 0),(104,.nd 4),(105,.nd 5)],objs:=[(4,.cells [.nd 6,.nd 7,.nd 8,.nd 9,.nd 10] 136 true false)] },
 [(.ret, { np:=0,n:=116,gn:=3,next:=4,slots:=[(4,.i .i64 14)],objs:=[] }),
  (.exit 8, { np:=4,n:=116,gn:=3,next:=4,slots:=[(6,.nd 0),(97,.nd 1),(98,.nd 2),(99,.nd 3)],objs:=[],al:=[some 0,some 1,some 2,some 3] })]⟩
def JK:aW:=⟨145, { np:=4,n:=22,gn:=3,next:=4,slots:=[(1,.nd 0),(7,.nd 1),(8,.nd 2),(9,.nd 3)],objs:=[] },
 [(.ret, { np:=1,n:=22,gn:=3,next:=4,slots:=[(4,.nd 0)],objs:=[] }),
  (.exit 0, { np:=0,n:=22,gn:=3,next:=4,slots:=[],objs:=[] })]⟩
def s15:aW:=⟨15, { np:=3,n:=19,gn:=3,next:=4,slots:=[(0,.nd 0),(5,.nd 0),(6,.nd 1),(7,.nd 2)],objs:=[] },
 [(.ret, { np:=0,n:=19,gn:=3,next:=4,slots:=[(2,.b false)],objs:=[] }),
  (.exit 0, { np:=1,n:=19,gn:=3,next:=4,slots:=[(0,.nd 0)],objs:=[],al:=[some 0] })]⟩
def JE:aW:=⟨131, { np:=4,n:=40,gn:=3,next:=4,slots:=[(0,.nd 0),(3,.nd 1),(11,.nd 0),(12,.nd 2),(13,.nd 3)],objs:=[] },
 [(.exit 0, { np:=1,n:=40,gn:=3,next:=4,slots:=[(3,.nd 0)],objs:=[] })]⟩
def J7:aW:=⟨33, { np:=28,n:=116,gn:=3,next:=6,slots:=[(2,.p 4 0),(6,.nd 0),(7,.mp 5),(44,.nd 0),(45,.nd 1),(46,.nd 2)],objs:=[(5,.smap 3 none none),(4,.cells [.nd 4,.nd 5,.nd 6,.nd 7,.nd 8,.nd 9,.nd 10,.nd 11,.nd 12,.nd 13,.nd 14,.nd 15,.nd 16,.nd 17,.nd 18,.nd 19,.nd 20,.nd 21,.nd 22,.nd 23,.nd 24,.nd 25,.nd 26,.nd 27] 47 true false)] },
 [(.exit 0, { np:=26,n:=116,gn:=3,next:=6,slots:=[(2,.p 4 0),(6,.nd 0),(7,.mp 5)],objs:=[(5,.smap 1 none none),(4,.cells [.nd 2,.nd 3,.nd 4,.nd 5,.nd 6,.nd 7,.nd 8,.nd 9,.nd 10,.nd 11,.nd 12,.nd 13,.nd 14,.nd 15,.nd 16,.nd 17,.nd 18,.nd 19,.nd 20,.nd 21,.nd 22,.nd 23,.nd 24,.nd 25] 47 true false)],al:=[some 0,none,some 4,some 5,some 6,some 7,some 8,some 9,some 10,some 11,some 12,some 13,some 14,some 15,some 16,some 17,some 18,some 19,some 20,some 21,some 22,some 23,some 24,some 25,some 26,some 27] })]⟩
def Kr:aW:=⟨47, { np:=3,n:=42,gn:=3,next:=4,slots:=[(0,.nd 0),(15,.nd 0),(16,.nd 1),(17,.nd 2)],objs:=[] },
 [(.ret, { np:=1,n:=42,gn:=3,next:=4,slots:=[(2,.nd 0)],objs:=[] }),
  (.exit 0, { np:=0,n:=42,gn:=3,next:=4,slots:=[],objs:=[] })]⟩
def Jz:aW:=⟨115, { np:=3,n:=67,gn:=3,next:=4,slots:=[(0,.nd 0),(9,.nd 1),(10,.nd 2)],objs:=[] },
 [(.ret, { np:=1,n:=67,gn:=3,next:=4,slots:=[(2,.nd 0)],objs:=[] }),
  (.exit 0, { np:=0,n:=67,gn:=3,next:=4,slots:=[],objs:=[] })]⟩
def J5:aW:=⟨18, { np:=5,n:=32,gn:=3,next:=7,slots:=[(2,.p 4 0),(3,.p 5 0),(14,.nd 0),(15,.nd 1),(16,.nd 2)],objs:=[(5,.cells [.nd 3,.sv 6 4] 38 true false),(6,.vec 4 138 false),(4,.cells [.i .u64 0,.cZ] 38 true false)] },
 [(.exit 0, { np:=2,n:=32,gn:=3,next:=7,slots:=[(2,.p 4 0),(3,.p 5 0)],objs:=[(5,.cells [.nd 0,.sv 6 1] 38 true false),(6,.vec 1 138 false),(4,.cells [.i .u64 0,.cZ] 38 true false)],al:=[some 3,none] })]⟩
def JV:aW:=⟨155, { np:=4,n:=71,gn:=3,next:=4,slots:=[(0,.nd 0),(1,.nd 1),(13,.nd 2),(14,.nd 3)],objs:=[] },
 [(.ret, { np:=0,n:=71,gn:=3,next:=4,slots:=[(4,.b false)],objs:=[] }),
  (.exit 0, { np:=0,n:=71,gn:=3,next:=4,slots:=[],objs:=[] })]⟩
def Jw:aW:=⟨110, { np:=2,n:=22,gn:=3,next:=4,slots:=[(0,.nd 0),(3,.nd 1)],objs:=[] },
 [(.exit 0, { np:=2,n:=22,gn:=3,next:=4,slots:=[(0,.nd 0),(3,.nd 1)],objs:=[] })]⟩
def Jy:aW:=⟨111, { np:=4,n:=22,gn:=3,next:=4,slots:=[(3,.nd 0),(10,.nd 1),(11,.nd 2),(12,.nd 3)],objs:=[] },
 [(.exit 0, { np:=1,n:=22,gn:=3,next:=4,slots:=[(3,.nd 0)],objs:=[] })]⟩
def s11:aW:=⟨11, { np:=4,n:=33,gn:=3,next:=5,slots:=[(0,.nd 0),(3,.sv 4 1),(9,.nd 2),(10,.nd 3)],objs:=[(4,.vec 1 5 false)] },
 [(.exit 0, { np:=1,n:=33,gn:=3,next:=5,slots:=[(3,.sv 4 0)],objs:=[(4,.vec 0 5 false)] })]⟩
def JX:aW:=⟨158, { np:=4,n:=81,gn:=3,next:=4,slots:=[(0,.nd 0),(1,.nd 1),(12,.nd 2),(13,.nd 3)],objs:=[] },
 [(.ret, { np:=0,n:=81,gn:=3,next:=4,slots:=[(4,.b false)],objs:=[] }),
  (.exit 0, { np:=0,n:=81,gn:=3,next:=4,slots:=[],objs:=[] })]⟩
def JJ:aW:=⟨143, { np:=5,n:=58,gn:=3,next:=5,slots:=[(0,.nd 0),(1,.nd 1),(6,.sv 4 2),(12,.nd 0),(13,.nd 3),(14,.nd 4)],objs:=[(4,.vec 2 170 true)] },
 [(.ret, { np:=0,n:=58,gn:=3,next:=4,slots:=[(4,.cZ),(5,.i .i64 3)],objs:=[] }),
  (.exit 0, { np:=3,n:=58,gn:=3,next:=5,slots:=[(0,.nd 0),(1,.nd 1),(6,.sv 4 2)],objs:=[(4,.vec 2 170 true)],al:=[some 0,some 1,none] })]⟩
def JA:aW:=⟨118, { np:=3,n:=41,gn:=3,next:=4,slots:=[(0,.nd 0),(3,.nd 1),(4,.nd 2)],objs:=[] },
 [(.exit 0, { np:=1,n:=41,gn:=3,next:=4,slots:=[(3,.nd 0)],objs:=[] })]⟩
def s10:aW:=⟨10, { np:=2,n:=11,gn:=3,next:=4,slots:=[(0,.nd 0),(3,.nd 1)],objs:=[] },
 [(.exit 0, { np:=1,n:=11,gn:=3,next:=4,slots:=[(3,.nd 0)],objs:=[] })]⟩
def J3:aW:=⟨165, { np:=4,n:=32,gn:=3,next:=4,slots:=[(1,.nd 0),(2,.fn 75 [] []),(15,.nd 1),(16,.nd 2),(17,.nd 3)],objs:=[] },
 [(.ret, { np:=0,n:=32,gn:=3,next:=4,slots:=[(6,.b false)],objs:=[] }),
  (.exit 0, { np:=0,n:=32,gn:=3,next:=4,slots:=[],objs:=[] })]⟩
def KT:aW:=⟨97, { np:=5,n:=29,gn:=3,next:=5,slots:=[(1,.nd 0),(5,.sv 4 1),(9,.nd 2),(10,.nd 3),(11,.nd 4)],objs:=[(4,.vec 1 156 true)] },
 [(.exit 0, { np:=1,n:=29,gn:=3,next:=5,slots:=[(5,.sv 4 0)],objs:=[(4,.vec 0 156 true)] })]⟩
def xZ:aW:=⟨35, { np:=29,n:=116,gn:=3,next:=6,slots:=[(2,.p 4 0),(6,.nd 0),(7,.mp 5),(54,.nd 1),(55,.nd 2),(56,.nd 3)],objs:=[(5,.smap 4 none none),(4,.cells [.nd 5,.nd 6,.nd 7,.nd 8,.nd 9,.nd 10,.nd 11,.nd 12,.nd 13,.nd 14,.nd 15,.nd 16,.nd 17,.nd 18,.nd 19,.nd 20,.nd 21,.nd 22,.nd 23,.nd 24,.nd 25,.nd 26,.nd 27,.nd 28] 47 true false)] },
 [(.ret, { np:=0,n:=116,gn:=3,next:=4,slots:=[(4,.i .i64 26)],objs:=[] }),
  (.exit 2, { np:=25,n:=116,gn:=3,next:=5,slots:=[(2,.p 4 0),(6,.nd 0)],objs:=[(4,.cells [.nd 1,.nd 2,.nd 3,.nd 4,.nd 5,.nd 6,.nd 7,.nd 8,.nd 9,.nd 10,.nd 11,.nd 12,.nd 13,.nd 14,.nd 15,.nd 16,.nd 17,.nd 18,.nd 19,.nd 20,.nd 21,.nd 22,.nd 23,.nd 24] 47 true false)],al:=[some 0,some 5,some 6,some 7,some 8,some 9,some 10,some 11,some 12,some 13,some 14,some 15,some 16,some 17,some 18,some 19,some 20,some 21,some 22,some 23,some 24,some 25,some 26,some 27,some 28] })]⟩
def s36:aW:=⟨36, { np:=27,n:=116,gn:=3,next:=5,slots:=[(2,.p 4 0),(6,.nd 0),(71,.nd 0),(72,.nd 1),(73,.nd 2)],objs:=[(4,.cells [.nd 3,.nd 4,.nd 5,.nd 6,.nd 7,.nd 8,.nd 9,.nd 10,.nd 11,.nd 12,.nd 13,.nd 14,.nd 15,.nd 16,.nd 17,.nd 18,.nd 19,.nd 20,.nd 21,.nd 22,.nd 23,.nd 24,.nd 25,.nd 26] 47 true false)] },
 [(.ret, { np:=1,n:=116,gn:=3,next:=4,slots:=[(4,.nd 0)],objs:=[] }),
  (.exit 4, { np:=25,n:=116,gn:=3,next:=5,slots:=[(2,.p 4 0),(6,.nd 0)],objs:=[(4,.cells [.nd 1,.nd 2,.nd 3,.nd 4,.nd 5,.nd 6,.nd 7,.nd 8,.nd 9,.nd 10,.nd 11,.nd 12,.nd 13,.nd 14,.nd 15,.nd 16,.nd 17,.nd 18,.nd 19,.nd 20,.nd 21,.nd 22,.nd 23,.nd 24] 47 true false)],al:=[some 0,some 3,some 4,some 5,some 6,some 7,some 8,some 9,some 10,some 11,some 12,some 13,some 14,some 15,some 16,some 17,some 18,some 19,some 20,some 21,some 22,some 23,some 24,some 25,some 26] })]⟩
def Jt:aW:=⟨100, { np:=32,n:=127,gn:=3,next:=5,slots:=[(2,.p 4 0),(5,.nd 0),(7,.nd 1),(8,.nd 2),(32,.nd 3),(33,.nd 4),(34,.nd 5),(38,.nd 0),(39,.nd 6),(40,.nd 7)],objs:=[(4,.cells [.nd 8,.nd 9,.nd 10,.nd 11,.nd 12,.nd 13,.nd 14,.nd 15,.nd 16,.nd 17,.nd 18,.nd 19,.nd 20,.nd 21,.nd 22,.nd 23,.nd 24,.nd 25,.nd 26,.nd 27,.nd 28,.nd 29,.nd 30,.nd 31] 74 true false)] },
 [(.exit 2, { np:=30,n:=127,gn:=3,next:=5,slots:=[(2,.p 4 0),(5,.nd 0),(7,.nd 1),(8,.nd 2),(32,.nd 3),(33,.nd 4),(34,.nd 5)],objs:=[(4,.cells [.nd 6,.nd 7,.nd 8,.nd 9,.nd 10,.nd 11,.nd 12,.nd 13,.nd 14,.nd 15,.nd 16,.nd 17,.nd 18,.nd 19,.nd 20,.nd 21,.nd 22,.nd 23,.nd 24,.nd 25,.nd 26,.nd 27,.nd 28,.nd 29] 74 true false)],al:=[some 0,some 1,none,some 3,some 4,some 5,some 8,some 9,some 10,some 11,some 12,some 13,some 14,some 15,some 16,some 17,some 18,some 19,some 20,some 21,some 22,some 23,some 24,some 25,some 26,some 27,some 28,some 29,some 30,some 31] })]⟩
def JI:aW:=⟨139, { np:=11,n:=127,gn:=3,next:=5,slots:=[(5,.nd 0),(16,.p 4 0),(108,.nd 1),(109,.nd 2),(110,.nd 3),(114,.nd 0),(115,.nd 4),(116,.nd 5)],objs:=[(4,.cells [.nd 6,.nd 7,.nd 8,.nd 9,.nd 10] 165 true false)] },
 [(.ret, { np:=0,n:=127,gn:=3,next:=4,slots:=[(4,.i .i64 14)],objs:=[] }),
  (.exit 8, { np:=4,n:=127,gn:=3,next:=4,slots:=[(5,.nd 0),(108,.nd 1),(109,.nd 2),(110,.nd 3)],objs:=[],al:=[some 0,some 1,some 2,some 3] })]⟩
def KL:aW:=⟨71, { np:=5,n:=46,gn:=3,next:=4,slots:=[(1,.nd 0),(5,.nd 1),(9,.nd 2),(10,.nd 3),(11,.nd 4)],objs:=[] },
 [(.ret, { np:=1,n:=46,gn:=3,next:=4,slots:=[(4,.nd 0)],objs:=[] }),
  (.exit 0, { np:=0,n:=46,gn:=3,next:=4,slots:=[],objs:=[] })]⟩
def JY:aW:=⟨159, { np:=50,n:=93,gn:=3,next:=6,slots:=[(2,.p 4 0),(3,.p 5 0),(77,.nd 0),(78,.nd 1)],objs:=[(5,.cells [.nd 2,.nd 3,.nd 4,.nd 5,.nd 6,.nd 7,.nd 8,.nd 9,.nd 10,.nd 11,.nd 12,.nd 13,.nd 14,.nd 15,.nd 16,.nd 17,.nd 18,.nd 19,.nd 20,.nd 21,.nd 22,.nd 23,.nd 24,.nd 25] 74 true false),(4,.cells [.nd 26,.nd 27,.nd 28,.nd 29,.nd 30,.nd 31,.nd 32,.nd 33,.nd 34,.nd 35,.nd 36,.nd 37,.nd 38,.nd 39,.nd 40,.nd 41,.nd 42,.nd 43,.nd 44,.nd 45,.nd 46,.nd 47,.nd 48,.nd 49] 74 true false)] },
 [(.ret, { np:=0,n:=93,gn:=3,next:=4,slots:=[(4,.b false)],objs:=[] }),
  (.exit 2, { np:=0,n:=93,gn:=3,next:=4,slots:=[],objs:=[] })]⟩
def KQ:aW:=⟨90, { np:=4,n:=23,gn:=3,next:=5,slots:=[(3,.sv 4 0),(6,.nd 1),(7,.nd 2),(8,.nd 3)],objs:=[(4,.vec 0 170 true)] },
 [(.exit 0, { np:=1,n:=23,gn:=3,next:=5,slots:=[(3,.sv 4 0)],objs:=[(4,.vec 0 170 true)] })]⟩
def s4:aW:=⟨4, { np:=3,n:=23,gn:=3,next:=4,slots:=[(0,.nd 0),(5,.nd 0),(6,.nd 1),(7,.nd 2)],objs:=[] },
 [(.ret, { np:=0,n:=23,gn:=3,next:=4,slots:=[(2,.b false)],objs:=[] }),
  (.exit 0, { np:=1,n:=23,gn:=3,next:=4,slots:=[(0,.nd 0)],objs:=[],al:=[some 0] })]⟩
def JM:aW:=⟨148, { np:=3,n:=83,gn:=3,next:=4,slots:=[(0,.nd 0),(15,.nd 0),(16,.nd 1),(17,.nd 2)],objs:=[] },
 [(.ret, { np:=1,n:=83,gn:=3,next:=4,slots:=[(2,.cZ),(3,.nd 0)],objs:=[] }),
  (.exit 0, { np:=1,n:=83,gn:=3,next:=4,slots:=[(0,.nd 0)],objs:=[],al:=[some 0] })]⟩
def KP:aW:=⟨88, { np:=4,n:=18,gn:=3,next:=5,slots:=[(3,.sv 4 0),(6,.nd 1),(7,.nd 2),(8,.nd 3)],objs:=[(4,.vec 0 124 true)] },
 [(.exit 0, { np:=1,n:=18,gn:=3,next:=5,slots:=[(3,.sv 4 0)],objs:=[(4,.vec 0 124 true)] })]⟩
def JL:aW:=⟨146, { np:=5,n:=58,gn:=3,next:=5,slots:=[(0,.nd 0),(6,.sv 4 1),(38,.nd 2),(39,.nd 3),(40,.nd 4)],objs:=[(4,.vec 1 170 true)] },
 [(.exit 2, { np:=1,n:=58,gn:=3,next:=5,slots:=[(6,.sv 4 0)],objs:=[(4,.vec 0 170 true)] })]⟩
def JF:aW:=⟨134, { np:=3,n:=31,gn:=3,next:=4,slots:=[(0,.nd 0),(1,.nd 1),(5,.nd 2)],objs:=[] },
 [(.ret, { np:=1,n:=31,gn:=3,next:=4,slots:=[(4,.nd 0)],objs:=[] }),
  (.exit 0, { np:=2,n:=31,gn:=3,next:=4,slots:=[(0,.nd 0),(1,.nd 1)],objs:=[],al:=[some 0,some 1] })]⟩
def JU:aW:=⟨153, { np:=51,n:=93,gn:=3,next:=6,slots:=[(2,.p 4 0),(3,.p 5 0),(12,.nd 0),(13,.nd 1),(14,.nd 2)],objs:=[(5,.cells [.nd 3,.nd 4,.nd 5,.nd 6,.nd 7,.nd 8,.nd 9,.nd 10,.nd 11,.nd 12,.nd 13,.nd 14,.nd 15,.nd 16,.nd 17,.nd 18,.nd 19,.nd 20,.nd 21,.nd 22,.nd 23,.nd 24,.nd 25,.nd 26] 74 true false),(4,.cells [.nd 27,.nd 28,.nd 29,.nd 30,.nd 31,.nd 32,.nd 33,.nd 34,.nd 35,.nd 36,.nd 37,.nd 38,.nd 39,.nd 40,.nd 41,.nd 42,.nd 43,.nd 44,.nd 45,.nd 46,.nd 47,.nd 48,.nd 49,.nd 50] 74 true false)] },
 [(.ret, { np:=0,n:=93,gn:=3,next:=4,slots:=[(4,.b false)],objs:=[] }),
  (.exit 0, { np:=48,n:=93,gn:=3,next:=6,slots:=[(2,.p 4 0),(3,.p 5 0)],objs:=[(5,.cells [.nd 0,.nd 1,.nd 2,.nd 3,.nd 4,.nd 5,.nd 6,.nd 7,.nd 8,.nd 9,.nd 10,.nd 11,.nd 12,.nd 13,.nd 14,.nd 15,.nd 16,.nd 17,.nd 18,.nd 19,.nd 20,.nd 21,.nd 22,.nd 23] 74 true false),(4,.cells [.nd 24,.nd 25,.nd 26,.nd 27,.nd 28,.nd 29,.nd 30,.nd 31,.nd 32,.nd 33,.nd 34,.nd 35,.nd 36,.nd 37,.nd 38,.nd 39,.nd 40,.nd 41,.nd 42,.nd 43,.nd 44,.nd 45,.nd 46,.nd 47] 74 true false)],al:=[some 3,some 4,some 5,some 6,some 7,some 8,some 9,some 10,some 11,some 12,some 13,some 14,some 15,some 16,some 17,some 18,some 19,some 20,some 21,some 22,some 23,some 24,some 25,some 26,some 27,some 28,some 29,some 30,some 31,some 32,some 33,some 34,some 35,some 36,some 37,some 38,some 39,some 40,some 41,some 42,some 43,some 44,some 45,some 46,some 47,some 48,some 49,some 50] })]⟩
def KR:aW:=⟨92, { np:=4,n:=29,gn:=3,next:=5,slots:=[(3,.sv 4 0),(6,.nd 1),(7,.nd 2),(8,.nd 3)],objs:=[(4,.vec 0 165 true)] },
 [(.exit 0, { np:=1,n:=29,gn:=3,next:=5,slots:=[(3,.sv 4 0)],objs:=[(4,.vec 0 165 true)] })]⟩
def s12:aW:=⟨12, { np:=4,n:=22,gn:=3,next:=6,slots:=[(3,.p 4 0),(11,.nd 0),(12,.nd 1),(13,.nd 2)],objs:=[(4,.cells [.p 4 0,.sv 5 3] 198 true false),(5,.vec 3 5 true)] },
 [(.exit 0, { np:=1,n:=22,gn:=3,next:=6,slots:=[(3,.p 4 0)],objs:=[(4,.cells [.p 4 0,.sv 5 0] 198 true false),(5,.vec 0 5 true)] })]⟩
def JC:aW:=⟨124, { np:=5,n:=81,gn:=3,next:=4,slots:=[(0,.nd 0),(4,.nd 1),(5,.nd 2),(6,.nd 3),(7,.nd 4)],objs:=[] },
 [(.ret, { np:=0,n:=81,gn:=3,next:=4,slots:=[(2,.i .i64 0)],objs:=[] }),
  (.exit 0, { np:=3,n:=81,gn:=3,next:=4,slots:=[(4,.nd 0),(5,.nd 1),(6,.nd 2)],objs:=[],al:=[some 1,none,some 3] })]⟩
def xY:aW:=⟨137, { np:=4,n:=91,gn:=3,next:=4,slots:=[(0,.nd 0),(1,.nd 1),(8,.nd 0),(9,.nd 2),(10,.nd 3)],objs:=[] },
 [(.ret, { np:=1,n:=91,gn:=3,next:=4,slots:=[(4,.nd 0)],objs:=[] }),
  (.exit 0, { np:=0,n:=91,gn:=3,next:=4,slots:=[],objs:=[] })]⟩
def KO:aW:=⟨85, { np:=3,n:=54,gn:=3,next:=5,slots:=[(0,.nd 0),(1,.nd 1),(6,.sv 4 2)],objs:=[(4,.vec 2 136 true)] },
 [(.exit 0, { np:=2,n:=54,gn:=3,next:=5,slots:=[(0,.nd 0),(6,.sv 4 1)],objs:=[(4,.vec 1 136 true)] })]⟩
def JG:aW:=⟨135, { np:=27,n:=127,gn:=3,next:=5,slots:=[(2,.p 4 0),(5,.nd 0),(61,.nd 0),(62,.nd 1),(63,.nd 2)],objs:=[(4,.cells [.nd 3,.nd 4,.nd 5,.nd 6,.nd 7,.nd 8,.nd 9,.nd 10,.nd 11,.nd 12,.nd 13,.nd 14,.nd 15,.nd 16,.nd 17,.nd 18,.nd 19,.nd 20,.nd 21,.nd 22,.nd 23,.nd 24,.nd 25,.nd 26] 74 true false)] },
 [(.ret, { np:=1,n:=127,gn:=3,next:=4,slots:=[(4,.nd 0)],objs:=[] }),
  (.exit 4, { np:=25,n:=127,gn:=3,next:=5,slots:=[(2,.p 4 0),(5,.nd 0)],objs:=[(4,.cells [.nd 1,.nd 2,.nd 3,.nd 4,.nd 5,.nd 6,.nd 7,.nd 8,.nd 9,.nd 10,.nd 11,.nd 12,.nd 13,.nd 14,.nd 15,.nd 16,.nd 17,.nd 18,.nd 19,.nd 20,.nd 21,.nd 22,.nd 23,.nd 24] 74 true false)],al:=[some 0,some 3,some 4,some 5,some 6,some 7,some 8,some 9,some 10,some 11,some 12,some 13,some 14,some 15,some 16,some 17,some 18,some 19,some 20,some 21,some 22,some 23,some 24,some 25,some 26] })]⟩
def s6:aW:=⟨6, { np:=3,n:=37,gn:=3,next:=4,slots:=[(0,.nd 0),(5,.nd 0),(6,.nd 1),(7,.nd 2)],objs:=[] },
 [(.ret, { np:=0,n:=37,gn:=3,next:=4,slots:=[(2,.b false)],objs:=[] }),
  (.exit 0, { np:=1,n:=37,gn:=3,next:=4,slots:=[(0,.nd 0)],objs:=[],al:=[some 0] })]⟩
def JZ:aW:=⟨162, { np:=3,n:=16,gn:=3,next:=5,slots:=[(0,.agg [.nd 0,.cZ]),(1,.p 4 0)],objs:=[(4,.cells [.nd 1,.nd 2] 38 true false)],ka:=1 },
 [(.ret, { np:=3,n:=1,gn:=3,next:=5,slots:=[(0,.nd 0)],objs:=[(4,.cells [.nd 1,.nd 2] 38 true false)],ka:=1,al:=[none,some 1,some 2] })]⟩
def JR:aW:=⟨151, { np:=4,n:=19,gn:=3,next:=5,slots:=[(0,.p 4 0)],objs:=[(4,.cells [.nd 0,.nd 1,.nd 2,.nd 3] 87 true false)],ka:=1 },
 [(.ret, { np:=7,n:=2,gn:=3,next:=5,slots:=[(0,.agg [.nd 0,.nd 1]),(1,.nd 2)],objs:=[(4,.cells [.nd 3,.nd 4,.nd 5,.nd 6] 87 true false)],ka:=1,al:=[none,none,none,some 0,some 1,some 2,some 3] })]⟩
def s68:aW:=⟨68, { np:=0,n:=33,gn:=3,next:=4,slots:=[(0,.nJ)],objs:=[] },
 [(.ret, { np:=0,n:=1,gn:=3,next:=4,slots:=[(0,.i .i64 0)],objs:=[] })]⟩
def KJ:aW:=⟨67, { np:=24,n:=33,gn:=3,next:=5,slots:=[(0,.cO 186 (.p 4 15))],objs:=[(4,.cells [.nd 0,.nd 1,.nd 2,.nd 3,.nd 4,.nd 5,.nd 6,.nd 7,.nd 8,.nd 9,.nd 10,.nd 11,.nd 12,.nd 13,.nd 14,.nd 15,.nd 16,.nd 17,.nd 18,.nd 19,.nd 20,.nd 21,.nd 22,.nd 23] 47 true false)],ka:=1 },
 [(.ret, { np:=24,n:=1,gn:=3,next:=5,slots:=[(0,.i .i64 0)],objs:=[(4,.cells [.nd 0,.nd 1,.nd 2,.nd 3,.nd 4,.nd 5,.nd 6,.nd 7,.nd 8,.nd 9,.nd 10,.nd 11,.nd 12,.nd 13,.nd 14,.nd 15,.nd 16,.nd 17,.nd 18,.nd 19,.nd 20,.nd 21,.nd 22,.nd 23] 47 true false)],ka:=1,al:=[some 0,some 1,some 2,some 3,some 4,some 5,some 6,some 7,some 8,some 9,some 10,some 11,some 12,some 13,some 14,some 15,some 16,some 17,some 18,some 19,some 20,some 21,some 22,some 23] })]⟩
def KI:aW:=⟨66, { np:=24,n:=33,gn:=3,next:=5,slots:=[(0,.cO 186 (.p 4 14))],objs:=[(4,.cells [.nd 0,.nd 1,.nd 2,.nd 3,.nd 4,.nd 5,.nd 6,.nd 7,.nd 8,.nd 9,.nd 10,.nd 11,.nd 12,.nd 13,.nd 14,.nd 15,.nd 16,.nd 17,.nd 18,.nd 19,.nd 20,.nd 21,.nd 22,.nd 23] 47 true false)],ka:=1 },
 [(.ret, { np:=24,n:=1,gn:=3,next:=5,slots:=[(0,.i .i64 0)],objs:=[(4,.cells [.nd 0,.nd 1,.nd 2,.nd 3,.nd 4,.nd 5,.nd 6,.nd 7,.nd 8,.nd 9,.nd 10,.nd 11,.nd 12,.nd 13,.nd 14,.nd 15,.nd 16,.nd 17,.nd 18,.nd 19,.nd 20,.nd 21,.nd 22,.nd 23] 47 true false)],ka:=1,al:=[some 0,some 1,some 2,some 3,some 4,some 5,some 6,some 7,some 8,some 9,some 10,some 11,some 12,some 13,some 14,some 15,some 16,some 17,some 18,some 19,some 20,some 21,some 22,some 23] })]⟩
def KH:aW:=⟨65, { np:=24,n:=33,gn:=3,next:=5,slots:=[(0,.cO 186 (.p 4 13))],objs:=[(4,.cells [.nd 0,.nd 1,.nd 2,.nd 3,.nd 4,.nd 5,.nd 6,.nd 7,.nd 8,.nd 9,.nd 10,.nd 11,.nd 12,.nd 13,.nd 14,.nd 15,.nd 16,.nd 17,.nd 18,.nd 19,.nd 20,.nd 21,.nd 22,.nd 23] 47 true false)],ka:=1 },
 [(.ret, { np:=24,n:=1,gn:=3,next:=5,slots:=[(0,.i .i64 0)],objs:=[(4,.cells [.nd 0,.nd 1,.nd 2,.nd 3,.nd 4,.nd 5,.nd 6,.nd 7,.nd 8,.nd 9,.nd 10,.nd 11,.nd 12,.nd 13,.nd 14,.nd 15,.nd 16,.nd 17,.nd 18,.nd 19,.nd 20,.nd 21,.nd 22,.nd 23] 47 true false)],ka:=1,al:=[some 0,some 1,some 2,some 3,some 4,some 5,some 6,some 7,some 8,some 9,some 10,some 11,some 12,some 13,some 14,some 15,some 16,some 17,some 18,some 19,some 20,some 21,some 22,some 23] })]⟩
def KG:aW:=⟨64, { np:=24,n:=33,gn:=3,next:=5,slots:=[(0,.cO 186 (.p 4 12))],objs:=[(4,.cells [.nd 0,.nd 1,.nd 2,.nd 3,.nd 4,.nd 5,.nd 6,.nd 7,.nd 8,.nd 9,.nd 10,.nd 11,.nd 12,.nd 13,.nd 14,.nd 15,.nd 16,.nd 17,.nd 18,.nd 19,.nd 20,.nd 21,.nd 22,.nd 23] 47 true false)],ka:=1 },
 [(.ret, { np:=24,n:=1,gn:=3,next:=5,slots:=[(0,.i .i64 0)],objs:=[(4,.cells [.nd 0,.nd 1,.nd 2,.nd 3,.nd 4,.nd 5,.nd 6,.nd 7,.nd 8,.nd 9,.nd 10,.nd 11,.nd 12,.nd 13,.nd 14,.nd 15,.nd 16,.nd 17,.nd 18,.nd 19,.nd 20,.nd 21,.nd 22,.nd 23] 47 true false)],ka:=1,al:=[some 0,some 1,some 2,some 3,some 4,some 5,some 6,some 7,some 8,some 9,some 10,some 11,some 12,some 13,some 14,some 15,some 16,some 17,some 18,some 19,some 20,some 21,some 22,some 23] })]⟩
def KF:aW:=⟨63, { np:=24,n:=33,gn:=3,next:=5,slots:=[(0,.cO 186 (.p 4 11))],objs:=[(4,.cells [.nd 0,.nd 1,.nd 2,.nd 3,.nd 4,.nd 5,.nd 6,.nd 7,.nd 8,.nd 9,.nd 10,.nd 11,.nd 12,.nd 13,.nd 14,.nd 15,.nd 16,.nd 17,.nd 18,.nd 19,.nd 20,.nd 21,.nd 22,.nd 23] 47 true false)],ka:=1 },
 [(.ret, { np:=24,n:=1,gn:=3,next:=5,slots:=[(0,.i .i64 0)],objs:=[(4,.cells [.nd 0,.nd 1,.nd 2,.nd 3,.nd 4,.nd 5,.nd 6,.nd 7,.nd 8,.nd 9,.nd 10,.nd 11,.nd 12,.nd 13,.nd 14,.nd 15,.nd 16,.nd 17,.nd 18,.nd 19,.nd 20,.nd 21,.nd 22,.nd 23] 47 true false)],ka:=1,al:=[some 0,some 1,some 2,some 3,some 4,some 5,some 6,some 7,some 8,some 9,some 10,some 11,some 12,some 13,some 14,some 15,some 16,some 17,some 18,some 19,some 20,some 21,some 22,some 23] })]⟩
def KE:aW:=⟨62, { np:=24,n:=33,gn:=3,next:=5,slots:=[(0,.cO 186 (.p 4 10))],objs:=[(4,.cells [.nd 0,.nd 1,.nd 2,.nd 3,.nd 4,.nd 5,.nd 6,.nd 7,.nd 8,.nd 9,.nd 10,.nd 11,.nd 12,.nd 13,.nd 14,.nd 15,.nd 16,.nd 17,.nd 18,.nd 19,.nd 20,.nd 21,.nd 22,.nd 23] 47 true false)],ka:=1 },
 [(.ret, { np:=24,n:=1,gn:=3,next:=5,slots:=[(0,.i .i64 0)],objs:=[(4,.cells [.nd 0,.nd 1,.nd 2,.nd 3,.nd 4,.nd 5,.nd 6,.nd 7,.nd 8,.nd 9,.nd 10,.nd 11,.nd 12,.nd 13,.nd 14,.nd 15,.nd 16,.nd 17,.nd 18,.nd 19,.nd 20,.nd 21,.nd 22,.nd 23] 47 true false)],ka:=1,al:=[some 0,some 1,some 2,some 3,some 4,some 5,some 6,some 7,some 8,some 9,some 10,some 11,some 12,some 13,some 14,some 15,some 16,some 17,some 18,some 19,some 20,some 21,some 22,some 23] })]⟩
def KD:aW:=⟨61, { np:=24,n:=33,gn:=3,next:=5,slots:=[(0,.cO 186 (.p 4 9))],objs:=[(4,.cells [.nd 0,.nd 1,.nd 2,.nd 3,.nd 4,.nd 5,.nd 6,.nd 7,.nd 8,.nd 9,.nd 10,.nd 11,.nd 12,.nd 13,.nd 14,.nd 15,.nd 16,.nd 17,.nd 18,.nd 19,.nd 20,.nd 21,.nd 22,.nd 23] 47 true false)],ka:=1 },
 [(.ret, { np:=24,n:=1,gn:=3,next:=5,slots:=[(0,.i .i64 0)],objs:=[(4,.cells [.nd 0,.nd 1,.nd 2,.nd 3,.nd 4,.nd 5,.nd 6,.nd 7,.nd 8,.nd 9,.nd 10,.nd 11,.nd 12,.nd 13,.nd 14,.nd 15,.nd 16,.nd 17,.nd 18,.nd 19,.nd 20,.nd 21,.nd 22,.nd 23] 47 true false)],ka:=1,al:=[some 0,some 1,some 2,some 3,some 4,some 5,some 6,some 7,some 8,some 9,some 10,some 11,some 12,some 13,some 14,some 15,some 16,some 17,some 18,some 19,some 20,some 21,some 22,some 23] })]⟩
def KC:aW:=⟨60, { np:=24,n:=33,gn:=3,next:=5,slots:=[(0,.cO 186 (.p 4 8))],objs:=[(4,.cells [.nd 0,.nd 1,.nd 2,.nd 3,.nd 4,.nd 5,.nd 6,.nd 7,.nd 8,.nd 9,.nd 10,.nd 11,.nd 12,.nd 13,.nd 14,.nd 15,.nd 16,.nd 17,.nd 18,.nd 19,.nd 20,.nd 21,.nd 22,.nd 23] 47 true false)],ka:=1 },
 [(.ret, { np:=24,n:=1,gn:=3,next:=5,slots:=[(0,.i .i64 0)],objs:=[(4,.cells [.nd 0,.nd 1,.nd 2,.nd 3,.nd 4,.nd 5,.nd 6,.nd 7,.nd 8,.nd 9,.nd 10,.nd 11,.nd 12,.nd 13,.nd 14,.nd 15,.nd 16,.nd 17,.nd 18,.nd 19,.nd 20,.nd 21,.nd 22,.nd 23] 47 true false)],ka:=1,al:=[some 0,some 1,some 2,some 3,some 4,some 5,some 6,some 7,some 8,some 9,some 10,some 11,some 12,some 13,some 14,some 15,some 16,some 17,some 18,some 19,some 20,some 21,some 22,some 23] })]⟩
def KA:aW:=⟨59, { np:=24,n:=33,gn:=3,next:=5,slots:=[(0,.cO 186 (.p 4 7))],objs:=[(4,.cells [.nd 0,.nd 1,.nd 2,.nd 3,.nd 4,.nd 5,.nd 6,.nd 7,.nd 8,.nd 9,.nd 10,.nd 11,.nd 12,.nd 13,.nd 14,.nd 15,.nd 16,.nd 17,.nd 18,.nd 19,.nd 20,.nd 21,.nd 22,.nd 23] 47 true false)],ka:=1 },
 [(.ret, { np:=24,n:=1,gn:=3,next:=5,slots:=[(0,.i .i64 0)],objs:=[(4,.cells [.nd 0,.nd 1,.nd 2,.nd 3,.nd 4,.nd 5,.nd 6,.nd 7,.nd 8,.nd 9,.nd 10,.nd 11,.nd 12,.nd 13,.nd 14,.nd 15,.nd 16,.nd 17,.nd 18,.nd 19,.nd 20,.nd 21,.nd 22,.nd 23] 47 true false)],ka:=1,al:=[some 0,some 1,some 2,some 3,some 4,some 5,some 6,some 7,some 8,some 9,some 10,some 11,some 12,some 13,some 14,some 15,some 16,some 17,some 18,some 19,some 20,some 21,some 22,some 23] })]⟩
def Kz:aW:=⟨58, { np:=24,n:=33,gn:=3,next:=5,slots:=[(0,.cO 186 (.p 4 6))],objs:=[(4,.cells [.nd 0,.nd 1,.nd 2,.nd 3,.nd 4,.nd 5,.nd 6,.nd 7,.nd 8,.nd 9,.nd 10,.nd 11,.nd 12,.nd 13,.nd 14,.nd 15,.nd 16,.nd 17,.nd 18,.nd 19,.nd 20,.nd 21,.nd 22,.nd 23] 47 true false)],ka:=1 },
 [(.ret, { np:=24,n:=1,gn:=3,next:=5,slots:=[(0,.i .i64 0)],objs:=[(4,.cells [.nd 0,.nd 1,.nd 2,.nd 3,.nd 4,.nd 5,.nd 6,.nd 7,.nd 8,.nd 9,.nd 10,.nd 11,.nd 12,.nd 13,.nd 14,.nd 15,.nd 16,.nd 17,.nd 18,.nd 19,.nd 20,.nd 21,.nd 22,.nd 23] 47 true false)],ka:=1,al:=[some 0,some 1,some 2,some 3,some 4,some 5,some 6,some 7,some 8,some 9,some 10,some 11,some 12,some 13,some 14,some 15,some 16,some 17,some 18,some 19,some 20,some 21,some 22,some 23] })]⟩
def Ky:aW:=⟨57, { np:=24,n:=33,gn:=3,next:=5,slots:=[(0,.cO 186 (.p 4 5))],objs:=[(4,.cells [.nd 0,.nd 1,.nd 2,.nd 3,.nd 4,.nd 5,.nd 6,.nd 7,.nd 8,.nd 9,.nd 10,.nd 11,.nd 12,.nd 13,.nd 14,.nd 15,.nd 16,.nd 17,.nd 18,.nd 19,.nd 20,.nd 21,.nd 22,.nd 23] 47 true false)],ka:=1 },
 [(.ret, { np:=24,n:=1,gn:=3,next:=5,slots:=[(0,.i .i64 0)],objs:=[(4,.cells [.nd 0,.nd 1,.nd 2,.nd 3,.nd 4,.nd 5,.nd 6,.nd 7,.nd 8,.nd 9,.nd 10,.nd 11,.nd 12,.nd 13,.nd 14,.nd 15,.nd 16,.nd 17,.nd 18,.nd 19,.nd 20,.nd 21,.nd 22,.nd 23] 47 true false)],ka:=1,al:=[some 0,some 1,some 2,some 3,some 4,some 5,some 6,some 7,some 8,some 9,some 10,some 11,some 12,some 13,some 14,some 15,some 16,some 17,some 18,some 19,some 20,some 21,some 22,some 23] })]⟩
def Kw:aW:=⟨56, { np:=24,n:=33,gn:=3,next:=5,slots:=[(0,.cO 186 (.p 4 4))],objs:=[(4,.cells [.nd 0,.nd 1,.nd 2,.nd 3,.nd 4,.nd 5,.nd 6,.nd 7,.nd 8,.nd 9,.nd 10,.nd 11,.nd 12,.nd 13,.nd 14,.nd 15,.nd 16,.nd 17,.nd 18,.nd 19,.nd 20,.nd 21,.nd 22,.nd 23] 47 true false)],ka:=1 },
 [(.ret, { np:=24,n:=1,gn:=3,next:=5,slots:=[(0,.i .i64 0)],objs:=[(4,.cells [.nd 0,.nd 1,.nd 2,.nd 3,.nd 4,.nd 5,.nd 6,.nd 7,.nd 8,.nd 9,.nd 10,.nd 11,.nd 12,.nd 13,.nd 14,.nd 15,.nd 16,.nd 17,.nd 18,.nd 19,.nd 20,.nd 21,.nd 22,.nd 23] 47 true false)],ka:=1,al:=[some 0,some 1,some 2,some 3,some 4,some 5,some 6,some 7,some 8,some 9,some 10,some 11,some 12,some 13,some 14,some 15,some 16,some 17,some 18,some 19,some 20,some 21,some 22,some 23] })]⟩
def Kv:aW:=⟨55, { np:=24,n:=33,gn:=3,next:=5,slots:=[(0,.cO 186 (.p 4 3))],objs:=[(4,.cells [.nd 0,.nd 1,.nd 2,.nd 3,.nd 4,.nd 5,.nd 6,.nd 7,.nd 8,.nd 9,.nd 10,.nd 11,.nd 12,.nd 13,.nd 14,.nd 15,.nd 16,.nd 17,.nd 18,.nd 19,.nd 20,.nd 21,.nd 22,.nd 23] 47 true false)],ka:=1 },
 [(.ret, { np:=24,n:=1,gn:=3,next:=5,slots:=[(0,.i .i64 0)],objs:=[(4,.cells [.nd 0,.nd 1,.nd 2,.nd 3,.nd 4,.nd 5,.nd 6,.nd 7,.nd 8,.nd 9,.nd 10,.nd 11,.nd 12,.nd 13,.nd 14,.nd 15,.nd 16,.nd 17,.nd 18,.nd 19,.nd 20,.nd 21,.nd 22,.nd 23] 47 true false)],ka:=1,al:=[some 0,some 1,some 2,some 3,some 4,some 5,some 6,some 7,some 8,some 9,some 10,some 11,some 12,some 13,some 14,some 15,some 16,some 17,some 18,some 19,some 20,some 21,some 22,some 23] })]⟩
def Ku:aW:=⟨54, { np:=24,n:=33,gn:=3,next:=5,slots:=[(0,.cO 186 (.p 4 2))],objs:=[(4,.cells [.nd 0,.nd 1,.nd 2,.nd 3,.nd 4,.nd 5,.nd 6,.nd 7,.nd 8,.nd 9,.nd 10,.nd 11,.nd 12,.nd 13,.nd 14,.nd 15,.nd 16,.nd 17,.nd 18,.nd 19,.nd 20,.nd 21,.nd 22,.nd 23] 47 true false)],ka:=1 },
 [(.ret, { np:=24,n:=1,gn:=3,next:=5,slots:=[(0,.i .i64 0)],objs:=[(4,.cells [.nd 0,.nd 1,.nd 2,.nd 3,.nd 4,.nd 5,.nd 6,.nd 7,.nd 8,.nd 9,.nd 10,.nd 11,.nd 12,.nd 13,.nd 14,.nd 15,.nd 16,.nd 17,.nd 18,.nd 19,.nd 20,.nd 21,.nd 22,.nd 23] 47 true false)],ka:=1,al:=[some 0,some 1,some 2,some 3,some 4,some 5,some 6,some 7,some 8,some 9,some 10,some 11,some 12,some 13,some 14,some 15,some 16,some 17,some 18,some 19,some 20,some 21,some 22,some 23] })]⟩
def s53:aW:=⟨53, { np:=24,n:=33,gn:=3,next:=5,slots:=[(0,.cO 186 (.p 4 1))],objs:=[(4,.cells [.nd 0,.nd 1,.nd 2,.nd 3,.nd 4,.nd 5,.nd 6,.nd 7,.nd 8,.nd 9,.nd 10,.nd 11,.nd 12,.nd 13,.nd 14,.nd 15,.nd 16,.nd 17,.nd 18,.nd 19,.nd 20,.nd 21,.nd 22,.nd 23] 47 true false)],ka:=1 },
 [(.ret, { np:=24,n:=1,gn:=3,next:=5,slots:=[(0,.i .i64 0)],objs:=[(4,.cells [.nd 0,.nd 1,.nd 2,.nd 3,.nd 4,.nd 5,.nd 6,.nd 7,.nd 8,.nd 9,.nd 10,.nd 11,.nd 12,.nd 13,.nd 14,.nd 15,.nd 16,.nd 17,.nd 18,.nd 19,.nd 20,.nd 21,.nd 22,.nd 23] 47 true false)],ka:=1,al:=[some 0,some 1,some 2,some 3,some 4,some 5,some 6,some 7,some 8,some 9,some 10,some 11,some 12,some 13,some 14,some 15,some 16,some 17,some 18,some 19,some 20,some 21,some 22,some 23] })]⟩
def s49:aW:=⟨49, { np:=24,n:=33,gn:=3,next:=5,slots:=[(0,.cO 191 (.p 4 22))],objs:=[(4,.cells [.nd 0,.nd 1,.nd 2,.nd 3,.nd 4,.nd 5,.nd 6,.nd 7,.nd 8,.nd 9,.nd 10,.nd 11,.nd 12,.nd 13,.nd 14,.nd 15,.nd 16,.nd 17,.nd 18,.nd 19,.nd 20,.nd 21,.nd 22,.nd 23] 47 true false)],ka:=1 },
 [(.ret, { np:=25,n:=1,gn:=3,next:=5,slots:=[(0,.nd 0)],objs:=[(4,.cells [.nd 1,.nd 2,.nd 3,.nd 4,.nd 5,.nd 6,.nd 7,.nd 8,.nd 9,.nd 10,.nd 11,.nd 12,.nd 13,.nd 14,.nd 15,.nd 16,.nd 17,.nd 18,.nd 19,.nd 20,.nd 21,.nd 22,.nd 23,.nd 24] 47 true false)],ka:=1,al:=[none,some 0,some 1,some 2,some 3,some 4,some 5,some 6,some 7,some 8,some 9,some 10,some 11,some 12,some 13,some 14,some 15,some 16,some 17,some 18,some 19,some 20,some 21,some 22,some 23] })]⟩
def Kq:aW:=⟨45, { np:=24,n:=33,gn:=3,next:=5,slots:=[(0,.cO 190 (.p 4 21))],objs:=[(4,.cells [.nd 0,.nd 1,.nd 2,.nd 3,.nd 4,.nd 5,.nd 6,.nd 7,.nd 8,.nd 9,.nd 10,.nd 11,.nd 12,.nd 13,.nd 14,.nd 15,.nd 16,.nd 17,.nd 18,.nd 19,.nd 20,.nd 21,.nd 22,.nd 23] 47 true false)],ka:=1 },
 [(.ret, { np:=25,n:=1,gn:=3,next:=5,slots:=[(0,.nd 0)],objs:=[(4,.cells [.nd 1,.nd 2,.nd 3,.nd 4,.nd 5,.nd 6,.nd 7,.nd 8,.nd 9,.nd 10,.nd 11,.nd 12,.nd 13,.nd 14,.nd 15,.nd 16,.nd 17,.nd 18,.nd 19,.nd 20,.nd 21,.nd 22,.nd 23,.nd 24] 47 true false)],ka:=1,al:=[none,some 0,some 1,some 2,some 3,some 4,some 5,some 6,some 7,some 8,some 9,some 10,some 11,some 12,some 13,some 14,some 15,some 16,some 17,some 18,some 19,some 20,some 21,some 22,some 23] })]⟩
def s44:aW:=⟨44, { np:=24,n:=33,gn:=3,next:=5,slots:=[(0,.cO 189 (.p 4 20))],objs:=[(4,.cells [.nd 0,.nd 1,.nd 2,.nd 3,.nd 4,.nd 5,.nd 6,.nd 7,.nd 8,.nd 9,.nd 10,.nd 11,.nd 12,.nd 13,.nd 14,.nd 15,.nd 16,.nd 17,.nd 18,.nd 19,.nd 20,.nd 21,.nd 22,.nd 23] 47 true false)],ka:=1 },
 [(.ret, { np:=25,n:=1,gn:=3,next:=5,slots:=[(0,.nd 0)],objs:=[(4,.cells [.nd 1,.nd 2,.nd 3,.nd 4,.nd 5,.nd 6,.nd 7,.nd 8,.nd 9,.nd 10,.nd 11,.nd 12,.nd 13,.nd 14,.nd 15,.nd 16,.nd 17,.nd 18,.nd 19,.nd 20,.nd 21,.nd 22,.nd 23,.nd 24] 47 true false)],ka:=1,al:=[none,some 0,some 1,some 2,some 3,some 4,some 5,some 6,some 7,some 8,some 9,some 10,some 11,some 12,some 13,some 14,some 15,some 16,some 17,some 18,some 19,some 20,some 21,some 22,some 23] })]⟩
def s43:aW:=⟨43, { np:=24,n:=33,gn:=3,next:=5,slots:=[(0,.cO 189 (.p 4 19))],objs:=[(4,.cells [.nd 0,.nd 1,.nd 2,.nd 3,.nd 4,.nd 5,.nd 6,.nd 7,.nd 8,.nd 9,.nd 10,.nd 11,.nd 12,.nd 13,.nd 14,.nd 15,.nd 16,.nd 17,.nd 18,.nd 19,.nd 20,.nd 21,.nd 22,.nd 23] 47 true false)],ka:=1 },
 [(.ret, { np:=25,n:=1,gn:=3,next:=5,slots:=[(0,.nd 0)],objs:=[(4,.cells [.nd 1,.nd 2,.nd 3,.nd 4,.nd 5,.nd 6,.nd 7,.nd 8,.nd 9,.nd 10,.nd 11,.nd 12,.nd 13,.nd 14,.nd 15,.nd 16,.nd 17,.nd 18,.nd 19,.nd 20,.nd 21,.nd 22,.nd 23,.nd 24] 47 true false)],ka:=1,al:=[none,some 0,some 1,some 2,some 3,some 4,some 5,some 6,some 7,some 8,some 9,some 10,some 11,some 12,some 13,some 14,some 15,some 16,some 17,some 18,some 19,some 20,some 21,some 22,some 23] })]⟩
def Ko:aW:=⟨39, { np:=24,n:=33,gn:=3,next:=5,slots:=[(0,.cO 189 (.p 4 18))],objs:=[(4,.cells [.nd 0,.nd 1,.nd 2,.nd 3,.nd 4,.nd 5,.nd 6,.nd 7,.nd 8,.nd 9,.nd 10,.nd 11,.nd 12,.nd 13,.nd 14,.nd 15,.nd 16,.nd 17,.nd 18,.nd 19,.nd 20,.nd 21,.nd 22,.nd 23] 47 true false)],ka:=1 },
 [(.ret, { np:=25,n:=1,gn:=3,next:=5,slots:=[(0,.nd 0)],objs:=[(4,.cells [.nd 1,.nd 2,.nd 3,.nd 4,.nd 5,.nd 6,.nd 7,.nd 8,.nd 9,.nd 10,.nd 11,.nd 12,.nd 13,.nd 14,.nd 15,.nd 16,.nd 17,.nd 18,.nd 19,.nd 20,.nd 21,.nd 22,.nd 23,.nd 24] 47 true false)],ka:=1,al:=[none,some 0,some 1,some 2,some 3,some 4,some 5,some 6,some 7,some 8,some 9,some 10,some 11,some 12,some 13,some 14,some 15,some 16,some 17,some 18,some 19,some 20,some 21,some 22,some 23] })]⟩
def J9:aW:=⟨38, { np:=24,n:=33,gn:=3,next:=5,slots:=[(0,.cO 187 (.p 4 17))],objs:=[(4,.cells [.nd 0,.nd 1,.nd 2,.nd 3,.nd 4,.nd 5,.nd 6,.nd 7,.nd 8,.nd 9,.nd 10,.nd 11,.nd 12,.nd 13,.nd 14,.nd 15,.nd 16,.nd 17,.nd 18,.nd 19,.nd 20,.nd 21,.nd 22,.nd 23] 47 true false)],ka:=1 },
 [(.ret, { np:=24,n:=1,gn:=3,next:=5,slots:=[(0,.i .i64 0)],objs:=[(4,.cells [.nd 0,.nd 1,.nd 2,.nd 3,.nd 4,.nd 5,.nd 6,.nd 7,.nd 8,.nd 9,.nd 10,.nd 11,.nd 12,.nd 13,.nd 14,.nd 15,.nd 16,.nd 17,.nd 18,.nd 19,.nd 20,.nd 21,.nd 22,.nd 23] 47 true false)],ka:=1,al:=[some 0,some 1,some 2,some 3,some 4,some 5,some 6,some 7,some 8,some 9,some 10,some 11,some 12,some 13,some 14,some 15,some 16,some 17,some 18,some 19,some 20,some 21,some 22,some 23] })]⟩
def J8:aW:=⟨37, { np:=24,n:=33,gn:=3,next:=5,slots:=[(0,.cO 188 (.p 4 16))],objs:=[(4,.cells [.nd 0,.nd 1,.nd 2,.nd 3,.nd 4,.nd 5,.nd 6,.nd 7,.nd 8,.nd 9,.nd 10,.nd 11,.nd 12,.nd 13,.nd 14,.nd 15,.nd 16,.nd 17,.nd 18,.nd 19,.nd 20,.nd 21,.nd 22,.nd 23] 47 true false)],ka:=1 },
 [(.ret, { np:=24,n:=1,gn:=3,next:=5,slots:=[(0,.i .i64 0)],objs:=[(4,.cells [.nd 0,.nd 1,.nd 2,.nd 3,.nd 4,.nd 5,.nd 6,.nd 7,.nd 8,.nd 9,.nd 10,.nd 11,.nd 12,.nd 13,.nd 14,.nd 15,.nd 16,.nd 17,.nd 18,.nd 19,.nd 20,.nd 21,.nd 22,.nd 23] 47 true false)],ka:=1,al:=[some 0,some 1,some 2,some 3,some 4,some 5,some 6,some 7,some 8,some 9,some 10,some 11,some 12,some 13,some 14,some 15,some 16,some 17,some 18,some 19,some 20,some 21,some 22,some 23] })]⟩
def s20:aW:=⟨20, { np:=28,n:=97,gn:=3,next:=5,slots:=[(0,.p 4 0),(1,.agg [.nd 0,.nd 1,.nd 2,.nd 3,.nd 4,.nd 5,.nd 6,.nd 7,.nd 8,.nd 9,.nd 10,.nd 11,.nd 12,.nd 13,.nd 14,.nd 15,.nd 16,.nd 17,.nd 18,.nd 19,.nd 20,.nd 21,.nd 22,.nd 23])],objs:=[(4,.cells [.nd 24,.nd 25,.nd 26,.nd 27] 87 true false)],ka:=1 },
 [(.ret, { np:=9,n:=2,gn:=3,next:=5,slots:=[(0,.agg [.nd 0,.i .u64 0,.i .u64 0,.i .u64 0,.i .u64 0,.i .u64 0,.i .u64 0,.i .u64 0,.i .u64 0,.i .u64 0,.nd 1,.i .u64 0,.i .u64 0,.i .u64 0,.nd 2,.nd 3,.i .i64 0,.b false,.s [],.s [],.s [],.cZ,.cZ,.cZ]),(1,.nd 4)],objs:=[(4,.cells [.nd 5,.nd 6,.nd 7,.nd 8] 87 true false)],ka:=1,al:=[none,none,none,none,none,some 24,none,none,none] })]⟩
def s16:aW:=⟨16, { np:=4,n:=20,gn:=3,next:=5,slots:=[(0,.p 4 0)],objs:=[(4,.cells [.nd 0,.nd 1,.nd 2,.nd 3] 87 true false)],ka:=1 },
 [(.ret, { np:=6,n:=1,gn:=3,next:=6,slots:=[(0,.p 5 0)],objs:=[(4,.cells [.nd 0,.nd 1,.nd 2,.nd 3] 87 true false),(5,.cells [.nd 0,.nd 1,.nd 4,.nd 5] 87 true false)],ka:=1,al:=[some 0,some 1,some 2,some 3,none,none] })]⟩
abbrev c160:aI:=fun gs out=>aG Tryz.prog aF 26 [] [.ag 2] gs out
abbrev c109:aI:=fun gs out=>aG Tryz.prog aF 119 [] [.sc] gs out
abbrev c19:aI:=fun gs out=>aG Tryz.prog aF 107 [] [.sc] gs out
abbrev Vo:aI:=fun gs out=>aG Tryz.prog aF 127 [] [.sc] gs out
abbrev c76:aI:=fun gs out=>aG Tryz.prog aF 72 [] [.sc] gs out
abbrev c75:aI:=fun gs out=>aG Tryz.prog aF 33 [] [.sc] gs out
abbrev Wv:aI:=fun gs out=>aG Tryz.prog aF 54 [] [.sc] gs out
abbrev UM:aI:=fun gs out=>aG Tryz.prog aF 111 [] [.sc] gs out
abbrev Vw:aI:=fun gs out=>aG Tryz.prog aF 155 [] [.sc] gs out
abbrev UR:aI:=fun gs out=>aG Tryz.prog aF 142 [] [.sc] gs out
abbrev c154:aI:=fun gs out=>aG Tryz.prog aF 56 [] [.sc] gs out
abbrev c46:aI:=fun gs out=>aG Tryz.prog aF 99 [] [.sc] gs out
abbrev UH:aI:=fun gs out=>aG Tryz.prog aF 83 [] [.sc] gs out
abbrev U4:aI:=fun gs out=>aG Tryz.prog aF 50 [] [.ag 2,.sc] gs out
abbrev UQ:aI:=fun gs out=>aG Tryz.prog aF 114 [] [.sc] gs out
abbrev c127:aI:=fun gs out=>aG Tryz.prog aF 160 [] [.sc] gs out
abbrev c107:aI:=fun gs out=>aG Tryz.prog aF 81 [] [.sc] gs out
abbrev Vg:aI:=fun gs out=>aG Tryz.prog aF 45 [] [.sc] gs out
abbrev c7:aI:=fun gs out=>aG Tryz.prog aF 67 [] [.sc] gs out
abbrev c91:aI:=fun gs out=>aG Tryz.prog aF 53 [] [.sc] gs out
abbrev UL:aI:=fun gs out=>aG Tryz.prog aF 80 [] [.sc] gs out
abbrev Vm:aI:=fun gs out=>aG Tryz.prog aF 124 [] [.sc] gs out
abbrev V9:aI:=fun gs out=>aG Tryz.prog aF 77 [] [.sc,.sc] gs out
abbrev c8:aI:=fun gs out=>aG Tryz.prog aF 103 [] [.sc] gs out
abbrev c32:aI:=fun gs out=>aG Tryz.prog aF 129 [] [.sc] gs out
abbrev c70:aI:=fun gs out=>aG Tryz.prog aF 100 [] [.sc] gs out
abbrev c3:aI:=fun gs out=>aG Tryz.prog aF 46 [] [.sc] gs out
abbrev VD:aI:=fun gs out=>aG Tryz.prog aF 68 [] [.sc] gs out
abbrev c87:aI:=fun gs out=>aG Tryz.prog aF 51 [] [.sc] gs out
abbrev V7:aI:=fun gs out=>aG Tryz.prog aF 21 [] [.ag 24] gs out
abbrev Wh:aI:=fun gs out=>aG Tryz.prog aF 23 [] [.ag 24] gs out
abbrev c29:aI:=fun gs out=>aG Tryz.prog aF 126 [] [.sc] gs out
abbrev c93:aI:=fun gs out=>aG Tryz.prog aF 22 [] [.ag 4,.ag 24,.sc] gs out
abbrev c9:aI:=fun gs out=>aG Tryz.prog aF 139 [] [.sc] gs out
abbrev c164:aI:=fun gs out=>aG Tryz.prog aF 74 [none,none,some 75] [.sc] gs out
abbrev c141:aI:=fun gs out=>aG Tryz.prog aF 86 [] [.sc] gs out
abbrev Wj:aI:=fun gs out=>aG Tryz.prog aF 52 [] [.sc] gs out
abbrev c14:aI:=fun gs out=>aG Tryz.prog aF 47 [] [.sc] gs out
abbrev Wq:aI:=fun gs out=>aG Tryz.prog aF 78 [] [.sc] gs out
abbrev U6:aI:=fun gs out=>aG Tryz.prog aF 117 [] [.sc] gs out
abbrev c119:aI:=fun gs out=>aG Tryz.prog aF 113 [] [.sc] gs out
abbrev VW:aI:=fun gs out=>aG Tryz.prog aF 65 [] [.sc] gs out
abbrev UC:aI:=fun gs out=>aG Tryz.prog aF 91 [] [.sc] gs out
abbrev UO:aI:=fun gs out=>aG Tryz.prog aF 141 [] [.sc] gs out
abbrev c13:aI:=fun gs out=>aG Tryz.prog aF 104 [] [.sc] gs out
abbrev Wp:aI:=fun gs out=>aG Tryz.prog aF 49 [] [.sc] gs out
abbrev c157:aI:=fun gs out=>aG Tryz.prog aF 57 [] [.sc] gs out
abbrev c2:aI:=fun gs out=>aG Tryz.prog aF 18 [] [.sc] gs out
abbrev U5:aI:=fun gs out=>aG Tryz.prog aF 87 [] [.sc,.sc] gs out
abbrev Uw:aI:=fun gs out=>aG Tryz.prog aF 79 [] [.sc] gs out
abbrev c17:aI:=fun gs out=>aG Tryz.prog aF 35 [] [.ag 2] gs out
abbrev V6:aI:=fun gs out=>aG Tryz.prog aF 109 [] [.sc,.sc] gs out
abbrev c40:aI:=fun gs out=>aG Tryz.prog aF 98 [] [.sc] gs out
abbrev c167:aI:=fun gs out=>aG Tryz.prog aF 76 [] [.sc] gs out
abbrev c28:aI:=fun gs out=>aG Tryz.prog aF 125 [] [.sc] gs out
abbrev c5:aI:=fun gs out=>aG Tryz.prog aF 31 [] [.sc] gs out
abbrev V5:aI:=fun gs out=>aG Tryz.prog aF 71 [] [.sc] gs out
abbrev c116:aI:=fun gs out=>aG Tryz.prog aF 115 [] [.sc] gs out
abbrev c152:aI:=fun gs out=>aG Tryz.prog aF 24 [] [.sc] gs out
abbrev Uy:aI:=fun gs out=>aG Tryz.prog aF 88 [] [.sc] gs out
abbrev Ux:aI:=fun gs out=>aG Tryz.prog aF 55 [] [.sc,.sc] gs out
abbrev c23:aI:=fun gs out=>aG Tryz.prog aF 59 [] [.sc] gs out
abbrev U2:aI:=fun gs out=>aG Tryz.prog aF 85 [] [.sc] gs out
abbrev V8:aI:=fun gs out=>aG Tryz.prog aF 48 [] [.sc] gs out
abbrev VE:aI:=fun gs out=>aG Tryz.prog aF 106 [] [.sc] gs out
abbrev U7:aI:=fun gs out=>aG Tryz.prog aF 118 [] [.sc,.sc] gs out
abbrev Vu:aI:=fun gs out=>aG Tryz.prog aF 132 [] [.sc] gs out
abbrev UY:aI:=fun gs out=>aG Tryz.prog aF 143 [] [.sc] gs out
abbrev c31:aI:=fun gs out=>aG Tryz.prog aF 128 [] [.sc] gs out
abbrev V3:aI:=fun gs out=>aG Tryz.prog aF 73 [] [.sc,.sc] gs out
abbrev Vf:aI:=fun gs out=>aG Tryz.prog aF 25 [] [.sc] gs out
abbrev VB:aI:=fun gs out=>aG Tryz.prog aF 134 [] [.sc] gs out
abbrev VZ:aI:=fun gs out=>aG Tryz.prog aF 41 [] [.ag 2,.sc] gs out
abbrev c34:aI:=fun gs out=>aG Tryz.prog aF 60 [] [.sc] gs out
abbrev UZ:aI:=fun gs out=>aG Tryz.prog aF 161 [] [.sc] gs out
abbrev c24:aI:=fun gs out=>aG Tryz.prog aF 122 [] [.sc] gs out
abbrev UG:aI:=fun gs out=>aG Tryz.prog aF 92 [] [.sc,.sc] gs out
abbrev c21:aI:=fun gs out=>aG Tryz.prog aF 27 [] [.sc] gs out
abbrev Ws:aI:=fun gs out=>aG Tryz.prog aF 110 [] [.sc] gs out
abbrev c130:aI:=fun gs out=>aG Tryz.prog aF 121 [] [.sc] gs out
abbrev Vl:aI:=fun gs out=>aG Tryz.prog aF 123 [] [.sc] gs out
abbrev UF:aI:=fun gs out=>aG Tryz.prog aF 120 [] [.sc] gs out
abbrev UA:aI:=fun gs out=>aG Tryz.prog aF 89 [] [.sc] gs out
abbrev c80:aI:=fun gs out=>aG Tryz.prog aF 159 [] [.sc] gs out
abbrev Vk:aI:=fun gs out=>aG Tryz.prog aF 58 [] [.sc] gs out
abbrev Vj:aI:=fun gs out=>aG Tryz.prog aF 75 [] [.sc] gs out
abbrev c0:aI:=fun gs out=>aG Tryz.prog aF 4 [] [.sc] gs out
abbrev UW:aI:=fun gs out=>aG Tryz.prog aF 116 [] [.sc] gs out
abbrev c117:aI:=fun gs out=>aG Tryz.prog aF 82 [] [.sc] gs out
abbrev c162:aI:=fun gs out=>dn Tryz.prog aF 44 [] JZ.pre JZ.posts gs out
abbrev Va:aI:=fun gs out=>dn Tryz.prog aF 14 [] JR.pre JR.posts gs out
abbrev VU:aI:=fun gs out=>dn Tryz.prog aF 63 [] s68.pre s68.posts gs out
abbrev VT:aI:=fun gs out=>dn Tryz.prog aF 63 [] KJ.pre KJ.posts gs out
abbrev VQ:aI:=fun gs out=>dn Tryz.prog aF 63 [] KI.pre KI.posts gs out
abbrev VP:aI:=fun gs out=>dn Tryz.prog aF 63 [] KH.pre KH.posts gs out
abbrev c64:aI:=fun gs out=>dn Tryz.prog aF 63 [] KG.pre KG.posts gs out
abbrev VO:aI:=fun gs out=>dn Tryz.prog aF 63 [] KF.pre KF.posts gs out
abbrev VN:aI:=fun gs out=>dn Tryz.prog aF 63 [] KE.pre KE.posts gs out
abbrev VL:aI:=fun gs out=>dn Tryz.prog aF 63 [] KD.pre KD.posts gs out
abbrev VK:aI:=fun gs out=>dn Tryz.prog aF 63 [] KC.pre KC.posts gs out
abbrev c59:aI:=fun gs out=>dn Tryz.prog aF 63 [] KA.pre KA.posts gs out
abbrev VJ:aI:=fun gs out=>dn Tryz.prog aF 63 [] Kz.pre Kz.posts gs out
abbrev VI:aI:=fun gs out=>dn Tryz.prog aF 63 [] Ky.pre Ky.posts gs out
abbrev VH:aI:=fun gs out=>dn Tryz.prog aF 63 [] Kw.pre Kw.posts gs out
abbrev VG:aI:=fun gs out=>dn Tryz.prog aF 63 [] Kv.pre Kv.posts gs out
abbrev VF:aI:=fun gs out=>dn Tryz.prog aF 63 [] Ku.pre Ku.posts gs out
abbrev c53:aI:=fun gs out=>dn Tryz.prog aF 63 [] s53.pre s53.posts gs out
abbrev c49:aI:=fun gs out=>dn Tryz.prog aF 63 [] s49.pre s49.posts gs out
abbrev Vz:aI:=fun gs out=>dn Tryz.prog aF 63 [] Kq.pre Kq.posts gs out
abbrev Vy:aI:=fun gs out=>dn Tryz.prog aF 63 [] s44.pre s44.posts gs out
abbrev Vx:aI:=fun gs out=>dn Tryz.prog aF 63 [] s43.pre s43.posts gs out
abbrev Vt:aI:=fun gs out=>dn Tryz.prog aF 63 [] Ko.pre Ko.posts gs out
abbrev Vs:aI:=fun gs out=>dn Tryz.prog aF 63 [] J9.pre J9.posts gs out
abbrev c37:aI:=fun gs out=>dn Tryz.prog aF 63 [] J8.pre J8.posts gs out
abbrev c20:aI:=fun gs out=>dn Tryz.prog aF 12 [] s20.pre s20.posts gs out
abbrev c16:aI:=fun gs out=>dn Tryz.prog aF 20 [] s16.pre s16.posts gs out
abbrev c25:aI:=fun gs out=>aP Tryz.prog aF b25 J6.pre J6.posts gs out
abbrev c1:aI:=fun gs out=>aP Tryz.prog aF b1 s1.pre s1.posts gs out
abbrev Uz:aI:=fun gs out=>aP Tryz.prog aF Na Ju.pre Ju.posts gs out
abbrev U8:aI:=fun gs out=>aP Tryz.prog aF Nc JO.pre JO.posts gs out
abbrev UU:aI:=fun gs out=>aP Tryz.prog aF Tq JD.pre JD.posts gs out
abbrev c72:aI:=fun gs out=>aP Tryz.prog aF Nj s72.pre s72.posts gs out
abbrev c51:aI:=fun gs out=>aP Tryz.prog aF TU Kt.pre Kt.posts gs out
abbrev U9:aI:=fun gs out=>aP Tryz.prog aF TI JQ.pre JQ.posts gs out
abbrev c156:aI:=fun gs out=>aP Tryz.prog aF TK JW.pre JW.posts gs out
abbrev UN:aI:=fun gs out=>aP Tryz.prog aF Tj JB.pre JB.posts gs out
abbrev c138:aI:=fun gs out=>aP Tryz.prog aF Nb JH.pre JH.posts gs out
abbrev c105:aI:=fun gs out=>aP Tryz.prog aF S9 Jv.pre Jv.posts gs out
abbrev Wx:aI:=fun gs out=>aP Tryz.prog aF Nk KU.pre KU.posts gs out
abbrev c168:aI:=fun gs out=>aP Tryz.prog aF TP J4.pre J4.posts gs out
abbrev V4:aI:=fun gs out=>aP Tryz.prog aF TY s78.pre s78.posts gs out
abbrev VY:aI:=fun gs out=>aP Tryz.prog aF TW KN.pre KN.posts gs out
abbrev c145:aI:=fun gs out=>aP Tryz.prog aF TD JK.pre JK.posts gs out
abbrev c15:aI:=fun gs out=>aP Tryz.prog aF b15 s15.pre s15.posts gs out
abbrev c131:aI:=fun gs out=>aP Tryz.prog aF Tt JE.pre JE.posts gs out
abbrev Vp:aI:=fun gs out=>aP Tryz.prog aF TQ J7.pre J7.posts gs out
abbrev VA:aI:=fun gs out=>aP Tryz.prog aF TS Kr.pre Kr.posts gs out
abbrev UJ:aI:=fun gs out=>aP Tryz.prog aF Tf Jz.pre Jz.posts gs out
abbrev c18:aI:=fun gs out=>aP Tryz.prog aF b18 J5.pre J5.posts gs out
abbrev Vd:aI:=fun gs out=>aP Tryz.prog aF Nh JV.pre JV.posts gs out
abbrev UD:aI:=fun gs out=>aP Tryz.prog aF Tc Jw.pre Jw.posts gs out
abbrev UE:aI:=fun gs out=>aP Tryz.prog aF Td Jy.pre Jy.posts gs out
abbrev c11:aI:=fun gs out=>aP Tryz.prog aF b11 s11.pre s11.posts gs out
abbrev Ve:aI:=fun gs out=>aP Tryz.prog aF TL JX.pre JX.posts gs out
abbrev c143:aI:=fun gs out=>aP Tryz.prog aF TB JJ.pre JJ.posts gs out
abbrev UK:aI:=fun gs out=>aP Tryz.prog aF Ti JA.pre JA.posts gs out
abbrev c10:aI:=fun gs out=>aP Tryz.prog aF b10 s10.pre s10.posts gs out
abbrev Vh:aI:=fun gs out=>aP Tryz.prog aF TN J3.pre J3.posts gs out
abbrev Wu:aI:=fun gs out=>aP Tryz.prog aF Ue KT.pre KT.posts gs out
abbrev Vq:aI:=fun gs out=>aP Tryz.prog aF G5 xZ.pre xZ.posts gs out
abbrev Vr:aI:=fun gs out=>aP Tryz.prog aF G6 s36.pre s36.posts gs out
abbrev Uu:aI:=fun gs out=>aP Tryz.prog aF SY Jt.pre Jt.posts gs out
abbrev c139:aI:=fun gs out=>aP Tryz.prog aF TA JI.pre JI.posts gs out
abbrev VX:aI:=fun gs out=>aP Tryz.prog aF TV KL.pre KL.posts gs out
abbrev c159:aI:=fun gs out=>aP Tryz.prog aF TM JY.pre JY.posts gs out
abbrev Wl:aI:=fun gs out=>aP Tryz.prog aF Uc KQ.pre KQ.posts gs out
abbrev c4:aI:=fun gs out=>aP Tryz.prog aF b4 s4.pre s4.posts gs out
abbrev c148:aI:=fun gs out=>aP Tryz.prog aF TG JM.pre JM.posts gs out
abbrev Wi:aI:=fun gs out=>aP Tryz.prog aF Ub KP.pre KP.posts gs out
abbrev c146:aI:=fun gs out=>aP Tryz.prog aF TF JL.pre JL.posts gs out
abbrev U0:aI:=fun gs out=>aP Tryz.prog aF Tv JF.pre JF.posts gs out
abbrev Vb:aI:=fun gs out=>aP Tryz.prog aF TJ JU.pre JU.posts gs out
abbrev Wn:aI:=fun gs out=>aP Tryz.prog aF Ud KR.pre KR.posts gs out
abbrev c12:aI:=fun gs out=>aP Tryz.prog aF b12 s12.pre s12.posts gs out
abbrev c124:aI:=fun gs out=>aP Tryz.prog aF Tn JC.pre JC.posts gs out
abbrev U3:aI:=fun gs out=>aP Tryz.prog aF GZ xY.pre xY.posts gs out
abbrev c85:aI:=fun gs out=>aP Tryz.prog aF Ua KO.pre KO.posts gs out
abbrev U1:aI:=fun gs out=>aP Tryz.prog aF Tz JG.pre JG.posts gs out
abbrev c6:aI:=fun gs out=>aP Tryz.prog aF b6 s6.pre s6.posts gs out
noncomputable def Cs:List aI:=[c0,c1,c2,c3,c4,c5,c6,c7,c8,c9,c10,c11,c12,c13,c14,c15,c16,c17,c18,c19,c20,c21,Vk,c23,c24,c25,Vl,Vm,c28,c29,Vo,c31,c32,Vp,c34,Vq,Vr,c37,Vs,Vt,c40,Vu,Vw,Vx,Vy,Vz,c46,VA,VB,c49,VD,c51,VE,c53,VF,VG,VH,VI,VJ,c59,VK,VL,VN,VO,c64,VP,VQ,VT,VU,VW,c70,VX,c72,VY,VZ,c75,c76,V3,V4,V5,c80,V6,V7,V8,V9,c85,Wh,c87,Wi,Wj,Wl,c91,Wn,c93,Wp,Wq,Ws,Wu,Wv,Wx,Uu,Uw,Ux,Uy,Uz,c105,UA,c107,UC,c109,UD,UE,UF,UG,UH,UJ,c116,c117,UK,c119,UL,UM,UN,UO,c124,UQ,UR,c127,UU,UW,c130,c131,UY,UZ,U0,U1,U2,U3,c138,c139,U4,c141,U5,c143,U6,c145,c146,U7,c148,U8,U9,Va,c152,Vb,c154,Vd,c156,c157,Ve,c159,c160,Vf,c162,Vg,c164,Vh,Vj,c167,c168]
noncomputable abbrev C:=Gj Cs
noncomputable def pl:nP:=PL.cons 20 (fun N=>@gY N Tryz.prog [] s16) (PL.cons 12 (fun N=>@gY N Tryz.prog [] s20) (PL.cons 63 (fun N=>jo (jo (jo (jo (jo (jo (jo (jo (jo (jo (jo (jo (jo (jo (jo (jo (jo (jo (jo (jo (jo (jo (@gY N Tryz.prog [] s68) (@gY N Tryz.prog [] KJ)) (@gY N Tryz.prog [] KI)) (@gY N Tryz.prog [] KH)) (@gY N Tryz.prog [] KG)) (@gY N Tryz.prog [] KF)) (@gY N Tryz.prog [] KE)) (@gY N Tryz.prog [] KD)) (@gY N Tryz.prog [] KC)) (@gY N Tryz.prog [] KA)) (@gY N Tryz.prog [] Kz)) (@gY N Tryz.prog [] Ky)) (@gY N Tryz.prog [] Kw)) (@gY N Tryz.prog [] Kv)) (@gY N Tryz.prog [] Ku)) (@gY N Tryz.prog [] s53)) (@gY N Tryz.prog [] s49)) (@gY N Tryz.prog [] Kq)) (@gY N Tryz.prog [] s44)) (@gY N Tryz.prog [] s43)) (@gY N Tryz.prog [] Ko)) (@gY N Tryz.prog [] J9)) (@gY N Tryz.prog [] J8)) (PL.cons 14 (fun N=>@gY N Tryz.prog [] JR) (PL.cons 44 (fun N=>@gY N Tryz.prog [] JZ) (PL.cons 82 (fun N=>@aZ N Tryz.prog 117 [] [.sc]) (PL.cons 116 (fun N=>@aZ N Tryz.prog 129 [] [.sc]) (PL.cons 4 (fun N=>@aZ N Tryz.prog 0 [] [.sc]) (PL.cons 75 (fun N=>@aZ N Tryz.prog 166 [] [.sc]) (PL.cons 58 (fun N=>@aZ N Tryz.prog 22 [] [.sc]) (PL.cons 159 (fun N=>@aZ N Tryz.prog 80 [] [.sc]) (PL.cons 89 (fun N=>@aZ N Tryz.prog 106 [] [.sc]) (PL.cons 120 (fun N=>@aZ N Tryz.prog 112 [] [.sc]) (PL.cons 123 (fun N=>@aZ N Tryz.prog 26 [] [.sc]) (PL.cons 121 (fun N=>@aZ N Tryz.prog 130 [] [.sc]) (PL.cons 110 (fun N=>@aZ N Tryz.prog 96 [] [.sc]) (PL.cons 27 (fun N=>@aZ N Tryz.prog 21 [] [.sc]) (PL.cons 92 (fun N=>@aZ N Tryz.prog 113 [] [.sc,.sc]) (PL.cons 122 (fun N=>@aZ N Tryz.prog 24 [] [.sc]) (PL.cons 161 (fun N=>@aZ N Tryz.prog 133 [] [.sc]) (PL.cons 60 (fun N=>@aZ N Tryz.prog 34 [] [.sc]) (PL.cons 41 (fun N=>@aZ N Tryz.prog 74 [] [.ag 2,.sc]) (PL.cons 134 (fun N=>@aZ N Tryz.prog 48 [] [.sc]) (PL.cons 25 (fun N=>@aZ N Tryz.prog 161 [] [.sc]) (PL.cons 73 (fun N=>@aZ N Tryz.prog 77 [] [.sc,.sc]) (PL.cons 128 (fun N=>@aZ N Tryz.prog 31 [] [.sc]) (PL.cons 143 (fun N=>@aZ N Tryz.prog 132 [] [.sc]) (PL.cons 132 (fun N=>@aZ N Tryz.prog 41 [] [.sc]) (PL.cons 118 (fun N=>@aZ N Tryz.prog 147 [] [.sc,.sc]) (PL.cons 106 (fun N=>@aZ N Tryz.prog 52 [] [.sc]) (PL.cons 48 (fun N=>@aZ N Tryz.prog 83 [] [.sc]) (PL.cons 85 (fun N=>@aZ N Tryz.prog 136 [] [.sc]) (PL.cons 59 (fun N=>@aZ N Tryz.prog 23 [] [.sc]) (PL.cons 55 (fun N=>@aZ N Tryz.prog 102 [] [.sc,.sc]) (PL.cons 88 (fun N=>@aZ N Tryz.prog 103 [] [.sc]) (PL.cons 24 (fun N=>@aZ N Tryz.prog 152 [] [.sc]) (PL.cons 115 (fun N=>@aZ N Tryz.prog 116 [] [.sc]) (PL.cons 71 (fun N=>@aZ N Tryz.prog 79 [] [.sc]) (PL.cons 31 (fun N=>@aZ N Tryz.prog 5 [] [.sc]) (PL.cons 125 (fun N=>@aZ N Tryz.prog 28 [] [.sc]) (PL.cons 76 (fun N=>@aZ N Tryz.prog 167 [] [.sc]) (PL.cons 98 (fun N=>@aZ N Tryz.prog 40 [] [.sc]) (PL.cons 109 (fun N=>@aZ N Tryz.prog 81 [] [.sc,.sc]) (PL.cons 35 (fun N=>@aZ N Tryz.prog 17 [] [.ag 2]) (PL.cons 79 (fun N=>@aZ N Tryz.prog 101 [] [.sc]) (PL.cons 87 (fun N=>@aZ N Tryz.prog 142 [] [.sc,.sc]) (PL.cons 18 (fun N=>@aZ N Tryz.prog 2 [] [.sc]) (PL.cons 57 (fun N=>@aZ N Tryz.prog 157 [] [.sc]) (PL.cons 49 (fun N=>@aZ N Tryz.prog 94 [] [.sc]) (PL.cons 104 (fun N=>@aZ N Tryz.prog 13 [] [.sc]) (PL.cons 141 (fun N=>@aZ N Tryz.prog 123 [] [.sc]) (PL.cons 91 (fun N=>@aZ N Tryz.prog 108 [] [.sc]) (PL.cons 65 (fun N=>@aZ N Tryz.prog 69 [] [.sc]) (PL.cons 113 (fun N=>@aZ N Tryz.prog 119 [] [.sc]) (PL.cons 117 (fun N=>@aZ N Tryz.prog 144 [] [.sc]) (PL.cons 78 (fun N=>@aZ N Tryz.prog 95 [] [.sc]) (PL.cons 47 (fun N=>@aZ N Tryz.prog 14 [] [.sc]) (PL.cons 52 (fun N=>@aZ N Tryz.prog 89 [] [.sc]) (PL.cons 86 (fun N=>@aZ N Tryz.prog 141 [] [.sc]) (PL.cons 74 (fun N=>@aZ N Tryz.prog 164 [none,none,some 75] [.sc]) (PL.cons 139 (fun N=>@aZ N Tryz.prog 9 [] [.sc]) (PL.cons 22 (fun N=>@aZ N Tryz.prog 93 [] [.ag 4,.ag 24,.sc]) (PL.cons 126 (fun N=>@aZ N Tryz.prog 29 [] [.sc]) (PL.cons 23 (fun N=>@aZ N Tryz.prog 86 [] [.ag 24]) (PL.cons 21 (fun N=>@aZ N Tryz.prog 82 [] [.ag 24]) (PL.cons 51 (fun N=>@aZ N Tryz.prog 87 [] [.sc]) (PL.cons 68 (fun N=>@aZ N Tryz.prog 50 [] [.sc]) (PL.cons 46 (fun N=>@aZ N Tryz.prog 3 [] [.sc]) (PL.cons 100 (fun N=>@aZ N Tryz.prog 70 [] [.sc]) (PL.cons 129 (fun N=>@aZ N Tryz.prog 32 [] [.sc]) (PL.cons 103 (fun N=>@aZ N Tryz.prog 8 [] [.sc]) (PL.cons 77 (fun N=>@aZ N Tryz.prog 84 [] [.sc,.sc]) (PL.cons 124 (fun N=>@aZ N Tryz.prog 27 [] [.sc]) (PL.cons 80 (fun N=>@aZ N Tryz.prog 120 [] [.sc]) (PL.cons 53 (fun N=>@aZ N Tryz.prog 91 [] [.sc]) (PL.cons 67 (fun N=>@aZ N Tryz.prog 7 [] [.sc]) (PL.cons 45 (fun N=>@aZ N Tryz.prog 163 [] [.sc]) (PL.cons 81 (fun N=>@aZ N Tryz.prog 107 [] [.sc]) (PL.cons 160 (fun N=>@aZ N Tryz.prog 127 [] [.sc]) (PL.cons 114 (fun N=>@aZ N Tryz.prog 125 [] [.sc]) (PL.cons 50 (fun N=>@aZ N Tryz.prog 140 [] [.ag 2,.sc]) (PL.cons 83 (fun N=>@aZ N Tryz.prog 114 [] [.sc]) (PL.cons 99 (fun N=>@aZ N Tryz.prog 46 [] [.sc]) (PL.cons 56 (fun N=>@aZ N Tryz.prog 154 [] [.sc]) (PL.cons 142 (fun N=>@aZ N Tryz.prog 126 [] [.sc]) (PL.cons 155 (fun N=>@aZ N Tryz.prog 42 [] [.sc]) (PL.cons 111 (fun N=>@aZ N Tryz.prog 121 [] [.sc]) (PL.cons 54 (fun N=>@aZ N Tryz.prog 98 [] [.sc]) (PL.cons 33 (fun N=>@aZ N Tryz.prog 75 [] [.sc]) (PL.cons 72 (fun N=>@aZ N Tryz.prog 76 [] [.sc]) (PL.cons 127 (fun N=>@aZ N Tryz.prog 30 [] [.sc]) (PL.cons 107 (fun N=>@aZ N Tryz.prog 19 [] [.sc]) (PL.cons 119 (fun N=>@aZ N Tryz.prog 109 [] [.sc]) (PL.cons 26 (fun N=>@aZ N Tryz.prog 160 [] [.ag 2]) (PL.cons 5 (fun _=>zC) (PL.cons 158 (fun _=>Fh) (PL.nil))))))))))))))))))))))))))))))))))))))))))))))))))))))))))))))))))))))))))))))))))))))))))))))))
end J
end Go.Proofs.YtlifdeocdbjalaaGreatDoor
