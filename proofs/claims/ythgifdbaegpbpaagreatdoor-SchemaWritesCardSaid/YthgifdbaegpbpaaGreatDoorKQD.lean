/- The codes, shapes and contracts. -/
import Derived.Test.YthgifdbaegpbpaaGreatDoorKRBase
import Derived.Test.YthgifdbaegpbpaaGreatDoorKQT
import Derived.Test.YthgifdbaegpbpaaGreatDoorAbsPl
import Derived.Test.YthgifdbaegpbpaaGreatDoorAbsTold
import Derived.Test.YthgifdbaegpbpaaGreatDoorAbsTold3
import Derived.Test.YthgifdbaegpbpaaGreatDoorAbsFields
import Derived.Test.YthgifdbaegpbpaaGreatDoorAbsSortF
namespace Go.Proofs.YthgifdbaegpbpaaGreatDoor
open Go Go.aP
set_option maxRecDepth 100000
set_option linter.unusedVariables false
set_option linter.unusedSimpArgs false
namespace Q
def bU:Nat→Nat→List AV
 | _,0=>[]
 | a,n+1=>.nd a::bU (a+1) n
def lV:Nat→Nat→List (Option Nat)
 | _,0=>[]
 | a,n+1=>some a::lV (a+1) n
theorem low:uo aH Tryz.prog.globals.size:=by
 rw [QE]
 refine ⟨fun p hp=>?_,fun p hp=>?_⟩
 all_goals
  simp only [aH,List.mem_cons,List.mem_nil_iff,or_false] at hp
  rcases hp with rfl | rfl
  all_goals first | decide | rfl
noncomputable def agp:Code:=Tryz.f162.body.getD .skip
noncomputable def Yj:Code:=Tryz.f184.body.getD .skip
noncomputable def X7:Code:=Tryz.f108.body.getD .skip
noncomputable def agy:Code:=Tryz.f197.body.getD .skip
noncomputable def Yq:Code:=Tryz.f26.body.getD .skip
noncomputable def Yr:Code:=Tryz.f3.body.getD .skip
noncomputable def X6:Code:=Tryz.f107.body.getD .skip
noncomputable def agj:Code:=Tryz.f137.body.getD .skip
noncomputable def Yp:Code:=Tryz.f239.body.getD .skip
noncomputable def Yh:Code:=Tryz.f170.body.getD .skip
noncomputable def agb:Code:=Tryz.f131.body.getD .skip
noncomputable def agl:Code:=Tryz.f14.body.getD .skip
noncomputable def ags:Code:=Tryz.f165.body.getD .skip
noncomputable def agu:Code:=Tryz.f17.body.getD .skip
noncomputable def Ic:Code:=Tryz.f54.body.getD .skip
noncomputable def X9:Code:=Tryz.f111.body.getD .skip
noncomputable def agz:Code:=Tryz.f208.body.getD .skip
noncomputable def agn:Code:=Tryz.f156.body.getD .skip
noncomputable def Yd:Code:=Tryz.f15.body.getD .skip
noncomputable def Oq:Code:=Tryz.f56.body.getD .skip
noncomputable def agq:Code:=Tryz.f163.body.getD .skip
noncomputable def Yw:Code:=Tryz.f50.body.getD .skip
noncomputable def Yg:Code:=Tryz.f160.body.getD .skip
noncomputable def agt:Code:=Tryz.f169.body.getD .skip
noncomputable def Ym:Code:=Tryz.f20.body.getD .skip
noncomputable def agv:Code:=Tryz.f173.body.getD .skip
noncomputable def Yy:Code:=Tryz.f53.body.getD .skip
noncomputable def Yc:Code:=Tryz.f124.body.getD .skip
noncomputable def agk:Code:=Tryz.f138.body.getD .skip
noncomputable def X5:Code:=Tryz.f103.body.getD .skip
noncomputable def YC:Code:=Tryz.f66.body.getD .skip
noncomputable def X0:Code:=Tryz.f100.body.getD .skip
noncomputable def Yt:Code:=Tryz.f46.body.getD .skip
noncomputable def Yx:Code:=Tryz.f51.body.getD .skip
noncomputable def agA:Code:=Tryz.f21.body.getD .skip
noncomputable def Yn:Code:=Tryz.f23.body.getD .skip
noncomputable def af9:Code:=Tryz.f126.body.getD .skip
noncomputable def Yk:Code:=Tryz.f19.body.getD .skip
noncomputable def agh:Code:=Tryz.f135.body.getD .skip
noncomputable def agi:Code:=Tryz.f136.body.getD .skip
noncomputable def aga:Code:=Tryz.f13.body.getD .skip
noncomputable def agE:Code:=Tryz.f52.body.getD .skip
noncomputable def Yu:Code:=Tryz.f47.body.getD .skip
noncomputable def Yf:Code:=Tryz.f16.body.getD .skip
noncomputable def Ya:Code:=Tryz.f117.body.getD .skip
noncomputable def agI:Code:=Tryz.f65.body.getD .skip
noncomputable def YD:Code:=Tryz.f84.body.getD .skip
noncomputable def X3:Code:=Tryz.f101.body.getD .skip
noncomputable def agr:Code:=Tryz.f164.body.getD .skip
noncomputable def agx:Code:=Tryz.f193.body.getD .skip
noncomputable def afY:Code:=Tryz.f104.body.getD .skip
noncomputable def agD:Code:=Tryz.f49.body.getD .skip
noncomputable def agw:Code:=Tryz.f18.body.getD .skip
noncomputable def Yz:Code:=Tryz.f57.body.getD .skip
noncomputable def agm:Code:=Tryz.f146.body.getD .skip
noncomputable def agC:Code:=Tryz.f32.body.getD .skip
noncomputable def afX:Code:=Tryz.f10.body.getD .skip
noncomputable def agK:Code:=Tryz.f98.body.getD .skip
noncomputable def Yi:Code:=Tryz.f171.body.getD .skip
noncomputable def Yl:Code:=Tryz.f196.body.getD .skip
noncomputable def Ot:Code:=Tryz.f59.body.getD .skip
noncomputable def agF:Code:=Tryz.f55.body.getD .skip
noncomputable def Yv:Code:=Tryz.f48.body.getD .skip
noncomputable def Yo:Code:=Tryz.f233.body.getD .skip
noncomputable def af0:Code:=Tryz.f106.body.getD .skip
noncomputable def af5:Code:=Tryz.f118.body.getD .skip
noncomputable def agc:Code:=Tryz.f132.body.getD .skip
noncomputable def agB:Code:=Tryz.f25.body.getD .skip
noncomputable def af2:Code:=Tryz.f11.body.getD .skip
noncomputable def agf:Code:=Tryz.f134.body.getD .skip
noncomputable def agH:Code:=Tryz.f60.body.getD .skip
noncomputable def Ye:Code:=Tryz.f157.body.getD .skip
noncomputable def YB:Code:=Tryz.f63.body.getD .skip
noncomputable def agd:Code:=Tryz.f133.body.getD .skip
noncomputable def X8:Code:=Tryz.f110.body.getD .skip
noncomputable def af7:Code:=Tryz.f121.body.getD .skip
noncomputable def af8:Code:=Tryz.f123.body.getD .skip
noncomputable def afZ:Code:=Tryz.f105.body.getD .skip
noncomputable def Yb:Code:=Tryz.f120.body.getD .skip
noncomputable def agJ:Code:=Tryz.f89.body.getD .skip
noncomputable def agG:Code:=Tryz.f58.body.getD .skip
noncomputable def YA:Code:=Tryz.f61.body.getD .skip
noncomputable def EG:Code:=Tryz.f44.body.getD .skip
noncomputable def af4:Code:=Tryz.f116.body.getD .skip
noncomputable def af6:Code:=Tryz.f12.body.getD .skip
noncomputable def X4:Code:=Tryz.f102.body.getD .skip
noncomputable def jH:Code:=Tryz.f96.body.getD .skip
noncomputable def UR:Code:=dA Yx [([],0)]
noncomputable def U1:Code:=dA Yc [([],0)]
noncomputable def U2:Code:=dA Yn [([],0)]
noncomputable def UW:Code:=dA Yq [([],0)]
noncomputable def NS:Code:=dA Ic [([],2)]
noncomputable def U9:Code:=dA Oq [([],1)]
noncomputable def UD:Code:=dA Yh [([],0)]
noncomputable def UQ:Code:=dA Yk [([],0)]
noncomputable def Va:Code:=dA X3 [([],0)]
noncomputable def Ur:Code:=dA Yz [([],0)]
noncomputable def NY:Code:=dA EG [([],3)]
noncomputable def U3:Code:=dA Ye [([],0)]
noncomputable def b15:Code:=dA Yv [([],0)]
noncomputable def b19:Code:=dA X0 [([],0)]
noncomputable def NW:Code:=dA YB [([],0)]
noncomputable def b22:Code:=dA Yw [([],0)]
noncomputable def Uu:Code:=dA YA [([],0)]
noncomputable def UY:Code:=dA EG [([],0)]
noncomputable def UG:Code:=dA X8 [([],0)]
noncomputable def Vb:Code:=dA X4 [([],0)]
noncomputable def NR:Code:=dA Ya [([],0)]
noncomputable def b11:Code:=dA Yy [([],0)]
noncomputable def UZ:Code:=dA EG [([],1)]
noncomputable def UK:Code:=dA Ot [([],0)]
noncomputable def Uy:Code:=dA X6 [([],0)]
noncomputable def UU:Code:=dA Ym [([],0)]
noncomputable def b10:Code:=dA X5 [([],0)]
noncomputable def UA:Code:=dA Yl [([],0)]
noncomputable def U0:Code:=dA EG [([],2)]
noncomputable def NV:Code:=dA Yi [([],0)]
noncomputable def U8:Code:=dA Oq [([],0)]
noncomputable def Ux:Code:=dA X7 [([],0)]
noncomputable def b4:Code:=dA Yt [([],0)]
noncomputable def Uz:Code:=dA Yg [([],0)]
noncomputable def UC:Code:=dA Yo [([],0)]
noncomputable def U7:Code:=dA Yj [([],0)]
noncomputable def Uw:Code:=dA Yb [([],0)]
noncomputable def UJ:Code:=dA Yf [([],0)]
noncomputable def UF:Code:=dA Ic [([],1)]
noncomputable def U5:Code:=dA Yd [([],0)]
noncomputable def b12:Code:=dA YC [([],0)]
noncomputable def U6:Code:=dA YD [([],0)]
noncomputable def UE:Code:=dA Yp [([],0)]
noncomputable def NQ:Code:=dA Ic [([],0)]
noncomputable def NT:Code:=dA Ot [([],1)]
noncomputable def UM:Code:=dA X9 [([],0)]
noncomputable def b6:Code:=dA Yu [([],0)]
noncomputable def Ut:Code:=dA NR [([],0)]
noncomputable def NU:Code:=dA NT [([],0)]
noncomputable def UH:Code:=dA NS [([],0)]
noncomputable def U4:Code:=dA NY [([],0)]
noncomputable def Us:Code:=dA NQ [([],0)]
noncomputable def UN:Code:=dA NV [([],0)]
noncomputable def UO:Code:=dA NW [([],0)]
noncomputable def UL:Code:=dA NU [([],0)]
def JW:bf:=⟨110, { np:=5,n:=24,gn:=3,next:=4,slots:=[(0,.nd 0),(3,.nd 1),(11,.nd 2),(12,.nd 3),(13,.nd 4)],objs:=[] },
 [(.ret, { np:=1,n:=24,gn:=3,next:=4,slots:=[(2,.nd 0)],objs:=[] }),
  (.exit 2, { np:=2,n:=24,gn:=3,next:=4,slots:=[(0,.nd 0),(3,.nd 1)],objs:=[],al:=[some 0,some 1] })]⟩
def s24:bf:=⟨24, { np:=4,n:=23,gn:=3,next:=5,slots:=[(3,.sv 4 0),(6,.nd 1),(7,.nd 2),(8,.nd 3)],objs:=[(4,.vec 0 178 true)] },
 [(.exit 0, { np:=1,n:=23,gn:=3,next:=5,slots:=[(3,.sv 4 0)],objs:=[(4,.vec 0 178 true)] })]⟩
def Kw:bf:=⟨151, { np:=7,n:=85,gn:=3,next:=4,slots:=[(7,.nd 0),(26,.nd 1),(27,.nd 2),(28,.nd 3),(32,.nd 4),(33,.nd 5),(34,.nd 6)],objs:=[] },
 [(.ret, { np:=0,n:=85,gn:=3,next:=4,slots:=[(2,.dM),(3,.i .i64 14)],objs:=[] }),
  (.exit 4, { np:=4,n:=85,gn:=3,next:=4,slots:=[(7,.nd 0),(26,.nd 1),(27,.nd 2),(28,.nd 3)],objs:=[],al:=[none,some 1,some 2,some 3] })]⟩
def Kr:bf:=⟨144, { np:=11,n:=127,gn:=3,next:=5,slots:=[(5,.nd 0),(16,.p 4 0),(108,.nd 1),(109,.nd 2),(110,.nd 3),(114,.nd 0),(115,.nd 4),(116,.nd 5)],objs:=[(4,.cells (bU 6 5) 109 true false)] },
 [(.ret, { np:=0,n:=127,gn:=3,next:=4,slots:=[(4,.i .i64 14)],objs:=[] }),
  (.exit 8, { np:=4,n:=127,gn:=3,next:=4,slots:=[(5,.nd 0),(108,.nd 1),(109,.nd 2),(110,.nd 3)],objs:=[],al:=(lV 0 4) })]⟩
def KR:bf:=⟨55, { np:=3,n:=42,gn:=3,next:=4,slots:=[(0,.nd 0),(15,.nd 0),(16,.nd 1),(17,.nd 2)],objs:=[] },
 [(.ret, { np:=1,n:=42,gn:=3,next:=4,slots:=[(2,.nd 0)],objs:=[] }),
  (.exit 0, { np:=0,n:=42,gn:=3,next:=4,slots:=[],objs:=[] })]⟩
def KU:bf:=⟨59, { np:=4,n:=42,gn:=3,next:=4,slots:=[(3,.nd 0),(11,.nd 1),(12,.nd 2),(13,.nd 3)],objs:=[] },
 [(.ret, { np:=1,n:=42,gn:=3,next:=4,slots:=[(2,.nd 0)],objs:=[] }),
  (.exit 0, { np:=0,n:=42,gn:=3,next:=4,slots:=[],objs:=[] })]⟩
def KI:bf:=⟨33, { np:=5,n:=46,gn:=3,next:=5,slots:=[(1,.nd 0),(7,.sv 4 1),(30,.nd 2),(31,.nd 3),(32,.nd 4)],objs:=[(4,.vec 1 65 true)] },
 [(.exit 0, { np:=1,n:=46,gn:=3,next:=5,slots:=[(7,.sv 4 0)],objs:=[(4,.vec 0 65 true)] })]⟩
def Kq:bf:=⟨143, { np:=4,n:=127,gn:=3,next:=4,slots:=[(5,.nd 0),(108,.nd 1),(109,.nd 2),(110,.nd 3)],objs:=[] },
 [(.ret, { np:=0,n:=127,gn:=3,next:=4,slots:=[(4,.i .i64 14)],objs:=[] }),
  (.exit 6, { np:=0,n:=127,gn:=3,next:=4,slots:=[],objs:=[] })]⟩
def LJ:bf:=⟨91, { np:=2,n:=46,gn:=3,next:=5,slots:=[(4,.sv 4 0),(8,.nd 1)],objs:=[(4,.vec 0 72 true)] },
 [(.ret, { np:=0,n:=46,gn:=3,next:=4,slots:=[(2,.dM),(3,.i .i64 14)],objs:=[] }),
  (.exit 2, { np:=1,n:=46,gn:=3,next:=5,slots:=[(4,.sv 4 0)],objs:=[(4,.vec 0 72 true)],al:=[some 0] })]⟩
def LC:bf:=⟨81, { np:=11,n:=116,gn:=3,next:=5,slots:=[(6,.nd 0),(18,.p 4 0),(97,.nd 1),(98,.nd 2),(99,.nd 3),(103,.nd 0),(104,.nd 4),(105,.nd 5)],objs:=[(4,.cells (bU 6 5) 72 true false)] },
 [(.ret, { np:=0,n:=116,gn:=3,next:=4,slots:=[(4,.i .i64 14)],objs:=[] }),
  (.exit 8, { np:=4,n:=116,gn:=3,next:=4,slots:=[(6,.nd 0),(97,.nd 1),(98,.nd 2),(99,.nd 3)],objs:=[],al:=(lV 0 4) })]⟩
def J7:bf:=⟨136, { np:=4,n:=40,gn:=3,next:=4,slots:=[(0,.nd 0),(3,.nd 1),(11,.nd 0),(12,.nd 2),(13,.nd 3)],objs:=[] },
 [(.exit 0, { np:=1,n:=40,gn:=3,next:=4,slots:=[(3,.nd 0)],objs:=[] })]⟩
def KF:bf:=⟨167, { np:=4,n:=81,gn:=3,next:=4,slots:=[(0,.nd 0),(1,.nd 1),(12,.nd 2),(13,.nd 3)],objs:=[] },
 [(.ret, { np:=0,n:=81,gn:=3,next:=4,slots:=[(4,.b false)],objs:=[] }),
  (.exit 0, { np:=0,n:=81,gn:=3,next:=4,slots:=[],objs:=[] })]⟩
def LK:bf:=⟨95, { np:=4,n:=66,gn:=3,next:=4,slots:=[(0,.nd 0),(3,.nd 1),(8,.nd 2),(9,.nd 3)],objs:=[] },
 [(.exit 0, { np:=1,n:=66,gn:=3,next:=4,slots:=[(3,.nd 0)],objs:=[] })]⟩
def JQ:bf:=⟨102, { np:=5,n:=29,gn:=3,next:=5,slots:=[(1,.nd 0),(5,.sv 4 1),(9,.nd 2),(10,.nd 3),(11,.nd 4)],objs:=[(4,.vec 1 105 true)] },
 [(.exit 0, { np:=1,n:=29,gn:=3,next:=5,slots:=[(5,.sv 4 0)],objs:=[(4,.vec 0 105 true)] })]⟩
def Lu:bf:=⟨80, { np:=4,n:=116,gn:=3,next:=4,slots:=[(6,.nd 0),(97,.nd 1),(98,.nd 2),(99,.nd 3)],objs:=[] },
 [(.ret, { np:=0,n:=116,gn:=3,next:=4,slots:=[(4,.i .i64 14)],objs:=[] }),
  (.exit 6, { np:=0,n:=116,gn:=3,next:=4,slots:=[],objs:=[] })]⟩
def Ls:bf:=⟨79, { np:=5,n:=46,gn:=3,next:=4,slots:=[(1,.nd 0),(5,.nd 1),(9,.nd 2),(10,.nd 3),(11,.nd 4)],objs:=[] },
 [(.ret, { np:=1,n:=46,gn:=3,next:=4,slots:=[(4,.nd 0)],objs:=[] }),
  (.exit 0, { np:=0,n:=46,gn:=3,next:=4,slots:=[],objs:=[] })]⟩
def JU:bf:=⟨105, { np:=32,n:=127,gn:=3,next:=5,slots:=[(2,.p 4 0),(5,.nd 0),(7,.nd 1),(8,.nd 2),(32,.nd 3),(33,.nd 4),(34,.nd 5),(38,.nd 0),(39,.nd 6),(40,.nd 7)],objs:=[(4,.cells (bU 8 24) 41 true false)] },
 [(.exit 2, { np:=30,n:=127,gn:=3,next:=5,slots:=[(2,.p 4 0),(5,.nd 0),(7,.nd 1),(8,.nd 2),(32,.nd 3),(33,.nd 4),(34,.nd 5)],objs:=[(4,.cells (bU 6 24) 41 true false)],al:=[some 0,some 1,none,some 3,some 4,some 5,some 8,some 9,some 10,some 11,some 12,some 13,some 14,some 15,some 16,some 17,some 18,some 19,some 20,some 21,some 22,some 23,some 24,some 25,some 26,some 27,some 28,some 29,some 30,some 31] })]⟩
def s15:bf:=⟨15, { np:=3,n:=19,gn:=3,next:=4,slots:=[(0,.nd 0),(5,.nd 0),(6,.nd 1),(7,.nd 2)],objs:=[] },
 [(.ret, { np:=0,n:=19,gn:=3,next:=4,slots:=[(2,.b false)],objs:=[] }),
  (.exit 0, { np:=1,n:=19,gn:=3,next:=4,slots:=[(0,.nd 0)],objs:=[],al:=[some 0] })]⟩
def KG:bf:=⟨19, { np:=3,n:=54,gn:=3,next:=5,slots:=[(0,.nd 0),(1,.nd 1),(6,.sv 4 2)],objs:=[(4,.vec 2 72 true)] },
 [(.exit 0, { np:=2,n:=54,gn:=3,next:=5,slots:=[(0,.nd 0),(6,.sv 4 1)],objs:=[(4,.vec 1 72 true)] })]⟩
def KD:bf:=⟨164, { np:=3,n:=32,gn:=3,next:=4,slots:=[(0,.nd 0),(3,.nd 1),(4,.nd 2)],objs:=[] },
 [(.exit 0, { np:=1,n:=32,gn:=3,next:=4,slots:=[(3,.nd 0)],objs:=[] })]⟩
def KH:bf:=⟨22, { np:=4,n:=18,gn:=3,next:=5,slots:=[(3,.sv 4 0),(6,.nd 1),(7,.nd 2),(8,.nd 3)],objs:=[(4,.vec 0 162 true)] },
 [(.exit 0, { np:=1,n:=18,gn:=3,next:=5,slots:=[(3,.sv 4 0)],objs:=[(4,.vec 0 162 true)] })]⟩
def JX:bf:=⟨115, { np:=2,n:=22,gn:=3,next:=4,slots:=[(0,.nd 0),(3,.nd 1)],objs:=[] },
 [(.exit 0, { np:=2,n:=22,gn:=3,next:=4,slots:=[(0,.nd 0),(3,.nd 1)],objs:=[] })]⟩
def KJ:bf:=⟨41, { np:=28,n:=116,gn:=3,next:=6,slots:=[(2,.p 4 0),(6,.nd 0),(7,.mp 5),(44,.nd 0),(45,.nd 1),(46,.nd 2)],objs:=[(5,.smap 3 none none),(4,.cells (bU 4 24) 35 true false)] },
 [(.exit 0, { np:=26,n:=116,gn:=3,next:=6,slots:=[(2,.p 4 0),(6,.nd 0),(7,.mp 5)],objs:=[(5,.smap 1 none none),(4,.cells (bU 2 24) 35 true false)],al:=[some 0,none,some 4,some 5,some 6,some 7,some 8,some 9,some 10,some 11,some 12,some 13,some 14,some 15,some 16,some 17,some 18,some 19,some 20,some 21,some 22,some 23,some 24,some 25,some 26,some 27] })]⟩
def Ko:bf:=⟨142, { np:=4,n:=91,gn:=3,next:=4,slots:=[(0,.nd 0),(1,.nd 1),(8,.nd 0),(9,.nd 2),(10,.nd 3)],objs:=[] },
 [(.ret, { np:=1,n:=91,gn:=3,next:=4,slots:=[(4,.nd 0)],objs:=[] }),
  (.exit 0, { np:=0,n:=91,gn:=3,next:=4,slots:=[],objs:=[] })]⟩
def LP:bf:=⟨97, { np:=4,n:=69,gn:=3,next:=5,slots:=[(0,.sv 4 0),(1,.nd 1),(8,.nd 2),(9,.nd 3)],objs:=[(4,.vec 0 5 false)] },
 [(.exit 0, { np:=1,n:=69,gn:=3,next:=5,slots:=[(0,.sv 4 0)],objs:=[(4,.vec 0 5 false)] })]⟩
def JV:bf:=⟨109, { np:=2,n:=24,gn:=3,next:=4,slots:=[(0,.nd 0),(3,.nd 1)],objs:=[] },
 [(.ret, { np:=1,n:=24,gn:=3,next:=4,slots:=[(2,.nd 0)],objs:=[] }),
  (.exit 0, { np:=0,n:=24,gn:=3,next:=4,slots:=[],objs:=[] })]⟩
def s11:bf:=⟨11, { np:=4,n:=33,gn:=3,next:=5,slots:=[(0,.nd 0),(3,.sv 4 1),(9,.nd 2),(10,.nd 3)],objs:=[(4,.vec 1 5 false)] },
 [(.exit 0, { np:=1,n:=33,gn:=3,next:=5,slots:=[(3,.sv 4 0)],objs:=[(4,.vec 0 5 false)] })]⟩
def KC:bf:=⟨161, { np:=23,n:=48,gn:=3,next:=5,slots:=[(5,.p 4 0),(6,.nd 0),(8,.nd 1),(13,.nd 2),(14,.nd 3),(15,.nd 4),(20,.nd 5),(21,.nd 6)],objs:=[(4,.cells (bU 7 16) 295 true false)] },
 [(.exit 2, { np:=20,n:=48,gn:=3,next:=5,slots:=[(5,.p 4 0),(6,.nd 0),(13,.nd 1),(14,.nd 2),(15,.nd 3)],objs:=[(4,.cells (bU 4 16) 295 true false)],al:=[none,some 2,some 3,some 4,some 7,some 8,some 9,some 10,some 11,some 12,some 13,some 14,some 15,some 16,some 17,some 18,some 19,some 20,some 21,some 22] })]⟩
def s43:bf:=⟨43, { np:=29,n:=116,gn:=3,next:=6,slots:=[(2,.p 4 0),(6,.nd 0),(7,.mp 5),(54,.nd 1),(55,.nd 2),(56,.nd 3)],objs:=[(5,.smap 4 none none),(4,.cells (bU 5 24) 35 true false)] },
 [(.ret, { np:=0,n:=116,gn:=3,next:=4,slots:=[(4,.i .i64 26)],objs:=[] }),
  (.exit 2, { np:=25,n:=116,gn:=3,next:=5,slots:=[(2,.p 4 0),(6,.nd 0)],objs:=[(4,.cells (bU 1 24) 35 true false)],al:=[some 0,some 5,some 6,some 7,some 8,some 9,some 10,some 11,some 12,some 13,some 14,some 15,some 16,some 17,some 18,some 19,some 20,some 21,some 22,some 23,some 24,some 25,some 26,some 27,some 28] })]⟩
def Ku:bf:=⟨149, { np:=3,n:=85,gn:=3,next:=4,slots:=[(0,.nd 0),(14,.nd 0),(15,.nd 1),(16,.nd 2)],objs:=[] },
 [(.ret, { np:=1,n:=85,gn:=3,next:=4,slots:=[(2,.dM),(3,.nd 0)],objs:=[] }),
  (.exit 0, { np:=1,n:=85,gn:=3,next:=4,slots:=[(0,.nd 0)],objs:=[],al:=[some 0] })]⟩
def J3:bf:=⟨123, { np:=3,n:=41,gn:=3,next:=4,slots:=[(0,.nd 0),(3,.nd 1),(4,.nd 2)],objs:=[] },
 [(.exit 0, { np:=1,n:=41,gn:=3,next:=4,slots:=[(3,.nd 0)],objs:=[] })]⟩
def s26:bf:=⟨26, { np:=4,n:=29,gn:=3,next:=5,slots:=[(3,.sv 4 0),(6,.nd 1),(7,.nd 2),(8,.nd 3)],objs:=[(4,.vec 0 109 true)] },
 [(.exit 0, { np:=1,n:=29,gn:=3,next:=5,slots:=[(3,.sv 4 0)],objs:=[(4,.vec 0 109 true)] })]⟩
def s10:bf:=⟨10, { np:=2,n:=11,gn:=3,next:=4,slots:=[(0,.nd 0),(3,.nd 1)],objs:=[] },
 [(.exit 0, { np:=1,n:=11,gn:=3,next:=4,slots:=[(3,.nd 0)],objs:=[] })]⟩
def J5:bf:=⟨129, { np:=5,n:=81,gn:=3,next:=4,slots:=[(0,.nd 0),(4,.nd 1),(5,.nd 2),(6,.nd 3),(7,.nd 4)],objs:=[] },
 [(.ret, { np:=0,n:=81,gn:=3,next:=4,slots:=[(2,.i .i64 0)],objs:=[] }),
  (.exit 0, { np:=3,n:=81,gn:=3,next:=4,slots:=[(4,.nd 0),(5,.nd 1),(6,.nd 2)],objs:=[],al:=[some 1,none,some 3] })]⟩
def s44:bf:=⟨44, { np:=27,n:=116,gn:=3,next:=5,slots:=[(2,.p 4 0),(6,.nd 0),(71,.nd 0),(72,.nd 1),(73,.nd 2)],objs:=[(4,.cells (bU 3 24) 35 true false)] },
 [(.ret, { np:=1,n:=116,gn:=3,next:=4,slots:=[(4,.nd 0)],objs:=[] }),
  (.exit 4, { np:=25,n:=116,gn:=3,next:=5,slots:=[(2,.p 4 0),(6,.nd 0)],objs:=[(4,.cells (bU 1 24) 35 true false)],al:=[some 0,some 3,some 4,some 5,some 6,some 7,some 8,some 9,some 10,some 11,some 12,some 13,some 14,some 15,some 16,some 17,some 18,some 19,some 20,some 21,some 22,some 23,some 24,some 25,some 26] })]⟩
def KA:bf:=⟨160, { np:=20,n:=48,gn:=3,next:=5,slots:=[(5,.p 4 0),(6,.nd 0),(13,.nd 1),(14,.nd 2),(15,.nd 3)],objs:=[(4,.cells (bU 4 16) 295 true false)] },
 [(.exit 0, { np:=1,n:=48,gn:=3,next:=4,slots:=[(6,.nd 0)],objs:=[] })]⟩
def LH:bf:=⟨90, { np:=4,n:=46,gn:=3,next:=5,slots:=[(4,.sv 4 0),(9,.nd 1),(10,.nd 2),(11,.nd 3)],objs:=[(4,.vec 0 72 true)] },
 [(.ret, { np:=1,n:=46,gn:=3,next:=4,slots:=[(2,.dM),(3,.nd 0)],objs:=[] }),
  (.exit 0, { np:=1,n:=46,gn:=3,next:=5,slots:=[(4,.sv 4 0)],objs:=[(4,.vec 0 72 true)] })]⟩
def JZ:bf:=⟨120, { np:=3,n:=67,gn:=3,next:=4,slots:=[(0,.nd 0),(9,.nd 1),(10,.nd 2)],objs:=[] },
 [(.ret, { np:=1,n:=67,gn:=3,next:=4,slots:=[(2,.nd 0)],objs:=[] }),
  (.exit 0, { np:=0,n:=67,gn:=3,next:=4,slots:=[],objs:=[] })]⟩
def Ky:bf:=⟨152, { np:=13,n:=85,gn:=3,next:=5,slots:=[(7,.nd 0),(11,.p 4 0),(12,.nd 1),(26,.nd 2),(27,.nd 3),(28,.nd 4),(32,.nd 5),(33,.nd 6),(34,.nd 7)],objs:=[(4,.cells (bU 8 5) 109 true false)] },
 [(.exit 6, { np:=15,n:=85,gn:=3,next:=5,slots:=[(7,.nd 0),(11,.p 4 0),(12,.nd 1),(26,.nd 2),(27,.nd 3),(28,.nd 4),(32,.nd 5),(33,.nd 6),(34,.nd 7),(43,.nd 0),(44,.nd 1),(45,.rx 8 0),(46,.rx 8 0),(47,.nd 9),(48,.p 4 0),(49,.nd 10),(50,.b false)],objs:=[(4,.cells (bU 10 5) 109 true false)],al:=[some 0,none,some 2,some 3,some 4,some 5,some 6,some 7,none,none,some 8,some 9,some 10,some 11,some 12] }),
  (.exit 6, { np:=13,n:=85,gn:=3,next:=5,slots:=[(7,.nd 0),(11,.p 4 0),(12,.nd 1),(26,.nd 2),(27,.nd 3),(28,.nd 4),(32,.nd 5),(33,.nd 6),(34,.nd 7),(43,.bV []),(44,.bV []),(45,.bV []),(46,.bV []),(47,.bV []),(48,.bV []),(49,.bV []),(50,.bV [])],objs:=[(4,.cells (bU 8 5) 109 true false)],al:=[some 0,none,some 2,some 3,some 4,some 5,some 6,some 7,some 8,some 9,some 10,some 11,some 12] })]⟩
def s4:bf:=⟨4, { np:=3,n:=23,gn:=3,next:=4,slots:=[(0,.nd 0),(5,.nd 0),(6,.nd 1),(7,.nd 2)],objs:=[] },
 [(.ret, { np:=0,n:=23,gn:=3,next:=4,slots:=[(2,.b false)],objs:=[] }),
  (.exit 0, { np:=1,n:=23,gn:=3,next:=4,slots:=[(0,.nd 0)],objs:=[],al:=[some 0] })]⟩
def J4:bf:=⟨127, { np:=1,n:=14,gn:=3,next:=4,slots:=[(0,.nd 0)],objs:=[] },
 [(.ret, { np:=0,n:=14,gn:=3,next:=4,slots:=[(2,.b false)],objs:=[] }),
  (.exit 0, { np:=0,n:=14,gn:=3,next:=4,slots:=[],objs:=[] })]⟩
def J6:bf:=⟨133, { np:=3,n:=37,gn:=3,next:=4,slots:=[(0,.nd 0),(1,.nd 1),(5,.nd 2)],objs:=[] },
 [(.ret, { np:=1,n:=37,gn:=3,next:=4,slots:=[(4,.nd 0)],objs:=[] }),
  (.exit 0, { np:=2,n:=37,gn:=3,next:=4,slots:=[(0,.nd 0),(1,.nd 1)],objs:=[],al:=[some 0,some 1] })]⟩
def LG:bf:=⟨88, { np:=3,n:=28,gn:=3,next:=4,slots:=[(0,.nd 0),(1,.nd 1),(5,.nd 2)],objs:=[] },
 [(.exit 0, { np:=1,n:=28,gn:=3,next:=4,slots:=[(5,.nd 0)],objs:=[] })]⟩
def JY:bf:=⟨116, { np:=4,n:=22,gn:=3,next:=4,slots:=[(3,.nd 0),(10,.nd 1),(11,.nd 2),(12,.nd 3)],objs:=[] },
 [(.exit 0, { np:=1,n:=22,gn:=3,next:=4,slots:=[(3,.nd 0)],objs:=[] })]⟩
def Kt:bf:=⟨147, { np:=28,n:=59,gn:=3,next:=6,slots:=[(2,.p 4 0),(7,.sv 5 0),(21,.nd 1),(22,.nd 2),(23,.nd 3)],objs:=[(5,.vec 0 109 true),(4,.cells (bU 4 24) 41 true false)] },
 [(.exit 0, { np:=25,n:=59,gn:=3,next:=5,slots:=[(2,.p 4 0),(7,.nd 0)],objs:=[(4,.cells (bU 1 24) 41 true false)],al:=[none,some 4,some 5,some 6,some 7,some 8,some 9,some 10,some 11,some 12,some 13,some 14,some 15,some 16,some 17,some 18,some 19,some 20,some 21,some 22,some 23,some 24,some 25,some 26,some 27] })]⟩
def J9:bf:=⟨140, { np:=27,n:=127,gn:=3,next:=5,slots:=[(2,.p 4 0),(5,.nd 0),(61,.nd 0),(62,.nd 1),(63,.nd 2)],objs:=[(4,.cells (bU 3 24) 41 true false)] },
 [(.ret, { np:=1,n:=127,gn:=3,next:=4,slots:=[(4,.nd 0)],objs:=[] }),
  (.exit 4, { np:=25,n:=127,gn:=3,next:=5,slots:=[(2,.p 4 0),(5,.nd 0)],objs:=[(4,.cells (bU 1 24) 41 true false)],al:=[some 0,some 3,some 4,some 5,some 6,some 7,some 8,some 9,some 10,some 11,some 12,some 13,some 14,some 15,some 16,some 17,some 18,some 19,some 20,some 21,some 22,some 23,some 24,some 25,some 26] })]⟩
def KE:bf:=⟨165, { np:=4,n:=32,gn:=3,next:=4,slots:=[(0,.nd 0),(3,.nd 1),(4,.nd 2),(5,.nd 3)],objs:=[] },
 [(.exit 2, { np:=3,n:=32,gn:=3,next:=4,slots:=[(0,.nd 0),(3,.nd 1),(4,.nd 2)],objs:=[],al:=[some 0,none,some 2] })]⟩
def s82:bf:=⟨82, { np:=28,n:=61,gn:=3,next:=6,slots:=[(2,.p 4 0),(7,.sv 5 0),(21,.nd 1),(22,.nd 2),(23,.nd 3)],objs:=[(5,.vec 0 72 true),(4,.cells (bU 4 24) 35 true false)] },
 [(.exit 0, { np:=25,n:=61,gn:=3,next:=5,slots:=[(2,.p 4 0),(7,.nd 0)],objs:=[(4,.cells (bU 1 24) 35 true false)],al:=[none,some 4,some 5,some 6,some 7,some 8,some 9,some 10,some 11,some 12,some 13,some 14,some 15,some 16,some 17,some 18,some 19,some 20,some 21,some 22,some 23,some 24,some 25,some 26,some 27] })]⟩
def s12:bf:=⟨12, { np:=4,n:=22,gn:=3,next:=6,slots:=[(3,.p 4 0),(11,.nd 0),(12,.nd 1),(13,.nd 2)],objs:=[(4,.cells [.p 4 0,.sv 5 3] 204 true false),(5,.vec 3 5 true)] },
 [(.exit 0, { np:=1,n:=22,gn:=3,next:=6,slots:=[(3,.p 4 0)],objs:=[(4,.cells [.p 4 0,.sv 5 0] 204 true false),(5,.vec 0 5 true)] })]⟩
def LD:bf:=⟨85, { np:=5,n:=42,gn:=3,next:=6,slots:=[(5,.p 4 0),(6,.nd 0),(22,.nd 1),(23,.nd 2),(24,.nd 3)],objs:=[(4,.cells [.p 4 0,.sv 5 4] 204 true false),(5,.vec 4 5 true)] },
 [(.exit 0, { np:=1,n:=42,gn:=3,next:=6,slots:=[(5,.p 4 0)],objs:=[(4,.cells [.p 4 0,.sv 5 0] 204 true false),(5,.vec 0 5 true)] })]⟩
def J8:bf:=⟨139, { np:=3,n:=31,gn:=3,next:=4,slots:=[(0,.nd 0),(1,.nd 1),(5,.nd 2)],objs:=[] },
 [(.ret, { np:=1,n:=31,gn:=3,next:=4,slots:=[(4,.nd 0)],objs:=[] }),
  (.exit 0, { np:=2,n:=31,gn:=3,next:=4,slots:=[(0,.nd 0),(1,.nd 1)],objs:=[],al:=[some 0,some 1] })]⟩
def JR:bf:=⟨104, { np:=28,n:=127,gn:=3,next:=5,slots:=[(2,.p 4 0),(5,.nd 0),(32,.nd 1),(33,.nd 2),(34,.nd 3)],objs:=[(4,.cells (bU 4 24) 41 true false)] },
 [(.ret, { np:=0,n:=127,gn:=3,next:=4,slots:=[(4,.i .i64 26)],objs:=[] }),
  (.exit 0, { np:=25,n:=127,gn:=3,next:=5,slots:=[(2,.p 4 0),(5,.nd 0)],objs:=[(4,.cells (bU 1 24) 41 true false)],al:=[some 0,some 4,some 5,some 6,some 7,some 8,some 9,some 10,some 11,some 12,some 13,some 14,some 15,some 16,some 17,some 18,some 19,some 20,some 21,some 22,some 23,some 24,some 25,some 26,some 27] })]⟩
def Kv:bf:=⟨150, { np:=4,n:=85,gn:=3,next:=4,slots:=[(7,.nd 0),(26,.nd 1),(27,.nd 2),(28,.nd 3)],objs:=[] },
 [(.ret, { np:=0,n:=85,gn:=3,next:=4,slots:=[(2,.dM),(3,.i .i64 14)],objs:=[] }),
  (.exit 2, { np:=1,n:=85,gn:=3,next:=4,slots:=[(7,.nd 0)],objs:=[] })]⟩
def Kz:bf:=⟨154, { np:=4,n:=49,gn:=3,next:=4,slots:=[(3,.nd 0),(7,.nd 1),(8,.nd 2),(9,.nd 3)],objs:=[] },
 [(.exit 0, { np:=1,n:=49,gn:=3,next:=4,slots:=[(3,.nd 0)],objs:=[] })]⟩
def s6:bf:=⟨6, { np:=3,n:=37,gn:=3,next:=4,slots:=[(0,.nd 0),(5,.nd 0),(6,.nd 1),(7,.nd 2)],objs:=[] },
 [(.ret, { np:=0,n:=37,gn:=3,next:=4,slots:=[(2,.b false)],objs:=[] }),
  (.exit 0, { np:=1,n:=37,gn:=3,next:=4,slots:=[(0,.nd 0)],objs:=[],al:=[some 0] })]⟩
def LM:bf:=⟨96, { np:=2,n:=69,gn:=3,next:=5,slots:=[(0,.sv 4 0),(1,.nd 1)],objs:=[(4,.vec 0 5 false)] },
 [(.ret, { np:=1,n:=1,gn:=3,next:=5,slots:=[(0,.sv 4 0)],objs:=[(4,.vec 0 5 false)] })]⟩
def Lr:bf:=⟨76, { np:=0,n:=33,gn:=3,next:=4,slots:=[(0,.nO)],objs:=[] },
 [(.ret, { np:=0,n:=1,gn:=3,next:=4,slots:=[(0,.i .i64 0)],objs:=[] })]⟩
def Lp:bf:=⟨75, { np:=24,n:=33,gn:=3,next:=5,slots:=[(0,.dD 146 (.p 4 15))],objs:=[(4,.cells (bU 0 24) 35 true false)],ka:=1 },
 [(.ret, { np:=24,n:=1,gn:=3,next:=5,slots:=[(0,.i .i64 0)],objs:=[(4,.cells (bU 0 24) 35 true false)],ka:=1,al:=(lV 0 24) })]⟩
def Lm:bf:=⟨74, { np:=24,n:=33,gn:=3,next:=5,slots:=[(0,.dD 146 (.p 4 14))],objs:=[(4,.cells (bU 0 24) 35 true false)],ka:=1 },
 [(.ret, { np:=24,n:=1,gn:=3,next:=5,slots:=[(0,.i .i64 0)],objs:=[(4,.cells (bU 0 24) 35 true false)],ka:=1,al:=(lV 0 24) })]⟩
def Ll:bf:=⟨73, { np:=24,n:=33,gn:=3,next:=5,slots:=[(0,.dD 146 (.p 4 13))],objs:=[(4,.cells (bU 0 24) 35 true false)],ka:=1 },
 [(.ret, { np:=24,n:=1,gn:=3,next:=5,slots:=[(0,.i .i64 0)],objs:=[(4,.cells (bU 0 24) 35 true false)],ka:=1,al:=(lV 0 24) })]⟩
def s72:bf:=⟨72, { np:=24,n:=33,gn:=3,next:=5,slots:=[(0,.dD 146 (.p 4 12))],objs:=[(4,.cells (bU 0 24) 35 true false)],ka:=1 },
 [(.ret, { np:=24,n:=1,gn:=3,next:=5,slots:=[(0,.i .i64 0)],objs:=[(4,.cells (bU 0 24) 35 true false)],ka:=1,al:=(lV 0 24) })]⟩
def Lj:bf:=⟨71, { np:=24,n:=33,gn:=3,next:=5,slots:=[(0,.dD 146 (.p 4 11))],objs:=[(4,.cells (bU 0 24) 35 true false)],ka:=1 },
 [(.ret, { np:=24,n:=1,gn:=3,next:=5,slots:=[(0,.i .i64 0)],objs:=[(4,.cells (bU 0 24) 35 true false)],ka:=1,al:=(lV 0 24) })]⟩
def Lh:bf:=⟨70, { np:=24,n:=33,gn:=3,next:=5,slots:=[(0,.dD 146 (.p 4 10))],objs:=[(4,.cells (bU 0 24) 35 true false)],ka:=1 },
 [(.ret, { np:=24,n:=1,gn:=3,next:=5,slots:=[(0,.i .i64 0)],objs:=[(4,.cells (bU 0 24) 35 true false)],ka:=1,al:=(lV 0 24) })]⟩
def Le:bf:=⟨69, { np:=24,n:=33,gn:=3,next:=5,slots:=[(0,.dD 146 (.p 4 9))],objs:=[(4,.cells (bU 0 24) 35 true false)],ka:=1 },
 [(.ret, { np:=24,n:=1,gn:=3,next:=5,slots:=[(0,.i .i64 0)],objs:=[(4,.cells (bU 0 24) 35 true false)],ka:=1,al:=(lV 0 24) })]⟩
def s68:bf:=⟨68, { np:=24,n:=33,gn:=3,next:=5,slots:=[(0,.dD 146 (.p 4 8))],objs:=[(4,.cells (bU 0 24) 35 true false)],ka:=1 },
 [(.ret, { np:=24,n:=1,gn:=3,next:=5,slots:=[(0,.i .i64 0)],objs:=[(4,.cells (bU 0 24) 35 true false)],ka:=1,al:=(lV 0 24) })]⟩
def Ld:bf:=⟨67, { np:=24,n:=33,gn:=3,next:=5,slots:=[(0,.dD 146 (.p 4 7))],objs:=[(4,.cells (bU 0 24) 35 true false)],ka:=1 },
 [(.ret, { np:=24,n:=1,gn:=3,next:=5,slots:=[(0,.i .i64 0)],objs:=[(4,.cells (bU 0 24) 35 true false)],ka:=1,al:=(lV 0 24) })]⟩
def Lc:bf:=⟨66, { np:=24,n:=33,gn:=3,next:=5,slots:=[(0,.dD 146 (.p 4 6))],objs:=[(4,.cells (bU 0 24) 35 true false)],ka:=1 },
 [(.ret, { np:=24,n:=1,gn:=3,next:=5,slots:=[(0,.i .i64 0)],objs:=[(4,.cells (bU 0 24) 35 true false)],ka:=1,al:=(lV 0 24) })]⟩
def La:bf:=⟨65, { np:=24,n:=33,gn:=3,next:=5,slots:=[(0,.dD 146 (.p 4 5))],objs:=[(4,.cells (bU 0 24) 35 true false)],ka:=1 },
 [(.ret, { np:=24,n:=1,gn:=3,next:=5,slots:=[(0,.i .i64 0)],objs:=[(4,.cells (bU 0 24) 35 true false)],ka:=1,al:=(lV 0 24) })]⟩
def KZ:bf:=⟨64, { np:=24,n:=33,gn:=3,next:=5,slots:=[(0,.dD 146 (.p 4 4))],objs:=[(4,.cells (bU 0 24) 35 true false)],ka:=1 },
 [(.ret, { np:=24,n:=1,gn:=3,next:=5,slots:=[(0,.i .i64 0)],objs:=[(4,.cells (bU 0 24) 35 true false)],ka:=1,al:=(lV 0 24) })]⟩
def KY:bf:=⟨63, { np:=24,n:=33,gn:=3,next:=5,slots:=[(0,.dD 146 (.p 4 3))],objs:=[(4,.cells (bU 0 24) 35 true false)],ka:=1 },
 [(.ret, { np:=24,n:=1,gn:=3,next:=5,slots:=[(0,.i .i64 0)],objs:=[(4,.cells (bU 0 24) 35 true false)],ka:=1,al:=(lV 0 24) })]⟩
def KX:bf:=⟨62, { np:=24,n:=33,gn:=3,next:=5,slots:=[(0,.dD 146 (.p 4 2))],objs:=[(4,.cells (bU 0 24) 35 true false)],ka:=1 },
 [(.ret, { np:=24,n:=1,gn:=3,next:=5,slots:=[(0,.i .i64 0)],objs:=[(4,.cells (bU 0 24) 35 true false)],ka:=1,al:=(lV 0 24) })]⟩
def KW:bf:=⟨61, { np:=24,n:=33,gn:=3,next:=5,slots:=[(0,.dD 146 (.p 4 1))],objs:=[(4,.cells (bU 0 24) 35 true false)],ka:=1 },
 [(.ret, { np:=24,n:=1,gn:=3,next:=5,slots:=[(0,.i .i64 0)],objs:=[(4,.cells (bU 0 24) 35 true false)],ka:=1,al:=(lV 0 24) })]⟩
def KT:bf:=⟨57, { np:=24,n:=33,gn:=3,next:=5,slots:=[(0,.dD 154 (.p 4 22))],objs:=[(4,.cells (bU 0 24) 35 true false)],ka:=1 },
 [(.ret, { np:=25,n:=1,gn:=3,next:=5,slots:=[(0,.nd 0)],objs:=[(4,.cells (bU 1 24) 35 true false)],ka:=1,al:=[none,some 0,some 1,some 2,some 3,some 4,some 5,some 6,some 7,some 8,some 9,some 10,some 11,some 12,some 13,some 14,some 15,some 16,some 17,some 18,some 19,some 20,some 21,some 22,some 23] })]⟩
def s53:bf:=⟨53, { np:=24,n:=33,gn:=3,next:=5,slots:=[(0,.dD 153 (.p 4 21))],objs:=[(4,.cells (bU 0 24) 35 true false)],ka:=1 },
 [(.ret, { np:=25,n:=1,gn:=3,next:=5,slots:=[(0,.nd 0)],objs:=[(4,.cells (bU 1 24) 35 true false)],ka:=1,al:=[none,some 0,some 1,some 2,some 3,some 4,some 5,some 6,some 7,some 8,some 9,some 10,some 11,some 12,some 13,some 14,some 15,some 16,some 17,some 18,some 19,some 20,some 21,some 22,some 23] })]⟩
def KQ:bf:=⟨52, { np:=24,n:=33,gn:=3,next:=5,slots:=[(0,.dD 151 (.p 4 20))],objs:=[(4,.cells (bU 0 24) 35 true false)],ka:=1 },
 [(.ret, { np:=25,n:=1,gn:=3,next:=5,slots:=[(0,.nd 0)],objs:=[(4,.cells (bU 1 24) 35 true false)],ka:=1,al:=[none,some 0,some 1,some 2,some 3,some 4,some 5,some 6,some 7,some 8,some 9,some 10,some 11,some 12,some 13,some 14,some 15,some 16,some 17,some 18,some 19,some 20,some 21,some 22,some 23] })]⟩
def KP:bf:=⟨51, { np:=24,n:=33,gn:=3,next:=5,slots:=[(0,.dD 151 (.p 4 19))],objs:=[(4,.cells (bU 0 24) 35 true false)],ka:=1 },
 [(.ret, { np:=25,n:=1,gn:=3,next:=5,slots:=[(0,.nd 0)],objs:=[(4,.cells (bU 1 24) 35 true false)],ka:=1,al:=[none,some 0,some 1,some 2,some 3,some 4,some 5,some 6,some 7,some 8,some 9,some 10,some 11,some 12,some 13,some 14,some 15,some 16,some 17,some 18,some 19,some 20,some 21,some 22,some 23] })]⟩
def KO:bf:=⟨47, { np:=24,n:=33,gn:=3,next:=5,slots:=[(0,.dD 151 (.p 4 18))],objs:=[(4,.cells (bU 0 24) 35 true false)],ka:=1 },
 [(.ret, { np:=25,n:=1,gn:=3,next:=5,slots:=[(0,.nd 0)],objs:=[(4,.cells (bU 1 24) 35 true false)],ka:=1,al:=[none,some 0,some 1,some 2,some 3,some 4,some 5,some 6,some 7,some 8,some 9,some 10,some 11,some 12,some 13,some 14,some 15,some 16,some 17,some 18,some 19,some 20,some 21,some 22,some 23] })]⟩
def KN:bf:=⟨46, { np:=24,n:=33,gn:=3,next:=5,slots:=[(0,.dD 148 (.p 4 17))],objs:=[(4,.cells (bU 0 24) 35 true false)],ka:=1 },
 [(.ret, { np:=24,n:=1,gn:=3,next:=5,slots:=[(0,.i .i64 0)],objs:=[(4,.cells (bU 0 24) 35 true false)],ka:=1,al:=(lV 0 24) })]⟩
def KL:bf:=⟨45, { np:=24,n:=33,gn:=3,next:=5,slots:=[(0,.dD 149 (.p 4 16))],objs:=[(4,.cells (bU 0 24) 35 true false)],ka:=1 },
 [(.ret, { np:=24,n:=1,gn:=3,next:=5,slots:=[(0,.i .i64 0)],objs:=[(4,.cells (bU 0 24) 35 true false)],ka:=1,al:=(lV 0 24) })]⟩
abbrev c124:aK:=fun gs out=>aI Tryz.prog aH 162 [] [.sc] gs out
abbrev c87:aK:=fun gs out=>aI Tryz.prog aH 184 [] [.sc] gs out
abbrev c119:aK:=fun gs out=>aI Tryz.prog aH 108 [] [.sc] gs out
abbrev c131:aK:=fun gs out=>aI Tryz.prog aH 197 [] [.sc] gs out
abbrev c31:aK:=fun gs out=>aI Tryz.prog aH 26 [] [.sc] gs out
abbrev c1:aK:=fun gs out=>aI Tryz.prog aH 3 [] [.sc] gs out
abbrev VN:aK:=fun gs out=>aI Tryz.prog aH 107 [] [.sc] gs out
abbrev WH:aK:=fun gs out=>aI Tryz.prog aH 137 [] [.sc] gs out
abbrev c138:aK:=fun gs out=>aI Tryz.prog aH 239 [] [.sc] gs out
abbrev VZ:aK:=fun gs out=>aI Tryz.prog aH 170 [] [.sc] gs out
abbrev c32:aK:=fun gs out=>aI Tryz.prog aH 131 [] [.sc] gs out
abbrev XB:aK:=fun gs out=>aI Tryz.prog aH 14 [] [.sc,.sc] gs out
abbrev VY:aK:=fun gs out=>aI Tryz.prog aH 165 [] [.sc] gs out
abbrev Wl:aK:=fun gs out=>aI Tryz.prog aH 17 [] [.sc,.sc] gs out
abbrev XC:aK:=fun gs out=>aI Tryz.prog aH 54 [] [.sc] gs out
abbrev Wj:aK:=fun gs out=>aI Tryz.prog aH 111 [] [.sc] gs out
abbrev V4:aK:=fun gs out=>aI Tryz.prog aH 208 [] [.sc] gs out
abbrev WR:aK:=fun gs out=>aI Tryz.prog aH 156 [] [.sc] gs out
abbrev c159:aK:=fun gs out=>aI Tryz.prog aH 209 [] [.ag 16] gs out
abbrev c28:aK:=fun gs out=>aI Tryz.prog aH 15 [] [.sc,.sc] gs out
abbrev Xu:aK:=fun gs out=>aI Tryz.prog aH 56 [] [.sc,.sc] gs out
abbrev c130:aK:=fun gs out=>aI Tryz.prog aH 163 [] [.sc] gs out
abbrev c21:aK:=fun gs out=>aI Tryz.prog aH 50 [] [.sc] gs out
abbrev VQ:aK:=fun gs out=>aI Tryz.prog aH 160 [] [.sc] gs out
abbrev c117:aK:=fun gs out=>aI Tryz.prog aH 169 [] [.sc] gs out
abbrev c25:aK:=fun gs out=>aI Tryz.prog aH 20 [] [.sc] gs out
abbrev c0:aK:=fun gs out=>F9 gs=some out
abbrev WW:aK:=fun gs out=>aI Tryz.prog aH 173 [] [.sc] gs out
abbrev c8:aK:=fun gs out=>aI Tryz.prog aH 53 [] [.sc] gs out
abbrev WU:aK:=fun gs out=>aI Tryz.prog aH 124 [] [.sc] gs out
abbrev c40:aK:=fun gs out=>aI Tryz.prog aH 138 [] [.sc] gs out
abbrev WJ:aK:=fun gs out=>aI Tryz.prog aH 77 [] [.sc] gs out
abbrev c9:aK:=fun gs out=>aI Tryz.prog aH 103 [] [.sc] gs out
abbrev c7:aK:=fun gs out=>aI Tryz.prog aH 66 [] [.sc] gs out
abbrev c18:aK:=fun gs out=>aI Tryz.prog aH 100 [] [.sc,.sc] gs out
abbrev c3:aK:=fun gs out=>aI Tryz.prog aH 46 [] [.sc] gs out
abbrev c23:aK:=fun gs out=>aI Tryz.prog aH 51 [] [.sc] gs out
abbrev WS:aK:=fun gs out=>aI Tryz.prog aH 229 [] [.sc] gs out
abbrev c168:aK:=fun gs out=>aI Tryz.prog aH 21 [] [.sc] gs out
abbrev WY:aK:=fun gs out=>aI Tryz.prog aH 23 [] [.sc] gs out
abbrev c13:aK:=fun gs out=>aI Tryz.prog aH 126 [] [.sc] gs out
abbrev Wu:aK:=fun gs out=>aI Tryz.prog aH 19 [] [.sc] gs out
abbrev c37:aK:=fun gs out=>aI Tryz.prog aH 135 [] [.sc] gs out
abbrev WG:aK:=fun gs out=>aI Tryz.prog aH 136 [] [.sc] gs out
abbrev Wy:aK:=fun gs out=>aI Tryz.prog aH 13 [] [.sc,.sc] gs out
abbrev c93:aK:=fun gs out=>aI Tryz.prog aH 52 [] [.sc,.sc] gs out
abbrev c5:aK:=fun gs out=>aI Tryz.prog aH 47 [] [.sc] gs out
abbrev c146:aK:=fun gs out=>aI Tryz.prog aH 16 [] [.sc,.sc] gs out
abbrev VA:aK:=fun gs out=>aI Tryz.prog aH 117 [] [.sc] gs out
abbrev WZ:aK:=fun gs out=>aI Tryz.prog aH 65 [] [.sc] gs out
abbrev Xq:aK:=fun gs out=>aI Tryz.prog aH 84 [] [.sc,.sc] gs out
abbrev Xx:aK:=fun gs out=>aI Tryz.prog aH 101 [] [.sc] gs out
abbrev VL:aK:=fun gs out=>aI Tryz.prog aH 164 [] [.sc] gs out
abbrev c49:aK:=fun gs out=>aI Tryz.prog aH 193 [] [.sc] gs out
abbrev Vz:aK:=fun gs out=>aI Tryz.prog aH 104 [] [.sc] gs out
abbrev c17:aK:=fun gs out=>aI Tryz.prog aH 49 [] [.sc] gs out
abbrev c162:aK:=fun gs out=>aI Tryz.prog aH 18 [] [.sc] gs out
abbrev Vt:aK:=fun gs out=>aI Tryz.prog aH 57 [] [.sc] gs out
abbrev Xr:aK:=fun gs out=>aI Tryz.prog aH 146 [] [.sc] gs out
abbrev Xp:aK:=fun gs out=>aI Tryz.prog aH 32 [] [.ag 5,.sc] gs out
abbrev c2:aK:=fun gs out=>aI Tryz.prog aH 10 [] [.sc] gs out
abbrev Xk:aK:=fun gs out=>aI Tryz.prog aH 98 [] [.sc] gs out
abbrev Wn:aK:=fun gs out=>aI Tryz.prog aH 171 [] [.sc] gs out
abbrev VT:aK:=fun gs out=>aI Tryz.prog aH 196 [] [.sc] gs out
abbrev Xw:aK:=fun gs out=>aI Tryz.prog aH 115 [] [.sc] gs out
abbrev c148:aK:=fun gs out=>aI Tryz.prog aH 59 [] [.sc,.sc] gs out
abbrev c145:aK:=fun gs out=>aI Tryz.prog aH 55 [] [.sc] gs out
abbrev c14:aK:=fun gs out=>aI Tryz.prog aH 48 [] [.sc] gs out
abbrev VW:aK:=fun gs out=>aI Tryz.prog aH 233 [] [.sc] gs out
abbrev VE:aK:=fun gs out=>aI Tryz.prog aH 106 [] [.sc] gs out
abbrev VD:aK:=fun gs out=>aI Tryz.prog aH 118 [] [.sc] gs out
abbrev c34:aK:=fun gs out=>aI Tryz.prog aH 132 [] [.sc] gs out
abbrev WA:aK:=fun gs out=>aI Tryz.prog aH 25 [] [.sc] gs out
abbrev c16:aK:=fun gs out=>aI Tryz.prog aH 11 [] [.ag 24] gs out
abbrev WE:aK:=fun gs out=>aI Tryz.prog aH 134 [] [.sc] gs out
abbrev c156:aK:=fun gs out=>aI Tryz.prog aH 60 [] [.sc,.sc] gs out
abbrev Xl:aK:=fun gs out=>aI Tryz.prog aH 157 [] [.sc] gs out
abbrev Wq:aK:=fun gs out=>aI Tryz.prog aH 63 [] [.sc] gs out
abbrev WC:aK:=fun gs out=>aI Tryz.prog aH 133 [] [.sc] gs out
abbrev c141:aK:=fun gs out=>aI Tryz.prog aH 110 [] [.sc] gs out
abbrev VJ:aK:=fun gs out=>aI Tryz.prog aH 121 [] [.sc,.sc] gs out
abbrev c157:aK:=fun gs out=>aI Tryz.prog aH 123 [] [.sc] gs out
abbrev VP:aK:=fun gs out=>aI Tryz.prog aH 105 [] [.sc] gs out
abbrev VF:aK:=fun gs out=>aI Tryz.prog aH 120 [] [.sc] gs out
abbrev Vx:aK:=fun gs out=>aI Tryz.prog aH 89 [] [.sc] gs out
abbrev c107:aK:=fun gs out=>aI Tryz.prog aH 58 [] [.sc,.sc] gs out
abbrev VH:aK:=fun gs out=>aI Tryz.prog aH 61 [] [.sc] gs out
abbrev c29:aK:=fun gs out=>aI Tryz.prog aH 44 [] [.sc] gs out
abbrev Vu:aK:=fun gs out=>aI Tryz.prog aH 116 [] [.sc] gs out
abbrev c20:aK:=fun gs out=>aI Tryz.prog aH 12 [] [.ag 24] gs out
abbrev Xz:aK:=fun gs out=>dQ Tryz.prog aH 102 [] LM.pre LM.posts gs out
abbrev c76:aK:=fun gs out=>dQ Tryz.prog aH 96 [] Lr.pre Lr.posts gs out
abbrev c75:aK:=fun gs out=>dQ Tryz.prog aH 96 [] Lp.pre Lp.posts gs out
abbrev Xj:aK:=fun gs out=>dQ Tryz.prog aH 96 [] Lm.pre Lm.posts gs out
abbrev Xi:aK:=fun gs out=>dQ Tryz.prog aH 96 [] Ll.pre Ll.posts gs out
abbrev c72:aK:=fun gs out=>dQ Tryz.prog aH 96 [] s72.pre s72.posts gs out
abbrev Xh:aK:=fun gs out=>dQ Tryz.prog aH 96 [] Lj.pre Lj.posts gs out
abbrev c70:aK:=fun gs out=>dQ Tryz.prog aH 96 [] Lh.pre Lh.posts gs out
abbrev Xg:aK:=fun gs out=>dQ Tryz.prog aH 96 [] Le.pre Le.posts gs out
abbrev Xf:aK:=fun gs out=>dQ Tryz.prog aH 96 [] s68.pre s68.posts gs out
abbrev Xe:aK:=fun gs out=>dQ Tryz.prog aH 96 [] Ld.pre Ld.posts gs out
abbrev Xd:aK:=fun gs out=>dQ Tryz.prog aH 96 [] Lc.pre Lc.posts gs out
abbrev Xc:aK:=fun gs out=>dQ Tryz.prog aH 96 [] La.pre La.posts gs out
abbrev c64:aK:=fun gs out=>dQ Tryz.prog aH 96 [] KZ.pre KZ.posts gs out
abbrev Xb:aK:=fun gs out=>dQ Tryz.prog aH 96 [] KY.pre KY.posts gs out
abbrev Xa:aK:=fun gs out=>dQ Tryz.prog aH 96 [] KX.pre KX.posts gs out
abbrev W9:aK:=fun gs out=>dQ Tryz.prog aH 96 [] KW.pre KW.posts gs out
abbrev WX:aK:=fun gs out=>dQ Tryz.prog aH 96 [] KT.pre KT.posts gs out
abbrev c53:aK:=fun gs out=>dQ Tryz.prog aH 96 [] s53.pre s53.posts gs out
abbrev WT:aK:=fun gs out=>dQ Tryz.prog aH 96 [] KQ.pre KQ.posts gs out
abbrev c51:aK:=fun gs out=>dQ Tryz.prog aH 96 [] KP.pre KP.posts gs out
abbrev WQ:aK:=fun gs out=>dQ Tryz.prog aH 96 [] KO.pre KO.posts gs out
abbrev c46:aK:=fun gs out=>dQ Tryz.prog aH 96 [] KN.pre KN.posts gs out
abbrev WO:aK:=fun gs out=>dQ Tryz.prog aH 96 [] KL.pre KL.posts gs out
abbrev VB:aK:=fun gs out=>aU Tryz.prog aH Ut JW.pre JW.posts gs out
abbrev c24:aK:=fun gs out=>aU Tryz.prog aH UR s24.pre s24.posts gs out
abbrev Wi:aK:=fun gs out=>aU Tryz.prog aH NU Kw.pre Kw.posts gs out
abbrev V7:aK:=fun gs out=>aU Tryz.prog aH UH Kr.pre Kr.posts gs out
abbrev WV:aK:=fun gs out=>aU Tryz.prog aH U1 KR.pre KR.posts gs out
abbrev c59:aK:=fun gs out=>aU Tryz.prog aH U2 KU.pre KU.posts gs out
abbrev WB:aK:=fun gs out=>aU Tryz.prog aH UW KI.pre KI.posts gs out
abbrev c143:aK:=fun gs out=>aU Tryz.prog aH NS Kq.pre Kq.posts gs out
abbrev c91:aK:=fun gs out=>aU Tryz.prog aH U9 LJ.pre LJ.posts gs out
abbrev Xn:aK:=fun gs out=>aU Tryz.prog aH U4 LC.pre LC.posts gs out
abbrev V3:aK:=fun gs out=>aU Tryz.prog aH UD J7.pre J7.posts gs out
abbrev c167:aK:=fun gs out=>aU Tryz.prog aH UQ KF.pre KF.posts gs out
abbrev Xy:aK:=fun gs out=>aU Tryz.prog aH Va LK.pre LK.posts gs out
abbrev Vw:aK:=fun gs out=>aU Tryz.prog aH Ur JQ.pre JQ.posts gs out
abbrev c80:aK:=fun gs out=>aU Tryz.prog aH NY Lu.pre Lu.posts gs out
abbrev Xm:aK:=fun gs out=>aU Tryz.prog aH U3 Ls.pre Ls.posts gs out
abbrev c105:aK:=fun gs out=>aU Tryz.prog aH Us JU.pre JU.posts gs out
abbrev c15:aK:=fun gs out=>aU Tryz.prog aH b15 s15.pre s15.posts gs out
abbrev c19:aK:=fun gs out=>aU Tryz.prog aH b19 KG.pre KG.posts gs out
abbrev c164:aK:=fun gs out=>aU Tryz.prog aH NW KD.pre KD.posts gs out
abbrev Wv:aK:=fun gs out=>aU Tryz.prog aH b22 KH.pre KH.posts gs out
abbrev VI:aK:=fun gs out=>aU Tryz.prog aH Uu JX.pre JX.posts gs out
abbrev WI:aK:=fun gs out=>aU Tryz.prog aH UY KJ.pre KJ.posts gs out
abbrev V6:aK:=fun gs out=>aU Tryz.prog aH UG Ko.pre Ko.posts gs out
abbrev XA:aK:=fun gs out=>aU Tryz.prog aH Vb LP.pre LP.posts gs out
abbrev c109:aK:=fun gs out=>aU Tryz.prog aH NR JV.pre JV.posts gs out
abbrev c11:aK:=fun gs out=>aU Tryz.prog aH b11 s11.pre s11.posts gs out
abbrev Wp:aK:=fun gs out=>aU Tryz.prog aH UN KC.pre KC.posts gs out
abbrev WL:aK:=fun gs out=>aU Tryz.prog aH UZ s43.pre s43.posts gs out
abbrev V9:aK:=fun gs out=>aU Tryz.prog aH UK Ku.pre Ku.posts gs out
abbrev VO:aK:=fun gs out=>aU Tryz.prog aH Uy J3.pre J3.posts gs out
abbrev Wx:aK:=fun gs out=>aU Tryz.prog aH UU s26.pre s26.posts gs out
abbrev c10:aK:=fun gs out=>aU Tryz.prog aH b10 s10.pre s10.posts gs out
abbrev VU:aK:=fun gs out=>aU Tryz.prog aH UA J5.pre J5.posts gs out
abbrev WM:aK:=fun gs out=>aU Tryz.prog aH U0 s44.pre s44.posts gs out
abbrev c160:aK:=fun gs out=>aU Tryz.prog aH NV KA.pre KA.posts gs out
abbrev Xv:aK:=fun gs out=>aU Tryz.prog aH U8 LH.pre LH.posts gs out
abbrev VK:aK:=fun gs out=>aU Tryz.prog aH Ux JZ.pre JZ.posts gs out
abbrev c152:aK:=fun gs out=>aU Tryz.prog aH UL Ky.pre Ky.posts gs out
abbrev c4:aK:=fun gs out=>aU Tryz.prog aH b4 s4.pre s4.posts gs out
abbrev c127:aK:=fun gs out=>aU Tryz.prog aH Uz J4.pre J4.posts gs out
abbrev VX:aK:=fun gs out=>aU Tryz.prog aH UC J6.pre J6.posts gs out
abbrev Xt:aK:=fun gs out=>aU Tryz.prog aH U7 LG.pre LG.posts gs out
abbrev c116:aK:=fun gs out=>aU Tryz.prog aH Uw JY.pre JY.posts gs out
abbrev V8:aK:=fun gs out=>aU Tryz.prog aH UJ Kt.pre Kt.posts gs out
abbrev V5:aK:=fun gs out=>aU Tryz.prog aH UF J9.pre J9.posts gs out
abbrev Ws:aK:=fun gs out=>aU Tryz.prog aH UO KE.pre KE.posts gs out
abbrev Xo:aK:=fun gs out=>aU Tryz.prog aH U5 s82.pre s82.posts gs out
abbrev c12:aK:=fun gs out=>aU Tryz.prog aH b12 s12.pre s12.posts gs out
abbrev c85:aK:=fun gs out=>aU Tryz.prog aH U6 LD.pre LD.posts gs out
abbrev c139:aK:=fun gs out=>aU Tryz.prog aH UE J8.pre J8.posts gs out
abbrev Vy:aK:=fun gs out=>aU Tryz.prog aH NQ JR.pre JR.posts gs out
abbrev Wh:aK:=fun gs out=>aU Tryz.prog aH NT Kv.pre Kv.posts gs out
abbrev c154:aK:=fun gs out=>aU Tryz.prog aH UM Kz.pre Kz.posts gs out
abbrev c6:aK:=fun gs out=>aU Tryz.prog aH b6 s6.pre s6.posts gs out
noncomputable def Cs:List aK:=[c0,c1,c2,c3,c4,c5,c6,c7,c8,c9,c10,c11,c12,c13,c14,c15,c16,c17,c18,c19,c20,c21,Wv,c23,c24,c25,Wx,Wy,c28,c29,WA,c31,c32,WB,c34,WC,WE,c37,WG,WH,c40,WI,WJ,WL,WM,WO,c46,WQ,WR,c49,WS,c51,WT,c53,WU,WV,WW,WX,WY,c59,WZ,W9,Xa,Xb,c64,Xc,Xd,Xe,Xf,Xg,c70,Xh,c72,Xi,Xj,c75,c76,Xk,Xl,Xm,c80,Xn,Xo,Xp,Xq,c85,Xr,c87,Xt,Xu,Xv,c91,Xw,c93,Xx,Xy,Xz,XA,XB,XC,Vt,Vu,Vw,Vx,Vy,c105,Vz,c107,VA,c109,VB,VD,VE,VF,VH,VI,c116,c117,VJ,c119,VK,VL,VN,VO,c124,VP,VQ,c127,VT,VU,c130,c131,VW,VX,VY,VZ,V3,V4,c138,c139,V5,c141,V6,c143,V7,c145,c146,V8,c148,V9,Wh,Wi,c152,Wj,c154,Wl,c156,c157,Wn,c159,c160,Wp,c162,Wq,c164,Ws,Wu,c167,c168]
noncomputable abbrev C:=Gx Cs
noncomputable def pl:nV:=PL.cons 96 (fun N=>jB (jB (jB (jB (jB (jB (jB (jB (jB (jB (jB (jB (jB (jB (jB (jB (jB (jB (jB (jB (jB (jB (@jh N Tryz.prog [] Lr) (@jh N Tryz.prog [] Lp)) (@jh N Tryz.prog [] Lm)) (@jh N Tryz.prog [] Ll)) (@jh N Tryz.prog [] s72)) (@jh N Tryz.prog [] Lj)) (@jh N Tryz.prog [] Lh)) (@jh N Tryz.prog [] Le)) (@jh N Tryz.prog [] s68)) (@jh N Tryz.prog [] Ld)) (@jh N Tryz.prog [] Lc)) (@jh N Tryz.prog [] La)) (@jh N Tryz.prog [] KZ)) (@jh N Tryz.prog [] KY)) (@jh N Tryz.prog [] KX)) (@jh N Tryz.prog [] KW)) (@jh N Tryz.prog [] KT)) (@jh N Tryz.prog [] s53)) (@jh N Tryz.prog [] KQ)) (@jh N Tryz.prog [] KP)) (@jh N Tryz.prog [] KO)) (@jh N Tryz.prog [] KN)) (@jh N Tryz.prog [] KL)) (PL.cons 102 (fun N=>@jh N Tryz.prog [] LM) (PL.cons 12 (fun N=>@bn N Tryz.prog 20 [] [.ag 24]) (PL.cons 116 (fun N=>@bn N Tryz.prog 101 [] [.sc]) (PL.cons 44 (fun N=>@bn N Tryz.prog 29 [] [.sc]) (PL.cons 61 (fun N=>@bn N Tryz.prog 114 [] [.sc]) (PL.cons 58 (fun N=>@bn N Tryz.prog 107 [] [.sc,.sc]) (PL.cons 89 (fun N=>@bn N Tryz.prog 103 [] [.sc]) (PL.cons 120 (fun N=>@bn N Tryz.prog 113 [] [.sc]) (PL.cons 105 (fun N=>@bn N Tryz.prog 125 [] [.sc]) (PL.cons 123 (fun N=>@bn N Tryz.prog 157 [] [.sc]) (PL.cons 121 (fun N=>@bn N Tryz.prog 118 [] [.sc,.sc]) (PL.cons 110 (fun N=>@bn N Tryz.prog 141 [] [.sc]) (PL.cons 133 (fun N=>@bn N Tryz.prog 35 [] [.sc]) (PL.cons 63 (fun N=>@bn N Tryz.prog 163 [] [.sc]) (PL.cons 157 (fun N=>@bn N Tryz.prog 78 [] [.sc]) (PL.cons 60 (fun N=>@bn N Tryz.prog 156 [] [.sc,.sc]) (PL.cons 134 (fun N=>@bn N Tryz.prog 36 [] [.sc]) (PL.cons 11 (fun N=>@bn N Tryz.prog 16 [] [.ag 24]) (PL.cons 25 (fun N=>@bn N Tryz.prog 30 [] [.sc]) (PL.cons 132 (fun N=>@bn N Tryz.prog 34 [] [.sc]) (PL.cons 118 (fun N=>@bn N Tryz.prog 111 [] [.sc]) (PL.cons 106 (fun N=>@bn N Tryz.prog 112 [] [.sc]) (PL.cons 233 (fun N=>@bn N Tryz.prog 132 [] [.sc]) (PL.cons 48 (fun N=>@bn N Tryz.prog 14 [] [.sc]) (PL.cons 55 (fun N=>@bn N Tryz.prog 145 [] [.sc]) (PL.cons 59 (fun N=>@bn N Tryz.prog 148 [] [.sc,.sc]) (PL.cons 115 (fun N=>@bn N Tryz.prog 92 [] [.sc]) (PL.cons 196 (fun N=>@bn N Tryz.prog 128 [] [.sc]) (PL.cons 171 (fun N=>@bn N Tryz.prog 158 [] [.sc]) (PL.cons 98 (fun N=>@bn N Tryz.prog 77 [] [.sc]) (PL.cons 10 (fun N=>@bn N Tryz.prog 2 [] [.sc]) (PL.cons 32 (fun N=>@bn N Tryz.prog 83 [] [.ag 5,.sc]) (PL.cons 146 (fun N=>@bn N Tryz.prog 86 [] [.sc]) (PL.cons 57 (fun N=>@bn N Tryz.prog 100 [] [.sc]) (PL.cons 18 (fun N=>@bn N Tryz.prog 162 [] [.sc]) (PL.cons 49 (fun N=>@bn N Tryz.prog 17 [] [.sc]) (PL.cons 104 (fun N=>@bn N Tryz.prog 106 [] [.sc]) (PL.cons 193 (fun N=>@bn N Tryz.prog 49 [] [.sc]) (PL.cons 164 (fun N=>@bn N Tryz.prog 121 [] [.sc]) (PL.cons 101 (fun N=>@bn N Tryz.prog 94 [] [.sc]) (PL.cons 84 (fun N=>@bn N Tryz.prog 84 [] [.sc,.sc]) (PL.cons 65 (fun N=>@bn N Tryz.prog 60 [] [.sc]) (PL.cons 117 (fun N=>@bn N Tryz.prog 108 [] [.sc]) (PL.cons 16 (fun N=>@bn N Tryz.prog 146 [] [.sc,.sc]) (PL.cons 47 (fun N=>@bn N Tryz.prog 5 [] [.sc]) (PL.cons 52 (fun N=>@bn N Tryz.prog 93 [] [.sc,.sc]) (PL.cons 13 (fun N=>@bn N Tryz.prog 27 [] [.sc,.sc]) (PL.cons 136 (fun N=>@bn N Tryz.prog 38 [] [.sc]) (PL.cons 135 (fun N=>@bn N Tryz.prog 37 [] [.sc]) (PL.cons 19 (fun N=>@bn N Tryz.prog 166 [] [.sc]) (PL.cons 126 (fun N=>@bn N Tryz.prog 13 [] [.sc]) (PL.cons 23 (fun N=>@bn N Tryz.prog 58 [] [.sc]) (PL.cons 21 (fun N=>@bn N Tryz.prog 168 [] [.sc]) (PL.cons 229 (fun N=>@bn N Tryz.prog 50 [] [.sc]) (PL.cons 51 (fun N=>@bn N Tryz.prog 23 [] [.sc]) (PL.cons 46 (fun N=>@bn N Tryz.prog 3 [] [.sc]) (PL.cons 100 (fun N=>@bn N Tryz.prog 18 [] [.sc,.sc]) (PL.cons 66 (fun N=>@bn N Tryz.prog 7 [] [.sc]) (PL.cons 103 (fun N=>@bn N Tryz.prog 9 [] [.sc]) (PL.cons 77 (fun N=>@bn N Tryz.prog 42 [] [.sc]) (PL.cons 138 (fun N=>@bn N Tryz.prog 40 [] [.sc]) (PL.cons 124 (fun N=>@bn N Tryz.prog 54 [] [.sc]) (PL.cons 53 (fun N=>@bn N Tryz.prog 8 [] [.sc]) (PL.cons 173 (fun N=>@bn N Tryz.prog 56 [] [.sc]) (PL.cons 112 (fun N=>@Q5 N 0 113) (PL.cons 20 (fun N=>@bn N Tryz.prog 25 [] [.sc]) (PL.cons 169 (fun N=>@bn N Tryz.prog 117 [] [.sc]) (PL.cons 160 (fun N=>@bn N Tryz.prog 126 [] [.sc]) (PL.cons 50 (fun N=>@bn N Tryz.prog 21 [] [.sc]) (PL.cons 163 (fun N=>@bn N Tryz.prog 130 [] [.sc]) (PL.cons 56 (fun N=>@bn N Tryz.prog 89 [] [.sc,.sc]) (PL.cons 15 (fun N=>@bn N Tryz.prog 28 [] [.sc,.sc]) (PL.cons 209 (fun N=>@bn N Tryz.prog 159 [] [.ag 16]) (PL.cons 156 (fun N=>@bn N Tryz.prog 48 [] [.sc]) (PL.cons 208 (fun N=>@bn N Tryz.prog 137 [] [.sc]) (PL.cons 111 (fun N=>@bn N Tryz.prog 153 [] [.sc]) (PL.cons 54 (fun N=>@bn N Tryz.prog 99 [] [.sc]) (PL.cons 17 (fun N=>@bn N Tryz.prog 155 [] [.sc,.sc]) (PL.cons 165 (fun N=>@bn N Tryz.prog 134 [] [.sc]) (PL.cons 14 (fun N=>@bn N Tryz.prog 98 [] [.sc,.sc]) (PL.cons 131 (fun N=>@bn N Tryz.prog 32 [] [.sc]) (PL.cons 170 (fun N=>@bn N Tryz.prog 135 [] [.sc]) (PL.cons 239 (fun N=>@bn N Tryz.prog 138 [] [.sc]) (PL.cons 137 (fun N=>@bn N Tryz.prog 39 [] [.sc]) (PL.cons 107 (fun N=>@bn N Tryz.prog 122 [] [.sc]) (PL.cons 3 (fun N=>@bn N Tryz.prog 1 [] [.sc]) (PL.cons 26 (fun N=>@bn N Tryz.prog 31 [] [.sc]) (PL.cons 197 (fun N=>@bn N Tryz.prog 131 [] [.sc]) (PL.cons 108 (fun N=>@bn N Tryz.prog 119 [] [.sc]) (PL.cons 184 (fun N=>@bn N Tryz.prog 87 [] [.sc]) (PL.cons 162 (fun N=>@bn N Tryz.prog 124 [] [.sc]) (PL.cons 9 (fun _=>AA) (PL.cons 210 (fun _=>FP) (PL.nil))))))))))))))))))))))))))))))))))))))))))))))))))))))))))))))))))))))))))))))))))))))))))))))
end Q
end Go.Proofs.YthgifdbaegpbpaaGreatDoor
