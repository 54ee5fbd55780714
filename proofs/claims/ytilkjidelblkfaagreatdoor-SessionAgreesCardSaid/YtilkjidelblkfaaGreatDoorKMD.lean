/- The shapes, and all definitions as rows. -/
import Derived.Test.YtilkjidelblkfaaGreatDoorKRBase
import Derived.Test.YtilkjidelblkfaaGreatDoorKMT
import Derived.Test.YtilkjidelblkfaaGreatDoorAbsTab
import Derived.Test.YtilkjidelblkfaaGreatDoorAbsPl
import Derived.Test.YtilkjidelblkfaaGreatDoorAbsTold
import Derived.Test.YtilkjidelblkfaaGreatDoorAbsTold2
import Derived.Test.YtilkjidelblkfaaGreatDoorAbsTold3
import Derived.Test.YtilkjidelblkfaaGreatDoorAbsFields
import Derived.Test.YtilkjidelblkfaaGreatDoorAbsSortF
namespace Go.Proofs.YtilkjidelblkfaaGreatDoor
open Go Go.aJ
set_option maxRecDepth 100000
set_option linter.unusedVariables false
set_option linter.unusedSimpArgs false
namespace M
def fE:Nat->Nat->List AV
 | _,0=>[]
 | a,n+1=>.nd a::fE (a+1) n
def oJ:Nat->Nat->List (Option Nat)
 | _,0=>[]
 | a,n+1=>some a::oJ (a+1) n
theorem low:sN fB Tryz.prog.globals.size:=by
 rw [WR];refine ⟨λp hp=>?_,λp hp=>?_⟩
 all_goals
  simp only [fB,bC,D5,or_false] at hp;rcases hp with rfl | rfl
  all_goals first | decide | rfl
def aP (np n gn next:Nat) (slots:List (Nat×AV)) (objs:List (Nat×aY)) (ka:Nat) (al:List (Option Nat)):fQ:={ np:=np,n:=n,gn:=gn,next:=next,slots:=slots,objs:=objs,ka:=ka,al:=al }
def bH (np n gn next:Nat) (slots:List (Nat×AV)) (objs:List (Nat×aY)):fQ:=aP np n gn next slots objs 0 []
def gy:List AV:=(fE 0 24)
def zO:List AV:=(fE 1 24)
def Gw:List AV:=[.i .i64 0,.i .u64 0,.i .u64 0,.i .u64 0,.i .u64 0,.i .u64 0,.i .u64 0,.i .u64 0,.i .u64 0,.i .u64 0,.i .u64 0,.i .u64 0,.i .u64 0,.i .u64 0,.i .u64 0,.i .u64 0,.i .i64 0,.b false,.s [],.s [],.s [],.bT,.bT,.bT]
def Nv:List AV:=[.nd 1,.nd 2,.nd 3,.nd 4,.nd 5,.nd 6,.p 6 0,.p 5 0]
def zq4:List AV:=(fE 5 24)
def zq5:List AV:=(fE 4 24)
def zq6:List AV:=(fE 3 24)
def zq7:List AV:=(fE 2 24)
def Ti:List AV:=[.nd 2,.nd 3,.nd 4,.nd 5,.nd 6,.nd 7,.p 6 0,.p 5 0]
def Y5:List AV:=[.nd 24,.nd 25,.nd 26,.nd 27,.nd 28,.nd 29,.p 6 0,.p 5 0]
def Y4:List AV:=[.nd 0,.nd 1,.nd 5,.nd 6,.bT]
def agl:List AV:=[.nd 19,.nd 20,.nd 21,.nd 22,.nd 23,.nd 24,.p 13 0,.p 14 0]
def aqM:aU:=⟨130,(bH 4 23 3 5 [(5,.sv 4 0),(10,.nd 1),(11,.nd 2),(12,.nd 3)] [(4,.vec 0 22 true)]),
 [(.exit 0,(bH 1 23 3 5 [(5,.sv 4 0)] [(4,.vec 0 22 true)]))]⟩
def s56:aU:=⟨56,(bH 5 46 3 5 [(1,.nd 0),(7,.sv 4 1),(30,.nd 2),(31,.nd 3),(32,.nd 4)] [(4,.vec 1 136 true)]),
 [(.exit 0,(bH 1 46 3 5 [(7,.sv 4 0)] [(4,.vec 0 136 true)]))]⟩
def aqO:aU:=⟨133,(bH 6 53 3 7 [(0,.nd 0),(4,.sv 4 1),(5,.sv 5 2),(6,.mp 6),(23,.nd 3),(24,.nd 4)] [(6,.smap 5 (some .u64) none),(5,.vec 2 142 true),(4,.vec 1 142 true)]),
 [(.exit 2,(bH 2 53 3 6 [(4,.sv 4 0),(5,.sv 5 1)] [(5,.vec 1 142 true),(4,.vec 0 142 true)]))]⟩
def aqy:aU:=⟨104,(bH 4 46 3 5 [(4,.sv 4 0),(9,.nd 1),(10,.nd 2),(11,.nd 3)] [(4,.vec 0 142 true)]),
 [(.ret,(bH 1 46 3 4 [(2,.bT),(3,.nd 0)] [])),
  (.exit 0,(bH 1 46 3 5 [(4,.sv 4 0)] [(4,.vec 0 142 true)]))]⟩
def s67:aU:=⟨67,(bH 27 116 3 5 [(2,.p 4 0),(6,.nd 0),(71,.nd 0),(72,.nd 1),(73,.nd 2)] [(4,.cells zq6 81 true false)]),
 [(.ret,(bH 1 116 3 4 [(4,.nd 0)] [])),
  (.exit 4,(aP 25 116 3 5 [(2,.p 4 0),(6,.nd 0)] [(4,.cells zO 81 true false)] 0 [some 0,some 3,some 4,some 5,some 6,some 7,some 8,some 9,some 10,some 11,some 12,some 13,some 14,some 15,some 16,some 17,some 18,some 19,some 20,some 21,some 22,some 23,some 24,some 25,some 26]))]⟩
def s28:aU:=⟨28,(bH 3 42 3 4 [(0,.nd 0),(15,.nd 0),(16,.nd 1),(17,.nd 2)] []),
 [(.ret,(bH 1 42 3 4 [(2,.nd 0)] [])),
  (.exit 0,(bH 0 42 3 4 [] []))]⟩
def aqF:aU:=⟨122,(aP 5 26 3 7 [(0,.p 4 0),(4,.sv 6 0)] [(4,.cells [.p 5 0,.nd 1,.nd 2] 186 true false),(5,.cells [.nd 3,.nd 4] 231 true false),(6,.vec 0 142 true)] 2 []),
 [(.ret,(aP 5 26 3 6 [(2,.bT),(3,.nd 0)] [(4,.cells [.p 5 0,.nd 1,.nd 2] 186 true false),(5,.cells [.nd 3,.nd 4] 231 true false)] 2 [none,some 1,none,none,none])),
  (.exit 0,(aP 5 26 3 7 [(4,.sv 6 0)] [(4,.cells [.p 5 0,.nd 1,.nd 2] 186 true false),(5,.cells [.nd 3,.nd 4] 231 true false),(6,.vec 0 142 true)] 2 [none,some 1,none,none,none]))]⟩
def s11:aU:=⟨11,(bH 3 37 3 4 [(0,.nd 0),(5,.nd 0),(6,.nd 1),(7,.nd 2)] []),
 [(.ret,(bH 0 37 3 4 [(2,.b false)] [])),
  (.exit 0,(aP 1 37 3 4 [(0,.nd 0)] [] 0 [some 0]))]⟩
def s25:aU:=⟨25,(bH 4 42 3 4 [(3,.nd 0),(11,.nd 1),(12,.nd 2),(13,.nd 3)] []),
 [(.ret,(bH 1 42 3 4 [(2,.nd 0)] [])),
  (.exit 0,(bH 0 42 3 4 [] []))]⟩
def aq0:aU:=⟨157,(bH 3 106 3 5 [(0,.nd 0),(1,.nd 1),(6,.sv 4 2)] [(4,.vec 2 113 false)]),
 [(.ret,(bH 0 106 3 4 [(4,.bT),(5,.i .i64 3)] [])),
  (.exit 0,(bH 1 106 3 5 [(6,.sv 4 0)] [(4,.vec 0 113 false)]))]⟩
def s18:aU:=⟨18,(bH 4 33 3 5 [(0,.nd 0),(3,.sv 4 1),(9,.nd 2),(10,.nd 3)] [(4,.vec 1 5 false)]),
 [(.exit 0,(bH 1 33 3 5 [(3,.sv 4 0)] [(4,.vec 0 5 false)]))]⟩
def s33:aU:=⟨33,(bH 32 218 3 16 [(7,.p 4 0),(9,.p 5 0),(11,.nd 0),(12,.nd 1),(13,.sl 6 0 2 (some 2)),(14,.sl 7 0 2 (some 2)),(63,.nd 2),(64,.nd 3),(65,.nd 4),(140,.sl 6 0 2 (some 2)),(141,.i .i64 2),(142,.nd 5)] [(7,.cells [.sv 8 6,.sv 9 7] 43 true false),(9,.vec 7 9 true),(8,.vec 6 9 true),(6,.cells [.p 4 0,.p 5 0] 27 true false),(5,.cells [.nd 8,.nd 9,.nd 10,.nd 11,.nd 12,.nd 13,.p 10 0,.p 11 0] 74 true false),(11,.cells (fE 14 4) 110 true false),(10,.cells [.nd 14,.sv 12 18,.nd 19] 108 true false),(12,.vec 18 38 true),(4,.cells [.nd 20,.nd 21,.nd 22,.nd 23,.nd 24,.nd 25,.p 13 0,.p 14 0] 74 true false),(14,.cells (fE 26 4) 110 true false),(13,.cells [.nd 26,.sv 15 30,.nd 31] 108 true false),(15,.vec 30 38 true)]),
 [(.ret,(bH 0 218 3 4 [(6,.b false)] [])),
  (.exit 3,(aP 31 218 3 16 [(7,.p 4 0),(9,.p 5 0),(11,.nd 0),(12,.nd 1),(13,.sl 6 0 2 (some 2)),(14,.sl 7 0 2 (some 2)),(63,.nd 2),(64,.nd 3),(65,.nd 4)] [(7,.cells [.sv 8 5,.sv 9 6] 43 true false),(9,.vec 6 9 true),(8,.vec 5 9 true),(6,.cells [.p 4 0,.p 5 0] 27 true false),(5,.cells [.nd 7,.nd 8,.nd 9,.nd 10,.nd 11,.nd 12,.p 10 0,.p 11 0] 74 true false),(11,.cells (fE 13 4) 110 true false),(10,.cells [.nd 13,.sv 12 17,.nd 18] 108 true false),(12,.vec 17 38 true),(4,.cells agl 74 true false),(14,.cells (fE 25 4) 110 true false),(13,.cells [.nd 25,.sv 15 29,.nd 30] 108 true false),(15,.vec 29 38 true)] 0 [some 0,some 1,some 2,some 3,some 4,some 6,some 7,some 8,some 9,some 10,some 11,some 12,some 13,some 14,some 15,some 16,some 17,some 18,some 19,some 20,some 21,some 22,some 23,some 24,some 25,some 26,some 27,some 28,some 29,some 30,some 31]))]⟩
def aq4:aU:=⟨168,(bH 1 80 3 5 [(5,.sv 4 0)] [(4,.vec 0 264 false)]),
 [(.ret,(bH 0 80 3 4 [(4,.b false)] [])),
  (.exit 0,(bH 0 80 3 4 [] []))]⟩
def s44:aU:=⟨44,(aP 5 24 3 6 [(1,.nd 0),(11,.sv 5 1),(12,.nd 2),(13,.nd 3)] [(4,.cells [.nd 4,.sv 5 1,.nd 0] 108 true false),(5,.vec 1 38 true)] 1 []),
 [(.ret,(aP 4 24 3 6 [(4,.nd 0),(5,.b true)] [(4,.cells [.nd 1,.sv 5 2,.nd 3] 108 true false),(5,.vec 2 38 true)] 1 [none,some 4,some 1,some 0])),
  (.exit 0,(aP 3 24 3 6 [] [(4,.cells [.nd 0,.sv 5 1,.nd 2] 108 true false),(5,.vec 1 38 true)] 1 [some 4,some 1,some 0]))]⟩
def aqz:aU:=⟨105,(bH 2 46 3 5 [(4,.sv 4 0),(8,.nd 1)] [(4,.vec 0 142 true)]),
 [(.ret,(bH 0 46 3 4 [(2,.bT),(3,.i .i64 14)] [])),
  (.exit 2,(aP 1 46 3 5 [(4,.sv 4 0)] [(4,.vec 0 142 true)] 0 [some 0]))]⟩
def aqC:aU:=⟨111,(bH 4 69 3 5 [(0,.sv 4 0),(1,.nd 1),(8,.nd 2),(9,.nd 3)] [(4,.vec 0 5 false)]),
 [(.exit 0,(bH 1 69 3 5 [(0,.sv 4 0)] [(4,.vec 0 5 false)]))]⟩
def s99:aU:=⟨99,(bH 5 42 3 6 [(5,.p 4 0),(6,.nd 0),(22,.nd 1),(23,.nd 2),(24,.nd 3)] [(4,.cells [.p 4 0,.sv 5 4] 168 true false),(5,.vec 4 5 true)]),
 [(.exit 0,(bH 1 42 3 6 [(5,.p 4 0)] [(4,.cells [.p 4 0,.sv 5 0] 168 true false),(5,.vec 0 5 true)]))]⟩
def s66:aU:=⟨66,(bH 29 116 3 6 [(2,.p 4 0),(6,.nd 0),(7,.mp 5),(54,.nd 1),(55,.nd 2),(56,.nd 3)] [(5,.smap 4 none none),(4,.cells zq4 81 true false)]),
 [(.ret,(bH 0 116 3 4 [(4,.i .i64 26)] [])),
  (.exit 2,(aP 25 116 3 5 [(2,.p 4 0),(6,.nd 0)] [(4,.cells zO 81 true false)] 0 [some 0,some 5,some 6,some 7,some 8,some 9,some 10,some 11,some 12,some 13,some 14,some 15,some 16,some 17,some 18,some 19,some 20,some 21,some 22,some 23,some 24,some 25,some 26,some 27,some 28]))]⟩
def s19:aU:=⟨19,(bH 4 22 3 6 [(3,.p 4 0),(11,.nd 0),(12,.nd 1),(13,.nd 2)] [(4,.cells [.p 4 0,.sv 5 3] 168 true false),(5,.vec 3 5 true)]),
 [(.exit 0,(bH 1 22 3 6 [(3,.p 4 0)] [(4,.cells [.p 4 0,.sv 5 0] 168 true false),(5,.vec 0 5 true)]))]⟩
def s31:aU:=⟨31,(bH 5 32 3 7 [(2,.p 4 0),(3,.p 5 0),(14,.nd 0),(15,.nd 1),(16,.nd 2)] [(5,.cells [.nd 3,.sv 6 4] 38 true false),(6,.vec 4 113 false),(4,.cells [.i .u64 0,.bT] 38 true false)]),
 [(.exit 0,(aP 2 32 3 7 [(2,.p 4 0),(3,.p 5 0)] [(5,.cells [.nd 0,.sv 6 1] 38 true false),(6,.vec 1 113 false),(4,.cells [.i .u64 0,.bT] 38 true false)] 0 [some 3,none]))]⟩
def aqT:aU:=⟨142,(aP 5 60 3 6 [(0,.p 4 0),(7,.sv 5 0),(28,.nd 1),(29,.nd 2)] [(4,.cells [.nd 3,.nd 4] 231 true false),(5,.vec 0 165 false)] 1 []),
 [(.ret,(aP 3 60 3 5 [(2,.bT),(3,.nd 0)] [(4,.cells [.nd 1,.nd 2] 231 true false)] 1 [])),
  (.exit 0,(aP 3 60 3 6 [(7,.sv 5 0)] [(4,.cells [.nd 1,.nd 2] 231 true false),(5,.vec 0 165 false)] 1 []))]⟩
def s38:aU:=⟨38,(bH 8 59 3 5 [(0,.nd 0),(5,.nd 1),(7,.p 4 0),(8,.nd 2),(9,.nd 3),(10,.nd 4),(11,.nd 5)] [(4,.cells [.nd 6,.nd 7] 113 true false)]),
 [(.exit 2,(aP 11 59 3 5 [(0,.nd 0),(5,.nd 1),(7,.p 4 0),(8,.nd 2),(9,.nd 3),(10,.nd 4),(11,.nd 5),(23,.nd 0),(24,.nd 1),(25,.rx 6 0),(26,.rx 6 0),(27,.nd 7),(28,.nd 8),(29,.nd 2),(30,.b false)] [(4,.cells [.nd 9,.nd 10] 113 true false)] 0 [some 0,none,some 2,some 3,some 4,some 5,none,none,none,some 6,some 7])),
  (.exit 2,(aP 8 59 3 5 [(0,.nd 0),(5,.nd 1),(7,.p 4 0),(8,.nd 2),(9,.nd 3),(10,.nd 4),(11,.nd 5),(23,.bY []),(24,.bY []),(25,.bY []),(26,.bY []),(27,.bY []),(28,.bY []),(29,.bY []),(30,.bY [])] [(4,.cells [.nd 6,.nd 7] 113 true false)] 0 [some 0,none,some 2,some 3,some 4,some 5,some 6,some 7]))]⟩
def aqA:aU:=⟨109,(bH 4 66 3 4 [(0,.nd 0),(3,.nd 1),(8,.nd 2),(9,.nd 3)] []),
 [(.exit 0,(bH 1 66 3 4 [(3,.nd 0)] []))]⟩
def s95:aU:=⟨95,(bH 11 116 3 5 [(6,.nd 0),(18,.p 4 0),(97,.nd 1),(98,.nd 2),(99,.nd 3),(103,.nd 0),(104,.nd 4),(105,.nd 5)] [(4,.cells (fE 6 5) 142 true false)]),
 [(.ret,(bH 0 116 3 4 [(4,.i .i64 14)] [])),
  (.exit 8,(aP 4 116 3 4 [(6,.nd 0),(97,.nd 1),(98,.nd 2),(99,.nd 3)] [] 0 (oJ 0 4)))]⟩
def s46:aU:=⟨46,(bH 7 85 3 7 [(4,.p 4 0),(7,.p 5 0),(8,.nd 0),(43,.nd 1),(44,.nd 2),(45,.nd 3)] [(5,.cells [.nd 4,.nd 5,.sv 6 6] 124 true false),(6,.vec 6 113 true),(4,.cells [.i .u64 0,.i .u64 0,.bT] 124 true false)]),
 [(.exit 0,(aP 3 85 3 7 [(4,.p 4 0),(7,.p 5 0)] [(5,.cells [.nd 0,.nd 1,.sv 6 2] 124 true false),(6,.vec 2 113 true),(4,.cells [.i .u64 0,.i .u64 0,.bT] 124 true false)] 0 [some 4,some 5,none]))]⟩
def aqD:aU:=⟨119,(bH 4 50 3 4 [(0,.nd 0),(5,.nd 1),(9,.nd 2),(10,.nd 3)] []),
 [(.ret,(bH 3 50 3 4 [(2,.nd 0),(3,.nd 1),(4,.nd 2)] [])),
  (.exit 0,(bH 1 50 3 4 [(0,.nd 0)] []))]⟩
def aqL:aU:=⟨128,(bH 7 123 3 6 [(1,.nd 0),(4,.p 4 0),(9,.nd 1),(11,.nd 2),(12,.mp 5),(70,.nd 3),(71,.nd 4),(72,.nd 5)] [(5,.smap 6 (some .u64) none),(4,.cells Gw 81 true false)]),
 [(.exit 0,(aP 4 123 3 6 [(1,.nd 0),(4,.p 4 0),(9,.nd 1),(11,.nd 2),(12,.mp 5)] [(5,.smap 3 (some .u64) none),(4,.cells Gw 81 true false)] 0 [some 0,some 1,some 2,none]))]⟩
def s64:aU:=⟨64,(bH 28 116 3 6 [(2,.p 4 0),(6,.nd 0),(7,.mp 5),(44,.nd 0),(45,.nd 1),(46,.nd 2)] [(5,.smap 3 none none),(4,.cells zq5 81 true false)]),
 [(.exit 0,(aP 26 116 3 6 [(2,.p 4 0),(6,.nd 0),(7,.mp 5)] [(5,.smap 1 none none),(4,.cells zq7 81 true false)] 0 [some 0,none,some 4,some 5,some 6,some 7,some 8,some 9,some 10,some 11,some 12,some 13,some 14,some 15,some 16,some 17,some 18,some 19,some 20,some 21,some 22,some 23,some 24,some 25,some 26,some 27]))]⟩
def s37:aU:=⟨37,(bH 5 59 3 4 [(0,.nd 0),(5,.nd 1),(9,.nd 2),(10,.nd 3),(11,.nd 4)] []),
 [(.ret,(bH 0 59 3 4 [(4,.b false)] [])),
  (.exit 0,(bH 0 59 3 4 [] []))]⟩
def aq3:aU:=⟨165,(bH 4 32 3 4 [(1,.nd 0),(2,.fn 193 [] []),(15,.nd 1),(16,.nd 2),(17,.nd 3)] []),
 [(.ret,(bH 0 32 3 4 [(6,.b false)] [])),
  (.exit 0,(bH 0 32 3 4 [] []))]⟩
def aq8:aU:=⟨173,(aP 6 24 3 6 [(1,.nd 0),(11,.sv 5 1),(12,.nd 2),(13,.nd 3)] [(4,.cells [.nd 4,.sv 5 1,.nd 5] 108 true false),(5,.vec 1 38 true)] 1 []),
 [(.ret,(aP 4 24 3 6 [(4,.nd 0),(5,.b true)] [(4,.cells [.nd 1,.sv 5 2,.nd 3] 108 true false),(5,.vec 2 38 true)] 1 [none,some 4,some 1,some 5])),
  (.exit 0,(aP 3 24 3 6 [] [(4,.cells [.nd 0,.sv 5 1,.nd 2] 108 true false),(5,.vec 1 38 true)] 1 [some 4,some 1,some 5]))]⟩
def s13:aU:=⟨13,(bH 3 23 3 4 [(0,.nd 0),(5,.nd 0),(6,.nd 1),(7,.nd 2)] []),
 [(.ret,(bH 0 23 3 4 [(2,.b false)] [])),
  (.exit 0,(aP 1 23 3 4 [(0,.nd 0)] [] 0 [some 0]))]⟩
def arl:aU:=⟨188,(bH 29 218 3 12 [(7,.p 4 0),(9,.p 5 0),(12,.nd 0),(180,.nd 1),(183,.nd 2),(184,.nd 3),(185,.nd 4)] [(5,.cells [.nd 5,.nd 6,.nd 7,.nd 8,.nd 9,.nd 10,.p 6 0,.p 7 0] 74 true false),(7,.cells (fE 11 4) 110 true false),(6,.cells [.nd 11,.sv 8 15,.nd 16] 108 true false),(8,.vec 15 38 true),(4,.cells [.nd 17,.nd 18,.nd 19,.nd 20,.nd 21,.nd 22,.p 9 0,.p 10 0] 74 true false),(10,.cells (fE 23 4) 110 true false),(9,.cells [.nd 23,.sv 11 27,.nd 28] 108 true false),(11,.vec 27 38 true)]),
 [(.exit 7,(aP 26 218 3 12 [(7,.p 4 0),(9,.p 5 0),(12,.nd 0),(180,.nd 1)] [(5,.cells [.nd 2,.nd 3,.nd 4,.nd 5,.nd 6,.nd 7,.p 6 0,.p 7 0] 74 true false),(7,.cells (fE 8 4) 110 true false),(6,.cells [.nd 8,.sv 8 12,.nd 13] 108 true false),(8,.vec 12 38 true),(4,.cells [.nd 14,.nd 15,.nd 16,.nd 17,.nd 18,.nd 19,.p 9 0,.p 10 0] 74 true false),(10,.cells (fE 20 4) 110 true false),(9,.cells [.nd 20,.sv 11 24,.nd 25] 108 true false),(11,.vec 24 38 true)] 0 [some 0,some 1,some 5,some 6,some 7,some 8,none,none,none,none,none,none,none,none,some 17,some 18,some 19,some 20,none,none,none,none,none,none,none,none]))]⟩
def s93:aU:=⟨93,(bH 5 46 3 4 [(1,.nd 0),(5,.nd 1),(9,.nd 2),(10,.nd 3),(11,.nd 4)] []),
 [(.ret,(bH 1 46 3 4 [(4,.nd 0)] [])),
  (.exit 0,(bH 0 46 3 4 [] []))]⟩
def aqN:aU:=⟨132,(bH 5 53 3 5 [(0,.nd 0),(4,.bT),(5,.bT),(6,.mp 4),(13,.nd 1),(14,.nd 2),(15,.nd 3)] [(4,.smap 4 (some .u64) none)]),
 [(.exit 0,(aP 2 53 3 5 [(0,.nd 0),(4,.bT),(5,.bT),(6,.mp 4)] [(4,.smap 1 (some .u64) none)] 0 [some 0,none]))]⟩
def aq5:aU:=⟨169,(bH 5 80 3 6 [(5,.sv 4 0),(6,.p 5 0),(37,.nd 1),(38,.nd 2)] [(5,.cells [.nd 3,.nd 4] 264 true false),(4,.vec 0 264 false)]),
 [(.ret,(bH 0 80 3 4 [(4,.b false)] [])),
  (.exit 2,(bH 1 80 3 5 [(5,.sv 4 0)] [(4,.vec 0 264 false)]))]⟩
def aqP:aU:=⟨134,(bH 30 123 3 7 [(1,.nd 0),(4,.p 4 0),(12,.mp 5),(15,.p 6 0),(17,.nd 1),(92,.nd 2),(93,.nd 3),(94,.nd 4)] [(6,.cells zq4 81 true false),(5,.smap 29 (some .u64) none),(4,.cells Gw 81 true false)]),
 [(.ret,(bH 1 123 3 5 [(4,.p 4 0),(5,.nd 0)] [(4,.cells Gw 81 true false)])),
  (.exit 2,(aP 26 123 3 6 [(1,.nd 0),(4,.p 4 0),(15,.p 5 0),(17,.nd 1)] [(5,.cells zq7 81 true false),(4,.cells Gw 81 true false)] 0 [some 0,some 1,none,none,none,none,none,none,none,none,none,none,none,none,none,none,none,none,none,none,none,none,none,none,none,none]))]⟩
def aq1:aU:=⟨160,(bH 51 30 3 6 [(2,.p 4 0),(3,.p 5 0),(12,.nd 0),(13,.nd 1),(14,.nd 2)] [(5,.cells zq6 81 true false),(4,.cells (fE 27 24) 81 true false)]),
 [(.ret,(bH 0 30 3 4 [(4,.b false)] [])),
  (.exit 0,(aP 48 30 3 6 [(2,.p 4 0),(3,.p 5 0)] [(5,.cells gy 81 true false),(4,.cells (fE 24 24) 81 true false)] 0 (oJ 3 48)))]⟩
def arn:aU:=⟨189,(bH 32 218 3 12 [(7,.p 4 0),(9,.p 5 0),(12,.nd 0),(180,.nd 1),(183,.nd 2),(184,.nd 3),(185,.nd 4),(195,.nd 5),(196,.nd 6),(197,.nd 7)] [(5,.cells [.nd 8,.nd 9,.nd 10,.nd 11,.nd 12,.nd 13,.p 6 0,.p 7 0] 74 true false),(7,.cells (fE 14 4) 110 true false),(6,.cells [.nd 14,.sv 8 18,.nd 19] 108 true false),(8,.vec 18 38 true),(4,.cells [.nd 20,.nd 21,.nd 22,.nd 23,.nd 24,.nd 25,.p 9 0,.p 10 0] 74 true false),(10,.cells (fE 26 4) 110 true false),(9,.cells [.nd 26,.sv 11 30,.nd 31] 108 true false),(11,.vec 30 38 true)]),
 [(.exit 9,(aP 29 218 3 12 [(7,.p 4 0),(9,.p 5 0),(12,.nd 0),(180,.nd 1),(183,.nd 2),(184,.nd 3),(185,.nd 4)] [(5,.cells [.nd 5,.nd 6,.nd 7,.nd 8,.nd 9,.nd 10,.p 6 0,.p 7 0] 74 true false),(7,.cells (fE 11 4) 110 true false),(6,.cells [.nd 11,.sv 8 15,.nd 16] 108 true false),(8,.vec 15 38 true),(4,.cells [.nd 17,.nd 18,.nd 19,.nd 20,.nd 21,.nd 22,.p 9 0,.p 10 0] 74 true false),(10,.cells (fE 23 4) 110 true false),(9,.cells [.nd 23,.sv 11 27,.nd 28] 108 true false),(11,.vec 27 38 true)] 0 [some 0,some 1,some 2,some 3,some 4,some 8,some 9,some 10,some 11,some 12,some 13,some 14,some 15,some 16,some 17,some 18,some 19,some 20,some 21,some 22,some 23,none,none,none,none,none,none,none,none]))]⟩
def s96:aU:=⟨96,(bH 28 61 3 6 [(2,.p 4 0),(7,.sv 5 0),(21,.nd 1),(22,.nd 2),(23,.nd 3)] [(5,.vec 0 142 true),(4,.cells zq5 81 true false)]),
 [(.exit 0,(aP 25 61 3 5 [(2,.p 4 0),(7,.nd 0)] [(4,.cells zO 81 true false)] 0 [none,some 4,some 5,some 6,some 7,some 8,some 9,some 10,some 11,some 12,some 13,some 14,some 15,some 16,some 17,some 18,some 19,some 20,some 21,some 22,some 23,some 24,some 25,some 26,some 27]))]⟩
def s94:aU:=⟨94,(bH 4 116 3 4 [(6,.nd 0),(97,.nd 1),(98,.nd 2),(99,.nd 3)] []),
 [(.ret,(bH 0 116 3 4 [(4,.i .i64 14)] [])),
  (.exit 6,(bH 0 116 3 4 [] []))]⟩
def aqX:aU:=⟨147,(aP 6 56 3 6 [(0,.p 4 0),(6,.sv 5 0),(7,.nd 1),(25,.nd 2),(26,.nd 3)] [(4,.cells [.nd 4,.nd 5] 231 true false),(5,.vec 0 113 false)] 1 []),
 [(.ret,(aP 3 56 3 5 [(2,.bT),(3,.nd 0)] [(4,.cells [.nd 1,.nd 2] 231 true false)] 1 [])),
  (.exit 0,(aP 3 56 3 6 [(6,.sv 5 0)] [(4,.cells [.nd 1,.nd 2] 231 true false),(5,.vec 0 113 false)] 1 []))]⟩
def s8:aU:=⟨8,(bH 31 218 3 16 [(7,.p 4 0),(9,.p 5 0),(11,.nd 0),(12,.nd 1),(13,.sl 6 0 2 (some 2)),(14,.sl 7 0 2 (some 2)),(63,.nd 2),(64,.nd 3),(65,.nd 4)] [(7,.cells [.sv 8 5,.sv 9 6] 43 true false),(9,.vec 6 9 true),(8,.vec 5 9 true),(6,.cells [.p 4 0,.p 5 0] 27 true false),(5,.cells [.nd 7,.nd 8,.nd 9,.nd 10,.nd 11,.nd 12,.p 10 0,.p 11 0] 74 true false),(11,.cells (fE 13 4) 110 true false),(10,.cells [.nd 13,.sv 12 17,.nd 18] 108 true false),(12,.vec 17 38 true),(4,.cells agl 74 true false),(14,.cells (fE 25 4) 110 true false),(13,.cells [.nd 25,.sv 15 29,.nd 30] 108 true false),(15,.vec 29 38 true)]),
 [(.ret,(bH 1 218 3 4 [(6,.nd 0)] [])),
  (.exit 0,(aP 25 218 3 12 [(7,.p 4 0),(9,.p 5 0),(12,.nd 0)] [(5,.cells [.nd 1,.nd 2,.nd 3,.nd 4,.nd 5,.nd 6,.p 6 0,.p 7 0] 74 true false),(7,.cells (fE 7 4) 110 true false),(6,.cells [.nd 7,.sv 8 11,.nd 12] 108 true false),(8,.vec 11 38 true),(4,.cells [.nd 13,.nd 14,.nd 15,.nd 16,.nd 17,.nd 18,.p 9 0,.p 10 0] 74 true false),(10,.cells (fE 19 4) 110 true false),(9,.cells [.nd 19,.sv 11 23,.nd 24] 108 true false),(11,.vec 23 38 true)] 0 [some 1,some 7,some 8,some 9,some 10,none,none,none,none,none,none,none,none,some 19,some 20,some 21,some 22,none,none,none,none,none,none,none,none]))]⟩
def s17:aU:=⟨17,(bH 2 11 3 4 [(0,.nd 0),(3,.nd 1)] []),
 [(.exit 0,(bH 1 11 3 4 [(3,.nd 0)] []))]⟩
def s7:aU:=⟨7,(bH 5 40 3 5 [(4,.p 4 0),(14,.nd 0),(15,.nd 1),(16,.nd 2)] [(4,.cells [.nd 3,.nd 4] 24 true false)]),
 [(.exit 0,(bH 2 40 3 5 [(4,.p 4 0)] [(4,.cells [.nd 0,.nd 1] 24 true false)]))]⟩
def aqQ:aU:=⟨137,(bH 27 38 3 7 [(1,.p 4 0),(2,.p 5 0),(3,.sv 6 0),(15,.nd 1),(16,.nd 2),(17,.nd 3)] [(6,.vec 0 113 false),(5,.cells Gw 81 true false),(4,.cells [.nd 4,.nd 5,.nd 6,.nd 7,.nd 8,.nd 9,.nd 10,.nd 11,.nd 12,.nd 13,.nd 14,.nd 15,.nd 16,.nd 17,.nd 18,.nd 19,.nd 20,.nd 21,.nd 22,.nd 23,.nd 24,.nd 25,.nd 1,.nd 26] 81 true false)]),
 [(.exit 0,(aP 25 38 3 7 [(1,.p 4 0),(2,.p 5 0),(3,.sv 6 0)] [(6,.vec 0 113 false),(5,.cells Gw 81 true false),(4,.cells zO 81 true false)] 0 [none,some 4,some 5,some 6,some 7,some 8,some 9,some 10,some 11,some 12,some 13,some 14,some 15,some 16,some 17,some 18,some 19,some 20,some 21,some 22,some 23,some 24,some 25,some 1,some 26]))]⟩
def ark:aU:=⟨187,(bH 26 218 3 12 [(7,.p 4 0),(9,.p 5 0),(12,.nd 0),(180,.nd 1)] [(5,.cells [.nd 2,.nd 3,.nd 4,.nd 5,.nd 6,.nd 7,.p 6 0,.p 7 0] 74 true false),(7,.cells (fE 8 4) 110 true false),(6,.cells [.nd 8,.sv 8 12,.nd 13] 108 true false),(8,.vec 12 38 true),(4,.cells [.nd 14,.nd 15,.nd 16,.nd 17,.nd 18,.nd 19,.p 9 0,.p 10 0] 74 true false),(10,.cells (fE 20 4) 110 true false),(9,.cells [.nd 20,.sv 11 24,.nd 25] 108 true false),(11,.vec 24 38 true)]),
 [(.exit 5,(aP 25 218 3 12 [(7,.p 4 0),(9,.p 5 0),(12,.nd 0)] [(5,.cells [.nd 1,.nd 2,.nd 3,.nd 4,.nd 5,.nd 6,.p 6 0,.p 7 0] 74 true false),(7,.cells (fE 7 4) 110 true false),(6,.cells [.nd 7,.sv 8 11,.nd 12] 108 true false),(8,.vec 11 38 true),(4,.cells [.nd 13,.nd 14,.nd 15,.nd 16,.nd 17,.nd 18,.p 9 0,.p 10 0] 74 true false),(10,.cells (fE 19 4) 110 true false),(9,.cells [.nd 19,.sv 11 23,.nd 24] 108 true false),(11,.vec 23 38 true)] 0 [some 0,some 2,some 3,some 4,some 5,none,none,none,none,none,none,none,none,some 14,some 15,some 16,some 17,none,none,none,none,none,none,none,none]))]⟩
def aqx:aU:=⟨102,(bH 3 28 3 4 [(0,.nd 0),(1,.nd 1),(5,.nd 2)] []),
 [(.exit 0,(bH 1 28 3 4 [(5,.nd 0)] []))]⟩
def aq2:aU:=⟨162,(bH 4 26 3 4 [(0,.nd 0),(1,.nd 1),(12,.nd 2),(13,.nd 3)] []),
 [(.ret,(bH 0 26 3 4 [(4,.b false)] [])),
  (.exit 0,(bH 0 26 3 4 [] []))]⟩
def arj:aU:=⟨186,(aP 36 18 3 8 [(0,.p 4 0),(1,.agg gy)] [(4,.cells Y5 74 true false),(5,.cells (fE 30 4) 110 true false),(6,.cells [.nd 30,.sv 7 34,.nd 35] 108 true false),(7,.vec 34 38 true)] 3 []),
 [(.ret,(aP 13 2 3 8 [(0,.bT),(1,.nd 0)] [(4,.cells Nv 74 true false),(5,.cells (fE 7 4) 110 true false),(6,.cells [.nd 7,.sv 7 11,.nd 12] 108 true false),(7,.vec 11 38 true)] 3 [none,some 24,some 25,some 26,some 27,some 28,some 29,some 30,some 31,some 32,some 33,none,none]))]⟩
def ari:aU:=⟨185,(aP 36 33 3 8 [(0,.p 4 0),(1,.agg gy)] [(4,.cells Y5 74 true false),(5,.cells (fE 30 4) 110 true false),(6,.cells [.nd 30,.sv 7 34,.nd 35] 108 true false),(7,.vec 34 38 true)] 3 []),
 [(.ret,(aP 14 2 3 8 [(0,.nd 0),(1,.nd 1)] [(4,.cells Ti 74 true false),(5,.cells (fE 8 4) 110 true false),(6,.cells [.nd 8,.sv 7 12,.nd 13] 108 true false),(7,.vec 12 38 true)] 3 [none,none,some 24,some 25,some 26,some 27,some 28,some 29,some 30,none,none,none,some 34,some 35]))]⟩
def arh:aU:=⟨184,(aP 12 14 3 8 [(0,.p 4 0)] [(4,.cells [.nd 0,.nd 1,.nd 2,.nd 3,.nd 4,.nd 5,.p 6 0,.p 5 0] 74 true false),(5,.cells (fE 6 4) 110 true false),(6,.cells [.nd 6,.sv 7 10,.nd 11] 108 true false),(7,.vec 10 38 true)] 3 []),
 [(.ret,(aP 13 1 3 8 [(0,.nd 0)] [(4,.cells Nv 74 true false),(5,.cells (fE 7 4) 110 true false),(6,.cells [.nd 7,.sv 7 11,.nd 12] 108 true false),(7,.vec 11 38 true)] 3 [none,some 0,some 1,some 2,some 3,some 4,some 5,some 6,some 7,some 8,some 9,some 10,some 11]))]⟩
def arf:aU:=⟨183,(aP 36 70 3 8 [(0,.p 4 0),(1,.agg gy)] [(4,.cells Y5 74 true false),(5,.cells (fE 30 4) 110 true false),(6,.cells [.nd 30,.sv 7 34,.nd 35] 108 true false),(7,.vec 34 38 true)] 3 []),
 [(.ret,(aP 14 2 3 8 [(0,.nd 0),(1,.nd 1)] [(4,.cells Ti 74 true false),(5,.cells (fE 8 4) 110 true false),(6,.cells [.nd 8,.sv 7 12,.nd 13] 108 true false),(7,.vec 12 38 true)] 3 [none,none,some 24,some 25,some 26,some 27,none,none,none,some 31,some 32,some 33,some 34,some 35]))]⟩
def ard:aU:=⟨182,(aP 13 64 3 8 [(0,.p 4 0),(1,.nd 0)] [(4,.cells Nv 74 true false),(5,.cells (fE 7 4) 110 true false),(6,.cells [.nd 7,.sv 7 11,.nd 12] 108 true false),(7,.vec 11 38 true)] 3 []),
 [(.ret,(aP 14 2 3 8 [(0,.nd 0),(1,.nd 1)] [(4,.cells Ti 74 true false),(5,.cells (fE 8 4) 110 true false),(6,.cells [.nd 8,.sv 7 12,.nd 13] 108 true false),(7,.vec 12 38 true)] 3 [none,none,some 1,some 2,some 3,some 4,none,none,none,none,none,none,none,none]))]⟩
def arb:aU:=⟨180,(aP 28 97 3 5 [(0,.p 4 0),(1,.agg gy)] [(4,.cells (fE 24 4) 110 true false)] 1 []),
 [(.ret,(aP 9 2 3 5 [(0,.agg [.nd 0,.i .u64 0,.i .u64 0,.i .u64 0,.i .u64 0,.i .u64 0,.i .u64 0,.i .u64 0,.i .u64 0,.i .u64 0,.nd 1,.i .u64 0,.i .u64 0,.i .u64 0,.nd 2,.nd 3,.i .i64 0,.b false,.s [],.s [],.s [],.bT,.bT,.bT]),(1,.nd 4)] [(4,.cells (fE 5 4) 110 true false)] 1 [none,none,none,none,none,some 24,none,none,none]))]⟩
def ara:aU:=⟨175,(aP 12 55 3 8 [(0,.p 4 0)] [(4,.cells [.nd 0,.nd 1,.nd 2,.nd 3,.nd 4,.nd 5,.p 6 0,.p 5 0] 74 true false),(5,.cells (fE 6 4) 110 true false),(6,.cells [.nd 6,.sv 7 10,.nd 11] 108 true false),(7,.vec 10 38 true)] 3 []),
 [(.ret,(aP 13 1 3 8 [(0,.nd 0)] [(4,.cells Nv 74 true false),(5,.cells (fE 7 4) 110 true false),(6,.cells [.nd 7,.sv 7 11,.nd 12] 108 true false),(7,.vec 11 38 true)] 3 [none,some 0,some 1,some 2,some 3,none,some 5,some 6,some 7,some 8,some 9,some 10,some 11]))]⟩
def aq9:aU:=⟨174,(aP 14 13 3 8 [(0,.p 4 0),(1,.agg [.nd 0,.nd 1])] [(4,.cells Ti 74 true false),(5,.cells (fE 8 4) 110 true false),(6,.cells [.nd 8,.sv 7 12,.nd 13] 108 true false),(7,.vec 12 38 true)] 3 []),
 [(.ret,(aP 13 1 3 8 [(0,.nd 0)] [(4,.cells Nv 74 true false),(5,.cells (fE 7 4) 110 true false),(6,.cells [.nd 7,.sv 7 11,.nd 12] 108 true false),(7,.vec 11 38 true)] 3 [none,some 2,some 3,some 4,some 5,some 6,some 7,some 8,some 9,some 10,some 11,none,none]))]⟩
def aq7:aU:=⟨172,(aP 4 24 3 6 [(0,.p 4 0),(1,.nd 0)] [(4,.cells [.nd 1,.sv 5 2,.nd 3] 108 true false),(5,.vec 2 38 true)] 1 []),
 [(.ret,(aP 5 2 3 6 [(0,.nd 0),(1,.nd 1)] [(4,.cells [.nd 2,.sv 5 3,.nd 4] 108 true false),(5,.vec 3 38 true)] 1 [none,none,some 1,some 2,some 3]))]⟩
def aq6:aU:=⟨171,(aP 4 32 3 6 [(0,.p 4 0),(1,.nd 0)] [(4,.cells [.nd 1,.sv 5 2,.nd 3] 108 true false),(5,.vec 2 38 true)] 1 []),
 [(.ret,(aP 4 1 3 6 [(0,.nd 0)] [(4,.cells [.nd 1,.sv 5 2,.nd 3] 108 true false),(5,.vec 2 38 true)] 1 [none,some 1,none,none]))]⟩
def aqZ:aU:=⟨149,(aP 3 33 3 5 [(0,.p 4 0),(1,.nd 0)] [(4,.cells [.nd 1,.nd 2] 231 true false)] 1 []),
 [(.ret,(aP 5 2 3 5 [(0,.agg [.nd 0,.nd 1]),(1,.nd 2)] [(4,.cells [.nd 3,.nd 4] 231 true false)] 1 []))]⟩
def aqY:aU:=⟨148,(aP 4 63 3 5 [(0,.p 4 0),(1,.nd 2),(2,.nd 3)] [(4,.cells [.nd 0,.nd 1] 231 true false)] 1 []),
 [(.ret,(aP 4 2 3 5 [(0,.nd 0),(1,.nd 1)] [(4,.cells [.nd 2,.nd 3] 231 true false)] 1 []))]⟩
def aqW:aU:=⟨146,(aP 2 56 3 5 [(0,.p 4 0)] [(4,.cells [.nd 0,.nd 1] 231 true false)] 1 []),
 [(.ret,(aP 4 2 3 5 [(0,.nd 0),(1,.nd 1)] [(4,.cells [.nd 2,.nd 3] 231 true false)] 1 []))]⟩
def aqV:aU:=⟨144,(aP 2 25 3 5 [(0,.p 4 0)] [(4,.cells [.nd 0,.nd 1] 231 true false)] 1 []),
 [(.ret,(aP 4 2 3 5 [(0,.nd 0),(1,.nd 1)] [(4,.cells [.nd 2,.nd 3] 231 true false)] 1 []))]⟩
def aqU:aU:=⟨143,(aP 2 37 3 5 [(0,.p 4 0)] [(4,.cells [.nd 0,.nd 1] 231 true false)] 1 []),
 [(.ret,(aP 5 2 3 5 [(0,.agg [.nd 0,.nd 1]),(1,.nd 2)] [(4,.cells [.nd 3,.nd 4] 231 true false)] 1 []))]⟩
def aqS:aU:=⟨141,(aP 2 60 3 5 [(0,.p 4 0)] [(4,.cells [.nd 0,.nd 1] 231 true false)] 1 []),
 [(.ret,(aP 4 2 3 5 [(0,.nd 0),(1,.nd 1)] [(4,.cells [.nd 2,.nd 3] 231 true false)] 1 []))]⟩
def aqR:aU:=⟨138,(aP 30 117 3 5 [(0,.p 4 0),(1,.nd 0),(2,.agg (fE 1 5))] [(4,.cells (fE 6 24) 81 true false)] 1 []),
 [(.ret,(aP 25 1 3 5 [(0,.nd 0)] [(4,.cells zO 81 true false)] 1 [none,some 6,none,none,none,none,none,none,none,none,none,none,none,none,none,none,none,none,none,none,none,none,none,none,some 29]))]⟩
def aqK:aU:=⟨127,(aP 7 52 3 7 [(0,.p 5 0),(1,.p 4 0)] [(4,.cells Y4 142 true false),(5,.cells [.p 6 0,.nd 2,.nd 0] 186 true false),(6,.cells [.nd 3,.nd 4] 231 true false)] 3 []),
 [(.ret,(aP 9 1 3 7 [(0,.nd 0)] [(4,.cells (fE 1 5) 142 true false),(5,.cells [.p 6 0,.nd 6,.nd 1] 186 true false),(6,.cells [.nd 7,.nd 8] 231 true false)] 3 [none,some 0,some 1,some 5,some 6,none,some 2,none,none]))]⟩
def aqJ:aU:=⟨126,(aP 7 35 3 7 [(0,.p 5 0),(1,.p 4 0)] [(4,.cells Y4 142 true false),(5,.cells [.p 6 0,.nd 2,.nd 0] 186 true false),(6,.cells [.nd 3,.nd 4] 231 true false)] 3 []),
 [(.ret,(aP 8 1 3 7 [(0,.nd 0)] [(4,.cells [.nd 1,.nd 2,.nd 3,.nd 4,.bT] 142 true false),(5,.cells [.p 6 0,.nd 5,.nd 1] 186 true false),(6,.cells [.nd 6,.nd 7] 231 true false)] 3 [none,some 0,some 1,some 5,none,some 2,none,none]))]⟩
def aqI:aU:=⟨125,(aP 7 20 3 7 [(0,.p 5 0),(1,.p 4 0)] [(4,.cells Y4 142 true false),(5,.cells [.p 6 0,.nd 2,.nd 0] 186 true false),(6,.cells [.nd 3,.nd 4] 231 true false)] 3 []),
 [(.ret,(aP 8 1 3 7 [(0,.nd 0)] [(4,.cells [.nd 1,.nd 2,.nd 3,.nd 4,.bT] 142 true false),(5,.cells [.p 6 0,.nd 5,.nd 1] 186 true false),(6,.cells [.nd 6,.nd 7] 231 true false)] 3 [none,some 0,some 1,none,some 6,some 2,none,none]))]⟩
def aqH:aU:=⟨124,(aP 2 24 3 5 [(0,.p 4 0)] [(4,.cells [.nd 0,.nd 1] 231 true false)] 1 []),
 [(.ret,(aP 4 2 3 5 [(0,.nd 0),(1,.nd 1)] [(4,.cells [.nd 2,.nd 3] 231 true false)] 1 []))]⟩
def aqG:aU:=⟨123,(aP 4 65 3 6 [(0,.p 4 0)] [(4,.cells [.p 5 0,.nd 0,.nd 1] 186 true false),(5,.cells [.nd 2,.nd 3] 231 true false)] 2 []),
 [(.ret,(aP 10 2 3 6 [(0,.agg (fE 0 5)),(1,.nd 5)] [(4,.cells [.p 5 0,.nd 6,.nd 7] 186 true false),(5,.cells [.nd 8,.nd 9] 231 true false)] 2 [none,none,none,none,none,none,some 0,none,none,none]))]⟩
def aqE:aU:=⟨121,(aP 4 26 3 6 [(0,.p 4 0)] [(4,.cells [.p 5 0,.nd 1,.nd 2] 186 true false),(5,.cells [.nd 0,.nd 3] 231 true false)] 2 []),
 [(.ret,(aP 6 2 3 6 [(0,.nd 0),(1,.nd 1)] [(4,.cells [.p 5 0,.nd 2,.nd 3] 186 true false),(5,.cells [.nd 4,.nd 5] 231 true false)] 2 [none,none,some 1,none,none,none]))]⟩
def aqB:aU:=⟨110,(bH 2 69 3 5 [(0,.sv 4 0),(1,.nd 1)] [(4,.vec 0 5 false)]),
 [(.ret,(bH 1 1 3 5 [(0,.sv 4 0)] [(4,.vec 0 5 false)]))]⟩
def s90:aU:=⟨90,(bH 0 33 3 4 [(0,.qM)] []),
 [(.ret,(bH 0 1 3 4 [(0,.i .i64 0)] []))]⟩
def s89:aU:=⟨89,(aP 24 33 3 5 [(0,.dY 238 (.p 4 15))] [(4,.cells gy 81 true false)] 1 []),
 [(.ret,(aP 24 1 3 5 [(0,.i .i64 0)] [(4,.cells gy 81 true false)] 1 (oJ 0 24)))]⟩
def s88:aU:=⟨88,(aP 24 33 3 5 [(0,.dY 238 (.p 4 14))] [(4,.cells gy 81 true false)] 1 []),
 [(.ret,(aP 24 1 3 5 [(0,.i .i64 0)] [(4,.cells gy 81 true false)] 1 (oJ 0 24)))]⟩
def s87:aU:=⟨87,(aP 24 33 3 5 [(0,.dY 238 (.p 4 13))] [(4,.cells gy 81 true false)] 1 []),
 [(.ret,(aP 24 1 3 5 [(0,.i .i64 0)] [(4,.cells gy 81 true false)] 1 (oJ 0 24)))]⟩
def s86:aU:=⟨86,(aP 24 33 3 5 [(0,.dY 238 (.p 4 12))] [(4,.cells gy 81 true false)] 1 []),
 [(.ret,(aP 24 1 3 5 [(0,.i .i64 0)] [(4,.cells gy 81 true false)] 1 (oJ 0 24)))]⟩
def s85:aU:=⟨85,(aP 24 33 3 5 [(0,.dY 238 (.p 4 11))] [(4,.cells gy 81 true false)] 1 []),
 [(.ret,(aP 24 1 3 5 [(0,.i .i64 0)] [(4,.cells gy 81 true false)] 1 (oJ 0 24)))]⟩
def s84:aU:=⟨84,(aP 24 33 3 5 [(0,.dY 238 (.p 4 10))] [(4,.cells gy 81 true false)] 1 []),
 [(.ret,(aP 24 1 3 5 [(0,.i .i64 0)] [(4,.cells gy 81 true false)] 1 (oJ 0 24)))]⟩
def s83:aU:=⟨83,(aP 24 33 3 5 [(0,.dY 238 (.p 4 9))] [(4,.cells gy 81 true false)] 1 []),
 [(.ret,(aP 24 1 3 5 [(0,.i .i64 0)] [(4,.cells gy 81 true false)] 1 (oJ 0 24)))]⟩
def s82:aU:=⟨82,(aP 24 33 3 5 [(0,.dY 238 (.p 4 8))] [(4,.cells gy 81 true false)] 1 []),
 [(.ret,(aP 24 1 3 5 [(0,.i .i64 0)] [(4,.cells gy 81 true false)] 1 (oJ 0 24)))]⟩
def s81:aU:=⟨81,(aP 24 33 3 5 [(0,.dY 238 (.p 4 7))] [(4,.cells gy 81 true false)] 1 []),
 [(.ret,(aP 24 1 3 5 [(0,.i .i64 0)] [(4,.cells gy 81 true false)] 1 (oJ 0 24)))]⟩
def s80:aU:=⟨80,(aP 24 33 3 5 [(0,.dY 238 (.p 4 6))] [(4,.cells gy 81 true false)] 1 []),
 [(.ret,(aP 24 1 3 5 [(0,.i .i64 0)] [(4,.cells gy 81 true false)] 1 (oJ 0 24)))]⟩
def s79:aU:=⟨79,(aP 24 33 3 5 [(0,.dY 238 (.p 4 5))] [(4,.cells gy 81 true false)] 1 []),
 [(.ret,(aP 24 1 3 5 [(0,.i .i64 0)] [(4,.cells gy 81 true false)] 1 (oJ 0 24)))]⟩
def s78:aU:=⟨78,(aP 24 33 3 5 [(0,.dY 238 (.p 4 4))] [(4,.cells gy 81 true false)] 1 []),
 [(.ret,(aP 24 1 3 5 [(0,.i .i64 0)] [(4,.cells gy 81 true false)] 1 (oJ 0 24)))]⟩
def s77:aU:=⟨77,(aP 24 33 3 5 [(0,.dY 238 (.p 4 3))] [(4,.cells gy 81 true false)] 1 []),
 [(.ret,(aP 24 1 3 5 [(0,.i .i64 0)] [(4,.cells gy 81 true false)] 1 (oJ 0 24)))]⟩
def s76:aU:=⟨76,(aP 24 33 3 5 [(0,.dY 238 (.p 4 2))] [(4,.cells gy 81 true false)] 1 []),
 [(.ret,(aP 24 1 3 5 [(0,.i .i64 0)] [(4,.cells gy 81 true false)] 1 (oJ 0 24)))]⟩
def s75:aU:=⟨75,(aP 24 33 3 5 [(0,.dY 238 (.p 4 1))] [(4,.cells gy 81 true false)] 1 []),
 [(.ret,(aP 24 1 3 5 [(0,.i .i64 0)] [(4,.cells gy 81 true false)] 1 (oJ 0 24)))]⟩
def s74:aU:=⟨74,(aP 24 33 3 5 [(0,.dY 246 (.p 4 22))] [(4,.cells gy 81 true false)] 1 []),
 [(.ret,(aP 25 1 3 5 [(0,.nd 0)] [(4,.cells zO 81 true false)] 1 [none,some 0,some 1,some 2,some 3,some 4,some 5,some 6,some 7,some 8,some 9,some 10,some 11,some 12,some 13,some 14,some 15,some 16,some 17,some 18,some 19,some 20,some 21,some 22,some 23]))]⟩
def s73:aU:=⟨73,(aP 24 33 3 5 [(0,.dY 243 (.p 4 21))] [(4,.cells gy 81 true false)] 1 []),
 [(.ret,(aP 25 1 3 5 [(0,.nd 0)] [(4,.cells zO 81 true false)] 1 [none,some 0,some 1,some 2,some 3,some 4,some 5,some 6,some 7,some 8,some 9,some 10,some 11,some 12,some 13,some 14,some 15,some 16,some 17,some 18,some 19,some 20,some 21,some 22,some 23]))]⟩
def s72:aU:=⟨72,(aP 24 33 3 5 [(0,.dY 242 (.p 4 20))] [(4,.cells gy 81 true false)] 1 []),
 [(.ret,(aP 25 1 3 5 [(0,.nd 0)] [(4,.cells zO 81 true false)] 1 [none,some 0,some 1,some 2,some 3,some 4,some 5,some 6,some 7,some 8,some 9,some 10,some 11,some 12,some 13,some 14,some 15,some 16,some 17,some 18,some 19,some 20,some 21,some 22,some 23]))]⟩
def s71:aU:=⟨71,(aP 24 33 3 5 [(0,.dY 242 (.p 4 19))] [(4,.cells gy 81 true false)] 1 []),
 [(.ret,(aP 25 1 3 5 [(0,.nd 0)] [(4,.cells zO 81 true false)] 1 [none,some 0,some 1,some 2,some 3,some 4,some 5,some 6,some 7,some 8,some 9,some 10,some 11,some 12,some 13,some 14,some 15,some 16,some 17,some 18,some 19,some 20,some 21,some 22,some 23]))]⟩
def s70:aU:=⟨70,(aP 24 33 3 5 [(0,.dY 242 (.p 4 18))] [(4,.cells gy 81 true false)] 1 []),
 [(.ret,(aP 25 1 3 5 [(0,.nd 0)] [(4,.cells zO 81 true false)] 1 [none,some 0,some 1,some 2,some 3,some 4,some 5,some 6,some 7,some 8,some 9,some 10,some 11,some 12,some 13,some 14,some 15,some 16,some 17,some 18,some 19,some 20,some 21,some 22,some 23]))]⟩
def s69:aU:=⟨69,(aP 24 33 3 5 [(0,.dY 239 (.p 4 17))] [(4,.cells gy 81 true false)] 1 []),
 [(.ret,(aP 24 1 3 5 [(0,.i .i64 0)] [(4,.cells gy 81 true false)] 1 (oJ 0 24)))]⟩
def s68:aU:=⟨68,(aP 24 33 3 5 [(0,.dY 240 (.p 4 16))] [(4,.cells gy 81 true false)] 1 []),
 [(.ret,(aP 24 1 3 5 [(0,.i .i64 0)] [(4,.cells gy 81 true false)] 1 (oJ 0 24)))]⟩
def s43:aU:=⟨43,(aP 3 24 3 6 [(0,.p 4 0),(1,.nd 0)] [(4,.cells [.nd 1,.sv 5 2,.nd 0] 108 true false),(5,.vec 2 38 true)] 1 []),
 [(.ret,(aP 5 2 3 6 [(0,.nd 0),(1,.nd 1)] [(4,.cells [.nd 2,.sv 5 3,.nd 4] 108 true false),(5,.vec 3 38 true)] 1 [none,none,some 1,some 2,some 0]))]⟩
def s42:aU:=⟨42,(aP 3 28 3 6 [(0,.p 4 0)] [(4,.cells [.nd 0,.sv 5 1,.nd 2] 108 true false),(5,.vec 1 38 true)] 1 []),
 [(.ret,(aP 6 2 3 6 [(0,.agg [.nd 0,.nd 1]),(1,.nd 2)] [(4,.cells [.nd 3,.sv 5 4,.nd 5] 108 true false),(5,.vec 4 38 true)] 1 [none,none,none,some 0,some 1,some 2]))]⟩
def s41:aU:=⟨41,(aP 3 75 3 6 [(0,.p 4 0)] [(4,.cells [.nd 0,.sv 5 1,.nd 2] 108 true false),(5,.vec 1 38 true)] 1 []),
 [(.ret,(aP 8 2 3 6 [(0,.agg [.nd 0,.i .u64 0,.i .u64 0,.i .u64 0,.i .u64 0,.i .u64 0,.i .u64 0,.i .u64 0,.i .u64 0,.i .u64 0,.nd 1,.nd 2,.i .u64 0,.i .u64 0,.i .u64 0,.i .u64 0,.i .i64 0,.b false,.s [],.s [],.s [],.bT,.nd 3,.bT]),(1,.nd 4)] [(4,.cells [.nd 5,.sv 5 6,.nd 7] 108 true false),(5,.vec 6 38 true)] 1 [none,none,none,none,none,some 0,some 1,some 2]))]⟩
def s35:aU:=⟨35,(aP 5 80 3 6 [(0,.p 4 0),(1,.agg [.nd 0,.nd 1])] [(4,.cells [.nd 2,.sv 5 3,.nd 4] 108 true false),(5,.vec 3 38 true)] 1 []),
 [(.ret,(aP 4 1 3 6 [(0,.nd 0)] [(4,.cells [.nd 1,.sv 5 2,.nd 3] 108 true false),(5,.vec 2 38 true)] 1 [none,some 2,none,none]))]⟩
noncomputable def rows:List Row:=[
 .any (λgs out=>MV gs=some out),
 .fn 3 [] [.sc] [] [(0,8),(1,187)],
 .fn 23 [] [.sc] [] [],
 .fn 51 [] [.sc] [] [],
 .told 91 [] [.sc],
 .fn 7 [] [.sc,.sc] [] [],
 .fn 26 [] [.sc,.sc] [] [(0,7)],
 .lp 26 [([],0)] s7 [] [],
 .lp 3 [([],0)] s8 [] [(0,33)],
 .fn 8 [] [.sc] [] [],
 .fn 27 [] [.sc] [] [(0,11)],
 .lp 27 [([],0)] s11 [] [],
 .fn 54 [] [.sc] [] [(0,13)],
 .lp 54 [([],0)] s13 [] [],
 .fn 55 [] [.sc] [] [(0,19)],
 .fn 40 [] [.sc] [] [(0,18)],
 .fn 80 [] [.sc] [] [(0,17)],
 .lp 80 [([],0)] s17 [] [],
 .lp 40 [([],0)] s18 [] [],
 .lp 55 [([],0)] s19 [] [],
 .fn 93 [] [.sc] [] [],
 .any (λgs out=>True),
 .any (λgs out=>True),
 .fn 56 [] [.sc] [] [],
 .fn 95 [] [.sc] [] [(0,25)],
 .lp 95 [([],0)] s25 [] [],
 .fn 129 [] [.sc] [] [],
 .fn 155 [] [.sc] [] [(0,28)],
 .lp 155 [([],0)] s28 [] [],
 .fn 188 [] [.sc] [] [],
 .fn 58 [] [.ag 2] [] [(0,31)],
 .lp 58 [([],0)] s31 [] [],
 .told 130 [] [.sc],
 .lp 3 [([],0),([],0)] s33 [] [],
 .any (λgs out=>True),
 .fs 28 [] s35 [] [],
 .fn 57 [] [.sc] [] [(0,37)],
 .lp 57 [([],0)] s37 [] [(0,38)],
 .lp 57 [([],0),([],0)] s38 [] [],
 .any (λgs out=>True),
 .any (λgs out=>True),
 .fs 29 [] s41 [] [],
 .fs 60 [] s42 [] [],
 .fs 61 [] s43 [] [(0,44)],
 .lp 61 [([],0)] s44 [] [],
 .fn 62 [] [.ag 3,.sc] [] [(0,46)],
 .lp 62 [([],0)] s46 [] [],
 .fn 98 [] [.sc] [] [],
 .told 198 [] [.sc],
 .fn 30 [] [.sc] [] [],
 .fn 63 [] [.sc,.sc] [] [],
 .fn 99 [] [.sc,.sc] [] [(0,96)],
 .fn 71 [] [.sc] [] [(0,64),(1,66),(2,67),(3,94)],
 .fn 65 [] [.sc] [] [],
 .fn 67 [] [.sc] [] [(0,56)],
 .fn 136 [] [.sc] [] [],
 .lp 67 [([],0)] s56 [] [],
 .fn 137 [] [.sc] [] [],
 .fn 138 [] [.sc] [] [],
 .fn 139 [] [.sc] [] [],
 .fn 140 [] [.sc] [] [],
 .fn 141 [] [.sc] [] [],
 .fn 142 [] [.sc] [] [],
 .fn 143 [] [.sc] [] [],
 .lp 71 [([],0)] s64 [] [],
 .told 107 [] [.sc],
 .lp 71 [([],1)] s66 [] [],
 .lp 71 [([],2)] s67 [] [],
 .fs 110 [] s68 [] [],
 .fs 110 [] s69 [] [],
 .fs 110 [] s70 [] [],
 .fs 110 [] s71 [] [],
 .fs 110 [] s72 [] [],
 .fs 110 [] s73 [] [],
 .fs 110 [] s74 [] [],
 .fs 110 [] s75 [] [],
 .fs 110 [] s76 [] [],
 .fs 110 [] s77 [] [],
 .fs 110 [] s78 [] [],
 .fs 110 [] s79 [] [],
 .fs 110 [] s80 [] [],
 .fs 110 [] s81 [] [],
 .fs 110 [] s82 [] [],
 .fs 110 [] s83 [] [],
 .fs 110 [] s84 [] [],
 .fs 110 [] s85 [] [],
 .fs 110 [] s86 [] [],
 .fs 110 [] s87 [] [],
 .fs 110 [] s88 [] [],
 .fs 110 [] s89 [] [],
 .fs 110 [] s90 [] [],
 .fn 112 [] [.sc] [] [],
 .fn 156 [] [.sc] [] [(0,93)],
 .lp 156 [([],0)] s93 [] [],
 .lp 71 [([],3)] s94 [] [(0,95)],
 .lp 71 [([],3),([],0)] s95 [] [],
 .lp 99 [([],0)] s96 [] [],
 .fn 132 [] [.ag 5,.sc] [] [],
 .fn 174 [] [.sc,.sc] [] [(0,99)],
 .lp 174 [([],0)] s99 [] [],
 .fn 200 [] [.sc] [] [],
 .fn 221 [] [.sc] [] [(0,102)],
 .lp 221 [([],0)] aqx [] [],
 .fn 133 [] [.sc,.sc] [] [(0,104),(1,105)],
 .lp 133 [([],0)] aqy [] [],
 .lp 133 [([],1)] aqz [] [],
 .told 104 [] [.sc],
 .fn 100 [] [.sc,.sc] [] [],
 .fn 134 [] [.sc] [] [(0,109)],
 .lp 134 [([],0)] aqA [] [],
 .fs 135 [] aqB [] [(0,111)],
 .lp 135 [([],0)] aqC [] [],
 .any (λgs out=>True),
 .any (λgs out=>True),
 .any (λgs out=>True),
 .any (λgs out=>True),
 .any (λgs out=>True),
 .fn 32 [] [.ag 24,.sc] [] [(0,128),(1,134)],
 .fn 64 [] [.sc,.sc,.sc] [] [(0,119)],
 .lp 64 [([],0)] aqD [] [],
 .fn 66 [] [.sc,.sc] [] [],
 .fs 103 [] aqE [] [(0,122)],
 .lp 103 [([],0)] aqF [] [],
 .fs 145 [] aqG [] [],
 .fs 179 [] aqH [] [],
 .fs 180 [] aqI [] [],
 .fs 181 [] aqJ [] [],
 .fs 182 [] aqK [] [],
 .lp 32 [([],0)] aqL [] [],
 .fn 69 [] [.sc] [] [(0,130)],
 .lp 69 [([],0)] aqM [] [],
 .fn 68 [] [.sc,.sc] [] [(0,132),(1,133)],
 .lp 68 [([],0)] aqN [] [],
 .lp 68 [([],1)] aqO [] [],
 .lp 32 [([],1)] aqP [] [],
 .fn 70 [] [.ag 24,.sc] [] [],
 .fn 105 [] [.ag 24] [] [(0,137)],
 .lp 105 [([],0)] aqQ [] [],
 .fs 106 [] aqR [] [],
 .fn 147 [] [.sc] [] [],
 .fn 149 [] [.sc,.sc] [] [],
 .fs 183 [] aqS [] [(0,142)],
 .lp 183 [([],0)] aqT [] [],
 .fs 206 [] aqU [] [],
 .fs 230 [] aqV [] [],
 .fn 150 [] [.sc,.sc] [] [],
 .fs 184 [] aqW [] [(0,147)],
 .lp 184 [([],0)] aqX [] [],
 .fs 207 [] aqY [] [],
 .fs 208 [] aqZ [] [],
 .any (λgs out=>True),
 .any (λgs out=>True),
 .any (λgs out=>True),
 .any (λgs out=>True),
 .fn 117 [] [.ag 2,.sc] [] [],
 .fn 157 [] [.sc] [] [],
 .fn 158 [] [.sc,.sc] [] [(0,157)],
 .lp 158 [([],0)] aq0 [] [],
 .told 191 [] [.sc,.sc],
 .fn 77 [] [.sc] [] [(0,160)],
 .lp 77 [([],0)] aq1 [] [],
 .fn 159 [] [.sc] [] [(0,162)],
 .lp 159 [([],0)] aq2 [] [],
 .fn 160 [] [.sc] [] [],
 .fn 192 [none,none,some 193] [.sc] [] [(0,165)],
 .lp 192 [([],0)] aq3 [] [],
 .fn 193 [] [.sc] [] [],
 .fn 119 [] [.sc] [] [(0,168)],
 .lp 119 [([],0)] aq4 [] [(0,169)],
 .lp 119 [([],0),([],0)] aq5 [] [],
 .any (λgs out=>True),
 .fs 78 [] aq6 [] [],
 .fs 61 [] aq7 [] [(0,173)],
 .lp 61 [([],0)] aq8 [] [],
 .fs 9 [] aq9 [] [],
 .fs 10 [] ara [] [],
 .any (λgs out=>True),
 .any (λgs out=>True),
 .any (λgs out=>True),
 .any (λgs out=>True),
 .fs 76 [] arb [] [],
 .any (λgs out=>True),
 .fs 11 [] ard [] [],
 .fs 33 [] arf [] [],
 .fs 73 [] arh [] [],
 .fs 36 [] ari [] [],
 .fs 37 [] arj [] [],
 .lp 3 [([],1)] ark [] [(0,188)],
 .lp 3 [([],1),([],0)] arl [] [(0,189)],
 .lp 3 [([],1),([],0),([],0)] arn [] []]
noncomputable abbrev C:=vT Tryz.prog fB rows
noncomputable def ah0:Code:=Tryz.f3.body.getD .skip
noncomputable def pl0:jT:=PL.cons 175 (λN=>@Xk N 0 176) (PL.cons 5 (λ_=>FT) (PL.cons 169 (λ_=>Md) (PL.nil)))
noncomputable def es:List (FuncId×List Nat):=[(28,[35]),(29,[41]),(60,[42]),(110,[90,89,88,87,86,85,84,83,82,81,80,79,78,77,76,75,74,73,72,71,70,69,68]),(135,[110]),(103,[121]),(145,[123]),(179,[124]),(180,[125]),(181,[126]),(182,[127]),(106,[138]),(183,[141]),(206,[143]),(230,[144]),(184,[146]),(207,[148]),(208,[149]),(78,[171]),(61,[172,43]),(9,[174]),(10,[175]),(76,[180]),(11,[182]),(33,[183]),(73,[184]),(36,[185]),(37,[186]),(62,[45]),(191,[158]),(58,[30]),(159,[161]),(192,[164]),(105,[136]),(27,[10]),(133,[103]),(63,[50]),(140,[60]),(93,[20]),(157,[155]),(134,[108]),(143,[63]),(132,[97]),(130,[32]),(55,[14]),(71,[52]),(98,[47]),(70,[135]),(32,[117]),(147,[139]),(57,[36]),(104,[106]),(149,[140]),(141,[61]),(193,[166]),(91,[4]),(188,[29]),(65,[53]),(117,[154]),(174,[98]),(136,[55]),(139,[59]),(23,[2]),(51,[3]),(68,[131]),(150,[145]),(100,[107]),(129,[26]),(66,[120]),(77,[159]),(138,[58]),(80,[16]),(67,[54]),(40,[15]),(112,[91]),(8,[9]),(160,[163]),(198,[48]),(99,[51]),(56,[23]),(142,[62]),(221,[101]),(156,[92]),(155,[27]),(95,[24]),(54,[12]),(64,[118]),(7,[5]),(200,[100]),(158,[156]),(30,[49]),(69,[129]),(107,[65]),(137,[57]),(119,[167]),(3,[1]),(26,[6])]
noncomputable def pl:jT:=aef Tryz.prog rows es pl0
end M
end Go.Proofs.YtilkjidelblkfaaGreatDoor
