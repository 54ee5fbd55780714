/- The shapes, and all definitions as rows. -/
import Derived.Test.YtnlegpmfkopalaaGreatDoorKRBase
import Derived.Test.YtnlegpmfkopalaaGreatDoorKST
import Derived.Test.YtnlegpmfkopalaaGreatDoorAbsTab
import Derived.Test.YtnlegpmfkopalaaGreatDoorAbsPl
import Derived.Test.YtnlegpmfkopalaaGreatDoorAbsTold
import Derived.Test.YtnlegpmfkopalaaGreatDoorAbsTold2
import Derived.Test.YtnlegpmfkopalaaGreatDoorAbsTold3
import Derived.Test.YtnlegpmfkopalaaGreatDoorAbsFields
import Derived.Test.YtnlegpmfkopalaaGreatDoorAbsSortF
namespace Go.Proofs.YtnlegpmfkopalaaGreatDoor
open Go Go.aN
set_option maxRecDepth 100000
set_option linter.unusedVariables false
set_option linter.unusedSimpArgs false
namespace S
def ru:Nat->Nat->List AV
 | _,0=>[]
 | a,n+1=>.nd a::ru (a+1) n
def nY:Nat->Nat->List (Option Nat)
 | _,0=>[]
 | a,n+1=>some a::nY (a+1) n
theorem low:rM fF Tryz.prog.globals.size:=by
 rw [Vr];refine ⟨λp hp=>?_,λp hp=>?_⟩
 all_goals
  simp only [fF,dh,Di,or_false] at hp;rcases hp with rfl | rfl
  all_goals first | decide | rfl
def bF (np n gn next:Nat) (slots:List (Nat×AV)) (objs:List (Nat×aZ)) (ka:Nat) (al:List (Option Nat)):fP:={ np:=np,n:=n,gn:=gn,next:=next,slots:=slots,objs:=objs,ka:=ka,al:=al }
def bQ (np n gn next:Nat) (slots:List (Nat×AV)) (objs:List (Nat×aZ)):fP:=bF np n gn next slots objs 0 []
def gX:List AV:=(ru 0 24)
def yX:List AV:=(ru 1 24)
def FI:List AV:=[.i .i64 0,.i .u64 0,.i .u64 0,.i .u64 0,.i .u64 0,.i .u64 0,.i .u64 0,.i .u64 0,.i .u64 0,.i .u64 0,.i .u64 0,.i .u64 0,.i .u64 0,.i .u64 0,.i .u64 0,.i .u64 0,.i .i64 0,.b false,.s [],.s [],.s [],.dO,.dO,.dO]
def zq3:List AV:=(ru 5 24)
def zq4:List AV:=(ru 4 24)
def zq5:List AV:=(ru 3 24)
def zq6:List AV:=(ru 2 24)
def zq7:List AV:=(ru 4 16)
def XW:List AV:=[.nd 0,.nd 1,.nd 5,.nd 6,.dO]
def s34:bf:=⟨34,(bQ 28 116 3 6 [(2,.p 4 0),(6,.nd 0),(7,.mp 5),(44,.nd 0),(45,.nd 1),(46,.nd 2)] [(5,.smap 3 none none),(4,.cells zq4 36 true false)]),
 [(.exit 0,(bF 26 116 3 6 [(2,.p 4 0),(6,.nd 0),(7,.mp 5)] [(5,.smap 1 none none),(4,.cells zq6 36 true false)] 0 [some 0,none,some 4,some 5,some 6,some 7,some 8,some 9,some 10,some 11,some 12,some 13,some 14,some 15,some 16,some 17,some 18,some 19,some 20,some 21,some 22,some 23,some 24,some 25,some 26,some 27]))]⟩
def aoR:bf:=⟨149,(bQ 2 18 3 4 [(0,.nd 0),(4,.nd 1)] []),
 [(.ret,(bQ 1 18 3 4 [(2,.nd 0)] [])),
  (.exit 0,(bQ 0 18 3 4 [] []))]⟩
def aoB:bf:=⟨117,(bF 5 60 3 6 [(0,.p 4 0),(7,.sv 5 0),(28,.nd 1),(29,.nd 2)] [(4,.cells [.nd 3,.nd 4] 168 true false),(5,.vec 0 89 false)] 1 []),
 [(.ret,(bF 3 60 3 5 [(2,.dO),(3,.nd 0)] [(4,.cells [.nd 1,.nd 2] 168 true false)] 1 [])),
  (.exit 0,(bF 3 60 3 6 [(7,.sv 5 0)] [(4,.cells [.nd 1,.nd 2] 168 true false),(5,.vec 0 89 false)] 1 []))]⟩
def aov:bf:=⟨106,(bQ 5 53 3 5 [(0,.nd 0),(4,.dO),(5,.dO),(6,.mp 4),(13,.nd 1),(14,.nd 2),(15,.nd 3)] [(4,.smap 4 (some .u64) none)]),
 [(.exit 0,(bF 2 53 3 5 [(0,.nd 0),(4,.dO),(5,.dO),(6,.mp 4)] [(4,.smap 1 (some .u64) none)] 0 [some 0,none]))]⟩
def aou:bf:=⟨104,(bQ 4 23 3 5 [(5,.sv 4 0),(10,.nd 1),(11,.nd 2),(12,.nd 3)] [(4,.vec 0 22 true)]),
 [(.exit 0,(bQ 1 23 3 5 [(5,.sv 4 0)] [(4,.vec 0 22 true)]))]⟩
def s10:bf:=⟨10,(bQ 2 11 3 4 [(0,.nd 0),(3,.nd 1)] []),
 [(.exit 0,(bQ 1 11 3 4 [(3,.nd 0)] []))]⟩
def aoQ:bf:=⟨144,(bF 8 46 3 7 [(0,.p 4 0),(5,.sv 5 0),(10,.nd 1),(11,.nd 2),(12,.nd 3)] [(4,.cells [.sv 6 4,.nd 5,.nd 6,.nd 7] 83 true false),(6,.vec 4 5 false),(5,.vec 0 9 true)] 1 []),
 [(.exit 0,(bF 5 46 3 7 [(5,.sv 5 0)] [(4,.cells [.sv 6 1,.nd 2,.nd 3,.nd 4] 83 true false),(6,.vec 1 5 false),(5,.vec 0 9 true)] 1 []))]⟩
def aox:bf:=⟨108,(bQ 30 123 3 7 [(1,.nd 0),(4,.p 4 0),(12,.mp 5),(15,.p 6 0),(17,.nd 1),(92,.nd 2),(93,.nd 3),(94,.nd 4)] [(6,.cells zq3 36 true false),(5,.smap 29 (some .u64) none),(4,.cells FI 36 true false)]),
 [(.ret,(bQ 1 123 3 5 [(4,.p 4 0),(5,.nd 0)] [(4,.cells FI 36 true false)])),
  (.exit 2,(bF 26 123 3 6 [(1,.nd 0),(4,.p 4 0),(15,.p 5 0),(17,.nd 1)] [(5,.cells zq6 36 true false),(4,.cells FI 36 true false)] 0 [some 0,some 1,none,none,none,none,none,none,none,none,none,none,none,none,none,none,none,none,none,none,none,none,none,none,none,none]))]⟩
def aoO:bf:=⟨142,(bQ 5 80 3 6 [(5,.sv 4 0),(6,.p 5 0),(37,.nd 1),(38,.nd 2)] [(5,.cells [.nd 3,.nd 4] 142 true false),(4,.vec 0 142 false)]),
 [(.ret,(bQ 0 80 3 4 [(4,.b false)] [])),
  (.exit 2,(bQ 1 80 3 5 [(5,.sv 4 0)] [(4,.vec 0 142 false)]))]⟩
def s72:bf:=⟨72,(bQ 5 46 3 4 [(1,.nd 0),(5,.nd 1),(9,.nd 2),(10,.nd 3),(11,.nd 4)] []),
 [(.ret,(bQ 1 46 3 4 [(4,.nd 0)] [])),
  (.exit 0,(bQ 0 46 3 4 [] []))]⟩
def aoI:bf:=⟨130,(bQ 20 48 3 5 [(5,.p 4 0),(6,.nd 0),(13,.nd 1),(14,.nd 2),(15,.nd 3)] [(4,.cells zq7 204 true false)]),
 [(.exit 0,(bQ 1 48 3 4 [(6,.nd 0)] []))]⟩
def s37:bf:=⟨37,(bQ 27 116 3 5 [(2,.p 4 0),(6,.nd 0),(71,.nd 0),(72,.nd 1),(73,.nd 2)] [(4,.cells zq5 36 true false)]),
 [(.ret,(bQ 1 116 3 4 [(4,.nd 0)] [])),
  (.exit 4,(bF 25 116 3 5 [(2,.p 4 0),(6,.nd 0)] [(4,.cells yX 36 true false)] 0 [some 0,some 3,some 4,some 5,some 6,some 7,some 8,some 9,some 10,some 11,some 12,some 13,some 14,some 15,some 16,some 17,some 18,some 19,some 20,some 21,some 22,some 23,some 24,some 25,some 26]))]⟩
def s93:bf:=⟨93,(bQ 4 50 3 4 [(0,.nd 0),(5,.nd 1),(9,.nd 2),(10,.nd 3)] []),
 [(.ret,(bQ 3 50 3 4 [(2,.nd 0),(3,.nd 1),(4,.nd 2)] [])),
  (.exit 0,(bQ 1 50 3 4 [(0,.nd 0)] []))]⟩
def s96:bf:=⟨96,(bF 5 26 3 7 [(0,.p 4 0),(4,.sv 6 0)] [(4,.cells [.p 5 0,.nd 1,.nd 2] 113 true false),(5,.cells [.nd 3,.nd 4] 168 true false),(6,.vec 0 74 true)] 2 []),
 [(.ret,(bF 5 26 3 6 [(2,.dO),(3,.nd 0)] [(4,.cells [.p 5 0,.nd 1,.nd 2] 113 true false),(5,.cells [.nd 3,.nd 4] 168 true false)] 2 [none,some 1,none,none,none])),
  (.exit 0,(bF 5 26 3 7 [(4,.sv 6 0)] [(4,.cells [.p 5 0,.nd 1,.nd 2] 113 true false),(5,.cells [.nd 3,.nd 4] 168 true false),(6,.vec 0 74 true)] 2 [none,some 1,none,none,none]))]⟩
def aoL:bf:=⟨135,(bQ 4 26 3 4 [(0,.nd 0),(1,.nd 1),(12,.nd 2),(13,.nd 3)] []),
 [(.ret,(bQ 0 26 3 4 [(4,.b false)] [])),
  (.exit 0,(bQ 0 26 3 4 [] []))]⟩
def aoF:bf:=⟨122,(bF 6 56 3 6 [(0,.p 4 0),(6,.sv 5 0),(7,.nd 1),(25,.nd 2),(26,.nd 3)] [(4,.cells [.nd 4,.nd 5] 168 true false),(5,.vec 0 91 false)] 1 []),
 [(.ret,(bF 3 56 3 5 [(2,.dO),(3,.nd 0)] [(4,.cells [.nd 1,.nd 2] 168 true false)] 1 [])),
  (.exit 0,(bF 3 56 3 6 [(6,.sv 5 0)] [(4,.cells [.nd 1,.nd 2] 168 true false),(5,.vec 0 91 false)] 1 []))]⟩
def s26:bf:=⟨26,(bQ 5 46 3 5 [(1,.nd 0),(7,.sv 4 1),(30,.nd 2),(31,.nd 3),(32,.nd 4)] [(4,.vec 1 68 true)]),
 [(.exit 0,(bQ 1 46 3 5 [(7,.sv 4 0)] [(4,.vec 0 68 true)]))]⟩
def s90:bf:=⟨90,(bQ 4 69 3 5 [(0,.sv 4 0),(1,.nd 1),(8,.nd 2),(9,.nd 3)] [(4,.vec 0 5 false)]),
 [(.exit 0,(bQ 1 69 3 5 [(0,.sv 4 0)] [(4,.vec 0 5 false)]))]⟩
def s4:bf:=⟨4,(bQ 3 23 3 4 [(0,.nd 0),(5,.nd 0),(6,.nd 1),(7,.nd 2)] []),
 [(.ret,(bQ 0 23 3 4 [(2,.b false)] [])),
  (.exit 0,(bF 1 23 3 4 [(0,.nd 0)] [] 0 [some 0]))]⟩
def s74:bf:=⟨74,(bQ 11 116 3 5 [(6,.nd 0),(18,.p 4 0),(97,.nd 1),(98,.nd 2),(99,.nd 3),(103,.nd 0),(104,.nd 4),(105,.nd 5)] [(4,.cells (ru 6 5) 74 true false)]),
 [(.ret,(bQ 0 116 3 4 [(4,.i .i64 14)] [])),
  (.exit 8,(bF 4 116 3 4 [(6,.nd 0),(97,.nd 1),(98,.nd 2),(99,.nd 3)] [] 0 (nY 0 4)))]⟩
def aoM:bf:=⟨138,(bQ 4 32 3 4 [(1,.nd 0),(2,.fn 102 [] []),(15,.nd 1),(16,.nd 2),(17,.nd 3)] []),
 [(.ret,(bQ 0 32 3 4 [(6,.b false)] [])),
  (.exit 0,(bQ 0 32 3 4 [] []))]⟩
def s73:bf:=⟨73,(bQ 4 116 3 4 [(6,.nd 0),(97,.nd 1),(98,.nd 2),(99,.nd 3)] []),
 [(.ret,(bQ 0 116 3 4 [(4,.i .i64 14)] [])),
  (.exit 6,(bQ 0 116 3 4 [] []))]⟩
def s78:bf:=⟨78,(bQ 5 42 3 6 [(5,.p 4 0),(6,.nd 0),(22,.nd 1),(23,.nd 2),(24,.nd 3)] [(4,.cells [.p 4 0,.sv 5 4] 153 true false),(5,.vec 4 5 true)]),
 [(.exit 0,(bQ 1 42 3 6 [(5,.p 4 0)] [(4,.cells [.p 4 0,.sv 5 0] 153 true false),(5,.vec 0 5 true)]))]⟩
def s36:bf:=⟨36,(bQ 29 116 3 6 [(2,.p 4 0),(6,.nd 0),(7,.mp 5),(54,.nd 1),(55,.nd 2),(56,.nd 3)] [(5,.smap 4 none none),(4,.cells zq3 36 true false)]),
 [(.ret,(bQ 0 116 3 4 [(4,.i .i64 26)] [])),
  (.exit 2,(bF 25 116 3 5 [(2,.p 4 0),(6,.nd 0)] [(4,.cells yX 36 true false)] 0 [some 0,some 5,some 6,some 7,some 8,some 9,some 10,some 11,some 12,some 13,some 14,some 15,some 16,some 17,some 18,some 19,some 20,some 21,some 22,some 23,some 24,some 25,some 26,some 27,some 28]))]⟩
def aoK:bf:=⟨133,(bQ 51 30 3 6 [(2,.p 4 0),(3,.p 5 0),(12,.nd 0),(13,.nd 1),(14,.nd 2)] [(5,.cells zq5 36 true false),(4,.cells (ru 27 24) 36 true false)]),
 [(.ret,(bQ 0 30 3 4 [(4,.b false)] [])),
  (.exit 0,(bF 48 30 3 6 [(2,.p 4 0),(3,.p 5 0)] [(5,.cells gX 36 true false),(4,.cells (ru 24 24) 36 true false)] 0 (nY 3 48)))]⟩
def s52:bf:=⟨52,(bQ 4 42 3 4 [(3,.nd 0),(11,.nd 1),(12,.nd 2),(13,.nd 3)] []),
 [(.ret,(bQ 1 42 3 4 [(2,.nd 0)] [])),
  (.exit 0,(bQ 0 42 3 4 [] []))]⟩
def s81:bf:=⟨81,(bQ 3 28 3 4 [(0,.nd 0),(1,.nd 1),(5,.nd 2)] []),
 [(.exit 0,(bQ 1 28 3 4 [(5,.nd 0)] []))]⟩
def aoN:bf:=⟨141,(bQ 1 80 3 5 [(5,.sv 4 0)] [(4,.vec 0 142 false)]),
 [(.ret,(bQ 0 80 3 4 [(4,.b false)] [])),
  (.exit 0,(bQ 0 80 3 4 [] []))]⟩
def s88:bf:=⟨88,(bQ 4 66 3 4 [(0,.nd 0),(3,.nd 1),(8,.nd 2),(9,.nd 3)] []),
 [(.exit 0,(bQ 1 66 3 4 [(3,.nd 0)] []))]⟩
def aoy:bf:=⟨112,(bQ 27 38 3 7 [(1,.p 4 0),(2,.p 5 0),(3,.sv 6 0),(15,.nd 1),(16,.nd 2),(17,.nd 3)] [(6,.vec 0 91 false),(5,.cells FI 36 true false),(4,.cells [.nd 4,.nd 5,.nd 6,.nd 7,.nd 8,.nd 9,.nd 10,.nd 11,.nd 12,.nd 13,.nd 14,.nd 15,.nd 16,.nd 17,.nd 18,.nd 19,.nd 20,.nd 21,.nd 22,.nd 23,.nd 24,.nd 25,.nd 1,.nd 26] 36 true false)]),
 [(.exit 0,(bF 25 38 3 7 [(1,.p 4 0),(2,.p 5 0),(3,.sv 6 0)] [(6,.vec 0 91 false),(5,.cells FI 36 true false),(4,.cells yX 36 true false)] 0 [none,some 4,some 5,some 6,some 7,some 8,some 9,some 10,some 11,some 12,some 13,some 14,some 15,some 16,some 17,some 18,some 19,some 20,some 21,some 22,some 23,some 24,some 25,some 1,some 26]))]⟩
def aoS:bf:=⟨153,(bQ 3 29 3 4 [(0,.nd 0),(3,.nd 1),(4,.nd 2)] []),
 [(.ret,(bQ 1 29 3 4 [(2,.nd 0)] [])),
  (.exit 0,(bQ 0 29 3 4 [] []))]⟩
def aot:bf:=⟨102,(bQ 7 123 3 6 [(1,.nd 0),(4,.p 4 0),(9,.nd 1),(11,.nd 2),(12,.mp 5),(70,.nd 3),(71,.nd 4),(72,.nd 5)] [(5,.smap 6 (some .u64) none),(4,.cells FI 36 true false)]),
 [(.exit 0,(bF 4 123 3 6 [(1,.nd 0),(4,.p 4 0),(9,.nd 1),(11,.nd 2),(12,.mp 5)] [(5,.smap 3 (some .u64) none),(4,.cells FI 36 true false)] 0 [some 0,some 1,some 2,none]))]⟩
def s84:bf:=⟨84,(bQ 2 46 3 5 [(4,.sv 4 0),(8,.nd 1)] [(4,.vec 0 74 true)]),
 [(.ret,(bQ 0 46 3 4 [(2,.dO),(3,.i .i64 14)] [])),
  (.exit 2,(bF 1 46 3 5 [(4,.sv 4 0)] [(4,.vec 0 74 true)] 0 [some 0]))]⟩
def s15:bf:=⟨15,(bQ 3 19 3 4 [(0,.nd 0),(5,.nd 0),(6,.nd 1),(7,.nd 2)] []),
 [(.ret,(bQ 0 19 3 4 [(2,.b false)] [])),
  (.exit 0,(bF 1 19 3 4 [(0,.nd 0)] [] 0 [some 0]))]⟩
def aoJ:bf:=⟨131,(bQ 23 48 3 5 [(5,.p 4 0),(6,.nd 0),(8,.nd 1),(13,.nd 2),(14,.nd 3),(15,.nd 4),(20,.nd 5),(21,.nd 6)] [(4,.cells (ru 7 16) 204 true false)]),
 [(.exit 2,(bF 20 48 3 5 [(5,.p 4 0),(6,.nd 0),(13,.nd 1),(14,.nd 2),(15,.nd 3)] [(4,.cells zq7 204 true false)] 0 [none,some 2,some 3,some 4,some 7,some 8,some 9,some 10,some 11,some 12,some 13,some 14,some 15,some 16,some 17,some 18,some 19,some 20,some 21,some 22]))]⟩
def s12:bf:=⟨12,(bQ 4 22 3 6 [(3,.p 4 0),(11,.nd 0),(12,.nd 1),(13,.nd 2)] [(4,.cells [.p 4 0,.sv 5 3] 153 true false),(5,.vec 3 5 true)]),
 [(.exit 0,(bQ 1 22 3 6 [(3,.p 4 0)] [(4,.cells [.p 4 0,.sv 5 0] 153 true false),(5,.vec 0 5 true)]))]⟩
def aow:bf:=⟨107,(bQ 6 53 3 7 [(0,.nd 0),(4,.sv 4 1),(5,.sv 5 2),(6,.mp 6),(23,.nd 3),(24,.nd 4)] [(6,.smap 5 (some .u64) none),(5,.vec 2 74 true),(4,.vec 1 74 true)]),
 [(.exit 2,(bQ 2 53 3 6 [(4,.sv 4 0),(5,.sv 5 1)] [(5,.vec 1 74 true),(4,.vec 0 74 true)]))]⟩
def s19:bf:=⟨19,(bQ 3 54 3 5 [(0,.nd 0),(1,.nd 1),(6,.sv 4 2)] [(4,.vec 2 74 true)]),
 [(.exit 0,(bQ 2 54 3 5 [(0,.nd 0),(6,.sv 4 1)] [(4,.vec 1 74 true)]))]⟩
def s75:bf:=⟨75,(bQ 28 61 3 6 [(2,.p 4 0),(7,.sv 5 0),(21,.nd 1),(22,.nd 2),(23,.nd 3)] [(5,.vec 0 74 true),(4,.cells zq4 36 true false)]),
 [(.exit 0,(bF 25 61 3 5 [(2,.p 4 0),(7,.nd 0)] [(4,.cells yX 36 true false)] 0 [none,some 4,some 5,some 6,some 7,some 8,some 9,some 10,some 11,some 12,some 13,some 14,some 15,some 16,some 17,some 18,some 19,some 20,some 21,some 22,some 23,some 24,some 25,some 26,some 27]))]⟩
def aoU:bf:=⟨155,(bF 6 59 3 7 [(0,.p 4 0),(3,.sv 5 0),(4,.nd 1)] [(4,.cells [.sv 6 2,.nd 3,.nd 4,.nd 5] 83 true false),(6,.vec 2 5 false),(5,.vec 0 9 true)] 1 []),
 [(.exit 0,(bF 6 59 3 7 [(0,.p 4 0),(3,.sv 5 0),(4,.nd 1)] [(4,.cells [.sv 6 2,.nd 3,.nd 4,.nd 5] 83 true false),(6,.vec 2 5 false),(5,.vec 0 9 true)] 1 [none,none,some 2,some 3,some 4,none])),
  (.ret,(bF 3 59 3 6 [(2,.sv 5 0)] [(4,.cells [.dO,.i .i64 0,.nd 1,.nd 2] 83 true false),(5,.vec 0 9 true)] 1 []))]⟩
def s83:bf:=⟨83,(bQ 4 46 3 5 [(4,.sv 4 0),(9,.nd 1),(10,.nd 2),(11,.nd 3)] [(4,.vec 0 74 true)]),
 [(.ret,(bQ 1 46 3 4 [(2,.dO),(3,.nd 0)] [])),
  (.exit 0,(bQ 1 46 3 5 [(4,.sv 4 0)] [(4,.vec 0 74 true)]))]⟩
def s11:bf:=⟨11,(bQ 4 33 3 5 [(0,.nd 0),(3,.sv 4 1),(9,.nd 2),(10,.nd 3)] [(4,.vec 1 5 false)]),
 [(.exit 0,(bQ 1 33 3 5 [(3,.sv 4 0)] [(4,.vec 0 5 false)]))]⟩
def s48:bf:=⟨48,(bQ 3 42 3 4 [(0,.nd 0),(15,.nd 0),(16,.nd 1),(17,.nd 2)] []),
 [(.ret,(bQ 1 42 3 4 [(2,.nd 0)] [])),
  (.exit 0,(bQ 0 42 3 4 [] []))]⟩
def s6:bf:=⟨6,(bQ 3 37 3 4 [(0,.nd 0),(5,.nd 0),(6,.nd 1),(7,.nd 2)] []),
 [(.ret,(bQ 0 37 3 4 [(2,.b false)] [])),
  (.exit 0,(bF 1 37 3 4 [(0,.nd 0)] [] 0 [some 0]))]⟩
def aoT:bf:=⟨154,(bF 4 59 3 6 [(0,.p 4 0)] [(4,.cells [.sv 5 0,.nd 1,.nd 2,.nd 3] 83 true false),(5,.vec 0 5 false)] 1 []),
 [(.ret,(bF 5 1 3 6 [(0,.nd 0)] [(4,.cells [.sv 5 1,.nd 2,.nd 3,.nd 4] 83 true false),(5,.vec 1 5 false)] 1 [])),
  (.ret,(bF 3 1 3 5 [(0,.nd 0)] [(4,.cells [.dO,.i .i64 0,.nd 1,.nd 2] 83 true false)] 1 []))]⟩
def aoP:bf:=⟨143,(bF 4 46 3 5 [(0,.p 4 0),(1,.nd 0)] [(4,.cells [.dO,.nd 1,.nd 2,.nd 3] 83 true false)] 1 []),
 [(.ret,(bF 5 1 3 6 [(0,.nd 0)] [(4,.cells [.sv 5 1,.nd 2,.nd 3,.nd 4] 83 true false),(5,.vec 1 5 false)] 1 []))]⟩
def aoH:bf:=⟨124,(bF 3 33 3 5 [(0,.p 4 0),(1,.nd 0)] [(4,.cells [.nd 1,.nd 2] 168 true false)] 1 []),
 [(.ret,(bF 5 2 3 5 [(0,.agg [.nd 0,.nd 1]),(1,.nd 2)] [(4,.cells [.nd 3,.nd 4] 168 true false)] 1 []))]⟩
def aoG:bf:=⟨123,(bF 4 63 3 5 [(0,.p 4 0),(1,.nd 2),(2,.nd 3)] [(4,.cells [.nd 0,.nd 1] 168 true false)] 1 []),
 [(.ret,(bF 4 2 3 5 [(0,.nd 0),(1,.nd 1)] [(4,.cells [.nd 2,.nd 3] 168 true false)] 1 []))]⟩
def aoE:bf:=⟨121,(bF 2 56 3 5 [(0,.p 4 0)] [(4,.cells [.nd 0,.nd 1] 168 true false)] 1 []),
 [(.ret,(bF 4 2 3 5 [(0,.nd 0),(1,.nd 1)] [(4,.cells [.nd 2,.nd 3] 168 true false)] 1 []))]⟩
def aoD:bf:=⟨119,(bF 2 25 3 5 [(0,.p 4 0)] [(4,.cells [.nd 0,.nd 1] 168 true false)] 1 []),
 [(.ret,(bF 4 2 3 5 [(0,.nd 0),(1,.nd 1)] [(4,.cells [.nd 2,.nd 3] 168 true false)] 1 []))]⟩
def aoC:bf:=⟨118,(bF 2 37 3 5 [(0,.p 4 0)] [(4,.cells [.nd 0,.nd 1] 168 true false)] 1 []),
 [(.ret,(bF 5 2 3 5 [(0,.agg [.nd 0,.nd 1]),(1,.nd 2)] [(4,.cells [.nd 3,.nd 4] 168 true false)] 1 []))]⟩
def aoA:bf:=⟨116,(bF 2 60 3 5 [(0,.p 4 0)] [(4,.cells [.nd 0,.nd 1] 168 true false)] 1 []),
 [(.ret,(bF 4 2 3 5 [(0,.nd 0),(1,.nd 1)] [(4,.cells [.nd 2,.nd 3] 168 true false)] 1 []))]⟩
def aoz:bf:=⟨113,(bF 30 117 3 5 [(0,.p 4 0),(1,.nd 0),(2,.agg (ru 1 5))] [(4,.cells (ru 6 24) 36 true false)] 1 []),
 [(.ret,(bF 25 1 3 5 [(0,.nd 0)] [(4,.cells yX 36 true false)] 1 [none,some 6,none,none,none,none,none,none,none,none,none,none,none,none,none,none,none,none,none,none,none,none,none,none,some 29]))]⟩
def aos:bf:=⟨101,(bF 7 52 3 7 [(0,.p 5 0),(1,.p 4 0)] [(4,.cells XW 74 true false),(5,.cells [.p 6 0,.nd 2,.nd 0] 113 true false),(6,.cells [.nd 3,.nd 4] 168 true false)] 3 []),
 [(.ret,(bF 9 1 3 7 [(0,.nd 0)] [(4,.cells (ru 1 5) 74 true false),(5,.cells [.p 6 0,.nd 6,.nd 1] 113 true false),(6,.cells [.nd 7,.nd 8] 168 true false)] 3 [none,some 0,some 1,some 5,some 6,none,some 2,none,none]))]⟩
def aor:bf:=⟨100,(bF 7 35 3 7 [(0,.p 5 0),(1,.p 4 0)] [(4,.cells XW 74 true false),(5,.cells [.p 6 0,.nd 2,.nd 0] 113 true false),(6,.cells [.nd 3,.nd 4] 168 true false)] 3 []),
 [(.ret,(bF 8 1 3 7 [(0,.nd 0)] [(4,.cells [.nd 1,.nd 2,.nd 3,.nd 4,.dO] 74 true false),(5,.cells [.p 6 0,.nd 5,.nd 1] 113 true false),(6,.cells [.nd 6,.nd 7] 168 true false)] 3 [none,some 0,some 1,some 5,none,some 2,none,none]))]⟩
def s99:bf:=⟨99,(bF 7 20 3 7 [(0,.p 5 0),(1,.p 4 0)] [(4,.cells XW 74 true false),(5,.cells [.p 6 0,.nd 2,.nd 0] 113 true false),(6,.cells [.nd 3,.nd 4] 168 true false)] 3 []),
 [(.ret,(bF 8 1 3 7 [(0,.nd 0)] [(4,.cells [.nd 1,.nd 2,.nd 3,.nd 4,.dO] 74 true false),(5,.cells [.p 6 0,.nd 5,.nd 1] 113 true false),(6,.cells [.nd 6,.nd 7] 168 true false)] 3 [none,some 0,some 1,none,some 6,some 2,none,none]))]⟩
def s98:bf:=⟨98,(bF 2 24 3 5 [(0,.p 4 0)] [(4,.cells [.nd 0,.nd 1] 168 true false)] 1 []),
 [(.ret,(bF 4 2 3 5 [(0,.nd 0),(1,.nd 1)] [(4,.cells [.nd 2,.nd 3] 168 true false)] 1 []))]⟩
def s97:bf:=⟨97,(bF 4 65 3 6 [(0,.p 4 0)] [(4,.cells [.p 5 0,.nd 0,.nd 1] 113 true false),(5,.cells [.nd 2,.nd 3] 168 true false)] 2 []),
 [(.ret,(bF 10 2 3 6 [(0,.agg (ru 0 5)),(1,.nd 5)] [(4,.cells [.p 5 0,.nd 6,.nd 7] 113 true false),(5,.cells [.nd 8,.nd 9] 168 true false)] 2 [none,none,none,none,none,none,some 0,none,none,none]))]⟩
def s95:bf:=⟨95,(bF 4 26 3 6 [(0,.p 4 0)] [(4,.cells [.p 5 0,.nd 1,.nd 2] 113 true false),(5,.cells [.nd 0,.nd 3] 168 true false)] 2 []),
 [(.ret,(bF 6 2 3 6 [(0,.nd 0),(1,.nd 1)] [(4,.cells [.p 5 0,.nd 2,.nd 3] 113 true false),(5,.cells [.nd 4,.nd 5] 168 true false)] 2 [none,none,some 1,none,none,none]))]⟩
def s89:bf:=⟨89,(bQ 2 69 3 5 [(0,.sv 4 0),(1,.nd 1)] [(4,.vec 0 5 false)]),
 [(.ret,(bQ 1 1 3 5 [(0,.sv 4 0)] [(4,.vec 0 5 false)]))]⟩
def s69:bf:=⟨69,(bQ 0 33 3 4 [(0,.qw)] []),
 [(.ret,(bQ 0 1 3 4 [(0,.i .i64 0)] []))]⟩
def s68:bf:=⟨68,(bF 24 33 3 5 [(0,.dZ 125 (.p 4 15))] [(4,.cells gX 36 true false)] 1 []),
 [(.ret,(bF 24 1 3 5 [(0,.i .i64 0)] [(4,.cells gX 36 true false)] 1 (nY 0 24)))]⟩
def s67:bf:=⟨67,(bF 24 33 3 5 [(0,.dZ 125 (.p 4 14))] [(4,.cells gX 36 true false)] 1 []),
 [(.ret,(bF 24 1 3 5 [(0,.i .i64 0)] [(4,.cells gX 36 true false)] 1 (nY 0 24)))]⟩
def s66:bf:=⟨66,(bF 24 33 3 5 [(0,.dZ 125 (.p 4 13))] [(4,.cells gX 36 true false)] 1 []),
 [(.ret,(bF 24 1 3 5 [(0,.i .i64 0)] [(4,.cells gX 36 true false)] 1 (nY 0 24)))]⟩
def s65:bf:=⟨65,(bF 24 33 3 5 [(0,.dZ 125 (.p 4 12))] [(4,.cells gX 36 true false)] 1 []),
 [(.ret,(bF 24 1 3 5 [(0,.i .i64 0)] [(4,.cells gX 36 true false)] 1 (nY 0 24)))]⟩
def s64:bf:=⟨64,(bF 24 33 3 5 [(0,.dZ 125 (.p 4 11))] [(4,.cells gX 36 true false)] 1 []),
 [(.ret,(bF 24 1 3 5 [(0,.i .i64 0)] [(4,.cells gX 36 true false)] 1 (nY 0 24)))]⟩
def s63:bf:=⟨63,(bF 24 33 3 5 [(0,.dZ 125 (.p 4 10))] [(4,.cells gX 36 true false)] 1 []),
 [(.ret,(bF 24 1 3 5 [(0,.i .i64 0)] [(4,.cells gX 36 true false)] 1 (nY 0 24)))]⟩
def s62:bf:=⟨62,(bF 24 33 3 5 [(0,.dZ 125 (.p 4 9))] [(4,.cells gX 36 true false)] 1 []),
 [(.ret,(bF 24 1 3 5 [(0,.i .i64 0)] [(4,.cells gX 36 true false)] 1 (nY 0 24)))]⟩
def s61:bf:=⟨61,(bF 24 33 3 5 [(0,.dZ 125 (.p 4 8))] [(4,.cells gX 36 true false)] 1 []),
 [(.ret,(bF 24 1 3 5 [(0,.i .i64 0)] [(4,.cells gX 36 true false)] 1 (nY 0 24)))]⟩
def s60:bf:=⟨60,(bF 24 33 3 5 [(0,.dZ 125 (.p 4 7))] [(4,.cells gX 36 true false)] 1 []),
 [(.ret,(bF 24 1 3 5 [(0,.i .i64 0)] [(4,.cells gX 36 true false)] 1 (nY 0 24)))]⟩
def s59:bf:=⟨59,(bF 24 33 3 5 [(0,.dZ 125 (.p 4 6))] [(4,.cells gX 36 true false)] 1 []),
 [(.ret,(bF 24 1 3 5 [(0,.i .i64 0)] [(4,.cells gX 36 true false)] 1 (nY 0 24)))]⟩
def s58:bf:=⟨58,(bF 24 33 3 5 [(0,.dZ 125 (.p 4 5))] [(4,.cells gX 36 true false)] 1 []),
 [(.ret,(bF 24 1 3 5 [(0,.i .i64 0)] [(4,.cells gX 36 true false)] 1 (nY 0 24)))]⟩
def s57:bf:=⟨57,(bF 24 33 3 5 [(0,.dZ 125 (.p 4 4))] [(4,.cells gX 36 true false)] 1 []),
 [(.ret,(bF 24 1 3 5 [(0,.i .i64 0)] [(4,.cells gX 36 true false)] 1 (nY 0 24)))]⟩
def s56:bf:=⟨56,(bF 24 33 3 5 [(0,.dZ 125 (.p 4 3))] [(4,.cells gX 36 true false)] 1 []),
 [(.ret,(bF 24 1 3 5 [(0,.i .i64 0)] [(4,.cells gX 36 true false)] 1 (nY 0 24)))]⟩
def s55:bf:=⟨55,(bF 24 33 3 5 [(0,.dZ 125 (.p 4 2))] [(4,.cells gX 36 true false)] 1 []),
 [(.ret,(bF 24 1 3 5 [(0,.i .i64 0)] [(4,.cells gX 36 true false)] 1 (nY 0 24)))]⟩
def s54:bf:=⟨54,(bF 24 33 3 5 [(0,.dZ 125 (.p 4 1))] [(4,.cells gX 36 true false)] 1 []),
 [(.ret,(bF 24 1 3 5 [(0,.i .i64 0)] [(4,.cells gX 36 true false)] 1 (nY 0 24)))]⟩
def s50:bf:=⟨50,(bF 24 33 3 5 [(0,.dZ 136 (.p 4 22))] [(4,.cells gX 36 true false)] 1 []),
 [(.ret,(bF 25 1 3 5 [(0,.nd 0)] [(4,.cells yX 36 true false)] 1 [none,some 0,some 1,some 2,some 3,some 4,some 5,some 6,some 7,some 8,some 9,some 10,some 11,some 12,some 13,some 14,some 15,some 16,some 17,some 18,some 19,some 20,some 21,some 22,some 23]))]⟩
def s46:bf:=⟨46,(bF 24 33 3 5 [(0,.dZ 133 (.p 4 21))] [(4,.cells gX 36 true false)] 1 []),
 [(.ret,(bF 25 1 3 5 [(0,.nd 0)] [(4,.cells yX 36 true false)] 1 [none,some 0,some 1,some 2,some 3,some 4,some 5,some 6,some 7,some 8,some 9,some 10,some 11,some 12,some 13,some 14,some 15,some 16,some 17,some 18,some 19,some 20,some 21,some 22,some 23]))]⟩
def s45:bf:=⟨45,(bF 24 33 3 5 [(0,.dZ 131 (.p 4 20))] [(4,.cells gX 36 true false)] 1 []),
 [(.ret,(bF 25 1 3 5 [(0,.nd 0)] [(4,.cells yX 36 true false)] 1 [none,some 0,some 1,some 2,some 3,some 4,some 5,some 6,some 7,some 8,some 9,some 10,some 11,some 12,some 13,some 14,some 15,some 16,some 17,some 18,some 19,some 20,some 21,some 22,some 23]))]⟩
def s44:bf:=⟨44,(bF 24 33 3 5 [(0,.dZ 131 (.p 4 19))] [(4,.cells gX 36 true false)] 1 []),
 [(.ret,(bF 25 1 3 5 [(0,.nd 0)] [(4,.cells yX 36 true false)] 1 [none,some 0,some 1,some 2,some 3,some 4,some 5,some 6,some 7,some 8,some 9,some 10,some 11,some 12,some 13,some 14,some 15,some 16,some 17,some 18,some 19,some 20,some 21,some 22,some 23]))]⟩
def s40:bf:=⟨40,(bF 24 33 3 5 [(0,.dZ 131 (.p 4 18))] [(4,.cells gX 36 true false)] 1 []),
 [(.ret,(bF 25 1 3 5 [(0,.nd 0)] [(4,.cells yX 36 true false)] 1 [none,some 0,some 1,some 2,some 3,some 4,some 5,some 6,some 7,some 8,some 9,some 10,some 11,some 12,some 13,some 14,some 15,some 16,some 17,some 18,some 19,some 20,some 21,some 22,some 23]))]⟩
def s39:bf:=⟨39,(bF 24 33 3 5 [(0,.dZ 127 (.p 4 17))] [(4,.cells gX 36 true false)] 1 []),
 [(.ret,(bF 24 1 3 5 [(0,.i .i64 0)] [(4,.cells gX 36 true false)] 1 (nY 0 24)))]⟩
def s38:bf:=⟨38,(bF 24 33 3 5 [(0,.dZ 129 (.p 4 16))] [(4,.cells gX 36 true false)] 1 []),
 [(.ret,(bF 24 1 3 5 [(0,.i .i64 0)] [(4,.cells gX 36 true false)] 1 (nY 0 24)))]⟩
noncomputable def rows:List Row:=[
 .any (λgs out=>Lp gs=some out),
 .fn 3 [] [.sc] [] [],
 .fn 5 [] [.sc] [] [],
 .fn 17 [] [.sc] [] [(0,4)],
 .lp 17 [([],0)] s4 [] [],
 .fn 18 [] [.sc] [] [(0,6)],
 .lp 18 [([],0)] s6 [] [],
 .fn 42 [] [.sc] [] [(0,12)],
 .fn 23 [] [.sc] [] [(0,11)],
 .fn 48 [] [.sc] [] [(0,10)],
 .lp 48 [([],0)] s10 [] [],
 .lp 23 [([],0)] s11 [] [],
 .lp 42 [([],0)] s12 [] [],
 .fn 72 [] [.sc] [] [],
 .fn 19 [] [.sc] [] [(0,15)],
 .lp 19 [([],0)] s15 [] [],
 .fn 6 [] [.ag 24] [] [],
 .fn 20 [] [.sc] [] [],
 .fn 43 [] [.sc,.sc] [] [(0,19)],
 .lp 43 [([],0)] s19 [] [],
 .fn 7 [] [.sc,.sc] [] [],
 .fn 21 [] [.sc,.sc] [] [(0,75)],
 .fn 15 [] [.sc] [] [(0,34),(1,36),(2,37),(3,73)],
 .fn 25 [] [.sc] [] [],
 .fn 27 [] [.sc] [] [(0,26)],
 .fn 82 [] [.sc] [] [],
 .lp 27 [([],0)] s26 [] [],
 .fn 83 [] [.sc] [] [],
 .fn 84 [] [.sc] [] [],
 .fn 85 [] [.sc] [] [],
 .fn 86 [] [.sc] [] [],
 .fn 87 [] [.sc] [] [],
 .fn 88 [] [.sc] [] [],
 .fn 89 [] [.sc] [] [],
 .lp 15 [([],0)] s34 [] [],
 .told 32 [] [.sc],
 .lp 15 [([],1)] s36 [] [],
 .lp 15 [([],2)] s37 [] [],
 .fs 38 [] s38 [] [],
 .fs 38 [] s39 [] [],
 .fs 38 [] s40 [] [],
 .fn 66 [] [.sc] [] [],
 .fn 106 [] [.sc] [] [],
 .told 137 [] [.sc],
 .fs 38 [] s44 [] [],
 .fs 38 [] s45 [] [],
 .fs 38 [] s46 [] [],
 .fn 67 [] [.sc] [] [(0,48)],
 .lp 67 [([],0)] s48 [] [],
 .fn 108 [] [.sc] [] [],
 .fs 38 [] s50 [] [],
 .fn 68 [] [.sc] [] [(0,52)],
 .lp 68 [([],0)] s52 [] [],
 .fn 110 [] [.sc] [] [],
 .fs 38 [] s54 [] [],
 .fs 38 [] s55 [] [],
 .fs 38 [] s56 [] [],
 .fs 38 [] s57 [] [],
 .fs 38 [] s58 [] [],
 .fs 38 [] s59 [] [],
 .fs 38 [] s60 [] [],
 .fs 38 [] s61 [] [],
 .fs 38 [] s62 [] [],
 .fs 38 [] s63 [] [],
 .fs 38 [] s64 [] [],
 .fs 38 [] s65 [] [],
 .fs 38 [] s66 [] [],
 .fs 38 [] s67 [] [],
 .fs 38 [] s68 [] [],
 .fs 38 [] s69 [] [],
 .fn 40 [] [.sc] [] [],
 .fn 69 [] [.sc] [] [(0,72)],
 .lp 69 [([],0)] s72 [] [],
 .lp 15 [([],3)] s73 [] [(0,74)],
 .lp 15 [([],3),([],0)] s74 [] [],
 .lp 21 [([],0)] s75 [] [],
 .fn 44 [] [.ag 5,.sc] [] [],
 .fn 77 [] [.sc,.sc] [] [(0,78)],
 .lp 77 [([],0)] s78 [] [],
 .fn 115 [] [.sc] [] [],
 .fn 142 [] [.sc] [] [(0,81)],
 .lp 142 [([],0)] s81 [] [],
 .fn 45 [] [.sc,.sc] [] [(0,83),(1,84)],
 .lp 45 [([],0)] s83 [] [],
 .lp 45 [([],1)] s84 [] [],
 .told 52 [] [.sc],
 .fn 22 [] [.sc,.sc] [] [],
 .fn 46 [] [.sc] [] [(0,88)],
 .lp 46 [([],0)] s88 [] [],
 .fs 47 [] s89 [] [(0,90)],
 .lp 47 [([],0)] s90 [] [],
 .fn 8 [] [.ag 24,.sc] [] [(0,102),(1,108)],
 .fn 24 [] [.sc,.sc,.sc] [] [(0,93)],
 .lp 24 [([],0)] s93 [] [],
 .fn 26 [] [.sc,.sc] [] [],
 .fs 51 [] s95 [] [(0,96)],
 .lp 51 [([],0)] s96 [] [],
 .fs 91 [] s97 [] [],
 .fs 118 [] s98 [] [],
 .fs 119 [] s99 [] [],
 .fs 120 [] aor [] [],
 .fs 121 [] aos [] [],
 .lp 8 [([],0)] aot [] [],
 .fn 29 [] [.sc] [] [(0,104)],
 .lp 29 [([],0)] aou [] [],
 .fn 28 [] [.sc,.sc] [] [(0,106),(1,107)],
 .lp 28 [([],0)] aov [] [],
 .lp 28 [([],1)] aow [] [],
 .lp 8 [([],1)] aox [] [],
 .fn 30 [] [.ag 24,.sc] [] [],
 .fn 53 [] [.ag 24] [] [(0,112)],
 .told 92 [] [.sc],
 .lp 53 [([],0)] aoy [] [],
 .fs 54 [] aoz [] [],
 .fn 94 [] [.sc] [] [],
 .fn 96 [] [.sc,.sc] [] [],
 .fs 122 [] aoA [] [(0,117)],
 .lp 122 [([],0)] aoB [] [],
 .fs 154 [] aoC [] [],
 .fs 169 [] aoD [] [],
 .fn 97 [] [.sc,.sc] [] [],
 .fs 123 [] aoE [] [(0,122)],
 .lp 123 [([],0)] aoF [] [],
 .fs 155 [] aoG [] [],
 .fs 156 [] aoH [] [],
 .fn 9 [] [.sc,.sc] [] [],
 .fn 31 [] [.sc,.sc] [] [],
 .fn 56 [] [.sc] [] [],
 .fn 98 [] [.sc] [] [(0,130)],
 .told 124 [] [.ag 16],
 .lp 98 [([],0)] aoI [] [(0,131)],
 .lp 98 [([],0),([],0)] aoJ [] [],
 .fn 10 [] [.sc] [] [(0,133)],
 .lp 10 [([],0)] aoK [] [],
 .fn 60 [] [.sc] [] [(0,135)],
 .lp 60 [([],0)] aoL [] [],
 .fn 61 [] [.sc] [] [],
 .fn 101 [none,none,some 102] [.sc] [] [(0,138)],
 .lp 101 [([],0)] aoM [] [],
 .fn 102 [] [.sc] [] [],
 .fn 35 [] [.sc] [] [(0,141)],
 .lp 35 [([],0)] aoN [] [(0,142)],
 .lp 35 [([],0),([],0)] aoO [] [],
 .fs 12 [] aoP [] [(0,144)],
 .lp 12 [([],0)] aoQ [] [],
 .any (λgs out=>True),
 .any (λgs out=>True),
 .fn 64 [] [.sc,.sc,.sc] [] [],
 .fn 103 [] [.sc] [] [(0,149)],
 .lp 103 [([],0)] aoR [] [],
 .fn 104 [] [.sc] [] [],
 .fn 105 [] [.sc] [] [],
 .fn 65 [] [.sc] [] [(0,153)],
 .lp 65 [([],0)] aoS [] [],
 .fs 36 [] aoT [] [(0,155)],
 .lp 36 [([],0)] aoU [] [],
 .fn 14 [] [.sc] [] []]
noncomputable abbrev C:=uS Tryz.prog fF rows
noncomputable def agm:Code:=Tryz.f3.body.getD .skip
noncomputable def pl0:jW:=PL.cons 78 (λN=>@VT N 0 79) (PL.cons 4 (λ_=>EW) (PL.cons 141 (λ_=>KZ) (PL.nil)))
noncomputable def es:List (FuncId×List Nat):=[(38,[69,68,67,66,65,64,63,62,61,60,59,58,57,56,55,54,50,46,45,44,40,39,38]),(47,[89]),(51,[95]),(91,[97]),(118,[98]),(119,[99]),(120,[100]),(121,[101]),(54,[113]),(122,[116]),(154,[118]),(169,[119]),(123,[121]),(155,[123]),(156,[124]),(12,[143]),(36,[154]),(96,[115]),(82,[25]),(44,[76]),(61,[136]),(89,[33]),(42,[7]),(105,[151]),(110,[53]),(6,[16]),(27,[24]),(92,[111]),(28,[105]),(60,[134]),(101,[137]),(25,[23]),(106,[42]),(48,[9]),(85,[29]),(24,[92]),(88,[32]),(115,[79]),(94,[114]),(31,[126]),(98,[128]),(10,[132]),(32,[35]),(87,[31]),(35,[140]),(18,[5]),(104,[150]),(84,[28]),(65,[152]),(52,[85]),(86,[30]),(29,[103]),(102,[139]),(43,[18]),(5,[2]),(19,[14]),(22,[86]),(23,[8]),(21,[21]),(68,[51]),(46,[87]),(66,[41]),(103,[148]),(77,[77]),(124,[129]),(45,[82]),(40,[70]),(67,[47]),(53,[110]),(8,[91]),(20,[17]),(83,[27]),(56,[127]),(15,[22]),(142,[80]),(9,[125]),(17,[3]),(64,[147]),(7,[20]),(14,[156]),(30,[109]),(97,[120]),(69,[71]),(72,[13]),(137,[43]),(3,[1]),(26,[94]),(108,[49])]
noncomputable def pl:jW:=acV Tryz.prog rows es pl0
end S
end Go.Proofs.YtnlegpmfkopalaaGreatDoor
