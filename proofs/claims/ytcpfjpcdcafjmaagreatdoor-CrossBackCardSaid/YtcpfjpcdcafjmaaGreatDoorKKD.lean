/- The shapes, and all definitions as rows. -/
import Derived.Test.YtcpfjpcdcafjmaaGreatDoorKRBase
import Derived.Test.YtcpfjpcdcafjmaaGreatDoorKKT
import Derived.Test.YtcpfjpcdcafjmaaGreatDoorAbsTab
import Derived.Test.YtcpfjpcdcafjmaaGreatDoorAbsPl
import Derived.Test.YtcpfjpcdcafjmaaGreatDoorAbsTold
import Derived.Test.YtcpfjpcdcafjmaaGreatDoorAbsTold2
import Derived.Test.YtcpfjpcdcafjmaaGreatDoorAbsTold3
import Derived.Test.YtcpfjpcdcafjmaaGreatDoorAbsFields
import Derived.Test.YtcpfjpcdcafjmaaGreatDoorAbsSortF
namespace Go.Proofs.YtcpfjpcdcafjmaaGreatDoor
open Go Go.aO
set_option maxRecDepth 100000
set_option linter.unusedVariables false
set_option linter.unusedSimpArgs false
namespace K
def oV:Nat->Nat->List AV
 | _,0=>[]
 | a,n+1=>.nd a::oV (a+1) n
def pF:Nat->Nat->List (Option Nat)
 | _,0=>[]
 | a,n+1=>some a::pF (a+1) n
theorem low:tq fF Tryz.prog.globals.size:=by
 rw [V3];refine ⟨λp hp=>?_,λp hp=>?_⟩
 all_goals
  simp only [fF,cO,Eo,or_false] at hp;rcases hp with rfl | rfl
  all_goals first | decide | rfl
def yyw (np n gn next:Nat) (slots:List (Nat×AV)) (objs:List (Nat×bn)) (ka:Nat) (al:List (Option Nat)):fP:={ np:=np,n:=n,gn:=gn,next:=next,slots:=slots,objs:=objs,ka:=ka,al:=al }
def yyz (np n gn next:Nat) (slots:List (Nat×AV)) (objs:List (Nat×bn)):fP:=yyw np n gn next slots objs 0 []
def gW:List AV:=(oV 0 24)
def zQ:List AV:=[.i .i64 0,.i .u64 0,.i .u64 0,.i .u64 0,.i .u64 0,.i .u64 0,.i .u64 0,.i .u64 0,.i .u64 0,.i .u64 0,.i .u64 0,.i .u64 0,.i .u64 0,.i .u64 0,.i .u64 0,.i .u64 0,.i .i64 0,.b false,.s [],.s [],.s [],.dM,.dM,.dM]
def zS:List AV:=(oV 1 24)
def Nb:List AV:=(oV 4 24)
def Yu:List AV:=(oV 3 24)
def zq5:List AV:=(oV 31 24)
def zq6:List AV:=(oV 55 24)
def zq7:List AV:=(oV 27 24)
def zq8:List AV:=(oV 7 24)
def zq9:List AV:=(oV 5 24)
def afw:List AV:=(oV 2 24)
def Yt:List AV:=[.nd 0,.nd 1,.nd 5,.nd 6,.dM]
def s85:bC:=⟨85,(yyz 2 46 3 5 [(4,.sv 4 0),(8,.nd 1)] [(4,.vec 0 67 true)]),
 [(.ret,(yyz 0 46 3 4 [(2,.dM),(3,.i .i64 14)] [])),
  (.exit 2,(yyw 1 46 3 5 [(4,.sv 4 0)] [(4,.vec 0 67 true)] 0 [some 0]))]⟩
def s20:bC:=⟨20,(yyz 3 42 3 4 [(0,.nd 0),(15,.nd 0),(16,.nd 1),(17,.nd 2)] []),
 [(.ret,(yyz 1 42 3 4 [(2,.nd 0)] [])),
  (.exit 0,(yyz 0 42 3 4 [] []))]⟩
def s73:bC:=⟨73,(yyz 5 46 3 4 [(1,.nd 0),(5,.nd 1),(9,.nd 2),(10,.nd 3),(11,.nd 4)] []),
 [(.ret,(yyz 1 46 3 4 [(4,.nd 0)] [])),
  (.exit 0,(yyz 0 46 3 4 [] []))]⟩
def ao6:bC:=⟨125,(yyw 6 56 3 6 [(0,.p 4 0),(6,.sv 5 0),(7,.nd 1),(25,.nd 2),(26,.nd 3)] [(4,.cells [.nd 4,.nd 5] 263 true false),(5,.vec 0 77 false)] 1 []),
 [(.ret,(yyw 3 56 3 5 [(2,.dM),(3,.nd 0)] [(4,.cells [.nd 1,.nd 2] 263 true false)] 1 [])),
  (.exit 0,(yyw 3 56 3 6 [(6,.sv 5 0)] [(4,.cells [.nd 1,.nd 2] 263 true false),(5,.vec 0 77 false)] 1 []))]⟩
def s47:bC:=⟨47,(yyz 27 116 3 5 [(2,.p 4 0),(6,.nd 0),(71,.nd 0),(72,.nd 1),(73,.nd 2)] [(4,.cells Yu 38 true false)]),
 [(.ret,(yyz 1 116 3 4 [(4,.nd 0)] [])),
  (.exit 4,(yyw 25 116 3 5 [(2,.p 4 0),(6,.nd 0)] [(4,.cells zS 38 true false)] 0 [some 0,some 3,some 4,some 5,some 6,some 7,some 8,some 9,some 10,some 11,some 12,some 13,some 14,some 15,some 16,some 17,some 18,some 19,some 20,some 21,some 22,some 23,some 24,some 25,some 26]))]⟩
def s84:bC:=⟨84,(yyz 4 46 3 5 [(4,.sv 4 0),(9,.nd 1),(10,.nd 2),(11,.nd 3)] [(4,.vec 0 67 true)]),
 [(.ret,(yyz 1 46 3 4 [(2,.dM),(3,.nd 0)] [])),
  (.exit 0,(yyz 1 46 3 5 [(4,.sv 4 0)] [(4,.vec 0 67 true)]))]⟩
def s10:bC:=⟨10,(yyz 2 11 3 4 [(0,.nd 0),(3,.nd 1)] []),
 [(.exit 0,(yyz 1 11 3 4 [(3,.nd 0)] []))]⟩
def s76:bC:=⟨76,(yyz 28 61 3 6 [(2,.p 4 0),(7,.sv 5 0),(21,.nd 1),(22,.nd 2),(23,.nd 3)] [(5,.vec 0 67 true),(4,.cells Nb 38 true false)]),
 [(.exit 0,(yyw 25 61 3 5 [(2,.p 4 0),(7,.nd 0)] [(4,.cells zS 38 true false)] 0 [none,some 4,some 5,some 6,some 7,some 8,some 9,some 10,some 11,some 12,some 13,some 14,some 15,some 16,some 17,some 18,some 19,some 20,some 21,some 22,some 23,some 24,some 25,some 26,some 27]))]⟩
def aoV:bC:=⟨107,(yyz 4 23 3 5 [(5,.sv 4 0),(10,.nd 1),(11,.nd 2),(12,.nd 3)] [(4,.vec 0 22 true)]),
 [(.exit 0,(yyz 1 23 3 5 [(5,.sv 4 0)] [(4,.vec 0 22 true)]))]⟩
def s46:bC:=⟨46,(yyz 29 116 3 6 [(2,.p 4 0),(6,.nd 0),(7,.mp 5),(54,.nd 1),(55,.nd 2),(56,.nd 3)] [(5,.smap 4 none none),(4,.cells zq9 38 true false)]),
 [(.ret,(yyz 0 116 3 4 [(4,.i .i64 26)] [])),
  (.exit 2,(yyw 25 116 3 5 [(2,.p 4 0),(6,.nd 0)] [(4,.cells zS 38 true false)] 0 [some 0,some 5,some 6,some 7,some 8,some 9,some 10,some 11,some 12,some 13,some 14,some 15,some 16,some 17,some 18,some 19,some 20,some 21,some 22,some 23,some 24,some 25,some 26,some 27,some 28]))]⟩
def s96:bC:=⟨96,(yyz 4 50 3 4 [(0,.nd 0),(5,.nd 1),(9,.nd 2),(10,.nd 3)] []),
 [(.ret,(yyz 3 50 3 4 [(2,.nd 0),(3,.nd 1),(4,.nd 2)] [])),
  (.exit 0,(yyz 1 50 3 4 [(0,.nd 0)] []))]⟩
def s28:bC:=⟨28,(yyz 3 54 3 5 [(0,.nd 0),(1,.nd 1),(6,.sv 4 2)] [(4,.vec 2 67 true)]),
 [(.exit 0,(yyz 2 54 3 5 [(0,.nd 0),(6,.sv 4 1)] [(4,.vec 1 67 true)]))]⟩
def aoX:bC:=⟨110,(yyz 6 53 3 7 [(0,.nd 0),(4,.sv 4 1),(5,.sv 5 2),(6,.mp 6),(23,.nd 3),(24,.nd 4)] [(6,.smap 5 (some .u64) none),(5,.vec 2 67 true),(4,.vec 1 67 true)]),
 [(.exit 2,(yyz 2 53 3 6 [(4,.sv 4 0),(5,.sv 5 1)] [(5,.vec 1 67 true),(4,.vec 0 67 true)]))]⟩
def apb:bC:=⟨136,(yyz 4 32 3 4 [(1,.nd 0),(2,.fn 140 [] []),(15,.nd 1),(16,.nd 2),(17,.nd 3)] []),
 [(.ret,(yyz 0 32 3 4 [(6,.b false)] [])),
  (.exit 0,(yyz 0 32 3 4 [] []))]⟩
def s91:bC:=⟨91,(yyz 4 69 3 5 [(0,.sv 4 0),(1,.nd 1),(8,.nd 2),(9,.nd 3)] [(4,.vec 0 5 false)]),
 [(.exit 0,(yyz 1 69 3 5 [(0,.sv 4 0)] [(4,.vec 0 5 false)]))]⟩
def ao2:bC:=⟨120,(yyw 5 60 3 6 [(0,.p 4 0),(7,.sv 5 0),(28,.nd 1),(29,.nd 2)] [(4,.cells [.nd 3,.nd 4] 263 true false),(5,.vec 0 130 false)] 1 []),
 [(.ret,(yyw 3 60 3 5 [(2,.dM),(3,.nd 0)] [(4,.cells [.nd 1,.nd 2] 263 true false)] 1 [])),
  (.exit 0,(yyw 3 60 3 6 [(7,.sv 5 0)] [(4,.cells [.nd 1,.nd 2] 263 true false),(5,.vec 0 130 false)] 1 []))]⟩
def s82:bC:=⟨82,(yyz 3 28 3 4 [(0,.nd 0),(1,.nd 1),(5,.nd 2)] []),
 [(.exit 0,(yyz 1 28 3 4 [(5,.nd 0)] []))]⟩
def s4:bC:=⟨4,(yyz 3 23 3 4 [(0,.nd 0),(5,.nd 0),(6,.nd 1),(7,.nd 2)] []),
 [(.ret,(yyz 0 23 3 4 [(2,.b false)] [])),
  (.exit 0,(yyw 1 23 3 4 [(0,.nd 0)] [] 0 [some 0]))]⟩
def apd:bC:=⟨140,(yyz 5 80 3 6 [(5,.sv 4 0),(6,.p 5 0),(37,.nd 1),(38,.nd 2)] [(5,.cells [.nd 3,.nd 4] 125 true false),(4,.vec 0 125 false)]),
 [(.ret,(yyz 0 80 3 4 [(4,.b false)] [])),
  (.exit 2,(yyz 1 80 3 5 [(5,.sv 4 0)] [(4,.vec 0 125 false)]))]⟩
def aoU:bC:=⟨105,(yyz 7 123 3 6 [(1,.nd 0),(4,.p 4 0),(9,.nd 1),(11,.nd 2),(12,.mp 5),(70,.nd 3),(71,.nd 4),(72,.nd 5)] [(5,.smap 6 (some .u64) none),(4,.cells zQ 38 true false)]),
 [(.exit 0,(yyw 4 123 3 6 [(1,.nd 0),(4,.p 4 0),(9,.nd 1),(11,.nd 2),(12,.mp 5)] [(5,.smap 3 (some .u64) none),(4,.cells zQ 38 true false)] 0 [some 0,some 1,some 2,none]))]⟩
def apj:bC:=⟨148,(yyz 28 33 3 6 [(1,.p 4 0),(3,.mp 5),(9,.nd 0),(10,.nd 1),(11,.nd 2)] [(5,.smap 3 none (some 3)),(4,.cells Nb 38 true false)]),
 [(.exit 0,(yyz 1 33 3 5 [(3,.mp 4)] [(4,.smap 0 none (some 3))]))]⟩
def s44:bC:=⟨44,(yyz 28 116 3 6 [(2,.p 4 0),(6,.nd 0),(7,.mp 5),(44,.nd 0),(45,.nd 1),(46,.nd 2)] [(5,.smap 3 none none),(4,.cells Nb 38 true false)]),
 [(.exit 0,(yyw 26 116 3 6 [(2,.p 4 0),(6,.nd 0),(7,.mp 5)] [(5,.smap 1 none none),(4,.cells afw 38 true false)] 0 [some 0,none,some 4,some 5,some 6,some 7,some 8,some 9,some 10,some 11,some 12,some 13,some 14,some 15,some 16,some 17,some 18,some 19,some 20,some 21,some 22,some 23,some 24,some 25,some 26,some 27]))]⟩
def s79:bC:=⟨79,(yyz 5 42 3 6 [(5,.p 4 0),(6,.nd 0),(22,.nd 1),(23,.nd 2),(24,.nd 3)] [(4,.cells [.p 4 0,.sv 5 4] 137 true false),(5,.vec 4 5 true)]),
 [(.exit 0,(yyz 1 42 3 6 [(5,.p 4 0)] [(4,.cells [.p 4 0,.sv 5 0] 137 true false),(5,.vec 0 5 true)]))]⟩
def apa:bC:=⟨133,(yyz 4 26 3 4 [(0,.nd 0),(1,.nd 1),(12,.nd 2),(13,.nd 3)] []),
 [(.ret,(yyz 0 26 3 4 [(4,.b false)] [])),
  (.exit 0,(yyz 0 26 3 4 [] []))]⟩
def s36:bC:=⟨36,(yyz 5 46 3 5 [(1,.nd 0),(7,.sv 4 1),(30,.nd 2),(31,.nd 3),(32,.nd 4)] [(4,.vec 1 65 true)]),
 [(.exit 0,(yyz 1 46 3 5 [(7,.sv 4 0)] [(4,.vec 0 65 true)]))]⟩
def apk:bC:=⟨149,(yyz 28 62 3 7 [(6,.p 4 0),(8,.p 5 0),(9,.mp 6),(20,.nd 0),(21,.nd 1),(22,.nd 2)] [(6,.smap 3 none (some 3)),(5,.cells Nb 38 true false),(4,.cells zQ 38 true false)]),
 [(.ret,(yyz 1 62 3 5 [(6,.p 4 0),(7,.nd 0)] [(4,.cells zQ 38 true false)])),
  (.exit 0,(yyz 24 62 3 6 [(6,.p 4 0),(8,.p 5 0)] [(5,.cells gW 38 true false),(4,.cells zQ 38 true false)]))]⟩
def apg:bC:=⟨145,(yyz 4 19 3 4 [(0,.nd 0),(1,.nd 1),(7,.nd 2),(8,.nd 3)] []),
 [(.ret,(yyz 1 19 3 4 [(4,.nd 0)] [])),
  (.exit 0,(yyz 0 19 3 4 [] []))]⟩
def aoZ:bC:=⟨115,(yyz 27 38 3 7 [(1,.p 4 0),(2,.p 5 0),(3,.sv 6 0),(15,.nd 1),(16,.nd 2),(17,.nd 3)] [(6,.vec 0 77 false),(5,.cells zQ 38 true false),(4,.cells [.nd 4,.nd 5,.nd 6,.nd 7,.nd 8,.nd 9,.nd 10,.nd 11,.nd 12,.nd 13,.nd 14,.nd 15,.nd 16,.nd 17,.nd 18,.nd 19,.nd 20,.nd 21,.nd 22,.nd 23,.nd 24,.nd 25,.nd 1,.nd 26] 38 true false)]),
 [(.exit 0,(yyw 25 38 3 7 [(1,.p 4 0),(2,.p 5 0),(3,.sv 6 0)] [(6,.vec 0 77 false),(5,.cells zQ 38 true false),(4,.cells zS 38 true false)] 0 [none,some 4,some 5,some 6,some 7,some 8,some 9,some 10,some 11,some 12,some 13,some 14,some 15,some 16,some 17,some 18,some 19,some 20,some 21,some 22,some 23,some 24,some 25,some 1,some 26]))]⟩
def s89:bC:=⟨89,(yyz 4 66 3 4 [(0,.nd 0),(3,.nd 1),(8,.nd 2),(9,.nd 3)] []),
 [(.exit 0,(yyz 1 66 3 4 [(3,.nd 0)] []))]⟩
def ape:bC:=⟨141,(yyz 79 239 3 8 [(4,.nd 0),(6,.p 4 0),(11,.p 5 0),(12,.nd 1),(13,.nd 2),(14,.p 6 0),(24,.sv 7 3),(151,.nd 4),(152,.nd 5),(153,.nd 6)] [(7,.vec 3 9 true),(6,.cells zq8 38 true false),(5,.cells zq5 38 true false),(4,.cells zq6 31 true false)]),
 [(.ret,(yyz 0 239 3 4 [(10,.b false)] [])),
  (.exit 0,(yyw 76 239 3 7 [(4,.nd 0),(6,.p 4 0),(11,.p 5 0),(12,.nd 1),(13,.nd 2),(14,.p 6 0),(24,.nd 3)] [(6,.cells Nb 38 true false),(5,.cells (oV 28 24) 38 true false),(4,.cells (oV 52 24) 31 true false)] 0 [some 0,some 1,some 2,none,some 7,some 8,some 9,some 10,some 11,some 12,some 13,some 14,some 15,some 16,some 17,some 18,some 19,some 20,some 21,some 22,some 23,some 24,some 25,some 26,some 27,some 28,some 29,some 30,some 31,some 32,some 33,some 34,some 35,some 36,some 37,some 38,some 39,some 40,some 41,some 42,some 43,some 44,some 45,some 46,some 47,some 48,some 49,some 50,some 51,some 52,some 53,some 54,some 55,some 56,some 57,some 58,some 59,some 60,some 61,some 62,some 63,some 64,some 65,some 66,some 67,some 68,some 69,some 70,some 71,some 72,some 73,some 74,some 75,some 76,some 77,some 78]))]⟩
def s17:bC:=⟨17,(yyz 4 42 3 4 [(3,.nd 0),(11,.nd 1),(12,.nd 2),(13,.nd 3)] []),
 [(.ret,(yyz 1 42 3 4 [(2,.nd 0)] [])),
  (.exit 0,(yyz 0 42 3 4 [] []))]⟩
def s99:bC:=⟨99,(yyw 5 26 3 7 [(0,.p 4 0),(4,.sv 6 0)] [(4,.cells [.p 5 0,.nd 1,.nd 2] 229 true false),(5,.cells [.nd 3,.nd 4] 263 true false),(6,.vec 0 67 true)] 2 []),
 [(.ret,(yyw 5 26 3 6 [(2,.dM),(3,.nd 0)] [(4,.cells [.p 5 0,.nd 1,.nd 2] 229 true false),(5,.cells [.nd 3,.nd 4] 263 true false)] 2 [none,some 1,none,none,none])),
  (.exit 0,(yyw 5 26 3 7 [(4,.sv 6 0)] [(4,.cells [.p 5 0,.nd 1,.nd 2] 229 true false),(5,.cells [.nd 3,.nd 4] 263 true false),(6,.vec 0 67 true)] 2 [none,some 1,none,none,none]))]⟩
def s15:bC:=⟨15,(yyz 3 19 3 4 [(0,.nd 0),(5,.nd 0),(6,.nd 1),(7,.nd 2)] []),
 [(.ret,(yyz 0 19 3 4 [(2,.b false)] [])),
  (.exit 0,(yyw 1 19 3 4 [(0,.nd 0)] [] 0 [some 0]))]⟩
def s12:bC:=⟨12,(yyz 4 22 3 6 [(3,.p 4 0),(11,.nd 0),(12,.nd 1),(13,.nd 2)] [(4,.cells [.p 4 0,.sv 5 3] 137 true false),(5,.vec 3 5 true)]),
 [(.exit 0,(yyz 1 22 3 6 [(3,.p 4 0)] [(4,.cells [.p 4 0,.sv 5 0] 137 true false),(5,.vec 0 5 true)]))]⟩
def apf:bC:=⟨142,(yyz 79 239 3 8 [(6,.p 4 0),(11,.p 5 0),(12,.nd 0),(13,.nd 1),(14,.p 6 0),(24,.nd 2),(31,.sv 7 3),(183,.nd 4),(184,.nd 5),(185,.nd 6)] [(7,.vec 3 9 true),(6,.cells zq8 38 true false),(5,.cells zq5 38 true false),(4,.cells zq6 31 true false)]),
 [(.exit 2,(yyw 75 239 3 7 [(6,.p 4 0),(11,.p 5 0),(12,.nd 0),(13,.nd 1),(14,.p 6 0),(31,.nd 2)] [(6,.cells Yu 38 true false),(5,.cells zq7 38 true false),(4,.cells (oV 51 24) 31 true false)] 0 [some 0,some 1,none,some 7,some 8,some 9,some 10,some 11,some 12,some 13,some 14,some 15,some 16,some 17,some 18,some 19,some 20,some 21,some 22,some 23,some 24,some 25,some 26,some 27,some 28,some 29,some 30,some 31,some 32,some 33,some 34,some 35,some 36,some 37,some 38,some 39,some 40,some 41,some 42,some 43,some 44,some 45,some 46,some 47,some 48,some 49,some 50,some 51,some 52,some 53,some 54,some 55,some 56,some 57,some 58,some 59,some 60,some 61,some 62,some 63,some 64,some 65,some 66,some 67,some 68,some 69,some 70,some 71,some 72,some 73,some 74,some 75,some 76,some 77,some 78]))]⟩
def s74:bC:=⟨74,(yyz 4 116 3 4 [(6,.nd 0),(97,.nd 1),(98,.nd 2),(99,.nd 3)] []),
 [(.ret,(yyz 0 116 3 4 [(4,.i .i64 14)] [])),
  (.exit 6,(yyz 0 116 3 4 [] []))]⟩
def ao9:bC:=⟨131,(yyz 51 30 3 6 [(2,.p 4 0),(3,.p 5 0),(12,.nd 0),(13,.nd 1),(14,.nd 2)] [(5,.cells Yu 38 true false),(4,.cells zq7 38 true false)]),
 [(.ret,(yyz 0 30 3 4 [(4,.b false)] [])),
  (.exit 0,(yyw 48 30 3 6 [(2,.p 4 0),(3,.p 5 0)] [(5,.cells gW 38 true false),(4,.cells (oV 24 24) 38 true false)] 0 (pF 3 48)))]⟩
def apc:bC:=⟨139,(yyz 1 80 3 5 [(5,.sv 4 0)] [(4,.vec 0 125 false)]),
 [(.ret,(yyz 0 80 3 4 [(4,.b false)] [])),
  (.exit 0,(yyz 0 80 3 4 [] []))]⟩
def aoY:bC:=⟨111,(yyz 30 123 3 7 [(1,.nd 0),(4,.p 4 0),(12,.mp 5),(15,.p 6 0),(17,.nd 1),(92,.nd 2),(93,.nd 3),(94,.nd 4)] [(6,.cells zq9 38 true false),(5,.smap 29 (some .u64) none),(4,.cells zQ 38 true false)]),
 [(.ret,(yyz 1 123 3 5 [(4,.p 4 0),(5,.nd 0)] [(4,.cells zQ 38 true false)])),
  (.exit 2,(yyw 26 123 3 6 [(1,.nd 0),(4,.p 4 0),(15,.p 5 0),(17,.nd 1)] [(5,.cells afw 38 true false),(4,.cells zQ 38 true false)] 0 [some 0,some 1,none,none,none,none,none,none,none,none,none,none,none,none,none,none,none,none,none,none,none,none,none,none,none,none]))]⟩
def s75:bC:=⟨75,(yyz 11 116 3 5 [(6,.nd 0),(18,.p 4 0),(97,.nd 1),(98,.nd 2),(99,.nd 3),(103,.nd 0),(104,.nd 4),(105,.nd 5)] [(4,.cells (oV 6 5) 67 true false)]),
 [(.ret,(yyz 0 116 3 4 [(4,.i .i64 14)] [])),
  (.exit 8,(yyw 4 116 3 4 [(6,.nd 0),(97,.nd 1),(98,.nd 2),(99,.nd 3)] [] 0 (pF 0 4)))]⟩
def aoW:bC:=⟨109,(yyz 5 53 3 5 [(0,.nd 0),(4,.dM),(5,.dM),(6,.mp 4),(13,.nd 1),(14,.nd 2),(15,.nd 3)] [(4,.smap 4 (some .u64) none)]),
 [(.exit 0,(yyw 2 53 3 5 [(0,.nd 0),(4,.dM),(5,.dM),(6,.mp 4)] [(4,.smap 1 (some .u64) none)] 0 [some 0,none]))]⟩
def s11:bC:=⟨11,(yyz 4 33 3 5 [(0,.nd 0),(3,.sv 4 1),(9,.nd 2),(10,.nd 3)] [(4,.vec 1 5 false)]),
 [(.exit 0,(yyz 1 33 3 5 [(3,.sv 4 0)] [(4,.vec 0 5 false)]))]⟩
def s6:bC:=⟨6,(yyz 3 37 3 4 [(0,.nd 0),(5,.nd 0),(6,.nd 1),(7,.nd 2)] []),
 [(.ret,(yyz 0 37 3 4 [(2,.b false)] [])),
  (.exit 0,(yyw 1 37 3 4 [(0,.nd 0)] [] 0 [some 0]))]⟩
def aph:bC:=⟨147,(yyz 24 33 3 4 [(0,.agg gW)] []),
 [(.ret,(yyz 1 1 3 5 [(0,.mp 4)] [(4,.smap 0 none (some 3))]))]⟩
def ao8:bC:=⟨127,(yyw 3 33 3 5 [(0,.p 4 0),(1,.nd 0)] [(4,.cells [.nd 1,.nd 2] 263 true false)] 1 []),
 [(.ret,(yyw 5 2 3 5 [(0,.agg [.nd 0,.nd 1]),(1,.nd 2)] [(4,.cells [.nd 3,.nd 4] 263 true false)] 1 []))]⟩
def ao7:bC:=⟨126,(yyw 4 63 3 5 [(0,.p 4 0),(1,.nd 2),(2,.nd 3)] [(4,.cells [.nd 0,.nd 1] 263 true false)] 1 []),
 [(.ret,(yyw 4 2 3 5 [(0,.nd 0),(1,.nd 1)] [(4,.cells [.nd 2,.nd 3] 263 true false)] 1 []))]⟩
def ao5:bC:=⟨124,(yyw 2 56 3 5 [(0,.p 4 0)] [(4,.cells [.nd 0,.nd 1] 263 true false)] 1 []),
 [(.ret,(yyw 4 2 3 5 [(0,.nd 0),(1,.nd 1)] [(4,.cells [.nd 2,.nd 3] 263 true false)] 1 []))]⟩
def ao4:bC:=⟨122,(yyw 2 25 3 5 [(0,.p 4 0)] [(4,.cells [.nd 0,.nd 1] 263 true false)] 1 []),
 [(.ret,(yyw 4 2 3 5 [(0,.nd 0),(1,.nd 1)] [(4,.cells [.nd 2,.nd 3] 263 true false)] 1 []))]⟩
def ao3:bC:=⟨121,(yyw 2 37 3 5 [(0,.p 4 0)] [(4,.cells [.nd 0,.nd 1] 263 true false)] 1 []),
 [(.ret,(yyw 5 2 3 5 [(0,.agg [.nd 0,.nd 1]),(1,.nd 2)] [(4,.cells [.nd 3,.nd 4] 263 true false)] 1 []))]⟩
def ao1:bC:=⟨119,(yyw 2 60 3 5 [(0,.p 4 0)] [(4,.cells [.nd 0,.nd 1] 263 true false)] 1 []),
 [(.ret,(yyw 4 2 3 5 [(0,.nd 0),(1,.nd 1)] [(4,.cells [.nd 2,.nd 3] 263 true false)] 1 []))]⟩
def ao0:bC:=⟨116,(yyw 30 117 3 5 [(0,.p 4 0),(1,.nd 0),(2,.agg (oV 1 5))] [(4,.cells (oV 6 24) 38 true false)] 1 []),
 [(.ret,(yyw 25 1 3 5 [(0,.nd 0)] [(4,.cells zS 38 true false)] 1 [none,some 6,none,none,none,none,none,none,none,none,none,none,none,none,none,none,none,none,none,none,none,none,none,none,some 29]))]⟩
def aoT:bC:=⟨104,(yyw 7 52 3 7 [(0,.p 5 0),(1,.p 4 0)] [(4,.cells Yt 67 true false),(5,.cells [.p 6 0,.nd 2,.nd 0] 229 true false),(6,.cells [.nd 3,.nd 4] 263 true false)] 3 []),
 [(.ret,(yyw 9 1 3 7 [(0,.nd 0)] [(4,.cells (oV 1 5) 67 true false),(5,.cells [.p 6 0,.nd 6,.nd 1] 229 true false),(6,.cells [.nd 7,.nd 8] 263 true false)] 3 [none,some 0,some 1,some 5,some 6,none,some 2,none,none]))]⟩
def aoS:bC:=⟨103,(yyw 7 35 3 7 [(0,.p 5 0),(1,.p 4 0)] [(4,.cells Yt 67 true false),(5,.cells [.p 6 0,.nd 2,.nd 0] 229 true false),(6,.cells [.nd 3,.nd 4] 263 true false)] 3 []),
 [(.ret,(yyw 8 1 3 7 [(0,.nd 0)] [(4,.cells [.nd 1,.nd 2,.nd 3,.nd 4,.dM] 67 true false),(5,.cells [.p 6 0,.nd 5,.nd 1] 229 true false),(6,.cells [.nd 6,.nd 7] 263 true false)] 3 [none,some 0,some 1,some 5,none,some 2,none,none]))]⟩
def aoR:bC:=⟨102,(yyw 7 20 3 7 [(0,.p 5 0),(1,.p 4 0)] [(4,.cells Yt 67 true false),(5,.cells [.p 6 0,.nd 2,.nd 0] 229 true false),(6,.cells [.nd 3,.nd 4] 263 true false)] 3 []),
 [(.ret,(yyw 8 1 3 7 [(0,.nd 0)] [(4,.cells [.nd 1,.nd 2,.nd 3,.nd 4,.dM] 67 true false),(5,.cells [.p 6 0,.nd 5,.nd 1] 229 true false),(6,.cells [.nd 6,.nd 7] 263 true false)] 3 [none,some 0,some 1,none,some 6,some 2,none,none]))]⟩
def aoQ:bC:=⟨101,(yyw 2 24 3 5 [(0,.p 4 0)] [(4,.cells [.nd 0,.nd 1] 263 true false)] 1 []),
 [(.ret,(yyw 4 2 3 5 [(0,.nd 0),(1,.nd 1)] [(4,.cells [.nd 2,.nd 3] 263 true false)] 1 []))]⟩
def aoP:bC:=⟨100,(yyw 4 65 3 6 [(0,.p 4 0)] [(4,.cells [.p 5 0,.nd 0,.nd 1] 229 true false),(5,.cells [.nd 2,.nd 3] 263 true false)] 2 []),
 [(.ret,(yyw 10 2 3 6 [(0,.agg (oV 0 5)),(1,.nd 5)] [(4,.cells [.p 5 0,.nd 6,.nd 7] 229 true false),(5,.cells [.nd 8,.nd 9] 263 true false)] 2 [none,none,none,none,none,none,some 0,none,none,none]))]⟩
def s98:bC:=⟨98,(yyw 4 26 3 6 [(0,.p 4 0)] [(4,.cells [.p 5 0,.nd 1,.nd 2] 229 true false),(5,.cells [.nd 0,.nd 3] 263 true false)] 2 []),
 [(.ret,(yyw 6 2 3 6 [(0,.nd 0),(1,.nd 1)] [(4,.cells [.p 5 0,.nd 2,.nd 3] 229 true false),(5,.cells [.nd 4,.nd 5] 263 true false)] 2 [none,none,some 1,none,none,none]))]⟩
def s90:bC:=⟨90,(yyz 2 69 3 5 [(0,.sv 4 0),(1,.nd 1)] [(4,.vec 0 5 false)]),
 [(.ret,(yyz 1 1 3 5 [(0,.sv 4 0)] [(4,.vec 0 5 false)]))]⟩
def s70:bC:=⟨70,(yyz 0 33 3 4 [(0,.ru)] []),
 [(.ret,(yyz 0 1 3 4 [(0,.i .i64 0)] []))]⟩
def s69:bC:=⟨69,(yyw 24 33 3 5 [(0,.dX 114 (.p 4 15))] [(4,.cells gW 38 true false)] 1 []),
 [(.ret,(yyw 24 1 3 5 [(0,.i .i64 0)] [(4,.cells gW 38 true false)] 1 (pF 0 24)))]⟩
def s68:bC:=⟨68,(yyw 24 33 3 5 [(0,.dX 114 (.p 4 14))] [(4,.cells gW 38 true false)] 1 []),
 [(.ret,(yyw 24 1 3 5 [(0,.i .i64 0)] [(4,.cells gW 38 true false)] 1 (pF 0 24)))]⟩
def s67:bC:=⟨67,(yyw 24 33 3 5 [(0,.dX 114 (.p 4 13))] [(4,.cells gW 38 true false)] 1 []),
 [(.ret,(yyw 24 1 3 5 [(0,.i .i64 0)] [(4,.cells gW 38 true false)] 1 (pF 0 24)))]⟩
def s66:bC:=⟨66,(yyw 24 33 3 5 [(0,.dX 114 (.p 4 12))] [(4,.cells gW 38 true false)] 1 []),
 [(.ret,(yyw 24 1 3 5 [(0,.i .i64 0)] [(4,.cells gW 38 true false)] 1 (pF 0 24)))]⟩
def s65:bC:=⟨65,(yyw 24 33 3 5 [(0,.dX 114 (.p 4 11))] [(4,.cells gW 38 true false)] 1 []),
 [(.ret,(yyw 24 1 3 5 [(0,.i .i64 0)] [(4,.cells gW 38 true false)] 1 (pF 0 24)))]⟩
def s64:bC:=⟨64,(yyw 24 33 3 5 [(0,.dX 114 (.p 4 10))] [(4,.cells gW 38 true false)] 1 []),
 [(.ret,(yyw 24 1 3 5 [(0,.i .i64 0)] [(4,.cells gW 38 true false)] 1 (pF 0 24)))]⟩
def s63:bC:=⟨63,(yyw 24 33 3 5 [(0,.dX 114 (.p 4 9))] [(4,.cells gW 38 true false)] 1 []),
 [(.ret,(yyw 24 1 3 5 [(0,.i .i64 0)] [(4,.cells gW 38 true false)] 1 (pF 0 24)))]⟩
def s62:bC:=⟨62,(yyw 24 33 3 5 [(0,.dX 114 (.p 4 8))] [(4,.cells gW 38 true false)] 1 []),
 [(.ret,(yyw 24 1 3 5 [(0,.i .i64 0)] [(4,.cells gW 38 true false)] 1 (pF 0 24)))]⟩
def s61:bC:=⟨61,(yyw 24 33 3 5 [(0,.dX 114 (.p 4 7))] [(4,.cells gW 38 true false)] 1 []),
 [(.ret,(yyw 24 1 3 5 [(0,.i .i64 0)] [(4,.cells gW 38 true false)] 1 (pF 0 24)))]⟩
def s60:bC:=⟨60,(yyw 24 33 3 5 [(0,.dX 114 (.p 4 6))] [(4,.cells gW 38 true false)] 1 []),
 [(.ret,(yyw 24 1 3 5 [(0,.i .i64 0)] [(4,.cells gW 38 true false)] 1 (pF 0 24)))]⟩
def s59:bC:=⟨59,(yyw 24 33 3 5 [(0,.dX 114 (.p 4 5))] [(4,.cells gW 38 true false)] 1 []),
 [(.ret,(yyw 24 1 3 5 [(0,.i .i64 0)] [(4,.cells gW 38 true false)] 1 (pF 0 24)))]⟩
def s58:bC:=⟨58,(yyw 24 33 3 5 [(0,.dX 114 (.p 4 4))] [(4,.cells gW 38 true false)] 1 []),
 [(.ret,(yyw 24 1 3 5 [(0,.i .i64 0)] [(4,.cells gW 38 true false)] 1 (pF 0 24)))]⟩
def s57:bC:=⟨57,(yyw 24 33 3 5 [(0,.dX 114 (.p 4 3))] [(4,.cells gW 38 true false)] 1 []),
 [(.ret,(yyw 24 1 3 5 [(0,.i .i64 0)] [(4,.cells gW 38 true false)] 1 (pF 0 24)))]⟩
def s56:bC:=⟨56,(yyw 24 33 3 5 [(0,.dX 114 (.p 4 2))] [(4,.cells gW 38 true false)] 1 []),
 [(.ret,(yyw 24 1 3 5 [(0,.i .i64 0)] [(4,.cells gW 38 true false)] 1 (pF 0 24)))]⟩
def s55:bC:=⟨55,(yyw 24 33 3 5 [(0,.dX 114 (.p 4 1))] [(4,.cells gW 38 true false)] 1 []),
 [(.ret,(yyw 24 1 3 5 [(0,.i .i64 0)] [(4,.cells gW 38 true false)] 1 (pF 0 24)))]⟩
def s54:bC:=⟨54,(yyw 24 33 3 5 [(0,.dX 122 (.p 4 22))] [(4,.cells gW 38 true false)] 1 []),
 [(.ret,(yyw 25 1 3 5 [(0,.nd 0)] [(4,.cells zS 38 true false)] 1 [none,some 0,some 1,some 2,some 3,some 4,some 5,some 6,some 7,some 8,some 9,some 10,some 11,some 12,some 13,some 14,some 15,some 16,some 17,some 18,some 19,some 20,some 21,some 22,some 23]))]⟩
def s53:bC:=⟨53,(yyw 24 33 3 5 [(0,.dX 121 (.p 4 21))] [(4,.cells gW 38 true false)] 1 []),
 [(.ret,(yyw 25 1 3 5 [(0,.nd 0)] [(4,.cells zS 38 true false)] 1 [none,some 0,some 1,some 2,some 3,some 4,some 5,some 6,some 7,some 8,some 9,some 10,some 11,some 12,some 13,some 14,some 15,some 16,some 17,some 18,some 19,some 20,some 21,some 22,some 23]))]⟩
def s52:bC:=⟨52,(yyw 24 33 3 5 [(0,.dX 119 (.p 4 20))] [(4,.cells gW 38 true false)] 1 []),
 [(.ret,(yyw 25 1 3 5 [(0,.nd 0)] [(4,.cells zS 38 true false)] 1 [none,some 0,some 1,some 2,some 3,some 4,some 5,some 6,some 7,some 8,some 9,some 10,some 11,some 12,some 13,some 14,some 15,some 16,some 17,some 18,some 19,some 20,some 21,some 22,some 23]))]⟩
def s51:bC:=⟨51,(yyw 24 33 3 5 [(0,.dX 119 (.p 4 19))] [(4,.cells gW 38 true false)] 1 []),
 [(.ret,(yyw 25 1 3 5 [(0,.nd 0)] [(4,.cells zS 38 true false)] 1 [none,some 0,some 1,some 2,some 3,some 4,some 5,some 6,some 7,some 8,some 9,some 10,some 11,some 12,some 13,some 14,some 15,some 16,some 17,some 18,some 19,some 20,some 21,some 22,some 23]))]⟩
def s50:bC:=⟨50,(yyw 24 33 3 5 [(0,.dX 119 (.p 4 18))] [(4,.cells gW 38 true false)] 1 []),
 [(.ret,(yyw 25 1 3 5 [(0,.nd 0)] [(4,.cells zS 38 true false)] 1 [none,some 0,some 1,some 2,some 3,some 4,some 5,some 6,some 7,some 8,some 9,some 10,some 11,some 12,some 13,some 14,some 15,some 16,some 17,some 18,some 19,some 20,some 21,some 22,some 23]))]⟩
def s49:bC:=⟨49,(yyw 24 33 3 5 [(0,.dX 116 (.p 4 17))] [(4,.cells gW 38 true false)] 1 []),
 [(.ret,(yyw 24 1 3 5 [(0,.i .i64 0)] [(4,.cells gW 38 true false)] 1 (pF 0 24)))]⟩
def s48:bC:=⟨48,(yyw 24 33 3 5 [(0,.dX 117 (.p 4 16))] [(4,.cells gW 38 true false)] 1 []),
 [(.ret,(yyw 24 1 3 5 [(0,.i .i64 0)] [(4,.cells gW 38 true false)] 1 (pF 0 24)))]⟩
noncomputable def rows:List Row:=[
 .any (λgs out=>Me gs=some out),
 .fn 4 [] [.sc] [] [(0,141),(1,142)],
 .fn 6 [] [.sc] [] [],
 .fn 28 [] [.sc] [] [(0,4)],
 .lp 28 [([],0)] s4 [] [],
 .fn 29 [] [.sc] [] [(0,6)],
 .lp 29 [([],0)] s6 [] [],
 .fn 32 [] [.sc] [] [(0,12)],
 .fn 53 [] [.sc] [] [(0,11)],
 .fn 99 [] [.sc] [] [(0,10)],
 .lp 99 [([],0)] s10 [] [],
 .lp 53 [([],0)] s11 [] [],
 .lp 32 [([],0)] s12 [] [],
 .fn 66 [] [.sc] [] [],
 .fn 30 [] [.sc] [] [(0,15)],
 .lp 30 [([],0)] s15 [] [],
 .fn 7 [] [.sc] [] [(0,17)],
 .lp 7 [([],0)] s17 [] [],
 .fn 31 [] [.sc] [] [],
 .fn 64 [] [.sc] [] [(0,20)],
 .lp 64 [([],0)] s20 [] [],
 .fn 111 [] [.sc] [] [],
 .fn 117 [] [.sc] [] [],
 .fn 144 [] [.sc] [] [],
 .told 173 [] [.sc],
 .fn 8 [] [.ag 24] [] [],
 .fn 33 [] [.sc] [] [],
 .fn 68 [] [.sc,.sc] [] [(0,28)],
 .lp 68 [([],0)] s28 [] [],
 .fn 16 [] [.sc] [] [],
 .fn 19 [] [.sc,.sc] [] [],
 .fn 51 [] [.sc,.sc] [] [(0,76)],
 .fn 94 [] [.sc] [] [(0,44),(1,46),(2,47),(3,74)],
 .fn 17 [] [.sc] [] [],
 .fn 23 [] [.sc] [] [(0,36)],
 .fn 86 [] [.sc] [] [],
 .lp 23 [([],0)] s36 [] [],
 .fn 87 [] [.sc] [] [],
 .fn 88 [] [.sc] [] [],
 .fn 89 [] [.sc] [] [],
 .fn 90 [] [.sc] [] [],
 .fn 91 [] [.sc] [] [],
 .fn 92 [] [.sc] [] [],
 .fn 93 [] [.sc] [] [],
 .lp 94 [([],0)] s44 [] [],
 .told 45 [] [.sc],
 .lp 94 [([],1)] s46 [] [],
 .lp 94 [([],2)] s47 [] [],
 .fs 130 [] s48 [] [],
 .fs 130 [] s49 [] [],
 .fs 130 [] s50 [] [],
 .fs 130 [] s51 [] [],
 .fs 130 [] s52 [] [],
 .fs 130 [] s53 [] [],
 .fs 130 [] s54 [] [],
 .fs 130 [] s55 [] [],
 .fs 130 [] s56 [] [],
 .fs 130 [] s57 [] [],
 .fs 130 [] s58 [] [],
 .fs 130 [] s59 [] [],
 .fs 130 [] s60 [] [],
 .fs 130 [] s61 [] [],
 .fs 130 [] s62 [] [],
 .fs 130 [] s63 [] [],
 .fs 130 [] s64 [] [],
 .fs 130 [] s65 [] [],
 .fs 130 [] s66 [] [],
 .fs 130 [] s67 [] [],
 .fs 130 [] s68 [] [],
 .fs 130 [] s69 [] [],
 .fs 130 [] s70 [] [],
 .fn 96 [] [.sc] [] [],
 .fn 135 [] [.sc] [] [(0,73)],
 .lp 135 [([],0)] s73 [] [],
 .lp 94 [([],3)] s74 [] [(0,75)],
 .lp 94 [([],3),([],0)] s75 [] [],
 .lp 51 [([],0)] s76 [] [],
 .fn 24 [] [.ag 5,.sc] [] [],
 .fn 60 [] [.sc,.sc] [] [(0,79)],
 .lp 60 [([],0)] s79 [] [],
 .fn 108 [] [.sc] [] [],
 .fn 141 [] [.sc] [] [(0,82)],
 .lp 141 [([],0)] s82 [] [],
 .fn 95 [] [.sc,.sc] [] [(0,84),(1,85)],
 .lp 95 [([],0)] s84 [] [],
 .lp 95 [([],1)] s85 [] [],
 .told 70 [] [.sc],
 .fn 52 [] [.sc,.sc] [] [],
 .fn 97 [] [.sc] [] [(0,89)],
 .lp 97 [([],0)] s89 [] [],
 .fs 98 [] s90 [] [(0,91)],
 .lp 98 [([],0)] s91 [] [],
 .fn 18 [] [.ag 24,.sc] [] [],
 .fn 50 [] [.ag 24,.sc] [] [],
 .fn 54 [] [.ag 24,.sc] [] [(0,105),(1,111)],
 .fn 100 [] [.sc,.sc,.sc] [] [(0,96)],
 .lp 100 [([],0)] s96 [] [],
 .fn 101 [] [.sc,.sc] [] [],
 .fs 138 [] s98 [] [(0,99)],
 .lp 138 [([],0)] s99 [] [],
 .fs 171 [] aoP [] [],
 .fs 174 [] aoQ [] [],
 .fs 197 [] aoR [] [],
 .fs 198 [] aoS [] [],
 .fs 199 [] aoT [] [],
 .lp 54 [([],0)] aoU [] [],
 .fn 103 [] [.sc] [] [(0,107)],
 .lp 103 [([],0)] aoV [] [],
 .fn 102 [] [.sc,.sc] [] [(0,109),(1,110)],
 .lp 102 [([],0)] aoW [] [],
 .lp 102 [([],1)] aoX [] [],
 .lp 54 [([],1)] aoY [] [],
 .fn 37 [] [.ag 24,.sc] [] [],
 .fn 34 [] [.ag 24] [] [(0,115)],
 .told 69 [] [.sc],
 .lp 34 [([],0)] aoZ [] [],
 .fs 71 [] ao0 [] [],
 .fn 115 [] [.sc] [] [],
 .fn 118 [] [.sc,.sc] [] [],
 .fs 145 [] ao1 [] [(0,120)],
 .lp 145 [([],0)] ao2 [] [],
 .fs 175 [] ao3 [] [],
 .fs 204 [] ao4 [] [],
 .fn 119 [] [.sc,.sc] [] [],
 .fs 147 [] ao5 [] [(0,125)],
 .lp 147 [([],0)] ao6 [] [],
 .fs 176 [] ao7 [] [],
 .fs 177 [] ao8 [] [],
 .fn 20 [] [.sc,.sc] [] [],
 .fn 21 [] [.ag 24,.sc] [] [],
 .fn 22 [] [.sc] [] [(0,131)],
 .lp 22 [([],0)] ao9 [] [],
 .fn 104 [] [.sc] [] [(0,133)],
 .lp 104 [([],0)] apa [] [],
 .fn 105 [] [.sc] [] [],
 .fn 139 [none,none,some 140] [.sc] [] [(0,136)],
 .lp 139 [([],0)] apb [] [],
 .fn 140 [] [.sc] [] [],
 .fn 25 [] [.sc] [] [(0,139)],
 .lp 25 [([],0)] apc [] [(0,140)],
 .lp 25 [([],0),([],0)] apd [] [],
 .lp 4 [([],0)] ape [] [],
 .lp 4 [([],1)] apf [] [],
 .fn 26 [] [.sc] [] [],
 .fn 62 [] [.sc] [] [(0,145)],
 .lp 62 [([],0)] apg [] [],
 .fn 9 [] [.ag 24,.sc] [] [(0,149)],
 .fs 35 [] aph [] [(0,148)],
 .lp 35 [([],0)] apj [] [],
 .lp 9 [([],0)] apk [] []]
noncomputable abbrev C:=vZ Tryz.prog fF rows
noncomputable def agL:Code:=Tryz.f4.body.getD .skip
noncomputable def pl0:jT:=PL.cons 132 (λN=>@WC N 0 133) (PL.cons 5 (λ_=>FQ) (PL.cons 143 (λ_=>LP) (PL.nil)))
noncomputable def es:List (FuncId×List Nat):=[(130,[70,69,68,67,66,65,64,63,62,61,60,59,58,57,56,55,54,53,52,51,50,49,48]),(98,[90]),(138,[98]),(171,[100]),(174,[101]),(197,[102]),(198,[103]),(199,[104]),(71,[116]),(145,[119]),(175,[121]),(204,[122]),(147,[124]),(176,[126]),(177,[127]),(35,[147]),(96,[71]),(62,[144]),(4,[1]),(89,[39]),(105,[134]),(144,[23]),(6,[2]),(92,[42]),(28,[3]),(37,[112]),(140,[137]),(60,[78]),(93,[43]),(25,[138]),(118,[118]),(34,[113]),(24,[77]),(88,[38]),(115,[117]),(94,[32]),(31,[18]),(70,[86]),(32,[7]),(87,[37]),(18,[92]),(90,[40]),(104,[132]),(141,[81]),(91,[41]),(101,[97]),(117,[22]),(16,[29]),(52,[87]),(86,[35]),(29,[5]),(102,[108]),(139,[135]),(135,[72]),(19,[30]),(22,[130]),(23,[34]),(21,[129]),(51,[31]),(68,[27]),(100,[95]),(66,[13]),(103,[106]),(45,[45]),(53,[8]),(173,[24]),(8,[25]),(20,[128]),(50,[93]),(99,[9]),(9,[146]),(111,[21]),(95,[83]),(54,[94]),(64,[19]),(17,[33]),(33,[26]),(7,[16]),(97,[88]),(30,[14]),(69,[114]),(119,[123]),(26,[143]),(108,[80])]
noncomputable def pl:jT:=adO Tryz.prog rows es pl0
end K
end Go.Proofs.YtcpfjpcdcafjmaaGreatDoor
