/- The shapes, and all definitions as rows. -/
import Derived.Test.YtpioimdhbbgniaaGreatDoorKRBase
import Derived.Test.YtpioimdhbbgniaaGreatDoorKLT
import Derived.Test.YtpioimdhbbgniaaGreatDoorAbsTab
import Derived.Test.YtpioimdhbbgniaaGreatDoorAbsPl
import Derived.Test.YtpioimdhbbgniaaGreatDoorAbsTold
import Derived.Test.YtpioimdhbbgniaaGreatDoorAbsTold2
import Derived.Test.YtpioimdhbbgniaaGreatDoorAbsTold3
import Derived.Test.YtpioimdhbbgniaaGreatDoorAbsFields
import Derived.Test.YtpioimdhbbgniaaGreatDoorAbsSortF
import Derived.Test.YtpioimdhbbgniaaGreatDoorAbsRep
namespace Go.Proofs.YtpioimdhbbgniaaGreatDoor
open Go Go.aJ
set_option maxRecDepth 100000
set_option linter.unusedVariables false
set_option linter.unusedSimpArgs false
namespace L
def vW:Nat->Nat->List AV
 | _,0=>[]
 | a,n+1=>.nd a::vW (a+1) n
def oN:Nat->Nat->List (Option Nat)
 | _,0=>[]
 | a,n+1=>some a::oN (a+1) n
theorem low:rF fU Tryz.prog.globals.size:=by
 rw [Uj];refine ⟨λp hp=>?_,λp hp=>?_⟩
 all_goals
  simp only [fU,dn,EM,or_false] at hp;rcases hp with rfl | rfl
  all_goals first | decide | rfl
def yyw (np n gn next:Nat) (slots:List (Nat×AV)) (objs:List (Nat×aZ)) (ka:Nat) (al:List (Option Nat)):eU:={ np:=np,n:=n,gn:=gn,next:=next,slots:=slots,objs:=objs,ka:=ka,al:=al }
def yyz (np n gn next:Nat) (slots:List (Nat×AV)) (objs:List (Nat×aZ)):eU:=yyw np n gn next slots objs 0 []
def gy:List AV:=(vW 0 24)
def yL:List AV:=(vW 1 24)
def Eu:List AV:=[.i .i64 0,.i .u64 0,.i .u64 0,.i .u64 0,.i .u64 0,.i .u64 0,.i .u64 0,.i .u64 0,.i .u64 0,.i .u64 0,.i .u64 0,.i .u64 0,.i .u64 0,.i .u64 0,.i .u64 0,.i .u64 0,.i .i64 0,.b false,.s [],.s [],.s [],.dA,.dA,.dA]
def zq3:List AV:=(vW 5 24)
def zq4:List AV:=(vW 4 24)
def zq5:List AV:=(vW 2 24)
def WI:List AV:=[.nd 0,.nd 1,.nd 5,.nd 6,.dA]
def s86:bD:=⟨86,(yyz 4 50 3 4 [(0,.nd 0),(5,.nd 1),(9,.nd 2),(10,.nd 3)] []),
 [(.ret,(yyz 3 50 3 4 [(2,.nd 0),(3,.nd 1),(4,.nd 2)] [])),
  (.exit 0,(yyz 1 50 3 4 [(0,.nd 0)] []))]⟩
def s67:bD:=⟨67,(yyz 11 116 3 5 [(6,.nd 0),(18,.p 4 0),(97,.nd 1),(98,.nd 2),(99,.nd 3),(103,.nd 0),(104,.nd 4),(105,.nd 5)] [(4,.cells (vW 6 5) 42 true false)]),
 [(.ret,(yyz 0 116 3 4 [(4,.i .i64 14)] [])),
  (.exit 8,(yyw 4 116 3 4 [(6,.nd 0),(97,.nd 1),(98,.nd 2),(99,.nd 3)] [] 0 (oN 0 4)))]⟩
def alv:bD:=⟨105,(yyz 27 38 3 7 [(1,.p 4 0),(2,.p 5 0),(3,.sv 6 0),(15,.nd 1),(16,.nd 2),(17,.nd 3)] [(6,.vec 0 144 false),(5,.cells Eu 35 true false),(4,.cells [.nd 4,.nd 5,.nd 6,.nd 7,.nd 8,.nd 9,.nd 10,.nd 11,.nd 12,.nd 13,.nd 14,.nd 15,.nd 16,.nd 17,.nd 18,.nd 19,.nd 20,.nd 21,.nd 22,.nd 23,.nd 24,.nd 25,.nd 1,.nd 26] 35 true false)]),
 [(.exit 0,(yyw 25 38 3 7 [(1,.p 4 0),(2,.p 5 0),(3,.sv 6 0)] [(6,.vec 0 144 false),(5,.cells Eu 35 true false),(4,.cells yL 35 true false)] 0 [none,some 4,some 5,some 6,some 7,some 8,some 9,some 10,some 11,some 12,some 13,some 14,some 15,some 16,some 17,some 18,some 19,some 20,some 21,some 22,some 23,some 24,some 25,some 1,some 26]))]⟩
def s38:bD:=⟨38,(yyz 4 42 3 4 [(3,.nd 0),(11,.nd 1),(12,.nd 2),(13,.nd 3)] []),
 [(.ret,(yyz 1 42 3 4 [(2,.nd 0)] [])),
  (.exit 0,(yyz 0 42 3 4 [] []))]⟩
def s76:bD:=⟨76,(yyz 4 46 3 5 [(4,.sv 4 0),(9,.nd 1),(10,.nd 2),(11,.nd 3)] [(4,.vec 0 42 true)]),
 [(.ret,(yyz 1 46 3 4 [(2,.dA),(3,.nd 0)] [])),
  (.exit 0,(yyz 1 46 3 5 [(4,.sv 4 0)] [(4,.vec 0 42 true)]))]⟩
def s77:bD:=⟨77,(yyz 2 46 3 5 [(4,.sv 4 0),(8,.nd 1)] [(4,.vec 0 42 true)]),
 [(.ret,(yyz 0 46 3 4 [(2,.dA),(3,.i .i64 14)] [])),
  (.exit 2,(yyw 1 46 3 5 [(4,.sv 4 0)] [(4,.vec 0 42 true)] 0 [some 0]))]⟩
def s43:bD:=⟨43,(yyz 2 11 3 4 [(0,.nd 0),(3,.nd 1)] []),
 [(.exit 0,(yyz 1 11 3 4 [(3,.nd 0)] []))]⟩
def s65:bD:=⟨65,(yyz 5 46 3 4 [(1,.nd 0),(5,.nd 1),(9,.nd 2),(10,.nd 3),(11,.nd 4)] []),
 [(.ret,(yyz 1 46 3 4 [(4,.nd 0)] [])),
  (.exit 0,(yyz 0 46 3 4 [] []))]⟩
def s71:bD:=⟨71,(yyz 5 42 3 6 [(5,.p 4 0),(6,.nd 0),(22,.nd 1),(23,.nd 2),(24,.nd 3)] [(4,.cells [.p 4 0,.sv 5 4] 53 true false),(5,.vec 4 5 true)]),
 [(.exit 0,(yyz 1 42 3 6 [(5,.p 4 0)] [(4,.cells [.p 4 0,.sv 5 0] 53 true false),(5,.vec 0 5 true)]))]⟩
def als:bD:=⟨100,(yyz 6 53 3 7 [(0,.nd 0),(4,.sv 4 1),(5,.sv 5 2),(6,.mp 6),(23,.nd 3),(24,.nd 4)] [(6,.smap 5 (some .u64) none),(5,.vec 2 42 true),(4,.vec 1 42 true)]),
 [(.exit 2,(yyz 2 53 3 6 [(4,.sv 4 0),(5,.sv 5 1)] [(5,.vec 1 42 true),(4,.vec 0 42 true)]))]⟩
def s44:bD:=⟨44,(yyz 4 33 3 5 [(0,.nd 0),(3,.sv 4 1),(9,.nd 2),(10,.nd 3)] [(4,.vec 1 5 false)]),
 [(.exit 0,(yyz 1 33 3 5 [(3,.sv 4 0)] [(4,.vec 0 5 false)]))]⟩
def s12:bD:=⟨12,(yyz 5 46 3 5 [(1,.nd 0),(7,.sv 4 1),(30,.nd 2),(31,.nd 3),(32,.nd 4)] [(4,.vec 1 73 true)]),
 [(.exit 0,(yyz 1 46 3 5 [(7,.sv 4 0)] [(4,.vec 0 73 true)]))]⟩
def s22:bD:=⟨22,(yyz 29 116 3 6 [(2,.p 4 0),(6,.nd 0),(7,.mp 5),(54,.nd 1),(55,.nd 2),(56,.nd 3)] [(5,.smap 4 none none),(4,.cells zq3 35 true false)]),
 [(.ret,(yyz 0 116 3 4 [(4,.i .i64 26)] [])),
  (.exit 2,(yyw 25 116 3 5 [(2,.p 4 0),(6,.nd 0)] [(4,.cells yL 35 true false)] 0 [some 0,some 5,some 6,some 7,some 8,some 9,some 10,some 11,some 12,some 13,some 14,some 15,some 16,some 17,some 18,some 19,some 20,some 21,some 22,some 23,some 24,some 25,some 26,some 27,some 28]))]⟩
def s81:bD:=⟨81,(yyz 4 66 3 4 [(0,.nd 0),(3,.nd 1),(8,.nd 2),(9,.nd 3)] []),
 [(.exit 0,(yyz 1 66 3 4 [(3,.nd 0)] []))]⟩
def s45:bD:=⟨45,(yyz 4 22 3 6 [(3,.p 4 0),(11,.nd 0),(12,.nd 1),(13,.nd 2)] [(4,.cells [.p 4 0,.sv 5 3] 53 true false),(5,.vec 3 5 true)]),
 [(.exit 0,(yyz 1 22 3 6 [(3,.p 4 0)] [(4,.cells [.p 4 0,.sv 5 0] 53 true false),(5,.vec 0 5 true)]))]⟩
def s23:bD:=⟨23,(yyz 27 116 3 5 [(2,.p 4 0),(6,.nd 0),(71,.nd 0),(72,.nd 1),(73,.nd 2)] [(4,.cells (vW 3 24) 35 true false)]),
 [(.ret,(yyz 1 116 3 4 [(4,.nd 0)] [])),
  (.exit 4,(yyw 25 116 3 5 [(2,.p 4 0),(6,.nd 0)] [(4,.cells yL 35 true false)] 0 [some 0,some 3,some 4,some 5,some 6,some 7,some 8,some 9,some 10,some 11,some 12,some 13,some 14,some 15,some 16,some 17,some 18,some 19,some 20,some 21,some 22,some 23,some 24,some 25,some 26]))]⟩
def s89:bD:=⟨89,(yyw 5 26 3 7 [(0,.p 4 0),(4,.sv 6 0)] [(4,.cells [.p 5 0,.nd 1,.nd 2] 101 true false),(5,.cells [.nd 3,.nd 4] 136 true false),(6,.vec 0 42 true)] 2 []),
 [(.ret,(yyw 5 26 3 6 [(2,.dA),(3,.nd 0)] [(4,.cells [.p 5 0,.nd 1,.nd 2] 101 true false),(5,.cells [.nd 3,.nd 4] 136 true false)] 2 [none,some 1,none,none,none])),
  (.exit 0,(yyw 5 26 3 7 [(4,.sv 6 0)] [(4,.cells [.p 5 0,.nd 1,.nd 2] 101 true false),(5,.cells [.nd 3,.nd 4] 136 true false),(6,.vec 0 42 true)] 2 [none,some 1,none,none,none]))]⟩
def alu:bD:=⟨101,(yyz 30 123 3 7 [(1,.nd 0),(4,.p 4 0),(12,.mp 5),(15,.p 6 0),(17,.nd 1),(92,.nd 2),(93,.nd 3),(94,.nd 4)] [(6,.cells zq3 35 true false),(5,.smap 29 (some .u64) none),(4,.cells Eu 35 true false)]),
 [(.ret,(yyz 1 123 3 5 [(4,.p 4 0),(5,.nd 0)] [(4,.cells Eu 35 true false)])),
  (.exit 2,(yyw 26 123 3 6 [(1,.nd 0),(4,.p 4 0),(15,.p 5 0),(17,.nd 1)] [(5,.cells zq5 35 true false),(4,.cells Eu 35 true false)] 0 [some 0,some 1,none,none,none,none,none,none,none,none,none,none,none,none,none,none,none,none,none,none,none,none,none,none,none,none]))]⟩
def s99:bD:=⟨99,(yyz 5 53 3 5 [(0,.nd 0),(4,.dA),(5,.dA),(6,.mp 4),(13,.nd 1),(14,.nd 2),(15,.nd 3)] [(4,.smap 4 (some .u64) none)]),
 [(.exit 0,(yyw 2 53 3 5 [(0,.nd 0),(4,.dA),(5,.dA),(6,.mp 4)] [(4,.smap 1 (some .u64) none)] 0 [some 0,none]))]⟩
def s5:bD:=⟨5,(yyz 3 54 3 5 [(0,.nd 0),(1,.nd 1),(6,.sv 4 2)] [(4,.vec 2 42 true)]),
 [(.exit 0,(yyz 2 54 3 5 [(0,.nd 0),(6,.sv 4 1)] [(4,.vec 1 42 true)]))]⟩
def s68:bD:=⟨68,(yyz 28 61 3 6 [(2,.p 4 0),(7,.sv 5 0),(21,.nd 1),(22,.nd 2),(23,.nd 3)] [(5,.vec 0 42 true),(4,.cells zq4 35 true false)]),
 [(.exit 0,(yyw 25 61 3 5 [(2,.p 4 0),(7,.nd 0)] [(4,.cells yL 35 true false)] 0 [none,some 4,some 5,some 6,some 7,some 8,some 9,some 10,some 11,some 12,some 13,some 14,some 15,some 16,some 17,some 18,some 19,some 20,some 21,some 22,some 23,some 24,some 25,some 26,some 27]))]⟩
def s95:bD:=⟨95,(yyz 7 123 3 6 [(1,.nd 0),(4,.p 4 0),(9,.nd 1),(11,.nd 2),(12,.mp 5),(70,.nd 3),(71,.nd 4),(72,.nd 5)] [(5,.smap 6 (some .u64) none),(4,.cells Eu 35 true false)]),
 [(.exit 0,(yyw 4 123 3 6 [(1,.nd 0),(4,.p 4 0),(9,.nd 1),(11,.nd 2),(12,.mp 5)] [(5,.smap 3 (some .u64) none),(4,.cells Eu 35 true false)] 0 [some 0,some 1,some 2,none]))]⟩
def alD:bD:=⟨115,(yyw 6 56 3 6 [(0,.p 4 0),(6,.sv 5 0),(7,.nd 1),(25,.nd 2),(26,.nd 3)] [(4,.cells [.nd 4,.nd 5] 136 true false),(5,.vec 0 144 false)] 1 []),
 [(.ret,(yyw 3 56 3 5 [(2,.dA),(3,.nd 0)] [(4,.cells [.nd 1,.nd 2] 136 true false)] 1 [])),
  (.exit 0,(yyw 3 56 3 6 [(6,.sv 5 0)] [(4,.cells [.nd 1,.nd 2] 136 true false),(5,.vec 0 144 false)] 1 []))]⟩
def s34:bD:=⟨34,(yyz 3 42 3 4 [(0,.nd 0),(15,.nd 0),(16,.nd 1),(17,.nd 2)] []),
 [(.ret,(yyz 1 42 3 4 [(2,.nd 0)] [])),
  (.exit 0,(yyz 0 42 3 4 [] []))]⟩
def s66:bD:=⟨66,(yyz 4 116 3 4 [(6,.nd 0),(97,.nd 1),(98,.nd 2),(99,.nd 3)] []),
 [(.ret,(yyz 0 116 3 4 [(4,.i .i64 14)] [])),
  (.exit 6,(yyz 0 116 3 4 [] []))]⟩
def s83:bD:=⟨83,(yyz 4 69 3 5 [(0,.sv 4 0),(1,.nd 1),(8,.nd 2),(9,.nd 3)] [(4,.vec 0 5 false)]),
 [(.exit 0,(yyz 1 69 3 5 [(0,.sv 4 0)] [(4,.vec 0 5 false)]))]⟩
def alz:bD:=⟨110,(yyw 5 60 3 6 [(0,.p 4 0),(7,.sv 5 0),(28,.nd 1),(29,.nd 2)] [(4,.cells [.nd 3,.nd 4] 136 true false),(5,.vec 0 142 false)] 1 []),
 [(.ret,(yyw 3 60 3 5 [(2,.dA),(3,.nd 0)] [(4,.cells [.nd 1,.nd 2] 136 true false)] 1 [])),
  (.exit 0,(yyw 3 60 3 6 [(7,.sv 5 0)] [(4,.cells [.nd 1,.nd 2] 136 true false),(5,.vec 0 142 false)] 1 []))]⟩
def s97:bD:=⟨97,(yyz 4 23 3 5 [(5,.sv 4 0),(10,.nd 1),(11,.nd 2),(12,.nd 3)] [(4,.vec 0 24 true)]),
 [(.exit 0,(yyz 1 23 3 5 [(5,.sv 4 0)] [(4,.vec 0 24 true)]))]⟩
def s20:bD:=⟨20,(yyz 28 116 3 6 [(2,.p 4 0),(6,.nd 0),(7,.mp 5),(44,.nd 0),(45,.nd 1),(46,.nd 2)] [(5,.smap 3 none none),(4,.cells zq4 35 true false)]),
 [(.exit 0,(yyw 26 116 3 6 [(2,.p 4 0),(6,.nd 0),(7,.mp 5)] [(5,.smap 1 none none),(4,.cells zq5 35 true false)] 0 [some 0,none,some 4,some 5,some 6,some 7,some 8,some 9,some 10,some 11,some 12,some 13,some 14,some 15,some 16,some 17,some 18,some 19,some 20,some 21,some 22,some 23,some 24,some 25,some 26,some 27]))]⟩
def s74:bD:=⟨74,(yyz 3 28 3 4 [(0,.nd 0),(1,.nd 1),(5,.nd 2)] []),
 [(.exit 0,(yyz 1 28 3 4 [(5,.nd 0)] []))]⟩
def alF:bD:=⟨117,(yyw 3 33 3 5 [(0,.p 4 0),(1,.nd 0)] [(4,.cells [.nd 1,.nd 2] 136 true false)] 1 []),
 [(.ret,(yyw 5 2 3 5 [(0,.agg [.nd 0,.nd 1]),(1,.nd 2)] [(4,.cells [.nd 3,.nd 4] 136 true false)] 1 []))]⟩
def alE:bD:=⟨116,(yyw 4 63 3 5 [(0,.p 4 0),(1,.nd 2),(2,.nd 3)] [(4,.cells [.nd 0,.nd 1] 136 true false)] 1 []),
 [(.ret,(yyw 4 2 3 5 [(0,.nd 0),(1,.nd 1)] [(4,.cells [.nd 2,.nd 3] 136 true false)] 1 []))]⟩
def alC:bD:=⟨114,(yyw 2 56 3 5 [(0,.p 4 0)] [(4,.cells [.nd 0,.nd 1] 136 true false)] 1 []),
 [(.ret,(yyw 4 2 3 5 [(0,.nd 0),(1,.nd 1)] [(4,.cells [.nd 2,.nd 3] 136 true false)] 1 []))]⟩
def alB:bD:=⟨112,(yyw 2 25 3 5 [(0,.p 4 0)] [(4,.cells [.nd 0,.nd 1] 136 true false)] 1 []),
 [(.ret,(yyw 4 2 3 5 [(0,.nd 0),(1,.nd 1)] [(4,.cells [.nd 2,.nd 3] 136 true false)] 1 []))]⟩
def alA:bD:=⟨111,(yyw 2 37 3 5 [(0,.p 4 0)] [(4,.cells [.nd 0,.nd 1] 136 true false)] 1 []),
 [(.ret,(yyw 5 2 3 5 [(0,.agg [.nd 0,.nd 1]),(1,.nd 2)] [(4,.cells [.nd 3,.nd 4] 136 true false)] 1 []))]⟩
def aly:bD:=⟨109,(yyw 2 60 3 5 [(0,.p 4 0)] [(4,.cells [.nd 0,.nd 1] 136 true false)] 1 []),
 [(.ret,(yyw 4 2 3 5 [(0,.nd 0),(1,.nd 1)] [(4,.cells [.nd 2,.nd 3] 136 true false)] 1 []))]⟩
def alx:bD:=⟨106,(yyw 30 117 3 5 [(0,.p 4 0),(1,.nd 0),(2,.agg (vW 1 5))] [(4,.cells (vW 6 24) 35 true false)] 1 []),
 [(.ret,(yyw 25 1 3 5 [(0,.nd 0)] [(4,.cells yL 35 true false)] 1 [none,some 6,none,none,none,none,none,none,none,none,none,none,none,none,none,none,none,none,none,none,none,none,none,none,some 29]))]⟩
def s94:bD:=⟨94,(yyw 7 52 3 7 [(0,.p 5 0),(1,.p 4 0)] [(4,.cells WI 42 true false),(5,.cells [.p 6 0,.nd 2,.nd 0] 101 true false),(6,.cells [.nd 3,.nd 4] 136 true false)] 3 []),
 [(.ret,(yyw 9 1 3 7 [(0,.nd 0)] [(4,.cells (vW 1 5) 42 true false),(5,.cells [.p 6 0,.nd 6,.nd 1] 101 true false),(6,.cells [.nd 7,.nd 8] 136 true false)] 3 [none,some 0,some 1,some 5,some 6,none,some 2,none,none]))]⟩
def s93:bD:=⟨93,(yyw 7 35 3 7 [(0,.p 5 0),(1,.p 4 0)] [(4,.cells WI 42 true false),(5,.cells [.p 6 0,.nd 2,.nd 0] 101 true false),(6,.cells [.nd 3,.nd 4] 136 true false)] 3 []),
 [(.ret,(yyw 8 1 3 7 [(0,.nd 0)] [(4,.cells [.nd 1,.nd 2,.nd 3,.nd 4,.dA] 42 true false),(5,.cells [.p 6 0,.nd 5,.nd 1] 101 true false),(6,.cells [.nd 6,.nd 7] 136 true false)] 3 [none,some 0,some 1,some 5,none,some 2,none,none]))]⟩
def s92:bD:=⟨92,(yyw 7 20 3 7 [(0,.p 5 0),(1,.p 4 0)] [(4,.cells WI 42 true false),(5,.cells [.p 6 0,.nd 2,.nd 0] 101 true false),(6,.cells [.nd 3,.nd 4] 136 true false)] 3 []),
 [(.ret,(yyw 8 1 3 7 [(0,.nd 0)] [(4,.cells [.nd 1,.nd 2,.nd 3,.nd 4,.dA] 42 true false),(5,.cells [.p 6 0,.nd 5,.nd 1] 101 true false),(6,.cells [.nd 6,.nd 7] 136 true false)] 3 [none,some 0,some 1,none,some 6,some 2,none,none]))]⟩
def s91:bD:=⟨91,(yyw 2 24 3 5 [(0,.p 4 0)] [(4,.cells [.nd 0,.nd 1] 136 true false)] 1 []),
 [(.ret,(yyw 4 2 3 5 [(0,.nd 0),(1,.nd 1)] [(4,.cells [.nd 2,.nd 3] 136 true false)] 1 []))]⟩
def s90:bD:=⟨90,(yyw 4 65 3 6 [(0,.p 4 0)] [(4,.cells [.p 5 0,.nd 0,.nd 1] 101 true false),(5,.cells [.nd 2,.nd 3] 136 true false)] 2 []),
 [(.ret,(yyw 10 2 3 6 [(0,.agg (vW 0 5)),(1,.nd 5)] [(4,.cells [.p 5 0,.nd 6,.nd 7] 101 true false),(5,.cells [.nd 8,.nd 9] 136 true false)] 2 [none,none,none,none,none,none,some 0,none,none,none]))]⟩
def s88:bD:=⟨88,(yyw 4 26 3 6 [(0,.p 4 0)] [(4,.cells [.p 5 0,.nd 1,.nd 2] 101 true false),(5,.cells [.nd 0,.nd 3] 136 true false)] 2 []),
 [(.ret,(yyw 6 2 3 6 [(0,.nd 0),(1,.nd 1)] [(4,.cells [.p 5 0,.nd 2,.nd 3] 101 true false),(5,.cells [.nd 4,.nd 5] 136 true false)] 2 [none,none,some 1,none,none,none]))]⟩
def s82:bD:=⟨82,(yyz 2 69 3 5 [(0,.sv 4 0),(1,.nd 1)] [(4,.vec 0 5 false)]),
 [(.ret,(yyz 1 1 3 5 [(0,.sv 4 0)] [(4,.vec 0 5 false)]))]⟩
def s62:bD:=⟨62,(yyz 0 33 3 4 [(0,.qy)] []),
 [(.ret,(yyz 0 1 3 4 [(0,.i .i64 0)] []))]⟩
def s61:bD:=⟨61,(yyw 24 33 3 5 [(0,.dO 118 (.p 4 15))] [(4,.cells gy 35 true false)] 1 []),
 [(.ret,(yyw 24 1 3 5 [(0,.i .i64 0)] [(4,.cells gy 35 true false)] 1 (oN 0 24)))]⟩
def s60:bD:=⟨60,(yyw 24 33 3 5 [(0,.dO 118 (.p 4 14))] [(4,.cells gy 35 true false)] 1 []),
 [(.ret,(yyw 24 1 3 5 [(0,.i .i64 0)] [(4,.cells gy 35 true false)] 1 (oN 0 24)))]⟩
def s59:bD:=⟨59,(yyw 24 33 3 5 [(0,.dO 118 (.p 4 13))] [(4,.cells gy 35 true false)] 1 []),
 [(.ret,(yyw 24 1 3 5 [(0,.i .i64 0)] [(4,.cells gy 35 true false)] 1 (oN 0 24)))]⟩
def s58:bD:=⟨58,(yyw 24 33 3 5 [(0,.dO 118 (.p 4 12))] [(4,.cells gy 35 true false)] 1 []),
 [(.ret,(yyw 24 1 3 5 [(0,.i .i64 0)] [(4,.cells gy 35 true false)] 1 (oN 0 24)))]⟩
def s57:bD:=⟨57,(yyw 24 33 3 5 [(0,.dO 118 (.p 4 11))] [(4,.cells gy 35 true false)] 1 []),
 [(.ret,(yyw 24 1 3 5 [(0,.i .i64 0)] [(4,.cells gy 35 true false)] 1 (oN 0 24)))]⟩
def s56:bD:=⟨56,(yyw 24 33 3 5 [(0,.dO 118 (.p 4 10))] [(4,.cells gy 35 true false)] 1 []),
 [(.ret,(yyw 24 1 3 5 [(0,.i .i64 0)] [(4,.cells gy 35 true false)] 1 (oN 0 24)))]⟩
def s55:bD:=⟨55,(yyw 24 33 3 5 [(0,.dO 118 (.p 4 9))] [(4,.cells gy 35 true false)] 1 []),
 [(.ret,(yyw 24 1 3 5 [(0,.i .i64 0)] [(4,.cells gy 35 true false)] 1 (oN 0 24)))]⟩
def s54:bD:=⟨54,(yyw 24 33 3 5 [(0,.dO 118 (.p 4 8))] [(4,.cells gy 35 true false)] 1 []),
 [(.ret,(yyw 24 1 3 5 [(0,.i .i64 0)] [(4,.cells gy 35 true false)] 1 (oN 0 24)))]⟩
def s53:bD:=⟨53,(yyw 24 33 3 5 [(0,.dO 118 (.p 4 7))] [(4,.cells gy 35 true false)] 1 []),
 [(.ret,(yyw 24 1 3 5 [(0,.i .i64 0)] [(4,.cells gy 35 true false)] 1 (oN 0 24)))]⟩
def s52:bD:=⟨52,(yyw 24 33 3 5 [(0,.dO 118 (.p 4 6))] [(4,.cells gy 35 true false)] 1 []),
 [(.ret,(yyw 24 1 3 5 [(0,.i .i64 0)] [(4,.cells gy 35 true false)] 1 (oN 0 24)))]⟩
def s51:bD:=⟨51,(yyw 24 33 3 5 [(0,.dO 118 (.p 4 5))] [(4,.cells gy 35 true false)] 1 []),
 [(.ret,(yyw 24 1 3 5 [(0,.i .i64 0)] [(4,.cells gy 35 true false)] 1 (oN 0 24)))]⟩
def s50:bD:=⟨50,(yyw 24 33 3 5 [(0,.dO 118 (.p 4 4))] [(4,.cells gy 35 true false)] 1 []),
 [(.ret,(yyw 24 1 3 5 [(0,.i .i64 0)] [(4,.cells gy 35 true false)] 1 (oN 0 24)))]⟩
def s49:bD:=⟨49,(yyw 24 33 3 5 [(0,.dO 118 (.p 4 3))] [(4,.cells gy 35 true false)] 1 []),
 [(.ret,(yyw 24 1 3 5 [(0,.i .i64 0)] [(4,.cells gy 35 true false)] 1 (oN 0 24)))]⟩
def s48:bD:=⟨48,(yyw 24 33 3 5 [(0,.dO 118 (.p 4 2))] [(4,.cells gy 35 true false)] 1 []),
 [(.ret,(yyw 24 1 3 5 [(0,.i .i64 0)] [(4,.cells gy 35 true false)] 1 (oN 0 24)))]⟩
def s47:bD:=⟨47,(yyw 24 33 3 5 [(0,.dO 118 (.p 4 1))] [(4,.cells gy 35 true false)] 1 []),
 [(.ret,(yyw 24 1 3 5 [(0,.i .i64 0)] [(4,.cells gy 35 true false)] 1 (oN 0 24)))]⟩
def s36:bD:=⟨36,(yyw 24 33 3 5 [(0,.dO 126 (.p 4 22))] [(4,.cells gy 35 true false)] 1 []),
 [(.ret,(yyw 25 1 3 5 [(0,.nd 0)] [(4,.cells yL 35 true false)] 1 [none,some 0,some 1,some 2,some 3,some 4,some 5,some 6,some 7,some 8,some 9,some 10,some 11,some 12,some 13,some 14,some 15,some 16,some 17,some 18,some 19,some 20,some 21,some 22,some 23]))]⟩
def s32:bD:=⟨32,(yyw 24 33 3 5 [(0,.dO 125 (.p 4 21))] [(4,.cells gy 35 true false)] 1 []),
 [(.ret,(yyw 25 1 3 5 [(0,.nd 0)] [(4,.cells yL 35 true false)] 1 [none,some 0,some 1,some 2,some 3,some 4,some 5,some 6,some 7,some 8,some 9,some 10,some 11,some 12,some 13,some 14,some 15,some 16,some 17,some 18,some 19,some 20,some 21,some 22,some 23]))]⟩
def s31:bD:=⟨31,(yyw 24 33 3 5 [(0,.dO 123 (.p 4 20))] [(4,.cells gy 35 true false)] 1 []),
 [(.ret,(yyw 25 1 3 5 [(0,.nd 0)] [(4,.cells yL 35 true false)] 1 [none,some 0,some 1,some 2,some 3,some 4,some 5,some 6,some 7,some 8,some 9,some 10,some 11,some 12,some 13,some 14,some 15,some 16,some 17,some 18,some 19,some 20,some 21,some 22,some 23]))]⟩
def s30:bD:=⟨30,(yyw 24 33 3 5 [(0,.dO 123 (.p 4 19))] [(4,.cells gy 35 true false)] 1 []),
 [(.ret,(yyw 25 1 3 5 [(0,.nd 0)] [(4,.cells yL 35 true false)] 1 [none,some 0,some 1,some 2,some 3,some 4,some 5,some 6,some 7,some 8,some 9,some 10,some 11,some 12,some 13,some 14,some 15,some 16,some 17,some 18,some 19,some 20,some 21,some 22,some 23]))]⟩
def s26:bD:=⟨26,(yyw 24 33 3 5 [(0,.dO 123 (.p 4 18))] [(4,.cells gy 35 true false)] 1 []),
 [(.ret,(yyw 25 1 3 5 [(0,.nd 0)] [(4,.cells yL 35 true false)] 1 [none,some 0,some 1,some 2,some 3,some 4,some 5,some 6,some 7,some 8,some 9,some 10,some 11,some 12,some 13,some 14,some 15,some 16,some 17,some 18,some 19,some 20,some 21,some 22,some 23]))]⟩
def s25:bD:=⟨25,(yyw 24 33 3 5 [(0,.dO 120 (.p 4 17))] [(4,.cells gy 35 true false)] 1 []),
 [(.ret,(yyw 24 1 3 5 [(0,.i .i64 0)] [(4,.cells gy 35 true false)] 1 (oN 0 24)))]⟩
def s24:bD:=⟨24,(yyw 24 33 3 5 [(0,.dO 121 (.p 4 16))] [(4,.cells gy 35 true false)] 1 []),
 [(.ret,(yyw 24 1 3 5 [(0,.i .i64 0)] [(4,.cells gy 35 true false)] 1 (oN 0 24)))]⟩
def s4:bD:=⟨4,(yyz 2 54 3 4 [(0,.nd 0),(1,.nd 1)] []),
 [(.ret,(yyz 2 2 3 5 [(0,.sv 4 0),(1,.nd 1)] [(4,.vec 0 42 true)]))]⟩
def s3:bD:=⟨3,(yyz 1 11 3 5 [(0,.sv 4 0)] [(4,.vec 0 28 false)]),
 [(.ret,(yyz 1 1 3 5 [(0,.sv 4 0)] [(4,.vec 0 42 true)]))]⟩
noncomputable def rows:List Row:=[
 .any (λgs out=>Ky gs=some out),
 .fn 3 [] [.sc] [] [],
 .told 5 [] [.sc],
 .fs 4 [] s3 [] [],
 .fs 9 [] s4 [] [(0,5)],
 .lp 9 [([],0)] s5 [] [],
 .fn 6 [] [.sc,.sc] [] [],
 .fn 16 [] [.sc,.sc] [] [(0,68)],
 .fn 26 [] [.sc] [] [(0,20),(1,22),(2,23),(3,66)],
 .fn 20 [] [.sc] [] [],
 .fn 22 [] [.sc] [] [(0,12)],
 .fn 63 [] [.sc] [] [],
 .lp 22 [([],0)] s12 [] [],
 .fn 64 [] [.sc] [] [],
 .fn 65 [] [.sc] [] [],
 .fn 66 [] [.sc] [] [],
 .fn 67 [] [.sc] [] [],
 .fn 68 [] [.sc] [] [],
 .fn 69 [] [.sc] [] [],
 .fn 70 [] [.sc] [] [],
 .lp 26 [([],0)] s20 [] [],
 .told 45 [] [.sc],
 .lp 26 [([],1)] s22 [] [],
 .lp 26 [([],2)] s23 [] [],
 .fs 48 [] s24 [] [],
 .fs 48 [] s25 [] [],
 .fs 48 [] s26 [] [],
 .fn 77 [] [.sc] [] [],
 .fn 98 [] [.sc] [] [],
 .told 121 [] [.sc],
 .fs 48 [] s30 [] [],
 .fs 48 [] s31 [] [],
 .fs 48 [] s32 [] [],
 .fn 84 [] [.sc] [] [(0,34)],
 .lp 84 [([],0)] s34 [] [],
 .fn 103 [] [.sc] [] [],
 .fs 48 [] s36 [] [],
 .fn 85 [] [.sc] [] [(0,38)],
 .lp 85 [([],0)] s38 [] [],
 .fn 105 [] [.sc] [] [],
 .fn 56 [] [.sc] [] [(0,45)],
 .fn 18 [] [.sc] [] [(0,44)],
 .fn 38 [] [.sc] [] [(0,43)],
 .lp 38 [([],0)] s43 [] [],
 .lp 18 [([],0)] s44 [] [],
 .lp 56 [([],0)] s45 [] [],
 .fn 87 [] [.sc] [] [],
 .fs 48 [] s47 [] [],
 .fs 48 [] s48 [] [],
 .fs 48 [] s49 [] [],
 .fs 48 [] s50 [] [],
 .fs 48 [] s51 [] [],
 .fs 48 [] s52 [] [],
 .fs 48 [] s53 [] [],
 .fs 48 [] s54 [] [],
 .fs 48 [] s55 [] [],
 .fs 48 [] s56 [] [],
 .fs 48 [] s57 [] [],
 .fs 48 [] s58 [] [],
 .fs 48 [] s59 [] [],
 .fs 48 [] s60 [] [],
 .fs 48 [] s61 [] [],
 .fs 48 [] s62 [] [],
 .fn 35 [] [.sc] [] [],
 .fn 61 [] [.sc] [] [(0,65)],
 .lp 61 [([],0)] s65 [] [],
 .lp 26 [([],3)] s66 [] [(0,67)],
 .lp 26 [([],3),([],0)] s67 [] [],
 .lp 16 [([],0)] s68 [] [],
 .fn 33 [] [.ag 5,.sc] [] [],
 .fn 57 [] [.sc,.sc] [] [(0,71)],
 .lp 57 [([],0)] s71 [] [],
 .fn 89 [] [.sc] [] [],
 .fn 107 [] [.sc] [] [(0,74)],
 .lp 107 [([],0)] s74 [] [],
 .fn 34 [] [.sc,.sc] [] [(0,76),(1,77)],
 .lp 34 [([],0)] s76 [] [],
 .lp 34 [([],1)] s77 [] [],
 .told 42 [] [.sc],
 .fn 17 [] [.sc,.sc] [] [],
 .fn 36 [] [.sc] [] [(0,81)],
 .lp 36 [([],0)] s81 [] [],
 .fs 37 [] s82 [] [(0,83)],
 .lp 37 [([],0)] s83 [] [],
 .fn 7 [] [.ag 24,.sc] [] [(0,95),(1,101)],
 .fn 19 [] [.sc,.sc,.sc] [] [(0,86)],
 .lp 19 [([],0)] s86 [] [],
 .fn 21 [] [.sc,.sc] [] [],
 .fs 41 [] s88 [] [(0,89)],
 .lp 41 [([],0)] s89 [] [],
 .fs 72 [] s90 [] [],
 .fs 94 [] s91 [] [],
 .fs 95 [] s92 [] [],
 .fs 96 [] s93 [] [],
 .fs 97 [] s94 [] [],
 .lp 7 [([],0)] s95 [] [],
 .fn 24 [] [.sc] [] [(0,97)],
 .lp 24 [([],0)] s97 [] [],
 .fn 23 [] [.sc,.sc] [] [(0,99),(1,100)],
 .lp 23 [([],0)] s99 [] [],
 .lp 23 [([],1)] als [] [],
 .lp 7 [([],1)] alu [] [],
 .fn 25 [] [.ag 24,.sc] [] [],
 .fn 43 [] [.ag 24] [] [(0,105)],
 .told 73 [] [.sc],
 .lp 43 [([],0)] alv [] [],
 .fs 44 [] alx [] [],
 .fn 75 [] [.sc] [] [],
 .fn 78 [] [.sc,.sc] [] [],
 .fs 99 [] aly [] [(0,110)],
 .lp 99 [([],0)] alz [] [],
 .fs 122 [] alA [] [],
 .fs 143 [] alB [] [],
 .fn 79 [] [.sc,.sc] [] [],
 .fs 100 [] alC [] [(0,115)],
 .lp 100 [([],0)] alD [] [],
 .fs 123 [] alE [] [],
 .fs 124 [] alF [] []]
noncomputable abbrev C:=uN Tryz.prog fU rows
noncomputable def aeD:Code:=Tryz.f3.body.getD .skip
noncomputable def pl0:jl:=PL.cons 9 (λN=>@UF N Tryz.prog (@UE N Tryz.prog (@OW N Tryz.prog [] s4))) (PL.cons 58 (λN=>@UK N 0 59) (PL.cons 6 (λN=>@UH N Tryz.prog 6 [true,false]) (PL.cons 8 (λ_=>DZ) (PL.cons 51 (λ_=>J3) (PL.nil)))))
noncomputable def es:List (FuncId×List Nat):=[(4,[3]),(48,[62,61,60,59,58,57,56,55,54,53,52,51,50,49,48,47,36,32,31,30,26,25,24]),(37,[82]),(41,[88]),(72,[90]),(94,[91]),(95,[92]),(96,[93]),(97,[94]),(44,[106]),(99,[109]),(122,[111]),(143,[112]),(100,[114]),(123,[116]),(124,[117]),(75,[107]),(61,[64]),(89,[72]),(42,[78]),(105,[39]),(121,[29]),(63,[11]),(25,[102]),(73,[104]),(34,[75]),(85,[37]),(24,[96]),(98,[28]),(70,[19]),(79,[113]),(35,[63]),(87,[46]),(57,[70]),(18,[41]),(65,[14]),(16,[7]),(84,[33]),(78,[108]),(43,[103]),(5,[2]),(19,[85]),(22,[10]),(23,[98]),(21,[87]),(36,[80]),(68,[17]),(66,[15]),(103,[35]),(77,[27]),(67,[16]),(45,[21]),(20,[9]),(56,[40]),(17,[79]),(64,[13]),(33,[69]),(7,[84]),(69,[18]),(107,[73]),(38,[42]),(3,[1]),(26,[8])]
noncomputable def pl:jl:=abR Tryz.prog rows es pl0
end L
end Go.Proofs.YtpioimdhbbgniaaGreatDoor
