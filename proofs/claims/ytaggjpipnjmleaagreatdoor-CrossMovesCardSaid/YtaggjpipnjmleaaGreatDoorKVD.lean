/- The shapes, and all definitions as rows. -/
import Derived.Test.YtaggjpipnjmleaaGreatDoorKRBase
import Derived.Test.YtaggjpipnjmleaaGreatDoorKVT
import Derived.Test.YtaggjpipnjmleaaGreatDoorAbsTab
import Derived.Test.YtaggjpipnjmleaaGreatDoorAbsPl
import Derived.Test.YtaggjpipnjmleaaGreatDoorAbsTold
import Derived.Test.YtaggjpipnjmleaaGreatDoorAbsTold2
import Derived.Test.YtaggjpipnjmleaaGreatDoorAbsTold3
import Derived.Test.YtaggjpipnjmleaaGreatDoorAbsFields
import Derived.Test.YtaggjpipnjmleaaGreatDoorAbsSortF
namespace Go.Proofs.YtaggjpipnjmleaaGreatDoor
open Go Go.aJ
set_option maxRecDepth 100000
set_option linter.unusedVariables false
set_option linter.unusedSimpArgs false
namespace V
def nR:Nat->Nat->List AV
 | _,0=>[]
 | a,n+1=>.nd a::nR (a+1) n
def mW:Nat->Nat->List (Option Nat)
 | _,0=>[]
 | a,n+1=>some a::mW (a+1) n
theorem low:qU dQ Tryz.prog.globals.size:=by
 rw [Vz];refine ⟨λp hp=>?_,λp hp=>?_⟩
 all_goals
  simp only [dQ,dO,Fp,or_false] at hp;rcases hp with rfl | rfl
  all_goals first | decide | rfl
def bg (np n gn next:Nat) (slots:List (Nat×AV)) (objs:List (Nat×bn)) (ka:Nat) (al:List (Option Nat)):fV:={ np:=np,n:=n,gn:=gn,next:=next,slots:=slots,objs:=objs,ka:=ka,al:=al }
def aK (np n gn next:Nat) (slots:List (Nat×AV)) (objs:List (Nat×bn)):fV:=bg np n gn next slots objs 0 []
def iq:List AV:=(nR 0 24)
def uy:List AV:=[.i .i64 0,.i .u64 0,.i .u64 0,.i .u64 0,.i .u64 0,.i .u64 0,.i .u64 0,.i .u64 0,.i .u64 0,.i .u64 0,.i .u64 0,.i .u64 0,.i .u64 0,.i .u64 0,.i .u64 0,.i .u64 0,.i .i64 0,.b false,.s [],.s [],.s [],.dD,.dD,.dD]
def uz:List AV:=(nR 1 24)
def Rk:List AV:=(nR 4 24)
def X8:List AV:=(nR 3 24)
def X9:List AV:=(nR 2 24)
def zq6:List AV:=(nR 6 24)
def zq7:List AV:=(nR 5 24)
def zq8:List AV:=[.nd 0,.nd 1,.nd 2,.nd 3,.nd 4,.nd 5,.nd 6,.nd 7,.nd 8,.nd 9,.nd 10,.nd 11,.nd 12,.nd 13,.nd 14,.nd 15,.nd 16,.nd 17,.nd 18,.nd 19,.nd 20,.nd 21,.nd 22,.sv 4 23]
def Ya:List AV:=(nR 6 5)
def X7:List AV:=[.nd 0,.nd 1,.nd 5,.nd 6,.dD]
def aqa:aT:=⟨130,(aK 4 18 3 5 [(3,.sv 4 0),(6,.nd 1),(7,.nd 2),(8,.nd 3)] [(4,.vec 0 71 true)]),
 [(.exit 0,(aK 1 18 3 5 [(3,.sv 4 0)] [(4,.vec 0 71 true)]))]⟩
def s77:aT:=⟨77,(aK 28 61 3 6 [(2,.p 4 0),(7,.sv 5 0),(21,.nd 1),(22,.nd 2),(23,.nd 3)] [(5,.vec 0 56 true),(4,.cells Rk 35 true false)]),
 [(.exit 0,(bg 25 61 3 5 [(2,.p 4 0),(7,.nd 0)] [(4,.cells uz 35 true false)] 0 [none,some 4,some 5,some 6,some 7,some 8,some 9,some 10,some 11,some 12,some 13,some 14,some 15,some 16,some 17,some 18,some 19,some 20,some 21,some 22,some 23,some 24,some 25,some 26,some 27]))]⟩
def aqF:aT:=⟨201,(aK 29 123 3 7 [(1,.nd 0),(4,.p 4 0),(6,.nd 1),(10,.p 5 0),(67,.nd 2),(68,.nd 3),(69,.nd 4)] [(5,.cells [.nd 5,.nd 6,.nd 7,.nd 8,.nd 9,.nd 10,.nd 11,.nd 12,.nd 13,.nd 14,.nd 15,.nd 16,.nd 17,.nd 18,.nd 19,.nd 20,.nd 21,.nd 22,.nd 23,.nd 24,.nd 25,.nd 26,.nd 27,.sv 6 28] 44 true false),(6,.vec 28 80 true),(4,.cells uy 44 true false)]),
 [(.ret,(aK 1 123 3 5 [(4,.p 4 0),(5,.nd 0)] [(4,.cells uy 44 true false)])),
  (.exit 0,(bg 25 123 3 6 [(1,.nd 0),(4,.p 4 0),(10,.p 5 0)] [(5,.cells uz 44 true false),(4,.cells uy 44 true false)] 0 [some 0,none,none,none,none,none,none,none,none,none,none,none,none,none,none,none,none,none,none,none,none,none,none,none,none]))]⟩
def apW:aT:=⟨106,(aK 4 23 3 5 [(5,.sv 4 0),(10,.nd 1),(11,.nd 2),(12,.nd 3)] [(4,.vec 0 22 true)]),
 [(.exit 0,(aK 1 23 3 5 [(5,.sv 4 0)] [(4,.vec 0 22 true)]))]⟩
def aqM:aT:=⟨219,(aK 11 71 3 4 [(0,.nd 0),(1,.nd 1),(5,.nd 2),(13,.nd 3),(14,.nd 2),(29,.nd 0),(30,.nd 2),(31,.rx 4 0),(32,.rx 4 0),(33,.nd 5),(34,.nd 6),(35,.nd 1),(36,.nd 2),(37,.rx 7 0),(38,.rx 7 0),(39,.nd 8),(40,.nd 9),(41,.b false),(48,.nd 6),(49,.nd 10)] []),
 [(.ret,(aK 0 71 3 4 [(4,.b false)] [])),
  (.exit 2,(bg 10 71 3 4 [(0,.nd 0),(1,.nd 1),(13,.nd 2),(14,.nd 3),(29,.nd 0),(30,.nd 3),(31,.rx 4 0),(32,.rx 4 0),(33,.nd 5),(34,.nd 6),(35,.nd 1),(36,.nd 3),(37,.rx 7 0),(38,.rx 7 0),(39,.nd 8),(40,.nd 9),(41,.b false)] [] 0 [some 0,some 1,some 3,some 2,some 4,some 5,some 6,some 7,some 8,some 9]))]⟩
def s75:aT:=⟨75,(aK 4 116 3 4 [(6,.nd 0),(97,.nd 1),(98,.nd 2),(99,.nd 3)] []),
 [(.ret,(aK 0 116 3 4 [(4,.i .i64 14)] [])),
  (.exit 6,(aK 0 116 3 4 [] []))]⟩
def aqK:aT:=⟨216,(aK 51 93 3 6 [(2,.p 4 0),(3,.p 5 0),(12,.nd 0),(13,.nd 1),(14,.nd 2)] [(5,.cells X8 44 true false),(4,.cells (nR 27 24) 44 true false)]),
 [(.ret,(aK 0 93 3 4 [(4,.b false)] [])),
  (.exit 0,(bg 48 93 3 6 [(2,.p 4 0),(3,.p 5 0)] [(5,.cells iq 44 true false),(4,.cells (nR 24 24) 44 true false)] 0 (mW 3 48)))]⟩
def s50:aT:=⟨50,(aK 3 42 3 4 [(0,.nd 0),(15,.nd 0),(16,.nd 1),(17,.nd 2)] []),
 [(.ret,(aK 1 42 3 4 [(2,.nd 0)] [])),
  (.exit 0,(aK 0 42 3 4 [] []))]⟩
def aqH:aT:=⟨206,(aK 4 63 3 5 [(0,.nd 0),(5,.nd 1),(8,.sv 4 2),(9,.nd 3)] [(4,.vec 2 71 true)]),
 [(.ret,(aK 1 63 3 4 [(2,.dD),(3,.s []),(4,.nd 0)] [])),
  (.exit 0,(aK 2 63 3 5 [(0,.nd 0),(8,.sv 4 1)] [(4,.vec 1 71 true)]))]⟩
def s36:aT:=⟨36,(aK 28 116 3 6 [(2,.p 4 0),(6,.nd 0),(7,.mp 5),(44,.nd 0),(45,.nd 1),(46,.nd 2)] [(5,.smap 3 none none),(4,.cells Rk 35 true false)]),
 [(.exit 0,(bg 26 116 3 6 [(2,.p 4 0),(6,.nd 0),(7,.mp 5)] [(5,.smap 1 none none),(4,.cells X9 35 true false)] 0 [some 0,none,some 4,some 5,some 6,some 7,some 8,some 9,some 10,some 11,some 12,some 13,some 14,some 15,some 16,some 17,some 18,some 19,some 20,some 21,some 22,some 23,some 24,some 25,some 26,some 27]))]⟩
def s95:aT:=⟨95,(aK 4 50 3 4 [(0,.nd 0),(5,.nd 1),(9,.nd 2),(10,.nd 3)] []),
 [(.ret,(aK 3 50 3 4 [(2,.nd 0),(3,.nd 1),(4,.nd 2)] [])),
  (.exit 0,(aK 1 50 3 4 [(0,.nd 0)] []))]⟩
def aqn:aT:=⟨167,(aK 5 81 3 4 [(0,.nd 0),(4,.nd 1),(5,.nd 2),(6,.nd 3),(7,.nd 4)] []),
 [(.ret,(aK 0 81 3 4 [(2,.i .i64 0)] [])),
  (.exit 0,(bg 3 81 3 4 [(4,.nd 0),(5,.nd 1),(6,.nd 2)] [] 0 [some 1,none,some 3]))]⟩
def aqD:aT:=⟨196,(aK 5 73 3 4 [(0,.nd 0),(5,.nd 1),(7,.nd 2),(8,.nd 3),(9,.nd 4)] []),
 [(.exit 2,(aK 2 73 3 4 [(5,.nd 0),(7,.nd 1)] []))]⟩
def aqI:aT:=⟨211,(aK 5 81 3 5 [(0,.nd 0),(5,.nd 1),(8,.sv 4 2),(9,.nd 3),(10,.nd 4)] [(4,.vec 2 98 true)]),
 [(.ret,(aK 1 81 3 4 [(2,.dD),(3,.s []),(4,.nd 0)] [])),
  (.exit 0,(aK 2 81 3 5 [(0,.nd 0),(8,.sv 4 1)] [(4,.vec 1 98 true)]))]⟩
def aqA:aT:=⟨190,(aK 13 85 3 5 [(7,.nd 0),(11,.p 4 0),(12,.nd 1),(26,.nd 2),(27,.nd 3),(28,.nd 4),(32,.nd 5),(33,.nd 6),(34,.nd 7)] [(4,.cells (nR 8 5) 80 true false)]),
 [(.exit 6,(bg 15 85 3 5 [(7,.nd 0),(11,.p 4 0),(12,.nd 1),(26,.nd 2),(27,.nd 3),(28,.nd 4),(32,.nd 5),(33,.nd 6),(34,.nd 7),(43,.nd 0),(44,.nd 1),(45,.rx 8 0),(46,.rx 8 0),(47,.nd 9),(48,.p 4 0),(49,.nd 10),(50,.b false)] [(4,.cells (nR 10 5) 80 true false)] 0 [some 0,none,some 2,some 3,some 4,some 5,some 6,some 7,none,none,some 8,some 9,some 10,some 11,some 12])),
  (.exit 6,(bg 13 85 3 5 [(7,.nd 0),(11,.p 4 0),(12,.nd 1),(26,.nd 2),(27,.nd 3),(28,.nd 4),(32,.nd 5),(33,.nd 6),(34,.nd 7),(43,.dn []),(44,.dn []),(45,.dn []),(46,.dn []),(47,.dn []),(48,.dn []),(49,.dn []),(50,.dn [])] [(4,.cells (nR 8 5) 80 true false)] 0 [some 0,none,some 2,some 3,some 4,some 5,some 6,some 7,some 8,some 9,some 10,some 11,some 12]))]⟩
def aql:aT:=⟨161,(aK 3 41 3 4 [(0,.nd 0),(3,.nd 1),(4,.nd 2)] []),
 [(.exit 0,(aK 1 41 3 4 [(3,.nd 0)] []))]⟩
def s15:aT:=⟨15,(aK 3 19 3 4 [(0,.nd 0),(5,.nd 0),(6,.nd 1),(7,.nd 2)] []),
 [(.ret,(aK 0 19 3 4 [(2,.b false)] [])),
  (.exit 0,(bg 1 19 3 4 [(0,.nd 0)] [] 0 [some 0]))]⟩
def apV:aT:=⟨104,(aK 7 123 3 6 [(1,.nd 0),(4,.p 4 0),(9,.nd 1),(11,.nd 2),(12,.mp 5),(70,.nd 3),(71,.nd 4),(72,.nd 5)] [(5,.smap 6 (some .u64) none),(4,.cells uy 35 true false)]),
 [(.exit 0,(bg 4 123 3 6 [(1,.nd 0),(4,.p 4 0),(9,.nd 1),(11,.nd 2),(12,.mp 5)] [(5,.smap 3 (some .u64) none),(4,.cells uy 35 true false)] 0 [some 0,some 1,some 2,none]))]⟩
def aqw:aT:=⟨185,(aK 28 59 3 6 [(2,.p 4 0),(7,.sv 5 0),(21,.nd 1),(22,.nd 2),(23,.nd 3)] [(5,.vec 0 80 true),(4,.cells Rk 44 true false)]),
 [(.exit 0,(bg 25 59 3 5 [(2,.p 4 0),(7,.nd 0)] [(4,.cells uz 44 true false)] 0 [none,some 4,some 5,some 6,some 7,some 8,some 9,some 10,some 11,some 12,some 13,some 14,some 15,some 16,some 17,some 18,some 19,some 20,some 21,some 22,some 23,some 24,some 25,some 26,some 27]))]⟩
def aqo:aT:=⟨171,(aK 3 37 3 4 [(0,.nd 0),(1,.nd 1),(5,.nd 2)] []),
 [(.ret,(aK 1 37 3 4 [(4,.nd 0)] [])),
  (.exit 0,(bg 2 37 3 4 [(0,.nd 0),(1,.nd 1)] [] 0 [some 0,some 1]))]⟩
def s19:aT:=⟨19,(aK 3 54 3 5 [(0,.nd 0),(1,.nd 1),(6,.sv 4 2)] [(4,.vec 2 56 true)]),
 [(.exit 0,(aK 2 54 3 5 [(0,.nd 0),(6,.sv 4 1)] [(4,.vec 1 56 true)]))]⟩
def s38:aT:=⟨38,(aK 29 116 3 6 [(2,.p 4 0),(6,.nd 0),(7,.mp 5),(54,.nd 1),(55,.nd 2),(56,.nd 3)] [(5,.smap 4 none none),(4,.cells zq7 35 true false)]),
 [(.ret,(aK 0 116 3 4 [(4,.i .i64 26)] [])),
  (.exit 2,(bg 25 116 3 5 [(2,.p 4 0),(6,.nd 0)] [(4,.cells uz 35 true false)] 0 [some 0,some 5,some 6,some 7,some 8,some 9,some 10,some 11,some 12,some 13,some 14,some 15,some 16,some 17,some 18,some 19,some 20,some 21,some 22,some 23,some 24,some 25,some 26,some 27,some 28]))]⟩
def aqt:aT:=⟨180,(aK 4 91 3 4 [(0,.nd 0),(1,.nd 1),(8,.nd 0),(9,.nd 2),(10,.nd 3)] []),
 [(.ret,(aK 1 91 3 4 [(4,.nd 0)] [])),
  (.exit 0,(aK 0 91 3 4 [] []))]⟩
def aqv:aT:=⟨182,(aK 11 127 3 5 [(5,.nd 0),(16,.p 4 0),(108,.nd 1),(109,.nd 2),(110,.nd 3),(114,.nd 0),(115,.nd 4),(116,.nd 5)] [(4,.cells Ya 80 true false)]),
 [(.ret,(aK 0 127 3 4 [(4,.i .i64 14)] [])),
  (.exit 8,(bg 4 127 3 4 [(5,.nd 0),(108,.nd 1),(109,.nd 2),(110,.nd 3)] [] 0 (mW 0 4)))]⟩
def aqE:aT:=⟨199,(aK 4 35 3 5 [(0,.nd 0),(1,.nd 1),(6,.sv 4 2),(7,.nd 3)] [(4,.vec 2 80 true)]),
 [(.ret,(aK 1 35 3 4 [(4,.dD),(5,.nd 0)] [])),
  (.exit 0,(aK 1 35 3 5 [(6,.sv 4 0)] [(4,.vec 0 80 true)]))]⟩
def s83:aT:=⟨83,(aK 3 28 3 4 [(0,.nd 0),(1,.nd 1),(5,.nd 2)] []),
 [(.exit 0,(aK 1 28 3 4 [(5,.nd 0)] []))]⟩
def s39:aT:=⟨39,(aK 27 116 3 5 [(2,.p 4 0),(6,.nd 0),(71,.nd 0),(72,.nd 1),(73,.nd 2)] [(4,.cells X8 35 true false)]),
 [(.ret,(aK 1 116 3 4 [(4,.nd 0)] [])),
  (.exit 4,(bg 25 116 3 5 [(2,.p 4 0),(6,.nd 0)] [(4,.cells uz 35 true false)] 0 [some 0,some 3,some 4,some 5,some 6,some 7,some 8,some 9,some 10,some 11,some 12,some 13,some 14,some 15,some 16,some 17,some 18,some 19,some 20,some 21,some 22,some 23,some 24,some 25,some 26]))]⟩
def aqB:aT:=⟨192,(aK 4 49 3 4 [(3,.nd 0),(7,.nd 1),(8,.nd 2),(9,.nd 3)] []),
 [(.exit 0,(aK 1 49 3 4 [(3,.nd 0)] []))]⟩
def s11:aT:=⟨11,(aK 4 33 3 5 [(0,.nd 0),(3,.sv 4 1),(9,.nd 2),(10,.nd 3)] [(4,.vec 1 5 false)]),
 [(.exit 0,(aK 1 33 3 5 [(3,.sv 4 0)] [(4,.vec 0 5 false)]))]⟩
def aqj:aT:=⟨154,(aK 4 22 3 4 [(3,.nd 0),(10,.nd 1),(11,.nd 2),(12,.nd 3)] []),
 [(.exit 0,(aK 1 22 3 4 [(3,.nd 0)] []))]⟩
def aqk:aT:=⟨158,(aK 3 67 3 4 [(0,.nd 0),(9,.nd 1),(10,.nd 2)] []),
 [(.ret,(aK 1 67 3 4 [(2,.nd 0)] [])),
  (.exit 0,(aK 0 67 3 4 [] []))]⟩
def aqN:aT:=⟨221,(aK 4 81 3 4 [(0,.nd 0),(1,.nd 1),(12,.nd 2),(13,.nd 3)] []),
 [(.ret,(aK 0 81 3 4 [(4,.b false)] [])),
  (.exit 0,(aK 0 81 3 4 [] []))]⟩
def aqs:aT:=⟨178,(aK 27 127 3 5 [(2,.p 4 0),(5,.nd 0),(61,.nd 0),(62,.nd 1),(63,.nd 2)] [(4,.cells X8 44 true false)]),
 [(.ret,(aK 1 127 3 4 [(4,.nd 0)] [])),
  (.exit 4,(bg 25 127 3 5 [(2,.p 4 0),(5,.nd 0)] [(4,.cells uz 44 true false)] 0 [some 0,some 3,some 4,some 5,some 6,some 7,some 8,some 9,some 10,some 11,some 12,some 13,some 14,some 15,some 16,some 17,some 18,some 19,some 20,some 21,some 22,some 23,some 24,some 25,some 26]))]⟩
def aqr:aT:=⟨177,(aK 3 31 3 4 [(0,.nd 0),(1,.nd 1),(5,.nd 2)] []),
 [(.ret,(aK 1 31 3 4 [(4,.nd 0)] [])),
  (.exit 0,(bg 2 31 3 4 [(0,.nd 0),(1,.nd 1)] [] 0 [some 0,some 1]))]⟩
def ap3:aT:=⟨119,(bg 5 60 3 6 [(0,.p 4 0),(7,.sv 5 0),(28,.nd 1),(29,.nd 2)] [(4,.cells [.nd 3,.nd 4] 191 true false),(5,.vec 0 88 false)] 1 []),
 [(.ret,(bg 3 60 3 5 [(2,.dD),(3,.nd 0)] [(4,.cells [.nd 1,.nd 2] 191 true false)] 1 [])),
  (.exit 0,(bg 3 60 3 6 [(7,.sv 5 0)] [(4,.cells [.nd 1,.nd 2] 191 true false),(5,.vec 0 88 false)] 1 []))]⟩
def s10:aT:=⟨10,(aK 2 11 3 4 [(0,.nd 0),(3,.nd 1)] []),
 [(.exit 0,(aK 1 11 3 4 [(3,.nd 0)] []))]⟩
def s28:aT:=⟨28,(aK 5 46 3 5 [(1,.nd 0),(7,.sv 4 1),(30,.nd 2),(31,.nd 3),(32,.nd 4)] [(4,.vec 1 112 true)]),
 [(.exit 0,(aK 1 46 3 5 [(7,.sv 4 0)] [(4,.vec 0 112 true)]))]⟩
def apZ:aT:=⟨110,(aK 30 123 3 7 [(1,.nd 0),(4,.p 4 0),(12,.mp 5),(15,.p 6 0),(17,.nd 1),(92,.nd 2),(93,.nd 3),(94,.nd 4)] [(6,.cells zq7 35 true false),(5,.smap 29 (some .u64) none),(4,.cells uy 35 true false)]),
 [(.ret,(aK 1 123 3 5 [(4,.p 4 0),(5,.nd 0)] [(4,.cells uy 35 true false)])),
  (.exit 2,(bg 26 123 3 6 [(1,.nd 0),(4,.p 4 0),(15,.p 5 0),(17,.nd 1)] [(5,.cells X9 35 true false),(4,.cells uy 35 true false)] 0 [some 0,some 1,none,none,none,none,none,none,none,none,none,none,none,none,none,none,none,none,none,none,none,none,none,none,none,none]))]⟩
def s80:aT:=⟨80,(aK 5 42 3 6 [(5,.p 4 0),(6,.nd 0),(22,.nd 1),(23,.nd 2),(24,.nd 3)] [(4,.cells [.p 4 0,.sv 5 4] 141 true false),(5,.vec 4 5 true)]),
 [(.exit 0,(aK 1 42 3 6 [(5,.p 4 0)] [(4,.cells [.p 4 0,.sv 5 0] 141 true false),(5,.vec 0 5 true)]))]⟩
def aqm:aT:=⟨165,(aK 1 14 3 4 [(0,.nd 0)] []),
 [(.ret,(aK 0 14 3 4 [(2,.b false)] [])),
  (.exit 0,(aK 0 14 3 4 [] []))]⟩
def ap0:aT:=⟨114,(aK 27 38 3 7 [(1,.p 4 0),(2,.p 5 0),(3,.sv 6 0),(15,.nd 1),(16,.nd 2),(17,.nd 3)] [(6,.vec 0 90 false),(5,.cells uy 35 true false),(4,.cells [.nd 4,.nd 5,.nd 6,.nd 7,.nd 8,.nd 9,.nd 10,.nd 11,.nd 12,.nd 13,.nd 14,.nd 15,.nd 16,.nd 17,.nd 18,.nd 19,.nd 20,.nd 21,.nd 22,.nd 23,.nd 24,.nd 25,.nd 1,.nd 26] 35 true false)]),
 [(.exit 0,(bg 25 38 3 7 [(1,.p 4 0),(2,.p 5 0),(3,.sv 6 0)] [(6,.vec 0 90 false),(5,.cells uy 35 true false),(4,.cells uz 35 true false)] 0 [none,some 4,some 5,some 6,some 7,some 8,some 9,some 10,some 11,some 12,some 13,some 14,some 15,some 16,some 17,some 18,some 19,some 20,some 21,some 22,some 23,some 24,some 25,some 1,some 26]))]⟩
def aqC:aT:=⟨195,(aK 3 73 3 4 [(0,.nd 0),(5,.nd 1),(6,.nd 2)] []),
 [(.exit 0,(aK 2 73 3 4 [(0,.nd 0),(5,.nd 1)] []))]⟩
def aqO:aT:=⟨222,(aK 50 93 3 6 [(2,.p 4 0),(3,.p 5 0),(77,.nd 0),(78,.nd 1)] [(5,.cells X9 44 true false),(4,.cells (nR 26 24) 44 true false)]),
 [(.ret,(aK 0 93 3 4 [(4,.b false)] [])),
  (.exit 2,(aK 0 93 3 4 [] []))]⟩
def s90:aT:=⟨90,(aK 4 66 3 4 [(0,.nd 0),(3,.nd 1),(8,.nd 2),(9,.nd 3)] []),
 [(.exit 0,(aK 1 66 3 4 [(3,.nd 0)] []))]⟩
def aqb:aT:=⟨132,(aK 4 23 3 5 [(3,.sv 4 0),(6,.nd 1),(7,.nd 2),(8,.nd 3)] [(4,.vec 0 98 true)]),
 [(.exit 0,(aK 1 23 3 5 [(3,.sv 4 0)] [(4,.vec 0 98 true)]))]⟩
def s4:aT:=⟨4,(aK 3 23 3 4 [(0,.nd 0),(5,.nd 0),(6,.nd 1),(7,.nd 2)] []),
 [(.ret,(aK 0 23 3 4 [(2,.b false)] [])),
  (.exit 0,(bg 1 23 3 4 [(0,.nd 0)] [] 0 [some 0]))]⟩
def aqf:aT:=⟨143,(aK 32 127 3 5 [(2,.p 4 0),(5,.nd 0),(7,.nd 1),(8,.nd 2),(32,.nd 3),(33,.nd 4),(34,.nd 5),(38,.nd 0),(39,.nd 6),(40,.nd 7)] [(4,.cells (nR 8 24) 44 true false)]),
 [(.exit 2,(bg 30 127 3 5 [(2,.p 4 0),(5,.nd 0),(7,.nd 1),(8,.nd 2),(32,.nd 3),(33,.nd 4),(34,.nd 5)] [(4,.cells zq6 44 true false)] 0 [some 0,some 1,none,some 3,some 4,some 5,some 8,some 9,some 10,some 11,some 12,some 13,some 14,some 15,some 16,some 17,some 18,some 19,some 20,some 21,some 22,some 23,some 24,some 25,some 26,some 27,some 28,some 29,some 30,some 31]))]⟩
def s98:aT:=⟨98,(bg 5 26 3 7 [(0,.p 4 0),(4,.sv 6 0)] [(4,.cells [.p 5 0,.nd 1,.nd 2] 156 true false),(5,.cells [.nd 3,.nd 4] 191 true false),(6,.vec 0 56 true)] 2 []),
 [(.ret,(bg 5 26 3 6 [(2,.dD),(3,.nd 0)] [(4,.cells [.p 5 0,.nd 1,.nd 2] 156 true false),(5,.cells [.nd 3,.nd 4] 191 true false)] 2 [none,some 1,none,none,none])),
  (.exit 0,(bg 5 26 3 7 [(4,.sv 6 0)] [(4,.cells [.p 5 0,.nd 1,.nd 2] 156 true false),(5,.cells [.nd 3,.nd 4] 191 true false),(6,.vec 0 56 true)] 2 [none,some 1,none,none,none]))]⟩
def aqe:aT:=⟨142,(aK 28 127 3 5 [(2,.p 4 0),(5,.nd 0),(32,.nd 1),(33,.nd 2),(34,.nd 3)] [(4,.cells Rk 44 true false)]),
 [(.ret,(aK 0 127 3 4 [(4,.i .i64 26)] [])),
  (.exit 0,(bg 25 127 3 5 [(2,.p 4 0),(5,.nd 0)] [(4,.cells uz 44 true false)] 0 [some 0,some 4,some 5,some 6,some 7,some 8,some 9,some 10,some 11,some 12,some 13,some 14,some 15,some 16,some 17,some 18,some 19,some 20,some 21,some 22,some 23,some 24,some 25,some 26,some 27]))]⟩
def aqh:aT:=⟨148,(aK 5 24 3 4 [(0,.nd 0),(3,.nd 1),(11,.nd 2),(12,.nd 3),(13,.nd 4)] []),
 [(.ret,(aK 1 24 3 4 [(2,.nd 0)] [])),
  (.exit 2,(bg 2 24 3 4 [(0,.nd 0),(3,.nd 1)] [] 0 [some 0,some 1]))]⟩
def s54:aT:=⟨54,(aK 4 42 3 4 [(3,.nd 0),(11,.nd 1),(12,.nd 2),(13,.nd 3)] []),
 [(.ret,(aK 1 42 3 4 [(2,.nd 0)] [])),
  (.exit 0,(aK 0 42 3 4 [] []))]⟩
def aqg:aT:=⟨147,(aK 2 24 3 4 [(0,.nd 0),(3,.nd 1)] []),
 [(.ret,(aK 1 24 3 4 [(2,.nd 0)] [])),
  (.exit 0,(aK 0 24 3 4 [] []))]⟩
def aqc:aT:=⟨134,(aK 4 29 3 5 [(3,.sv 4 0),(6,.nd 1),(7,.nd 2),(8,.nd 3)] [(4,.vec 0 80 true)]),
 [(.exit 0,(aK 1 29 3 5 [(3,.sv 4 0)] [(4,.vec 0 80 true)]))]⟩
def aqy:aT:=⟨188,(aK 4 85 3 4 [(7,.nd 0),(26,.nd 1),(27,.nd 2),(28,.nd 3)] []),
 [(.ret,(aK 0 85 3 4 [(2,.dD),(3,.i .i64 14)] [])),
  (.exit 2,(aK 1 85 3 4 [(7,.nd 0)] []))]⟩
def aqi:aT:=⟨153,(aK 2 22 3 4 [(0,.nd 0),(3,.nd 1)] []),
 [(.exit 0,(aK 2 22 3 4 [(0,.nd 0),(3,.nd 1)] []))]⟩
def s86:aT:=⟨86,(aK 2 46 3 5 [(4,.sv 4 0),(8,.nd 1)] [(4,.vec 0 56 true)]),
 [(.ret,(aK 0 46 3 4 [(2,.dD),(3,.i .i64 14)] [])),
  (.exit 2,(bg 1 46 3 5 [(4,.sv 4 0)] [(4,.vec 0 56 true)] 0 [some 0]))]⟩
def s76:aT:=⟨76,(aK 11 116 3 5 [(6,.nd 0),(18,.p 4 0),(97,.nd 1),(98,.nd 2),(99,.nd 3),(103,.nd 0),(104,.nd 4),(105,.nd 5)] [(4,.cells Ya 56 true false)]),
 [(.ret,(aK 0 116 3 4 [(4,.i .i64 14)] [])),
  (.exit 8,(bg 4 116 3 4 [(6,.nd 0),(97,.nd 1),(98,.nd 2),(99,.nd 3)] [] 0 (mW 0 4)))]⟩
def s92:aT:=⟨92,(aK 4 69 3 5 [(0,.sv 4 0),(1,.nd 1),(8,.nd 2),(9,.nd 3)] [(4,.vec 0 5 false)]),
 [(.exit 0,(aK 1 69 3 5 [(0,.sv 4 0)] [(4,.vec 0 5 false)]))]⟩
def apX:aT:=⟨108,(aK 5 53 3 5 [(0,.nd 0),(4,.dD),(5,.dD),(6,.mp 4),(13,.nd 1),(14,.nd 2),(15,.nd 3)] [(4,.smap 4 (some .u64) none)]),
 [(.exit 0,(bg 2 53 3 5 [(0,.nd 0),(4,.dD),(5,.dD),(6,.mp 4)] [(4,.smap 1 (some .u64) none)] 0 [some 0,none]))]⟩
def apY:aT:=⟨109,(aK 6 53 3 7 [(0,.nd 0),(4,.sv 4 1),(5,.sv 5 2),(6,.mp 6),(23,.nd 3),(24,.nd 4)] [(6,.smap 5 (some .u64) none),(5,.vec 2 56 true),(4,.vec 1 56 true)]),
 [(.exit 2,(aK 2 53 3 6 [(4,.sv 4 0),(5,.sv 5 1)] [(5,.vec 1 56 true),(4,.vec 0 56 true)]))]⟩
def s12:aT:=⟨12,(aK 4 22 3 6 [(3,.p 4 0),(11,.nd 0),(12,.nd 1),(13,.nd 2)] [(4,.cells [.p 4 0,.sv 5 3] 141 true false),(5,.vec 3 5 true)]),
 [(.exit 0,(aK 1 22 3 6 [(3,.p 4 0)] [(4,.cells [.p 4 0,.sv 5 0] 141 true false),(5,.vec 0 5 true)]))]⟩
def ap7:aT:=⟨124,(bg 6 56 3 6 [(0,.p 4 0),(6,.sv 5 0),(7,.nd 1),(25,.nd 2),(26,.nd 3)] [(4,.cells [.nd 4,.nd 5] 191 true false),(5,.vec 0 90 false)] 1 []),
 [(.ret,(bg 3 56 3 5 [(2,.dD),(3,.nd 0)] [(4,.cells [.nd 1,.nd 2] 191 true false)] 1 [])),
  (.exit 0,(bg 3 56 3 6 [(6,.sv 5 0)] [(4,.cells [.nd 1,.nd 2] 191 true false),(5,.vec 0 90 false)] 1 []))]⟩
def s85:aT:=⟨85,(aK 4 46 3 5 [(4,.sv 4 0),(9,.nd 1),(10,.nd 2),(11,.nd 3)] [(4,.vec 0 56 true)]),
 [(.ret,(aK 1 46 3 4 [(2,.dD),(3,.nd 0)] [])),
  (.exit 0,(aK 1 46 3 5 [(4,.sv 4 0)] [(4,.vec 0 56 true)]))]⟩
def aqd:aT:=⟨140,(aK 5 29 3 5 [(1,.nd 0),(5,.sv 4 1),(9,.nd 2),(10,.nd 3),(11,.nd 4)] [(4,.vec 1 84 true)]),
 [(.exit 0,(aK 1 29 3 5 [(5,.sv 4 0)] [(4,.vec 0 84 true)]))]⟩
def aqp:aT:=⟨174,(aK 4 40 3 4 [(0,.nd 0),(3,.nd 1),(11,.nd 0),(12,.nd 2),(13,.nd 3)] []),
 [(.exit 0,(aK 1 40 3 4 [(3,.nd 0)] []))]⟩
def aqu:aT:=⟨181,(aK 4 127 3 4 [(5,.nd 0),(108,.nd 1),(109,.nd 2),(110,.nd 3)] []),
 [(.ret,(aK 0 127 3 4 [(4,.i .i64 14)] [])),
  (.exit 6,(aK 0 127 3 4 [] []))]⟩
def aqG:aT:=⟨202,(aK 38 123 3 8 [(1,.nd 0),(4,.p 4 0),(6,.nd 1),(10,.p 5 0),(12,.p 6 0),(13,.nd 2),(67,.nd 3),(68,.nd 4),(69,.nd 5),(76,.nd 6),(77,.nd 7),(78,.nd 8)] [(6,.cells (nR 9 5) 80 true false),(5,.cells [.nd 14,.nd 15,.nd 16,.nd 17,.nd 18,.nd 19,.nd 20,.nd 21,.nd 22,.nd 23,.nd 24,.nd 25,.nd 26,.nd 27,.nd 28,.nd 29,.nd 30,.nd 31,.nd 32,.nd 33,.nd 34,.nd 35,.nd 36,.sv 7 37] 44 true false),(7,.vec 37 80 true),(4,.cells uy 44 true false)]),
 [(.ret,(aK 1 123 3 5 [(4,.p 4 0),(5,.nd 0)] [(4,.cells uy 44 true false)])),
  (.exit 2,(bg 35 123 3 8 [(1,.nd 0),(4,.p 4 0),(6,.nd 1),(10,.p 5 0),(12,.p 6 0),(13,.nd 2),(67,.nd 3),(68,.nd 4),(69,.nd 5)] [(6,.cells Ya 80 true false),(5,.cells [.nd 11,.nd 12,.nd 13,.nd 14,.nd 15,.nd 16,.nd 17,.nd 18,.nd 19,.nd 20,.nd 21,.nd 22,.nd 23,.nd 24,.nd 25,.nd 26,.nd 27,.nd 28,.nd 29,.nd 30,.nd 31,.nd 32,.nd 33,.sv 7 34] 44 true false),(7,.vec 34 80 true),(4,.cells uy 44 true false)] 0 [some 0,some 1,none,some 3,some 4,some 5,some 9,some 10,some 11,some 12,some 13,none,none,none,none,none,none,none,none,none,none,none,none,none,none,none,none,none,none,none,none,none,none,none,none]))]⟩
def aqx:aT:=⟨187,(aK 3 85 3 4 [(0,.nd 0),(14,.nd 0),(15,.nd 1),(16,.nd 2)] []),
 [(.ret,(aK 1 85 3 4 [(2,.dD),(3,.nd 0)] [])),
  (.exit 0,(bg 1 85 3 4 [(0,.nd 0)] [] 0 [some 0]))]⟩
def s74:aT:=⟨74,(aK 5 46 3 4 [(1,.nd 0),(5,.nd 1),(9,.nd 2),(10,.nd 3),(11,.nd 4)] []),
 [(.ret,(aK 1 46 3 4 [(4,.nd 0)] [])),
  (.exit 0,(aK 0 46 3 4 [] []))]⟩
def aqL:aT:=⟨218,(aK 4 71 3 4 [(0,.nd 0),(1,.nd 1),(13,.nd 2),(14,.nd 3)] []),
 [(.ret,(aK 0 71 3 4 [(4,.b false)] [])),
  (.exit 0,(aK 0 71 3 4 [] []))]⟩
def aqz:aT:=⟨189,(aK 7 85 3 4 [(7,.nd 0),(26,.nd 1),(27,.nd 2),(28,.nd 3),(32,.nd 4),(33,.nd 5),(34,.nd 6)] []),
 [(.ret,(aK 0 85 3 4 [(2,.dD),(3,.i .i64 14)] [])),
  (.exit 4,(bg 4 85 3 4 [(7,.nd 0),(26,.nd 1),(27,.nd 2),(28,.nd 3)] [] 0 [none,some 1,some 2,some 3]))]⟩
def s6:aT:=⟨6,(aK 3 37 3 4 [(0,.nd 0),(5,.nd 0),(6,.nd 1),(7,.nd 2)] []),
 [(.ret,(aK 0 37 3 4 [(2,.b false)] [])),
  (.exit 0,(bg 1 37 3 4 [(0,.nd 0)] [] 0 [some 0]))]⟩
def aqJ:aT:=⟨214,(aK 28 97 3 5 [(0,.agg zq8),(1,.nd 24),(2,.nd 25),(3,.nd 26),(4,.nd 27)] [(4,.vec 23 80 true)]),
 [(.ret,(aK 1 2 3 4 [(0,.agg uy),(1,.nd 0)] [])),
  (.ret,(bg 24 2 3 5 [(0,.agg zq8),(1,.i .i64 0)] [(4,.vec 23 80 true)] 0 [some 0,none,none,none,none,none,none,none,none,none,none,none,none,none,none,none,none,none,none,none,none,none,none,some 23]))]⟩
def ap9:aT:=⟨126,(bg 3 33 3 5 [(0,.p 4 0),(1,.nd 0)] [(4,.cells [.nd 1,.nd 2] 191 true false)] 1 []),
 [(.ret,(bg 5 2 3 5 [(0,.agg [.nd 0,.nd 1]),(1,.nd 2)] [(4,.cells [.nd 3,.nd 4] 191 true false)] 1 []))]⟩
def ap8:aT:=⟨125,(bg 4 63 3 5 [(0,.p 4 0),(1,.nd 2),(2,.nd 3)] [(4,.cells [.nd 0,.nd 1] 191 true false)] 1 []),
 [(.ret,(bg 4 2 3 5 [(0,.nd 0),(1,.nd 1)] [(4,.cells [.nd 2,.nd 3] 191 true false)] 1 []))]⟩
def ap6:aT:=⟨123,(bg 2 56 3 5 [(0,.p 4 0)] [(4,.cells [.nd 0,.nd 1] 191 true false)] 1 []),
 [(.ret,(bg 4 2 3 5 [(0,.nd 0),(1,.nd 1)] [(4,.cells [.nd 2,.nd 3] 191 true false)] 1 []))]⟩
def ap5:aT:=⟨121,(bg 2 25 3 5 [(0,.p 4 0)] [(4,.cells [.nd 0,.nd 1] 191 true false)] 1 []),
 [(.ret,(bg 4 2 3 5 [(0,.nd 0),(1,.nd 1)] [(4,.cells [.nd 2,.nd 3] 191 true false)] 1 []))]⟩
def ap4:aT:=⟨120,(bg 2 37 3 5 [(0,.p 4 0)] [(4,.cells [.nd 0,.nd 1] 191 true false)] 1 []),
 [(.ret,(bg 5 2 3 5 [(0,.agg [.nd 0,.nd 1]),(1,.nd 2)] [(4,.cells [.nd 3,.nd 4] 191 true false)] 1 []))]⟩
def ap2:aT:=⟨118,(bg 2 60 3 5 [(0,.p 4 0)] [(4,.cells [.nd 0,.nd 1] 191 true false)] 1 []),
 [(.ret,(bg 4 2 3 5 [(0,.nd 0),(1,.nd 1)] [(4,.cells [.nd 2,.nd 3] 191 true false)] 1 []))]⟩
def ap1:aT:=⟨115,(bg 30 117 3 5 [(0,.p 4 0),(1,.nd 0),(2,.agg (nR 1 5))] [(4,.cells zq6 35 true false)] 1 []),
 [(.ret,(bg 25 1 3 5 [(0,.nd 0)] [(4,.cells uz 35 true false)] 1 [none,some 6,none,none,none,none,none,none,none,none,none,none,none,none,none,none,none,none,none,none,none,none,none,none,some 29]))]⟩
def apU:aT:=⟨103,(bg 7 52 3 7 [(0,.p 5 0),(1,.p 4 0)] [(4,.cells X7 56 true false),(5,.cells [.p 6 0,.nd 2,.nd 0] 156 true false),(6,.cells [.nd 3,.nd 4] 191 true false)] 3 []),
 [(.ret,(bg 9 1 3 7 [(0,.nd 0)] [(4,.cells (nR 1 5) 56 true false),(5,.cells [.p 6 0,.nd 6,.nd 1] 156 true false),(6,.cells [.nd 7,.nd 8] 191 true false)] 3 [none,some 0,some 1,some 5,some 6,none,some 2,none,none]))]⟩
def apT:aT:=⟨102,(bg 7 35 3 7 [(0,.p 5 0),(1,.p 4 0)] [(4,.cells X7 56 true false),(5,.cells [.p 6 0,.nd 2,.nd 0] 156 true false),(6,.cells [.nd 3,.nd 4] 191 true false)] 3 []),
 [(.ret,(bg 8 1 3 7 [(0,.nd 0)] [(4,.cells [.nd 1,.nd 2,.nd 3,.nd 4,.dD] 56 true false),(5,.cells [.p 6 0,.nd 5,.nd 1] 156 true false),(6,.cells [.nd 6,.nd 7] 191 true false)] 3 [none,some 0,some 1,some 5,none,some 2,none,none]))]⟩
def apS:aT:=⟨101,(bg 7 20 3 7 [(0,.p 5 0),(1,.p 4 0)] [(4,.cells X7 56 true false),(5,.cells [.p 6 0,.nd 2,.nd 0] 156 true false),(6,.cells [.nd 3,.nd 4] 191 true false)] 3 []),
 [(.ret,(bg 8 1 3 7 [(0,.nd 0)] [(4,.cells [.nd 1,.nd 2,.nd 3,.nd 4,.dD] 56 true false),(5,.cells [.p 6 0,.nd 5,.nd 1] 156 true false),(6,.cells [.nd 6,.nd 7] 191 true false)] 3 [none,some 0,some 1,none,some 6,some 2,none,none]))]⟩
def apR:aT:=⟨100,(bg 2 24 3 5 [(0,.p 4 0)] [(4,.cells [.nd 0,.nd 1] 191 true false)] 1 []),
 [(.ret,(bg 4 2 3 5 [(0,.nd 0),(1,.nd 1)] [(4,.cells [.nd 2,.nd 3] 191 true false)] 1 []))]⟩
def s99:aT:=⟨99,(bg 4 65 3 6 [(0,.p 4 0)] [(4,.cells [.p 5 0,.nd 0,.nd 1] 156 true false),(5,.cells [.nd 2,.nd 3] 191 true false)] 2 []),
 [(.ret,(bg 10 2 3 6 [(0,.agg (nR 0 5)),(1,.nd 5)] [(4,.cells [.p 5 0,.nd 6,.nd 7] 156 true false),(5,.cells [.nd 8,.nd 9] 191 true false)] 2 [none,none,none,none,none,none,some 0,none,none,none]))]⟩
def s97:aT:=⟨97,(bg 4 26 3 6 [(0,.p 4 0)] [(4,.cells [.p 5 0,.nd 1,.nd 2] 156 true false),(5,.cells [.nd 0,.nd 3] 191 true false)] 2 []),
 [(.ret,(bg 6 2 3 6 [(0,.nd 0),(1,.nd 1)] [(4,.cells [.p 5 0,.nd 2,.nd 3] 156 true false),(5,.cells [.nd 4,.nd 5] 191 true false)] 2 [none,none,some 1,none,none,none]))]⟩
def s91:aT:=⟨91,(aK 2 69 3 5 [(0,.sv 4 0),(1,.nd 1)] [(4,.vec 0 5 false)]),
 [(.ret,(aK 1 1 3 5 [(0,.sv 4 0)] [(4,.vec 0 5 false)]))]⟩
def s71:aT:=⟨71,(aK 0 33 3 4 [(0,.ql)] []),
 [(.ret,(aK 0 1 3 4 [(0,.i .i64 0)] []))]⟩
def s70:aT:=⟨70,(bg 24 33 3 5 [(0,.dW 201 (.p 4 15))] [(4,.cells iq 35 true false)] 1 []),
 [(.ret,(bg 24 1 3 5 [(0,.i .i64 0)] [(4,.cells iq 35 true false)] 1 (mW 0 24)))]⟩
def s69:aT:=⟨69,(bg 24 33 3 5 [(0,.dW 201 (.p 4 14))] [(4,.cells iq 35 true false)] 1 []),
 [(.ret,(bg 24 1 3 5 [(0,.i .i64 0)] [(4,.cells iq 35 true false)] 1 (mW 0 24)))]⟩
def s68:aT:=⟨68,(bg 24 33 3 5 [(0,.dW 201 (.p 4 13))] [(4,.cells iq 35 true false)] 1 []),
 [(.ret,(bg 24 1 3 5 [(0,.i .i64 0)] [(4,.cells iq 35 true false)] 1 (mW 0 24)))]⟩
def s67:aT:=⟨67,(bg 24 33 3 5 [(0,.dW 201 (.p 4 12))] [(4,.cells iq 35 true false)] 1 []),
 [(.ret,(bg 24 1 3 5 [(0,.i .i64 0)] [(4,.cells iq 35 true false)] 1 (mW 0 24)))]⟩
def s66:aT:=⟨66,(bg 24 33 3 5 [(0,.dW 201 (.p 4 11))] [(4,.cells iq 35 true false)] 1 []),
 [(.ret,(bg 24 1 3 5 [(0,.i .i64 0)] [(4,.cells iq 35 true false)] 1 (mW 0 24)))]⟩
def s65:aT:=⟨65,(bg 24 33 3 5 [(0,.dW 201 (.p 4 10))] [(4,.cells iq 35 true false)] 1 []),
 [(.ret,(bg 24 1 3 5 [(0,.i .i64 0)] [(4,.cells iq 35 true false)] 1 (mW 0 24)))]⟩
def s64:aT:=⟨64,(bg 24 33 3 5 [(0,.dW 201 (.p 4 9))] [(4,.cells iq 35 true false)] 1 []),
 [(.ret,(bg 24 1 3 5 [(0,.i .i64 0)] [(4,.cells iq 35 true false)] 1 (mW 0 24)))]⟩
def s63:aT:=⟨63,(bg 24 33 3 5 [(0,.dW 201 (.p 4 8))] [(4,.cells iq 35 true false)] 1 []),
 [(.ret,(bg 24 1 3 5 [(0,.i .i64 0)] [(4,.cells iq 35 true false)] 1 (mW 0 24)))]⟩
def s62:aT:=⟨62,(bg 24 33 3 5 [(0,.dW 201 (.p 4 7))] [(4,.cells iq 35 true false)] 1 []),
 [(.ret,(bg 24 1 3 5 [(0,.i .i64 0)] [(4,.cells iq 35 true false)] 1 (mW 0 24)))]⟩
def s61:aT:=⟨61,(bg 24 33 3 5 [(0,.dW 201 (.p 4 6))] [(4,.cells iq 35 true false)] 1 []),
 [(.ret,(bg 24 1 3 5 [(0,.i .i64 0)] [(4,.cells iq 35 true false)] 1 (mW 0 24)))]⟩
def s60:aT:=⟨60,(bg 24 33 3 5 [(0,.dW 201 (.p 4 5))] [(4,.cells iq 35 true false)] 1 []),
 [(.ret,(bg 24 1 3 5 [(0,.i .i64 0)] [(4,.cells iq 35 true false)] 1 (mW 0 24)))]⟩
def s59:aT:=⟨59,(bg 24 33 3 5 [(0,.dW 201 (.p 4 4))] [(4,.cells iq 35 true false)] 1 []),
 [(.ret,(bg 24 1 3 5 [(0,.i .i64 0)] [(4,.cells iq 35 true false)] 1 (mW 0 24)))]⟩
def s58:aT:=⟨58,(bg 24 33 3 5 [(0,.dW 201 (.p 4 3))] [(4,.cells iq 35 true false)] 1 []),
 [(.ret,(bg 24 1 3 5 [(0,.i .i64 0)] [(4,.cells iq 35 true false)] 1 (mW 0 24)))]⟩
def s57:aT:=⟨57,(bg 24 33 3 5 [(0,.dW 201 (.p 4 2))] [(4,.cells iq 35 true false)] 1 []),
 [(.ret,(bg 24 1 3 5 [(0,.i .i64 0)] [(4,.cells iq 35 true false)] 1 (mW 0 24)))]⟩
def s56:aT:=⟨56,(bg 24 33 3 5 [(0,.dW 201 (.p 4 1))] [(4,.cells iq 35 true false)] 1 []),
 [(.ret,(bg 24 1 3 5 [(0,.i .i64 0)] [(4,.cells iq 35 true false)] 1 (mW 0 24)))]⟩
def s52:aT:=⟨52,(bg 24 33 3 5 [(0,.dW 209 (.p 4 22))] [(4,.cells iq 35 true false)] 1 []),
 [(.ret,(bg 25 1 3 5 [(0,.nd 0)] [(4,.cells uz 35 true false)] 1 [none,some 0,some 1,some 2,some 3,some 4,some 5,some 6,some 7,some 8,some 9,some 10,some 11,some 12,some 13,some 14,some 15,some 16,some 17,some 18,some 19,some 20,some 21,some 22,some 23]))]⟩
def s48:aT:=⟨48,(bg 24 33 3 5 [(0,.dW 206 (.p 4 21))] [(4,.cells iq 35 true false)] 1 []),
 [(.ret,(bg 25 1 3 5 [(0,.nd 0)] [(4,.cells uz 35 true false)] 1 [none,some 0,some 1,some 2,some 3,some 4,some 5,some 6,some 7,some 8,some 9,some 10,some 11,some 12,some 13,some 14,some 15,some 16,some 17,some 18,some 19,some 20,some 21,some 22,some 23]))]⟩
def s47:aT:=⟨47,(bg 24 33 3 5 [(0,.dW 204 (.p 4 20))] [(4,.cells iq 35 true false)] 1 []),
 [(.ret,(bg 25 1 3 5 [(0,.nd 0)] [(4,.cells uz 35 true false)] 1 [none,some 0,some 1,some 2,some 3,some 4,some 5,some 6,some 7,some 8,some 9,some 10,some 11,some 12,some 13,some 14,some 15,some 16,some 17,some 18,some 19,some 20,some 21,some 22,some 23]))]⟩
def s46:aT:=⟨46,(bg 24 33 3 5 [(0,.dW 204 (.p 4 19))] [(4,.cells iq 35 true false)] 1 []),
 [(.ret,(bg 25 1 3 5 [(0,.nd 0)] [(4,.cells uz 35 true false)] 1 [none,some 0,some 1,some 2,some 3,some 4,some 5,some 6,some 7,some 8,some 9,some 10,some 11,some 12,some 13,some 14,some 15,some 16,some 17,some 18,some 19,some 20,some 21,some 22,some 23]))]⟩
def s42:aT:=⟨42,(bg 24 33 3 5 [(0,.dW 204 (.p 4 18))] [(4,.cells iq 35 true false)] 1 []),
 [(.ret,(bg 25 1 3 5 [(0,.nd 0)] [(4,.cells uz 35 true false)] 1 [none,some 0,some 1,some 2,some 3,some 4,some 5,some 6,some 7,some 8,some 9,some 10,some 11,some 12,some 13,some 14,some 15,some 16,some 17,some 18,some 19,some 20,some 21,some 22,some 23]))]⟩
def s41:aT:=⟨41,(bg 24 33 3 5 [(0,.dW 202 (.p 4 17))] [(4,.cells iq 35 true false)] 1 []),
 [(.ret,(bg 24 1 3 5 [(0,.i .i64 0)] [(4,.cells iq 35 true false)] 1 (mW 0 24)))]⟩
def s40:aT:=⟨40,(bg 24 33 3 5 [(0,.dW 203 (.p 4 16))] [(4,.cells iq 35 true false)] 1 []),
 [(.ret,(bg 24 1 3 5 [(0,.i .i64 0)] [(4,.cells iq 35 true false)] 1 (mW 0 24)))]⟩
noncomputable def rows:List Row:=[
 .any (λgs out=>Le gs=some out),
 .told 3 [] [.sc],
 .fn 5 [] [.sc] [] [],
 .fn 16 [] [.sc] [] [(0,4)],
 .lp 16 [([],0)] s4 [] [],
 .fn 17 [] [.sc] [] [(0,6)],
 .lp 17 [([],0)] s6 [] [],
 .fn 38 [] [.sc] [] [(0,12)],
 .fn 56 [] [.sc] [] [(0,11)],
 .fn 94 [] [.sc] [] [(0,10)],
 .lp 94 [([],0)] s10 [] [],
 .lp 56 [([],0)] s11 [] [],
 .lp 38 [([],0)] s12 [] [],
 .fn 74 [] [.sc] [] [],
 .fn 18 [] [.sc] [] [(0,15)],
 .lp 18 [([],0)] s15 [] [],
 .fn 6 [] [.ag 24] [] [],
 .fn 19 [] [.sc] [] [],
 .fn 39 [] [.sc,.sc] [] [(0,19)],
 .lp 39 [([],0)] s19 [] [],
 .fn 7 [] [.ag 24,.sc] [] [],
 .fn 20 [] [.ag 24,.sc] [] [],
 .fn 29 [] [.sc,.sc] [] [],
 .fn 54 [] [.sc,.sc] [] [(0,77)],
 .fn 53 [] [.sc] [] [(0,36),(1,38),(2,39),(3,75)],
 .fn 47 [] [.sc] [] [],
 .fn 49 [] [.sc] [] [(0,28)],
 .fn 108 [] [.sc] [] [],
 .lp 49 [([],0)] s28 [] [],
 .fn 109 [] [.sc] [] [],
 .fn 110 [] [.sc] [] [],
 .fn 111 [] [.sc] [] [],
 .fn 112 [] [.sc] [] [],
 .fn 113 [] [.sc] [] [],
 .fn 114 [] [.sc] [] [],
 .fn 115 [] [.sc] [] [],
 .lp 53 [([],0)] s36 [] [],
 .told 84 [] [.sc],
 .lp 53 [([],1)] s38 [] [],
 .lp 53 [([],2)] s39 [] [],
 .fs 87 [] s40 [] [],
 .fs 87 [] s41 [] [],
 .fs 87 [] s42 [] [],
 .fn 122 [] [.sc] [] [],
 .fn 151 [] [.sc] [] [],
 .told 171 [] [.sc],
 .fs 87 [] s46 [] [],
 .fs 87 [] s47 [] [],
 .fs 87 [] s48 [] [],
 .fn 129 [] [.sc] [] [(0,50)],
 .lp 129 [([],0)] s50 [] [],
 .fn 157 [] [.sc] [] [],
 .fs 87 [] s52 [] [],
 .fn 130 [] [.sc] [] [(0,54)],
 .lp 130 [([],0)] s54 [] [],
 .fn 159 [] [.sc] [] [],
 .fs 87 [] s56 [] [],
 .fs 87 [] s57 [] [],
 .fs 87 [] s58 [] [],
 .fs 87 [] s59 [] [],
 .fs 87 [] s60 [] [],
 .fs 87 [] s61 [] [],
 .fs 87 [] s62 [] [],
 .fs 87 [] s63 [] [],
 .fs 87 [] s64 [] [],
 .fs 87 [] s65 [] [],
 .fs 87 [] s66 [] [],
 .fs 87 [] s67 [] [],
 .fs 87 [] s68 [] [],
 .fs 87 [] s69 [] [],
 .fs 87 [] s70 [] [],
 .fs 87 [] s71 [] [],
 .fn 89 [] [.sc] [] [],
 .fn 131 [] [.sc] [] [(0,74)],
 .lp 131 [([],0)] s74 [] [],
 .lp 53 [([],3)] s75 [] [(0,76)],
 .lp 53 [([],3),([],0)] s76 [] [],
 .lp 54 [([],0)] s77 [] [],
 .fn 90 [] [.ag 5,.sc] [] [],
 .fn 135 [] [.sc,.sc] [] [(0,80)],
 .lp 135 [([],0)] s80 [] [],
 .fn 162 [] [.sc] [] [],
 .fn 186 [] [.sc] [] [(0,83)],
 .lp 186 [([],0)] s83 [] [],
 .fn 91 [] [.sc,.sc] [] [(0,85),(1,86)],
 .lp 91 [([],0)] s85 [] [],
 .lp 91 [([],1)] s86 [] [],
 .told 81 [] [.sc],
 .fn 55 [] [.sc,.sc] [] [],
 .fn 92 [] [.sc] [] [(0,90)],
 .lp 92 [([],0)] s90 [] [],
 .fs 93 [] s91 [] [(0,92)],
 .lp 93 [([],0)] s92 [] [],
 .fn 28 [] [.ag 24,.sc] [] [(0,104),(1,110)],
 .fn 46 [] [.sc,.sc,.sc] [] [(0,95)],
 .lp 46 [([],0)] s95 [] [],
 .fn 48 [] [.sc,.sc] [] [],
 .fs 80 [] s97 [] [(0,98)],
 .lp 80 [([],0)] s98 [] [],
 .fs 117 [] s99 [] [],
 .fs 147 [] apR [] [],
 .fs 148 [] apS [] [],
 .fs 149 [] apT [] [],
 .fs 150 [] apU [] [],
 .lp 28 [([],0)] apV [] [],
 .fn 51 [] [.sc] [] [(0,106)],
 .lp 51 [([],0)] apW [] [],
 .fn 50 [] [.sc,.sc] [] [(0,108),(1,109)],
 .lp 50 [([],0)] apX [] [],
 .lp 50 [([],1)] apY [] [],
 .lp 28 [([],1)] apZ [] [],
 .fn 52 [] [.ag 24,.sc] [] [],
 .fn 82 [] [.ag 24] [] [(0,114)],
 .told 118 [] [.sc],
 .lp 82 [([],0)] ap0 [] [],
 .fs 83 [] ap1 [] [],
 .fn 120 [] [.sc] [] [],
 .fn 123 [] [.sc,.sc] [] [],
 .fs 152 [] ap2 [] [(0,119)],
 .lp 152 [([],0)] ap3 [] [],
 .fs 172 [] ap4 [] [],
 .fs 199 [] ap5 [] [],
 .fn 124 [] [.sc,.sc] [] [],
 .fs 153 [] ap6 [] [(0,124)],
 .lp 153 [([],0)] ap7 [] [],
 .fs 173 [] ap8 [] [],
 .fs 174 [] ap9 [] [],
 .fn 8 [] [.ag 24,.sc] [] [],
 .fn 10 [] [.ag 24] [] [],
 .fn 21 [] [.sc] [] [(0,130)],
 .lp 21 [([],0)] aqa [] [],
 .fn 22 [] [.sc] [] [(0,132)],
 .lp 22 [([],0)] aqb [] [],
 .fn 23 [] [.sc] [] [(0,134)],
 .lp 23 [([],0)] aqc [] [],
 .fn 9 [] [.ag 24,.sc] [] [],
 .fn 14 [] [.sc,.sc] [] [],
 .fn 35 [] [.sc] [] [(0,142),(1,178),(2,181)],
 .fn 33 [] [.sc] [] [(0,140)],
 .fn 58 [] [.sc] [] [],
 .lp 33 [([],0)] aqd [] [],
 .fn 24 [] [.sc] [] [],
 .lp 35 [([],0)] aqe [] [(0,143)],
 .lp 35 [([],0),([],0)] aqf [] [],
 .fn 64 [] [.sc] [] [],
 .fn 25 [] [.sc,.sc] [] [],
 .fn 40 [] [.sc] [] [(0,147)],
 .lp 40 [([],0)] aqg [] [(0,148)],
 .lp 40 [([],0),([],0)] aqh [] [],
 .fn 41 [] [.sc] [] [],
 .fn 43 [] [.sc] [] [],
 .fn 44 [] [.sc] [] [(0,154)],
 .fn 70 [] [.sc] [] [(0,153)],
 .lp 70 [([],0)] aqi [] [],
 .lp 44 [([],0)] aqj [] [],
 .fn 76 [] [.sc] [] [],
 .fn 45 [] [.sc,.sc] [] [],
 .fn 66 [] [.sc] [] [(0,158)],
 .lp 66 [([],0)] aqk [] [],
 .fn 102 [] [.sc] [] [],
 .fn 65 [] [.sc] [] [(0,161)],
 .lp 65 [([],0)] aql [] [],
 .fn 100 [] [.sc] [] [],
 .fn 61 [] [.sc] [] [],
 .fn 96 [] [.sc] [] [(0,165)],
 .lp 96 [([],0)] aqm [] [],
 .fn 140 [] [.sc] [] [(0,167)],
 .lp 140 [([],0)] aqn [] [],
 .fn 101 [] [.sc] [] [],
 .fn 143 [] [.sc] [] [],
 .fn 166 [] [.sc] [] [(0,171)],
 .lp 166 [([],0)] aqo [] [],
 .fn 103 [] [.sc] [] [],
 .fn 77 [] [.sc] [] [(0,174)],
 .lp 77 [([],0)] aqp [] [],
 .fn 107 [] [.sc] [] [],
 .fn 146 [] [.sc] [] [(0,177)],
 .lp 146 [([],0)] aqr [] [],
 .lp 35 [([],1)] aqs [] [],
 .fn 68 [] [.sc] [] [(0,180)],
 .lp 68 [([],0)] aqt [] [],
 .lp 35 [([],2)] aqu [] [(0,182)],
 .lp 35 [([],2),([],0)] aqv [] [],
 .fn 36 [] [.sc] [] [],
 .fn 69 [] [.sc,.sc] [] [(0,185)],
 .lp 69 [([],0)] aqw [] [],
 .fn 104 [] [.sc,.sc] [] [(0,187),(1,188)],
 .lp 104 [([],0)] aqx [] [],
 .lp 104 [([],1)] aqy [] [(0,189)],
 .lp 104 [([],1),([],0)] aqz [] [(0,190)],
 .lp 104 [([],1),([],0),([],0)] aqA [] [],
 .fn 71 [] [.sc] [] [(0,192)],
 .lp 71 [([],0)] aqB [] [],
 .fn 13 [] [.ag 24,.sc] [] [(0,201)],
 .fn 30 [] [.sc,.sc,.sc] [] [(0,195),(1,196)],
 .lp 30 [([],0)] aqC [] [],
 .lp 30 [([],1)] aqD [] [],
 .fn 32 [] [.sc,.sc] [] [],
 .fn 57 [] [.sc,.sc] [] [(0,199)],
 .lp 57 [([],0)] aqE [] [],
 .fn 95 [] [.ag 5,.sc,.sc] [] [],
 .lp 13 [([],0)] aqF [] [(0,202)],
 .lp 13 [([],0),([],0)] aqG [] [],
 .any (λgs out=>True),
 .fn 62 [] [.sc,.sc] [] [],
 .fn 97 [] [.sc,.sc,.sc] [] [(0,206)],
 .lp 97 [([],0)] aqH [] [],
 .fn 141 [] [.ag 2,.sc,.sc] [] [],
 .fn 165 [] [.sc,.sc,.sc] [] [],
 .fn 63 [] [.sc,.sc] [] [],
 .fn 98 [] [.sc,.sc,.sc] [] [(0,211)],
 .lp 98 [([],0)] aqI [] [],
 .fn 142 [] [.sc,.sc,.sc] [] [],
 .any (λgs out=>True),
 .fs 34 [] aqJ [] [],
 .fn 11 [] [.sc] [] [(0,216),(1,222)],
 .lp 11 [([],0)] aqK [] [],
 .fn 26 [] [.sc] [] [(0,218)],
 .lp 26 [([],0)] aqL [] [(0,219)],
 .lp 26 [([],0),([],0)] aqM [] [],
 .fn 27 [] [.sc] [] [(0,221)],
 .lp 27 [([],0)] aqN [] [],
 .lp 11 [([],1)] aqO [] [],
 .fn 12 [] [.sc,.sc] [] []]
noncomputable abbrev C:=uO Tryz.prog dQ rows
noncomputable def agq:Code:=Tryz.f3.body.getD .skip
noncomputable def pl0:jX:=PL.cons 136 (λN=>@V3 N 0 137) (PL.cons 4 (λ_=>ED) (PL.cons 145 (λ_=>KP) (PL.nil)))
noncomputable def es:List (FuncId×List Nat):=[(87,[71,70,69,68,67,66,65,64,63,62,61,60,59,58,57,56,52,48,47,46,42,41,40]),(93,[91]),(80,[97]),(117,[99]),(147,[100]),(148,[101]),(149,[102]),(150,[103]),(83,[115]),(152,[118]),(172,[120]),(199,[121]),(153,[123]),(173,[125]),(174,[126]),(34,[214]),(62,[204]),(61,[163]),(58,[139]),(159,[55]),(6,[16]),(92,[89]),(122,[43]),(28,[93]),(63,[209]),(140,[166]),(157,[51]),(11,[215]),(143,[169]),(118,[113]),(55,[88]),(115,[35]),(94,[9]),(186,[82]),(171,[45]),(98,[210]),(70,[152]),(109,[29]),(146,[176]),(35,[137]),(18,[14]),(57,[198]),(49,[26]),(104,[186]),(90,[78]),(101,[168]),(16,[3]),(13,[193]),(52,[111]),(102,[159]),(5,[2]),(19,[17]),(66,[157]),(129,[49]),(103,[172]),(77,[173]),(45,[156]),(40,[146]),(53,[24]),(8,[127]),(112,[32]),(81,[87]),(20,[21]),(50,[107]),(56,[8]),(9,[135]),(131,[73]),(97,[205]),(69,[184]),(107,[175]),(3,[1]),(166,[170]),(162,[81]),(96,[164]),(12,[223]),(82,[112]),(44,[151]),(39,[18]),(89,[72]),(120,[116]),(123,[117]),(110,[30]),(27,[220]),(41,[149]),(25,[145]),(130,[53]),(48,[96]),(24,[141]),(71,[191]),(74,[13]),(76,[155]),(10,[128]),(32,[197]),(141,[207]),(91,[84]),(65,[160]),(113,[33]),(84,[37]),(47,[25]),(29,[22]),(43,[150]),(151,[44]),(135,[79]),(22,[131]),(23,[133]),(21,[129]),(51,[105]),(36,[183]),(68,[179]),(46,[94]),(100,[162]),(124,[122]),(114,[34]),(142,[212]),(111,[31]),(95,[200]),(54,[23]),(64,[144]),(17,[5]),(33,[138]),(165,[208]),(14,[136]),(7,[20]),(30,[194]),(38,[7]),(26,[217]),(108,[27])]
noncomputable def pl:jX:=ac5 Tryz.prog rows es pl0
noncomputable def w1 (q:List Bool):Bool:=(aC.treeOf d1).chkP (Vj Tryz.prog dQ pl [] 100000 [] [.ag 24,.sc,.sc,.sc] [.sc] Tryz.f3.ntmps Tryz.f3.results.toList (kW [] agq)) q (List.replicate 4 .arg) []
end V
end Go.Proofs.YtaggjpipnjmleaaGreatDoor
