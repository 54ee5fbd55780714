/- The shapes, and all definitions as rows. -/
import Derived.Test.YtjglbndncdkhhaaGreatDoorKRBase
import Derived.Test.YtjglbndncdkhhaaGreatDoorKUT
import Derived.Test.YtjglbndncdkhhaaGreatDoorAbsTab
import Derived.Test.YtjglbndncdkhhaaGreatDoorAbsPl
import Derived.Test.YtjglbndncdkhhaaGreatDoorAbsTold
import Derived.Test.YtjglbndncdkhhaaGreatDoorAbsTold2
import Derived.Test.YtjglbndncdkhhaaGreatDoorAbsTold3
import Derived.Test.YtjglbndncdkhhaaGreatDoorAbsFields
import Derived.Test.YtjglbndncdkhhaaGreatDoorAbsSortF
namespace Go.Proofs.YtjglbndncdkhhaaGreatDoor
open Go Go.aN
set_option maxRecDepth 100000
set_option linter.unusedVariables false
set_option linter.unusedSimpArgs false
namespace U
def jZ:Nat->Nat->List AV
 | _,0=>[]
 | a,n+1=>.nd a::jZ (a+1) n
def oq:Nat->Nat->List (Option Nat)
 | _,0=>[]
 | a,n+1=>some a::oq (a+1) n
theorem low:qY fQ Tryz.prog.globals.size:=by
 rw [VI];refine ⟨λp hp=>?_,λp hp=>?_⟩
 all_goals
  simp only [fQ,bU,Fe,or_false] at hp;rcases hp with rfl | rfl
  all_goals first | decide | rfl
def bg (np n gn next:Nat) (slots:List (Nat×AV)) (objs:List (Nat×aY)) (ka:Nat) (al:List (Option Nat)):fM:={ np:=np,n:=n,gn:=gn,next:=next,slots:=slots,objs:=objs,ka:=ka,al:=al }
def bI (np n gn next:Nat) (slots:List (Nat×AV)) (objs:List (Nat×aY)):fM:=bg np n gn next slots objs 0 []
def gK:List AV:=(jZ 0 24)
def yX:List AV:=[.i .i64 0,.i .u64 0,.i .u64 0,.i .u64 0,.i .u64 0,.i .u64 0,.i .u64 0,.i .u64 0,.i .u64 0,.i .u64 0,.i .u64 0,.i .u64 0,.i .u64 0,.i .u64 0,.i .u64 0,.i .u64 0,.i .i64 0,.b false,.s [],.s [],.s [],.dL,.dL,.dL]
def xH:List AV:=(jZ 1 24)
def LW:List AV:=(jZ 4 24)
def zq4:List AV:=(jZ 6 24)
def zq5:List AV:=(jZ 5 24)
def zq6:List AV:=(jZ 2 24)
def Yi:List AV:=[.nd 0,.nd 1,.nd 5,.nd 6,.dL]
def an7:aX:=⟨130,(bI 4 19 3 4 [(0,.nd 0),(1,.nd 1),(7,.nd 2),(8,.nd 3)] []),
 [(.ret,(bI 1 19 3 4 [(4,.nd 0)] [])),
  (.exit 0,(bI 0 19 3 4 [] []))]⟩
def s85:aX:=⟨85,(bI 2 46 3 5 [(4,.sv 4 0),(8,.nd 1)] [(4,.vec 0 55 true)]),
 [(.ret,(bI 0 46 3 4 [(2,.dL),(3,.i .i64 14)] [])),
  (.exit 2,(bg 1 46 3 5 [(4,.sv 4 0)] [(4,.vec 0 55 true)] 0 [some 0]))]⟩
def s73:aX:=⟨73,(bI 5 46 3 4 [(1,.nd 0),(5,.nd 1),(9,.nd 2),(10,.nd 3),(11,.nd 4)] []),
 [(.ret,(bI 1 46 3 4 [(4,.nd 0)] [])),
  (.exit 0,(bI 0 46 3 4 [] []))]⟩
def anS:aX:=⟨106,(bI 4 23 3 5 [(5,.sv 4 0),(10,.nd 1),(11,.nd 2),(12,.nd 3)] [(4,.vec 0 22 true)]),
 [(.exit 0,(bI 1 23 3 5 [(5,.sv 4 0)] [(4,.vec 0 22 true)]))]⟩
def s47:aX:=⟨47,(bI 27 116 3 5 [(2,.p 4 0),(6,.nd 0),(71,.nd 0),(72,.nd 1),(73,.nd 2)] [(4,.cells (jZ 3 24) 38 true false)]),
 [(.ret,(bI 1 116 3 4 [(4,.nd 0)] [])),
  (.exit 4,(bg 25 116 3 5 [(2,.p 4 0),(6,.nd 0)] [(4,.cells xH 38 true false)] 0 [some 0,some 3,some 4,some 5,some 6,some 7,some 8,some 9,some 10,some 11,some 12,some 13,some 14,some 15,some 16,some 17,some 18,some 19,some 20,some 21,some 22,some 23,some 24,some 25,some 26]))]⟩
def anZ:aX:=⟨119,(bg 5 60 3 6 [(0,.p 4 0),(7,.sv 5 0),(28,.nd 1),(29,.nd 2)] [(4,.cells [.nd 3,.nd 4] 165 true false),(5,.vec 0 109 false)] 1 []),
 [(.ret,(bg 3 60 3 5 [(2,.dL),(3,.nd 0)] [(4,.cells [.nd 1,.nd 2] 165 true false)] 1 [])),
  (.exit 0,(bg 3 60 3 6 [(7,.sv 5 0)] [(4,.cells [.nd 1,.nd 2] 165 true false),(5,.vec 0 109 false)] 1 []))]⟩
def s84:aX:=⟨84,(bI 4 46 3 5 [(4,.sv 4 0),(9,.nd 1),(10,.nd 2),(11,.nd 3)] [(4,.vec 0 55 true)]),
 [(.ret,(bI 1 46 3 4 [(2,.dL),(3,.nd 0)] [])),
  (.exit 0,(bI 1 46 3 5 [(4,.sv 4 0)] [(4,.vec 0 55 true)]))]⟩
def s12:aX:=⟨12,(bI 4 33 3 5 [(0,.nd 0),(3,.sv 4 1),(9,.nd 2),(10,.nd 3)] [(4,.vec 1 5 false)]),
 [(.exit 0,(bI 1 33 3 5 [(3,.sv 4 0)] [(4,.vec 0 5 false)]))]⟩
def s76:aX:=⟨76,(bI 28 61 3 6 [(2,.p 4 0),(7,.sv 5 0),(21,.nd 1),(22,.nd 2),(23,.nd 3)] [(5,.vec 0 55 true),(4,.cells LW 38 true false)]),
 [(.exit 0,(bg 25 61 3 5 [(2,.p 4 0),(7,.nd 0)] [(4,.cells xH 38 true false)] 0 [none,some 4,some 5,some 6,some 7,some 8,some 9,some 10,some 11,some 12,some 13,some 14,some 15,some 16,some 17,some 18,some 19,some 20,some 21,some 22,some 23,some 24,some 25,some 26,some 27]))]⟩
def anV:aX:=⟨110,(bI 30 123 3 7 [(1,.nd 0),(4,.p 4 0),(12,.mp 5),(15,.p 6 0),(17,.nd 1),(92,.nd 2),(93,.nd 3),(94,.nd 4)] [(6,.cells zq5 38 true false),(5,.smap 29 (some .u64) none),(4,.cells yX 38 true false)]),
 [(.ret,(bI 1 123 3 5 [(4,.p 4 0),(5,.nd 0)] [(4,.cells yX 38 true false)])),
  (.exit 2,(bg 26 123 3 6 [(1,.nd 0),(4,.p 4 0),(15,.p 5 0),(17,.nd 1)] [(5,.cells zq6 38 true false),(4,.cells yX 38 true false)] 0 [some 0,some 1,none,none,none,none,none,none,none,none,none,none,none,none,none,none,none,none,none,none,none,none,none,none,none,none]))]⟩
def s46:aX:=⟨46,(bI 29 116 3 6 [(2,.p 4 0),(6,.nd 0),(7,.mp 5),(54,.nd 1),(55,.nd 2),(56,.nd 3)] [(5,.smap 4 none none),(4,.cells zq5 38 true false)]),
 [(.ret,(bI 0 116 3 4 [(4,.i .i64 26)] [])),
  (.exit 2,(bg 25 116 3 5 [(2,.p 4 0),(6,.nd 0)] [(4,.cells xH 38 true false)] 0 [some 0,some 5,some 6,some 7,some 8,some 9,some 10,some 11,some 12,some 13,some 14,some 15,some 16,some 17,some 18,some 19,some 20,some 21,some 22,some 23,some 24,some 25,some 26,some 27,some 28]))]⟩
def anW:aX:=⟨114,(bI 27 38 3 7 [(1,.p 4 0),(2,.p 5 0),(3,.sv 6 0),(15,.nd 1),(16,.nd 2),(17,.nd 3)] [(6,.vec 0 63 false),(5,.cells yX 38 true false),(4,.cells [.nd 4,.nd 5,.nd 6,.nd 7,.nd 8,.nd 9,.nd 10,.nd 11,.nd 12,.nd 13,.nd 14,.nd 15,.nd 16,.nd 17,.nd 18,.nd 19,.nd 20,.nd 21,.nd 22,.nd 23,.nd 24,.nd 25,.nd 1,.nd 26] 38 true false)]),
 [(.exit 0,(bg 25 38 3 7 [(1,.p 4 0),(2,.p 5 0),(3,.sv 6 0)] [(6,.vec 0 63 false),(5,.cells yX 38 true false),(4,.cells xH 38 true false)] 0 [none,some 4,some 5,some 6,some 7,some 8,some 9,some 10,some 11,some 12,some 13,some 14,some 15,some 16,some 17,some 18,some 19,some 20,some 21,some 22,some 23,some 24,some 25,some 1,some 26]))]⟩
def aob:aX:=⟨136,(bI 54 50 3 9 [(2,.p 4 0),(3,.p 5 0),(5,.mp 6),(6,.mp 7),(7,.sv 8 0),(14,.nd 1),(15,.nd 2),(16,.nd 3)] [(8,.vec 0 9 true),(7,.smap 4 none (some 3)),(6,.smap 5 none (some 3)),(5,.cells zq4 38 true false),(4,.cells (jZ 30 24) 38 true false)]),
 [(.exit 0,(bg 49 50 3 7 [(2,.p 4 0),(3,.p 5 0),(7,.sv 6 0)] [(6,.vec 0 9 true),(5,.cells xH 38 true false),(4,.cells (jZ 25 24) 38 true false)] 0 [none,some 6,some 7,some 8,some 9,some 10,some 11,some 12,some 13,some 14,some 15,some 16,some 17,some 18,some 19,some 20,some 21,some 22,some 23,some 24,some 25,some 26,some 27,some 28,some 29,some 30,some 31,some 32,some 33,some 34,some 35,some 36,some 37,some 38,some 39,some 40,some 41,some 42,some 43,some 44,some 45,some 46,some 47,some 48,some 49,some 50,some 51,some 52,some 53]))]⟩
def s11:aX:=⟨11,(bI 2 11 3 4 [(0,.nd 0),(3,.nd 1)] []),
 [(.exit 0,(bI 1 11 3 4 [(3,.nd 0)] []))]⟩
def s91:aX:=⟨91,(bI 4 69 3 5 [(0,.sv 4 0),(1,.nd 1),(8,.nd 2),(9,.nd 3)] [(4,.vec 0 5 false)]),
 [(.exit 0,(bI 1 69 3 5 [(0,.sv 4 0)] [(4,.vec 0 5 false)]))]⟩
def aoa:aX:=⟨134,(bI 28 62 3 7 [(6,.p 4 0),(8,.p 5 0),(9,.mp 6),(20,.nd 0),(21,.nd 1),(22,.nd 2)] [(6,.smap 3 none (some 3)),(5,.cells LW 38 true false),(4,.cells yX 38 true false)]),
 [(.ret,(bI 1 62 3 5 [(6,.p 4 0),(7,.nd 0)] [(4,.cells yX 38 true false)])),
  (.exit 0,(bI 24 62 3 6 [(6,.p 4 0),(8,.p 5 0)] [(5,.cells gK 38 true false),(4,.cells yX 38 true false)]))]⟩
def s82:aX:=⟨82,(bI 3 28 3 4 [(0,.nd 0),(1,.nd 1),(5,.nd 2)] []),
 [(.exit 0,(bI 1 28 3 4 [(5,.nd 0)] []))]⟩
def aod:aX:=⟨139,(bI 5 80 3 6 [(5,.sv 4 0),(6,.p 5 0),(37,.nd 1),(38,.nd 2)] [(5,.cells [.nd 3,.nd 4] 147 true false),(4,.vec 0 147 false)]),
 [(.ret,(bI 0 80 3 4 [(4,.b false)] [])),
  (.exit 2,(bI 1 80 3 5 [(5,.sv 4 0)] [(4,.vec 0 147 false)]))]⟩
def s95:aX:=⟨95,(bI 4 50 3 4 [(0,.nd 0),(5,.nd 1),(9,.nd 2),(10,.nd 3)] []),
 [(.ret,(bI 3 50 3 4 [(2,.nd 0),(3,.nd 1),(4,.nd 2)] [])),
  (.exit 0,(bI 1 50 3 4 [(0,.nd 0)] []))]⟩
def aoc:aX:=⟨138,(bI 1 80 3 5 [(5,.sv 4 0)] [(4,.vec 0 147 false)]),
 [(.ret,(bI 0 80 3 4 [(4,.b false)] [])),
  (.exit 0,(bI 0 80 3 4 [] []))]⟩
def s98:aX:=⟨98,(bg 5 26 3 7 [(0,.p 4 0),(4,.sv 6 0)] [(4,.cells [.p 5 0,.nd 1,.nd 2] 132 true false),(5,.cells [.nd 3,.nd 4] 165 true false),(6,.vec 0 55 true)] 2 []),
 [(.ret,(bg 5 26 3 6 [(2,.dL),(3,.nd 0)] [(4,.cells [.p 5 0,.nd 1,.nd 2] 132 true false),(5,.cells [.nd 3,.nd 4] 165 true false)] 2 [none,some 1,none,none,none])),
  (.exit 0,(bg 5 26 3 7 [(4,.sv 6 0)] [(4,.cells [.p 5 0,.nd 1,.nd 2] 132 true false),(5,.cells [.nd 3,.nd 4] 165 true false),(6,.vec 0 55 true)] 2 [none,some 1,none,none,none]))]⟩
def s16:aX:=⟨16,(bI 3 19 3 4 [(0,.nd 0),(5,.nd 0),(6,.nd 1),(7,.nd 2)] []),
 [(.ret,(bI 0 19 3 4 [(2,.b false)] [])),
  (.exit 0,(bg 1 19 3 4 [(0,.nd 0)] [] 0 [some 0]))]⟩
def an6:aX:=⟨127,(bI 82 188 3 9 [(3,.nd 0),(5,.p 4 0),(9,.nd 1),(10,.p 5 0),(11,.nd 2),(13,.nd 3),(14,.p 6 0),(18,.p 7 0),(95,.nd 4),(96,.b false),(99,.nd 5),(100,.nd 2),(101,.b false),(106,.nd 6),(107,.nd 7),(108,.nd 8)] [(7,.cells [.sv 8 9] 32 true false),(8,.vec 9 9 true),(6,.cells (jZ 10 24) 38 true false),(5,.cells (jZ 34 24) 38 true false),(4,.cells (jZ 58 24) 31 true false)]),
 [(.exit 2,(bg 79 188 3 8 [(3,.nd 0),(5,.p 4 0),(9,.nd 1),(10,.p 5 0),(11,.nd 2),(13,.nd 3),(14,.p 6 0),(18,.p 7 0),(95,.nd 4),(96,.b false),(99,.nd 5),(100,.nd 2),(101,.b false)] [(7,.cells [.nd 6] 32 true false),(6,.cells (jZ 7 24) 38 true false),(5,.cells (jZ 31 24) 38 true false),(4,.cells (jZ 55 24) 31 true false)] 0 [some 0,some 1,some 2,some 3,some 4,some 5,none,some 10,some 11,some 12,some 13,some 14,some 15,some 16,some 17,some 18,some 19,some 20,some 21,some 22,some 23,some 24,some 25,some 26,some 27,some 28,some 29,some 30,some 31,some 32,some 33,some 34,some 35,some 36,some 37,some 38,some 39,some 40,some 41,some 42,some 43,some 44,some 45,some 46,some 47,some 48,some 49,some 50,some 51,some 52,some 53,some 54,some 55,some 56,some 57,some 58,some 59,some 60,some 61,some 62,some 63,some 64,some 65,some 66,some 67,some 68,some 69,some 70,some 71,some 72,some 73,some 74,some 75,some 76,some 77,some 78,some 79,some 80,some 81]))]⟩
def s44:aX:=⟨44,(bI 28 116 3 6 [(2,.p 4 0),(6,.nd 0),(7,.mp 5),(44,.nd 0),(45,.nd 1),(46,.nd 2)] [(5,.smap 3 none none),(4,.cells LW 38 true false)]),
 [(.exit 0,(bg 26 116 3 6 [(2,.p 4 0),(6,.nd 0),(7,.mp 5)] [(5,.smap 1 none none),(4,.cells zq6 38 true false)] 0 [some 0,none,some 4,some 5,some 6,some 7,some 8,some 9,some 10,some 11,some 12,some 13,some 14,some 15,some 16,some 17,some 18,some 19,some 20,some 21,some 22,some 23,some 24,some 25,some 26,some 27]))]⟩
def s79:aX:=⟨79,(bI 5 42 3 6 [(5,.p 4 0),(6,.nd 0),(22,.nd 1),(23,.nd 2),(24,.nd 3)] [(4,.cells [.p 4 0,.sv 5 4] 116 true false),(5,.vec 4 5 true)]),
 [(.exit 0,(bI 1 42 3 6 [(5,.p 4 0)] [(4,.cells [.p 4 0,.sv 5 0] 116 true false),(5,.vec 0 5 true)]))]⟩
def an9:aX:=⟨133,(bI 28 33 3 6 [(1,.p 4 0),(3,.mp 5),(9,.nd 0),(10,.nd 1),(11,.nd 2)] [(5,.smap 3 none (some 3)),(4,.cells LW 38 true false)]),
 [(.exit 0,(bI 1 33 3 5 [(3,.mp 4)] [(4,.smap 0 none (some 3))]))]⟩
def s36:aX:=⟨36,(bI 5 46 3 5 [(1,.nd 0),(7,.sv 4 1),(30,.nd 2),(31,.nd 3),(32,.nd 4)] [(4,.vec 1 48 true)]),
 [(.exit 0,(bI 1 46 3 5 [(7,.sv 4 0)] [(4,.vec 0 48 true)]))]⟩
def s89:aX:=⟨89,(bI 4 66 3 4 [(0,.nd 0),(3,.nd 1),(8,.nd 2),(9,.nd 3)] []),
 [(.exit 0,(bI 1 66 3 4 [(3,.nd 0)] []))]⟩
def s92:aX:=⟨92,(bI 52 188 3 6 [(3,.nd 0),(5,.p 4 0),(9,.nd 1),(10,.p 5 0),(11,.nd 2),(13,.nd 3)] [(5,.cells LW 38 true false),(4,.cells (jZ 28 24) 31 true false)]),
 [(.ret,(bI 0 188 3 4 [(8,.b false)] [])),
  (.exit 0,(bI 0 188 3 4 [] []))]⟩
def anU:aX:=⟨109,(bI 6 53 3 7 [(0,.nd 0),(4,.sv 4 1),(5,.sv 5 2),(6,.mp 6),(23,.nd 3),(24,.nd 4)] [(6,.smap 5 (some .u64) none),(5,.vec 2 55 true),(4,.vec 1 55 true)]),
 [(.exit 2,(bI 2 53 3 6 [(4,.sv 4 0),(5,.sv 5 1)] [(5,.vec 1 55 true),(4,.vec 0 55 true)]))]⟩
def anT:aX:=⟨108,(bI 5 53 3 5 [(0,.nd 0),(4,.dL),(5,.dL),(6,.mp 4),(13,.nd 1),(14,.nd 2),(15,.nd 3)] [(4,.smap 4 (some .u64) none)]),
 [(.exit 0,(bg 2 53 3 5 [(0,.nd 0),(4,.dL),(5,.dL),(6,.mp 4)] [(4,.smap 1 (some .u64) none)] 0 [some 0,none]))]⟩
def s7:aX:=⟨7,(bI 3 37 3 4 [(0,.nd 0),(5,.nd 0),(6,.nd 1),(7,.nd 2)] []),
 [(.ret,(bI 0 37 3 4 [(2,.b false)] [])),
  (.exit 0,(bg 1 37 3 4 [(0,.nd 0)] [] 0 [some 0]))]⟩
def anR:aX:=⟨104,(bI 7 123 3 6 [(1,.nd 0),(4,.p 4 0),(9,.nd 1),(11,.nd 2),(12,.mp 5),(70,.nd 3),(71,.nd 4),(72,.nd 5)] [(5,.smap 6 (some .u64) none),(4,.cells yX 38 true false)]),
 [(.exit 0,(bg 4 123 3 6 [(1,.nd 0),(4,.p 4 0),(9,.nd 1),(11,.nd 2),(12,.mp 5)] [(5,.smap 3 (some .u64) none),(4,.cells yX 38 true false)] 0 [some 0,some 1,some 2,none]))]⟩
def s29:aX:=⟨29,(bI 3 54 3 5 [(0,.nd 0),(1,.nd 1),(6,.sv 4 2)] [(4,.vec 2 55 true)]),
 [(.exit 0,(bI 2 54 3 5 [(0,.nd 0),(6,.sv 4 1)] [(4,.vec 1 55 true)]))]⟩
def an3:aX:=⟨124,(bg 6 56 3 6 [(0,.p 4 0),(6,.sv 5 0),(7,.nd 1),(25,.nd 2),(26,.nd 3)] [(4,.cells [.nd 4,.nd 5] 165 true false),(5,.vec 0 63 false)] 1 []),
 [(.ret,(bg 3 56 3 5 [(2,.dL),(3,.nd 0)] [(4,.cells [.nd 1,.nd 2] 165 true false)] 1 [])),
  (.exit 0,(bg 3 56 3 6 [(6,.sv 5 0)] [(4,.cells [.nd 1,.nd 2] 165 true false),(5,.vec 0 63 false)] 1 []))]⟩
def s5:aX:=⟨5,(bI 3 23 3 4 [(0,.nd 0),(5,.nd 0),(6,.nd 1),(7,.nd 2)] []),
 [(.ret,(bI 0 23 3 4 [(2,.b false)] [])),
  (.exit 0,(bg 1 23 3 4 [(0,.nd 0)] [] 0 [some 0]))]⟩
def s74:aX:=⟨74,(bI 4 116 3 4 [(6,.nd 0),(97,.nd 1),(98,.nd 2),(99,.nd 3)] []),
 [(.ret,(bI 0 116 3 4 [(4,.i .i64 14)] [])),
  (.exit 6,(bI 0 116 3 4 [] []))]⟩
def aoi:aX:=⟨144,(bI 83 188 3 8 [(3,.nd 0),(5,.p 4 0),(9,.nd 1),(10,.p 5 0),(11,.nd 2),(13,.nd 3),(23,.p 6 0),(95,.nd 4),(96,.b false),(99,.nd 5),(100,.nd 2),(101,.b false),(152,.nd 6),(153,.fn 16 [] [.p 7 0]),(154,.nd 7),(156,.nd 8),(157,.nd 9),(158,.nd 10)] [(7,.cells [.nd 8] 32 true false),(6,.cells (jZ 11 24) 38 true false),(5,.cells (jZ 35 24) 38 true false),(4,.cells (jZ 59 24) 31 true false)]),
 [(.ret,(bI 0 188 3 4 [(8,.b false)] [])),
  (.exit 4,(bg 57 188 3 7 [(3,.nd 0),(5,.p 4 0),(9,.nd 1),(10,.p 5 0),(11,.nd 2),(13,.nd 3),(95,.nd 4),(96,.b false),(99,.nd 5),(100,.nd 2),(101,.b false),(152,.nd 6),(153,.fn 16 [] [.p 6 0]),(154,.nd 7)] [(6,.cells [.nd 8] 32 true false),(5,.cells (jZ 9 24) 38 true false),(4,.cells (jZ 33 24) 31 true false)] 0 [some 0,some 1,some 2,some 3,some 4,some 5,some 6,some 7,some 8,some 35,some 36,some 37,some 38,some 39,some 40,some 41,some 42,some 43,some 44,some 45,some 46,some 47,some 48,some 49,some 50,some 51,some 52,some 53,some 54,some 55,some 56,some 57,some 58,some 59,some 60,some 61,some 62,some 63,some 64,some 65,some 66,some 67,some 68,some 69,some 70,some 71,some 72,some 73,some 74,some 75,some 76,some 77,some 78,some 79,some 80,some 81,some 82]))]⟩
def s75:aX:=⟨75,(bI 11 116 3 5 [(6,.nd 0),(18,.p 4 0),(97,.nd 1),(98,.nd 2),(99,.nd 3),(103,.nd 0),(104,.nd 4),(105,.nd 5)] [(4,.cells (jZ 6 5) 55 true false)]),
 [(.ret,(bI 0 116 3 4 [(4,.i .i64 14)] [])),
  (.exit 8,(bg 4 116 3 4 [(6,.nd 0),(97,.nd 1),(98,.nd 2),(99,.nd 3)] [] 0 (oq 0 4)))]⟩
def aog:aX:=⟨142,(bg 4 19 3 5 [(0,.nd 0),(1,.fn 16 [] [.p 4 0]),(7,.nd 1),(8,.nd 2)] [(4,.cells [.nd 3] 32 true false)] 1 []),
 [(.ret,(bg 2 19 3 5 [(4,.nd 0)] [(4,.cells [.nd 1] 32 true false)] 1 [none,some 3])),
  (.exit 0,(bg 1 19 3 5 [] [(4,.cells [.nd 0] 32 true false)] 1 [some 3]))]⟩
def s21:aX:=⟨21,(bI 3 42 3 4 [(0,.nd 0),(15,.nd 0),(16,.nd 1),(17,.nd 2)] []),
 [(.ret,(bI 1 42 3 4 [(2,.nd 0)] [])),
  (.exit 0,(bI 0 42 3 4 [] []))]⟩
def s18:aX:=⟨18,(bI 4 42 3 4 [(3,.nd 0),(11,.nd 1),(12,.nd 2),(13,.nd 3)] []),
 [(.ret,(bI 1 42 3 4 [(2,.nd 0)] [])),
  (.exit 0,(bI 0 42 3 4 [] []))]⟩
def s13:aX:=⟨13,(bI 4 22 3 6 [(3,.p 4 0),(11,.nd 0),(12,.nd 1),(13,.nd 2)] [(4,.cells [.p 4 0,.sv 5 3] 116 true false),(5,.vec 3 5 true)]),
 [(.exit 0,(bI 1 22 3 6 [(3,.p 4 0)] [(4,.cells [.p 4 0,.sv 5 0] 116 true false),(5,.vec 0 5 true)]))]⟩
def aoh:aX:=⟨143,(bg 2 8 3 5 [(0,.nd 0),(1,.p 4 0)] [(4,.cells [.nd 1] 32 true false)] 1 []),
 [(.ret,(bg 2 1 3 5 [(0,.nd 0)] [(4,.cells [.nd 1] 32 true false)] 1 [none,some 1]))]⟩
def aof:aX:=⟨141,(bg 2 19 3 5 [(0,.nd 0),(1,.fn 16 [] [.p 4 0])] [(4,.cells [.nd 1] 32 true false)] 1 []),
 [(.ret,(bg 2 1 3 5 [(0,.nd 0)] [(4,.cells [.nd 1] 32 true false)] 1 [none,some 1]))]⟩
def aoe:aX:=⟨140,(bg 2 9 3 5 [(0,.nd 0),(1,.fn 16 [] [.p 4 0])] [(4,.cells [.nd 1] 32 true false)] 1 []),
 [(.ret,(bg 2 1 3 5 [(0,.nd 0)] [(4,.cells [.nd 1] 32 true false)] 1 [none,some 1]))]⟩
def an8:aX:=⟨132,(bI 24 33 3 4 [(0,.agg gK)] []),
 [(.ret,(bI 1 1 3 5 [(0,.mp 4)] [(4,.smap 0 none (some 3))]))]⟩
def an5:aX:=⟨126,(bg 3 33 3 5 [(0,.p 4 0),(1,.nd 0)] [(4,.cells [.nd 1,.nd 2] 165 true false)] 1 []),
 [(.ret,(bg 5 2 3 5 [(0,.agg [.nd 0,.nd 1]),(1,.nd 2)] [(4,.cells [.nd 3,.nd 4] 165 true false)] 1 []))]⟩
def an4:aX:=⟨125,(bg 4 63 3 5 [(0,.p 4 0),(1,.nd 2),(2,.nd 3)] [(4,.cells [.nd 0,.nd 1] 165 true false)] 1 []),
 [(.ret,(bg 4 2 3 5 [(0,.nd 0),(1,.nd 1)] [(4,.cells [.nd 2,.nd 3] 165 true false)] 1 []))]⟩
def an2:aX:=⟨123,(bg 2 56 3 5 [(0,.p 4 0)] [(4,.cells [.nd 0,.nd 1] 165 true false)] 1 []),
 [(.ret,(bg 4 2 3 5 [(0,.nd 0),(1,.nd 1)] [(4,.cells [.nd 2,.nd 3] 165 true false)] 1 []))]⟩
def an1:aX:=⟨121,(bg 2 25 3 5 [(0,.p 4 0)] [(4,.cells [.nd 0,.nd 1] 165 true false)] 1 []),
 [(.ret,(bg 4 2 3 5 [(0,.nd 0),(1,.nd 1)] [(4,.cells [.nd 2,.nd 3] 165 true false)] 1 []))]⟩
def an0:aX:=⟨120,(bg 2 37 3 5 [(0,.p 4 0)] [(4,.cells [.nd 0,.nd 1] 165 true false)] 1 []),
 [(.ret,(bg 5 2 3 5 [(0,.agg [.nd 0,.nd 1]),(1,.nd 2)] [(4,.cells [.nd 3,.nd 4] 165 true false)] 1 []))]⟩
def anY:aX:=⟨118,(bg 2 60 3 5 [(0,.p 4 0)] [(4,.cells [.nd 0,.nd 1] 165 true false)] 1 []),
 [(.ret,(bg 4 2 3 5 [(0,.nd 0),(1,.nd 1)] [(4,.cells [.nd 2,.nd 3] 165 true false)] 1 []))]⟩
def anX:aX:=⟨115,(bg 30 117 3 5 [(0,.p 4 0),(1,.nd 0),(2,.agg (jZ 1 5))] [(4,.cells zq4 38 true false)] 1 []),
 [(.ret,(bg 25 1 3 5 [(0,.nd 0)] [(4,.cells xH 38 true false)] 1 [none,some 6,none,none,none,none,none,none,none,none,none,none,none,none,none,none,none,none,none,none,none,none,none,none,some 29]))]⟩
def anQ:aX:=⟨103,(bg 7 52 3 7 [(0,.p 5 0),(1,.p 4 0)] [(4,.cells Yi 55 true false),(5,.cells [.p 6 0,.nd 2,.nd 0] 132 true false),(6,.cells [.nd 3,.nd 4] 165 true false)] 3 []),
 [(.ret,(bg 9 1 3 7 [(0,.nd 0)] [(4,.cells (jZ 1 5) 55 true false),(5,.cells [.p 6 0,.nd 6,.nd 1] 132 true false),(6,.cells [.nd 7,.nd 8] 165 true false)] 3 [none,some 0,some 1,some 5,some 6,none,some 2,none,none]))]⟩
def anP:aX:=⟨102,(bg 7 35 3 7 [(0,.p 5 0),(1,.p 4 0)] [(4,.cells Yi 55 true false),(5,.cells [.p 6 0,.nd 2,.nd 0] 132 true false),(6,.cells [.nd 3,.nd 4] 165 true false)] 3 []),
 [(.ret,(bg 8 1 3 7 [(0,.nd 0)] [(4,.cells [.nd 1,.nd 2,.nd 3,.nd 4,.dL] 55 true false),(5,.cells [.p 6 0,.nd 5,.nd 1] 132 true false),(6,.cells [.nd 6,.nd 7] 165 true false)] 3 [none,some 0,some 1,some 5,none,some 2,none,none]))]⟩
def anO:aX:=⟨101,(bg 7 20 3 7 [(0,.p 5 0),(1,.p 4 0)] [(4,.cells Yi 55 true false),(5,.cells [.p 6 0,.nd 2,.nd 0] 132 true false),(6,.cells [.nd 3,.nd 4] 165 true false)] 3 []),
 [(.ret,(bg 8 1 3 7 [(0,.nd 0)] [(4,.cells [.nd 1,.nd 2,.nd 3,.nd 4,.dL] 55 true false),(5,.cells [.p 6 0,.nd 5,.nd 1] 132 true false),(6,.cells [.nd 6,.nd 7] 165 true false)] 3 [none,some 0,some 1,none,some 6,some 2,none,none]))]⟩
def anN:aX:=⟨100,(bg 2 24 3 5 [(0,.p 4 0)] [(4,.cells [.nd 0,.nd 1] 165 true false)] 1 []),
 [(.ret,(bg 4 2 3 5 [(0,.nd 0),(1,.nd 1)] [(4,.cells [.nd 2,.nd 3] 165 true false)] 1 []))]⟩
def s99:aX:=⟨99,(bg 4 65 3 6 [(0,.p 4 0)] [(4,.cells [.p 5 0,.nd 0,.nd 1] 132 true false),(5,.cells [.nd 2,.nd 3] 165 true false)] 2 []),
 [(.ret,(bg 10 2 3 6 [(0,.agg (jZ 0 5)),(1,.nd 5)] [(4,.cells [.p 5 0,.nd 6,.nd 7] 132 true false),(5,.cells [.nd 8,.nd 9] 165 true false)] 2 [none,none,none,none,none,none,some 0,none,none,none]))]⟩
def s97:aX:=⟨97,(bg 4 26 3 6 [(0,.p 4 0)] [(4,.cells [.p 5 0,.nd 1,.nd 2] 132 true false),(5,.cells [.nd 0,.nd 3] 165 true false)] 2 []),
 [(.ret,(bg 6 2 3 6 [(0,.nd 0),(1,.nd 1)] [(4,.cells [.p 5 0,.nd 2,.nd 3] 132 true false),(5,.cells [.nd 4,.nd 5] 165 true false)] 2 [none,none,some 1,none,none,none]))]⟩
def s90:aX:=⟨90,(bI 2 69 3 5 [(0,.sv 4 0),(1,.nd 1)] [(4,.vec 0 5 false)]),
 [(.ret,(bI 1 1 3 5 [(0,.sv 4 0)] [(4,.vec 0 5 false)]))]⟩
def s70:aX:=⟨70,(bI 0 33 3 4 [(0,.pV)] []),
 [(.ret,(bI 0 1 3 4 [(0,.i .i64 0)] []))]⟩
def s69:aX:=⟨69,(bg 24 33 3 5 [(0,.dS 98 (.p 4 15))] [(4,.cells gK 38 true false)] 1 []),
 [(.ret,(bg 24 1 3 5 [(0,.i .i64 0)] [(4,.cells gK 38 true false)] 1 (oq 0 24)))]⟩
def s68:aX:=⟨68,(bg 24 33 3 5 [(0,.dS 98 (.p 4 14))] [(4,.cells gK 38 true false)] 1 []),
 [(.ret,(bg 24 1 3 5 [(0,.i .i64 0)] [(4,.cells gK 38 true false)] 1 (oq 0 24)))]⟩
def s67:aX:=⟨67,(bg 24 33 3 5 [(0,.dS 98 (.p 4 13))] [(4,.cells gK 38 true false)] 1 []),
 [(.ret,(bg 24 1 3 5 [(0,.i .i64 0)] [(4,.cells gK 38 true false)] 1 (oq 0 24)))]⟩
def s66:aX:=⟨66,(bg 24 33 3 5 [(0,.dS 98 (.p 4 12))] [(4,.cells gK 38 true false)] 1 []),
 [(.ret,(bg 24 1 3 5 [(0,.i .i64 0)] [(4,.cells gK 38 true false)] 1 (oq 0 24)))]⟩
def s65:aX:=⟨65,(bg 24 33 3 5 [(0,.dS 98 (.p 4 11))] [(4,.cells gK 38 true false)] 1 []),
 [(.ret,(bg 24 1 3 5 [(0,.i .i64 0)] [(4,.cells gK 38 true false)] 1 (oq 0 24)))]⟩
def s64:aX:=⟨64,(bg 24 33 3 5 [(0,.dS 98 (.p 4 10))] [(4,.cells gK 38 true false)] 1 []),
 [(.ret,(bg 24 1 3 5 [(0,.i .i64 0)] [(4,.cells gK 38 true false)] 1 (oq 0 24)))]⟩
def s63:aX:=⟨63,(bg 24 33 3 5 [(0,.dS 98 (.p 4 9))] [(4,.cells gK 38 true false)] 1 []),
 [(.ret,(bg 24 1 3 5 [(0,.i .i64 0)] [(4,.cells gK 38 true false)] 1 (oq 0 24)))]⟩
def s62:aX:=⟨62,(bg 24 33 3 5 [(0,.dS 98 (.p 4 8))] [(4,.cells gK 38 true false)] 1 []),
 [(.ret,(bg 24 1 3 5 [(0,.i .i64 0)] [(4,.cells gK 38 true false)] 1 (oq 0 24)))]⟩
def s61:aX:=⟨61,(bg 24 33 3 5 [(0,.dS 98 (.p 4 7))] [(4,.cells gK 38 true false)] 1 []),
 [(.ret,(bg 24 1 3 5 [(0,.i .i64 0)] [(4,.cells gK 38 true false)] 1 (oq 0 24)))]⟩
def s60:aX:=⟨60,(bg 24 33 3 5 [(0,.dS 98 (.p 4 6))] [(4,.cells gK 38 true false)] 1 []),
 [(.ret,(bg 24 1 3 5 [(0,.i .i64 0)] [(4,.cells gK 38 true false)] 1 (oq 0 24)))]⟩
def s59:aX:=⟨59,(bg 24 33 3 5 [(0,.dS 98 (.p 4 5))] [(4,.cells gK 38 true false)] 1 []),
 [(.ret,(bg 24 1 3 5 [(0,.i .i64 0)] [(4,.cells gK 38 true false)] 1 (oq 0 24)))]⟩
def s58:aX:=⟨58,(bg 24 33 3 5 [(0,.dS 98 (.p 4 4))] [(4,.cells gK 38 true false)] 1 []),
 [(.ret,(bg 24 1 3 5 [(0,.i .i64 0)] [(4,.cells gK 38 true false)] 1 (oq 0 24)))]⟩
def s57:aX:=⟨57,(bg 24 33 3 5 [(0,.dS 98 (.p 4 3))] [(4,.cells gK 38 true false)] 1 []),
 [(.ret,(bg 24 1 3 5 [(0,.i .i64 0)] [(4,.cells gK 38 true false)] 1 (oq 0 24)))]⟩
def s56:aX:=⟨56,(bg 24 33 3 5 [(0,.dS 98 (.p 4 2))] [(4,.cells gK 38 true false)] 1 []),
 [(.ret,(bg 24 1 3 5 [(0,.i .i64 0)] [(4,.cells gK 38 true false)] 1 (oq 0 24)))]⟩
def s55:aX:=⟨55,(bg 24 33 3 5 [(0,.dS 98 (.p 4 1))] [(4,.cells gK 38 true false)] 1 []),
 [(.ret,(bg 24 1 3 5 [(0,.i .i64 0)] [(4,.cells gK 38 true false)] 1 (oq 0 24)))]⟩
def s54:aX:=⟨54,(bg 24 33 3 5 [(0,.dS 106 (.p 4 22))] [(4,.cells gK 38 true false)] 1 []),
 [(.ret,(bg 25 1 3 5 [(0,.nd 0)] [(4,.cells xH 38 true false)] 1 [none,some 0,some 1,some 2,some 3,some 4,some 5,some 6,some 7,some 8,some 9,some 10,some 11,some 12,some 13,some 14,some 15,some 16,some 17,some 18,some 19,some 20,some 21,some 22,some 23]))]⟩
def s53:aX:=⟨53,(bg 24 33 3 5 [(0,.dS 105 (.p 4 21))] [(4,.cells gK 38 true false)] 1 []),
 [(.ret,(bg 25 1 3 5 [(0,.nd 0)] [(4,.cells xH 38 true false)] 1 [none,some 0,some 1,some 2,some 3,some 4,some 5,some 6,some 7,some 8,some 9,some 10,some 11,some 12,some 13,some 14,some 15,some 16,some 17,some 18,some 19,some 20,some 21,some 22,some 23]))]⟩
def s52:aX:=⟨52,(bg 24 33 3 5 [(0,.dS 103 (.p 4 20))] [(4,.cells gK 38 true false)] 1 []),
 [(.ret,(bg 25 1 3 5 [(0,.nd 0)] [(4,.cells xH 38 true false)] 1 [none,some 0,some 1,some 2,some 3,some 4,some 5,some 6,some 7,some 8,some 9,some 10,some 11,some 12,some 13,some 14,some 15,some 16,some 17,some 18,some 19,some 20,some 21,some 22,some 23]))]⟩
def s51:aX:=⟨51,(bg 24 33 3 5 [(0,.dS 103 (.p 4 19))] [(4,.cells gK 38 true false)] 1 []),
 [(.ret,(bg 25 1 3 5 [(0,.nd 0)] [(4,.cells xH 38 true false)] 1 [none,some 0,some 1,some 2,some 3,some 4,some 5,some 6,some 7,some 8,some 9,some 10,some 11,some 12,some 13,some 14,some 15,some 16,some 17,some 18,some 19,some 20,some 21,some 22,some 23]))]⟩
def s50:aX:=⟨50,(bg 24 33 3 5 [(0,.dS 103 (.p 4 18))] [(4,.cells gK 38 true false)] 1 []),
 [(.ret,(bg 25 1 3 5 [(0,.nd 0)] [(4,.cells xH 38 true false)] 1 [none,some 0,some 1,some 2,some 3,some 4,some 5,some 6,some 7,some 8,some 9,some 10,some 11,some 12,some 13,some 14,some 15,some 16,some 17,some 18,some 19,some 20,some 21,some 22,some 23]))]⟩
def s49:aX:=⟨49,(bg 24 33 3 5 [(0,.dS 100 (.p 4 17))] [(4,.cells gK 38 true false)] 1 []),
 [(.ret,(bg 24 1 3 5 [(0,.i .i64 0)] [(4,.cells gK 38 true false)] 1 (oq 0 24)))]⟩
def s48:aX:=⟨48,(bg 24 33 3 5 [(0,.dS 101 (.p 4 16))] [(4,.cells gK 38 true false)] 1 []),
 [(.ret,(bg 24 1 3 5 [(0,.i .i64 0)] [(4,.cells gK 38 true false)] 1 (oq 0 24)))]⟩
noncomputable def rows:List Row:=[
 .any (λgs out=>Lh gs=some out),
 .fn 3 [] [.sc] [] [(0,92)],
 .fn 4 [] [.sc] [] [],
 .fn 5 [] [.sc] [] [],
 .fn 19 [] [.sc] [] [(0,5)],
 .lp 19 [([],0)] s5 [] [],
 .fn 20 [] [.sc] [] [(0,7)],
 .lp 20 [([],0)] s7 [] [],
 .fn 23 [] [.sc] [] [(0,13)],
 .fn 27 [] [.sc] [] [(0,12)],
 .fn 57 [] [.sc] [] [(0,11)],
 .lp 57 [([],0)] s11 [] [],
 .lp 27 [([],0)] s12 [] [],
 .lp 23 [([],0)] s13 [] [],
 .fn 50 [] [.sc] [] [],
 .fn 21 [] [.sc] [] [(0,16)],
 .lp 21 [([],0)] s16 [] [],
 .fn 6 [] [.sc] [] [(0,18)],
 .lp 6 [([],0)] s18 [] [],
 .fn 22 [] [.sc] [] [],
 .fn 48 [] [.sc] [] [(0,21)],
 .lp 48 [([],0)] s21 [] [],
 .fn 84 [] [.sc] [] [],
 .fn 97 [] [.sc] [] [],
 .fn 113 [] [.sc] [] [],
 .told 139 [] [.sc],
 .fn 7 [] [.ag 24] [] [],
 .fn 24 [] [.sc] [] [],
 .fn 52 [] [.sc,.sc] [] [(0,29)],
 .lp 52 [([],0)] s29 [] [],
 .fn 8 [] [.sc,.sc] [] [],
 .fn 25 [] [.sc,.sc] [] [(0,76)],
 .fn 33 [] [.sc] [] [(0,44),(1,46),(2,47),(3,74)],
 .fn 10 [] [.sc] [] [],
 .fn 11 [] [.sc] [] [(0,36)],
 .fn 65 [] [.sc] [] [],
 .lp 11 [([],0)] s36 [] [],
 .fn 66 [] [.sc] [] [],
 .fn 67 [] [.sc] [] [],
 .fn 68 [] [.sc] [] [],
 .fn 69 [] [.sc] [] [],
 .fn 70 [] [.sc] [] [],
 .fn 71 [] [.sc] [] [],
 .fn 72 [] [.sc] [] [],
 .lp 33 [([],0)] s44 [] [],
 .told 39 [] [.sc],
 .lp 33 [([],1)] s46 [] [],
 .lp 33 [([],2)] s47 [] [],
 .fs 63 [] s48 [] [],
 .fs 63 [] s49 [] [],
 .fs 63 [] s50 [] [],
 .fs 63 [] s51 [] [],
 .fs 63 [] s52 [] [],
 .fs 63 [] s53 [] [],
 .fs 63 [] s54 [] [],
 .fs 63 [] s55 [] [],
 .fs 63 [] s56 [] [],
 .fs 63 [] s57 [] [],
 .fs 63 [] s58 [] [],
 .fs 63 [] s59 [] [],
 .fs 63 [] s60 [] [],
 .fs 63 [] s61 [] [],
 .fs 63 [] s62 [] [],
 .fs 63 [] s63 [] [],
 .fs 63 [] s64 [] [],
 .fs 63 [] s65 [] [],
 .fs 63 [] s66 [] [],
 .fs 63 [] s67 [] [],
 .fs 63 [] s68 [] [],
 .fs 63 [] s69 [] [],
 .fs 63 [] s70 [] [],
 .fn 54 [] [.sc] [] [],
 .fn 90 [] [.sc] [] [(0,73)],
 .lp 90 [([],0)] s73 [] [],
 .lp 33 [([],3)] s74 [] [(0,75)],
 .lp 33 [([],3),([],0)] s75 [] [],
 .lp 25 [([],0)] s76 [] [],
 .fn 17 [] [.ag 5,.sc] [] [],
 .fn 46 [] [.sc,.sc] [] [(0,79)],
 .lp 46 [([],0)] s79 [] [],
 .fn 80 [] [.sc] [] [],
 .fn 102 [] [.sc] [] [(0,82)],
 .lp 102 [([],0)] s82 [] [],
 .fn 53 [] [.sc,.sc] [] [(0,84),(1,85)],
 .lp 53 [([],0)] s84 [] [],
 .lp 53 [([],1)] s85 [] [],
 .told 60 [] [.sc],
 .fn 26 [] [.sc,.sc] [] [],
 .fn 55 [] [.sc] [] [(0,89)],
 .lp 55 [([],0)] s89 [] [],
 .fs 56 [] s90 [] [(0,91)],
 .lp 56 [([],0)] s91 [] [],
 .lp 3 [([],0)] s92 [] [(0,127),(1,144)],
 .fn 9 [] [.ag 24,.sc] [] [(0,104),(1,110)],
 .fn 28 [] [.sc,.sc,.sc] [] [(0,95)],
 .lp 28 [([],0)] s95 [] [],
 .fn 29 [] [.sc,.sc] [] [],
 .fs 59 [] s97 [] [(0,98)],
 .lp 59 [([],0)] s98 [] [],
 .fs 93 [] s99 [] [],
 .fs 109 [] anN [] [],
 .fs 110 [] anO [] [],
 .fs 111 [] anP [] [],
 .fs 112 [] anQ [] [],
 .lp 9 [([],0)] anR [] [],
 .fn 31 [] [.sc] [] [(0,106)],
 .lp 31 [([],0)] anS [] [],
 .fn 30 [] [.sc,.sc] [] [(0,108),(1,109)],
 .lp 30 [([],0)] anT [] [],
 .lp 30 [([],1)] anU [] [],
 .lp 9 [([],1)] anV [] [],
 .fn 32 [] [.ag 24,.sc] [] [],
 .fn 36 [] [.ag 24] [] [(0,114)],
 .told 73 [] [.sc],
 .lp 36 [([],0)] anW [] [],
 .fs 61 [] anX [] [],
 .fn 95 [] [.sc] [] [],
 .fn 98 [] [.sc,.sc] [] [],
 .fs 114 [] anY [] [(0,119)],
 .lp 114 [([],0)] anZ [] [],
 .fs 140 [] an0 [] [],
 .fs 154 [] an1 [] [],
 .fn 99 [] [.sc,.sc] [] [],
 .fs 115 [] an2 [] [(0,124)],
 .lp 115 [([],0)] an3 [] [],
 .fs 141 [] an4 [] [],
 .fs 142 [] an5 [] [],
 .lp 3 [([],0),([],0)] an6 [] [],
 .fn 12 [] [.sc] [] [],
 .fn 35 [] [.sc] [] [(0,130)],
 .lp 35 [([],0)] an7 [] [],
 .fn 13 [] [.ag 24,.sc] [] [(0,134)],
 .fs 37 [] an8 [] [(0,133)],
 .lp 37 [([],0)] an9 [] [],
 .lp 13 [([],0)] aoa [] [],
 .fn 14 [] [.sc] [] [(0,136)],
 .lp 14 [([],0)] aob [] [],
 .fn 40 [] [.sc] [] [(0,138)],
 .lp 40 [([],0)] aoc [] [(0,139)],
 .lp 40 [([],0),([],0)] aod [] [],
 .fs 15 [] aoe [] [],
 .fs 41 [] aof [] [(0,142)],
 .lp 41 [([],0)] aog [] [],
 .fs 16 [] aoh [] [],
 .lp 3 [([],0),([],1)] aoi [] []]
noncomputable abbrev C:=uN Tryz.prog fQ rows
noncomputable def agq:Code:=Tryz.f3.body.getD .skip
noncomputable def pl0:jK:=PL.cons 87 (λN=>@Wh N 0 88) (PL.cons 47 (λ_=>Eo) (PL.cons 105 (λ_=>KR) (PL.nil)))
noncomputable def es:List (FuncId×List Nat):=[(63,[70,69,68,67,66,65,64,63,62,61,60,59,58,57,56,55,54,53,52,51,50,49,48]),(56,[90]),(59,[97]),(93,[99]),(109,[100]),(110,[101]),(111,[102]),(112,[103]),(61,[115]),(114,[118]),(140,[120]),(154,[121]),(115,[123]),(141,[125]),(142,[126]),(37,[132]),(15,[140]),(41,[141]),(16,[143]),(12,[128]),(4,[2]),(39,[45]),(6,[17]),(27,[9]),(28,[94]),(60,[86]),(11,[34]),(25,[31]),(73,[113]),(48,[20]),(55,[88]),(24,[27]),(71,[42]),(31,[105]),(98,[117]),(70,[41]),(10,[33]),(32,[111]),(35,[129]),(57,[10]),(90,[72]),(65,[35]),(84,[22]),(113,[24]),(52,[28]),(13,[131]),(29,[96]),(102,[81]),(139,[25]),(5,[3]),(19,[4]),(22,[19]),(23,[8]),(21,[15]),(68,[39]),(36,[112]),(46,[78]),(66,[37]),(80,[80]),(53,[83]),(67,[38]),(40,[137]),(8,[30]),(20,[6]),(50,[14]),(99,[122]),(9,[93]),(95,[116]),(54,[71]),(17,[77]),(33,[32]),(7,[26]),(14,[135]),(97,[23]),(30,[107]),(69,[40]),(72,[43]),(3,[1]),(26,[87])]
noncomputable def pl:jK:=ac9 Tryz.prog rows es pl0
end U
end Go.Proofs.YtjglbndncdkhhaaGreatDoor
