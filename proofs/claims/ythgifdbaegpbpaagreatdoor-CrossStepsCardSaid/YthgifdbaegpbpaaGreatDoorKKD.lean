/- The shapes, and all definitions as rows. -/
import Derived.Test.YthgifdbaegpbpaaGreatDoorKRBase
import Derived.Test.YthgifdbaegpbpaaGreatDoorKKT
import Derived.Test.YthgifdbaegpbpaaGreatDoorAbsTab
import Derived.Test.YthgifdbaegpbpaaGreatDoorAbsPl
import Derived.Test.YthgifdbaegpbpaaGreatDoorAbsTold
import Derived.Test.YthgifdbaegpbpaaGreatDoorAbsTold2
import Derived.Test.YthgifdbaegpbpaaGreatDoorAbsTold3
import Derived.Test.YthgifdbaegpbpaaGreatDoorAbsFields
import Derived.Test.YthgifdbaegpbpaaGreatDoorAbsSortF
namespace Go.Proofs.YthgifdbaegpbpaaGreatDoor
open Go Go.aN
set_option maxRecDepth 100000
set_option linter.unusedVariables false
set_option linter.unusedSimpArgs false
namespace K
def dG:Nat->Nat->List AV
 | _,0=>[]
 | a,n+1=>.nd a::dG (a+1) n
def oP:Nat->Nat->List (Option Nat)
 | _,0=>[]
 | a,n+1=>some a::oP (a+1) n
theorem low:sO fG Tryz.prog.globals.size:=by
 rw [Vq];refine ⟨λp hp=>?_,λp hp=>?_⟩
 all_goals
  simp only [fG,bZ,Dq,or_false] at hp;rcases hp with rfl | rfl
  all_goals first | decide | rfl
def s77:bD:=⟨77, { np:=28,n:=61,gn:=3,next:=6,slots:=[(2,.p 4 0),(7,.sv 5 0),(21,.nd 1),(22,.nd 2),(23,.nd 3)],objs:=[(5,.vec 0 72 true),(4,.cells (dG 4 24) 35 true false)] },
 [(.exit 0, { np:=25,n:=61,gn:=3,next:=5,slots:=[(2,.p 4 0),(7,.nd 0)],objs:=[(4,.cells (dG 1 24) 35 true false)],al:=[none,some 4,some 5,some 6,some 7,some 8,some 9,some 10,some 11,some 12,some 13,some 14,some 15,some 16,some 17,some 18,some 19,some 20,some 21,some 22,some 23,some 24,some 25,some 26,some 27] })]⟩
def aod:bD:=⟨138, { np:=5,n:=80,gn:=3,next:=6,slots:=[(5,.sv 4 0),(6,.p 5 0),(37,.nd 1),(38,.nd 2)],objs:=[(5,.cells [.nd 3,.nd 4] 223 true false),(4,.vec 0 223 false)] },
 [(.ret, { np:=0,n:=80,gn:=3,next:=4,slots:=[(4,.b false)],objs:=[] }),
  (.exit 2, { np:=1,n:=80,gn:=3,next:=5,slots:=[(5,.sv 4 0)],objs:=[(4,.vec 0 223 false)] })]⟩
def anV:bD:=⟨106, { np:=4,n:=23,gn:=3,next:=5,slots:=[(5,.sv 4 0),(10,.nd 1),(11,.nd 2),(12,.nd 3)],objs:=[(4,.vec 0 22 true)] },
 [(.exit 0, { np:=1,n:=23,gn:=3,next:=5,slots:=[(5,.sv 4 0)],objs:=[(4,.vec 0 22 true)] })]⟩
def an2:bD:=⟨119, { np:=5,n:=60,gn:=3,next:=6,slots:=[(0,.p 4 0),(7,.sv 5 0),(28,.nd 1),(29,.nd 2)],objs:=[(4,.cells [.nd 3,.nd 4] 264 true false),(5,.vec 0 171 false)],ka:=1 },
 [(.ret, { np:=3,n:=60,gn:=3,next:=5,slots:=[(2,.bK),(3,.nd 0)],objs:=[(4,.cells [.nd 1,.nd 2] 264 true false)],ka:=1 }),
  (.exit 0, { np:=3,n:=60,gn:=3,next:=6,slots:=[(7,.sv 5 0)],objs:=[(4,.cells [.nd 1,.nd 2] 264 true false),(5,.vec 0 171 false)],ka:=1 })]⟩
def s75:bD:=⟨75, { np:=4,n:=116,gn:=3,next:=4,slots:=[(6,.nd 0),(97,.nd 1),(98,.nd 2),(99,.nd 3)],objs:=[] },
 [(.ret, { np:=0,n:=116,gn:=3,next:=4,slots:=[(4,.i .i64 14)],objs:=[] }),
  (.exit 6, { np:=0,n:=116,gn:=3,next:=4,slots:=[],objs:=[] })]⟩
def s10:bD:=⟨10, { np:=2,n:=11,gn:=3,next:=4,slots:=[(0,.nd 0),(3,.nd 1)],objs:=[] },
 [(.exit 0, { np:=1,n:=11,gn:=3,next:=4,slots:=[(3,.nd 0)],objs:=[] })]⟩
def anY:bD:=⟨110, { np:=30,n:=123,gn:=3,next:=7,slots:=[(1,.nd 0),(4,.p 4 0),(12,.mp 5),(15,.p 6 0),(17,.nd 1),(92,.nd 2),(93,.nd 3),(94,.nd 4)],objs:=[(6,.cells (dG 5 24) 35 true false),(5,.smap 29 (some .u64) none),(4,.cells [.i .i64 0,.i .u64 0,.i .u64 0,.i .u64 0,.i .u64 0,.i .u64 0,.i .u64 0,.i .u64 0,.i .u64 0,.i .u64 0,.i .u64 0,.i .u64 0,.i .u64 0,.i .u64 0,.i .u64 0,.i .u64 0,.i .i64 0,.b false,.s [],.s [],.s [],.bK,.bK,.bK] 35 true false)] },
 [(.ret, { np:=1,n:=123,gn:=3,next:=5,slots:=[(4,.p 4 0),(5,.nd 0)],objs:=[(4,.cells [.i .i64 0,.i .u64 0,.i .u64 0,.i .u64 0,.i .u64 0,.i .u64 0,.i .u64 0,.i .u64 0,.i .u64 0,.i .u64 0,.i .u64 0,.i .u64 0,.i .u64 0,.i .u64 0,.i .u64 0,.i .u64 0,.i .i64 0,.b false,.s [],.s [],.s [],.bK,.bK,.bK] 35 true false)] }),
  (.exit 2, { np:=26,n:=123,gn:=3,next:=6,slots:=[(1,.nd 0),(4,.p 4 0),(15,.p 5 0),(17,.nd 1)],objs:=[(5,.cells (dG 2 24) 35 true false),(4,.cells [.i .i64 0,.i .u64 0,.i .u64 0,.i .u64 0,.i .u64 0,.i .u64 0,.i .u64 0,.i .u64 0,.i .u64 0,.i .u64 0,.i .u64 0,.i .u64 0,.i .u64 0,.i .u64 0,.i .u64 0,.i .u64 0,.i .i64 0,.b false,.s [],.s [],.s [],.bK,.bK,.bK] 35 true false)],al:=[some 0,some 1,none,none,none,none,none,none,none,none,none,none,none,none,none,none,none,none,none,none,none,none,none,none,none,none] })]⟩
def s50:bD:=⟨50, { np:=3,n:=42,gn:=3,next:=4,slots:=[(0,.nd 0),(15,.nd 0),(16,.nd 1),(17,.nd 2)],objs:=[] },
 [(.ret, { np:=1,n:=42,gn:=3,next:=4,slots:=[(2,.nd 0)],objs:=[] }),
  (.exit 0, { np:=0,n:=42,gn:=3,next:=4,slots:=[],objs:=[] })]⟩
def s28:bD:=⟨28, { np:=5,n:=46,gn:=3,next:=5,slots:=[(1,.nd 0),(7,.sv 4 1),(30,.nd 2),(31,.nd 3),(32,.nd 4)],objs:=[(4,.vec 1 65 true)] },
 [(.exit 0, { np:=1,n:=46,gn:=3,next:=5,slots:=[(7,.sv 4 0)],objs:=[(4,.vec 0 65 true)] })]⟩
def s80:bD:=⟨80, { np:=5,n:=42,gn:=3,next:=6,slots:=[(5,.p 4 0),(6,.nd 0),(22,.nd 1),(23,.nd 2),(24,.nd 3)],objs:=[(4,.cells [.p 4 0,.sv 5 4] 204 true false),(5,.vec 4 5 true)] },
 [(.exit 0, { np:=1,n:=42,gn:=3,next:=6,slots:=[(5,.p 4 0)],objs:=[(4,.cells [.p 4 0,.sv 5 0] 204 true false),(5,.vec 0 5 true)] })]⟩
def an9:bD:=⟨129, { np:=51,n:=30,gn:=3,next:=6,slots:=[(2,.p 4 0),(3,.p 5 0),(12,.nd 0),(13,.nd 1),(14,.nd 2)],objs:=[(5,.cells (dG 3 24) 35 true false),(4,.cells (dG 27 24) 35 true false)] },
 [(.ret, { np:=0,n:=30,gn:=3,next:=4,slots:=[(4,.b false)],objs:=[] }),
  (.exit 0, { np:=48,n:=30,gn:=3,next:=6,slots:=[(2,.p 4 0),(3,.p 5 0)],objs:=[(5,.cells (dG 0 24) 35 true false),(4,.cells (dG 24 24) 35 true false)],al:=(oP 3 48) })]⟩
def anZ:bD:=⟨114, { np:=27,n:=38,gn:=3,next:=7,slots:=[(1,.p 4 0),(2,.p 5 0),(3,.sv 6 0),(15,.nd 1),(16,.nd 2),(17,.nd 3)],objs:=[(6,.vec 0 117 false),(5,.cells [.i .i64 0,.i .u64 0,.i .u64 0,.i .u64 0,.i .u64 0,.i .u64 0,.i .u64 0,.i .u64 0,.i .u64 0,.i .u64 0,.i .u64 0,.i .u64 0,.i .u64 0,.i .u64 0,.i .u64 0,.i .u64 0,.i .i64 0,.b false,.s [],.s [],.s [],.bK,.bK,.bK] 35 true false),(4,.cells [.nd 4,.nd 5,.nd 6,.nd 7,.nd 8,.nd 9,.nd 10,.nd 11,.nd 12,.nd 13,.nd 14,.nd 15,.nd 16,.nd 17,.nd 18,.nd 19,.nd 20,.nd 21,.nd 22,.nd 23,.nd 24,.nd 25,.nd 1,.nd 26] 35 true false)] },
 [(.exit 0, { np:=25,n:=38,gn:=3,next:=7,slots:=[(1,.p 4 0),(2,.p 5 0),(3,.sv 6 0)],objs:=[(6,.vec 0 117 false),(5,.cells [.i .i64 0,.i .u64 0,.i .u64 0,.i .u64 0,.i .u64 0,.i .u64 0,.i .u64 0,.i .u64 0,.i .u64 0,.i .u64 0,.i .u64 0,.i .u64 0,.i .u64 0,.i .u64 0,.i .u64 0,.i .u64 0,.i .i64 0,.b false,.s [],.s [],.s [],.bK,.bK,.bK] 35 true false),(4,.cells (dG 1 24) 35 true false)],al:=[none,some 4,some 5,some 6,some 7,some 8,some 9,some 10,some 11,some 12,some 13,some 14,some 15,some 16,some 17,some 18,some 19,some 20,some 21,some 22,some 23,some 24,some 25,some 1,some 26] })]⟩
def s36:bD:=⟨36, { np:=28,n:=116,gn:=3,next:=6,slots:=[(2,.p 4 0),(6,.nd 0),(7,.mp 5),(44,.nd 0),(45,.nd 1),(46,.nd 2)],objs:=[(5,.smap 3 none none),(4,.cells (dG 4 24) 35 true false)] },
 [(.exit 0, { np:=26,n:=116,gn:=3,next:=6,slots:=[(2,.p 4 0),(6,.nd 0),(7,.mp 5)],objs:=[(5,.smap 1 none none),(4,.cells (dG 2 24) 35 true false)],al:=[some 0,none,some 4,some 5,some 6,some 7,some 8,some 9,some 10,some 11,some 12,some 13,some 14,some 15,some 16,some 17,some 18,some 19,some 20,some 21,some 22,some 23,some 24,some 25,some 26,some 27] })]⟩
def s90:bD:=⟨90, { np:=4,n:=66,gn:=3,next:=4,slots:=[(0,.nd 0),(3,.nd 1),(8,.nd 2),(9,.nd 3)],objs:=[] },
 [(.exit 0, { np:=1,n:=66,gn:=3,next:=4,slots:=[(3,.nd 0)],objs:=[] })]⟩
def s4:bD:=⟨4, { np:=3,n:=23,gn:=3,next:=4,slots:=[(0,.nd 0),(5,.nd 0),(6,.nd 1),(7,.nd 2)],objs:=[] },
 [(.ret, { np:=0,n:=23,gn:=3,next:=4,slots:=[(2,.b false)],objs:=[] }),
  (.exit 0, { np:=1,n:=23,gn:=3,next:=4,slots:=[(0,.nd 0)],objs:=[],al:=[some 0] })]⟩
def s95:bD:=⟨95, { np:=4,n:=50,gn:=3,next:=4,slots:=[(0,.nd 0),(5,.nd 1),(9,.nd 2),(10,.nd 3)],objs:=[] },
 [(.ret, { np:=3,n:=50,gn:=3,next:=4,slots:=[(2,.nd 0),(3,.nd 1),(4,.nd 2)],objs:=[] }),
  (.exit 0, { np:=1,n:=50,gn:=3,next:=4,slots:=[(0,.nd 0)],objs:=[] })]⟩
def s98:bD:=⟨98, { np:=5,n:=26,gn:=3,next:=7,slots:=[(0,.p 4 0),(4,.sv 6 0)],objs:=[(4,.cells [.p 5 0,.nd 1,.nd 2] 212 true false),(5,.cells [.nd 3,.nd 4] 264 true false),(6,.vec 0 72 true)],ka:=2 },
 [(.ret, { np:=5,n:=26,gn:=3,next:=6,slots:=[(2,.bK),(3,.nd 0)],objs:=[(4,.cells [.p 5 0,.nd 1,.nd 2] 212 true false),(5,.cells [.nd 3,.nd 4] 264 true false)],ka:=2,al:=[none,some 1,none,none,none] }),
  (.exit 0, { np:=5,n:=26,gn:=3,next:=7,slots:=[(4,.sv 6 0)],objs:=[(4,.cells [.p 5 0,.nd 1,.nd 2] 212 true false),(5,.cells [.nd 3,.nd 4] 264 true false),(6,.vec 0 72 true)],ka:=2,al:=[none,some 1,none,none,none] })]⟩
def s54:bD:=⟨54, { np:=4,n:=42,gn:=3,next:=4,slots:=[(3,.nd 0),(11,.nd 1),(12,.nd 2),(13,.nd 3)],objs:=[] },
 [(.ret, { np:=1,n:=42,gn:=3,next:=4,slots:=[(2,.nd 0)],objs:=[] }),
  (.exit 0, { np:=0,n:=42,gn:=3,next:=4,slots:=[],objs:=[] })]⟩
def aob:bD:=⟨134, { np:=4,n:=32,gn:=3,next:=4,slots:=[(1,.nd 0),(2,.fn 189 [] []),(15,.nd 1),(16,.nd 2),(17,.nd 3)],objs:=[] },
 [(.ret, { np:=0,n:=32,gn:=3,next:=4,slots:=[(6,.b false)],objs:=[] }),
  (.exit 0, { np:=0,n:=32,gn:=3,next:=4,slots:=[],objs:=[] })]⟩
def s76:bD:=⟨76, { np:=11,n:=116,gn:=3,next:=5,slots:=[(6,.nd 0),(18,.p 4 0),(97,.nd 1),(98,.nd 2),(99,.nd 3),(103,.nd 0),(104,.nd 4),(105,.nd 5)],objs:=[(4,.cells (dG 6 5) 72 true false)] },
 [(.ret, { np:=0,n:=116,gn:=3,next:=4,slots:=[(4,.i .i64 14)],objs:=[] }),
  (.exit 8, { np:=4,n:=116,gn:=3,next:=4,slots:=[(6,.nd 0),(97,.nd 1),(98,.nd 2),(99,.nd 3)],objs:=[],al:=(oP 0 4) })]⟩
def s86:bD:=⟨86, { np:=2,n:=46,gn:=3,next:=5,slots:=[(4,.sv 4 0),(8,.nd 1)],objs:=[(4,.vec 0 72 true)] },
 [(.ret, { np:=0,n:=46,gn:=3,next:=4,slots:=[(2,.bK),(3,.i .i64 14)],objs:=[] }),
  (.exit 2, { np:=1,n:=46,gn:=3,next:=5,slots:=[(4,.sv 4 0)],objs:=[(4,.vec 0 72 true)],al:=[some 0] })]⟩
def s92:bD:=⟨92, { np:=4,n:=69,gn:=3,next:=5,slots:=[(0,.sv 4 0),(1,.nd 1),(8,.nd 2),(9,.nd 3)],objs:=[(4,.vec 0 5 false)] },
 [(.exit 0, { np:=1,n:=69,gn:=3,next:=5,slots:=[(0,.sv 4 0)],objs:=[(4,.vec 0 5 false)] })]⟩
def anX:bD:=⟨109, { np:=6,n:=53,gn:=3,next:=7,slots:=[(0,.nd 0),(4,.sv 4 1),(5,.sv 5 2),(6,.mp 6),(23,.nd 3),(24,.nd 4)],objs:=[(6,.smap 5 (some .u64) none),(5,.vec 2 72 true),(4,.vec 1 72 true)] },
 [(.exit 2, { np:=2,n:=53,gn:=3,next:=6,slots:=[(4,.sv 4 0),(5,.sv 5 1)],objs:=[(5,.vec 1 72 true),(4,.vec 0 72 true)] })]⟩
def anW:bD:=⟨108, { np:=5,n:=53,gn:=3,next:=5,slots:=[(0,.nd 0),(4,.bK),(5,.bK),(6,.mp 4),(13,.nd 1),(14,.nd 2),(15,.nd 3)],objs:=[(4,.smap 4 (some .u64) none)] },
 [(.exit 0, { np:=2,n:=53,gn:=3,next:=5,slots:=[(0,.nd 0),(4,.bK),(5,.bK),(6,.mp 4)],objs:=[(4,.smap 1 (some .u64) none)],al:=[some 0,none] })]⟩
def anU:bD:=⟨104, { np:=7,n:=123,gn:=3,next:=6,slots:=[(1,.nd 0),(4,.p 4 0),(9,.nd 1),(11,.nd 2),(12,.mp 5),(70,.nd 3),(71,.nd 4),(72,.nd 5)],objs:=[(5,.smap 6 (some .u64) none),(4,.cells [.i .i64 0,.i .u64 0,.i .u64 0,.i .u64 0,.i .u64 0,.i .u64 0,.i .u64 0,.i .u64 0,.i .u64 0,.i .u64 0,.i .u64 0,.i .u64 0,.i .u64 0,.i .u64 0,.i .u64 0,.i .u64 0,.i .i64 0,.b false,.s [],.s [],.s [],.bK,.bK,.bK] 35 true false)] },
 [(.exit 0, { np:=4,n:=123,gn:=3,next:=6,slots:=[(1,.nd 0),(4,.p 4 0),(9,.nd 1),(11,.nd 2),(12,.mp 5)],objs:=[(5,.smap 3 (some .u64) none),(4,.cells [.i .i64 0,.i .u64 0,.i .u64 0,.i .u64 0,.i .u64 0,.i .u64 0,.i .u64 0,.i .u64 0,.i .u64 0,.i .u64 0,.i .u64 0,.i .u64 0,.i .u64 0,.i .u64 0,.i .u64 0,.i .u64 0,.i .i64 0,.b false,.s [],.s [],.s [],.bK,.bK,.bK] 35 true false)],al:=[some 0,some 1,some 2,none] })]⟩
def s15:bD:=⟨15, { np:=3,n:=19,gn:=3,next:=4,slots:=[(0,.nd 0),(5,.nd 0),(6,.nd 1),(7,.nd 2)],objs:=[] },
 [(.ret, { np:=0,n:=19,gn:=3,next:=4,slots:=[(2,.b false)],objs:=[] }),
  (.exit 0, { np:=1,n:=19,gn:=3,next:=4,slots:=[(0,.nd 0)],objs:=[],al:=[some 0] })]⟩
def an6:bD:=⟨124, { np:=6,n:=56,gn:=3,next:=6,slots:=[(0,.p 4 0),(6,.sv 5 0),(7,.nd 1),(25,.nd 2),(26,.nd 3)],objs:=[(4,.cells [.nd 4,.nd 5] 264 true false),(5,.vec 0 117 false)],ka:=1 },
 [(.ret, { np:=3,n:=56,gn:=3,next:=5,slots:=[(2,.bK),(3,.nd 0)],objs:=[(4,.cells [.nd 1,.nd 2] 264 true false)],ka:=1 }),
  (.exit 0, { np:=3,n:=56,gn:=3,next:=6,slots:=[(6,.sv 5 0)],objs:=[(4,.cells [.nd 1,.nd 2] 264 true false),(5,.vec 0 117 false)],ka:=1 })]⟩
def s12:bD:=⟨12, { np:=4,n:=22,gn:=3,next:=6,slots:=[(3,.p 4 0),(11,.nd 0),(12,.nd 1),(13,.nd 2)],objs:=[(4,.cells [.p 4 0,.sv 5 3] 204 true false),(5,.vec 3 5 true)] },
 [(.exit 0, { np:=1,n:=22,gn:=3,next:=6,slots:=[(3,.p 4 0)],objs:=[(4,.cells [.p 4 0,.sv 5 0] 204 true false),(5,.vec 0 5 true)] })]⟩
def aoc:bD:=⟨137, { np:=1,n:=80,gn:=3,next:=5,slots:=[(5,.sv 4 0)],objs:=[(4,.vec 0 223 false)] },
 [(.ret, { np:=0,n:=80,gn:=3,next:=4,slots:=[(4,.b false)],objs:=[] }),
  (.exit 0, { np:=0,n:=80,gn:=3,next:=4,slots:=[],objs:=[] })]⟩
def s19:bD:=⟨19, { np:=3,n:=54,gn:=3,next:=5,slots:=[(0,.nd 0),(1,.nd 1),(6,.sv 4 2)],objs:=[(4,.vec 2 72 true)] },
 [(.exit 0, { np:=2,n:=54,gn:=3,next:=5,slots:=[(0,.nd 0),(6,.sv 4 1)],objs:=[(4,.vec 1 72 true)] })]⟩
def s85:bD:=⟨85, { np:=4,n:=46,gn:=3,next:=5,slots:=[(4,.sv 4 0),(9,.nd 1),(10,.nd 2),(11,.nd 3)],objs:=[(4,.vec 0 72 true)] },
 [(.ret, { np:=1,n:=46,gn:=3,next:=4,slots:=[(2,.bK),(3,.nd 0)],objs:=[] }),
  (.exit 0, { np:=1,n:=46,gn:=3,next:=5,slots:=[(4,.sv 4 0)],objs:=[(4,.vec 0 72 true)] })]⟩
def aoa:bD:=⟨131, { np:=4,n:=26,gn:=3,next:=4,slots:=[(0,.nd 0),(1,.nd 1),(12,.nd 2),(13,.nd 3)],objs:=[] },
 [(.ret, { np:=0,n:=26,gn:=3,next:=4,slots:=[(4,.b false)],objs:=[] }),
  (.exit 0, { np:=0,n:=26,gn:=3,next:=4,slots:=[],objs:=[] })]⟩
def s38:bD:=⟨38, { np:=29,n:=116,gn:=3,next:=6,slots:=[(2,.p 4 0),(6,.nd 0),(7,.mp 5),(54,.nd 1),(55,.nd 2),(56,.nd 3)],objs:=[(5,.smap 4 none none),(4,.cells (dG 5 24) 35 true false)] },
 [(.ret, { np:=0,n:=116,gn:=3,next:=4,slots:=[(4,.i .i64 26)],objs:=[] }),
  (.exit 2, { np:=25,n:=116,gn:=3,next:=5,slots:=[(2,.p 4 0),(6,.nd 0)],objs:=[(4,.cells (dG 1 24) 35 true false)],al:=[some 0,some 5,some 6,some 7,some 8,some 9,some 10,some 11,some 12,some 13,some 14,some 15,some 16,some 17,some 18,some 19,some 20,some 21,some 22,some 23,some 24,some 25,some 26,some 27,some 28] })]⟩
def s39:bD:=⟨39, { np:=27,n:=116,gn:=3,next:=5,slots:=[(2,.p 4 0),(6,.nd 0),(71,.nd 0),(72,.nd 1),(73,.nd 2)],objs:=[(4,.cells (dG 3 24) 35 true false)] },
 [(.ret, { np:=1,n:=116,gn:=3,next:=4,slots:=[(4,.nd 0)],objs:=[] }),
  (.exit 4, { np:=25,n:=116,gn:=3,next:=5,slots:=[(2,.p 4 0),(6,.nd 0)],objs:=[(4,.cells (dG 1 24) 35 true false)],al:=[some 0,some 3,some 4,some 5,some 6,some 7,some 8,some 9,some 10,some 11,some 12,some 13,some 14,some 15,some 16,some 17,some 18,some 19,some 20,some 21,some 22,some 23,some 24,some 25,some 26] })]⟩
def s83:bD:=⟨83, { np:=3,n:=28,gn:=3,next:=4,slots:=[(0,.nd 0),(1,.nd 1),(5,.nd 2)],objs:=[] },
 [(.exit 0, { np:=1,n:=28,gn:=3,next:=4,slots:=[(5,.nd 0)],objs:=[] })]⟩
def s11:bD:=⟨11, { np:=4,n:=33,gn:=3,next:=5,slots:=[(0,.nd 0),(3,.sv 4 1),(9,.nd 2),(10,.nd 3)],objs:=[(4,.vec 1 5 false)] },
 [(.exit 0, { np:=1,n:=33,gn:=3,next:=5,slots:=[(3,.sv 4 0)],objs:=[(4,.vec 0 5 false)] })]⟩
def s74:bD:=⟨74, { np:=5,n:=46,gn:=3,next:=4,slots:=[(1,.nd 0),(5,.nd 1),(9,.nd 2),(10,.nd 3),(11,.nd 4)],objs:=[] },
 [(.ret, { np:=1,n:=46,gn:=3,next:=4,slots:=[(4,.nd 0)],objs:=[] }),
  (.exit 0, { np:=0,n:=46,gn:=3,next:=4,slots:=[],objs:=[] })]⟩
def s6:bD:=⟨6, { np:=3,n:=37,gn:=3,next:=4,slots:=[(0,.nd 0),(5,.nd 0),(6,.nd 1),(7,.nd 2)],objs:=[] },
 [(.ret, { np:=0,n:=37,gn:=3,next:=4,slots:=[(2,.b false)],objs:=[] }),
  (.exit 0, { np:=1,n:=37,gn:=3,next:=4,slots:=[(0,.nd 0)],objs:=[],al:=[some 0] })]⟩
def an8:bD:=⟨126, { np:=3,n:=33,gn:=3,next:=5,slots:=[(0,.p 4 0),(1,.nd 0)],objs:=[(4,.cells [.nd 1,.nd 2] 264 true false)],ka:=1 },
 [(.ret, { np:=5,n:=2,gn:=3,next:=5,slots:=[(0,.agg [.nd 0,.nd 1]),(1,.nd 2)],objs:=[(4,.cells [.nd 3,.nd 4] 264 true false)],ka:=1 })]⟩
def an7:bD:=⟨125, { np:=4,n:=63,gn:=3,next:=5,slots:=[(0,.p 4 0),(1,.nd 2),(2,.nd 3)],objs:=[(4,.cells [.nd 0,.nd 1] 264 true false)],ka:=1 },
 [(.ret, { np:=4,n:=2,gn:=3,next:=5,slots:=[(0,.nd 0),(1,.nd 1)],objs:=[(4,.cells [.nd 2,.nd 3] 264 true false)],ka:=1 })]⟩
def an5:bD:=⟨123, { np:=2,n:=56,gn:=3,next:=5,slots:=[(0,.p 4 0)],objs:=[(4,.cells [.nd 0,.nd 1] 264 true false)],ka:=1 },
 [(.ret, { np:=4,n:=2,gn:=3,next:=5,slots:=[(0,.nd 0),(1,.nd 1)],objs:=[(4,.cells [.nd 2,.nd 3] 264 true false)],ka:=1 })]⟩
def an4:bD:=⟨121, { np:=2,n:=25,gn:=3,next:=5,slots:=[(0,.p 4 0)],objs:=[(4,.cells [.nd 0,.nd 1] 264 true false)],ka:=1 },
 [(.ret, { np:=4,n:=2,gn:=3,next:=5,slots:=[(0,.nd 0),(1,.nd 1)],objs:=[(4,.cells [.nd 2,.nd 3] 264 true false)],ka:=1 })]⟩
def an3:bD:=⟨120, { np:=2,n:=37,gn:=3,next:=5,slots:=[(0,.p 4 0)],objs:=[(4,.cells [.nd 0,.nd 1] 264 true false)],ka:=1 },
 [(.ret, { np:=5,n:=2,gn:=3,next:=5,slots:=[(0,.agg [.nd 0,.nd 1]),(1,.nd 2)],objs:=[(4,.cells [.nd 3,.nd 4] 264 true false)],ka:=1 })]⟩
def an1:bD:=⟨118, { np:=2,n:=60,gn:=3,next:=5,slots:=[(0,.p 4 0)],objs:=[(4,.cells [.nd 0,.nd 1] 264 true false)],ka:=1 },
 [(.ret, { np:=4,n:=2,gn:=3,next:=5,slots:=[(0,.nd 0),(1,.nd 1)],objs:=[(4,.cells [.nd 2,.nd 3] 264 true false)],ka:=1 })]⟩
def an0:bD:=⟨115, { np:=30,n:=117,gn:=3,next:=5,slots:=[(0,.p 4 0),(1,.nd 0),(2,.agg (dG 1 5))],objs:=[(4,.cells (dG 6 24) 35 true false)],ka:=1 },
 [(.ret, { np:=25,n:=1,gn:=3,next:=5,slots:=[(0,.nd 0)],objs:=[(4,.cells (dG 1 24) 35 true false)],ka:=1,al:=[none,some 6,none,none,none,none,none,none,none,none,none,none,none,none,none,none,none,none,none,none,none,none,none,none,some 29] })]⟩
def anT:bD:=⟨103, { np:=7,n:=52,gn:=3,next:=7,slots:=[(0,.p 5 0),(1,.p 4 0)],objs:=[(4,.cells [.nd 0,.nd 1,.nd 5,.nd 6,.bK] 72 true false),(5,.cells [.p 6 0,.nd 2,.nd 0] 212 true false),(6,.cells [.nd 3,.nd 4] 264 true false)],ka:=3 },
 [(.ret, { np:=9,n:=1,gn:=3,next:=7,slots:=[(0,.nd 0)],objs:=[(4,.cells (dG 1 5) 72 true false),(5,.cells [.p 6 0,.nd 6,.nd 1] 212 true false),(6,.cells [.nd 7,.nd 8] 264 true false)],ka:=3,al:=[none,some 0,some 1,some 5,some 6,none,some 2,none,none] })]⟩
def anS:bD:=⟨102, { np:=7,n:=35,gn:=3,next:=7,slots:=[(0,.p 5 0),(1,.p 4 0)],objs:=[(4,.cells [.nd 0,.nd 1,.nd 5,.nd 6,.bK] 72 true false),(5,.cells [.p 6 0,.nd 2,.nd 0] 212 true false),(6,.cells [.nd 3,.nd 4] 264 true false)],ka:=3 },
 [(.ret, { np:=8,n:=1,gn:=3,next:=7,slots:=[(0,.nd 0)],objs:=[(4,.cells [.nd 1,.nd 2,.nd 3,.nd 4,.bK] 72 true false),(5,.cells [.p 6 0,.nd 5,.nd 1] 212 true false),(6,.cells [.nd 6,.nd 7] 264 true false)],ka:=3,al:=[none,some 0,some 1,some 5,none,some 2,none,none] })]⟩
def anR:bD:=⟨101, { np:=7,n:=20,gn:=3,next:=7,slots:=[(0,.p 5 0),(1,.p 4 0)],objs:=[(4,.cells [.nd 0,.nd 1,.nd 5,.nd 6,.bK] 72 true false),(5,.cells [.p 6 0,.nd 2,.nd 0] 212 true false),(6,.cells [.nd 3,.nd 4] 264 true false)],ka:=3 },
 [(.ret, { np:=8,n:=1,gn:=3,next:=7,slots:=[(0,.nd 0)],objs:=[(4,.cells [.nd 1,.nd 2,.nd 3,.nd 4,.bK] 72 true false),(5,.cells [.p 6 0,.nd 5,.nd 1] 212 true false),(6,.cells [.nd 6,.nd 7] 264 true false)],ka:=3,al:=[none,some 0,some 1,none,some 6,some 2,none,none] })]⟩
def anQ:bD:=⟨100, { np:=2,n:=24,gn:=3,next:=5,slots:=[(0,.p 4 0)],objs:=[(4,.cells [.nd 0,.nd 1] 264 true false)],ka:=1 },
 [(.ret, { np:=4,n:=2,gn:=3,next:=5,slots:=[(0,.nd 0),(1,.nd 1)],objs:=[(4,.cells [.nd 2,.nd 3] 264 true false)],ka:=1 })]⟩
def s99:bD:=⟨99, { np:=4,n:=65,gn:=3,next:=6,slots:=[(0,.p 4 0)],objs:=[(4,.cells [.p 5 0,.nd 0,.nd 1] 212 true false),(5,.cells [.nd 2,.nd 3] 264 true false)],ka:=2 },
 [(.ret, { np:=10,n:=2,gn:=3,next:=6,slots:=[(0,.agg (dG 0 5)),(1,.nd 5)],objs:=[(4,.cells [.p 5 0,.nd 6,.nd 7] 212 true false),(5,.cells [.nd 8,.nd 9] 264 true false)],ka:=2,al:=[none,none,none,none,none,none,some 0,none,none,none] })]⟩
def s97:bD:=⟨97, { np:=4,n:=26,gn:=3,next:=6,slots:=[(0,.p 4 0)],objs:=[(4,.cells [.p 5 0,.nd 1,.nd 2] 212 true false),(5,.cells [.nd 0,.nd 3] 264 true false)],ka:=2 },
 [(.ret, { np:=6,n:=2,gn:=3,next:=6,slots:=[(0,.nd 0),(1,.nd 1)],objs:=[(4,.cells [.p 5 0,.nd 2,.nd 3] 212 true false),(5,.cells [.nd 4,.nd 5] 264 true false)],ka:=2,al:=[none,none,some 1,none,none,none] })]⟩
def s91:bD:=⟨91, { np:=2,n:=69,gn:=3,next:=5,slots:=[(0,.sv 4 0),(1,.nd 1)],objs:=[(4,.vec 0 5 false)] },
 [(.ret, { np:=1,n:=1,gn:=3,next:=5,slots:=[(0,.sv 4 0)],objs:=[(4,.vec 0 5 false)] })]⟩
def s71:bD:=⟨71, { np:=0,n:=33,gn:=3,next:=4,slots:=[(0,.qY)],objs:=[] },
 [(.ret, { np:=0,n:=1,gn:=3,next:=4,slots:=[(0,.i .i64 0)],objs:=[] })]⟩
def s70:bD:=⟨70, { np:=24,n:=33,gn:=3,next:=5,slots:=[(0,.dU 146 (.p 4 15))],objs:=[(4,.cells (dG 0 24) 35 true false)],ka:=1 },
 [(.ret, { np:=24,n:=1,gn:=3,next:=5,slots:=[(0,.i .i64 0)],objs:=[(4,.cells (dG 0 24) 35 true false)],ka:=1,al:=(oP 0 24) })]⟩
def s69:bD:=⟨69, { np:=24,n:=33,gn:=3,next:=5,slots:=[(0,.dU 146 (.p 4 14))],objs:=[(4,.cells (dG 0 24) 35 true false)],ka:=1 },
 [(.ret, { np:=24,n:=1,gn:=3,next:=5,slots:=[(0,.i .i64 0)],objs:=[(4,.cells (dG 0 24) 35 true false)],ka:=1,al:=(oP 0 24) })]⟩
def s68:bD:=⟨68, { np:=24,n:=33,gn:=3,next:=5,slots:=[(0,.dU 146 (.p 4 13))],objs:=[(4,.cells (dG 0 24) 35 true false)],ka:=1 },
 [(.ret, { np:=24,n:=1,gn:=3,next:=5,slots:=[(0,.i .i64 0)],objs:=[(4,.cells (dG 0 24) 35 true false)],ka:=1,al:=(oP 0 24) })]⟩
def s67:bD:=⟨67, { np:=24,n:=33,gn:=3,next:=5,slots:=[(0,.dU 146 (.p 4 12))],objs:=[(4,.cells (dG 0 24) 35 true false)],ka:=1 },
 [(.ret, { np:=24,n:=1,gn:=3,next:=5,slots:=[(0,.i .i64 0)],objs:=[(4,.cells (dG 0 24) 35 true false)],ka:=1,al:=(oP 0 24) })]⟩
def s66:bD:=⟨66, { np:=24,n:=33,gn:=3,next:=5,slots:=[(0,.dU 146 (.p 4 11))],objs:=[(4,.cells (dG 0 24) 35 true false)],ka:=1 },
 [(.ret, { np:=24,n:=1,gn:=3,next:=5,slots:=[(0,.i .i64 0)],objs:=[(4,.cells (dG 0 24) 35 true false)],ka:=1,al:=(oP 0 24) })]⟩
def s65:bD:=⟨65, { np:=24,n:=33,gn:=3,next:=5,slots:=[(0,.dU 146 (.p 4 10))],objs:=[(4,.cells (dG 0 24) 35 true false)],ka:=1 },
 [(.ret, { np:=24,n:=1,gn:=3,next:=5,slots:=[(0,.i .i64 0)],objs:=[(4,.cells (dG 0 24) 35 true false)],ka:=1,al:=(oP 0 24) })]⟩
def s64:bD:=⟨64, { np:=24,n:=33,gn:=3,next:=5,slots:=[(0,.dU 146 (.p 4 9))],objs:=[(4,.cells (dG 0 24) 35 true false)],ka:=1 },
 [(.ret, { np:=24,n:=1,gn:=3,next:=5,slots:=[(0,.i .i64 0)],objs:=[(4,.cells (dG 0 24) 35 true false)],ka:=1,al:=(oP 0 24) })]⟩
def s63:bD:=⟨63, { np:=24,n:=33,gn:=3,next:=5,slots:=[(0,.dU 146 (.p 4 8))],objs:=[(4,.cells (dG 0 24) 35 true false)],ka:=1 },
 [(.ret, { np:=24,n:=1,gn:=3,next:=5,slots:=[(0,.i .i64 0)],objs:=[(4,.cells (dG 0 24) 35 true false)],ka:=1,al:=(oP 0 24) })]⟩
def s62:bD:=⟨62, { np:=24,n:=33,gn:=3,next:=5,slots:=[(0,.dU 146 (.p 4 7))],objs:=[(4,.cells (dG 0 24) 35 true false)],ka:=1 },
 [(.ret, { np:=24,n:=1,gn:=3,next:=5,slots:=[(0,.i .i64 0)],objs:=[(4,.cells (dG 0 24) 35 true false)],ka:=1,al:=(oP 0 24) })]⟩
def s61:bD:=⟨61, { np:=24,n:=33,gn:=3,next:=5,slots:=[(0,.dU 146 (.p 4 6))],objs:=[(4,.cells (dG 0 24) 35 true false)],ka:=1 },
 [(.ret, { np:=24,n:=1,gn:=3,next:=5,slots:=[(0,.i .i64 0)],objs:=[(4,.cells (dG 0 24) 35 true false)],ka:=1,al:=(oP 0 24) })]⟩
def s60:bD:=⟨60, { np:=24,n:=33,gn:=3,next:=5,slots:=[(0,.dU 146 (.p 4 5))],objs:=[(4,.cells (dG 0 24) 35 true false)],ka:=1 },
 [(.ret, { np:=24,n:=1,gn:=3,next:=5,slots:=[(0,.i .i64 0)],objs:=[(4,.cells (dG 0 24) 35 true false)],ka:=1,al:=(oP 0 24) })]⟩
def s59:bD:=⟨59, { np:=24,n:=33,gn:=3,next:=5,slots:=[(0,.dU 146 (.p 4 4))],objs:=[(4,.cells (dG 0 24) 35 true false)],ka:=1 },
 [(.ret, { np:=24,n:=1,gn:=3,next:=5,slots:=[(0,.i .i64 0)],objs:=[(4,.cells (dG 0 24) 35 true false)],ka:=1,al:=(oP 0 24) })]⟩
def s58:bD:=⟨58, { np:=24,n:=33,gn:=3,next:=5,slots:=[(0,.dU 146 (.p 4 3))],objs:=[(4,.cells (dG 0 24) 35 true false)],ka:=1 },
 [(.ret, { np:=24,n:=1,gn:=3,next:=5,slots:=[(0,.i .i64 0)],objs:=[(4,.cells (dG 0 24) 35 true false)],ka:=1,al:=(oP 0 24) })]⟩
def s57:bD:=⟨57, { np:=24,n:=33,gn:=3,next:=5,slots:=[(0,.dU 146 (.p 4 2))],objs:=[(4,.cells (dG 0 24) 35 true false)],ka:=1 },
 [(.ret, { np:=24,n:=1,gn:=3,next:=5,slots:=[(0,.i .i64 0)],objs:=[(4,.cells (dG 0 24) 35 true false)],ka:=1,al:=(oP 0 24) })]⟩
def s56:bD:=⟨56, { np:=24,n:=33,gn:=3,next:=5,slots:=[(0,.dU 146 (.p 4 1))],objs:=[(4,.cells (dG 0 24) 35 true false)],ka:=1 },
 [(.ret, { np:=24,n:=1,gn:=3,next:=5,slots:=[(0,.i .i64 0)],objs:=[(4,.cells (dG 0 24) 35 true false)],ka:=1,al:=(oP 0 24) })]⟩
def s52:bD:=⟨52, { np:=24,n:=33,gn:=3,next:=5,slots:=[(0,.dU 154 (.p 4 22))],objs:=[(4,.cells (dG 0 24) 35 true false)],ka:=1 },
 [(.ret, { np:=25,n:=1,gn:=3,next:=5,slots:=[(0,.nd 0)],objs:=[(4,.cells (dG 1 24) 35 true false)],ka:=1,al:=[none,some 0,some 1,some 2,some 3,some 4,some 5,some 6,some 7,some 8,some 9,some 10,some 11,some 12,some 13,some 14,some 15,some 16,some 17,some 18,some 19,some 20,some 21,some 22,some 23] })]⟩
def s48:bD:=⟨48, { np:=24,n:=33,gn:=3,next:=5,slots:=[(0,.dU 153 (.p 4 21))],objs:=[(4,.cells (dG 0 24) 35 true false)],ka:=1 },
 [(.ret, { np:=25,n:=1,gn:=3,next:=5,slots:=[(0,.nd 0)],objs:=[(4,.cells (dG 1 24) 35 true false)],ka:=1,al:=[none,some 0,some 1,some 2,some 3,some 4,some 5,some 6,some 7,some 8,some 9,some 10,some 11,some 12,some 13,some 14,some 15,some 16,some 17,some 18,some 19,some 20,some 21,some 22,some 23] })]⟩
def s47:bD:=⟨47, { np:=24,n:=33,gn:=3,next:=5,slots:=[(0,.dU 151 (.p 4 20))],objs:=[(4,.cells (dG 0 24) 35 true false)],ka:=1 },
 [(.ret, { np:=25,n:=1,gn:=3,next:=5,slots:=[(0,.nd 0)],objs:=[(4,.cells (dG 1 24) 35 true false)],ka:=1,al:=[none,some 0,some 1,some 2,some 3,some 4,some 5,some 6,some 7,some 8,some 9,some 10,some 11,some 12,some 13,some 14,some 15,some 16,some 17,some 18,some 19,some 20,some 21,some 22,some 23] })]⟩
def s46:bD:=⟨46, { np:=24,n:=33,gn:=3,next:=5,slots:=[(0,.dU 151 (.p 4 19))],objs:=[(4,.cells (dG 0 24) 35 true false)],ka:=1 },
 [(.ret, { np:=25,n:=1,gn:=3,next:=5,slots:=[(0,.nd 0)],objs:=[(4,.cells (dG 1 24) 35 true false)],ka:=1,al:=[none,some 0,some 1,some 2,some 3,some 4,some 5,some 6,some 7,some 8,some 9,some 10,some 11,some 12,some 13,some 14,some 15,some 16,some 17,some 18,some 19,some 20,some 21,some 22,some 23] })]⟩
def s42:bD:=⟨42, { np:=24,n:=33,gn:=3,next:=5,slots:=[(0,.dU 151 (.p 4 18))],objs:=[(4,.cells (dG 0 24) 35 true false)],ka:=1 },
 [(.ret, { np:=25,n:=1,gn:=3,next:=5,slots:=[(0,.nd 0)],objs:=[(4,.cells (dG 1 24) 35 true false)],ka:=1,al:=[none,some 0,some 1,some 2,some 3,some 4,some 5,some 6,some 7,some 8,some 9,some 10,some 11,some 12,some 13,some 14,some 15,some 16,some 17,some 18,some 19,some 20,some 21,some 22,some 23] })]⟩
def s41:bD:=⟨41, { np:=24,n:=33,gn:=3,next:=5,slots:=[(0,.dU 148 (.p 4 17))],objs:=[(4,.cells (dG 0 24) 35 true false)],ka:=1 },
 [(.ret, { np:=24,n:=1,gn:=3,next:=5,slots:=[(0,.i .i64 0)],objs:=[(4,.cells (dG 0 24) 35 true false)],ka:=1,al:=(oP 0 24) })]⟩
def s40:bD:=⟨40, { np:=24,n:=33,gn:=3,next:=5,slots:=[(0,.dU 149 (.p 4 16))],objs:=[(4,.cells (dG 0 24) 35 true false)],ka:=1 },
 [(.ret, { np:=24,n:=1,gn:=3,next:=5,slots:=[(0,.i .i64 0)],objs:=[(4,.cells (dG 0 24) 35 true false)],ka:=1,al:=(oP 0 24) })]⟩
noncomputable def rows:List Row:=[
 .any (λgs out=>Ll gs=some out),
 .fn 8 [] [.sc] [] [],
 .fn 10 [] [.sc] [] [],
 .fn 46 [] [.sc] [] [(0,4)],
 .lp 46 [([],0)] s4 [] [],
 .fn 47 [] [.sc] [] [(0,6)],
 .lp 47 [([],0)] s6 [] [],
 .fn 66 [] [.sc] [] [(0,12)],
 .fn 53 [] [.sc] [] [(0,11)],
 .fn 103 [] [.sc] [] [(0,10)],
 .lp 103 [([],0)] s10 [] [],
 .lp 53 [([],0)] s11 [] [],
 .lp 66 [([],0)] s12 [] [],
 .fn 126 [] [.sc] [] [],
 .fn 48 [] [.sc] [] [(0,15)],
 .lp 48 [([],0)] s15 [] [],
 .fn 11 [] [.ag 24] [] [],
 .fn 49 [] [.sc] [] [],
 .fn 100 [] [.sc,.sc] [] [(0,19)],
 .lp 100 [([],0)] s19 [] [],
 .fn 36 [] [.ag 24,.sc] [] [],
 .fn 92 [] [.ag 24,.sc] [] [],
 .fn 13 [] [.sc,.sc] [] [],
 .fn 15 [] [.sc,.sc] [] [(0,77)],
 .fn 44 [] [.sc] [] [(0,36),(1,38),(2,39),(3,75)],
 .fn 25 [] [.sc] [] [],
 .fn 26 [] [.sc] [] [(0,28)],
 .fn 131 [] [.sc] [] [],
 .lp 26 [([],0)] s28 [] [],
 .fn 132 [] [.sc] [] [],
 .fn 133 [] [.sc] [] [],
 .fn 134 [] [.sc] [] [],
 .fn 135 [] [.sc] [] [],
 .fn 136 [] [.sc] [] [],
 .fn 137 [] [.sc] [] [],
 .fn 138 [] [.sc] [] [],
 .lp 44 [([],0)] s36 [] [],
 .told 77 [] [.sc],
 .lp 44 [([],1)] s38 [] [],
 .lp 44 [([],2)] s39 [] [],
 .fs 96 [] s40 [] [],
 .fs 96 [] s41 [] [],
 .fs 96 [] s42 [] [],
 .fn 156 [] [.sc] [] [],
 .fn 193 [] [.sc] [] [],
 .told 229 [] [.sc],
 .fs 96 [] s46 [] [],
 .fs 96 [] s47 [] [],
 .fs 96 [] s48 [] [],
 .fn 124 [] [.sc] [] [(0,50)],
 .lp 124 [([],0)] s50 [] [],
 .fn 173 [] [.sc] [] [],
 .fs 96 [] s52 [] [],
 .fn 23 [] [.sc] [] [(0,54)],
 .lp 23 [([],0)] s54 [] [],
 .fn 65 [] [.sc] [] [],
 .fs 96 [] s56 [] [],
 .fs 96 [] s57 [] [],
 .fs 96 [] s58 [] [],
 .fs 96 [] s59 [] [],
 .fs 96 [] s60 [] [],
 .fs 96 [] s61 [] [],
 .fs 96 [] s62 [] [],
 .fs 96 [] s63 [] [],
 .fs 96 [] s64 [] [],
 .fs 96 [] s65 [] [],
 .fs 96 [] s66 [] [],
 .fs 96 [] s67 [] [],
 .fs 96 [] s68 [] [],
 .fs 96 [] s69 [] [],
 .fs 96 [] s70 [] [],
 .fs 96 [] s71 [] [],
 .fn 98 [] [.sc] [] [],
 .fn 157 [] [.sc] [] [(0,74)],
 .lp 157 [([],0)] s74 [] [],
 .lp 44 [([],3)] s75 [] [(0,76)],
 .lp 44 [([],3),([],0)] s76 [] [],
 .lp 15 [([],0)] s77 [] [],
 .fn 32 [] [.ag 5,.sc] [] [],
 .fn 84 [] [.sc,.sc] [] [(0,80)],
 .lp 84 [([],0)] s80 [] [],
 .fn 146 [] [.sc] [] [],
 .fn 184 [] [.sc] [] [(0,83)],
 .lp 184 [([],0)] s83 [] [],
 .fn 56 [] [.sc,.sc] [] [(0,85),(1,86)],
 .lp 56 [([],0)] s85 [] [],
 .lp 56 [([],1)] s86 [] [],
 .told 115 [] [.sc],
 .fn 52 [] [.sc,.sc] [] [],
 .fn 101 [] [.sc] [] [(0,90)],
 .lp 101 [([],0)] s90 [] [],
 .fs 102 [] s91 [] [(0,92)],
 .lp 102 [([],0)] s92 [] [],
 .fn 24 [] [.ag 24,.sc] [] [(0,104),(1,110)],
 .fn 67 [] [.sc,.sc,.sc] [] [(0,95)],
 .lp 67 [([],0)] s95 [] [],
 .fn 68 [] [.sc,.sc] [] [],
 .fs 129 [] s97 [] [(0,98)],
 .lp 129 [([],0)] s98 [] [],
 .fs 177 [] s99 [] [],
 .fs 211 [] anQ [] [],
 .fs 212 [] anR [] [],
 .fs 213 [] anS [] [],
 .fs 214 [] anT [] [],
 .lp 24 [([],0)] anU [] [],
 .fn 70 [] [.sc] [] [(0,106)],
 .lp 70 [([],0)] anV [] [],
 .fn 69 [] [.sc,.sc] [] [(0,108),(1,109)],
 .lp 69 [([],0)] anW [] [],
 .lp 69 [([],1)] anX [] [],
 .lp 24 [([],1)] anY [] [],
 .fn 71 [] [.ag 24,.sc] [] [],
 .fn 74 [] [.ag 24] [] [(0,114)],
 .told 139 [] [.sc],
 .lp 74 [([],0)] anZ [] [],
 .fs 130 [] an0 [] [],
 .fn 179 [] [.sc] [] [],
 .fn 181 [] [.sc,.sc] [] [],
 .fs 215 [] an1 [] [(0,119)],
 .lp 215 [([],0)] an2 [] [],
 .fs 244 [] an3 [] [],
 .fs 255 [] an4 [] [],
 .fn 182 [] [.sc,.sc] [] [],
 .fs 216 [] an5 [] [(0,124)],
 .lp 216 [([],0)] an6 [] [],
 .fs 245 [] an7 [] [],
 .fs 246 [] an8 [] [],
 .fn 37 [] [.ag 24,.sc] [] [],
 .fn 40 [] [.sc] [] [(0,129)],
 .lp 40 [([],0)] an9 [] [],
 .fn 152 [] [.sc] [] [(0,131)],
 .lp 152 [([],0)] aoa [] [],
 .fn 153 [] [.sc] [] [],
 .fn 188 [none,none,some 189] [.sc] [] [(0,134)],
 .lp 188 [([],0)] aob [] [],
 .fn 189 [] [.sc] [] [],
 .fn 78 [] [.sc] [] [(0,137)],
 .lp 78 [([],0)] aoc [] [(0,138)],
 .lp 78 [([],0),([],0)] aod [] []]
noncomputable abbrev C:=vK Tryz.prog fG rows
noncomputable def afM:Code:=Tryz.f8.body.getD .skip
noncomputable def pl0:jJ:=PL.cons 112 (λN=>@VO N 0 113) (PL.cons 35 (λ_=>EG) (PL.cons 210 (λ_=>KT) (PL.nil)))
noncomputable def es:List (FuncId×List Nat):=[(96,[71,70,69,68,67,66,65,64,63,62,61,60,59,58,57,56,52,48,47,46,42,41,40]),(102,[91]),(129,[97]),(177,[99]),(211,[100]),(212,[101]),(213,[102]),(214,[103]),(130,[115]),(215,[118]),(244,[120]),(255,[121]),(216,[123]),(245,[125]),(246,[126]),(188,[133]),(44,[24]),(92,[21]),(133,[30]),(37,[127]),(157,[73]),(189,[135]),(134,[31]),(11,[16]),(25,[25]),(132,[29]),(48,[14]),(24,[93]),(115,[87]),(71,[111]),(74,[112]),(98,[72]),(70,[105]),(10,[2]),(32,[78]),(146,[81]),(49,[17]),(152,[130]),(193,[44]),(101,[89]),(84,[79]),(65,[55]),(47,[5]),(78,[136]),(52,[88]),(13,[22]),(136,[33]),(139,[113]),(135,[32]),(126,[13]),(23,[53]),(229,[45]),(68,[96]),(36,[20]),(46,[3]),(100,[18]),(66,[7]),(103,[9]),(77,[37]),(138,[35]),(124,[49]),(67,[94]),(53,[8]),(40,[128]),(173,[51]),(8,[1]),(153,[132]),(179,[116]),(56,[84]),(15,[23]),(156,[43]),(131,[27]),(182,[122]),(69,[107]),(137,[34]),(26,[26]),(184,[82]),(181,[117])]
noncomputable def pl:jJ:=acS Tryz.prog rows es pl0
end K
end Go.Proofs.YthgifdbaegpbpaaGreatDoor
