/- The shapes, and all definitions as rows. -/
import Derived.Test.YthgifdbaegpbpaaGreatDoorKRBase
import Derived.Test.YthgifdbaegpbpaaGreatDoorKVT
import Derived.Test.YthgifdbaegpbpaaGreatDoorAbsTab
import Derived.Test.YthgifdbaegpbpaaGreatDoorAbsPl
import Derived.Test.YthgifdbaegpbpaaGreatDoorAbsTold
import Derived.Test.YthgifdbaegpbpaaGreatDoorAbsTold2
import Derived.Test.YthgifdbaegpbpaaGreatDoorAbsTold3
import Derived.Test.YthgifdbaegpbpaaGreatDoorAbsFields
namespace Go.Proofs.YthgifdbaegpbpaaGreatDoor
open Go Go.aK
set_option maxRecDepth 100000
set_option linter.unusedVariables false
set_option linter.unusedSimpArgs false
namespace V
def bP:Nat->Nat->List AV
 | _,0=>[]
 | a,n+1=>.nd a::bP (a+1) n
def nR:Nat->Nat->List (Option Nat)
 | _,0=>[]
 | a,n+1=>some a::nR (a+1) n
theorem low:rJ dW Tryz.prog.globals.size:=by
 rw [TJ];refine ⟨λp hp=>?_,λp hp=>?_⟩
 all_goals
  simp only [dW,dR,Ig,or_false] at hp;rcases hp with rfl | rfl
  all_goals first | decide | rfl
def anK:aW:=⟨130, { np:=3,n:=37,gn:=3,next:=4,slots:=[(0,.nd 0),(1,.nd 1),(5,.nd 2)],objs:=[] },
 [(.ret, { np:=1,n:=37,gn:=3,next:=4,slots:=[(4,.nd 0)],objs:=[] }),
  (.exit 0, { np:=2,n:=37,gn:=3,next:=4,slots:=[(0,.nd 0),(1,.nd 1)],objs:=[],al:=[some 0,some 1] })]⟩
def an4:aW:=⟨178, { np:=11,n:=71,gn:=3,next:=4,slots:=[(0,.nd 0),(1,.nd 1),(5,.nd 2),(13,.nd 3),(14,.nd 2),(29,.nd 0),(30,.nd 2),(31,.rx 4 0),(32,.rx 4 0),(33,.nd 5),(34,.nd 6),(35,.nd 1),(36,.nd 2),(37,.rx 7 0),(38,.rx 7 0),(39,.nd 8),(40,.nd 9),(41,.b false),(48,.nd 6),(49,.nd 10)],objs:=[] },
 [(.ret, { np:=0,n:=71,gn:=3,next:=4,slots:=[(4,.b false)],objs:=[] }),
  (.exit 2, { np:=10,n:=71,gn:=3,next:=4,slots:=[(0,.nd 0),(1,.nd 1),(13,.nd 2),(14,.nd 3),(29,.nd 0),(30,.nd 3),(31,.rx 4 0),(32,.rx 4 0),(33,.nd 5),(34,.nd 6),(35,.nd 1),(36,.nd 3),(37,.rx 7 0),(38,.rx 7 0),(39,.nd 8),(40,.nd 9),(41,.b false)],objs:=[],al:=[some 0,some 1,some 3,some 2,some 4,some 5,some 6,some 7,some 8,some 9] })]⟩
def anA:aW:=⟨102, { np:=5,n:=73,gn:=3,next:=4,slots:=[(0,.nd 0),(5,.nd 1),(7,.nd 2),(8,.nd 3),(9,.nd 4)],objs:=[] },
 [(.exit 2, { np:=2,n:=73,gn:=3,next:=4,slots:=[(5,.nd 0),(7,.nd 1)],objs:=[] })]⟩
def s55:aW:=⟨55, { np:=28,n:=116,gn:=3,next:=6,slots:=[(2,.p 4 0),(6,.nd 0),(7,.mp 5),(44,.nd 0),(45,.nd 1),(46,.nd 2)],objs:=[(5,.smap 3 none none),(4,.cells (bP 4 24) 35 true false)] },
 [(.exit 0, { np:=26,n:=116,gn:=3,next:=6,slots:=[(2,.p 4 0),(6,.nd 0),(7,.mp 5)],objs:=[(5,.smap 1 none none),(4,.cells (bP 2 24) 35 true false)],al:=[some 0,none,some 4,some 5,some 6,some 7,some 8,some 9,some 10,some 11,some 12,some 13,some 14,some 15,some 16,some 17,some 18,some 19,some 20,some 21,some 22,some 23,some 24,some 25,some 26,some 27] })]⟩
def an6:aW:=⟨181, { np:=50,n:=93,gn:=3,next:=6,slots:=[(2,.p 4 0),(3,.p 5 0),(77,.nd 0),(78,.nd 1)],objs:=[(5,.cells (bP 2 24) 41 true false),(4,.cells (bP 26 24) 41 true false)] },
 [(.ret, { np:=0,n:=93,gn:=3,next:=4,slots:=[(4,.b false)],objs:=[] }),
  (.exit 2, { np:=0,n:=93,gn:=3,next:=4,slots:=[],objs:=[] })]⟩
def s98:aW:=⟨98, { np:=11,n:=116,gn:=3,next:=5,slots:=[(6,.nd 0),(18,.p 4 0),(97,.nd 1),(98,.nd 2),(99,.nd 3),(103,.nd 0),(104,.nd 4),(105,.nd 5)],objs:=[(4,.cells (bP 6 5) 72 true false)] },
 [(.ret, { np:=0,n:=116,gn:=3,next:=4,slots:=[(4,.i .i64 14)],objs:=[] }),
  (.exit 8, { np:=4,n:=116,gn:=3,next:=4,slots:=[(6,.nd 0),(97,.nd 1),(98,.nd 2),(99,.nd 3)],objs:=[],al:=(nR 0 4) })]⟩
def anP:aW:=⟨143, { np:=32,n:=127,gn:=3,next:=5,slots:=[(2,.p 4 0),(5,.nd 0),(7,.nd 1),(8,.nd 2),(32,.nd 3),(33,.nd 4),(34,.nd 5),(38,.nd 0),(39,.nd 6),(40,.nd 7)],objs:=[(4,.cells (bP 8 24) 41 true false)] },
 [(.exit 2, { np:=30,n:=127,gn:=3,next:=5,slots:=[(2,.p 4 0),(5,.nd 0),(7,.nd 1),(8,.nd 2),(32,.nd 3),(33,.nd 4),(34,.nd 5)],objs:=[(4,.cells (bP 6 24) 41 true false)],al:=[some 0,some 1,none,some 3,some 4,some 5,some 8,some 9,some 10,some 11,some 12,some 13,some 14,some 15,some 16,some 17,some 18,some 19,some 20,some 21,some 22,some 23,some 24,some 25,some 26,some 27,some 28,some 29,some 30,some 31] })]⟩
def s43:aW:=⟨43, { np:=5,n:=60,gn:=3,next:=6,slots:=[(0,.p 4 0),(7,.sv 5 0),(28,.nd 1),(29,.nd 2)],objs:=[(4,.cells [.nd 3,.nd 4] 264 true false),(5,.vec 0 171 false)],ka:=1 },
 [(.ret, { np:=3,n:=60,gn:=3,next:=5,slots:=[(2,.bf),(3,.nd 0)],objs:=[(4,.cells [.nd 1,.nd 2] 264 true false)],ka:=1 }),
  (.exit 0, { np:=3,n:=60,gn:=3,next:=6,slots:=[(7,.sv 5 0)],objs:=[(4,.cells [.nd 1,.nd 2] 264 true false),(5,.vec 0 171 false)],ka:=1 })]⟩
def s28:aW:=⟨28, { np:=5,n:=53,gn:=3,next:=5,slots:=[(0,.nd 0),(4,.bf),(5,.bf),(6,.mp 4),(13,.nd 1),(14,.nd 2),(15,.nd 3)],objs:=[(4,.smap 4 (some .u64) none)] },
 [(.exit 0, { np:=2,n:=53,gn:=3,next:=5,slots:=[(0,.nd 0),(4,.bf),(5,.bf),(6,.mp 4)],objs:=[(4,.smap 1 (some .u64) none)],al:=[some 0,none] })]⟩
def anG:aW:=⟨115, { np:=5,n:=24,gn:=3,next:=4,slots:=[(0,.nd 0),(3,.nd 1),(11,.nd 2),(12,.nd 3),(13,.nd 4)],objs:=[] },
 [(.ret, { np:=1,n:=24,gn:=3,next:=4,slots:=[(2,.nd 0)],objs:=[] }),
  (.exit 2, { np:=2,n:=24,gn:=3,next:=4,slots:=[(0,.nd 0),(3,.nd 1)],objs:=[],al:=[some 0,some 1] })]⟩
def anz:aW:=⟨101, { np:=3,n:=73,gn:=3,next:=4,slots:=[(0,.nd 0),(5,.nd 1),(6,.nd 2)],objs:=[] },
 [(.exit 0, { np:=2,n:=73,gn:=3,next:=4,slots:=[(0,.nd 0),(5,.nd 1)],objs:=[] })]⟩
def anY:aW:=⟨166, { np:=11,n:=127,gn:=3,next:=5,slots:=[(5,.nd 0),(16,.p 4 0),(108,.nd 1),(109,.nd 2),(110,.nd 3),(114,.nd 0),(115,.nd 4),(116,.nd 5)],objs:=[(4,.cells (bP 6 5) 109 true false)] },
 [(.ret, { np:=0,n:=127,gn:=3,next:=4,slots:=[(4,.i .i64 14)],objs:=[] }),
  (.exit 8, { np:=4,n:=127,gn:=3,next:=4,slots:=[(5,.nd 0),(108,.nd 1),(109,.nd 2),(110,.nd 3)],objs:=[],al:=(nR 0 4) })]⟩
def s24:aW:=⟨24, { np:=7,n:=123,gn:=3,next:=6,slots:=[(1,.nd 0),(4,.p 4 0),(9,.nd 1),(11,.nd 2),(12,.mp 5),(70,.nd 3),(71,.nd 4),(72,.nd 5)],objs:=[(5,.smap 6 (some .u64) none),(4,.cells [.i .i64 0,.i .u64 0,.i .u64 0,.i .u64 0,.i .u64 0,.i .u64 0,.i .u64 0,.i .u64 0,.i .u64 0,.i .u64 0,.i .u64 0,.i .u64 0,.i .u64 0,.i .u64 0,.i .u64 0,.i .u64 0,.i .i64 0,.b false,.s [],.s [],.s [],.bf,.bf,.bf] 35 true false)] },
 [(.exit 0, { np:=4,n:=123,gn:=3,next:=6,slots:=[(1,.nd 0),(4,.p 4 0),(9,.nd 1),(11,.nd 2),(12,.mp 5)],objs:=[(5,.smap 3 (some .u64) none),(4,.cells [.i .i64 0,.i .u64 0,.i .u64 0,.i .u64 0,.i .u64 0,.i .u64 0,.i .u64 0,.i .u64 0,.i .u64 0,.i .u64 0,.i .u64 0,.i .u64 0,.i .u64 0,.i .u64 0,.i .u64 0,.i .u64 0,.i .i64 0,.b false,.s [],.s [],.s [],.bf,.bf,.bf] 35 true false)],al:=[some 0,some 1,some 2,none] })]⟩
def s69:aW:=⟨69, { np:=4,n:=42,gn:=3,next:=4,slots:=[(3,.nd 0),(11,.nd 1),(12,.nd 2),(13,.nd 3)],objs:=[] },
 [(.ret, { np:=1,n:=42,gn:=3,next:=4,slots:=[(2,.nd 0)],objs:=[] }),
  (.exit 0, { np:=0,n:=42,gn:=3,next:=4,slots:=[],objs:=[] })]⟩
def s66:aW:=⟨66, { np:=3,n:=42,gn:=3,next:=4,slots:=[(0,.nd 0),(15,.nd 0),(16,.nd 1),(17,.nd 2)],objs:=[] },
 [(.ret, { np:=1,n:=42,gn:=3,next:=4,slots:=[(2,.nd 0)],objs:=[] }),
  (.exit 0, { np:=0,n:=42,gn:=3,next:=4,slots:=[],objs:=[] })]⟩
def anE:aW:=⟨111, { np:=38,n:=123,gn:=3,next:=8,slots:=[(1,.nd 0),(4,.p 4 0),(6,.nd 1),(10,.p 5 0),(12,.p 6 0),(13,.nd 2),(67,.nd 3),(68,.nd 4),(69,.nd 5),(76,.nd 6),(77,.nd 7),(78,.nd 8)],objs:=[(6,.cells (bP 9 5) 109 true false),(5,.cells [.nd 14,.nd 15,.nd 16,.nd 17,.nd 18,.nd 19,.nd 20,.nd 21,.nd 22,.nd 23,.nd 24,.nd 25,.nd 26,.nd 27,.nd 28,.nd 29,.nd 30,.nd 31,.nd 32,.nd 33,.nd 34,.nd 35,.nd 36,.sv 7 37] 41 true false),(7,.vec 37 109 true),(4,.cells [.i .i64 0,.i .u64 0,.i .u64 0,.i .u64 0,.i .u64 0,.i .u64 0,.i .u64 0,.i .u64 0,.i .u64 0,.i .u64 0,.i .u64 0,.i .u64 0,.i .u64 0,.i .u64 0,.i .u64 0,.i .u64 0,.i .i64 0,.b false,.s [],.s [],.s [],.bf,.bf,.bf] 41 true false)] },
 [(.ret, { np:=1,n:=123,gn:=3,next:=5,slots:=[(4,.p 4 0),(5,.nd 0)],objs:=[(4,.cells [.i .i64 0,.i .u64 0,.i .u64 0,.i .u64 0,.i .u64 0,.i .u64 0,.i .u64 0,.i .u64 0,.i .u64 0,.i .u64 0,.i .u64 0,.i .u64 0,.i .u64 0,.i .u64 0,.i .u64 0,.i .u64 0,.i .i64 0,.b false,.s [],.s [],.s [],.bf,.bf,.bf] 41 true false)] }),
  (.exit 2, { np:=35,n:=123,gn:=3,next:=8,slots:=[(1,.nd 0),(4,.p 4 0),(6,.nd 1),(10,.p 5 0),(12,.p 6 0),(13,.nd 2),(67,.nd 3),(68,.nd 4),(69,.nd 5)],objs:=[(6,.cells (bP 6 5) 109 true false),(5,.cells [.nd 11,.nd 12,.nd 13,.nd 14,.nd 15,.nd 16,.nd 17,.nd 18,.nd 19,.nd 20,.nd 21,.nd 22,.nd 23,.nd 24,.nd 25,.nd 26,.nd 27,.nd 28,.nd 29,.nd 30,.nd 31,.nd 32,.nd 33,.sv 7 34] 41 true false),(7,.vec 34 109 true),(4,.cells [.i .i64 0,.i .u64 0,.i .u64 0,.i .u64 0,.i .u64 0,.i .u64 0,.i .u64 0,.i .u64 0,.i .u64 0,.i .u64 0,.i .u64 0,.i .u64 0,.i .u64 0,.i .u64 0,.i .u64 0,.i .u64 0,.i .i64 0,.b false,.s [],.s [],.s [],.bf,.bf,.bf] 41 true false)],al:=[some 0,some 1,none,some 3,some 4,some 5,some 9,some 10,some 11,some 12,some 13,none,none,none,none,none,none,none,none,none,none,none,none,none,none,none,none,none,none,none,none,none,none,none,none] })]⟩
def s16:aW:=⟨16, { np:=5,n:=46,gn:=3,next:=5,slots:=[(1,.nd 0),(7,.sv 4 1),(30,.nd 2),(31,.nd 3),(32,.nd 4)],objs:=[(4,.vec 1 65 true)] },
 [(.exit 0, { np:=1,n:=46,gn:=3,next:=5,slots:=[(7,.sv 4 0)],objs:=[(4,.vec 0 65 true)] })]⟩
def an0:aW:=⟨171, { np:=4,n:=23,gn:=3,next:=5,slots:=[(3,.sv 4 0),(6,.nd 1),(7,.nd 2),(8,.nd 3)],objs:=[(4,.vec 0 178 true)] },
 [(.exit 0, { np:=1,n:=23,gn:=3,next:=5,slots:=[(3,.sv 4 0)],objs:=[(4,.vec 0 178 true)] })]⟩
def anW:aW:=⟨164, { np:=4,n:=91,gn:=3,next:=4,slots:=[(0,.nd 0),(1,.nd 1),(8,.nd 0),(9,.nd 2),(10,.nd 3)],objs:=[] },
 [(.ret, { np:=1,n:=91,gn:=3,next:=4,slots:=[(4,.nd 0)],objs:=[] }),
  (.exit 0, { np:=0,n:=91,gn:=3,next:=4,slots:=[],objs:=[] })]⟩
def an5:aW:=⟨180, { np:=4,n:=81,gn:=3,next:=4,slots:=[(0,.nd 0),(1,.nd 1),(12,.nd 2),(13,.nd 3)],objs:=[] },
 [(.ret, { np:=0,n:=81,gn:=3,next:=4,slots:=[(4,.b false)],objs:=[] }),
  (.exit 0, { np:=0,n:=81,gn:=3,next:=4,slots:=[],objs:=[] })]⟩
def s29:aW:=⟨29, { np:=6,n:=53,gn:=3,next:=7,slots:=[(0,.nd 0),(4,.sv 4 1),(5,.sv 5 2),(6,.mp 6),(23,.nd 3),(24,.nd 4)],objs:=[(6,.smap 5 (some .u64) none),(5,.vec 2 72 true),(4,.vec 1 72 true)] },
 [(.exit 2, { np:=2,n:=53,gn:=3,next:=6,slots:=[(4,.sv 4 0),(5,.sv 5 1)],objs:=[(5,.vec 1 72 true),(4,.vec 0 72 true)] })]⟩
def s57:aW:=⟨57, { np:=29,n:=116,gn:=3,next:=6,slots:=[(2,.p 4 0),(6,.nd 0),(7,.mp 5),(54,.nd 1),(55,.nd 2),(56,.nd 3)],objs:=[(5,.smap 4 none none),(4,.cells (bP 5 24) 35 true false)] },
 [(.ret, { np:=0,n:=116,gn:=3,next:=4,slots:=[(4,.i .i64 26)],objs:=[] }),
  (.exit 2, { np:=25,n:=116,gn:=3,next:=5,slots:=[(2,.p 4 0),(6,.nd 0)],objs:=[(4,.cells (bP 1 24) 35 true false)],al:=[some 0,some 5,some 6,some 7,some 8,some 9,some 10,some 11,some 12,some 13,some 14,some 15,some 16,some 17,some 18,some 19,some 20,some 21,some 22,some 23,some 24,some 25,some 26,some 27,some 28] })]⟩
def anS:aW:=⟨155, { np:=3,n:=67,gn:=3,next:=4,slots:=[(0,.nd 0),(9,.nd 1),(10,.nd 2)],objs:=[] },
 [(.ret, { np:=1,n:=67,gn:=3,next:=4,slots:=[(2,.nd 0)],objs:=[] }),
  (.exit 0, { np:=0,n:=67,gn:=3,next:=4,slots:=[],objs:=[] })]⟩
def anD:aW:=⟨110, { np:=5,n:=29,gn:=3,next:=5,slots:=[(1,.nd 0),(5,.sv 4 1),(9,.nd 2),(10,.nd 3),(11,.nd 4)],objs:=[(4,.vec 1 105 true)] },
 [(.exit 0, { np:=1,n:=29,gn:=3,next:=5,slots:=[(5,.sv 4 0)],objs:=[(4,.vec 0 105 true)] })]⟩
def anT:aW:=⟨158, { np:=3,n:=41,gn:=3,next:=4,slots:=[(0,.nd 0),(3,.nd 1),(4,.nd 2)],objs:=[] },
 [(.exit 0, { np:=1,n:=41,gn:=3,next:=4,slots:=[(3,.nd 0)],objs:=[] })]⟩
def anR:aW:=⟨151, { np:=4,n:=22,gn:=3,next:=4,slots:=[(3,.nd 0),(10,.nd 1),(11,.nd 2),(12,.nd 3)],objs:=[] },
 [(.exit 0, { np:=1,n:=22,gn:=3,next:=4,slots:=[(3,.nd 0)],objs:=[] })]⟩
def an3:aW:=⟨177, { np:=4,n:=71,gn:=3,next:=4,slots:=[(0,.nd 0),(1,.nd 1),(13,.nd 2),(14,.nd 3)],objs:=[] },
 [(.ret, { np:=0,n:=71,gn:=3,next:=4,slots:=[(4,.b false)],objs:=[] }),
  (.exit 0, { np:=0,n:=71,gn:=3,next:=4,slots:=[],objs:=[] })]⟩
def s75:aW:=⟨75, { np:=4,n:=33,gn:=3,next:=5,slots:=[(0,.nd 0),(3,.sv 4 1),(9,.nd 2),(10,.nd 3)],objs:=[(4,.vec 1 5 false)] },
 [(.exit 0, { np:=1,n:=33,gn:=3,next:=5,slots:=[(3,.sv 4 0)],objs:=[(4,.vec 0 5 false)] })]⟩
def s49:aW:=⟨49, { np:=6,n:=56,gn:=3,next:=6,slots:=[(0,.p 4 0),(6,.sv 5 0),(7,.nd 1),(25,.nd 2),(26,.nd 3)],objs:=[(4,.cells [.nd 4,.nd 5] 264 true false),(5,.vec 0 117 false)],ka:=1 },
 [(.ret, { np:=3,n:=56,gn:=3,next:=5,slots:=[(2,.bf),(3,.nd 0)],objs:=[(4,.cells [.nd 1,.nd 2] 264 true false)],ka:=1 }),
  (.exit 0, { np:=3,n:=56,gn:=3,next:=6,slots:=[(6,.sv 5 0)],objs:=[(4,.cells [.nd 1,.nd 2] 264 true false),(5,.vec 0 117 false)],ka:=1 })]⟩
def anJ:aW:=⟨123, { np:=4,n:=63,gn:=3,next:=5,slots:=[(0,.nd 0),(5,.nd 1),(8,.sv 4 2),(9,.nd 3)],objs:=[(4,.vec 2 162 true)] },
 [(.ret, { np:=1,n:=63,gn:=3,next:=4,slots:=[(2,.bf),(3,.s []),(4,.nd 0)],objs:=[] }),
  (.exit 0, { np:=2,n:=63,gn:=3,next:=5,slots:=[(0,.nd 0),(8,.sv 4 1)],objs:=[(4,.vec 1 162 true)] })]⟩
def s26:aW:=⟨26, { np:=4,n:=23,gn:=3,next:=5,slots:=[(5,.sv 4 0),(10,.nd 1),(11,.nd 2),(12,.nd 3)],objs:=[(4,.vec 0 22 true)] },
 [(.exit 0, { np:=1,n:=23,gn:=3,next:=5,slots:=[(5,.sv 4 0)],objs:=[(4,.vec 0 22 true)] })]⟩
def anH:aW:=⟨118, { np:=1,n:=14,gn:=3,next:=4,slots:=[(0,.nd 0)],objs:=[] },
 [(.ret, { np:=0,n:=14,gn:=3,next:=4,slots:=[(2,.b false)],objs:=[] }),
  (.exit 0, { np:=0,n:=14,gn:=3,next:=4,slots:=[],objs:=[] })]⟩
def anQ:aW:=⟨150, { np:=2,n:=22,gn:=3,next:=4,slots:=[(0,.nd 0),(3,.nd 1)],objs:=[] },
 [(.exit 0, { np:=2,n:=22,gn:=3,next:=4,slots:=[(0,.nd 0),(3,.nd 1)],objs:=[] })]⟩
def an1:aW:=⟨173, { np:=4,n:=29,gn:=3,next:=5,slots:=[(3,.sv 4 0),(6,.nd 1),(7,.nd 2),(8,.nd 3)],objs:=[(4,.vec 0 109 true)] },
 [(.exit 0, { np:=1,n:=29,gn:=3,next:=5,slots:=[(3,.sv 4 0)],objs:=[(4,.vec 0 109 true)] })]⟩
def s97:aW:=⟨97, { np:=4,n:=116,gn:=3,next:=4,slots:=[(6,.nd 0),(97,.nd 1),(98,.nd 2),(99,.nd 3)],objs:=[] },
 [(.ret, { np:=0,n:=116,gn:=3,next:=4,slots:=[(4,.i .i64 14)],objs:=[] }),
  (.exit 6, { np:=0,n:=116,gn:=3,next:=4,slots:=[],objs:=[] })]⟩
def s76:aW:=⟨76, { np:=4,n:=22,gn:=3,next:=6,slots:=[(3,.p 4 0),(11,.nd 0),(12,.nd 1),(13,.nd 2)],objs:=[(4,.cells [.p 4 0,.sv 5 3] 204 true false),(5,.vec 3 5 true)] },
 [(.exit 0, { np:=1,n:=22,gn:=3,next:=6,slots:=[(3,.p 4 0)],objs:=[(4,.cells [.p 4 0,.sv 5 0] 204 true false),(5,.vec 0 5 true)] })]⟩
def anB:aW:=⟨105, { np:=4,n:=35,gn:=3,next:=5,slots:=[(0,.nd 0),(1,.nd 1),(6,.sv 4 2),(7,.nd 3)],objs:=[(4,.vec 2 109 true)] },
 [(.ret, { np:=1,n:=35,gn:=3,next:=4,slots:=[(4,.bf),(5,.nd 0)],objs:=[] }),
  (.exit 0, { np:=1,n:=35,gn:=3,next:=5,slots:=[(6,.sv 4 0)],objs:=[(4,.vec 0 109 true)] })]⟩
def s96:aW:=⟨96, { np:=5,n:=46,gn:=3,next:=4,slots:=[(1,.nd 0),(5,.nd 1),(9,.nd 2),(10,.nd 3),(11,.nd 4)],objs:=[] },
 [(.ret, { np:=1,n:=46,gn:=3,next:=4,slots:=[(4,.nd 0)],objs:=[] }),
  (.exit 0, { np:=0,n:=46,gn:=3,next:=4,slots:=[],objs:=[] })]⟩
def s58:aW:=⟨58, { np:=27,n:=116,gn:=3,next:=5,slots:=[(2,.p 4 0),(6,.nd 0),(71,.nd 0),(72,.nd 1),(73,.nd 2)],objs:=[(4,.cells (bP 3 24) 35 true false)] },
 [(.ret, { np:=1,n:=116,gn:=3,next:=4,slots:=[(4,.nd 0)],objs:=[] }),
  (.exit 4, { np:=25,n:=116,gn:=3,next:=5,slots:=[(2,.p 4 0),(6,.nd 0)],objs:=[(4,.cells (bP 1 24) 35 true false)],al:=[some 0,some 3,some 4,some 5,some 6,some 7,some 8,some 9,some 10,some 11,some 12,some 13,some 14,some 15,some 16,some 17,some 18,some 19,some 20,some 21,some 22,some 23,some 24,some 25,some 26] })]⟩
def anI:aW:=⟨120, { np:=5,n:=81,gn:=3,next:=4,slots:=[(0,.nd 0),(4,.nd 1),(5,.nd 2),(6,.nd 3),(7,.nd 4)],objs:=[] },
 [(.ret, { np:=0,n:=81,gn:=3,next:=4,slots:=[(2,.i .i64 0)],objs:=[] }),
  (.exit 0, { np:=3,n:=81,gn:=3,next:=4,slots:=[(4,.nd 0),(5,.nd 1),(6,.nd 2)],objs:=[],al:=[some 1,none,some 3] })]⟩
def s4:aW:=⟨4, { np:=4,n:=50,gn:=3,next:=4,slots:=[(0,.nd 0),(5,.nd 1),(9,.nd 2),(10,.nd 3)],objs:=[] },
 [(.ret, { np:=3,n:=50,gn:=3,next:=4,slots:=[(2,.nd 0),(3,.nd 1),(4,.nd 2)],objs:=[] }),
  (.exit 0, { np:=1,n:=50,gn:=3,next:=4,slots:=[(0,.nd 0)],objs:=[] })]⟩
def anZ:aW:=⟨169, { np:=4,n:=18,gn:=3,next:=5,slots:=[(3,.sv 4 0),(6,.nd 1),(7,.nd 2),(8,.nd 3)],objs:=[(4,.vec 0 162 true)] },
 [(.exit 0, { np:=1,n:=18,gn:=3,next:=5,slots:=[(3,.sv 4 0)],objs:=[(4,.vec 0 162 true)] })]⟩
def anX:aW:=⟨165, { np:=4,n:=127,gn:=3,next:=4,slots:=[(5,.nd 0),(108,.nd 1),(109,.nd 2),(110,.nd 3)],objs:=[] },
 [(.ret, { np:=0,n:=127,gn:=3,next:=4,slots:=[(4,.i .i64 14)],objs:=[] }),
  (.exit 6, { np:=0,n:=127,gn:=3,next:=4,slots:=[],objs:=[] })]⟩
def anU:aW:=⟨160, { np:=4,n:=40,gn:=3,next:=4,slots:=[(0,.nd 0),(3,.nd 1),(11,.nd 0),(12,.nd 2),(13,.nd 3)],objs:=[] },
 [(.exit 0, { np:=1,n:=40,gn:=3,next:=4,slots:=[(3,.nd 0)],objs:=[] })]⟩
def s52:aW:=⟨52, { np:=3,n:=28,gn:=3,next:=4,slots:=[(0,.nd 0),(1,.nd 1),(5,.nd 2)],objs:=[] },
 [(.exit 0, { np:=1,n:=28,gn:=3,next:=4,slots:=[(5,.nd 0)],objs:=[] })]⟩
def anL:aW:=⟨133, { np:=5,n:=81,gn:=3,next:=5,slots:=[(0,.nd 0),(5,.nd 1),(8,.sv 4 2),(9,.nd 3),(10,.nd 4)],objs:=[(4,.vec 2 178 true)] },
 [(.ret, { np:=1,n:=81,gn:=3,next:=4,slots:=[(2,.bf),(3,.s []),(4,.nd 0)],objs:=[] }),
  (.exit 0, { np:=2,n:=81,gn:=3,next:=5,slots:=[(0,.nd 0),(8,.sv 4 1)],objs:=[(4,.vec 1 178 true)] })]⟩
def anF:aW:=⟨114, { np:=2,n:=24,gn:=3,next:=4,slots:=[(0,.nd 0),(3,.nd 1)],objs:=[] },
 [(.ret, { np:=1,n:=24,gn:=3,next:=4,slots:=[(2,.nd 0)],objs:=[] }),
  (.exit 0, { np:=0,n:=24,gn:=3,next:=4,slots:=[],objs:=[] })]⟩
def anO:aW:=⟨142, { np:=28,n:=127,gn:=3,next:=5,slots:=[(2,.p 4 0),(5,.nd 0),(32,.nd 1),(33,.nd 2),(34,.nd 3)],objs:=[(4,.cells (bP 4 24) 41 true false)] },
 [(.ret, { np:=0,n:=127,gn:=3,next:=4,slots:=[(4,.i .i64 26)],objs:=[] }),
  (.exit 0, { np:=25,n:=127,gn:=3,next:=5,slots:=[(2,.p 4 0),(5,.nd 0)],objs:=[(4,.cells (bP 1 24) 41 true false)],al:=[some 0,some 4,some 5,some 6,some 7,some 8,some 9,some 10,some 11,some 12,some 13,some 14,some 15,some 16,some 17,some 18,some 19,some 20,some 21,some 22,some 23,some 24,some 25,some 26,some 27] })]⟩
def an2:aW:=⟨175, { np:=51,n:=93,gn:=3,next:=6,slots:=[(2,.p 4 0),(3,.p 5 0),(12,.nd 0),(13,.nd 1),(14,.nd 2)],objs:=[(5,.cells (bP 3 24) 41 true false),(4,.cells (bP 27 24) 41 true false)] },
 [(.ret, { np:=0,n:=93,gn:=3,next:=4,slots:=[(4,.b false)],objs:=[] }),
  (.exit 0, { np:=48,n:=93,gn:=3,next:=6,slots:=[(2,.p 4 0),(3,.p 5 0)],objs:=[(5,.cells (bP 0 24) 41 true false),(4,.cells (bP 24 24) 41 true false)],al:=(nR 3 48) })]⟩
def s8:aW:=⟨8, { np:=5,n:=26,gn:=3,next:=7,slots:=[(0,.p 4 0),(4,.sv 6 0)],objs:=[(4,.cells [.p 5 0,.nd 1,.nd 2] 212 true false),(5,.cells [.nd 3,.nd 4] 264 true false),(6,.vec 0 72 true)],ka:=2 },
 [(.ret, { np:=5,n:=26,gn:=3,next:=6,slots:=[(2,.bf),(3,.nd 0)],objs:=[(4,.cells [.p 5 0,.nd 1,.nd 2] 212 true false),(5,.cells [.nd 3,.nd 4] 264 true false)],ka:=2,al:=[none,some 1,none,none,none] }),
  (.exit 0, { np:=5,n:=26,gn:=3,next:=7,slots:=[(4,.sv 6 0)],objs:=[(4,.cells [.p 5 0,.nd 1,.nd 2] 212 true false),(5,.cells [.nd 3,.nd 4] 264 true false),(6,.vec 0 72 true)],ka:=2,al:=[none,some 1,none,none,none] })]⟩
def s31:aW:=⟨31, { np:=30,n:=123,gn:=3,next:=7,slots:=[(1,.nd 0),(4,.p 4 0),(12,.mp 5),(15,.p 6 0),(17,.nd 1),(92,.nd 2),(93,.nd 3),(94,.nd 4)],objs:=[(6,.cells (bP 5 24) 35 true false),(5,.smap 29 (some .u64) none),(4,.cells [.i .i64 0,.i .u64 0,.i .u64 0,.i .u64 0,.i .u64 0,.i .u64 0,.i .u64 0,.i .u64 0,.i .u64 0,.i .u64 0,.i .u64 0,.i .u64 0,.i .u64 0,.i .u64 0,.i .u64 0,.i .u64 0,.i .i64 0,.b false,.s [],.s [],.s [],.bf,.bf,.bf] 35 true false)] },
 [(.ret, { np:=1,n:=123,gn:=3,next:=5,slots:=[(4,.p 4 0),(5,.nd 0)],objs:=[(4,.cells [.i .i64 0,.i .u64 0,.i .u64 0,.i .u64 0,.i .u64 0,.i .u64 0,.i .u64 0,.i .u64 0,.i .u64 0,.i .u64 0,.i .u64 0,.i .u64 0,.i .u64 0,.i .u64 0,.i .u64 0,.i .u64 0,.i .i64 0,.b false,.s [],.s [],.s [],.bf,.bf,.bf] 35 true false)] }),
  (.exit 2, { np:=26,n:=123,gn:=3,next:=6,slots:=[(1,.nd 0),(4,.p 4 0),(15,.p 5 0),(17,.nd 1)],objs:=[(5,.cells (bP 2 24) 35 true false),(4,.cells [.i .i64 0,.i .u64 0,.i .u64 0,.i .u64 0,.i .u64 0,.i .u64 0,.i .u64 0,.i .u64 0,.i .u64 0,.i .u64 0,.i .u64 0,.i .u64 0,.i .u64 0,.i .u64 0,.i .u64 0,.i .u64 0,.i .i64 0,.b false,.s [],.s [],.s [],.bf,.bf,.bf] 35 true false)],al:=[some 0,some 1,none,none,none,none,none,none,none,none,none,none,none,none,none,none,none,none,none,none,none,none,none,none,none,none] })]⟩
def anM:aW:=⟨137, { np:=3,n:=31,gn:=3,next:=4,slots:=[(0,.nd 0),(1,.nd 1),(5,.nd 2)],objs:=[] },
 [(.ret, { np:=1,n:=31,gn:=3,next:=4,slots:=[(4,.nd 0)],objs:=[] }),
  (.exit 0, { np:=2,n:=31,gn:=3,next:=4,slots:=[(0,.nd 0),(1,.nd 1)],objs:=[],al:=[some 0,some 1] })]⟩
def anC:aW:=⟨107, { np:=29,n:=123,gn:=3,next:=7,slots:=[(1,.nd 0),(4,.p 4 0),(6,.nd 1),(10,.p 5 0),(67,.nd 2),(68,.nd 3),(69,.nd 4)],objs:=[(5,.cells [.nd 5,.nd 6,.nd 7,.nd 8,.nd 9,.nd 10,.nd 11,.nd 12,.nd 13,.nd 14,.nd 15,.nd 16,.nd 17,.nd 18,.nd 19,.nd 20,.nd 21,.nd 22,.nd 23,.nd 24,.nd 25,.nd 26,.nd 27,.sv 6 28] 41 true false),(6,.vec 28 109 true),(4,.cells [.i .i64 0,.i .u64 0,.i .u64 0,.i .u64 0,.i .u64 0,.i .u64 0,.i .u64 0,.i .u64 0,.i .u64 0,.i .u64 0,.i .u64 0,.i .u64 0,.i .u64 0,.i .u64 0,.i .u64 0,.i .u64 0,.i .i64 0,.b false,.s [],.s [],.s [],.bf,.bf,.bf] 41 true false)] },
 [(.ret, { np:=1,n:=123,gn:=3,next:=5,slots:=[(4,.p 4 0),(5,.nd 0)],objs:=[(4,.cells [.i .i64 0,.i .u64 0,.i .u64 0,.i .u64 0,.i .u64 0,.i .u64 0,.i .u64 0,.i .u64 0,.i .u64 0,.i .u64 0,.i .u64 0,.i .u64 0,.i .u64 0,.i .u64 0,.i .u64 0,.i .u64 0,.i .i64 0,.b false,.s [],.s [],.s [],.bf,.bf,.bf] 41 true false)] }),
  (.exit 0, { np:=25,n:=123,gn:=3,next:=6,slots:=[(1,.nd 0),(4,.p 4 0),(10,.p 5 0)],objs:=[(5,.cells (bP 1 24) 41 true false),(4,.cells [.i .i64 0,.i .u64 0,.i .u64 0,.i .u64 0,.i .u64 0,.i .u64 0,.i .u64 0,.i .u64 0,.i .u64 0,.i .u64 0,.i .u64 0,.i .u64 0,.i .u64 0,.i .u64 0,.i .u64 0,.i .u64 0,.i .i64 0,.b false,.s [],.s [],.s [],.bf,.bf,.bf] 41 true false)],al:=[some 0,none,none,none,none,none,none,none,none,none,none,none,none,none,none,none,none,none,none,none,none,none,none,none,none] })]⟩
def s35:aW:=⟨35, { np:=27,n:=38,gn:=3,next:=7,slots:=[(1,.p 4 0),(2,.p 5 0),(3,.sv 6 0),(15,.nd 1),(16,.nd 2),(17,.nd 3)],objs:=[(6,.vec 0 117 false),(5,.cells [.i .i64 0,.i .u64 0,.i .u64 0,.i .u64 0,.i .u64 0,.i .u64 0,.i .u64 0,.i .u64 0,.i .u64 0,.i .u64 0,.i .u64 0,.i .u64 0,.i .u64 0,.i .u64 0,.i .u64 0,.i .u64 0,.i .i64 0,.b false,.s [],.s [],.s [],.bf,.bf,.bf] 35 true false),(4,.cells [.nd 4,.nd 5,.nd 6,.nd 7,.nd 8,.nd 9,.nd 10,.nd 11,.nd 12,.nd 13,.nd 14,.nd 15,.nd 16,.nd 17,.nd 18,.nd 19,.nd 20,.nd 21,.nd 22,.nd 23,.nd 24,.nd 25,.nd 1,.nd 26] 35 true false)] },
 [(.exit 0, { np:=25,n:=38,gn:=3,next:=7,slots:=[(1,.p 4 0),(2,.p 5 0),(3,.sv 6 0)],objs:=[(6,.vec 0 117 false),(5,.cells [.i .i64 0,.i .u64 0,.i .u64 0,.i .u64 0,.i .u64 0,.i .u64 0,.i .u64 0,.i .u64 0,.i .u64 0,.i .u64 0,.i .u64 0,.i .u64 0,.i .u64 0,.i .u64 0,.i .u64 0,.i .u64 0,.i .i64 0,.b false,.s [],.s [],.s [],.bf,.bf,.bf] 35 true false),(4,.cells (bP 1 24) 35 true false)],al:=[none,some 4,some 5,some 6,some 7,some 8,some 9,some 10,some 11,some 12,some 13,some 14,some 15,some 16,some 17,some 18,some 19,some 20,some 21,some 22,some 23,some 24,some 25,some 1,some 26] })]⟩
def s74:aW:=⟨74, { np:=2,n:=11,gn:=3,next:=4,slots:=[(0,.nd 0),(3,.nd 1)],objs:=[] },
 [(.exit 0, { np:=1,n:=11,gn:=3,next:=4,slots:=[(3,.nd 0)],objs:=[] })]⟩
def anV:aW:=⟨162, { np:=27,n:=127,gn:=3,next:=5,slots:=[(2,.p 4 0),(5,.nd 0),(61,.nd 0),(62,.nd 1),(63,.nd 2)],objs:=[(4,.cells (bP 3 24) 41 true false)] },
 [(.ret, { np:=1,n:=127,gn:=3,next:=4,slots:=[(4,.nd 0)],objs:=[] }),
  (.exit 4, { np:=25,n:=127,gn:=3,next:=5,slots:=[(2,.p 4 0),(5,.nd 0)],objs:=[(4,.cells (bP 1 24) 41 true false)],al:=[some 0,some 3,some 4,some 5,some 6,some 7,some 8,some 9,some 10,some 11,some 12,some 13,some 14,some 15,some 16,some 17,some 18,some 19,some 20,some 21,some 22,some 23,some 24,some 25,some 26] })]⟩
def anN:aW:=⟨139, { np:=28,n:=97,gn:=3,next:=5,slots:=[(0,.agg [.nd 0,.nd 1,.nd 2,.nd 3,.nd 4,.nd 5,.nd 6,.nd 7,.nd 8,.nd 9,.nd 10,.nd 11,.nd 12,.nd 13,.nd 14,.nd 15,.nd 16,.nd 17,.nd 18,.nd 19,.nd 20,.nd 21,.nd 22,.sv 4 23]),(1,.nd 24),(2,.nd 25),(3,.nd 26),(4,.nd 27)],objs:=[(4,.vec 23 109 true)] },
 [(.ret, { np:=1,n:=2,gn:=3,next:=4,slots:=[(0,.agg [.i .i64 0,.i .u64 0,.i .u64 0,.i .u64 0,.i .u64 0,.i .u64 0,.i .u64 0,.i .u64 0,.i .u64 0,.i .u64 0,.i .u64 0,.i .u64 0,.i .u64 0,.i .u64 0,.i .u64 0,.i .u64 0,.i .i64 0,.b false,.s [],.s [],.s [],.bf,.bf,.bf]),(1,.nd 0)],objs:=[] }),
  (.ret, { np:=24,n:=2,gn:=3,next:=5,slots:=[(0,.agg [.nd 0,.nd 1,.nd 2,.nd 3,.nd 4,.nd 5,.nd 6,.nd 7,.nd 8,.nd 9,.nd 10,.nd 11,.nd 12,.nd 13,.nd 14,.nd 15,.nd 16,.nd 17,.nd 18,.nd 19,.nd 20,.nd 21,.nd 22,.sv 4 23]),(1,.i .i64 0)],objs:=[(4,.vec 23 109 true)],al:=[some 0,none,none,none,none,none,none,none,none,none,none,none,none,none,none,none,none,none,none,none,none,none,none,some 23] })]⟩
def s93:aW:=⟨93, { np:=0,n:=33,gn:=3,next:=4,slots:=[(0,.qE)],objs:=[] },
 [(.ret, { np:=0,n:=1,gn:=3,next:=4,slots:=[(0,.i .i64 0)],objs:=[] })]⟩
def s92:aW:=⟨92, { np:=24,n:=33,gn:=3,next:=5,slots:=[(0,.dM 146 (.p 4 15))],objs:=[(4,.cells (bP 0 24) 35 true false)],ka:=1 },
 [(.ret, { np:=24,n:=1,gn:=3,next:=5,slots:=[(0,.i .i64 0)],objs:=[(4,.cells (bP 0 24) 35 true false)],ka:=1,al:=(nR 0 24) })]⟩
def s91:aW:=⟨91, { np:=24,n:=33,gn:=3,next:=5,slots:=[(0,.dM 146 (.p 4 14))],objs:=[(4,.cells (bP 0 24) 35 true false)],ka:=1 },
 [(.ret, { np:=24,n:=1,gn:=3,next:=5,slots:=[(0,.i .i64 0)],objs:=[(4,.cells (bP 0 24) 35 true false)],ka:=1,al:=(nR 0 24) })]⟩
def s90:aW:=⟨90, { np:=24,n:=33,gn:=3,next:=5,slots:=[(0,.dM 146 (.p 4 13))],objs:=[(4,.cells (bP 0 24) 35 true false)],ka:=1 },
 [(.ret, { np:=24,n:=1,gn:=3,next:=5,slots:=[(0,.i .i64 0)],objs:=[(4,.cells (bP 0 24) 35 true false)],ka:=1,al:=(nR 0 24) })]⟩
def s89:aW:=⟨89, { np:=24,n:=33,gn:=3,next:=5,slots:=[(0,.dM 146 (.p 4 12))],objs:=[(4,.cells (bP 0 24) 35 true false)],ka:=1 },
 [(.ret, { np:=24,n:=1,gn:=3,next:=5,slots:=[(0,.i .i64 0)],objs:=[(4,.cells (bP 0 24) 35 true false)],ka:=1,al:=(nR 0 24) })]⟩
def s88:aW:=⟨88, { np:=24,n:=33,gn:=3,next:=5,slots:=[(0,.dM 146 (.p 4 11))],objs:=[(4,.cells (bP 0 24) 35 true false)],ka:=1 },
 [(.ret, { np:=24,n:=1,gn:=3,next:=5,slots:=[(0,.i .i64 0)],objs:=[(4,.cells (bP 0 24) 35 true false)],ka:=1,al:=(nR 0 24) })]⟩
def s87:aW:=⟨87, { np:=24,n:=33,gn:=3,next:=5,slots:=[(0,.dM 146 (.p 4 10))],objs:=[(4,.cells (bP 0 24) 35 true false)],ka:=1 },
 [(.ret, { np:=24,n:=1,gn:=3,next:=5,slots:=[(0,.i .i64 0)],objs:=[(4,.cells (bP 0 24) 35 true false)],ka:=1,al:=(nR 0 24) })]⟩
def s86:aW:=⟨86, { np:=24,n:=33,gn:=3,next:=5,slots:=[(0,.dM 146 (.p 4 9))],objs:=[(4,.cells (bP 0 24) 35 true false)],ka:=1 },
 [(.ret, { np:=24,n:=1,gn:=3,next:=5,slots:=[(0,.i .i64 0)],objs:=[(4,.cells (bP 0 24) 35 true false)],ka:=1,al:=(nR 0 24) })]⟩
def s85:aW:=⟨85, { np:=24,n:=33,gn:=3,next:=5,slots:=[(0,.dM 146 (.p 4 8))],objs:=[(4,.cells (bP 0 24) 35 true false)],ka:=1 },
 [(.ret, { np:=24,n:=1,gn:=3,next:=5,slots:=[(0,.i .i64 0)],objs:=[(4,.cells (bP 0 24) 35 true false)],ka:=1,al:=(nR 0 24) })]⟩
def s84:aW:=⟨84, { np:=24,n:=33,gn:=3,next:=5,slots:=[(0,.dM 146 (.p 4 7))],objs:=[(4,.cells (bP 0 24) 35 true false)],ka:=1 },
 [(.ret, { np:=24,n:=1,gn:=3,next:=5,slots:=[(0,.i .i64 0)],objs:=[(4,.cells (bP 0 24) 35 true false)],ka:=1,al:=(nR 0 24) })]⟩
def s83:aW:=⟨83, { np:=24,n:=33,gn:=3,next:=5,slots:=[(0,.dM 146 (.p 4 6))],objs:=[(4,.cells (bP 0 24) 35 true false)],ka:=1 },
 [(.ret, { np:=24,n:=1,gn:=3,next:=5,slots:=[(0,.i .i64 0)],objs:=[(4,.cells (bP 0 24) 35 true false)],ka:=1,al:=(nR 0 24) })]⟩
def s82:aW:=⟨82, { np:=24,n:=33,gn:=3,next:=5,slots:=[(0,.dM 146 (.p 4 5))],objs:=[(4,.cells (bP 0 24) 35 true false)],ka:=1 },
 [(.ret, { np:=24,n:=1,gn:=3,next:=5,slots:=[(0,.i .i64 0)],objs:=[(4,.cells (bP 0 24) 35 true false)],ka:=1,al:=(nR 0 24) })]⟩
def s81:aW:=⟨81, { np:=24,n:=33,gn:=3,next:=5,slots:=[(0,.dM 146 (.p 4 4))],objs:=[(4,.cells (bP 0 24) 35 true false)],ka:=1 },
 [(.ret, { np:=24,n:=1,gn:=3,next:=5,slots:=[(0,.i .i64 0)],objs:=[(4,.cells (bP 0 24) 35 true false)],ka:=1,al:=(nR 0 24) })]⟩
def s80:aW:=⟨80, { np:=24,n:=33,gn:=3,next:=5,slots:=[(0,.dM 146 (.p 4 3))],objs:=[(4,.cells (bP 0 24) 35 true false)],ka:=1 },
 [(.ret, { np:=24,n:=1,gn:=3,next:=5,slots:=[(0,.i .i64 0)],objs:=[(4,.cells (bP 0 24) 35 true false)],ka:=1,al:=(nR 0 24) })]⟩
def s79:aW:=⟨79, { np:=24,n:=33,gn:=3,next:=5,slots:=[(0,.dM 146 (.p 4 2))],objs:=[(4,.cells (bP 0 24) 35 true false)],ka:=1 },
 [(.ret, { np:=24,n:=1,gn:=3,next:=5,slots:=[(0,.i .i64 0)],objs:=[(4,.cells (bP 0 24) 35 true false)],ka:=1,al:=(nR 0 24) })]⟩
def s78:aW:=⟨78, { np:=24,n:=33,gn:=3,next:=5,slots:=[(0,.dM 146 (.p 4 1))],objs:=[(4,.cells (bP 0 24) 35 true false)],ka:=1 },
 [(.ret, { np:=24,n:=1,gn:=3,next:=5,slots:=[(0,.i .i64 0)],objs:=[(4,.cells (bP 0 24) 35 true false)],ka:=1,al:=(nR 0 24) })]⟩
def s67:aW:=⟨67, { np:=24,n:=33,gn:=3,next:=5,slots:=[(0,.dM 154 (.p 4 22))],objs:=[(4,.cells (bP 0 24) 35 true false)],ka:=1 },
 [(.ret, { np:=25,n:=1,gn:=3,next:=5,slots:=[(0,.nd 0)],objs:=[(4,.cells (bP 1 24) 35 true false)],ka:=1,al:=[none,some 0,some 1,some 2,some 3,some 4,some 5,some 6,some 7,some 8,some 9,some 10,some 11,some 12,some 13,some 14,some 15,some 16,some 17,some 18,some 19,some 20,some 21,some 22,some 23] })]⟩
def s64:aW:=⟨64, { np:=24,n:=33,gn:=3,next:=5,slots:=[(0,.dM 153 (.p 4 21))],objs:=[(4,.cells (bP 0 24) 35 true false)],ka:=1 },
 [(.ret, { np:=25,n:=1,gn:=3,next:=5,slots:=[(0,.nd 0)],objs:=[(4,.cells (bP 1 24) 35 true false)],ka:=1,al:=[none,some 0,some 1,some 2,some 3,some 4,some 5,some 6,some 7,some 8,some 9,some 10,some 11,some 12,some 13,some 14,some 15,some 16,some 17,some 18,some 19,some 20,some 21,some 22,some 23] })]⟩
def s63:aW:=⟨63, { np:=24,n:=33,gn:=3,next:=5,slots:=[(0,.dM 151 (.p 4 20))],objs:=[(4,.cells (bP 0 24) 35 true false)],ka:=1 },
 [(.ret, { np:=25,n:=1,gn:=3,next:=5,slots:=[(0,.nd 0)],objs:=[(4,.cells (bP 1 24) 35 true false)],ka:=1,al:=[none,some 0,some 1,some 2,some 3,some 4,some 5,some 6,some 7,some 8,some 9,some 10,some 11,some 12,some 13,some 14,some 15,some 16,some 17,some 18,some 19,some 20,some 21,some 22,some 23] })]⟩
def s62:aW:=⟨62, { np:=24,n:=33,gn:=3,next:=5,slots:=[(0,.dM 151 (.p 4 19))],objs:=[(4,.cells (bP 0 24) 35 true false)],ka:=1 },
 [(.ret, { np:=25,n:=1,gn:=3,next:=5,slots:=[(0,.nd 0)],objs:=[(4,.cells (bP 1 24) 35 true false)],ka:=1,al:=[none,some 0,some 1,some 2,some 3,some 4,some 5,some 6,some 7,some 8,some 9,some 10,some 11,some 12,some 13,some 14,some 15,some 16,some 17,some 18,some 19,some 20,some 21,some 22,some 23] })]⟩
def s61:aW:=⟨61, { np:=24,n:=33,gn:=3,next:=5,slots:=[(0,.dM 151 (.p 4 18))],objs:=[(4,.cells (bP 0 24) 35 true false)],ka:=1 },
 [(.ret, { np:=25,n:=1,gn:=3,next:=5,slots:=[(0,.nd 0)],objs:=[(4,.cells (bP 1 24) 35 true false)],ka:=1,al:=[none,some 0,some 1,some 2,some 3,some 4,some 5,some 6,some 7,some 8,some 9,some 10,some 11,some 12,some 13,some 14,some 15,some 16,some 17,some 18,some 19,some 20,some 21,some 22,some 23] })]⟩
def s60:aW:=⟨60, { np:=24,n:=33,gn:=3,next:=5,slots:=[(0,.dM 148 (.p 4 17))],objs:=[(4,.cells (bP 0 24) 35 true false)],ka:=1 },
 [(.ret, { np:=24,n:=1,gn:=3,next:=5,slots:=[(0,.i .i64 0)],objs:=[(4,.cells (bP 0 24) 35 true false)],ka:=1,al:=(nR 0 24) })]⟩
def s59:aW:=⟨59, { np:=24,n:=33,gn:=3,next:=5,slots:=[(0,.dM 149 (.p 4 16))],objs:=[(4,.cells (bP 0 24) 35 true false)],ka:=1 },
 [(.ret, { np:=24,n:=1,gn:=3,next:=5,slots:=[(0,.i .i64 0)],objs:=[(4,.cells (bP 0 24) 35 true false)],ka:=1,al:=(nR 0 24) })]⟩
def s53:aW:=⟨53, { np:=3,n:=33,gn:=3,next:=5,slots:=[(0,.p 4 0),(1,.nd 0)],objs:=[(4,.cells [.nd 1,.nd 2] 264 true false)],ka:=1 },
 [(.ret, { np:=5,n:=2,gn:=3,next:=5,slots:=[(0,.agg [.nd 0,.nd 1]),(1,.nd 2)],objs:=[(4,.cells [.nd 3,.nd 4] 264 true false)],ka:=1 })]⟩
def s50:aW:=⟨50, { np:=4,n:=63,gn:=3,next:=5,slots:=[(0,.p 4 0),(1,.nd 2),(2,.nd 3)],objs:=[(4,.cells [.nd 0,.nd 1] 264 true false)],ka:=1 },
 [(.ret, { np:=4,n:=2,gn:=3,next:=5,slots:=[(0,.nd 0),(1,.nd 1)],objs:=[(4,.cells [.nd 2,.nd 3] 264 true false)],ka:=1 })]⟩
def s48:aW:=⟨48, { np:=2,n:=56,gn:=3,next:=5,slots:=[(0,.p 4 0)],objs:=[(4,.cells [.nd 0,.nd 1] 264 true false)],ka:=1 },
 [(.ret, { np:=4,n:=2,gn:=3,next:=5,slots:=[(0,.nd 0),(1,.nd 1)],objs:=[(4,.cells [.nd 2,.nd 3] 264 true false)],ka:=1 })]⟩
def s45:aW:=⟨45, { np:=2,n:=25,gn:=3,next:=5,slots:=[(0,.p 4 0)],objs:=[(4,.cells [.nd 0,.nd 1] 264 true false)],ka:=1 },
 [(.ret, { np:=4,n:=2,gn:=3,next:=5,slots:=[(0,.nd 0),(1,.nd 1)],objs:=[(4,.cells [.nd 2,.nd 3] 264 true false)],ka:=1 })]⟩
def s44:aW:=⟨44, { np:=2,n:=37,gn:=3,next:=5,slots:=[(0,.p 4 0)],objs:=[(4,.cells [.nd 0,.nd 1] 264 true false)],ka:=1 },
 [(.ret, { np:=5,n:=2,gn:=3,next:=5,slots:=[(0,.agg [.nd 0,.nd 1]),(1,.nd 2)],objs:=[(4,.cells [.nd 3,.nd 4] 264 true false)],ka:=1 })]⟩
def s42:aW:=⟨42, { np:=2,n:=60,gn:=3,next:=5,slots:=[(0,.p 4 0)],objs:=[(4,.cells [.nd 0,.nd 1] 264 true false)],ka:=1 },
 [(.ret, { np:=4,n:=2,gn:=3,next:=5,slots:=[(0,.nd 0),(1,.nd 1)],objs:=[(4,.cells [.nd 2,.nd 3] 264 true false)],ka:=1 })]⟩
def s36:aW:=⟨36, { np:=30,n:=117,gn:=3,next:=5,slots:=[(0,.p 4 0),(1,.nd 0),(2,.agg (bP 1 5))],objs:=[(4,.cells (bP 6 24) 35 true false)],ka:=1 },
 [(.ret, { np:=25,n:=1,gn:=3,next:=5,slots:=[(0,.nd 0)],objs:=[(4,.cells (bP 1 24) 35 true false)],ka:=1,al:=[none,some 6,none,none,none,none,none,none,none,none,none,none,none,none,none,none,none,none,none,none,none,none,none,none,some 29] })]⟩
def s13:aW:=⟨13, { np:=7,n:=52,gn:=3,next:=7,slots:=[(0,.p 5 0),(1,.p 4 0)],objs:=[(4,.cells [.nd 0,.nd 1,.nd 5,.nd 6,.bf] 72 true false),(5,.cells [.p 6 0,.nd 2,.nd 0] 212 true false),(6,.cells [.nd 3,.nd 4] 264 true false)],ka:=3 },
 [(.ret, { np:=9,n:=1,gn:=3,next:=7,slots:=[(0,.nd 0)],objs:=[(4,.cells (bP 1 5) 72 true false),(5,.cells [.p 6 0,.nd 6,.nd 1] 212 true false),(6,.cells [.nd 7,.nd 8] 264 true false)],ka:=3,al:=[none,some 0,some 1,some 5,some 6,none,some 2,none,none] })]⟩
def s12:aW:=⟨12, { np:=7,n:=35,gn:=3,next:=7,slots:=[(0,.p 5 0),(1,.p 4 0)],objs:=[(4,.cells [.nd 0,.nd 1,.nd 5,.nd 6,.bf] 72 true false),(5,.cells [.p 6 0,.nd 2,.nd 0] 212 true false),(6,.cells [.nd 3,.nd 4] 264 true false)],ka:=3 },
 [(.ret, { np:=8,n:=1,gn:=3,next:=7,slots:=[(0,.nd 0)],objs:=[(4,.cells [.nd 1,.nd 2,.nd 3,.nd 4,.bf] 72 true false),(5,.cells [.p 6 0,.nd 5,.nd 1] 212 true false),(6,.cells [.nd 6,.nd 7] 264 true false)],ka:=3,al:=[none,some 0,some 1,some 5,none,some 2,none,none] })]⟩
def s11:aW:=⟨11, { np:=7,n:=20,gn:=3,next:=7,slots:=[(0,.p 5 0),(1,.p 4 0)],objs:=[(4,.cells [.nd 0,.nd 1,.nd 5,.nd 6,.bf] 72 true false),(5,.cells [.p 6 0,.nd 2,.nd 0] 212 true false),(6,.cells [.nd 3,.nd 4] 264 true false)],ka:=3 },
 [(.ret, { np:=8,n:=1,gn:=3,next:=7,slots:=[(0,.nd 0)],objs:=[(4,.cells [.nd 1,.nd 2,.nd 3,.nd 4,.bf] 72 true false),(5,.cells [.p 6 0,.nd 5,.nd 1] 212 true false),(6,.cells [.nd 6,.nd 7] 264 true false)],ka:=3,al:=[none,some 0,some 1,none,some 6,some 2,none,none] })]⟩
def s10:aW:=⟨10, { np:=2,n:=24,gn:=3,next:=5,slots:=[(0,.p 4 0)],objs:=[(4,.cells [.nd 0,.nd 1] 264 true false)],ka:=1 },
 [(.ret, { np:=4,n:=2,gn:=3,next:=5,slots:=[(0,.nd 0),(1,.nd 1)],objs:=[(4,.cells [.nd 2,.nd 3] 264 true false)],ka:=1 })]⟩
def s9:aW:=⟨9, { np:=4,n:=65,gn:=3,next:=6,slots:=[(0,.p 4 0)],objs:=[(4,.cells [.p 5 0,.nd 0,.nd 1] 212 true false),(5,.cells [.nd 2,.nd 3] 264 true false)],ka:=2 },
 [(.ret, { np:=10,n:=2,gn:=3,next:=6,slots:=[(0,.agg (bP 0 5)),(1,.nd 5)],objs:=[(4,.cells [.p 5 0,.nd 6,.nd 7] 212 true false),(5,.cells [.nd 8,.nd 9] 264 true false)],ka:=2,al:=[none,none,none,none,none,none,some 0,none,none,none] })]⟩
def s7:aW:=⟨7, { np:=4,n:=26,gn:=3,next:=6,slots:=[(0,.p 4 0)],objs:=[(4,.cells [.p 5 0,.nd 1,.nd 2] 212 true false),(5,.cells [.nd 0,.nd 3] 264 true false)],ka:=2 },
 [(.ret, { np:=6,n:=2,gn:=3,next:=6,slots:=[(0,.nd 0),(1,.nd 1)],objs:=[(4,.cells [.p 5 0,.nd 2,.nd 3] 212 true false),(5,.cells [.nd 4,.nd 5] 264 true false)],ka:=2,al:=[none,none,some 1,none,none,none] })]⟩
noncomputable def rows:List Row:=[
 .any (λgs out=>True),
 .fn 5 [] [.sc] [] [],
 .fn 24 [] [.ag 24,.sc] [] [(0,24),(1,31)],
 .fn 67 [] [.sc,.sc,.sc] [] [(0,4)],
 .lp 67 [([],0)] s4 [] [],
 .fn 25 [] [.sc] [] [],
 .fn 68 [] [.sc,.sc] [] [],
 .fs 129 [] s7 [] [(0,8)],
 .lp 129 [([],0)] s8 [] [],
 .fs 177 [] s9 [] [],
 .fs 211 [] s10 [] [],
 .fs 212 [] s11 [] [],
 .fs 213 [] s12 [] [],
 .fs 214 [] s13 [] [],
 .fn 26 [] [.sc] [] [(0,16)],
 .fn 131 [] [.sc] [] [],
 .lp 26 [([],0)] s16 [] [],
 .fn 132 [] [.sc] [] [],
 .fn 133 [] [.sc] [] [],
 .fn 134 [] [.sc] [] [],
 .fn 135 [] [.sc] [] [],
 .fn 136 [] [.sc] [] [],
 .fn 137 [] [.sc] [] [],
 .fn 138 [] [.sc] [] [],
 .lp 24 [([],0)] s24 [] [],
 .fn 70 [] [.sc] [] [(0,26)],
 .lp 70 [([],0)] s26 [] [],
 .fn 69 [] [.sc,.sc] [] [(0,28),(1,29)],
 .lp 69 [([],0)] s28 [] [],
 .lp 69 [([],1)] s29 [] [],
 .told 115 [] [.sc],
 .lp 24 [([],1)] s31 [] [],
 .fn 71 [] [.ag 24,.sc] [] [],
 .fn 74 [] [.ag 24] [] [(0,35)],
 .told 139 [] [.sc],
 .lp 74 [([],0)] s35 [] [],
 .fs 130 [] s36 [] [],
 .fn 179 [] [.sc] [] [],
 .fn 156 [] [.sc] [] [],
 .fn 193 [] [.sc] [] [],
 .told 229 [] [.sc],
 .fn 181 [] [.sc,.sc] [] [],
 .fs 215 [] s42 [] [(0,43)],
 .lp 215 [([],0)] s43 [] [],
 .fs 244 [] s44 [] [],
 .fs 255 [] s45 [] [],
 .fn 173 [] [.sc] [] [],
 .fn 182 [] [.sc,.sc] [] [],
 .fs 216 [] s48 [] [(0,49)],
 .lp 216 [([],0)] s49 [] [],
 .fs 245 [] s50 [] [],
 .fn 184 [] [.sc] [] [(0,52)],
 .lp 184 [([],0)] s52 [] [],
 .fs 246 [] s53 [] [],
 .fn 44 [] [.sc] [] [(0,55),(1,57),(2,58),(3,97)],
 .lp 44 [([],0)] s55 [] [],
 .told 77 [] [.sc],
 .lp 44 [([],1)] s57 [] [],
 .lp 44 [([],2)] s58 [] [],
 .fs 96 [] s59 [] [],
 .fs 96 [] s60 [] [],
 .fs 96 [] s61 [] [],
 .fs 96 [] s62 [] [],
 .fs 96 [] s63 [] [],
 .fs 96 [] s64 [] [],
 .fn 124 [] [.sc] [] [(0,66)],
 .lp 124 [([],0)] s66 [] [],
 .fs 96 [] s67 [] [],
 .fn 23 [] [.sc] [] [(0,69)],
 .lp 23 [([],0)] s69 [] [],
 .fn 65 [] [.sc] [] [],
 .fn 66 [] [.sc] [] [(0,76)],
 .fn 53 [] [.sc] [] [(0,75)],
 .fn 103 [] [.sc] [] [(0,74)],
 .lp 103 [([],0)] s74 [] [],
 .lp 53 [([],0)] s75 [] [],
 .lp 66 [([],0)] s76 [] [],
 .fn 126 [] [.sc] [] [],
 .fs 96 [] s78 [] [],
 .fs 96 [] s79 [] [],
 .fs 96 [] s80 [] [],
 .fs 96 [] s81 [] [],
 .fs 96 [] s82 [] [],
 .fs 96 [] s83 [] [],
 .fs 96 [] s84 [] [],
 .fs 96 [] s85 [] [],
 .fs 96 [] s86 [] [],
 .fs 96 [] s87 [] [],
 .fs 96 [] s88 [] [],
 .fs 96 [] s89 [] [],
 .fs 96 [] s90 [] [],
 .fs 96 [] s91 [] [],
 .fs 96 [] s92 [] [],
 .fs 96 [] s93 [] [],
 .fn 98 [] [.sc] [] [],
 .fn 157 [] [.sc] [] [(0,96)],
 .lp 157 [([],0)] s96 [] [],
 .lp 44 [([],3)] s97 [] [(0,98)],
 .lp 44 [([],3),([],0)] s98 [] [],
 .fn 33 [] [.ag 24,.sc] [] [(0,107)],
 .fn 85 [] [.sc,.sc,.sc] [] [(0,101),(1,102)],
 .lp 85 [([],0)] anz [] [],
 .lp 85 [([],1)] anA [] [],
 .fn 87 [] [.sc,.sc] [] [],
 .fn 147 [] [.sc,.sc] [] [(0,105)],
 .lp 147 [([],0)] anB [] [],
 .fn 185 [] [.ag 5,.sc,.sc] [] [],
 .lp 33 [([],0)] anC [] [(0,111)],
 .fn 57 [] [.sc] [] [(0,110)],
 .fn 116 [] [.sc] [] [],
 .lp 57 [([],0)] anD [] [],
 .lp 33 [([],0),([],0)] anE [] [],
 .any (λgs out=>True),
 .fn 117 [] [.sc] [] [(0,114)],
 .lp 117 [([],0)] anF [] [(0,115)],
 .lp 117 [([],0),([],0)] anG [] [],
 .fn 105 [] [.sc] [] [],
 .fn 160 [] [.sc] [] [(0,118)],
 .lp 160 [([],0)] anH [] [],
 .fn 196 [] [.sc] [] [(0,120)],
 .lp 196 [([],0)] anI [] [],
 .fn 150 [] [.sc,.sc] [] [],
 .fn 186 [] [.sc,.sc,.sc] [] [(0,123)],
 .lp 186 [([],0)] anJ [] [],
 .fn 226 [] [.ag 2,.sc,.sc] [] [],
 .fn 251 [] [.sc,.sc,.sc] [] [],
 .fn 162 [] [.sc] [] [],
 .fn 163 [] [.sc] [] [],
 .fn 197 [] [.sc] [] [],
 .fn 233 [] [.sc] [] [(0,130)],
 .lp 233 [([],0)] anK [] [],
 .fn 151 [] [.sc,.sc] [] [],
 .fn 187 [] [.sc,.sc,.sc] [] [(0,133)],
 .lp 187 [([],0)] anL [] [],
 .fn 227 [] [.sc,.sc,.sc] [] [],
 .fn 165 [] [.sc] [] [],
 .fn 239 [] [.sc] [] [(0,137)],
 .lp 239 [([],0)] anM [] [],
 .any (λgs out=>True),
 .fs 88 [] anN [] [],
 .fn 54 [] [.sc] [] [(0,142),(1,162),(2,165)],
 .fn 89 [] [.sc] [] [],
 .lp 54 [([],0)] anO [] [(0,143)],
 .lp 54 [([],0),([],0)] anP [] [],
 .fn 104 [] [.sc] [] [],
 .fn 58 [] [.sc,.sc] [] [],
 .fn 118 [] [.sc] [] [],
 .fn 106 [] [.sc] [] [],
 .fn 120 [] [.sc] [] [(0,151)],
 .fn 61 [] [.sc] [] [(0,150)],
 .lp 61 [([],0)] anQ [] [],
 .lp 120 [([],0)] anR [] [],
 .fn 169 [] [.sc] [] [],
 .fn 121 [] [.sc,.sc] [] [],
 .fn 108 [] [.sc] [] [(0,155)],
 .lp 108 [([],0)] anS [] [],
 .fn 164 [] [.sc] [] [],
 .fn 107 [] [.sc] [] [(0,158)],
 .lp 107 [([],0)] anT [] [],
 .fn 170 [] [.sc] [] [(0,160)],
 .lp 170 [([],0)] anU [] [],
 .fn 208 [] [.sc] [] [],
 .lp 54 [([],1)] anV [] [],
 .fn 110 [] [.sc] [] [(0,164)],
 .lp 110 [([],0)] anW [] [],
 .lp 54 [([],2)] anX [] [(0,166)],
 .lp 54 [([],2),([],0)] anY [] [],
 .fn 12 [] [.ag 24] [] [],
 .fn 50 [] [.sc] [] [(0,169)],
 .lp 50 [([],0)] anZ [] [],
 .fn 51 [] [.sc] [] [(0,171)],
 .lp 51 [([],0)] an0 [] [],
 .fn 20 [] [.sc] [] [(0,173)],
 .lp 20 [([],0)] an1 [] [],
 .fn 34 [] [.sc] [] [(0,175),(1,181)],
 .lp 34 [([],0)] an2 [] [],
 .fn 90 [] [.sc] [] [(0,177)],
 .lp 90 [([],0)] an3 [] [(0,178)],
 .lp 90 [([],0),([],0)] an4 [] [],
 .fn 19 [] [.sc] [] [(0,180)],
 .lp 19 [([],0)] an5 [] [],
 .lp 34 [([],1)] an6 [] []]
noncomputable abbrev C:=uK Tryz.prog dW rows
noncomputable def aeN:Code:=Tryz.f5.body.getD .skip
noncomputable def pl0:jU:=PL.cons 9 (λ_=>Eu) (PL.cons 210 (λ_=>JL) (PL.nil))
noncomputable def es:List (FuncId×List Nat):=[(129,[7]),(177,[9]),(211,[10]),(212,[11]),(213,[12]),(214,[13]),(130,[36]),(215,[42]),(244,[44]),(255,[45]),(216,[48]),(245,[50]),(246,[53]),(96,[93,92,91,90,89,88,87,86,85,84,83,82,81,80,79,78,67,64,63,62,61,60,59]),(88,[139]),(12,[167]),(116,[109]),(44,[54]),(61,[149]),(58,[145]),(89,[141]),(105,[116]),(120,[148]),(121,[153]),(110,[163]),(133,[18]),(157,[95]),(134,[19]),(25,[5]),(132,[17]),(118,[146]),(233,[129]),(106,[147]),(85,[100]),(34,[174]),(24,[2]),(115,[30]),(196,[119]),(186,[122]),(71,[32]),(74,[33]),(98,[94]),(70,[25]),(185,[106]),(147,[104]),(87,[103]),(57,[108]),(227,[134]),(104,[144]),(90,[176]),(193,[39]),(164,[156]),(117,[113]),(65,[70]),(136,[21]),(139,[34]),(151,[131]),(135,[20]),(5,[1]),(19,[179]),(126,[77]),(23,[68]),(229,[40]),(51,[170]),(68,[6]),(150,[121]),(66,[71]),(103,[73]),(77,[56]),(138,[23]),(124,[65]),(53,[72]),(67,[3]),(173,[46]),(20,[172]),(160,[117]),(169,[152]),(179,[37]),(50,[168]),(251,[125]),(163,[127]),(226,[124]),(156,[38]),(208,[161]),(54,[140]),(33,[99]),(165,[135]),(131,[15]),(182,[47]),(170,[159]),(69,[27]),(187,[132]),(239,[136]),(137,[22]),(107,[157]),(26,[14]),(197,[128]),(108,[154]),(184,[51]),(162,[126]),(181,[41])]
noncomputable def pl:jU:=abI Tryz.prog rows es pl0
end V
end Go.Proofs.YthgifdbaegpbpaaGreatDoor
