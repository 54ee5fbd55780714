/- The shapes, and all definitions as rows. -/
import Derived.Test.YtcpfjpcdcafjmaaGreatDoorKRBase
import Derived.Test.YtcpfjpcdcafjmaaGreatDoorKCT
import Derived.Test.YtcpfjpcdcafjmaaGreatDoorAbsTab
import Derived.Test.YtcpfjpcdcafjmaaGreatDoorAbsPl
import Derived.Test.YtcpfjpcdcafjmaaGreatDoorAbsTold
import Derived.Test.YtcpfjpcdcafjmaaGreatDoorAbsTold2
import Derived.Test.YtcpfjpcdcafjmaaGreatDoorAbsTold3
import Derived.Test.YtcpfjpcdcafjmaaGreatDoorAbsFields
namespace Go.Proofs.YtcpfjpcdcafjmaaGreatDoor
open Go Go.aN
set_option maxRecDepth 100000
set_option linter.unusedVariables false
set_option linter.unusedSimpArgs false
namespace C
def kT:Nat->Nat->List AV
 | _,0=>[]
 | a,n+1=>.nd a::kT (a+1) n
def sms:Nat->Nat->List (Option Nat)
 | _,0=>[]
 | a,n+1=>some a::sms (a+1) n
theorem low:qZ dZ Tryz.prog.globals.size:=by
 rw [TG];refine ⟨λp hp=>?_,λp hp=>?_⟩
 all_goals
  simp only [dZ,dP,Hl,or_false] at hp;rcases hp with rfl | rfl
  all_goals first | decide | rfl
def alV:bK:=⟨108, { np:=5,n:=73,gn:=3,next:=4,slots:=[(0,.nd 0),(5,.nd 1),(7,.nd 2),(8,.nd 3),(9,.nd 4)],objs:=[] },
 [(.exit 2, { np:=2,n:=73,gn:=3,next:=4,slots:=[(5,.nd 0),(7,.nd 1)],objs:=[] })]⟩
def s86:bK:=⟨86, { np:=3,n:=41,gn:=3,next:=4,slots:=[(0,.nd 0),(3,.nd 1),(4,.nd 2)],objs:=[] },
 [(.exit 0, { np:=1,n:=41,gn:=3,next:=4,slots:=[(3,.nd 0)],objs:=[] })]⟩
def s57:bK:=⟨57, { np:=6,n:=56,gn:=3,next:=6,slots:=[(0,.p 4 0),(6,.sv 5 0),(7,.nd 1),(25,.nd 2),(26,.nd 3)],objs:=[(4,.cells [.nd 4,.nd 5] 263 true false),(5,.vec 0 77 false)],ka:=1 },
 [(.ret, { np:=3,n:=56,gn:=3,next:=5,slots:=[(2,.bP),(3,.nd 0)],objs:=[(4,.cells [.nd 1,.nd 2] 263 true false)],ka:=1 }),
  (.exit 0, { np:=3,n:=56,gn:=3,next:=6,slots:=[(6,.sv 5 0)],objs:=[(4,.cells [.nd 1,.nd 2] 263 true false),(5,.vec 0 77 false)],ka:=1 })]⟩
def s68:bK:=⟨68, { np:=51,n:=57,gn:=3,next:=7,slots:=[(3,.p 4 0),(4,.p 5 0),(6,.p 6 0),(14,.nd 0),(15,.nd 1),(16,.nd 2)],objs:=[(6,.cells [.i .i64 0,.i .u64 0,.i .u64 0,.i .u64 0,.i .u64 0,.i .u64 0,.i .u64 0,.i .u64 0,.i .u64 0,.i .u64 0,.i .u64 0,.i .u64 0,.i .u64 0,.i .u64 0,.i .u64 0,.i .u64 0,.i .i64 0,.b false,.s [],.s [],.s [],.bP,.bP,.bP] 46 true false),(5,.cells (kT 3 24) 46 true false),(4,.cells (kT 27 24) 46 true false)] },
 [(.ret, { np:=1,n:=57,gn:=3,next:=5,slots:=[(6,.p 4 0),(7,.nd 0)],objs:=[(4,.cells [.i .i64 0,.i .u64 0,.i .u64 0,.i .u64 0,.i .u64 0,.i .u64 0,.i .u64 0,.i .u64 0,.i .u64 0,.i .u64 0,.i .u64 0,.i .u64 0,.i .u64 0,.i .u64 0,.i .u64 0,.i .u64 0,.i .i64 0,.b false,.s [],.s [],.s [],.bP,.bP,.bP] 46 true false)] }),
  (.exit 0, { np:=24,n:=57,gn:=3,next:=6,slots:=[(3,.p 4 0),(6,.p 5 0)],objs:=[(5,.cells [.i .i64 0,.i .u64 0,.i .u64 0,.i .u64 0,.i .u64 0,.i .u64 0,.i .u64 0,.i .u64 0,.i .u64 0,.i .u64 0,.i .u64 0,.i .u64 0,.i .u64 0,.i .u64 0,.i .u64 0,.i .u64 0,.i .i64 0,.b false,.s [],.s [],.s [],.bP,.bP,.bP] 46 true false),(4,.cells (kT 0 24) 46 true false)] })]⟩
def alY:bK:=⟨117, { np:=54,n:=50,gn:=3,next:=9,slots:=[(2,.p 4 0),(3,.p 5 0),(5,.mp 6),(6,.mp 7),(7,.sv 8 0),(14,.nd 1),(15,.nd 2),(16,.nd 3)],objs:=[(8,.vec 0 9 true),(7,.smap 4 none (some 3)),(6,.smap 5 none (some 3)),(5,.cells (kT 6 24) 38 true false),(4,.cells (kT 30 24) 38 true false)] },
 [(.exit 0, { np:=49,n:=50,gn:=3,next:=7,slots:=[(2,.p 4 0),(3,.p 5 0),(7,.sv 6 0)],objs:=[(6,.vec 0 9 true),(5,.cells (kT 1 24) 38 true false),(4,.cells (kT 25 24) 38 true false)],al:=[none,some 6,some 7,some 8,some 9,some 10,some 11,some 12,some 13,some 14,some 15,some 16,some 17,some 18,some 19,some 20,some 21,some 22,some 23,some 24,some 25,some 26,some 27,some 28,some 29,some 30,some 31,some 32,some 33,some 34,some 35,some 36,some 37,some 38,some 39,some 40,some 41,some 42,some 43,some 44,some 45,some 46,some 47,some 48,some 49,some 50,some 51,some 52,some 53] })]⟩
def s20:bK:=⟨20, { np:=3,n:=42,gn:=3,next:=4,slots:=[(0,.nd 0),(15,.nd 0),(16,.nd 1),(17,.nd 2)],objs:=[] },
 [(.ret, { np:=1,n:=42,gn:=3,next:=4,slots:=[(2,.nd 0)],objs:=[] }),
  (.exit 0, { np:=0,n:=42,gn:=3,next:=4,slots:=[],objs:=[] })]⟩
def al2:bK:=⟨125, { np:=4,n:=81,gn:=3,next:=4,slots:=[(0,.nd 0),(1,.nd 1),(12,.nd 2),(13,.nd 3)],objs:=[] },
 [(.ret, { np:=0,n:=81,gn:=3,next:=4,slots:=[(4,.b false)],objs:=[] }),
  (.exit 0, { np:=0,n:=81,gn:=3,next:=4,slots:=[],objs:=[] })]⟩
def s52:bK:=⟨52, { np:=5,n:=60,gn:=3,next:=6,slots:=[(0,.p 4 0),(7,.sv 5 0),(28,.nd 1),(29,.nd 2)],objs:=[(4,.cells [.nd 3,.nd 4] 263 true false),(5,.vec 0 130 false)],ka:=1 },
 [(.ret, { np:=3,n:=60,gn:=3,next:=5,slots:=[(2,.bP),(3,.nd 0)],objs:=[(4,.cells [.nd 1,.nd 2] 263 true false)],ka:=1 }),
  (.exit 0, { np:=3,n:=60,gn:=3,next:=6,slots:=[(7,.sv 5 0)],objs:=[(4,.cells [.nd 1,.nd 2] 263 true false),(5,.vec 0 130 false)],ka:=1 })]⟩
def alW:bK:=⟨109, { np:=4,n:=63,gn:=3,next:=5,slots:=[(0,.nd 0),(5,.nd 1),(8,.sv 4 2),(9,.nd 3)],objs:=[(4,.vec 2 100 true)] },
 [(.ret, { np:=1,n:=63,gn:=3,next:=4,slots:=[(2,.bP),(3,.s []),(4,.nd 0)],objs:=[] }),
  (.exit 0, { np:=2,n:=63,gn:=3,next:=5,slots:=[(0,.nd 0),(8,.sv 4 1)],objs:=[(4,.vec 1 100 true)] })]⟩
def alZ:bK:=⟨119, { np:=1,n:=80,gn:=3,next:=5,slots:=[(5,.sv 4 0)],objs:=[(4,.vec 0 125 false)] },
 [(.ret, { np:=0,n:=80,gn:=3,next:=4,slots:=[(4,.b false)],objs:=[] }),
  (.exit 0, { np:=0,n:=80,gn:=3,next:=4,slots:=[],objs:=[] })]⟩
def s10:bK:=⟨10, { np:=2,n:=11,gn:=3,next:=4,slots:=[(0,.nd 0),(3,.nd 1)],objs:=[] },
 [(.exit 0, { np:=1,n:=11,gn:=3,next:=4,slots:=[(3,.nd 0)],objs:=[] })]⟩
def alU:bK:=⟨107, { np:=3,n:=73,gn:=3,next:=4,slots:=[(0,.nd 0),(5,.nd 1),(6,.nd 2)],objs:=[] },
 [(.exit 0, { np:=2,n:=73,gn:=3,next:=4,slots:=[(0,.nd 0),(5,.nd 1)],objs:=[] })]⟩
def al4:bK:=⟨129, { np:=51,n:=93,gn:=3,next:=6,slots:=[(2,.p 4 0),(3,.p 5 0),(12,.nd 0),(13,.nd 1),(14,.nd 2)],objs:=[(5,.cells (kT 3 24) 46 true false),(4,.cells (kT 27 24) 46 true false)] },
 [(.ret, { np:=0,n:=93,gn:=3,next:=4,slots:=[(4,.b false)],objs:=[] }),
  (.exit 0, { np:=48,n:=93,gn:=3,next:=6,slots:=[(2,.p 4 0),(3,.p 5 0)],objs:=[(5,.cells (kT 0 24) 46 true false),(4,.cells (kT 24 24) 46 true false)],al:=(sms 3 48) })]⟩
def s51:bK:=⟨51, { np:=4,n:=50,gn:=3,next:=4,slots:=[(0,.nd 0),(5,.nd 1),(9,.nd 2),(10,.nd 3)],objs:=[] },
 [(.ret, { np:=3,n:=50,gn:=3,next:=4,slots:=[(2,.nd 0),(3,.nd 1),(4,.nd 2)],objs:=[] }),
  (.exit 0, { np:=1,n:=50,gn:=3,next:=4,slots:=[(0,.nd 0)],objs:=[] })]⟩
def s96:bK:=⟨96, { np:=3,n:=37,gn:=3,next:=4,slots:=[(0,.nd 0),(1,.nd 1),(5,.nd 2)],objs:=[] },
 [(.ret, { np:=1,n:=37,gn:=3,next:=4,slots:=[(4,.nd 0)],objs:=[] }),
  (.exit 0, { np:=2,n:=37,gn:=3,next:=4,slots:=[(0,.nd 0),(1,.nd 1)],objs:=[],al:=[some 0,some 1] })]⟩
def s28:bK:=⟨28, { np:=3,n:=54,gn:=3,next:=5,slots:=[(0,.nd 0),(1,.nd 1),(6,.sv 4 2)],objs:=[(4,.vec 2 67 true)] },
 [(.exit 0, { np:=2,n:=54,gn:=3,next:=5,slots:=[(0,.nd 0),(6,.sv 4 1)],objs:=[(4,.vec 1 67 true)] })]⟩
def al1:bK:=⟨123, { np:=52,n:=61,gn:=3,next:=7,slots:=[(2,.p 4 0),(3,.p 5 0),(5,.sv 6 0),(12,.nd 1),(13,.nd 2),(14,.nd 3)],objs:=[(6,.vec 0 9 true),(5,.cells (kT 4 24) 46 true false),(4,.cells (kT 28 24) 46 true false)] },
 [(.exit 0, { np:=49,n:=61,gn:=3,next:=7,slots:=[(2,.p 4 0),(3,.p 5 0),(5,.sv 6 0)],objs:=[(6,.vec 0 9 true),(5,.cells (kT 1 24) 46 true false),(4,.cells (kT 25 24) 46 true false)],al:=[none,some 4,some 5,some 6,some 7,some 8,some 9,some 10,some 11,some 12,some 13,some 14,some 15,some 16,some 17,some 18,some 19,some 20,some 21,some 22,some 23,some 24,some 25,some 26,some 27,some 28,some 29,some 30,some 31,some 32,some 33,some 34,some 35,some 36,some 37,some 38,some 39,some 40,some 41,some 42,some 43,some 44,some 45,some 46,some 47,some 48,some 49,some 50,some 51] })]⟩
def s90:bK:=⟨90, { np:=1,n:=14,gn:=3,next:=4,slots:=[(0,.nd 0)],objs:=[] },
 [(.ret, { np:=0,n:=14,gn:=3,next:=4,slots:=[(2,.b false)],objs:=[] }),
  (.exit 0, { np:=0,n:=14,gn:=3,next:=4,slots:=[],objs:=[] })]⟩
def s42:bK:=⟨42, { np:=3,n:=28,gn:=3,next:=4,slots:=[(0,.nd 0),(1,.nd 1),(5,.nd 2)],objs:=[] },
 [(.exit 0, { np:=1,n:=28,gn:=3,next:=4,slots:=[(5,.nd 0)],objs:=[] })]⟩
def s4:bK:=⟨4, { np:=3,n:=23,gn:=3,next:=4,slots:=[(0,.nd 0),(5,.nd 0),(6,.nd 1),(7,.nd 2)],objs:=[] },
 [(.ret, { np:=0,n:=23,gn:=3,next:=4,slots:=[(2,.b false)],objs:=[] }),
  (.exit 0, { np:=1,n:=23,gn:=3,next:=4,slots:=[(0,.nd 0)],objs:=[],al:=[some 0] })]⟩
def s78:bK:=⟨78, { np:=2,n:=22,gn:=3,next:=4,slots:=[(0,.nd 0),(3,.nd 1)],objs:=[] },
 [(.exit 0, { np:=2,n:=22,gn:=3,next:=4,slots:=[(0,.nd 0),(3,.nd 1)],objs:=[] })]⟩
def al3:bK:=⟨127, { np:=4,n:=26,gn:=3,next:=4,slots:=[(0,.nd 0),(1,.nd 1),(12,.nd 2),(13,.nd 3)],objs:=[] },
 [(.ret, { np:=0,n:=26,gn:=3,next:=4,slots:=[(4,.b false)],objs:=[] }),
  (.exit 0, { np:=0,n:=26,gn:=3,next:=4,slots:=[],objs:=[] })]⟩
def s79:bK:=⟨79, { np:=4,n:=22,gn:=3,next:=4,slots:=[(3,.nd 0),(10,.nd 1),(11,.nd 2),(12,.nd 3)],objs:=[] },
 [(.exit 0, { np:=1,n:=22,gn:=3,next:=4,slots:=[(3,.nd 0)],objs:=[] })]⟩
def s39:bK:=⟨39, { np:=5,n:=42,gn:=3,next:=6,slots:=[(5,.p 4 0),(6,.nd 0),(22,.nd 1),(23,.nd 2),(24,.nd 3)],objs:=[(4,.cells [.p 4 0,.sv 5 4] 137 true false),(5,.vec 4 5 true)] },
 [(.exit 0, { np:=1,n:=42,gn:=3,next:=6,slots:=[(5,.p 4 0)],objs:=[(4,.cells [.p 4 0,.sv 5 0] 137 true false),(5,.vec 0 5 true)] })]⟩
def al7:bK:=⟨133, { np:=50,n:=93,gn:=3,next:=6,slots:=[(2,.p 4 0),(3,.p 5 0),(77,.nd 0),(78,.nd 1)],objs:=[(5,.cells (kT 2 24) 46 true false),(4,.cells (kT 26 24) 46 true false)] },
 [(.ret, { np:=0,n:=93,gn:=3,next:=4,slots:=[(4,.b false)],objs:=[] }),
  (.exit 2, { np:=0,n:=93,gn:=3,next:=4,slots:=[],objs:=[] })]⟩
def s36:bK:=⟨36, { np:=28,n:=33,gn:=3,next:=6,slots:=[(1,.p 4 0),(3,.mp 5),(9,.nd 0),(10,.nd 1),(11,.nd 2)],objs:=[(5,.smap 3 none (some 3)),(4,.cells (kT 4 24) 38 true false)] },
 [(.exit 0, { np:=1,n:=33,gn:=3,next:=5,slots:=[(3,.mp 4)],objs:=[(4,.smap 0 none (some 3))] })]⟩
def s70:bK:=⟨70, { np:=2,n:=24,gn:=3,next:=4,slots:=[(0,.nd 0),(3,.nd 1)],objs:=[] },
 [(.ret, { np:=1,n:=24,gn:=3,next:=4,slots:=[(2,.nd 0)],objs:=[] }),
  (.exit 0, { np:=0,n:=24,gn:=3,next:=4,slots:=[],objs:=[] })]⟩
def al0:bK:=⟨120, { np:=5,n:=80,gn:=3,next:=6,slots:=[(5,.sv 4 0),(6,.p 5 0),(37,.nd 1),(38,.nd 2)],objs:=[(5,.cells [.nd 3,.nd 4] 125 true false),(4,.vec 0 125 false)] },
 [(.ret, { np:=0,n:=80,gn:=3,next:=4,slots:=[(4,.b false)],objs:=[] }),
  (.exit 2, { np:=1,n:=80,gn:=3,next:=5,slots:=[(5,.sv 4 0)],objs:=[(4,.vec 0 125 false)] })]⟩
def alX:bK:=⟨114, { np:=5,n:=81,gn:=3,next:=5,slots:=[(0,.nd 0),(5,.nd 1),(8,.sv 4 2),(9,.nd 3),(10,.nd 4)],objs:=[(4,.vec 2 165 true)] },
 [(.ret, { np:=1,n:=81,gn:=3,next:=4,slots:=[(2,.bP),(3,.s []),(4,.nd 0)],objs:=[] }),
  (.exit 0, { np:=2,n:=81,gn:=3,next:=5,slots:=[(0,.nd 0),(8,.sv 4 1)],objs:=[(4,.vec 1 165 true)] })]⟩
def al6:bK:=⟨132, { np:=11,n:=71,gn:=3,next:=4,slots:=[(0,.nd 0),(1,.nd 1),(5,.nd 2),(13,.nd 3),(14,.nd 2),(29,.nd 0),(30,.nd 2),(31,.rx 4 0),(32,.rx 4 0),(33,.nd 5),(34,.nd 6),(35,.nd 1),(36,.nd 2),(37,.rx 7 0),(38,.rx 7 0),(39,.nd 8),(40,.nd 9),(41,.b false),(48,.nd 6),(49,.nd 10)],objs:=[] },
 [(.ret, { np:=0,n:=71,gn:=3,next:=4,slots:=[(4,.b false)],objs:=[] }),
  (.exit 2, { np:=10,n:=71,gn:=3,next:=4,slots:=[(0,.nd 0),(1,.nd 1),(13,.nd 2),(14,.nd 3),(29,.nd 0),(30,.nd 3),(31,.rx 4 0),(32,.rx 4 0),(33,.nd 5),(34,.nd 6),(35,.nd 1),(36,.nd 3),(37,.rx 7 0),(38,.rx 7 0),(39,.nd 8),(40,.nd 9),(41,.b false)],objs:=[],al:=[some 0,some 1,some 3,some 2,some 4,some 5,some 6,some 7,some 8,some 9] })]⟩
def s99:bK:=⟨99, { np:=4,n:=40,gn:=3,next:=4,slots:=[(0,.nd 0),(3,.nd 1),(11,.nd 0),(12,.nd 2),(13,.nd 3)],objs:=[] },
 [(.exit 0, { np:=1,n:=40,gn:=3,next:=4,slots:=[(3,.nd 0)],objs:=[] })]⟩
def s92:bK:=⟨92, { np:=5,n:=81,gn:=3,next:=4,slots:=[(0,.nd 0),(4,.nd 1),(5,.nd 2),(6,.nd 3),(7,.nd 4)],objs:=[] },
 [(.ret, { np:=0,n:=81,gn:=3,next:=4,slots:=[(2,.i .i64 0)],objs:=[] }),
  (.exit 0, { np:=3,n:=81,gn:=3,next:=4,slots:=[(4,.nd 0),(5,.nd 1),(6,.nd 2)],objs:=[],al:=[some 1,none,some 3] })]⟩
def s17:bK:=⟨17, { np:=4,n:=42,gn:=3,next:=4,slots:=[(3,.nd 0),(11,.nd 1),(12,.nd 2),(13,.nd 3)],objs:=[] },
 [(.ret, { np:=1,n:=42,gn:=3,next:=4,slots:=[(2,.nd 0)],objs:=[] }),
  (.exit 0, { np:=0,n:=42,gn:=3,next:=4,slots:=[],objs:=[] })]⟩
def s66:bK:=⟨66, { np:=4,n:=29,gn:=3,next:=5,slots:=[(3,.sv 4 0),(6,.nd 1),(7,.nd 2),(8,.nd 3)],objs:=[(4,.vec 0 167 true)] },
 [(.exit 0, { np:=1,n:=29,gn:=3,next:=5,slots:=[(3,.sv 4 0)],objs:=[(4,.vec 0 167 true)] })]⟩
def s62:bK:=⟨62, { np:=4,n:=18,gn:=3,next:=5,slots:=[(3,.sv 4 0),(6,.nd 1),(7,.nd 2),(8,.nd 3)],objs:=[(4,.vec 0 100 true)] },
 [(.exit 0, { np:=1,n:=18,gn:=3,next:=5,slots:=[(3,.sv 4 0)],objs:=[(4,.vec 0 100 true)] })]⟩
def s64:bK:=⟨64, { np:=4,n:=23,gn:=3,next:=5,slots:=[(3,.sv 4 0),(6,.nd 1),(7,.nd 2),(8,.nd 3)],objs:=[(4,.vec 0 165 true)] },
 [(.exit 0, { np:=1,n:=23,gn:=3,next:=5,slots:=[(3,.sv 4 0)],objs:=[(4,.vec 0 165 true)] })]⟩
def s15:bK:=⟨15, { np:=3,n:=19,gn:=3,next:=4,slots:=[(0,.nd 0),(5,.nd 0),(6,.nd 1),(7,.nd 2)],objs:=[] },
 [(.ret, { np:=0,n:=19,gn:=3,next:=4,slots:=[(2,.b false)],objs:=[] }),
  (.exit 0, { np:=1,n:=19,gn:=3,next:=4,slots:=[(0,.nd 0)],objs:=[],al:=[some 0] })]⟩
def s12:bK:=⟨12, { np:=4,n:=22,gn:=3,next:=6,slots:=[(3,.p 4 0),(11,.nd 0),(12,.nd 1),(13,.nd 2)],objs:=[(4,.cells [.p 4 0,.sv 5 3] 137 true false),(5,.vec 3 5 true)] },
 [(.exit 0, { np:=1,n:=22,gn:=3,next:=6,slots:=[(3,.p 4 0)],objs:=[(4,.cells [.p 4 0,.sv 5 0] 137 true false),(5,.vec 0 5 true)] })]⟩
def al5:bK:=⟨131, { np:=4,n:=71,gn:=3,next:=4,slots:=[(0,.nd 0),(1,.nd 1),(13,.nd 2),(14,.nd 3)],objs:=[] },
 [(.ret, { np:=0,n:=71,gn:=3,next:=4,slots:=[(4,.b false)],objs:=[] }),
  (.exit 0, { np:=0,n:=71,gn:=3,next:=4,slots:=[],objs:=[] })]⟩
def alT:bK:=⟨102, { np:=3,n:=31,gn:=3,next:=4,slots:=[(0,.nd 0),(1,.nd 1),(5,.nd 2)],objs:=[] },
 [(.ret, { np:=1,n:=31,gn:=3,next:=4,slots:=[(4,.nd 0)],objs:=[] }),
  (.exit 0, { np:=2,n:=31,gn:=3,next:=4,slots:=[(0,.nd 0),(1,.nd 1)],objs:=[],al:=[some 0,some 1] })]⟩
def s32:bK:=⟨32, { np:=27,n:=38,gn:=3,next:=7,slots:=[(1,.p 4 0),(2,.p 5 0),(3,.sv 6 0),(15,.nd 1),(16,.nd 2),(17,.nd 3)],objs:=[(6,.vec 0 77 false),(5,.cells [.i .i64 0,.i .u64 0,.i .u64 0,.i .u64 0,.i .u64 0,.i .u64 0,.i .u64 0,.i .u64 0,.i .u64 0,.i .u64 0,.i .u64 0,.i .u64 0,.i .u64 0,.i .u64 0,.i .u64 0,.i .u64 0,.i .i64 0,.b false,.s [],.s [],.s [],.bP,.bP,.bP] 38 true false),(4,.cells [.nd 4,.nd 5,.nd 6,.nd 7,.nd 8,.nd 9,.nd 10,.nd 11,.nd 12,.nd 13,.nd 14,.nd 15,.nd 16,.nd 17,.nd 18,.nd 19,.nd 20,.nd 21,.nd 22,.nd 23,.nd 24,.nd 25,.nd 1,.nd 26] 38 true false)] },
 [(.exit 0, { np:=25,n:=38,gn:=3,next:=7,slots:=[(1,.p 4 0),(2,.p 5 0),(3,.sv 6 0)],objs:=[(6,.vec 0 77 false),(5,.cells [.i .i64 0,.i .u64 0,.i .u64 0,.i .u64 0,.i .u64 0,.i .u64 0,.i .u64 0,.i .u64 0,.i .u64 0,.i .u64 0,.i .u64 0,.i .u64 0,.i .u64 0,.i .u64 0,.i .u64 0,.i .u64 0,.i .i64 0,.b false,.s [],.s [],.s [],.bP,.bP,.bP] 38 true false),(4,.cells (kT 1 24) 38 true false)],al:=[none,some 4,some 5,some 6,some 7,some 8,some 9,some 10,some 11,some 12,some 13,some 14,some 15,some 16,some 17,some 18,some 19,some 20,some 21,some 22,some 23,some 24,some 25,some 1,some 26] })]⟩
def s43:bK:=⟨43, { np:=28,n:=62,gn:=3,next:=7,slots:=[(6,.p 4 0),(8,.p 5 0),(9,.mp 6),(20,.nd 0),(21,.nd 1),(22,.nd 2)],objs:=[(6,.smap 3 none (some 3)),(5,.cells (kT 4 24) 38 true false),(4,.cells [.i .i64 0,.i .u64 0,.i .u64 0,.i .u64 0,.i .u64 0,.i .u64 0,.i .u64 0,.i .u64 0,.i .u64 0,.i .u64 0,.i .u64 0,.i .u64 0,.i .u64 0,.i .u64 0,.i .u64 0,.i .u64 0,.i .i64 0,.b false,.s [],.s [],.s [],.bP,.bP,.bP] 38 true false)] },
 [(.ret, { np:=1,n:=62,gn:=3,next:=5,slots:=[(6,.p 4 0),(7,.nd 0)],objs:=[(4,.cells [.i .i64 0,.i .u64 0,.i .u64 0,.i .u64 0,.i .u64 0,.i .u64 0,.i .u64 0,.i .u64 0,.i .u64 0,.i .u64 0,.i .u64 0,.i .u64 0,.i .u64 0,.i .u64 0,.i .u64 0,.i .u64 0,.i .i64 0,.b false,.s [],.s [],.s [],.bP,.bP,.bP] 38 true false)] }),
  (.exit 0, { np:=24,n:=62,gn:=3,next:=6,slots:=[(6,.p 4 0),(8,.p 5 0)],objs:=[(5,.cells (kT 0 24) 38 true false),(4,.cells [.i .i64 0,.i .u64 0,.i .u64 0,.i .u64 0,.i .u64 0,.i .u64 0,.i .u64 0,.i .u64 0,.i .u64 0,.i .u64 0,.i .u64 0,.i .u64 0,.i .u64 0,.i .u64 0,.i .u64 0,.i .u64 0,.i .i64 0,.b false,.s [],.s [],.s [],.bP,.bP,.bP] 38 true false)] })]⟩
def s72:bK:=⟨72, { np:=5,n:=24,gn:=3,next:=4,slots:=[(0,.nd 0),(3,.nd 1),(11,.nd 2),(12,.nd 3),(13,.nd 4)],objs:=[] },
 [(.ret, { np:=1,n:=24,gn:=3,next:=4,slots:=[(2,.nd 0)],objs:=[] }),
  (.exit 2, { np:=2,n:=24,gn:=3,next:=4,slots:=[(0,.nd 0),(3,.nd 1)],objs:=[],al:=[some 0,some 1] })]⟩
def s83:bK:=⟨83, { np:=3,n:=67,gn:=3,next:=4,slots:=[(0,.nd 0),(9,.nd 1),(10,.nd 2)],objs:=[] },
 [(.ret, { np:=1,n:=67,gn:=3,next:=4,slots:=[(2,.nd 0)],objs:=[] }),
  (.exit 0, { np:=0,n:=67,gn:=3,next:=4,slots:=[],objs:=[] })]⟩
def s11:bK:=⟨11, { np:=4,n:=33,gn:=3,next:=5,slots:=[(0,.nd 0),(3,.sv 4 1),(9,.nd 2),(10,.nd 3)],objs:=[(4,.vec 1 5 false)] },
 [(.exit 0, { np:=1,n:=33,gn:=3,next:=5,slots:=[(3,.sv 4 0)],objs:=[(4,.vec 0 5 false)] })]⟩
def s6:bK:=⟨6, { np:=3,n:=37,gn:=3,next:=4,slots:=[(0,.nd 0),(5,.nd 0),(6,.nd 1),(7,.nd 2)],objs:=[] },
 [(.ret, { np:=0,n:=37,gn:=3,next:=4,slots:=[(2,.b false)],objs:=[] }),
  (.exit 0, { np:=1,n:=37,gn:=3,next:=4,slots:=[(0,.nd 0)],objs:=[],al:=[some 0] })]⟩
def s59:bK:=⟨59, { np:=3,n:=33,gn:=3,next:=5,slots:=[(0,.p 4 0),(1,.nd 0)],objs:=[(4,.cells [.nd 1,.nd 2] 263 true false)],ka:=1 },
 [(.ret, { np:=5,n:=2,gn:=3,next:=5,slots:=[(0,.agg [.nd 0,.nd 1]),(1,.nd 2)],objs:=[(4,.cells [.nd 3,.nd 4] 263 true false)],ka:=1 })]⟩
def s58:bK:=⟨58, { np:=4,n:=63,gn:=3,next:=5,slots:=[(0,.p 4 0),(1,.nd 2),(2,.nd 3)],objs:=[(4,.cells [.nd 0,.nd 1] 263 true false)],ka:=1 },
 [(.ret, { np:=4,n:=2,gn:=3,next:=5,slots:=[(0,.nd 0),(1,.nd 1)],objs:=[(4,.cells [.nd 2,.nd 3] 263 true false)],ka:=1 })]⟩
def s56:bK:=⟨56, { np:=2,n:=56,gn:=3,next:=5,slots:=[(0,.p 4 0)],objs:=[(4,.cells [.nd 0,.nd 1] 263 true false)],ka:=1 },
 [(.ret, { np:=4,n:=2,gn:=3,next:=5,slots:=[(0,.nd 0),(1,.nd 1)],objs:=[(4,.cells [.nd 2,.nd 3] 263 true false)],ka:=1 })]⟩
def s54:bK:=⟨54, { np:=2,n:=25,gn:=3,next:=5,slots:=[(0,.p 4 0)],objs:=[(4,.cells [.nd 0,.nd 1] 263 true false)],ka:=1 },
 [(.ret, { np:=4,n:=2,gn:=3,next:=5,slots:=[(0,.nd 0),(1,.nd 1)],objs:=[(4,.cells [.nd 2,.nd 3] 263 true false)],ka:=1 })]⟩
def s53:bK:=⟨53, { np:=2,n:=37,gn:=3,next:=5,slots:=[(0,.p 4 0)],objs:=[(4,.cells [.nd 0,.nd 1] 263 true false)],ka:=1 },
 [(.ret, { np:=5,n:=2,gn:=3,next:=5,slots:=[(0,.agg [.nd 0,.nd 1]),(1,.nd 2)],objs:=[(4,.cells [.nd 3,.nd 4] 263 true false)],ka:=1 })]⟩
def s49:bK:=⟨49, { np:=2,n:=24,gn:=3,next:=5,slots:=[(0,.p 4 0)],objs:=[(4,.cells [.nd 0,.nd 1] 263 true false)],ka:=1 },
 [(.ret, { np:=4,n:=2,gn:=3,next:=5,slots:=[(0,.nd 0),(1,.nd 1)],objs:=[(4,.cells [.nd 2,.nd 3] 263 true false)],ka:=1 })]⟩
def s48:bK:=⟨48, { np:=2,n:=60,gn:=3,next:=5,slots:=[(0,.p 4 0)],objs:=[(4,.cells [.nd 0,.nd 1] 263 true false)],ka:=1 },
 [(.ret, { np:=4,n:=2,gn:=3,next:=5,slots:=[(0,.nd 0),(1,.nd 1)],objs:=[(4,.cells [.nd 2,.nd 3] 263 true false)],ka:=1 })]⟩
def s45:bK:=⟨45, { np:=30,n:=117,gn:=3,next:=5,slots:=[(0,.p 4 0),(1,.nd 0),(2,.agg (kT 1 5))],objs:=[(4,.cells (kT 6 24) 38 true false)],ka:=1 },
 [(.ret, { np:=25,n:=1,gn:=3,next:=5,slots:=[(0,.nd 0)],objs:=[(4,.cells (kT 1 24) 38 true false)],ka:=1,al:=[none,some 6,none,none,none,none,none,none,none,none,none,none,none,none,none,none,none,none,none,none,none,none,none,none,some 29] })]⟩
def s34:bK:=⟨34, { np:=24,n:=33,gn:=3,next:=4,slots:=[(0,.agg (kT 0 24))],objs:=[] },
 [(.ret, { np:=1,n:=1,gn:=3,next:=5,slots:=[(0,.mp 4)],objs:=[(4,.smap 0 none (some 3))] })]⟩
noncomputable def rows:List Row:=[
 .any (λgs out=>True),
 .fn 3 [] [.sc] [] [],
 .fn 6 [] [.sc] [] [],
 .fn 28 [] [.sc] [] [(0,4)],
 .lp 28 [([],0)] s4 [] [],
 .fn 29 [] [.sc] [] [(0,6)],
 .lp 29 [([],0)] s6 [] [],
 .fn 32 [] [.sc] [] [(0,12)],
 .fn 53 [] [.sc] [] [(0,11)],
 .fn 99 [] [.sc] [] [(0,10)],
 .lp 99 [([],0)] s10 [] [],
 .lp 53 [([],0)] s11 [] [],
 .lp 32 [([],0)] s12 [] [],
 .fn 66 [] [.sc] [] [],
 .fn 30 [] [.sc] [] [(0,15)],
 .lp 30 [([],0)] s15 [] [],
 .fn 7 [] [.sc] [] [(0,17)],
 .lp 7 [([],0)] s17 [] [],
 .fn 31 [] [.sc] [] [],
 .fn 64 [] [.sc] [] [(0,20)],
 .lp 64 [([],0)] s20 [] [],
 .fn 111 [] [.sc] [] [],
 .fn 117 [] [.sc] [] [],
 .fn 144 [] [.sc] [] [],
 .told 173 [] [.sc],
 .fn 8 [] [.ag 24] [] [],
 .fn 33 [] [.sc] [] [],
 .fn 68 [] [.sc,.sc] [] [(0,28)],
 .lp 68 [([],0)] s28 [] [],
 .fn 9 [] [.ag 24,.sc] [] [(0,43)],
 .fn 34 [] [.ag 24] [] [(0,32)],
 .told 69 [] [.sc],
 .lp 34 [([],0)] s32 [] [],
 .told 70 [] [.sc],
 .fs 35 [] s34 [] [(0,36)],
 .told 45 [] [.sc],
 .lp 35 [([],0)] s36 [] [],
 .fn 24 [] [.ag 5,.sc] [] [],
 .fn 60 [] [.sc,.sc] [] [(0,39)],
 .lp 60 [([],0)] s39 [] [],
 .fn 108 [] [.sc] [] [],
 .fn 141 [] [.sc] [] [(0,42)],
 .lp 141 [([],0)] s42 [] [],
 .lp 9 [([],0)] s43 [] [],
 .fn 37 [] [.ag 24,.sc] [] [],
 .fs 71 [] s45 [] [],
 .fn 115 [] [.sc] [] [],
 .fn 118 [] [.sc,.sc] [] [],
 .fs 145 [] s48 [] [(0,52)],
 .fs 174 [] s49 [] [],
 .fn 100 [] [.sc,.sc,.sc] [] [(0,51)],
 .lp 100 [([],0)] s51 [] [],
 .lp 145 [([],0)] s52 [] [],
 .fs 175 [] s53 [] [],
 .fs 204 [] s54 [] [],
 .fn 119 [] [.sc,.sc] [] [],
 .fs 147 [] s56 [] [(0,57)],
 .lp 147 [([],0)] s57 [] [],
 .fs 176 [] s58 [] [],
 .fs 177 [] s59 [] [],
 .fn 11 [] [.ag 24] [] [],
 .fn 42 [] [.sc] [] [(0,62)],
 .lp 42 [([],0)] s62 [] [],
 .fn 43 [] [.sc] [] [(0,64)],
 .lp 43 [([],0)] s64 [] [],
 .fn 44 [] [.sc] [] [(0,66)],
 .lp 44 [([],0)] s66 [] [],
 .fn 10 [] [.ag 24,.sc] [] [(0,68)],
 .lp 10 [([],0)] s68 [] [],
 .fn 38 [] [.sc] [] [(0,70)],
 .lp 38 [([],0)] s70 [] [(0,72)],
 .fn 72 [] [.sc] [] [],
 .lp 38 [([],0),([],0)] s72 [] [],
 .fn 39 [] [.sc,.sc] [] [],
 .fn 73 [] [.sc] [] [],
 .fn 75 [] [.sc] [] [],
 .fn 76 [] [.sc] [] [(0,79)],
 .fn 120 [] [.sc] [] [(0,78)],
 .lp 120 [([],0)] s78 [] [],
 .lp 76 [([],0)] s79 [] [],
 .fn 121 [] [.sc] [] [],
 .fn 77 [] [.sc,.sc] [] [],
 .fn 122 [] [.sc] [] [(0,83)],
 .lp 122 [([],0)] s83 [] [],
 .fn 148 [] [.sc] [] [],
 .fn 178 [] [.sc] [] [(0,86)],
 .lp 178 [([],0)] s86 [] [],
 .fn 182 [] [.sc] [] [],
 .fn 80 [] [.sc] [] [],
 .fn 124 [] [.sc] [] [(0,90)],
 .lp 124 [([],0)] s90 [] [],
 .fn 151 [] [.sc] [] [(0,92)],
 .lp 151 [([],0)] s92 [] [],
 .fn 155 [] [.sc] [] [],
 .fn 179 [] [.sc] [] [],
 .fn 205 [] [.sc] [] [(0,96)],
 .lp 205 [([],0)] s96 [] [],
 .fn 149 [] [.sc] [] [],
 .fn 123 [] [.sc] [] [(0,99)],
 .lp 123 [([],0)] s99 [] [],
 .fn 150 [] [.sc] [] [],
 .fn 180 [] [.sc] [] [(0,102)],
 .lp 180 [([],0)] alT [] [],
 .fn 41 [] [.ag 24,.sc] [] [],
 .fn 81 [] [.sc,.sc] [] [],
 .fn 125 [] [.sc,.sc,.sc] [] [(0,109)],
 .fn 152 [] [.sc,.sc,.sc] [] [(0,107),(1,108)],
 .lp 152 [([],0)] alU [] [],
 .lp 152 [([],1)] alV [] [],
 .lp 125 [([],0)] alW [] [],
 .fn 154 [] [.ag 2,.sc,.sc] [] [],
 .fn 181 [] [.sc,.sc,.sc] [] [],
 .fn 82 [] [.sc,.sc] [] [],
 .fn 126 [] [.sc,.sc,.sc] [] [(0,114)],
 .lp 126 [([],0)] alX [] [],
 .fn 156 [] [.sc,.sc,.sc] [] [],
 .fn 13 [] [.sc] [] [(0,117)],
 .lp 13 [([],0)] alY [] [],
 .fn 25 [] [.sc] [] [(0,119)],
 .lp 25 [([],0)] alZ [] [(0,120)],
 .lp 25 [([],0),([],0)] al0 [] [],
 .fn 14 [] [.sc] [] [(0,123)],
 .fn 46 [] [.sc] [] [],
 .lp 14 [([],0)] al1 [] [],
 .fn 47 [] [.sc] [] [(0,125)],
 .lp 47 [([],0)] al2 [] [],
 .fn 12 [] [.sc] [] [(0,127)],
 .lp 12 [([],0)] al3 [] [],
 .fn 15 [] [.sc] [] [(0,129),(1,133)],
 .lp 15 [([],0)] al4 [] [],
 .fn 48 [] [.sc] [] [(0,131)],
 .lp 48 [([],0)] al5 [] [(0,132)],
 .lp 48 [([],0),([],0)] al6 [] [],
 .lp 15 [([],1)] al7 [] []]
noncomputable abbrev C:=uz Tryz.prog dZ rows
noncomputable def aeu:Code:=Tryz.f3.body.getD .skip
noncomputable def pl0:jK:=PL.cons 5 (λ_=>DV) (PL.cons 143 (λ_=>JA) (PL.nil))
noncomputable def es:List (FuncId×List Nat):=[(35,[34]),(71,[45]),(145,[48]),(174,[49]),(175,[53]),(204,[54]),(147,[56]),(176,[58]),(177,[59]),(205,[95]),(12,[126]),(82,[112]),(44,[65]),(75,[75]),(39,[73]),(42,[61]),(178,[85]),(154,[110]),(120,[77]),(144,[23]),(123,[98]),(121,[80]),(6,[2]),(122,[82]),(37,[44]),(28,[3]),(60,[38]),(41,[103]),(11,[60]),(25,[118]),(73,[74]),(118,[47]),(34,[30]),(48,[130]),(24,[37]),(115,[46]),(76,[76]),(31,[18]),(125,[105]),(70,[33]),(10,[67]),(32,[7]),(180,[101]),(149,[97]),(152,[106]),(141,[41]),(117,[22]),(47,[124]),(13,[116]),(29,[5]),(43,[63]),(151,[91]),(126,[113]),(68,[27]),(150,[100]),(46,[122]),(100,[50]),(66,[13]),(77,[81]),(80,[88]),(124,[89]),(53,[8]),(45,[35]),(173,[24]),(8,[25]),(81,[104]),(179,[94]),(99,[9]),(15,[128]),(9,[29]),(111,[21]),(155,[93]),(156,[115]),(64,[19]),(33,[26]),(7,[16]),(148,[84]),(14,[121]),(182,[87]),(30,[14]),(69,[31]),(72,[71]),(119,[55]),(38,[69]),(3,[1]),(108,[40]),(181,[111])]
noncomputable def pl:jK:=abB Tryz.prog rows es pl0
end C
end Go.Proofs.YtcpfjpcdcafjmaaGreatDoor
