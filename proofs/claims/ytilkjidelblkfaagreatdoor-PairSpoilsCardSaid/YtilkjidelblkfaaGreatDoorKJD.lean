/- The shapes, and all definitions as rows. -/
import Derived.Test.YtilkjidelblkfaaGreatDoorKRBase
import Derived.Test.YtilkjidelblkfaaGreatDoorKJT
import Derived.Test.YtilkjidelblkfaaGreatDoorAbsTab
import Derived.Test.YtilkjidelblkfaaGreatDoorAbsCloneO
import Derived.Test.YtilkjidelblkfaaGreatDoorAbsPl
import Derived.Test.YtilkjidelblkfaaGreatDoorAbsTold
import Derived.Test.YtilkjidelblkfaaGreatDoorAbsTold2
import Derived.Test.YtilkjidelblkfaaGreatDoorAbsTold3
import Derived.Test.YtilkjidelblkfaaGreatDoorAbsFields
import Derived.Test.YtilkjidelblkfaaGreatDoorAbsSortF
namespace Go.Proofs.YtilkjidelblkfaaGreatDoor
open Go Go.Abs
set_option maxRecDepth 100000
set_option linter.unusedVariables false
set_option linter.unusedSimpArgs false
namespace J
theorem low:TabsLow tabsL Tryz.prog.globals.size:=by
 rw [nGlobals]
 refine ⟨λp hp=>?_,λp hp=>?_⟩
 all_goals
  simp only [tabsL,List.mem_cons,List.mem_nil_iff,or_false] at hp
  rcases hp with rfl | rfl
  all_goals first | decide | rfl
def s77:LoopSpec:=⟨77, { np:=28,n:=61,gn:=3,next:=6,slots:=[(2,.p 4 0),(7,.sv 5 0),(21,.nd 1),(22,.nd 2),(23,.nd 3)],objs:=[(5,.vec 0 142 true),(4,.cells [.nd 4,.nd 5,.nd 6,.nd 7,.nd 8,.nd 9,.nd 10,.nd 11,.nd 12,.nd 13,.nd 14,.nd 15,.nd 16,.nd 17,.nd 18,.nd 19,.nd 20,.nd 21,.nd 22,.nd 23,.nd 24,.nd 25,.nd 26,.nd 27] 81 true false)] },
 [(.exit 0, { np:=25,n:=61,gn:=3,next:=5,slots:=[(2,.p 4 0),(7,.nd 0)],objs:=[(4,.cells [.nd 1,.nd 2,.nd 3,.nd 4,.nd 5,.nd 6,.nd 7,.nd 8,.nd 9,.nd 10,.nd 11,.nd 12,.nd 13,.nd 14,.nd 15,.nd 16,.nd 17,.nd 18,.nd 19,.nd 20,.nd 21,.nd 22,.nd 23,.nd 24] 81 true false)],al:=[none,some 4,some 5,some 6,some 7,some 8,some 9,some 10,some 11,some 12,some 13,some 14,some 15,some 16,some 17,some 18,some 19,some 20,some 21,some 22,some 23,some 24,some 25,some 26,some 27] })]⟩
def s123:LoopSpec:=⟨123, { np:=4,n:=34,gn:=3,next:=7,slots:=[(0,.p 4 0),(1,.nd 0),(5,.sv 5 1)],objs:=[(4,.cells [.sv 6 2,.nd 3] 208 true false),(6,.vec 2 211 true),(5,.vec 1 9 true)],ka:=1 },
 [(.ret, { np:=3,n:=34,gn:=3,next:=7,slots:=[(4,.sv 5 0)],objs:=[(4,.cells [.sv 6 1,.nd 2] 208 true false),(6,.vec 1 211 true),(5,.vec 0 9 true)],ka:=1,al:=[none,none,some 3] })]⟩
def s75:LoopSpec:=⟨75, { np:=4,n:=116,gn:=3,next:=4,slots:=[(6,.nd 0),(97,.nd 1),(98,.nd 2),(99,.nd 3)],objs:=[] },
 [(.ret, { np:=0,n:=116,gn:=3,next:=4,slots:=[(4,.i .i64 14)],objs:=[] }),
  (.exit 6, { np:=0,n:=116,gn:=3,next:=4,slots:=[],objs:=[] })]⟩
def s11:LoopSpec:=⟨11, { np:=20,n:=48,gn:=3,next:=5,slots:=[(5,.p 4 0),(6,.nd 0),(13,.nd 1),(14,.nd 2),(15,.nd 3)],objs:=[(4,.cells [.nd 4,.nd 5,.nd 6,.nd 7,.nd 8,.nd 9,.nd 10,.nd 11,.nd 12,.nd 13,.nd 14,.nd 15,.nd 16,.nd 17,.nd 18,.nd 19] 203 true false)] },
 [(.exit 0, { np:=1,n:=48,gn:=3,next:=4,slots:=[(6,.nd 0)],objs:=[] })]⟩
def s28:LoopSpec:=⟨28, { np:=5,n:=46,gn:=3,next:=5,slots:=[(1,.nd 0),(7,.sv 4 1),(30,.nd 2),(31,.nd 3),(32,.nd 4)],objs:=[(4,.vec 1 136 true)] },
 [(.exit 0, { np:=1,n:=46,gn:=3,next:=5,slots:=[(7,.sv 4 0)],objs:=[(4,.vec 0 136 true)] })]⟩
def s107:LoopSpec:=⟨107, { np:=7,n:=68,gn:=3,next:=7,slots:=[(0,.p 4 0),(1,.nd 0),(13,.nd 1),(14,.nd 2),(15,.nd 3)],objs:=[(4,.cells [.p 5 0,.nd 4] 158 true false),(5,.cells [.sv 6 5,.nd 6] 208 true false),(6,.vec 5 211 true)],ka:=2 },
 [(.exit 0, { np:=3,n:=68,gn:=3,next:=7,slots:=[],objs:=[(4,.cells [.p 5 0,.nd 0] 158 true false),(5,.cells [.sv 6 1,.nd 2] 208 true false),(6,.vec 1 211 true)],ka:=2 })]⟩
def s12:LoopSpec:=⟨12, { np:=23,n:=48,gn:=3,next:=5,slots:=[(5,.p 4 0),(6,.nd 0),(8,.nd 1),(13,.nd 2),(14,.nd 3),(15,.nd 4),(20,.nd 5),(21,.nd 6)],objs:=[(4,.cells [.nd 7,.nd 8,.nd 9,.nd 10,.nd 11,.nd 12,.nd 13,.nd 14,.nd 15,.nd 16,.nd 17,.nd 18,.nd 19,.nd 20,.nd 21,.nd 22] 203 true false)] },
 [(.exit 2, { np:=20,n:=48,gn:=3,next:=5,slots:=[(5,.p 4 0),(6,.nd 0),(13,.nd 1),(14,.nd 2),(15,.nd 3)],objs:=[(4,.cells [.nd 4,.nd 5,.nd 6,.nd 7,.nd 8,.nd 9,.nd 10,.nd 11,.nd 12,.nd 13,.nd 14,.nd 15,.nd 16,.nd 17,.nd 18,.nd 19] 203 true false)],al:=[none,some 2,some 3,some 4,some 7,some 8,some 9,some 10,some 11,some 12,some 13,some 14,some 15,some 16,some 17,some 18,some 19,some 20,some 21,some 22] })]⟩
def s80:LoopSpec:=⟨80, { np:=5,n:=42,gn:=3,next:=6,slots:=[(5,.p 4 0),(6,.nd 0),(22,.nd 1),(23,.nd 2),(24,.nd 3)],objs:=[(4,.cells [.p 4 0,.sv 5 4] 168 true false),(5,.vec 4 5 true)] },
 [(.exit 0, { np:=1,n:=42,gn:=3,next:=6,slots:=[(5,.p 4 0)],objs:=[(4,.cells [.p 4 0,.sv 5 0] 168 true false),(5,.vec 0 5 true)] })]⟩
def s146:LoopSpec:=⟨146, { np:=22,n:=64,gn:=3,next:=18,slots:=[(0,.p 4 0),(4,.nd 0)],objs:=[(4,.cells [.p 12 0,.p 9 0,.p 7 0,.p 5 0,.nd 1,.sv 15 2] 99 true false),(15,.vec 2 63 true),(5,.cells [.p 6 0,.nd 3] 158 true false),(6,.cells [.sv 16 4,.nd 5] 208 true false),(16,.vec 4 211 true),(7,.cells [.p 8 0,.nd 6] 158 true false),(8,.cells [.sv 17 7,.nd 8] 208 true false),(17,.vec 7 211 true),(9,.cells [.nd 9,.nd 10,.nd 11,.nd 12,.nd 13,.nd 14,.p 11 0,.p 10 0] 74 true false),(10,.cells [.nd 15,.nd 12,.nd 16,.nils] 110 true false),(11,.cells [.nd 15,.nils,.nd 16] 108 true false),(12,.cells [.nd 17,.nd 18,.nd 19,.nd 20,.nd 21,.nd 14,.p 14 0,.p 13 0] 74 true false),(13,.cells [.nd 15,.nd 12,.nd 16,.nils] 110 true false),(14,.cells [.nd 15,.nils,.nd 16] 108 true false)],ka:=11 },
 [(.ret, { np:=21,n:=64,gn:=3,next:=18,slots:=[],objs:=[(4,.cells [.p 12 0,.p 9 0,.p 7 0,.p 5 0,.nd 0,.sv 15 1] 99 true false),(15,.vec 1 63 true),(5,.cells [.p 6 0,.nd 2] 158 true false),(6,.cells [.sv 16 3,.nd 4] 208 true false),(16,.vec 3 211 true),(7,.cells [.p 8 0,.nd 5] 158 true false),(8,.cells [.sv 17 6,.nd 7] 208 true false),(17,.vec 6 211 true),(9,.cells [.nd 8,.nd 9,.nd 10,.nd 11,.nd 12,.nd 13,.p 11 0,.p 10 0] 74 true false),(10,.cells [.nd 14,.nd 11,.nd 15,.nils] 110 true false),(11,.cells [.nd 14,.nils,.nd 15] 108 true false),(12,.cells [.nd 16,.nd 17,.nd 18,.nd 19,.nd 20,.nd 13,.p 14 0,.p 13 0] 74 true false),(13,.cells [.nd 14,.nd 11,.nd 15,.nils] 110 true false),(14,.cells [.nd 14,.nils,.nd 15] 108 true false)],ka:=11,al:=[some 0,none,some 3,none,some 5,some 6,none,some 8,some 9,some 10,some 11,some 12,some 13,some 14,some 15,some 16,some 17,some 18,some 19,some 20,some 21] }),
  (.exit 0, { np:=21,n:=64,gn:=3,next:=18,slots:=[],objs:=[(4,.cells [.p 12 0,.p 9 0,.p 7 0,.p 5 0,.nd 0,.sv 15 1] 99 true false),(15,.vec 1 63 true),(5,.cells [.p 6 0,.nd 2] 158 true false),(6,.cells [.sv 16 3,.nd 4] 208 true false),(16,.vec 3 211 true),(7,.cells [.p 8 0,.nd 5] 158 true false),(8,.cells [.sv 17 6,.nd 7] 208 true false),(17,.vec 6 211 true),(9,.cells [.nd 8,.nd 9,.nd 10,.nd 11,.nd 12,.nd 13,.p 11 0,.p 10 0] 74 true false),(10,.cells [.nd 14,.nd 11,.nd 15,.nils] 110 true false),(11,.cells [.nd 14,.nils,.nd 15] 108 true false),(12,.cells [.nd 16,.nd 17,.nd 18,.nd 19,.nd 20,.nd 13,.p 14 0,.p 13 0] 74 true false),(13,.cells [.nd 14,.nd 11,.nd 15,.nils] 110 true false),(14,.cells [.nd 14,.nils,.nd 15] 108 true false)],ka:=11,al:=[none,none,some 3,none,some 5,some 6,none,some 8,some 9,some 10,some 11,some 12,some 13,some 14,some 15,some 16,some 17,some 18,some 19,some 20,some 21] })]⟩
def s105:LoopSpec:=⟨105, { np:=6,n:=37,gn:=3,next:=6,slots:=[(0,.p 4 0),(1,.nd 0),(10,.nd 1),(11,.nd 2),(12,.nd 3)],objs:=[(4,.cells [.sv 5 4,.nd 5] 208 true false),(5,.vec 4 211 true)],ka:=1 },
 [(.exit 0, { np:=2,n:=37,gn:=3,next:=6,slots:=[],objs:=[(4,.cells [.sv 5 0,.nd 1] 208 true false),(5,.vec 0 211 true)],ka:=1 })]⟩
def s51:LoopSpec:=⟨51, { np:=4,n:=42,gn:=3,next:=4,slots:=[(3,.nd 0),(11,.nd 1),(12,.nd 2),(13,.nd 3)],objs:=[] },
 [(.ret, { np:=1,n:=42,gn:=3,next:=4,slots:=[(2,.nd 0)],objs:=[] }),
  (.exit 0, { np:=0,n:=42,gn:=3,next:=4,slots:=[],objs:=[] })]⟩
def s108:LoopSpec:=⟨108, { np:=11,n:=68,gn:=3,next:=7,slots:=[(0,.p 4 0),(1,.nd 0),(7,.nd 1),(9,.nd 2),(13,.nd 3),(14,.nd 4),(15,.nd 5),(52,.nd 6),(53,.nd 7)],objs:=[(4,.cells [.p 5 0,.nd 8] 158 true false),(5,.cells [.sv 6 9,.nd 10] 208 true false),(6,.vec 9 211 true)],ka:=2 },
 [(.exit 2, { np:=7,n:=68,gn:=3,next:=7,slots:=[(0,.p 4 0),(1,.nd 0),(13,.nd 1),(14,.nd 2),(15,.nd 3)],objs:=[(4,.cells [.p 5 0,.nd 4] 158 true false),(5,.cells [.sv 6 5,.nd 6] 208 true false),(6,.vec 5 211 true)],ka:=2,al:=[some 0,some 3,some 4,some 5,some 8,none,none] })]⟩
def s36:LoopSpec:=⟨36, { np:=28,n:=116,gn:=3,next:=6,slots:=[(2,.p 4 0),(6,.nd 0),(7,.mp 5),(44,.nd 0),(45,.nd 1),(46,.nd 2)],objs:=[(5,.smap 3 none none),(4,.cells [.nd 4,.nd 5,.nd 6,.nd 7,.nd 8,.nd 9,.nd 10,.nd 11,.nd 12,.nd 13,.nd 14,.nd 15,.nd 16,.nd 17,.nd 18,.nd 19,.nd 20,.nd 21,.nd 22,.nd 23,.nd 24,.nd 25,.nd 26,.nd 27] 81 true false)] },
 [(.exit 0, { np:=26,n:=116,gn:=3,next:=6,slots:=[(2,.p 4 0),(6,.nd 0),(7,.mp 5)],objs:=[(5,.smap 1 none none),(4,.cells [.nd 2,.nd 3,.nd 4,.nd 5,.nd 6,.nd 7,.nd 8,.nd 9,.nd 10,.nd 11,.nd 12,.nd 13,.nd 14,.nd 15,.nd 16,.nd 17,.nd 18,.nd 19,.nd 20,.nd 21,.nd 22,.nd 23,.nd 24,.nd 25] 81 true false)],al:=[some 0,none,some 4,some 5,some 6,some 7,some 8,some 9,some 10,some 11,some 12,some 13,some 14,some 15,some 16,some 17,some 18,some 19,some 20,some 21,some 22,some 23,some 24,some 25,some 26,some 27] })]⟩
def s90:LoopSpec:=⟨90, { np:=4,n:=66,gn:=3,next:=4,slots:=[(0,.nd 0),(3,.nd 1),(8,.nd 2),(9,.nd 3)],objs:=[] },
 [(.exit 0, { np:=1,n:=66,gn:=3,next:=4,slots:=[(3,.nd 0)],objs:=[] })]⟩
def s132:LoopSpec:=⟨132, { np:=2,n:=18,gn:=3,next:=4,slots:=[(0,.nd 0),(4,.nd 1)],objs:=[] },
 [(.ret, { np:=1,n:=18,gn:=3,next:=4,slots:=[(2,.nd 0)],objs:=[] }),
  (.exit 0, { np:=0,n:=18,gn:=3,next:=4,slots:=[],objs:=[] })]⟩
def s138:LoopSpec:=⟨138, { np:=22,n:=37,gn:=3,next:=18,slots:=[(0,.p 4 0),(1,.nd 0),(10,.nils),(11,.i .i64 0),(12,.i .i64 0)],objs:=[(4,.cells [.p 12 0,.p 9 0,.p 7 0,.p 5 0,.nd 1,.sv 15 2] 99 true false),(15,.vec 2 63 true),(5,.cells [.p 6 0,.nd 3] 158 true false),(6,.cells [.sv 16 4,.nd 5] 208 true false),(16,.vec 4 211 true),(7,.cells [.p 8 0,.nd 6] 158 true false),(8,.cells [.sv 17 7,.nd 8] 208 true false),(17,.vec 7 211 true),(9,.cells [.nd 9,.nd 10,.nd 11,.nd 12,.nd 13,.nd 14,.p 11 0,.p 10 0] 74 true false),(10,.cells [.nd 15,.nd 12,.nd 16,.nils] 110 true false),(11,.cells [.nd 15,.nils,.nd 16] 108 true false),(12,.cells [.nd 17,.nd 18,.nd 19,.nd 20,.nd 21,.nd 14,.p 14 0,.p 13 0] 74 true false),(13,.cells [.nd 15,.nd 12,.nd 16,.nils] 110 true false),(14,.cells [.nd 15,.nils,.nd 16] 108 true false)],ka:=11 },
 [(.exit 0, { np:=21,n:=37,gn:=3,next:=18,slots:=[],objs:=[(4,.cells [.p 12 0,.p 9 0,.p 7 0,.p 5 0,.nd 0,.sv 15 1] 99 true false),(15,.vec 1 63 true),(5,.cells [.p 6 0,.nd 2] 158 true false),(6,.cells [.sv 16 3,.nd 4] 208 true false),(16,.vec 3 211 true),(7,.cells [.p 8 0,.nd 5] 158 true false),(8,.cells [.sv 17 6,.nd 7] 208 true false),(17,.vec 6 211 true),(9,.cells [.nd 8,.nd 9,.nd 10,.nd 11,.nd 12,.nd 13,.p 11 0,.p 10 0] 74 true false),(10,.cells [.nd 14,.nd 11,.nd 15,.nils] 110 true false),(11,.cells [.nd 14,.nils,.nd 15] 108 true false),(12,.cells [.nd 16,.nd 17,.nd 18,.nd 19,.nd 20,.nd 13,.p 14 0,.p 13 0] 74 true false),(13,.cells [.nd 14,.nd 11,.nd 15,.nils] 110 true false),(14,.cells [.nd 14,.nils,.nd 15] 108 true false)],ka:=11,al:=[some 1,some 2,some 3,some 4,some 5,some 6,some 7,some 8,some 9,some 10,some 11,some 12,some 13,some 14,some 15,some 16,some 17,some 18,some 19,some 20,some 21] })]⟩
def s127:LoopSpec:=⟨127, { np:=5,n:=48,gn:=3,next:=6,slots:=[(0,.ifc 269 (.p 4 0)),(1,.nd 0),(2,.nd 1),(7,.nd 2)],objs:=[(4,.cells [.sv 5 3,.nd 4] 208 true false),(5,.vec 3 211 true)],ka:=1 },
 [(.exit 0, { np:=4,n:=48,gn:=3,next:=6,slots:=[(1,.nd 0),(7,.nd 1)],objs:=[(4,.cells [.sv 5 2,.nd 3] 208 true false),(5,.vec 2 211 true)],ka:=1,al:=[some 0,none,none,some 4] })]⟩
def s143:LoopSpec:=⟨143, { np:=25,n:=35,gn:=3,next:=18,slots:=[(0,.p 4 0),(2,.nd 0),(9,.agg [.p 7 0,.p 5 0]),(10,.nd 0),(22,.nd 1),(23,.nd 2),(24,.nd 3)],objs:=[(4,.cells [.p 12 0,.p 9 0,.p 7 0,.p 5 0,.nd 4,.sv 15 5] 99 true false),(15,.vec 5 63 true),(5,.cells [.p 6 0,.nd 6] 158 true false),(6,.cells [.sv 16 7,.nd 8] 208 true false),(16,.vec 7 211 true),(7,.cells [.p 8 0,.nd 9] 158 true false),(8,.cells [.sv 17 10,.nd 11] 208 true false),(17,.vec 10 211 true),(9,.cells [.nd 12,.nd 13,.nd 14,.nd 15,.nd 16,.nd 17,.p 11 0,.p 10 0] 74 true false),(10,.cells [.nd 18,.nd 15,.nd 19,.nils] 110 true false),(11,.cells [.nd 18,.nils,.nd 19] 108 true false),(12,.cells [.nd 20,.nd 21,.nd 22,.nd 23,.nd 24,.nd 17,.p 14 0,.p 13 0] 74 true false),(13,.cells [.nd 18,.nd 15,.nd 19,.nils] 110 true false),(14,.cells [.nd 18,.nils,.nd 19] 108 true false)],ka:=11 },
 [(.exit 2, { np:=22,n:=35,gn:=3,next:=18,slots:=[(0,.p 4 0),(9,.agg [.p 7 0,.p 5 0]),(10,.nd 0)],objs:=[(4,.cells [.p 12 0,.p 9 0,.p 7 0,.p 5 0,.nd 1,.sv 15 2] 99 true false),(15,.vec 2 63 true),(5,.cells [.p 6 0,.nd 3] 158 true false),(6,.cells [.sv 16 4,.nd 5] 208 true false),(16,.vec 4 211 true),(7,.cells [.p 8 0,.nd 6] 158 true false),(8,.cells [.sv 17 7,.nd 8] 208 true false),(17,.vec 7 211 true),(9,.cells [.nd 9,.nd 10,.nd 11,.nd 12,.nd 13,.nd 14,.p 11 0,.p 10 0] 74 true false),(10,.cells [.nd 15,.nd 12,.nd 16,.nils] 110 true false),(11,.cells [.nd 15,.nils,.nd 16] 108 true false),(12,.cells [.nd 17,.nd 18,.nd 19,.nd 20,.nd 21,.nd 14,.p 14 0,.p 13 0] 74 true false),(13,.cells [.nd 15,.nd 12,.nd 16,.nils] 110 true false),(14,.cells [.nd 15,.nils,.nd 16] 108 true false)],ka:=11,al:=[some 0,some 4,none,some 6,some 7,some 8,some 9,some 10,some 11,some 12,some 13,some 14,some 15,some 16,some 17,some 18,some 19,some 20,some 21,some 22,some 23,some 24] })]⟩
def s112:LoopSpec:=⟨112, { np:=2,n:=40,gn:=3,next:=6,slots:=[(3,.p 5 0),(21,.nils),(22,.i .i64 0),(23,.i .i64 0)],objs:=[(4,.cells [.nd 0,.nils,.nd 1] 108 true false),(5,.cells [.nd 0,.nils,.nd 1] 108 true false)],ka:=1 },
 [(.exit 0, { np:=2,n:=40,gn:=3,next:=6,slots:=[(3,.p 5 0)],objs:=[(4,.cells [.nd 0,.nils,.nd 1] 108 true false),(5,.cells [.nd 0,.nils,.nd 1] 108 true false)],ka:=1,al:=[some 0,some 1] })]⟩
def s54:LoopSpec:=⟨54, { np:=4,n:=22,gn:=3,next:=6,slots:=[(3,.p 4 0),(11,.nd 0),(12,.nd 1),(13,.nd 2)],objs:=[(4,.cells [.p 4 0,.sv 5 3] 168 true false),(5,.vec 3 5 true)] },
 [(.exit 0, { np:=1,n:=22,gn:=3,next:=6,slots:=[(3,.p 4 0)],objs:=[(4,.cells [.p 4 0,.sv 5 0] 168 true false),(5,.vec 0 5 true)] })]⟩
def s134:LoopSpec:=⟨134, { np:=4,n:=50,gn:=3,next:=4,slots:=[(0,.nd 0),(5,.nd 1),(9,.nd 2),(10,.nd 3)],objs:=[] },
 [(.ret, { np:=3,n:=50,gn:=3,next:=4,slots:=[(2,.nd 0),(3,.nd 1),(4,.nd 2)],objs:=[] }),
  (.exit 0, { np:=1,n:=50,gn:=3,next:=4,slots:=[(0,.nd 0)],objs:=[] })]⟩
def s76:LoopSpec:=⟨76, { np:=11,n:=116,gn:=3,next:=5,slots:=[(6,.nd 0),(18,.p 4 0),(97,.nd 1),(98,.nd 2),(99,.nd 3),(103,.nd 0),(104,.nd 4),(105,.nd 5)],objs:=[(4,.cells [.nd 6,.nd 7,.nd 8,.nd 9,.nd 10] 142 true false)] },
 [(.ret, { np:=0,n:=116,gn:=3,next:=4,slots:=[(4,.i .i64 14)],objs:=[] }),
  (.exit 8, { np:=4,n:=116,gn:=3,next:=4,slots:=[(6,.nd 0),(97,.nd 1),(98,.nd 2),(99,.nd 3)],objs:=[],al:=[some 0,some 1,some 2,some 3] })]⟩
def s86:LoopSpec:=⟨86, { np:=2,n:=46,gn:=3,next:=5,slots:=[(4,.sv 4 0),(8,.nd 1)],objs:=[(4,.vec 0 142 true)] },
 [(.ret, { np:=0,n:=46,gn:=3,next:=4,slots:=[(2,.nils),(3,.i .i64 14)],objs:=[] }),
  (.exit 2, { np:=1,n:=46,gn:=3,next:=5,slots:=[(4,.sv 4 0)],objs:=[(4,.vec 0 142 true)],al:=[some 0] })]⟩
def s92:LoopSpec:=⟨92, { np:=4,n:=69,gn:=3,next:=5,slots:=[(0,.sv 4 0),(1,.nd 1),(8,.nd 2),(9,.nd 3)],objs:=[(4,.vec 0 5 false)] },
 [(.exit 0, { np:=1,n:=69,gn:=3,next:=5,slots:=[(0,.sv 4 0)],objs:=[(4,.vec 0 5 false)] })]⟩
def s94:LoopSpec:=⟨94, { np:=33,n:=37,gn:=3,next:=17,slots:=[(0,.p 4 0),(1,.nd 0),(10,.nd 1),(11,.nd 2),(12,.nd 3)],objs:=[(4,.cells [.p 12 0,.p 9 0,.p 7 0,.p 5 0,.nd 4,.nils] 99 true false),(5,.cells [.p 6 0,.nd 5] 158 true false),(6,.cells [.sv 15 6,.nd 7] 208 true false),(15,.vec 6 211 true),(7,.cells [.p 8 0,.nd 8] 158 true false),(8,.cells [.sv 16 9,.nd 10] 208 true false),(16,.vec 9 211 true),(9,.cells [.nd 11,.nd 12,.nd 13,.nd 14,.nd 15,.nd 16,.p 11 0,.p 10 0] 74 true false),(10,.cells [.nd 17,.nd 18,.nd 19,.nils] 110 true false),(11,.cells [.nd 20,.nils,.nd 21] 108 true false),(12,.cells [.nd 22,.nd 23,.nd 24,.nd 25,.nd 26,.nd 27,.p 14 0,.p 13 0] 74 true false),(13,.cells [.nd 28,.nd 29,.nd 30,.nils] 110 true false),(14,.cells [.nd 31,.nils,.nd 32] 108 true false)],ka:=11 },
 [(.exit 0, { np:=29,n:=37,gn:=3,next:=17,slots:=[],objs:=[(4,.cells [.p 12 0,.p 9 0,.p 7 0,.p 5 0,.nd 0,.nils] 99 true false),(5,.cells [.p 6 0,.nd 1] 158 true false),(6,.cells [.sv 15 2,.nd 3] 208 true false),(15,.vec 2 211 true),(7,.cells [.p 8 0,.nd 4] 158 true false),(8,.cells [.sv 16 5,.nd 6] 208 true false),(16,.vec 5 211 true),(9,.cells [.nd 7,.nd 8,.nd 9,.nd 10,.nd 11,.nd 12,.p 11 0,.p 10 0] 74 true false),(10,.cells [.nd 13,.nd 14,.nd 15,.nils] 110 true false),(11,.cells [.nd 16,.nils,.nd 17] 108 true false),(12,.cells [.nd 18,.nd 19,.nd 20,.nd 21,.nd 22,.nd 23,.p 14 0,.p 13 0] 74 true false),(13,.cells [.nd 24,.nd 25,.nd 26,.nils] 110 true false),(14,.cells [.nd 27,.nils,.nd 28] 108 true false)],ka:=11,al:=[some 4,none,none,none,none,none,none,some 11,some 12,some 13,some 14,some 15,some 16,some 17,some 18,some 19,some 20,some 21,some 22,some 23,some 24,some 25,some 26,some 27,some 28,some 29,some 30,some 31,some 32] })]⟩
def s7:LoopSpec:=⟨7, { np:=4,n:=33,gn:=3,next:=5,slots:=[(0,.nd 0),(3,.sv 4 1),(9,.nd 2),(10,.nd 3)],objs:=[(4,.vec 1 5 false)] },
 [(.exit 0, { np:=1,n:=33,gn:=3,next:=5,slots:=[(3,.sv 4 0)],objs:=[(4,.vec 0 5 false)] })]⟩
def s85:LoopSpec:=⟨85, { np:=4,n:=46,gn:=3,next:=5,slots:=[(4,.sv 4 0),(9,.nd 1),(10,.nd 2),(11,.nd 3)],objs:=[(4,.vec 0 142 true)] },
 [(.ret, { np:=1,n:=46,gn:=3,next:=4,slots:=[(2,.nils),(3,.nd 0)],objs:=[] }),
  (.exit 0, { np:=1,n:=46,gn:=3,next:=5,slots:=[(4,.sv 4 0)],objs:=[(4,.vec 0 142 true)] })]⟩
def s102:LoopSpec:=⟨102, { np:=3,n:=23,gn:=3,next:=6,slots:=[(0,.ifc 269 (.p 4 0)),(1,.nd 0)],objs:=[(4,.cells [.sv 5 1,.nd 2] 208 true false),(5,.vec 1 211 true)],ka:=1 },
 [(.exit 0, { np:=2,n:=23,gn:=3,next:=6,slots:=[],objs:=[(4,.cells [.sv 5 0,.nd 1] 208 true false),(5,.vec 0 211 true)],ka:=1,al:=[none,some 2] })]⟩
def s47:LoopSpec:=⟨47, { np:=3,n:=42,gn:=3,next:=4,slots:=[(0,.nd 0),(15,.nd 0),(16,.nd 1),(17,.nd 2)],objs:=[] },
 [(.ret, { np:=1,n:=42,gn:=3,next:=4,slots:=[(2,.nd 0)],objs:=[] }),
  (.exit 0, { np:=0,n:=42,gn:=3,next:=4,slots:=[],objs:=[] })]⟩
def s38:LoopSpec:=⟨38, { np:=29,n:=116,gn:=3,next:=6,slots:=[(2,.p 4 0),(6,.nd 0),(7,.mp 5),(54,.nd 1),(55,.nd 2),(56,.nd 3)],objs:=[(5,.smap 4 none none),(4,.cells [.nd 5,.nd 6,.nd 7,.nd 8,.nd 9,.nd 10,.nd 11,.nd 12,.nd 13,.nd 14,.nd 15,.nd 16,.nd 17,.nd 18,.nd 19,.nd 20,.nd 21,.nd 22,.nd 23,.nd 24,.nd 25,.nd 26,.nd 27,.nd 28] 81 true false)] },
 [(.ret, { np:=0,n:=116,gn:=3,next:=4,slots:=[(4,.i .i64 26)],objs:=[] }),
  (.exit 2, { np:=25,n:=116,gn:=3,next:=5,slots:=[(2,.p 4 0),(6,.nd 0)],objs:=[(4,.cells [.nd 1,.nd 2,.nd 3,.nd 4,.nd 5,.nd 6,.nd 7,.nd 8,.nd 9,.nd 10,.nd 11,.nd 12,.nd 13,.nd 14,.nd 15,.nd 16,.nd 17,.nd 18,.nd 19,.nd 20,.nd 21,.nd 22,.nd 23,.nd 24] 81 true false)],al:=[some 0,some 5,some 6,some 7,some 8,some 9,some 10,some 11,some 12,some 13,some 14,some 15,some 16,some 17,some 18,some 19,some 20,some 21,some 22,some 23,some 24,some 25,some 26,some 27,some 28] })]⟩
def s115:LoopSpec:=⟨115, { np:=5,n:=32,gn:=3,next:=7,slots:=[(2,.p 4 0),(3,.p 5 0),(14,.nd 0),(15,.nd 1),(16,.nd 2)],objs:=[(5,.cells [.nd 3,.sv 6 4] 38 true false),(6,.vec 4 113 false),(4,.cells [.i .u64 0,.nils] 38 true false)] },
 [(.exit 0, { np:=2,n:=32,gn:=3,next:=7,slots:=[(2,.p 4 0),(3,.p 5 0)],objs:=[(5,.cells [.nd 0,.sv 6 1] 38 true false),(6,.vec 1 113 false),(4,.cells [.i .u64 0,.nils] 38 true false)],al:=[some 3,none] })]⟩
def s142:LoopSpec:=⟨142, { np:=22,n:=35,gn:=3,next:=18,slots:=[(0,.p 4 0),(9,.agg [.p 7 0,.p 5 0]),(10,.nd 0)],objs:=[(4,.cells [.p 12 0,.p 9 0,.p 7 0,.p 5 0,.nd 1,.sv 15 2] 99 true false),(15,.vec 2 63 true),(5,.cells [.p 6 0,.nd 3] 158 true false),(6,.cells [.sv 16 4,.nd 5] 208 true false),(16,.vec 4 211 true),(7,.cells [.p 8 0,.nd 6] 158 true false),(8,.cells [.sv 17 7,.nd 8] 208 true false),(17,.vec 7 211 true),(9,.cells [.nd 9,.nd 10,.nd 11,.nd 12,.nd 13,.nd 14,.p 11 0,.p 10 0] 74 true false),(10,.cells [.nd 15,.nd 12,.nd 16,.nils] 110 true false),(11,.cells [.nd 15,.nils,.nd 16] 108 true false),(12,.cells [.nd 17,.nd 18,.nd 19,.nd 20,.nd 21,.nd 14,.p 14 0,.p 13 0] 74 true false),(13,.cells [.nd 15,.nd 12,.nd 16,.nils] 110 true false),(14,.cells [.nd 15,.nils,.nd 16] 108 true false)],ka:=11 },
 [(.exit 0, { np:=21,n:=35,gn:=3,next:=18,slots:=[],objs:=[(4,.cells [.p 12 0,.p 9 0,.p 7 0,.p 5 0,.nd 0,.sv 15 1] 99 true false),(15,.vec 1 63 true),(5,.cells [.p 6 0,.nd 2] 158 true false),(6,.cells [.sv 16 3,.nd 4] 208 true false),(16,.vec 3 211 true),(7,.cells [.p 8 0,.nd 5] 158 true false),(8,.cells [.sv 17 6,.nd 7] 208 true false),(17,.vec 6 211 true),(9,.cells [.nd 8,.nd 9,.nd 10,.nd 11,.nd 12,.nd 13,.p 11 0,.p 10 0] 74 true false),(10,.cells [.nd 14,.nd 11,.nd 15,.nils] 110 true false),(11,.cells [.nd 14,.nils,.nd 15] 108 true false),(12,.cells [.nd 16,.nd 17,.nd 18,.nd 19,.nd 20,.nd 13,.p 14 0,.p 13 0] 74 true false),(13,.cells [.nd 14,.nd 11,.nd 15,.nils] 110 true false),(14,.cells [.nd 14,.nils,.nd 15] 108 true false)],ka:=11,al:=[some 1,none,some 3,none,some 5,some 6,none,some 8,some 9,some 10,some 11,some 12,some 13,some 14,some 15,some 16,some 17,some 18,some 19,some 20,some 21] })]⟩
def s39:LoopSpec:=⟨39, { np:=27,n:=116,gn:=3,next:=5,slots:=[(2,.p 4 0),(6,.nd 0),(71,.nd 0),(72,.nd 1),(73,.nd 2)],objs:=[(4,.cells [.nd 3,.nd 4,.nd 5,.nd 6,.nd 7,.nd 8,.nd 9,.nd 10,.nd 11,.nd 12,.nd 13,.nd 14,.nd 15,.nd 16,.nd 17,.nd 18,.nd 19,.nd 20,.nd 21,.nd 22,.nd 23,.nd 24,.nd 25,.nd 26] 81 true false)] },
 [(.ret, { np:=1,n:=116,gn:=3,next:=4,slots:=[(4,.nd 0)],objs:=[] }),
  (.exit 4, { np:=25,n:=116,gn:=3,next:=5,slots:=[(2,.p 4 0),(6,.nd 0)],objs:=[(4,.cells [.nd 1,.nd 2,.nd 3,.nd 4,.nd 5,.nd 6,.nd 7,.nd 8,.nd 9,.nd 10,.nd 11,.nd 12,.nd 13,.nd 14,.nd 15,.nd 16,.nd 17,.nd 18,.nd 19,.nd 20,.nd 21,.nd 22,.nd 23,.nd 24] 81 true false)],al:=[some 0,some 3,some 4,some 5,some 6,some 7,some 8,some 9,some 10,some 11,some 12,some 13,some 14,some 15,some 16,some 17,some 18,some 19,some 20,some 21,some 22,some 23,some 24,some 25,some 26] })]⟩
def s83:LoopSpec:=⟨83, { np:=3,n:=28,gn:=3,next:=4,slots:=[(0,.nd 0),(1,.nd 1),(5,.nd 2)],objs:=[] },
 [(.exit 0, { np:=1,n:=28,gn:=3,next:=4,slots:=[(5,.nd 0)],objs:=[] })]⟩
def s147:LoopSpec:=⟨147, { np:=25,n:=64,gn:=3,next:=18,slots:=[(0,.p 4 0),(4,.nd 0),(5,.nd 1),(6,.nd 2),(30,.nd 3),(31,.nd 0),(32,.b false)],objs:=[(4,.cells [.p 12 0,.p 9 0,.p 7 0,.p 5 0,.nd 4,.sv 15 5] 99 true false),(15,.vec 5 63 true),(5,.cells [.p 6 0,.nd 6] 158 true false),(6,.cells [.sv 16 7,.nd 8] 208 true false),(16,.vec 7 211 true),(7,.cells [.p 8 0,.nd 9] 158 true false),(8,.cells [.sv 17 10,.nd 11] 208 true false),(17,.vec 10 211 true),(9,.cells [.nd 12,.nd 13,.nd 14,.nd 15,.nd 16,.nd 17,.p 11 0,.p 10 0] 74 true false),(10,.cells [.nd 18,.nd 15,.nd 19,.nils] 110 true false),(11,.cells [.nd 18,.nils,.nd 19] 108 true false),(12,.cells [.nd 20,.nd 21,.nd 22,.nd 23,.nd 24,.nd 17,.p 14 0,.p 13 0] 74 true false),(13,.cells [.nd 18,.nd 15,.nd 19,.nils] 110 true false),(14,.cells [.nd 18,.nils,.nd 19] 108 true false)],ka:=11 },
 [(.exit 2, { np:=24,n:=64,gn:=3,next:=18,slots:=[(0,.p 4 0),(4,.nd 0),(30,.nd 1),(31,.nd 0),(32,.b false),(50,.nd 2),(51,.p 4 0),(52,.p 4 0),(53,.p 4 4),(54,.nd 3),(55,.b false)],objs:=[(4,.cells [.p 12 0,.p 9 0,.p 7 0,.p 5 0,.nd 3,.sv 15 4] 99 true false),(15,.vec 4 63 true),(5,.cells [.p 6 0,.nd 5] 158 true false),(6,.cells [.sv 16 6,.nd 7] 208 true false),(16,.vec 6 211 true),(7,.cells [.p 8 0,.nd 8] 158 true false),(8,.cells [.sv 17 9,.nd 10] 208 true false),(17,.vec 9 211 true),(9,.cells [.nd 11,.nd 12,.nd 13,.nd 14,.nd 15,.nd 16,.p 11 0,.p 10 0] 74 true false),(10,.cells [.nd 17,.nd 14,.nd 18,.nils] 110 true false),(11,.cells [.nd 17,.nils,.nd 18] 108 true false),(12,.cells [.nd 19,.nd 20,.nd 21,.nd 22,.nd 23,.nd 16,.p 14 0,.p 13 0] 74 true false),(13,.cells [.nd 17,.nd 14,.nd 18,.nils] 110 true false),(14,.cells [.nd 17,.nils,.nd 18] 108 true false)],ka:=11,al:=[some 0,some 3,none,some 4,none,some 6,none,some 8,some 9,none,some 11,some 12,some 13,some 14,some 15,some 16,some 17,some 18,some 19,some 20,some 21,some 22,some 23,some 24] }),
  (.exit 2, { np:=23,n:=64,gn:=3,next:=18,slots:=[(0,.p 4 0),(4,.nd 0),(30,.nd 1),(31,.nd 0),(32,.b false),(50,.tup []),(51,.tup []),(52,.tup []),(53,.tup []),(54,.tup []),(55,.tup [])],objs:=[(4,.cells [.p 12 0,.p 9 0,.p 7 0,.p 5 0,.nd 2,.sv 15 3] 99 true false),(15,.vec 3 63 true),(5,.cells [.p 6 0,.nd 4] 158 true false),(6,.cells [.sv 16 5,.nd 6] 208 true false),(16,.vec 5 211 true),(7,.cells [.p 8 0,.nd 7] 158 true false),(8,.cells [.sv 17 8,.nd 9] 208 true false),(17,.vec 8 211 true),(9,.cells [.nd 10,.nd 11,.nd 12,.nd 13,.nd 14,.nd 15,.p 11 0,.p 10 0] 74 true false),(10,.cells [.nd 16,.nd 13,.nd 17,.nils] 110 true false),(11,.cells [.nd 16,.nils,.nd 17] 108 true false),(12,.cells [.nd 18,.nd 19,.nd 20,.nd 21,.nd 22,.nd 15,.p 14 0,.p 13 0] 74 true false),(13,.cells [.nd 16,.nd 13,.nd 17,.nils] 110 true false),(14,.cells [.nd 16,.nils,.nd 17] 108 true false)],ka:=11,al:=[some 0,some 3,some 4,none,some 6,none,some 8,some 9,none,some 11,some 12,some 13,some 14,some 15,some 16,some 17,some 18,some 19,some 20,some 21,some 22,some 23,some 24] })]⟩
def s74:LoopSpec:=⟨74, { np:=5,n:=46,gn:=3,next:=4,slots:=[(1,.nd 0),(5,.nd 1),(9,.nd 2),(10,.nd 3),(11,.nd 4)],objs:=[] },
 [(.ret, { np:=1,n:=46,gn:=3,next:=4,slots:=[(4,.nd 0)],objs:=[] }),
  (.exit 0, { np:=0,n:=46,gn:=3,next:=4,slots:=[],objs:=[] })]⟩
def s6:LoopSpec:=⟨6, { np:=2,n:=11,gn:=3,next:=4,slots:=[(0,.nd 0),(3,.nd 1)],objs:=[] },
 [(.exit 0, { np:=1,n:=11,gn:=3,next:=4,slots:=[(3,.nd 0)],objs:=[] })]⟩
def s145:LoopSpec:=⟨145, { np:=21,n:=64,gn:=3,next:=18,slots:=[(0,.p 4 0),(1,.nd 20)],objs:=[(4,.cells [.p 12 0,.p 9 0,.p 7 0,.p 5 0,.nd 0,.sv 15 1] 99 true false),(15,.vec 1 63 true),(5,.cells [.p 6 0,.nd 2] 158 true false),(6,.cells [.sv 16 3,.nd 4] 208 true false),(16,.vec 3 211 true),(7,.cells [.p 8 0,.nd 5] 158 true false),(8,.cells [.sv 17 6,.nd 7] 208 true false),(17,.vec 6 211 true),(9,.cells [.nd 8,.nd 9,.nd 10,.nd 11,.nd 12,.nd 13,.p 11 0,.p 10 0] 74 true false),(10,.cells [.nd 14,.nd 11,.nd 0,.nils] 110 true false),(11,.cells [.nd 14,.nils,.nd 0] 108 true false),(12,.cells [.nd 15,.nd 16,.nd 17,.nd 18,.nd 19,.nd 13,.p 14 0,.p 13 0] 74 true false),(13,.cells [.nd 14,.nd 11,.nd 0,.nils] 110 true false),(14,.cells [.nd 14,.nils,.nd 0] 108 true false)],ka:=11 },
 [(.ret, { np:=21,n:=0,gn:=3,next:=18,slots:=[],objs:=[(4,.cells [.p 12 0,.p 9 0,.p 7 0,.p 5 0,.nd 0,.sv 15 1] 99 true false),(15,.vec 1 63 true),(5,.cells [.p 6 0,.nd 2] 158 true false),(6,.cells [.sv 16 3,.nd 4] 208 true false),(16,.vec 3 211 true),(7,.cells [.p 8 0,.nd 5] 158 true false),(8,.cells [.sv 17 6,.nd 7] 208 true false),(17,.vec 6 211 true),(9,.cells [.nd 8,.nd 9,.nd 10,.nd 11,.nd 12,.nd 13,.p 11 0,.p 10 0] 74 true false),(10,.cells [.nd 14,.nd 11,.nd 15,.nils] 110 true false),(11,.cells [.nd 14,.nils,.nd 15] 108 true false),(12,.cells [.nd 16,.nd 17,.nd 18,.nd 19,.nd 20,.nd 13,.p 14 0,.p 13 0] 74 true false),(13,.cells [.nd 14,.nd 11,.nd 15,.nils] 110 true false),(14,.cells [.nd 14,.nils,.nd 15] 108 true false)],ka:=11,al:=[none,none,some 2,none,some 4,some 5,none,some 7,some 8,some 9,some 10,some 11,some 12,some 13,some 14,some 0,some 15,some 16,some 17,some 18,some 19] })]⟩
def s144:LoopSpec:=⟨144, { np:=22,n:=19,gn:=3,next:=18,slots:=[(0,.p 4 0),(1,.nd 21)],objs:=[(4,.cells [.p 12 0,.p 9 0,.p 7 0,.p 5 0,.nd 0,.sv 15 1] 99 true false),(15,.vec 1 63 true),(5,.cells [.p 6 0,.nd 2] 158 true false),(6,.cells [.sv 16 3,.nd 4] 208 true false),(16,.vec 3 211 true),(7,.cells [.p 8 0,.nd 5] 158 true false),(8,.cells [.sv 17 6,.nd 7] 208 true false),(17,.vec 6 211 true),(9,.cells [.nd 8,.nd 9,.nd 10,.nd 11,.nd 12,.nd 13,.p 11 0,.p 10 0] 74 true false),(10,.cells [.nd 14,.nd 11,.nd 15,.nils] 110 true false),(11,.cells [.nd 14,.nils,.nd 15] 108 true false),(12,.cells [.nd 16,.nd 17,.nd 18,.nd 19,.nd 20,.nd 13,.p 14 0,.p 13 0] 74 true false),(13,.cells [.nd 14,.nd 11,.nd 15,.nils] 110 true false),(14,.cells [.nd 14,.nils,.nd 15] 108 true false)],ka:=11 },
 [(.ret, { np:=28,n:=1,gn:=3,next:=21,slots:=[(0,.p 15 0)],objs:=[(4,.cells [.p 12 0,.p 9 0,.p 7 0,.p 5 0,.nd 0,.sv 16 1] 99 true false),(16,.vec 1 63 true),(5,.cells [.p 6 0,.nd 2] 158 true false),(6,.cells [.sv 17 3,.nd 4] 208 true false),(17,.vec 3 211 true),(7,.cells [.p 8 0,.nd 5] 158 true false),(8,.cells [.sv 18 6,.nd 7] 208 true false),(18,.vec 6 211 true),(9,.cells [.nd 8,.nd 9,.nd 10,.nd 11,.nd 12,.nd 13,.p 11 0,.p 10 0] 74 true false),(10,.cells [.nd 14,.nd 11,.nd 15,.nils] 110 true false),(11,.cells [.nd 14,.nils,.nd 15] 108 true false),(12,.cells [.nd 16,.nd 17,.nd 18,.nd 19,.nd 20,.nd 13,.p 14 0,.p 13 0] 74 true false),(13,.cells [.nd 14,.nd 11,.nd 15,.nils] 110 true false),(14,.cells [.nd 14,.nils,.nd 15] 108 true false),(15,.cells [.nd 21,.nd 22,.nd 23,.nd 24,.nd 25,.nd 13,.p 19 0,.p 20 0] 74 true false),(20,.cells [.nd 14,.nd 11,.nd 26,.nd 27] 110 true false),(19,.cells [.nd 14,.nils,.nd 15] 108 true false)],ka:=11,al:=[some 0,some 1,some 2,some 3,some 4,some 5,some 6,some 7,some 8,some 9,some 10,some 11,some 12,some 13,some 14,some 15,some 16,some 17,some 18,some 19,some 20,none,none,none,none,none,none,none] }),
  (.ret, { np:=21,n:=1,gn:=3,next:=18,slots:=[(0,.nilp)],objs:=[(4,.cells [.p 12 0,.p 9 0,.p 7 0,.p 5 0,.nd 0,.sv 15 1] 99 true false),(15,.vec 1 63 true),(5,.cells [.p 6 0,.nd 2] 158 true false),(6,.cells [.sv 16 3,.nd 4] 208 true false),(16,.vec 3 211 true),(7,.cells [.p 8 0,.nd 5] 158 true false),(8,.cells [.sv 17 6,.nd 7] 208 true false),(17,.vec 6 211 true),(9,.cells [.nd 8,.nd 9,.nd 10,.nd 11,.nd 12,.nd 13,.p 11 0,.p 10 0] 74 true false),(10,.cells [.nd 14,.nd 11,.nd 15,.nils] 110 true false),(11,.cells [.nd 14,.nils,.nd 15] 108 true false),(12,.cells [.nd 16,.nd 17,.nd 18,.nd 19,.nd 20,.nd 13,.p 14 0,.p 13 0] 74 true false),(13,.cells [.nd 14,.nd 11,.nd 15,.nils] 110 true false),(14,.cells [.nd 14,.nils,.nd 15] 108 true false)],ka:=11,al:=[some 0,some 1,some 2,some 3,some 4,some 5,some 6,some 7,some 8,some 9,some 10,some 11,some 12,some 13,some 14,some 15,some 16,some 17,some 18,some 19,some 20] })]⟩
def s141:LoopSpec:=⟨141, { np:=21,n:=35,gn:=3,next:=18,slots:=[(0,.p 4 0)],objs:=[(4,.cells [.p 12 0,.p 9 0,.p 7 0,.p 5 0,.nd 0,.sv 15 1] 99 true false),(15,.vec 1 63 true),(5,.cells [.p 6 0,.nd 2] 158 true false),(6,.cells [.sv 16 3,.nd 4] 208 true false),(16,.vec 3 211 true),(7,.cells [.p 8 0,.nd 5] 158 true false),(8,.cells [.sv 17 6,.nd 7] 208 true false),(17,.vec 6 211 true),(9,.cells [.nd 8,.nd 9,.nd 10,.nd 11,.nd 12,.nd 13,.p 11 0,.p 10 0] 74 true false),(10,.cells [.nd 14,.nd 11,.nd 15,.nils] 110 true false),(11,.cells [.nd 14,.nils,.nd 15] 108 true false),(12,.cells [.nd 16,.nd 17,.nd 18,.nd 19,.nd 20,.nd 13,.p 14 0,.p 13 0] 74 true false),(13,.cells [.nd 14,.nd 11,.nd 15,.nils] 110 true false),(14,.cells [.nd 14,.nils,.nd 15] 108 true false)],ka:=11 },
 [(.ret, { np:=21,n:=0,gn:=3,next:=18,slots:=[],objs:=[(4,.cells [.p 12 0,.p 9 0,.p 7 0,.p 5 0,.nd 0,.sv 15 1] 99 true false),(15,.vec 1 63 true),(5,.cells [.p 6 0,.nd 2] 158 true false),(6,.cells [.sv 16 3,.nd 4] 208 true false),(16,.vec 3 211 true),(7,.cells [.p 8 0,.nd 5] 158 true false),(8,.cells [.sv 17 6,.nd 7] 208 true false),(17,.vec 6 211 true),(9,.cells [.nd 8,.nd 9,.nd 10,.nd 11,.nd 12,.nd 13,.p 11 0,.p 10 0] 74 true false),(10,.cells [.nd 14,.nd 11,.nd 15,.nils] 110 true false),(11,.cells [.nd 14,.nils,.nd 15] 108 true false),(12,.cells [.nd 16,.nd 17,.nd 18,.nd 19,.nd 20,.nd 13,.p 14 0,.p 13 0] 74 true false),(13,.cells [.nd 14,.nd 11,.nd 15,.nils] 110 true false),(14,.cells [.nd 14,.nils,.nd 15] 108 true false)],ka:=11,al:=[some 0,none,some 2,none,some 4,some 5,none,some 7,some 8,some 9,some 10,some 11,some 12,some 13,some 14,some 15,some 16,some 17,some 18,some 19,some 20] })]⟩
def s140:LoopSpec:=⟨140, { np:=23,n:=55,gn:=3,next:=18,slots:=[(0,.p 4 0),(1,.nd 22),(2,.nd 0)],objs:=[(4,.cells [.p 12 0,.p 9 0,.p 7 0,.p 5 0,.nd 1,.sv 15 2] 99 true false),(15,.vec 2 63 true),(5,.cells [.p 6 0,.nd 3] 158 true false),(6,.cells [.sv 16 4,.nd 5] 208 true false),(16,.vec 4 211 true),(7,.cells [.p 8 0,.nd 6] 158 true false),(8,.cells [.sv 17 7,.nd 8] 208 true false),(17,.vec 7 211 true),(9,.cells [.nd 9,.nd 10,.nd 11,.nd 12,.nd 13,.nd 14,.p 11 0,.p 10 0] 74 true false),(10,.cells [.nd 15,.nd 12,.nd 16,.nils] 110 true false),(11,.cells [.nd 15,.nils,.nd 16] 108 true false),(12,.cells [.nd 17,.nd 18,.nd 19,.nd 20,.nd 21,.nd 14,.p 14 0,.p 13 0] 74 true false),(13,.cells [.nd 15,.nd 12,.nd 16,.nils] 110 true false),(14,.cells [.nd 15,.nils,.nd 16] 108 true false)],ka:=11 },
 [(.ret, { np:=21,n:=0,gn:=3,next:=18,slots:=[],objs:=[(4,.cells [.p 12 0,.p 9 0,.p 7 0,.p 5 0,.nd 0,.sv 15 1] 99 true false),(15,.vec 1 63 true),(5,.cells [.p 6 0,.nd 2] 158 true false),(6,.cells [.sv 16 3,.nd 4] 208 true false),(16,.vec 3 211 true),(7,.cells [.p 8 0,.nd 5] 158 true false),(8,.cells [.sv 17 6,.nd 7] 208 true false),(17,.vec 6 211 true),(9,.cells [.nd 8,.nd 9,.nd 10,.nd 11,.nd 12,.nd 13,.p 11 0,.p 10 0] 74 true false),(10,.cells [.nd 14,.nd 11,.nd 15,.nils] 110 true false),(11,.cells [.nd 14,.nils,.nd 15] 108 true false),(12,.cells [.nd 16,.nd 17,.nd 18,.nd 19,.nd 20,.nd 13,.p 14 0,.p 13 0] 74 true false),(13,.cells [.nd 14,.nd 11,.nd 15,.nils] 110 true false),(14,.cells [.nd 14,.nils,.nd 15] 108 true false)],ka:=11,al:=[some 1,none,some 3,some 4,some 5,some 6,some 7,some 8,some 9,some 10,some 11,some 12,some 13,some 14,some 15,some 16,some 17,some 18,some 19,some 20,some 21] })]⟩
def s137:LoopSpec:=⟨137, { np:=22,n:=37,gn:=3,next:=18,slots:=[(0,.p 4 0),(1,.nd 0),(2,.nils)],objs:=[(4,.cells [.p 12 0,.p 9 0,.p 7 0,.p 5 0,.nd 1,.sv 15 2] 99 true false),(15,.vec 2 63 true),(5,.cells [.p 6 0,.nd 3] 158 true false),(6,.cells [.sv 16 4,.nd 5] 208 true false),(16,.vec 4 211 true),(7,.cells [.p 8 0,.nd 6] 158 true false),(8,.cells [.sv 17 7,.nd 8] 208 true false),(17,.vec 7 211 true),(9,.cells [.nd 9,.nd 10,.nd 11,.nd 12,.nd 13,.nd 14,.p 11 0,.p 10 0] 74 true false),(10,.cells [.nd 15,.nd 12,.nd 16,.nils] 110 true false),(11,.cells [.nd 15,.nils,.nd 16] 108 true false),(12,.cells [.nd 17,.nd 18,.nd 19,.nd 20,.nd 21,.nd 14,.p 14 0,.p 13 0] 74 true false),(13,.cells [.nd 15,.nd 12,.nd 16,.nils] 110 true false),(14,.cells [.nd 15,.nils,.nd 16] 108 true false)],ka:=11 },
 [(.ret, { np:=21,n:=0,gn:=3,next:=18,slots:=[],objs:=[(4,.cells [.p 12 0,.p 9 0,.p 7 0,.p 5 0,.nd 0,.sv 15 1] 99 true false),(15,.vec 1 63 true),(5,.cells [.p 6 0,.nd 2] 158 true false),(6,.cells [.sv 16 3,.nd 4] 208 true false),(16,.vec 3 211 true),(7,.cells [.p 8 0,.nd 5] 158 true false),(8,.cells [.sv 17 6,.nd 7] 208 true false),(17,.vec 6 211 true),(9,.cells [.nd 8,.nd 9,.nd 10,.nd 11,.nd 12,.nd 13,.p 11 0,.p 10 0] 74 true false),(10,.cells [.nd 14,.nd 11,.nd 15,.nils] 110 true false),(11,.cells [.nd 14,.nils,.nd 15] 108 true false),(12,.cells [.nd 16,.nd 17,.nd 18,.nd 19,.nd 20,.nd 13,.p 14 0,.p 13 0] 74 true false),(13,.cells [.nd 14,.nd 11,.nd 15,.nils] 110 true false),(14,.cells [.nd 14,.nils,.nd 15] 108 true false)],ka:=11,al:=[some 1,some 2,some 3,some 4,some 5,some 6,some 7,some 8,some 9,some 10,some 11,some 12,some 13,some 14,some 15,some 16,some 17,some 18,some 19,some 20,some 21] })]⟩
def s126:LoopSpec:=⟨126, { np:=4,n:=48,gn:=3,next:=6,slots:=[(0,.ifc 269 (.p 4 0)),(1,.nd 3),(2,.nd 0)],objs:=[(4,.cells [.sv 5 1,.nd 2] 208 true false),(5,.vec 1 211 true)],ka:=1 },
 [(.ret, { np:=3,n:=1,gn:=3,next:=6,slots:=[(0,.nd 0)],objs:=[(4,.cells [.sv 5 1,.nd 2] 208 true false),(5,.vec 1 211 true)],ka:=1,al:=[none,none,some 2] })]⟩
def s125:LoopSpec:=⟨125, { np:=2,n:=15,gn:=3,next:=6,slots:=[(0,.ifc 269 (.p 4 0))],objs:=[(4,.cells [.sv 5 0,.nd 1] 208 true false),(5,.vec 0 211 true)],ka:=1 },
 [(.ret, { np:=5,n:=1,gn:=3,next:=6,slots:=[(0,.ifc 211 (.agg [.nd 0,.nd 1,.nd 2]))],objs:=[(4,.cells [.sv 5 3,.nd 4] 208 true false),(5,.vec 3 211 true)],ka:=1,al:=[none,none,none,none,some 1] })]⟩
def s124:LoopSpec:=⟨124, { np:=2,n:=24,gn:=3,next:=6,slots:=[(0,.p 4 0)],objs:=[(4,.cells [.sv 5 0,.nd 1] 208 true false),(5,.vec 0 211 true)],ka:=1 },
 [(.ret, { np:=5,n:=3,gn:=3,next:=6,slots:=[(0,.nd 0),(1,.nd 1),(2,.nd 2)],objs:=[(4,.cells [.sv 5 3,.nd 4] 208 true false),(5,.vec 3 211 true)],ka:=1,al:=[none,none,none,none,some 1] })]⟩
def s122:LoopSpec:=⟨122, { np:=3,n:=34,gn:=3,next:=6,slots:=[(0,.p 4 0),(1,.nd 0)],objs:=[(4,.cells [.sv 5 1,.nd 2] 208 true false),(5,.vec 1 211 true)],ka:=1 },
 [(.ret, { np:=3,n:=1,gn:=3,next:=6,slots:=[(0,.nd 0)],objs:=[(4,.cells [.sv 5 1,.nd 2] 208 true false),(5,.vec 1 211 true)],ka:=1,al:=[none,none,some 2] })]⟩
def s113:LoopSpec:=⟨113, { np:=3,n:=20,gn:=3,next:=5,slots:=[(0,.p 4 0)],objs:=[(4,.cells [.nd 0,.nd 1,.nd 2,.nils] 110 true false)],ka:=1 },
 [(.ret, { np:=5,n:=1,gn:=3,next:=6,slots:=[(0,.p 5 0)],objs:=[(4,.cells [.nd 0,.nd 1,.nd 2,.nils] 110 true false),(5,.cells [.nd 0,.nd 1,.nd 3,.nd 4] 110 true false)],ka:=1,al:=[some 0,some 1,some 2,none,none] })]⟩
def s111:LoopSpec:=⟨111, { np:=2,n:=40,gn:=3,next:=5,slots:=[(0,.p 4 0)],objs:=[(4,.cells [.nd 0,.nils,.nd 1] 108 true false)],ka:=1 },
 [(.ret, { np:=2,n:=1,gn:=3,next:=6,slots:=[(0,.p 5 0)],objs:=[(4,.cells [.nd 0,.nils,.nd 1] 108 true false),(5,.cells [.nd 0,.nils,.nd 1] 108 true false)],ka:=1,al:=[some 0,some 1] })]⟩
def s110:LoopSpec:=⟨110, { np:=9,n:=21,gn:=3,next:=7,slots:=[(0,.p 4 0)],objs:=[(4,.cells [.nd 0,.nd 1,.nd 2,.nd 3,.nd 4,.nd 5,.p 6 0,.p 5 0] 74 true false),(5,.cells [.nd 6,.nd 7,.nd 8,.nils] 110 true false),(6,.cells [.nd 6,.nils,.nd 8] 108 true false)],ka:=3 },
 [(.ret, { np:=11,n:=1,gn:=3,next:=10,slots:=[(0,.p 7 0)],objs:=[(4,.cells [.nd 0,.nd 1,.nd 2,.nd 3,.nd 4,.nd 5,.p 6 0,.p 5 0] 74 true false),(5,.cells [.nd 6,.nd 7,.nd 8,.nils] 110 true false),(6,.cells [.nd 6,.nils,.nd 8] 108 true false),(7,.cells [.nd 0,.nd 1,.nd 2,.nd 3,.nd 4,.nd 5,.p 8 0,.p 9 0] 74 true false),(9,.cells [.nd 6,.nd 7,.nd 9,.nd 10] 110 true false),(8,.cells [.nd 6,.nils,.nd 8] 108 true false)],ka:=3,al:=[some 0,some 1,some 2,some 3,some 4,some 5,some 6,some 7,some 8,none,none] })]⟩
def s109:LoopSpec:=⟨109, { np:=20,n:=19,gn:=3,next:=17,slots:=[(0,.p 4 0),(1,.nd 19)],objs:=[(4,.cells [.p 12 0,.p 9 0,.p 7 0,.p 5 0,.nd 0,.nils] 99 true false),(5,.cells [.p 6 0,.nd 1] 158 true false),(6,.cells [.sv 15 2,.nd 3] 208 true false),(15,.vec 2 211 true),(7,.cells [.p 8 0,.nd 4] 158 true false),(8,.cells [.sv 16 5,.nd 6] 208 true false),(16,.vec 5 211 true),(9,.cells [.nd 7,.nd 8,.nd 9,.nd 10,.nd 11,.nd 12,.p 11 0,.p 10 0] 74 true false),(10,.cells [.nd 13,.nd 10,.nd 0,.nils] 110 true false),(11,.cells [.nd 13,.nils,.nd 0] 108 true false),(12,.cells [.nd 14,.nd 15,.nd 16,.nd 17,.nd 18,.nd 12,.p 14 0,.p 13 0] 74 true false),(13,.cells [.nd 13,.nd 10,.nd 0,.nils] 110 true false),(14,.cells [.nd 13,.nils,.nd 0] 108 true false)],ka:=11 },
 [(.ret, { np:=26,n:=1,gn:=3,next:=20,slots:=[(0,.p 15 0)],objs:=[(4,.cells [.p 12 0,.p 9 0,.p 7 0,.p 5 0,.nd 0,.nils] 99 true false),(5,.cells [.p 6 0,.nd 1] 158 true false),(6,.cells [.sv 16 2,.nd 3] 208 true false),(16,.vec 2 211 true),(7,.cells [.p 8 0,.nd 4] 158 true false),(8,.cells [.sv 17 5,.nd 6] 208 true false),(17,.vec 5 211 true),(9,.cells [.nd 7,.nd 8,.nd 9,.nd 10,.nd 11,.nd 12,.p 11 0,.p 10 0] 74 true false),(10,.cells [.nd 13,.nd 10,.nd 0,.nils] 110 true false),(11,.cells [.nd 13,.nils,.nd 0] 108 true false),(12,.cells [.nd 14,.nd 15,.nd 16,.nd 17,.nd 18,.nd 12,.p 14 0,.p 13 0] 74 true false),(13,.cells [.nd 13,.nd 10,.nd 0,.nils] 110 true false),(14,.cells [.nd 13,.nils,.nd 0] 108 true false),(15,.cells [.nd 19,.nd 20,.nd 21,.nd 22,.nd 23,.nd 12,.p 18 0,.p 19 0] 74 true false),(19,.cells [.nd 13,.nd 10,.nd 24,.nd 25] 110 true false),(18,.cells [.nd 13,.nils,.nd 0] 108 true false)],ka:=11,al:=[some 0,some 1,some 2,some 3,some 4,some 5,some 6,some 7,some 8,some 9,some 10,some 11,some 12,some 13,some 14,some 15,some 16,some 17,some 18,none,none,none,none,none,none,none] }),
  (.ret, { np:=19,n:=1,gn:=3,next:=17,slots:=[(0,.nilp)],objs:=[(4,.cells [.p 12 0,.p 9 0,.p 7 0,.p 5 0,.nd 0,.nils] 99 true false),(5,.cells [.p 6 0,.nd 1] 158 true false),(6,.cells [.sv 15 2,.nd 3] 208 true false),(15,.vec 2 211 true),(7,.cells [.p 8 0,.nd 4] 158 true false),(8,.cells [.sv 16 5,.nd 6] 208 true false),(16,.vec 5 211 true),(9,.cells [.nd 7,.nd 8,.nd 9,.nd 10,.nd 11,.nd 12,.p 11 0,.p 10 0] 74 true false),(10,.cells [.nd 13,.nd 10,.nd 0,.nils] 110 true false),(11,.cells [.nd 13,.nils,.nd 0] 108 true false),(12,.cells [.nd 14,.nd 15,.nd 16,.nd 17,.nd 18,.nd 12,.p 14 0,.p 13 0] 74 true false),(13,.cells [.nd 13,.nd 10,.nd 0,.nils] 110 true false),(14,.cells [.nd 13,.nils,.nd 0] 108 true false)],ka:=11,al:=[some 0,some 1,some 2,some 3,some 4,some 5,some 6,some 7,some 8,some 9,some 10,some 11,some 12,some 13,some 14,some 15,some 16,some 17,some 18] })]⟩
def s106:LoopSpec:=⟨106, { np:=5,n:=68,gn:=3,next:=7,slots:=[(0,.p 4 0),(1,.nd 0),(2,.nd 1)],objs:=[(4,.cells [.p 5 0,.nd 2] 158 true false),(5,.cells [.sv 6 3,.nd 4] 208 true false),(6,.vec 3 211 true)],ka:=2 },
 [(.ret, { np:=3,n:=0,gn:=3,next:=7,slots:=[],objs:=[(4,.cells [.p 5 0,.nd 0] 158 true false),(5,.cells [.sv 6 1,.nd 2] 208 true false),(6,.vec 1 211 true)],ka:=2 })]⟩
def s104:LoopSpec:=⟨104, { np:=4,n:=37,gn:=3,next:=6,slots:=[(0,.p 4 0),(1,.nd 0),(2,.nd 1)],objs:=[(4,.cells [.sv 5 2,.nd 3] 208 true false),(5,.vec 2 211 true)],ka:=1 },
 [(.ret, { np:=2,n:=0,gn:=3,next:=6,slots:=[],objs:=[(4,.cells [.sv 5 0,.nd 1] 208 true false),(5,.vec 0 211 true)],ka:=1 })]⟩
def s103:LoopSpec:=⟨103, { np:=4,n:=12,gn:=3,next:=6,slots:=[(0,.ifc 269 (.p 4 0)),(1,.ifc 211 (.agg [.nd 0,.nd 1,.nd 2]))],objs:=[(4,.cells [.sv 5 3,.nd 1] 208 true false),(5,.vec 3 211 true)],ka:=1 },
 [(.ret, { np:=2,n:=0,gn:=3,next:=6,slots:=[],objs:=[(4,.cells [.sv 5 0,.nd 1] 208 true false),(5,.vec 0 211 true)],ka:=1,al:=[none,some 1] })]⟩
def s101:LoopSpec:=⟨101, { np:=3,n:=23,gn:=3,next:=6,slots:=[(0,.ifc 269 (.p 4 0)),(1,.nd 0)],objs:=[(4,.cells [.sv 5 1,.nd 2] 208 true false),(5,.vec 1 211 true)],ka:=1 },
 [(.ret, { np:=2,n:=0,gn:=3,next:=6,slots:=[],objs:=[(4,.cells [.sv 5 0,.nd 1] 208 true false),(5,.vec 0 211 true)],ka:=1,al:=[none,some 2] })]⟩
def s93:LoopSpec:=⟨93, { np:=29,n:=37,gn:=3,next:=15,slots:=[(0,.p 4 0),(1,.nd 0),(2,.nd 1)],objs:=[(4,.cells [.p 12 0,.p 9 0,.p 7 0,.p 5 0,.nd 2,.nils] 99 true false),(5,.cells [.p 6 0,.nd 3] 158 true false),(6,.cells [.nils,.nd 4] 208 true false),(7,.cells [.p 8 0,.nd 5] 158 true false),(8,.cells [.nils,.nd 6] 208 true false),(9,.cells [.nd 7,.nd 8,.nd 9,.nd 10,.nd 11,.nd 12,.p 11 0,.p 10 0] 74 true false),(10,.cells [.nd 13,.nd 14,.nd 15,.nils] 110 true false),(11,.cells [.nd 16,.nils,.nd 17] 108 true false),(12,.cells [.nd 18,.nd 19,.nd 20,.nd 21,.nd 22,.nd 23,.p 14 0,.p 13 0] 74 true false),(13,.cells [.nd 24,.nd 25,.nd 26,.nils] 110 true false),(14,.cells [.nd 27,.nils,.nd 28] 108 true false)],ka:=11 },
 [(.ret, { np:=29,n:=0,gn:=3,next:=17,slots:=[],objs:=[(4,.cells [.p 12 0,.p 9 0,.p 7 0,.p 5 0,.nd 0,.nils] 99 true false),(5,.cells [.p 6 0,.nd 1] 158 true false),(6,.cells [.sv 15 2,.nd 3] 208 true false),(15,.vec 2 211 true),(7,.cells [.p 8 0,.nd 4] 158 true false),(8,.cells [.sv 16 5,.nd 6] 208 true false),(16,.vec 5 211 true),(9,.cells [.nd 7,.nd 8,.nd 9,.nd 10,.nd 11,.nd 12,.p 11 0,.p 10 0] 74 true false),(10,.cells [.nd 13,.nd 14,.nd 15,.nils] 110 true false),(11,.cells [.nd 16,.nils,.nd 17] 108 true false),(12,.cells [.nd 18,.nd 19,.nd 20,.nd 21,.nd 22,.nd 23,.p 14 0,.p 13 0] 74 true false),(13,.cells [.nd 24,.nd 25,.nd 26,.nils] 110 true false),(14,.cells [.nd 27,.nils,.nd 28] 108 true false)],ka:=11,al:=[some 2,none,none,none,none,none,none,some 7,some 8,some 9,some 10,some 11,some 12,some 13,some 14,some 15,some 16,some 17,some 18,some 19,some 20,some 21,some 22,some 23,some 24,some 25,some 26,some 27,some 28] })]⟩
def s91:LoopSpec:=⟨91, { np:=2,n:=69,gn:=3,next:=5,slots:=[(0,.sv 4 0),(1,.nd 1)],objs:=[(4,.vec 0 5 false)] },
 [(.ret, { np:=1,n:=1,gn:=3,next:=5,slots:=[(0,.sv 4 0)],objs:=[(4,.vec 0 5 false)] })]⟩
def s71:LoopSpec:=⟨71, { np:=0,n:=33,gn:=3,next:=4,slots:=[(0,.nili)],objs:=[] },
 [(.ret, { np:=0,n:=1,gn:=3,next:=4,slots:=[(0,.i .i64 0)],objs:=[] })]⟩
def s70:LoopSpec:=⟨70, { np:=24,n:=33,gn:=3,next:=5,slots:=[(0,.ifc 238 (.p 4 15))],objs:=[(4,.cells [.nd 0,.nd 1,.nd 2,.nd 3,.nd 4,.nd 5,.nd 6,.nd 7,.nd 8,.nd 9,.nd 10,.nd 11,.nd 12,.nd 13,.nd 14,.nd 15,.nd 16,.nd 17,.nd 18,.nd 19,.nd 20,.nd 21,.nd 22,.nd 23] 81 true false)],ka:=1 },
 [(.ret, { np:=24,n:=1,gn:=3,next:=5,slots:=[(0,.i .i64 0)],objs:=[(4,.cells [.nd 0,.nd 1,.nd 2,.nd 3,.nd 4,.nd 5,.nd 6,.nd 7,.nd 8,.nd 9,.nd 10,.nd 11,.nd 12,.nd 13,.nd 14,.nd 15,.nd 16,.nd 17,.nd 18,.nd 19,.nd 20,.nd 21,.nd 22,.nd 23] 81 true false)],ka:=1,al:=[some 0,some 1,some 2,some 3,some 4,some 5,some 6,some 7,some 8,some 9,some 10,some 11,some 12,some 13,some 14,some 15,some 16,some 17,some 18,some 19,some 20,some 21,some 22,some 23] })]⟩
def s69:LoopSpec:=⟨69, { np:=24,n:=33,gn:=3,next:=5,slots:=[(0,.ifc 238 (.p 4 14))],objs:=[(4,.cells [.nd 0,.nd 1,.nd 2,.nd 3,.nd 4,.nd 5,.nd 6,.nd 7,.nd 8,.nd 9,.nd 10,.nd 11,.nd 12,.nd 13,.nd 14,.nd 15,.nd 16,.nd 17,.nd 18,.nd 19,.nd 20,.nd 21,.nd 22,.nd 23] 81 true false)],ka:=1 },
 [(.ret, { np:=24,n:=1,gn:=3,next:=5,slots:=[(0,.i .i64 0)],objs:=[(4,.cells [.nd 0,.nd 1,.nd 2,.nd 3,.nd 4,.nd 5,.nd 6,.nd 7,.nd 8,.nd 9,.nd 10,.nd 11,.nd 12,.nd 13,.nd 14,.nd 15,.nd 16,.nd 17,.nd 18,.nd 19,.nd 20,.nd 21,.nd 22,.nd 23] 81 true false)],ka:=1,al:=[some 0,some 1,some 2,some 3,some 4,some 5,some 6,some 7,some 8,some 9,some 10,some 11,some 12,some 13,some 14,some 15,some 16,some 17,some 18,some 19,some 20,some 21,some 22,some 23] })]⟩
def s68:LoopSpec:=⟨68, { np:=24,n:=33,gn:=3,next:=5,slots:=[(0,.ifc 238 (.p 4 13))],objs:=[(4,.cells [.nd 0,.nd 1,.nd 2,.nd 3,.nd 4,.nd 5,.nd 6,.nd 7,.nd 8,.nd 9,.nd 10,.nd 11,.nd 12,.nd 13,.nd 14,.nd 15,.nd 16,.nd 17,.nd 18,.nd 19,.nd 20,.nd 21,.nd 22,.nd 23] 81 true false)],ka:=1 },
 [(.ret, { np:=24,n:=1,gn:=3,next:=5,slots:=[(0,.i .i64 0)],objs:=[(4,.cells [.nd 0,.nd 1,.nd 2,.nd 3,.nd 4,.nd 5,.nd 6,.nd 7,.nd 8,.nd 9,.nd 10,.nd 11,.nd 12,.nd 13,.nd 14,.nd 15,.nd 16,.nd 17,.nd 18,.nd 19,.nd 20,.nd 21,.nd 22,.nd 23] 81 true false)],ka:=1,al:=[some 0,some 1,some 2,some 3,some 4,some 5,some 6,some 7,some 8,some 9,some 10,some 11,some 12,some 13,some 14,some 15,some 16,some 17,some 18,some 19,some 20,some 21,some 22,some 23] })]⟩
def s67:LoopSpec:=⟨67, { np:=24,n:=33,gn:=3,next:=5,slots:=[(0,.ifc 238 (.p 4 12))],objs:=[(4,.cells [.nd 0,.nd 1,.nd 2,.nd 3,.nd 4,.nd 5,.nd 6,.nd 7,.nd 8,.nd 9,.nd 10,.nd 11,.nd 12,.nd 13,.nd 14,.nd 15,.nd 16,.nd 17,.nd 18,.nd 19,.nd 20,.nd 21,.nd 22,.nd 23] 81 true false)],ka:=1 },
 [(.ret, { np:=24,n:=1,gn:=3,next:=5,slots:=[(0,.i .i64 0)],objs:=[(4,.cells [.nd 0,.nd 1,.nd 2,.nd 3,.nd 4,.nd 5,.nd 6,.nd 7,.nd 8,.nd 9,.nd 10,.nd 11,.nd 12,.nd 13,.nd 14,.nd 15,.nd 16,.nd 17,.nd 18,.nd 19,.nd 20,.nd 21,.nd 22,.nd 23] 81 true false)],ka:=1,al:=[some 0,some 1,some 2,some 3,some 4,some 5,some 6,some 7,some 8,some 9,some 10,some 11,some 12,some 13,some 14,some 15,some 16,some 17,some 18,some 19,some 20,some 21,some 22,some 23] })]⟩
def s66:LoopSpec:=⟨66, { np:=24,n:=33,gn:=3,next:=5,slots:=[(0,.ifc 238 (.p 4 11))],objs:=[(4,.cells [.nd 0,.nd 1,.nd 2,.nd 3,.nd 4,.nd 5,.nd 6,.nd 7,.nd 8,.nd 9,.nd 10,.nd 11,.nd 12,.nd 13,.nd 14,.nd 15,.nd 16,.nd 17,.nd 18,.nd 19,.nd 20,.nd 21,.nd 22,.nd 23] 81 true false)],ka:=1 },
 [(.ret, { np:=24,n:=1,gn:=3,next:=5,slots:=[(0,.i .i64 0)],objs:=[(4,.cells [.nd 0,.nd 1,.nd 2,.nd 3,.nd 4,.nd 5,.nd 6,.nd 7,.nd 8,.nd 9,.nd 10,.nd 11,.nd 12,.nd 13,.nd 14,.nd 15,.nd 16,.nd 17,.nd 18,.nd 19,.nd 20,.nd 21,.nd 22,.nd 23] 81 true false)],ka:=1,al:=[some 0,some 1,some 2,some 3,some 4,some 5,some 6,some 7,some 8,some 9,some 10,some 11,some 12,some 13,some 14,some 15,some 16,some 17,some 18,some 19,some 20,some 21,some 22,some 23] })]⟩
def s65:LoopSpec:=⟨65, { np:=24,n:=33,gn:=3,next:=5,slots:=[(0,.ifc 238 (.p 4 10))],objs:=[(4,.cells [.nd 0,.nd 1,.nd 2,.nd 3,.nd 4,.nd 5,.nd 6,.nd 7,.nd 8,.nd 9,.nd 10,.nd 11,.nd 12,.nd 13,.nd 14,.nd 15,.nd 16,.nd 17,.nd 18,.nd 19,.nd 20,.nd 21,.nd 22,.nd 23] 81 true false)],ka:=1 },
 [(.ret, { np:=24,n:=1,gn:=3,next:=5,slots:=[(0,.i .i64 0)],objs:=[(4,.cells [.nd 0,.nd 1,.nd 2,.nd 3,.nd 4,.nd 5,.nd 6,.nd 7,.nd 8,.nd 9,.nd 10,.nd 11,.nd 12,.nd 13,.nd 14,.nd 15,.nd 16,.nd 17,.nd 18,.nd 19,.nd 20,.nd 21,.nd 22,.nd 23] 81 true false)],ka:=1,al:=[some 0,some 1,some 2,some 3,some 4,some 5,some 6,some 7,some 8,some 9,some 10,some 11,some 12,some 13,some 14,some 15,some 16,some 17,some 18,some 19,some 20,some 21,some 22,some 23] })]⟩
def s64:LoopSpec:=⟨64, { np:=24,n:=33,gn:=3,next:=5,slots:=[(0,.ifc 238 (.p 4 9))],objs:=[(4,.cells [.nd 0,.nd 1,.nd 2,.nd 3,.nd 4,.nd 5,.nd 6,.nd 7,.nd 8,.nd 9,.nd 10,.nd 11,.nd 12,.nd 13,.nd 14,.nd 15,.nd 16,.nd 17,.nd 18,.nd 19,.nd 20,.nd 21,.nd 22,.nd 23] 81 true false)],ka:=1 },
 [(.ret, { np:=24,n:=1,gn:=3,next:=5,slots:=[(0,.i .i64 0)],objs:=[(4,.cells [.nd 0,.nd 1,.nd 2,.nd 3,.nd 4,.nd 5,.nd 6,.nd 7,.nd 8,.nd 9,.nd 10,.nd 11,.nd 12,.nd 13,.nd 14,.nd 15,.nd 16,.nd 17,.nd 18,.nd 19,.nd 20,.nd 21,.nd 22,.nd 23] 81 true false)],ka:=1,al:=[some 0,some 1,some 2,some 3,some 4,some 5,some 6,some 7,some 8,some 9,some 10,some 11,some 12,some 13,some 14,some 15,some 16,some 17,some 18,some 19,some 20,some 21,some 22,some 23] })]⟩
def s63:LoopSpec:=⟨63, { np:=24,n:=33,gn:=3,next:=5,slots:=[(0,.ifc 238 (.p 4 8))],objs:=[(4,.cells [.nd 0,.nd 1,.nd 2,.nd 3,.nd 4,.nd 5,.nd 6,.nd 7,.nd 8,.nd 9,.nd 10,.nd 11,.nd 12,.nd 13,.nd 14,.nd 15,.nd 16,.nd 17,.nd 18,.nd 19,.nd 20,.nd 21,.nd 22,.nd 23] 81 true false)],ka:=1 },
 [(.ret, { np:=24,n:=1,gn:=3,next:=5,slots:=[(0,.i .i64 0)],objs:=[(4,.cells [.nd 0,.nd 1,.nd 2,.nd 3,.nd 4,.nd 5,.nd 6,.nd 7,.nd 8,.nd 9,.nd 10,.nd 11,.nd 12,.nd 13,.nd 14,.nd 15,.nd 16,.nd 17,.nd 18,.nd 19,.nd 20,.nd 21,.nd 22,.nd 23] 81 true false)],ka:=1,al:=[some 0,some 1,some 2,some 3,some 4,some 5,some 6,some 7,some 8,some 9,some 10,some 11,some 12,some 13,some 14,some 15,some 16,some 17,some 18,some 19,some 20,some 21,some 22,some 23] })]⟩
def s62:LoopSpec:=⟨62, { np:=24,n:=33,gn:=3,next:=5,slots:=[(0,.ifc 238 (.p 4 7))],objs:=[(4,.cells [.nd 0,.nd 1,.nd 2,.nd 3,.nd 4,.nd 5,.nd 6,.nd 7,.nd 8,.nd 9,.nd 10,.nd 11,.nd 12,.nd 13,.nd 14,.nd 15,.nd 16,.nd 17,.nd 18,.nd 19,.nd 20,.nd 21,.nd 22,.nd 23] 81 true false)],ka:=1 },
 [(.ret, { np:=24,n:=1,gn:=3,next:=5,slots:=[(0,.i .i64 0)],objs:=[(4,.cells [.nd 0,.nd 1,.nd 2,.nd 3,.nd 4,.nd 5,.nd 6,.nd 7,.nd 8,.nd 9,.nd 10,.nd 11,.nd 12,.nd 13,.nd 14,.nd 15,.nd 16,.nd 17,.nd 18,.nd 19,.nd 20,.nd 21,.nd 22,.nd 23] 81 true false)],ka:=1,al:=[some 0,some 1,some 2,some 3,some 4,some 5,some 6,some 7,some 8,some 9,some 10,some 11,some 12,some 13,some 14,some 15,some 16,some 17,some 18,some 19,some 20,some 21,some 22,some 23] })]⟩
def s61:LoopSpec:=⟨61, { np:=24,n:=33,gn:=3,next:=5,slots:=[(0,.ifc 238 (.p 4 6))],objs:=[(4,.cells [.nd 0,.nd 1,.nd 2,.nd 3,.nd 4,.nd 5,.nd 6,.nd 7,.nd 8,.nd 9,.nd 10,.nd 11,.nd 12,.nd 13,.nd 14,.nd 15,.nd 16,.nd 17,.nd 18,.nd 19,.nd 20,.nd 21,.nd 22,.nd 23] 81 true false)],ka:=1 },
 [(.ret, { np:=24,n:=1,gn:=3,next:=5,slots:=[(0,.i .i64 0)],objs:=[(4,.cells [.nd 0,.nd 1,.nd 2,.nd 3,.nd 4,.nd 5,.nd 6,.nd 7,.nd 8,.nd 9,.nd 10,.nd 11,.nd 12,.nd 13,.nd 14,.nd 15,.nd 16,.nd 17,.nd 18,.nd 19,.nd 20,.nd 21,.nd 22,.nd 23] 81 true false)],ka:=1,al:=[some 0,some 1,some 2,some 3,some 4,some 5,some 6,some 7,some 8,some 9,some 10,some 11,some 12,some 13,some 14,some 15,some 16,some 17,some 18,some 19,some 20,some 21,some 22,some 23] })]⟩
def s60:LoopSpec:=⟨60, { np:=24,n:=33,gn:=3,next:=5,slots:=[(0,.ifc 238 (.p 4 5))],objs:=[(4,.cells [.nd 0,.nd 1,.nd 2,.nd 3,.nd 4,.nd 5,.nd 6,.nd 7,.nd 8,.nd 9,.nd 10,.nd 11,.nd 12,.nd 13,.nd 14,.nd 15,.nd 16,.nd 17,.nd 18,.nd 19,.nd 20,.nd 21,.nd 22,.nd 23] 81 true false)],ka:=1 },
 [(.ret, { np:=24,n:=1,gn:=3,next:=5,slots:=[(0,.i .i64 0)],objs:=[(4,.cells [.nd 0,.nd 1,.nd 2,.nd 3,.nd 4,.nd 5,.nd 6,.nd 7,.nd 8,.nd 9,.nd 10,.nd 11,.nd 12,.nd 13,.nd 14,.nd 15,.nd 16,.nd 17,.nd 18,.nd 19,.nd 20,.nd 21,.nd 22,.nd 23] 81 true false)],ka:=1,al:=[some 0,some 1,some 2,some 3,some 4,some 5,some 6,some 7,some 8,some 9,some 10,some 11,some 12,some 13,some 14,some 15,some 16,some 17,some 18,some 19,some 20,some 21,some 22,some 23] })]⟩
def s59:LoopSpec:=⟨59, { np:=24,n:=33,gn:=3,next:=5,slots:=[(0,.ifc 238 (.p 4 4))],objs:=[(4,.cells [.nd 0,.nd 1,.nd 2,.nd 3,.nd 4,.nd 5,.nd 6,.nd 7,.nd 8,.nd 9,.nd 10,.nd 11,.nd 12,.nd 13,.nd 14,.nd 15,.nd 16,.nd 17,.nd 18,.nd 19,.nd 20,.nd 21,.nd 22,.nd 23] 81 true false)],ka:=1 },
 [(.ret, { np:=24,n:=1,gn:=3,next:=5,slots:=[(0,.i .i64 0)],objs:=[(4,.cells [.nd 0,.nd 1,.nd 2,.nd 3,.nd 4,.nd 5,.nd 6,.nd 7,.nd 8,.nd 9,.nd 10,.nd 11,.nd 12,.nd 13,.nd 14,.nd 15,.nd 16,.nd 17,.nd 18,.nd 19,.nd 20,.nd 21,.nd 22,.nd 23] 81 true false)],ka:=1,al:=[some 0,some 1,some 2,some 3,some 4,some 5,some 6,some 7,some 8,some 9,some 10,some 11,some 12,some 13,some 14,some 15,some 16,some 17,some 18,some 19,some 20,some 21,some 22,some 23] })]⟩
def s58:LoopSpec:=⟨58, { np:=24,n:=33,gn:=3,next:=5,slots:=[(0,.ifc 238 (.p 4 3))],objs:=[(4,.cells [.nd 0,.nd 1,.nd 2,.nd 3,.nd 4,.nd 5,.nd 6,.nd 7,.nd 8,.nd 9,.nd 10,.nd 11,.nd 12,.nd 13,.nd 14,.nd 15,.nd 16,.nd 17,.nd 18,.nd 19,.nd 20,.nd 21,.nd 22,.nd 23] 81 true false)],ka:=1 },
 [(.ret, { np:=24,n:=1,gn:=3,next:=5,slots:=[(0,.i .i64 0)],objs:=[(4,.cells [.nd 0,.nd 1,.nd 2,.nd 3,.nd 4,.nd 5,.nd 6,.nd 7,.nd 8,.nd 9,.nd 10,.nd 11,.nd 12,.nd 13,.nd 14,.nd 15,.nd 16,.nd 17,.nd 18,.nd 19,.nd 20,.nd 21,.nd 22,.nd 23] 81 true false)],ka:=1,al:=[some 0,some 1,some 2,some 3,some 4,some 5,some 6,some 7,some 8,some 9,some 10,some 11,some 12,some 13,some 14,some 15,some 16,some 17,some 18,some 19,some 20,some 21,some 22,some 23] })]⟩
def s57:LoopSpec:=⟨57, { np:=24,n:=33,gn:=3,next:=5,slots:=[(0,.ifc 238 (.p 4 2))],objs:=[(4,.cells [.nd 0,.nd 1,.nd 2,.nd 3,.nd 4,.nd 5,.nd 6,.nd 7,.nd 8,.nd 9,.nd 10,.nd 11,.nd 12,.nd 13,.nd 14,.nd 15,.nd 16,.nd 17,.nd 18,.nd 19,.nd 20,.nd 21,.nd 22,.nd 23] 81 true false)],ka:=1 },
 [(.ret, { np:=24,n:=1,gn:=3,next:=5,slots:=[(0,.i .i64 0)],objs:=[(4,.cells [.nd 0,.nd 1,.nd 2,.nd 3,.nd 4,.nd 5,.nd 6,.nd 7,.nd 8,.nd 9,.nd 10,.nd 11,.nd 12,.nd 13,.nd 14,.nd 15,.nd 16,.nd 17,.nd 18,.nd 19,.nd 20,.nd 21,.nd 22,.nd 23] 81 true false)],ka:=1,al:=[some 0,some 1,some 2,some 3,some 4,some 5,some 6,some 7,some 8,some 9,some 10,some 11,some 12,some 13,some 14,some 15,some 16,some 17,some 18,some 19,some 20,some 21,some 22,some 23] })]⟩
def s56:LoopSpec:=⟨56, { np:=24,n:=33,gn:=3,next:=5,slots:=[(0,.ifc 238 (.p 4 1))],objs:=[(4,.cells [.nd 0,.nd 1,.nd 2,.nd 3,.nd 4,.nd 5,.nd 6,.nd 7,.nd 8,.nd 9,.nd 10,.nd 11,.nd 12,.nd 13,.nd 14,.nd 15,.nd 16,.nd 17,.nd 18,.nd 19,.nd 20,.nd 21,.nd 22,.nd 23] 81 true false)],ka:=1 },
 [(.ret, { np:=24,n:=1,gn:=3,next:=5,slots:=[(0,.i .i64 0)],objs:=[(4,.cells [.nd 0,.nd 1,.nd 2,.nd 3,.nd 4,.nd 5,.nd 6,.nd 7,.nd 8,.nd 9,.nd 10,.nd 11,.nd 12,.nd 13,.nd 14,.nd 15,.nd 16,.nd 17,.nd 18,.nd 19,.nd 20,.nd 21,.nd 22,.nd 23] 81 true false)],ka:=1,al:=[some 0,some 1,some 2,some 3,some 4,some 5,some 6,some 7,some 8,some 9,some 10,some 11,some 12,some 13,some 14,some 15,some 16,some 17,some 18,some 19,some 20,some 21,some 22,some 23] })]⟩
def s49:LoopSpec:=⟨49, { np:=24,n:=33,gn:=3,next:=5,slots:=[(0,.ifc 246 (.p 4 22))],objs:=[(4,.cells [.nd 0,.nd 1,.nd 2,.nd 3,.nd 4,.nd 5,.nd 6,.nd 7,.nd 8,.nd 9,.nd 10,.nd 11,.nd 12,.nd 13,.nd 14,.nd 15,.nd 16,.nd 17,.nd 18,.nd 19,.nd 20,.nd 21,.nd 22,.nd 23] 81 true false)],ka:=1 },
 [(.ret, { np:=25,n:=1,gn:=3,next:=5,slots:=[(0,.nd 0)],objs:=[(4,.cells [.nd 1,.nd 2,.nd 3,.nd 4,.nd 5,.nd 6,.nd 7,.nd 8,.nd 9,.nd 10,.nd 11,.nd 12,.nd 13,.nd 14,.nd 15,.nd 16,.nd 17,.nd 18,.nd 19,.nd 20,.nd 21,.nd 22,.nd 23,.nd 24] 81 true false)],ka:=1,al:=[none,some 0,some 1,some 2,some 3,some 4,some 5,some 6,some 7,some 8,some 9,some 10,some 11,some 12,some 13,some 14,some 15,some 16,some 17,some 18,some 19,some 20,some 21,some 22,some 23] })]⟩
def s45:LoopSpec:=⟨45, { np:=24,n:=33,gn:=3,next:=5,slots:=[(0,.ifc 243 (.p 4 21))],objs:=[(4,.cells [.nd 0,.nd 1,.nd 2,.nd 3,.nd 4,.nd 5,.nd 6,.nd 7,.nd 8,.nd 9,.nd 10,.nd 11,.nd 12,.nd 13,.nd 14,.nd 15,.nd 16,.nd 17,.nd 18,.nd 19,.nd 20,.nd 21,.nd 22,.nd 23] 81 true false)],ka:=1 },
 [(.ret, { np:=25,n:=1,gn:=3,next:=5,slots:=[(0,.nd 0)],objs:=[(4,.cells [.nd 1,.nd 2,.nd 3,.nd 4,.nd 5,.nd 6,.nd 7,.nd 8,.nd 9,.nd 10,.nd 11,.nd 12,.nd 13,.nd 14,.nd 15,.nd 16,.nd 17,.nd 18,.nd 19,.nd 20,.nd 21,.nd 22,.nd 23,.nd 24] 81 true false)],ka:=1,al:=[none,some 0,some 1,some 2,some 3,some 4,some 5,some 6,some 7,some 8,some 9,some 10,some 11,some 12,some 13,some 14,some 15,some 16,some 17,some 18,some 19,some 20,some 21,some 22,some 23] })]⟩
def s44:LoopSpec:=⟨44, { np:=24,n:=33,gn:=3,next:=5,slots:=[(0,.ifc 242 (.p 4 20))],objs:=[(4,.cells [.nd 0,.nd 1,.nd 2,.nd 3,.nd 4,.nd 5,.nd 6,.nd 7,.nd 8,.nd 9,.nd 10,.nd 11,.nd 12,.nd 13,.nd 14,.nd 15,.nd 16,.nd 17,.nd 18,.nd 19,.nd 20,.nd 21,.nd 22,.nd 23] 81 true false)],ka:=1 },
 [(.ret, { np:=25,n:=1,gn:=3,next:=5,slots:=[(0,.nd 0)],objs:=[(4,.cells [.nd 1,.nd 2,.nd 3,.nd 4,.nd 5,.nd 6,.nd 7,.nd 8,.nd 9,.nd 10,.nd 11,.nd 12,.nd 13,.nd 14,.nd 15,.nd 16,.nd 17,.nd 18,.nd 19,.nd 20,.nd 21,.nd 22,.nd 23,.nd 24] 81 true false)],ka:=1,al:=[none,some 0,some 1,some 2,some 3,some 4,some 5,some 6,some 7,some 8,some 9,some 10,some 11,some 12,some 13,some 14,some 15,some 16,some 17,some 18,some 19,some 20,some 21,some 22,some 23] })]⟩
def s43:LoopSpec:=⟨43, { np:=24,n:=33,gn:=3,next:=5,slots:=[(0,.ifc 242 (.p 4 19))],objs:=[(4,.cells [.nd 0,.nd 1,.nd 2,.nd 3,.nd 4,.nd 5,.nd 6,.nd 7,.nd 8,.nd 9,.nd 10,.nd 11,.nd 12,.nd 13,.nd 14,.nd 15,.nd 16,.nd 17,.nd 18,.nd 19,.nd 20,.nd 21,.nd 22,.nd 23] 81 true false)],ka:=1 },
 [(.ret, { np:=25,n:=1,gn:=3,next:=5,slots:=[(0,.nd 0)],objs:=[(4,.cells [.nd 1,.nd 2,.nd 3,.nd 4,.nd 5,.nd 6,.nd 7,.nd 8,.nd 9,.nd 10,.nd 11,.nd 12,.nd 13,.nd 14,.nd 15,.nd 16,.nd 17,.nd 18,.nd 19,.nd 20,.nd 21,.nd 22,.nd 23,.nd 24] 81 true false)],ka:=1,al:=[none,some 0,some 1,some 2,some 3,some 4,some 5,some 6,some 7,some 8,some 9,some 10,some 11,some 12,some 13,some 14,some 15,some 16,some 17,some 18,some 19,some 20,some 21,some 22,some 23] })]⟩
def s42:LoopSpec:=⟨42, { np:=24,n:=33,gn:=3,next:=5,slots:=[(0,.ifc 242 (.p 4 18))],objs:=[(4,.cells [.nd 0,.nd 1,.nd 2,.nd 3,.nd 4,.nd 5,.nd 6,.nd 7,.nd 8,.nd 9,.nd 10,.nd 11,.nd 12,.nd 13,.nd 14,.nd 15,.nd 16,.nd 17,.nd 18,.nd 19,.nd 20,.nd 21,.nd 22,.nd 23] 81 true false)],ka:=1 },
 [(.ret, { np:=25,n:=1,gn:=3,next:=5,slots:=[(0,.nd 0)],objs:=[(4,.cells [.nd 1,.nd 2,.nd 3,.nd 4,.nd 5,.nd 6,.nd 7,.nd 8,.nd 9,.nd 10,.nd 11,.nd 12,.nd 13,.nd 14,.nd 15,.nd 16,.nd 17,.nd 18,.nd 19,.nd 20,.nd 21,.nd 22,.nd 23,.nd 24] 81 true false)],ka:=1,al:=[none,some 0,some 1,some 2,some 3,some 4,some 5,some 6,some 7,some 8,some 9,some 10,some 11,some 12,some 13,some 14,some 15,some 16,some 17,some 18,some 19,some 20,some 21,some 22,some 23] })]⟩
def s41:LoopSpec:=⟨41, { np:=24,n:=33,gn:=3,next:=5,slots:=[(0,.ifc 239 (.p 4 17))],objs:=[(4,.cells [.nd 0,.nd 1,.nd 2,.nd 3,.nd 4,.nd 5,.nd 6,.nd 7,.nd 8,.nd 9,.nd 10,.nd 11,.nd 12,.nd 13,.nd 14,.nd 15,.nd 16,.nd 17,.nd 18,.nd 19,.nd 20,.nd 21,.nd 22,.nd 23] 81 true false)],ka:=1 },
 [(.ret, { np:=24,n:=1,gn:=3,next:=5,slots:=[(0,.i .i64 0)],objs:=[(4,.cells [.nd 0,.nd 1,.nd 2,.nd 3,.nd 4,.nd 5,.nd 6,.nd 7,.nd 8,.nd 9,.nd 10,.nd 11,.nd 12,.nd 13,.nd 14,.nd 15,.nd 16,.nd 17,.nd 18,.nd 19,.nd 20,.nd 21,.nd 22,.nd 23] 81 true false)],ka:=1,al:=[some 0,some 1,some 2,some 3,some 4,some 5,some 6,some 7,some 8,some 9,some 10,some 11,some 12,some 13,some 14,some 15,some 16,some 17,some 18,some 19,some 20,some 21,some 22,some 23] })]⟩
def s40:LoopSpec:=⟨40, { np:=24,n:=33,gn:=3,next:=5,slots:=[(0,.ifc 240 (.p 4 16))],objs:=[(4,.cells [.nd 0,.nd 1,.nd 2,.nd 3,.nd 4,.nd 5,.nd 6,.nd 7,.nd 8,.nd 9,.nd 10,.nd 11,.nd 12,.nd 13,.nd 14,.nd 15,.nd 16,.nd 17,.nd 18,.nd 19,.nd 20,.nd 21,.nd 22,.nd 23] 81 true false)],ka:=1 },
 [(.ret, { np:=24,n:=1,gn:=3,next:=5,slots:=[(0,.i .i64 0)],objs:=[(4,.cells [.nd 0,.nd 1,.nd 2,.nd 3,.nd 4,.nd 5,.nd 6,.nd 7,.nd 8,.nd 9,.nd 10,.nd 11,.nd 12,.nd 13,.nd 14,.nd 15,.nd 16,.nd 17,.nd 18,.nd 19,.nd 20,.nd 21,.nd 22,.nd 23] 81 true false)],ka:=1,al:=[some 0,some 1,some 2,some 3,some 4,some 5,some 6,some 7,some 8,some 9,some 10,some 11,some 12,some 13,some 14,some 15,some 16,some 17,some 18,some 19,some 20,some 21,some 22,some 23] })]⟩
def s20:LoopSpec:=⟨20, { np:=2,n:=28,gn:=3,next:=5,slots:=[(0,.p 4 0)],objs:=[(4,.cells [.nd 0,.nils,.nd 1] 108 true false)],ka:=1 },
 [(.ret, { np:=2,n:=2,gn:=3,next:=5,slots:=[(0,.agg [.i .u64 0,.nils]),(1,.b false)],objs:=[(4,.cells [.nd 0,.nils,.nd 1] 108 true false)],ka:=1,al:=[some 0,some 1] })]⟩
def s19:LoopSpec:=⟨19, { np:=2,n:=75,gn:=3,next:=5,slots:=[(0,.p 4 0)],objs:=[(4,.cells [.nd 0,.nils,.nd 1] 108 true false)],ka:=1 },
 [(.ret, { np:=2,n:=2,gn:=3,next:=5,slots:=[(0,.agg [.i .i64 0,.i .u64 0,.i .u64 0,.i .u64 0,.i .u64 0,.i .u64 0,.i .u64 0,.i .u64 0,.i .u64 0,.i .u64 0,.i .u64 0,.i .u64 0,.i .u64 0,.i .u64 0,.i .u64 0,.i .u64 0,.i .i64 0,.b false,.s [],.s [],.s [],.nils,.nils,.nils]),(1,.i .i64 24)],objs:=[(4,.cells [.nd 0,.nils,.nd 1] 108 true false)],ka:=1,al:=[some 0,some 1] })]⟩
def s18:LoopSpec:=⟨18, { np:=11,n:=55,gn:=3,next:=7,slots:=[(0,.p 4 0)],objs:=[(4,.cells [.nd 0,.nd 1,.nd 2,.nd 3,.nd 4,.nd 5,.p 6 0,.p 5 0] 74 true false),(5,.cells [.nd 6,.nd 7,.nd 8,.nils] 110 true false),(6,.cells [.nd 9,.nils,.nd 10] 108 true false)],ka:=3 },
 [(.ret, { np:=12,n:=1,gn:=3,next:=7,slots:=[(0,.nd 0)],objs:=[(4,.cells [.nd 1,.nd 2,.nd 3,.nd 4,.nd 5,.nd 6,.p 6 0,.p 5 0] 74 true false),(5,.cells [.nd 7,.nd 8,.nd 9,.nils] 110 true false),(6,.cells [.nd 10,.nils,.nd 11] 108 true false)],ka:=3,al:=[none,some 0,some 1,some 2,some 3,none,some 5,some 6,some 7,some 8,some 9,some 10] })]⟩
def s17:LoopSpec:=⟨17, { np:=28,n:=26,gn:=3,next:=15,slots:=[(0,.p 4 0),(1,.nd 6)],objs:=[(4,.cells [.p 12 0,.p 9 0,.p 7 0,.p 5 0,.nd 7,.nils] 99 true false),(5,.cells [.p 6 0,.nd 0] 158 true false),(6,.cells [.nils,.nd 8] 208 true false),(7,.cells [.p 8 0,.nd 1] 158 true false),(8,.cells [.nils,.nd 9] 208 true false),(9,.cells [.nd 2,.nd 3,.nd 10,.nd 11,.nd 12,.nd 13,.p 11 0,.p 10 0] 74 true false),(10,.cells [.nd 14,.nd 15,.nd 16,.nils] 110 true false),(11,.cells [.nd 17,.nils,.nd 18] 108 true false),(12,.cells [.nd 4,.nd 5,.nd 19,.nd 20,.nd 21,.nd 22,.p 14 0,.p 13 0] 74 true false),(13,.cells [.nd 23,.nd 24,.nd 25,.nils] 110 true false),(14,.cells [.nd 26,.nils,.nd 27] 108 true false)],ka:=11 },
 [(.ret, { np:=30,n:=1,gn:=3,next:=17,slots:=[(0,.nd 0)],objs:=[(4,.cells [.p 12 0,.p 9 0,.p 7 0,.p 5 0,.nd 1,.nils] 99 true false),(5,.cells [.p 6 0,.nd 2] 158 true false),(6,.cells [.sv 15 3,.nd 4] 208 true false),(15,.vec 3 211 true),(7,.cells [.p 8 0,.nd 5] 158 true false),(8,.cells [.sv 16 6,.nd 7] 208 true false),(16,.vec 6 211 true),(9,.cells [.nd 8,.nd 9,.nd 10,.nd 11,.nd 12,.nd 13,.p 11 0,.p 10 0] 74 true false),(10,.cells [.nd 14,.nd 15,.nd 16,.nils] 110 true false),(11,.cells [.nd 17,.nils,.nd 18] 108 true false),(12,.cells [.nd 19,.nd 20,.nd 21,.nd 22,.nd 23,.nd 24,.p 14 0,.p 13 0] 74 true false),(13,.cells [.nd 25,.nd 26,.nd 27,.nils] 110 true false),(14,.cells [.nd 28,.nils,.nd 29] 108 true false)],ka:=11,al:=[none,some 7,none,none,none,none,none,none,some 2,some 3,some 10,some 11,none,some 13,some 14,some 15,some 16,some 17,some 18,some 4,some 5,some 19,some 20,none,some 22,some 23,some 24,some 25,some 26,some 27] }),
  (.ret, { np:=27,n:=1,gn:=3,next:=15,slots:=[(0,.i .i64 0)],objs:=[(4,.cells [.p 12 0,.p 9 0,.p 7 0,.p 5 0,.nd 0,.nils] 99 true false),(5,.cells [.p 6 0,.nd 1] 158 true false),(6,.cells [.nils,.nd 2] 208 true false),(7,.cells [.p 8 0,.nd 3] 158 true false),(8,.cells [.nils,.nd 4] 208 true false),(9,.cells [.nd 5,.nd 6,.nd 7,.nd 8,.nd 9,.nd 10,.p 11 0,.p 10 0] 74 true false),(10,.cells [.nd 11,.nd 12,.nd 13,.nils] 110 true false),(11,.cells [.nd 14,.nils,.nd 15] 108 true false),(12,.cells [.nd 16,.nd 17,.nd 18,.nd 19,.nd 20,.nd 21,.p 14 0,.p 13 0] 74 true false),(13,.cells [.nd 22,.nd 23,.nd 24,.nils] 110 true false),(14,.cells [.nd 25,.nils,.nd 26] 108 true false)],ka:=11 })]⟩
noncomputable def rows:List Row:=[
 .any (λgs out=>cloneP 24 3 gs=some out),
 .any (λgs out=>sortFP gs=some out),
 .fn 4 [] [.sc] [] [],
 .fn 15 [] [.sc,.sc] [] [],
 .fn 40 [] [.sc] [] [(0,7)],
 .fn 80 [] [.sc] [] [(0,6)],
 .lp 80 [([],0)] s6 [] [],
 .lp 40 [([],0)] s7 [] [],
 .fn 42 [] [.sc] [] [],
 .fn 81 [] [.sc] [] [(0,11)],
 .told 120 [] [.ag 16],
 .lp 81 [([],0)] s11 [] [(0,12)],
 .lp 81 [([],0),([],0)] s12 [] [],
 .fn 23 [] [.sc] [] [],
 .fn 51 [] [.sc] [] [],
 .told 91 [] [.sc],
 .told 83 [] [.sc],
 .fs 17 [] s17 [] [],
 .fs 10 [] s18 [] [],
 .fs 29 [] s19 [] [],
 .fs 60 [] s20 [] [],
 .fn 30 [] [.sc] [] [],
 .fn 63 [] [.sc,.sc] [] [],
 .fn 99 [] [.sc,.sc] [] [(0,77)],
 .fn 71 [] [.sc] [] [(0,36),(1,38),(2,39),(3,75)],
 .fn 65 [] [.sc] [] [],
 .fn 67 [] [.sc] [] [(0,28)],
 .fn 136 [] [.sc] [] [],
 .lp 67 [([],0)] s28 [] [],
 .fn 137 [] [.sc] [] [],
 .fn 138 [] [.sc] [] [],
 .fn 139 [] [.sc] [] [],
 .fn 140 [] [.sc] [] [],
 .fn 141 [] [.sc] [] [],
 .fn 142 [] [.sc] [] [],
 .fn 143 [] [.sc] [] [],
 .lp 71 [([],0)] s36 [] [],
 .told 107 [] [.sc],
 .lp 71 [([],1)] s38 [] [],
 .lp 71 [([],2)] s39 [] [],
 .fs 110 [] s40 [] [],
 .fs 110 [] s41 [] [],
 .fs 110 [] s42 [] [],
 .fs 110 [] s43 [] [],
 .fs 110 [] s44 [] [],
 .fs 110 [] s45 [] [],
 .fn 155 [] [.sc] [] [(0,47)],
 .lp 155 [([],0)] s47 [] [],
 .fn 188 [] [.sc] [] [],
 .fs 110 [] s49 [] [],
 .fn 95 [] [.sc] [] [(0,51)],
 .lp 95 [([],0)] s51 [] [],
 .fn 129 [] [.sc] [] [],
 .fn 55 [] [.sc] [] [(0,54)],
 .lp 55 [([],0)] s54 [] [],
 .fn 93 [] [.sc] [] [],
 .fs 110 [] s56 [] [],
 .fs 110 [] s57 [] [],
 .fs 110 [] s58 [] [],
 .fs 110 [] s59 [] [],
 .fs 110 [] s60 [] [],
 .fs 110 [] s61 [] [],
 .fs 110 [] s62 [] [],
 .fs 110 [] s63 [] [],
 .fs 110 [] s64 [] [],
 .fs 110 [] s65 [] [],
 .fs 110 [] s66 [] [],
 .fs 110 [] s67 [] [],
 .fs 110 [] s68 [] [],
 .fs 110 [] s69 [] [],
 .fs 110 [] s70 [] [],
 .fs 110 [] s71 [] [],
 .fn 112 [] [.sc] [] [],
 .fn 156 [] [.sc] [] [(0,74)],
 .lp 156 [([],0)] s74 [] [],
 .lp 71 [([],3)] s75 [] [(0,76)],
 .lp 71 [([],3),([],0)] s76 [] [],
 .lp 99 [([],0)] s77 [] [],
 .fn 132 [] [.ag 5,.sc] [] [],
 .fn 174 [] [.sc,.sc] [] [(0,80)],
 .lp 174 [([],0)] s80 [] [],
 .fn 200 [] [.sc] [] [],
 .fn 221 [] [.sc] [] [(0,83)],
 .lp 221 [([],0)] s83 [] [],
 .fn 133 [] [.sc,.sc] [] [(0,85),(1,86)],
 .lp 133 [([],0)] s85 [] [],
 .lp 133 [([],1)] s86 [] [],
 .told 104 [] [.sc],
 .fn 100 [] [.sc,.sc] [] [],
 .fn 134 [] [.sc] [] [(0,90)],
 .lp 134 [([],0)] s90 [] [],
 .fs 135 [] s91 [] [(0,92)],
 .lp 135 [([],0)] s92 [] [],
 .fs 45 [] s93 [] [(0,94)],
 .lp 45 [([],0)] s94 [] [],
 .any (λgs out=>True),
 .any (λgs out=>True),
 .any (λgs out=>True),
 .any (λgs out=>True),
 .any (λgs out=>True),
 .any (λgs out=>True),
 .fs 194 [] s101 [] [(0,102)],
 .lp 194 [([],0)] s102 [] [],
 .fs 163 [] s103 [] [],
 .fs 122 [] s104 [] [(0,105)],
 .lp 122 [([],0)] s105 [] [],
 .fs 84 [] s106 [] [(0,107)],
 .lp 84 [([],0)] s107 [] [(0,108)],
 .lp 84 [([],0),([],0)] s108 [] [],
 .fs 18 [] s109 [] [],
 .fs 46 [] s110 [] [],
 .fs 85 [] s111 [] [(0,112)],
 .lp 85 [([],0)] s112 [] [],
 .fs 86 [] s113 [] [],
 .fn 58 [] [.ag 2] [] [(0,115)],
 .lp 58 [([],0)] s115 [] [],
 .told 130 [] [.sc],
 .any (λgs out=>True),
 .any (λgs out=>True),
 .any (λgs out=>True),
 .any (λgs out=>True),
 .any (λgs out=>True),
 .fs 88 [] s122 [] [(0,123)],
 .lp 88 [([],0)] s123 [] [],
 .fs 124 [] s124 [] [],
 .fs 164 [] s125 [] [],
 .fs 195 [] s126 [] [(0,127)],
 .lp 195 [([],0)] s127 [] [],
 .any (λgs out=>True),
 .any (λgs out=>True),
 .fn 125 [] [.sc,.sc,.sc] [] [],
 .fn 165 [] [.sc] [] [(0,132)],
 .lp 165 [([],0)] s132 [] [],
 .fn 64 [] [.sc,.sc,.sc] [] [(0,134)],
 .lp 64 [([],0)] s134 [] [],
 .fn 166 [] [.sc] [] [],
 .fn 167 [] [.sc] [] [],
 .fs 45 [] s137 [] [(0,138)],
 .lp 45 [([],0)] s138 [] [],
 .any (λgs out=>True),
 .fs 89 [] s140 [] [],
 .fs 48 [] s141 [] [(0,142)],
 .lp 48 [([],0)] s142 [] [(0,143)],
 .lp 48 [([],0),([],0)] s143 [] [],
 .fs 18 [] s144 [] [],
 .fs 19 [] s145 [] [(0,146)],
 .lp 19 [([],0)] s146 [] [(0,147)],
 .lp 19 [([],0),([],0)] s147 [] []]
noncomputable abbrev C:=ctrs Tryz.prog tabsL rows
noncomputable def code4:Code:=Tryz.f4.body.getD .skip
noncomputable def pl0:PList:=PL.cons 49 (λN=>@pCloneO N 0 63) (PL.cons 175 (λN=>@pSortF N 1 176) (PL.cons 14 (λ_=>pClosed) (PL.cons 169 (λ_=>pNoEscape) (PL.nil))))
noncomputable def es:List (FuncId×List Nat):=[(17,[17]),(10,[18]),(29,[19]),(60,[20]),(110,[71,70,69,68,67,66,65,64,63,62,61,60,59,58,57,56,49,45,44,43,42,41,40]),(135,[91]),(194,[101]),(163,[103]),(122,[104]),(84,[106]),(46,[110]),(85,[111]),(86,[113]),(88,[122]),(124,[124]),(164,[125]),(195,[126]),(45,[137,93]),(89,[140]),(48,[141]),(18,[144,109]),(19,[145]),(167,[136]),(4,[2]),(58,[114]),(42,[8]),(120,[10]),(133,[84]),(63,[22]),(140,[32]),(93,[55]),(134,[89]),(143,[35]),(132,[78]),(130,[116]),(55,[53]),(71,[24]),(125,[130]),(104,[87]),(141,[33]),(91,[15]),(188,[48]),(65,[25]),(174,[79]),(136,[27]),(139,[31]),(23,[13]),(51,[14]),(100,[88]),(129,[52]),(138,[30]),(80,[5]),(40,[4]),(67,[26]),(112,[72]),(81,[9]),(83,[16]),(99,[23]),(15,[3]),(142,[34]),(221,[82]),(156,[73]),(155,[46]),(95,[50]),(64,[133]),(165,[131]),(200,[81]),(30,[21]),(107,[37]),(137,[29]),(166,[135])]
noncomputable def pl:PList:=plOf Tryz.prog rows es pl0
end J
end Go.Proofs.YtilkjidelblkfaaGreatDoor
