/- The examples of all chapters are one step each. -/
import Derived.Test.YtnlegpmfkopalaaGreatDoorKAw01
import Derived.Test.YtnlegpmfkopalaaGreatDoorKAw11
import Derived.Test.YtnlegpmfkopalaaGreatDoorKAw13
import Derived.Test.YtnlegpmfkopalaaGreatDoorKAw16
import Derived.Test.YtnlegpmfkopalaaGreatDoorKNames
import Derived.Test.YtnlegpmfkopalaaGreatDoorKAw18
import Derived.Test.YtnlegpmfkopalaaGreatDoorKAw19
namespace Go.Proofs.YtnlegpmfkopalaaGreatDoor
open Go.aN
theorem amC:∀p∈VZ,fA Tryz.prog p.1 p.2:=oC am2 an5
theorem amD:∀p∈V3,fA Tryz.prog p.1 p.2:=oC amC an6
theorem amE:∀p∈V4,fA Tryz.prog p.1 p.2:=oC amD an7
theorem amF:∀p∈V5,fA Tryz.prog p.1 p.2:=oC amE an8
theorem amG:∀p∈V6,fA Tryz.prog p.1 p.2:=oC amF an9
theorem amH:∀p∈V7,fA Tryz.prog p.1 p.2:=oC amG aoa
theorem amI:∀p∈V8,fA Tryz.prog p.1 p.2:=oC amH aob
theorem amJ:∀p∈V9,fA Tryz.prog p.1 p.2:=oC amI aoc
theorem amK:∀p∈Wh,fA Tryz.prog p.1 p.2:=oC amJ aod
theorem amL:∀p∈Wi,fA Tryz.prog p.1 p.2:=oC amK aoe
theorem amM:∀p∈Wj,fA Tryz.prog p.1 p.2:=oC amL aof
theorem amN:∀p∈Wl,fA Tryz.prog p.1 p.2:=oC amM aog
theorem amO:∀p∈Wn,fA Tryz.prog p.1 p.2:=oC amN aoh
theorem amP:∀p∈Wp,fA Tryz.prog p.1 p.2:=oC amO aoi
theorem amQ:∀p∈Wq,fA Tryz.prog p.1 p.2:=oC amP aoj
theorem amR:∀p∈Ws,fA Tryz.prog p.1 p.2:=oC amQ aok
theorem P9:∀p∈Ld,fA Tryz.prog p.1 p.2:=oC amR aol
theorem amT:∀p∈EZ,fA Tryz.prog p.1 p.2:=by
 intro p hp;rcases dh.1 hp with rfl | hp
 ·exact alT P9
 ·exact P9 p hp
theorem acU:∀p∈Wu,fA Tryz.prog p.1 p.2:=oC amT aom
theorem atK:∀p∈amS,fA Tryz.prog p.1 p.2:=oC acU adK
end Go.Proofs.YtnlegpmfkopalaaGreatDoor
