/- The examples of all chapters are one step each. -/
import Derived.Test.YtjglbndncdkhhaaGreatDoorKAw01
import Derived.Test.YtjglbndncdkhhaaGreatDoorKAw11
import Derived.Test.YtjglbndncdkhhaaGreatDoorKAw13
import Derived.Test.YtjglbndncdkhhaaGreatDoorKAw16
import Derived.Test.YtjglbndncdkhhaaGreatDoorKNames
import Derived.Test.YtjglbndncdkhhaaGreatDoorKAw18
import Derived.Test.YtjglbndncdkhhaaGreatDoorKAw19
import Derived.Test.YtjglbndncdkhhaaGreatDoorKAw20
namespace Go.Proofs.YtjglbndncdkhhaaGreatDoor
open Go.aN
theorem alA:∀p∈Wv,dY Tryz.prog p.1 p.2:=ng amk ano
theorem alB:∀p∈Wx,dY Tryz.prog p.1 p.2:=ng alA anp
theorem alC:∀p∈Wy,dY Tryz.prog p.1 p.2:=ng alB anq
theorem alD:∀p∈WA,dY Tryz.prog p.1 p.2:=ng alC anr
theorem alE:∀p∈WB,dY Tryz.prog p.1 p.2:=ng alD ant
theorem alF:∀p∈WC,dY Tryz.prog p.1 p.2:=ng alE anu
theorem alG:∀p∈WE,dY Tryz.prog p.1 p.2:=ng alF anv
theorem alH:∀p∈WG,dY Tryz.prog p.1 p.2:=ng alG anw
theorem alI:∀p∈WH,dY Tryz.prog p.1 p.2:=ng alH anx
theorem alJ:∀p∈WI,dY Tryz.prog p.1 p.2:=ng alI anz
theorem alK:∀p∈WJ,dY Tryz.prog p.1 p.2:=ng alJ anA
theorem alL:∀p∈WM,dY Tryz.prog p.1 p.2:=ng alK anB
theorem alM:∀p∈WO,dY Tryz.prog p.1 p.2:=ng alL anC
theorem alN:∀p∈WQ,dY Tryz.prog p.1 p.2:=ng alM anD
theorem alO:∀p∈WR,dY Tryz.prog p.1 p.2:=ng alN anE
theorem alP:∀p∈WS,dY Tryz.prog p.1 p.2:=ng alO anF
theorem WT:∀p∈Qb,dY Tryz.prog p.1 p.2:=ng alP anG
theorem alS:∀p∈Et,dY Tryz.prog p.1 p.2:=by
 intro p hp;rcases bU.1 hp with rfl | hp
 ·exact akU WT
 ·exact WT p hp
theorem alQ:∀p∈WU,dY Tryz.prog p.1 p.2:=ng alS anH
theorem ac8:∀p∈WV,dY Tryz.prog p.1 p.2:=ng alQ anI
theorem asz:∀p∈alR,dY Tryz.prog p.1 p.2:=ng ac8 adM
end Go.Proofs.YtjglbndncdkhhaaGreatDoor
