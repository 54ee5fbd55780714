/- The examples of all chapters are one step each. -/
import Derived.Test.YthgifdbaegpbpaaGreatDoorKAw01
import Derived.Test.YthgifdbaegpbpaaGreatDoorKAw11
import Derived.Test.YthgifdbaegpbpaaGreatDoorKAw13
import Derived.Test.YthgifdbaegpbpaaGreatDoorKAw16
import Derived.Test.YthgifdbaegpbpaaGreatDoorKNames
import Derived.Test.YthgifdbaegpbpaaGreatDoorKAw18
import Derived.Test.YthgifdbaegpbpaaGreatDoorKAw19
import Derived.Test.YthgifdbaegpbpaaGreatDoorKAw20
namespace Go.Proofs.YthgifdbaegpbpaaGreatDoor
open Go.aN
theorem alX:∀p∈VW,dY Tryz.prog p.1 p.2:=oC amq anr
theorem alY:∀p∈VX,dY Tryz.prog p.1 p.2:=oC alX ant
theorem alZ:∀p∈VY,dY Tryz.prog p.1 p.2:=oC alY anu
theorem al0:∀p∈VZ,dY Tryz.prog p.1 p.2:=oC alZ anv
theorem al1:∀p∈V3,dY Tryz.prog p.1 p.2:=oC al0 anw
theorem al2:∀p∈V4,dY Tryz.prog p.1 p.2:=oC al1 anx
theorem al3:∀p∈V5,dY Tryz.prog p.1 p.2:=oC al2 anz
theorem al4:∀p∈V6,dY Tryz.prog p.1 p.2:=oC al3 anA
theorem al5:∀p∈V7,dY Tryz.prog p.1 p.2:=oC al4 anB
theorem al6:∀p∈V8,dY Tryz.prog p.1 p.2:=oC al5 anC
theorem al7:∀p∈V9,dY Tryz.prog p.1 p.2:=oC al6 anD
theorem al8:∀p∈Wh,dY Tryz.prog p.1 p.2:=oC al7 anE
theorem al9:∀p∈Wi,dY Tryz.prog p.1 p.2:=oC al8 anF
theorem ama:∀p∈Wj,dY Tryz.prog p.1 p.2:=oC al9 anG
theorem amb:∀p∈Wl,dY Tryz.prog p.1 p.2:=oC ama anH
theorem amc:∀p∈Wn,dY Tryz.prog p.1 p.2:=oC amb anI
theorem Wp:∀p∈P7,dY Tryz.prog p.1 p.2:=oC amc anJ
theorem amf:∀p∈EJ,dY Tryz.prog p.1 p.2:=by
 intro p hp;rcases bZ.1 hp with rfl | hp
 ·exact alf Wp
 ·exact Wp p hp
theorem amd:∀p∈Wq,dY Tryz.prog p.1 p.2:=oC amf anK
theorem acR:∀p∈Ws,dY Tryz.prog p.1 p.2:=oC amd anL
theorem aup:∀p∈ame,dY Tryz.prog p.1 p.2:=oC acR adp
end Go.Proofs.YthgifdbaegpbpaaGreatDoor
