/- The examples of all chapters are one step each. -/
import Derived.Test.YtcpfjpcdcafjmaaGreatDoorKAw01
import Derived.Test.YtcpfjpcdcafjmaaGreatDoorKAw11
import Derived.Test.YtcpfjpcdcafjmaaGreatDoorKAw13
import Derived.Test.YtcpfjpcdcafjmaaGreatDoorKAw16
import Derived.Test.YtcpfjpcdcafjmaaGreatDoorKNames
import Derived.Test.YtcpfjpcdcafjmaaGreatDoorKAw18
import Derived.Test.YtcpfjpcdcafjmaaGreatDoorKAw19
import Derived.Test.YtcpfjpcdcafjmaaGreatDoorKAw20
namespace Go.Proofs.YtcpfjpcdcafjmaaGreatDoor
open Go.aO
theorem amY:∀p∈WO,eF Tryz.prog p.1 p.2:=oL ant aos
theorem amZ:∀p∈WQ,eF Tryz.prog p.1 p.2:=oL amY aot
theorem am0:∀p∈WR,eF Tryz.prog p.1 p.2:=oL amZ aou
theorem am1:∀p∈WS,eF Tryz.prog p.1 p.2:=oL am0 aov
theorem am2:∀p∈WT,eF Tryz.prog p.1 p.2:=oL am1 aow
theorem am3:∀p∈WU,eF Tryz.prog p.1 p.2:=oL am2 aox
theorem am4:∀p∈WV,eF Tryz.prog p.1 p.2:=oL am3 aoy
theorem am5:∀p∈WW,eF Tryz.prog p.1 p.2:=oL am4 aoz
theorem am6:∀p∈WX,eF Tryz.prog p.1 p.2:=oL am5 aoA
theorem am7:∀p∈WY,eF Tryz.prog p.1 p.2:=oL am6 aoB
theorem am8:∀p∈WZ,eF Tryz.prog p.1 p.2:=oL am7 aoC
theorem am9:∀p∈W9,eF Tryz.prog p.1 p.2:=oL am8 aoD
theorem ana:∀p∈Xa,eF Tryz.prog p.1 p.2:=oL am9 aoE
theorem anb:∀p∈Xb,eF Tryz.prog p.1 p.2:=oL ana aoF
theorem ane:∀p∈Xc,eF Tryz.prog p.1 p.2:=oL anb aoG
theorem anf:∀p∈Xd,eF Tryz.prog p.1 p.2:=oL ane aoH
theorem Xe:∀p∈Qz,eF Tryz.prog p.1 p.2:=oL anf aoI
theorem ani:∀p∈FV,eF Tryz.prog p.1 p.2:=by
 intro p hp;rcases cO.1 hp with rfl | hp
 ·exact amk Xe
 ·exact Xe p hp
theorem ang:∀p∈Xf,eF Tryz.prog p.1 p.2:=oL ani aoJ
theorem adN:∀p∈Xg,eF Tryz.prog p.1 p.2:=oL ang aoK
theorem avy:∀p∈anh,eF Tryz.prog p.1 p.2:=oL adN aej
end Go.Proofs.YtcpfjpcdcafjmaaGreatDoor
