/- The examples of all chapters are one step each. -/
import Derived.Test.YtilkjidelblkfaaGreatDoorKAw01
import Derived.Test.YtilkjidelblkfaaGreatDoorKNames
import Derived.Test.YtilkjidelblkfaaGreatDoorKAw18
import Derived.Test.YtilkjidelblkfaaGreatDoorKAw23
namespace Go.Proofs.YtilkjidelblkfaaGreatDoor
open Go.aJ
theorem aoA:∀p∈Xr,dS Tryz.prog p.1 p.2:=kJ ao6 ap3
theorem aoB:∀p∈Xt,dS Tryz.prog p.1 p.2:=kJ aoA ap4
theorem aoC:∀p∈Xu,dS Tryz.prog p.1 p.2:=kJ aoB ap5
theorem aoD:∀p∈Xv,dS Tryz.prog p.1 p.2:=kJ aoC ap6
theorem aoE:∀p∈Xw,dS Tryz.prog p.1 p.2:=kJ aoD ap7
theorem aoF:∀p∈Xx,dS Tryz.prog p.1 p.2:=kJ aoE ap8
theorem aoG:∀p∈Xy,dS Tryz.prog p.1 p.2:=kJ aoF ap9
theorem aoH:∀p∈Xz,dS Tryz.prog p.1 p.2:=kJ aoG aqa
theorem aoI:∀p∈XA,dS Tryz.prog p.1 p.2:=kJ aoH aqb
theorem aoJ:∀p∈XB,dS Tryz.prog p.1 p.2:=kJ aoI aqc
theorem aoK:∀p∈XC,dS Tryz.prog p.1 p.2:=kJ aoJ aqd
theorem aoL:∀p∈XD,dS Tryz.prog p.1 p.2:=kJ aoK aqe
theorem aoM:∀p∈XE,dS Tryz.prog p.1 p.2:=kJ aoL aqf
theorem aoN:∀p∈XF,dS Tryz.prog p.1 p.2:=kJ aoM aqg
theorem aoO:∀p∈XG,dS Tryz.prog p.1 p.2:=kJ aoN aqh
theorem aoP:∀p∈XH,dS Tryz.prog p.1 p.2:=kJ aoO aqi
theorem XI:∀p∈Rh,dS Tryz.prog p.1 p.2:=kJ aoP aqj
theorem aoX:∀p∈FW,dS Tryz.prog p.1 p.2:=by
 intro p hp;rcases bC.1 hp with rfl | hp
 ·exact anU XI
 ·exact XI p hp
theorem aoQ:∀p∈XJ,dS Tryz.prog p.1 p.2:=kJ aoX aqk
theorem aoR:∀p∈XK,dS Tryz.prog p.1 p.2:=kJ aoQ aql
theorem aoS:∀p∈XL,dS Tryz.prog p.1 p.2:=kJ aoR aqm
theorem aoT:∀p∈XM,dS Tryz.prog p.1 p.2:=kJ aoS aqn
theorem aoU:∀p∈XO,dS Tryz.prog p.1 p.2:=kJ aoT aqo
theorem aoV:∀p∈XP,dS Tryz.prog p.1 p.2:=kJ aoU aqp
theorem aoW:∀p∈XQ,dS Tryz.prog p.1 p.2:=kJ aoV aqr
theorem aed:∀p∈XR,dS Tryz.prog p.1 p.2:=kJ aoW aqs
theorem avT:∀p∈aee,dS Tryz.prog p.1 p.2:=kJ aed ae7
end Go.Proofs.YtilkjidelblkfaaGreatDoor
