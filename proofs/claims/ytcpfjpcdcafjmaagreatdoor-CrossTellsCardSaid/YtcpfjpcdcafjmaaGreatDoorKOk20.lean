/- The examples of all chapters are one step each. -/
import Derived.Test.YtcpfjpcdcafjmaaGreatDoorKAw01
import Derived.Test.YtcpfjpcdcafjmaaGreatDoorKAw11
import Derived.Test.YtcpfjpcdcafjmaaGreatDoorKAw13
import Derived.Test.YtcpfjpcdcafjmaaGreatDoorKAw16
import Derived.Test.YtcpfjpcdcafjmaaGreatDoorKNames
import Derived.Test.YtcpfjpcdcafjmaaGreatDoorKAw18
import Derived.Test.YtcpfjpcdcafjmaaGreatDoorKAw19
import Derived.Test.YtcpfjpcdcafjmaaGreatDoorKAw20
namespace Go.Proofs.YtcpfjpcdcafjmaaGreatDoor
open Go.aN
theorem ajc:∀p∈Uj,dS Tryz.prog p.1 p.2:=nM ajC ak1
theorem ajd:∀p∈Uk,dS Tryz.prog p.1 p.2:=nM ajc ak2
theorem aje:∀p∈Ul,dS Tryz.prog p.1 p.2:=nM ajd ak3
theorem ajf:∀p∈Um,dS Tryz.prog p.1 p.2:=nM aje ak4
theorem ajg:∀p∈Un,dS Tryz.prog p.1 p.2:=nM ajf ak5
theorem ajh:∀p∈Uo,dS Tryz.prog p.1 p.2:=nM ajg ak6
theorem aji:∀p∈Ur,dS Tryz.prog p.1 p.2:=nM ajh ak7
theorem ajj:∀p∈Us,dS Tryz.prog p.1 p.2:=nM aji ak8
theorem ajk:∀p∈Ut,dS Tryz.prog p.1 p.2:=nM ajj ak9
theorem ajl:∀p∈Uu,dS Tryz.prog p.1 p.2:=nM ajk ala
theorem ajm:∀p∈Uw,dS Tryz.prog p.1 p.2:=nM ajl alb
theorem ajn:∀p∈Ux,dS Tryz.prog p.1 p.2:=nM ajm alc
theorem ajo:∀p∈Uy,dS Tryz.prog p.1 p.2:=nM ajn ald
theorem ajp:∀p∈Uz,dS Tryz.prog p.1 p.2:=nM ajo ale
theorem ajq:∀p∈UA,dS Tryz.prog p.1 p.2:=nM ajp alf
theorem ajr:∀p∈UC,dS Tryz.prog p.1 p.2:=nM ajq alg
theorem UD:∀p∈Oe,dS Tryz.prog p.1 p.2:=nM ajr alh
theorem aju:∀p∈DY,dS Tryz.prog p.1 p.2:=by
 intro p hp;rcases dP.1 hp with rfl | hp
 ·exact aiF UD
 ·exact UD p hp
theorem ajs:∀p∈UE,dS Tryz.prog p.1 p.2:=nM aju ali
theorem abA:∀p∈UF,dS Tryz.prog p.1 p.2:=nM ajs alj
theorem aqV:∀p∈ajt,dS Tryz.prog p.1 p.2:=nM abA acg
end Go.Proofs.YtcpfjpcdcafjmaaGreatDoor
