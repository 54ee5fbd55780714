/- The examples of all chapters are one step each. -/
import Derived.Test.YtpkihgnabejkkaaGreatDoorKAw01
import Derived.Test.YtpkihgnabejkkaaGreatDoorKAw11
import Derived.Test.YtpkihgnabejkkaaGreatDoorKAw13
import Derived.Test.YtpkihgnabejkkaaGreatDoorKAw16
import Derived.Test.YtpkihgnabejkkaaGreatDoorKNames
import Derived.Test.YtpkihgnabejkkaaGreatDoorKAw18
namespace Go.Proofs.YtpkihgnabejkkaaGreatDoor
open Go.aJ
theorem ain:∀p∈Oe,dR Tryz.prog p.1 p.2:=lV aiH ajW
theorem aio:∀p∈Og,dR Tryz.prog p.1 p.2:=lV ain ajX
theorem aip:∀p∈Oh,dR Tryz.prog p.1 p.2:=lV aio ajY
theorem aiq:∀p∈Oi,dR Tryz.prog p.1 p.2:=lV aip ajZ
theorem air:∀p∈Oj,dR Tryz.prog p.1 p.2:=lV aiq aj0
theorem ais:∀p∈Ol,dR Tryz.prog p.1 p.2:=lV air aj1
theorem ait:∀p∈Om,dR Tryz.prog p.1 p.2:=lV ais aj2
theorem aiu:∀p∈Oo,dR Tryz.prog p.1 p.2:=lV ait aj3
theorem aiv:∀p∈Oq,dR Tryz.prog p.1 p.2:=lV aiu aj6
theorem aiw:∀p∈Ot,dR Tryz.prog p.1 p.2:=lV aiv aj7
theorem aix:∀p∈Ou,dR Tryz.prog p.1 p.2:=lV aiw aj8
theorem aiy:∀p∈Ov,dR Tryz.prog p.1 p.2:=lV aix aj9
theorem aiz:∀p∈Ox,dR Tryz.prog p.1 p.2:=lV aiy akb
theorem aiA:∀p∈Oy,dR Tryz.prog p.1 p.2:=lV aiz akc
theorem aiB:∀p∈Oz,dR Tryz.prog p.1 p.2:=lV aiA akd
theorem aiC:∀p∈OA,dR Tryz.prog p.1 p.2:=lV aiB ake
theorem OB:∀p∈H6,dR Tryz.prog p.1 p.2:=lV aiC akf
theorem aax:∀p∈zl,dR Tryz.prog p.1 p.2:=by
 intro p hp
 rcases List.mem_cons.1 hp with rfl | hp
 ·exact ahO OB
 ·exact OB p hp
theorem apq:∀p∈aiD,dR Tryz.prog p.1 p.2:=lV aax aa0
end Go.Proofs.YtpkihgnabejkkaaGreatDoor
