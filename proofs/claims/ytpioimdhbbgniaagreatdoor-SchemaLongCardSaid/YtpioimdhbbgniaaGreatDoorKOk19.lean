/- The examples of all chapters are one step each. -/
import Derived.Test.YtpioimdhbbgniaaGreatDoorKAw01
import Derived.Test.YtpioimdhbbgniaaGreatDoorKAw11
import Derived.Test.YtpioimdhbbgniaaGreatDoorKAw13
import Derived.Test.YtpioimdhbbgniaaGreatDoorKAw16
import Derived.Test.YtpioimdhbbgniaaGreatDoorKNames
import Derived.Test.YtpioimdhbbgniaaGreatDoorKAw18
import Derived.Test.YtpioimdhbbgniaaGreatDoorKAw19
namespace Go.Proofs.YtpioimdhbbgniaaGreatDoor
open Go.aJ
theorem ajD:∀p∈UQ,dN Tryz.prog p.1 p.2:=oG aj6 ak5
theorem ajE:∀p∈UR,dN Tryz.prog p.1 p.2:=oG ajD ak6
theorem ajF:∀p∈UU,dN Tryz.prog p.1 p.2:=oG ajE ak7
theorem ajG:∀p∈UW,dN Tryz.prog p.1 p.2:=oG ajF ak8
theorem ajH:∀p∈UY,dN Tryz.prog p.1 p.2:=oG ajG ak9
theorem ajI:∀p∈UZ,dN Tryz.prog p.1 p.2:=oG ajH ala
theorem ajJ:∀p∈U0,dN Tryz.prog p.1 p.2:=oG ajI alb
theorem ajK:∀p∈U1,dN Tryz.prog p.1 p.2:=oG ajJ alc
theorem ajL:∀p∈U2,dN Tryz.prog p.1 p.2:=oG ajK ald
theorem ajM:∀p∈U3,dN Tryz.prog p.1 p.2:=oG ajL ale
theorem ajN:∀p∈U4,dN Tryz.prog p.1 p.2:=oG ajM alf
theorem ajO:∀p∈U5,dN Tryz.prog p.1 p.2:=oG ajN alg
theorem ajP:∀p∈U6,dN Tryz.prog p.1 p.2:=oG ajO alh
theorem ajQ:∀p∈U7,dN Tryz.prog p.1 p.2:=oG ajP ali
theorem ajR:∀p∈U8,dN Tryz.prog p.1 p.2:=oG ajQ alj
theorem ajS:∀p∈U9,dN Tryz.prog p.1 p.2:=oG ajR alk
theorem Va:∀p∈OX,dN Tryz.prog p.1 p.2:=oG ajS alm
theorem ajU:∀p∈D7,dN Tryz.prog p.1 p.2:=by
 intro p hp;rcases dn.1 hp with rfl | hp
 ·exact aiZ Va
 ·exact Va p hp
theorem abQ:∀p∈Vb,dN Tryz.prog p.1 p.2:=oG ajU aln
theorem arD:∀p∈ajT,dN Tryz.prog p.1 p.2:=oG abQ aci
end Go.Proofs.YtpioimdhbbgniaaGreatDoor
