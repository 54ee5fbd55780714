/- The examples of all chapters are one step each. -/
import Derived.Test.YthgifdbaegpbpaaGreatDoorKAw01
import Derived.Test.YthgifdbaegpbpaaGreatDoorKAw11
import Derived.Test.YthgifdbaegpbpaaGreatDoorKAw13
import Derived.Test.YthgifdbaegpbpaaGreatDoorKAw16
import Derived.Test.YthgifdbaegpbpaaGreatDoorKNames
import Derived.Test.YthgifdbaegpbpaaGreatDoorKAw18
import Derived.Test.YthgifdbaegpbpaaGreatDoorKAw19
namespace Go.Proofs.YthgifdbaegpbpaaGreatDoor
open Go.aK
theorem akI:∀p∈Um,dZ Tryz.prog p.1 p.2:=oQ ak6 am5
theorem akJ:∀p∈Un,dZ Tryz.prog p.1 p.2:=oQ akI am6
theorem akK:∀p∈Uo,dZ Tryz.prog p.1 p.2:=oQ akJ am7
theorem akL:∀p∈Ur,dZ Tryz.prog p.1 p.2:=oQ akK am8
theorem akM:∀p∈Us,dZ Tryz.prog p.1 p.2:=oQ akL am9
theorem akN:∀p∈Ut,dZ Tryz.prog p.1 p.2:=oQ akM ana
theorem akO:∀p∈Uu,dZ Tryz.prog p.1 p.2:=oQ akN anb
theorem akP:∀p∈Uw,dZ Tryz.prog p.1 p.2:=oQ akO ane
theorem akQ:∀p∈Ux,dZ Tryz.prog p.1 p.2:=oQ akP anf
theorem akR:∀p∈Uy,dZ Tryz.prog p.1 p.2:=oQ akQ ang
theorem akS:∀p∈Uz,dZ Tryz.prog p.1 p.2:=oQ akR anh
theorem akT:∀p∈UA,dZ Tryz.prog p.1 p.2:=oQ akS ani
theorem akU:∀p∈UC,dZ Tryz.prog p.1 p.2:=oQ akT anj
theorem akV:∀p∈UD,dZ Tryz.prog p.1 p.2:=oQ akU ank
theorem akW:∀p∈UE,dZ Tryz.prog p.1 p.2:=oQ akV anl
theorem akX:∀p∈UF,dZ Tryz.prog p.1 p.2:=oQ akW anm
theorem UG:∀p∈Ox,dZ Tryz.prog p.1 p.2:=oQ akX ano
theorem akY:∀p∈Ez,dZ Tryz.prog p.1 p.2:=by
 intro p hp;rcases dR.1 hp with rfl | hp
 ·exact akc UG
 ·exact UG p hp
theorem abG:∀p∈UH,dZ Tryz.prog p.1 p.2:=oQ akY anp
theorem at6:∀p∈abH,dZ Tryz.prog p.1 p.2:=oQ abG acw
end Go.Proofs.YthgifdbaegpbpaaGreatDoor
