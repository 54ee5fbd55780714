/- The examples of all chapters are one step each. -/
import Derived.Test.YthgifdbaegpbpaaGreatDoorKAw01
import Derived.Test.YthgifdbaegpbpaaGreatDoorKAw11
import Derived.Test.YthgifdbaegpbpaaGreatDoorKAw13
import Derived.Test.YthgifdbaegpbpaaGreatDoorKAw16
import Derived.Test.YthgifdbaegpbpaaGreatDoorKNames
import Derived.Test.YthgifdbaegpbpaaGreatDoorKAw18
import Derived.Test.YthgifdbaegpbpaaGreatDoorKAw19
namespace Go.Proofs.YthgifdbaegpbpaaGreatDoor
open Go.aP
theorem alm:∀p∈Rh,dU Tryz.prog p.1 p.2:=lY alH amW
theorem aln:∀p∈Ri,dU Tryz.prog p.1 p.2:=lY alm amX
theorem alo:∀p∈Rj,dU Tryz.prog p.1 p.2:=lY aln amY
theorem alp:∀p∈Rk,dU Tryz.prog p.1 p.2:=lY alo amZ
theorem alq:∀p∈Rl,dU Tryz.prog p.1 p.2:=lY alp am0
theorem alr:∀p∈Rn,dU Tryz.prog p.1 p.2:=lY alq am1
theorem als:∀p∈Ro,dU Tryz.prog p.1 p.2:=lY alr am2
theorem alu:∀p∈Rq,dU Tryz.prog p.1 p.2:=lY als am3
theorem alv:∀p∈Rt,dU Tryz.prog p.1 p.2:=lY alu am4
theorem alx:∀p∈Ru,dU Tryz.prog p.1 p.2:=lY alv am5
theorem aly:∀p∈Rw,dU Tryz.prog p.1 p.2:=lY alx am6
theorem alz:∀p∈Rx,dU Tryz.prog p.1 p.2:=lY aly am7
theorem alA:∀p∈Ry,dU Tryz.prog p.1 p.2:=lY alz am8
theorem alB:∀p∈Rz,dU Tryz.prog p.1 p.2:=lY alA am9
theorem alC:∀p∈RD,dU Tryz.prog p.1 p.2:=lY alB ana
theorem alD:∀p∈RF,dU Tryz.prog p.1 p.2:=lY alC anb
theorem JC:∀p∈FU,dU Tryz.prog p.1 p.2:=lY alD ane
theorem alE:∀p∈AO,dU Tryz.prog p.1 p.2:=by
 intro p hp
 rcases List.mem_cons.1 hp with rfl | hp
 ·exact akK JC
 ·exact JC p hp
theorem acU:∀p∈RG,dU Tryz.prog p.1 p.2:=lY alE anf
theorem aun:∀p∈acV,dU Tryz.prog p.1 p.2:=lY acU adz
end Go.Proofs.YthgifdbaegpbpaaGreatDoor
