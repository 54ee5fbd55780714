/- The examples of all chapters are one step each. -/
import Derived.Test.YtlifdeocdbjalaaGreatDoorKAw01
import Derived.Test.YtlifdeocdbjalaaGreatDoorKAw11
import Derived.Test.YtlifdeocdbjalaaGreatDoorKAw13
import Derived.Test.YtlifdeocdbjalaaGreatDoorKAw16
import Derived.Test.YtlifdeocdbjalaaGreatDoorKNames
import Derived.Test.YtlifdeocdbjalaaGreatDoorKAw18
import Derived.Test.YtlifdeocdbjalaaGreatDoorKAw19
import Derived.Test.YtlifdeocdbjalaaGreatDoorKAw20
import Derived.Test.YtlifdeocdbjalaaGreatDoorKAw21
import Derived.Test.YtlifdeocdbjalaaGreatDoorKAw22
import Derived.Test.YtlifdeocdbjalaaGreatDoorKAw23
import Derived.Test.YtlifdeocdbjalaaGreatDoorKAw24
import Derived.Test.YtlifdeocdbjalaaGreatDoorKAw25
namespace Go.Proofs.YtlifdeocdbjalaaGreatDoor
open Go.aN
theorem ak3:∀p∈Qj,dA Tryz.prog p.1 p.2:=je alu amN
theorem ak4:∀p∈Qk,dA Tryz.prog p.1 p.2:=je ak3 amO
theorem ak5:∀p∈Ql,dA Tryz.prog p.1 p.2:=je ak4 amP
theorem ak6:∀p∈Qm,dA Tryz.prog p.1 p.2:=je ak5 amQ
theorem ak7:∀p∈Qn,dA Tryz.prog p.1 p.2:=je ak6 amR
theorem ak8:∀p∈Qo,dA Tryz.prog p.1 p.2:=je ak7 amS
theorem ak9:∀p∈Qp,dA Tryz.prog p.1 p.2:=je ak8 amT
theorem ala:∀p∈Qq,dA Tryz.prog p.1 p.2:=je ak9 amU
theorem alb:∀p∈Qr,dA Tryz.prog p.1 p.2:=je ala amV
theorem alc:∀p∈Qs,dA Tryz.prog p.1 p.2:=je alb amW
theorem ald:∀p∈Qu,dA Tryz.prog p.1 p.2:=je alc amX
theorem ale:∀p∈Qv,dA Tryz.prog p.1 p.2:=je ald amY
theorem alf:∀p∈Qw,dA Tryz.prog p.1 p.2:=je ale amZ
theorem alg:∀p∈Qx,dA Tryz.prog p.1 p.2:=je alf am0
theorem alh:∀p∈Qy,dA Tryz.prog p.1 p.2:=je alg am1
theorem ali:∀p∈Qz,dA Tryz.prog p.1 p.2:=je alh am2
theorem QA:∀p∈Ji,dA Tryz.prog p.1 p.2:=je ali am3
theorem alr:∀p∈zG,dA Tryz.prog p.1 p.2:=by
 intro p hp
 rcases List.mem_cons.1 hp with rfl | hp
 ·exact akv QA
 ·exact QA p hp
theorem alj:∀p∈QB,dA Tryz.prog p.1 p.2:=je alr am4
theorem alk:∀p∈QC,dA Tryz.prog p.1 p.2:=je alj am5
theorem alm:∀p∈QD,dA Tryz.prog p.1 p.2:=je alk am6
theorem aln:∀p∈QE,dA Tryz.prog p.1 p.2:=je alm am7
theorem alo:∀p∈QF,dA Tryz.prog p.1 p.2:=je aln am8
theorem alp:∀p∈QG,dA Tryz.prog p.1 p.2:=je alo am9
theorem acQ:∀p∈QH,dA Tryz.prog p.1 p.2:=je alp ana
theorem avd:∀p∈alq,dA Tryz.prog p.1 p.2:=je acQ adr
end Go.Proofs.YtlifdeocdbjalaaGreatDoor
