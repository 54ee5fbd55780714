/- The examples of all chapters are one step each. -/
import Derived.Test.YtaggjpipnjmleaaGreatDoorKAw01
import Derived.Test.YtaggjpipnjmleaaGreatDoorKAw11
import Derived.Test.YtaggjpipnjmleaaGreatDoorKAw13
import Derived.Test.YtaggjpipnjmleaaGreatDoorKAw16
import Derived.Test.YtaggjpipnjmleaaGreatDoorKNames
import Derived.Test.YtaggjpipnjmleaaGreatDoorKAw18
import Derived.Test.YtaggjpipnjmleaaGreatDoorKAw19
import Derived.Test.YtaggjpipnjmleaaGreatDoorKAw20
namespace Go.Proofs.YtaggjpipnjmleaaGreatDoor
open Go.aJ
theorem anf:∀p∈V8,eH Tryz.prog p.1 p.2:=nG an2 apr
theorem ang:∀p∈V9,eH Tryz.prog p.1 p.2:=nG anf aps
theorem anh:∀p∈Wh,eH Tryz.prog p.1 p.2:=nG ang apt
theorem ani:∀p∈Wi,eH Tryz.prog p.1 p.2:=nG anh apu
theorem anj:∀p∈Wj,eH Tryz.prog p.1 p.2:=nG ani apv
theorem ank:∀p∈Wl,eH Tryz.prog p.1 p.2:=nG anj apw
theorem anl:∀p∈Wn,eH Tryz.prog p.1 p.2:=nG ank apx
theorem anm:∀p∈Wp,eH Tryz.prog p.1 p.2:=nG anl apy
theorem ano:∀p∈Wq,eH Tryz.prog p.1 p.2:=nG anm apz
theorem anp:∀p∈Ws,eH Tryz.prog p.1 p.2:=nG ano apA
theorem anq:∀p∈Wu,eH Tryz.prog p.1 p.2:=nG anp apB
theorem anr:∀p∈Wv,eH Tryz.prog p.1 p.2:=nG anq apC
theorem ant:∀p∈Wx,eH Tryz.prog p.1 p.2:=nG anr apD
theorem anu:∀p∈Wy,eH Tryz.prog p.1 p.2:=nG ant apE
theorem anv:∀p∈WA,eH Tryz.prog p.1 p.2:=nG anu apF
theorem anw:∀p∈WB,eH Tryz.prog p.1 p.2:=nG anv apG
theorem WC:∀p∈P7,eH Tryz.prog p.1 p.2:=nG anw apH
theorem anA:∀p∈EH,eH Tryz.prog p.1 p.2:=by
 intro p hp;rcases dO.1 hp with rfl | hp
 ·exact amy WC
 ·exact WC p hp
theorem anx:∀p∈WE,eH Tryz.prog p.1 p.2:=nG anA apI
theorem ac4:∀p∈WG,eH Tryz.prog p.1 p.2:=nG anx apJ
theorem avc:∀p∈anz,eH Tryz.prog p.1 p.2:=nG ac4 ad3
end Go.Proofs.YtaggjpipnjmleaaGreatDoor
