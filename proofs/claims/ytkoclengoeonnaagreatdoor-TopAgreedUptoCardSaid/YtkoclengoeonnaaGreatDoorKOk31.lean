/- The examples of all chapters are one step each. -/
import Derived.Test.YtkoclengoeonnaaGreatDoorKAw01
import Derived.Test.YtkoclengoeonnaaGreatDoorKNames
import Derived.Test.YtkoclengoeonnaaGreatDoorKAw18
import Derived.Test.YtkoclengoeonnaaGreatDoorKAw23
namespace Go.Proofs.YtkoclengoeonnaaGreatDoor
open Go.aP
theorem av5:∀p∈aaO,dK Tryz.prog p.1 p.2:=jZ awO axL
theorem av6:∀p∈aaP,dK Tryz.prog p.1 p.2:=jZ av5 axM
theorem av7:∀p∈aaQ,dK Tryz.prog p.1 p.2:=jZ av6 axN
theorem av8:∀p∈aaR,dK Tryz.prog p.1 p.2:=jZ av7 axO
theorem av9:∀p∈aaS,dK Tryz.prog p.1 p.2:=jZ av8 axP
theorem awc:∀p∈aaT,dK Tryz.prog p.1 p.2:=jZ av9 axQ
theorem awd:∀p∈aaU,dK Tryz.prog p.1 p.2:=jZ awc axR
theorem awe:∀p∈aaV,dK Tryz.prog p.1 p.2:=jZ awd axS
theorem awf:∀p∈aaW,dK Tryz.prog p.1 p.2:=jZ awe axT
theorem awg:∀p∈aaX,dK Tryz.prog p.1 p.2:=jZ awf axU
theorem awh:∀p∈aaY,dK Tryz.prog p.1 p.2:=jZ awg axV
theorem awi:∀p∈aaZ,dK Tryz.prog p.1 p.2:=jZ awh axW
theorem awj:∀p∈aa0,dK Tryz.prog p.1 p.2:=jZ awi axX
theorem awk:∀p∈aa1,dK Tryz.prog p.1 p.2:=jZ awj axY
theorem awl:∀p∈aa2,dK Tryz.prog p.1 p.2:=jZ awk axZ
theorem awm:∀p∈aa3,dK Tryz.prog p.1 p.2:=jZ awl ax0
theorem VF:∀p∈Qp,dK Tryz.prog p.1 p.2:=jZ awm ax1
theorem awC:∀p∈JD,dK Tryz.prog p.1 p.2:=by
 intro p hp;rcases bJ.1 hp with rfl|hp
 ·exact au2 VF
 ·exact VF p hp
theorem awn:∀p∈aa4,dK Tryz.prog p.1 p.2:=jZ awC ax2
theorem awo:∀p∈aa5,dK Tryz.prog p.1 p.2:=jZ awn ax3
theorem awp:∀p∈aa6,dK Tryz.prog p.1 p.2:=jZ awo ax4
theorem awq:∀p∈aa7,dK Tryz.prog p.1 p.2:=jZ awp ax5
theorem awr:∀p∈aa8,dK Tryz.prog p.1 p.2:=jZ awq ax6
theorem aws:∀p∈aa9,dK Tryz.prog p.1 p.2:=jZ awr ax7
theorem awt:∀p∈abb,dK Tryz.prog p.1 p.2:=jZ aws ax8
theorem awu:∀p∈abd,dK Tryz.prog p.1 p.2:=jZ awt ax9
theorem awv:∀p∈abe,dK Tryz.prog p.1 p.2:=jZ awu aya
theorem aww:∀p∈abf,dK Tryz.prog p.1 p.2:=jZ awv ayb
theorem awx:∀p∈abg,dK Tryz.prog p.1 p.2:=jZ aww ayc
theorem awy:∀p∈abh,dK Tryz.prog p.1 p.2:=jZ awx ayd
theorem aii:∀p∈abj,dK Tryz.prog p.1 p.2:=jZ awy aye
theorem aED:∀p∈awz,dK Tryz.prog p.1 p.2:=jZ aii ai7
