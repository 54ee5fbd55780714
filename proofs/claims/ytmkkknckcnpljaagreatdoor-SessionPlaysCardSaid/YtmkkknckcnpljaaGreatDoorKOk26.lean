/- The examples of all chapters are one step each. -/
import Derived.Test.YtmkkknckcnpljaaGreatDoorKAw01
import Derived.Test.YtmkkknckcnpljaaGreatDoorKNames
import Derived.Test.YtmkkknckcnpljaaGreatDoorKAw18
import Derived.Test.YtmkkknckcnpljaaGreatDoorKAw23
namespace Go.Proofs.YtmkkknckcnpljaaGreatDoor
open Go.aO
theorem awI:∀p∈aaw,eY Tryz.prog p.1 p.2:=l7 axh ayP
theorem awJ:∀p∈aax,eY Tryz.prog p.1 p.2:=l7 awI ayQ
theorem awK:∀p∈aay,eY Tryz.prog p.1 p.2:=l7 awJ ayR
theorem awL:∀p∈aaz,eY Tryz.prog p.1 p.2:=l7 awK ayS
theorem awM:∀p∈aaA,eY Tryz.prog p.1 p.2:=l7 awL ayT
theorem awN:∀p∈aaB,eY Tryz.prog p.1 p.2:=l7 awM ayU
theorem awO:∀p∈aaC,eY Tryz.prog p.1 p.2:=l7 awN ayV
theorem awP:∀p∈aaD,eY Tryz.prog p.1 p.2:=l7 awO ayW
theorem awQ:∀p∈aaE,eY Tryz.prog p.1 p.2:=l7 awP ayX
theorem awR:∀p∈aaF,eY Tryz.prog p.1 p.2:=l7 awQ ayY
theorem awS:∀p∈aaG,eY Tryz.prog p.1 p.2:=l7 awR ayZ
theorem awT:∀p∈aaH,eY Tryz.prog p.1 p.2:=l7 awS ay0
theorem awU:∀p∈aaI,eY Tryz.prog p.1 p.2:=l7 awT ay1
theorem awV:∀p∈aaJ,eY Tryz.prog p.1 p.2:=l7 awU ay2
theorem awW:∀p∈aaK,eY Tryz.prog p.1 p.2:=l7 awV ay3
theorem awX:∀p∈aaL,eY Tryz.prog p.1 p.2:=l7 awW ay4
theorem aaM:∀p∈Vb,eY Tryz.prog p.1 p.2:=l7 awX ay5
theorem aw6:∀p∈Jq,eY Tryz.prog p.1 p.2:=by
 intro p hp;rcases bD.1 hp with rfl|hp
 ·exact avQ aaM
 ·exact aaM p hp
theorem awY:∀p∈aaN,eY Tryz.prog p.1 p.2:=l7 aw6 ay6
theorem awZ:∀p∈aaO,eY Tryz.prog p.1 p.2:=l7 awY ay7
theorem aw0:∀p∈aaP,eY Tryz.prog p.1 p.2:=l7 awZ ay8
theorem aw1:∀p∈aaQ,eY Tryz.prog p.1 p.2:=l7 aw0 ay9
theorem aw2:∀p∈aaR,eY Tryz.prog p.1 p.2:=l7 aw1 aza
theorem aw3:∀p∈aaS,eY Tryz.prog p.1 p.2:=l7 aw2 azb
theorem aw4:∀p∈aaT,eY Tryz.prog p.1 p.2:=l7 aw3 azc
theorem ahu:∀p∈aaU,eY Tryz.prog p.1 p.2:=l7 aw4 azd
theorem aFC:∀p∈aw5,eY Tryz.prog p.1 p.2:=l7 ahu aiY
