/- The examples of all chapters are one step each. -/
import Derived.Test.YteenmipdepcibaaGreatDoorKAw01
import Derived.Test.YteenmipdepcibaaGreatDoorKNames
import Derived.Test.YteenmipdepcibaaGreatDoorKAw18
import Derived.Test.YteenmipdepcibaaGreatDoorKAw23
namespace Go.Proofs.YteenmipdepcibaaGreatDoor
open Go.aN
theorem ave:∀p∈Z9,dN Tryz.prog p.1 p.2:=kZ avO awT
theorem avf:∀p∈aac,dN Tryz.prog p.1 p.2:=kZ ave awU
theorem avg:∀p∈aad,dN Tryz.prog p.1 p.2:=kZ avf awV
theorem avh:∀p∈aae,dN Tryz.prog p.1 p.2:=kZ avg awW
theorem avi:∀p∈aaf,dN Tryz.prog p.1 p.2:=kZ avh awX
theorem avj:∀p∈aag,dN Tryz.prog p.1 p.2:=kZ avi awY
theorem avk:∀p∈aah,dN Tryz.prog p.1 p.2:=kZ avj awZ
theorem avl:∀p∈aai,dN Tryz.prog p.1 p.2:=kZ avk aw0
theorem avm:∀p∈aaj,dN Tryz.prog p.1 p.2:=kZ avl aw1
theorem avn:∀p∈aak,dN Tryz.prog p.1 p.2:=kZ avm aw2
theorem avo:∀p∈aal,dN Tryz.prog p.1 p.2:=kZ avn aw3
theorem avp:∀p∈aam,dN Tryz.prog p.1 p.2:=kZ avo aw4
theorem avq:∀p∈aan,dN Tryz.prog p.1 p.2:=kZ avp aw5
theorem avr:∀p∈aao,dN Tryz.prog p.1 p.2:=kZ avq aw6
theorem avs:∀p∈aap,dN Tryz.prog p.1 p.2:=kZ avr aw7
theorem avt:∀p∈aaq,dN Tryz.prog p.1 p.2:=kZ avs aw8
theorem U1:∀p∈PD,dN Tryz.prog p.1 p.2:=kZ avt aw9
theorem avE:∀p∈I7,dN Tryz.prog p.1 p.2:=by
 intro p hp;rcases bG.1 hp with rfl|hp
 ·exact auk U1
 ·exact U1 p hp
theorem avu:∀p∈aar,dN Tryz.prog p.1 p.2:=kZ avE axa
theorem avv:∀p∈aas,dN Tryz.prog p.1 p.2:=kZ avu axb
theorem avw:∀p∈aat,dN Tryz.prog p.1 p.2:=kZ avv axc
theorem avx:∀p∈aau,dN Tryz.prog p.1 p.2:=kZ avw axd
theorem avy:∀p∈aav,dN Tryz.prog p.1 p.2:=kZ avx axe
theorem avz:∀p∈aaw,dN Tryz.prog p.1 p.2:=kZ avy axf
theorem avA:∀p∈aax,dN Tryz.prog p.1 p.2:=kZ avz axg
theorem avC:∀p∈aay,dN Tryz.prog p.1 p.2:=kZ avA axh
theorem ahn:∀p∈aaz,dN Tryz.prog p.1 p.2:=kZ avC axi
theorem aDx:∀p∈avD,dN Tryz.prog p.1 p.2:=kZ ahn aif
