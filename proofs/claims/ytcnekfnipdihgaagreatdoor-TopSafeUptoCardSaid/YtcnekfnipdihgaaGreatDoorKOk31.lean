/- The examples of all chapters are one step each. -/
import Derived.Test.YtcnekfnipdihgaaGreatDoorKAw01
import Derived.Test.YtcnekfnipdihgaaGreatDoorKNames
import Derived.Test.YtcnekfnipdihgaaGreatDoorKAw18
import Derived.Test.YtcnekfnipdihgaaGreatDoorKAw23
namespace Go.Proofs.YtcnekfnipdihgaaGreatDoor
open Go.aP
theorem ay0:∀p∈acs,dP Tryz.prog p.1 p.2:=kZ azG aAV
theorem ay1:∀p∈acu,dP Tryz.prog p.1 p.2:=kZ ay0 aAW
theorem ay2:∀p∈acv,dP Tryz.prog p.1 p.2:=kZ ay1 aAX
theorem ay3:∀p∈acw,dP Tryz.prog p.1 p.2:=kZ ay2 aAY
theorem ay4:∀p∈acy,dP Tryz.prog p.1 p.2:=kZ ay3 aAZ
theorem ay5:∀p∈acz,dP Tryz.prog p.1 p.2:=kZ ay4 aA0
theorem ay6:∀p∈acA,dP Tryz.prog p.1 p.2:=kZ ay5 aA1
theorem ay7:∀p∈acB,dP Tryz.prog p.1 p.2:=kZ ay6 aA2
theorem ay8:∀p∈acC,dP Tryz.prog p.1 p.2:=kZ ay7 aA3
theorem ay9:∀p∈acD,dP Tryz.prog p.1 p.2:=kZ ay8 aA4
theorem aza:∀p∈acE,dP Tryz.prog p.1 p.2:=kZ ay9 aA5
theorem azb:∀p∈acF,dP Tryz.prog p.1 p.2:=kZ aza aA6
theorem azc:∀p∈acG,dP Tryz.prog p.1 p.2:=kZ azb aA7
theorem azd:∀p∈acH,dP Tryz.prog p.1 p.2:=kZ azc aA8
theorem aze:∀p∈acI,dP Tryz.prog p.1 p.2:=kZ azd aA9
theorem azf:∀p∈acJ,dP Tryz.prog p.1 p.2:=kZ aze aBa
theorem XG:∀p∈SG,dP Tryz.prog p.1 p.2:=kZ azf aBb
theorem azt:∀p∈KP,dP Tryz.prog p.1 p.2:=by
 intro p hp;rcases bJ.1 hp with rfl|hp
 ·exact ax0 XG
 ·exact XG p hp
theorem azg:∀p∈acK,dP Tryz.prog p.1 p.2:=kZ azt aBd
theorem azh:∀p∈acL,dP Tryz.prog p.1 p.2:=kZ azg aBe
theorem azi:∀p∈acM,dP Tryz.prog p.1 p.2:=kZ azh aBf
theorem azj:∀p∈acN,dP Tryz.prog p.1 p.2:=kZ azi aBg
theorem azk:∀p∈acO,dP Tryz.prog p.1 p.2:=kZ azj aBh
theorem azl:∀p∈acP,dP Tryz.prog p.1 p.2:=kZ azk aBi
theorem azm:∀p∈acQ,dP Tryz.prog p.1 p.2:=kZ azl aBj
theorem azn:∀p∈acR,dP Tryz.prog p.1 p.2:=kZ azm aBk
theorem azo:∀p∈acS,dP Tryz.prog p.1 p.2:=kZ azn aBl
theorem azp:∀p∈acT,dP Tryz.prog p.1 p.2:=kZ azo aBm
theorem azq:∀p∈acU,dP Tryz.prog p.1 p.2:=kZ azp aBn
theorem azr:∀p∈acV,dP Tryz.prog p.1 p.2:=kZ azq aBo
theorem akk:∀p∈acW,dP Tryz.prog p.1 p.2:=kZ azr aBp
theorem aIa:∀p∈azs,dP Tryz.prog p.1 p.2:=kZ akk alj
