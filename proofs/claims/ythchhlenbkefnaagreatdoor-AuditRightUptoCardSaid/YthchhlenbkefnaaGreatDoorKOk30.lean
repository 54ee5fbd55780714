/- The examples of all chapters are one step each. -/
import Derived.Test.YthchhlenbkefnaaGreatDoorKAw01
import Derived.Test.YthchhlenbkefnaaGreatDoorKNames
import Derived.Test.YthchhlenbkefnaaGreatDoorKAw18
import Derived.Test.YthchhlenbkefnaaGreatDoorKAw23
namespace Go.Proofs.YthchhlenbkefnaaGreatDoor
open Go.aN
theorem ay3:∀p∈abQ,dO Tryz.prog p.1 p.2:=kZ azI aAY
theorem ay4:∀p∈abR,dO Tryz.prog p.1 p.2:=kZ ay3 aAZ
theorem ay5:∀p∈abS,dO Tryz.prog p.1 p.2:=kZ ay4 aA0
theorem ay6:∀p∈abT,dO Tryz.prog p.1 p.2:=kZ ay5 aA1
theorem ay7:∀p∈abU,dO Tryz.prog p.1 p.2:=kZ ay6 aA2
theorem ay8:∀p∈abV,dO Tryz.prog p.1 p.2:=kZ ay7 aA3
theorem ay9:∀p∈abW,dO Tryz.prog p.1 p.2:=kZ ay8 aA4
theorem aza:∀p∈abX,dO Tryz.prog p.1 p.2:=kZ ay9 aA5
theorem azb:∀p∈abY,dO Tryz.prog p.1 p.2:=kZ aza aA6
theorem azc:∀p∈abZ,dO Tryz.prog p.1 p.2:=kZ azb aA7
theorem azd:∀p∈ab1,dO Tryz.prog p.1 p.2:=kZ azc aA8
theorem aze:∀p∈ab2,dO Tryz.prog p.1 p.2:=kZ azd aA9
theorem azf:∀p∈ab3,dO Tryz.prog p.1 p.2:=kZ aze aBa
theorem azg:∀p∈ab4,dO Tryz.prog p.1 p.2:=kZ azf aBb
theorem azh:∀p∈ab5,dO Tryz.prog p.1 p.2:=kZ azg aBd
theorem azi:∀p∈ab6,dO Tryz.prog p.1 p.2:=kZ azh aBe
theorem WZ:∀p∈Rl,dO Tryz.prog p.1 p.2:=kZ azi aBf
theorem azv:∀p∈KA,dO Tryz.prog p.1 p.2:=by
 intro p hp;rcases bH.1 hp with rfl|hp
 ·exact ax2 WZ
 ·exact WZ p hp
theorem azj:∀p∈ab7,dO Tryz.prog p.1 p.2:=kZ azv aBg
theorem azk:∀p∈ab8,dO Tryz.prog p.1 p.2:=kZ azj aBh
theorem azl:∀p∈ab9,dO Tryz.prog p.1 p.2:=kZ azk aBi
theorem azm:∀p∈acd,dO Tryz.prog p.1 p.2:=kZ azl aBj
theorem azn:∀p∈ace,dO Tryz.prog p.1 p.2:=kZ azm aBk
theorem azo:∀p∈acf,dO Tryz.prog p.1 p.2:=kZ azn aBl
theorem azp:∀p∈acg,dO Tryz.prog p.1 p.2:=kZ azo aBm
theorem azq:∀p∈ach,dO Tryz.prog p.1 p.2:=kZ azp aBn
theorem azr:∀p∈aci,dO Tryz.prog p.1 p.2:=kZ azq aBo
theorem azs:∀p∈acj,dO Tryz.prog p.1 p.2:=kZ azr aBp
theorem azt:∀p∈acn,dO Tryz.prog p.1 p.2:=kZ azs aBq
theorem ajK:∀p∈aco,dO Tryz.prog p.1 p.2:=kZ azt aBr
theorem aIl:∀p∈azu,dO Tryz.prog p.1 p.2:=kZ ajK akM
