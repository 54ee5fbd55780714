/- The examples of all chapters are one step each. -/
import Derived.Test.YtboioicpmmipfaaGreatDoorKAw01
import Derived.Test.YtboioicpmmipfaaGreatDoorKNames
import Derived.Test.YtboioicpmmipfaaGreatDoorKAw18
import Derived.Test.YtboioicpmmipfaaGreatDoorKAw23
namespace Go.Proofs.YtboioicpmmipfaaGreatDoor
open Go.aP
theorem az0:∀p∈acH,eG Tryz.prog p.1 p.2:=lH aAF aB0
theorem az1:∀p∈acI,eG Tryz.prog p.1 p.2:=lH az0 aB1
theorem az2:∀p∈acJ,eG Tryz.prog p.1 p.2:=lH az1 aB2
theorem az3:∀p∈acK,eG Tryz.prog p.1 p.2:=lH az2 aB3
theorem az4:∀p∈acL,eG Tryz.prog p.1 p.2:=lH az3 aB4
theorem az5:∀p∈acM,eG Tryz.prog p.1 p.2:=lH az4 aB5
theorem az6:∀p∈acN,eG Tryz.prog p.1 p.2:=lH az5 aB6
theorem az7:∀p∈acO,eG Tryz.prog p.1 p.2:=lH az6 aB7
theorem az8:∀p∈acP,eG Tryz.prog p.1 p.2:=lH az7 aB8
theorem az9:∀p∈acQ,eG Tryz.prog p.1 p.2:=lH az8 aB9
theorem aAa:∀p∈acR,eG Tryz.prog p.1 p.2:=lH az9 aCa
theorem aAb:∀p∈acS,eG Tryz.prog p.1 p.2:=lH aAa aCb
theorem aAc:∀p∈acT,eG Tryz.prog p.1 p.2:=lH aAb aCc
theorem aAd:∀p∈acU,eG Tryz.prog p.1 p.2:=lH aAc aCd
theorem aAe:∀p∈acV,eG Tryz.prog p.1 p.2:=lH aAd aCe
theorem aAf:∀p∈acW,eG Tryz.prog p.1 p.2:=lH aAe aCf
theorem XL:∀p∈SH,eG Tryz.prog p.1 p.2:=lH aAf aCg
theorem aAt:∀p∈Lr,eG Tryz.prog p.1 p.2:=by
 intro p hp;rcases bH.1 hp with rfl|hp
 ·exact ay2 XL
 ·exact XL p hp
theorem aAg:∀p∈acX,eG Tryz.prog p.1 p.2:=lH aAt aCh
theorem aAh:∀p∈acY,eG Tryz.prog p.1 p.2:=lH aAg aCi
theorem aAi:∀p∈acZ,eG Tryz.prog p.1 p.2:=lH aAh aCj
theorem aAj:∀p∈ac0,eG Tryz.prog p.1 p.2:=lH aAi aCk
theorem aAk:∀p∈ac1,eG Tryz.prog p.1 p.2:=lH aAj aCl
theorem aAl:∀p∈ac2,eG Tryz.prog p.1 p.2:=lH aAk aCm
theorem aAm:∀p∈ac3,eG Tryz.prog p.1 p.2:=lH aAl aCn
theorem aAn:∀p∈ac4,eG Tryz.prog p.1 p.2:=lH aAm aCo
theorem aAo:∀p∈ac5,eG Tryz.prog p.1 p.2:=lH aAn aCp
theorem aAp:∀p∈ac6,eG Tryz.prog p.1 p.2:=lH aAo aCq
theorem aAq:∀p∈ac7,eG Tryz.prog p.1 p.2:=lH aAp aCr
theorem aAr:∀p∈ac8,eG Tryz.prog p.1 p.2:=lH aAq aCs
theorem akJ:∀p∈ac9,eG Tryz.prog p.1 p.2:=lH aAr aCt
theorem aJj:∀p∈aAs,eG Tryz.prog p.1 p.2:=lH akJ alQ
