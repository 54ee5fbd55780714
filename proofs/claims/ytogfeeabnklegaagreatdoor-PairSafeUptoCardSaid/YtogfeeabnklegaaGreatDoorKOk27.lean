/- The examples of all chapters are one step each. -/
import Derived.Test.YtogfeeabnklegaaGreatDoorKAw01
import Derived.Test.YtogfeeabnklegaaGreatDoorKNames
import Derived.Test.YtogfeeabnklegaaGreatDoorKAw18
import Derived.Test.YtogfeeabnklegaaGreatDoorKAw23
namespace Go.Proofs.YtogfeeabnklegaaGreatDoor
open Go.aP
theorem azg:∀p∈acD,fJ Tryz.prog p.1 p.2:=nO azP aBg
theorem azh:∀p∈acE,fJ Tryz.prog p.1 p.2:=nO azg aBh
theorem azi:∀p∈acF,fJ Tryz.prog p.1 p.2:=nO azh aBi
theorem azj:∀p∈acG,fJ Tryz.prog p.1 p.2:=nO azi aBj
theorem azk:∀p∈acH,fJ Tryz.prog p.1 p.2:=nO azj aBk
theorem azl:∀p∈acI,fJ Tryz.prog p.1 p.2:=nO azk aBl
theorem azm:∀p∈acJ,fJ Tryz.prog p.1 p.2:=nO azl aBm
theorem azn:∀p∈acK,fJ Tryz.prog p.1 p.2:=nO azm aBn
theorem azo:∀p∈acL,fJ Tryz.prog p.1 p.2:=nO azn aBo
theorem azp:∀p∈acM,fJ Tryz.prog p.1 p.2:=nO azo aBp
theorem azq:∀p∈acN,fJ Tryz.prog p.1 p.2:=nO azp aBq
theorem azr:∀p∈acO,fJ Tryz.prog p.1 p.2:=nO azq aBr
theorem azs:∀p∈acP,fJ Tryz.prog p.1 p.2:=nO azr aBs
theorem azt:∀p∈acQ,fJ Tryz.prog p.1 p.2:=nO azs aBt
theorem azu:∀p∈acR,fJ Tryz.prog p.1 p.2:=nO azt aBu
theorem azv:∀p∈acS,fJ Tryz.prog p.1 p.2:=nO azu aBv
theorem XK:∀p∈SN,fJ Tryz.prog p.1 p.2:=nO azv aBw
theorem azF:∀p∈Ls,fJ Tryz.prog p.1 p.2:=by
 intro p hp;rcases bI.1 hp with rfl|hp
 ·exact ayl XK
 ·exact XK p hp
theorem azw:∀p∈acT,fJ Tryz.prog p.1 p.2:=nO azF aBx
theorem azx:∀p∈acU,fJ Tryz.prog p.1 p.2:=nO azw aBy
theorem azy:∀p∈acV,fJ Tryz.prog p.1 p.2:=nO azx aBz
theorem azz:∀p∈acW,fJ Tryz.prog p.1 p.2:=nO azy aBA
theorem azA:∀p∈acX,fJ Tryz.prog p.1 p.2:=nO azz aBB
theorem azB:∀p∈acY,fJ Tryz.prog p.1 p.2:=nO azA aBC
theorem azC:∀p∈acZ,fJ Tryz.prog p.1 p.2:=nO azB aBD
theorem azD:∀p∈ac0,fJ Tryz.prog p.1 p.2:=nO azC aBE
theorem akq:∀p∈ac1,fJ Tryz.prog p.1 p.2:=nO azD aBF
theorem aIj:∀p∈azE,fJ Tryz.prog p.1 p.2:=nO akq alC
