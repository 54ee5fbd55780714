/- Which closed calls are known: each list one longer than the one ahead. -/
import Derived.Test.YtcnekfnipdihgaaGreatDoorKRBase
namespace Go.Proofs.YtcnekfnipdihgaaGreatDoor
open Go.aP
noncomputable def acs:W4:=closed 455::XK
noncomputable def acu:W4:=closed 453::acs
noncomputable def acv:W4:=closed 451::acu
noncomputable def acw:W4:=closed 449::acv
noncomputable def acy:W4:=closed 446::acw
noncomputable def acz:W4:=closed 440::acy
noncomputable def acA:W4:=closed 438::acz
noncomputable def acB:W4:=closed 436::acA
noncomputable def acC:W4:=closed 434::acB
noncomputable def acD:W4:=closed 427::acC
noncomputable def acE:W4:=closed 416::acD
noncomputable def acF:W4:=closed 407::acE
noncomputable def acG:W4:=closed 403::acF
noncomputable def acH:W4:=closed 398::acG
noncomputable def acI:W4:=closed 391::acH
noncomputable def acJ:W4:=closed 333::acI
noncomputable def SG:W4:=closed 261::acJ
def ajM:AV:=.ro [.s [97,108,108,111,119,101,100],.s [98,97,115,101],.s [99,104,111,115,101,110],.s [99,111,100,101],.s [99,111,115,116],.s [100,101,97,100,108,105,110,101],.s [100,101,115,99,114],.s [100,105,103,101,115,116],.s [101,112,111,99,104],.s [102,108,97,103,115],.s [105,100],.s [108,97,103],.s [109,97,120],.s [109,105,110],.s [110,97,109,101],.s [110,111,116,101],.s [112,114,105,111,114,105,116,121],.s [114,101,103,105,111,110],.s [114,101,109,97,105,110,105,110,103],.s [114,101,116,114,121],.s [116,97,98,108,101],.s [119,97,110,116]]
def abT:Q6->Option AV|[]=>some ajM|_=>none
noncomputable def KP:W4:=(195,λargs J=>(abT args).map (·,J))::SG
noncomputable def acK:W4:=closed 179::KP
noncomputable def acL:W4:=closed 124::acK
noncomputable def acM:W4:=closed 76::acL
noncomputable def acN:W4:=closed 412::acM
noncomputable def acO:W4:=closed 406::acN
noncomputable def acP:W4:=closed 402::acO
noncomputable def acQ:W4:=closed 397::acP
noncomputable def acR:W4:=closed 389::acQ
noncomputable def acS:W4:=closed 312::acR
noncomputable def acT:W4:=closed 234::acS
noncomputable def acU:W4:=closed 151::acT
noncomputable def acV:W4:=closed 104::acU
noncomputable def acW:W4:=closed 38::acV
noncomputable def azs:W4:=closed 4::acW
