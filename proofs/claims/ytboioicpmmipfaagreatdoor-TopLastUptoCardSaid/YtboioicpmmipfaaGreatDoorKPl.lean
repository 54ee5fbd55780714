/- Which closed calls are known: each list one longer than the one ahead. -/
import Derived.Test.YtboioicpmmipfaaGreatDoorKRBase
namespace Go.Proofs.YtboioicpmmipfaaGreatDoor
open Go.aP
noncomputable def acH:W3:=closed 453::XQ
noncomputable def acI:W3:=closed 451::acH
noncomputable def acJ:W3:=closed 449::acI
noncomputable def acK:W3:=closed 447::acJ
noncomputable def acL:W3:=closed 444::acK
noncomputable def acM:W3:=closed 438::acL
noncomputable def acN:W3:=closed 436::acM
noncomputable def acO:W3:=closed 434::acN
noncomputable def acP:W3:=closed 432::acO
noncomputable def acQ:W3:=closed 425::acP
noncomputable def acR:W3:=closed 414::acQ
noncomputable def acS:W3:=closed 406::acR
noncomputable def acT:W3:=closed 402::acS
noncomputable def acU:W3:=closed 397::acT
noncomputable def acV:W3:=closed 390::acU
noncomputable def acW:W3:=closed 338::acV
noncomputable def SH:W3:=closed 278::acW
def akf:AV:=.ro [.s [97,108,108,111,119,101,100],.s [98,97,115,101],.s [99,104,111,115,101,110],.s [99,111,100,101],.s [99,111,115,116],.s [100,101,97,100,108,105,110,101],.s [100,101,115,99,114],.s [100,105,103,101,115,116],.s [101,112,111,99,104],.s [102,108,97,103,115],.s [105,100],.s [108,97,103],.s [109,97,120],.s [109,105,110],.s [110,97,109,101],.s [110,111,116,101],.s [112,114,105,111,114,105,116,121],.s [114,101,103,105,111,110],.s [114,101,109,97,105,110,105,110,103],.s [114,101,116,114,121],.s [116,97,98,108,101],.s [119,97,110,116]]
def ab2:Q3->Option AV|[]=>some akf|_=>none
noncomputable def Lr:W3:=(185,λargs F=>(ab2 args).map (·,F))::SH
noncomputable def acX:W3:=closed 206::Lr
noncomputable def acY:W3:=closed 127::acX
noncomputable def acZ:W3:=closed 67::acY
noncomputable def ac0:W3:=closed 410::acZ
noncomputable def ac1:W3:=closed 405::ac0
noncomputable def ac2:W3:=closed 401::ac1
noncomputable def ac3:W3:=closed 396::ac2
noncomputable def ac4:W3:=closed 389::ac3
noncomputable def ac5:W3:=closed 331::ac4
noncomputable def ac6:W3:=closed 259::ac5
noncomputable def ac7:W3:=closed 174::ac6
noncomputable def ac8:W3:=closed 97::ac7
noncomputable def ac9:W3:=closed 38::ac8
noncomputable def aAs:W3:=closed 4::ac9
