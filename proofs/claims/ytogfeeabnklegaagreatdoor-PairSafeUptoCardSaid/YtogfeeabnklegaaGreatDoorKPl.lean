/- Which closed calls are known: each list one longer than the one ahead. -/
import Derived.Test.YtogfeeabnklegaaGreatDoorKRBase
namespace Go.Proofs.YtogfeeabnklegaaGreatDoor
open Go.aP
noncomputable def acD:W4:=closed 360::XP
noncomputable def acE:W4:=closed 358::acD
noncomputable def acF:W4:=closed 356::acE
noncomputable def acG:W4:=closed 354::acF
noncomputable def acH:W4:=closed 351::acG
noncomputable def acI:W4:=closed 345::acH
noncomputable def acJ:W4:=closed 343::acI
noncomputable def acK:W4:=closed 341::acJ
noncomputable def acL:W4:=closed 339::acK
noncomputable def acM:W4:=closed 332::acL
noncomputable def acN:W4:=closed 315::acM
noncomputable def acO:W4:=closed 288::acN
noncomputable def acP:W4:=closed 282::acO
noncomputable def acQ:W4:=closed 279::acP
noncomputable def acR:W4:=closed 277::acQ
noncomputable def acS:W4:=closed 275::acR
noncomputable def SN:W4:=closed 271::acS
def ajS:AV:=.ro [.s [97,108,108,111,119,101,100],.s [98,97,115,101],.s [99,104,111,115,101,110],.s [99,111,100,101],.s [99,111,115,116],.s [100,101,97,100,108,105,110,101],.s [100,101,115,99,114],.s [100,105,103,101,115,116],.s [101,112,111,99,104],.s [102,108,97,103,115],.s [105,100],.s [108,97,103],.s [109,97,120],.s [109,105,110],.s [110,97,109,101],.s [110,111,116,101],.s [112,114,105,111,114,105,116,121],.s [114,101,103,105,111,110],.s [114,101,109,97,105,110,105,110,103],.s [114,101,116,114,121],.s [116,97,98,108,101],.s [119,97,110,116]]
def abZ:Q3->Option AV|[]=>some ajS|_=>none
noncomputable def Ls:W4:=(158,λargs J=>(abZ args).map (·,J))::SN
noncomputable def acT:W4:=closed 269::Ls
noncomputable def acU:W4:=closed 267::acT
noncomputable def acV:W4:=closed 263::acU
noncomputable def acW:W4:=closed 261::acV
noncomputable def acX:W4:=closed 256::acW
noncomputable def acY:W4:=closed 218::acX
noncomputable def acZ:W4:=closed 169::acY
noncomputable def ac0:W4:=closed 109::acZ
noncomputable def ac1:W4:=closed 47::ac0
noncomputable def azE:W4:=closed 4::ac1
