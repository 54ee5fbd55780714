/- Which closed calls are known: each list one longer than the one ahead. -/
import Derived.Test.YtmkkknckcnpljaaGreatDoorKRBase
namespace Go.Proofs.YtmkkknckcnpljaaGreatDoor
open Go.aO
noncomputable def aaw:W1:=closed 414::Vg
noncomputable def aax:W1:=closed 412::aaw
noncomputable def aay:W1:=closed 409::aax
noncomputable def aaz:W1:=closed 404::aay
noncomputable def aaA:W1:=closed 394::aaz
noncomputable def aaB:W1:=closed 388::aaA
noncomputable def aaC:W1:=closed 386::aaB
noncomputable def aaD:W1:=closed 384::aaC
noncomputable def aaE:W1:=closed 382::aaD
noncomputable def aaF:W1:=closed 375::aaE
noncomputable def aaG:W1:=closed 358::aaF
noncomputable def aaH:W1:=closed 331::aaG
noncomputable def aaI:W1:=closed 325::aaH
noncomputable def aaJ:W1:=closed 322::aaI
noncomputable def aaK:W1:=closed 320::aaJ
noncomputable def aaL:W1:=closed 318::aaK
noncomputable def Vb:W1:=closed 314::aaL
def ag7:AV:=.ro [.s [97,108,108,111,119,101,100],.s [98,97,115,101],.s [99,104,111,115,101,110],.s [99,111,100,101],.s [99,111,115,116],.s [100,101,97,100,108,105,110,101],.s [100,101,115,99,114],.s [100,105,103,101,115,116],.s [101,112,111,99,104],.s [102,108,97,103,115],.s [105,100],.s [108,97,103],.s [109,97,120],.s [109,105,110],.s [110,97,109,101],.s [110,111,116,101],.s [112,114,105,111,114,105,116,121],.s [114,101,103,105,111,110],.s [114,101,109,97,105,110,105,110,103],.s [114,101,116,114,121],.s [116,97,98,108,101],.s [119,97,110,116]]
def Z7:Q3->Option AV|[]=>some ag7|_=>none
noncomputable def Jq:W1:=(126,λargs J=>(Z7 args).map (·,J))::Vb
noncomputable def aaN:W1:=closed 312::Jq
noncomputable def aaO:W1:=closed 310::aaN
noncomputable def aaP:W1:=closed 305::aaO
noncomputable def aaQ:W1:=closed 297::aaP
noncomputable def aaR:W1:=closed 282::aaQ
noncomputable def aaS:W1:=closed 238::aaR
noncomputable def aaT:W1:=closed 155::aaS
noncomputable def aaU:W1:=closed 55::aaT
noncomputable def aw5:W1:=closed 4::aaU
