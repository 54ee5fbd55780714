/- Which closed calls are known: each list one longer than the one ahead. -/
import Derived.Test.YteenmipdepcibaaGreatDoorKRBase
namespace Go.Proofs.YteenmipdepcibaaGreatDoor
open Go.aN
noncomputable def Z9:W1:=closed 357::U5
noncomputable def aac:W1:=closed 355::Z9
noncomputable def aad:W1:=closed 353::aac
noncomputable def aae:W1:=closed 351::aad
noncomputable def aaf:W1:=closed 348::aae
noncomputable def aag:W1:=closed 342::aaf
noncomputable def aah:W1:=closed 340::aag
noncomputable def aai:W1:=closed 338::aah
noncomputable def aaj:W1:=closed 336::aai
noncomputable def aak:W1:=closed 329::aaj
noncomputable def aal:W1:=closed 312::aak
noncomputable def aam:W1:=closed 285::aal
noncomputable def aan:W1:=closed 279::aam
noncomputable def aao:W1:=closed 276::aan
noncomputable def aap:W1:=closed 274::aao
noncomputable def aaq:W1:=closed 272::aap
noncomputable def PD:W1:=closed 268::aaq
def agY:AV:=.ro [.s [97,108,108,111,119,101,100],.s [98,97,115,101],.s [99,104,111,115,101,110],.s [99,111,100,101],.s [99,111,115,116],.s [100,101,97,100,108,105,110,101],.s [100,101,115,99,114],.s [100,105,103,101,115,116],.s [101,112,111,99,104],.s [102,108,97,103,115],.s [105,100],.s [108,97,103],.s [109,97,120],.s [109,105,110],.s [110,97,109,101],.s [110,111,116,101],.s [112,114,105,111,114,105,116,121],.s [114,101,103,105,111,110],.s [114,101,109,97,105,110,105,110,103],.s [114,101,116,114,121],.s [116,97,98,108,101],.s [119,97,110,116]]
def ZF:Q3->Option AV|[]=>some agY|_=>none
noncomputable def I7:W1:=(144,λargs J=>(ZF args).map (·,J))::PD
noncomputable def aar:W1:=closed 266::I7
noncomputable def aas:W1:=closed 264::aar
noncomputable def aat:W1:=closed 260::aas
noncomputable def aau:W1:=closed 258::aat
noncomputable def aav:W1:=closed 253::aau
noncomputable def aaw:W1:=closed 215::aav
noncomputable def aax:W1:=closed 157::aaw
noncomputable def aay:W1:=closed 92::aax
noncomputable def aaz:W1:=closed 36::aay
noncomputable def avD:W1:=closed 4::aaz
