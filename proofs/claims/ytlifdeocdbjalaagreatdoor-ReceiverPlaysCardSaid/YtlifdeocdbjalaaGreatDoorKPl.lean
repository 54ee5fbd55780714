/- Which closed calls are known: each list one longer than the one ahead. -/
import Derived.Test.YtlifdeocdbjalaaGreatDoorKRBase
import Derived.Test.YtlifdeocdbjalaaGreatDoorAbsH
namespace Go.Proofs.YtlifdeocdbjalaaGreatDoor
open Go.aN
noncomputable def Qj:List (FuncId×dD):=closed 362::Jj
noncomputable def Qk:List (FuncId×dD):=closed 360::Qj
noncomputable def Ql:List (FuncId×dD):=closed 357::Qk
noncomputable def Qm:List (FuncId×dD):=closed 352::Ql
noncomputable def Qn:List (FuncId×dD):=closed 342::Qm
noncomputable def Qo:List (FuncId×dD):=closed 336::Qn
noncomputable def Qp:List (FuncId×dD):=closed 334::Qo
noncomputable def Qq:List (FuncId×dD):=closed 332::Qp
noncomputable def Qr:List (FuncId×dD):=closed 330::Qq
noncomputable def Qs:List (FuncId×dD):=closed 323::Qr
noncomputable def Qu:List (FuncId×dD):=closed 306::Qs
noncomputable def Qv:List (FuncId×dD):=closed 279::Qu
noncomputable def Qw:List (FuncId×dD):=closed 273::Qv
noncomputable def Qx:List (FuncId×dD):=closed 270::Qw
noncomputable def Qy:List (FuncId×dD):=closed 268::Qx
noncomputable def Qz:List (FuncId×dD):=closed 261::Qy
noncomputable def Ji:List (FuncId×dD):=closed 232::Qz
/-- What message.Names answers. -/
def acz:AV:=.ro [.s [97,108,108,111,119,101,100],.s [98,97,115,101],.s [99,104,111,115,101,110],.s [99,111,100,101],.s [99,111,115,116],.s [100,101,97,100,108,105,110,101],.s [100,101,115,99,114],.s [100,105,103,101,115,116],.s [101,112,111,99,104],.s [102,108,97,103,115],.s [105,100],.s [108,97,103],.s [109,97,120],.s [109,105,110],.s [110,97,109,101],.s [110,111,116,101],.s [112,114,105,111,114,105,116,121],.s [114,101,103,105,111,110],.s [114,101,109,97,105,110,105,110,103],.s [114,101,116,114,121],.s [116,97,98,108,101],.s [119,97,110,116]]
def PN:List AV→Option AV | []=>some acz | _=>none
noncomputable def zG:List (FuncId×dD):=(60,fun args σ=>(PN args).map (·,σ))::Ji
noncomputable def QB:List (FuncId×dD):=closed 206::zG
noncomputable def QC:List (FuncId×dD):=closed 195::QB
noncomputable def QD:List (FuncId×dD):=closed 190::QC
noncomputable def QE:List (FuncId×dD):=closed 182::QD
noncomputable def QF:List (FuncId×dD):=closed 170::QE
noncomputable def QG:List (FuncId×dD):=closed 137::QF
noncomputable def QH:List (FuncId×dD):=closed 66::QG
noncomputable def alq:List (FuncId×dD):=closed 5::QH
end Go.Proofs.YtlifdeocdbjalaaGreatDoor
