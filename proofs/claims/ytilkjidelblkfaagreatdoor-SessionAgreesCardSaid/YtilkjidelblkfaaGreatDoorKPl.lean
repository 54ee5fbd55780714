/- Which closed calls are known: each list one longer than the one ahead. -/
import Derived.Test.YtilkjidelblkfaaGreatDoorKRBase
import Derived.Test.YtilkjidelblkfaaGreatDoorAbsH
namespace Go.Proofs.YtilkjidelblkfaaGreatDoor
open Go.aJ
noncomputable def Xr:List (FuncId×dR):=closed 345::Ri
noncomputable def Xt:List (FuncId×dR):=closed 343::Xr
noncomputable def Xu:List (FuncId×dR):=closed 341::Xt
noncomputable def Xv:List (FuncId×dR):=closed 339::Xu
noncomputable def Xw:List (FuncId×dR):=closed 336::Xv
noncomputable def Xx:List (FuncId×dR):=closed 330::Xw
noncomputable def Xy:List (FuncId×dR):=closed 328::Xx
noncomputable def Xz:List (FuncId×dR):=closed 326::Xy
noncomputable def XA:List (FuncId×dR):=closed 324::Xz
noncomputable def XB:List (FuncId×dR):=closed 317::XA
noncomputable def XC:List (FuncId×dR):=closed 300::XB
noncomputable def XD:List (FuncId×dR):=closed 273::XC
noncomputable def XE:List (FuncId×dR):=closed 267::XD
noncomputable def XF:List (FuncId×dR):=closed 264::XE
noncomputable def XG:List (FuncId×dR):=closed 262::XF
noncomputable def XH:List (FuncId×dR):=closed 260::XG
noncomputable def Rh:List (FuncId×dR):=closed 256::XH
/-- What message.Names answers. -/
def adN:AV:=.ro [.s [97,108,108,111,119,101,100],.s [98,97,115,101],.s [99,104,111,115,101,110],.s [99,111,100,101],.s [99,111,115,116],.s [100,101,97,100,108,105,110,101],.s [100,101,115,99,114],.s [100,105,103,101,115,116],.s [101,112,111,99,104],.s [102,108,97,103,115],.s [105,100],.s [108,97,103],.s [109,97,120],.s [109,105,110],.s [110,97,109,101],.s [110,111,116,101],.s [112,114,105,111,114,105,116,121],.s [114,101,103,105,111,110],.s [114,101,109,97,105,110,105,110,103],.s [114,101,116,114,121],.s [116,97,98,108,101],.s [119,97,110,116]]
def WS:List AV->Option AV | []=>some adN | _=>none
noncomputable def FW:List (FuncId×dR):=(107,λargs σ=>(WS args).map (·,σ))::Rh
noncomputable def XJ:List (FuncId×dR):=closed 254::FW
noncomputable def XK:List (FuncId×dR):=closed 252::XJ
noncomputable def XL:List (FuncId×dR):=closed 248::XK
noncomputable def XM:List (FuncId×dR):=closed 246::XL
noncomputable def XO:List (FuncId×dR):=closed 237::XM
noncomputable def XP:List (FuncId×dR):=closed 197::XO
noncomputable def XQ:List (FuncId×dR):=closed 126::XP
noncomputable def XR:List (FuncId×dR):=closed 50::XQ
noncomputable def aee:List (FuncId×dR):=closed 5::XR
noncomputable def avU:List (FuncId×dR):=closed 14::aee
end Go.Proofs.YtilkjidelblkfaaGreatDoor
