/- Which closed calls are known: each list one longer than the one ahead. -/
import Derived.Test.YtcpfjpcdcafjmaaGreatDoorKRBase
import Derived.Test.YtcpfjpcdcafjmaaGreatDoorAbsH
namespace Go.Proofs.YtcpfjpcdcafjmaaGreatDoor
open Go.aO
noncomputable def WO:List (FuncId×eX):=closed 320::QB
noncomputable def WQ:List (FuncId×eX):=closed 318::WO
noncomputable def WR:List (FuncId×eX):=closed 315::WQ
noncomputable def WS:List (FuncId×eX):=closed 310::WR
noncomputable def WT:List (FuncId×eX):=closed 300::WS
noncomputable def WU:List (FuncId×eX):=closed 294::WT
noncomputable def WV:List (FuncId×eX):=closed 292::WU
noncomputable def WW:List (FuncId×eX):=closed 290::WV
noncomputable def WX:List (FuncId×eX):=closed 288::WW
noncomputable def WY:List (FuncId×eX):=closed 281::WX
noncomputable def WZ:List (FuncId×eX):=closed 264::WY
noncomputable def W9:List (FuncId×eX):=closed 237::WZ
noncomputable def Xa:List (FuncId×eX):=closed 231::W9
noncomputable def Xb:List (FuncId×eX):=closed 227::Xa
noncomputable def Xc:List (FuncId×eX):=closed 223::Xb
noncomputable def Xd:List (FuncId×eX):=closed 215::Xc
noncomputable def Qz:List (FuncId×eX):=closed 200::Xd
/-- What message.Names answers. -/
def ado:AV:=.ro [.s [97,108,108,111,119,101,100],.s [98,97,115,101],.s [99,104,111,115,101,110],.s [99,111,100,101],.s [99,111,115,116],.s [100,101,97,100,108,105,110,101],.s [100,101,115,99,114],.s [100,105,103,101,115,116],.s [101,112,111,99,104],.s [102,108,97,103,115],.s [105,100],.s [108,97,103],.s [109,97,120],.s [109,105,110],.s [110,97,109,101],.s [110,111,116,101],.s [112,114,105,111,114,105,116,121],.s [114,101,103,105,111,110],.s [114,101,109,97,105,110,105,110,103],.s [114,101,116,114,121],.s [116,97,98,108,101],.s [119,97,110,116]]
def V5:List AV->Option AV | []=>some ado | _=>none
noncomputable def FV:List (FuncId×eX):=(45,λargs σ=>(V5 args).map (·,σ))::Qz
noncomputable def Xf:List (FuncId×eX):=closed 142::FV
noncomputable def Xg:List (FuncId×eX):=closed 63::Xf
noncomputable def anh:List (FuncId×eX):=closed 5::Xg
end Go.Proofs.YtcpfjpcdcafjmaaGreatDoor
