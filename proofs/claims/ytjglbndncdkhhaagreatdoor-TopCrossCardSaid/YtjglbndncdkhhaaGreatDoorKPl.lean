/- Which closed calls are known: each list one longer than the one ahead. -/
import Derived.Test.YtjglbndncdkhhaaGreatDoorKRBase
import Derived.Test.YtjglbndncdkhhaaGreatDoorAbsH
namespace Go.Proofs.YtjglbndncdkhhaaGreatDoor
open Go.aN
noncomputable def Wv:List (FuncId×eP):=closed 267::Qe
noncomputable def Wx:List (FuncId×eP):=closed 265::Wv
noncomputable def Wy:List (FuncId×eP):=closed 262::Wx
noncomputable def WA:List (FuncId×eP):=closed 257::Wy
noncomputable def WB:List (FuncId×eP):=closed 247::WA
noncomputable def WC:List (FuncId×eP):=closed 241::WB
noncomputable def WE:List (FuncId×eP):=closed 239::WC
noncomputable def WG:List (FuncId×eP):=closed 237::WE
noncomputable def WH:List (FuncId×eP):=closed 235::WG
noncomputable def WI:List (FuncId×eP):=closed 228::WH
noncomputable def WJ:List (FuncId×eP):=closed 211::WI
noncomputable def WM:List (FuncId×eP):=closed 184::WJ
noncomputable def WO:List (FuncId×eP):=closed 178::WM
noncomputable def WQ:List (FuncId×eP):=closed 174::WO
noncomputable def WR:List (FuncId×eP):=closed 170::WQ
noncomputable def WS:List (FuncId×eP):=closed 162::WR
noncomputable def Qb:List (FuncId×eP):=closed 158::WS
/-- What message.Names answers. -/
def acM:AV:=.ro [.s [97,108,108,111,119,101,100],.s [98,97,115,101],.s [99,104,111,115,101,110],.s [99,111,100,101],.s [99,111,115,116],.s [100,101,97,100,108,105,110,101],.s [100,101,115,99,114],.s [100,105,103,101,115,116],.s [101,112,111,99,104],.s [102,108,97,103,115],.s [105,100],.s [108,97,103],.s [109,97,120],.s [109,105,110],.s [110,97,109,101],.s [110,111,116,101],.s [112,114,105,111,114,105,116,121],.s [114,101,103,105,111,110],.s [114,101,109,97,105,110,105,110,103],.s [114,101,116,114,121],.s [116,97,98,108,101],.s [119,97,110,116]]
def VK:List AV->Option AV | []=>some acM | _=>none
noncomputable def Et:List (FuncId×eP):=(39,λargs σ=>(VK args).map (·,σ))::Qb
noncomputable def WU:List (FuncId×eP):=closed 149::Et
noncomputable def WV:List (FuncId×eP):=closed 104::WU
noncomputable def alR:List (FuncId×eP):=closed 47::WV
end Go.Proofs.YtjglbndncdkhhaaGreatDoor
