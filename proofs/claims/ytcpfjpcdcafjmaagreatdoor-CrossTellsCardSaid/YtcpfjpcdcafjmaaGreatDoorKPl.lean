/- Which closed calls are known: each list one longer than the one ahead. -/
import Derived.Test.YtcpfjpcdcafjmaaGreatDoorKRBase
import Derived.Test.YtcpfjpcdcafjmaaGreatDoorAbsH
namespace Go.Proofs.YtcpfjpcdcafjmaaGreatDoor
open Go.aN
noncomputable def Uj:List (FuncId×dX):=closed 320::Oi
noncomputable def Uk:List (FuncId×dX):=closed 318::Uj
noncomputable def Ul:List (FuncId×dX):=closed 315::Uk
noncomputable def Um:List (FuncId×dX):=closed 310::Ul
noncomputable def Un:List (FuncId×dX):=closed 300::Um
noncomputable def Uo:List (FuncId×dX):=closed 294::Un
noncomputable def Ur:List (FuncId×dX):=closed 292::Uo
noncomputable def Us:List (FuncId×dX):=closed 290::Ur
noncomputable def Ut:List (FuncId×dX):=closed 288::Us
noncomputable def Uu:List (FuncId×dX):=closed 281::Ut
noncomputable def Uw:List (FuncId×dX):=closed 264::Uu
noncomputable def Ux:List (FuncId×dX):=closed 237::Uw
noncomputable def Uy:List (FuncId×dX):=closed 231::Ux
noncomputable def Uz:List (FuncId×dX):=closed 227::Uy
noncomputable def UA:List (FuncId×dX):=closed 223::Uz
noncomputable def UC:List (FuncId×dX):=closed 215::UA
noncomputable def Oe:List (FuncId×dX):=closed 200::UC
/-- What message.Names answers. -/
def abf:AV:=.ro [.s [97,108,108,111,119,101,100],.s [98,97,115,101],.s [99,104,111,115,101,110],.s [99,111,100,101],.s [99,111,115,116],.s [100,101,97,100,108,105,110,101],.s [100,101,115,99,114],.s [100,105,103,101,115,116],.s [101,112,111,99,104],.s [102,108,97,103,115],.s [105,100],.s [108,97,103],.s [109,97,120],.s [109,105,110],.s [110,97,109,101],.s [110,111,116,101],.s [112,114,105,111,114,105,116,121],.s [114,101,103,105,111,110],.s [114,101,109,97,105,110,105,110,103],.s [114,101,116,114,121],.s [116,97,98,108,101],.s [119,97,110,116]]
def TI:List AV->Option AV | []=>some abf | _=>none
noncomputable def DY:List (FuncId×dX):=(45,λargs σ=>(TI args).map (·,σ))::Oe
noncomputable def UE:List (FuncId×dX):=closed 142::DY
noncomputable def UF:List (FuncId×dX):=closed 63::UE
noncomputable def ajt:List (FuncId×dX):=closed 5::UF
end Go.Proofs.YtcpfjpcdcafjmaaGreatDoor
