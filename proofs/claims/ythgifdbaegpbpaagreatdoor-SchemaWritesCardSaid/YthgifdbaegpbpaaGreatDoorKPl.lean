/- Which closed calls are known: each list one longer than the one ahead. -/
import Derived.Test.YthgifdbaegpbpaaGreatDoorKRBase
import Derived.Test.YthgifdbaegpbpaaGreatDoorAbsH
namespace Go.Proofs.YthgifdbaegpbpaaGreatDoor
open Go.aP
noncomputable def Rh:List (FuncId×dS):=closed 345::JD
noncomputable def Ri:List (FuncId×dS):=closed 343::Rh
noncomputable def Rj:List (FuncId×dS):=closed 341::Ri
noncomputable def Rk:List (FuncId×dS):=closed 339::Rj
noncomputable def Rl:List (FuncId×dS):=closed 337::Rk
noncomputable def Rn:List (FuncId×dS):=closed 335::Rl
noncomputable def Ro:List (FuncId×dS):=closed 333::Rn
noncomputable def Rq:List (FuncId×dS):=closed 331::Ro
noncomputable def Rt:List (FuncId×dS):=closed 329::Rq
noncomputable def Ru:List (FuncId×dS):=closed 322::Rt
noncomputable def Rw:List (FuncId×dS):=closed 305::Ru
noncomputable def Rx:List (FuncId×dS):=closed 278::Rw
noncomputable def Ry:List (FuncId×dS):=closed 272::Rx
noncomputable def Rz:List (FuncId×dS):=closed 268::Ry
noncomputable def RD:List (FuncId×dS):=closed 264::Rz
noncomputable def RF:List (FuncId×dS):=closed 253::RD
noncomputable def FU:List (FuncId×dS):=closed 195::RF
/-- What message.Names answers. -/
def acB:AV:=.ro [.s [97,108,108,111,119,101,100],.s [98,97,115,101],.s [99,104,111,115,101,110],.s [99,111,100,101],.s [99,111,115,116],.s [100,101,97,100,108,105,110,101],.s [100,101,115,99,114],.s [100,105,103,101,115,116],.s [101,112,111,99,104],.s [102,108,97,103,115],.s [105,100],.s [108,97,103],.s [109,97,120],.s [109,105,110],.s [110,97,109,101],.s [110,111,116,101],.s [112,114,105,111,114,105,116,121],.s [114,101,103,105,111,110],.s [114,101,109,97,105,110,105,110,103],.s [114,101,116,114,121],.s [116,97,98,108,101],.s [119,97,110,116]]
def QF:List AV→Option AV | []=>some acB | _=>none
noncomputable def AO:List (FuncId×dS):=(77,fun args σ=>(QF args).map (·,σ))::FU
noncomputable def RG:List (FuncId×dS):=closed 99::AO
noncomputable def acV:List (FuncId×dS):=closed 9::RG
noncomputable def auo:List (FuncId×dS):=closed 35::acV
end Go.Proofs.YthgifdbaegpbpaaGreatDoor
