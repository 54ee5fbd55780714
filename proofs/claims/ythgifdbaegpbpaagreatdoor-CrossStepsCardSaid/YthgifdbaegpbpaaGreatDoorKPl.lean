/- Which closed calls are known: each list one longer than the one ahead. -/
import Derived.Test.YthgifdbaegpbpaaGreatDoorKRBase
import Derived.Test.YthgifdbaegpbpaaGreatDoorAbsH
namespace Go.Proofs.YthgifdbaegpbpaaGreatDoor
open Go.aN
noncomputable def VW:List (FuncId×eU):=closed 345::P9
noncomputable def VX:List (FuncId×eU):=closed 343::VW
noncomputable def VY:List (FuncId×eU):=closed 341::VX
noncomputable def VZ:List (FuncId×eU):=closed 339::VY
noncomputable def V3:List (FuncId×eU):=closed 337::VZ
noncomputable def V4:List (FuncId×eU):=closed 335::V3
noncomputable def V5:List (FuncId×eU):=closed 333::V4
noncomputable def V6:List (FuncId×eU):=closed 331::V5
noncomputable def V7:List (FuncId×eU):=closed 329::V6
noncomputable def V8:List (FuncId×eU):=closed 322::V7
noncomputable def V9:List (FuncId×eU):=closed 305::V8
noncomputable def Wh:List (FuncId×eU):=closed 278::V9
noncomputable def Wi:List (FuncId×eU):=closed 272::Wh
noncomputable def Wj:List (FuncId×eU):=closed 268::Wi
noncomputable def Wl:List (FuncId×eU):=closed 264::Wj
noncomputable def Wn:List (FuncId×eU):=closed 253::Wl
noncomputable def P7:List (FuncId×eU):=closed 195::Wn
/-- What message.Names answers. -/
def acu:AV:=.ro [.s [97,108,108,111,119,101,100],.s [98,97,115,101],.s [99,104,111,115,101,110],.s [99,111,100,101],.s [99,111,115,116],.s [100,101,97,100,108,105,110,101],.s [100,101,115,99,114],.s [100,105,103,101,115,116],.s [101,112,111,99,104],.s [102,108,97,103,115],.s [105,100],.s [108,97,103],.s [109,97,120],.s [109,105,110],.s [110,97,109,101],.s [110,111,116,101],.s [112,114,105,111,114,105,116,121],.s [114,101,103,105,111,110],.s [114,101,109,97,105,110,105,110,103],.s [114,101,116,114,121],.s [116,97,98,108,101],.s [119,97,110,116]]
def Vr:List AV->Option AV | []=>some acu | _=>none
noncomputable def EJ:List (FuncId×eU):=(77,λargs σ=>(Vr args).map (·,σ))::P7
noncomputable def Wq:List (FuncId×eU):=closed 99::EJ
noncomputable def Ws:List (FuncId×eU):=closed 9::Wq
noncomputable def ame:List (FuncId×eU):=closed 35::Ws
end Go.Proofs.YthgifdbaegpbpaaGreatDoor
