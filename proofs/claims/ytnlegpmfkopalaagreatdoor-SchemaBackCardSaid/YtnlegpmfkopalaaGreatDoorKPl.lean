/- Which closed calls are known: each list one longer than the one ahead. -/
import Derived.Test.YtnlegpmfkopalaaGreatDoorKRBase
import Derived.Test.YtnlegpmfkopalaaGreatDoorAbsH
namespace Go.Proofs.YtnlegpmfkopalaaGreatDoor
open Go.aN
noncomputable def VZ:List (FuncId×fD):=closed 260::Qc
noncomputable def V3:List (FuncId×fD):=closed 258::VZ
noncomputable def V4:List (FuncId×fD):=closed 256::V3
noncomputable def V5:List (FuncId×fD):=closed 254::V4
noncomputable def V6:List (FuncId×fD):=closed 252::V5
noncomputable def V7:List (FuncId×fD):=closed 250::V6
noncomputable def V8:List (FuncId×fD):=closed 248::V7
noncomputable def V9:List (FuncId×fD):=closed 246::V8
noncomputable def Wh:List (FuncId×fD):=closed 244::V9
noncomputable def Wi:List (FuncId×fD):=closed 237::Wh
noncomputable def Wj:List (FuncId×fD):=closed 220::Wi
noncomputable def Wl:List (FuncId×fD):=closed 193::Wj
noncomputable def Wn:List (FuncId×fD):=closed 187::Wl
noncomputable def Wp:List (FuncId×fD):=closed 183::Wn
noncomputable def Wq:List (FuncId×fD):=closed 179::Wp
noncomputable def Ws:List (FuncId×fD):=closed 165::Wq
noncomputable def Ld:List (FuncId×fD):=closed 112::Ws
/-- What message.Names answers. -/
def acr:AV:=.ro [.s [97,108,108,111,119,101,100],.s [98,97,115,101],.s [99,104,111,115,101,110],.s [99,111,100,101],.s [99,111,115,116],.s [100,101,97,100,108,105,110,101],.s [100,101,115,99,114],.s [100,105,103,101,115,116],.s [101,112,111,99,104],.s [102,108,97,103,115],.s [105,100],.s [108,97,103],.s [109,97,120],.s [109,105,110],.s [110,97,109,101],.s [110,111,116,101],.s [112,114,105,111,114,105,116,121],.s [114,101,103,105,111,110],.s [114,101,109,97,105,110,105,110,103],.s [114,101,116,114,121],.s [116,97,98,108,101],.s [119,97,110,116]]
def Vs:List AV->Option AV | []=>some acr | _=>none
noncomputable def EZ:List (FuncId×fD):=(32,λargs σ=>(Vs args).map (·,σ))::Ld
noncomputable def Wu:List (FuncId×fD):=closed 41::EZ
noncomputable def amS:List (FuncId×fD):=closed 4::Wu
end Go.Proofs.YtnlegpmfkopalaaGreatDoor
