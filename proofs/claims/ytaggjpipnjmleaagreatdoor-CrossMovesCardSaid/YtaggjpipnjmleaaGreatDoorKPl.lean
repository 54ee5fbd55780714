/- Which closed calls are known: each list one longer than the one ahead. -/
import Derived.Test.YtaggjpipnjmleaaGreatDoorKRBase
import Derived.Test.YtaggjpipnjmleaaGreatDoorAbsH
namespace Go.Proofs.YtaggjpipnjmleaaGreatDoor
open Go.aJ
noncomputable def V8:List (FuncId×fA):=closed 316::Qa
noncomputable def V9:List (FuncId×fA):=closed 314::V8
noncomputable def Wh:List (FuncId×fA):=closed 311::V9
noncomputable def Wi:List (FuncId×fA):=closed 306::Wh
noncomputable def Wj:List (FuncId×fA):=closed 296::Wi
noncomputable def Wl:List (FuncId×fA):=closed 290::Wj
noncomputable def Wn:List (FuncId×fA):=closed 288::Wl
noncomputable def Wp:List (FuncId×fA):=closed 286::Wn
noncomputable def Wq:List (FuncId×fA):=closed 284::Wp
noncomputable def Ws:List (FuncId×fA):=closed 277::Wq
noncomputable def Wu:List (FuncId×fA):=closed 260::Ws
noncomputable def Wv:List (FuncId×fA):=closed 233::Wu
noncomputable def Wx:List (FuncId×fA):=closed 227::Wv
noncomputable def Wy:List (FuncId×fA):=closed 223::Wx
noncomputable def WA:List (FuncId×fA):=closed 219::Wy
noncomputable def WB:List (FuncId×fA):=closed 209::WA
noncomputable def P7:List (FuncId×fA):=closed 167::WB
/-- What message.Names answers. -/
def acI:AV:=.ro [.s [97,108,108,111,119,101,100],.s [98,97,115,101],.s [99,104,111,115,101,110],.s [99,111,100,101],.s [99,111,115,116],.s [100,101,97,100,108,105,110,101],.s [100,101,115,99,114],.s [100,105,103,101,115,116],.s [101,112,111,99,104],.s [102,108,97,103,115],.s [105,100],.s [108,97,103],.s [109,97,120],.s [109,105,110],.s [110,97,109,101],.s [110,111,116,101],.s [112,114,105,111,114,105,116,121],.s [114,101,103,105,111,110],.s [114,101,109,97,105,110,105,110,103],.s [114,101,116,114,121],.s [116,97,98,108,101],.s [119,97,110,116]]
def VA:List AV->Option AV | []=>some acI | _=>none
noncomputable def EH:List (FuncId×fA):=(84,λargs σ=>(VA args).map (·,σ))::P7
noncomputable def WE:List (FuncId×fA):=closed 105::EH
noncomputable def WG:List (FuncId×fA):=closed 37::WE
noncomputable def anz:List (FuncId×fA):=closed 4::WG
end Go.Proofs.YtaggjpipnjmleaaGreatDoor
