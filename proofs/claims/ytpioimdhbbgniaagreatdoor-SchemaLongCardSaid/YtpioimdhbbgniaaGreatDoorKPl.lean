/- Which closed calls are known: each list one longer than the one ahead. -/
import Derived.Test.YtpioimdhbbgniaaGreatDoorKRBase
import Derived.Test.YtpioimdhbbgniaaGreatDoorAbsH
namespace Go.Proofs.YtpioimdhbbgniaaGreatDoor
open Go.aJ
noncomputable def UQ:List (FuncId×dM):=closed 255::OZ
noncomputable def UR:List (FuncId×dM):=closed 253::UQ
noncomputable def UU:List (FuncId×dM):=closed 250::UR
noncomputable def UW:List (FuncId×dM):=closed 245::UU
noncomputable def UY:List (FuncId×dM):=closed 235::UW
noncomputable def UZ:List (FuncId×dM):=closed 229::UY
noncomputable def U0:List (FuncId×dM):=closed 227::UZ
noncomputable def U1:List (FuncId×dM):=closed 225::U0
noncomputable def U2:List (FuncId×dM):=closed 223::U1
noncomputable def U3:List (FuncId×dM):=closed 216::U2
noncomputable def U4:List (FuncId×dM):=closed 199::U3
noncomputable def U5:List (FuncId×dM):=closed 172::U4
noncomputable def U6:List (FuncId×dM):=closed 166::U5
noncomputable def U7:List (FuncId×dM):=closed 162::U6
noncomputable def U8:List (FuncId×dM):=closed 158::U7
noncomputable def U9:List (FuncId×dM):=closed 148::U8
noncomputable def OX:List (FuncId×dM):=closed 106::U9
/-- What message.Names answers. -/
def abp:AV:=.ro [.s [97,108,108,111,119,101,100],.s [98,97,115,101],.s [99,104,111,115,101,110],.s [99,111,100,101],.s [99,111,115,116],.s [100,101,97,100,108,105,110,101],.s [100,101,115,99,114],.s [100,105,103,101,115,116],.s [101,112,111,99,104],.s [102,108,97,103,115],.s [105,100],.s [108,97,103],.s [109,97,120],.s [109,105,110],.s [110,97,109,101],.s [110,111,116,101],.s [112,114,105,111,114,105,116,121],.s [114,101,103,105,111,110],.s [114,101,109,97,105,110,105,110,103],.s [114,101,116,114,121],.s [116,97,98,108,101],.s [119,97,110,116]]
def Uk:List AV->Option AV | []=>some abp | _=>none
noncomputable def D7:List (FuncId×dM):=(45,λargs σ=>(Uk args).map (·,σ))::OX
noncomputable def Vb:List (FuncId×dM):=closed 50::D7
noncomputable def ajT:List (FuncId×dM):=closed 8::Vb
end Go.Proofs.YtpioimdhbbgniaaGreatDoor
