/- Which closed calls are known: each list one longer than the one ahead. -/
import Derived.Test.YthgifdbaegpbpaaGreatDoorKRBase
import Derived.Test.YthgifdbaegpbpaaGreatDoorAbsH
namespace Go.Proofs.YthgifdbaegpbpaaGreatDoor
open Go.aK
noncomputable def Um:List (FuncId×dY):=closed 345::OA
noncomputable def Un:List (FuncId×dY):=closed 343::Um
noncomputable def Uo:List (FuncId×dY):=closed 341::Un
noncomputable def Ur:List (FuncId×dY):=closed 339::Uo
noncomputable def Us:List (FuncId×dY):=closed 337::Ur
noncomputable def Ut:List (FuncId×dY):=closed 335::Us
noncomputable def Uu:List (FuncId×dY):=closed 333::Ut
noncomputable def Uw:List (FuncId×dY):=closed 331::Uu
noncomputable def Ux:List (FuncId×dY):=closed 329::Uw
noncomputable def Uy:List (FuncId×dY):=closed 322::Ux
noncomputable def Uz:List (FuncId×dY):=closed 305::Uy
noncomputable def UA:List (FuncId×dY):=closed 278::Uz
noncomputable def UC:List (FuncId×dY):=closed 272::UA
noncomputable def UD:List (FuncId×dY):=closed 268::UC
noncomputable def UE:List (FuncId×dY):=closed 264::UD
noncomputable def UF:List (FuncId×dY):=closed 253::UE
noncomputable def Ox:List (FuncId×dY):=closed 195::UF
/-- What message.Names answers. -/
def abh:AV:=.ro [.s [97,108,108,111,119,101,100],.s [98,97,115,101],.s [99,104,111,115,101,110],.s [99,111,100,101],.s [99,111,115,116],.s [100,101,97,100,108,105,110,101],.s [100,101,115,99,114],.s [100,105,103,101,115,116],.s [101,112,111,99,104],.s [102,108,97,103,115],.s [105,100],.s [108,97,103],.s [109,97,120],.s [109,105,110],.s [110,97,109,101],.s [110,111,116,101],.s [112,114,105,111,114,105,116,121],.s [114,101,103,105,111,110],.s [114,101,109,97,105,110,105,110,103],.s [114,101,116,114,121],.s [116,97,98,108,101],.s [119,97,110,116]]
def TK:List AV->Option AV | []=>some abh | _=>none
noncomputable def Ez:List (FuncId×dY):=(77,λargs σ=>(TK args).map (·,σ))::Ox
noncomputable def UH:List (FuncId×dY):=closed 99::Ez
noncomputable def abH:List (FuncId×dY):=closed 9::UH
noncomputable def at7:List (FuncId×dY):=closed 35::abH
end Go.Proofs.YthgifdbaegpbpaaGreatDoor
