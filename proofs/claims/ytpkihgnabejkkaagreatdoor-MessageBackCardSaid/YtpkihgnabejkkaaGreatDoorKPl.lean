/- Which closed calls are known: each list one longer than the one ahead. -/
import Derived.Test.YtpkihgnabejkkaaGreatDoorKRBase
import Derived.Test.YtpkihgnabejkkaaGreatDoorAbsH
namespace Go.Proofs.YtpkihgnabejkkaaGreatDoor
open Go.aJ
noncomputable def Oe:List (FuncId×dV):=closed 290::Ia
noncomputable def Og:List (FuncId×dV):=closed 288::Oe
noncomputable def Oh:List (FuncId×dV):=closed 285::Og
noncomputable def Oi:List (FuncId×dV):=closed 280::Oh
noncomputable def Oj:List (FuncId×dV):=closed 270::Oi
noncomputable def Ol:List (FuncId×dV):=closed 264::Oj
noncomputable def Om:List (FuncId×dV):=closed 262::Ol
noncomputable def Oo:List (FuncId×dV):=closed 255::Om
noncomputable def Oq:List (FuncId×dV):=closed 240::Oo
noncomputable def Ot:List (FuncId×dV):=closed 229::Oq
noncomputable def Ou:List (FuncId×dV):=closed 212::Ot
noncomputable def Ov:List (FuncId×dV):=closed 185::Ou
noncomputable def Ox:List (FuncId×dV):=closed 179::Ov
noncomputable def Oy:List (FuncId×dV):=closed 175::Ox
noncomputable def Oz:List (FuncId×dV):=closed 171::Oy
noncomputable def OA:List (FuncId×dV):=closed 136::Oz
noncomputable def H6:List (FuncId×dV):=closed 58::OA
/-- What message.Names answers. -/
def aai:AV:=.ro [.s [97,108,108,111,119,101,100],.s [98,97,115,101],.s [99,104,111,115,101,110],.s [99,111,100,101],.s [99,111,115,116],.s [100,101,97,100,108,105,110,101],.s [100,101,115,99,114],.s [100,105,103,101,115,116],.s [101,112,111,99,104],.s [102,108,97,103,115],.s [105,100],.s [108,97,103],.s [109,97,120],.s [109,105,110],.s [110,97,109,101],.s [110,111,116,101],.s [112,114,105,111,114,105,116,121],.s [114,101,103,105,111,110],.s [114,101,109,97,105,110,105,110,103],.s [114,101,116,114,121],.s [116,97,98,108,101],.s [119,97,110,116]]
def NI:List AV→Option AV | []=>some aai | _=>none
noncomputable def zl:List (FuncId×dV):=(16,fun args σ=>(NI args).map (·,σ))::H6
noncomputable def aiD:List (FuncId×dV):=closed 5::zl
end Go.Proofs.YtpkihgnabejkkaaGreatDoor
