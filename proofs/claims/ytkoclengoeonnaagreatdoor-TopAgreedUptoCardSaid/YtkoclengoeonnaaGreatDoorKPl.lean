/- Which closed calls are known: each list one longer than the one ahead. -/
import Derived.Test.YtkoclengoeonnaaGreatDoorKRBase
namespace Go.Proofs.YtkoclengoeonnaaGreatDoor
open Go.aP
noncomputable def aaO:W2:=closed 456::VK
noncomputable def aaP:W2:=closed 454::aaO
noncomputable def aaQ:W2:=closed 452::aaP
noncomputable def aaR:W2:=closed 450::aaQ
noncomputable def aaS:W2:=closed 447::aaR
noncomputable def aaT:W2:=closed 441::aaS
noncomputable def aaU:W2:=closed 439::aaT
noncomputable def aaV:W2:=closed 437::aaU
noncomputable def aaW:W2:=closed 435::aaV
noncomputable def aaX:W2:=closed 428::aaW
noncomputable def aaY:W2:=closed 417::aaX
noncomputable def aaZ:W2:=closed 408::aaY
noncomputable def aa0:W2:=closed 404::aaZ
noncomputable def aa1:W2:=closed 399::aa0
noncomputable def aa2:W2:=closed 392::aa1
noncomputable def aa3:W2:=closed 341::aa2
noncomputable def Qp:W2:=closed 305::aa3
def ahQ:AV:=.ro [.s [97,108,108,111,119,101,100],.s [98,97,115,101],.s [99,104,111,115,101,110],.s [99,111,100,101],.s [99,111,115,116],.s [100,101,97,100,108,105,110,101],.s [100,101,115,99,114],.s [100,105,103,101,115,116],.s [101,112,111,99,104],.s [102,108,97,103,115],.s [105,100],.s [108,97,103],.s [109,97,120],.s [109,105,110],.s [110,97,109,101],.s [110,111,116,101],.s [112,114,105,111,114,105,116,121],.s [114,101,103,105,111,110],.s [114,101,109,97,105,110,105,110,103],.s [114,101,116,114,121],.s [116,97,98,108,101],.s [119,97,110,116]]
def aam:Q3->Option AV|[]=>some ahQ|_=>none
noncomputable def JD:W2:=(120,λargs J=>(aam args).map (·,J))::Qp
noncomputable def aa4:W2:=closed 259::JD
noncomputable def aa5:W2:=closed 184::aa4
noncomputable def aa6:W2:=closed 96::aa5
noncomputable def aa7:W2:=closed 413::aa6
noncomputable def aa8:W2:=closed 407::aa7
noncomputable def aa9:W2:=closed 403::aa8
noncomputable def abb:W2:=closed 398::aa9
noncomputable def abd:W2:=closed 391::abb
noncomputable def abe:W2:=closed 340::abd
noncomputable def abf:W2:=closed 300::abe
noncomputable def abg:W2:=closed 235::abf
noncomputable def abh:W2:=closed 142::abg
noncomputable def abj:W2:=closed 55::abh
noncomputable def awz:W2:=closed 4::abj
