/- Which closed calls are known: each list one longer than the one ahead. -/
import Derived.Test.YthchhlenbkefnaaGreatDoorKRBase
namespace Go.Proofs.YthchhlenbkefnaaGreatDoor
open Go.aN
noncomputable def abQ:W2:=closed 450::Xc
noncomputable def abR:W2:=closed 448::abQ
noncomputable def abS:W2:=closed 446::abR
noncomputable def abT:W2:=closed 444::abS
noncomputable def abU:W2:=closed 441::abT
noncomputable def abV:W2:=closed 435::abU
noncomputable def abW:W2:=closed 433::abV
noncomputable def abX:W2:=closed 431::abW
noncomputable def abY:W2:=closed 429::abX
noncomputable def abZ:W2:=closed 422::abY
noncomputable def ab1:W2:=closed 411::abZ
noncomputable def ab2:W2:=closed 405::ab1
noncomputable def ab3:W2:=closed 403::ab2
noncomputable def ab4:W2:=closed 400::ab3
noncomputable def ab5:W2:=closed 398::ab4
noncomputable def ab6:W2:=closed 396::ab5
noncomputable def Rl:W2:=closed 392::ab6
def aji:AV:=.ro [.s [97,108,108,111,119,101,100],.s [98,97,115,101],.s [99,104,111,115,101,110],.s [99,111,100,101],.s [99,111,115,116],.s [100,101,97,100,108,105,110,101],.s [100,101,115,99,114],.s [100,105,103,101,115,116],.s [101,112,111,99,104],.s [102,108,97,103,115],.s [105,100],.s [108,97,103],.s [109,97,120],.s [109,105,110],.s [110,97,109,101],.s [110,111,116,101],.s [112,114,105,111,114,105,116,121],.s [114,101,103,105,111,110],.s [114,101,109,97,105,110,105,110,103],.s [114,101,116,114,121],.s [116,97,98,108,101],.s [119,97,110,116]]
def abn:Q3->Option AV|[]=>some aji|_=>none
noncomputable def KA:W2:=(208,λargs J=>(abn args).map (·,J))::Rl
noncomputable def ab7:W2:=closed 390::KA
noncomputable def ab8:W2:=closed 388::ab7
noncomputable def ab9:W2:=closed 384::ab8
noncomputable def acd:W2:=closed 382::ab9
noncomputable def ace:W2:=closed 379::acd
noncomputable def acf:W2:=closed 377::ace
noncomputable def acg:W2:=closed 374::acf
noncomputable def ach:W2:=closed 343::acg
noncomputable def aci:W2:=closed 254::ach
noncomputable def acj:W2:=closed 163::aci
noncomputable def acn:W2:=closed 97::acj
noncomputable def aco:W2:=closed 28::acn
noncomputable def azu:W2:=closed 4::aco
