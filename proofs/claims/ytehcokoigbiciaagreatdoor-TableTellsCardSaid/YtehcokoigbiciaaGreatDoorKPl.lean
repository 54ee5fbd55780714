/- Which closed calls are known: each list one longer than the one ahead. -/
import Derived.Test.YtehcokoigbiciaaGreatDoorKRBase
import Derived.Test.YtehcokoigbiciaaGreatDoorAbsH
namespace Go.Proofs.YtehcokoigbiciaaGreatDoor
open Go.Abs
noncomputable def pl01 : List (FuncId × PFn) := closed 182 :: primList
noncomputable def pl02 : List (FuncId × PFn) := closed 180 :: pl01
noncomputable def pl03 : List (FuncId × PFn) := closed 175 :: pl02
noncomputable def pl04 : List (FuncId × PFn) := closed 170 :: pl03
noncomputable def pl05 : List (FuncId × PFn) := closed 159 :: pl04
noncomputable def pl06 : List (FuncId × PFn) := closed 153 :: pl05
noncomputable def pl07 : List (FuncId × PFn) := closed 151 :: pl06
noncomputable def pl08 : List (FuncId × PFn) := closed 144 :: pl07
noncomputable def pl09 : List (FuncId × PFn) := closed 126 :: pl08
noncomputable def pl10 : List (FuncId × PFn) := closed 105 :: pl09
noncomputable def pl11 : List (FuncId × PFn) := closed 81 :: pl10
noncomputable def pl12 : List (FuncId × PFn) := closed 32 :: pl11
noncomputable def pl13 : List (FuncId × PFn) := closed 4 :: pl12
end Go.Proofs.YtehcokoigbiciaaGreatDoor
