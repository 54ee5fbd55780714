/- Which closed calls are known: each list one longer than the one ahead. -/
import Derived.Test.YtilkjidelblkfaaGreatDoorKRBase
import Derived.Test.YtilkjidelblkfaaGreatDoorAbsH
namespace Go.Proofs.YtilkjidelblkfaaGreatDoor
open Go.Abs
noncomputable def pl01 : List (FuncId × PFn) := closed 345 :: primList
noncomputable def pl02 : List (FuncId × PFn) := closed 343 :: pl01
noncomputable def pl03 : List (FuncId × PFn) := closed 341 :: pl02
noncomputable def pl04 : List (FuncId × PFn) := closed 339 :: pl03
noncomputable def pl05 : List (FuncId × PFn) := closed 336 :: pl04
noncomputable def pl06 : List (FuncId × PFn) := closed 330 :: pl05
noncomputable def pl07 : List (FuncId × PFn) := closed 328 :: pl06
noncomputable def pl08 : List (FuncId × PFn) := closed 326 :: pl07
noncomputable def pl09 : List (FuncId × PFn) := closed 324 :: pl08
noncomputable def pl10 : List (FuncId × PFn) := closed 317 :: pl09
noncomputable def pl11 : List (FuncId × PFn) := closed 300 :: pl10
noncomputable def pl12 : List (FuncId × PFn) := closed 273 :: pl11
noncomputable def pl13 : List (FuncId × PFn) := closed 267 :: pl12
noncomputable def pl14 : List (FuncId × PFn) := closed 264 :: pl13
noncomputable def pl15 : List (FuncId × PFn) := closed 262 :: pl14
noncomputable def pl16 : List (FuncId × PFn) := closed 260 :: pl15
noncomputable def pl17 : List (FuncId × PFn) := closed 256 :: pl16
/-- What message.Names answers. -/
def namesAV : AV := .ro [.s [97, 108, 108, 111, 119, 101, 100], .s [98, 97, 115, 101], .s [99, 104, 111, 115, 101, 110], .s [99, 111, 100, 101], .s [99, 111, 115, 116], .s [100, 101, 97, 100, 108, 105, 110, 101], .s [100, 101, 115, 99, 114], .s [100, 105, 103, 101, 115, 116], .s [101, 112, 111, 99, 104], .s [102, 108, 97, 103, 115], .s [105, 100], .s [108, 97, 103], .s [109, 97, 120], .s [109, 105, 110], .s [110, 97, 109, 101], .s [110, 111, 116, 101], .s [112, 114, 105, 111, 114, 105, 116, 121], .s [114, 101, 103, 105, 111, 110], .s [114, 101, 109, 97, 105, 110, 105, 110, 103], .s [114, 101, 116, 114, 121], .s [116, 97, 98, 108, 101], .s [119, 97, 110, 116]]
def namesG : List AV → Option AV | [] => some namesAV | _ => none
noncomputable def plN : List (FuncId × PFn) := (107, fun args σ => (namesG args).map (·, σ)) :: pl17
noncomputable def pl18 : List (FuncId × PFn) := closed 254 :: plN
noncomputable def pl19 : List (FuncId × PFn) := closed 252 :: pl18
noncomputable def pl20 : List (FuncId × PFn) := closed 248 :: pl19
noncomputable def pl21 : List (FuncId × PFn) := closed 246 :: pl20
noncomputable def pl22 : List (FuncId × PFn) := closed 237 :: pl21
noncomputable def pl23 : List (FuncId × PFn) := closed 197 :: pl22
noncomputable def pl24 : List (FuncId × PFn) := closed 126 :: pl23
noncomputable def pl25 : List (FuncId × PFn) := closed 50 :: pl24
noncomputable def pl26 : List (FuncId × PFn) := closed 5 :: pl25
noncomputable def pl27 : List (FuncId × PFn) := closed 14 :: pl26
end Go.Proofs.YtilkjidelblkfaaGreatDoor
