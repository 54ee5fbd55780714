/- How strings compare, sums with a carry: the kit's models, laid here. -/
import Derived.Test.YtlifdeocdbjalaaGreatDoorKRBase
import Derived.Test.YtlifdeocdbjalaaGreatDoorAbsTold2
namespace Go.Proofs.YtlifdeocdbjalaaGreatDoor
open Go Go.Abs
theorem cmp_ok {gs out : List GV} (h : cmpP gs = some out) : FnC Tryz.prog tabsL 159 [] [.sc] gs out := cmp_FnC x159 h
theorem add64_ok {gs out : List GV} (h : add64P gs = some out) : FnC Tryz.prog tabsL 109 [] [.sc, .sc] gs out := add64_FnC x109 h
end Go.Proofs.YtlifdeocdbjalaaGreatDoor
