/- How strings compare, sums with a carry: the kit's models, laid here. -/
import Derived.Test.YtamcdgfjjeldeaaGreatDoorKRBase
import Derived.Test.YtamcdgfjjeldeaaGreatDoorAbsTold2
namespace Go.Proofs.YtamcdgfjjeldeaaGreatDoor
open Go Go.Abs
theorem cmp_ok {gs out : List GV} (h : cmpP gs = some out) : FnC Tryz.prog tabsL 186 [] [.sc] gs out := cmp_FnC x186 h
theorem add64_ok {gs out : List GV} (h : add64P gs = some out) : FnC Tryz.prog tabsL 133 [] [.sc, .sc] gs out := add64_FnC x133 h
end Go.Proofs.YtamcdgfjjeldeaaGreatDoor
