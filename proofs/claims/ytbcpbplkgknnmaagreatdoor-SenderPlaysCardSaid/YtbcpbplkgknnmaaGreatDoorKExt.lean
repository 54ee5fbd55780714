/- How strings compare, sums with a carry: the kit's models, laid here. -/
import Derived.Test.YtbcpbplkgknnmaaGreatDoorKRBase
import Derived.Test.YtbcpbplkgknnmaaGreatDoorAbsTold2
namespace Go.Proofs.YtbcpbplkgknnmaaGreatDoor
open Go Go.Abs
theorem cmp_ok {gs out : List GV} (h : cmpP gs = some out) : FnC Tryz.prog tabsL 335 [] [.sc] gs out := cmp_FnC x335 h
theorem add64_ok {gs out : List GV} (h : add64P gs = some out) : FnC Tryz.prog tabsL 207 [] [.sc, .sc] gs out := add64_FnC x207 h
end Go.Proofs.YtbcpbplkgknnmaaGreatDoor
