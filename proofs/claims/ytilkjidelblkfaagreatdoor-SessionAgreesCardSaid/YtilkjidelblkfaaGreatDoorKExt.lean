/- How strings compare, sums with a carry: the kit's models, laid here. -/
import Derived.Test.YtilkjidelblkfaaGreatDoorKRBase
import Derived.Test.YtilkjidelblkfaaGreatDoorAbsTold2
namespace Go.Proofs.YtilkjidelblkfaaGreatDoor
open Go Go.aJ
theorem aut {gs out:List GV} (h:ahY gs=some out):sD Tryz.prog fB 198 [] [.sc] gs out:=cmp_FnC ati h
theorem atH {gs out:List GV} (h:ZY gs=some out):sD Tryz.prog fB 191 [] [.sc,.sc] gs out:=add64_FnC ath h
end Go.Proofs.YtilkjidelblkfaaGreatDoor
