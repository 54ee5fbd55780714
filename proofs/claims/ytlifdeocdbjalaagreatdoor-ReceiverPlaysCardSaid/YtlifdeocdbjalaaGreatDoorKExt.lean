/- How strings compare, sums with a carry: the kit's models, laid here. -/
import Derived.Test.YtlifdeocdbjalaaGreatDoorKRBase
import Derived.Test.YtlifdeocdbjalaaGreatDoorAbsTold2
namespace Go.Proofs.YtlifdeocdbjalaaGreatDoor
open Go Go.aN
theorem afZ {gs out:List GV} (h:Ht gs=some out):aG Tryz.prog aF 159 [] [.sc] gs out:=afY x159 h
theorem aeX {gs out:List GV} (h:DL gs=some out):aG Tryz.prog aF 109 [] [.sc,.sc] gs out:=aeW aeL h
end Go.Proofs.YtlifdeocdbjalaaGreatDoor
