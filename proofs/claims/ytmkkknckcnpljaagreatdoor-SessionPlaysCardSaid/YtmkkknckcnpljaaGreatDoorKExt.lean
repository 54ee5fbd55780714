/- How strings compare, sums with a carry: the kit's models, laid here. -/
import Derived.Test.YtmkkknckcnpljaaGreatDoorKRBase
import Derived.Test.YtmkkknckcnpljaaGreatDoorAbsTold
namespace Go.Proofs.YtmkkknckcnpljaaGreatDoor
open Go Go.aO
theorem al7{gs out:Q1}(h:SL gs=some out):ql Tryz.prog bG 239 [] [.sc] gs out:=al6 ako h
theorem akS{gs out:Q1}(h:NV gs=some out):ql Tryz.prog bG 230 [] [.sc,.sc] gs out:=akR akn h
