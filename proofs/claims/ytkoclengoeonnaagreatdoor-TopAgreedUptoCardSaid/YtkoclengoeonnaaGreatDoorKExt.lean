/- How strings compare, sums with a carry: the kit's models, laid here. -/
import Derived.Test.YtkoclengoeonnaaGreatDoorAbsTold
import Derived.Test.YtkoclengoeonnaaGreatDoorKOk31
namespace Go.Proofs.YtkoclengoeonnaaGreatDoor
open Go Go.aP
theorem amA{gs out:Q1}(h:Tv gs=some out):ou Tryz.prog bY 237 [] [.sc] gs out:=amz akI h
theorem ala{gs out:Q1}(h:Ol gs=some out):ou Tryz.prog bY 224 [] [.sc,.sc] gs out:=ak9 akH h
end Go.Proofs.YtkoclengoeonnaaGreatDoor
namespace Go.Proofs.YtkoclengoeonnaaGreatDoor
open Go.aP
set_option maxRecDepth 100000
theorem aAO:((call Qp 1000000 110 [] J0).bind λx=>sJ Tryz.prog x.2 8 x.1)=some (kT (.g (ajQ.map λn=>.i .u32 n))):=by kernel_rfl
theorem aAP{gs out:Q1}(h:Wx gs=some out):ou Tryz.prog bY 110 [] [.ag 16] gs out:=by
 unfold Wx at h;split at h
 ·cases h;obtain⟨⟨a,J'⟩,h1,h2⟩:=wJ.1 aAO;exact amQ (La VF 1000000) G9 rfl h1 8 h2 rfl
 ·cases h
