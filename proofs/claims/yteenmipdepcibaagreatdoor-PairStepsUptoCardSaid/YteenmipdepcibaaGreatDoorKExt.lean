/- How strings compare, sums with a carry: the kit's models, laid here. -/
import Derived.Test.YteenmipdepcibaaGreatDoorAbsTold
import Derived.Test.YteenmipdepcibaaGreatDoorKOk27
namespace Go.Proofs.YteenmipdepcibaaGreatDoor
open Go Go.aN
theorem alJ{gs out:Q1}(h:Si gs=some out):nP Tryz.prog bU 198 [] [.sc] gs out:=alI ajL h
theorem aki{gs out:Q1}(h:NJ gs=some out):nP Tryz.prog bU 212 [] [.sc,.sc] gs out:=akh ajM h
end Go.Proofs.YteenmipdepcibaaGreatDoor
namespace Go.Proofs.YteenmipdepcibaaGreatDoor
open Go.aN
set_option maxRecDepth 100000
theorem azS:((call PD 1000000 134 [] J0).bind λx=>rJ Tryz.prog x.2 8 x.1)=some (kC (.g (ai1.map λn=>.i .u32 n))):=by kernel_rfl
theorem azT{gs out:Q1}(h:VF gs=some out):nP Tryz.prog bU 134 [] [.ag 16] gs out:=by
 unfold VF at h;split at h
 ·cases h;obtain⟨⟨a,J'⟩,h1,h2⟩:=vJ.1 azS;exact alV (Kt U1 1000000) FY rfl h1 8 h2 rfl
 ·cases h
