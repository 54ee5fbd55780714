/- How strings compare, sums with a carry: the kit's models, laid here. -/
import Derived.Test.YtcnekfnipdihgaaGreatDoorAbsTold
import Derived.Test.YtcnekfnipdihgaaGreatDoorKOk31
namespace Go.Proofs.YtcnekfnipdihgaaGreatDoor
open Go Go.aP
theorem ao7{gs out:Q3}(h:Vo gs=some out):pO Tryz.prog dD 194 [] [.sc] gs out:=ao6 am3 h
theorem anD{gs out:Q3}(h:P9 gs=some out):pO Tryz.prog dD 110 [] [.sc,.sc] gs out:=anC am2 h
end Go.Proofs.YtcnekfnipdihgaaGreatDoor
namespace Go.Proofs.YtcnekfnipdihgaaGreatDoor
open Go.aP
set_option maxRecDepth 100000
theorem aEe:((call SG 1000000 161 [] J0).bind λx=>uY Tryz.prog x.2 8 x.1)=some (lT (.g (al9.map λn=>.i .u32 n))):=by kernel_rfl
theorem aEf{gs out:Q3}(h:Yp gs=some out):pO Tryz.prog dD 161 [] [.ag 16] gs out:=by
 unfold Yp at h;split at h
 ·cases h;obtain⟨⟨a,J'⟩,h1,h2⟩:=xZ.1 aEe;exact apn (Nl XG 1000000) Iz rfl h1 8 h2 rfl
 ·cases h
