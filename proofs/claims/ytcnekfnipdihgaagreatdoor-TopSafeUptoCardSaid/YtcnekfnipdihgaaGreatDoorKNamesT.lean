/- What message.Names answers, as a contract over values: from the one run of it. -/
import Derived.Test.YtcnekfnipdihgaaGreatDoorKOk31
import Derived.Test.YtcnekfnipdihgaaGreatDoorAbsTold
namespace Go.Proofs.YtcnekfnipdihgaaGreatDoor
open Go.aP
set_option maxRecDepth 100000
theorem ax1{gs out:Q3}(h:Xt gs=some out):pO Tryz.prog dD 195 [] [.sc] gs out:=by
 unfold Xt at h;split at h
 ·cases h;obtain⟨⟨a,J'⟩,h1,h2⟩:=xZ.1 ajN;exact apm (Nl XG 1000000) Iz rfl h1 8 (h2.trans rfl) rfl
 ·cases h
