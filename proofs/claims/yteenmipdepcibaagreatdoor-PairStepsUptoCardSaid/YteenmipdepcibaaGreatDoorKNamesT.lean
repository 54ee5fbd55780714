/- What message.Names answers, as a contract over values: from the one run of it. -/
import Derived.Test.YteenmipdepcibaaGreatDoorKOk27
import Derived.Test.YteenmipdepcibaaGreatDoorAbsTold
namespace Go.Proofs.YteenmipdepcibaaGreatDoor
open Go.aN
set_option maxRecDepth 100000
theorem aul{gs out:Q1}(h:UK gs=some out):nP Tryz.prog bU 144 [] [.sc] gs out:=by
 unfold UK at h;split at h
 ·cases h;obtain⟨⟨a,J'⟩,h1,h2⟩:=vJ.1 agZ;exact alU (Kt U1 1000000) FY rfl h1 8 (h2.trans rfl) rfl
 ·cases h
