/- What message.Names answers, as a contract over values: from the one run of it. -/
import Derived.Test.YtkoclengoeonnaaGreatDoorKOk31
import Derived.Test.YtkoclengoeonnaaGreatDoorAbsTold
namespace Go.Proofs.YtkoclengoeonnaaGreatDoor
open Go.aP
set_option maxRecDepth 100000
theorem au3{gs out:Q1}(h:Vp gs=some out):ou Tryz.prog bY 120 [] [.sc] gs out:=by
 unfold Vp at h;split at h
 ·cases h;obtain⟨⟨a,J'⟩,h1,h2⟩:=wJ.1 ahR;exact amP (La VF 1000000) G9 rfl h1 8 (h2.trans rfl) rfl
 ·cases h
