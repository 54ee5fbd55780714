/- What message.Names answers, as a contract over values: from the one run of it. -/
import Derived.Test.YtjglbndncdkhhaaGreatDoorKNames
import Derived.Test.YtjglbndncdkhhaaGreatDoorKOk20
import Derived.Test.YtjglbndncdkhhaaGreatDoorAbsTold3
namespace Go.Proofs.YtjglbndncdkhhaaGreatDoor
open Go.aN
set_option maxRecDepth 100000
theorem akV {gs out:List GV} (h:PV gs=some out):qN Tryz.prog fQ 39 [] [.sc] gs out:=by
 unfold PV at h;split at h
 ·cases h
  obtain ⟨⟨a,σ'⟩,h1,h2⟩:=uH.1 acN;exact agw (Jg WT 1000000) EU rfl h1 8 (h2.trans rfl) rfl
 ·cases h
end Go.Proofs.YtjglbndncdkhhaaGreatDoor
