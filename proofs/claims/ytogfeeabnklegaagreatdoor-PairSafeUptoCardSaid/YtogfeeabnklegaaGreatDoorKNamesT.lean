/- What message.Names answers, as a contract over values: from the one run of it. -/
import Derived.Test.YtogfeeabnklegaaGreatDoorKOk27
import Derived.Test.YtogfeeabnklegaaGreatDoorAbsTold
namespace Go.Proofs.YtogfeeabnklegaaGreatDoor
open Go.aP
set_option maxRecDepth 100000
theorem aym{gs out:Q1}(h:Xy gs=some out):qG Tryz.prog dH 158 [] [.sc] gs out:=by
 unfold Xy at h;split at h
 ·cases h;obtain⟨⟨a,J'⟩,h1,h2⟩:=yE.1 ajT;exact apu (NJ XK 1000000) Jb rfl h1 8 (h2.trans rfl) rfl
 ·cases h
