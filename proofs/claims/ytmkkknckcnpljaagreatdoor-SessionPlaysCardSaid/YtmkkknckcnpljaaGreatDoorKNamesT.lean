/- What message.Names answers, as a contract over values: from the one run of it. -/
import Derived.Test.YtmkkknckcnpljaaGreatDoorKOk26
import Derived.Test.YtmkkknckcnpljaaGreatDoorAbsTold
namespace Go.Proofs.YtmkkknckcnpljaaGreatDoor
open Go.aO
set_option maxRecDepth 100000
theorem avR{gs out:Q1}(h:UY gs=some out):ql Tryz.prog bG 126 [] [.sc] gs out:=by
 unfold UY at h;split at h
 ·cases h;obtain⟨⟨a,J'⟩,h1,h2⟩:=xH.1 ag8;exact amg (Oy aaM 1000000) JR rfl h1 8 (h2.trans rfl) rfl
 ·cases h
