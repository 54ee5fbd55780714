/- What message.Names answers, as a contract over values: from the one run of it. -/
import Derived.Test.YtboioicpmmipfaaGreatDoorKOk31
import Derived.Test.YtboioicpmmipfaaGreatDoorAbsTold
namespace Go.Proofs.YtboioicpmmipfaaGreatDoor
open Go.aP
set_option maxRecDepth 100000
theorem ay3{gs out:Q1}(h:Xy gs=some out):qG Tryz.prog dG 185 [] [.sc] gs out:=by
 unfold Xy at h;split at h
 ·cases h;obtain⟨⟨a,F'⟩,h1,h2⟩:=yH.1 akg;exact apW (Nz XL 1000000) Jc rfl h1 8 (h2.trans rfl) rfl
 ·cases h
