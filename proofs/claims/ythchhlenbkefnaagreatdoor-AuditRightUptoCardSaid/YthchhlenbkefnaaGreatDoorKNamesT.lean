/- What message.Names answers, as a contract over values: from the one run of it. -/
import Derived.Test.YthchhlenbkefnaaGreatDoorKOk30
import Derived.Test.YthchhlenbkefnaaGreatDoorAbsTold
namespace Go.Proofs.YthchhlenbkefnaaGreatDoor
open Go.aN
set_option maxRecDepth 100000
theorem ax3{gs out:Q1}(h:WJ gs=some out):oZ Tryz.prog bZ 208 [] [.sc] gs out:=by
 unfold WJ at h;split at h
 ·cases h;obtain⟨⟨a,J'⟩,h1,h2⟩:=xM.1 ajj;exact aoT (MF WZ 1000000) Ii rfl h1 8 (h2.trans rfl) rfl
 ·cases h
