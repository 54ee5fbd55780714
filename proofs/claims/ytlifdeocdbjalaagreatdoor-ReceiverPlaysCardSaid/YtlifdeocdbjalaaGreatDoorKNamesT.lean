/- What message.Names answers, as a contract over values: from the one run of it. -/
import Derived.Test.YtlifdeocdbjalaaGreatDoorKNames
import Derived.Test.YtlifdeocdbjalaaGreatDoorKOk25
import Derived.Test.YtlifdeocdbjalaaGreatDoorAbsTold3
namespace Go.Proofs.YtlifdeocdbjalaaGreatDoor
open Go.aN
set_option maxRecDepth 100000
theorem akw {gs out:List GV} (h:Ja gs=some out):aG Tryz.prog aF 60 [] [.sc] gs out:=by
 unfold Ja at h
 split at h
 ·cases h
  obtain ⟨⟨a,σ'⟩,h1,h2⟩:=Option.bind_eq_some_iff.1 acA
  exact agU (Ec QA 1000000) Ag rfl h1 8 (h2.trans rfl) rfl
 ·cases h
end Go.Proofs.YtlifdeocdbjalaaGreatDoor
