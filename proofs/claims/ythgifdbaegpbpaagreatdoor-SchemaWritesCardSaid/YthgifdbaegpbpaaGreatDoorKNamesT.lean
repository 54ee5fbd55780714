/- What message.Names answers, as a contract over values: from the one run of it. -/
import Derived.Test.YthgifdbaegpbpaaGreatDoorKNames
import Derived.Test.YthgifdbaegpbpaaGreatDoorKOk19
import Derived.Test.YthgifdbaegpbpaaGreatDoorAbsTold3
namespace Go.Proofs.YthgifdbaegpbpaaGreatDoor
open Go.aP
set_option maxRecDepth 100000
theorem akL {gs out:List GV} (h:Jt gs=some out):aI Tryz.prog aH 77 [] [.sc] gs out:=by
 unfold Jt at h
 split at h
 ·cases h
  obtain ⟨⟨a,σ'⟩,h1,h2⟩:=Option.bind_eq_some_iff.1 acC
  exact agR (BR JC 1000000) zu rfl h1 8 (h2.trans rfl) rfl
 ·cases h
end Go.Proofs.YthgifdbaegpbpaaGreatDoor
