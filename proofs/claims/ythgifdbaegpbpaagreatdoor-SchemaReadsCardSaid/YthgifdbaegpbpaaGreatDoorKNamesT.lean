/- What message.Names answers, as a contract over values: from the one run of it. -/
import Derived.Test.YthgifdbaegpbpaaGreatDoorKNames
import Derived.Test.YthgifdbaegpbpaaGreatDoorKOk19
import Derived.Test.YthgifdbaegpbpaaGreatDoorAbsTold3
namespace Go.Proofs.YthgifdbaegpbpaaGreatDoor
open Go.aK
set_option maxRecDepth 100000
theorem akd {gs out:List GV} (h:Oc gs=some out):rC Tryz.prog dW 77 [] [.sc] gs out:=by
 unfold Oc at h;split at h
 ·cases h
  obtain ⟨⟨a,σ'⟩,h1,h2⟩:=uD.1 abj;exact aeR (I4 UG 1000000) ES rfl h1 8 (h2.trans rfl) rfl
 ·cases h
end Go.Proofs.YthgifdbaegpbpaaGreatDoor
