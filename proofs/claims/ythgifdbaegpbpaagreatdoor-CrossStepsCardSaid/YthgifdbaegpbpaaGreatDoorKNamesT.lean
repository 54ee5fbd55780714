/- What message.Names answers, as a contract over values: from the one run of it. -/
import Derived.Test.YthgifdbaegpbpaaGreatDoorKNames
import Derived.Test.YthgifdbaegpbpaaGreatDoorKOk20
import Derived.Test.YthgifdbaegpbpaaGreatDoorAbsTold3
namespace Go.Proofs.YthgifdbaegpbpaaGreatDoor
open Go.aN
set_option maxRecDepth 100000
theorem alg {gs out:List GV} (h:PO gs=some out):sD Tryz.prog fG 77 [] [.sc] gs out:=by
 unfold PO at h;split at h
 ·cases h
  obtain ⟨⟨a,σ'⟩,h1,h2⟩:=vF.1 acv;exact afS (JH Wp 1000000) FU rfl h1 8 (h2.trans rfl) rfl
 ·cases h
end Go.Proofs.YthgifdbaegpbpaaGreatDoor
