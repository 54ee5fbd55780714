/- What message.Names answers, as a contract over values: from the one run of it. -/
import Derived.Test.YtnlegpmfkopalaaGreatDoorKNames
import Derived.Test.YtnlegpmfkopalaaGreatDoorKOk19
import Derived.Test.YtnlegpmfkopalaaGreatDoorAbsTold3
namespace Go.Proofs.YtnlegpmfkopalaaGreatDoor
open Go.aN
set_option maxRecDepth 100000
theorem alU {gs out:List GV} (h:PS gs=some out):pO Tryz.prog fF 32 [] [.sc] gs out:=by
 unfold PS at h;split at h
 ·cases h
  obtain ⟨⟨a,σ'⟩,h1,h2⟩:=sZ.1 acs;exact agt (Gy P9 1000000) C9 rfl h1 8 (h2.trans rfl) rfl
 ·cases h
end Go.Proofs.YtnlegpmfkopalaaGreatDoor
