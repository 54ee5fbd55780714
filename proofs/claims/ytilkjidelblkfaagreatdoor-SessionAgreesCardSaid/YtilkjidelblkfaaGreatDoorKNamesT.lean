/- What message.Names answers, as a contract over values: from the one run of it. -/
import Derived.Test.YtilkjidelblkfaaGreatDoorKNames
import Derived.Test.YtilkjidelblkfaaGreatDoorKOk26
import Derived.Test.YtilkjidelblkfaaGreatDoorAbsTold3
namespace Go.Proofs.YtilkjidelblkfaaGreatDoor
open Go.aJ
set_option maxRecDepth 100000
theorem anV {gs out:List GV} (h:QS gs=some out):sD Tryz.prog fB 107 [] [.sc] gs out:=by
 unfold QS at h;split at h
 ·cases h
  obtain ⟨⟨a,σ'⟩,h1,h2⟩:=vJ.1 adO;exact ah7 (KC XI 1000000) Gy rfl h1 8 (h2.trans rfl) rfl
 ·cases h
end Go.Proofs.YtilkjidelblkfaaGreatDoor
