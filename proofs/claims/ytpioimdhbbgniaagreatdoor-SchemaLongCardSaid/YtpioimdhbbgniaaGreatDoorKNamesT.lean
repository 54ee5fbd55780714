/- What message.Names answers, as a contract over values: from the one run of it. -/
import Derived.Test.YtpioimdhbbgniaaGreatDoorKNames
import Derived.Test.YtpioimdhbbgniaaGreatDoorKOk19
import Derived.Test.YtpioimdhbbgniaaGreatDoorAbsTold3
namespace Go.Proofs.YtpioimdhbbgniaaGreatDoor
open Go.aJ
set_option maxRecDepth 100000
theorem ai0 {gs out:List GV} (h:OE gs=some out):oP Tryz.prog fU 45 [] [.sc] gs out:=by
 unfold OE at h;split at h
 ·cases h
  obtain ⟨⟨a,σ'⟩,h1,h2⟩:=uG.1 abq;exact aeJ (Je Va 1000000) Ew rfl h1 8 (h2.trans rfl) rfl
 ·cases h
end Go.Proofs.YtpioimdhbbgniaaGreatDoor
