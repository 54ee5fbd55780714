/- What message.Names answers, as a contract over values: from the one run of it. -/
import Derived.Test.YtaggjpipnjmleaaGreatDoorKNames
import Derived.Test.YtaggjpipnjmleaaGreatDoorKOk20
import Derived.Test.YtaggjpipnjmleaaGreatDoorAbsTold3
namespace Go.Proofs.YtaggjpipnjmleaaGreatDoor
open Go.aJ
set_option maxRecDepth 100000
theorem amz {gs out:List GV} (h:PD gs=some out):qN Tryz.prog dQ 84 [] [.sc] gs out:=by
 unfold PD at h;split at h
 ·cases h
  obtain ⟨⟨a,σ'⟩,h1,h2⟩:=uH.1 acJ;exact agv (JB WC 1000000) E5 rfl h1 8 (h2.trans rfl) rfl
 ·cases h
end Go.Proofs.YtaggjpipnjmleaaGreatDoor
