/- What message.Names answers, as a contract over values: from the one run of it. -/
import Derived.Test.YtcpfjpcdcafjmaaGreatDoorKNames
import Derived.Test.YtcpfjpcdcafjmaaGreatDoorKOk20
import Derived.Test.YtcpfjpcdcafjmaaGreatDoorAbsTold3
namespace Go.Proofs.YtcpfjpcdcafjmaaGreatDoor
open Go.aO
set_option maxRecDepth 100000
theorem aml {gs out:List GV} (h:Qo gs=some out):sO Tryz.prog fF 45 [] [.sc] gs out:=by
 unfold Qo at h;split at h
 ·cases h
  obtain ⟨⟨a,σ'⟩,h1,h2⟩:=vU.1 adp;exact agR (J8 Xe 1000000) Gs rfl h1 8 (h2.trans rfl) rfl
 ·cases h
end Go.Proofs.YtcpfjpcdcafjmaaGreatDoor
