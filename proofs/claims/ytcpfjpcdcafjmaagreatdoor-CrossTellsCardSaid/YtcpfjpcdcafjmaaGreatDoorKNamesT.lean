/- What message.Names answers, as a contract over values: from the one run of it. -/
import Derived.Test.YtcpfjpcdcafjmaaGreatDoorKNames
import Derived.Test.YtcpfjpcdcafjmaaGreatDoorKOk20
import Derived.Test.YtcpfjpcdcafjmaaGreatDoorAbsTold3
namespace Go.Proofs.YtcpfjpcdcafjmaaGreatDoor
open Go.aN
set_option maxRecDepth 100000
theorem aiG {gs out:List GV} (h:NT gs=some out):qR Tryz.prog dZ 45 [] [.sc] gs out:=by
 unfold NT at h;split at h
 ·cases h
  obtain ⟨⟨a,σ'⟩,h1,h2⟩:=uf.1 abg;exact aey (Iy UD 1000000) Em rfl h1 8 (h2.trans rfl) rfl
 ·cases h
end Go.Proofs.YtcpfjpcdcafjmaaGreatDoor
