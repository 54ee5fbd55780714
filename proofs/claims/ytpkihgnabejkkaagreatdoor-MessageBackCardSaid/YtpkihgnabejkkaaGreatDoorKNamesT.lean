/- What message.Names answers, as a contract over values: from the one run of it. -/
import Derived.Test.YtpkihgnabejkkaaGreatDoorKNames
import Derived.Test.YtpkihgnabejkkaaGreatDoorKOk18
import Derived.Test.YtpkihgnabejkkaaGreatDoorAbsTold3
namespace Go.Proofs.YtpkihgnabejkkaaGreatDoor
open Go.aJ
set_option maxRecDepth 100000
theorem ahP {gs out:List GV} (h:Ho gs=some out):aG Tryz.prog aI 16 [] [.sc] gs out:=by
 unfold Ho at h
 split at h
 ·cases h
  obtain ⟨⟨a,σ'⟩,h1,h2⟩:=Option.bind_eq_some_iff.1 aaj
  exact ad9 (Dh OB 1000000) zL rfl h1 8 (h2.trans rfl) rfl
 ·cases h
end Go.Proofs.YtpkihgnabejkkaaGreatDoor
