/- What crc.sums answers: one run of it, its result frozen; as a contract over values. -/
import Derived.Test.YtnlegpmfkopalaaGreatDoorKOk19
import Derived.Test.YtnlegpmfkopalaaGreatDoorAbsTold3
namespace Go.Proofs.YtnlegpmfkopalaaGreatDoor
open Go.aN
set_option maxRecDepth 100000
theorem apS:((call Ld 1000000 124 [] σ0).bind λx=>qg Tryz.prog x.2 8 x.1)=some (jL (.g (aee.map λn=>.i .u32 n))):=by kernel_rfl
theorem apT {gs out:List GV} (h:QE gs=some out):pO Tryz.prog fF 124 [] [.ag 16] gs out:=by
 unfold QE at h;split at h
 ·cases h
  obtain ⟨⟨a,σ'⟩,h1,h2⟩:=sZ.1 apS;exact agu (Gy P9 1000000) C9 rfl h1 8 h2 rfl
 ·cases h
end Go.Proofs.YtnlegpmfkopalaaGreatDoor
