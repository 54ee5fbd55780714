/- What crc.sums answers: one run of it, its result frozen; as a contract over values. -/
import Derived.Test.YthgifdbaegpbpaaGreatDoorKOk19
import Derived.Test.YthgifdbaegpbpaaGreatDoorAbsTold3
namespace Go.Proofs.YthgifdbaegpbpaaGreatDoor
open Go.aP
set_option maxRecDepth 100000
theorem apd:((call FU 1000000 209 [] σ0).bind fun x=>nI Tryz.prog x.2 8 x.1)=some (iG (.g (ael.map fun n=>.i .u32 n))):=by kernel_rfl
theorem ape {gs out:List GV} (h:L8 gs=some out):aI Tryz.prog aH 209 [] [.ag 16] gs out:=by
 unfold L8 at h
 split at h
 ·cases h
  obtain ⟨⟨a,σ'⟩,h1,h2⟩:=Option.bind_eq_some_iff.1 apd
  exact agS (BR JC 1000000) zu rfl h1 8 h2 rfl
 ·cases h
end Go.Proofs.YthgifdbaegpbpaaGreatDoor
