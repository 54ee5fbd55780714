/- What message.Names answers: one run, its result frozen. -/
import Derived.Test.YtnlegpmfkopalaaGreatDoorKPl
namespace Go.Proofs.YtnlegpmfkopalaaGreatDoor
open Go.aN
set_option maxRecDepth 100000
theorem acs:((call Ld 1000000 32 [] σ0).bind λx=>qg Tryz.prog x.2 8 x.1)=some acr:=by kernel_rfl
theorem alT (h:∀p∈Ld,fA Tryz.prog p.1 p.2):fA Tryz.prog 32 λargs σ=>(Vs args).map (·,σ):=by
 refine fA.al7 λargs r hg=>?_;unfold Vs at hg;split at hg
 ·cases hg
  obtain ⟨⟨a,σ'⟩,h1,h2⟩:=sZ.1 acs;exact Fn.VB (Gy h 1000000) C9 rfl rfl h1 8 h2
 ·cases hg
end Go.Proofs.YtnlegpmfkopalaaGreatDoor
