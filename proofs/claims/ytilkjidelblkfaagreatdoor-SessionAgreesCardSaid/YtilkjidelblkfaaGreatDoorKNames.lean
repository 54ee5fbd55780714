/- What message.Names answers: one run, its result frozen. -/
import Derived.Test.YtilkjidelblkfaaGreatDoorKPl
namespace Go.Proofs.YtilkjidelblkfaaGreatDoor
open Go.aJ
set_option maxRecDepth 100000
theorem adO:((call Rh 1000000 107 [] σ0).bind λx=>sV Tryz.prog x.2 8 x.1)=some adN:=by kernel_rfl
theorem anU (h:∀p∈Rh,dS Tryz.prog p.1 p.2):dS Tryz.prog 107 λargs σ=>(WS args).map (·,σ):=by
 refine dS.aoa λargs r hg=>?_;unfold WS at hg;split at hg
 ·cases hg
  obtain ⟨⟨a,σ'⟩,h1,h2⟩:=vJ.1 adO;exact Fn.adW (KC h 1000000) Gy rfl rfl h1 8 h2
 ·cases hg
end Go.Proofs.YtilkjidelblkfaaGreatDoor
