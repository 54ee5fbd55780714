/- What message.Names answers: one run, its result frozen. -/
import Derived.Test.YtjglbndncdkhhaaGreatDoorKPl
namespace Go.Proofs.YtjglbndncdkhhaaGreatDoor
open Go.aN
set_option maxRecDepth 100000
theorem acN:((call Qb 1000000 39 [] σ0).bind λx=>rF Tryz.prog x.2 8 x.1)=some acM:=by kernel_rfl
theorem akU (h:∀p∈Qb,dY Tryz.prog p.1 p.2):dY Tryz.prog 39 λargs σ=>(VK args).map (·,σ):=by
 refine dY.ak8 λargs r hg=>?_;unfold VK at hg;split at hg
 ·cases hg
  obtain ⟨⟨a,σ'⟩,h1,h2⟩:=uH.1 acN;exact Fn.acS (Jg h 1000000) EU rfl rfl h1 8 h2
 ·cases hg
end Go.Proofs.YtjglbndncdkhhaaGreatDoor
