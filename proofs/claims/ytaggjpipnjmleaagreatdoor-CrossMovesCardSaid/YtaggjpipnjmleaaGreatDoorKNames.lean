/- What message.Names answers: one run, its result frozen. -/
import Derived.Test.YtaggjpipnjmleaaGreatDoorKPl
namespace Go.Proofs.YtaggjpipnjmleaaGreatDoor
open Go.aJ
set_option maxRecDepth 100000
theorem acJ:((call P7 1000000 84 [] σ0).bind λx=>qY Tryz.prog x.2 8 x.1)=some acI:=by kernel_rfl
theorem amy (h:∀p∈P7,eH Tryz.prog p.1 p.2):eH Tryz.prog 84 λargs σ=>(VA args).map (·,σ):=by
 refine eH.amM λargs r hg=>?_;unfold VA at hg;split at hg
 ·cases hg
  obtain ⟨⟨a,σ'⟩,h1,h2⟩:=uH.1 acJ;exact Fn.acQ (JB h 1000000) E5 rfl rfl h1 8 h2
 ·cases hg
end Go.Proofs.YtaggjpipnjmleaaGreatDoor
