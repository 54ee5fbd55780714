/- What message.Names answers: one run, its result frozen. -/
import Derived.Test.YtpioimdhbbgniaaGreatDoorKPl
namespace Go.Proofs.YtpioimdhbbgniaaGreatDoor
open Go.aJ
set_option maxRecDepth 100000
theorem abq:((call OX 1000000 45 [] σ0).bind λx=>rJ Tryz.prog x.2 8 x.1)=some abp:=by kernel_rfl
theorem aiZ (h:∀p∈OX,dN Tryz.prog p.1 p.2):dN Tryz.prog 45 λargs σ=>(Uk args).map (·,σ):=by
 refine dN.ajb λargs r hg=>?_;unfold Uk at hg;split at hg
 ·cases hg
  obtain ⟨⟨a,σ'⟩,h1,h2⟩:=uG.1 abq;exact Fn.aby (Je h 1000000) Ew rfl rfl h1 8 h2
 ·cases hg
end Go.Proofs.YtpioimdhbbgniaaGreatDoor
