/- What message.Names answers: one run, its result frozen. -/
import Derived.Test.YtcpfjpcdcafjmaaGreatDoorKPl
namespace Go.Proofs.YtcpfjpcdcafjmaaGreatDoor
open Go.aN
set_option maxRecDepth 100000
theorem abg:((call Oe 1000000 45 [] σ0).bind λx=>rD Tryz.prog x.2 8 x.1)=some abf:=by kernel_rfl
theorem aiF (h:∀p∈Oe,dS Tryz.prog p.1 p.2):dS Tryz.prog 45 λargs σ=>(TI args).map (·,σ):=by
 refine dS.aiQ λargs r hg=>?_;unfold TI at hg;split at hg
 ·cases hg
  obtain ⟨⟨a,σ'⟩,h1,h2⟩:=uf.1 abg;exact Fn.abm (Iy h 1000000) Em rfl rfl h1 8 h2
 ·cases hg
end Go.Proofs.YtcpfjpcdcafjmaaGreatDoor
