/- What message.Names answers: one run, its result frozen. -/
import Derived.Test.YtlifdeocdbjalaaGreatDoorKPl
namespace Go.Proofs.YtlifdeocdbjalaaGreatDoor
open Go.aN
set_option maxRecDepth 100000
theorem acA:((call Ji 1000000 60 [] σ0).bind fun x=>oI Tryz.prog x.2 8 x.1)=some acz:=by kernel_rfl
theorem akv (h:∀p∈Ji,dA Tryz.prog p.1 p.2):dA Tryz.prog 60 fun args σ=>(PN args).map (·,σ):=by
 refine dA.akI fun args r hg=>?_
 unfold PN at hg
 split at hg
 ·cases hg
  obtain ⟨⟨a,σ'⟩,h1,h2⟩:=Option.bind_eq_some_iff.1 acA
  exact Fn.acG (Ec h 1000000) Ag rfl rfl h1 8 h2
 ·cases hg
end Go.Proofs.YtlifdeocdbjalaaGreatDoor
