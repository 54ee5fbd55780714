/- What message.Names answers: one run, its result frozen. -/
import Derived.Test.YthgifdbaegpbpaaGreatDoorKPl
namespace Go.Proofs.YthgifdbaegpbpaaGreatDoor
open Go.aP
set_option maxRecDepth 100000
theorem acC:((call FU 1000000 77 [] σ0).bind fun x=>nI Tryz.prog x.2 8 x.1)=some acB:=by kernel_rfl
theorem akK (h:∀p∈FU,dU Tryz.prog p.1 p.2):dU Tryz.prog 77 fun args σ=>(QF args).map (·,σ):=by
 refine dU.akW fun args r hg=>?_
 unfold QF at hg
 split at hg
 ·cases hg
  obtain ⟨⟨a,σ'⟩,h1,h2⟩:=Option.bind_eq_some_iff.1 acC
  exact Fn.QN (BR h 1000000) zu rfl rfl h1 8 h2
 ·cases hg
end Go.Proofs.YthgifdbaegpbpaaGreatDoor
