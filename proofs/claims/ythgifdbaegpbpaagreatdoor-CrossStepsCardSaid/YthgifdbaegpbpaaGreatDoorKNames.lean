/- What message.Names answers: one run, its result frozen. -/
import Derived.Test.YthgifdbaegpbpaaGreatDoorKPl
namespace Go.Proofs.YthgifdbaegpbpaaGreatDoor
open Go.aN
set_option maxRecDepth 100000
theorem acv:((call P7 1000000 77 [] σ0).bind λx=>sZ Tryz.prog x.2 8 x.1)=some acu:=by kernel_rfl
theorem alf (h:∀p∈P7,dY Tryz.prog p.1 p.2):dY Tryz.prog 77 λargs σ=>(Vr args).map (·,σ):=by
 refine dY.alu λargs r hg=>?_;unfold Vr at hg;split at hg
 ·cases hg
  obtain ⟨⟨a,σ'⟩,h1,h2⟩:=vF.1 acv;exact Fn.acC (JH h 1000000) FU rfl rfl h1 8 h2
 ·cases hg
end Go.Proofs.YthgifdbaegpbpaaGreatDoor
