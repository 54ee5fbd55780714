/- What message.Names answers: one run, its result frozen. -/
import Derived.Test.YthgifdbaegpbpaaGreatDoorKPl
namespace Go.Proofs.YthgifdbaegpbpaaGreatDoor
open Go.aK
set_option maxRecDepth 100000
theorem abj:((call Ox 1000000 77 [] σ0).bind λx=>rP Tryz.prog x.2 8 x.1)=some abh:=by kernel_rfl
theorem akc (h:∀p∈Ox,dZ Tryz.prog p.1 p.2):dZ Tryz.prog 77 λargs σ=>(TK args).map (·,σ):=by
 refine dZ.akn λargs r hg=>?_;unfold TK at hg;split at hg
 ·cases hg
  obtain ⟨⟨a,σ'⟩,h1,h2⟩:=uD.1 abj;exact Fn.abr (I4 h 1000000) ES rfl rfl h1 8 h2
 ·cases hg
end Go.Proofs.YthgifdbaegpbpaaGreatDoor
