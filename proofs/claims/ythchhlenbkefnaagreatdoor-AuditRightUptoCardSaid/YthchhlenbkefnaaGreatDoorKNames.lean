/- What message.Names answers: one run, its result frozen. -/
import Derived.Test.YthchhlenbkefnaaGreatDoorKPl
namespace Go.Proofs.YthchhlenbkefnaaGreatDoor
open Go.aN
set_option maxRecDepth 100000
theorem ajj:((call Rl 1000000 208 [] J0).bind λx=>uI Tryz.prog x.2 8 x.1)=some aji:=by kernel_rfl
theorem ax2(h:∀p∈Rl,dO Tryz.prog p.1 p.2):dO Tryz.prog 208 λargs J=>(abn args).map (·,J):=by
 refine dO.ayl λargs r hg=>?_;unfold abn at hg;split at hg
 ·cases hg;obtain⟨⟨a,J'⟩,h1,h2⟩:=xM.1 ajj;exact Fn.abw (MF h 1000000) Ii rfl rfl h1 8 h2
 ·cases hg
