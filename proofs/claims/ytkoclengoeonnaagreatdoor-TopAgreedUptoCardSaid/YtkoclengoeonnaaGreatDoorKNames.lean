/- What message.Names answers: one run, its result frozen. -/
import Derived.Test.YtkoclengoeonnaaGreatDoorKPl
namespace Go.Proofs.YtkoclengoeonnaaGreatDoor
open Go.aP
set_option maxRecDepth 100000
theorem ahR:((call Qp 1000000 120 [] J0).bind λx=>sJ Tryz.prog x.2 8 x.1)=some ahQ:=by kernel_rfl
theorem au2(h:∀p∈Qp,dK Tryz.prog p.1 p.2):dK Tryz.prog 120 λargs J=>(aam args).map (·,J):=by
 refine dK.avm λargs r hg=>?_;unfold aam at hg;split at hg
 ·cases hg;obtain⟨⟨a,J'⟩,h1,h2⟩:=wJ.1 ahR;exact Fn.aat (La h 1000000) G9 rfl rfl h1 8 h2
 ·cases hg
