/- What message.Names answers: one run, its result frozen. -/
import Derived.Test.YtcnekfnipdihgaaGreatDoorKPl
namespace Go.Proofs.YtcnekfnipdihgaaGreatDoor
open Go.aP
set_option maxRecDepth 100000
theorem ajN:((call SG 1000000 195 [] J0).bind λx=>uY Tryz.prog x.2 8 x.1)=some ajM:=by kernel_rfl
theorem ax0(h:∀p∈SG,dP Tryz.prog p.1 p.2):dP Tryz.prog 195 λargs J=>(abT args).map (·,J):=by
 refine dP.ayi λargs r hg=>?_;unfold abT at hg;split at hg
 ·cases hg;obtain⟨⟨a,J'⟩,h1,h2⟩:=xZ.1 ajN;exact Fn.ab2 (Nl h 1000000) Iz rfl rfl h1 8 h2
 ·cases hg
