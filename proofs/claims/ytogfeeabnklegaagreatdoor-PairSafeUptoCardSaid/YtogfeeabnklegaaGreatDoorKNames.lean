/- What message.Names answers: one run, its result frozen. -/
import Derived.Test.YtogfeeabnklegaaGreatDoorKPl
namespace Go.Proofs.YtogfeeabnklegaaGreatDoor
open Go.aP
set_option maxRecDepth 100000
theorem ajT:((call SN 1000000 158 [] J0).bind λx=>vK Tryz.prog x.2 8 x.1)=some ajS:=by kernel_rfl
theorem ayl(h:∀p∈SN,fJ Tryz.prog p.1 p.2):fJ Tryz.prog 158 λargs J=>(abZ args).map (·,J):=by
 refine fJ.ayE λargs r hg=>?_;unfold abZ at hg;split at hg
 ·cases hg;obtain⟨⟨a,J'⟩,h1,h2⟩:=yE.1 ajT;exact Fn.acd (NJ h 1000000) Jb rfl rfl h1 8 h2
 ·cases hg
