/- What message.Names answers: one run, its result frozen. -/
import Derived.Test.YteenmipdepcibaaGreatDoorKPl
namespace Go.Proofs.YteenmipdepcibaaGreatDoor
open Go.aN
set_option maxRecDepth 100000
theorem agZ:((call PD 1000000 144 [] J0).bind λx=>rJ Tryz.prog x.2 8 x.1)=some agY:=by kernel_rfl
theorem auk(h:∀p∈PD,dN Tryz.prog p.1 p.2):dN Tryz.prog 144 λargs J=>(ZF args).map (·,J):=by
 refine dN.auC λargs r hg=>?_;unfold ZF at hg;split at hg
 ·cases hg;obtain⟨⟨a,J'⟩,h1,h2⟩:=vJ.1 agZ;exact Fn.ZL (Kt h 1000000) FY rfl rfl h1 8 h2
 ·cases hg
