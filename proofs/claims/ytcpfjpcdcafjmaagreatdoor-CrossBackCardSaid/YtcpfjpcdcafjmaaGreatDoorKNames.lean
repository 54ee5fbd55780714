/- What message.Names answers: one run, its result frozen. -/
import Derived.Test.YtcpfjpcdcafjmaaGreatDoorKPl
namespace Go.Proofs.YtcpfjpcdcafjmaaGreatDoor
open Go.aO
set_option maxRecDepth 100000
theorem adp:((call Qz 1000000 45 [] σ0).bind λx=>tN Tryz.prog x.2 8 x.1)=some ado:=by kernel_rfl
theorem amk (h:∀p∈Qz,eF Tryz.prog p.1 p.2):eF Tryz.prog 45 λargs σ=>(V5 args).map (·,σ):=by
 refine eF.amz λargs r hg=>?_;unfold V5 at hg;split at hg
 ·cases hg
  obtain ⟨⟨a,σ'⟩,h1,h2⟩:=vU.1 adp;exact Fn.adu (J8 h 1000000) Gs rfl rfl h1 8 h2
 ·cases hg
end Go.Proofs.YtcpfjpcdcafjmaaGreatDoor
