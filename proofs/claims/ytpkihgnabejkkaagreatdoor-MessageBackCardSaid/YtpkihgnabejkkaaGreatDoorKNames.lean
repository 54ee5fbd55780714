/- What message.Names answers: one run, its result frozen. -/
import Derived.Test.YtpkihgnabejkkaaGreatDoorKPl
namespace Go.Proofs.YtpkihgnabejkkaaGreatDoor
open Go.aJ
set_option maxRecDepth 100000
theorem aaj:((call H6 1000000 16 [] σ0).bind fun x=>nS Tryz.prog x.2 8 x.1)=some aai:=by kernel_rfl
theorem ahO (h:∀p∈H6,dR Tryz.prog p.1 p.2):dR Tryz.prog 16 fun args σ=>(NI args).map (·,σ):=by
 refine dR.ah0 fun args r hg=>?_
 unfold NI at hg
 split at hg
 ·cases hg
  obtain ⟨⟨a,σ'⟩,h1,h2⟩:=Option.bind_eq_some_iff.1 aaj
  exact Fn.aan (Dh h 1000000) zL rfl rfl h1 8 h2
 ·cases hg
end Go.Proofs.YtpkihgnabejkkaaGreatDoor
