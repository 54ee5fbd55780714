/- What message.Names answers: one run, its result frozen. -/
import Derived.Test.YtmkkknckcnpljaaGreatDoorKPl
namespace Go.Proofs.YtmkkknckcnpljaaGreatDoor
open Go.aO
set_option maxRecDepth 100000
theorem ag8:((call Vb 1000000 126 [] J0).bind λx=>uT Tryz.prog x.2 8 x.1)=some ag7:=by kernel_rfl
theorem avQ(h:∀p∈Vb,eY Tryz.prog p.1 p.2):eY Tryz.prog 126 λargs J=>(Z7 args).map (·,J):=by
 refine eY.av9 λargs r hg=>?_;unfold Z7 at hg;split at hg
 ·cases hg;obtain⟨⟨a,J'⟩,h1,h2⟩:=xH.1 ag8;exact Fn.ahi (Oy h 1000000) JR rfl rfl h1 8 h2
 ·cases hg
