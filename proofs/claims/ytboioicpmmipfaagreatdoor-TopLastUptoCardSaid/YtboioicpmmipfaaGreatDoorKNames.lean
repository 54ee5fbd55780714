/- What message.Names answers: one run, its result frozen. -/
import Derived.Test.YtboioicpmmipfaaGreatDoorKPl
namespace Go.Proofs.YtboioicpmmipfaaGreatDoor
open Go.aP
set_option maxRecDepth 100000
theorem akg:((call SH 1000000 185 [] F0).bind λx=>vK Tryz.prog x.2 8 x.1)=some akf:=by kernel_rfl
theorem ay2(h:∀p∈SH,eG Tryz.prog p.1 p.2):eG Tryz.prog 185 λargs F=>(ab2 args).map (·,F):=by
 refine eG.azl λargs r hg=>?_;unfold ab2 at hg;split at hg
 ·cases hg;obtain⟨⟨a,F'⟩,h1,h2⟩:=yH.1 akg;exact Fn.acf (Nz h 1000000) Jc rfl rfl h1 8 h2
 ·cases hg
