/- How strings compare, sums with a carry: the kit's models, laid here. -/
import Derived.Test.YtogfeeabnklegaaGreatDoorAbsTold
import Derived.Test.YtogfeeabnklegaaGreatDoorKOk27
namespace Go.Proofs.YtogfeeabnklegaaGreatDoor
open Go Go.aP
theorem apd{gs out:Q1}(h:Vx gs=some out):qG Tryz.prog dH 173 [] [.sc] gs out:=apc ani h
theorem anQ{gs out:Q1}(h:Qm gs=some out):qG Tryz.prog dH 90 [] [.sc,.sc] gs out:=anP x90 h
end Go.Proofs.YtogfeeabnklegaaGreatDoor
namespace Go.Proofs.YtogfeeabnklegaaGreatDoor
open Go.aP
set_option maxRecDepth 100000
theorem aEv:((call SN 1000000 148 [] J0).bind λx=>vK Tryz.prog x.2 8 x.1)=some (mD (.g (amq.map λn=>.i .u32 n))):=by kernel_rfl
theorem aEw{gs out:Q1}(h:YA gs=some out):qG Tryz.prog dH 148 [] [.ag 16] gs out:=by
 unfold YA at h;split at h
 ·cases h;obtain⟨⟨a,J'⟩,h1,h2⟩:=yE.1 aEv;exact apv (NJ XK 1000000) Jb rfl h1 8 h2 rfl
 ·cases h
