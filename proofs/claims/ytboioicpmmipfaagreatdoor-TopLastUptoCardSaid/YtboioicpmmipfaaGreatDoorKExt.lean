/- How strings compare, sums with a carry: the kit's models, laid here. -/
import Derived.Test.YtboioicpmmipfaaGreatDoorAbsTold
import Derived.Test.YtboioicpmmipfaaGreatDoorKOk31
namespace Go.Proofs.YtboioicpmmipfaaGreatDoor
open Go Go.aP
theorem apH{gs out:Q1}(h:Vw gs=some out):qG Tryz.prog dG 221 [] [.sc] gs out:=apF anE h
theorem aod{gs out:Q1}(h:Qe gs=some out):qG Tryz.prog dG 106 [] [.sc,.sc] gs out:=aoc anD h
end Go.Proofs.YtboioicpmmipfaaGreatDoor
namespace Go.Proofs.YtboioicpmmipfaaGreatDoor
open Go.aP
set_option maxRecDepth 100000
theorem aFr:((call SH 1000000 168 [] F0).bind λx=>vK Tryz.prog x.2 8 x.1)=some (mG (.g (amG.map λn=>.i .u32 n))):=by kernel_rfl
theorem aFs{gs out:Q1}(h:Yv gs=some out):qG Tryz.prog dG 168 [] [.ag 16] gs out:=by
 unfold Yv at h;split at h
 ·cases h;obtain⟨⟨a,F'⟩,h1,h2⟩:=yH.1 aFr;exact apX (Nz XL 1000000) Jc rfl h1 8 h2 rfl
 ·cases h
