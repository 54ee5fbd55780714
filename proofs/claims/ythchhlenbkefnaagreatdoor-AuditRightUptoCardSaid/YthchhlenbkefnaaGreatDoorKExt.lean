/- How strings compare, sums with a carry: the kit's models, laid here. -/
import Derived.Test.YthchhlenbkefnaaGreatDoorAbsTold
import Derived.Test.YthchhlenbkefnaaGreatDoorKOk30
namespace Go.Proofs.YthchhlenbkefnaaGreatDoor
open Go Go.aN
theorem aoF{gs out:Q1}(h:UQ gs=some out):oZ Tryz.prog bZ 207 [] [.sc] gs out:=aoE amw h
theorem am4{gs out:Q1}(h:Pm gs=some out):oZ Tryz.prog bZ 105 [] [.sc,.sc] gs out:=am3 amv h
end Go.Proofs.YthchhlenbkefnaaGreatDoor
namespace Go.Proofs.YthchhlenbkefnaaGreatDoor
open Go.aN
set_option maxRecDepth 100000
theorem aEv:((call Rl 1000000 172 [] J0).bind λx=>uI Tryz.prog x.2 8 x.1)=some (lH (.g (alG.map λn=>.i .u32 n))):=by kernel_rfl
theorem aEw{gs out:Q1}(h:XI gs=some out):oZ Tryz.prog bZ 172 [] [.ag 16] gs out:=by
 unfold XI at h;split at h
 ·cases h;obtain⟨⟨a,J'⟩,h1,h2⟩:=xM.1 aEv;exact aoU (MF WZ 1000000) Ii rfl h1 8 h2 rfl
 ·cases h
