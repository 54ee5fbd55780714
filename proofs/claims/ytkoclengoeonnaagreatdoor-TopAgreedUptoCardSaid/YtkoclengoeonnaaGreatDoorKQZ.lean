/- What is computed is what the program does. -/
import Derived.Test.YtkoclengoeonnaaGreatDoorKClone
import Derived.Test.YtkoclengoeonnaaGreatDoorKValid
import Derived.Test.YtkoclengoeonnaaGreatDoorKNamesT
import Derived.Test.YtkoclengoeonnaaGreatDoorKFClone
import Derived.Test.YtkoclengoeonnaaGreatDoorKSortF
import Derived.Test.YtkoclengoeonnaaGreatDoorKExt
import Derived.Test.YtkoclengoeonnaaGreatDoorKCloneF
import Derived.Test.YtkoclengoeonnaaGreatDoorKQG0
import Derived.Test.YtkoclengoeonnaaGreatDoorKQG1
import Derived.Test.YtkoclengoeonnaaGreatDoorKQG2
import Derived.Test.YtkoclengoeonnaaGreatDoorKQG3
set_option linter.all false
namespace Go.Proofs.YtkoclengoeonnaaGreatDoor
open Go Go.aP
set_option maxRecDepth 100000
namespace Q
def alr(T:aJ)(hT:T.tabs=bY):@dK T Tryz.prog 4 JA:=avE λro w h=>by obtain⟨J',hs⟩:=ZM ai7;exact amo (La aii 1000000) G9 hs (by rw[hT]at h;exact h)
def avM(T:aJ)(_:T.tabs=bY):@dK T Tryz.prog 144 Qm:=by letI:=T;exact ah8 akG
def awE(I:iJ)(hI:∀k gs out,I k gs=some out->C k gs out):yL Tryz.prog bY I pl:=
 awD low (by kernel_rfl) hI (PL.Vy (λT hT hJ=>arQ (λgs out h'=>by rw[hJ]at h';exact hI 1 gs out h')) (PL.Vy (λT hT hJ=>aAf aAg (λgs out h'=>by rw[hJ]at h';exact hI 2 gs out h')) (PL.Vy (λT hT hI=>alr T hT) (PL.Vy (λT hT hI=>avM T hT) (PL.avp)))))
def hands:Kr Tryz.prog bY rows Ds (IL rows 0):=⟨⟨_,_,rfl,rfl,λ_ _ _ _ _=>trivial⟩,⟨_,_,rfl,rfl,λ_ _ _ _ h=>h⟩,⟨_,_,rfl,rfl,λ_ _ _ _ h=>h⟩,⟨_,_,rfl,rfl,λ_ _ _ _ h=>aBV h⟩,⟨_,_,rfl,rfl,λ_ _ _ _ h=>amm h⟩,⟨_,_,rfl,rfl,λ_ _ _ _ h=>amA h⟩,⟨_,_,rfl,rfl,λ_ _ _ _ h=>au3 h⟩,⟨_,_,rfl,rfl,λ_ _ _ _ h=>aqD h⟩,⟨_,_,rfl,rfl,λ_ _ _ _ h=>aAP h⟩,⟨_,_,rfl,rfl,λ_ _ _ _ h=>ala h⟩,⟨_,_,rfl,rfl,λ_ _ _ _ h=>amn h⟩,trivial⟩
def atH:∀k gs out,TT.lim k gs=some out->C k gs out:=aBe low mixed names awE hands rfl ((Seg.of g0).join ((Seg.of g3).join ((Seg.of g4).join ((Seg.of g11).join ((Seg.of g20).join ((Seg.of g29).join ((Seg.of g36).join ((Seg.of g42).join ((Seg.of g47).join ((Seg.of g52).join ((Seg.of g53).join ((Seg.of g54).join ((Seg.of g55).join ((Seg.of g56).join ((Seg.of g64).join ((Seg.of g67).join ((Seg.of g68).join ((Seg.of g69).join ((Seg.of g94).join ((Seg.of g97).join ((Seg.of g98).join ((Seg.of g99).join ((Seg.of aq2).join ((Seg.of aq3).join ((Seg.of aq4).join ((Seg.of aq5).join ((Seg.of aq6).join ((Seg.of aq7).join ((Seg.of aq8).join ((Seg.of aq9).join ((Seg.of ara).join ((Seg.of arb).join ((Seg.of ard).join ((Seg.of arf).join ((Seg.of arh).join ((Seg.of ari).join ((Seg.of arj).join ((Seg.of ark).join ((Seg.of arl).join ((Seg.of arn).join ((Seg.of aro).join ((Seg.of arp).join ((Seg.of arq).join ((Seg.of ars).join ((Seg.of aru).join ((Seg.of arv).join ((Seg.of arw).join ((Seg.of arx).join ((Seg.of arz).join ((Seg.of arA).join ((Seg.of arB).join ((Seg.of arC).join ((Seg.of arD).join ((Seg.of arE).join ((Seg.of arF).join ((Seg.of arG).join (Seg.of arH)))))))))))))))))))))))))))))))))))))))))))))))))))))))))
