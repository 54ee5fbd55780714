/- What is computed is what the program does. -/
import Derived.Test.YtcpfjpcdcafjmaaGreatDoorKOk20
import Derived.Test.YtcpfjpcdcafjmaaGreatDoorKClone
import Derived.Test.YtcpfjpcdcafjmaaGreatDoorKValid
import Derived.Test.YtcpfjpcdcafjmaaGreatDoorKNamesT
import Derived.Test.YtcpfjpcdcafjmaaGreatDoorKFClone
import Derived.Test.YtcpfjpcdcafjmaaGreatDoorKCG0
import Derived.Test.YtcpfjpcdcafjmaaGreatDoorKCG1
import Derived.Test.YtcpfjpcdcafjmaaGreatDoorKCG2
import Derived.Test.YtcpfjpcdcafjmaaGreatDoorKCG3
namespace Go.Proofs.YtcpfjpcdcafjmaaGreatDoor
open Go Go.aN
set_option maxRecDepth 100000
set_option linter.unusedVariables false
set_option linter.unusedSimpArgs false
namespace C
theorem adN (T:aF) (hT:T.tabs=dZ):@dS T Tryz.prog 5 DV:=ai3 λro w h=>by
 obtain ⟨σ',hs⟩:=SK acg;exact aer (Iy abA 1000000) Em hs (by rw [hT] at h;exact h)
theorem ai7 (T:aF) (_:T.tabs=dZ):@dS T Tryz.prog 143 JA:=by letI:=T;exact abx adq
theorem ajw (I:fP) (hI:∀k gs out,I k gs=some out->C k gs out):uZ Tryz.prog dZ I pl:=
 ajv low (by kernel_rfl) hI (PL.abo (λT hT hI=>adN T hT) (PL.abo (λT hT hI=>ai7 T hT) (PL.aiT)))
theorem hands:Et Tryz.prog dZ rows Ds (Dq rows 0):=⟨⟨_,_,rfl,rfl,λ_ _ _ _ _=>trivial⟩,⟨_,_,rfl,rfl,λ_ _ _ _ h=>aot h⟩,⟨_,_,rfl,rfl,λ_ _ _ _ h=>aeo h⟩,⟨_,_,rfl,rfl,λ_ _ _ _ h=>afY h⟩,⟨_,_,rfl,rfl,λ_ _ _ _ h=>aiG h⟩,trivial⟩
theorem ah1:∀k gs out,TT.lim k gs=some out->C k gs out:=ani low mixed names ajw hands rfl ((Seg.of g0).join ((Seg.of g1).join ((Seg.of g2).join ((Seg.of g15).join ((Seg.of g29).join ((Seg.of g37).join ((Seg.of g38).join ((Seg.of g43).join ((Seg.of g44).join ((Seg.of g45).join ((Seg.of g46).join ((Seg.of g53).join ((Seg.of g58).join ((Seg.of g67).join ((Seg.of g68).join ((Seg.of g70).join ((Seg.of g73).join ((Seg.of g79).join ((Seg.of g91).join ((Seg.of g93).join ((Seg.of agk).join ((Seg.of agl).join ((Seg.of agm).join ((Seg.of agn).join ((Seg.of agp).join (Seg.of agq))))))))))))))))))))))))))
end C
end Go.Proofs.YtcpfjpcdcafjmaaGreatDoor
