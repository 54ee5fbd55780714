/- What is computed is what the program does. -/
import Derived.Test.YtcpfjpcdcafjmaaGreatDoorKOk20
import Derived.Test.YtcpfjpcdcafjmaaGreatDoorKClone
import Derived.Test.YtcpfjpcdcafjmaaGreatDoorKValid
import Derived.Test.YtcpfjpcdcafjmaaGreatDoorKNamesT
import Derived.Test.YtcpfjpcdcafjmaaGreatDoorKFClone
import Derived.Test.YtcpfjpcdcafjmaaGreatDoorKSortF
import Derived.Test.YtcpfjpcdcafjmaaGreatDoorKKG0
import Derived.Test.YtcpfjpcdcafjmaaGreatDoorKKG1
import Derived.Test.YtcpfjpcdcafjmaaGreatDoorKKG2
import Derived.Test.YtcpfjpcdcafjmaaGreatDoorKKG3
namespace Go.Proofs.YtcpfjpcdcafjmaaGreatDoor
open Go Go.aO
set_option maxRecDepth 100000
set_option linter.unusedVariables false
set_option linter.unusedSimpArgs false
namespace K
theorem afZ (T:aH) (hT:T.tabs=fF):@eF T Tryz.prog 5 FQ:=amN λro w h=>by
 obtain ⟨σ',hs⟩:=Vo aej;exact agF (J8 adN 1000000) Gs hs (by rw [hT] at h;exact h)
theorem amR (T:aH) (_:T.tabs=fF):@eF T Tryz.prog 143 LP:=by letI:=T;exact adG afv
theorem ank (I:gV) (hI:∀k gs out,I k gs=some out->C k gs out):wY Tryz.prog fF I pl:=
 anj low (by kernel_rfl) hI (PL.Wp (λT hT hJ=>aqo aqp (λgs out h'=>by rw [hJ] at h';exact hI 0 gs out h')) (PL.Wp (λT hT hI=>afZ T hT) (PL.Wp (λT hT hI=>amR T hT) (PL.amC))))
theorem hands:Gy Tryz.prog fF rows Ds (Fa rows 0):=⟨⟨_,_,rfl,rfl,λ_ _ _ _ h=>h⟩,⟨_,_,rfl,rfl,λ_ _ _ _ h=>asH h⟩,⟨_,_,rfl,rfl,λ_ _ _ _ h=>aml h⟩,⟨_,_,rfl,rfl,λ_ _ _ _ h=>aiF h⟩,⟨_,_,rfl,rfl,λ_ _ _ _ h=>agD h⟩,trivial⟩
theorem akZ:∀k gs out,TT.lim k gs=some out->C k gs out:=arO low mixed names ank hands rfl ((Seg.of g0).join ((Seg.of g1).join ((Seg.of g2).join ((Seg.of g15).join ((Seg.of g29).join ((Seg.of g32).join ((Seg.of g34).join ((Seg.of g40).join ((Seg.of g46).join ((Seg.of g47).join ((Seg.of g63).join ((Seg.of g77).join ((Seg.of g78).join ((Seg.of g91).join ((Seg.of g94).join ((Seg.of g96).join ((Seg.of aiZ).join ((Seg.of ai0).join ((Seg.of ai1).join ((Seg.of ai2).join ((Seg.of ai3).join ((Seg.of ai4).join ((Seg.of ai5).join ((Seg.of ai6).join ((Seg.of ai7).join (Seg.of ai8))))))))))))))))))))))))))
end K
end Go.Proofs.YtcpfjpcdcafjmaaGreatDoor
