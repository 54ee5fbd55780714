/- What is computed is what the program does. -/
import Derived.Test.YtnlegpmfkopalaaGreatDoorKOk19
import Derived.Test.YtnlegpmfkopalaaGreatDoorKClone
import Derived.Test.YtnlegpmfkopalaaGreatDoorKValid
import Derived.Test.YtnlegpmfkopalaaGreatDoorKNamesT
import Derived.Test.YtnlegpmfkopalaaGreatDoorKFClone
import Derived.Test.YtnlegpmfkopalaaGreatDoorKSortF
import Derived.Test.YtnlegpmfkopalaaGreatDoorKSums
import Derived.Test.YtnlegpmfkopalaaGreatDoorKSG0
import Derived.Test.YtnlegpmfkopalaaGreatDoorKSG1
import Derived.Test.YtnlegpmfkopalaaGreatDoorKSG2
import Derived.Test.YtnlegpmfkopalaaGreatDoorKSG3
namespace Go.Proofs.YtnlegpmfkopalaaGreatDoor
open Go Go.aN
set_option maxRecDepth 100000
set_option linter.unusedVariables false
set_option linter.unusedSimpArgs false
namespace S
theorem afC (T:aF) (hT:T.tabs=fF):@fA T Tryz.prog 4 EW:=amn λro w h=>by
 obtain ⟨σ',hs⟩:=UU adK;exact agj (Gy acU 1000000) C9 hs (by rw [hT] at h;exact h)
theorem ams (T:aF) (_:T.tabs=fF):@fA T Tryz.prog 141 KZ:=by letI:=T;exact acN ae0
theorem amV (I:gG) (hI:∀k gs out,I k gs=some out->C k gs out):vS Tryz.prog fF I pl:=
 amU low (by kernel_rfl) hI (PL.VF (λT hT hJ=>apl apm (λgs out h'=>by rw [hJ] at h';exact hI 0 gs out h')) (PL.VF (λT hT hI=>afC T hT) (PL.VF (λT hT hI=>ams T hT) (PL.ama))))
theorem hands:FU Tryz.prog fF rows Ds (Ea rows 0):=⟨⟨_,_,rfl,rfl,λ_ _ _ _ h=>h⟩,⟨_,_,rfl,rfl,λ_ _ _ _ h=>alU h⟩,⟨_,_,rfl,rfl,λ_ _ _ _ h=>aqK h⟩,⟨_,_,rfl,rfl,λ_ _ _ _ h=>aiC h⟩,⟨_,_,rfl,rfl,λ_ _ _ _ h=>agh h⟩,⟨_,_,rfl,rfl,λ_ _ _ _ h=>apT h⟩,⟨_,_,rfl,rfl,λ_ _ _ _ _=>trivial⟩,⟨_,_,rfl,rfl,λ_ _ _ _ _=>trivial⟩,trivial⟩
theorem akM:∀k gs out,TT.lim k gs=some out->C k gs out:=aqg low mixed names amV hands rfl ((Seg.of g0).join ((Seg.of g2).join ((Seg.of g15).join ((Seg.of g22).join ((Seg.of g24).join ((Seg.of g30).join ((Seg.of g36).join ((Seg.of g37).join ((Seg.of g47).join ((Seg.of g72).join ((Seg.of g76).join ((Seg.of g77).join ((Seg.of g90).join ((Seg.of g91).join ((Seg.of g93).join ((Seg.of ai0).join ((Seg.of ai1).join ((Seg.of ai2).join ((Seg.of ai3).join ((Seg.of ai4).join ((Seg.of ai5).join ((Seg.of ai6).join ((Seg.of ai7).join ((Seg.of ai8).join ((Seg.of ai9).join (Seg.of aja))))))))))))))))))))))))))
end S
end Go.Proofs.YtnlegpmfkopalaaGreatDoor
