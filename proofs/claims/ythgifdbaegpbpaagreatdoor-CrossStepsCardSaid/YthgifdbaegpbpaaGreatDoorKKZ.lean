/- What is computed is what the program does. -/
import Derived.Test.YthgifdbaegpbpaaGreatDoorKOk20
import Derived.Test.YthgifdbaegpbpaaGreatDoorKClone
import Derived.Test.YthgifdbaegpbpaaGreatDoorKValid
import Derived.Test.YthgifdbaegpbpaaGreatDoorKNamesT
import Derived.Test.YthgifdbaegpbpaaGreatDoorKFClone
import Derived.Test.YthgifdbaegpbpaaGreatDoorKSortF
import Derived.Test.YthgifdbaegpbpaaGreatDoorKKG0
import Derived.Test.YthgifdbaegpbpaaGreatDoorKKG1
import Derived.Test.YthgifdbaegpbpaaGreatDoorKKG2
import Derived.Test.YthgifdbaegpbpaaGreatDoorKKG3
namespace Go.Proofs.YthgifdbaegpbpaaGreatDoor
open Go Go.aN
set_option maxRecDepth 100000
set_option linter.unusedVariables false
set_option linter.unusedSimpArgs false
namespace K
theorem ae8 (T:aG) (hT:T.tabs=fG):@dY T Tryz.prog 35 EG:=alJ λro w h=>by
 obtain ⟨σ',hs⟩:=UM adp;exact afJ (JH acR 1000000) FU hs (by rw [hT] at h;exact h)
theorem alN (T:aG) (_:T.tabs=fG):@dY T Tryz.prog 210 KT:=by letI:=T;exact acM aeA
theorem amh (I:gu) (hI:∀k gs out,I k gs=some out->C k gs out):wG Tryz.prog fG I pl:=
 amg low (by kernel_rfl) hI (PL.VD (λT hT hJ=>apf apg (λgs out h'=>by rw [hJ] at h';exact hI 0 gs out h')) (PL.VD (λT hT hI=>ae8 T hT) (PL.VD (λT hT hI=>alN T hT) (PL.aly))))
theorem hands:F6 Tryz.prog fG rows Ds (Ee rows 0):=⟨⟨_,_,rfl,rfl,λ_ _ _ _ h=>h⟩,⟨_,_,rfl,rfl,λ_ _ _ _ h=>alg h⟩,⟨_,_,rfl,rfl,λ_ _ _ _ h=>arq h⟩,⟨_,_,rfl,rfl,λ_ _ _ _ h=>ahv h⟩,⟨_,_,rfl,rfl,λ_ _ _ _ h=>afH h⟩,trivial⟩
theorem ajO:∀k gs out,TT.lim k gs=some out->C k gs out:=aqA low mixed names amh hands rfl ((Seg.of g0).join ((Seg.of g2).join ((Seg.of g15).join ((Seg.of g22).join ((Seg.of g24).join ((Seg.of g26).join ((Seg.of g32).join ((Seg.of g38).join ((Seg.of g39).join ((Seg.of g49).join ((Seg.of g74).join ((Seg.of g78).join ((Seg.of g79).join ((Seg.of g92).join ((Seg.of g93).join ((Seg.of g95).join ((Seg.of ahR).join ((Seg.of ahS).join ((Seg.of ahT).join ((Seg.of ahU).join ((Seg.of ahV).join ((Seg.of ahW).join ((Seg.of ahX).join (Seg.of ahY))))))))))))))))))))))))
end K
end Go.Proofs.YthgifdbaegpbpaaGreatDoor
