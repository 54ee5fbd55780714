/- What is computed is what the program does. -/
import Derived.Test.YtpioimdhbbgniaaGreatDoorKOk19
import Derived.Test.YtpioimdhbbgniaaGreatDoorKClone
import Derived.Test.YtpioimdhbbgniaaGreatDoorKValid
import Derived.Test.YtpioimdhbbgniaaGreatDoorKNamesT
import Derived.Test.YtpioimdhbbgniaaGreatDoorKFClone
import Derived.Test.YtpioimdhbbgniaaGreatDoorKSortF
import Derived.Test.YtpioimdhbbgniaaGreatDoorKRep
import Derived.Test.YtpioimdhbbgniaaGreatDoorKLG0
import Derived.Test.YtpioimdhbbgniaaGreatDoorKLG1
import Derived.Test.YtpioimdhbbgniaaGreatDoorKLG2
import Derived.Test.YtpioimdhbbgniaaGreatDoorKLG3
namespace Go.Proofs.YtpioimdhbbgniaaGreatDoor
open Go Go.aJ
set_option maxRecDepth 100000
set_option linter.unusedVariables false
set_option linter.unusedSimpArgs false
namespace L
theorem adV (T:aC) (hT:T.tabs=fU):@dN T Tryz.prog 8 DZ:=ajn λro w h=>by
 obtain ⟨σ',hs⟩:=Tz aci;exact aeA (Je abQ 1000000) Ew hs (by rw [hT] at h;exact h)
theorem ajv (T:aC) (_:T.tabs=fU):@dN T Tryz.prog 51 J3:=by letI:=T;exact abK x51
theorem ajW (I:fG) (hI:∀k gs out,I k gs=some out->C k gs out):vJ Tryz.prog fU I pl:=
 ajV low (by kernel_rfl) hI (PL.JX (λT hT hJ=>ajq (ajr (abI (by rw [hT];exact low) (by kernel_rfl) (λgs out h'=>by rw [hT];rw [hJ] at h';exact hI 4 gs out h')))) (PL.JX (λT hT hJ=>amH amI (λgs out h'=>by rw [hJ] at h';exact hI 0 gs out h')) (PL.JX (λT hT hJ=>ajt (λgs out h'=>by rw [hT];rw [hJ] at h';exact hI 6 gs out h')) (PL.JX (λT hT hI=>adV T hT) (PL.JX (λT hT hI=>ajv T hT) (PL.aje))))))
theorem hands:EI Tryz.prog fU rows Ds (Dw rows 0):=⟨⟨_,_,rfl,rfl,λ_ _ _ _ h=>h⟩,⟨_,_,rfl,rfl,λ_ _ _ _ h=>akZ h⟩,⟨_,_,rfl,rfl,λ_ _ _ _ h=>ai0 h⟩,⟨_,_,rfl,rfl,λ_ _ _ _ h=>aoQ h⟩,⟨_,_,rfl,rfl,λ_ _ _ _ h=>afU h⟩,⟨_,_,rfl,rfl,λ_ _ _ _ h=>aey h⟩,trivial⟩
theorem ah1:∀k gs out,TT.lim k gs=some out->C k gs out:=an4 low mixed names ajW hands rfl ((Seg.of g0).join ((Seg.of g7).join ((Seg.of g9).join ((Seg.of g14).join ((Seg.of g22).join ((Seg.of g23).join ((Seg.of g33).join ((Seg.of g55).join ((Seg.of g69).join ((Seg.of g70).join ((Seg.of g83).join ((Seg.of g84).join ((Seg.of g86).join ((Seg.of g93).join ((Seg.of agd).join ((Seg.of agf).join ((Seg.of agh).join (Seg.of agi))))))))))))))))))
end L
end Go.Proofs.YtpioimdhbbgniaaGreatDoor
