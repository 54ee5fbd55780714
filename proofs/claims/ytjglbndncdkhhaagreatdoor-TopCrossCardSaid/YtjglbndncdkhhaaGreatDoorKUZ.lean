/- What is computed is what the program does. -/
import Derived.Test.YtjglbndncdkhhaaGreatDoorKOk20
import Derived.Test.YtjglbndncdkhhaaGreatDoorKClone
import Derived.Test.YtjglbndncdkhhaaGreatDoorKValid
import Derived.Test.YtjglbndncdkhhaaGreatDoorKNamesT
import Derived.Test.YtjglbndncdkhhaaGreatDoorKFClone
import Derived.Test.YtjglbndncdkhhaaGreatDoorKSortF
import Derived.Test.YtjglbndncdkhhaaGreatDoorKUG0
import Derived.Test.YtjglbndncdkhhaaGreatDoorKUG1
import Derived.Test.YtjglbndncdkhhaaGreatDoorKUG2
namespace Go.Proofs.YtjglbndncdkhhaaGreatDoor
open Go Go.aN
set_option maxRecDepth 100000
set_option linter.unusedVariables false
set_option linter.unusedSimpArgs false
namespace U
theorem afA (T:aF) (hT:T.tabs=fQ):@dY T Tryz.prog 47 Eo:=aln λro w h=>by
 obtain ⟨σ',hs⟩:=U4 adM;exact agj (Jg ac8 1000000) EU hs (by rw [hT] at h;exact h)
theorem alr (T:aF) (_:T.tabs=fQ):@dY T Tryz.prog 105 KR:=by letI:=T;exact ac3 ae1
theorem al8 (I:gB) (hI:∀k gs out,I k gs=some out->C k gs out):vH Tryz.prog fQ I pl:=
 alT low (by kernel_rfl) hI (PL.VY (λT hT hJ=>aoC aoD (λgs out h'=>by rw [hJ] at h';exact hI 0 gs out h')) (PL.VY (λT hT hI=>afA T hT) (PL.VY (λT hT hI=>alr T hT) (PL.alb))))
theorem hands:E8 Tryz.prog fQ rows Ds (DW rows 0):=⟨⟨_,_,rfl,rfl,λ_ _ _ _ h=>h⟩,⟨_,_,rfl,rfl,λ_ _ _ _ h=>apI h⟩,⟨_,_,rfl,rfl,λ_ _ _ _ h=>akV h⟩,⟨_,_,rfl,rfl,λ_ _ _ _ h=>aib h⟩,⟨_,_,rfl,rfl,λ_ _ _ _ h=>agh h⟩,trivial⟩
theorem aki:∀k gs out,TT.lim k gs=some out->C k gs out:=apd low mixed names al8 hands rfl ((Seg.of g0).join ((Seg.of g7).join ((Seg.of g21).join ((Seg.of g32).join ((Seg.of g34).join ((Seg.of g40).join ((Seg.of g46).join ((Seg.of g47).join ((Seg.of g63).join ((Seg.of g77).join ((Seg.of g78).join ((Seg.of g91).join ((Seg.of g93).join ((Seg.of g95).join ((Seg.of aiz).join ((Seg.of aiA).join ((Seg.of aiB).join ((Seg.of aiC).join ((Seg.of aiD).join ((Seg.of aiE).join ((Seg.of aiF).join ((Seg.of aiG).join (Seg.of aiH)))))))))))))))))))))))
end U
end Go.Proofs.YtjglbndncdkhhaaGreatDoor
