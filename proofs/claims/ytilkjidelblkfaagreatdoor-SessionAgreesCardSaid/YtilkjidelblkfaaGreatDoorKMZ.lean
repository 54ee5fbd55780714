/- What is computed is what the program does. -/
import Derived.Test.YtilkjidelblkfaaGreatDoorKOk26
import Derived.Test.YtilkjidelblkfaaGreatDoorKClone
import Derived.Test.YtilkjidelblkfaaGreatDoorKValid
import Derived.Test.YtilkjidelblkfaaGreatDoorKNamesT
import Derived.Test.YtilkjidelblkfaaGreatDoorKFClone
import Derived.Test.YtilkjidelblkfaaGreatDoorKSortF
import Derived.Test.YtilkjidelblkfaaGreatDoorKExt
import Derived.Test.YtilkjidelblkfaaGreatDoorKMG0
import Derived.Test.YtilkjidelblkfaaGreatDoorKMG2
namespace Go.Proofs.YtilkjidelblkfaaGreatDoor
open Go Go.aJ
set_option maxRecDepth 100000
set_option linter.unusedVariables false
set_option linter.unusedSimpArgs false
namespace M
theorem ag7 (T:aG) (hT:T.tabs=fB):@dS T Tryz.prog 5 FT:=aoo λro w h=>by
 obtain ⟨σ',hs⟩:=V6 ae7;exact ahP (KC aed 1000000) Gy hs (by rw [hT] at h;exact h)
theorem aos (T:aG) (_:T.tabs=fB):@dS T Tryz.prog 169 Md:=by letI:=T;exact ad7 agk
theorem aoZ (I:gK) (hI:∀k gs out,I k gs=some out->C k gs out):wQ Tryz.prog fB I pl:=
 aoY low (by kernel_rfl) hI (PL.Xa (λT hT hJ=>arK arL (λgs out h'=>by rw [hJ] at h';exact hI 0 gs out h')) (PL.Xa (λT hT hI=>ag7 T hT) (PL.Xa (λT hT hI=>aos T hT) (PL.aod))))
theorem hands:GN Tryz.prog fB rows Ds (EK rows 0):=⟨⟨_,_,rfl,rfl,λ_ _ _ _ h=>h⟩,⟨_,_,rfl,rfl,λ_ _ _ _ h=>as5 h⟩,⟨_,_,rfl,rfl,λ_ _ _ _ _=>trivial⟩,⟨_,_,rfl,rfl,λ_ _ _ _ _=>trivial⟩,⟨_,_,rfl,rfl,λ_ _ _ _ h=>ahN h⟩,⟨_,_,rfl,rfl,λ_ _ _ _ _=>trivial⟩,⟨_,_,rfl,rfl,λ_ _ _ _ _=>trivial⟩,⟨_,_,rfl,rfl,λ_ _ _ _ _=>trivial⟩,⟨_,_,rfl,rfl,λ_ _ _ _ h=>aut h⟩,⟨_,_,rfl,rfl,λ_ _ _ _ h=>anV h⟩,⟨_,_,rfl,rfl,λ_ _ _ _ h=>akr h⟩,⟨_,_,rfl,rfl,λ_ _ _ _ _=>trivial⟩,⟨_,_,rfl,rfl,λ_ _ _ _ _=>trivial⟩,⟨_,_,rfl,rfl,λ_ _ _ _ _=>trivial⟩,⟨_,_,rfl,rfl,λ_ _ _ _ _=>trivial⟩,⟨_,_,rfl,rfl,λ_ _ _ _ _=>trivial⟩,⟨_,_,rfl,rfl,λ_ _ _ _ _=>trivial⟩,⟨_,_,rfl,rfl,λ_ _ _ _ _=>trivial⟩,⟨_,_,rfl,rfl,λ_ _ _ _ _=>trivial⟩,⟨_,_,rfl,rfl,λ_ _ _ _ _=>trivial⟩,⟨_,_,rfl,rfl,λ_ _ _ _ h=>atH h⟩,⟨_,_,rfl,rfl,λ_ _ _ _ _=>trivial⟩,⟨_,_,rfl,rfl,λ_ _ _ _ _=>trivial⟩,⟨_,_,rfl,rfl,λ_ _ _ _ _=>trivial⟩,⟨_,_,rfl,rfl,λ_ _ _ _ _=>trivial⟩,⟨_,_,rfl,rfl,λ_ _ _ _ _=>trivial⟩,⟨_,_,rfl,rfl,λ_ _ _ _ _=>trivial⟩,trivial⟩
theorem amJ:∀k gs out,TT.lim k gs=some out->C k gs out:=aso low mixed names aoZ hands rfl ((Seg.of g0).join ((Seg.of g1).join ((Seg.of g2).join ((Seg.of g8).join ((Seg.of g11).join ((Seg.of g28).join ((Seg.of g37).join ((Seg.of g46).join ((Seg.of g52).join ((Seg.of g54).join ((Seg.of g60).join ((Seg.of g66).join ((Seg.of g67).join ((Seg.of g83).join ((Seg.of g97).join ((Seg.of g98).join ((Seg.of akP).join ((Seg.of akQ).join ((Seg.of akR).join ((Seg.of akS).join ((Seg.of akT).join ((Seg.of akU).join ((Seg.of akV).join ((Seg.of akW).join ((Seg.of akX).join ((Seg.of akY).join ((Seg.of akZ).join ((Seg.of ak0).join ((Seg.of ak1).join (Seg.of ak2))))))))))))))))))))))))))))))
end M
end Go.Proofs.YtilkjidelblkfaaGreatDoor
