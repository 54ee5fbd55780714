/- What is computed is what the program does. -/
import Derived.Test.YthgifdbaegpbpaaGreatDoorKOk19
import Derived.Test.YthgifdbaegpbpaaGreatDoorKClone
import Derived.Test.YthgifdbaegpbpaaGreatDoorKValid
import Derived.Test.YthgifdbaegpbpaaGreatDoorKNamesT
import Derived.Test.YthgifdbaegpbpaaGreatDoorKFClone
import Derived.Test.YthgifdbaegpbpaaGreatDoorKVG0
import Derived.Test.YthgifdbaegpbpaaGreatDoorKVG1
import Derived.Test.YthgifdbaegpbpaaGreatDoorKVG2
import Derived.Test.YthgifdbaegpbpaaGreatDoorKVG3
namespace Go.Proofs.YthgifdbaegpbpaaGreatDoor
open Go Go.aK
set_option maxRecDepth 100000
set_option linter.unusedVariables false
set_option linter.unusedSimpArgs false
namespace V
theorem ad5 (T:aH) (hT:T.tabs=dW):@dZ T Tryz.prog 9 Eu:=akA λro w h=>by
 obtain ⟨σ',hs⟩:=SI acw;exact aeL (I4 abG 1000000) ES hs (by rw [hT] at h;exact h)
theorem akE (T:aH) (_:T.tabs=dW):@dZ T Tryz.prog 210 JL:=by letI:=T;exact abC adE
theorem ak0 (I:fP) (hI:∀k gs out,I k gs=some out->C k gs out):vI Tryz.prog dW I pl:=
 akZ low (by kernel_rfl) hI (PL.abu (λT hT hI=>ad5 T hT) (PL.abu (λT hT hI=>akE T hT) (PL.akq)))
theorem hands:EY Tryz.prog dW rows Ds (D5 rows 0):=⟨⟨_,_,rfl,rfl,λ_ _ _ _ _=>trivial⟩,⟨_,_,rfl,rfl,λ_ _ _ _ h=>ag5 h⟩,⟨_,_,rfl,rfl,λ_ _ _ _ h=>aeJ h⟩,⟨_,_,rfl,rfl,λ_ _ _ _ h=>ard h⟩,⟨_,_,rfl,rfl,λ_ _ _ _ h=>akd h⟩,⟨_,_,rfl,rfl,λ_ _ _ _ _=>trivial⟩,⟨_,_,rfl,rfl,λ_ _ _ _ _=>trivial⟩,trivial⟩
theorem ajf:∀k gs out,TT.lim k gs=some out->C k gs out:=aqo low mixed names ak0 hands rfl ((Seg.of g0).join ((Seg.of g2).join ((Seg.of g4).join ((Seg.of g10).join ((Seg.of g15).join ((Seg.of g29).join ((Seg.of g36).join ((Seg.of g37).join ((Seg.of g48).join ((Seg.of g54).join ((Seg.of g57).join ((Seg.of g58).join ((Seg.of g66).join ((Seg.of g95).join ((Seg.of g99).join ((Seg.of ahl).join ((Seg.of ahm).join ((Seg.of ahn).join ((Seg.of aho).join ((Seg.of ahp).join ((Seg.of ahq).join ((Seg.of ahr).join ((Seg.of ahs).join ((Seg.of aht).join ((Seg.of ahu).join ((Seg.of ahv).join ((Seg.of ahw).join ((Seg.of ahx).join ((Seg.of ahy).join (Seg.of ahz))))))))))))))))))))))))))))))
end V
end Go.Proofs.YthgifdbaegpbpaaGreatDoor
