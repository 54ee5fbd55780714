/- What is computed is what the program does. -/
import Derived.Test.YtcnekfnipdihgaaGreatDoorKClone
import Derived.Test.YtcnekfnipdihgaaGreatDoorKValid
import Derived.Test.YtcnekfnipdihgaaGreatDoorKNamesT
import Derived.Test.YtcnekfnipdihgaaGreatDoorKFClone
import Derived.Test.YtcnekfnipdihgaaGreatDoorKSortF
import Derived.Test.YtcnekfnipdihgaaGreatDoorKExt
import Derived.Test.YtcnekfnipdihgaaGreatDoorKCloneE
import Derived.Test.YtcnekfnipdihgaaGreatDoorKVG0
import Derived.Test.YtcnekfnipdihgaaGreatDoorKVG1
import Derived.Test.YtcnekfnipdihgaaGreatDoorKVG2
import Derived.Test.YtcnekfnipdihgaaGreatDoorKVG3
set_option linter.all false
namespace Go.Proofs.YtcnekfnipdihgaaGreatDoor
open Go Go.aP
set_option maxRecDepth 100000
namespace V
def anU(T:aJ)(hT:T.tabs=dD):@dP T Tryz.prog 4 KL:=ayz λro w h=>by obtain⟨J',hs⟩:=abt alj;exact aoX (Nl akk 1000000) Iz hs (by rw[hT]at h;exact h)
def ayI(T:aJ)(_:T.tabs=dD):@dP T Tryz.prog 105 SB:=by letI:=T;exact akd am1
def azv(I:je)(hI:∀k gs out,I k gs=some out->C k gs out):zO Tryz.prog dD I pl:=
 azu low (by kernel_rfl) hI (PL.Oj (λT hT hJ=>ayG (akb (by rw[hT];exact low) (by kernel_rfl) (λgs out h'=>by rw[hT];rw[hJ]at h';exact hI 227 gs out h'))) (PL.Oj (λT hT hJ=>aDF aDG (λgs out h'=>by rw[hJ]at h';exact hI 2 gs out h')) (PL.Oj (λT hT hJ=>au2 (λgs out h'=>by rw[hJ]at h';exact hI 1 gs out h')) (PL.Oj (λT hT hJ=>aoR (λgs out h'=>by rw[hJ]at h';exact hI 0 gs out h')) (PL.Oj (λT hT hI=>anU T hT) (PL.Oj (λT hT hI=>ayI T hT) (PL.ayl)))))))
def hands:LV Tryz.prog dD rows Ds (JF rows 0):=⟨⟨_,_,rfl,rfl,λ_ _ _ _ h=>h⟩,⟨_,_,rfl,rfl,λ_ _ _ _ h=>h⟩,⟨_,_,rfl,rfl,λ_ _ _ _ h=>h⟩,⟨_,_,rfl,rfl,λ_ _ _ _ h=>aFo h⟩,⟨_,_,rfl,rfl,λ_ _ _ _ h=>aoT h⟩,⟨_,_,rfl,rfl,λ_ _ _ _ h=>aoS h⟩,⟨_,_,rfl,rfl,λ_ _ _ _ h=>ao7 h⟩,⟨_,_,rfl,rfl,λ_ _ _ _ h=>anD h⟩,⟨_,_,rfl,rfl,λ_ _ _ _ h=>ax1 h⟩,⟨_,_,rfl,rfl,λ_ _ _ _ h=>atK h⟩,⟨_,_,rfl,rfl,λ_ _ _ _ h=>aEf h⟩,trivial⟩
def awR:∀k gs out,TT.lim k gs=some out->C k gs out:=aEA low mixed names azv hands rfl ((Seg.of g0).join ((Seg.of g8).join ((Seg.of g15).join ((Seg.of g26).join ((Seg.of g30).join ((Seg.of g31).join ((Seg.of g32).join ((Seg.of g37).join ((Seg.of g43).join ((Seg.of g51).join ((Seg.of g59).join ((Seg.of g63).join ((Seg.of g65).join ((Seg.of g69).join ((Seg.of g72).join ((Seg.of g73).join ((Seg.of g74).join ((Seg.of g75).join ((Seg.of g76).join ((Seg.of g84).join ((Seg.of g87).join ((Seg.of g88).join ((Seg.of g89).join ((Seg.of auk).join ((Seg.of aul).join ((Seg.of aum).join ((Seg.of aun).join ((Seg.of auo).join ((Seg.of aup).join ((Seg.of auq).join ((Seg.of aur).join ((Seg.of aus).join ((Seg.of aut).join ((Seg.of auu).join ((Seg.of auv).join ((Seg.of auw).join ((Seg.of auy).join ((Seg.of auz).join ((Seg.of auA).join ((Seg.of auB).join ((Seg.of auC).join ((Seg.of auD).join ((Seg.of auE).join ((Seg.of auF).join ((Seg.of auG).join ((Seg.of auH).join ((Seg.of auI).join ((Seg.of auJ).join ((Seg.of auK).join ((Seg.of auL).join ((Seg.of auM).join ((Seg.of auN).join ((Seg.of auO).join ((Seg.of auP).join ((Seg.of auQ).join ((Seg.of auR).join ((Seg.of auS).join (Seg.of auT))))))))))))))))))))))))))))))))))))))))))))))))))))))))))
