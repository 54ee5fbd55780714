/- What is computed is what the program does. -/
import Derived.Test.YtaggjpipnjmleaaGreatDoorKOk20
import Derived.Test.YtaggjpipnjmleaaGreatDoorKClone
import Derived.Test.YtaggjpipnjmleaaGreatDoorKValid
import Derived.Test.YtaggjpipnjmleaaGreatDoorKNamesT
import Derived.Test.YtaggjpipnjmleaaGreatDoorKFClone
import Derived.Test.YtaggjpipnjmleaaGreatDoorKSortF
import Derived.Test.YtaggjpipnjmleaaGreatDoorKVG0
import Derived.Test.YtaggjpipnjmleaaGreatDoorKVG1
import Derived.Test.YtaggjpipnjmleaaGreatDoorKVG2
import Derived.Test.YtaggjpipnjmleaaGreatDoorKVG3
namespace Go.Proofs.YtaggjpipnjmleaaGreatDoor
open Go Go.aJ
set_option maxRecDepth 100000
set_option linter.unusedVariables false
set_option linter.unusedSimpArgs false
namespace V
theorem afH (T:aH) (hT:T.tabs=dQ):@eH T Tryz.prog 4 ED:=am2 λro w h=>by
 obtain ⟨σ',hs⟩:=U3 ad3;exact agm (JB ac4 1000000) E5 hs (by rw [hT] at h;exact h)
theorem am6 (T:aH) (_:T.tabs=dQ):@eH T Tryz.prog 145 KP:=by letI:=T;exact acZ afd
theorem anQ (I:gQ) (hI:∀k gs out,I k gs=some out->C k gs out):vM Tryz.prog dQ I pl:=
 anB low (by kernel_rfl) hI (PL.VO (λT hT hJ=>aq7 aq8 (λgs out h'=>by rw [hJ] at h';exact hI 0 gs out h')) (PL.VO (λT hT hI=>afH T hT) (PL.VO (λT hT hI=>am6 T hT) (PL.amP))))
theorem w1_all:(aC.treeOf d1).chk (Vj Tryz.prog dQ pl [] 100000 [] [.ag 24,.sc,.sc,.sc] [.sc] Tryz.f3.ntmps Tryz.f3.results.toList (kW [] agq)) (List.replicate 4 .arg) []=true:=(Tree.chkP_nil _ _ _).symm.trans (show w1 []=true from (Tree.chkP_cut _ [] _ _ w1_T (Tree.chkP_cut _ [false] _ _ w1_FT (Tree.chkP_cut _ [false,false] _ _ (Tree.chkP_cut _ [false,false,true] _ _ w1_FFTT (Tree.chkP_cut _ [false,false,true,false] _ _ w1_FFTFT (Tree.chkP_cut _ [false,false,true,false,false] _ _ w1_FFTFFT w1_FFTFFF))) (Tree.chkP_cut _ [false,false,false] _ _ w1_FFFT (Tree.chkP_cut _ [false,false,false,false] _ _ w1_FFFFT (Tree.chkP_cut _ [false,false,false,false,false] _ _ w1_FFFFFT w1_FFFFFF)))))))
theorem t1:Fe C d1 (qN Tryz.prog dQ 3 [] [.sc]):=λI hI gs out h=>qN.KL low mixed names (anQ I hI) (specs:=[]) (fuel:=100000) (c:=agq) (pe:=[]) Tryz.func3 (by kernel_rfl) zC.nil w1_all h
theorem hands:Fg Tryz.prog dQ rows Ds (D7 rows 0):=⟨⟨_,_,rfl,rfl,λ_ _ _ _ h=>h⟩,⟨_,_,rfl,rfl,t1⟩,⟨_,_,rfl,rfl,λ_ _ _ _ h=>amz h⟩,⟨_,_,rfl,rfl,λ_ _ _ _ h=>asl h⟩,⟨_,_,rfl,rfl,λ_ _ _ _ h=>ajw h⟩,⟨_,_,rfl,rfl,λ_ _ _ _ h=>agk h⟩,⟨_,_,rfl,rfl,λ_ _ _ _ _=>trivial⟩,⟨_,_,rfl,rfl,λ_ _ _ _ _=>trivial⟩,trivial⟩
theorem alO:∀k gs out,TT.lim k gs=some out->C k gs out:=arN low mixed names anQ hands rfl ((Seg.of g0).join ((Seg.of g1).join ((Seg.of g2).join ((Seg.of g15).join ((Seg.of g22).join ((Seg.of g24).join ((Seg.of g26).join ((Seg.of g32).join ((Seg.of g38).join ((Seg.of g39).join ((Seg.of g49).join ((Seg.of g74).join ((Seg.of g78).join ((Seg.of g79).join ((Seg.of g92).join ((Seg.of g93).join ((Seg.of g95).join ((Seg.of ajW).join ((Seg.of ajX).join ((Seg.of ajY).join ((Seg.of ajZ).join ((Seg.of aj0).join ((Seg.of aj1).join ((Seg.of aj2).join ((Seg.of aj3).join ((Seg.of aj6).join ((Seg.of aj7).join ((Seg.of aj8).join ((Seg.of aj9).join ((Seg.of akb).join ((Seg.of akc).join ((Seg.of akd).join ((Seg.of ake).join ((Seg.of akf).join ((Seg.of akg).join ((Seg.of akh).join ((Seg.of aki).join ((Seg.of akj).join ((Seg.of akk).join ((Seg.of akl).join (Seg.of akm)))))))))))))))))))))))))))))))))))))))))
end V
end Go.Proofs.YtaggjpipnjmleaaGreatDoor
