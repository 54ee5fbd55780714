/- What is computed is what the program does. -/
import Derived.Test.YtogfeeabnklegaaGreatDoorKClone
import Derived.Test.YtogfeeabnklegaaGreatDoorKValid
import Derived.Test.YtogfeeabnklegaaGreatDoorKNamesT
import Derived.Test.YtogfeeabnklegaaGreatDoorKFClone
import Derived.Test.YtogfeeabnklegaaGreatDoorKSortF
import Derived.Test.YtogfeeabnklegaaGreatDoorKExt
import Derived.Test.YtogfeeabnklegaaGreatDoorKCloneF
import Derived.Test.YtogfeeabnklegaaGreatDoorKBG0
import Derived.Test.YtogfeeabnklegaaGreatDoorKBG1
import Derived.Test.YtogfeeabnklegaaGreatDoorKBG2
import Derived.Test.YtogfeeabnklegaaGreatDoorKBG3
import Derived.Test.YtogfeeabnklegaaGreatDoorKBG4
import Derived.Test.YtogfeeabnklegaaGreatDoorKBG5
set_option linter.all false
namespace Go.Proofs.YtogfeeabnklegaaGreatDoor
open Go Go.aP
set_option maxRecDepth 100000
namespace B
def aoa(T:aJ)(hT:T.tabs=dH):@fJ T Tryz.prog 4 Lm:=ayW λro w h=>by obtain⟨J',hs⟩:=abz alC;exact ao3 (NJ akq 1000000) Jb hs (by rw[hT]at h;exact h)
def ay1(T:aJ)(_:T.tabs=dH):@fJ T Tryz.prog 110 SH:=by letI:=T;exact akh anh
def azH(I:ji)(hI:∀k gs out,I k gs=some out->C k gs out):Am Tryz.prog dH I pl:=
 azG low (by kernel_rfl) hI (PL.XD (λT hT hJ=>aDY aDZ (λgs out h'=>by rw[hJ]at h';exact hI 1 gs out h')) (PL.XD (λT hT hJ=>avi (λgs out h'=>by rw[hJ]at h';exact hI 0 gs out h')) (PL.XD (λT hT hI=>aoa T hT) (PL.XD (λT hT hI=>ay1 T hT) (PL.ayI)))))
def hands:ML Tryz.prog dH rows Ds (J9 rows 0):=⟨⟨_,_,rfl,rfl,λ_ _ _ _ h=>h⟩,⟨_,_,rfl,rfl,λ_ _ _ _ h=>h⟩,⟨_,_,rfl,rfl,λ_ _ _ _ h=>aFz h⟩,⟨_,_,rfl,rfl,λ_ _ _ _ h=>ao2 h⟩,⟨_,_,rfl,rfl,λ_ _ _ _ h=>ao1 h⟩,⟨_,_,rfl,rfl,λ_ _ _ _ h=>apd h⟩,⟨_,_,rfl,rfl,λ_ _ _ _ h=>anQ h⟩,⟨_,_,rfl,rfl,λ_ _ _ _ _=>trivial⟩,⟨_,_,rfl,rfl,λ_ _ _ _ h=>aym h⟩,⟨_,_,rfl,rfl,λ_ _ _ _ h=>atX h⟩,⟨_,_,rfl,rfl,λ_ _ _ _ h=>aEw h⟩,trivial⟩
def g78:fK Tryz.prog dH pl rows Ds 78 1=true:=yyGn (show w78 [] = true from (yyGc [] _ _ (yyGc [yy1] _ _ w78_TT (yyGc [yy1, yy0] _ _ w78_TFT (yyGc [yy1, yy0, yy0] _ _ (yyGc [yy1, yy0, yy0, yy1] _ _ w78_TFFTT (yyGc [yy1, yy0, yy0, yy1, yy0] _ _ w78_TFFTFT (yyGc [yy1, yy0, yy0, yy1, yy0, yy0] _ _ (yyGc [yy1, yy0, yy0, yy1, yy0, yy0, yy1] _ _ w78_TFFTFFTT w78_TFFTFFTF) w78_TFFTFFF))) (yyGc [yy1, yy0, yy0, yy0] _ _ (yyGc [yy1, yy0, yy0, yy0, yy1] _ _ w78_TFFFTT (yyGc [yy1, yy0, yy0, yy0, yy1, yy0] _ _ w78_TFFFTFT w78_TFFFTFF)) (yyGc [yy1, yy0, yy0, yy0, yy0] _ _ w78_TFFFFT w78_TFFFFF))))) (yyGc [yy0] _ _ w78_FT (yyGc [yy0, yy0] _ _ (yyGc [yy0, yy0, yy1] _ _ w78_FFTT (yyGc [yy0, yy0, yy1, yy0] _ _ w78_FFTFT (yyGc [yy0, yy0, yy1, yy0, yy0] _ _ (yyGc [yy0, yy0, yy1, yy0, yy0, yy1] _ _ w78_FFTFFTT w78_FFTFFTF) w78_FFTFFF))) (yyGc [yy0, yy0, yy0] _ _ (yyGc [yy0, yy0, yy0, yy1] _ _ w78_FFFTT (yyGc [yy0, yy0, yy0, yy1, yy0] _ _ w78_FFFTFT w78_FFFTFF)) (yyGc [yy0, yy0, yy0, yy0] _ _ w78_FFFFT w78_FFFFF))))))
def g34:fK Tryz.prog dH pl rows Ds 34 1=true:=zzGn (show w34 [] = true from (zzGc [] _ _ (zzGc [zz1] _ _ (zzGc [zz1, zz1] _ _ w34_TTT (zzGc [zz1, zz1, zz0] _ _ w34_TTFT (zzGc [zz1, zz1, zz0, zz0] _ _ w34_TTFFT w34_TTFFF))) (zzGc [zz1, zz0] _ _ (zzGc [zz1, zz0, zz1] _ _ w34_TFTT (zzGc [zz1, zz0, zz1, zz0] _ _ w34_TFTFT (zzGc [zz1, zz0, zz1, zz0, zz0] _ _ w34_TFTFFT w34_TFTFFF))) (zzGc [zz1, zz0, zz0] _ _ (zzGc [zz1, zz0, zz0, zz1] _ _ w34_TFFTT (zzGc [zz1, zz0, zz0, zz1, zz0] _ _ w34_TFFTFT (zzGc [zz1, zz0, zz0, zz1, zz0, zz0] _ _ w34_TFFTFFT w34_TFFTFFF))) w34_TFFF))) w34_F))
def g2:fK Tryz.prog dH pl rows Ds 2 1=true:=zzGn (show w2 [] = true from (zzGc [] _ _ w2_T (zzGc [zz0] _ _ w2_FT (zzGc [zz0, zz0] _ _ w2_FFT (zzGc [zz0, zz0, zz0] _ _ w2_FFFT (zzGc [zz0, zz0, zz0, zz0] _ _ w2_FFFFT (zzGc [zz0, zz0, zz0, zz0, zz0] _ _ w2_FFFFFT (zzGc [zz0, zz0, zz0, zz0, zz0, zz0] _ _ w2_FFFFFFT (zzGc [zz0, zz0, zz0, zz0, zz0, zz0, zz0] _ _ w2_FFFFFFFT (zzGc [zz0, zz0, zz0, zz0, zz0, zz0, zz0, zz0] _ _ w2_FFFFFFFFT (zzGc [zz0, zz0, zz0, zz0, zz0, zz0, zz0, zz0, zz0] _ _ w2_FFFFFFFFFT (zzGc [zz0, zz0, zz0, zz0, zz0, zz0, zz0, zz0, zz0, zz0] _ _ w2_FFFFFFFFFFT (zzGc [zz0, zz0, zz0, zz0, zz0, zz0, zz0, zz0, zz0, zz0, zz0] _ _ w2_FFFFFFFFFFFT (zzGc [zz0, zz0, zz0, zz0, zz0, zz0, zz0, zz0, zz0, zz0, zz0, zz0] _ _ w2_FFFFFFFFFFFFT w2_FFFFFFFFFFFFF))))))))))))))
def aw9:∀k gs out,TT.lim k gs=some out->C k gs out:=aES low mixed names azH hands rfl ((Seg.of g0).join ((Seg.of g2).join ((Seg.of g3).join ((Seg.of g10).join ((Seg.of g19).join ((Seg.of g33).join ((Seg.of g34).join ((Seg.of g35).join ((Seg.of g46).join ((Seg.of g53).join ((Seg.of g56).join ((Seg.of g60).join ((Seg.of g64).join ((Seg.of g75).join ((Seg.of g78).join ((Seg.of g79).join ((Seg.of g83).join ((Seg.of g87).join ((Seg.of g90).join ((Seg.of g91).join ((Seg.of g92).join ((Seg.of g93).join ((Seg.of g94).join ((Seg.of auz).join ((Seg.of auA).join ((Seg.of auB).join ((Seg.of auC).join ((Seg.of auD).join ((Seg.of auE).join ((Seg.of auF).join ((Seg.of auG).join ((Seg.of auH).join ((Seg.of auI).join ((Seg.of auJ).join ((Seg.of auK).join ((Seg.of auL).join ((Seg.of auM).join ((Seg.of auN).join ((Seg.of auO).join ((Seg.of auP).join ((Seg.of auQ).join ((Seg.of auR).join ((Seg.of auS).join ((Seg.of auT).join ((Seg.of auU).join ((Seg.of auV).join ((Seg.of auW).join ((Seg.of auX).join ((Seg.of auY).join ((Seg.of auZ).join ((Seg.of au0).join ((Seg.of au1).join ((Seg.of au2).join ((Seg.of au3).join ((Seg.of au4).join ((Seg.of au5).join ((Seg.of au6).join ((Seg.of au7).join ((Seg.of au8).join (Seg.of au9))))))))))))))))))))))))))))))))))))))))))))))))))))))))))))
