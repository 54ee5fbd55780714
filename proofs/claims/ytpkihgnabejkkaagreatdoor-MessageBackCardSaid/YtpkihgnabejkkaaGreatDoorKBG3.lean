/- Definitions keep their contracts: the ways of the bodies, run by the kernel. -/
import Derived.Test.YtpkihgnabejkkaaGreatDoorKBP
namespace Go.Proofs.YtpkihgnabejkkaaGreatDoor
open Go Go.aJ
set_option maxRecDepth 100000
set_option linter.unusedVariables false
set_option linter.unusedSimpArgs false
namespace B
theorem t7:aQ C d7 c7:=fun I hI gs out h=>
 aG.bD low mixed names (aU I hI) (specs:=[(0,s12)]) (fuel:=100000) (c:=UW) (pe:=[]) Tryz.func45 (by kernel_rfl) (aC.cons rfl (fun gs out h=>hI 12 gs out h) aC.nil) (by kernel_rfl) h
theorem t8:aQ C d8 c8:=fun I hI gs out h=>
 aG.bD low mixed names (aU I hI) (specs:=[(0,s11)]) (fuel:=100000) (c:=U4) (pe:=[]) Tryz.func79 (by kernel_rfl) (aC.cons rfl (fun gs out h=>hI 11 gs out h) aC.nil) (by kernel_rfl) h
theorem t12:aQ C d12 c12:=fun I hI gs out h=>
 aZ.fB low mixed names (aU I hI) (specs:=[]) (fuel:=100000) (sp:=s12) (by kernel_rfl) rfl (ps:=[]) (b:=b12) aC.nil (fun gs out h=>hI 12 gs out h) (by kernel_rfl) h
theorem t18:aQ C VL c18:=fun I hI gs out h=>
 aG.bD low mixed names (aU I hI) (specs:=[(0,IK)]) (fuel:=100000) (c:=UY) (pe:=[]) Tryz.func59 (by kernel_rfl) (aC.cons rfl (fun gs out h=>hI 19 gs out h) aC.nil) (by kernel_rfl) h
theorem t19:aQ C VN c19:=fun I hI gs out h=>
 aZ.fB low mixed names (aU I hI) (specs:=[]) (fuel:=100000) (sp:=IK) (by kernel_rfl) rfl (ps:=[]) (b:=b19) aC.nil (fun gs out h=>hI 19 gs out h) (by kernel_rfl) h
theorem t23:aQ C VT c23:=fun I hI gs out h=>
 aZ.fB low mixed names (aU I hI) (specs:=[]) (fuel:=100000) (sp:=s23) (by kernel_rfl) rfl (ps:=[]) (b:=b23) aC.nil (fun gs out h=>hI 23 gs out h) (by kernel_rfl) h
theorem t27:aQ C VY Si:=fun I hI gs out h=>
 aG.bD low mixed names (aU I hI) (specs:=[]) (fuel:=100000) (c:=adx) (pe:=[]) Tryz.func122 (by kernel_rfl) aC.nil (by kernel_rfl) h
theorem t48:aQ C WA SI:=fun _ _ _ _ h=>ahP h
theorem t49:aQ C WB c49:=fun I hI gs out h=>
 aZ.fB low mixed names (aU I hI) (specs:=[]) (fuel:=100000) (sp:=s49) (by kernel_rfl) rfl (ps:=[]) (b:=b49) aC.nil (fun gs out h=>hI 49 gs out h) (by kernel_rfl) h
theorem t55:aQ C WJ SQ:=fun I hI gs out h=>
 lC.bD low mixed names (aU I hI) (specs:=[]) (fuel:=100000) (c:=code50) (pe:=[]) (sp:=I8) rfl Tryz.func50 (by kernel_rfl) aC.nil (by kernel_rfl) h
theorem t56:aQ C WL SS:=fun I hI gs out h=>
 lC.bD low mixed names (aU I hI) (specs:=[]) (fuel:=100000) (c:=code50) (pe:=[]) (sp:=s56) rfl Tryz.func50 (by kernel_rfl) aC.nil (by kernel_rfl) h
theorem t57:aQ C WM SV:=fun I hI gs out h=>
 lC.bD low mixed names (aU I hI) (specs:=[]) (fuel:=100000) (c:=code50) (pe:=[]) (sp:=I9) rfl Tryz.func50 (by kernel_rfl) aC.nil (by kernel_rfl) h
theorem t58:aQ C WO SX:=fun I hI gs out h=>
 lC.bD low mixed names (aU I hI) (specs:=[]) (fuel:=100000) (c:=code50) (pe:=[]) (sp:=s58) rfl Tryz.func50 (by kernel_rfl) aC.nil (by kernel_rfl) h
theorem t62:aQ C WT Tc:=fun I hI gs out h=>
 lC.bD low mixed names (aU I hI) (specs:=[]) (fuel:=100000) (c:=code50) (pe:=[]) (sp:=Jb) rfl Tryz.func50 (by kernel_rfl) aC.nil (by kernel_rfl) h
theorem t66:aQ C WX Ti:=fun I hI gs out h=>
 lC.bD low mixed names (aU I hI) (specs:=[]) (fuel:=100000) (c:=code50) (pe:=[]) (sp:=Jc) rfl Tryz.func50 (by kernel_rfl) aC.nil (by kernel_rfl) h
theorem t70:aQ C Xa c70:=fun I hI gs out h=>
 lC.bD low mixed names (aU I hI) (specs:=[]) (fuel:=100000) (c:=code50) (pe:=[]) (sp:=s70) rfl Tryz.func50 (by kernel_rfl) aC.nil (by kernel_rfl) h
theorem t78:aQ C Xi TB:=fun I hI gs out h=>
 aZ.fB low mixed names (aU I hI) (specs:=[]) (fuel:=100000) (sp:=s78) (by kernel_rfl) rfl (ps:=[]) (b:=QW) aC.nil (fun gs out h=>hI 78 gs out h) (by kernel_rfl) h
theorem t79:aQ C Xj TD:=fun I hI gs out h=>
 aG.bD low mixed names (aU I hI) (specs:=[]) (fuel:=100000) (c:=ad4) (pe:=[]) Tryz.func9 (by kernel_rfl) aC.nil (by kernel_rfl) h
theorem t86:aQ C Xq TK:=fun I hI gs out h=>
 aG.bD low mixed names (aU I hI) (specs:=[]) (fuel:=100000) (c:=adT) (pe:=[]) Tryz.func64 (by kernel_rfl) aC.nil (by kernel_rfl) h
theorem t89:aQ C Xu TM:=fun I hI gs out h=>
 aG.bD low mixed names (aU I hI) (specs:=[(0,s90)]) (fuel:=100000) (c:=UD) (pe:=[]) Tryz.func159 (by kernel_rfl) (aC.cons rfl (fun gs out h=>hI 90 gs out h) aC.nil) (by kernel_rfl) h
theorem t91:aQ C Xw c91:=fun I hI gs out h=>
 aZ.fB low mixed names (aU I hI) (specs:=[]) (fuel:=100000) (sp:=Jg) (by kernel_rfl) rfl (ps:=[]) (b:=QZ) aC.nil (fun gs out h=>hI 91 gs out h) (by kernel_rfl) h
theorem t92:aQ C Xx TP:=fun I hI gs out h=>
 lC.bD low mixed names (aU I hI) (specs:=[]) (fuel:=100000) (c:=adz) (pe:=[]) (sp:=Jh) rfl Tryz.func139 (by kernel_rfl) aC.nil (by kernel_rfl) h
theorem t93:aQ C Xy c93:=fun I hI gs out h=>
 lC.bD low mixed names (aU I hI) (specs:=[]) (fuel:=100000) (c:=adI) (pe:=[]) (sp:=s93) rfl Tryz.func162 (by kernel_rfl) aC.nil (by kernel_rfl) h
theorem alR:aQ C Vj Ry:=fun I hI gs out h=>
 aZ.fB low mixed names (aU I hI) (specs:=[]) (fuel:=100000) (sp:=s100) (by kernel_rfl) rfl (ps:=[]) (b:=b100) aC.nil (fun gs out h=>hI 100 gs out h) (by kernel_rfl) h
theorem alT:aQ C Vl RD:=fun I hI gs out h=>
 aZ.fB low mixed names (aU I hI) (specs:=[]) (fuel:=100000) (sp:=s102) (by kernel_rfl) rfl (ps:=[]) (b:=b102) aC.nil (fun gs out h=>hI 102 gs out h) (by kernel_rfl) h
theorem t105:aQ C Vp c105:=fun I hI gs out h=>
 aZ.fB low mixed names (aU I hI) (specs:=[]) (fuel:=100000) (sp:=Iw) (by kernel_rfl) rfl (ps:=[]) (b:=Qy) aC.nil (fun gs out h=>hI 105 gs out h) (by kernel_rfl) h
theorem t107:aQ C Vr c107:=fun I hI gs out h=>
 aG.bD low mixed names (aU I hI) (specs:=[(0,Iz)]) (fuel:=100000) (c:=UG) (pe:=[]) Tryz.func18 (by kernel_rfl) (aC.cons rfl (fun gs out h=>hI 108 gs out h) aC.nil) (by kernel_rfl) h
theorem alY:aQ C Vu RJ:=fun I hI gs out h=>
 aZ.fB low mixed names (aU I hI) (specs:=[]) (fuel:=100000) (sp:=s110) (by kernel_rfl) rfl (ps:=[]) (b:=b110) aC.nil (fun gs out h=>hI 110 gs out h) (by kernel_rfl) h
end B
end Go.Proofs.YtpkihgnabejkkaaGreatDoor
