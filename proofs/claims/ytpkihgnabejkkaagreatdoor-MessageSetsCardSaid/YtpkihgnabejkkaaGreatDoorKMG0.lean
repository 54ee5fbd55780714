/- Definitions keep their contracts: the ways of the bodies, run by the kernel. -/
import Derived.Test.YtpkihgnabejkkaaGreatDoorKMP
namespace Go.Proofs.YtpkihgnabejkkaaGreatDoor
open Go Go.aJ
set_option maxRecDepth 100000
set_option linter.unusedVariables false
set_option linter.unusedSimpArgs false
namespace M
theorem t2:aQ C d2 c2:=fun I hI gs out h=>
 aG.bD low mixed names (aU I hI) (specs:=[]) (fuel:=100000) (c:=adQ) (pe:=[]) Tryz.func6 (by kernel_rfl) aC.nil (by kernel_rfl) h
theorem t7:aQ C d7 c7:=fun I hI gs out h=>
 aG.bD low mixed names (aU I hI) (specs:=[(0,s12)]) (fuel:=100000) (c:=UW) (pe:=[]) Tryz.func45 (by kernel_rfl) (aC.cons rfl (fun gs out h=>hI 12 gs out h) aC.nil) (by kernel_rfl) h
theorem t8:aQ C d8 c8:=fun I hI gs out h=>
 aG.bD low mixed names (aU I hI) (specs:=[(0,s11)]) (fuel:=100000) (c:=U4) (pe:=[]) Tryz.func79 (by kernel_rfl) (aC.cons rfl (fun gs out h=>hI 11 gs out h) aC.nil) (by kernel_rfl) h
theorem t9:aQ C d9 c9:=fun I hI gs out h=>
 aG.bD low mixed names (aU I hI) (specs:=[(0,s10)]) (fuel:=100000) (c:=Uy) (pe:=[]) Tryz.func111 (by kernel_rfl) (aC.cons rfl (fun gs out h=>hI 10 gs out h) aC.nil) (by kernel_rfl) h
theorem t10:aQ C d10 c10:=fun I hI gs out h=>
 aZ.fB low mixed names (aU I hI) (specs:=[]) (fuel:=100000) (sp:=s10) (by kernel_rfl) rfl (ps:=[]) (b:=b10) aC.nil (fun gs out h=>hI 10 gs out h) (by kernel_rfl) h
theorem t14:aQ C VH c14:=fun I hI gs out h=>
 aG.bD low mixed names (aU I hI) (specs:=[(0,s15)]) (fuel:=100000) (c:=UK) (pe:=[]) Tryz.func22 (by kernel_rfl) (aC.cons rfl (fun gs out h=>hI 15 gs out h) aC.nil) (by kernel_rfl) h
theorem t18:aQ C VL c18:=fun I hI gs out h=>
 aG.bD low mixed names (aU I hI) (specs:=[(0,IK)]) (fuel:=100000) (c:=UY) (pe:=[]) Tryz.func59 (by kernel_rfl) (aC.cons rfl (fun gs out h=>hI 19 gs out h) aC.nil) (by kernel_rfl) h
theorem t29:aQ C V3 c29:=fun _ _ _ _ h=>adk h
theorem t32:aQ C V6 c32:=fun I hI gs out h=>
 lC.bD low mixed names (aU I hI) (specs:=[]) (fuel:=100000) (c:=adK) (pe:=[]) (sp:=IU) rfl Tryz.func27 (by kernel_rfl) aC.nil (by kernel_rfl) h
theorem t36:aQ C Wh Sr:=fun _ _ _ _ h=>amU h
theorem t41:aQ C Wp SA:=fun I hI gs out h=>
 aZ.fB low mixed names (aU I hI) (specs:=[]) (fuel:=100000) (sp:=IX) (by kernel_rfl) rfl (ps:=[]) (b:=QI) aC.nil (fun gs out h=>hI 41 gs out h) (by kernel_rfl) h
theorem t45:aQ C Wv SG:=fun I hI gs out h=>
 aG.bD low mixed names (aU I hI) (specs:=[]) (fuel:=100000) (c:=adx) (pe:=[]) Tryz.func122 (by kernel_rfl) aC.nil (by kernel_rfl) h
theorem t47:aQ C Wy SH:=fun I hI gs out h=>
 lC.bD low mixed names (aU I hI) (specs:=[(0,I4)]) (fuel:=100000) (c:=U6) (pe:=[]) (sp:=IZ) rfl Tryz.func97 (by kernel_rfl) (aC.cons rfl (fun gs out h=>hI 48 gs out h) aC.nil) (by kernel_rfl) h
theorem t48:aQ C WA SI:=fun I hI gs out h=>
 aZ.fB low mixed names (aU I hI) (specs:=[]) (fuel:=100000) (sp:=I4) (by kernel_rfl) rfl (ps:=[]) (b:=QK) aC.nil (fun gs out h=>hI 48 gs out h) (by kernel_rfl) h
theorem t55:aQ C WJ SQ:=fun I hI gs out h=>
 aZ.fB low mixed names (aU I hI) (specs:=[(0,I9)]) (fuel:=100000) (sp:=I8) (by kernel_rfl) rfl (ps:=[]) (b:=KF) (aC.cons rfl (fun gs out h=>hI 57 gs out h) aC.nil) (fun gs out h=>hI 55 gs out h) (by kernel_rfl) h
theorem t58:aQ C WO SX:=fun I hI gs out h=>
 aG.bD low mixed names (aU I hI) (specs:=[]) (fuel:=100000) (c:=adL) (pe:=[]) Tryz.func31 (by kernel_rfl) aC.nil (by kernel_rfl) h
theorem t67:aQ C WY Tj:=fun I hI gs out h=>
 aZ.fB low mixed names (aU I hI) (specs:=[]) (fuel:=100000) (sp:=Jd) (by kernel_rfl) rfl (ps:=[]) (b:=QT) aC.nil (fun gs out h=>hI 67 gs out h) (by kernel_rfl) h
theorem t70:aQ C Xa c70:=fun I hI gs out h=>
 aG.bD low mixed names (aU I hI) (specs:=[]) (fuel:=100000) (c:=adC) (pe:=[]) Tryz.func142 (by kernel_rfl) aC.nil (by kernel_rfl) h
theorem t74:aQ C Xe Tz:=fun I hI gs out h=>
 aG.bD low mixed names (aU I hI) (specs:=[(0,Je)]) (fuel:=100000) (c:=UE) (pe:=[]) Tryz.func163 (by kernel_rfl) (aC.cons rfl (fun gs out h=>hI 75 gs out h) aC.nil) (by kernel_rfl) h
theorem t77:aQ C Xh TA:=fun I hI gs out h=>
 aG.bD low mixed names (aU I hI) (specs:=[(0,s78)]) (fuel:=100000) (c:=U1) (pe:=[]) Tryz.func69 (by kernel_rfl) (aC.cons rfl (fun gs out h=>hI 78 gs out h) aC.nil) (by kernel_rfl) h
theorem t82:aQ C Xm TG:=fun I hI gs out h=>
 aZ.fB low mixed names (aU I hI) (specs:=[]) (fuel:=100000) (sp:=s82) (by kernel_rfl) rfl (ps:=[]) (b:=QX) aC.nil (fun gs out h=>hI 82 gs out h) (by kernel_rfl) h
theorem t84:aQ C Xo TJ:=fun I hI gs out h=>
 aG.bD low mixed names (aU I hI) (specs:=[]) (fuel:=100000) (c:=adO) (pe:=[]) Tryz.func36 (by kernel_rfl) aC.nil (by kernel_rfl) h
theorem t85:aQ C Xp c85:=fun I hI gs out h=>
 aZ.fB low mixed names (aU I hI) (specs:=[]) (fuel:=100000) (sp:=Jf) (by kernel_rfl) rfl (ps:=[]) (b:=QY) aC.nil (fun gs out h=>hI 85 gs out h) (by kernel_rfl) h
theorem t89:aQ C Xu TM:=fun I hI gs out h=>
 aG.bD low mixed names (aU I hI) (specs:=[(0,Jh)]) (fuel:=100000) (c:=U2) (pe:=[]) Tryz.func73 (by kernel_rfl) (aC.cons rfl (fun gs out h=>hI 92 gs out h) aC.nil) (by kernel_rfl) h
theorem t95:aQ C XA TS:=fun I hI gs out h=>
 aG.bD low mixed names (aU I hI) (specs:=[(0,Ji)]) (fuel:=100000) (c:=Ut) (pe:=[]) Tryz.func106 (by kernel_rfl) (aC.cons rfl (fun gs out h=>hI 96 gs out h) aC.nil) (by kernel_rfl) h
theorem t96:aQ C XB TU:=fun I hI gs out h=>
 aZ.fB low mixed names (aU I hI) (specs:=[]) (fuel:=100000) (sp:=Ji) (by kernel_rfl) rfl (ps:=[]) (b:=Q7) aC.nil (fun gs out h=>hI 96 gs out h) (by kernel_rfl) h
theorem al0:aQ C Vx RP:=fun I hI gs out h=>
 aG.bD low mixed names (aU I hI) (specs:=[(0,IC)]) (fuel:=100000) (c:=U3) (pe:=[]) Tryz.func75 (by kernel_rfl) (aC.cons rfl (fun gs out h=>hI 113 gs out h) aC.nil) (by kernel_rfl) h
theorem t116:aQ C VB c116:=fun I hI gs out h=>
 aZ.fB low mixed names (aU I hI) (specs:=[]) (fuel:=100000) (sp:=IE) (by kernel_rfl) rfl (ps:=[]) (b:=QD) aC.nil (fun gs out h=>hI 116 gs out h) (by kernel_rfl) h
theorem t119:aQ C VF c119:=fun I hI gs out h=>
 aZ.fB low mixed names (aU I hI) (specs:=[(0,IJ)]) (fuel:=100000) (sp:=IG) (by kernel_rfl) rfl (ps:=[]) (b:=KE) (aC.cons rfl (fun gs out h=>hI 120 gs out h) aC.nil) (fun gs out h=>hI 119 gs out h) (by kernel_rfl) h
end M
end Go.Proofs.YtpkihgnabejkkaaGreatDoor
