/- Definitions keep their contracts: the ways of the bodies, run by the kernel. -/
import Derived.Test.YtpkihgnabejkkaaGreatDoorKMP
namespace Go.Proofs.YtpkihgnabejkkaaGreatDoor
open Go Go.aJ
set_option maxRecDepth 100000
set_option linter.unusedVariables false
set_option linter.unusedSimpArgs false
namespace M
theorem t1:aQ C d1 c1:=fun I hI gs out h=>
 aG.bD low mixed names (aU I hI) (specs:=[]) (fuel:=100000) (c:=UQ) (pe:=[]) Tryz.func3 (by kernel_rfl) aC.nil (by kernel_rfl) h
theorem t4:aQ C d4 c4:=fun I hI gs out h=>
 aZ.fB low mixed names (aU I hI) (specs:=[]) (fuel:=100000) (sp:=s4) (by kernel_rfl) rfl (ps:=[]) (b:=b4) aC.nil (fun gs out h=>hI 4 gs out h) (by kernel_rfl) h
theorem t5:aQ C d5 c5:=fun I hI gs out h=>
 aG.bD low mixed names (aU I hI) (specs:=[(0,s6)]) (fuel:=100000) (c:=UJ) (pe:=[]) Tryz.func21 (by kernel_rfl) (aC.cons rfl (fun gs out h=>hI 6 gs out h) aC.nil) (by kernel_rfl) h
theorem t11:aQ C d11 c11:=fun I hI gs out h=>
 aZ.fB low mixed names (aU I hI) (specs:=[]) (fuel:=100000) (sp:=s11) (by kernel_rfl) rfl (ps:=[]) (b:=b11) aC.nil (fun gs out h=>hI 11 gs out h) (by kernel_rfl) h
theorem t15:aQ C VI c15:=fun I hI gs out h=>
 aZ.fB low mixed names (aU I hI) (specs:=[]) (fuel:=100000) (sp:=s15) (by kernel_rfl) rfl (ps:=[]) (b:=b15) aC.nil (fun gs out h=>hI 15 gs out h) (by kernel_rfl) h
theorem t17:aQ C VK c17:=fun I hI gs out h=>
 aG.bD low mixed names (aU I hI) (specs:=[]) (fuel:=100000) (c:=adJ) (pe:=[]) Tryz.func23 (by kernel_rfl) aC.nil (by kernel_rfl) h
theorem t19:aQ C VN c19:=fun I hI gs out h=>
 aZ.fB low mixed names (aU I hI) (specs:=[]) (fuel:=100000) (sp:=IK) (by kernel_rfl) rfl (ps:=[]) (b:=b19) aC.nil (fun gs out h=>hI 19 gs out h) (by kernel_rfl) h
theorem t20:aQ C VO c20:=fun I hI gs out h=>
 aG.bD low mixed names (aU I hI) (specs:=[]) (fuel:=100000) (c:=ad2) (pe:=[]) Tryz.func8 (by kernel_rfl) aC.nil (by kernel_rfl) h
theorem t21:aQ C VP c21:=fun I hI gs out h=>
 aG.bD low mixed names (aU I hI) (specs:=[(0,IL)]) (fuel:=100000) (c:=UL) (pe:=[]) Tryz.func24 (by kernel_rfl) (aC.cons rfl (fun gs out h=>hI 22 gs out h) aC.nil) (by kernel_rfl) h
theorem t22:aQ C VQ RY:=fun I hI gs out h=>
 aZ.fB low mixed names (aU I hI) (specs:=[]) (fuel:=100000) (sp:=IL) (by kernel_rfl) rfl (ps:=[]) (b:=b22) aC.nil (fun gs out h=>hI 22 gs out h) (by kernel_rfl) h
theorem t31:aQ C V5 c31:=fun _ _ _ _ h=>ae5 h
theorem t33:aQ C V7 Sl:=fun I hI gs out h=>
 aG.bD low mixed names (aU I hI) (specs:=[]) (fuel:=100000) (c:=adR) (pe:=[]) Tryz.func61 (by kernel_rfl) aC.nil (by kernel_rfl) h
theorem t34:aQ C V8 c34:=fun I hI gs out h=>
 aG.bD low mixed names (aU I hI) (specs:=[]) (fuel:=100000) (c:=adS) (pe:=[]) Tryz.func63 (by kernel_rfl) aC.nil (by kernel_rfl) h
theorem t52:aQ C WG SL:=fun I hI gs out h=>
 lC.bD low mixed names (aU I hI) (specs:=[]) (fuel:=100000) (c:=adB) (pe:=[]) (sp:=I7) rfl Tryz.func141 (by kernel_rfl) aC.nil (by kernel_rfl) h
theorem t54:aQ C WI SN:=fun I hI gs out h=>
 aG.bD low mixed names (aU I hI) (specs:=[(0,I8)]) (fuel:=100000) (c:=UO) (pe:=[]) Tryz.func28 (by kernel_rfl) (aC.cons rfl (fun gs out h=>hI 55 gs out h) aC.nil) (by kernel_rfl) h
theorem t56:aQ C WL SS:=fun I hI gs out h=>
 aG.bD low mixed names (aU I hI) (specs:=[]) (fuel:=100000) (c:=adV) (pe:=[]) Tryz.func66 (by kernel_rfl) aC.nil (by kernel_rfl) h
theorem t60:aQ C WR SY:=fun I hI gs out h=>
 aZ.fB low mixed names (aU I hI) (specs:=[]) (fuel:=100000) (sp:=Ja) (by kernel_rfl) rfl (ps:=[]) (b:=QN) aC.nil (fun gs out h=>hI 60 gs out h) (by kernel_rfl) h
theorem t64:aQ C WV c64:=fun I hI gs out h=>
 aG.bD low mixed names (aU I hI) (specs:=[(0,s68)]) (fuel:=100000) (c:=U0) (pe:=[]) Tryz.func68 (by kernel_rfl) (aC.cons rfl (fun gs out h=>hI 68 gs out h) aC.nil) (by kernel_rfl) h
theorem t75:aQ C Xf c75:=fun I hI gs out h=>
 aZ.fB low mixed names (aU I hI) (specs:=[]) (fuel:=100000) (sp:=Je) (by kernel_rfl) rfl (ps:=[]) (b:=QV) aC.nil (fun gs out h=>hI 75 gs out h) (by kernel_rfl) h
theorem t79:aQ C Xj TD:=fun I hI gs out h=>
 aG.bD low mixed names (aU I hI) (specs:=[]) (fuel:=100000) (c:=adt) (pe:=[]) Tryz.func103 (by kernel_rfl) aC.nil (by kernel_rfl) h
theorem t80:aQ C Xk c80:=fun I hI gs out h=>
 aG.bD low mixed names (aU I hI) (specs:=[]) (fuel:=100000) (c:=adF) (pe:=[]) Tryz.func145 (by kernel_rfl) aC.nil (by kernel_rfl) h
theorem t81:aQ C Xl TF:=fun I hI gs out h=>
 aG.bD low mixed names (aU I hI) (specs:=[(0,s82)]) (fuel:=100000) (c:=UC) (pe:=[]) Tryz.func146 (by kernel_rfl) (aC.cons rfl (fun gs out h=>hI 82 gs out h) aC.nil) (by kernel_rfl) h
theorem t83:aQ C Xn TI:=fun I hI gs out h=>
 aG.bD low mixed names (aU I hI) (specs:=[(0,Jf),(1,Iz)]) (fuel:=100000) (c:=KR) (pe:=[]) Tryz.func12 (by kernel_rfl) (aC.cons rfl (fun gs out h=>hI 85 gs out h) (aC.cons rfl (fun gs out h=>hI 108 gs out h) aC.nil)) (by kernel_rfl) h
theorem t91:aQ C Xw c91:=fun I hI gs out h=>
 aZ.fB low mixed names (aU I hI) (specs:=[]) (fuel:=100000) (sp:=Jg) (by kernel_rfl) rfl (ps:=[]) (b:=QZ) aC.nil (fun gs out h=>hI 91 gs out h) (by kernel_rfl) h
theorem t98:aQ C XD TW:=fun I hI gs out h=>
 aG.bD low mixed names (aU I hI) (specs:=[(0,Jj)]) (fuel:=100000) (c:=UF) (pe:=[]) Tryz.func164 (by kernel_rfl) (aC.cons rfl (fun gs out h=>hI 99 gs out h) aC.nil) (by kernel_rfl) h
theorem t99:aQ C XE TY:=fun I hI gs out h=>
 aZ.fB low mixed names (aU I hI) (specs:=[]) (fuel:=100000) (sp:=Jj) (by kernel_rfl) rfl (ps:=[]) (b:=Q8) aC.nil (fun gs out h=>hI 99 gs out h) (by kernel_rfl) h
theorem alU:aQ C Vm RF:=fun I hI gs out h=>
 aG.bD low mixed names (aU I hI) (specs:=[(0,Iu)]) (fuel:=100000) (c:=UR) (pe:=[]) Tryz.func38 (by kernel_rfl) (aC.cons rfl (fun gs out h=>hI 104 gs out h) aC.nil) (by kernel_rfl) h
theorem t105:aQ C Vp c105:=fun I hI gs out h=>
 aZ.fB low mixed names (aU I hI) (specs:=[]) (fuel:=100000) (sp:=Iw) (by kernel_rfl) rfl (ps:=[]) (b:=Qy) aC.nil (fun gs out h=>hI 105 gs out h) (by kernel_rfl) h
theorem t109:aQ C Vt c109:=fun I hI gs out h=>
 aG.bD low mixed names (aU I hI) (specs:=[(0,IB)]) (fuel:=100000) (c:=UA) (pe:=[]) Tryz.func13 (by kernel_rfl) (aC.cons rfl (fun gs out h=>hI 111 gs out h) aC.nil) (by kernel_rfl) h
theorem al3:aQ C VA RU:=fun I hI gs out h=>
 aG.bD low mixed names (aU I hI) (specs:=[(0,IE)]) (fuel:=100000) (c:=Uw) (pe:=[]) Tryz.func108 (by kernel_rfl) (aC.cons rfl (fun gs out h=>hI 116 gs out h) aC.nil) (by kernel_rfl) h
theorem al5:aQ C VG RX:=fun I hI gs out h=>
 aZ.fB low mixed names (aU I hI) (specs:=[]) (fuel:=100000) (sp:=IJ) (by kernel_rfl) rfl (ps:=[]) (b:=QE) aC.nil (fun gs out h=>hI 120 gs out h) (by kernel_rfl) h
end M
end Go.Proofs.YtpkihgnabejkkaaGreatDoor
