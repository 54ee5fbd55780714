/- Definitions keep their contracts: the ways of the bodies, run by the kernel. -/
import Derived.Test.YthgifdbaegpbpaaGreatDoorKQP
namespace Go.Proofs.YthgifdbaegpbpaaGreatDoor
open Go Go.aP
set_option maxRecDepth 100000
set_option linter.unusedVariables false
set_option linter.unusedSimpArgs false
namespace Q
theorem t1:aN C d1 c1:=fun I hI gs out h=>
 aI.aX low mixed names (aO I hI) (specs:=[]) (fuel:=100000) (c:=Yr) (pe:=[]) Tryz.func3 (by kernel_rfl) aB.nil (by kernel_rfl) h
theorem t4:aN C d4 c4:=fun I hI gs out h=>
 aU.dG low mixed names (aO I hI) (specs:=[]) (fuel:=100000) (sp:=s4) (by kernel_rfl) rfl (ps:=[]) (b:=b4) aB.nil (fun gs out h=>hI 4 gs out h) (by kernel_rfl) h
theorem t7:aN C d7 c7:=fun I hI gs out h=>
 aI.aX low mixed names (aO I hI) (specs:=[(0,s12)]) (fuel:=100000) (c:=YC) (pe:=[]) Tryz.func66 (by kernel_rfl) (aB.cons rfl (fun gs out h=>hI 12 gs out h) aB.nil) (by kernel_rfl) h
theorem t18:aN C Z7 c18:=fun I hI gs out h=>
 aI.aX low mixed names (aO I hI) (specs:=[(0,KG)]) (fuel:=100000) (c:=X0) (pe:=[]) Tryz.func100 (by kernel_rfl) (aB.cons rfl (fun gs out h=>hI 19 gs out h) aB.nil) (by kernel_rfl) h
theorem t20:aN C Z9 c20:=fun I hI gs out h=>
 aI.aX low mixed names (aO I hI) (specs:=[]) (fuel:=100000) (c:=af6) (pe:=[]) Tryz.func12 (by kernel_rfl) aB.nil (by kernel_rfl) h
theorem t22:aN C d22 Wv:=fun I hI gs out h=>
 aU.dG low mixed names (aO I hI) (specs:=[]) (fuel:=100000) (sp:=KH) (by kernel_rfl) rfl (ps:=[]) (b:=b22) aB.nil (fun gs out h=>hI 22 gs out h) (by kernel_rfl) h
theorem t27:aN C d27 Wy:=fun I hI gs out h=>
 aI.aX low mixed names (aO I hI) (specs:=[]) (fuel:=100000) (c:=aga) (pe:=[]) Tryz.func13 (by kernel_rfl) aB.nil (by kernel_rfl) h
theorem t28:aN C d28 c28:=fun I hI gs out h=>
 aI.aX low mixed names (aO I hI) (specs:=[(0,s82)]) (fuel:=100000) (c:=Yd) (pe:=[]) Tryz.func15 (by kernel_rfl) (aB.cons rfl (fun gs out h=>hI 82 gs out h) aB.nil) (by kernel_rfl) h
theorem t30:aN C d30 WA:=fun I hI gs out h=>
 aI.aX low mixed names (aO I hI) (specs:=[]) (fuel:=100000) (c:=agB) (pe:=[]) Tryz.func25 (by kernel_rfl) aB.nil (by kernel_rfl) h
theorem t31:aN C d31 c31:=fun I hI gs out h=>
 aI.aX low mixed names (aO I hI) (specs:=[(0,KI)]) (fuel:=100000) (c:=Yq) (pe:=[]) Tryz.func26 (by kernel_rfl) (aB.cons rfl (fun gs out h=>hI 33 gs out h) aB.nil) (by kernel_rfl) h
theorem t35:aN C d35 WC:=fun I hI gs out h=>
 aI.aX low mixed names (aO I hI) (specs:=[]) (fuel:=100000) (c:=agd) (pe:=[]) Tryz.func133 (by kernel_rfl) aB.nil (by kernel_rfl) h
theorem t36:aN C d36 WE:=fun I hI gs out h=>
 aI.aX low mixed names (aO I hI) (specs:=[]) (fuel:=100000) (c:=agf) (pe:=[]) Tryz.func134 (by kernel_rfl) aB.nil (by kernel_rfl) h
theorem t39:aN C d39 WH:=fun I hI gs out h=>
 aI.aX low mixed names (aO I hI) (specs:=[]) (fuel:=100000) (c:=agj) (pe:=[]) Tryz.func137 (by kernel_rfl) aB.nil (by kernel_rfl) h
theorem t43:aN C d43 WL:=fun I hI gs out h=>
 aU.dG low mixed names (aO I hI) (specs:=[]) (fuel:=100000) (sp:=s43) (by kernel_rfl) rfl (ps:=[]) (b:=UZ) aB.nil (fun gs out h=>hI 43 gs out h) (by kernel_rfl) h
theorem t45:aN C d45 WO:=fun I hI gs out h=>
 dQ.aX low mixed names (aO I hI) (specs:=[]) (fuel:=100000) (c:=jH) (pe:=[]) (sp:=KL) rfl Tryz.func96 (by kernel_rfl) aB.nil (by kernel_rfl) h
theorem t47:aN C d47 WQ:=fun I hI gs out h=>
 dQ.aX low mixed names (aO I hI) (specs:=[]) (fuel:=100000) (c:=jH) (pe:=[]) (sp:=KO) rfl Tryz.func96 (by kernel_rfl) aB.nil (by kernel_rfl) h
theorem t49:aN C d49 c49:=fun I hI gs out h=>
 aI.aX low mixed names (aO I hI) (specs:=[]) (fuel:=100000) (c:=agx) (pe:=[]) Tryz.func193 (by kernel_rfl) aB.nil (by kernel_rfl) h
theorem t53:aN C d53 c53:=fun I hI gs out h=>
 dQ.aX low mixed names (aO I hI) (specs:=[]) (fuel:=100000) (c:=jH) (pe:=[]) (sp:=s53) rfl Tryz.func96 (by kernel_rfl) aB.nil (by kernel_rfl) h
theorem t55:aN C d55 WV:=fun I hI gs out h=>
 aU.dG low mixed names (aO I hI) (specs:=[]) (fuel:=100000) (sp:=KR) (by kernel_rfl) rfl (ps:=[]) (b:=U1) aB.nil (fun gs out h=>hI 55 gs out h) (by kernel_rfl) h
theorem t58:aN C d58 WY:=fun I hI gs out h=>
 aI.aX low mixed names (aO I hI) (specs:=[(0,KU)]) (fuel:=100000) (c:=Yn) (pe:=[]) Tryz.func23 (by kernel_rfl) (aB.cons rfl (fun gs out h=>hI 59 gs out h) aB.nil) (by kernel_rfl) h
theorem t63:aN C d63 Xb:=fun I hI gs out h=>
 dQ.aX low mixed names (aO I hI) (specs:=[]) (fuel:=100000) (c:=jH) (pe:=[]) (sp:=KY) rfl Tryz.func96 (by kernel_rfl) aB.nil (by kernel_rfl) h
theorem t67:aN C d67 Xe:=fun I hI gs out h=>
 dQ.aX low mixed names (aO I hI) (specs:=[]) (fuel:=100000) (c:=jH) (pe:=[]) (sp:=Ld) rfl Tryz.func96 (by kernel_rfl) aB.nil (by kernel_rfl) h
theorem t71:aN C d71 Xh:=fun I hI gs out h=>
 dQ.aX low mixed names (aO I hI) (specs:=[]) (fuel:=100000) (c:=jH) (pe:=[]) (sp:=Lj) rfl Tryz.func96 (by kernel_rfl) aB.nil (by kernel_rfl) h
theorem t75:aN C d75 c75:=fun I hI gs out h=>
 dQ.aX low mixed names (aO I hI) (specs:=[]) (fuel:=100000) (c:=jH) (pe:=[]) (sp:=Lp) rfl Tryz.func96 (by kernel_rfl) aB.nil (by kernel_rfl) h
theorem t80:aN C d80 c80:=fun I hI gs out h=>
 aU.dG low mixed names (aO I hI) (specs:=[(0,LC)]) (fuel:=100000) (sp:=Lu) (by kernel_rfl) rfl (ps:=[]) (b:=NY) (aB.cons rfl (fun gs out h=>hI 81 gs out h) aB.nil) (fun gs out h=>hI 80 gs out h) (by kernel_rfl) h
theorem t81:aN C d81 Xn:=fun I hI gs out h=>
 aU.dG low mixed names (aO I hI) (specs:=[]) (fuel:=100000) (sp:=LC) (by kernel_rfl) rfl (ps:=[]) (b:=U4) aB.nil (fun gs out h=>hI 81 gs out h) (by kernel_rfl) h
theorem t93:aN C d93 c93:=fun I hI gs out h=>
 aI.aX low mixed names (aO I hI) (specs:=[]) (fuel:=100000) (c:=agE) (pe:=[]) Tryz.func52 (by kernel_rfl) aB.nil (by kernel_rfl) h
theorem t96:aN C d96 Xz:=fun I hI gs out h=>
 dQ.aX low mixed names (aO I hI) (specs:=[(0,LP)]) (fuel:=100000) (c:=X4) (pe:=[]) (sp:=LM) rfl Tryz.func102 (by kernel_rfl) (aB.cons rfl (fun gs out h=>hI 97 gs out h) aB.nil) (by kernel_rfl) h
theorem apE:aN C YQ Vy:=fun I hI gs out h=>
 aU.dG low mixed names (aO I hI) (specs:=[(0,JU)]) (fuel:=100000) (sp:=JR) (by kernel_rfl) rfl (ps:=[]) (b:=NQ) (aB.cons rfl (fun gs out h=>hI 105 gs out h) aB.nil) (fun gs out h=>hI 104 gs out h) (by kernel_rfl) h
theorem apJ:aN C YZ VE:=fun I hI gs out h=>
 aI.aX low mixed names (aO I hI) (specs:=[]) (fuel:=100000) (c:=af0) (pe:=[]) Tryz.func106 (by kernel_rfl) aB.nil (by kernel_rfl) h
theorem apM:aN C Y2 VI:=fun I hI gs out h=>
 aU.dG low mixed names (aO I hI) (specs:=[]) (fuel:=100000) (sp:=JX) (by kernel_rfl) rfl (ps:=[]) (b:=Uu) aB.nil (fun gs out h=>hI 115 gs out h) (by kernel_rfl) h
theorem t117:aN C Y4 c117:=fun I hI gs out h=>
 aI.aX low mixed names (aO I hI) (specs:=[]) (fuel:=100000) (c:=agt) (pe:=[]) Tryz.func169 (by kernel_rfl) aB.nil (by kernel_rfl) h
theorem apT:aN C Zd VQ:=fun I hI gs out h=>
 aI.aX low mixed names (aO I hI) (specs:=[(0,J4)]) (fuel:=100000) (c:=Yg) (pe:=[]) Tryz.func160 (by kernel_rfl) (aB.cons rfl (fun gs out h=>hI 127 gs out h) aB.nil) (by kernel_rfl) h
theorem apU:aN C Zf VT:=fun I hI gs out h=>
 aI.aX low mixed names (aO I hI) (specs:=[(0,J5)]) (fuel:=100000) (c:=Yl) (pe:=[]) Tryz.func196 (by kernel_rfl) (aB.cons rfl (fun gs out h=>hI 129 gs out h) aB.nil) (by kernel_rfl) h
theorem apW:aN C Zj VW:=fun I hI gs out h=>
 aI.aX low mixed names (aO I hI) (specs:=[(0,J6)]) (fuel:=100000) (c:=Yo) (pe:=[]) Tryz.func233 (by kernel_rfl) (aB.cons rfl (fun gs out h=>hI 133 gs out h) aB.nil) (by kernel_rfl) h
theorem apZ:aN C Zm VZ:=fun I hI gs out h=>
 aI.aX low mixed names (aO I hI) (specs:=[(0,J7)]) (fuel:=100000) (c:=Yh) (pe:=[]) Tryz.func170 (by kernel_rfl) (aB.cons rfl (fun gs out h=>hI 136 gs out h) aB.nil) (by kernel_rfl) h
theorem t138:aN C Zp c138:=fun I hI gs out h=>
 aI.aX low mixed names (aO I hI) (specs:=[(0,J8)]) (fuel:=100000) (c:=Yp) (pe:=[]) Tryz.func239 (by kernel_rfl) (aB.cons rfl (fun gs out h=>hI 139 gs out h) aB.nil) (by kernel_rfl) h
theorem t139:aN C Zq c139:=fun I hI gs out h=>
 aU.dG low mixed names (aO I hI) (specs:=[]) (fuel:=100000) (sp:=J8) (by kernel_rfl) rfl (ps:=[]) (b:=UE) aB.nil (fun gs out h=>hI 139 gs out h) (by kernel_rfl) h
theorem ap2:aN C Zt V5:=fun I hI gs out h=>
 aU.dG low mixed names (aO I hI) (specs:=[]) (fuel:=100000) (sp:=J9) (by kernel_rfl) rfl (ps:=[]) (b:=UF) aB.nil (fun gs out h=>hI 140 gs out h) (by kernel_rfl) h
theorem ap5:aN C ZA V8:=fun I hI gs out h=>
 aU.dG low mixed names (aO I hI) (specs:=[]) (fuel:=100000) (sp:=Kt) (by kernel_rfl) rfl (ps:=[]) (b:=UJ) aB.nil (fun gs out h=>hI 147 gs out h) (by kernel_rfl) h
theorem t148:aN C ZB c148:=fun I hI gs out h=>
 aI.aX low mixed names (aO I hI) (specs:=[(0,Ku),(1,Kv)]) (fuel:=100000) (c:=Ot) (pe:=[]) Tryz.func59 (by kernel_rfl) (aB.cons rfl (fun gs out h=>hI 149 gs out h) (aB.cons rfl (fun gs out h=>hI 150 gs out h) aB.nil)) (by kernel_rfl) h
theorem ap7:aN C ZF Wh:=fun I hI gs out h=>
 aU.dG low mixed names (aO I hI) (specs:=[(0,Kw)]) (fuel:=100000) (sp:=Kv) (by kernel_rfl) rfl (ps:=[]) (b:=NT) (aB.cons rfl (fun gs out h=>hI 151 gs out h) aB.nil) (fun gs out h=>hI 150 gs out h) (by kernel_rfl) h
theorem t154:aN C ZJ c154:=fun I hI gs out h=>
 aU.dG low mixed names (aO I hI) (specs:=[]) (fuel:=100000) (sp:=Kz) (by kernel_rfl) rfl (ps:=[]) (b:=UM) aB.nil (fun gs out h=>hI 154 gs out h) (by kernel_rfl) h
theorem t162:aN C ZT c162:=fun I hI gs out h=>
 aI.aX low mixed names (aO I hI) (specs:=[]) (fuel:=100000) (c:=agw) (pe:=[]) Tryz.func18 (by kernel_rfl) aB.nil (by kernel_rfl) h
theorem aqe:aN C ZW Ws:=fun I hI gs out h=>
 aU.dG low mixed names (aO I hI) (specs:=[]) (fuel:=100000) (sp:=KE) (by kernel_rfl) rfl (ps:=[]) (b:=UO) aB.nil (fun gs out h=>hI 165 gs out h) (by kernel_rfl) h
theorem t168:aN C Z4 c168:=fun I hI gs out h=>
 aI.aX low mixed names (aO I hI) (specs:=[]) (fuel:=100000) (c:=agA) (pe:=[]) Tryz.func21 (by kernel_rfl) aB.nil (by kernel_rfl) h
end Q
end Go.Proofs.YthgifdbaegpbpaaGreatDoor
