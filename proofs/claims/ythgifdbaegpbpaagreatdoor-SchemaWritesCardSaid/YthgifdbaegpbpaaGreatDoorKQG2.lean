/- Definitions keep their contracts: the ways of the bodies, run by the kernel. -/
import Derived.Test.YthgifdbaegpbpaaGreatDoorKQP
namespace Go.Proofs.YthgifdbaegpbpaaGreatDoor
open Go Go.aP
set_option maxRecDepth 100000
set_option linter.unusedVariables false
set_option linter.unusedSimpArgs false
namespace Q
theorem t0:aN C d0 c0:=fun _ _ _ _ h=>h
theorem t5:aN C d5 c5:=fun I hI gs out h=>
 aI.aX low mixed names (aO I hI) (specs:=[(0,s6)]) (fuel:=100000) (c:=Yu) (pe:=[]) Tryz.func47 (by kernel_rfl) (aB.cons rfl (fun gs out h=>hI 6 gs out h) aB.nil) (by kernel_rfl) h
theorem t6:aN C d6 c6:=fun I hI gs out h=>
 aU.dG low mixed names (aO I hI) (specs:=[]) (fuel:=100000) (sp:=s6) (by kernel_rfl) rfl (ps:=[]) (b:=b6) aB.nil (fun gs out h=>hI 6 gs out h) (by kernel_rfl) h
theorem t9:aN C d9 c9:=fun I hI gs out h=>
 aI.aX low mixed names (aO I hI) (specs:=[(0,s10)]) (fuel:=100000) (c:=X5) (pe:=[]) Tryz.func103 (by kernel_rfl) (aB.cons rfl (fun gs out h=>hI 10 gs out h) aB.nil) (by kernel_rfl) h
theorem t11:aN C d11 c11:=fun I hI gs out h=>
 aU.dG low mixed names (aO I hI) (specs:=[]) (fuel:=100000) (sp:=s11) (by kernel_rfl) rfl (ps:=[]) (b:=b11) aB.nil (fun gs out h=>hI 11 gs out h) (by kernel_rfl) h
theorem t12:aN C d12 c12:=fun I hI gs out h=>
 aU.dG low mixed names (aO I hI) (specs:=[]) (fuel:=100000) (sp:=s12) (by kernel_rfl) rfl (ps:=[]) (b:=b12) aB.nil (fun gs out h=>hI 12 gs out h) (by kernel_rfl) h
theorem t16:aN C ZP c16:=fun I hI gs out h=>
 aI.aX low mixed names (aO I hI) (specs:=[]) (fuel:=100000) (c:=af2) (pe:=[]) Tryz.func11 (by kernel_rfl) aB.nil (by kernel_rfl) h
theorem t21:aN C d21 c21:=fun I hI gs out h=>
 aI.aX low mixed names (aO I hI) (specs:=[(0,KH)]) (fuel:=100000) (c:=Yw) (pe:=[]) Tryz.func50 (by kernel_rfl) (aB.cons rfl (fun gs out h=>hI 22 gs out h) aB.nil) (by kernel_rfl) h
theorem t26:aN C d26 Wx:=fun I hI gs out h=>
 aU.dG low mixed names (aO I hI) (specs:=[]) (fuel:=100000) (sp:=s26) (by kernel_rfl) rfl (ps:=[]) (b:=UU) aB.nil (fun gs out h=>hI 26 gs out h) (by kernel_rfl) h
theorem t29:aN C d29 c29:=fun I hI gs out h=>
 aI.aX low mixed names (aO I hI) (specs:=[(0,KJ),(1,s43),(2,s44),(3,Lu)]) (fuel:=100000) (c:=EG) (pe:=[]) Tryz.func44 (by kernel_rfl) (aB.cons rfl (fun gs out h=>hI 41 gs out h) (aB.cons rfl (fun gs out h=>hI 43 gs out h) (aB.cons rfl (fun gs out h=>hI 44 gs out h) (aB.cons rfl (fun gs out h=>hI 80 gs out h) aB.nil)))) (by kernel_rfl) h
theorem t32:aN C d32 c32:=fun I hI gs out h=>
 aI.aX low mixed names (aO I hI) (specs:=[]) (fuel:=100000) (c:=agb) (pe:=[]) Tryz.func131 (by kernel_rfl) aB.nil (by kernel_rfl) h
theorem t33:aN C d33 WB:=fun I hI gs out h=>
 aU.dG low mixed names (aO I hI) (specs:=[]) (fuel:=100000) (sp:=KI) (by kernel_rfl) rfl (ps:=[]) (b:=UW) aB.nil (fun gs out h=>hI 33 gs out h) (by kernel_rfl) h
theorem t40:aN C d40 c40:=fun I hI gs out h=>
 aI.aX low mixed names (aO I hI) (specs:=[]) (fuel:=100000) (c:=agk) (pe:=[]) Tryz.func138 (by kernel_rfl) aB.nil (by kernel_rfl) h
theorem t44:aN C d44 WM:=fun I hI gs out h=>
 aU.dG low mixed names (aO I hI) (specs:=[]) (fuel:=100000) (sp:=s44) (by kernel_rfl) rfl (ps:=[]) (b:=U0) aB.nil (fun gs out h=>hI 44 gs out h) (by kernel_rfl) h
theorem t51:aN C d51 c51:=fun I hI gs out h=>
 dQ.aX low mixed names (aO I hI) (specs:=[]) (fuel:=100000) (c:=jH) (pe:=[]) (sp:=KP) rfl Tryz.func96 (by kernel_rfl) aB.nil (by kernel_rfl) h
theorem t54:aN C d54 WU:=fun I hI gs out h=>
 aI.aX low mixed names (aO I hI) (specs:=[(0,KR)]) (fuel:=100000) (c:=Yc) (pe:=[]) Tryz.func124 (by kernel_rfl) (aB.cons rfl (fun gs out h=>hI 55 gs out h) aB.nil) (by kernel_rfl) h
theorem t57:aN C d57 WX:=fun I hI gs out h=>
 dQ.aX low mixed names (aO I hI) (specs:=[]) (fuel:=100000) (c:=jH) (pe:=[]) (sp:=KT) rfl Tryz.func96 (by kernel_rfl) aB.nil (by kernel_rfl) h
theorem t61:aN C d61 W9:=fun I hI gs out h=>
 dQ.aX low mixed names (aO I hI) (specs:=[]) (fuel:=100000) (c:=jH) (pe:=[]) (sp:=KW) rfl Tryz.func96 (by kernel_rfl) aB.nil (by kernel_rfl) h
theorem t65:aN C d65 Xc:=fun I hI gs out h=>
 dQ.aX low mixed names (aO I hI) (specs:=[]) (fuel:=100000) (c:=jH) (pe:=[]) (sp:=La) rfl Tryz.func96 (by kernel_rfl) aB.nil (by kernel_rfl) h
theorem t69:aN C d69 Xg:=fun I hI gs out h=>
 dQ.aX low mixed names (aO I hI) (specs:=[]) (fuel:=100000) (c:=jH) (pe:=[]) (sp:=Le) rfl Tryz.func96 (by kernel_rfl) aB.nil (by kernel_rfl) h
theorem t73:aN C d73 Xi:=fun I hI gs out h=>
 dQ.aX low mixed names (aO I hI) (specs:=[]) (fuel:=100000) (c:=jH) (pe:=[]) (sp:=Ll) rfl Tryz.func96 (by kernel_rfl) aB.nil (by kernel_rfl) h
theorem t79:aN C d79 Xm:=fun I hI gs out h=>
 aU.dG low mixed names (aO I hI) (specs:=[]) (fuel:=100000) (sp:=Ls) (by kernel_rfl) rfl (ps:=[]) (b:=U3) aB.nil (fun gs out h=>hI 79 gs out h) (by kernel_rfl) h
theorem t83:aN C d83 Xp:=fun I hI gs out h=>
 aI.aX low mixed names (aO I hI) (specs:=[]) (fuel:=100000) (c:=agC) (pe:=[]) Tryz.func32 (by kernel_rfl) aB.nil (by kernel_rfl) h
theorem t88:aN C d88 Xt:=fun I hI gs out h=>
 aU.dG low mixed names (aO I hI) (specs:=[]) (fuel:=100000) (sp:=LG) (by kernel_rfl) rfl (ps:=[]) (b:=U7) aB.nil (fun gs out h=>hI 88 gs out h) (by kernel_rfl) h
theorem t92:aN C d92 Xw:=fun _ _ _ _ h=>ahK h
theorem t97:aN C d97 XA:=fun I hI gs out h=>
 aU.dG low mixed names (aO I hI) (specs:=[]) (fuel:=100000) (sp:=LP) (by kernel_rfl) rfl (ps:=[]) (b:=Vb) aB.nil (fun gs out h=>hI 97 gs out h) (by kernel_rfl) h
theorem t98:aN C d98 XB:=fun I hI gs out h=>
 aI.aX low mixed names (aO I hI) (specs:=[]) (fuel:=100000) (c:=agl) (pe:=[]) Tryz.func14 (by kernel_rfl) aB.nil (by kernel_rfl) h
theorem apA:aN C YM Vt:=fun I hI gs out h=>
 aI.aX low mixed names (aO I hI) (specs:=[(0,JQ)]) (fuel:=100000) (c:=Yz) (pe:=[]) Tryz.func57 (by kernel_rfl) (aB.cons rfl (fun gs out h=>hI 102 gs out h) aB.nil) (by kernel_rfl) h
theorem apD:aN C YP Vx:=fun I hI gs out h=>
 aI.aX low mixed names (aO I hI) (specs:=[]) (fuel:=100000) (c:=agJ) (pe:=[]) Tryz.func89 (by kernel_rfl) aB.nil (by kernel_rfl) h
theorem apF:aN C YS Vz:=fun I hI gs out h=>
 aI.aX low mixed names (aO I hI) (specs:=[]) (fuel:=100000) (c:=afY) (pe:=[]) Tryz.func104 (by kernel_rfl) aB.nil (by kernel_rfl) h
theorem apG:aN C YU VA:=fun I hI gs out h=>
 aI.aX low mixed names (aO I hI) (specs:=[(0,JV)]) (fuel:=100000) (c:=Ya) (pe:=[]) Tryz.func117 (by kernel_rfl) (aB.cons rfl (fun gs out h=>hI 109 gs out h) aB.nil) (by kernel_rfl) h
theorem apL:aN C Y1 VH:=fun I hI gs out h=>
 aI.aX low mixed names (aO I hI) (specs:=[(0,JX)]) (fuel:=100000) (c:=YA) (pe:=[]) Tryz.func61 (by kernel_rfl) (aB.cons rfl (fun gs out h=>hI 115 gs out h) aB.nil) (by kernel_rfl) h
theorem t119:aN C Y6 c119:=fun I hI gs out h=>
 aI.aX low mixed names (aO I hI) (specs:=[(0,JZ)]) (fuel:=100000) (c:=X7) (pe:=[]) Tryz.func108 (by kernel_rfl) (aB.cons rfl (fun gs out h=>hI 120 gs out h) aB.nil) (by kernel_rfl) h
theorem apO:aN C Y7 VK:=fun I hI gs out h=>
 aU.dG low mixed names (aO I hI) (specs:=[]) (fuel:=100000) (sp:=JZ) (by kernel_rfl) rfl (ps:=[]) (b:=Ux) aB.nil (fun gs out h=>hI 120 gs out h) (by kernel_rfl) h
theorem apP:aN C Y8 VL:=fun I hI gs out h=>
 aI.aX low mixed names (aO I hI) (specs:=[]) (fuel:=100000) (c:=agr) (pe:=[]) Tryz.func164 (by kernel_rfl) aB.nil (by kernel_rfl) h
theorem apQ:aN C Y9 VN:=fun I hI gs out h=>
 aI.aX low mixed names (aO I hI) (specs:=[(0,J3)]) (fuel:=100000) (c:=X6) (pe:=[]) Tryz.func107 (by kernel_rfl) (aB.cons rfl (fun gs out h=>hI 123 gs out h) aB.nil) (by kernel_rfl) h
theorem t124:aN C Zb c124:=fun I hI gs out h=>
 aI.aX low mixed names (aO I hI) (specs:=[]) (fuel:=100000) (c:=agp) (pe:=[]) Tryz.func162 (by kernel_rfl) aB.nil (by kernel_rfl) h
theorem t127:aN C Ze c127:=fun I hI gs out h=>
 aU.dG low mixed names (aO I hI) (specs:=[]) (fuel:=100000) (sp:=J4) (by kernel_rfl) rfl (ps:=[]) (b:=Uz) aB.nil (fun gs out h=>hI 127 gs out h) (by kernel_rfl) h
theorem t131:aN C Zi c131:=fun I hI gs out h=>
 aI.aX low mixed names (aO I hI) (specs:=[]) (fuel:=100000) (c:=agy) (pe:=[]) Tryz.func197 (by kernel_rfl) aB.nil (by kernel_rfl) h
theorem t143:aN C Zw c143:=fun I hI gs out h=>
 aU.dG low mixed names (aO I hI) (specs:=[(0,Kr)]) (fuel:=100000) (sp:=Kq) (by kernel_rfl) rfl (ps:=[]) (b:=NS) (aB.cons rfl (fun gs out h=>hI 144 gs out h) aB.nil) (fun gs out h=>hI 143 gs out h) (by kernel_rfl) h
theorem ap4:aN C Zx V7:=fun I hI gs out h=>
 aU.dG low mixed names (aO I hI) (specs:=[]) (fuel:=100000) (sp:=Kr) (by kernel_rfl) rfl (ps:=[]) (b:=UH) aB.nil (fun gs out h=>hI 144 gs out h) (by kernel_rfl) h
theorem t145:aN C Zy c145:=fun I hI gs out h=>
 aI.aX low mixed names (aO I hI) (specs:=[]) (fuel:=100000) (c:=agF) (pe:=[]) Tryz.func55 (by kernel_rfl) aB.nil (by kernel_rfl) h
theorem t146:aN C Zz c146:=fun I hI gs out h=>
 aI.aX low mixed names (aO I hI) (specs:=[(0,Kt)]) (fuel:=100000) (c:=Yf) (pe:=[]) Tryz.func16 (by kernel_rfl) (aB.cons rfl (fun gs out h=>hI 147 gs out h) aB.nil) (by kernel_rfl) h
theorem ap8:aN C ZG Wi:=fun I hI gs out h=>
 aU.dG low mixed names (aO I hI) (specs:=[(0,Ky)]) (fuel:=100000) (sp:=Kw) (by kernel_rfl) rfl (ps:=[]) (b:=NU) (aB.cons rfl (fun gs out h=>hI 152 gs out h) aB.nil) (fun gs out h=>hI 151 gs out h) (by kernel_rfl) h
theorem t156:aN C ZL c156:=fun I hI gs out h=>
 aI.aX low mixed names (aO I hI) (specs:=[]) (fuel:=100000) (c:=agH) (pe:=[]) Tryz.func60 (by kernel_rfl) aB.nil (by kernel_rfl) h
theorem aqd:aN C ZU Wq:=fun I hI gs out h=>
 aI.aX low mixed names (aO I hI) (specs:=[(0,KD)]) (fuel:=100000) (c:=YB) (pe:=[]) Tryz.func63 (by kernel_rfl) (aB.cons rfl (fun gs out h=>hI 164 gs out h) aB.nil) (by kernel_rfl) h
theorem t164:aN C ZV c164:=fun I hI gs out h=>
 aU.dG low mixed names (aO I hI) (specs:=[(0,KE)]) (fuel:=100000) (sp:=KD) (by kernel_rfl) rfl (ps:=[]) (b:=NW) (aB.cons rfl (fun gs out h=>hI 165 gs out h) aB.nil) (fun gs out h=>hI 164 gs out h) (by kernel_rfl) h
end Q
end Go.Proofs.YthgifdbaegpbpaaGreatDoor
