/- Definitions keep their contracts: the ways of the bodies, run by the kernel. -/
import Derived.Test.YtlifdeocdbjalaaGreatDoorKJP
import Derived.Test.YtlifdeocdbjalaaGreatDoorKJC0
import Derived.Test.YtlifdeocdbjalaaGreatDoorKJC1
import Derived.Test.YtlifdeocdbjalaaGreatDoorKJC2
import Derived.Test.YtlifdeocdbjalaaGreatDoorKJC3
namespace Go.Proofs.YtlifdeocdbjalaaGreatDoor
open Go Go.aN
set_option maxRecDepth 100000
set_option linter.unusedVariables false
set_option linter.unusedSimpArgs false
namespace J
theorem t13:aJ C d13 c13:=fun I hI gs out h=>
 aG.aS low mixed names (aK I hI) (specs:=[]) (fuel:=100000) (c:=af0) (pe:=[]) Tryz.func104 (by kernel_rfl) ay.nil (by kernel_rfl) h
theorem t14:aJ C Yr c14:=fun I hI gs out h=>
 aG.aS low mixed names (aK I hI) (specs:=[(0,s15)]) (fuel:=100000) (c:=Xh) (pe:=[]) Tryz.func47 (by kernel_rfl) (ay.cons rfl (fun gs out h=>hI 15 gs out h) ay.nil) (by kernel_rfl) h
theorem t15:aJ C YD c15:=fun I hI gs out h=>
 aP.dG low mixed names (aK I hI) (specs:=[]) (fuel:=100000) (sp:=s15) (by kernel_rfl) rfl (ps:=[]) (b:=b15) ay.nil (fun gs out h=>hI 15 gs out h) (by kernel_rfl) h
theorem t19:aJ C Y1 c19:=fun _ _ _ _ h=>afO h
theorem t20:aJ C Y2 c20:=fun I hI gs out h=>
 dn.aS low mixed names (aK I hI) (specs:=[]) (fuel:=100000) (c:=af9) (pe:=[]) (sp:=s20) rfl Tryz.func12 (by kernel_rfl) ay.nil (by kernel_rfl) h
theorem t21:aJ C Y3 c21:=fun I hI gs out h=>
 aG.aS low mixed names (aK I hI) (specs:=[(0,J7),(1,xZ),(2,s36),(3,s72)]) (fuel:=100000) (c:=Ep) (pe:=[]) Tryz.func27 (by kernel_rfl) (ay.cons rfl (fun gs out h=>hI 33 gs out h) (ay.cons rfl (fun gs out h=>hI 35 gs out h) (ay.cons rfl (fun gs out h=>hI 36 gs out h) (ay.cons rfl (fun gs out h=>hI 72 gs out h) ay.nil)))) (by kernel_rfl) h
theorem t28:aJ C Za c28:=fun I hI gs out h=>
 aG.aS low mixed names (aK I hI) (specs:=[]) (fuel:=100000) (c:=agf) (pe:=[]) Tryz.func125 (by kernel_rfl) ay.nil (by kernel_rfl) h
theorem t32:aJ C Ze c32:=fun I hI gs out h=>
 aG.aS low mixed names (aK I hI) (specs:=[]) (fuel:=100000) (c:=agk) (pe:=[]) Tryz.func129 (by kernel_rfl) ay.nil (by kernel_rfl) h
theorem arL:(aA.yh HY).chk (rU Tryz.prog aF pl [] 100000 xZ (iE [] G5)) (List.replicate xZ.pre.np .arg) []=true:=(Tree.AB _ _ _).symm.trans (show nO []=true from (Tree.bT _ [] _ _ (Tree.bT _ [true] _ _ (Tree.bT _ [true,true] _ _ arK (Tree.bT _ [true,true,false] _ _ arJ (Tree.bT _ [true,true,false,false] _ _ arI (Tree.bT _ [true,true,false,false,false] _ _ arH (Tree.bT _ [true,true,false,false,false,false] _ _ arG (Tree.bT _ [true,true,false,false,false,false,false] _ _ arF (Tree.bT _ [true,true,false,false,false,false,false,false] _ _ arE (Tree.bT _ [true,true,false,false,false,false,false,false,false] _ _ arD (Tree.bT _ [true,true,false,false,false,false,false,false,false,false] _ _ arC (Tree.bT _ [true,true,false,false,false,false,false,false,false,false,false] _ _ arB (Tree.bT _ [true,true,false,false,false,false,false,false,false,false,false,false] _ _ arA (Tree.bT _ [true,true,false,false,false,false,false,false,false,false,false,false,false] _ _ arz (Tree.bT _ [true,true,false,false,false,false,false,false,false,false,false,false,false,false] _ _ arx arw))))))))))))) arv) aru))
theorem t35:aJ C HY Vq:=fun I hI gs out h=>
 aP.dG low mixed names (aK I hI) (specs:=[]) (fuel:=100000) (sp:=xZ) (by kernel_rfl) rfl (ps:=[]) (b:=G5) ay.nil (fun gs out h=>hI 35 gs out h) arL h
theorem arT:(aA.yh H6).chk (rU Tryz.prog aF pl [] 100000 s36 (iE [] G6)) (List.replicate s36.pre.np .arg) []=true:=(Tree.AB _ _ _).symm.trans (show yw []=true from (Tree.bT _ [] _ _ (Tree.bT _ [true] _ _ arS (Tree.bT _ [true,false] _ _ arR (Tree.bT _ [true,false,false] _ _ arQ (Tree.bT _ [true,false,false,false] _ _ arP (Tree.bT _ [true,false,false,false,false] _ _ arO arN))))) arM))
theorem t36:aJ C H6 Vr:=fun I hI gs out h=>
 aP.dG low mixed names (aK I hI) (specs:=[]) (fuel:=100000) (sp:=s36) (by kernel_rfl) rfl (ps:=[]) (b:=G6) ay.nil (fun gs out h=>hI 36 gs out h) arT h
theorem t39:aJ C Zj Vt:=fun I hI gs out h=>
 dn.aS low mixed names (aK I hI) (specs:=[]) (fuel:=100000) (c:=jA) (pe:=[]) (sp:=Ko) rfl Tryz.func63 (by kernel_rfl) ay.nil (by kernel_rfl) h
theorem t40:aJ C Zk c40:=fun I hI gs out h=>
 aG.aS low mixed names (aK I hI) (specs:=[]) (fuel:=100000) (c:=agR) (pe:=[]) Tryz.func98 (by kernel_rfl) ay.nil (by kernel_rfl) h
theorem t42:aJ C Zm Vw:=fun _ _ _ _ h=>aqG h
theorem t47:aJ C Zr VA:=fun I hI gs out h=>
 aP.dG low mixed names (aK I hI) (specs:=[]) (fuel:=100000) (sp:=Kr) (by kernel_rfl) rfl (ps:=[]) (b:=TS) ay.nil (fun gs out h=>hI 47 gs out h) (by kernel_rfl) h
theorem t51:aJ C Zw c51:=fun I hI gs out h=>
 aP.dG low mixed names (aK I hI) (specs:=[]) (fuel:=100000) (sp:=Kt) (by kernel_rfl) rfl (ps:=[]) (b:=TU) ay.nil (fun gs out h=>hI 51 gs out h) (by kernel_rfl) h
theorem t52:aJ C Zx VE:=fun I hI gs out h=>
 aG.aS low mixed names (aK I hI) (specs:=[]) (fuel:=100000) (c:=af2) (pe:=[]) Tryz.func106 (by kernel_rfl) ay.nil (by kernel_rfl) h
theorem t54:aJ C Zz VF:=fun I hI gs out h=>
 dn.aS low mixed names (aK I hI) (specs:=[]) (fuel:=100000) (c:=jA) (pe:=[]) (sp:=Ku) rfl Tryz.func63 (by kernel_rfl) ay.nil (by kernel_rfl) h
theorem t58:aJ C ZE VJ:=fun I hI gs out h=>
 dn.aS low mixed names (aK I hI) (specs:=[]) (fuel:=100000) (c:=jA) (pe:=[]) (sp:=Kz) rfl Tryz.func63 (by kernel_rfl) ay.nil (by kernel_rfl) h
theorem t62:aJ C ZI VN:=fun I hI gs out h=>
 dn.aS low mixed names (aK I hI) (specs:=[]) (fuel:=100000) (c:=jA) (pe:=[]) (sp:=KE) rfl Tryz.func63 (by kernel_rfl) ay.nil (by kernel_rfl) h
theorem t66:aJ C ZM VQ:=fun I hI gs out h=>
 dn.aS low mixed names (aK I hI) (specs:=[]) (fuel:=100000) (c:=jA) (pe:=[]) (sp:=KI) rfl Tryz.func63 (by kernel_rfl) ay.nil (by kernel_rfl) h
theorem t72:aJ C ZT c72:=fun I hI gs out h=>
 aP.dG low mixed names (aK I hI) (specs:=[(0,KN)]) (fuel:=100000) (sp:=s72) (by kernel_rfl) rfl (ps:=[]) (b:=Nj) (ay.cons rfl (fun gs out h=>hI 73 gs out h) ay.nil) (fun gs out h=>hI 72 gs out h) (by kernel_rfl) h
theorem t73:aJ C ZU VY:=fun I hI gs out h=>
 aP.dG low mixed names (aK I hI) (specs:=[]) (fuel:=100000) (sp:=KN) (by kernel_rfl) rfl (ps:=[]) (b:=TW) ay.nil (fun gs out h=>hI 73 gs out h) (by kernel_rfl) h
theorem t75:aJ C ZW c75:=fun I hI gs out h=>
 aG.aS low mixed names (aK I hI) (specs:=[]) (fuel:=100000) (c:=agy) (pe:=[]) Tryz.func33 (by kernel_rfl) ay.nil (by kernel_rfl) h
theorem t76:aJ C ZX c76:=fun I hI gs out h=>
 aG.aS low mixed names (aK I hI) (specs:=[]) (fuel:=100000) (c:=agJ) (pe:=[]) Tryz.func72 (by kernel_rfl) ay.nil (by kernel_rfl) h
theorem t79:aJ C Z5 V5:=fun I hI gs out h=>
 aG.aS low mixed names (aK I hI) (specs:=[]) (fuel:=100000) (c:=agI) (pe:=[]) Tryz.func71 (by kernel_rfl) ay.nil (by kernel_rfl) h
theorem t89:aJ C d89 Wj:=fun I hI gs out h=>
 aG.aS low mixed names (aK I hI) (specs:=[(0,KQ)]) (fuel:=100000) (c:=Xj) (pe:=[]) Tryz.func52 (by kernel_rfl) (ay.cons rfl (fun gs out h=>hI 90 gs out h) ay.nil) (by kernel_rfl) h
theorem t97:aJ C d97 Wu:=fun I hI gs out h=>
 aP.dG low mixed names (aK I hI) (specs:=[]) (fuel:=100000) (sp:=KT) (by kernel_rfl) rfl (ps:=[]) (b:=Ue) ay.nil (fun gs out h=>hI 97 gs out h) (by kernel_rfl) h
theorem t107:aJ C XR c107:=fun I hI gs out h=>
 aG.aS low mixed names (aK I hI) (specs:=[]) (fuel:=100000) (c:=agN) (pe:=[]) Tryz.func81 (by kernel_rfl) ay.nil (by kernel_rfl) h
theorem apf:aJ C XV UD:=fun I hI gs out h=>
 aP.dG low mixed names (aK I hI) (specs:=[]) (fuel:=100000) (sp:=Jw) (by kernel_rfl) rfl (ps:=[]) (b:=Tc) ay.nil (fun gs out h=>hI 110 gs out h) (by kernel_rfl) h
theorem apq:aJ C Ya UN:=fun I hI gs out h=>
 aP.dG low mixed names (aK I hI) (specs:=[]) (fuel:=100000) (sp:=JB) (by kernel_rfl) rfl (ps:=[]) (b:=Tj) ay.nil (fun gs out h=>hI 122 gs out h) (by kernel_rfl) h
theorem aps:aJ C Yd UQ:=fun I hI gs out h=>
 aG.aS low mixed names (aK I hI) (specs:=[]) (fuel:=100000) (c:=af6) (pe:=[]) Tryz.func114 (by kernel_rfl) ay.nil (by kernel_rfl) h
theorem apv:aJ C Yh UW:=fun I hI gs out h=>
 aG.aS low mixed names (aK I hI) (specs:=[]) (fuel:=100000) (c:=af8) (pe:=[]) Tryz.func116 (by kernel_rfl) ay.nil (by kernel_rfl) h
theorem apx:aJ C Yl UZ:=fun I hI gs out h=>
 aG.aS low mixed names (aK I hI) (specs:=[(0,JF)]) (fuel:=100000) (c:=Xd) (pe:=[]) Tryz.func161 (by kernel_rfl) (ay.cons rfl (fun gs out h=>hI 134 gs out h) ay.nil) (by kernel_rfl) h
theorem apA:aJ C Yo U2:=fun I hI gs out h=>
 aG.aS low mixed names (aK I hI) (specs:=[(0,xY)]) (fuel:=100000) (c:=Xy) (pe:=[]) Tryz.func85 (by kernel_rfl) (ay.cons rfl (fun gs out h=>hI 137 gs out h) ay.nil) (by kernel_rfl) h
theorem t139:aJ C Yq c139:=fun I hI gs out h=>
 aP.dG low mixed names (aK I hI) (specs:=[]) (fuel:=100000) (sp:=JI) (by kernel_rfl) rfl (ps:=[]) (b:=TA) ay.nil (fun gs out h=>hI 139 gs out h) (by kernel_rfl) h
theorem apC:aJ C Yt U4:=fun I hI gs out h=>
 aG.aS low mixed names (aK I hI) (specs:=[]) (fuel:=100000) (c:=agD) (pe:=[]) Tryz.func50 (by kernel_rfl) ay.nil (by kernel_rfl) h
theorem t143:aJ C Yw c143:=fun I hI gs out h=>
 aP.dG low mixed names (aK I hI) (specs:=[]) (fuel:=100000) (sp:=JJ) (by kernel_rfl) rfl (ps:=[]) (b:=TB) ay.nil (fun gs out h=>hI 143 gs out h) (by kernel_rfl) h
theorem apE:aJ C Yx U6:=fun I hI gs out h=>
 aG.aS low mixed names (aK I hI) (specs:=[(0,JK)]) (fuel:=100000) (c:=WY) (pe:=[]) Tryz.func117 (by kernel_rfl) (ay.cons rfl (fun gs out h=>hI 145 gs out h) ay.nil) (by kernel_rfl) h
theorem t146:aJ C Yz c146:=fun I hI gs out h=>
 aP.dG low mixed names (aK I hI) (specs:=[]) (fuel:=100000) (sp:=JL) (by kernel_rfl) rfl (ps:=[]) (b:=TF) ay.nil (fun gs out h=>hI 146 gs out h) (by kernel_rfl) h
theorem apF:aJ C YA U7:=fun I hI gs out h=>
 aG.aS low mixed names (aK I hI) (specs:=[(0,JM),(1,JO)]) (fuel:=100000) (c:=NJ) (pe:=[]) Tryz.func118 (by kernel_rfl) (ay.cons rfl (fun gs out h=>hI 148 gs out h) (ay.cons rfl (fun gs out h=>hI 149 gs out h) ay.nil)) (by kernel_rfl) h
theorem apG:aJ C YC U8:=fun I hI gs out h=>
 aP.dG low mixed names (aK I hI) (specs:=[(0,JQ)]) (fuel:=100000) (sp:=JO) (by kernel_rfl) rfl (ps:=[]) (b:=Nc) (ay.cons rfl (fun gs out h=>hI 150 gs out h) ay.nil) (fun gs out h=>hI 149 gs out h) (by kernel_rfl) h
theorem t152:aJ C YG c152:=fun I hI gs out h=>
 aG.aS low mixed names (aK I hI) (specs:=[(0,JU),(1,JY)]) (fuel:=100000) (c:=NK) (pe:=[]) Tryz.func24 (by kernel_rfl) (ay.cons rfl (fun gs out h=>hI 153 gs out h) (ay.cons rfl (fun gs out h=>hI 159 gs out h) ay.nil)) (by kernel_rfl) h
theorem apJ:aJ C YH Vb:=fun I hI gs out h=>
 aP.dG low mixed names (aK I hI) (specs:=[]) (fuel:=100000) (sp:=JU) (by kernel_rfl) rfl (ps:=[]) (b:=TJ) ay.nil (fun gs out h=>hI 153 gs out h) (by kernel_rfl) h
theorem t154:aJ C YI c154:=fun I hI gs out h=>
 aG.aS low mixed names (aK I hI) (specs:=[(0,JV)]) (fuel:=100000) (c:=Xl) (pe:=[]) Tryz.func56 (by kernel_rfl) (ay.cons rfl (fun gs out h=>hI 155 gs out h) ay.nil) (by kernel_rfl) h
theorem t156:aJ C YK c156:=fun I hI gs out h=>
 aP.dG low mixed names (aK I hI) (specs:=[]) (fuel:=100000) (sp:=JW) (by kernel_rfl) rfl (ps:=[]) (b:=TK) ay.nil (fun gs out h=>hI 156 gs out h) (by kernel_rfl) h
theorem t157:aJ C YL c157:=fun I hI gs out h=>
 aG.aS low mixed names (aK I hI) (specs:=[(0,JX)]) (fuel:=100000) (c:=Xm) (pe:=[]) Tryz.func57 (by kernel_rfl) (ay.cons rfl (fun gs out h=>hI 158 gs out h) ay.nil) (by kernel_rfl) h
theorem apL:aJ C YM Ve:=fun I hI gs out h=>
 aP.dG low mixed names (aK I hI) (specs:=[]) (fuel:=100000) (sp:=JX) (by kernel_rfl) rfl (ps:=[]) (b:=TL) ay.nil (fun gs out h=>hI 158 gs out h) (by kernel_rfl) h
theorem t9:aJ C d9 c9:=fun I hI gs out h=>
 aG.aS low mixed names (aK I hI) (specs:=[(0,s10)]) (fuel:=100000) (c:=Xa) (pe:=[]) Tryz.func139 (by kernel_rfl) (ay.cons rfl (fun gs out h=>hI 10 gs out h) ay.nil) (by kernel_rfl) h
theorem t16:aJ C YO c16:=fun I hI gs out h=>
 dn.aS low mixed names (aK I hI) (specs:=[]) (fuel:=100000) (c:=ags) (pe:=[]) (sp:=s16) rfl Tryz.func20 (by kernel_rfl) ay.nil (by kernel_rfl) h
theorem t17:aJ C YZ c17:=fun I hI gs out h=>
 aG.aS low mixed names (aK I hI) (specs:=[(0,J5)]) (fuel:=100000) (c:=Xf) (pe:=[]) Tryz.func35 (by kernel_rfl) (ay.cons rfl (fun gs out h=>hI 18 gs out h) ay.nil) (by kernel_rfl) h
theorem t24:aJ C Y6 c24:=fun I hI gs out h=>
 aG.aS low mixed names (aK I hI) (specs:=[]) (fuel:=100000) (c:=agb) (pe:=[]) Tryz.func122 (by kernel_rfl) ay.nil (by kernel_rfl) h
theorem t27:aJ C Y9 Vm:=fun I hI gs out h=>
 aG.aS low mixed names (aK I hI) (specs:=[]) (fuel:=100000) (c:=agd) (pe:=[]) Tryz.func124 (by kernel_rfl) ay.nil (by kernel_rfl) h
theorem t30:aJ C Zc Vo:=fun I hI gs out h=>
 aG.aS low mixed names (aK I hI) (specs:=[]) (fuel:=100000) (c:=agi) (pe:=[]) Tryz.func127 (by kernel_rfl) ay.nil (by kernel_rfl) h
theorem t31:aJ C Zd c31:=fun I hI gs out h=>
 aG.aS low mixed names (aK I hI) (specs:=[]) (fuel:=100000) (c:=agj) (pe:=[]) Tryz.func128 (by kernel_rfl) ay.nil (by kernel_rfl) h
theorem t34:aJ C Zg c34:=fun _ _ _ _ h=>akw h
theorem t38:aJ C Zi Vs:=fun I hI gs out h=>
 dn.aS low mixed names (aK I hI) (specs:=[]) (fuel:=100000) (c:=jA) (pe:=[]) (sp:=J9) rfl Tryz.func63 (by kernel_rfl) ay.nil (by kernel_rfl) h
theorem t45:aJ C Zp Vz:=fun I hI gs out h=>
 dn.aS low mixed names (aK I hI) (specs:=[]) (fuel:=100000) (c:=jA) (pe:=[]) (sp:=Kq) rfl Tryz.func63 (by kernel_rfl) ay.nil (by kernel_rfl) h
theorem t46:aJ C Zq c46:=fun I hI gs out h=>
 aG.aS low mixed names (aK I hI) (specs:=[(0,Kr)]) (fuel:=100000) (c:=XB) (pe:=[]) Tryz.func99 (by kernel_rfl) (ay.cons rfl (fun gs out h=>hI 47 gs out h) ay.nil) (by kernel_rfl) h
theorem t50:aJ C Zv VD:=fun I hI gs out h=>
 aG.aS low mixed names (aK I hI) (specs:=[(0,Kt)]) (fuel:=100000) (c:=Xp) (pe:=[]) Tryz.func68 (by kernel_rfl) (ay.cons rfl (fun gs out h=>hI 51 gs out h) ay.nil) (by kernel_rfl) h
theorem t56:aJ C ZB VH:=fun I hI gs out h=>
 dn.aS low mixed names (aK I hI) (specs:=[]) (fuel:=100000) (c:=jA) (pe:=[]) (sp:=Kw) rfl Tryz.func63 (by kernel_rfl) ay.nil (by kernel_rfl) h
theorem t60:aJ C ZG VK:=fun I hI gs out h=>
 dn.aS low mixed names (aK I hI) (specs:=[]) (fuel:=100000) (c:=jA) (pe:=[]) (sp:=KC) rfl Tryz.func63 (by kernel_rfl) ay.nil (by kernel_rfl) h
theorem t64:aJ C ZK c64:=fun I hI gs out h=>
 dn.aS low mixed names (aK I hI) (specs:=[]) (fuel:=100000) (c:=jA) (pe:=[]) (sp:=KG) rfl Tryz.func63 (by kernel_rfl) ay.nil (by kernel_rfl) h
theorem t68:aJ C ZO VU:=fun I hI gs out h=>
 dn.aS low mixed names (aK I hI) (specs:=[]) (fuel:=100000) (c:=jA) (pe:=[]) (sp:=s68) rfl Tryz.func63 (by kernel_rfl) ay.nil (by kernel_rfl) h
theorem t69:aJ C ZP VW:=fun I hI gs out h=>
 aG.aS low mixed names (aK I hI) (specs:=[]) (fuel:=100000) (c:=agH) (pe:=[]) Tryz.func65 (by kernel_rfl) ay.nil (by kernel_rfl) h
theorem t70:aJ C ZQ c70:=fun I hI gs out h=>
 aG.aS low mixed names (aK I hI) (specs:=[(0,KL)]) (fuel:=100000) (c:=WV) (pe:=[]) Tryz.func100 (by kernel_rfl) (ay.cons rfl (fun gs out h=>hI 71 gs out h) ay.nil) (by kernel_rfl) h
theorem t78:aJ C Z4 V4:=fun I hI gs out h=>
 aP.dG low mixed names (aK I hI) (specs:=[]) (fuel:=100000) (sp:=s78) (by kernel_rfl) rfl (ps:=[]) (b:=TY) ay.nil (fun gs out h=>hI 78 gs out h) (by kernel_rfl) h
theorem t83:aJ C d83 V8:=fun I hI gs out h=>
 aG.aS low mixed names (aK I hI) (specs:=[]) (fuel:=100000) (c:=agC) (pe:=[]) Tryz.func48 (by kernel_rfl) ay.nil (by kernel_rfl) h
theorem t85:aJ C d85 c85:=fun I hI gs out h=>
 aP.dG low mixed names (aK I hI) (specs:=[]) (fuel:=100000) (sp:=KO) (by kernel_rfl) rfl (ps:=[]) (b:=Ua) ay.nil (fun gs out h=>hI 85 gs out h) (by kernel_rfl) h
theorem t90:aJ C d90 Wl:=fun I hI gs out h=>
 aP.dG low mixed names (aK I hI) (specs:=[]) (fuel:=100000) (sp:=KQ) (by kernel_rfl) rfl (ps:=[]) (b:=Uc) ay.nil (fun gs out h=>hI 90 gs out h) (by kernel_rfl) h
theorem t92:aJ C d92 Wn:=fun I hI gs out h=>
 aP.dG low mixed names (aK I hI) (specs:=[]) (fuel:=100000) (sp:=KR) (by kernel_rfl) rfl (ps:=[]) (b:=Ud) ay.nil (fun gs out h=>hI 92 gs out h) (by kernel_rfl) h
theorem t93:aJ C d93 c93:=fun I hI gs out h=>
 aG.aS low mixed names (aK I hI) (specs:=[]) (fuel:=100000) (c:=agu) (pe:=[]) Tryz.func22 (by kernel_rfl) ay.nil (by kernel_rfl) h
theorem t96:aJ C d96 Ws:=fun I hI gs out h=>
 aG.aS low mixed names (aK I hI) (specs:=[]) (fuel:=100000) (c:=af4) (pe:=[]) Tryz.func110 (by kernel_rfl) ay.nil (by kernel_rfl) h
theorem t98:aJ C d98 Wv:=fun I hI gs out h=>
 aG.aS low mixed names (aK I hI) (specs:=[]) (fuel:=100000) (c:=agE) (pe:=[]) Tryz.func54 (by kernel_rfl) ay.nil (by kernel_rfl) h
theorem t99:aJ C d99 Wx:=fun I hI gs out h=>
 aP.dG low mixed names (aK I hI) (specs:=[(0,Jt)]) (fuel:=100000) (sp:=KU) (by kernel_rfl) rfl (ps:=[]) (b:=Nk) (ay.cons rfl (fun gs out h=>hI 100 gs out h) ay.nil) (fun gs out h=>hI 99 gs out h) (by kernel_rfl) h
theorem ao9:aJ C XK Uw:=fun I hI gs out h=>
 aG.aS low mixed names (aK I hI) (specs:=[]) (fuel:=100000) (c:=agL) (pe:=[]) Tryz.func79 (by kernel_rfl) ay.nil (by kernel_rfl) h
theorem apb:aJ C XM Uy:=fun I hI gs out h=>
 aG.aS low mixed names (aK I hI) (specs:=[(0,Ju)]) (fuel:=100000) (c:=Xz) (pe:=[]) Tryz.func88 (by kernel_rfl) (ay.cons rfl (fun gs out h=>hI 104 gs out h) ay.nil) (by kernel_rfl) h
theorem apc:aJ C XO Uz:=fun I hI gs out h=>
 aP.dG low mixed names (aK I hI) (specs:=[(0,Jv)]) (fuel:=100000) (sp:=Ju) (by kernel_rfl) rfl (ps:=[]) (b:=Na) (ay.cons rfl (fun gs out h=>hI 105 gs out h) ay.nil) (fun gs out h=>hI 104 gs out h) (by kernel_rfl) h
theorem apd:aJ C XQ UA:=fun I hI gs out h=>
 aG.aS low mixed names (aK I hI) (specs:=[]) (fuel:=100000) (c:=agP) (pe:=[]) Tryz.func89 (by kernel_rfl) ay.nil (by kernel_rfl) h
theorem apg:aJ C XW UE:=fun I hI gs out h=>
 aP.dG low mixed names (aK I hI) (specs:=[]) (fuel:=100000) (sp:=Jy) (by kernel_rfl) rfl (ps:=[]) (b:=Td) ay.nil (fun gs out h=>hI 111 gs out h) (by kernel_rfl) h
theorem apj:aJ C XZ UG:=fun I hI gs out h=>
 aG.aS low mixed names (aK I hI) (specs:=[]) (fuel:=100000) (c:=agQ) (pe:=[]) Tryz.func92 (by kernel_rfl) ay.nil (by kernel_rfl) h
theorem apl:aJ C X3 UJ:=fun I hI gs out h=>
 aP.dG low mixed names (aK I hI) (specs:=[]) (fuel:=100000) (sp:=Jz) (by kernel_rfl) rfl (ps:=[]) (b:=Tf) ay.nil (fun gs out h=>hI 115 gs out h) (by kernel_rfl) h
theorem apm:aJ C X6 UK:=fun I hI gs out h=>
 aP.dG low mixed names (aK I hI) (specs:=[]) (fuel:=100000) (sp:=JA) (by kernel_rfl) rfl (ps:=[]) (b:=Ti) ay.nil (fun gs out h=>hI 118 gs out h) (by kernel_rfl) h
theorem apr:aJ C Yb UO:=fun I hI gs out h=>
 aG.aS low mixed names (aK I hI) (specs:=[(0,JC)]) (fuel:=100000) (c:=Xb) (pe:=[]) Tryz.func141 (by kernel_rfl) (ay.cons rfl (fun gs out h=>hI 124 gs out h) ay.nil) (by kernel_rfl) h
theorem apt:aJ C Ye UR:=fun I hI gs out h=>
 aG.aS low mixed names (aK I hI) (specs:=[]) (fuel:=100000) (c:=agp) (pe:=[]) Tryz.func142 (by kernel_rfl) ay.nil (by kernel_rfl) h
theorem apu:aJ C Yg UU:=fun I hI gs out h=>
 aP.dG low mixed names (aK I hI) (specs:=[]) (fuel:=100000) (sp:=JD) (by kernel_rfl) rfl (ps:=[]) (b:=Tq) ay.nil (fun gs out h=>hI 128 gs out h) (by kernel_rfl) h
theorem apw:aJ C Yk UY:=fun I hI gs out h=>
 aG.aS low mixed names (aK I hI) (specs:=[]) (fuel:=100000) (c:=agq) (pe:=[]) Tryz.func143 (by kernel_rfl) ay.nil (by kernel_rfl) h
theorem apy:aJ C Ym U0:=fun I hI gs out h=>
 aP.dG low mixed names (aK I hI) (specs:=[]) (fuel:=100000) (sp:=JF) (by kernel_rfl) rfl (ps:=[]) (b:=Tv) ay.nil (fun gs out h=>hI 134 gs out h) (by kernel_rfl) h
theorem apz:aJ C Yn U1:=fun I hI gs out h=>
 aP.dG low mixed names (aK I hI) (specs:=[]) (fuel:=100000) (sp:=JG) (by kernel_rfl) rfl (ps:=[]) (b:=Tz) ay.nil (fun gs out h=>hI 135 gs out h) (by kernel_rfl) h
theorem t138:aJ C Yp c138:=fun I hI gs out h=>
 aP.dG low mixed names (aK I hI) (specs:=[(0,JI)]) (fuel:=100000) (sp:=JH) (by kernel_rfl) rfl (ps:=[]) (b:=Nb) (ay.cons rfl (fun gs out h=>hI 139 gs out h) ay.nil) (fun gs out h=>hI 138 gs out h) (by kernel_rfl) h
theorem t145:aJ C Yy c145:=fun I hI gs out h=>
 aP.dG low mixed names (aK I hI) (specs:=[]) (fuel:=100000) (sp:=JK) (by kernel_rfl) rfl (ps:=[]) (b:=TD) ay.nil (fun gs out h=>hI 145 gs out h) (by kernel_rfl) h
theorem t148:aJ C YB c148:=fun I hI gs out h=>
 aP.dG low mixed names (aK I hI) (specs:=[]) (fuel:=100000) (sp:=JM) (by kernel_rfl) rfl (ps:=[]) (b:=TG) ay.nil (fun gs out h=>hI 148 gs out h) (by kernel_rfl) h
theorem apK:aJ C YJ Vd:=fun I hI gs out h=>
 aP.dG low mixed names (aK I hI) (specs:=[(0,JW)]) (fuel:=100000) (sp:=JV) (by kernel_rfl) rfl (ps:=[]) (b:=Nh) (ay.cons rfl (fun gs out h=>hI 156 gs out h) ay.nil) (fun gs out h=>hI 155 gs out h) (by kernel_rfl) h
theorem apP:aJ C YV Vj:=fun I hI gs out h=>
 aG.aS low mixed names (aK I hI) (specs:=[]) (fuel:=100000) (c:=agK) (pe:=[]) Tryz.func75 (by kernel_rfl) ay.nil (by kernel_rfl) h
theorem t167:aJ C YW c167:=fun I hI gs out h=>
 aG.aS low mixed names (aK I hI) (specs:=[(0,J4)]) (fuel:=100000) (c:=Xt) (pe:=[]) Tryz.func76 (by kernel_rfl) (ay.cons rfl (fun gs out h=>hI 168 gs out h) ay.nil) (by kernel_rfl) h
end J
end Go.Proofs.YtlifdeocdbjalaaGreatDoor
