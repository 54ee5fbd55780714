/- Definitions keep their contracts: the ways of the bodies, run by the kernel. -/
import Derived.Test.YthgifdbaegpbpaaGreatDoorKQP
namespace Go.Proofs.YthgifdbaegpbpaaGreatDoor
open Go Go.aP
set_option maxRecDepth 100000
set_option linter.unusedVariables false
set_option linter.unusedSimpArgs false
namespace Q
theorem t2:aN C d2 c2:=fun I hI gs out h=>
 aI.aX low mixed names (aO I hI) (specs:=[]) (fuel:=100000) (c:=afX) (pe:=[]) Tryz.func10 (by kernel_rfl) aB.nil (by kernel_rfl) h
theorem t3:aN C d3 c3:=fun I hI gs out h=>
 aI.aX low mixed names (aO I hI) (specs:=[(0,s4)]) (fuel:=100000) (c:=Yt) (pe:=[]) Tryz.func46 (by kernel_rfl) (aB.cons rfl (fun gs out h=>hI 4 gs out h) aB.nil) (by kernel_rfl) h
theorem t10:aN C d10 c10:=fun I hI gs out h=>
 aU.dG low mixed names (aO I hI) (specs:=[]) (fuel:=100000) (sp:=s10) (by kernel_rfl) rfl (ps:=[]) (b:=b10) aB.nil (fun gs out h=>hI 10 gs out h) (by kernel_rfl) h
theorem t19:aN C Z8 c19:=fun I hI gs out h=>
 aU.dG low mixed names (aO I hI) (specs:=[]) (fuel:=100000) (sp:=KG) (by kernel_rfl) rfl (ps:=[]) (b:=b19) aB.nil (fun gs out h=>hI 19 gs out h) (by kernel_rfl) h
theorem t23:aN C d23 c23:=fun I hI gs out h=>
 aI.aX low mixed names (aO I hI) (specs:=[(0,s24)]) (fuel:=100000) (c:=Yx) (pe:=[]) Tryz.func51 (by kernel_rfl) (aB.cons rfl (fun gs out h=>hI 24 gs out h) aB.nil) (by kernel_rfl) h
theorem t24:aN C d24 c24:=fun I hI gs out h=>
 aU.dG low mixed names (aO I hI) (specs:=[]) (fuel:=100000) (sp:=s24) (by kernel_rfl) rfl (ps:=[]) (b:=UR) aB.nil (fun gs out h=>hI 24 gs out h) (by kernel_rfl) h
theorem t37:aN C d37 c37:=fun I hI gs out h=>
 aI.aX low mixed names (aO I hI) (specs:=[]) (fuel:=100000) (c:=agh) (pe:=[]) Tryz.func135 (by kernel_rfl) aB.nil (by kernel_rfl) h
theorem t38:aN C d38 WG:=fun I hI gs out h=>
 aI.aX low mixed names (aO I hI) (specs:=[]) (fuel:=100000) (c:=agi) (pe:=[]) Tryz.func136 (by kernel_rfl) aB.nil (by kernel_rfl) h
theorem t48:aN C d48 WR:=fun I hI gs out h=>
 aI.aX low mixed names (aO I hI) (specs:=[]) (fuel:=100000) (c:=agn) (pe:=[]) Tryz.func156 (by kernel_rfl) aB.nil (by kernel_rfl) h
theorem t50:aN C d50 WS:=fun _ _ _ _ h=>arA h
theorem t52:aN C d52 WT:=fun I hI gs out h=>
 dQ.aX low mixed names (aO I hI) (specs:=[]) (fuel:=100000) (c:=jH) (pe:=[]) (sp:=KQ) rfl Tryz.func96 (by kernel_rfl) aB.nil (by kernel_rfl) h
theorem t56:aN C d56 WW:=fun I hI gs out h=>
 aI.aX low mixed names (aO I hI) (specs:=[]) (fuel:=100000) (c:=agv) (pe:=[]) Tryz.func173 (by kernel_rfl) aB.nil (by kernel_rfl) h
theorem t59:aN C d59 c59:=fun I hI gs out h=>
 aU.dG low mixed names (aO I hI) (specs:=[]) (fuel:=100000) (sp:=KU) (by kernel_rfl) rfl (ps:=[]) (b:=U2) aB.nil (fun gs out h=>hI 59 gs out h) (by kernel_rfl) h
theorem t62:aN C d62 Xa:=fun I hI gs out h=>
 dQ.aX low mixed names (aO I hI) (specs:=[]) (fuel:=100000) (c:=jH) (pe:=[]) (sp:=KX) rfl Tryz.func96 (by kernel_rfl) aB.nil (by kernel_rfl) h
theorem t66:aN C d66 Xd:=fun I hI gs out h=>
 dQ.aX low mixed names (aO I hI) (specs:=[]) (fuel:=100000) (c:=jH) (pe:=[]) (sp:=Lc) rfl Tryz.func96 (by kernel_rfl) aB.nil (by kernel_rfl) h
theorem t70:aN C d70 c70:=fun I hI gs out h=>
 dQ.aX low mixed names (aO I hI) (specs:=[]) (fuel:=100000) (c:=jH) (pe:=[]) (sp:=Lh) rfl Tryz.func96 (by kernel_rfl) aB.nil (by kernel_rfl) h
theorem t74:aN C d74 Xj:=fun I hI gs out h=>
 dQ.aX low mixed names (aO I hI) (specs:=[]) (fuel:=100000) (c:=jH) (pe:=[]) (sp:=Lm) rfl Tryz.func96 (by kernel_rfl) aB.nil (by kernel_rfl) h
theorem t82:aN C d82 Xo:=fun I hI gs out h=>
 aU.dG low mixed names (aO I hI) (specs:=[]) (fuel:=100000) (sp:=s82) (by kernel_rfl) rfl (ps:=[]) (b:=U5) aB.nil (fun gs out h=>hI 82 gs out h) (by kernel_rfl) h
theorem t85:aN C d85 c85:=fun I hI gs out h=>
 aU.dG low mixed names (aO I hI) (specs:=[]) (fuel:=100000) (sp:=LD) (by kernel_rfl) rfl (ps:=[]) (b:=U6) aB.nil (fun gs out h=>hI 85 gs out h) (by kernel_rfl) h
theorem t87:aN C d87 c87:=fun I hI gs out h=>
 aI.aX low mixed names (aO I hI) (specs:=[(0,LG)]) (fuel:=100000) (c:=Yj) (pe:=[]) Tryz.func184 (by kernel_rfl) (aB.cons rfl (fun gs out h=>hI 88 gs out h) aB.nil) (by kernel_rfl) h
theorem t90:aN C d90 Xv:=fun I hI gs out h=>
 aU.dG low mixed names (aO I hI) (specs:=[]) (fuel:=100000) (sp:=LH) (by kernel_rfl) rfl (ps:=[]) (b:=U8) aB.nil (fun gs out h=>hI 90 gs out h) (by kernel_rfl) h
theorem t91:aN C d91 c91:=fun I hI gs out h=>
 aU.dG low mixed names (aO I hI) (specs:=[]) (fuel:=100000) (sp:=LJ) (by kernel_rfl) rfl (ps:=[]) (b:=U9) aB.nil (fun gs out h=>hI 91 gs out h) (by kernel_rfl) h
theorem t95:aN C d95 Xy:=fun I hI gs out h=>
 aU.dG low mixed names (aO I hI) (specs:=[]) (fuel:=100000) (sp:=LK) (by kernel_rfl) rfl (ps:=[]) (b:=Va) aB.nil (fun gs out h=>hI 95 gs out h) (by kernel_rfl) h
theorem t99:aN C d99 XC:=fun I hI gs out h=>
 aI.aX low mixed names (aO I hI) (specs:=[(0,JR),(1,J9),(2,Kq)]) (fuel:=100000) (c:=Ic) (pe:=[]) Tryz.func54 (by kernel_rfl) (aB.cons rfl (fun gs out h=>hI 104 gs out h) (aB.cons rfl (fun gs out h=>hI 140 gs out h) (aB.cons rfl (fun gs out h=>hI 143 gs out h) aB.nil))) (by kernel_rfl) h
theorem apB:aN C YN Vu:=fun I hI gs out h=>
 aI.aX low mixed names (aO I hI) (specs:=[]) (fuel:=100000) (c:=af4) (pe:=[]) Tryz.func116 (by kernel_rfl) aB.nil (by kernel_rfl) h
theorem apC:aN C YO Vw:=fun I hI gs out h=>
 aU.dG low mixed names (aO I hI) (specs:=[]) (fuel:=100000) (sp:=JQ) (by kernel_rfl) rfl (ps:=[]) (b:=Ur) aB.nil (fun gs out h=>hI 102 gs out h) (by kernel_rfl) h
theorem t105:aN C YR c105:=fun I hI gs out h=>
 aU.dG low mixed names (aO I hI) (specs:=[]) (fuel:=100000) (sp:=JU) (by kernel_rfl) rfl (ps:=[]) (b:=Us) aB.nil (fun gs out h=>hI 105 gs out h) (by kernel_rfl) h
theorem t107:aN C YT c107:=fun I hI gs out h=>
 aI.aX low mixed names (aO I hI) (specs:=[]) (fuel:=100000) (c:=agG) (pe:=[]) Tryz.func58 (by kernel_rfl) aB.nil (by kernel_rfl) h
theorem t109:aN C YV c109:=fun I hI gs out h=>
 aU.dG low mixed names (aO I hI) (specs:=[(0,JW)]) (fuel:=100000) (sp:=JV) (by kernel_rfl) rfl (ps:=[]) (b:=NR) (aB.cons rfl (fun gs out h=>hI 110 gs out h) aB.nil) (fun gs out h=>hI 109 gs out h) (by kernel_rfl) h
theorem apH:aN C YW VB:=fun I hI gs out h=>
 aU.dG low mixed names (aO I hI) (specs:=[]) (fuel:=100000) (sp:=JW) (by kernel_rfl) rfl (ps:=[]) (b:=Ut) aB.nil (fun gs out h=>hI 110 gs out h) (by kernel_rfl) h
theorem apI:aN C YX VD:=fun I hI gs out h=>
 aI.aX low mixed names (aO I hI) (specs:=[]) (fuel:=100000) (c:=af5) (pe:=[]) Tryz.func118 (by kernel_rfl) aB.nil (by kernel_rfl) h
theorem apR:aN C Za VO:=fun I hI gs out h=>
 aU.dG low mixed names (aO I hI) (specs:=[]) (fuel:=100000) (sp:=J3) (by kernel_rfl) rfl (ps:=[]) (b:=Uy) aB.nil (fun gs out h=>hI 123 gs out h) (by kernel_rfl) h
theorem apV:aN C Zg VU:=fun I hI gs out h=>
 aU.dG low mixed names (aO I hI) (specs:=[]) (fuel:=100000) (sp:=J5) (by kernel_rfl) rfl (ps:=[]) (b:=UA) aB.nil (fun gs out h=>hI 129 gs out h) (by kernel_rfl) h
theorem apX:aN C Zk VX:=fun I hI gs out h=>
 aU.dG low mixed names (aO I hI) (specs:=[]) (fuel:=100000) (sp:=J6) (by kernel_rfl) rfl (ps:=[]) (b:=UC) aB.nil (fun gs out h=>hI 133 gs out h) (by kernel_rfl) h
theorem apY:aN C Zl VY:=fun I hI gs out h=>
 aI.aX low mixed names (aO I hI) (specs:=[]) (fuel:=100000) (c:=ags) (pe:=[]) Tryz.func165 (by kernel_rfl) aB.nil (by kernel_rfl) h
theorem ap0:aN C Zn V3:=fun I hI gs out h=>
 aU.dG low mixed names (aO I hI) (specs:=[]) (fuel:=100000) (sp:=J7) (by kernel_rfl) rfl (ps:=[]) (b:=UD) aB.nil (fun gs out h=>hI 136 gs out h) (by kernel_rfl) h
theorem ap1:aN C Zo V4:=fun I hI gs out h=>
 aI.aX low mixed names (aO I hI) (specs:=[]) (fuel:=100000) (c:=agz) (pe:=[]) Tryz.func208 (by kernel_rfl) aB.nil (by kernel_rfl) h
theorem t141:aN C Zu c141:=fun I hI gs out h=>
 aI.aX low mixed names (aO I hI) (specs:=[(0,Ko)]) (fuel:=100000) (c:=X8) (pe:=[]) Tryz.func110 (by kernel_rfl) (aB.cons rfl (fun gs out h=>hI 142 gs out h) aB.nil) (by kernel_rfl) h
theorem ap3:aN C Zv V6:=fun I hI gs out h=>
 aU.dG low mixed names (aO I hI) (specs:=[]) (fuel:=100000) (sp:=Ko) (by kernel_rfl) rfl (ps:=[]) (b:=UG) aB.nil (fun gs out h=>hI 142 gs out h) (by kernel_rfl) h
theorem t152:aN C ZH c152:=fun I hI gs out h=>
 aU.dG low mixed names (aO I hI) (specs:=[]) (fuel:=100000) (sp:=Ky) (by kernel_rfl) rfl (ps:=[]) (b:=UL) aB.nil (fun gs out h=>hI 152 gs out h) (by kernel_rfl) h
theorem ap9:aN C ZI Wj:=fun I hI gs out h=>
 aI.aX low mixed names (aO I hI) (specs:=[(0,Kz)]) (fuel:=100000) (c:=X9) (pe:=[]) Tryz.func111 (by kernel_rfl) (aB.cons rfl (fun gs out h=>hI 154 gs out h) aB.nil) (by kernel_rfl) h
theorem aqa:aN C ZK Wl:=fun I hI gs out h=>
 aI.aX low mixed names (aO I hI) (specs:=[]) (fuel:=100000) (c:=agu) (pe:=[]) Tryz.func17 (by kernel_rfl) aB.nil (by kernel_rfl) h
theorem t157:aN C ZM c157:=fun I hI gs out h=>
 aI.aX low mixed names (aO I hI) (specs:=[]) (fuel:=100000) (c:=af8) (pe:=[]) Tryz.func123 (by kernel_rfl) aB.nil (by kernel_rfl) h
theorem aqb:aN C ZN Wn:=fun I hI gs out h=>
 aI.aX low mixed names (aO I hI) (specs:=[(0,KA)]) (fuel:=100000) (c:=Yi) (pe:=[]) Tryz.func171 (by kernel_rfl) (aB.cons rfl (fun gs out h=>hI 160 gs out h) aB.nil) (by kernel_rfl) h
theorem t159:aN C ZO c159:=fun _ _ _ _ h=>ape h
theorem t160:aN C ZQ c160:=fun I hI gs out h=>
 aU.dG low mixed names (aO I hI) (specs:=[(0,KC)]) (fuel:=100000) (sp:=KA) (by kernel_rfl) rfl (ps:=[]) (b:=NV) (aB.cons rfl (fun gs out h=>hI 161 gs out h) aB.nil) (fun gs out h=>hI 160 gs out h) (by kernel_rfl) h
theorem t167:aN C ZY c167:=fun I hI gs out h=>
 aU.dG low mixed names (aO I hI) (specs:=[]) (fuel:=100000) (sp:=KF) (by kernel_rfl) rfl (ps:=[]) (b:=UQ) aB.nil (fun gs out h=>hI 167 gs out h) (by kernel_rfl) h
end Q
end Go.Proofs.YthgifdbaegpbpaaGreatDoor
