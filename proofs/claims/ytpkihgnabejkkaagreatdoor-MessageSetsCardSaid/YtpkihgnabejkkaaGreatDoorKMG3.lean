/- Definitions keep their contracts: the ways of the bodies, run by the kernel. -/
import Derived.Test.YtpkihgnabejkkaaGreatDoorKMP
namespace Go.Proofs.YtpkihgnabejkkaaGreatDoor
open Go Go.aJ
set_option maxRecDepth 100000
set_option linter.unusedVariables false
set_option linter.unusedSimpArgs false
namespace M
theorem t13:aQ C d13 c13:=fun I hI gs out h=>
 aG.bD low mixed names (aU I hI) (specs:=[]) (fuel:=100000) (c:=ad3) (pe:=[]) Tryz.func80 (by kernel_rfl) aC.nil (by kernel_rfl) h
theorem t16:aQ C VJ c16:=fun I hI gs out h=>
 aG.bD low mixed names (aU I hI) (specs:=[]) (fuel:=100000) (c:=adW) (pe:=[]) Tryz.func7 (by kernel_rfl) aC.nil (by kernel_rfl) h
theorem t23:aQ C VT c23:=fun I hI gs out h=>
 aG.bD low mixed names (aU I hI) (specs:=[(0,s24)]) (fuel:=100000) (c:=UM) (pe:=[]) Tryz.func25 (by kernel_rfl) (aC.cons rfl (fun gs out h=>hI 24 gs out h) aC.nil) (by kernel_rfl) h
theorem t26:aQ C VX RZ:=fun I hI gs out h=>
 aZ.fB low mixed names (aU I hI) (specs:=[]) (fuel:=100000) (sp:=s26) (by kernel_rfl) rfl (ps:=[]) (b:=QG) aC.nil (fun gs out h=>hI 26 gs out h) (by kernel_rfl) h
theorem t27:aQ C VY Si:=fun I hI gs out h=>
 aG.bD low mixed names (aU I hI) (specs:=[]) (fuel:=100000) (c:=ad4) (pe:=[]) Tryz.func9 (by kernel_rfl) aC.nil (by kernel_rfl) h
theorem t30:aQ C V4 Sj:=fun I hI gs out h=>
 aZ.fB low mixed names (aU I hI) (specs:=[]) (fuel:=100000) (sp:=IQ) (by kernel_rfl) rfl (ps:=[]) (b:=QH) aC.nil (fun gs out h=>hI 30 gs out h) (by kernel_rfl) h
theorem t35:aQ C V9 Sm:=fun I hI gs out h=>
 aG.bD low mixed names (aU I hI) (specs:=[]) (fuel:=100000) (c:=ad5) (pe:=[]) Tryz.func93 (by kernel_rfl) aC.nil (by kernel_rfl) h
theorem t38:aQ C Wj Sv:=fun I hI gs out h=>
 lC.bD low mixed names (aU I hI) (specs:=[(0,IY)]) (fuel:=100000) (c:=U5) (pe:=[]) (sp:=IV) rfl Tryz.func95 (by kernel_rfl) (aC.cons rfl (fun gs out h=>hI 42 gs out h) aC.nil) (by kernel_rfl) h
theorem t43:aQ C Ws SC:=fun I hI gs out h=>
 lC.bD low mixed names (aU I hI) (specs:=[]) (fuel:=100000) (c:=adz) (pe:=[]) (sp:=s43) rfl Tryz.func139 (by kernel_rfl) aC.nil (by kernel_rfl) h
theorem t44:aQ C Wu SE:=fun I hI gs out h=>
 lC.bD low mixed names (aU I hI) (specs:=[]) (fuel:=100000) (c:=adI) (pe:=[]) (sp:=s44) rfl Tryz.func162 (by kernel_rfl) aC.nil (by kernel_rfl) h
theorem t46:aQ C Wx c46:=fun I hI gs out h=>
 aG.bD low mixed names (aU I hI) (specs:=[]) (fuel:=100000) (c:=adU) (pe:=[]) Tryz.func65 (by kernel_rfl) aC.nil (by kernel_rfl) h
theorem t49:aQ C WB c49:=fun I hI gs out h=>
 lC.bD low mixed names (aU I hI) (specs:=[]) (fuel:=100000) (c:=adA) (pe:=[]) (sp:=s49) rfl Tryz.func140 (by kernel_rfl) aC.nil (by kernel_rfl) h
theorem t51:aQ C WE c51:=fun I hI gs out h=>
 aZ.fB low mixed names (aU I hI) (specs:=[]) (fuel:=100000) (sp:=I5) (by kernel_rfl) rfl (ps:=[]) (b:=QL) aC.nil (fun gs out h=>hI 51 gs out h) (by kernel_rfl) h
theorem t59:aQ C WQ c59:=fun I hI gs out h=>
 aG.bD low mixed names (aU I hI) (specs:=[(0,Ja)]) (fuel:=100000) (c:=UZ) (pe:=[]) Tryz.func67 (by kernel_rfl) (aC.cons rfl (fun gs out h=>hI 60 gs out h) aC.nil) (by kernel_rfl) h
theorem t61:aQ C WS S9:=fun I hI gs out h=>
 aG.bD low mixed names (aU I hI) (specs:=[(0,Jb)]) (fuel:=100000) (c:=U7) (pe:=[]) Tryz.func98 (by kernel_rfl) (aC.cons rfl (fun gs out h=>hI 62 gs out h) aC.nil) (by kernel_rfl) h
theorem t62:aQ C WT Tc:=fun I hI gs out h=>
 aZ.fB low mixed names (aU I hI) (specs:=[]) (fuel:=100000) (sp:=Jb) (by kernel_rfl) rfl (ps:=[]) (b:=QO) aC.nil (fun gs out h=>hI 62 gs out h) (by kernel_rfl) h
theorem t63:aQ C WU Td:=fun I hI gs out h=>
 aG.bD low mixed names (aU I hI) (specs:=[]) (fuel:=100000) (c:=adM) (pe:=[]) Tryz.func32 (by kernel_rfl) aC.nil (by kernel_rfl) h
theorem t65:aQ C WW Tf:=fun I hI gs out h=>
 aG.bD low mixed names (aU I hI) (specs:=[(0,Jc),(1,Jd)]) (fuel:=100000) (c:=KT) (pe:=[]) Tryz.func99 (by kernel_rfl) (aC.cons rfl (fun gs out h=>hI 66 gs out h) (aC.cons rfl (fun gs out h=>hI 67 gs out h) aC.nil)) (by kernel_rfl) h
theorem t68:aQ C WZ Tn:=fun I hI gs out h=>
 aZ.fB low mixed names (aU I hI) (specs:=[]) (fuel:=100000) (sp:=s68) (by kernel_rfl) rfl (ps:=[]) (b:=QU) aC.nil (fun gs out h=>hI 68 gs out h) (by kernel_rfl) h
theorem t71:aQ C Xb Tt:=fun I hI gs out h=>
 aG.bD low mixed names (aU I hI) (specs:=[]) (fuel:=100000) (c:=adD) (pe:=[]) Tryz.func143 (by kernel_rfl) aC.nil (by kernel_rfl) h
theorem t76:aQ C Xg c76:=fun I hI gs out h=>
 aG.bD low mixed names (aU I hI) (specs:=[]) (fuel:=100000) (c:=adN) (pe:=[]) Tryz.func33 (by kernel_rfl) aC.nil (by kernel_rfl) h
theorem t78:aQ C Xi TB:=fun I hI gs out h=>
 aZ.fB low mixed names (aU I hI) (specs:=[]) (fuel:=100000) (sp:=s78) (by kernel_rfl) rfl (ps:=[]) (b:=QW) aC.nil (fun gs out h=>hI 78 gs out h) (by kernel_rfl) h
theorem t88:aQ C Xt TL:=fun I hI gs out h=>
 aG.bD low mixed names (aU I hI) (specs:=[]) (fuel:=100000) (c:=adY) (pe:=[]) Tryz.func72 (by kernel_rfl) aC.nil (by kernel_rfl) h
theorem t94:aQ C Xz TQ:=fun I hI gs out h=>
 aG.bD low mixed names (aU I hI) (specs:=[]) (fuel:=100000) (c:=adZ) (pe:=[]) Tryz.func74 (by kernel_rfl) aC.nil (by kernel_rfl) h
theorem alS:aQ C Vk Rz:=fun I hI gs out h=>
 aZ.fB low mixed names (aU I hI) (specs:=[]) (fuel:=100000) (sp:=Ir) (by kernel_rfl) rfl (ps:=[]) (b:=Qx) aC.nil (fun gs out h=>hI 101 gs out h) (by kernel_rfl) h
theorem alT:aQ C Vl RD:=fun I hI gs out h=>
 aG.bD low mixed names (aU I hI) (specs:=[]) (fuel:=100000) (c:=adH) (pe:=[]) Tryz.func148 (by kernel_rfl) aC.nil (by kernel_rfl) h
theorem alW:aQ C Vq RH:=fun I hI gs out h=>
 aG.bD low mixed names (aU I hI) (specs:=[(0,Iy)]) (fuel:=100000) (c:=UU) (pe:=[]) Tryz.func39 (by kernel_rfl) (aC.cons rfl (fun gs out h=>hI 107 gs out h) aC.nil) (by kernel_rfl) h
theorem alX:aQ C Vs RI:=fun I hI gs out h=>
 aZ.fB low mixed names (aU I hI) (specs:=[]) (fuel:=100000) (sp:=Iz) (by kernel_rfl) rfl (ps:=[]) (b:=QA) aC.nil (fun gs out h=>hI 108 gs out h) (by kernel_rfl) h
theorem alZ:aQ C Vw RN:=fun I hI gs out h=>
 aZ.fB low mixed names (aU I hI) (specs:=[]) (fuel:=100000) (sp:=IB) (by kernel_rfl) rfl (ps:=[]) (b:=QB) aC.nil (fun gs out h=>hI 111 gs out h) (by kernel_rfl) h
theorem al2:aQ C Vz RS:=fun I hI gs out h=>
 aG.bD low mixed names (aU I hI) (specs:=[]) (fuel:=100000) (c:=ad1) (pe:=[]) Tryz.func76 (by kernel_rfl) aC.nil (by kernel_rfl) h
theorem t117:aQ C VD c117:=fun I hI gs out h=>
 aG.bD low mixed names (aU I hI) (specs:=[]) (fuel:=100000) (c:=adw) (pe:=[]) Tryz.func109 (by kernel_rfl) aC.nil (by kernel_rfl) h
end M
end Go.Proofs.YtpkihgnabejkkaaGreatDoor
