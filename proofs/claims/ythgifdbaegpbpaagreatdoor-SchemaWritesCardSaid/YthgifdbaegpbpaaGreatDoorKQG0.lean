/- Definitions keep their contracts: the ways of the bodies, run by the kernel. -/
import Derived.Test.YthgifdbaegpbpaaGreatDoorKQP
namespace Go.Proofs.YthgifdbaegpbpaaGreatDoor
open Go Go.aP
set_option maxRecDepth 100000
set_option linter.unusedVariables false
set_option linter.unusedSimpArgs false
namespace Q
theorem t8:aN C d8 c8:=fun I hI gs out h=>
 aI.aX low mixed names (aO I hI) (specs:=[(0,s11)]) (fuel:=100000) (c:=Yy) (pe:=[]) Tryz.func53 (by kernel_rfl) (aB.cons rfl (fun gs out h=>hI 11 gs out h) aB.nil) (by kernel_rfl) h
theorem t13:aN C d13 c13:=fun I hI gs out h=>
 aI.aX low mixed names (aO I hI) (specs:=[]) (fuel:=100000) (c:=af9) (pe:=[]) Tryz.func126 (by kernel_rfl) aB.nil (by kernel_rfl) h
theorem t14:aN C Zr c14:=fun I hI gs out h=>
 aI.aX low mixed names (aO I hI) (specs:=[(0,s15)]) (fuel:=100000) (c:=Yv) (pe:=[]) Tryz.func48 (by kernel_rfl) (aB.cons rfl (fun gs out h=>hI 15 gs out h) aB.nil) (by kernel_rfl) h
theorem t15:aN C ZE c15:=fun I hI gs out h=>
 aU.dG low mixed names (aO I hI) (specs:=[]) (fuel:=100000) (sp:=s15) (by kernel_rfl) rfl (ps:=[]) (b:=b15) aB.nil (fun gs out h=>hI 15 gs out h) (by kernel_rfl) h
theorem t17:aN C Z5 c17:=fun I hI gs out h=>
 aI.aX low mixed names (aO I hI) (specs:=[]) (fuel:=100000) (c:=agD) (pe:=[]) Tryz.func49 (by kernel_rfl) aB.nil (by kernel_rfl) h
theorem t25:aN C d25 c25:=fun I hI gs out h=>
 aI.aX low mixed names (aO I hI) (specs:=[(0,s26)]) (fuel:=100000) (c:=Ym) (pe:=[]) Tryz.func20 (by kernel_rfl) (aB.cons rfl (fun gs out h=>hI 26 gs out h) aB.nil) (by kernel_rfl) h
theorem t34:aN C d34 c34:=fun I hI gs out h=>
 aI.aX low mixed names (aO I hI) (specs:=[]) (fuel:=100000) (c:=agc) (pe:=[]) Tryz.func132 (by kernel_rfl) aB.nil (by kernel_rfl) h
theorem t41:aN C d41 WI:=fun I hI gs out h=>
 aU.dG low mixed names (aO I hI) (specs:=[]) (fuel:=100000) (sp:=KJ) (by kernel_rfl) rfl (ps:=[]) (b:=UY) aB.nil (fun gs out h=>hI 41 gs out h) (by kernel_rfl) h
theorem t42:aN C d42 WJ:=fun _ _ _ _ h=>akL h
theorem t46:aN C d46 c46:=fun I hI gs out h=>
 dQ.aX low mixed names (aO I hI) (specs:=[]) (fuel:=100000) (c:=jH) (pe:=[]) (sp:=KN) rfl Tryz.func96 (by kernel_rfl) aB.nil (by kernel_rfl) h
theorem t60:aN C d60 WZ:=fun I hI gs out h=>
 aI.aX low mixed names (aO I hI) (specs:=[]) (fuel:=100000) (c:=agI) (pe:=[]) Tryz.func65 (by kernel_rfl) aB.nil (by kernel_rfl) h
theorem t64:aN C d64 c64:=fun I hI gs out h=>
 dQ.aX low mixed names (aO I hI) (specs:=[]) (fuel:=100000) (c:=jH) (pe:=[]) (sp:=KZ) rfl Tryz.func96 (by kernel_rfl) aB.nil (by kernel_rfl) h
theorem t68:aN C d68 Xf:=fun I hI gs out h=>
 dQ.aX low mixed names (aO I hI) (specs:=[]) (fuel:=100000) (c:=jH) (pe:=[]) (sp:=s68) rfl Tryz.func96 (by kernel_rfl) aB.nil (by kernel_rfl) h
theorem t72:aN C d72 c72:=fun I hI gs out h=>
 dQ.aX low mixed names (aO I hI) (specs:=[]) (fuel:=100000) (c:=jH) (pe:=[]) (sp:=s72) rfl Tryz.func96 (by kernel_rfl) aB.nil (by kernel_rfl) h
theorem t76:aN C d76 c76:=fun I hI gs out h=>
 dQ.aX low mixed names (aO I hI) (specs:=[]) (fuel:=100000) (c:=jH) (pe:=[]) (sp:=Lr) rfl Tryz.func96 (by kernel_rfl) aB.nil (by kernel_rfl) h
theorem t77:aN C d77 Xk:=fun I hI gs out h=>
 aI.aX low mixed names (aO I hI) (specs:=[]) (fuel:=100000) (c:=agK) (pe:=[]) Tryz.func98 (by kernel_rfl) aB.nil (by kernel_rfl) h
theorem t78:aN C d78 Xl:=fun I hI gs out h=>
 aI.aX low mixed names (aO I hI) (specs:=[(0,Ls)]) (fuel:=100000) (c:=Ye) (pe:=[]) Tryz.func157 (by kernel_rfl) (aB.cons rfl (fun gs out h=>hI 79 gs out h) aB.nil) (by kernel_rfl) h
theorem t84:aN C d84 Xq:=fun I hI gs out h=>
 aI.aX low mixed names (aO I hI) (specs:=[(0,LD)]) (fuel:=100000) (c:=YD) (pe:=[]) Tryz.func84 (by kernel_rfl) (aB.cons rfl (fun gs out h=>hI 85 gs out h) aB.nil) (by kernel_rfl) h
theorem t86:aN C d86 Xr:=fun I hI gs out h=>
 aI.aX low mixed names (aO I hI) (specs:=[]) (fuel:=100000) (c:=agm) (pe:=[]) Tryz.func146 (by kernel_rfl) aB.nil (by kernel_rfl) h
theorem t89:aN C d89 Xu:=fun I hI gs out h=>
 aI.aX low mixed names (aO I hI) (specs:=[(0,LH),(1,LJ)]) (fuel:=100000) (c:=Oq) (pe:=[]) Tryz.func56 (by kernel_rfl) (aB.cons rfl (fun gs out h=>hI 90 gs out h) (aB.cons rfl (fun gs out h=>hI 91 gs out h) aB.nil)) (by kernel_rfl) h
theorem t94:aN C d94 Xx:=fun I hI gs out h=>
 aI.aX low mixed names (aO I hI) (specs:=[(0,LK)]) (fuel:=100000) (c:=X3) (pe:=[]) Tryz.func101 (by kernel_rfl) (aB.cons rfl (fun gs out h=>hI 95 gs out h) aB.nil) (by kernel_rfl) h
theorem apK:aN C Y0 VF:=fun I hI gs out h=>
 aI.aX low mixed names (aO I hI) (specs:=[(0,JY)]) (fuel:=100000) (c:=Yb) (pe:=[]) Tryz.func120 (by kernel_rfl) (aB.cons rfl (fun gs out h=>hI 116 gs out h) aB.nil) (by kernel_rfl) h
theorem t116:aN C Y3 c116:=fun I hI gs out h=>
 aU.dG low mixed names (aO I hI) (specs:=[]) (fuel:=100000) (sp:=JY) (by kernel_rfl) rfl (ps:=[]) (b:=Uw) aB.nil (fun gs out h=>hI 116 gs out h) (by kernel_rfl) h
theorem apN:aN C Y5 VJ:=fun I hI gs out h=>
 aI.aX low mixed names (aO I hI) (specs:=[]) (fuel:=100000) (c:=af7) (pe:=[]) Tryz.func121 (by kernel_rfl) aB.nil (by kernel_rfl) h
theorem apS:aN C Zc VP:=fun I hI gs out h=>
 aI.aX low mixed names (aO I hI) (specs:=[]) (fuel:=100000) (c:=afZ) (pe:=[]) Tryz.func105 (by kernel_rfl) aB.nil (by kernel_rfl) h
theorem t130:aN C Zh c130:=fun I hI gs out h=>
 aI.aX low mixed names (aO I hI) (specs:=[]) (fuel:=100000) (c:=agq) (pe:=[]) Tryz.func163 (by kernel_rfl) aB.nil (by kernel_rfl) h
theorem ap6:aN C ZC V9:=fun I hI gs out h=>
 aU.dG low mixed names (aO I hI) (specs:=[]) (fuel:=100000) (sp:=Ku) (by kernel_rfl) rfl (ps:=[]) (b:=UK) aB.nil (fun gs out h=>hI 149 gs out h) (by kernel_rfl) h
theorem aqc:aN C ZR Wp:=fun I hI gs out h=>
 aU.dG low mixed names (aO I hI) (specs:=[]) (fuel:=100000) (sp:=KC) (by kernel_rfl) rfl (ps:=[]) (b:=UN) aB.nil (fun gs out h=>hI 161 gs out h) (by kernel_rfl) h
theorem aqf:aN C ZX Wu:=fun I hI gs out h=>
 aI.aX low mixed names (aO I hI) (specs:=[(0,KF)]) (fuel:=100000) (c:=Yk) (pe:=[]) Tryz.func19 (by kernel_rfl) (aB.cons rfl (fun gs out h=>hI 167 gs out h) aB.nil) (by kernel_rfl) h
end Q
end Go.Proofs.YthgifdbaegpbpaaGreatDoor
