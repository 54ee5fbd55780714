/- Definitions keep their contracts: the ways of the bodies, run by the kernel. -/
import Derived.Test.YtpkihgnabejkkaaGreatDoorKBP
namespace Go.Proofs.YtpkihgnabejkkaaGreatDoor
open Go Go.aJ
set_option maxRecDepth 100000
set_option linter.unusedVariables false
set_option linter.unusedSimpArgs false
namespace B
theorem t3:aQ C d3 c3:=fun I hI gs out h=>
 aG.bD low mixed names (aU I hI) (specs:=[(0,s4)]) (fuel:=100000) (c:=UH) (pe:=[]) Tryz.func20 (by kernel_rfl) (aC.cons rfl (fun gs out h=>hI 4 gs out h) aC.nil) (by kernel_rfl) h
theorem t6:aQ C d6 c6:=fun I hI gs out h=>
 aZ.fB low mixed names (aU I hI) (specs:=[]) (fuel:=100000) (sp:=s6) (by kernel_rfl) rfl (ps:=[]) (b:=b6) aC.nil (fun gs out h=>hI 6 gs out h) (by kernel_rfl) h
theorem t21:aQ C VP c21:=fun I hI gs out h=>
 aG.bD low mixed names (aU I hI) (specs:=[(0,s31)]) (fuel:=100000) (c:=code46) (pe:=[]) Tryz.func46 (by kernel_rfl) (aC.cons rfl (fun gs out h=>hI 31 gs out h) aC.nil) (by kernel_rfl) h
theorem t22:aQ C VQ RY:=fun I hI gs out h=>
 aG.bD low mixed names (aU I hI) (specs:=[(0,s23)]) (fuel:=100000) (c:=code17) (pe:=[]) Tryz.func17 (by kernel_rfl) (aC.cons rfl (fun gs out h=>hI 23 gs out h) aC.nil) (by kernel_rfl) h
theorem t25:aQ C VW c25:=fun I hI gs out h=>
 aG.bD low mixed names (aU I hI) (specs:=[(0,s26)]) (fuel:=100000) (c:=code85) (pe:=[]) Tryz.func85 (by kernel_rfl) (aC.cons rfl (fun gs out h=>hI 26 gs out h) aC.nil) (by kernel_rfl) h
theorem t33:aQ C V7 Sl:=fun I hI gs out h=>
 aG.bD low mixed names (aU I hI) (specs:=[(0,s34)]) (fuel:=100000) (c:=Uz) (pe:=[]) Tryz.func112 (by kernel_rfl) (aC.cons rfl (fun gs out h=>hI 34 gs out h) aC.nil) (by kernel_rfl) h
theorem t42:aQ C Wq SB:=fun I hI gs out h=>
 aG.bD low mixed names (aU I hI) (specs:=[]) (fuel:=100000) (c:=code116) (pe:=[]) Tryz.func116 (by kernel_rfl) aC.nil (by kernel_rfl) h
theorem t45:aQ C Wv SG:=fun I hI gs out h=>
 aG.bD low mixed names (aU I hI) (specs:=[]) (fuel:=100000) (c:=code119) (pe:=[]) Tryz.func119 (by kernel_rfl) aC.nil (by kernel_rfl) h
theorem t46:aQ C Wx c46:=fun I hI gs out h=>
 aG.bD low mixed names (aU I hI) (specs:=[]) (fuel:=100000) (c:=code120) (pe:=[]) Tryz.func120 (by kernel_rfl) aC.nil (by kernel_rfl) h
theorem t47:aQ C Wy SH:=fun I hI gs out h=>
 aZ.fB low mixed names (aU I hI) (specs:=[]) (fuel:=100000) (sp:=IZ) (by kernel_rfl) rfl (ps:=[]) (b:=b47) aC.nil (fun gs out h=>hI 47 gs out h) (by kernel_rfl) h
theorem t52:aQ C WG SL:=fun I hI gs out h=>
 lC.bD low mixed names (aU I hI) (specs:=[]) (fuel:=100000) (c:=code50) (pe:=[]) (sp:=I7) rfl Tryz.func50 (by kernel_rfl) aC.nil (by kernel_rfl) h
theorem t53:aQ C WH c53:=fun I hI gs out h=>
 lC.bD low mixed names (aU I hI) (specs:=[]) (fuel:=100000) (c:=code50) (pe:=[]) (sp:=s53) rfl Tryz.func50 (by kernel_rfl) aC.nil (by kernel_rfl) h
theorem t61:aQ C WS S9:=fun I hI gs out h=>
 lC.bD low mixed names (aU I hI) (specs:=[]) (fuel:=100000) (c:=code50) (pe:=[]) (sp:=s61) rfl Tryz.func50 (by kernel_rfl) aC.nil (by kernel_rfl) h
theorem t65:aQ C WW Tf:=fun I hI gs out h=>
 lC.bD low mixed names (aU I hI) (specs:=[]) (fuel:=100000) (c:=code50) (pe:=[]) (sp:=s65) rfl Tryz.func50 (by kernel_rfl) aC.nil (by kernel_rfl) h
theorem t69:aQ C W9 Tq:=fun I hI gs out h=>
 lC.bD low mixed names (aU I hI) (specs:=[]) (fuel:=100000) (c:=code50) (pe:=[]) (sp:=s69) rfl Tryz.func50 (by kernel_rfl) aC.nil (by kernel_rfl) h
theorem t73:aQ C Xd Tv:=fun I hI gs out h=>
 lC.bD low mixed names (aU I hI) (specs:=[]) (fuel:=100000) (c:=code50) (pe:=[]) (sp:=s73) rfl Tryz.func50 (by kernel_rfl) aC.nil (by kernel_rfl) h
theorem t77:aQ C Xh TA:=fun I hI gs out h=>
 aZ.fB low mixed names (aU I hI) (specs:=[(0,s78)]) (fuel:=100000) (sp:=s77) (by kernel_rfl) rfl (ps:=[]) (b:=b77) (aC.cons rfl (fun gs out h=>hI 78 gs out h) aC.nil) (fun gs out h=>hI 77 gs out h) (by kernel_rfl) h
theorem t80:aQ C Xk c80:=fun I hI gs out h=>
 aG.bD low mixed names (aU I hI) (specs:=[(0,s82)]) (fuel:=100000) (c:=Ux) (pe:=[]) Tryz.func11 (by kernel_rfl) (aC.cons rfl (fun gs out h=>hI 82 gs out h) aC.nil) (by kernel_rfl) h
theorem t83:aQ C Xn TI:=fun _ _ _ _ h=>ae5 h
theorem t84:aQ C Xo TJ:=fun I hI gs out h=>
 lC.bD low mixed names (aU I hI) (specs:=[]) (fuel:=100000) (c:=adK) (pe:=[]) (sp:=s84) rfl Tryz.func27 (by kernel_rfl) aC.nil (by kernel_rfl) h
theorem t85:aQ C Xp c85:=fun I hI gs out h=>
 aG.bD low mixed names (aU I hI) (specs:=[]) (fuel:=100000) (c:=adR) (pe:=[]) Tryz.func61 (by kernel_rfl) aC.nil (by kernel_rfl) h
theorem t90:aQ C Xv TN:=fun I hI gs out h=>
 aZ.fB low mixed names (aU I hI) (specs:=[]) (fuel:=100000) (sp:=s90) (by kernel_rfl) rfl (ps:=[]) (b:=b90) aC.nil (fun gs out h=>hI 90 gs out h) (by kernel_rfl) h
theorem t98:aQ C XD TW:=fun I hI gs out h=>
 lC.bD low mixed names (aU I hI) (specs:=[]) (fuel:=100000) (c:=adB) (pe:=[]) (sp:=s98) rfl Tryz.func141 (by kernel_rfl) aC.nil (by kernel_rfl) h
theorem alS:aQ C Vk Rz:=fun I hI gs out h=>
 aG.bD low mixed names (aU I hI) (specs:=[(0,s102)]) (fuel:=100000) (c:=U3) (pe:=[]) Tryz.func75 (by kernel_rfl) (aC.cons rfl (fun gs out h=>hI 102 gs out h) aC.nil) (by kernel_rfl) h
theorem alW:aQ C Vq RH:=fun I hI gs out h=>
 aG.bD low mixed names (aU I hI) (specs:=[]) (fuel:=100000) (c:=adw) (pe:=[]) Tryz.func109 (by kernel_rfl) aC.nil (by kernel_rfl) h
end B
end Go.Proofs.YtpkihgnabejkkaaGreatDoor
