/- Definitions keep their contracts: the ways of the bodies, run by the kernel. -/
import Derived.Test.YtpkihgnabejkkaaGreatDoorKBP
namespace Go.Proofs.YtpkihgnabejkkaaGreatDoor
open Go Go.aJ
set_option maxRecDepth 100000
set_option linter.unusedVariables false
set_option linter.unusedSimpArgs false
namespace B
theorem t1:aQ C d1 c1:=fun I hI gs out h=>
 aG.bD low mixed names (aU I hI) (specs:=[(0,s110)]) (fuel:=100000) (c:=code4) (pe:=[]) Tryz.func4 (by kernel_rfl) (aC.cons rfl (fun gs out h=>hI 110 gs out h) aC.nil) (by kernel_rfl) h
theorem t2:aQ C d2 c2:=fun I hI gs out h=>
 aG.bD low mixed names (aU I hI) (specs:=[]) (fuel:=100000) (c:=adQ) (pe:=[]) Tryz.func6 (by kernel_rfl) aC.nil (by kernel_rfl) h
theorem t4:aQ C d4 c4:=fun I hI gs out h=>
 aZ.fB low mixed names (aU I hI) (specs:=[]) (fuel:=100000) (sp:=s4) (by kernel_rfl) rfl (ps:=[]) (b:=b4) aC.nil (fun gs out h=>hI 4 gs out h) (by kernel_rfl) h
theorem t5:aQ C d5 c5:=fun I hI gs out h=>
 aG.bD low mixed names (aU I hI) (specs:=[(0,s6)]) (fuel:=100000) (c:=UJ) (pe:=[]) Tryz.func21 (by kernel_rfl) (aC.cons rfl (fun gs out h=>hI 6 gs out h) aC.nil) (by kernel_rfl) h
theorem t10:aQ C d10 c10:=fun I hI gs out h=>
 aZ.fB low mixed names (aU I hI) (specs:=[]) (fuel:=100000) (sp:=s10) (by kernel_rfl) rfl (ps:=[]) (b:=b10) aC.nil (fun gs out h=>hI 10 gs out h) (by kernel_rfl) h
theorem t11:aQ C d11 c11:=fun I hI gs out h=>
 aZ.fB low mixed names (aU I hI) (specs:=[]) (fuel:=100000) (sp:=s11) (by kernel_rfl) rfl (ps:=[]) (b:=b11) aC.nil (fun gs out h=>hI 11 gs out h) (by kernel_rfl) h
theorem t15:aQ C VI c15:=fun I hI gs out h=>
 aZ.fB low mixed names (aU I hI) (specs:=[]) (fuel:=100000) (sp:=s15) (by kernel_rfl) rfl (ps:=[]) (b:=b15) aC.nil (fun gs out h=>hI 15 gs out h) (by kernel_rfl) h
theorem t16:aQ C VJ c16:=fun I hI gs out h=>
 aG.bD low mixed names (aU I hI) (specs:=[]) (fuel:=100000) (c:=adW) (pe:=[]) Tryz.func7 (by kernel_rfl) aC.nil (by kernel_rfl) h
theorem t17:aQ C VK c17:=fun I hI gs out h=>
 aG.bD low mixed names (aU I hI) (specs:=[]) (fuel:=100000) (c:=adJ) (pe:=[]) Tryz.func23 (by kernel_rfl) aC.nil (by kernel_rfl) h
theorem t26:aQ C VX RZ:=fun I hI gs out h=>
 aZ.fB low mixed names (aU I hI) (specs:=[]) (fuel:=100000) (sp:=s26) (by kernel_rfl) rfl (ps:=[]) (b:=QG) aC.nil (fun gs out h=>hI 26 gs out h) (by kernel_rfl) h
theorem t32:aQ C V6 c32:=fun I hI gs out h=>
 aG.bD low mixed names (aU I hI) (specs:=[]) (fuel:=100000) (c:=code83) (pe:=[]) Tryz.func83 (by kernel_rfl) aC.nil (by kernel_rfl) h
theorem t34:aQ C V8 c34:=fun I hI gs out h=>
 aZ.fB low mixed names (aU I hI) (specs:=[]) (fuel:=100000) (sp:=s34) (by kernel_rfl) rfl (ps:=[]) (b:=b34) aC.nil (fun gs out h=>hI 34 gs out h) (by kernel_rfl) h
theorem t35:aQ C V9 Sm:=fun I hI gs out h=>
 aG.bD low mixed names (aU I hI) (specs:=[(0,IZ),(1,s49),(2,s50),(3,s77)]) (fuel:=100000) (c:=code15) (pe:=[]) Tryz.func15 (by kernel_rfl) (aC.cons rfl (fun gs out h=>hI 47 gs out h) (aC.cons rfl (fun gs out h=>hI 49 gs out h) (aC.cons rfl (fun gs out h=>hI 50 gs out h) (aC.cons rfl (fun gs out h=>hI 77 gs out h) aC.nil)))) (by kernel_rfl) h
theorem t36:aQ C Wh Sr:=fun I hI gs out h=>
 aG.bD low mixed names (aU I hI) (specs:=[]) (fuel:=100000) (c:=code47) (pe:=[]) Tryz.func47 (by kernel_rfl) aC.nil (by kernel_rfl) h
theorem t39:aQ C Wl Sz:=fun I hI gs out h=>
 aZ.fB low mixed names (aU I hI) (specs:=[]) (fuel:=100000) (sp:=IW) (by kernel_rfl) rfl (ps:=[]) (b:=b39) aC.nil (fun gs out h=>hI 39 gs out h) (by kernel_rfl) h
theorem t44:aQ C Wu SE:=fun I hI gs out h=>
 aG.bD low mixed names (aU I hI) (specs:=[]) (fuel:=100000) (c:=code118) (pe:=[]) Tryz.func118 (by kernel_rfl) aC.nil (by kernel_rfl) h
theorem t51:aQ C WE c51:=fun I hI gs out h=>
 lC.bD low mixed names (aU I hI) (specs:=[]) (fuel:=100000) (c:=code50) (pe:=[]) (sp:=I5) rfl Tryz.func50 (by kernel_rfl) aC.nil (by kernel_rfl) h
theorem t60:aQ C WR SY:=fun I hI gs out h=>
 lC.bD low mixed names (aU I hI) (specs:=[]) (fuel:=100000) (c:=code50) (pe:=[]) (sp:=Ja) rfl Tryz.func50 (by kernel_rfl) aC.nil (by kernel_rfl) h
theorem t64:aQ C WV c64:=fun I hI gs out h=>
 lC.bD low mixed names (aU I hI) (specs:=[]) (fuel:=100000) (c:=code50) (pe:=[]) (sp:=s64) rfl Tryz.func50 (by kernel_rfl) aC.nil (by kernel_rfl) h
theorem t68:aQ C WZ Tn:=fun I hI gs out h=>
 lC.bD low mixed names (aU I hI) (specs:=[]) (fuel:=100000) (c:=code50) (pe:=[]) (sp:=s68) rfl Tryz.func50 (by kernel_rfl) aC.nil (by kernel_rfl) h
theorem t72:aQ C Xc c72:=fun I hI gs out h=>
 lC.bD low mixed names (aU I hI) (specs:=[]) (fuel:=100000) (c:=code50) (pe:=[]) (sp:=s72) rfl Tryz.func50 (by kernel_rfl) aC.nil (by kernel_rfl) h
theorem t74:aQ C Xe Tz:=fun I hI gs out h=>
 aG.bD low mixed names (aU I hI) (specs:=[]) (fuel:=100000) (c:=code52) (pe:=[]) Tryz.func52 (by kernel_rfl) aC.nil (by kernel_rfl) h
theorem t76:aQ C Xg c76:=fun I hI gs out h=>
 aZ.fB low mixed names (aU I hI) (specs:=[]) (fuel:=100000) (sp:=s76) (by kernel_rfl) rfl (ps:=[]) (b:=b76) aC.nil (fun gs out h=>hI 76 gs out h) (by kernel_rfl) h
theorem t82:aQ C Xm TG:=fun I hI gs out h=>
 aZ.fB low mixed names (aU I hI) (specs:=[]) (fuel:=100000) (sp:=s82) (by kernel_rfl) rfl (ps:=[]) (b:=QX) aC.nil (fun gs out h=>hI 82 gs out h) (by kernel_rfl) h
theorem t97:aQ C XC TV:=fun I hI gs out h=>
 lC.bD low mixed names (aU I hI) (specs:=[]) (fuel:=100000) (c:=adA) (pe:=[]) (sp:=s97) rfl Tryz.func140 (by kernel_rfl) aC.nil (by kernel_rfl) h
theorem alU:aQ C Vm RF:=fun I hI gs out h=>
 aG.bD low mixed names (aU I hI) (specs:=[]) (fuel:=100000) (c:=ad1) (pe:=[]) Tryz.func76 (by kernel_rfl) aC.nil (by kernel_rfl) h
theorem alV:aQ C Vo RG:=fun I hI gs out h=>
 aG.bD low mixed names (aU I hI) (specs:=[(0,Iw)]) (fuel:=100000) (c:=Uw) (pe:=[]) Tryz.func108 (by kernel_rfl) (aC.cons rfl (fun gs out h=>hI 105 gs out h) aC.nil) (by kernel_rfl) h
theorem alX:aQ C Vs RI:=fun I hI gs out h=>
 aZ.fB low mixed names (aU I hI) (specs:=[(0,s109)]) (fuel:=100000) (sp:=Iz) (by kernel_rfl) rfl (ps:=[]) (b:=QA) (aC.cons rfl (fun gs out h=>hI 109 gs out h) aC.nil) (fun gs out h=>hI 108 gs out h) (by kernel_rfl) h
end B
end Go.Proofs.YtpkihgnabejkkaaGreatDoor
