/- Definitions keep their contracts: the ways of the bodies, run by the kernel. -/
import Derived.Test.YtpkihgnabejkkaaGreatDoorKBP
namespace Go.Proofs.YtpkihgnabejkkaaGreatDoor
open Go Go.aJ
set_option maxRecDepth 100000
set_option linter.unusedVariables false
set_option linter.unusedSimpArgs false
namespace B
theorem t9:aQ C d9 c9:=fun I hI gs out h=>
 aG.bD low mixed names (aU I hI) (specs:=[(0,s10)]) (fuel:=100000) (c:=Uy) (pe:=[]) Tryz.func111 (by kernel_rfl) (aC.cons rfl (fun gs out h=>hI 10 gs out h) aC.nil) (by kernel_rfl) h
theorem t13:aQ C d13 c13:=fun I hI gs out h=>
 aG.bD low mixed names (aU I hI) (specs:=[]) (fuel:=100000) (c:=ad3) (pe:=[]) Tryz.func80 (by kernel_rfl) aC.nil (by kernel_rfl) h
theorem t14:aQ C VH c14:=fun I hI gs out h=>
 aG.bD low mixed names (aU I hI) (specs:=[(0,s15)]) (fuel:=100000) (c:=UK) (pe:=[]) Tryz.func22 (by kernel_rfl) (aC.cons rfl (fun gs out h=>hI 15 gs out h) aC.nil) (by kernel_rfl) h
theorem t20:aQ C VO c20:=fun I hI gs out h=>
 aG.bD low mixed names (aU I hI) (specs:=[]) (fuel:=100000) (c:=code14) (pe:=[]) Tryz.func14 (by kernel_rfl) aC.nil (by kernel_rfl) h
theorem t24:aQ C VU c24:=fun I hI gs out h=>
 aG.bD low mixed names (aU I hI) (specs:=[]) (fuel:=100000) (c:=code56) (pe:=[]) Tryz.func56 (by kernel_rfl) aC.nil (by kernel_rfl) h
theorem t28:aQ C VZ c28:=fun I hI gs out h=>
 aG.bD low mixed names (aU I hI) (specs:=[]) (fuel:=100000) (c:=adS) (pe:=[]) Tryz.func63 (by kernel_rfl) aC.nil (by kernel_rfl) h
theorem t29:aQ C V3 c29:=fun I hI gs out h=>
 aG.bD low mixed names (aU I hI) (specs:=[]) (fuel:=100000) (c:=ad5) (pe:=[]) Tryz.func93 (by kernel_rfl) aC.nil (by kernel_rfl) h
theorem t30:aQ C V4 Sj:=fun _ _ _ _ h=>amU h
theorem t31:aQ C V5 c31:=fun I hI gs out h=>
 aZ.fB low mixed names (aU I hI) (specs:=[]) (fuel:=100000) (sp:=s31) (by kernel_rfl) rfl (ps:=[]) (b:=b31) aC.nil (fun gs out h=>hI 31 gs out h) (by kernel_rfl) h
theorem t37:aQ C Wi c37:=fun I hI gs out h=>
 aG.bD low mixed names (aU I hI) (specs:=[(0,IW)]) (fuel:=100000) (c:=code48) (pe:=[]) Tryz.func48 (by kernel_rfl) (aC.cons rfl (fun gs out h=>hI 39 gs out h) aC.nil) (by kernel_rfl) h
theorem t38:aQ C Wj Sv:=fun I hI gs out h=>
 aG.bD low mixed names (aU I hI) (specs:=[]) (fuel:=100000) (c:=code113) (pe:=[]) Tryz.func113 (by kernel_rfl) aC.nil (by kernel_rfl) h
theorem t40:aQ C Wn c40:=fun I hI gs out h=>
 aG.bD low mixed names (aU I hI) (specs:=[]) (fuel:=100000) (c:=code114) (pe:=[]) Tryz.func114 (by kernel_rfl) aC.nil (by kernel_rfl) h
theorem t41:aQ C Wp SA:=fun I hI gs out h=>
 aG.bD low mixed names (aU I hI) (specs:=[]) (fuel:=100000) (c:=code115) (pe:=[]) Tryz.func115 (by kernel_rfl) aC.nil (by kernel_rfl) h
theorem t43:aQ C Ws SC:=fun I hI gs out h=>
 aG.bD low mixed names (aU I hI) (specs:=[]) (fuel:=100000) (c:=code117) (pe:=[]) Tryz.func117 (by kernel_rfl) aC.nil (by kernel_rfl) h
theorem t50:aQ C WC SK:=fun I hI gs out h=>
 aZ.fB low mixed names (aU I hI) (specs:=[]) (fuel:=100000) (sp:=s50) (by kernel_rfl) rfl (ps:=[]) (b:=b50) aC.nil (fun gs out h=>hI 50 gs out h) (by kernel_rfl) h
theorem t54:aQ C WI SN:=fun I hI gs out h=>
 lC.bD low mixed names (aU I hI) (specs:=[]) (fuel:=100000) (c:=code50) (pe:=[]) (sp:=s54) rfl Tryz.func50 (by kernel_rfl) aC.nil (by kernel_rfl) h
theorem t59:aQ C WQ c59:=fun I hI gs out h=>
 lC.bD low mixed names (aU I hI) (specs:=[]) (fuel:=100000) (c:=code50) (pe:=[]) (sp:=s59) rfl Tryz.func50 (by kernel_rfl) aC.nil (by kernel_rfl) h
theorem t63:aQ C WU Td:=fun I hI gs out h=>
 lC.bD low mixed names (aU I hI) (specs:=[]) (fuel:=100000) (c:=code50) (pe:=[]) (sp:=s63) rfl Tryz.func50 (by kernel_rfl) aC.nil (by kernel_rfl) h
theorem t67:aQ C WY Tj:=fun I hI gs out h=>
 lC.bD low mixed names (aU I hI) (specs:=[]) (fuel:=100000) (c:=code50) (pe:=[]) (sp:=Jd) rfl Tryz.func50 (by kernel_rfl) aC.nil (by kernel_rfl) h
theorem t71:aQ C Xb Tt:=fun I hI gs out h=>
 lC.bD low mixed names (aU I hI) (specs:=[]) (fuel:=100000) (c:=code50) (pe:=[]) (sp:=s71) rfl Tryz.func50 (by kernel_rfl) aC.nil (by kernel_rfl) h
theorem t75:aQ C Xf c75:=fun I hI gs out h=>
 aG.bD low mixed names (aU I hI) (specs:=[(0,s76)]) (fuel:=100000) (c:=code86) (pe:=[]) Tryz.func86 (by kernel_rfl) (aC.cons rfl (fun gs out h=>hI 76 gs out h) aC.nil) (by kernel_rfl) h
theorem t81:aQ C Xl TF:=fun _ _ _ _ h=>adk h
theorem t87:aQ C Xr c87:=fun I hI gs out h=>
 lC.bD low mixed names (aU I hI) (specs:=[(0,Jg)]) (fuel:=100000) (c:=U5) (pe:=[]) (sp:=s87) rfl Tryz.func95 (by kernel_rfl) (aC.cons rfl (fun gs out h=>hI 91 gs out h) aC.nil) (by kernel_rfl) h
theorem t88:aQ C Xt TL:=fun I hI gs out h=>
 lC.bD low mixed names (aU I hI) (specs:=[]) (fuel:=100000) (c:=ady) (pe:=[]) (sp:=s88) rfl Tryz.func138 (by kernel_rfl) aC.nil (by kernel_rfl) h
theorem t94:aQ C Xz TQ:=fun I hI gs out h=>
 aG.bD low mixed names (aU I hI) (specs:=[]) (fuel:=100000) (c:=adU) (pe:=[]) Tryz.func65 (by kernel_rfl) aC.nil (by kernel_rfl) h
theorem t95:aQ C XA TS:=fun I hI gs out h=>
 lC.bD low mixed names (aU I hI) (specs:=[(0,Ji)]) (fuel:=100000) (c:=U6) (pe:=[]) (sp:=s95) rfl Tryz.func97 (by kernel_rfl) (aC.cons rfl (fun gs out h=>hI 96 gs out h) aC.nil) (by kernel_rfl) h
theorem t96:aQ C XB TU:=fun I hI gs out h=>
 aZ.fB low mixed names (aU I hI) (specs:=[]) (fuel:=100000) (sp:=Ji) (by kernel_rfl) rfl (ps:=[]) (b:=Q7) aC.nil (fun gs out h=>hI 96 gs out h) (by kernel_rfl) h
theorem t99:aQ C XE TY:=fun I hI gs out h=>
 aG.bD low mixed names (aU I hI) (specs:=[(0,s100)]) (fuel:=100000) (c:=UA) (pe:=[]) Tryz.func13 (by kernel_rfl) (aC.cons rfl (fun gs out h=>hI 100 gs out h) aC.nil) (by kernel_rfl) h
theorem t109:aQ C Vt c109:=fun I hI gs out h=>
 aZ.fB low mixed names (aU I hI) (specs:=[]) (fuel:=100000) (sp:=s109) (by kernel_rfl) rfl (ps:=[]) (b:=b109) aC.nil (fun gs out h=>hI 109 gs out h) (by kernel_rfl) h
end B
end Go.Proofs.YtpkihgnabejkkaaGreatDoor
