/- Definitions keep their contracts: the ways of the bodies, run by the kernel. -/
import Derived.Test.YtpkihgnabejkkaaGreatDoorKMP
namespace Go.Proofs.YtpkihgnabejkkaaGreatDoor
open Go Go.aJ
set_option maxRecDepth 100000
set_option linter.unusedVariables false
set_option linter.unusedSimpArgs false
namespace M
theorem t3:aQ C d3 c3:=fun I hI gs out h=>
 aG.bD low mixed names (aU I hI) (specs:=[(0,s4)]) (fuel:=100000) (c:=UH) (pe:=[]) Tryz.func20 (by kernel_rfl) (aC.cons rfl (fun gs out h=>hI 4 gs out h) aC.nil) (by kernel_rfl) h
theorem t6:aQ C d6 c6:=fun I hI gs out h=>
 aZ.fB low mixed names (aU I hI) (specs:=[]) (fuel:=100000) (sp:=s6) (by kernel_rfl) rfl (ps:=[]) (b:=b6) aC.nil (fun gs out h=>hI 6 gs out h) (by kernel_rfl) h
theorem t12:aQ C d12 c12:=fun I hI gs out h=>
 aZ.fB low mixed names (aU I hI) (specs:=[]) (fuel:=100000) (sp:=s12) (by kernel_rfl) rfl (ps:=[]) (b:=b12) aC.nil (fun gs out h=>hI 12 gs out h) (by kernel_rfl) h
theorem t24:aQ C VU c24:=fun I hI gs out h=>
 aZ.fB low mixed names (aU I hI) (specs:=[]) (fuel:=100000) (sp:=s24) (by kernel_rfl) rfl (ps:=[]) (b:=QF) aC.nil (fun gs out h=>hI 24 gs out h) (by kernel_rfl) h
theorem t25:aQ C VW c25:=fun I hI gs out h=>
 aG.bD low mixed names (aU I hI) (specs:=[(0,s26)]) (fuel:=100000) (c:=UN) (pe:=[]) Tryz.func26 (by kernel_rfl) (aC.cons rfl (fun gs out h=>hI 26 gs out h) aC.nil) (by kernel_rfl) h
theorem t28:aQ C VZ c28:=fun I hI gs out h=>
 aG.bD low mixed names (aU I hI) (specs:=[(0,IQ)]) (fuel:=100000) (c:=Ux) (pe:=[]) Tryz.func11 (by kernel_rfl) (aC.cons rfl (fun gs out h=>hI 30 gs out h) aC.nil) (by kernel_rfl) h
theorem t37:aQ C Wi c37:=fun I hI gs out h=>
 aG.bD low mixed names (aU I hI) (specs:=[]) (fuel:=100000) (c:=adT) (pe:=[]) Tryz.func64 (by kernel_rfl) aC.nil (by kernel_rfl) h
theorem t39:aQ C Wl Sz:=fun I hI gs out h=>
 lC.bD low mixed names (aU I hI) (specs:=[]) (fuel:=100000) (c:=ady) (pe:=[]) (sp:=IW) rfl Tryz.func138 (by kernel_rfl) aC.nil (by kernel_rfl) h
theorem t40:aQ C Wn c40:=fun I hI gs out h=>
 aG.bD low mixed names (aU I hI) (specs:=[(0,IX)]) (fuel:=100000) (c:=UD) (pe:=[]) Tryz.func159 (by kernel_rfl) (aC.cons rfl (fun gs out h=>hI 41 gs out h) aC.nil) (by kernel_rfl) h
theorem t42:aQ C Wq SB:=fun I hI gs out h=>
 aZ.fB low mixed names (aU I hI) (specs:=[]) (fuel:=100000) (sp:=IY) (by kernel_rfl) rfl (ps:=[]) (b:=QJ) aC.nil (fun gs out h=>hI 42 gs out h) (by kernel_rfl) h
theorem t50:aQ C WC SK:=fun I hI gs out h=>
 aG.bD low mixed names (aU I hI) (specs:=[(0,I5)]) (fuel:=100000) (c:=Uz) (pe:=[]) Tryz.func112 (by kernel_rfl) (aC.cons rfl (fun gs out h=>hI 51 gs out h) aC.nil) (by kernel_rfl) h
theorem t53:aQ C WH c53:=fun I hI gs out h=>
 aG.bD low mixed names (aU I hI) (specs:=[]) (fuel:=100000) (c:=adq) (pe:=[]) Tryz.func10 (by kernel_rfl) aC.nil (by kernel_rfl) h
theorem t57:aQ C WM SV:=fun I hI gs out h=>
 aZ.fB low mixed names (aU I hI) (specs:=[]) (fuel:=100000) (sp:=I9) (by kernel_rfl) rfl (ps:=[]) (b:=QM) aC.nil (fun gs out h=>hI 57 gs out h) (by kernel_rfl) h
theorem t66:aQ C WX Ti:=fun I hI gs out h=>
 aZ.fB low mixed names (aU I hI) (specs:=[]) (fuel:=100000) (sp:=Jc) (by kernel_rfl) rfl (ps:=[]) (b:=QS) aC.nil (fun gs out h=>hI 66 gs out h) (by kernel_rfl) h
theorem t69:aQ C W9 Tq:=fun I hI gs out h=>
 aG.bD low mixed names (aU I hI) (specs:=[]) (fuel:=100000) (c:=adr) (pe:=[]) Tryz.func101 (by kernel_rfl) aC.nil (by kernel_rfl) h
theorem t72:aQ C Xc c72:=fun I hI gs out h=>
 aG.bD low mixed names (aU I hI) (specs:=[]) (fuel:=100000) (c:=ads) (pe:=[]) Tryz.func102 (by kernel_rfl) aC.nil (by kernel_rfl) h
theorem t73:aQ C Xd Tv:=fun I hI gs out h=>
 aG.bD low mixed names (aU I hI) (specs:=[]) (fuel:=100000) (c:=adE) (pe:=[]) Tryz.func144 (by kernel_rfl) aC.nil (by kernel_rfl) h
theorem t86:aQ C Xq TK:=fun I hI gs out h=>
 aG.bD low mixed names (aU I hI) (specs:=[]) (fuel:=100000) (c:=adP) (pe:=[]) Tryz.func37 (by kernel_rfl) aC.nil (by kernel_rfl) h
theorem t87:aQ C Xr c87:=fun I hI gs out h=>
 aG.bD low mixed names (aU I hI) (specs:=[]) (fuel:=100000) (c:=adX) (pe:=[]) Tryz.func70 (by kernel_rfl) aC.nil (by kernel_rfl) h
theorem t90:aQ C Xv TN:=fun I hI gs out h=>
 aG.bD low mixed names (aU I hI) (specs:=[(0,Jg)]) (fuel:=100000) (c:=Us) (pe:=[]) Tryz.func104 (by kernel_rfl) (aC.cons rfl (fun gs out h=>hI 91 gs out h) aC.nil) (by kernel_rfl) h
theorem t92:aQ C Xx TP:=fun I hI gs out h=>
 aZ.fB low mixed names (aU I hI) (specs:=[]) (fuel:=100000) (sp:=Jh) (by kernel_rfl) rfl (ps:=[]) (b:=Q5) aC.nil (fun gs out h=>hI 92 gs out h) (by kernel_rfl) h
theorem t93:aQ C Xy c93:=fun I hI gs out h=>
 aG.bD low mixed names (aU I hI) (specs:=[]) (fuel:=100000) (c:=adu) (pe:=[]) Tryz.func105 (by kernel_rfl) aC.nil (by kernel_rfl) h
theorem t97:aQ C XC TV:=fun I hI gs out h=>
 aG.bD low mixed names (aU I hI) (specs:=[]) (fuel:=100000) (c:=adG) (pe:=[]) Tryz.func147 (by kernel_rfl) aC.nil (by kernel_rfl) h
theorem alR:aQ C Vj Ry:=fun I hI gs out h=>
 aG.bD low mixed names (aU I hI) (specs:=[(0,Ir)]) (fuel:=100000) (c:=Uu) (pe:=[]) Tryz.func107 (by kernel_rfl) (aC.cons rfl (fun gs out h=>hI 101 gs out h) aC.nil) (by kernel_rfl) h
theorem alV:aQ C Vo RG:=fun I hI gs out h=>
 aZ.fB low mixed names (aU I hI) (specs:=[(0,Iw)]) (fuel:=100000) (sp:=Iu) (by kernel_rfl) rfl (ps:=[]) (b:=KD) (aC.cons rfl (fun gs out h=>hI 105 gs out h) aC.nil) (fun gs out h=>hI 104 gs out h) (by kernel_rfl) h
theorem t107:aQ C Vr c107:=fun I hI gs out h=>
 aZ.fB low mixed names (aU I hI) (specs:=[]) (fuel:=100000) (sp:=Iy) (by kernel_rfl) rfl (ps:=[]) (b:=Qz) aC.nil (fun gs out h=>hI 107 gs out h) (by kernel_rfl) h
theorem alY:aQ C Vu RJ:=fun _ _ _ _ h=>ahP h
theorem al1:aQ C Vy RQ:=fun I hI gs out h=>
 aZ.fB low mixed names (aU I hI) (specs:=[]) (fuel:=100000) (sp:=IC) (by kernel_rfl) rfl (ps:=[]) (b:=QC) aC.nil (fun gs out h=>hI 113 gs out h) (by kernel_rfl) h
theorem al4:aQ C VE RV:=fun I hI gs out h=>
 aG.bD low mixed names (aU I hI) (specs:=[(0,IG)]) (fuel:=100000) (c:=UG) (pe:=[]) Tryz.func18 (by kernel_rfl) (aC.cons rfl (fun gs out h=>hI 119 gs out h) aC.nil) (by kernel_rfl) h
end M
end Go.Proofs.YtpkihgnabejkkaaGreatDoor
