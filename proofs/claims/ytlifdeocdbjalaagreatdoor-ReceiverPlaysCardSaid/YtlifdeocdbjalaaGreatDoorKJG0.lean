/- Definitions keep their contracts: the ways of the bodies, run by the kernel. -/
import Derived.Test.YtlifdeocdbjalaaGreatDoorKJC0
import Derived.Test.YtlifdeocdbjalaaGreatDoorKJC1
import Derived.Test.YtlifdeocdbjalaaGreatDoorKJC2
import Derived.Test.YtlifdeocdbjalaaGreatDoorKJC3
namespace Go.Proofs.YtlifdeocdbjalaaGreatDoor
open Go Go.aN
set_option maxRecDepth 100000
set_option linter.unusedVariables false
set_option linter.unusedSimpArgs false
namespace J
theorem ars:(aA.yh d1).chk (rU Tryz.prog aF pl [] 100000 s1 (iE [] b1)) (List.replicate s1.pre.np .arg) []=true:=(Tree.AB _ _ _).symm.trans (show w1 []=true from (Tree.bT _ [] _ _ (Tree.bT _ [true] _ _ arq (Tree.bT _ [true,false] _ _ arp (Tree.bT _ [true,false,false] _ _ (Tree.bT _ [true,false,false,true] _ _ (Tree.bT _ [true,false,false,true,true] _ _ (Tree.bT _ [true,false,false,true,true,true] _ _ (Tree.bT _ [true,false,false,true,true,true,true] _ _ (Tree.bT _ [true,false,false,true,true,true,true,true] _ _ aro (Tree.bT _ [true,false,false,true,true,true,true,true,false] _ _ arn (Tree.bT _ [true,false,false,true,true,true,true,true,false,false] _ _ arl ark))) (Tree.bT _ [true,false,false,true,true,true,true,false] _ _ arj (Tree.bT _ [true,false,false,true,true,true,true,false,false] _ _ ari arh))) (Tree.bT _ [true,false,false,true,true,true,false] _ _ (Tree.bT _ [true,false,false,true,true,true,false,true] _ _ arf (Tree.bT _ [true,false,false,true,true,true,false,true,false] _ _ ard (Tree.bT _ [true,false,false,true,true,true,false,true,false,false] _ _ arb ara))) aq9)) (Tree.bT _ [true,false,false,true,true,false] _ _ (Tree.bT _ [true,false,false,true,true,false,true] _ _ aq8 (Tree.bT _ [true,false,false,true,true,false,true,false] _ _ aq7 (Tree.bT _ [true,false,false,true,true,false,true,false,false] _ _ aq6 aq5))) (Tree.bT _ [true,false,false,true,true,false,false] _ _ aq4 (Tree.bT _ [true,false,false,true,true,false,false,false] _ _ aq3 aq2)))) (Tree.bT _ [true,false,false,true,false] _ _ aq1 (Tree.bT _ [true,false,false,true,false,false] _ _ aq0 aqZ))) (Tree.bT _ [true,false,false,false] _ _ aqY (Tree.bT _ [true,false,false,false,false] _ _ aqX aqW))))) aqV))
theorem t1:aJ C d1 c1:=fun I hI gs out h=>
 aP.dG low mixed names (aK I hI) (specs:=[]) (fuel:=100000) (sp:=s1) (by kernel_rfl) rfl (ps:=[]) (b:=b1) ay.nil (fun gs out h=>hI 1 gs out h) ars h
theorem t5:aJ C d5 c5:=fun I hI gs out h=>
 aG.aS low mixed names (aK I hI) (specs:=[(0,s6)]) (fuel:=100000) (c:=Xe) (pe:=[]) Tryz.func31 (by kernel_rfl) (ay.cons rfl (fun gs out h=>hI 6 gs out h) ay.nil) (by kernel_rfl) h
theorem t7:aJ C d7 c7:=fun I hI gs out h=>
 aG.aS low mixed names (aK I hI) (specs:=[(0,s12)]) (fuel:=100000) (c:=Xo) (pe:=[]) Tryz.func67 (by kernel_rfl) (ay.cons rfl (fun gs out h=>hI 12 gs out h) ay.nil) (by kernel_rfl) h
theorem t10:aJ C d10 c10:=fun I hI gs out h=>
 aP.dG low mixed names (aK I hI) (specs:=[]) (fuel:=100000) (sp:=s10) (by kernel_rfl) rfl (ps:=[]) (b:=b10) ay.nil (fun gs out h=>hI 10 gs out h) (by kernel_rfl) h
theorem t11:aJ C d11 c11:=fun I hI gs out h=>
 aP.dG low mixed names (aK I hI) (specs:=[]) (fuel:=100000) (sp:=s11) (by kernel_rfl) rfl (ps:=[]) (b:=b11) ay.nil (fun gs out h=>hI 11 gs out h) (by kernel_rfl) h
theorem t18:aJ C Y0 c18:=fun I hI gs out h=>
 aP.dG low mixed names (aK I hI) (specs:=[]) (fuel:=100000) (sp:=J5) (by kernel_rfl) rfl (ps:=[]) (b:=b18) ay.nil (fun gs out h=>hI 18 gs out h) (by kernel_rfl) h
theorem t26:aJ C Y8 Vl:=fun I hI gs out h=>
 aG.aS low mixed names (aK I hI) (specs:=[]) (fuel:=100000) (c:=agc) (pe:=[]) Tryz.func123 (by kernel_rfl) ay.nil (by kernel_rfl) h
theorem t37:aJ C Zh c37:=fun I hI gs out h=>
 dn.aS low mixed names (aK I hI) (specs:=[]) (fuel:=100000) (c:=jA) (pe:=[]) (sp:=J8) rfl Tryz.func63 (by kernel_rfl) ay.nil (by kernel_rfl) h
theorem t44:aJ C Zo Vy:=fun I hI gs out h=>
 dn.aS low mixed names (aK I hI) (specs:=[]) (fuel:=100000) (c:=jA) (pe:=[]) (sp:=s44) rfl Tryz.func63 (by kernel_rfl) ay.nil (by kernel_rfl) h
theorem t48:aJ C Zt VB:=fun I hI gs out h=>
 aG.aS low mixed names (aK I hI) (specs:=[]) (fuel:=100000) (c:=agm) (pe:=[]) Tryz.func134 (by kernel_rfl) ay.nil (by kernel_rfl) h
theorem t49:aJ C Zu c49:=fun I hI gs out h=>
 dn.aS low mixed names (aK I hI) (specs:=[]) (fuel:=100000) (c:=jA) (pe:=[]) (sp:=s49) rfl Tryz.func63 (by kernel_rfl) ay.nil (by kernel_rfl) h
theorem t55:aJ C ZA VG:=fun I hI gs out h=>
 dn.aS low mixed names (aK I hI) (specs:=[]) (fuel:=100000) (c:=jA) (pe:=[]) (sp:=Kv) rfl Tryz.func63 (by kernel_rfl) ay.nil (by kernel_rfl) h
theorem t59:aJ C ZF c59:=fun I hI gs out h=>
 dn.aS low mixed names (aK I hI) (specs:=[]) (fuel:=100000) (c:=jA) (pe:=[]) (sp:=KA) rfl Tryz.func63 (by kernel_rfl) ay.nil (by kernel_rfl) h
theorem t63:aJ C ZJ VO:=fun I hI gs out h=>
 dn.aS low mixed names (aK I hI) (specs:=[]) (fuel:=100000) (c:=jA) (pe:=[]) (sp:=KF) rfl Tryz.func63 (by kernel_rfl) ay.nil (by kernel_rfl) h
theorem t67:aJ C ZN VT:=fun I hI gs out h=>
 dn.aS low mixed names (aK I hI) (specs:=[]) (fuel:=100000) (c:=jA) (pe:=[]) (sp:=KJ) rfl Tryz.func63 (by kernel_rfl) ay.nil (by kernel_rfl) h
theorem t80:aJ C Z7 c80:=fun _ _ _ _ h=>afZ h
theorem t88:aJ C d88 Wi:=fun I hI gs out h=>
 aP.dG low mixed names (aK I hI) (specs:=[]) (fuel:=100000) (sp:=KP) (by kernel_rfl) rfl (ps:=[]) (b:=Ub) ay.nil (fun gs out h=>hI 88 gs out h) (by kernel_rfl) h
theorem t91:aJ C d91 c91:=fun I hI gs out h=>
 aG.aS low mixed names (aK I hI) (specs:=[(0,KR)]) (fuel:=100000) (c:=Xk) (pe:=[]) Tryz.func53 (by kernel_rfl) (ay.cons rfl (fun gs out h=>hI 92 gs out h) ay.nil) (by kernel_rfl) h
theorem t95:aJ C d95 Wq:=fun I hI gs out h=>
 aG.aS low mixed names (aK I hI) (specs:=[(0,KT)]) (fuel:=100000) (c:=Xv) (pe:=[]) Tryz.func78 (by kernel_rfl) (ay.cons rfl (fun gs out h=>hI 97 gs out h) ay.nil) (by kernel_rfl) h
theorem ao8:aJ C XJ Uu:=fun I hI gs out h=>
 aP.dG low mixed names (aK I hI) (specs:=[]) (fuel:=100000) (sp:=Jt) (by kernel_rfl) rfl (ps:=[]) (b:=SY) ay.nil (fun gs out h=>hI 100 gs out h) (by kernel_rfl) h
theorem t105:aJ C XP c105:=fun I hI gs out h=>
 aP.dG low mixed names (aK I hI) (specs:=[]) (fuel:=100000) (sp:=Jv) (by kernel_rfl) rfl (ps:=[]) (b:=S9) ay.nil (fun gs out h=>hI 105 gs out h) (by kernel_rfl) h
theorem ape:aJ C XT UC:=fun I hI gs out h=>
 aG.aS low mixed names (aK I hI) (specs:=[(0,Jy)]) (fuel:=100000) (c:=XA) (pe:=[]) Tryz.func91 (by kernel_rfl) (ay.cons rfl (fun gs out h=>hI 111 gs out h) ay.nil) (by kernel_rfl) h
theorem apn:aJ C X8 UL:=fun I hI gs out h=>
 aG.aS low mixed names (aK I hI) (specs:=[]) (fuel:=100000) (c:=agM) (pe:=[]) Tryz.func80 (by kernel_rfl) ay.nil (by kernel_rfl) h
theorem t127:aJ C Yf c127:=fun I hI gs out h=>
 aG.aS low mixed names (aK I hI) (specs:=[(0,JD)]) (fuel:=100000) (c:=Xc) (pe:=[]) Tryz.func160 (by kernel_rfl) (ay.cons rfl (fun gs out h=>hI 128 gs out h) ay.nil) (by kernel_rfl) h
theorem t159:aJ C YN c159:=fun I hI gs out h=>
 aP.dG low mixed names (aK I hI) (specs:=[]) (fuel:=100000) (sp:=JY) (by kernel_rfl) rfl (ps:=[]) (b:=TM) ay.nil (fun gs out h=>hI 159 gs out h) (by kernel_rfl) h
theorem t160:aJ C YP c160:=fun I hI gs out h=>
 aG.aS low mixed names (aK I hI) (specs:=[]) (fuel:=100000) (c:=agx) (pe:=[]) Tryz.func26 (by kernel_rfl) ay.nil (by kernel_rfl) h
theorem t162:aJ C YR c162:=fun I hI gs out h=>
 dn.aS low mixed names (aK I hI) (specs:=[]) (fuel:=100000) (c:=agA) (pe:=[]) (sp:=JZ) rfl Tryz.func44 (by kernel_rfl) ay.nil (by kernel_rfl) h
theorem t164:aJ C YT c164:=fun I hI gs out h=>
 aG.aS low mixed names (aK I hI) (specs:=[(0,J3)]) (fuel:=100000) (c:=Xr) (pe:=[]) Tryz.func74 (by kernel_rfl) (ay.cons rfl (fun gs out h=>hI 165 gs out h) ay.nil) (by kernel_rfl) h
end J
end Go.Proofs.YtlifdeocdbjalaaGreatDoor
