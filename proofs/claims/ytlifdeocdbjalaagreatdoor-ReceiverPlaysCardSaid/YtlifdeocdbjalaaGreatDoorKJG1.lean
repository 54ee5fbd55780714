/- Definitions keep their contracts: the ways of the bodies, run by the kernel. -/
import Derived.Test.YtlifdeocdbjalaaGreatDoorKJC0
import Derived.Test.YtlifdeocdbjalaaGreatDoorKJC1
import Derived.Test.YtlifdeocdbjalaaGreatDoorKJC2
import Derived.Test.YtlifdeocdbjalaaGreatDoorKJC3
namespace Go.Proofs.YtlifdeocdbjalaaGreatDoor
open Go Go.aN
set_option maxRecDepth 100000
set_option linter.unusedVariables false
set_option linter.unusedSimpArgs false
namespace J
theorem t0:aJ C d0 c0:=fun I hI gs out h=>
 aG.aS low mixed names (aK I hI) (specs:=[(0,s1)]) (fuel:=100000) (c:=NM) (pe:=[]) Tryz.func4 (by kernel_rfl) (ay.cons rfl (fun gs out h=>hI 1 gs out h) ay.nil) (by kernel_rfl) h
theorem t2:aJ C d2 c2:=fun I hI gs out h=>
 aG.aS low mixed names (aK I hI) (specs:=[]) (fuel:=100000) (c:=agr) (pe:=[]) Tryz.func18 (by kernel_rfl) ay.nil (by kernel_rfl) h
theorem t3:aJ C d3 c3:=fun I hI gs out h=>
 aG.aS low mixed names (aK I hI) (specs:=[(0,s4)]) (fuel:=100000) (c:=Xg) (pe:=[]) Tryz.func46 (by kernel_rfl) (ay.cons rfl (fun gs out h=>hI 4 gs out h) ay.nil) (by kernel_rfl) h
theorem t4:aJ C d4 c4:=fun I hI gs out h=>
 aP.dG low mixed names (aK I hI) (specs:=[]) (fuel:=100000) (sp:=s4) (by kernel_rfl) rfl (ps:=[]) (b:=b4) ay.nil (fun gs out h=>hI 4 gs out h) (by kernel_rfl) h
theorem t6:aJ C d6 c6:=fun I hI gs out h=>
 aP.dG low mixed names (aK I hI) (specs:=[]) (fuel:=100000) (sp:=s6) (by kernel_rfl) rfl (ps:=[]) (b:=b6) ay.nil (fun gs out h=>hI 6 gs out h) (by kernel_rfl) h
theorem t8:aJ C d8 c8:=fun I hI gs out h=>
 aG.aS low mixed names (aK I hI) (specs:=[(0,s11)]) (fuel:=100000) (c:=WW) (pe:=[]) Tryz.func103 (by kernel_rfl) (ay.cons rfl (fun gs out h=>hI 11 gs out h) ay.nil) (by kernel_rfl) h
theorem t12:aJ C d12 c12:=fun I hI gs out h=>
 aP.dG low mixed names (aK I hI) (specs:=[]) (fuel:=100000) (sp:=s12) (by kernel_rfl) rfl (ps:=[]) (b:=b12) ay.nil (fun gs out h=>hI 12 gs out h) (by kernel_rfl) h
theorem t22:aJ C Y4 Vk:=fun I hI gs out h=>
 aG.aS low mixed names (aK I hI) (specs:=[]) (fuel:=100000) (c:=agG) (pe:=[]) Tryz.func58 (by kernel_rfl) ay.nil (by kernel_rfl) h
theorem t23:aJ C Y5 c23:=fun I hI gs out h=>
 aG.aS low mixed names (aK I hI) (specs:=[(0,J6)]) (fuel:=100000) (c:=Xn) (pe:=[]) Tryz.func59 (by kernel_rfl) (ay.cons rfl (fun gs out h=>hI 25 gs out h) ay.nil) (by kernel_rfl) h
theorem t25:aJ C Y7 c25:=fun I hI gs out h=>
 aP.dG low mixed names (aK I hI) (specs:=[]) (fuel:=100000) (sp:=J6) (by kernel_rfl) rfl (ps:=[]) (b:=b25) ay.nil (fun gs out h=>hI 25 gs out h) (by kernel_rfl) h
theorem t29:aJ C Zb c29:=fun I hI gs out h=>
 aG.aS low mixed names (aK I hI) (specs:=[]) (fuel:=100000) (c:=agh) (pe:=[]) Tryz.func126 (by kernel_rfl) ay.nil (by kernel_rfl) h
theorem t33:aJ C Zf Vp:=fun I hI gs out h=>
 aP.dG low mixed names (aK I hI) (specs:=[]) (fuel:=100000) (sp:=J7) (by kernel_rfl) rfl (ps:=[]) (b:=TQ) ay.nil (fun gs out h=>hI 33 gs out h) (by kernel_rfl) h
theorem t41:aJ C Zl Vu:=fun I hI gs out h=>
 aG.aS low mixed names (aK I hI) (specs:=[]) (fuel:=100000) (c:=agl) (pe:=[]) Tryz.func132 (by kernel_rfl) ay.nil (by kernel_rfl) h
theorem t43:aJ C Zn Vx:=fun I hI gs out h=>
 dn.aS low mixed names (aK I hI) (specs:=[]) (fuel:=100000) (c:=jA) (pe:=[]) (sp:=s43) rfl Tryz.func63 (by kernel_rfl) ay.nil (by kernel_rfl) h
theorem t53:aJ C Zy c53:=fun I hI gs out h=>
 dn.aS low mixed names (aK I hI) (specs:=[]) (fuel:=100000) (c:=jA) (pe:=[]) (sp:=s53) rfl Tryz.func63 (by kernel_rfl) ay.nil (by kernel_rfl) h
theorem t57:aJ C ZC VI:=fun I hI gs out h=>
 dn.aS low mixed names (aK I hI) (specs:=[]) (fuel:=100000) (c:=jA) (pe:=[]) (sp:=Ky) rfl Tryz.func63 (by kernel_rfl) ay.nil (by kernel_rfl) h
theorem t61:aJ C ZH VL:=fun I hI gs out h=>
 dn.aS low mixed names (aK I hI) (specs:=[]) (fuel:=100000) (c:=jA) (pe:=[]) (sp:=KD) rfl Tryz.func63 (by kernel_rfl) ay.nil (by kernel_rfl) h
theorem t65:aJ C ZL VP:=fun I hI gs out h=>
 dn.aS low mixed names (aK I hI) (specs:=[]) (fuel:=100000) (c:=jA) (pe:=[]) (sp:=KH) rfl Tryz.func63 (by kernel_rfl) ay.nil (by kernel_rfl) h
theorem t71:aJ C ZR VX:=fun I hI gs out h=>
 aP.dG low mixed names (aK I hI) (specs:=[]) (fuel:=100000) (sp:=KL) (by kernel_rfl) rfl (ps:=[]) (b:=TV) ay.nil (fun gs out h=>hI 71 gs out h) (by kernel_rfl) h
theorem t74:aJ C ZV VZ:=fun I hI gs out h=>
 aG.aS low mixed names (aK I hI) (specs:=[]) (fuel:=100000) (c:=agz) (pe:=[]) Tryz.func41 (by kernel_rfl) ay.nil (by kernel_rfl) h
theorem t77:aJ C ZY V3:=fun I hI gs out h=>
 aG.aS low mixed names (aK I hI) (specs:=[(0,s78)]) (fuel:=100000) (c:=Xq) (pe:=[]) Tryz.func73 (by kernel_rfl) (ay.cons rfl (fun gs out h=>hI 78 gs out h) ay.nil) (by kernel_rfl) h
theorem t81:aJ C Z8 V6:=fun _ _ _ _ h=>aeX h
theorem t82:aJ C Z9 V7:=fun I hI gs out h=>
 aG.aS low mixed names (aK I hI) (specs:=[]) (fuel:=100000) (c:=agt) (pe:=[]) Tryz.func21 (by kernel_rfl) ay.nil (by kernel_rfl) h
theorem t84:aJ C d84 V9:=fun I hI gs out h=>
 aG.aS low mixed names (aK I hI) (specs:=[(0,KO)]) (fuel:=100000) (c:=Xu) (pe:=[]) Tryz.func77 (by kernel_rfl) (ay.cons rfl (fun gs out h=>hI 85 gs out h) ay.nil) (by kernel_rfl) h
theorem t86:aJ C d86 Wh:=fun I hI gs out h=>
 aG.aS low mixed names (aK I hI) (specs:=[]) (fuel:=100000) (c:=agv) (pe:=[]) Tryz.func23 (by kernel_rfl) ay.nil (by kernel_rfl) h
theorem t87:aJ C d87 c87:=fun I hI gs out h=>
 aG.aS low mixed names (aK I hI) (specs:=[(0,KP)]) (fuel:=100000) (c:=Xi) (pe:=[]) Tryz.func51 (by kernel_rfl) (ay.cons rfl (fun gs out h=>hI 88 gs out h) ay.nil) (by kernel_rfl) h
theorem t94:aJ C d94 Wp:=fun I hI gs out h=>
 aG.aS low mixed names (aK I hI) (specs:=[(0,KU),(1,JG),(2,JH)]) (fuel:=100000) (c:=Hw) (pe:=[]) Tryz.func49 (by kernel_rfl) (ay.cons rfl (fun gs out h=>hI 99 gs out h) (ay.cons rfl (fun gs out h=>hI 135 gs out h) (ay.cons rfl (fun gs out h=>hI 138 gs out h) ay.nil))) (by kernel_rfl) h
theorem apa:aJ C XL Ux:=fun I hI gs out h=>
 aG.aS low mixed names (aK I hI) (specs:=[]) (fuel:=100000) (c:=agF) (pe:=[]) Tryz.func55 (by kernel_rfl) ay.nil (by kernel_rfl) h
theorem t109:aJ C XU c109:=fun I hI gs out h=>
 aG.aS low mixed names (aK I hI) (specs:=[(0,Jw)]) (fuel:=100000) (c:=WZ) (pe:=[]) Tryz.func119 (by kernel_rfl) (ay.cons rfl (fun gs out h=>hI 110 gs out h) ay.nil) (by kernel_rfl) h
theorem aph:aJ C XY UF:=fun I hI gs out h=>
 aG.aS low mixed names (aK I hI) (specs:=[]) (fuel:=100000) (c:=aga) (pe:=[]) Tryz.func120 (by kernel_rfl) ay.nil (by kernel_rfl) h
theorem apk:aJ C X0 UH:=fun I hI gs out h=>
 aG.aS low mixed names (aK I hI) (specs:=[(0,Jz)]) (fuel:=100000) (c:=Xx) (pe:=[]) Tryz.func83 (by kernel_rfl) (ay.cons rfl (fun gs out h=>hI 115 gs out h) ay.nil) (by kernel_rfl) h
theorem t116:aJ C X4 c116:=fun I hI gs out h=>
 aG.aS low mixed names (aK I hI) (specs:=[]) (fuel:=100000) (c:=af7) (pe:=[]) Tryz.func115 (by kernel_rfl) ay.nil (by kernel_rfl) h
theorem t117:aJ C X5 c117:=fun I hI gs out h=>
 aG.aS low mixed names (aK I hI) (specs:=[(0,JA)]) (fuel:=100000) (c:=Xw) (pe:=[]) Tryz.func82 (by kernel_rfl) (ay.cons rfl (fun gs out h=>hI 118 gs out h) ay.nil) (by kernel_rfl) h
theorem t119:aJ C X7 c119:=fun I hI gs out h=>
 aG.aS low mixed names (aK I hI) (specs:=[]) (fuel:=100000) (c:=af5) (pe:=[]) Tryz.func113 (by kernel_rfl) ay.nil (by kernel_rfl) h
theorem apo:aJ C X9 UM:=fun I hI gs out h=>
 aG.aS low mixed names (aK I hI) (specs:=[(0,JB)]) (fuel:=100000) (c:=WX) (pe:=[]) Tryz.func111 (by kernel_rfl) (ay.cons rfl (fun gs out h=>hI 122 gs out h) ay.nil) (by kernel_rfl) h
theorem t124:aJ C Yc c124:=fun I hI gs out h=>
 aP.dG low mixed names (aK I hI) (specs:=[]) (fuel:=100000) (sp:=JC) (by kernel_rfl) rfl (ps:=[]) (b:=Tn) ay.nil (fun gs out h=>hI 124 gs out h) (by kernel_rfl) h
theorem t130:aJ C Yi c130:=fun I hI gs out h=>
 aG.aS low mixed names (aK I hI) (specs:=[(0,JE)]) (fuel:=100000) (c:=W9) (pe:=[]) Tryz.func121 (by kernel_rfl) (ay.cons rfl (fun gs out h=>hI 131 gs out h) ay.nil) (by kernel_rfl) h
theorem t131:aJ C Yj c131:=fun I hI gs out h=>
 aP.dG low mixed names (aK I hI) (specs:=[]) (fuel:=100000) (sp:=JE) (by kernel_rfl) rfl (ps:=[]) (b:=Tt) ay.nil (fun gs out h=>hI 131 gs out h) (by kernel_rfl) h
theorem aqU:(aA.yh Hz).chk (rU Tryz.prog aF pl [] 100000 xY (iE [] GZ)) (List.replicate xY.pre.np .arg) []=true:=(Tree.AB _ _ _).symm.trans (show qF []=true from (Tree.bT _ [] _ _ (Tree.bT _ [true] _ _ aqT (Tree.bT _ [true,false] _ _ aqS (Tree.bT _ [true,false,false] _ _ (Tree.bT _ [true,false,false,true] _ _ aqR (Tree.bT _ [true,false,false,true,false] _ _ aqQ (Tree.bT _ [true,false,false,true,false,false] _ _ aqP (Tree.bT _ [true,false,false,true,false,false,false] _ _ aqO aqN)))) (Tree.bT _ [true,false,false,false] _ _ aqM (Tree.bT _ [true,false,false,false,false] _ _ aqL (Tree.bT _ [true,false,false,false,false,false] _ _ aqK aqJ)))))) aqI))
theorem apB:aJ C Hz U3:=fun I hI gs out h=>
 aP.dG low mixed names (aK I hI) (specs:=[]) (fuel:=100000) (sp:=xY) (by kernel_rfl) rfl (ps:=[]) (b:=GZ) ay.nil (fun gs out h=>hI 137 gs out h) aqU h
theorem t141:aJ C Yu c141:=fun I hI gs out h=>
 aG.aS low mixed names (aK I hI) (specs:=[]) (fuel:=100000) (c:=agO) (pe:=[]) Tryz.func86 (by kernel_rfl) ay.nil (by kernel_rfl) h
theorem apD:aJ C Yv U5:=fun I hI gs out h=>
 aG.aS low mixed names (aK I hI) (specs:=[(0,JJ),(1,JL)]) (fuel:=100000) (c:=NP) (pe:=[]) Tryz.func87 (by kernel_rfl) (ay.cons rfl (fun gs out h=>hI 143 gs out h) (ay.cons rfl (fun gs out h=>hI 146 gs out h) ay.nil)) (by kernel_rfl) h
theorem apH:aJ C YE U9:=fun I hI gs out h=>
 aP.dG low mixed names (aK I hI) (specs:=[]) (fuel:=100000) (sp:=JQ) (by kernel_rfl) rfl (ps:=[]) (b:=TI) ay.nil (fun gs out h=>hI 150 gs out h) (by kernel_rfl) h
theorem apI:aJ C YF Va:=fun I hI gs out h=>
 dn.aS low mixed names (aK I hI) (specs:=[]) (fuel:=100000) (c:=agn) (pe:=[]) (sp:=JR) rfl Tryz.func14 (by kernel_rfl) ay.nil (by kernel_rfl) h
theorem apM:aJ C YQ Vf:=fun I hI gs out h=>
 aG.aS low mixed names (aK I hI) (specs:=[]) (fuel:=100000) (c:=agw) (pe:=[]) Tryz.func25 (by kernel_rfl) ay.nil (by kernel_rfl) h
theorem apN:aJ C YS Vg:=fun I hI gs out h=>
 aG.aS low mixed names (aK I hI) (specs:=[]) (fuel:=100000) (c:=agB) (pe:=[]) Tryz.func45 (by kernel_rfl) ay.nil (by kernel_rfl) h
theorem apO:aJ C YU Vh:=fun I hI gs out h=>
 aP.dG low mixed names (aK I hI) (specs:=[]) (fuel:=100000) (sp:=J3) (by kernel_rfl) rfl (ps:=[]) (b:=TN) ay.nil (fun gs out h=>hI 165 gs out h) (by kernel_rfl) h
theorem t168:aJ C YX c168:=fun I hI gs out h=>
 aP.dG low mixed names (aK I hI) (specs:=[]) (fuel:=100000) (sp:=J4) (by kernel_rfl) rfl (ps:=[]) (b:=TP) ay.nil (fun gs out h=>hI 168 gs out h) (by kernel_rfl) h
end J
end Go.Proofs.YtlifdeocdbjalaaGreatDoor
