/- Which pieces a great tree has. -/
import Derived.Test.YtlifdeocdbjalaaGreatDoorKJP
import Derived.Test.YtlifdeocdbjalaaGreatDoorAbsCut
namespace Go.Proofs.YtlifdeocdbjalaaGreatDoor
open Go Go.aN
set_option maxRecDepth 100000
set_option linter.unusedVariables false
namespace J
noncomputable def w1 (q:List Bool):Bool:=(aA.yh d1).jy (rU Tryz.prog aF pl [] 100000 s1 (iE [] b1)) q (List.replicate s1.pre.np .arg) []
noncomputable def qF (q:List Bool):Bool:=(aA.yh Hz).jy (rU Tryz.prog aF pl [] 100000 xY (iE [] GZ)) q (List.replicate xY.pre.np .arg) []
noncomputable def nO (q:List Bool):Bool:=(aA.yh HY).jy (rU Tryz.prog aF pl [] 100000 xZ (iE [] G5)) q (List.replicate xZ.pre.np .arg) []
noncomputable def yw (q:List Bool):Bool:=(aA.yh H6).jy (rU Tryz.prog aF pl [] 100000 s36 (iE [] G6)) q (List.replicate s36.pre.np .arg) []
end J
end Go.Proofs.YtlifdeocdbjalaaGreatDoor
