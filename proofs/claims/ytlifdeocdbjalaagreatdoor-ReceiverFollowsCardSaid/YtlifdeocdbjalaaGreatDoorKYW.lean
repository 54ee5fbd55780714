/- Which pieces a great tree has. -/
import Derived.Test.YtlifdeocdbjalaaGreatDoorKYP
import Derived.Test.YtlifdeocdbjalaaGreatDoorAbsCut
namespace Go.Proofs.YtlifdeocdbjalaaGreatDoor
open Go Go.Abs
set_option maxRecDepth 100000
set_option linter.unusedVariables false
namespace Y
noncomputable def w1 (q : List Bool) : Bool := (PDef.treeOf d1).chkP (leafLoop Tryz.prog tabsL pl [] 100000 s1 (annot [] b1)) q (List.replicate s1.pre.np .arg) []
noncomputable def w71 (q : List Bool) : Bool := (PDef.treeOf d71).chkP (leafLoop Tryz.prog tabsL pl [] 100000 s71 (annot [] b71)) q (List.replicate s71.pre.np .arg) []
noncomputable def w72 (q : List Bool) : Bool := (PDef.treeOf d72).chkP (leafLoop Tryz.prog tabsL pl [] 100000 s72 (annot [] b72)) q (List.replicate s72.pre.np .arg) []
end Y
end Go.Proofs.YtlifdeocdbjalaaGreatDoor
