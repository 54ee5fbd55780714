/- Which pieces a great tree has. -/
import Derived.Test.YtbcpbplkgknnmaaGreatDoorKXP
import Derived.Test.YtbcpbplkgknnmaaGreatDoorAbsCut
namespace Go.Proofs.YtbcpbplkgknnmaaGreatDoor
open Go Go.Abs
set_option maxRecDepth 100000
set_option linter.unusedVariables false
namespace X
noncomputable def w1 (q : List Bool) : Bool := (PDef.treeOf d1).chkP (leafLoop Tryz.prog tabsL pl [] 100000 s1 (annot [] b1)) q (List.replicate s1.pre.np .arg) []
end X
end Go.Proofs.YtbcpbplkgknnmaaGreatDoor
