/- A row that is cut. -/
import Derived.Test.YtogfeeabnklegaaGreatDoorKBD
import Derived.Test.YtogfeeabnklegaaGreatDoorAbsCutb
set_option linter.all false
namespace Go.Proofs.YtogfeeabnklegaaGreatDoor
open Go Go.aP
set_option maxRecDepth 100000
namespace B
noncomputable def w78(q:List Bool):Bool:=yyG Tryz.prog dH pl rows 78 q rows[78]? Ds[78]?
