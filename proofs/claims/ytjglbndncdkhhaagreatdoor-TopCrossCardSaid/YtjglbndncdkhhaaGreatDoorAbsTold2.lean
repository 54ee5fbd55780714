/- Library functions that are told: how strings compare, sums with a carry. -/
import Derived.Test.YtjglbndncdkhhaaGreatDoorAbsTold
namespace Go.aN
set_option linter.unusedSimpArgs false
open Go.RowKit
noncomputable section
set_option linter.unusedSectionVars false
set_option linter.unusedVariables false
variable {P:Program}
def aqX:List GV->Option (List GV)
 | [.s a,.s b]=>some [.i .i64 (ZT a b)]
 | _=>none
end
end Go.aN
