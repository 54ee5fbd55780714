/- A function without arguments whose answer one run tells: its contract. -/
import Derived.Test.YtbcpbplkgknnmaaGreatDoorAbsJ
namespace Go.Abs
noncomputable section
set_option linter.unusedSectionVars false
set_option linter.unusedVariables false
variable {P : Program}
def namesL : List (List UInt8) := [[97, 108, 108, 111, 119, 101, 100],
  [98, 97, 115, 101],
  [99, 104, 111, 115, 101, 110],
  [99, 111, 100, 101],
  [99, 111, 115, 116],
  [100, 101, 97, 100, 108, 105, 110, 101],
  [100, 101, 115, 99, 114],
  [100, 105, 103, 101, 115, 116],
  [101, 112, 111, 99, 104],
  [102, 108, 97, 103, 115],
  [105, 100],
  [108, 97, 103],
  [109, 97, 120],
  [109, 105, 110],
  [110, 97, 109, 101],
  [110, 111, 116, 101],
  [112, 114, 105, 111, 114, 105, 116, 121],
  [114, 101, 103, 105, 111, 110],
  [114, 101, 109, 97, 105, 110, 105, 110, 103],
  [114, 101, 116, 114, 121],
  [116, 97, 98, 108, 101],
  [119, 97, 110, 116]]
end
end Go.Abs
