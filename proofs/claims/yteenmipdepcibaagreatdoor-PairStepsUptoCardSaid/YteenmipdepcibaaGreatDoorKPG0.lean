/- The rows of definitions are as they say: the ways of the bodies, run by the kernel. -/
import Derived.Test.YteenmipdepcibaaGreatDoorKPD
set_option linter.unusedVariables false
set_option linter.unusedSimpArgs false
namespace Go.Proofs.YteenmipdepcibaaGreatDoor
open Go Go.aN
set_option maxRecDepth 100000
namespace P
theorem g58:eY Tryz.prog bU pl rows Ds 58 5=true:=by kernel_rfl
theorem g75:eY Tryz.prog bU pl rows Ds 75 3=true:=by kernel_rfl
theorem aqA:eY Tryz.prog bU pl rows Ds 131 1=true:=by kernel_rfl
theorem aqD:eY Tryz.prog bU pl rows Ds 145 19=true:=by kernel_rfl
theorem aqG:eY Tryz.prog bU pl rows Ds 172 5=true:=by kernel_rfl
theorem aqL:eY Tryz.prog bU pl rows Ds 193 3=true:=by kernel_rfl
theorem aqN:eY Tryz.prog bU pl rows Ds 197 5=true:=by kernel_rfl
theorem aqQ:eY Tryz.prog bU pl rows Ds 210 8=true:=by kernel_rfl
theorem aqS:eY Tryz.prog bU pl rows Ds 220 1=true:=by kernel_rfl
theorem aqZ:eY Tryz.prog bU pl rows Ds 244 3=true:=by kernel_rfl
theorem g5:eY Tryz.prog bU pl rows Ds 5 7=true:=by kernel_rfl
theorem g12:eY Tryz.prog bU pl rows Ds 12 9=true:=by kernel_rfl
theorem g35:eY Tryz.prog bU pl rows Ds 35 11=true:=by kernel_rfl
theorem g63:eY Tryz.prog bU pl rows Ds 63 1=true:=by kernel_rfl
theorem g64:eY Tryz.prog bU pl rows Ds 64 1=true:=by kernel_rfl
theorem aqx:eY Tryz.prog bU pl rows Ds 110 11=true:=by kernel_rfl
theorem aqB:eY Tryz.prog bU pl rows Ds 132 12=true:=by kernel_rfl
theorem aqI:eY Tryz.prog bU pl rows Ds 178 4=true:=by kernel_rfl
theorem aqM:eY Tryz.prog bU pl rows Ds 196 1=true:=by kernel_rfl
theorem aqO:eY Tryz.prog bU pl rows Ds 202 4=true:=by kernel_rfl
theorem aqY:eY Tryz.prog bU pl rows Ds 241 3=true:=by kernel_rfl
theorem aq0:eY Tryz.prog bU pl rows Ds 247 4=true:=by kernel_rfl
theorem aq2:eY Tryz.prog bU pl rows Ds 253 1=true:=by kernel_rfl
theorem aq3:eY Tryz.prog bU pl rows Ds 254 1=true:=by kernel_rfl
