/- The examples of the chapters: each one run. -/
import Derived.Test.YtboioicpmmipfaaGreatDoorKPl
namespace Go.Proofs.YtboioicpmmipfaaGreatDoor
open Go.aP
set_option maxRecDepth 100000
theorem aCm:iK (call ac1 1000000 401 [] F0)=true:=by kernel_rfl
theorem aCn:iK (call ac2 1000000 396 [] F0)=true:=by kernel_rfl
theorem aCo:iK (call ac3 1000000 389 [] F0)=true:=by kernel_rfl
theorem aCp:iK (call ac4 1000000 331 [] F0)=true:=by kernel_rfl
theorem aCq:iK (call ac5 1000000 259 [] F0)=true:=by kernel_rfl
theorem aCr:iK (call ac6 1000000 174 [] F0)=true:=by kernel_rfl
theorem aCs:iK (call ac7 1000000 97 [] F0)=true:=by kernel_rfl
theorem aCt:iK (call ac8 1000000 38 [] F0)=true:=by kernel_rfl
theorem alQ:iK (call ac9 1000000 4 [] F0)=true:=by kernel_rfl
