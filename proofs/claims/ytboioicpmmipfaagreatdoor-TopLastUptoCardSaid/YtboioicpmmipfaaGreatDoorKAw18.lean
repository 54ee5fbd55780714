/- The examples of the chapters: each one run. -/
import Derived.Test.YtboioicpmmipfaaGreatDoorKPl
namespace Go.Proofs.YtboioicpmmipfaaGreatDoor
open Go.aP
set_option maxRecDepth 100000
theorem aCh:iK (call Lr 1000000 206 [] F0)=true:=by kernel_rfl
theorem aCi:iK (call acX 1000000 127 [] F0)=true:=by kernel_rfl
theorem aCj:iK (call acY 1000000 67 [] F0)=true:=by kernel_rfl
theorem aCk:iK (call acZ 1000000 410 [] F0)=true:=by kernel_rfl
theorem aCl:iK (call ac0 1000000 405 [] F0)=true:=by kernel_rfl
