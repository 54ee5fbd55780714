/- The examples of the chapters: each one run. -/
import Derived.Test.YtboioicpmmipfaaGreatDoorKPl
namespace Go.Proofs.YtboioicpmmipfaaGreatDoor
open Go.aP
set_option maxRecDepth 100000
theorem aB0:iK (call XQ 1000000 453 [] F0)=true:=by kernel_rfl
theorem aB1:iK (call acH 1000000 451 [] F0)=true:=by kernel_rfl
theorem aB2:iK (call acI 1000000 449 [] F0)=true:=by kernel_rfl
theorem aB3:iK (call acJ 1000000 447 [] F0)=true:=by kernel_rfl
theorem aB4:iK (call acK 1000000 444 [] F0)=true:=by kernel_rfl
theorem aB5:iK (call acL 1000000 438 [] F0)=true:=by kernel_rfl
theorem aB6:iK (call acM 1000000 436 [] F0)=true:=by kernel_rfl
theorem aB7:iK (call acN 1000000 434 [] F0)=true:=by kernel_rfl
theorem aB8:iK (call acO 1000000 432 [] F0)=true:=by kernel_rfl
theorem aB9:iK (call acP 1000000 425 [] F0)=true:=by kernel_rfl
theorem aCa:iK (call acQ 1000000 414 [] F0)=true:=by kernel_rfl
theorem aCb:iK (call acR 1000000 406 [] F0)=true:=by kernel_rfl
theorem aCc:iK (call acS 1000000 402 [] F0)=true:=by kernel_rfl
theorem aCd:iK (call acT 1000000 397 [] F0)=true:=by kernel_rfl
theorem aCe:iK (call acU 1000000 390 [] F0)=true:=by kernel_rfl
theorem aCf:iK (call acV 1000000 338 [] F0)=true:=by kernel_rfl
theorem aCg:iK (call acW 1000000 278 [] F0)=true:=by kernel_rfl
