/- The examples of the chapters: each one run. -/
import Derived.Test.YtogfeeabnklegaaGreatDoorKPl
namespace Go.Proofs.YtogfeeabnklegaaGreatDoor
open Go.aP
set_option maxRecDepth 100000
theorem aBg:jg (call XP 1000000 360 [] J0)=true:=by kernel_rfl
theorem aBh:jg (call acD 1000000 358 [] J0)=true:=by kernel_rfl
theorem aBi:jg (call acE 1000000 356 [] J0)=true:=by kernel_rfl
theorem aBj:jg (call acF 1000000 354 [] J0)=true:=by kernel_rfl
theorem aBk:jg (call acG 1000000 351 [] J0)=true:=by kernel_rfl
theorem aBl:jg (call acH 1000000 345 [] J0)=true:=by kernel_rfl
theorem aBm:jg (call acI 1000000 343 [] J0)=true:=by kernel_rfl
theorem aBn:jg (call acJ 1000000 341 [] J0)=true:=by kernel_rfl
theorem aBo:jg (call acK 1000000 339 [] J0)=true:=by kernel_rfl
theorem aBp:jg (call acL 1000000 332 [] J0)=true:=by kernel_rfl
theorem aBq:jg (call acM 1000000 315 [] J0)=true:=by kernel_rfl
theorem aBr:jg (call acN 1000000 288 [] J0)=true:=by kernel_rfl
theorem aBs:jg (call acO 1000000 282 [] J0)=true:=by kernel_rfl
theorem aBt:jg (call acP 1000000 279 [] J0)=true:=by kernel_rfl
theorem aBu:jg (call acQ 1000000 277 [] J0)=true:=by kernel_rfl
theorem aBv:jg (call acR 1000000 275 [] J0)=true:=by kernel_rfl
theorem aBw:jg (call acS 1000000 271 [] J0)=true:=by kernel_rfl
