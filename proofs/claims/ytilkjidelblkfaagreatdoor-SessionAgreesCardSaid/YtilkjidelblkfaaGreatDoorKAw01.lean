/- The examples of the chapters: each one run. -/
import Derived.Test.YtilkjidelblkfaaGreatDoorKPl
namespace Go.Proofs.YtilkjidelblkfaaGreatDoor
open Go.aJ
set_option maxRecDepth 100000
theorem ap3:jG (call Ri 1000000 345 [] σ0)=true:=by kernel_rfl
theorem ap4:jG (call Xr 1000000 343 [] σ0)=true:=by kernel_rfl
theorem ap5:jG (call Xt 1000000 341 [] σ0)=true:=by kernel_rfl
theorem ap6:jG (call Xu 1000000 339 [] σ0)=true:=by kernel_rfl
theorem ap7:jG (call Xv 1000000 336 [] σ0)=true:=by kernel_rfl
theorem ap8:jG (call Xw 1000000 330 [] σ0)=true:=by kernel_rfl
theorem ap9:jG (call Xx 1000000 328 [] σ0)=true:=by kernel_rfl
theorem aqa:jG (call Xy 1000000 326 [] σ0)=true:=by kernel_rfl
theorem aqb:jG (call Xz 1000000 324 [] σ0)=true:=by kernel_rfl
theorem aqc:jG (call XA 1000000 317 [] σ0)=true:=by kernel_rfl
theorem aqd:jG (call XB 1000000 300 [] σ0)=true:=by kernel_rfl
theorem aqe:jG (call XC 1000000 273 [] σ0)=true:=by kernel_rfl
theorem aqf:jG (call XD 1000000 267 [] σ0)=true:=by kernel_rfl
theorem aqg:jG (call XE 1000000 264 [] σ0)=true:=by kernel_rfl
theorem aqh:jG (call XF 1000000 262 [] σ0)=true:=by kernel_rfl
theorem aqi:jG (call XG 1000000 260 [] σ0)=true:=by kernel_rfl
theorem aqj:jG (call XH 1000000 256 [] σ0)=true:=by kernel_rfl
end Go.Proofs.YtilkjidelblkfaaGreatDoor
