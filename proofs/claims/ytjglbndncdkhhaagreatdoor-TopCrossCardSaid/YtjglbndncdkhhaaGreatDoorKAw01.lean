/- The examples of the chapters 1, 2, 3, 4, 5, 6, 7, 8, 9, 10: each one run. -/
import Derived.Test.YtjglbndncdkhhaaGreatDoorKPl
namespace Go.Proofs.YtjglbndncdkhhaaGreatDoor
open Go.aN
set_option maxRecDepth 100000
theorem ano:kS (call Qe 1000000 267 [] σ0)=true:=by kernel_rfl
theorem anp:kS (call Wv 1000000 265 [] σ0)=true:=by kernel_rfl
theorem anq:kS (call Wx 1000000 262 [] σ0)=true:=by kernel_rfl
theorem anr:kS (call Wy 1000000 257 [] σ0)=true:=by kernel_rfl
theorem ant:kS (call WA 1000000 247 [] σ0)=true:=by kernel_rfl
theorem anu:kS (call WB 1000000 241 [] σ0)=true:=by kernel_rfl
theorem anv:kS (call WC 1000000 239 [] σ0)=true:=by kernel_rfl
theorem anw:kS (call WE 1000000 237 [] σ0)=true:=by kernel_rfl
theorem anx:kS (call WG 1000000 235 [] σ0)=true:=by kernel_rfl
theorem anz:kS (call WH 1000000 228 [] σ0)=true:=by kernel_rfl
end Go.Proofs.YtjglbndncdkhhaaGreatDoor
