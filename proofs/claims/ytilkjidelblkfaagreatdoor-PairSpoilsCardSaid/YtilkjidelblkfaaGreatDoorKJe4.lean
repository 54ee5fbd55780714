/- What the trees compute: plain laws. -/
import Derived.Test.YtilkjidelblkfaaGreatDoorKJe1
namespace Go.Proofs.YtilkjidelblkfaaGreatDoor
open Go Go.Abs
set_option linter.unusedSimpArgs false
set_option linter.unusedVariables false
set_option maxRecDepth 100000
namespace J
theorem chk23 (p : List UInt8) (v : Int) : TT.runL (crOv 8 [.i .u32 v]) (fun k => if Nat.beq k 135 = true then [(28, .b false)] else []) 3 135 [.s p, .s [125, 101, 66, 4]] = some ([.b false], [.call 8 [.l [.s p]] [.i .u32 v], .node (.bin .eql 0 1) [.i .u32 (71460221 : Nat), .i .u32 v] (.b false)]) := by kernel_rfl
theorem run230 (b0 b1 t y : Int) (c : UInt8) : TT.runL ovS (tsS 0 c ([81, 70, 12] ++ (helP 2 3).set 0 c ++ [125, 101, 66, 4])) 60 2 (argS 2 3 b0 b1 t y) = some ([.b true], lgS 2 3 b0 b1 t y 0 1 c ([81, 70, 12] ++ (helP 2 3).set 0 c ++ [125, 101, 66, 4]) ((helP 2 3).set 0 c) [125, 101, 66, 4]) := by kernel_rfl
theorem run231 (b0 b1 t y : Int) (c : UInt8) : TT.runL ovS (tsS 1 c ([81, 70, 12] ++ (helP 2 3).set 1 c ++ [125, 101, 66, 4])) 60 2 (argS 2 3 b0 b1 t y) = some ([.b true], lgS 2 3 b0 b1 t y 1 4 c ([81, 70, 12] ++ (helP 2 3).set 1 c ++ [125, 101, 66, 4]) ((helP 2 3).set 1 c) [125, 101, 66, 4]) := by kernel_rfl
theorem run232 (b0 b1 t y : Int) (c : UInt8) : TT.runL ovS (tsS 2 c ([81, 70, 12] ++ (helP 2 3).set 2 c ++ [125, 101, 66, 4])) 60 2 (argS 2 3 b0 b1 t y) = some ([.b true], lgS 2 3 b0 b1 t y 2 2 c ([81, 70, 12] ++ (helP 2 3).set 2 c ++ [125, 101, 66, 4]) ((helP 2 3).set 2 c) [125, 101, 66, 4]) := by kernel_rfl
theorem run233 (b0 b1 t y : Int) (c : UInt8) : TT.runL ovS (tsS 3 c ([81, 70, 12] ++ (helP 2 3).set 3 c ++ [125, 101, 66, 4])) 60 2 (argS 2 3 b0 b1 t y) = some ([.b true], lgS 2 3 b0 b1 t y 3 8 c ([81, 70, 12] ++ (helP 2 3).set 3 c ++ [125, 101, 66, 4]) ((helP 2 3).set 3 c) [125, 101, 66, 4]) := by kernel_rfl
theorem run234 (b0 b1 t y : Int) (c : UInt8) : TT.runL ovS (tsS 4 c ([81, 70, 12] ++ (helP 2 3).set 4 c ++ [125, 101, 66, 4])) 60 2 (argS 2 3 b0 b1 t y) = some ([.b true], lgS 2 3 b0 b1 t y 4 3 c ([81, 70, 12] ++ (helP 2 3).set 4 c ++ [125, 101, 66, 4]) ((helP 2 3).set 4 c) [125, 101, 66, 4]) := by kernel_rfl
theorem run235 (b0 b1 t y : Int) (c : UInt8) : TT.runL ovS (tsS 5 c ([81, 70, 12] ++ (helP 2 3).set 5 c ++ [125, 101, 66, 4])) 60 2 (argS 2 3 b0 b1 t y) = some ([.b true], lgS 2 3 b0 b1 t y 5 13 c ([81, 70, 12] ++ (helP 2 3).set 5 c ++ [125, 101, 66, 4]) ((helP 2 3).set 5 c) [125, 101, 66, 4]) := by kernel_rfl
theorem run236 (b0 b1 t y : Int) (c : UInt8) : TT.runL ovS (tsS 6 c ([81, 70, 12] ++ (helP 2 3).set 6 c ++ [125, 101, 66, 4])) 60 2 (argS 2 3 b0 b1 t y) = some ([.b true], lgS 2 3 b0 b1 t y 6 5 c ([81, 70, 12] ++ (helP 2 3).set 6 c ++ [125, 101, 66, 4]) ((helP 2 3).set 6 c) [125, 101, 66, 4]) := by kernel_rfl
theorem run237 (b0 b1 t y : Int) (c : UInt8) : TT.runL ovS (tsS 7 c ([81, 70, 12] ++ (helP 2 3).set 7 c ++ [125, 101, 66, 4])) 60 2 (argS 2 3 b0 b1 t y) = some ([.b true], lgS 2 3 b0 b1 t y 7 102 c ([81, 70, 12] ++ (helP 2 3).set 7 c ++ [125, 101, 66, 4]) ((helP 2 3).set 7 c) [125, 101, 66, 4]) := by kernel_rfl
theorem sp23 (b0 b1 t y : Int) (hy : y ≠ 0) (hy0 : 0 ≤ y) (hy1 : y < 256) (ht : 0 ≤ t) (hb1 : 1 ≤ b0) (hb2 : b0 ≤ b1) (hb3 : b1 ≤ 3) : TT.lim 2 (argS 2 3 b0 b1 t y) = some [.b true] := by
  have hm : t.tmod 8 = t % 8 := Int.tmod_eq_emod_of_nonneg ht
  have e : t % 8 = 0 ∨ t % 8 = 1 ∨ t % 8 = 2 ∨ t % 8 = 3 ∨ t % 8 = 4 ∨ t % 8 = 5 ∨ t % 8 = 6 ∨ t % 8 = 7 := by omega
  rw [← hm] at e
  rcases e with e | e | e | e | e | e | e | e
  · exact spoils_of 2 3 2 3 b0 b1 t y 0 1 125 101 66 4 71460221 _ (run230 b0 b1 t y) (fun c => rfl) hy hy0 hy1 e hb1 hb2 hb3 (by decide) rfl (by kernel_rfl) chk23
  · exact spoils_of 2 3 2 3 b0 b1 t y 1 4 125 101 66 4 71460221 _ (run231 b0 b1 t y) (fun c => rfl) hy hy0 hy1 e hb1 hb2 hb3 (by decide) rfl (by kernel_rfl) chk23
  · exact spoils_of 2 3 2 3 b0 b1 t y 2 2 125 101 66 4 71460221 _ (run232 b0 b1 t y) (fun c => rfl) hy hy0 hy1 e hb1 hb2 hb3 (by decide) rfl (by kernel_rfl) chk23
  · exact spoils_of 2 3 2 3 b0 b1 t y 3 8 125 101 66 4 71460221 _ (run233 b0 b1 t y) (fun c => rfl) hy hy0 hy1 e hb1 hb2 hb3 (by decide) rfl (by kernel_rfl) chk23
  · exact spoils_of 2 3 2 3 b0 b1 t y 4 3 125 101 66 4 71460221 _ (run234 b0 b1 t y) (fun c => rfl) hy hy0 hy1 e hb1 hb2 hb3 (by decide) rfl (by kernel_rfl) chk23
  · exact spoils_of 2 3 2 3 b0 b1 t y 5 13 125 101 66 4 71460221 _ (run235 b0 b1 t y) (fun c => rfl) hy hy0 hy1 e hb1 hb2 hb3 (by decide) rfl (by kernel_rfl) chk23
  · exact spoils_of 2 3 2 3 b0 b1 t y 6 5 125 101 66 4 71460221 _ (run236 b0 b1 t y) (fun c => rfl) hy hy0 hy1 e hb1 hb2 hb3 (by decide) rfl (by kernel_rfl) chk23
  · exact spoils_of 2 3 2 3 b0 b1 t y 7 102 125 101 66 4 71460221 _ (run237 b0 b1 t y) (fun c => rfl) hy hy0 hy1 e hb1 hb2 hb3 (by decide) rfl (by kernel_rfl) chk23
theorem chk33 (p : List UInt8) (v : Int) : TT.runL (crOv 8 [.i .u32 v]) (fun k => if Nat.beq k 135 = true then [(28, .b false)] else []) 3 135 [.s p, .s [67, 14, 128, 235]] = some ([.b false], [.call 8 [.l [.s p]] [.i .u32 v], .node (.bin .eql 0 1) [.i .u32 (3951038019 : Nat), .i .u32 v] (.b false)]) := by kernel_rfl
theorem run330 (b0 b1 t y : Int) (c : UInt8) : TT.runL ovS (tsS 0 c ([81, 70, 12] ++ (helP 3 3).set 0 c ++ [67, 14, 128, 235])) 60 2 (argS 3 3 b0 b1 t y) = some ([.b true], lgS 3 3 b0 b1 t y 0 1 c ([81, 70, 12] ++ (helP 3 3).set 0 c ++ [67, 14, 128, 235]) ((helP 3 3).set 0 c) [67, 14, 128, 235]) := by kernel_rfl
theorem run331 (b0 b1 t y : Int) (c : UInt8) : TT.runL ovS (tsS 1 c ([81, 70, 12] ++ (helP 3 3).set 1 c ++ [67, 14, 128, 235])) 60 2 (argS 3 3 b0 b1 t y) = some ([.b true], lgS 3 3 b0 b1 t y 1 4 c ([81, 70, 12] ++ (helP 3 3).set 1 c ++ [67, 14, 128, 235]) ((helP 3 3).set 1 c) [67, 14, 128, 235]) := by kernel_rfl
theorem run332 (b0 b1 t y : Int) (c : UInt8) : TT.runL ovS (tsS 2 c ([81, 70, 12] ++ (helP 3 3).set 2 c ++ [67, 14, 128, 235])) 60 2 (argS 3 3 b0 b1 t y) = some ([.b true], lgS 3 3 b0 b1 t y 2 3 c ([81, 70, 12] ++ (helP 3 3).set 2 c ++ [67, 14, 128, 235]) ((helP 3 3).set 2 c) [67, 14, 128, 235]) := by kernel_rfl
theorem run333 (b0 b1 t y : Int) (c : UInt8) : TT.runL ovS (tsS 3 c ([81, 70, 12] ++ (helP 3 3).set 3 c ++ [67, 14, 128, 235])) 60 2 (argS 3 3 b0 b1 t y) = some ([.b true], lgS 3 3 b0 b1 t y 3 8 c ([81, 70, 12] ++ (helP 3 3).set 3 c ++ [67, 14, 128, 235]) ((helP 3 3).set 3 c) [67, 14, 128, 235]) := by kernel_rfl
theorem run334 (b0 b1 t y : Int) (c : UInt8) : TT.runL ovS (tsS 4 c ([81, 70, 12] ++ (helP 3 3).set 4 c ++ [67, 14, 128, 235])) 60 2 (argS 3 3 b0 b1 t y) = some ([.b true], lgS 3 3 b0 b1 t y 4 3 c ([81, 70, 12] ++ (helP 3 3).set 4 c ++ [67, 14, 128, 235]) ((helP 3 3).set 4 c) [67, 14, 128, 235]) := by kernel_rfl
theorem run335 (b0 b1 t y : Int) (c : UInt8) : TT.runL ovS (tsS 5 c ([81, 70, 12] ++ (helP 3 3).set 5 c ++ [67, 14, 128, 235])) 60 2 (argS 3 3 b0 b1 t y) = some ([.b true], lgS 3 3 b0 b1 t y 5 13 c ([81, 70, 12] ++ (helP 3 3).set 5 c ++ [67, 14, 128, 235]) ((helP 3 3).set 5 c) [67, 14, 128, 235]) := by kernel_rfl
theorem run336 (b0 b1 t y : Int) (c : UInt8) : TT.runL ovS (tsS 6 c ([81, 70, 12] ++ (helP 3 3).set 6 c ++ [67, 14, 128, 235])) 60 2 (argS 3 3 b0 b1 t y) = some ([.b true], lgS 3 3 b0 b1 t y 6 5 c ([81, 70, 12] ++ (helP 3 3).set 6 c ++ [67, 14, 128, 235]) ((helP 3 3).set 6 c) [67, 14, 128, 235]) := by kernel_rfl
theorem run337 (b0 b1 t y : Int) (c : UInt8) : TT.runL ovS (tsS 7 c ([81, 70, 12] ++ (helP 3 3).set 7 c ++ [67, 14, 128, 235])) 60 2 (argS 3 3 b0 b1 t y) = some ([.b true], lgS 3 3 b0 b1 t y 7 102 c ([81, 70, 12] ++ (helP 3 3).set 7 c ++ [67, 14, 128, 235]) ((helP 3 3).set 7 c) [67, 14, 128, 235]) := by kernel_rfl
theorem sp33 (b0 b1 t y : Int) (hy : y ≠ 0) (hy0 : 0 ≤ y) (hy1 : y < 256) (ht : 0 ≤ t) (hb1 : 1 ≤ b0) (hb2 : b0 ≤ b1) (hb3 : b1 ≤ 3) : TT.lim 2 (argS 3 3 b0 b1 t y) = some [.b true] := by
  have hm : t.tmod 8 = t % 8 := Int.tmod_eq_emod_of_nonneg ht
  have e : t % 8 = 0 ∨ t % 8 = 1 ∨ t % 8 = 2 ∨ t % 8 = 3 ∨ t % 8 = 4 ∨ t % 8 = 5 ∨ t % 8 = 6 ∨ t % 8 = 7 := by omega
  rw [← hm] at e
  rcases e with e | e | e | e | e | e | e | e
  · exact spoils_of 3 3 3 3 b0 b1 t y 0 1 67 14 128 235 3951038019 _ (run330 b0 b1 t y) (fun c => rfl) hy hy0 hy1 e hb1 hb2 hb3 (by decide) rfl (by kernel_rfl) chk33
  · exact spoils_of 3 3 3 3 b0 b1 t y 1 4 67 14 128 235 3951038019 _ (run331 b0 b1 t y) (fun c => rfl) hy hy0 hy1 e hb1 hb2 hb3 (by decide) rfl (by kernel_rfl) chk33
  · exact spoils_of 3 3 3 3 b0 b1 t y 2 3 67 14 128 235 3951038019 _ (run332 b0 b1 t y) (fun c => rfl) hy hy0 hy1 e hb1 hb2 hb3 (by decide) rfl (by kernel_rfl) chk33
  · exact spoils_of 3 3 3 3 b0 b1 t y 3 8 67 14 128 235 3951038019 _ (run333 b0 b1 t y) (fun c => rfl) hy hy0 hy1 e hb1 hb2 hb3 (by decide) rfl (by kernel_rfl) chk33
  · exact spoils_of 3 3 3 3 b0 b1 t y 4 3 67 14 128 235 3951038019 _ (run334 b0 b1 t y) (fun c => rfl) hy hy0 hy1 e hb1 hb2 hb3 (by decide) rfl (by kernel_rfl) chk33
  · exact spoils_of 3 3 3 3 b0 b1 t y 5 13 67 14 128 235 3951038019 _ (run335 b0 b1 t y) (fun c => rfl) hy hy0 hy1 e hb1 hb2 hb3 (by decide) rfl (by kernel_rfl) chk33
  · exact spoils_of 3 3 3 3 b0 b1 t y 6 5 67 14 128 235 3951038019 _ (run336 b0 b1 t y) (fun c => rfl) hy hy0 hy1 e hb1 hb2 hb3 (by decide) rfl (by kernel_rfl) chk33
  · exact spoils_of 3 3 3 3 b0 b1 t y 7 102 67 14 128 235 3951038019 _ (run337 b0 b1 t y) (fun c => rfl) hy hy0 hy1 e hb1 hb2 hb3 (by decide) rfl (by kernel_rfl) chk33
end J
end Go.Proofs.YtilkjidelblkfaaGreatDoor
