/- What the trees compute: plain laws. -/
import Derived.Test.YtilkjidelblkfaaGreatDoorKJe1
namespace Go.Proofs.YtilkjidelblkfaaGreatDoor
open Go Go.Abs
set_option linter.unusedSimpArgs false
set_option linter.unusedVariables false
set_option maxRecDepth 100000
namespace J
theorem chk11 (p : List UInt8) (v : Int) : TT.runL (crOv 8 [.i .u32 v]) (fun k => if Nat.beq k 135 = true then [(28, .b false)] else []) 3 135 [.s p, .s [3, 217, 80, 173]] = some ([.b false], [.call 8 [.l [.s p]] [.i .u32 v], .node (.bin .eql 0 1) [.i .u32 (2907756803 : Nat), .i .u32 v] (.b false)]) := by kernel_rfl
theorem run110 (b0 b1 t y : Int) (c : UInt8) : TT.runL ovS (tsS 0 c ([81, 70, 12] ++ (helP 1 1).set 0 c ++ [3, 217, 80, 173])) 60 2 (argS 1 1 b0 b1 t y) = some ([.b true], lgS 1 1 b0 b1 t y 0 1 c ([81, 70, 12] ++ (helP 1 1).set 0 c ++ [3, 217, 80, 173]) ((helP 1 1).set 0 c) [3, 217, 80, 173]) := by kernel_rfl
theorem run111 (b0 b1 t y : Int) (c : UInt8) : TT.runL ovS (tsS 1 c ([81, 70, 12] ++ (helP 1 1).set 1 c ++ [3, 217, 80, 173])) 60 2 (argS 1 1 b0 b1 t y) = some ([.b true], lgS 1 1 b0 b1 t y 1 4 c ([81, 70, 12] ++ (helP 1 1).set 1 c ++ [3, 217, 80, 173]) ((helP 1 1).set 1 c) [3, 217, 80, 173]) := by kernel_rfl
theorem run112 (b0 b1 t y : Int) (c : UInt8) : TT.runL ovS (tsS 2 c ([81, 70, 12] ++ (helP 1 1).set 2 c ++ [3, 217, 80, 173])) 60 2 (argS 1 1 b0 b1 t y) = some ([.b true], lgS 1 1 b0 b1 t y 2 1 c ([81, 70, 12] ++ (helP 1 1).set 2 c ++ [3, 217, 80, 173]) ((helP 1 1).set 2 c) [3, 217, 80, 173]) := by kernel_rfl
theorem run113 (b0 b1 t y : Int) (c : UInt8) : TT.runL ovS (tsS 3 c ([81, 70, 12] ++ (helP 1 1).set 3 c ++ [3, 217, 80, 173])) 60 2 (argS 1 1 b0 b1 t y) = some ([.b true], lgS 1 1 b0 b1 t y 3 8 c ([81, 70, 12] ++ (helP 1 1).set 3 c ++ [3, 217, 80, 173]) ((helP 1 1).set 3 c) [3, 217, 80, 173]) := by kernel_rfl
theorem run114 (b0 b1 t y : Int) (c : UInt8) : TT.runL ovS (tsS 4 c ([81, 70, 12] ++ (helP 1 1).set 4 c ++ [3, 217, 80, 173])) 60 2 (argS 1 1 b0 b1 t y) = some ([.b true], lgS 1 1 b0 b1 t y 4 1 c ([81, 70, 12] ++ (helP 1 1).set 4 c ++ [3, 217, 80, 173]) ((helP 1 1).set 4 c) [3, 217, 80, 173]) := by kernel_rfl
theorem run115 (b0 b1 t y : Int) (c : UInt8) : TT.runL ovS (tsS 5 c ([81, 70, 12] ++ (helP 1 1).set 5 c ++ [3, 217, 80, 173])) 60 2 (argS 1 1 b0 b1 t y) = some ([.b true], lgS 1 1 b0 b1 t y 5 13 c ([81, 70, 12] ++ (helP 1 1).set 5 c ++ [3, 217, 80, 173]) ((helP 1 1).set 5 c) [3, 217, 80, 173]) := by kernel_rfl
theorem run116 (b0 b1 t y : Int) (c : UInt8) : TT.runL ovS (tsS 6 c ([81, 70, 12] ++ (helP 1 1).set 6 c ++ [3, 217, 80, 173])) 60 2 (argS 1 1 b0 b1 t y) = some ([.b true], lgS 1 1 b0 b1 t y 6 5 c ([81, 70, 12] ++ (helP 1 1).set 6 c ++ [3, 217, 80, 173]) ((helP 1 1).set 6 c) [3, 217, 80, 173]) := by kernel_rfl
theorem run117 (b0 b1 t y : Int) (c : UInt8) : TT.runL ovS (tsS 7 c ([81, 70, 12] ++ (helP 1 1).set 7 c ++ [3, 217, 80, 173])) 60 2 (argS 1 1 b0 b1 t y) = some ([.b true], lgS 1 1 b0 b1 t y 7 102 c ([81, 70, 12] ++ (helP 1 1).set 7 c ++ [3, 217, 80, 173]) ((helP 1 1).set 7 c) [3, 217, 80, 173]) := by kernel_rfl
theorem sp11 (b0 b1 t y : Int) (hy : y ≠ 0) (hy0 : 0 ≤ y) (hy1 : y < 256) (ht : 0 ≤ t) (hb1 : 1 ≤ b0) (hb2 : b0 ≤ b1) (hb3 : b1 ≤ 3) : TT.lim 2 (argS 1 1 b0 b1 t y) = some [.b true] := by
  have hm : t.tmod 8 = t % 8 := Int.tmod_eq_emod_of_nonneg ht
  have e : t % 8 = 0 ∨ t % 8 = 1 ∨ t % 8 = 2 ∨ t % 8 = 3 ∨ t % 8 = 4 ∨ t % 8 = 5 ∨ t % 8 = 6 ∨ t % 8 = 7 := by omega
  rw [← hm] at e
  rcases e with e | e | e | e | e | e | e | e
  · exact spoils_of 1 1 1 1 b0 b1 t y 0 1 3 217 80 173 2907756803 _ (run110 b0 b1 t y) (fun c => rfl) hy hy0 hy1 e hb1 hb2 hb3 (by decide) rfl (by kernel_rfl) chk11
  · exact spoils_of 1 1 1 1 b0 b1 t y 1 4 3 217 80 173 2907756803 _ (run111 b0 b1 t y) (fun c => rfl) hy hy0 hy1 e hb1 hb2 hb3 (by decide) rfl (by kernel_rfl) chk11
  · exact spoils_of 1 1 1 1 b0 b1 t y 2 1 3 217 80 173 2907756803 _ (run112 b0 b1 t y) (fun c => rfl) hy hy0 hy1 e hb1 hb2 hb3 (by decide) rfl (by kernel_rfl) chk11
  · exact spoils_of 1 1 1 1 b0 b1 t y 3 8 3 217 80 173 2907756803 _ (run113 b0 b1 t y) (fun c => rfl) hy hy0 hy1 e hb1 hb2 hb3 (by decide) rfl (by kernel_rfl) chk11
  · exact spoils_of 1 1 1 1 b0 b1 t y 4 1 3 217 80 173 2907756803 _ (run114 b0 b1 t y) (fun c => rfl) hy hy0 hy1 e hb1 hb2 hb3 (by decide) rfl (by kernel_rfl) chk11
  · exact spoils_of 1 1 1 1 b0 b1 t y 5 13 3 217 80 173 2907756803 _ (run115 b0 b1 t y) (fun c => rfl) hy hy0 hy1 e hb1 hb2 hb3 (by decide) rfl (by kernel_rfl) chk11
  · exact spoils_of 1 1 1 1 b0 b1 t y 6 5 3 217 80 173 2907756803 _ (run116 b0 b1 t y) (fun c => rfl) hy hy0 hy1 e hb1 hb2 hb3 (by decide) rfl (by kernel_rfl) chk11
  · exact spoils_of 1 1 1 1 b0 b1 t y 7 102 3 217 80 173 2907756803 _ (run117 b0 b1 t y) (fun c => rfl) hy hy0 hy1 e hb1 hb2 hb3 (by decide) rfl (by kernel_rfl) chk11
theorem chk12 (p : List UInt8) (v : Int) : TT.runL (crOv 8 [.i .u32 v]) (fun k => if Nat.beq k 135 = true then [(28, .b false)] else []) 3 135 [.s p, .s [224, 222, 223, 35]] = some ([.b false], [.call 8 [.l [.s p]] [.i .u32 v], .node (.bin .eql 0 1) [.i .u32 (601874144 : Nat), .i .u32 v] (.b false)]) := by kernel_rfl
theorem run120 (b0 b1 t y : Int) (c : UInt8) : TT.runL ovS (tsS 0 c ([81, 70, 12] ++ (helP 1 2).set 0 c ++ [224, 222, 223, 35])) 60 2 (argS 1 2 b0 b1 t y) = some ([.b true], lgS 1 2 b0 b1 t y 0 1 c ([81, 70, 12] ++ (helP 1 2).set 0 c ++ [224, 222, 223, 35]) ((helP 1 2).set 0 c) [224, 222, 223, 35]) := by kernel_rfl
theorem run121 (b0 b1 t y : Int) (c : UInt8) : TT.runL ovS (tsS 1 c ([81, 70, 12] ++ (helP 1 2).set 1 c ++ [224, 222, 223, 35])) 60 2 (argS 1 2 b0 b1 t y) = some ([.b true], lgS 1 2 b0 b1 t y 1 4 c ([81, 70, 12] ++ (helP 1 2).set 1 c ++ [224, 222, 223, 35]) ((helP 1 2).set 1 c) [224, 222, 223, 35]) := by kernel_rfl
theorem run122 (b0 b1 t y : Int) (c : UInt8) : TT.runL ovS (tsS 2 c ([81, 70, 12] ++ (helP 1 2).set 2 c ++ [224, 222, 223, 35])) 60 2 (argS 1 2 b0 b1 t y) = some ([.b true], lgS 1 2 b0 b1 t y 2 1 c ([81, 70, 12] ++ (helP 1 2).set 2 c ++ [224, 222, 223, 35]) ((helP 1 2).set 2 c) [224, 222, 223, 35]) := by kernel_rfl
theorem run123 (b0 b1 t y : Int) (c : UInt8) : TT.runL ovS (tsS 3 c ([81, 70, 12] ++ (helP 1 2).set 3 c ++ [224, 222, 223, 35])) 60 2 (argS 1 2 b0 b1 t y) = some ([.b true], lgS 1 2 b0 b1 t y 3 8 c ([81, 70, 12] ++ (helP 1 2).set 3 c ++ [224, 222, 223, 35]) ((helP 1 2).set 3 c) [224, 222, 223, 35]) := by kernel_rfl
theorem run124 (b0 b1 t y : Int) (c : UInt8) : TT.runL ovS (tsS 4 c ([81, 70, 12] ++ (helP 1 2).set 4 c ++ [224, 222, 223, 35])) 60 2 (argS 1 2 b0 b1 t y) = some ([.b true], lgS 1 2 b0 b1 t y 4 2 c ([81, 70, 12] ++ (helP 1 2).set 4 c ++ [224, 222, 223, 35]) ((helP 1 2).set 4 c) [224, 222, 223, 35]) := by kernel_rfl
theorem run125 (b0 b1 t y : Int) (c : UInt8) : TT.runL ovS (tsS 5 c ([81, 70, 12] ++ (helP 1 2).set 5 c ++ [224, 222, 223, 35])) 60 2 (argS 1 2 b0 b1 t y) = some ([.b true], lgS 1 2 b0 b1 t y 5 13 c ([81, 70, 12] ++ (helP 1 2).set 5 c ++ [224, 222, 223, 35]) ((helP 1 2).set 5 c) [224, 222, 223, 35]) := by kernel_rfl
theorem run126 (b0 b1 t y : Int) (c : UInt8) : TT.runL ovS (tsS 6 c ([81, 70, 12] ++ (helP 1 2).set 6 c ++ [224, 222, 223, 35])) 60 2 (argS 1 2 b0 b1 t y) = some ([.b true], lgS 1 2 b0 b1 t y 6 5 c ([81, 70, 12] ++ (helP 1 2).set 6 c ++ [224, 222, 223, 35]) ((helP 1 2).set 6 c) [224, 222, 223, 35]) := by kernel_rfl
theorem run127 (b0 b1 t y : Int) (c : UInt8) : TT.runL ovS (tsS 7 c ([81, 70, 12] ++ (helP 1 2).set 7 c ++ [224, 222, 223, 35])) 60 2 (argS 1 2 b0 b1 t y) = some ([.b true], lgS 1 2 b0 b1 t y 7 102 c ([81, 70, 12] ++ (helP 1 2).set 7 c ++ [224, 222, 223, 35]) ((helP 1 2).set 7 c) [224, 222, 223, 35]) := by kernel_rfl
theorem sp12 (b0 b1 t y : Int) (hy : y ≠ 0) (hy0 : 0 ≤ y) (hy1 : y < 256) (ht : 0 ≤ t) (hb1 : 1 ≤ b0) (hb2 : b0 ≤ b1) (hb3 : b1 ≤ 3) : TT.lim 2 (argS 1 2 b0 b1 t y) = some [.b true] := by
  have hm : t.tmod 8 = t % 8 := Int.tmod_eq_emod_of_nonneg ht
  have e : t % 8 = 0 ∨ t % 8 = 1 ∨ t % 8 = 2 ∨ t % 8 = 3 ∨ t % 8 = 4 ∨ t % 8 = 5 ∨ t % 8 = 6 ∨ t % 8 = 7 := by omega
  rw [← hm] at e
  rcases e with e | e | e | e | e | e | e | e
  · exact spoils_of 1 2 1 2 b0 b1 t y 0 1 224 222 223 35 601874144 _ (run120 b0 b1 t y) (fun c => rfl) hy hy0 hy1 e hb1 hb2 hb3 (by decide) rfl (by kernel_rfl) chk12
  · exact spoils_of 1 2 1 2 b0 b1 t y 1 4 224 222 223 35 601874144 _ (run121 b0 b1 t y) (fun c => rfl) hy hy0 hy1 e hb1 hb2 hb3 (by decide) rfl (by kernel_rfl) chk12
  · exact spoils_of 1 2 1 2 b0 b1 t y 2 1 224 222 223 35 601874144 _ (run122 b0 b1 t y) (fun c => rfl) hy hy0 hy1 e hb1 hb2 hb3 (by decide) rfl (by kernel_rfl) chk12
  · exact spoils_of 1 2 1 2 b0 b1 t y 3 8 224 222 223 35 601874144 _ (run123 b0 b1 t y) (fun c => rfl) hy hy0 hy1 e hb1 hb2 hb3 (by decide) rfl (by kernel_rfl) chk12
  · exact spoils_of 1 2 1 2 b0 b1 t y 4 2 224 222 223 35 601874144 _ (run124 b0 b1 t y) (fun c => rfl) hy hy0 hy1 e hb1 hb2 hb3 (by decide) rfl (by kernel_rfl) chk12
  · exact spoils_of 1 2 1 2 b0 b1 t y 5 13 224 222 223 35 601874144 _ (run125 b0 b1 t y) (fun c => rfl) hy hy0 hy1 e hb1 hb2 hb3 (by decide) rfl (by kernel_rfl) chk12
  · exact spoils_of 1 2 1 2 b0 b1 t y 6 5 224 222 223 35 601874144 _ (run126 b0 b1 t y) (fun c => rfl) hy hy0 hy1 e hb1 hb2 hb3 (by decide) rfl (by kernel_rfl) chk12
  · exact spoils_of 1 2 1 2 b0 b1 t y 7 102 224 222 223 35 601874144 _ (run127 b0 b1 t y) (fun c => rfl) hy hy0 hy1 e hb1 hb2 hb3 (by decide) rfl (by kernel_rfl) chk12
end J
end Go.Proofs.YtilkjidelblkfaaGreatDoor
