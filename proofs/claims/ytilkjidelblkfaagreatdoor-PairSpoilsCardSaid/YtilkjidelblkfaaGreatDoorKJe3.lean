/- What the trees compute: plain laws. -/
import Derived.Test.YtilkjidelblkfaaGreatDoorKJe1
namespace Go.Proofs.YtilkjidelblkfaaGreatDoor
open Go Go.Abs
set_option linter.unusedSimpArgs false
set_option linter.unusedVariables false
set_option maxRecDepth 100000
namespace J
theorem chk13 (p : List UInt8) (v : Int) : TT.runL (crOv 8 [.i .u32 v]) (fun k => if Nat.beq k 135 = true then [(28, .b false)] else []) 3 135 [.s p, .s [126, 222, 117, 239]] = some ([.b false], [.call 8 [.l [.s p]] [.i .u32 v], .node (.bin .eql 0 1) [.i .u32 (4017479294 : Nat), .i .u32 v] (.b false)]) := by kernel_rfl
theorem run130 (b0 b1 t y : Int) (c : UInt8) : TT.runL ovS (tsS 0 c ([81, 70, 12] ++ (helP 1 3).set 0 c ++ [126, 222, 117, 239])) 60 2 (argS 1 3 b0 b1 t y) = some ([.b true], lgS 1 3 b0 b1 t y 0 1 c ([81, 70, 12] ++ (helP 1 3).set 0 c ++ [126, 222, 117, 239]) ((helP 1 3).set 0 c) [126, 222, 117, 239]) := by kernel_rfl
theorem run131 (b0 b1 t y : Int) (c : UInt8) : TT.runL ovS (tsS 1 c ([81, 70, 12] ++ (helP 1 3).set 1 c ++ [126, 222, 117, 239])) 60 2 (argS 1 3 b0 b1 t y) = some ([.b true], lgS 1 3 b0 b1 t y 1 4 c ([81, 70, 12] ++ (helP 1 3).set 1 c ++ [126, 222, 117, 239]) ((helP 1 3).set 1 c) [126, 222, 117, 239]) := by kernel_rfl
theorem run132 (b0 b1 t y : Int) (c : UInt8) : TT.runL ovS (tsS 2 c ([81, 70, 12] ++ (helP 1 3).set 2 c ++ [126, 222, 117, 239])) 60 2 (argS 1 3 b0 b1 t y) = some ([.b true], lgS 1 3 b0 b1 t y 2 1 c ([81, 70, 12] ++ (helP 1 3).set 2 c ++ [126, 222, 117, 239]) ((helP 1 3).set 2 c) [126, 222, 117, 239]) := by kernel_rfl
theorem run133 (b0 b1 t y : Int) (c : UInt8) : TT.runL ovS (tsS 3 c ([81, 70, 12] ++ (helP 1 3).set 3 c ++ [126, 222, 117, 239])) 60 2 (argS 1 3 b0 b1 t y) = some ([.b true], lgS 1 3 b0 b1 t y 3 8 c ([81, 70, 12] ++ (helP 1 3).set 3 c ++ [126, 222, 117, 239]) ((helP 1 3).set 3 c) [126, 222, 117, 239]) := by kernel_rfl
theorem run134 (b0 b1 t y : Int) (c : UInt8) : TT.runL ovS (tsS 4 c ([81, 70, 12] ++ (helP 1 3).set 4 c ++ [126, 222, 117, 239])) 60 2 (argS 1 3 b0 b1 t y) = some ([.b true], lgS 1 3 b0 b1 t y 4 3 c ([81, 70, 12] ++ (helP 1 3).set 4 c ++ [126, 222, 117, 239]) ((helP 1 3).set 4 c) [126, 222, 117, 239]) := by kernel_rfl
theorem run135 (b0 b1 t y : Int) (c : UInt8) : TT.runL ovS (tsS 5 c ([81, 70, 12] ++ (helP 1 3).set 5 c ++ [126, 222, 117, 239])) 60 2 (argS 1 3 b0 b1 t y) = some ([.b true], lgS 1 3 b0 b1 t y 5 13 c ([81, 70, 12] ++ (helP 1 3).set 5 c ++ [126, 222, 117, 239]) ((helP 1 3).set 5 c) [126, 222, 117, 239]) := by kernel_rfl
theorem run136 (b0 b1 t y : Int) (c : UInt8) : TT.runL ovS (tsS 6 c ([81, 70, 12] ++ (helP 1 3).set 6 c ++ [126, 222, 117, 239])) 60 2 (argS 1 3 b0 b1 t y) = some ([.b true], lgS 1 3 b0 b1 t y 6 5 c ([81, 70, 12] ++ (helP 1 3).set 6 c ++ [126, 222, 117, 239]) ((helP 1 3).set 6 c) [126, 222, 117, 239]) := by kernel_rfl
theorem run137 (b0 b1 t y : Int) (c : UInt8) : TT.runL ovS (tsS 7 c ([81, 70, 12] ++ (helP 1 3).set 7 c ++ [126, 222, 117, 239])) 60 2 (argS 1 3 b0 b1 t y) = some ([.b true], lgS 1 3 b0 b1 t y 7 102 c ([81, 70, 12] ++ (helP 1 3).set 7 c ++ [126, 222, 117, 239]) ((helP 1 3).set 7 c) [126, 222, 117, 239]) := by kernel_rfl
theorem sp13 (b0 b1 t y : Int) (hy : y ≠ 0) (hy0 : 0 ≤ y) (hy1 : y < 256) (ht : 0 ≤ t) (hb1 : 1 ≤ b0) (hb2 : b0 ≤ b1) (hb3 : b1 ≤ 3) : TT.lim 2 (argS 1 3 b0 b1 t y) = some [.b true] := by
  have hm : t.tmod 8 = t % 8 := Int.tmod_eq_emod_of_nonneg ht
  have e : t % 8 = 0 ∨ t % 8 = 1 ∨ t % 8 = 2 ∨ t % 8 = 3 ∨ t % 8 = 4 ∨ t % 8 = 5 ∨ t % 8 = 6 ∨ t % 8 = 7 := by omega
  rw [← hm] at e
  rcases e with e | e | e | e | e | e | e | e
  · exact spoils_of 1 3 1 3 b0 b1 t y 0 1 126 222 117 239 4017479294 _ (run130 b0 b1 t y) (fun c => rfl) hy hy0 hy1 e hb1 hb2 hb3 (by decide) rfl (by kernel_rfl) chk13
  · exact spoils_of 1 3 1 3 b0 b1 t y 1 4 126 222 117 239 4017479294 _ (run131 b0 b1 t y) (fun c => rfl) hy hy0 hy1 e hb1 hb2 hb3 (by decide) rfl (by kernel_rfl) chk13
  · exact spoils_of 1 3 1 3 b0 b1 t y 2 1 126 222 117 239 4017479294 _ (run132 b0 b1 t y) (fun c => rfl) hy hy0 hy1 e hb1 hb2 hb3 (by decide) rfl (by kernel_rfl) chk13
  · exact spoils_of 1 3 1 3 b0 b1 t y 3 8 126 222 117 239 4017479294 _ (run133 b0 b1 t y) (fun c => rfl) hy hy0 hy1 e hb1 hb2 hb3 (by decide) rfl (by kernel_rfl) chk13
  · exact spoils_of 1 3 1 3 b0 b1 t y 4 3 126 222 117 239 4017479294 _ (run134 b0 b1 t y) (fun c => rfl) hy hy0 hy1 e hb1 hb2 hb3 (by decide) rfl (by kernel_rfl) chk13
  · exact spoils_of 1 3 1 3 b0 b1 t y 5 13 126 222 117 239 4017479294 _ (run135 b0 b1 t y) (fun c => rfl) hy hy0 hy1 e hb1 hb2 hb3 (by decide) rfl (by kernel_rfl) chk13
  · exact spoils_of 1 3 1 3 b0 b1 t y 6 5 126 222 117 239 4017479294 _ (run136 b0 b1 t y) (fun c => rfl) hy hy0 hy1 e hb1 hb2 hb3 (by decide) rfl (by kernel_rfl) chk13
  · exact spoils_of 1 3 1 3 b0 b1 t y 7 102 126 222 117 239 4017479294 _ (run137 b0 b1 t y) (fun c => rfl) hy hy0 hy1 e hb1 hb2 hb3 (by decide) rfl (by kernel_rfl) chk13
theorem chk22 (p : List UInt8) (v : Int) : TT.runL (crOv 8 [.i .u32 v]) (fun k => if Nat.beq k 135 = true then [(28, .b false)] else []) 3 135 [.s p, .s [227, 101, 232, 200]] = some ([.b false], [.call 8 [.l [.s p]] [.i .u32 v], .node (.bin .eql 0 1) [.i .u32 (3370673635 : Nat), .i .u32 v] (.b false)]) := by kernel_rfl
theorem run220 (b0 b1 t y : Int) (c : UInt8) : TT.runL ovS (tsS 0 c ([81, 70, 12] ++ (helP 2 2).set 0 c ++ [227, 101, 232, 200])) 60 2 (argS 2 2 b0 b1 t y) = some ([.b true], lgS 2 2 b0 b1 t y 0 1 c ([81, 70, 12] ++ (helP 2 2).set 0 c ++ [227, 101, 232, 200]) ((helP 2 2).set 0 c) [227, 101, 232, 200]) := by kernel_rfl
theorem run221 (b0 b1 t y : Int) (c : UInt8) : TT.runL ovS (tsS 1 c ([81, 70, 12] ++ (helP 2 2).set 1 c ++ [227, 101, 232, 200])) 60 2 (argS 2 2 b0 b1 t y) = some ([.b true], lgS 2 2 b0 b1 t y 1 4 c ([81, 70, 12] ++ (helP 2 2).set 1 c ++ [227, 101, 232, 200]) ((helP 2 2).set 1 c) [227, 101, 232, 200]) := by kernel_rfl
theorem run222 (b0 b1 t y : Int) (c : UInt8) : TT.runL ovS (tsS 2 c ([81, 70, 12] ++ (helP 2 2).set 2 c ++ [227, 101, 232, 200])) 60 2 (argS 2 2 b0 b1 t y) = some ([.b true], lgS 2 2 b0 b1 t y 2 2 c ([81, 70, 12] ++ (helP 2 2).set 2 c ++ [227, 101, 232, 200]) ((helP 2 2).set 2 c) [227, 101, 232, 200]) := by kernel_rfl
theorem run223 (b0 b1 t y : Int) (c : UInt8) : TT.runL ovS (tsS 3 c ([81, 70, 12] ++ (helP 2 2).set 3 c ++ [227, 101, 232, 200])) 60 2 (argS 2 2 b0 b1 t y) = some ([.b true], lgS 2 2 b0 b1 t y 3 8 c ([81, 70, 12] ++ (helP 2 2).set 3 c ++ [227, 101, 232, 200]) ((helP 2 2).set 3 c) [227, 101, 232, 200]) := by kernel_rfl
theorem run224 (b0 b1 t y : Int) (c : UInt8) : TT.runL ovS (tsS 4 c ([81, 70, 12] ++ (helP 2 2).set 4 c ++ [227, 101, 232, 200])) 60 2 (argS 2 2 b0 b1 t y) = some ([.b true], lgS 2 2 b0 b1 t y 4 2 c ([81, 70, 12] ++ (helP 2 2).set 4 c ++ [227, 101, 232, 200]) ((helP 2 2).set 4 c) [227, 101, 232, 200]) := by kernel_rfl
theorem run225 (b0 b1 t y : Int) (c : UInt8) : TT.runL ovS (tsS 5 c ([81, 70, 12] ++ (helP 2 2).set 5 c ++ [227, 101, 232, 200])) 60 2 (argS 2 2 b0 b1 t y) = some ([.b true], lgS 2 2 b0 b1 t y 5 13 c ([81, 70, 12] ++ (helP 2 2).set 5 c ++ [227, 101, 232, 200]) ((helP 2 2).set 5 c) [227, 101, 232, 200]) := by kernel_rfl
theorem run226 (b0 b1 t y : Int) (c : UInt8) : TT.runL ovS (tsS 6 c ([81, 70, 12] ++ (helP 2 2).set 6 c ++ [227, 101, 232, 200])) 60 2 (argS 2 2 b0 b1 t y) = some ([.b true], lgS 2 2 b0 b1 t y 6 5 c ([81, 70, 12] ++ (helP 2 2).set 6 c ++ [227, 101, 232, 200]) ((helP 2 2).set 6 c) [227, 101, 232, 200]) := by kernel_rfl
theorem run227 (b0 b1 t y : Int) (c : UInt8) : TT.runL ovS (tsS 7 c ([81, 70, 12] ++ (helP 2 2).set 7 c ++ [227, 101, 232, 200])) 60 2 (argS 2 2 b0 b1 t y) = some ([.b true], lgS 2 2 b0 b1 t y 7 102 c ([81, 70, 12] ++ (helP 2 2).set 7 c ++ [227, 101, 232, 200]) ((helP 2 2).set 7 c) [227, 101, 232, 200]) := by kernel_rfl
theorem sp22 (b0 b1 t y : Int) (hy : y ≠ 0) (hy0 : 0 ≤ y) (hy1 : y < 256) (ht : 0 ≤ t) (hb1 : 1 ≤ b0) (hb2 : b0 ≤ b1) (hb3 : b1 ≤ 3) : TT.lim 2 (argS 2 2 b0 b1 t y) = some [.b true] := by
  have hm : t.tmod 8 = t % 8 := Int.tmod_eq_emod_of_nonneg ht
  have e : t % 8 = 0 ∨ t % 8 = 1 ∨ t % 8 = 2 ∨ t % 8 = 3 ∨ t % 8 = 4 ∨ t % 8 = 5 ∨ t % 8 = 6 ∨ t % 8 = 7 := by omega
  rw [← hm] at e
  rcases e with e | e | e | e | e | e | e | e
  · exact spoils_of 2 2 2 2 b0 b1 t y 0 1 227 101 232 200 3370673635 _ (run220 b0 b1 t y) (fun c => rfl) hy hy0 hy1 e hb1 hb2 hb3 (by decide) rfl (by kernel_rfl) chk22
  · exact spoils_of 2 2 2 2 b0 b1 t y 1 4 227 101 232 200 3370673635 _ (run221 b0 b1 t y) (fun c => rfl) hy hy0 hy1 e hb1 hb2 hb3 (by decide) rfl (by kernel_rfl) chk22
  · exact spoils_of 2 2 2 2 b0 b1 t y 2 2 227 101 232 200 3370673635 _ (run222 b0 b1 t y) (fun c => rfl) hy hy0 hy1 e hb1 hb2 hb3 (by decide) rfl (by kernel_rfl) chk22
  · exact spoils_of 2 2 2 2 b0 b1 t y 3 8 227 101 232 200 3370673635 _ (run223 b0 b1 t y) (fun c => rfl) hy hy0 hy1 e hb1 hb2 hb3 (by decide) rfl (by kernel_rfl) chk22
  · exact spoils_of 2 2 2 2 b0 b1 t y 4 2 227 101 232 200 3370673635 _ (run224 b0 b1 t y) (fun c => rfl) hy hy0 hy1 e hb1 hb2 hb3 (by decide) rfl (by kernel_rfl) chk22
  · exact spoils_of 2 2 2 2 b0 b1 t y 5 13 227 101 232 200 3370673635 _ (run225 b0 b1 t y) (fun c => rfl) hy hy0 hy1 e hb1 hb2 hb3 (by decide) rfl (by kernel_rfl) chk22
  · exact spoils_of 2 2 2 2 b0 b1 t y 6 5 227 101 232 200 3370673635 _ (run226 b0 b1 t y) (fun c => rfl) hy hy0 hy1 e hb1 hb2 hb3 (by decide) rfl (by kernel_rfl) chk22
  · exact spoils_of 2 2 2 2 b0 b1 t y 7 102 227 101 232 200 3370673635 _ (run227 b0 b1 t y) (fun c => rfl) hy hy0 hy1 e hb1 hb2 hb3 (by decide) rfl (by kernel_rfl) chk22
end J
end Go.Proofs.YtilkjidelblkfaaGreatDoor
