/- What the trees compute: plain laws. -/
import Derived.Test.YtilkjidelblkfaaGreatDoorKJe2
import Derived.Test.YtilkjidelblkfaaGreatDoorKJe3
import Derived.Test.YtilkjidelblkfaaGreatDoorKJe4
namespace Go.Proofs.YtilkjidelblkfaaGreatDoor
open Go Go.Abs
set_option linter.unusedSimpArgs false
set_option linter.unusedVariables false
set_option maxRecDepth 100000
namespace J
theorem early0 (a0 a1 b0 b1 t y : Int) (h0 : y = 0) : TT.lim 2 (argS a0 a1 b0 b1 t y) = some [.b true] := by
  refine PProg.runs (n := 60) (ov := ovS) (ts := fun k => if Nat.beq k 2 = true then [(9, .b true)] else []) (lg := [.node (.bin .eql 0 1) [.i .u8 y, .i .u8 0] (.b true)]) (by kernel_rfl) ⟨?_, trivial⟩
  · simp [Owe.ok, Nd.den, binG, intG, h0]
theorem early1 (a0 a1 b0 b1 t y : Int) (h0 : ¬ (y = 0)) (h1 : a0 < 1) : TT.lim 2 (argS a0 a1 b0 b1 t y) = some [.b true] := by
  refine PProg.runs (n := 60) (ov := ovS) (ts := fun k => if Nat.beq k 2 = true then [(9, .b false), (23, .b true)] else []) (lg := [.node (.bin .eql 0 1) [.i .u8 y, .i .u8 0] (.b false), .node (.bin .lss 0 1) [.i .u64 a0, .i .u64 1] (.b true)]) (by kernel_rfl) ⟨?_, ?_, trivial⟩
  · simp [Owe.ok, Nd.den, binG, intG, h0]
  · simp [Owe.ok, Nd.den, binG, intG]; omega
theorem early2 (a0 a1 b0 b1 t y : Int) (h0 : ¬ (y = 0)) (h1 : ¬ (a0 < 1)) (h2 : a1 < a0) : TT.lim 2 (argS a0 a1 b0 b1 t y) = some [.b true] := by
  refine PProg.runs (n := 60) (ov := ovS) (ts := fun k => if Nat.beq k 2 = true then [(9, .b false), (23, .b false), (24, .b true)] else []) (lg := [.node (.bin .eql 0 1) [.i .u8 y, .i .u8 0] (.b false), .node (.bin .lss 0 1) [.i .u64 a0, .i .u64 1] (.b false), .node (.bin .lss 0 1) [.i .u64 a1, .i .u64 a0] (.b true)]) (by kernel_rfl) ⟨?_, ?_, ?_, trivial⟩
  · simp [Owe.ok, Nd.den, binG, intG, h0]
  · simp [Owe.ok, Nd.den, binG, intG]; omega
  · simp [Owe.ok, Nd.den, binG, intG]; omega
theorem early3 (a0 a1 b0 b1 t y : Int) (h0 : ¬ (y = 0)) (h1 : ¬ (a0 < 1)) (h2 : ¬ (a1 < a0)) (h3 : 255 < a1) : TT.lim 2 (argS a0 a1 b0 b1 t y) = some [.b true] := by
  refine PProg.runs (n := 60) (ov := ovS) (ts := fun k => if Nat.beq k 2 = true then [(9, .b false), (23, .b false), (24, .b false), (26, .b true)] else []) (lg := [.node (.bin .eql 0 1) [.i .u8 y, .i .u8 0] (.b false), .node (.bin .lss 0 1) [.i .u64 a0, .i .u64 1] (.b false), .node (.bin .lss 0 1) [.i .u64 a1, .i .u64 a0] (.b false), .node (.bin .gtr 0 1) [.i .u64 a1, .i .u64 255] (.b true)]) (by kernel_rfl) ⟨?_, ?_, ?_, ?_, trivial⟩
  · simp [Owe.ok, Nd.den, binG, intG, h0]
  · simp [Owe.ok, Nd.den, binG, intG]; omega
  · simp [Owe.ok, Nd.den, binG, intG]; omega
  · simp [Owe.ok, Nd.den, binG, intG]; omega
theorem early4 (a0 a1 b0 b1 t y : Int) (h0 : ¬ (y = 0)) (h1 : ¬ (a0 < 1)) (h2 : ¬ (a1 < a0)) (h3 : ¬ (255 < a1)) (h4 : 3 < a1) : TT.lim 2 (argS a0 a1 b0 b1 t y) = some [.b true] := by
  refine PProg.runs (n := 60) (ov := ovS) (ts := fun k => if Nat.beq k 2 = true then [(9, .b false), (23, .b false), (24, .b false), (26, .b false), (28, .b true)] else []) (lg := [.node (.bin .eql 0 1) [.i .u8 y, .i .u8 0] (.b false), .node (.bin .lss 0 1) [.i .u64 a0, .i .u64 1] (.b false), .node (.bin .lss 0 1) [.i .u64 a1, .i .u64 a0] (.b false), .node (.bin .gtr 0 1) [.i .u64 a1, .i .u64 255] (.b false), .node (.bin .gtr 0 1) [.i .u64 a1, .i .u64 3] (.b true)]) (by kernel_rfl) ⟨?_, ?_, ?_, ?_, ?_, trivial⟩
  · simp [Owe.ok, Nd.den, binG, intG, h0]
  · simp [Owe.ok, Nd.den, binG, intG]; omega
  · simp [Owe.ok, Nd.den, binG, intG]; omega
  · simp [Owe.ok, Nd.den, binG, intG]; omega
  · simp [Owe.ok, Nd.den, binG, intG]; omega
theorem early5 (a0 a1 b0 b1 t y : Int) (h0 : ¬ (y = 0)) (h1 : ¬ (a0 < 1)) (h2 : ¬ (a1 < a0)) (h3 : ¬ (255 < a1)) (h4 : ¬ (3 < a1)) (h5 : b0 < 1) : TT.lim 2 (argS a0 a1 b0 b1 t y) = some [.b true] := by
  refine PProg.runs (n := 60) (ov := ovS) (ts := fun k => if Nat.beq k 2 = true then [(9, .b false), (23, .b false), (24, .b false), (26, .b false), (28, .b false), (33, .b true)] else []) (lg := [.node (.bin .eql 0 1) [.i .u8 y, .i .u8 0] (.b false), .node (.bin .lss 0 1) [.i .u64 a0, .i .u64 1] (.b false), .node (.bin .lss 0 1) [.i .u64 a1, .i .u64 a0] (.b false), .node (.bin .gtr 0 1) [.i .u64 a1, .i .u64 255] (.b false), .node (.bin .gtr 0 1) [.i .u64 a1, .i .u64 3] (.b false), .node (.bin .lss 0 1) [.i .u64 b0, .i .u64 1] (.b true)]) (by kernel_rfl) ⟨?_, ?_, ?_, ?_, ?_, ?_, trivial⟩
  · simp [Owe.ok, Nd.den, binG, intG, h0]
  · simp [Owe.ok, Nd.den, binG, intG]; omega
  · simp [Owe.ok, Nd.den, binG, intG]; omega
  · simp [Owe.ok, Nd.den, binG, intG]; omega
  · simp [Owe.ok, Nd.den, binG, intG]; omega
  · simp [Owe.ok, Nd.den, binG, intG]; omega
theorem early6 (a0 a1 b0 b1 t y : Int) (h0 : ¬ (y = 0)) (h1 : ¬ (a0 < 1)) (h2 : ¬ (a1 < a0)) (h3 : ¬ (255 < a1)) (h4 : ¬ (3 < a1)) (h5 : ¬ (b0 < 1)) (h6 : b1 < b0) : TT.lim 2 (argS a0 a1 b0 b1 t y) = some [.b true] := by
  refine PProg.runs (n := 60) (ov := ovS) (ts := fun k => if Nat.beq k 2 = true then [(9, .b false), (23, .b false), (24, .b false), (26, .b false), (28, .b false), (33, .b false), (34, .b true)] else []) (lg := [.node (.bin .eql 0 1) [.i .u8 y, .i .u8 0] (.b false), .node (.bin .lss 0 1) [.i .u64 a0, .i .u64 1] (.b false), .node (.bin .lss 0 1) [.i .u64 a1, .i .u64 a0] (.b false), .node (.bin .gtr 0 1) [.i .u64 a1, .i .u64 255] (.b false), .node (.bin .gtr 0 1) [.i .u64 a1, .i .u64 3] (.b false), .node (.bin .lss 0 1) [.i .u64 b0, .i .u64 1] (.b false), .node (.bin .lss 0 1) [.i .u64 b1, .i .u64 b0] (.b true)]) (by kernel_rfl) ⟨?_, ?_, ?_, ?_, ?_, ?_, ?_, trivial⟩
  · simp [Owe.ok, Nd.den, binG, intG, h0]
  · simp [Owe.ok, Nd.den, binG, intG]; omega
  · simp [Owe.ok, Nd.den, binG, intG]; omega
  · simp [Owe.ok, Nd.den, binG, intG]; omega
  · simp [Owe.ok, Nd.den, binG, intG]; omega
  · simp [Owe.ok, Nd.den, binG, intG]; omega
  · simp [Owe.ok, Nd.den, binG, intG]; omega
theorem early7 (a0 a1 b0 b1 t y : Int) (h0 : ¬ (y = 0)) (h1 : ¬ (a0 < 1)) (h2 : ¬ (a1 < a0)) (h3 : ¬ (255 < a1)) (h4 : ¬ (3 < a1)) (h5 : ¬ (b0 < 1)) (h6 : ¬ (b1 < b0)) (h7 : 255 < b1) : TT.lim 2 (argS a0 a1 b0 b1 t y) = some [.b true] := by
  refine PProg.runs (n := 60) (ov := ovS) (ts := fun k => if Nat.beq k 2 = true then [(9, .b false), (23, .b false), (24, .b false), (26, .b false), (28, .b false), (33, .b false), (34, .b false), (35, .b true)] else []) (lg := [.node (.bin .eql 0 1) [.i .u8 y, .i .u8 0] (.b false), .node (.bin .lss 0 1) [.i .u64 a0, .i .u64 1] (.b false), .node (.bin .lss 0 1) [.i .u64 a1, .i .u64 a0] (.b false), .node (.bin .gtr 0 1) [.i .u64 a1, .i .u64 255] (.b false), .node (.bin .gtr 0 1) [.i .u64 a1, .i .u64 3] (.b false), .node (.bin .lss 0 1) [.i .u64 b0, .i .u64 1] (.b false), .node (.bin .lss 0 1) [.i .u64 b1, .i .u64 b0] (.b false), .node (.bin .gtr 0 1) [.i .u64 b1, .i .u64 255] (.b true)]) (by kernel_rfl) ⟨?_, ?_, ?_, ?_, ?_, ?_, ?_, ?_, trivial⟩
  · simp [Owe.ok, Nd.den, binG, intG, h0]
  · simp [Owe.ok, Nd.den, binG, intG]; omega
  · simp [Owe.ok, Nd.den, binG, intG]; omega
  · simp [Owe.ok, Nd.den, binG, intG]; omega
  · simp [Owe.ok, Nd.den, binG, intG]; omega
  · simp [Owe.ok, Nd.den, binG, intG]; omega
  · simp [Owe.ok, Nd.den, binG, intG]; omega
  · simp [Owe.ok, Nd.den, binG, intG]; omega
theorem early8 (a0 a1 b0 b1 t y : Int) (h0 : ¬ (y = 0)) (h1 : ¬ (a0 < 1)) (h2 : ¬ (a1 < a0)) (h3 : ¬ (255 < a1)) (h4 : ¬ (3 < a1)) (h5 : ¬ (b0 < 1)) (h6 : ¬ (b1 < b0)) (h7 : ¬ (255 < b1)) (h8 : 3 < b1) : TT.lim 2 (argS a0 a1 b0 b1 t y) = some [.b true] := by
  refine PProg.runs (n := 60) (ov := ovS) (ts := fun k => if Nat.beq k 2 = true then [(9, .b false), (23, .b false), (24, .b false), (26, .b false), (28, .b false), (33, .b false), (34, .b false), (35, .b false), (36, .b true)] else []) (lg := [.node (.bin .eql 0 1) [.i .u8 y, .i .u8 0] (.b false), .node (.bin .lss 0 1) [.i .u64 a0, .i .u64 1] (.b false), .node (.bin .lss 0 1) [.i .u64 a1, .i .u64 a0] (.b false), .node (.bin .gtr 0 1) [.i .u64 a1, .i .u64 255] (.b false), .node (.bin .gtr 0 1) [.i .u64 a1, .i .u64 3] (.b false), .node (.bin .lss 0 1) [.i .u64 b0, .i .u64 1] (.b false), .node (.bin .lss 0 1) [.i .u64 b1, .i .u64 b0] (.b false), .node (.bin .gtr 0 1) [.i .u64 b1, .i .u64 255] (.b false), .node (.bin .gtr 0 1) [.i .u64 b1, .i .u64 3] (.b true)]) (by kernel_rfl) ⟨?_, ?_, ?_, ?_, ?_, ?_, ?_, ?_, ?_, trivial⟩
  · simp [Owe.ok, Nd.den, binG, intG, h0]
  · simp [Owe.ok, Nd.den, binG, intG]; omega
  · simp [Owe.ok, Nd.den, binG, intG]; omega
  · simp [Owe.ok, Nd.den, binG, intG]; omega
  · simp [Owe.ok, Nd.den, binG, intG]; omega
  · simp [Owe.ok, Nd.den, binG, intG]; omega
  · simp [Owe.ok, Nd.den, binG, intG]; omega
  · simp [Owe.ok, Nd.den, binG, intG]; omega
  · simp [Owe.ok, Nd.den, binG, intG]; omega
theorem pairSpoils (gs : List GV) (h : hasArgs [(true, [.int .u64, .int .u64]), (true, [.int .u64, .int .u64]), (false, [.int .u16]), (false, [.int .u8])] gs) : TT.lim 2 gs = some [.b true] := by
  obtain ⟨cs, gs, rfl, h1, h⟩ := hasA_agg h
  obtain ⟨ds, gs, rfl, h2, h⟩ := hasA_agg h
  obtain ⟨g3, gs, rfl, h3, h⟩ := hasA_sc h
  obtain ⟨g4, gs, rfl, h4, h⟩ := hasA_sc h
  obtain rfl := hasA_nil h
  obtain ⟨a0, a1, rfl⟩ := pair_u64 h1
  obtain ⟨b0, b1, rfl⟩ := pair_u64 h2
  obtain ⟨t, rfl, t1, t2⟩ := has_u16 h3
  obtain ⟨y, rfl, y1, y2⟩ := has_u8 h4
  show TT.lim 2 (argS a0 a1 b0 b1 t y) = some [.b true]
  by_cases k0 : y = 0
  · exact early0 a0 a1 b0 b1 t y k0
  by_cases k1 : a0 < 1
  · exact early1 a0 a1 b0 b1 t y k0 k1
  by_cases k2 : a1 < a0
  · exact early2 a0 a1 b0 b1 t y k0 k1 k2
  by_cases k3 : 255 < a1
  · exact early3 a0 a1 b0 b1 t y k0 k1 k2 k3
  by_cases k4 : 3 < a1
  · exact early4 a0 a1 b0 b1 t y k0 k1 k2 k3 k4
  by_cases k5 : b0 < 1
  · exact early5 a0 a1 b0 b1 t y k0 k1 k2 k3 k4 k5
  by_cases k6 : b1 < b0
  · exact early6 a0 a1 b0 b1 t y k0 k1 k2 k3 k4 k5 k6
  by_cases k7 : 255 < b1
  · exact early7 a0 a1 b0 b1 t y k0 k1 k2 k3 k4 k5 k6 k7
  by_cases k8 : 3 < b1
  · exact early8 a0 a1 b0 b1 t y k0 k1 k2 k3 k4 k5 k6 k7 k8
  have e : (a0 = 1 ∧ a1 = 1) ∨ (a0 = 1 ∧ a1 = 2) ∨ (a0 = 1 ∧ a1 = 3) ∨ (a0 = 2 ∧ a1 = 2) ∨ (a0 = 2 ∧ a1 = 3) ∨ (a0 = 3 ∧ a1 = 3) := by omega
  rcases e with ⟨rfl, rfl⟩ | ⟨rfl, rfl⟩ | ⟨rfl, rfl⟩ | ⟨rfl, rfl⟩ | ⟨rfl, rfl⟩ | ⟨rfl, rfl⟩
  · exact sp11 b0 b1 t y k0 y1 y2 t1 (by omega) (by omega) (by omega)
  · exact sp12 b0 b1 t y k0 y1 y2 t1 (by omega) (by omega) (by omega)
  · exact sp13 b0 b1 t y k0 y1 y2 t1 (by omega) (by omega) (by omega)
  · exact sp22 b0 b1 t y k0 y1 y2 t1 (by omega) (by omega) (by omega)
  · exact sp23 b0 b1 t y k0 y1 y2 t1 (by omega) (by omega) (by omega)
  · exact sp33 b0 b1 t y k0 y1 y2 t1 (by omega) (by omega) (by omega)
end J
end Go.Proofs.YtilkjidelblkfaaGreatDoor
