/- The law DeltaJoins, told of trees: the law. -/
import Derived.Test.YtamcdgfjjeldeaaGreatDoorKCPl9
namespace Go.Proofs.YtamcdgfjjeldeaaGreatDoor
open Go Go.Abs
set_option linter.unusedSimpArgs false
set_option linter.unusedVariables false
set_option maxRecDepth 100000
namespace C
theorem good_of {l : List Row} (hl : Rows l) (h : few13 l = true) : GoodT l := by
  refine ⟨?_, fun r hr => few13_few h r hr, hl⟩
  unfold few13 at h
  rw [Bool.and_eq_true, decide_eq_true_iff] at h
  exact h.2
theorem joinD_rows {x y : Dl} (hx : GoodT x.2.2) (hy : GoodT y.2.2) : GoodT (joinD x y).1.2.2 := by
  by_cases h : (joinD x y).2 = 0
  · exact (joinD_tb hx hy h).good
  · have : (joinD x y).1 = zD := by
      unfold joinD at h ⊢
      split
      · rfl
      next h1 =>
      split
      · rfl
      next h2 =>
      split
      · rfl
      next h3 =>
      split
      · rfl
      next h4 =>
      rw [if_neg h1, if_neg h2, if_neg h3, if_neg h4] at h
      exact absurd rfl h
    rw [this]
    exact tb_nil.good
theorem same_good (a b : List Row) (ha : GoodT a) (hb : GoodT b) : TT.lim 27 [.l (a.map row), .l (b.map row)] = some [.b (decide (a = b))] :=
  same27 a b (by have := ha.len; omega) (by have := hb.len; omega) (fun r hr => (ha.rows.2 r hr).1.1) (fun r hr => (hb.rows.2 r hr).1.1)
set_option maxHeartbeats 4000000 in
theorem joins39 (x y z : Dl) (hx : Rows x.2.2) (hy : Rows y.2.2) (hz : Rows z.2.2) : TT.lim 39 [dl x, dl y, dl z] = some [.b true] := by
  have f1 := few2 _ hx
  have f2 := few2 _ hy
  have f3 := few2 _ hz
  have e1 : GV.g [.i .u64 x.1, .i .u64 x.2.1, .l (x.2.2.map row)] = dl x := rfl
  have e2 : GV.g [.i .u64 y.1, .i .u64 y.2.1, .l (y.2.2.map row)] = dl y := rfl
  have e3 : GV.g [.i .u64 z.1, .i .u64 z.2.1, .l (z.2.2.map row)] = dl z := rfl
  refine fn_lim rfl rfl ?_ rfl
  by_cases l1 : (100 : Int) < (x.2.2.length : Int)
  · simp [l1]
  cases g1 : few13 x.2.2 with
  | false => rw [g1] at f1; simp [l1, f1]
  | true =>
  rw [g1] at f1
  by_cases l2 : (100 : Int) < (y.2.2.length : Int)
  · simp [l1, f1, l2]
  cases g2 : few13 y.2.2 with
  | false => rw [g2] at f2; simp [l1, f1, l2, f2]
  | true =>
  rw [g2] at f2
  by_cases l3 : (100 : Int) < (z.2.2.length : Int)
  · simp [l1, f1, l2, f2, l3]
  cases g3 : few13 z.2.2 with
  | false => rw [g3] at f3; simp [l1, f1, l2, f2, l3, f3]
  | true =>
  rw [g3] at f3
  have q1 := good_of hx g1
  have q2 := good_of hy g2
  have q3 := good_of hz g3
  have j1 := join40 x y q1 q2
  have j2 := join40 y z q2 q3
  by_cases h1 : (joinD x y).2 = 0
  rotate_left
  · simp [l1, f1, l2, f2, l3, f3, e1, e2, e3, j1, j2, h1]
  by_cases h2 : (joinD y z).2 = 0
  rotate_left
  · simp [l1, f1, l2, f2, l3, f3, e1, e2, e3, j1, j2, h1, h2]
  have t1 := joinD_rows q1 q2
  have t2 := joinD_rows q2 q3
  have j3 := join40 (joinD x y).1 z t1 q3
  have j4 := join40 x (joinD y z).1 q1 t2
  have ea := join_assoc q1 q2 q3 h1 h2
  have t4 := joinD_rows q1 t2
  rw [ea] at j3
  have e4 : GV.g [.i .u64 (joinD x y).1.1, .i .u64 (joinD x y).1.2.1, .l ((joinD x y).1.2.2.map row)] = dl (joinD x y).1 := rfl
  have e5 : GV.g [.i .u64 (joinD y z).1.1, .i .u64 (joinD y z).1.2.1, .l ((joinD y z).1.2.2.map row)] = dl (joinD y z).1 := rfl
  have ks := same_good _ _ t4 t4
  rw [decide_eq_true (rfl : (joinD x (joinD y z).1).1.2.2 = _)] at ks
  generalize joinD x (joinD y z).1 = w at *
  generalize joinD x y = u at *
  generalize joinD y z = v at *
  simp [l1, f1, l2, f2, l3, f3, e1, e2, e3, j1, j2, h1, h2, j3, j4, e4, e5, ks]
/-! ### Arguments -/
abbrev dlTy : List GTy := [.int .u64, .int .u64, .list true [.list true [.str, .str], .int .u64]]
theorem dl_of {cs : List GV} (h : GTy.hasL dlTy cs) : ∃ d : Dl, Rows d.2.2 ∧ GV.g cs = dl d := by
  obtain ⟨b, l, rfl, h1, h⟩ := hasL_cons h
  obtain ⟨e, l, rfl, h2, h⟩ := hasL_cons h
  obtain ⟨t, l, rfl, h3, h⟩ := hasL_cons h
  obtain rfl := hasL_nil h
  obtain ⟨b, rfl, _, _⟩ := has_u64 h1
  obtain ⟨e, rfl, _, _⟩ := has_u64 h2
  obtain ⟨t, ht, rfl⟩ := rows_of h3
  exact ⟨(b, e, t), ht, rfl⟩
theorem deltaJoins (gs : List GV) (h : hasArgs [(true, dlTy), (true, dlTy), (true, dlTy)] gs) : TT.lim 39 gs = some [.b true] := by
  obtain ⟨a, gs, rfl, h1, h⟩ := hasA_agg h
  obtain ⟨b, gs, rfl, h2, h⟩ := hasA_agg h
  obtain ⟨c, gs, rfl, h3, h⟩ := hasA_agg h
  obtain rfl := hasA_nil h
  obtain ⟨x, hx, ex⟩ := dl_of h1
  obtain ⟨y, hy, ey⟩ := dl_of h2
  obtain ⟨z, hz, ez⟩ := dl_of h3
  rw [ex, ey, ez]
  exact joins39 x y z hx hy hz
end C
end Go.Proofs.YtamcdgfjjeldeaaGreatDoor
