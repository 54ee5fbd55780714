import Derived.Test.YtamcdgfjjeldeaaGreatDoorKAT
import Derived.Test.YtamcdgfjjeldeaaGreatDoorAbsPl
namespace Go.Proofs.YtamcdgfjjeldeaaGreatDoor
open Go Go.Abs
namespace A
def e (r : Int × Int) : GV := .g [.i .u64 r.1, .i .u64 r.2]
def foldMx : List (Int × Int) → Int → Int → Int × Int
  | [], a, b => (a, b)
  | r :: rs, a, b => foldMx rs (if a < r.1 then r.1 else a) (if r.2 < b then r.2 else b)

theorem loop3 (rs : List (Int × Int)) (n : Nat) (hn : rs.length = n) (hb : (n : Int) < 4611686018427387904) : ∀ (m i : Nat) (a b : Int), i + m = n →
    TT.lim 3 [.l (rs.map e), .i .i64 n, .i .i64 i, .i .u64 a, .i .u64 b] = some [.i .i64 0, .i .u64 (foldMx (rs.drop i) a b).1, .i .u64 (foldMx (rs.drop i) a b).2]
  | 0, i, a, b, hi => by
    have : rs.drop i = [] := List.drop_eq_nil_of_le (by omega)
    rw [this]
    refine tree_lim rfl rfl ?_
    have h : ¬ ((i : Int) < n) := by omega
    simp [h, foldMx]
  | m + 1, i, a, b, hi => by
    have hlt : i < rs.length := by omega
    have ih := loop3 rs n hn hb m (i + 1) (if a < rs[i].1 then rs[i].1 else a) (if rs[i].2 < b then rs[i].2 else b) (by omega)
    rw [List.drop_eq_getElem_cons hlt]
    refine tree_lim rfl rfl ?_
    have h : ((i : Int) < n) := by omega
    have hw := wrap64 (n := (i : Int) + 1) (by omega) (by omega)
    simp [h, foldMx, hlt, e, hw]
    simpa [e] using ih

def allV (rs : List (Int × Int)) : Int × Bool :=
  match rs with
  | [] => (0, false)
  | r :: rs => if (foldMx rs r.1 r.2).2 < (foldMx rs r.1 r.2).1 then (0, false) else ((foldMx rs r.1 r.2).2, true)

theorem all2 (rs : List (Int × Int)) (hb : (rs.length : Int) < 4611686018427387904) : TT.lim 2 [.l (rs.map e)] = some [.i .u64 (allV rs).1, .b (allV rs).2] := by
  refine fn_lim rfl rfl ?_ rfl
  cases rs with
  | nil => simp [allV]
  | cons r rs =>
    have hl : TT.lim 3 [.l (rs.map e), .i .i64 rs.length, .i .i64 0, .i .u64 r.1, .i .u64 r.2] = _ := loop3 rs rs.length rfl (by simp at hb; omega) rs.length 0 r.1 r.2 (by omega)
    rw [List.drop_zero] at hl
    have hne : ¬ ((rs.length : Int) + 1 = 0) := by omega
    have h1 : (1 : Int) ≤ (rs.length : Int) + 1 := by omega
    have ht : (rs.map e).take rs.length = rs.map e := List.take_of_length_le (by simp)
    by_cases h : (foldMx rs r.1 r.2).2 < (foldMx rs r.1 r.2).1 <;>
    · simp [allV, hne, h, h1, ht, hl, e]

theorem common1 (a b : Int × Int) : TT.lim 1 [e a, e b] = some [.i .u64 (allV [a, b]).1, .b (allV [a, b]).2] := by
  have h := all2 [a, b] (by simp)
  refine fn_lim rfl rfl ?_ rfl
  simp [e] at h
  simp [e, h]

def R (r : Int × Int) : Prop := 0 ≤ r.1 ∧ r.1 < 18446744073709551616 ∧ 0 ≤ r.2 ∧ r.2 < 18446744073709551616
theorem allV2 (a b : Int × Int) : ((allV [a, b]).2 = true ∧ a.1 ≤ (allV [a, b]).1 ∧ b.1 ≤ (allV [a, b]).1 ∧ (((allV [a, b]).1 = a.2 ∧ a.2 ≤ b.2) ∨ ((allV [a, b]).1 = b.2 ∧ b.2 ≤ a.2))) ∨
    ((allV [a, b]).2 = false ∧ (allV [a, b]).1 = 0 ∧ (a.2 < a.1 ∨ a.2 < b.1 ∨ b.2 < a.1 ∨ b.2 < b.1)) := by
  simp only [allV, foldMx]
  repeat' split
  all_goals simp
  all_goals omega
set_option maxHeartbeats 4000000 in
theorem same0 (a b : Int × Int) (v : Int) (ha : R a) (hb : R b) : TT.lim 0 [e a, e b, .i .u64 v] = some [.b true] := by
  have h1 := common1 a b
  have h2 := common1 b a
  have h3 := common1 a a
  refine fn_lim rfl rfl ?_ rfl
  simp only [e] at h1 h2 h3
  have f1 := allV2 a b
  have f2 := allV2 b a
  have f3 := allV2 a a
  simp [e, h1, h2, h3]
  generalize allV [a, b] = x at *
  generalize allV [b, a] = y at *
  generalize allV [a, a] = z at *
  obtain ⟨x, ok⟩ := x
  obtain ⟨y, is⟩ := y
  obtain ⟨z, so⟩ := z
  simp only at *
  clear h1 h2 h3
  unfold R at ha hb
  rcases f1 with ⟨rfl, f1⟩ | ⟨rfl, rfl, f1⟩ <;> rcases f2 with ⟨rfl, f2⟩ | ⟨rfl, rfl, f2⟩ <;> rcases f3 with ⟨rfl, f3⟩ | ⟨rfl, rfl, f3⟩ <;> simp
  all_goals repeat' (first | rfl | exact ite_goal (fun h => rfl) (fun h => rfl) | refine ite_goal (fun h => ?_) (fun h => ?_))
  all_goals first | (exfalso; omega) | (simp; omega)
theorem agreeSame (gs : List GV) (h : hasArgs [(true, [.int .u64, .int .u64]), (true, [.int .u64, .int .u64]), (false, [.int .u64])] gs) : TT.lim 0 gs = some [.b true] := by
  obtain ⟨c, gs, rfl, h1, h⟩ := hasA_agg h
  obtain ⟨d, gs, rfl, h2, h⟩ := hasA_agg h
  obtain ⟨v, gs, rfl, h3, h⟩ := hasA_sc h
  obtain rfl := hasA_nil h
  obtain ⟨v, rfl, h4⟩ := has_u64 h3
  have two : ∀ {cs : List GV}, GTy.hasL [.int .u64, .int .u64] cs → ∃ r, R r ∧ GV.g cs = e r := by
    intro cs hc
    obtain ⟨a, cs, rfl, a1, hc⟩ := hasL_cons hc
    obtain ⟨b, cs, rfl, b1, hc⟩ := hasL_cons hc
    obtain rfl := hasL_nil hc
    obtain ⟨a, rfl, a2⟩ := has_u64 a1
    obtain ⟨b, rfl, b2⟩ := has_u64 b1
    exact ⟨(a, b), ⟨a2.1, a2.2, b2.1, b2.2⟩, rfl⟩
  obtain ⟨a, ha, e1⟩ := two h1
  obtain ⟨b, hb, e2⟩ := two h2
  rw [e1, e2]
  exact same0 a b v ha hb
end A
end Go.Proofs.YtamcdgfjjeldeaaGreatDoor
