/- Deltas joined, told of trees. -/
import Derived.Test.YtamcdgfjjeldeaaGreatDoorKCPl7
namespace Go.Proofs.YtamcdgfjjeldeaaGreatDoor
open Go Go.Abs
set_option linter.unusedSimpArgs false
set_option linter.unusedVariables false
set_option maxRecDepth 100000
namespace C
theorem lsub_tail (x : GV) (l : List Row) (n : Int) (hx : x.cells.length = 2) (hn : n = l.length + 1) : lsub3 2 (some (.l (x :: l.map row))) (some (.i .i64 1)) (some (.i .i64 n)) = some (.l (l.map row)) := by
  subst hn
  rw [lsub3_i, if_pos ⟨by omega, by omega, by simp, by rw [List.all_cons]; simp [hx, row_cells]⟩]
  · congr 2
    have h1 : ((l.length : Int) + 1).toNat = l.length + 1 := by omega
    rw [h1, List.take_of_length_le (by simp)]; rfl
def outM (acc : List Row) : Option (List Row) → List GV
  | some m => [.i .i64 1, .l ((acc ++ m).map row)]
  | none => [.i .i64 0]
theorem few40 {d : List Ent} (h : few12 d = true) : d.length ≤ 40 := by
  unfold few12 at h; simp at h; omega
theorem cmpK_lt {a b : List UInt8} (h : a < b) : cmpK a b = -1 := by unfold cmpK; rw [if_pos h]
theorem cmpK_gt {a b : List UInt8} (h1 : ¬ a < b) (h : b < a) : cmpK a b = 1 := by unfold cmpK; rw [if_neg h1, if_pos h]
theorem cmpK_eq {a b : List UInt8} (h1 : ¬ a < b) (h : ¬ b < a) : cmpK a b = 0 := by unfold cmpK; rw [if_neg h1, if_neg h]
def Few (t : List Row) : Prop := ∀ r ∈ t, few12 r.1 = true
set_option maxHeartbeats 4000000 in
theorem loop43 : ∀ (n : Nat) (a b acc : List Row), a.length + b.length ≤ n → acc.length + a.length + b.length ≤ 1000 → Few a → Few b → (∀ r ∈ a, 0 ≤ r.2 ∧ r.2 < 18446744073709551616) → (∀ r ∈ b, 0 ≤ r.2 ∧ r.2 < 18446744073709551616) →
    TT.lim 43 [.l (a.map row), .l (b.map row), .l (acc.map row)] = some (outM acc (mergeR a b)) := by
  intro n
  induction n with
  | zero =>
    intro a b acc hn hb fa fb va vb
    obtain rfl : a = [] := List.eq_nil_of_length_eq_zero (by omega)
    obtain rfl : b = [] := List.eq_nil_of_length_eq_zero (by omega)
    rw [mergeR]
    refine tree_lim rfl rfl ?_
    simp [outM]
  | succ n ih =>
    intro a b acc hn hb fa fb va vb
    cases a with
    | nil =>
      cases b with
      | nil =>
        rw [mergeR]
        refine tree_lim rfl rfl ?_
        simp [outM]
      | cons y b =>
        simp only [List.length_nil, List.length_cons, Nat.zero_add] at hn hb
        have ih' := ih [] b (acc ++ [y]) (by simp; omega) (by simp; omega) fa (fun r hr => fb r (by simp [hr])) va (fun r hr => vb r (by simp [hr]))
        rw [mergeR] at ih' ⊢
        simp only [outM, List.append_assoc, List.singleton_append, List.map_append, List.map_cons, List.map_nil] at ih' ⊢
        have kc := clone23 y.1 (few40 (fb y (by simp)))
        have hrow : GV.g [.l (y.1.map ent), .i .u64 y.2] = row y := rfl
        have hok : (row y).elemOk 2 = true := rfl
        have hl := lsub_tail (row y) b ((b.length : Int) + 1) rfl rfl
        have hbb : 2 * (acc.length + 1) * 32 ≤ 281474976710656 ∧ acc.length + 1 ≤ 281474976710656 := by omega
        have hp : (0 : Int) < (b.length : Int) + 1 := by omega
        have hp2 : ¬ ((b.length : Int) + 1 = 0) := by omega
        refine tree_lim rfl rfl ?_
        simp [-lsub3_i, kc, hrow, hok, hl, hbb, hp, hp2, ih']
    | cons x a =>
      cases b with
      | nil =>
        simp only [List.length_nil, List.length_cons, Nat.add_zero] at hn hb
        have ih' := ih a [] (acc ++ [x]) (by simp; omega) (by simp; omega) (fun r hr => fa r (by simp [hr])) fb (fun r hr => va r (by simp [hr])) vb
        have hm : mergeR a [] = some a := by cases a <;> rw [mergeR]
        rw [hm] at ih'
        rw [mergeR]
        simp only [outM, List.append_assoc, List.singleton_append, List.map_append, List.map_cons, List.map_nil] at ih' ⊢
        have kc := clone23 x.1 (few40 (fa x (by simp)))
        have hrow : GV.g [.l (x.1.map ent), .i .u64 x.2] = row x := rfl
        have hok : (row x).elemOk 2 = true := rfl
        have hl := lsub_tail (row x) a ((a.length : Int) + 1) rfl rfl
        have hbb : 2 * (acc.length + 1) * 32 ≤ 281474976710656 ∧ acc.length + 1 ≤ 281474976710656 := by omega
        have hp : (0 : Int) < (a.length : Int) + 1 := by omega
        have hp2 : ¬ ((a.length : Int) + 1 = 0) := by omega
        refine tree_lim rfl rfl ?_
        simp [-lsub3_i, kc, hrow, hok, hl, hbb, hp, hp2, ih']
      | cons y b =>
        simp only [List.length_cons] at hn hb
        have fx := fa x (by simp)
        have fy := fb y (by simp)
        have kcx := clone23 x.1 (few40 fx)
        have kcy := clone23 y.1 (few40 fy)
        have hrx : GV.g [.l (x.1.map ent), .i .u64 x.2] = row x := rfl
        have hry : GV.g [.l (y.1.map ent), .i .u64 y.2] = row y := rfl
        have hrs : GV.g [.l (x.1.map ent), .i .u64 (x.2 + y.2)] = row (x.1, x.2 + y.2) := rfl
        have hok : ∀ r : Row, (row r).elemOk 2 = true := fun r => rfl
        have hlx := lsub_tail (row x) a ((a.length : Int) + 1) rfl rfl
        have hly := lsub_tail (row y) b ((b.length : Int) + 1) rfl rfl
        have hbb : 2 * (acc.length + 1) * 32 ≤ 281474976710656 ∧ acc.length + 1 ≤ 281474976710656 := by omega
        have hp : (0 : Int) < (a.length : Int) + 1 := by omega
        have hp2 : ¬ ((a.length : Int) + 1 = 0) := by omega
        have hq : (0 : Int) < (b.length : Int) + 1 := by omega
        have hq2 : ¬ ((b.length : Int) + 1 = 0) := by omega
        have kcmp := cmp44 x.1 y.1 fx fy
        have kadd := add46 x.2 y.2 (va x (by simp)).1 (vb y (by simp)).1
        have vx := va x (by simp)
        have vy := vb y (by simp)
        by_cases h1 : K x < K y
        · have ih' := ih a (y :: b) (acc ++ [x]) (by simp; omega) (by simp; omega) (fun r hr => fa r (by simp [hr])) fb (fun r hr => va r (by simp [hr])) vb
          rw [mergeR, if_pos h1]
          rw [cmpK_lt h1] at kcmp
          have e : outM (acc ++ [x]) (mergeR a (y :: b)) = outM acc ((mergeR a (y :: b)).map (x :: ·)) := by cases mergeR a (y :: b) <;> simp [outM]
          rw [e] at ih'
          generalize outM acc ((mergeR a (y :: b)).map (x :: ·)) = out at ih' ⊢
          simp only [List.map_append, List.map_cons, List.map_nil] at ih'
          refine tree_lim rfl rfl ?_
          simp [-lsub3_i, kcx, kcy, hrx, hry, hok, hlx, hly, hbb, hp, hp2, hq, hq2, kcmp, ih']
        by_cases h2 : K y < K x
        · have ih' := ih (x :: a) b (acc ++ [y]) (by simp; omega) (by simp; omega) fa (fun r hr => fb r (by simp [hr])) va (fun r hr => vb r (by simp [hr]))
          rw [mergeR, if_neg h1, if_pos h2]
          rw [cmpK_gt h1 h2] at kcmp
          have e : outM (acc ++ [y]) (mergeR (x :: a) b) = outM acc ((mergeR (x :: a) b).map (y :: ·)) := by cases mergeR (x :: a) b <;> simp [outM]
          rw [e] at ih'
          generalize outM acc ((mergeR (x :: a) b).map (y :: ·)) = out at ih' ⊢
          simp only [List.map_append, List.map_cons, List.map_nil] at ih'
          refine tree_lim rfl rfl ?_
          simp [-lsub3_i, kcx, kcy, hrx, hry, hok, hlx, hly, hbb, hp, hp2, hq, hq2, kcmp, ih']
        rw [mergeR, if_neg h1, if_neg h2]
        rw [cmpK_eq h1 h2] at kcmp
        by_cases h3 : x.2 + y.2 < 18446744073709551616
        · have ih' := ih a b (acc ++ [(x.1, x.2 + y.2)]) (by omega) (by simp; omega) (fun r hr => fa r (by simp [hr])) (fun r hr => fb r (by simp [hr])) (fun r hr => va r (by simp [hr])) (fun r hr => vb r (by simp [hr]))
          rw [if_pos h3]
          have e : outM (acc ++ [(x.1, x.2 + y.2)]) (mergeR a b) = outM acc ((mergeR a b).map ((x.1, x.2 + y.2) :: ·)) := by cases mergeR a b <;> simp [outM]
          rw [e] at ih'
          generalize outM acc ((mergeR a b).map ((x.1, x.2 + y.2) :: ·)) = out at ih' ⊢
          simp only [List.map_append, List.map_cons, List.map_nil] at ih'
          rw [show (x.2 + y.2) % 18446744073709551616 = x.2 + y.2 by omega, show (x.2 + y.2) / 18446744073709551616 = 0 by omega] at kadd
          refine tree_lim rfl rfl ?_
          simp [-lsub3_i, kcx, kcy, hrx, hry, hrs, hok, hlx, hly, hbb, hp, hp2, hq, hq2, kcmp, kadd, ih']
        · rw [if_neg h3]
          rw [show (x.2 + y.2) / 18446744073709551616 = 1 by omega] at kadd
          refine tree_lim rfl rfl ?_
          simp [-lsub3_i, kcx, kcy, hrx, hry, hok, hlx, hly, hbb, hp, hp2, hq, hq2, kcmp, kadd, outM]
end C
end Go.Proofs.YtamcdgfjjeldeaaGreatDoor
