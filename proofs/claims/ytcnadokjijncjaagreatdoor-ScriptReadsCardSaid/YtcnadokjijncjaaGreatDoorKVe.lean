/- What the trees compute: plain laws. -/
import Derived.Test.YtcnadokjijncjaaGreatDoorKVe3
namespace Go.Proofs.YtcnadokjijncjaaGreatDoor
open Go Go.Abs
set_option linter.unusedSimpArgs false
set_option linter.unusedVariables false
set_option maxRecDepth 100000
namespace V
def dec (n : Int) : List UInt8 := Lib.decDigits n.toNat
def lineS (c : Cm) : List UInt8 × Int :=
  if c.op = 5 then ([97, 108, 108, 10], 0)
  else if c.op = 3 then (if 100000 < c.n then ([], 18) else ([115, 116, 101, 112, 32] ++ dec c.n ++ [10], 0))
  else if c.en < 0 then ([], 18) else if 1 < c.en then ([], 18)
  else if c.op = 0 then (if c.w = [] then ([], 23) else if 1 < (cutF 32 c.w).length then ([], 23) else if 1 < (cutF 10 c.w).length then ([], 23) else if 64 < c.w.length then ([], 13)
    else ([97, 100, 100, 32] ++ Lib.itoa c.en ++ [32] ++ c.w ++ [32] ++ dec c.n ++ [10], 0))
  else if c.op = 1 then ([112, 117, 98, 108, 105, 115, 104, 32] ++ Lib.itoa c.en ++ [32] ++ dec c.n ++ [10], 0)
  else if c.op = 2 then ([112, 111, 108, 108, 32] ++ Lib.itoa c.en ++ [10], 0)
  else ([115, 104, 111, 119, 32] ++ Lib.itoa c.en ++ [10], 0)
def CmOk (c : Cm) : Prop := (0 ≤ c.op ∧ c.op ≤ 5) ∧ (-9223372036854775808 ≤ c.en ∧ c.en ≤ 9223372036854775807) ∧ (0 ≤ c.n ∧ c.n < 18446744073709551616) ∧ c.w.length ≤ 70000
theorem dec_len {n : Int} (h0 : 0 ≤ n) (h1 : n < 18446744073709551616) : (dec n).length ≤ 100 := by
  unfold dec
  have : ∀ (k u : Nat), u < 10 ^ (k + 1) → Lib.nDigits u ≤ k + 1 := by
    intro k
    induction k with
    | zero => intro u h; rw [Lib.nDigits_small (by simpa using h)]; exact Nat.le_refl _
    | succ k ih =>
      intro u h
      by_cases hu : u < 10
      · rw [Lib.nDigits_small hu]; omega
      · rw [Lib.nDigits_big hu]
        have := ih (u / 10) (by rw [Nat.pow_succ] at h; omega)
        omega
  rw [Lib.decDigits_length]
  exact Nat.le_trans (this 20 n.toNat (by omega)) (by decide)
theorem itoa_len {n : Int} (h0 : -9223372036854775808 ≤ n) (h1 : n ≤ 9223372036854775807) : (Lib.itoa n).length ≤ 100 := by
  unfold Lib.itoa
  split
  · have := dec_len (n := n.natAbs) (by omega) (by omega)
    unfold dec at this
    rw [Int.toNat_natCast] at this
    rw [List.length_cons]
    have h2 : Lib.nDigits n.natAbs ≤ 99 := by
      rw [Lib.decDigits_length] at this
      have : ∀ (k u : Nat), u < 10 ^ (k + 1) → Lib.nDigits u ≤ k + 1 := by
        intro k
        induction k with
        | zero => intro u h; rw [Lib.nDigits_small (by simpa using h)]; exact Nat.le_refl _
        | succ k ih =>
          intro u h
          by_cases hu : u < 10
          · rw [Lib.nDigits_small hu]; omega
          · rw [Lib.nDigits_big hu]
            have := ih (u / 10) (by rw [Nat.pow_succ] at h; omega)
            omega
      exact Nat.le_trans (this 20 n.natAbs (by omega)) (by decide)
    rw [Lib.decDigits_length]; omega
  · exact dec_len (n := n) (by omega) (by omega)
theorem tdig (n : Int) (h0 : 0 ≤ n) (h1 : n < 18446744073709551616) : TT.lim 40 [.i .u64 n] = some [.s (dec n)] := by
  have k := tfmt n h0 h1
  refine fn_lim rfl rfl ?_ rfl
  simp [k, dec]
theorem mlim {x : Int} {α : Type} {a b : Option α} (h : x ≤ 9223372036854775807) : (if x ≤ 9223372036854775807 then a else b) = a := if_pos h
theorem line0 (ln en n : Int) (w I D : List UInt8) (kd : TT.lim 40 [.i .u64 n] = some [.s D]) (ki : TT.lim 42 [.i .i64 en] = some [.s I]) (hD : D.length ≤ 100) (hI : I.length ≤ 100) (hw : w.length ≤ 70000)
    (g1 : ¬ en < 0) (g2 : ¬ 1 < en) (g3 : (w = []) = False) (C1 C2 : List GV) (kc1 : TT.lim 18 [.s w, .i .u8 32] = some [.l C1]) (kc2 : TT.lim 18 [.s w, .i .u8 10] = some [.l C2]) :
    TT.lim 39 [.g [.i .i64 ln, .i .u8 0, .i .i64 en, .i .u64 n, .s w]] = some (if 1 < C1.length then [.s [], .i .i64 23] else if 1 < C2.length then [.s [], .i .i64 23] else if 64 < w.length then [.s [], .i .i64 13] else [.s ([97, 100, 100, 32] ++ I ++ [32] ++ w ++ [32] ++ D ++ [10]), .i .i64 0]) := by
  obtain ⟨A, hA⟩ : ∃ A : List UInt8, [97, 100, 100, 32] = A := ⟨_, rfl⟩
  obtain ⟨S, hS⟩ : ∃ A : List UInt8, [32] = A := ⟨_, rfl⟩
  obtain ⟨N, hN⟩ : ∃ A : List UInt8, [10] = A := ⟨_, rfl⟩
  have lA : A.length = 4 := by rw [← hA]; rfl
  have lS : S.length = 1 := by rw [← hS]; rfl
  have lN : N.length = 1 := by rw [← hN]; rfl
  rw [hS] at hA
  rw [hS, hA, hN]
  by_cases g4 : 1 < C1.length
  · rw [if_pos g4]
    have g4' : (1 : Int) < C1.length := by omega
    refine fn_lim rfl rfl ?_ rfl
    repeat' (first | (rw [mlim]; rotate_left; omega) | simp [hA, hS, hN, g1, g2, g3, kc1, g4, g4', ki])
  rw [if_neg g4]
  have g4' : ¬ (1 : Int) < C1.length := by omega
  by_cases g5 : 1 < C2.length
  · rw [if_pos g5]
    have g5' : (1 : Int) < C2.length := by omega
    refine fn_lim rfl rfl ?_ rfl
    repeat' (first | (rw [mlim]; rotate_left; omega) | simp [hA, hS, hN, g1, g2, g3, kc1, g4, g4', kc2, g5, g5', ki])
  rw [if_neg g5]
  have g5' : ¬ (1 : Int) < C2.length := by omega
  by_cases g6 : 64 < w.length
  · rw [if_pos g6]
    have g6' : (64 : Int) < (w.length : Int) := by omega
    refine fn_lim rfl rfl ?_ rfl
    repeat' (first | (rw [mlim]; rotate_left; omega) | simp [hA, hS, hN, g1, g2, g3, kc1, g4, g4', kc2, g5, g5', g6, g6', ki])
  rw [if_neg g6]
  have g6' : ¬ (64 : Int) < (w.length : Int) := by omega
  refine fn_lim rfl rfl ?_ rfl
  repeat' (first | (rw [mlim]; rotate_left; omega) | simp [hA, hS, hN, g1, g2, g3, kc1, g4, g4', kc2, g5, g5', g6, g6', ki, kd])
theorem line1 (ln en n : Int) (w I D : List UInt8) (kd : TT.lim 40 [.i .u64 n] = some [.s D]) (ki : TT.lim 42 [.i .i64 en] = some [.s I]) (hD : D.length ≤ 100) (hI : I.length ≤ 100) (g1 : ¬ en < 0) (g2 : ¬ 1 < en) :
    TT.lim 39 [.g [.i .i64 ln, .i .u8 1, .i .i64 en, .i .u64 n, .s w]] = some [.s ([112, 117, 98, 108, 105, 115, 104, 32] ++ I ++ [32] ++ D ++ [10]), .i .i64 0] := by
  obtain ⟨A, hA⟩ : ∃ A : List UInt8, [112, 117, 98, 108, 105, 115, 104, 32] = A := ⟨_, rfl⟩
  obtain ⟨S, hS⟩ : ∃ A : List UInt8, [32] = A := ⟨_, rfl⟩
  obtain ⟨N, hN⟩ : ∃ A : List UInt8, [10] = A := ⟨_, rfl⟩
  have lA : A.length = 8 := by rw [← hA]; rfl
  have lS : S.length = 1 := by rw [← hS]; rfl
  have lN : N.length = 1 := by rw [← hN]; rfl
  rw [hS] at hA
  rw [hS, hA, hN]
  refine fn_lim rfl rfl ?_ rfl
  repeat' (first | (rw [mlim]; rotate_left; omega) | simp [hA, hS, hN, g1, g2, ki, kd])
theorem line2 (ln en n : Int) (w I : List UInt8) (ki : TT.lim 42 [.i .i64 en] = some [.s I]) (hI : I.length ≤ 100) (g1 : ¬ en < 0) (g2 : ¬ 1 < en) :
    TT.lim 39 [.g [.i .i64 ln, .i .u8 2, .i .i64 en, .i .u64 n, .s w]] = some [.s ([112, 111, 108, 108, 32] ++ I ++ [10]), .i .i64 0] := by
  obtain ⟨A, hA⟩ : ∃ A : List UInt8, [112, 111, 108, 108, 32] = A := ⟨_, rfl⟩
  obtain ⟨S, hS⟩ : ∃ A : List UInt8, [32] = A := ⟨_, rfl⟩
  obtain ⟨N, hN⟩ : ∃ A : List UInt8, [10] = A := ⟨_, rfl⟩
  have lA : A.length = 5 := by rw [← hA]; rfl
  have lS : S.length = 1 := by rw [← hS]; rfl
  have lN : N.length = 1 := by rw [← hN]; rfl
  rw [hA, hN]
  refine fn_lim rfl rfl ?_ rfl
  repeat' (first | (rw [mlim]; rotate_left; omega) | simp [hA, hN, g1, g2, ki])
theorem line4 (ln en n : Int) (w I : List UInt8) (ki : TT.lim 42 [.i .i64 en] = some [.s I]) (hI : I.length ≤ 100) (g1 : ¬ en < 0) (g2 : ¬ 1 < en) :
    TT.lim 39 [.g [.i .i64 ln, .i .u8 4, .i .i64 en, .i .u64 n, .s w]] = some [.s ([115, 104, 111, 119, 32] ++ I ++ [10]), .i .i64 0] := by
  obtain ⟨A, hA⟩ : ∃ A : List UInt8, [115, 104, 111, 119, 32] = A := ⟨_, rfl⟩
  obtain ⟨S, hS⟩ : ∃ A : List UInt8, [32] = A := ⟨_, rfl⟩
  obtain ⟨N, hN⟩ : ∃ A : List UInt8, [10] = A := ⟨_, rfl⟩
  have lA : A.length = 5 := by rw [← hA]; rfl
  have lS : S.length = 1 := by rw [← hS]; rfl
  have lN : N.length = 1 := by rw [← hN]; rfl
  rw [hA, hN]
  refine fn_lim rfl rfl ?_ rfl
  repeat' (first | (rw [mlim]; rotate_left; omega) | simp [hA, hN, g1, g2, ki])
theorem line3 (ln en n : Int) (w D : List UInt8) (kd : TT.lim 40 [.i .u64 n] = some [.s D]) (hD : D.length ≤ 100) (g1 : ¬ 100000 < n) :
    TT.lim 39 [.g [.i .i64 ln, .i .u8 3, .i .i64 en, .i .u64 n, .s w]] = some [.s ([115, 116, 101, 112, 32] ++ D ++ [10]), .i .i64 0] := by
  obtain ⟨A, hA⟩ : ∃ A : List UInt8, [115, 116, 101, 112, 32] = A := ⟨_, rfl⟩
  obtain ⟨S, hS⟩ : ∃ A : List UInt8, [32] = A := ⟨_, rfl⟩
  obtain ⟨N, hN⟩ : ∃ A : List UInt8, [10] = A := ⟨_, rfl⟩
  have lA : A.length = 5 := by rw [← hA]; rfl
  have lS : S.length = 1 := by rw [← hS]; rfl
  have lN : N.length = 1 := by rw [← hN]; rfl
  rw [hA, hN]
  refine fn_lim rfl rfl ?_ rfl
  repeat' (first | (rw [mlim]; rotate_left; omega) | simp [hA, hN, g1, kd])
theorem lineE (ln op en n : Int) (w : List UInt8) (ho : op = 0 ∨ op = 1 ∨ op = 2 ∨ op = 4) (g : en < 0 ∨ 1 < en) : TT.lim 39 [.g [.i .i64 ln, .i .u8 op, .i .i64 en, .i .u64 n, .s w]] = some [.s [], .i .i64 18] := by
  by_cases g1 : en < 0
  · clear g
    rcases ho with rfl | rfl | rfl | rfl <;> (refine fn_lim rfl rfl ?_ rfl; simp [g1])
  · have g2 : 1 < en := g.resolve_left g1
    clear g
    rcases ho with rfl | rfl | rfl | rfl <;> (refine fn_lim rfl rfl ?_ rfl; simp [g1, g2])
theorem lineW (ln en n : Int) (I : List UInt8) (ki : TT.lim 42 [.i .i64 en] = some [.s I]) (hI : I.length ≤ 100) (g1 : ¬ en < 0) (g2 : ¬ 1 < en) :
    TT.lim 39 [.g [.i .i64 ln, .i .u8 0, .i .i64 en, .i .u64 n, .s []]] = some [.s [], .i .i64 23] := by
  obtain ⟨A, hA⟩ : ∃ A : List UInt8, [97, 100, 100, 32] = A := ⟨_, rfl⟩
  have lA : A.length = 4 := by rw [← hA]; rfl
  refine fn_lim rfl rfl ?_ rfl
  repeat' (first | (rw [mlim]; rotate_left; omega) | simp [hA, g1, g2, ki])
theorem rlin0 (ln en n : Int) (w : List UInt8) (e1 : -9223372036854775808 ≤ en) (e2 : en ≤ 9223372036854775807) (n1 : 0 ≤ n) (n2 : n < 18446744073709551616) (hw : w.length ≤ 70000) : TT.lim 39 [cmG ⟨ln, 0, en, n, w⟩] = some [.s (lineS ⟨ln, 0, en, n, w⟩).1, .i .i64 (lineS ⟨ln, 0, en, n, w⟩).2] := by
  have kd := tdig n n1 n2
  have ki := titoa en e1 e2
  have hD := dec_len n1 n2
  have hI := itoa_len e1 e2
  unfold lineS
  dsimp only [cmG]
  rw [if_neg (by decide), if_neg (by decide)]
  by_cases g1 : en < 0
  · rw [if_pos g1]; exact lineE ln 0 en n w (.inl rfl) (.inl g1)
  rw [if_neg g1]
  by_cases g2 : 1 < en
  · rw [if_pos g2]; exact lineE ln 0 en n w (.inl rfl) (.inr g2)
  rw [if_neg g2, if_pos rfl]
  by_cases g3 : w = []
  · rw [if_pos g3]
    subst g3
    exact lineW ln en n _ ki hI g1 g2
  rw [if_neg g3]
  have kc1 := rcut_ok w 32 hw
  have kc2 := rcut_ok w 10 hw
  rw [show ((32 : UInt8).toNat : Int) = 32 from rfl] at kc1
  rw [show ((10 : UInt8).toNat : Int) = 10 from rfl] at kc2
  have k := line0 ln en n w _ _ kd ki hD hI hw g1 g2 (eq_false g3) _ _ kc1 kc2
  rw [List.length_map, List.length_map] at k
  rw [k]
  split
  · rfl
  split
  · rfl
  split
  · rfl
  · rfl
theorem rlin1 (ln en n : Int) (w : List UInt8) (e1 : -9223372036854775808 ≤ en) (e2 : en ≤ 9223372036854775807) (n1 : 0 ≤ n) (n2 : n < 18446744073709551616) (hw : w.length ≤ 70000) : TT.lim 39 [cmG ⟨ln, 1, en, n, w⟩] = some [.s (lineS ⟨ln, 1, en, n, w⟩).1, .i .i64 (lineS ⟨ln, 1, en, n, w⟩).2] := by
  have kd := tdig n n1 n2
  have ki := titoa en e1 e2
  have hD := dec_len n1 n2
  have hI := itoa_len e1 e2
  unfold lineS
  dsimp only [cmG]
  rw [if_neg (by decide), if_neg (by decide)]
  by_cases g1 : en < 0
  · rw [if_pos g1]; exact lineE ln 1 en n w (.inr (.inl rfl)) (.inl g1)
  rw [if_neg g1]
  by_cases g2 : 1 < en
  · rw [if_pos g2]; exact lineE ln 1 en n w (.inr (.inl rfl)) (.inr g2)
  rw [if_neg g2, if_neg (by decide), if_pos rfl]
  exact line1 ln en n w _ _ kd ki hD hI g1 g2
theorem rlin2 (ln en n : Int) (w : List UInt8) (e1 : -9223372036854775808 ≤ en) (e2 : en ≤ 9223372036854775807) (n1 : 0 ≤ n) (n2 : n < 18446744073709551616) (hw : w.length ≤ 70000) : TT.lim 39 [cmG ⟨ln, 2, en, n, w⟩] = some [.s (lineS ⟨ln, 2, en, n, w⟩).1, .i .i64 (lineS ⟨ln, 2, en, n, w⟩).2] := by
  have kd := tdig n n1 n2
  have ki := titoa en e1 e2
  have hD := dec_len n1 n2
  have hI := itoa_len e1 e2
  unfold lineS
  dsimp only [cmG]
  rw [if_neg (by decide), if_neg (by decide)]
  by_cases g1 : en < 0
  · rw [if_pos g1]; exact lineE ln 2 en n w (.inr (.inr (.inl rfl))) (.inl g1)
  rw [if_neg g1]
  by_cases g2 : 1 < en
  · rw [if_pos g2]; exact lineE ln 2 en n w (.inr (.inr (.inl rfl))) (.inr g2)
  rw [if_neg g2, if_neg (by decide), if_neg (by decide), if_pos rfl]
  exact line2 ln en n w _ ki hI g1 g2
theorem rlin3 (ln en n : Int) (w : List UInt8) (e1 : -9223372036854775808 ≤ en) (e2 : en ≤ 9223372036854775807) (n1 : 0 ≤ n) (n2 : n < 18446744073709551616) (hw : w.length ≤ 70000) : TT.lim 39 [cmG ⟨ln, 3, en, n, w⟩] = some [.s (lineS ⟨ln, 3, en, n, w⟩).1, .i .i64 (lineS ⟨ln, 3, en, n, w⟩).2] := by
  have kd := tdig n n1 n2
  have ki := titoa en e1 e2
  have hD := dec_len n1 n2
  have hI := itoa_len e1 e2
  unfold lineS
  dsimp only [cmG]
  rw [if_neg (by decide), if_pos rfl]
  by_cases g1 : 100000 < n
  · rw [if_pos g1]
    clear kd ki hD hI
    refine fn_lim rfl rfl ?_ rfl
    simp [g1]
  rw [if_neg g1]
  exact line3 ln en n w _ kd hD g1
theorem rlin4 (ln en n : Int) (w : List UInt8) (e1 : -9223372036854775808 ≤ en) (e2 : en ≤ 9223372036854775807) (n1 : 0 ≤ n) (n2 : n < 18446744073709551616) (hw : w.length ≤ 70000) : TT.lim 39 [cmG ⟨ln, 4, en, n, w⟩] = some [.s (lineS ⟨ln, 4, en, n, w⟩).1, .i .i64 (lineS ⟨ln, 4, en, n, w⟩).2] := by
  have kd := tdig n n1 n2
  have ki := titoa en e1 e2
  have hD := dec_len n1 n2
  have hI := itoa_len e1 e2
  unfold lineS
  dsimp only [cmG]
  rw [if_neg (by decide), if_neg (by decide)]
  by_cases g1 : en < 0
  · rw [if_pos g1]; exact lineE ln 4 en n w (.inr (.inr (.inr rfl))) (.inl g1)
  rw [if_neg g1]
  by_cases g2 : 1 < en
  · rw [if_pos g2]; exact lineE ln 4 en n w (.inr (.inr (.inr rfl))) (.inr g2)
  rw [if_neg g2, if_neg (by decide), if_neg (by decide), if_neg (by decide)]
  exact line4 ln en n w _ ki hI g1 g2
theorem rlin5 (ln en n : Int) (w : List UInt8) (e1 : -9223372036854775808 ≤ en) (e2 : en ≤ 9223372036854775807) (n1 : 0 ≤ n) (n2 : n < 18446744073709551616) (hw : w.length ≤ 70000) : TT.lim 39 [cmG ⟨ln, 5, en, n, w⟩] = some [.s (lineS ⟨ln, 5, en, n, w⟩).1, .i .i64 (lineS ⟨ln, 5, en, n, w⟩).2] := by
  have kd := tdig n n1 n2
  have ki := titoa en e1 e2
  have hD := dec_len n1 n2
  have hI := itoa_len e1 e2
  unfold lineS
  dsimp only [cmG]
  rw [if_pos rfl]
  clear kd ki hD hI
  refine fn_lim rfl rfl ?_ rfl
  simp
theorem rline_ok (c : Cm) (h : CmOk c) : TT.lim 39 [cmG c] = some [.s (lineS c).1, .i .i64 (lineS c).2] := by
  obtain ⟨ln, op, en, n, w⟩ := c
  obtain ⟨⟨o1, o2⟩, ⟨e1, e2⟩, ⟨n1, n2⟩, hw⟩ := h
  simp only at o1 o2 e1 e2 n1 n2 hw
  rcases (show op = 0 ∨ op = 1 ∨ op = 2 ∨ op = 3 ∨ op = 4 ∨ op = 5 by omega) with rfl | rfl | rfl | rfl | rfl | rfl
  · exact rlin0 ln en n w e1 e2 n1 n2 hw
  · exact rlin1 ln en n w e1 e2 n1 n2 hw
  · exact rlin2 ln en n w e1 e2 n1 n2 hw
  · exact rlin3 ln en n w e1 e2 n1 n2 hw
  · exact rlin4 ln en n w e1 e2 n1 n2 hw
  · exact rlin5 ln en n w e1 e2 n1 n2 hw
theorem getG {α : Type} {l : List α} {i : Nat} (f : α → GV) (h : i < l.length) : (l.map f)[i]? = some (f l[i]) := by rw [List.getElem?_map, List.getElem?_eq_getElem h]; rfl
theorem rfates_refl (l : List Ft) (hl : l.length ≤ 70000) : TT.lim 36 [.l (l.map ftG), .l (l.map ftG)] = some [.b true] := by
  have loop : ∀ (m i : Nat), i + m = l.length → TT.lim 37 [.l (l.map ftG), .l (l.map ftG), .i .i64 l.length, .i .i64 i] = some [.i .i64 1] := by
    intro m
    induction m with
    | zero =>
      intro i hi
      have h : ¬ ((i : Int) < l.length) := by omega
      generalize l.map ftG = L at *
      refine tree_lim rfl rfl ?_
      simp [h]
    | succ m ih =>
      intro i hi
      have hlt : i < l.length := by omega
      have h : ((i : Int) < l.length) := by omega
      have hw := wrap64 (n := (i : Int) + 1) (by omega) (by omega)
      have hcast : ((i + 1 : Nat) : Int) = (i : Int) + 1 := by omega
      have hget := getG ftG hlt
      have ih := ih (i + 1) (by omega)
      rw [hcast] at ih
      generalize l[i] = f at *
      obtain ⟨f1, f2, f3, f4, f5, f6⟩ := f
      generalize l.map ftG = L at *
      generalize (l.length : Int) = N at *
      cases f1
      · have hq : eqGs [2, 0, 0, 0, 0, 0] [.b false, .i .u8 f2, .i .u8 f3, .i .i64 f4, .i .i64 f5, .i .u8 f6] [.b false, .i .u8 f2, .i .u8 f3, .i .i64 f4, .i .i64 f5, .i .u8 f6] = some true := by simp [eqGs]
        refine tree_lim rfl rfl ?_
        simp [h, hw, hget, hq, ih]
      · refine tree_lim rfl rfl ?_
        simp [h, hw, hget, ih]
  have k := loop l.length 0 (by omega)
  simp only [Int.natCast_zero] at k
  have hll : ((l.map ftG).length : Int) = (l.length : Int) := by rw [List.length_map]
  generalize l.map ftG = L at *
  refine fn_lim rfl rfl ?_ rfl
  simp [hll, k]
theorem requal_refl (l : List Cm) (hl : l.length ≤ 70000) : TT.lim 43 [.l (l.map cmG), .l (l.map cmG)] = some [.b true] := by
  have loop : ∀ (m i : Nat), i + m = l.length → TT.lim 44 [.l (l.map cmG), .l (l.map cmG), .i .i64 l.length, .i .i64 i] = some [.i .i64 1] := by
    intro m
    induction m with
    | zero =>
      intro i hi
      have h : ¬ ((i : Int) < l.length) := by omega
      generalize l.map cmG = L at *
      refine tree_lim rfl rfl ?_
      simp [h]
    | succ m ih =>
      intro i hi
      have hlt : i < l.length := by omega
      have h : ((i : Int) < l.length) := by omega
      have hw := wrap64 (n := (i : Int) + 1) (by omega) (by omega)
      have hcast : ((i + 1 : Nat) : Int) = (i : Int) + 1 := by omega
      have hget := getG cmG hlt
      have ih := ih (i + 1) (by omega)
      rw [hcast] at ih
      generalize l[i] = f at *
      have hq : eqGs [0, 0, 0, 0, 1] [.i .i64 f.ln, .i .u8 f.op, .i .i64 f.en, .i .u64 f.n, .s f.w] [.i .i64 f.ln, .i .u8 f.op, .i .i64 f.en, .i .u64 f.n, .s f.w] = some true := by simp [eqGs]
      generalize l.map cmG = L at *
      generalize (l.length : Int) = N at *
      refine tree_lim rfl rfl ?_
      simp [h, hw, hget, hq, ih]
  have k := loop l.length 0 (by omega)
  simp only [Int.natCast_zero] at k
  have hll : ((l.map cmG).length : Int) = (l.length : Int) := by rw [List.length_map]
  generalize l.map cmG = L at *
  refine fn_lim rfl rfl ?_ rfl
  simp [hll, k]
theorem rsame28 (s : Sc) (hs : ScOk s) (hc : ∀ c ∈ s.cm, CmOk c) : TT.lim 35 [.g (scL s), .g (scL s)] = some [.b true] := by
  obtain ⟨m1, m2, m3, m4, th, bk, cm⟩ := s
  obtain ⟨hs1, hs2⟩ := hs
  simp only at hs1 hs2 hc
  have loop : ∀ (m i : Nat), i + m = cm.length → TT.lim 38 [.i .i64 cm.length, .i .i64 i, nG m1, nG m2, nG m3, nG m4, .l (th.map ftG), .l (bk.map ftG), .l (cm.map cmG), nG m1, nG m2, nG m3, nG m4, .l (th.map ftG), .l (bk.map ftG), .l (cm.map cmG)] = some [.i .i64 1] := by
    intro m
    induction m with
    | zero =>
      intro i hi
      have h : ¬ ((i : Int) < cm.length) := by omega
      generalize cm.map cmG = L at *
      refine tree_lim rfl rfl ?_
      simp [h]
    | succ m ih =>
      intro i hi
      have hlt : i < cm.length := by omega
      have h : ((i : Int) < cm.length) := by omega
      have hw := wrap64 (n := (i : Int) + 1) (by omega) (by omega)
      have hcast : ((i + 1 : Nat) : Int) = (i : Int) + 1 := by omega
      have hget := getG cmG hlt
      have ih := ih (i + 1) (by omega)
      rw [hcast] at ih
      have kl := rline_ok cm[i] (hc _ (List.getElem_mem hlt))
      generalize cm[i] = c at *
      generalize lineS c = S at *
      simp only [cmG] at kl
      generalize th.map ftG = T at *
      generalize bk.map ftG = B at *
      generalize cm.map cmG = L at *
      generalize (cm.length : Int) = N at *
      refine tree_lim rfl rfl ?_
      simp [h, hw, hget, kl, ih]
  have k := loop cm.length 0 (by omega)
  simp only [Int.natCast_zero, nG] at k
  have hll : ((cm.map cmG).length : Int) = (cm.length : Int) := by rw [List.length_map]
  have k1 := rfates_refl th (by omega)
  have k2 := rfates_refl bk (by omega)
  simp only [scL, nG]
  generalize th.map ftG = T at *
  generalize bk.map ftG = B at *
  generalize cm.map cmG = L at *
  refine fn_lim rfl rfl ?_ rfl
  simp [hll, k1, k2, k]
theorem fates22 (l : List Ft) (hl : l.length ≤ 70000) : TT.lim 32 [.l (l.map ftG)] = some [.l (l.map ftG)] := by
  have loop : ∀ (m i : Nat), i + m = l.length → TT.lim 33 [.l ((l.take i).map ftG), .l (l.map ftG), .i .i64 l.length, .i .i64 i] = some [.i .i64 0, .l (l.map ftG)] := by
    intro m
    induction m with
    | zero =>
      intro i hi
      have h : ¬ ((i : Int) < l.length) := by omega
      rw [List.take_of_length_le (by omega)]
      generalize l.map ftG = L at *
      refine tree_lim rfl rfl ?_
      simp [h]
    | succ m ih =>
      intro i hi
      have hlt : i < l.length := by omega
      have h : ((i : Int) < l.length) := by omega
      have hw := wrap64 (n := (i : Int) + 1) (by omega) (by omega)
      have hcast : ((i + 1 : Nat) : Int) = (i : Int) + 1 := by omega
      have hget := getG ftG hlt
      have ih := ih (i + 1) (by omega)
      have c1 : 2 * (((l.take i).map ftG).length + 1) * 32 ≤ 281474976710656 ∧ ((l.take i).map ftG).length + 1 ≤ 281474976710656 := by rw [List.length_map, List.length_take]; omega
      rw [hcast, List.take_add_one, List.getElem?_eq_getElem hlt, List.map_append] at ih
      simp only [Option.toList_some, List.map_cons, List.map_nil] at ih
      have hE := elemF l[i]
      generalize l[i] = f at *
      simp only [ftG] at ih hE
      generalize (l.take i).map ftG = A at *
      generalize l.map ftG = L at *
      generalize (l.length : Int) = N at *
      refine tree_lim rfl rfl ?_
      simp [h, hw, hget, hE, c1, ih]
  have k := loop l.length 0 (by omega)
  rw [List.take_zero, List.map_nil] at k
  simp only [Int.natCast_zero] at k
  have hll : ((l.map ftG).length : Int) = (l.length : Int) := by rw [List.length_map]
  generalize l.map ftG = L at *
  refine fn_lim rfl rfl ?_ rfl
  simp [hll, k]
theorem of28 (s : Sc) (hs : ScOk s) : TT.lim 31 [.g (scL s)] = some [.g (scL s)] := by
  obtain ⟨m1, m2, m3, m4, th, bk, cm⟩ := s
  obtain ⟨hs1, hs2⟩ := hs
  simp only at hs1 hs2
  have loop : ∀ (m i : Nat), i + m = cm.length → TT.lim 34 [.l (cm.map cmG), .i .i64 cm.length, .i .i64 i, nG m1, nG m2, nG m3, nG m4, .l (th.map ftG), .l (bk.map ftG), .l ((cm.take i).map cmG)] = some [.i .i64 0, .l (cm.map cmG)] := by
    intro m
    induction m with
    | zero =>
      intro i hi
      have h : ¬ ((i : Int) < cm.length) := by omega
      rw [List.take_of_length_le (by omega)]
      generalize cm.map cmG = L at *
      refine tree_lim rfl rfl ?_
      simp [h]
    | succ m ih =>
      intro i hi
      have hlt : i < cm.length := by omega
      have h : ((i : Int) < cm.length) := by omega
      have hw := wrap64 (n := (i : Int) + 1) (by omega) (by omega)
      have hcast : ((i + 1 : Nat) : Int) = (i : Int) + 1 := by omega
      have hget := getG cmG hlt
      have ih := ih (i + 1) (by omega)
      have c1 : 2 * (((cm.take i).map cmG).length + 1) * 48 ≤ 281474976710656 ∧ ((cm.take i).map cmG).length + 1 ≤ 281474976710656 := by rw [List.length_map, List.length_take]; omega
      rw [hcast, List.take_add_one, List.getElem?_eq_getElem hlt, List.map_append] at ih
      simp only [Option.toList_some, List.map_cons, List.map_nil] at ih
      have hE := elemC cm[i]
      generalize cm[i] = f at *
      simp only [cmG] at ih hE
      generalize (cm.take i).map cmG = A at *
      generalize th.map ftG = T at *
      generalize bk.map ftG = B at *
      generalize cm.map cmG = L at *
      generalize (cm.length : Int) = N at *
      refine tree_lim rfl rfl ?_
      simp [h, hw, hget, hE, c1, ih]
  have k := loop cm.length 0 (by omega)
  rw [List.take_zero, List.map_nil] at k
  simp only [Int.natCast_zero, nG] at k
  have hll : ((cm.map cmG).length : Int) = (cm.length : Int) := by rw [List.length_map]
  have k1 := fates22 th (by omega)
  have k2 := fates22 bk (by omega)
  simp only [scL, nG]
  generalize th.map ftG = T at *
  generalize bk.map ftG = B at *
  generalize cm.map cmG = L at *
  refine fn_lim rfl rfl ?_ rfl
  simp [hll, k1, k2, k]
theorem cmOk_mk {ln op en n : Int} {w : List UInt8} (h1 : 0 ≤ op ∧ op ≤ 5) (h2 : -9223372036854775808 ≤ en ∧ en ≤ 9223372036854775807) (h3 : 0 ≤ n ∧ n < 18446744073709551616) (h4 : w.length ≤ 70000) : CmOk ⟨ln, op, en, n, w⟩ := ⟨h1, h2, h3, h4⟩
theorem cmd1_cm {op most : Nat} {f : Nat → Cm} {r : List (List UInt8)} (h : (cmd1 op most f r).2 = 0) (hf : ∀ n, n ≤ most → n < 18446744073709551616 → CmOk (f n)) : CmOk (cmd1 op most f r).1 := by
  unfold cmd1 at *
  split at h
  · split at h
    · next h1 => exact absurd h h1
    · next h1 => simp only [if_neg h1]; exact hf _ numE_le (numE_lt _ _)
  · cases h
theorem addF_cm {r : List (List UInt8)} (h : (addF r).2 = 0) : CmOk (addF r).1 := by
  unfold addF at *
  split at h
  · next a b c =>
    by_cases h1 : (numE a 1).2 = 0
    rotate_left
    · rw [if_pos h1] at h; exact absurd h h1
    simp only [if_neg (show ¬ (numE a 1).2 ≠ 0 by simpa using h1)] at *
    by_cases h2 : 64 < b.length
    · rw [if_pos h2] at h; exact absurd h (by decide)
    simp only [if_neg h2] at *
    by_cases h3 : (numE c 18446744073709551615).2 = 0
    rotate_left
    · rw [if_pos h3] at h; exact absurd h h3
    simp only [if_neg (show ¬ (numE c 18446744073709551615).2 ≠ 0 by simpa using h3)] at *
    have l1 := numE_le (w := a) (m := 1)
    have l2 := numE_lt c 18446744073709551615
    exact cmOk_mk (by decide) ⟨by omega, by omega⟩ ⟨by omega, by omega⟩ (by omega)
  · cases h
theorem pubF_cm {r : List (List UInt8)} (h : (pubF r).2 = 0) : CmOk (pubF r).1 := by
  unfold pubF at *
  split at h
  · next a c =>
    by_cases h1 : (numE a 1).2 = 0
    rotate_left
    · rw [if_pos h1] at h; exact absurd h h1
    simp only [if_neg (show ¬ (numE a 1).2 ≠ 0 by simpa using h1)] at *
    by_cases h3 : (numE c 18446744073709551615).2 = 0
    rotate_left
    · rw [if_pos h3] at h; exact absurd h h3
    simp only [if_neg (show ¬ (numE c 18446744073709551615).2 ≠ 0 by simpa using h3)] at *
    have l1 := numE_le (w := a) (m := 1)
    have l2 := numE_lt c 18446744073709551615
    exact cmOk_mk (by decide) ⟨by omega, by omega⟩ ⟨by omega, by omega⟩ (by decide)
  · cases h
theorem cmdF_cm {w : List UInt8} {r : List (List UInt8)} (h : (cmdF w r).2 = 0) : CmOk (cmdF w r).1 := by
  by_cases w1 : w = wAdd
  · subst w1; rw [cmdF_add] at *; exact addF_cm h
  by_cases w2 : w = wPub
  · subst w2; rw [cmdF_pub] at *; exact pubF_cm h
  by_cases w3 : w = wPoll
  · subst w3; rw [cmdF_poll] at *
    exact cmd1_cm h fun n h1 h2 => cmOk_mk (by decide) ⟨by omega, by omega⟩ (by decide) (by decide)
  by_cases w4 : w = wStep
  · subst w4; rw [cmdF_step] at *
    exact cmd1_cm h fun n h1 h2 => cmOk_mk (by decide) (by decide) ⟨by omega, by omega⟩ (by decide)
  by_cases w5 : w = wShow
  · subst w5; rw [cmdF_show] at *
    exact cmd1_cm h fun n h1 h2 => cmOk_mk (by decide) ⟨by omega, by omega⟩ (by decide) (by decide)
  by_cases w6 : w = wAll
  · subst w6; rw [cmdF_all] at *
    split at h
    · next e => rw [if_pos e]; exact cmOk_mk (by decide) (by decide) (by decide) (by decide)
    · cases h
  · rw [cmdF_other r w1 w2 w3 w4 w5 w6] at h; cases h
def CsOk (s : Sc) : Prop := ∀ c ∈ s.cm, CmOk c
theorem furF_cs {no : Int} {w : List UInt8} {r : List (List UInt8)} {s : Sc} (h : CsOk s) : CsOk (furF no w r s).2 := by
  unfold furF
  split
  · split
    · exact h
    · split <;> exact h
  split
  · split
    · exact h
    · split <;> exact h
  split
  · exact h
  · next h1 =>
    split
    · exact h
    · intro c hc
      rcases List.mem_append.1 hc with hc | hc
      · exact h c hc
      · rw [List.mem_singleton.1 hc]
        exact cmdF_cm (w := w) (r := r) (by simpa using h1)
theorem stepF_cs {no : Nat} {b : Bool} {s : Sc} {l : List UInt8} (h : CsOk s) : CsOk (stepF no b s l).2.2 := by
  cases e : lineF l with
  | nil => rw [stepF_nil e]; exact h
  | cons w r =>
    rw [stepF_cons e]
    split
    · split
      · exact h
      · exact h
    · exact furF_cs h
theorem runF_ok : ∀ {ls : List (List UInt8)} {no : Nat} {b : Bool} {s : Sc}, ScOk s → CsOk s → ScOk (runF no b s ls).2.2.2 ∧ CsOk (runF no b s ls).2.2.2
  | [], _, _, _, h, h' => ⟨h, h'⟩
  | l :: ls, no, b, s, h, h' => by
    rw [runF]
    split
    · exact ⟨h, h'⟩
    · exact runF_ok (stepF_ok h) (stepF_cs h')
theorem parseF_ok (t : List UInt8) : ScOk (parseF t).1 ∧ CsOk (parseF t).1 := by
  have z : ScOk zSc ∧ CsOk zSc := ⟨⟨by decide, by decide⟩, fun c h => by cases h⟩
  unfold parseF
  split
  · exact z
  split
  · exact z
  split
  · exact z
  · exact runF_ok z.1 z.2
theorem rparse_ok (t : List UInt8) (ht : t.length ≤ 65536) : TT.lim 17 [.s t] = some [.g (scL (parseF t).1), .i .i64 (parseF t).2.1, .i .i64 (parseF t).2.2] := by
  have k1 := rcut_ok t 10 (by omega)
  have hcl := cutF_len 10 t
  have k2 := rparse0 (cutF 10 t) (by omega) (fun l hl => Nat.le_trans (cutF_mem_len 10 t l hl) ht) (cutF 10 t).length 0 false zSc (by omega) ⟨by decide, by decide⟩
  rw [List.drop_zero] at k2
  have hml := mapLen (cutF 10 t)
  have h0 : ¬ (65536 : Int) < t.length := by omega
  have hz : scL zSc = [.i .u64 0, .i .u64 0, .i .u64 0, .i .u64 0, .l [], .l [], .l []] := rfl
  have e10 : ((10 : UInt8).toNat : Int) = 10 := rfl
  rw [e10] at k1
  rw [hz] at k2
  simp only [Int.natCast_zero] at k2
  unfold parseF
  rw [if_neg (by omega)]
  generalize runF 0 false zSc (cutF 10 t) = R at *
  generalize (cutF 10 t).map GV.s = C at *
  generalize ((cutF 10 t).length : Int) = CL at *
  unfold ansP at k2
  by_cases e : R.2.1 = 0
  · rw [if_neg (by simpa using e)] at k2
    rw [if_neg (by simpa using e)]
    by_cases e2 : R.2.2.1 = false
    · rw [if_pos e2, hz]
      rw [e2, scL_eq] at k2
      generalize R.2.2.2.th.map ftG = T' at *
      generalize R.2.2.2.bk.map ftG = B' at *
      generalize R.2.2.2.cm.map cmG = C' at *
      refine fn_lim rfl rfl ?_ rfl
      simp [h0, k1, hml, k2]
    · rw [if_neg e2]
      have e3 : R.2.2.1 = true := by simpa using e2
      rw [e3] at k2
      simp only [scL_eq, nG] at k2 ⊢
      generalize R.2.2.2.th.map ftG = T' at *
      generalize R.2.2.2.bk.map ftG = B' at *
      generalize R.2.2.2.cm.map cmG = C' at *
      refine fn_lim rfl rfl ?_ rfl
      simp [h0, k1, hml, k2]
  · rw [if_pos e] at k2
    rw [if_pos e, hz]
    refine fn_lim rfl rfl ?_ rfl
    simp [h0, k1, hml, k2]
theorem scriptReads (gs : List GV) (h : hasArgs [(false, [.str])] gs) : TT.lim 0 gs = some [.b true] := by
  obtain ⟨g, gs, rfl, h1, h⟩ := hasA_sc h
  obtain rfl := hasA_nil h
  simp only [GTy.has] at h1
  obtain ⟨s, rfl, -⟩ := h1
  clear h
  by_cases c : 8000 < s.length
  · have c' : (8000 : Int) < s.length := by omega
    refine fn_lim rfl rfl ?_ rfl
    simp [c']
  have c' : ¬ (8000 : Int) < s.length := by omega
  have k1 := pparse_ok s (by omega)
  have k2 := rparse_ok s (by omega)
  obtain ⟨ok, cs⟩ := parseF_ok s
  generalize parseF s = D at *
  have k3 := of28 D.1 ok
  have k4 := rsame28 D.1 ok cs
  have k5 := requal_refl D.1.cm (by have := ok.2; omega)
  clear ok cs c
  simp only [scL, nG] at *
  generalize D.1.th.map ftG = T' at *
  generalize D.1.bk.map ftG = B' at *
  generalize D.1.cm.map cmG = C' at *
  refine fn_lim rfl rfl ?_ rfl
  simp [c', k1, k2, k3, k4, k5]
end V
end Go.Proofs.YtcnadokjijncjaaGreatDoor
