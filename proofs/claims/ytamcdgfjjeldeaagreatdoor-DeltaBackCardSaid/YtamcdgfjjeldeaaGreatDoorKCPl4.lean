/- Tables, told of trees: at least, and the same. -/
import Derived.Test.YtamcdgfjjeldeaaGreatDoorKCPl3
namespace Go.Proofs.YtamcdgfjjeldeaaGreatDoor
open Go Go.Abs
set_option linter.unusedSimpArgs false
set_option linter.unusedVariables false
set_option maxRecDepth 100000
namespace C
abbrev K (r : Row) : List UInt8 := keyF r.1
/-- How many rows at the head have lesser keys. -/
def adv (k : List UInt8) : List Row → Nat
  | [] => 0
  | r :: rs => if Op.bytesLess (K r) k = true then adv k rs + 1 else 0
theorem drop_adv (k : List UInt8) : ∀ t : List Row, t.drop (adv k t) = t.dropWhile fun r => Op.bytesLess (K r) k
  | [] => rfl
  | r :: rs => by
    unfold adv
    cases h : Op.bytesLess (K r) k with
    | true => simp [h, drop_adv k rs]
    | false => simp [h]
theorem adv_le (k : List UInt8) : ∀ t : List Row, adv k t ≤ t.length
  | [] => by simp [adv]
  | r :: rs => by
    unfold adv
    have := adv_le k rs
    split <;> simp; omega
def out26 (t : List Row) (i : Nat) (k : GV) (b n j dd nn : GV) : List GV := match t[i]? with
  | some r => [.i .i64 0, .l (t.map row), .i .i64 i, k, b, n, j, row r, .l (r.1.map ent), .s (keyF r.1), dd, nn]
  | none => [.i .i64 1, .l (t.map row), .i .i64 i, k, b, n, j, dd, nn]
theorem loop26 (t : List Row) (ht : t.length ≤ 256) (hf : ∀ r ∈ t, few12 r.1 = true) (k : List UInt8) (b n j dd nn : GV) : ∀ m i : Nat, i + m = t.length →
    TT.lim 26 [.l (t.map row), .i .i64 i, .s k, b, n, j, dd, nn] = some (out26 t (i + adv k (t.drop i)) (.s k) b n j dd nn)
  | 0, i, hi => by
    have h0 : t.drop i = [] := List.drop_eq_nil_of_le (by omega)
    have h1 : t[i]? = none := List.getElem?_eq_none (by omega)
    refine tree_lim rfl rfl ?_
    have h : ¬ ((i : Int) < t.length) := by omega
    simp [h, h0, adv, out26, h1]
  | m + 1, i, hi => by
    have hlt : i < t.length := by omega
    have ih : TT.lim 26 [.l (t.map row), .i .i64 ((i : Int) + 1), .s k, b, n, j, dd, nn] = _ := loop26 t ht hf k b n j dd nn m (i + 1) (by omega)
    have k6 := key6 t[i].1 (hf _ (List.getElem_mem hlt))
    have hd : adv k (t.drop i) = if Op.bytesLess (K t[i]) k = true then adv k (t.drop (i + 1)) + 1 else 0 := by rw [List.drop_eq_getElem_cons hlt]; rfl
    refine tree_lim rfl rfl ?_
    have h : ((i : Int) < t.length) := by omega
    have hw := wrap64 (n := (i : Int) + 1) (by omega) (by omega)
    rw [hd]
    cases hb : Op.bytesLess (K t[i]) k with
    | true =>
      have hb' : Op.bytesLess (keyF t[i].1) k = true := hb
      rw [if_pos rfl, show i + (adv k (t.drop (i + 1)) + 1) = i + 1 + adv k (t.drop (i + 1)) by omega]
      simp [h, hlt, k6, hb', hw, ih]
    | false =>
      have hb' : Op.bytesLess (keyF t[i].1) k = false := hb
      have h1 : t[i]? = some t[i] := List.getElem?_eq_getElem hlt
      rw [if_neg (by simp), Nat.add_zero]
      simp [h, hlt, k6, hb', out26]
def atL : List Row → List Row → Bool
  | _, [] => true
  | t, r :: rs => match t.drop (adv (K r) t) with
    | [] => false
    | s :: t' => decide (K s = K r) && decide (r.2 ≤ s.2) && atL (s :: t') rs
theorem loop25 (t b : List Row) (ht : t.length ≤ 256) (hb : b.length ≤ 256) (hf : ∀ r ∈ t, few12 r.1 = true) (hg : ∀ r ∈ b, few12 r.1 = true) : ∀ m j i : Nat, j + m = b.length → i ≤ t.length →
    TT.lim 25 [.l (t.map row), .i .i64 i, .l (b.map row), .i .i64 b.length, .i .i64 j] = some (if atL (t.drop i) (b.drop j) = true then [.i .i64 1] else [.i .i64 0])
  | 0, j, i, hj, hi => by
    have h0 : b.drop j = [] := List.drop_eq_nil_of_le (by omega)
    refine tree_lim rfl rfl ?_
    have h : ¬ ((j : Int) < b.length) := by omega
    simp [h, h0, atL]
  | m + 1, j, i, hj, hi => by
    have hlt : j < b.length := by omega
    have k6 := key6 b[j].1 (hg _ (List.getElem_mem hlt))
    have h26 := loop26 t ht hf (keyF b[j].1) (.l (b.map row)) (.i .i64 b.length) (.i .i64 j) (.l (b[j].1.map ent)) (.i .u64 b[j].2) (t.length - i) i (by omega)
    have hal := adv_le (keyF b[j].1) (t.drop i)
    rw [List.length_drop] at hal
    have hdr : b.drop j = b[j] :: b.drop (j + 1) := List.drop_eq_getElem_cons hlt
    have hat : atL (t.drop i) (b.drop j) = match t.drop (i + adv (keyF b[j].1) (t.drop i)) with
      | [] => false
      | s :: t' => decide (K s = K b[j]) && decide (b[j].2 ≤ s.2) && atL (s :: t') (b.drop (j + 1)) := by
      rw [hdr]; simp only [atL, List.drop_drop]
    rw [hat]
    generalize hi' : i + adv (keyF b[j].1) (t.drop i) = i' at h26 ⊢
    have hi2 : i' ≤ t.length := by omega
    refine tree_lim rfl rfl ?_
    have h : ((j : Int) < b.length) := by omega
    have hw := wrap64 (n := (j : Int) + 1) (by omega) (by omega)
    by_cases hlt2 : i' < t.length
    · have hne : ¬ ((i' : Int) = (t.length : Int)) := by omega
      have h1 : t[i']? = some t[i'] := List.getElem?_eq_getElem hlt2
      have hd2 : t.drop i' = t[i'] :: t.drop (i' + 1) := List.drop_eq_getElem_cons hlt2
      have k7 := key6 t[i'].1 (hf _ (List.getElem_mem hlt2))
      have ih : TT.lim 25 [.l (t.map row), .i .i64 i', .l (b.map row), .i .i64 b.length, .i .i64 ((j : Int) + 1)] = _ := loop25 t b ht hb hf hg m (j + 1) i' (by omega) hi2
      simp only [out26, h1] at h26
      rw [hd2]
      rw [hd2] at ih
      by_cases h2 : keyF t[i'].1 = keyF b[j].1
      · have h2' : (keyF t[i'].1 = keyF b[j].1) = True := eq_true h2
        clear h2
        by_cases h3 : t[i'].2 < b[j].2
        · have h3' : ¬ b[j].2 ≤ t[i'].2 := by omega
          simp [h, hlt, k6, h26, hne, hlt2, k7, h2', h3, h3']
        · have h3' : b[j].2 ≤ t[i'].2 := by omega
          simp [h, hlt, k6, h26, hne, hlt2, k7, h2', h3, h3', hw, ih]
      · simp [h, hlt, k6, h26, hne, hlt2, k7, h2]
    · have he : (i' : Int) = (t.length : Int) := by omega
      have h1 : t[i']? = none := List.getElem?_eq_none (by omega)
      have hd2 : t.drop i' = [] := List.drop_eq_nil_of_le (by omega)
      simp only [out26, h1] at h26
      rw [hd2]
      simp [h, hlt, k6, h26, he]
theorem atLeast24 (t b : List Row) (ht : t.length ≤ 256) (hb : b.length ≤ 256) (hf : ∀ r ∈ t, few12 r.1 = true) (hg : ∀ r ∈ b, few12 r.1 = true) : TT.lim 24 [.l (t.map row), .l (b.map row)] = some [.b (atL t b)] := by
  have h25 : TT.lim 25 [.l (t.map row), .i .i64 0, .l (b.map row), .i .i64 b.length, .i .i64 0] = _ := loop25 t b ht hb hf hg b.length 0 0 (by omega) (by omega)
  rw [List.drop_zero, List.drop_zero] at h25
  refine fn_lim rfl rfl ?_ rfl
  cases ha : atL t b <;> rw [ha] at h25 <;> simp at h25 <;> simp [h25]

/-! ### The same -/
theorem eqGs_ent (x y : Ent) : eqGs [1, 1] [.s x.1, .s x.2] [.s y.1, .s y.2] = some (decide (x = y)) := by
  simp only [eqGs, Option.map_some, Bool.and_true]
  congr 1
  rw [Bool.eq_iff_iff]
  simp [Prod.ext_iff]
theorem loop32 (d e : List Ent) (hl : d.length = e.length) (hb : d.length ≤ 140737488351232) : ∀ m i : Nat, i + m = d.length →
    TT.lim 32 [.l (d.map ent), .l (e.map ent), .i .i64 d.length, .i .i64 i] = some (if d.drop i = e.drop i then [.i .i64 1] else [.i .i64 0])
  | 0, i, hi => by
    have h0 : d.drop i = [] := List.drop_eq_nil_of_le (by omega)
    have h1 : e.drop i = [] := List.drop_eq_nil_of_le (by omega)
    refine tree_lim rfl rfl ?_
    have h : ¬ ((i : Int) < d.length) := by omega
    simp [h, h0, h1]
  | m + 1, i, hi => by
    have hlt : i < d.length := by omega
    have hlt2 : i < e.length := by omega
    have ih : TT.lim 32 [.l (d.map ent), .l (e.map ent), .i .i64 d.length, .i .i64 ((i : Int) + 1)] = _ := loop32 d e hl hb m (i + 1) (by omega)
    have hd : (d.drop i = e.drop i) ↔ (d[i] = e[i] ∧ d.drop (i + 1) = e.drop (i + 1)) := by
      rw [List.drop_eq_getElem_cons hlt, List.drop_eq_getElem_cons hlt2, List.cons.injEq]
    have hq := eqGs_ent d[i] e[i]
    refine tree_lim rfl rfl ?_
    have h : ((i : Int) < d.length) := by omega
    have hw := wrap64 (n := (i : Int) + 1) (by omega) (by omega)
    by_cases h1 : d[i] = e[i]
    · have h2 : (d.drop i = e.drop i) ↔ (d.drop (i + 1) = e.drop (i + 1)) := by rw [hd]; simp [h1]
      have hq' : eqGs [1, 1] [.s d[i].1, .s d[i].2] [.s e[i].1, .s e[i].2] = some true := by rw [hq]; simp [h1]
      simp only [h2]
      simp [h, hlt, hlt2, hq', hw, ih]
    · have h2 : ¬ (d.drop i = e.drop i) := by rw [hd]; simp [h1]
      have hq' : eqGs [1, 1] [.s d[i].1, .s d[i].2] [.s e[i].1, .s e[i].2] = some false := by rw [hq]; simp [h1]
      rw [if_neg h2]
      simp [h, hlt, hlt2, hq']
theorem equal31 (d e : List Ent) (hb : d.length ≤ 140737488351232) (hb2 : e.length ≤ 140737488351232) : TT.lim 31 [.l (d.map ent), .l (e.map ent)] = some [.b (decide (d = e))] := by
  refine fn_lim rfl rfl ?_ rfl
  by_cases hl : d.length = e.length
  · have hl' : (d.length : Int) = (e.length : Int) := by omega
    have h32 : TT.lim 32 [.l (d.map ent), .l (e.map ent), .i .i64 d.length, .i .i64 0] = _ := loop32 d e hl hb d.length 0 (by omega)
    rw [List.drop_zero, List.drop_zero] at h32
    by_cases h : d = e
    · rw [if_pos h] at h32
      have h' : (d = e) = True := eq_true h
      clear h
      rw [hl'] at h32
      simp [hl', h32, h']
    · rw [if_neg h] at h32
      rw [hl'] at h32
      simp [hl', h32, h]
  · have hl' : ¬ (d.length : Int) = (e.length : Int) := by omega
    have h : ¬ d = e := fun h => hl (by rw [h])
    simp [hl', hl, h]
theorem rowEq30 (r s : Row) (hb : r.1.length ≤ 140737488351232) (hb2 : s.1.length ≤ 140737488351232) : TT.lim 30 [row r, row s] = some [.b (decide (r = s))] := by
  have k := equal31 r.1 s.1 hb hb2
  refine fn_lim rfl rfl ?_ rfl
  by_cases h : r.2 = s.2
  · have : decide (r = s) = decide (r.1 = s.1) := by rw [Bool.eq_iff_iff]; simp [Prod.ext_iff, h]
    rw [this]
    simp [h, k]
  · have : decide (r = s) = false := by rw [decide_eq_false_iff_not]; intro e; exact h (by rw [e])
    rw [this]
    simp [h]
theorem loop29 (a b : List Row) (hl : a.length = b.length) (hb : a.length ≤ 140737488351232) (h1 : ∀ r ∈ a, r.1.length ≤ 140737488351232) (h2 : ∀ r ∈ b, r.1.length ≤ 140737488351232) : ∀ m i : Nat, i + m = a.length →
    TT.lim 29 [.l (b.map row), .l (a.map row), .i .i64 a.length, .i .i64 i] = some (if a.drop i = b.drop i then [.i .i64 1] else [.i .i64 0])
  | 0, i, hi => by
    have h0 : a.drop i = [] := List.drop_eq_nil_of_le (by omega)
    have h1 : b.drop i = [] := List.drop_eq_nil_of_le (by omega)
    refine tree_lim rfl rfl ?_
    have h : ¬ ((i : Int) < a.length) := by omega
    simp [h, h0, h1]
  | m + 1, i, hi => by
    have hlt : i < a.length := by omega
    have hlt2 : i < b.length := by omega
    have ih : TT.lim 29 [.l (b.map row), .l (a.map row), .i .i64 a.length, .i .i64 ((i : Int) + 1)] = _ := loop29 a b hl hb h1 h2 m (i + 1) (by omega)
    have hd : (a.drop i = b.drop i) ↔ (a[i] = b[i] ∧ a.drop (i + 1) = b.drop (i + 1)) := by
      rw [List.drop_eq_getElem_cons hlt, List.drop_eq_getElem_cons hlt2, List.cons.injEq]
    have k := rowEq30 a[i] b[i] (h1 _ (List.getElem_mem hlt)) (h2 _ (List.getElem_mem hlt2))
    have r1 : GV.g [.l (a[i].1.map ent), .i .u64 a[i].2] = row a[i] := rfl
    have r2 : GV.g [.l (b[i].1.map ent), .i .u64 b[i].2] = row b[i] := rfl
    refine tree_lim rfl rfl ?_
    have h : ((i : Int) < a.length) := by omega
    have hw := wrap64 (n := (i : Int) + 1) (by omega) (by omega)
    by_cases h3 : a[i] = b[i]
    · have h4 : (a.drop i = b.drop i) ↔ (a.drop (i + 1) = b.drop (i + 1)) := by rw [hd]; simp [h3]
      simp only [h4]
      have k' : TT.lim 30 [row a[i], row b[i]] = some [.b true] := by rw [k]; simp [h3]
      simp [h, hlt, hlt2, r1, r2, k', hw, ih]
    · have h4 : ¬ (a.drop i = b.drop i) := by rw [hd]; simp [h3]
      rw [if_neg h4]
      have k' : TT.lim 30 [row a[i], row b[i]] = some [.b false] := by rw [k]; simp [h3]
      simp [h, hlt, hlt2, r1, r2, k']
theorem same27 (a b : List Row) (hb : a.length ≤ 140737488351232) (hb2 : b.length ≤ 140737488351232) (h1 : ∀ r ∈ a, r.1.length ≤ 140737488351232) (h2 : ∀ r ∈ b, r.1.length ≤ 140737488351232) : TT.lim 27 [.l (a.map row), .l (b.map row)] = some [.b (decide (a = b))] := by
  have h28 : TT.lim 28 [.l (a.map row), .l (b.map row)] = some [.b (decide (a = b))] := by
    refine fn_lim rfl rfl ?_ rfl
    by_cases hl : a.length = b.length
    · have hl' : (a.length : Int) = (b.length : Int) := by omega
      have h29 : TT.lim 29 [.l (b.map row), .l (a.map row), .i .i64 a.length, .i .i64 0] = _ := loop29 a b hl hb h1 h2 a.length 0 (by omega)
      rw [List.drop_zero, List.drop_zero] at h29
      rw [hl'] at h29
      by_cases h : a = b
      · rw [if_pos h] at h29
        have h' : (a = b) = True := eq_true h
        clear h
        simp [hl', h29, h']
      · rw [if_neg h] at h29
        simp [hl', h29, h]
    · have hl' : ¬ (a.length : Int) = (b.length : Int) := by omega
      have h : ¬ a = b := fun h => hl (by rw [h])
      simp [hl', hl, h]
  refine fn_lim rfl rfl ?_ rfl
  simp [h28]
end C
end Go.Proofs.YtamcdgfjjeldeaaGreatDoor
