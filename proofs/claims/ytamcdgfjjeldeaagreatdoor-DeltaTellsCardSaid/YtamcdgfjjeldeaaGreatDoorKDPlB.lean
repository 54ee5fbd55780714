/- Tables, told of trees: at least, the same, the laws. -/
import Derived.Test.YtamcdgfjjeldeaaGreatDoorKDPlA
namespace Go.Proofs.YtamcdgfjjeldeaaGreatDoor
open Go Go.Abs
set_option linter.unusedSimpArgs false
set_option linter.unusedVariables false
set_option maxRecDepth 100000
namespace D
abbrev K (r : Row) : List UInt8 := keyF r.1
/-- How many rows at the head have lesser keys. -/
def adv (k : List UInt8) : List Row → Nat
  | [] => 0
  | r :: rs => if Op.bytesLess (K r) k = true then adv k rs + 1 else 0
theorem drop_adv (k : List UInt8) : ∀ t : List Row, t.drop (adv k t) = t.dropWhile fun r => Op.bytesLess (K r) k
  | [] => rfl
  | r :: rs => by
    unfold adv
    cases h : Op.bytesLess (K r) k with
    | true => simp [h, drop_adv k rs]
    | false => simp [h]
theorem adv_le (k : List UInt8) : ∀ t : List Row, adv k t ≤ t.length
  | [] => by simp [adv]
  | r :: rs => by
    unfold adv
    have := adv_le k rs
    split <;> simp; omega
def out26 (t : List Row) (i : Nat) (k : GV) (b n j dd nn : GV) : List GV := match t[i]? with
  | some r => [.i .i64 0, .l (t.map row), .i .i64 i, k, b, n, j, row r, .l (r.1.map ent), .s (keyF r.1), dd, nn]
  | none => [.i .i64 1, .l (t.map row), .i .i64 i, k, b, n, j, dd, nn]
theorem loop26 (t : List Row) (ht : t.length ≤ 256) (hf : ∀ r ∈ t, few12 r.1 = true) (k : List UInt8) (b n j dd nn : GV) : ∀ m i : Nat, i + m = t.length →
    TT.lim 26 [.l (t.map row), .i .i64 i, .s k, b, n, j, dd, nn] = some (out26 t (i + adv k (t.drop i)) (.s k) b n j dd nn)
  | 0, i, hi => by
    have h0 : t.drop i = [] := List.drop_eq_nil_of_le (by omega)
    have h1 : t[i]? = none := List.getElem?_eq_none (by omega)
    refine tree_lim rfl rfl ?_
    have h : ¬ ((i : Int) < t.length) := by omega
    simp [h, h0, adv, out26, h1]
  | m + 1, i, hi => by
    have hlt : i < t.length := by omega
    have ih : TT.lim 26 [.l (t.map row), .i .i64 ((i : Int) + 1), .s k, b, n, j, dd, nn] = _ := loop26 t ht hf k b n j dd nn m (i + 1) (by omega)
    have k6 := key6 t[i].1 (hf _ (List.getElem_mem hlt))
    have hd : adv k (t.drop i) = if Op.bytesLess (K t[i]) k = true then adv k (t.drop (i + 1)) + 1 else 0 := by rw [List.drop_eq_getElem_cons hlt]; rfl
    refine tree_lim rfl rfl ?_
    have h : ((i : Int) < t.length) := by omega
    have hw := wrap64 (n := (i : Int) + 1) (by omega) (by omega)
    rw [hd]
    cases hb : Op.bytesLess (K t[i]) k with
    | true =>
      have hb' : Op.bytesLess (keyF t[i].1) k = true := hb
      rw [if_pos rfl, show i + (adv k (t.drop (i + 1)) + 1) = i + 1 + adv k (t.drop (i + 1)) by omega]
      simp [h, hlt, k6, hb', hw, ih]
    | false =>
      have hb' : Op.bytesLess (keyF t[i].1) k = false := hb
      have h1 : t[i]? = some t[i] := List.getElem?_eq_getElem hlt
      rw [if_neg (by simp), Nat.add_zero]
      simp [h, hlt, k6, hb', out26]
def atL : List Row → List Row → Bool
  | _, [] => true
  | t, r :: rs => match t.drop (adv (K r) t) with
    | [] => false
    | s :: t' => decide (K s = K r) && decide (r.2 ≤ s.2) && atL (s :: t') rs
theorem loop25 (t b : List Row) (ht : t.length ≤ 256) (hb : b.length ≤ 256) (hf : ∀ r ∈ t, few12 r.1 = true) (hg : ∀ r ∈ b, few12 r.1 = true) : ∀ m j i : Nat, j + m = b.length → i ≤ t.length →
    TT.lim 25 [.l (t.map row), .i .i64 i, .l (b.map row), .i .i64 b.length, .i .i64 j] = some (if atL (t.drop i) (b.drop j) = true then [.i .i64 1] else [.i .i64 0])
  | 0, j, i, hj, hi => by
    have h0 : b.drop j = [] := List.drop_eq_nil_of_le (by omega)
    refine tree_lim rfl rfl ?_
    have h : ¬ ((j : Int) < b.length) := by omega
    simp [h, h0, atL]
  | m + 1, j, i, hj, hi => by
    have hlt : j < b.length := by omega
    have k6 := key6 b[j].1 (hg _ (List.getElem_mem hlt))
    have h26 := loop26 t ht hf (keyF b[j].1) (.l (b.map row)) (.i .i64 b.length) (.i .i64 j) (.l (b[j].1.map ent)) (.i .u64 b[j].2) (t.length - i) i (by omega)
    have hal := adv_le (keyF b[j].1) (t.drop i)
    rw [List.length_drop] at hal
    have hdr : b.drop j = b[j] :: b.drop (j + 1) := List.drop_eq_getElem_cons hlt
    have hat : atL (t.drop i) (b.drop j) = match t.drop (i + adv (keyF b[j].1) (t.drop i)) with
      | [] => false
      | s :: t' => decide (K s = K b[j]) && decide (b[j].2 ≤ s.2) && atL (s :: t') (b.drop (j + 1)) := by
      rw [hdr]; simp only [atL, List.drop_drop]
    rw [hat]
    generalize hi' : i + adv (keyF b[j].1) (t.drop i) = i' at h26 ⊢
    have hi2 : i' ≤ t.length := by omega
    refine tree_lim rfl rfl ?_
    have h : ((j : Int) < b.length) := by omega
    have hw := wrap64 (n := (j : Int) + 1) (by omega) (by omega)
    by_cases hlt2 : i' < t.length
    · have hne : ¬ ((i' : Int) = (t.length : Int)) := by omega
      have h1 : t[i']? = some t[i'] := List.getElem?_eq_getElem hlt2
      have hd2 : t.drop i' = t[i'] :: t.drop (i' + 1) := List.drop_eq_getElem_cons hlt2
      have k7 := key6 t[i'].1 (hf _ (List.getElem_mem hlt2))
      have ih : TT.lim 25 [.l (t.map row), .i .i64 i', .l (b.map row), .i .i64 b.length, .i .i64 ((j : Int) + 1)] = _ := loop25 t b ht hb hf hg m (j + 1) i' (by omega) hi2
      simp only [out26, h1] at h26
      rw [hd2]
      rw [hd2] at ih
      by_cases h2 : keyF t[i'].1 = keyF b[j].1
      · have h2' : (keyF t[i'].1 = keyF b[j].1) = True := eq_true h2
        clear h2
        by_cases h3 : t[i'].2 < b[j].2
        · have h3' : ¬ b[j].2 ≤ t[i'].2 := by omega
          simp [h, hlt, k6, h26, hne, hlt2, k7, h2', h3, h3']
        · have h3' : b[j].2 ≤ t[i'].2 := by omega
          simp [h, hlt, k6, h26, hne, hlt2, k7, h2', h3, h3', hw, ih]
      · simp [h, hlt, k6, h26, hne, hlt2, k7, h2]
    · have he : (i' : Int) = (t.length : Int) := by omega
      have h1 : t[i']? = none := List.getElem?_eq_none (by omega)
      have hd2 : t.drop i' = [] := List.drop_eq_nil_of_le (by omega)
      simp only [out26, h1] at h26
      rw [hd2]
      simp [h, hlt, k6, h26, he]
theorem atLeast24 (t b : List Row) (ht : t.length ≤ 256) (hb : b.length ≤ 256) (hf : ∀ r ∈ t, few12 r.1 = true) (hg : ∀ r ∈ b, few12 r.1 = true) : TT.lim 24 [.l (t.map row), .l (b.map row)] = some [.b (atL t b)] := by
  have h25 : TT.lim 25 [.l (t.map row), .i .i64 0, .l (b.map row), .i .i64 b.length, .i .i64 0] = _ := loop25 t b ht hb hf hg b.length 0 0 (by omega) (by omega)
  rw [List.drop_zero, List.drop_zero] at h25
  refine fn_lim rfl rfl ?_ rfl
  cases ha : atL t b <;> rw [ha] at h25 <;> simp at h25 <;> simp [h25]

/-! ### The same -/
theorem eqGs_ent (x y : Ent) : eqGs [1, 1] [.s x.1, .s x.2] [.s y.1, .s y.2] = some (decide (x = y)) := by
  simp only [eqGs, Option.map_some, Bool.and_true]
  congr 1
  rw [Bool.eq_iff_iff]
  simp [Prod.ext_iff]
theorem loop32 (d e : List Ent) (hl : d.length = e.length) (hb : d.length ≤ 140737488351232) : ∀ m i : Nat, i + m = d.length →
    TT.lim 32 [.l (d.map ent), .l (e.map ent), .i .i64 d.length, .i .i64 i] = some (if d.drop i = e.drop i then [.i .i64 1] else [.i .i64 0])
  | 0, i, hi => by
    have h0 : d.drop i = [] := List.drop_eq_nil_of_le (by omega)
    have h1 : e.drop i = [] := List.drop_eq_nil_of_le (by omega)
    refine tree_lim rfl rfl ?_
    have h : ¬ ((i : Int) < d.length) := by omega
    simp [h, h0, h1]
  | m + 1, i, hi => by
    have hlt : i < d.length := by omega
    have hlt2 : i < e.length := by omega
    have ih : TT.lim 32 [.l (d.map ent), .l (e.map ent), .i .i64 d.length, .i .i64 ((i : Int) + 1)] = _ := loop32 d e hl hb m (i + 1) (by omega)
    have hd : (d.drop i = e.drop i) ↔ (d[i] = e[i] ∧ d.drop (i + 1) = e.drop (i + 1)) := by
      rw [List.drop_eq_getElem_cons hlt, List.drop_eq_getElem_cons hlt2, List.cons.injEq]
    have hq := eqGs_ent d[i] e[i]
    refine tree_lim rfl rfl ?_
    have h : ((i : Int) < d.length) := by omega
    have hw := wrap64 (n := (i : Int) + 1) (by omega) (by omega)
    by_cases h1 : d[i] = e[i]
    · have h2 : (d.drop i = e.drop i) ↔ (d.drop (i + 1) = e.drop (i + 1)) := by rw [hd]; simp [h1]
      have hq' : eqGs [1, 1] [.s d[i].1, .s d[i].2] [.s e[i].1, .s e[i].2] = some true := by rw [hq]; simp [h1]
      simp only [h2]
      simp [h, hlt, hlt2, hq', hw, ih]
    · have h2 : ¬ (d.drop i = e.drop i) := by rw [hd]; simp [h1]
      have hq' : eqGs [1, 1] [.s d[i].1, .s d[i].2] [.s e[i].1, .s e[i].2] = some false := by rw [hq]; simp [h1]
      rw [if_neg h2]
      simp [h, hlt, hlt2, hq']
theorem equal31 (d e : List Ent) (hb : d.length ≤ 140737488351232) (hb2 : e.length ≤ 140737488351232) : TT.lim 31 [.l (d.map ent), .l (e.map ent)] = some [.b (decide (d = e))] := by
  refine fn_lim rfl rfl ?_ rfl
  by_cases hl : d.length = e.length
  · have hl' : (d.length : Int) = (e.length : Int) := by omega
    have h32 : TT.lim 32 [.l (d.map ent), .l (e.map ent), .i .i64 d.length, .i .i64 0] = _ := loop32 d e hl hb d.length 0 (by omega)
    rw [List.drop_zero, List.drop_zero] at h32
    by_cases h : d = e
    · rw [if_pos h] at h32
      have h' : (d = e) = True := eq_true h
      clear h
      rw [hl'] at h32
      simp [hl', h32, h']
    · rw [if_neg h] at h32
      rw [hl'] at h32
      simp [hl', h32, h]
  · have hl' : ¬ (d.length : Int) = (e.length : Int) := by omega
    have h : ¬ d = e := fun h => hl (by rw [h])
    simp [hl', hl, h]
theorem rowEq30 (r s : Row) (hb : r.1.length ≤ 140737488351232) (hb2 : s.1.length ≤ 140737488351232) : TT.lim 30 [row r, row s] = some [.b (decide (r = s))] := by
  have k := equal31 r.1 s.1 hb hb2
  refine fn_lim rfl rfl ?_ rfl
  by_cases h : r.2 = s.2
  · have : decide (r = s) = decide (r.1 = s.1) := by rw [Bool.eq_iff_iff]; simp [Prod.ext_iff, h]
    rw [this]
    simp [h, k]
  · have : decide (r = s) = false := by rw [decide_eq_false_iff_not]; intro e; exact h (by rw [e])
    rw [this]
    simp [h]
theorem loop29 (a b : List Row) (hl : a.length = b.length) (hb : a.length ≤ 140737488351232) (h1 : ∀ r ∈ a, r.1.length ≤ 140737488351232) (h2 : ∀ r ∈ b, r.1.length ≤ 140737488351232) : ∀ m i : Nat, i + m = a.length →
    TT.lim 29 [.l (b.map row), .l (a.map row), .i .i64 a.length, .i .i64 i] = some (if a.drop i = b.drop i then [.i .i64 1] else [.i .i64 0])
  | 0, i, hi => by
    have h0 : a.drop i = [] := List.drop_eq_nil_of_le (by omega)
    have h1 : b.drop i = [] := List.drop_eq_nil_of_le (by omega)
    refine tree_lim rfl rfl ?_
    have h : ¬ ((i : Int) < a.length) := by omega
    simp [h, h0, h1]
  | m + 1, i, hi => by
    have hlt : i < a.length := by omega
    have hlt2 : i < b.length := by omega
    have ih : TT.lim 29 [.l (b.map row), .l (a.map row), .i .i64 a.length, .i .i64 ((i : Int) + 1)] = _ := loop29 a b hl hb h1 h2 m (i + 1) (by omega)
    have hd : (a.drop i = b.drop i) ↔ (a[i] = b[i] ∧ a.drop (i + 1) = b.drop (i + 1)) := by
      rw [List.drop_eq_getElem_cons hlt, List.drop_eq_getElem_cons hlt2, List.cons.injEq]
    have k := rowEq30 a[i] b[i] (h1 _ (List.getElem_mem hlt)) (h2 _ (List.getElem_mem hlt2))
    have r1 : GV.g [.l (a[i].1.map ent), .i .u64 a[i].2] = row a[i] := rfl
    have r2 : GV.g [.l (b[i].1.map ent), .i .u64 b[i].2] = row b[i] := rfl
    refine tree_lim rfl rfl ?_
    have h : ((i : Int) < a.length) := by omega
    have hw := wrap64 (n := (i : Int) + 1) (by omega) (by omega)
    by_cases h3 : a[i] = b[i]
    · have h4 : (a.drop i = b.drop i) ↔ (a.drop (i + 1) = b.drop (i + 1)) := by rw [hd]; simp [h3]
      simp only [h4]
      have k' : TT.lim 30 [row a[i], row b[i]] = some [.b true] := by rw [k]; simp [h3]
      simp [h, hlt, hlt2, r1, r2, k', hw, ih]
    · have h4 : ¬ (a.drop i = b.drop i) := by rw [hd]; simp [h3]
      rw [if_neg h4]
      have k' : TT.lim 30 [row a[i], row b[i]] = some [.b false] := by rw [k]; simp [h3]
      simp [h, hlt, hlt2, r1, r2, k']
theorem same27 (a b : List Row) (hb : a.length ≤ 140737488351232) (hb2 : b.length ≤ 140737488351232) (h1 : ∀ r ∈ a, r.1.length ≤ 140737488351232) (h2 : ∀ r ∈ b, r.1.length ≤ 140737488351232) : TT.lim 27 [.l (a.map row), .l (b.map row)] = some [.b (decide (a = b))] := by
  have h28 : TT.lim 28 [.l (a.map row), .l (b.map row)] = some [.b (decide (a = b))] := by
    refine fn_lim rfl rfl ?_ rfl
    by_cases hl : a.length = b.length
    · have hl' : (a.length : Int) = (b.length : Int) := by omega
      have h29 : TT.lim 29 [.l (b.map row), .l (a.map row), .i .i64 a.length, .i .i64 0] = _ := loop29 a b hl hb h1 h2 a.length 0 (by omega)
      rw [List.drop_zero, List.drop_zero] at h29
      rw [hl'] at h29
      by_cases h : a = b
      · rw [if_pos h] at h29
        have h' : (a = b) = True := eq_true h
        clear h
        simp [hl', h29, h']
      · rw [if_neg h] at h29
        simp [hl', h29, h]
    · have hl' : ¬ (a.length : Int) = (b.length : Int) := by omega
      have h : ¬ a = b := fun h => hl (by rw [h])
      simp [hl', hl, h]
  refine fn_lim rfl rfl ?_ rfl
  simp [h28]
theorem bl_iff (a b : List UInt8) : Op.bytesLess a b = true ↔ a < b := by rw [bytesLess_lt]; simp
theorem bl_not (a b : List UInt8) : Op.bytesLess a b = false ↔ ¬ a < b := by rw [bytesLess_lt]; simp
/-- Rows whose keys rise. -/
def Rise (l : List Row) : Prop := l.Pairwise fun a b => K a < K b
theorem rise_of : ∀ {l : List Row}, (∀ (i j : Nat) (a b : Row), i < j → l[i]? = some a → l[j]? = some b → Op.bytesLess (keyF b.1) (keyF a.1) = false) → adjDup l = false → Rise l
  | [], _, _ => List.Pairwise.nil
  | [a], _, _ => List.pairwise_singleton _ _
  | a :: b :: l, h, hd => by
    simp only [adjDup, Bool.or_eq_false_iff, decide_eq_false_iff_not] at hd
    have ih : Rise (b :: l) := rise_of (fun i j x y hij hx hy => h (i + 1) (j + 1) x y (by omega) (by simpa using hx) (by simpa using hy)) hd.2
    have hab : K a < K b := by
      have h1 := h 0 1 a b (by omega) rfl rfl
      rw [bl_not] at h1
      have h2 := List.not_lt.1 h1
      rcases List.le_iff_lt_or_eq.1 h2 with h3 | h3
      · exact h3
      · exact absurd h3 hd.1
    refine List.Pairwise.cons (fun x hx => ?_) ih
    rcases List.mem_cons.1 hx with rfl | hx
    · exact hab
    · exact List.lt_trans hab ((List.pairwise_cons.1 ih).1 x hx)
theorem ofR_rise {l : List Row} (h : (ofR l).2 = 0) : Rise (ofR l).1 ∧ (ofR l).1.Perm l ∧ l.length ≤ 256 := by
  unfold ofR at h ⊢
  split at h
  · cases h
  next h1 =>
  rw [if_neg h1]
  split at h
  · next h2 =>
    rw [if_pos h2]
    split at h
    · cases h
    · next h3 =>
      rw [if_neg h3]
      rw [Bool.not_eq_true] at h3
      exact ⟨rise_of (sortR_sorted l) h3, sortR_perm l, by omega⟩
  · next h2 => exact absurd h h2
theorem atL_iff : ∀ (b t : List Row), Rise t → Rise b → (atL t b = true ↔ ∀ r ∈ b, ∃ s ∈ t, K s = K r ∧ r.2 ≤ s.2)
  | [], t, _, _ => by simp [atL]
  | r :: rs, t, ht, hb => by
    have hrs := List.pairwise_cons.1 hb
    have hdw := drop_adv (K r) t
    have htd : Rise (t.drop (adv (K r) t)) := ht.sublist (List.drop_sublist _ _)
    have hsub : ∀ s ∈ t.drop (adv (K r) t), s ∈ t := fun s hs => (List.drop_sublist _ _).subset hs
    -- what is not dropped
    have hkeep : ∀ (u : List Row), (∀ s ∈ u, s ∈ t.dropWhile (fun x => Op.bytesLess (K x) (K r)) ∨ K s < K r) → True := fun _ _ => trivial
    have hin : ∀ s ∈ t, ¬ K s < K r → s ∈ t.drop (adv (K r) t) := by
      intro s hs hn
      rw [hdw]
      clear hkeep hsub htd hdw ht
      induction t with
      | nil => simp at hs
      | cons a t ih =>
        rw [List.dropWhile_cons]
        split
        · next ha =>
          rcases List.mem_cons.1 hs with rfl | hs
          · exact absurd ((bl_iff _ _).1 ha) hn
          · exact ih hs
        · exact hs
    have hhead : ∀ s t', t.drop (adv (K r) t) = s :: t' → ¬ K s < K r := by
      intro s t' e
      rw [hdw] at e
      have := List.head?_dropWhile_not (fun x => Op.bytesLess (K x) (K r)) t
      rw [e] at this
      simp only [List.head?_cons, Option.all_some, Bool.not_eq_true'] at this
      intro hlt
      rw [(bl_iff _ _).2 hlt] at this
      cases this
    unfold atL
    cases e : t.drop (adv (K r) t) with
    | nil =>
      simp only [Bool.false_eq_true, false_iff]
      intro h
      obtain ⟨s, hs, hk, _⟩ := h r (by simp)
      have := hin s hs (by rw [hk]; exact List.lt_irrefl _)
      rw [e] at this; simp at this
    | cons s t' =>
      simp only [Bool.and_eq_true, decide_eq_true_iff]
      rw [e] at htd hsub hin
      rw [atL_iff rs (s :: t') htd hrs.2]
      have hst := List.pairwise_cons.1 htd
      constructor
      · rintro ⟨⟨h1, h2⟩, h3⟩ x hx
        rcases List.mem_cons.1 hx with rfl | hx
        · exact ⟨s, hsub s (by simp), h1, h2⟩
        · obtain ⟨y, hy, h4⟩ := h3 x hx
          exact ⟨y, hsub y hy, h4⟩
      · intro h
        obtain ⟨y, hy, hk, hn⟩ := h r (by simp)
        have hy2 := hin y hy (by rw [hk]; exact List.lt_irrefl _)
        have hys : y = s := by
          rcases List.mem_cons.1 hy2 with rfl | hy2
          · rfl
          · have := hst.1 y hy2
            rw [hk] at this
            exact absurd this (hhead s t' e)
        subst hys
        refine ⟨⟨hk, hn⟩, fun x hx => ?_⟩
        obtain ⟨z, hz, h4, h5⟩ := h x (by simp [hx])
        refine ⟨z, hin z hz ?_, h4, h5⟩
        rw [h4]
        exact fun hlt => List.lt_irrefl _ (List.lt_trans hlt (hrs.1 x hx))
theorem atL_refl {t : List Row} (h : Rise t) : atL t t = true := (atL_iff t t h h).2 fun r hr => ⟨r, hr, rfl, Int.le_refl _⟩
theorem atL_nil (t : List Row) : atL t [] = true := by simp [atL]
theorem nil_atL (t : List Row) : atL [] t = decide (t.length = 0) := by
  cases t with
  | nil => rfl
  | cons r rs => simp [atL, adv]
theorem atL_trans {a b c : List Row} (ha : Rise a) (hb : Rise b) (hc : Rise c) (h1 : atL a b = true) (h2 : atL b c = true) : atL a c = true := by
  rw [atL_iff _ _ ha hb] at h1
  rw [atL_iff _ _ hb hc] at h2
  rw [atL_iff _ _ ha hc]
  intro r hr
  obtain ⟨s, hs, k1, n1⟩ := h2 r hr
  obtain ⟨u, hu, k2, n2⟩ := h1 s hs
  exact ⟨u, hu, k2.trans k1, Int.le_trans n1 n2⟩
theorem rise_eq : ∀ {a b : List Row}, Rise a → Rise b → (∀ r ∈ a, r ∈ b) → (∀ r ∈ b, r ∈ a) → a = b
  | [], [], _, _, _, _ => rfl
  | [], b :: _, _, _, _, h => absurd (h b (by simp)) (by simp)
  | a :: _, [], _, _, h, _ => absurd (h a (by simp)) (by simp)
  | x :: a, y :: b, ha, hb, h1, h2 => by
    have ha' := List.pairwise_cons.1 ha
    have hb' := List.pairwise_cons.1 hb
    have hxy : x = y := by
      rcases List.mem_cons.1 (h1 x (by simp)) with e | hx
      · exact e
      · rcases List.mem_cons.1 (h2 y (by simp)) with e | hy
        · exact e.symm
        · exact absurd (List.lt_trans (hb'.1 x hx) (ha'.1 y hy)) (List.lt_irrefl _)
    subst hxy
    rw [rise_eq ha'.2 hb'.2 (fun r hr => ?_) (fun r hr => ?_)]
    · rcases List.mem_cons.1 (h1 r (by simp [hr])) with e | h
      · subst e; exact absurd (ha'.1 _ hr) (List.lt_irrefl _)
      · exact h
    · rcases List.mem_cons.1 (h2 r (by simp [hr])) with e | h
      · subst e; exact absurd (hb'.1 _ hr) (List.lt_irrefl _)
      · exact h
theorem rise_key {a : List Row} (ha : Rise a) {r s : Row} (hr : r ∈ a) (hs : s ∈ a) (hk : K r = K s) : r = s := by
  induction a with
  | nil => simp at hr
  | cons x a ih =>
    have ha' := List.pairwise_cons.1 ha
    rcases List.mem_cons.1 hr with e1 | hr1 <;> rcases List.mem_cons.1 hs with e2 | hs1
    · rw [e1, e2]
    · have := ha'.1 s hs1; rw [← e1, hk] at this; exact absurd this (List.lt_irrefl _)
    · have := ha'.1 r hr1; rw [← e2, hk] at this; exact absurd this (List.lt_irrefl _)
    · exact ih ha'.2 hr1 hs1
theorem atL_antisymm {a b : List Row} (ha : Rise a) (hb : Rise b) (h1 : atL a b = true) (h2 : atL b a = true) : a = b := by
  rw [atL_iff _ _ ha hb] at h1
  rw [atL_iff _ _ hb ha] at h2
  have key : ∀ {a b : List Row}, Rise a → Rise b → (∀ r ∈ b, ∃ s ∈ a, K s = K r ∧ r.2 ≤ s.2) → (∀ r ∈ a, ∃ s ∈ b, K s = K r ∧ r.2 ≤ s.2) → ∀ r ∈ b, r ∈ a := by
    intro a b ha hb h1 h2 r hr
    obtain ⟨s, hs, k1, n1⟩ := h1 r hr
    obtain ⟨u, hu, k2, n2⟩ := h2 s hs
    have hur : u = r := rise_key hb hu hr (k2.trans k1)
    subst hur
    have : s = u := Prod.ext (keyF_inj k1) (Int.le_antisymm n2 n1)
    rw [← this]; exact hs
  exact rise_eq ha hb (key hb ha h2 h1) (key ha hb h1 h2)

theorem few_of {l : List Row} (hl : Rows l) (h : few13 l = true) : ∀ r ∈ (ofR l).1, few12 r.1 = true ∧ r.1.length ≤ 140737488351232 := by
  intro r hr
  have hm : r ∈ l := by
    unfold ofR at hr
    split at hr
    · simp at hr
    split at hr
    · split at hr
      · simp at hr
      · exact (sortR_perm l).mem_iff.1 hr
    · simp at hr
  exact ⟨few13_few h r hm, (hl.2 r hm).1.1⟩
set_option maxHeartbeats 4000000 in
theorem order1 (a b c : List Row) (ha : Rows a) (hb : Rows b) (hc : Rows c) : TT.lim 1 [.l (a.map row), .l (b.map row), .l (c.map row)] = some [.b true] := by
  have fa := few2 a ha
  have fb := few2 b hb
  have fc := few2 c hc
  refine fn_lim rfl rfl ?_ rfl
  cases h1 : few13 a with
  | false => rw [h1] at fa; simp [fa]
  | true =>
  rw [h1] at fa
  cases h2 : few13 b with
  | false => rw [h2] at fb; simp [fa, fb]
  | true =>
  rw [h2] at fb
  cases h3 : few13 c with
  | false => rw [h3] at fc; simp [fa, fb, fc]
  | true =>
  rw [h3] at fc
  have oa := of13 a ha (few13_few h1)
  have ob := of13 b hb (few13_few h2)
  have oc := of13 c hc (few13_few h3)
  by_cases ea : (ofR a).2 = 0
  rotate_left
  · simp [fa, fb, fc, oa, ob, oc, ea]
  by_cases eb : (ofR b).2 = 0
  rotate_left
  · simp [fa, fb, fc, oa, ob, oc, ea, eb]
  by_cases ec : (ofR c).2 = 0
  rotate_left
  · simp [fa, fb, fc, oa, ob, oc, ea, eb, ec]
  obtain ⟨ra, pa, la⟩ := ofR_rise ea
  obtain ⟨rb, pb, lb⟩ := ofR_rise eb
  obtain ⟨rc, pc, lc⟩ := ofR_rise ec
  have qa := few_of ha h1
  have qb := few_of hb h2
  have qc := few_of hc h3
  have la' : (ofR a).1.length ≤ 256 := by rw [pa.length_eq]; exact la
  have lb' : (ofR b).1.length ≤ 256 := by rw [pb.length_eq]; exact lb
  have lc' : (ofR c).1.length ≤ 256 := by rw [pc.length_eq]; exact lc
  rw [ea] at oa
  rw [eb] at ob
  rw [ec] at oc
  generalize (ofR a).1 = x at *
  generalize (ofR b).1 = y at *
  generalize (ofR c).1 = z at *
  have kxx := atLeast24 x x la' la' (fun r hr => (qa r hr).1) (fun r hr => (qa r hr).1)
  have kxn : TT.lim 24 [.l (x.map row), .l []] = _ := atLeast24 x [] la' (by simp) (fun r hr => (qa r hr).1) (fun r hr => by simp at hr)
  have knx : TT.lim 24 [.l [], .l (x.map row)] = _ := atLeast24 [] x (by simp) la' (fun r hr => by simp at hr) (fun r hr => (qa r hr).1)
  have kxy := atLeast24 x y la' lb' (fun r hr => (qa r hr).1) (fun r hr => (qb r hr).1)
  have kyx := atLeast24 y x lb' la' (fun r hr => (qb r hr).1) (fun r hr => (qa r hr).1)
  have kyz := atLeast24 y z lb' lc' (fun r hr => (qb r hr).1) (fun r hr => (qc r hr).1)
  have kxz := atLeast24 x z la' lc' (fun r hr => (qa r hr).1) (fun r hr => (qc r hr).1)
  have ks := same27 x y (by omega) (by omega) (fun r hr => (qa r hr).2) (fun r hr => (qb r hr).2)
  rw [atL_refl ra] at kxx
  rw [atL_nil] at kxn
  rw [nil_atL] at knx
  have hz : (decide ((x.length : Int) = 0)) = decide (x.length = 0) := by rw [Bool.eq_iff_iff]; simp
  cases hxy : atL x y with
  | false =>
    rw [hxy] at kxy
    simp [fa, fb, fc, oa, ob, oc, kxx, kxn, knx, kxy]
  | true =>
    rw [hxy] at kxy
    have htr : atL y z = true → atL x z = true := fun h => atL_trans ra rb rc hxy h
    cases hyx : atL y x with
    | true =>
      rw [hyx] at kyx
      have heq : x = y := atL_antisymm ra rb hxy hyx
      have hs : decide (x = y) = true := by simp [heq]
      rw [hs] at ks
      cases hyz : atL y z with
      | false => rw [hyz] at kyz; simp [fa, fb, fc, oa, ob, oc, kxx, kxn, knx, kxy, kyx, ks, kyz]
      | true => rw [hyz] at kyz; rw [htr hyz] at kxz; simp [fa, fb, fc, oa, ob, oc, kxx, kxn, knx, kxy, kyx, ks, kyz, kxz]
    | false =>
      rw [hyx] at kyx
      cases hyz : atL y z with
      | false => rw [hyz] at kyz; simp [fa, fb, fc, oa, ob, oc, kxx, kxn, knx, kxy, kyx, kyz]
      | true => rw [hyz] at kyz; rw [htr hyz] at kxz; simp [fa, fb, fc, oa, ob, oc, kxx, kxn, knx, kxy, kyx, kyz, kxz]

/-! ### Arguments -/
theorem ents_of {cs : List GV} {r0 : List GV} (h : GTy.hasL [.list true [.str, .str], .int .u64] cs) : ∃ r : Row, (Ents r.1 ∧ 0 ≤ r.2 ∧ r.2 < 18446744073709551616) ∧ GV.g cs = row r := by
  obtain ⟨g, l, rfl, h1, h⟩ := hasL_cons h
  obtain ⟨n, l, rfl, h2, h⟩ := hasL_cons h
  obtain rfl := hasL_nil h
  obtain ⟨n, rfl, n1, n2⟩ := has_u64 h2
  obtain ⟨xs, rfl, h3, h4⟩ := has_list h1
  obtain ⟨d, hd, rfl⟩ : ∃ d : List Ent, (∀ x ∈ d, x.1.length ≤ 140737488351232 ∧ x.2.length ≤ 140737488351232) ∧ xs = d.map ent := list_map fun x hx => by
    obtain ⟨k1, k2⟩ := h4 x hx
    cases x <;> simp [GV.scalar] at k2
    obtain ⟨a, l, e1, a1, k1⟩ := hasL_cons k1
    obtain ⟨b, l, rfl, b1, k1⟩ := hasL_cons k1
    obtain rfl := hasL_nil k1
    obtain ⟨s, rfl, s1⟩ := has_str a1
    obtain ⟨u, rfl, u1⟩ := has_str b1
    simp only [cells_g] at e1
    subst e1
    exact ⟨(s, u), ⟨Nat.le_trans s1 (by decide), Nat.le_trans u1 (by decide)⟩, rfl⟩
  exact ⟨(d, n), ⟨⟨by have := Nat.le_trans h3 (by decide : reachBytes ≤ 140737488351232); simpa using this, hd⟩, n1, n2⟩, rfl⟩
abbrev rowsTy : List GTy := [.list true [.list true [.str, .str], .int .u64]]
theorem rows_of {g : GV} (h : (GTy.list true [.list true [.str, .str], .int .u64]).has g) : ∃ l : List Row, Rows l ∧ g = .l (l.map row) := by
  obtain ⟨xs, rfl, h1, h2⟩ := has_list h
  obtain ⟨l, hl, rfl⟩ : ∃ l : List Row, (∀ r ∈ l, Ents r.1 ∧ 0 ≤ r.2 ∧ r.2 < 18446744073709551616) ∧ xs = l.map row := list_map fun x hx => by
    obtain ⟨k1, k2⟩ := h2 x hx
    cases x <;> simp [GV.scalar] at k2
    obtain ⟨r, hr, e⟩ := ents_of (r0 := []) k1
    exact ⟨r, hr, e⟩
  exact ⟨l, ⟨by have := Nat.le_trans h1 (by decide : reachBytes ≤ 140737488351232); simpa using this, hl⟩, rfl⟩
theorem tableOrder (gs : List GV) (h : hasArgs [(false, rowsTy), (false, rowsTy), (false, rowsTy)] gs) : TT.lim 1 gs = some [.b true] := by
  obtain ⟨a, gs, rfl, h1, h⟩ := hasA_sc h
  obtain ⟨b, gs, rfl, h2, h⟩ := hasA_sc h
  obtain ⟨c, gs, rfl, h3, h⟩ := hasA_sc h
  obtain rfl := hasA_nil h
  obtain ⟨a, ha, rfl⟩ := rows_of h1
  obtain ⟨b, hb, rfl⟩ := rows_of h2
  obtain ⟨c, hc, rfl⟩ := rows_of h3
  exact order1 a b c ha hb hc
/-! ### The number of a descriptor -/
def getR : List Row → List Ent → Option Int
  | [], _ => none
  | r :: rs, d => if r.1 = d then some r.2 else getR rs d
def outGet : Option Int → List GV
  | some n => [.i .i64 0, .i .u64 n]
  | none => [.i .i64 1]
theorem loop36 (t : List Row) (d : List Ent) (ht : t.length ≤ 140737488351232) (hd : d.length ≤ 140737488351232) (hf : ∀ r ∈ t, r.1.length ≤ 140737488351232) : ∀ m i : Nat, i + m = t.length →
    TT.lim 36 [.l (d.map ent), .l (t.map row), .i .i64 t.length, .i .i64 i] = some (outGet (getR (t.drop i) d))
  | 0, i, hi => by
    have h0 : t.drop i = [] := List.drop_eq_nil_of_le (by omega)
    refine tree_lim rfl rfl ?_
    have h : ¬ ((i : Int) < t.length) := by omega
    simp [h, h0, getR, outGet]
  | m + 1, i, hi => by
    have hlt : i < t.length := by omega
    have ih : TT.lim 36 [.l (d.map ent), .l (t.map row), .i .i64 t.length, .i .i64 ((i : Int) + 1)] = _ := loop36 t d ht hd hf m (i + 1) (by omega)
    have k := equal31 t[i].1 d (hf _ (List.getElem_mem hlt)) hd
    have hg : getR (t.drop i) d = if t[i].1 = d then some t[i].2 else getR (t.drop (i + 1)) d := by rw [List.drop_eq_getElem_cons hlt]; rfl
    rw [hg]
    refine tree_lim rfl rfl ?_
    have h : ((i : Int) < t.length) := by omega
    have hw := wrap64 (n := (i : Int) + 1) (by omega) (by omega)
    by_cases h1 : t[i].1 = d
    · rw [if_pos h1]
      have k' : TT.lim 31 [.l (t[i].1.map ent), .l (d.map ent)] = some [.b true] := by rw [k]; simp [h1]
      simp [h, hlt, k', outGet]
    · rw [if_neg h1]
      have k' : TT.lim 31 [.l (t[i].1.map ent), .l (d.map ent)] = some [.b false] := by rw [k]; simp [h1]
      simp [h, hlt, k', hw, ih]
theorem get35 (t : List Row) (d : List Ent) (ht : t.length ≤ 140737488351232) (hd : d.length ≤ 140737488351232) (hf : ∀ r ∈ t, r.1.length ≤ 140737488351232) : TT.lim 35 [.l (t.map row), .l (d.map ent)] = some [.i .u64 ((getR t d).getD 0)] := by
  have h36 : TT.lim 36 [.l (d.map ent), .l (t.map row), .i .i64 t.length, .i .i64 0] = _ := loop36 t d ht hd hf t.length 0 (by omega)
  rw [List.drop_zero] at h36
  refine fn_lim rfl rfl ?_ rfl
  cases hg : getR t d <;> rw [hg] at h36 <;> simp [h36, outGet]
theorem getR_mem : ∀ {t : List Row}, Rise t → ∀ r ∈ t, getR t r.1 = some r.2
  | [], _, r, hr => by simp at hr
  | x :: t, ht, r, hr => by
    have ht' := List.pairwise_cons.1 ht
    unfold getR
    by_cases h : x.1 = r.1
    · rw [if_pos h]
      have : x = r := rise_key ht (by simp) hr (by show keyF x.1 = keyF r.1; rw [h])
      rw [this]
    · rw [if_neg h]
      rcases List.mem_cons.1 hr with e | hr
      · exact absurd (by rw [e]) h
      · exact getR_mem ht'.2 r hr

/-! ### May a table be? -/
def chkR : Option (List UInt8) → List Row → Int
  | _, [] => 0
  | p, r :: rs => if rowChk r ≠ 0 then rowChk r else match p with
    | none => chkR (some (K r)) rs
    | some k => if K r = k then 14 else if Op.bytesLess (K r) k = true then 7 else chkR (some (K r)) rs
theorem loop38 (t : List Row) (ht : Rows t) (hf : ∀ r ∈ t, few12 r.1 = true) : ∀ (m i : Nat) (p : List UInt8), i + m = t.length →
    TT.lim 38 [.s p, .l (t.map row), .i .i64 t.length, .i .i64 i] = some (tagged (chkR (if i = 0 then none else some p) (t.drop i)))
  | 0, i, p, hi => by
    have h0 : t.drop i = [] := List.drop_eq_nil_of_le (by omega)
    refine tree_lim rfl rfl ?_
    have h : ¬ ((i : Int) < t.length) := by omega
    simp [h, h0, chkR, tagged]
  | m + 1, i, p, hi => by
    have hlt : i < t.length := by omega
    have hr := ht.2 t[i] (List.getElem_mem hlt)
    have k15 := check15 t[i] hr.1
    have k6 := key6 t[i].1 (hf _ (List.getElem_mem hlt))
    have hrow : GV.g [.l (t[i].1.map ent), .i .u64 t[i].2] = row t[i] := rfl
    have ih : TT.lim 38 [.s (keyF t[i].1), .l (t.map row), .i .i64 t.length, .i .i64 ((i : Int) + 1)] = _ := loop38 t ht hf m (i + 1) (keyF t[i].1) (by omega)
    rw [if_neg (by omega)] at ih
    rw [List.drop_eq_getElem_cons hlt]
    refine tree_lim rfl rfl ?_
    have h : ((i : Int) < t.length) := by omega
    have hw := wrap64 (n := (i : Int) + 1) (by omega) (by have := ht.1; omega)
    by_cases h1 : rowChk t[i] = 0
    rotate_left
    · simp [-List.getElem_cons_drop, h, hlt, hrow, k15, h1, chkR, tagged]
    by_cases h0 : i = 0
    · subst h0
      simp only [Int.natCast_zero, Int.zero_add] at hw ih
      simp [-List.getElem_cons_drop, h, hlt, hrow, k15, h1, k6, hw, chkR]
      have hn : (0 : Int) < (t.length : Int) := by omega
      simpa using ih
    · have hi0 : 0 < i := by omega
      by_cases h2 : keyF t[i].1 = p
      · have h2' : (keyF t[i].1 = p) = True := eq_true h2
        clear h2
        simp [-List.getElem_cons_drop, h, hlt, hrow, k15, h1, k6, hi0, h0, h2', chkR, tagged]
      · cases h3 : Op.bytesLess (keyF t[i].1) p with
        | true => simp [-List.getElem_cons_drop, h, hlt, hrow, k15, h1, k6, hi0, h0, h2, h3, chkR, tagged]
        | false => simp [-List.getElem_cons_drop, h, hlt, hrow, k15, h1, k6, hi0, h0, h2, h3, hw, ih, chkR]
def checkT (t : List Row) : Int := if 256 < t.length then 13 else chkR none t
theorem check37 (t : List Row) (ht : Rows t) (hf : ∀ r ∈ t, few12 r.1 = true) : TT.lim 37 [.l (t.map row)] = some [.i .i64 (checkT t)] := by
  have h38 : TT.lim 38 [.s [], .l (t.map row), .i .i64 t.length, .i .i64 0] = _ := loop38 t ht hf t.length 0 [] (by omega)
  rw [if_pos rfl, List.drop_zero] at h38
  refine fn_lim rfl rfl ?_ rfl
  unfold checkT
  by_cases h1 : 256 < t.length
  · have h1' : (256 : Int) < (t.length : Int) := by omega
    simp [h1, h1']
  · have h1' : ¬ (256 : Int) < (t.length : Int) := by omega
    by_cases h2 : chkR none t = 0
    · simp only [tagged, h2, if_true] at h38
      simp [h1, h1', h38, h2]
    · simp only [tagged, h2, if_false] at h38
      simp [h1, h1', h38, h2]
theorem chkR_rise : ∀ {t : List Row} (p : Option (List UInt8)), Rise t → (∀ r ∈ t, rowChk r = 0) → (∀ k, p = some k → ∀ r ∈ t, k < K r) → chkR p t = 0
  | [], p, _, _, _ => by cases p <;> rfl
  | r :: t, p, ht, hc, hp => by
    have ht' := List.pairwise_cons.1 ht
    have ih := chkR_rise (t := t) (some (K r)) ht'.2 (fun x hx => hc x (by simp [hx])) (fun k hk x hx => by cases hk; exact ht'.1 x hx)
    unfold chkR
    rw [if_neg (by simp [hc r (by simp)])]
    cases p with
    | none => exact ih
    | some k =>
      have hk := hp k rfl r (by simp)
      have h1 : ¬ K r = k := fun e => by rw [e] at hk; exact List.lt_irrefl _ hk
      have h2 : ¬ Op.bytesLess (K r) k = true := fun e => List.lt_irrefl _ (List.lt_trans hk ((bl_iff _ _).1 e))
      simp only
      rw [if_neg h1, if_neg h2]
      exact ih

/-! ### Rows in another order -/
theorem firstErr_iff : ∀ l : List Row, firstErr l = 0 ↔ ∀ r ∈ l, rowChk r = 0
  | [] => by simp [firstErr]
  | r :: l => by
    unfold firstErr
    by_cases h : rowChk r = 0
    · rw [if_pos h, firstErr_iff l]; simp [h]
    · rw [if_neg h]; simp [h]
theorem adj_nodup : ∀ {l : List Row}, (l.map K).Nodup → adjDup l = false
  | [], _ => rfl
  | [_], _ => rfl
  | a :: b :: l, h => by
    simp only [List.map_cons, List.nodup_cons, List.mem_cons, not_or] at h
    simp only [adjDup, Bool.or_eq_false_iff, decide_eq_false_iff_not]
    exact ⟨h.1.1, adj_nodup (l := b :: l) (by simp only [List.map_cons, List.nodup_cons]; exact h.2)⟩
theorem rise_nodup {l : List Row} (h : Rise l) : (l.map K).Nodup := by
  unfold List.Nodup
  rw [List.pairwise_map]
  refine h.imp fun {a b} hab e => ?_
  rw [e] at hab
  exact List.lt_irrefl _ hab
theorem adj_iff (l : List Row) : adjDup (sortR l) = false ↔ (l.map K).Nodup := by
  constructor
  · intro h
    exact ((sortR_perm l).map K).nodup_iff.1 (rise_nodup (rise_of (sortR_sorted l) h))
  · intro h
    exact adj_nodup (((sortR_perm l).map K).nodup_iff.2 h)
theorem ofR_ok (l : List Row) : (ofR l).2 = 0 ↔ (l.length ≤ 256 ∧ (∀ r ∈ l, rowChk r = 0) ∧ (l.map K).Nodup) := by
  rw [← firstErr_iff, ← adj_iff]
  unfold ofR
  by_cases h1 : 256 < l.length
  · rw [if_pos h1]; simp; omega
  rw [if_neg h1]
  by_cases h2 : firstErr l = 0
  · rw [if_pos h2]
    cases h3 : adjDup (sortR l) with
    | true => simp
    | false => simp [h2]; omega
  · rw [if_neg h2]; simp [h2]
theorem ofR_nil {l : List Row} (h : (ofR l).2 ≠ 0) : (ofR l).1 = [] := by
  unfold ofR at h ⊢
  split
  · rfl
  next h1 =>
  rw [if_neg h1] at h
  split
  · next h2 =>
    rw [if_pos h2] at h
    split
    · rfl
    · next h3 => rw [if_neg h3] at h; exact absurd rfl h
  · rfl
theorem ofR_perm {l m : List Row} (h : l.Perm m) : (ofR l).2 = 0 → (ofR m).2 = 0 := by
  rw [ofR_ok, ofR_ok]
  rintro ⟨h1, h2, h3⟩
  exact ⟨by rw [← h.length_eq]; exact h1, fun r hr => h2 r (h.mem_iff.2 hr), (h.map K).nodup_iff.1 h3⟩
theorem ofR_same {l m : List Row} (h : l.Perm m) (h1 : (ofR l).2 = 0) : (ofR l).1 = (ofR m).1 := by
  obtain ⟨r1, p1, _⟩ := ofR_rise h1
  obtain ⟨r2, p2, _⟩ := ofR_rise (ofR_perm h h1)
  exact rise_eq r1 r2 (fun r hr => p2.mem_iff.2 (h.mem_iff.1 (p1.mem_iff.1 hr))) (fun r hr => p1.mem_iff.2 (h.mem_iff.2 (p2.mem_iff.1 hr)))

theorem loop34 (a t u : List Row) (f : Int) (ha : Rows a) (ht : t.length ≤ 140737488351232) (hf : ∀ r ∈ t, r.1.length ≤ 140737488351232) (hall : ∀ r ∈ a, getR t r.1 = some r.2) : ∀ m i : Nat, i + m = a.length →
    TT.lim 34 [.l (a.map row), .l (t.map row), .l (u.map row), .i .i64 f, .i .i64 a.length, .i .i64 i] = some [.i .i64 1, .l (a.map row), .l (t.map row), .l (u.map row), .i .i64 f]
  | 0, i, hi => by
    refine tree_lim rfl rfl ?_
    have h : ¬ ((i : Int) < a.length) := by omega
    simp [h]
  | m + 1, i, hi => by
    have hlt : i < a.length := by omega
    have hm := List.getElem_mem hlt
    have ih : TT.lim 34 [.l (a.map row), .l (t.map row), .l (u.map row), .i .i64 f, .i .i64 a.length, .i .i64 ((i : Int) + 1)] = _ := loop34 a t u f ha ht hf hall m (i + 1) (by omega)
    have k := get35 t a[i].1 ht (ha.2 _ hm).1.1 hf
    rw [hall _ hm] at k
    refine tree_lim rfl rfl ?_
    have h : ((i : Int) < a.length) := by omega
    have hw := wrap64 (n := (i : Int) + 1) (by omega) (by have := ha.1; omega)
    simp at k
    simp [h, hlt, k, hw, ih]
theorem Rows.perm {l m : List Row} (h : l.Perm m) (hl : Rows l) : Rows m := ⟨by rw [← h.length_eq]; exact hl.1, fun r hr => hl.2 r (h.mem_iff.2 hr)⟩
set_option maxHeartbeats 4000000 in
theorem sorts33 (a : List Row) (n : Int) (ha : Rows a) (h0 : 0 ≤ n) (h1 : n < 65536) : TT.lim 33 [.l (a.map row), .i .u16 n] = some [.b true] := by
  have fa := few2 a ha
  refine fn_lim rfl rfl ?_ rfl
  cases hfw : few13 a with
  | false => rw [hfw] at fa; simp [fa]
  | true =>
  rw [hfw] at fa
  by_cases hz : a.length = 0
  · have : a = [] := List.eq_nil_of_length_eq_zero hz
    subst this
    simp only [List.map_nil] at fa
    simp [fa]
  have hz' : ¬ ((a.length : Int) = 0) := by omega
  have h300 : a.length ≤ 300 := by unfold few13 at hfw; rw [Bool.and_eq_true, decide_eq_true_iff] at hfw; exact hfw.2
  obtain ⟨k, hk⟩ : ∃ k : Nat, (k : Int) = n.tmod (a.length : Int) := ⟨(n.tmod a.length).toNat, by
    rw [Int.tmod_eq_emod_of_nonneg h0]; exact Int.toNat_of_nonneg (Int.emod_nonneg _ hz')⟩
  have hkl : k < a.length := by
    have := Int.emod_lt_of_pos n (show (0 : Int) < (a.length : Int) by omega)
    rw [Int.tmod_eq_emod_of_nonneg h0] at hk
    omega
  have hcv : IntKind.i64.wrap n = n := wrap64 (by omega) (by omega)
  let b := a.drop k ++ a.take k
  have hp : a.Perm b := by
    have := List.perm_append_comm (l₁ := a.take k) (l₂ := a.drop k)
    rw [List.take_append_drop] at this
    exact this
  have oa := of13 a ha (few13_few hfw)
  have ob' : TT.lim 13 [.l (List.drop k (a.map row) ++ List.take k (a.map row))] = some [.l ((ofR b).1.map row), .i .i64 (ofR b).2] := by
    have h := of13 b (ha.perm hp) (fun r hr => few13_few hfw r (hp.mem_iff.2 hr))
    have e : b.map row = List.drop k (a.map row) ++ List.take k (a.map row) := by
      show (a.drop k ++ a.take k).map row = _
      rw [List.map_append, List.map_drop, List.map_take]
    rwa [e] at h
  have hall2 : ((a.map row).all fun x => Nat.beq x.cells.length 2) = true := by
    rw [List.all_eq_true]; intro x hx; obtain ⟨r, _, rfl⟩ := List.mem_map.1 hx; rfl
  have hok1 : ((a.map row).drop k).all (GV.elemOk 2) = true := by
    rw [List.all_eq_true]; intro x hx; obtain ⟨r, _, rfl⟩ := List.mem_map.1 ((List.drop_sublist _ _).subset hx); rfl
  have hok2 : ((a.map row).take k).all (GV.elemOk 2) = true := by
    rw [List.all_eq_true]; intro x hx; obtain ⟨r, _, rfl⟩ := List.mem_map.1 ((List.take_sublist _ _).subset hx); rfl
  have htk : (a.map row).take a.length = a.map row := List.take_of_length_le (by simp)
  have hb1 : 2 * (a.length - k) * 32 ≤ 281474976710656 ∧ a.length - k ≤ 281474976710656 := by omega
  have hb2 : 2 * (a.length - k + min k a.length) * 32 ≤ 281474976710656 ∧ a.length - k + min k a.length ≤ 281474976710656 := by omega
  have hk0 : (0 : Int) ≤ (k : Int) ∧ (k : Int) ≤ (a.length : Int) := by omega
  by_cases ea : (ofR a).2 = 0
  · obtain ⟨ra, pa, la⟩ := ofR_rise ea
    have eb := ofR_perm hp ea
    have hs := ofR_same hp ea
    have hrows := ha.perm pa.symm
    have hfe : ∀ r ∈ (ofR a).1, few12 r.1 = true := fun r hr => few13_few hfw r (pa.mem_iff.1 hr)
    have hlen : (ofR a).1.length = a.length := pa.length_eq
    rw [eb] at ob'
    rw [ea] at oa
    rw [← hs] at ob'
    have hchk : checkT (ofR a).1 = 0 := by
      unfold checkT
      rw [if_neg (by omega)]
      exact chkR_rise none ra (fun r hr => ((ofR_ok a).1 ea).2.1 r (pa.mem_iff.1 hr)) (fun k hk => by cases hk)
    have hgall : ∀ r ∈ a, getR (ofR a).1 r.1 = some r.2 := fun r hr => getR_mem ra r (pa.mem_iff.2 hr)
    generalize (ofR a).1 = t at *
    have k37 := check37 t hrows hfe
    rw [hchk] at k37
    have k27 := same27 t t hrows.1 hrows.1 (fun r hr => (hrows.2 r hr).1.1) (fun r hr => (hrows.2 r hr).1.1)
    have k34 : TT.lim 34 [.l (a.map row), .l (t.map row), .l (t.map row), .i .i64 0, .i .i64 a.length, .i .i64 0] = _ := loop34 a t t 0 ha hrows.1 (fun r hr => (hrows.2 r hr).1.1) hgall a.length 0 (by omega)
    simp at k27
    have hlen' : (t.length : Int) = (a.length : Int) := by omega
    simp [-List.all_eq_true, fa, hz, hz', oa, hcv, ← hk, hall2, htk, hok1, hok2, hb1, hb2, hk0, ob', k34, k27, k37, hlen']
  · have eb : ¬ (ofR b).2 = 0 := fun e => ea (ofR_perm hp.symm e)
    have na := ofR_nil ea
    have nb := ofR_nil eb
    rw [na] at oa
    rw [nb] at ob'
    simp [-List.all_eq_true, fa, hz, hz', oa, hcv, ← hk, hall2, htk, hok1, hok2, hb1, hb2, hk0, ob', ea, eb]
theorem has_u16 {g : GV} (h : (GTy.int .u16).has g) : ∃ n, g = .i .u16 n ∧ 0 ≤ n ∧ n < 65536 := by
  simp only [GTy.has] at h
  obtain ⟨n, rfl, h1, h2⟩ := h
  exact ⟨n, rfl, by simpa [IntKind.min, IntKind.signed] using h1, by simp [IntKind.max, IntKind.signed, IntKind.bits] at h2; omega⟩
theorem tableSorts (gs : List GV) (h : hasArgs [(false, rowsTy), (false, [.int .u16])] gs) : TT.lim 33 gs = some [.b true] := by
  obtain ⟨a, gs, rfl, h1, h⟩ := hasA_sc h
  obtain ⟨n, gs, rfl, h2, h⟩ := hasA_sc h
  obtain rfl := hasA_nil h
  obtain ⟨a, ha, rfl⟩ := rows_of h1
  obtain ⟨n, rfl, n1, n2⟩ := has_u16 h2
  exact sorts33 a n ha n1 n2
end D
end Go.Proofs.YtamcdgfjjeldeaaGreatDoor
