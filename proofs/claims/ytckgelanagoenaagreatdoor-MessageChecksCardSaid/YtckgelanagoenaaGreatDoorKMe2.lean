/- What the trees compute: plain laws. -/
import Derived.Test.YtckgelanagoenaaGreatDoorKMe1
namespace Go.Proofs.YtckgelanagoenaaGreatDoor
open Go Go.Abs
set_option linter.unusedSimpArgs false
set_option linter.unusedVariables false
set_option maxRecDepth 100000
namespace M
def common : List UInt8 → List UInt8 → Nat
  | a :: x, b :: y => if a = b then common x y + 1 else 0
  | _, _ => 0
theorem common_nil (b : List UInt8) : common [] b = 0 := by unfold common; rfl
theorem common_nil' (a : List UInt8) : common a [] = 0 := by cases a <;> rfl
theorem common_le : ∀ a b : List UInt8, common a b ≤ a.length ∧ common a b ≤ b.length
  | [], b => by simp [common]
  | _ :: _, [] => by simp [common]
  | a :: x, b :: y => by
    unfold common
    have := common_le x y
    split
    · simp only [List.length_cons]; omega
    · omega
theorem comLoop (a b : List UInt8) (ha : a.length ≤ 140737488351232) (hb : b.length ≤ 140737488351232) : ∀ m i : Nat, i + m = a.length → TT.lim 132 [.s a, .s b, .i .i64 i] = some [.i .i64 0, .i .i64 ((i + common (a.drop i) (b.drop i) : Nat) : Int)]
  | 0, i, hi => by
    have h0 : a.drop i = [] := List.drop_eq_nil_of_le (by omega)
    have h : ¬ ((i : Int) < a.length) := by omega
    refine tree_lim rfl rfl ?_
    simp [h, h0, common_nil]
  | m + 1, i, hi => by
    have hlt : i < a.length := by omega
    have h : ((i : Int) < a.length) := by omega
    by_cases hlb : i < b.length
    rotate_left
    · have h0 : b.drop i = [] := List.drop_eq_nil_of_le (by omega)
      have h1 : ¬ ((i : Int) < b.length) := by omega
      refine tree_lim rfl rfl ?_
      simp [h, h0, h1, common_nil']
    have hb1 : ((i : Int) < b.length) := by omega
    have ih : TT.lim 132 [.s a, .s b, .i .i64 ((i : Int) + 1)] = _ := comLoop a b ha hb m (i + 1) (by omega)
    have hw := wrap64 (n := (i : Int) + 1) (by omega) (by omega)
    rw [List.drop_eq_getElem_cons hlt, List.drop_eq_getElem_cons hlb]
    unfold common
    by_cases e : a[i] = b[i]
    · rw [if_pos e]
      have e' : ((a[i].toNat : Int) = (b[i].toNat : Int)) = True := eq_true (by rw [e])
      have e2 : ((i + (common (a.drop (i + 1)) (b.drop (i + 1)) + 1) : Nat) : Int) = ((i + 1 + common (a.drop (i + 1)) (b.drop (i + 1)) : Nat) : Int) := by omega
      rw [e2]
      refine tree_lim rfl rfl ?_
      simp [h, hlt, hlb, hb1, e', hw, ih]
    · rw [if_neg e]
      have e' : ¬ (a[i].toNat : Int) = (b[i].toNat : Int) := fun h => e (UInt8.toNat_inj.1 (by omega))
      refine tree_lim rfl rfl ?_
      simp [h, hlt, hlb, hb1, e']
theorem comP (a b : List UInt8) (ha : a.length ≤ 140737488351232) (hb : b.length ≤ 140737488351232) : TT.lim 131 [.s a, .s b] = some [.i .i64 (common a b)] := by
  have k : TT.lim 132 [.s a, .s b, .i .i64 0] = _ := comLoop a b ha hb a.length 0 (by omega)
  rw [List.drop_zero, List.drop_zero, Nat.zero_add] at k
  refine fn_lim rfl rfl ?_ rfl
  simp [k]
theorem rcomLoop (a b : List UInt8) (ha : a.length ≤ 140737488351232) (hb : b.length ≤ 140737488351232) : ∀ m i : Nat, i + m = a.length →
    TT.lim 119 [.s a, .s b, .i .i64 i] = some (if common (a.drop i) (b.drop i) < a.length - i ∧ common (a.drop i) (b.drop i) < b.length - i then [.i .i64 0, .i .i64 ((i + common (a.drop i) (b.drop i) : Nat) : Int)] else [.i .i64 1])
  | 0, i, hi => by
    have h0 : a.drop i = [] := List.drop_eq_nil_of_le (by omega)
    have h : ¬ ((i : Int) < a.length) := by omega
    have h2 : ¬ (common ([] : List UInt8) (b.drop i) < a.length - i ∧ common [] (b.drop i) < b.length - i) := by omega
    rw [h0, if_neg h2]
    refine tree_lim rfl rfl ?_
    simp [h]
  | m + 1, i, hi => by
    have hlt : i < a.length := by omega
    have h : ((i : Int) < a.length) := by omega
    by_cases hlb : i < b.length
    rotate_left
    · have h1 : ¬ ((i : Int) < b.length) := by omega
      rw [if_neg (by omega)]
      refine tree_lim rfl rfl ?_
      simp [h, h1]
    have hb1 : ((i : Int) < b.length) := by omega
    have ih : TT.lim 119 [.s a, .s b, .i .i64 ((i : Int) + 1)] = _ := rcomLoop a b ha hb m (i + 1) (by omega)
    have hw := wrap64 (n := (i : Int) + 1) (by omega) (by omega)
    have hc : common (a.drop i) (b.drop i) = if a[i] = b[i] then common (a.drop (i + 1)) (b.drop (i + 1)) + 1 else 0 := by
      rw [List.drop_eq_getElem_cons hlt, List.drop_eq_getElem_cons hlb]; rfl
    rw [hc]
    by_cases e : a[i] = b[i]
    · rw [if_pos e]
      have e' : ((a[i].toNat : Int) = (b[i].toNat : Int)) = True := eq_true (by rw [e])
      have e2 : ((i + (common (a.drop (i + 1)) (b.drop (i + 1)) + 1) : Nat) : Int) = ((i + 1 + common (a.drop (i + 1)) (b.drop (i + 1)) : Nat) : Int) := by omega
      have e3 : (common (a.drop (i + 1)) (b.drop (i + 1)) + 1 < a.length - i ∧ common (a.drop (i + 1)) (b.drop (i + 1)) + 1 < b.length - i) = (common (a.drop (i + 1)) (b.drop (i + 1)) < a.length - (i + 1) ∧ common (a.drop (i + 1)) (b.drop (i + 1)) < b.length - (i + 1)) := by
        apply propext; omega
      rw [e2]
      simp only [e3]
      refine tree_lim rfl rfl ?_
      simp [-Int.natCast_add, h, hlt, hlb, hb1, e', hw, ih]
    · rw [if_neg e]
      have e' : ¬ (a[i].toNat : Int) = (b[i].toNat : Int) := fun h => e (UInt8.toNat_inj.1 (by omega))
      rw [if_pos (by omega)]
      refine tree_lim rfl rfl ?_
      simp [h, hlt, hlb, hb1, e']
theorem rcomP (a b : List UInt8) (ha : a.length ≤ 140737488351232) (hb : b.length ≤ 140737488351232) : TT.lim 118 [.s a, .s b] = some [.i .i64 (common a b)] := by
  have k : TT.lim 119 [.s a, .s b, .i .i64 0] = _ := rcomLoop a b ha hb a.length 0 (by omega)
  rw [List.drop_zero, List.drop_zero, Nat.zero_add, Nat.sub_zero, Nat.sub_zero] at k
  have hl := common_le a b
  refine fn_lim rfl rfl ?_ rfl
  by_cases hc : common a b < a.length ∧ common a b < b.length
  · rw [if_pos hc] at k
    simp [k]
  · rw [if_neg hc] at k
    by_cases h2 : (b.length : Int) < a.length
    · have : (common a b : Int) = b.length := by omega
      simp [k, h2, this]
    · have : (common a b : Int) = a.length := by omega
      simp [k, h2, this]
/-- A text behind another one, as it is written. -/
def oneF (a s : List UInt8) : List UInt8 := vput (common a s) ++ vput (s.length - common a s) ++ s.drop (common a s)
theorem oneP (a s : List UInt8) (ha : a.length ≤ 100000000) (hs : s.length ≤ 100000000) : TT.lim 130 [.s a, .s s] = some [.s (oneF a s)] := by
  have k := comP a s (by omega) (by omega)
  have hl := common_le a s
  have p1 := put7 (common a s) (by omega)
  have p2 := put7 (s.length - common a s) (by omega)
  have l1 := vput_len (n := common a s) (by omega)
  have l2 := vput_len (n := s.length - common a s) (by omega)
  have w1 := wrapu64 (n := (common a s : Int)) (by omega) (by omega)
  have w2 := wrapu64 (n := (s.length : Int) - (common a s : Int)) (by omega) (by omega)
  have w3 := wrap64 (n := (s.length : Int) - (common a s : Int)) (by omega) (by omega)
  have e2 : (s.length : Int) - (common a s : Int) = ((s.length - common a s : Nat) : Int) := by omega
  rw [e2] at w2 w3
  refine fn_lim rfl rfl ?_ rfl
  unfold oneF
  generalize common a s = c at *
  have h1 : ((vput c).length : Int) + ((vput (s.length - c)).length : Int) ≤ 9223372036854775807 := by omega
  have h2 : ((vput c).length : Int) + ((vput (s.length - c)).length : Int) + ((s.length : Int) - (c : Int)) ≤ 9223372036854775807 := by omega
  have h3 : (c : Int) ≤ s.length := by omega
  have h4 : ((s.length - c : Nat) : Int) = (s.length : Int) - c := by omega
  have hd : (s.take s.length).drop c = s.drop c := by rw [List.take_length]
  rw [← e2] at w2 w3
  rw [← e2] at p2
  simp [k, p1, p2, w1, w2, w3, h1, h2, h3, h4, hd]
def strs (l : List (List UInt8)) : GV := .l (l.map GV.s)
theorem oneF_len (a s : List UInt8) (hs : s.length ≤ 100000000) : (oneF a s).length ≤ 20 + s.length := by
  have hl := common_le a s
  have l1 := vput_len (n := common a s) (by omega)
  have l2 := vput_len (n := s.length - common a s) (by omega)
  unfold oneF
  simp only [List.length_append, List.length_drop]
  omega
theorem roneP (a s : List UInt8) (ha : a.length ≤ 100000000) (hs : s.length ≤ 100000000) : TT.lim 117 [.s a, .s s] = some [.s (oneF a s)] := by
  have k := rcomP a s (by omega) (by omega)
  have hl := common_le a s
  have p1 := put75 (common a s) (by omega)
  have p2 := put75 (s.length - common a s) (by omega)
  have l1 := vput_len (n := common a s) (by omega)
  have l2 := vput_len (n := s.length - common a s) (by omega)
  have w1 := wrapu64 (n := (common a s : Int)) (by omega) (by omega)
  have w2 := wrapu64 (n := (s.length : Int) - (common a s : Int)) (by omega) (by omega)
  have w3 := wrap64 (n := (s.length : Int) - (common a s : Int)) (by omega) (by omega)
  have e2 : (s.length : Int) - (common a s : Int) = ((s.length - common a s : Nat) : Int) := by omega
  rw [e2] at w2 w3
  refine fn_lim rfl rfl ?_ rfl
  unfold oneF
  generalize common a s = c at *
  have h1 : ((vput c).length : Int) + ((vput (s.length - c)).length : Int) ≤ 9223372036854775807 := by omega
  have h2 : ((vput c).length : Int) + ((vput (s.length - c)).length : Int) + ((s.length : Int) - (c : Int)) ≤ 9223372036854775807 := by omega
  have h3 : (c : Int) ≤ s.length := by omega
  have h4 : ((s.length - c : Nat) : Int) = (s.length : Int) - c := by omega
  have hd : (s.take s.length).drop c = s.drop c := by rw [List.take_length]
  rw [← e2] at w2 w3
  rw [← e2] at p2
  simp [k, p1, p2, w1, w2, w3, h1, h2, h3, h4, hd]
theorem eqsLoop (d e : List (List UInt8)) (hl : d.length = e.length) (hb : d.length ≤ 140737488351232) : ∀ m i : Nat, i + m = d.length →
    TT.lim 126 [.l (d.map GV.s), .l (e.map GV.s), .i .i64 d.length, .i .i64 i] = some (if d.drop i = e.drop i then [.i .i64 1] else [.i .i64 0])
  | 0, i, hi => by
    have h0 : d.drop i = [] := List.drop_eq_nil_of_le (by omega)
    have h1 : e.drop i = [] := List.drop_eq_nil_of_le (by omega)
    refine tree_lim rfl rfl ?_
    have h : ¬ ((i : Int) < d.length) := by omega
    simp [h, h0, h1]
  | m + 1, i, hi => by
    have hlt : i < d.length := by omega
    have hlt2 : i < e.length := by omega
    have ih : TT.lim 126 [.l (d.map GV.s), .l (e.map GV.s), .i .i64 d.length, .i .i64 ((i : Int) + 1)] = _ := eqsLoop d e hl hb m (i + 1) (by omega)
    have hd : (d.drop i = e.drop i) ↔ (d[i] = e[i] ∧ d.drop (i + 1) = e.drop (i + 1)) := by
      rw [List.drop_eq_getElem_cons hlt, List.drop_eq_getElem_cons hlt2, List.cons.injEq]
    refine tree_lim rfl rfl ?_
    have h : ((i : Int) < d.length) := by omega
    have hw := wrap64 (n := (i : Int) + 1) (by omega) (by omega)
    by_cases h1 : d[i] = e[i]
    · have h2 : (d.drop i = e.drop i) ↔ (d.drop (i + 1) = e.drop (i + 1)) := by rw [hd]; simp [h1]
      have h1' : (d[i] = e[i]) = True := eq_true h1
      clear h1
      simp only [h2]
      simp [h, hlt, hlt2, h1', hw, ih]
    · have h2 : ¬ (d.drop i = e.drop i) := by rw [hd]; simp [h1]
      rw [if_neg h2]
      simp [h, hlt, hlt2, h1]
theorem eqsP (d e : List (List UInt8)) (hb : d.length ≤ 140737488351232) (hb2 : e.length ≤ 140737488351232) : TT.lim 125 [strs d, strs e] = some [.b (decide (d = e))] := by
  unfold strs
  refine fn_lim rfl rfl ?_ rfl
  by_cases hl : d.length = e.length
  · have hl' : (d.length : Int) = (e.length : Int) := by omega
    have h32 : TT.lim 126 [.l (d.map GV.s), .l (e.map GV.s), .i .i64 d.length, .i .i64 0] = _ := eqsLoop d e hl hb d.length 0 (by omega)
    rw [List.drop_zero, List.drop_zero] at h32
    by_cases h : d = e
    · rw [if_pos h] at h32
      have h' : (d = e) = True := eq_true h
      clear h
      rw [hl'] at h32
      simp [hl', h32, h']
    · rw [if_neg h] at h32
      rw [hl'] at h32
      simp [hl', h32, h]
  · have hl' : ¬ (d.length : Int) = (e.length : Int) := by omega
    have h : ¬ d = e := fun h => hl (by rw [h])
    simp [hl', hl, h]
def rowsPut : List UInt8 → List Row → List UInt8
  | _, [] => []
  | a, r :: t => oneF a (keyF r.1) ++ (vput r.2.toNat ++ rowsPut (keyF r.1) t)
/-- A table, as it is written. -/
def packF (t : List Row) : List UInt8 := vput t.length ++ rowsPut [] t
def putK (t : List Row) : List UInt8 × Int := if checkT t ≠ 0 then ([], checkT t) else (packF t, 0)
theorem rowsPut_len : ∀ (t : List Row) (a : List UInt8), (∀ r ∈ t, few12 r.1 = true ∧ 0 ≤ r.2 ∧ r.2 < 18446744073709551616) → (rowsPut a t).length ≤ 40000 * t.length
  | [], a, _ => by simp [rowsPut]
  | r :: t, a, h => by
    obtain ⟨h1, h2, h3⟩ := h r (by simp)
    have hk := key_len h1
    have ho := oneF_len a (keyF r.1) (by omega)
    have hv := vput_len (n := r.2.toNat) (by omega)
    have ih := rowsPut_len t (keyF r.1) fun q hq => h q (by simp [hq])
    simp only [rowsPut, List.length_append, List.length_cons]
    omega
theorem kputStep (L : List GV) (n i : Int) (D : List Ent) (N : Int) (a k O V acc : List UInt8) (R : List GV) (j : Nat) (hi : i = j) (h : i < n) (hg : L[j]? = some (row (D, N))) (hw : IntKind.i64.wrap (i + 1) = i + 1) (k1 : TT.lim 6 [.l (D.map ent)] = some [.s k]) (k2 : TT.lim 130 [.s a, .s k] = some [.s O])
    (k3 : TT.lim 7 [.i .u64 N] = some [.s V]) (hb1 : 2 * (acc.length + O.length) ≤ 281474976710656 ∧ acc.length + O.length ≤ 281474976710656) (hb2 : 2 * (acc.length + (O.length + V.length)) ≤ 281474976710656 ∧ acc.length + (O.length + V.length) ≤ 281474976710656)
    (ih : TT.lim 129 [.s k, .l L, .i .i64 n, .i .i64 (i + 1), .l (byteGs acc ++ (byteGs O ++ byteGs V))] = some R) :
    TT.lim 129 [.s a, .l L, .i .i64 n, .i .i64 i, .l (byteGs acc)] = some R := by
  subst hi
  have ok1 := byteGs_ok O
  have ok2 := byteGs_ok V
  refine tree_lim rfl rfl ?_
  simp [-List.all_eq_true, h, hg, hw, k1, k2, k3, ok1, ok2, hb1, hb2, Nat.add_assoc, ih]
theorem kputLoop (l : List Row) (hl : l.length ≤ 1000) (hf : ∀ r ∈ l, few12 r.1 = true ∧ 0 ≤ r.2 ∧ r.2 < 18446744073709551616) : ∀ (m i : Nat) (a acc : List UInt8), i + m = l.length → a.length ≤ 100000 → acc.length ≤ 10 + 40000 * i →
    TT.lim 129 [.s a, .l (l.map row), .i .i64 l.length, .i .i64 i, .l (byteGs acc)] = some [.i .i64 0, .l (byteGs (acc ++ rowsPut a (l.drop i)))]
  | 0, i, a, acc, hi, ha, hacc => by
    have hd : l.drop i = [] := List.drop_eq_nil_of_le (by omega)
    have h : ¬ ((i : Int) < l.length) := by omega
    rw [hd]
    refine tree_lim rfl rfl ?_
    simp [h, rowsPut]
  | m + 1, i, a, acc, hi, ha, hacc => by
    have hlt : i < l.length := by omega
    obtain ⟨h1, h2, h3⟩ := hf l[i] (List.getElem_mem hlt)
    have hk := key_len h1
    have k1 := key6 l[i].1 h1
    have k2 := oneP a (keyF l[i].1) (by omega) (by omega)
    have ho := oneF_len a (keyF l[i].1) (by omega)
    have k3 := put7 l[i].2.toNat (by omega)
    rw [show ((l[i].2.toNat : Nat) : Int) = l[i].2 by omega] at k3
    have hv := vput_len (n := l[i].2.toNat) (by omega)
    have ih := kputLoop l hl hf m (i + 1) (keyF l[i].1) (acc ++ (oneF a (keyF l[i].1) ++ vput l[i].2.toNat)) (by omega) (by omega) (by simp only [List.length_append]; omega)
    have he : acc ++ rowsPut a (l.drop i) = acc ++ (oneF a (keyF l[i].1) ++ vput l[i].2.toNat) ++ rowsPut (keyF l[i].1) (l.drop (i + 1)) := by
      rw [List.drop_eq_getElem_cons hlt]; simp [rowsPut]
    rw [he]
    rw [byteGs_append acc, byteGs_append] at ih
    rw [show ((i + 1 : Nat) : Int) = (i : Int) + 1 by omega] at ih
    exact kputStep _ _ _ l[i].1 l[i].2 a _ _ _ acc _ i rfl (by omega) (by simp [hlt]) (wrap64 (by omega) (by omega)) k1 k2 k3 (by omega) (by omega) ih
theorem kputP (t : List Row) (ht : Rows t) (hf : Few t) : TT.lim 128 [.l (t.map row)] = some [.s (putK t).1, .i .i64 (putK t).2] := by
  have k1 := check37 t ht hf
  unfold putK
  by_cases hc : checkT t = 0
  rotate_left
  · rw [if_pos hc]
    refine fn_lim rfl rfl ?_ (by rfl)
    simp [k1, hc]
  rw [if_neg (fun e => e hc)]
  rw [hc] at k1
  have h256 := ((checkT_iff t).1 hc).1
  have hff : ∀ r ∈ t, few12 r.1 = true ∧ 0 ≤ r.2 ∧ r.2 < 18446744073709551616 := fun r hr => ⟨hf r hr, (ht.2 r hr).2.1, (ht.2 r hr).2.2⟩
  have k2 := put7 t.length (by omega)
  have l2 := vput_len (n := t.length) (by omega)
  have k3 := kputLoop t (by omega) hff t.length 0 [] (vput t.length) (by omega) (by simp) (by omega)
  rw [List.drop_zero, show ((0 : Nat) : Int) = 0 from rfl] at k3
  have hlen := rowsPut_len t [] hff
  have w := wrapu64 (n := (t.length : Int)) (by omega) (by omega)
  have ok := byteGs_ok (vput t.length)
  have hb : 2 * (vput t.length).length ≤ 281474976710656 ∧ (vput t.length).length ≤ 281474976710656 := by omega
  have hbg := bytesG_byteGs (packF t)
  have hpl : (byteGs (packF t)).length ≤ 281474976710656 := by
    rw [byteGs_length]; unfold packF; rw [List.length_append]; omega
  have hk3 : TT.lim 129 [.s [], .l (t.map row), .i .i64 t.length, .i .i64 0, .l (byteGs (vput t.length))] = some [.i .i64 0, .l (byteGs (packF t))] := k3
  generalize byteGs (packF t) = PG at *
  generalize packF t = P at *
  generalize hVG : byteGs (vput t.length) = VG at *
  have hvl : VG.length = (vput t.length).length := by rw [← hVG, byteGs_length]
  rw [← hvl] at hb
  have hlm : (t.map row).length = t.length := by simp
  generalize t.map row = L at *
  refine fn_lim rfl rfl ?_ rfl
  simp [-List.all_eq_true, k1, hlm, w, k2, hVG, ok, hb, hk3, hbg, hpl]
theorem rkputStep0 (L : List GV) (n : Int) (D : List Ent) (N : Int) (k O V acc : List UInt8) (R : List GV) (h : 0 < n) (hg : L[0]? = some (row (D, N))) (k1 : TT.lim 93 [.l (D.map ent)] = some [.s k]) (k2 : TT.lim 117 [.s [], .s k] = some [.s O])
    (k3 : TT.lim 94 [.i .u64 N] = some [.s V]) (hb1 : (acc.length : Int) + (O.length : Int) ≤ 9223372036854775807) (hb2 : (acc.length : Int) + (O.length : Int) + (V.length : Int) ≤ 9223372036854775807)
    (ih : TT.lim 116 [.l L, .s (acc ++ (O ++ V)), .i .i64 n, .i .i64 1] = some R) :
    TT.lim 116 [.l L, .s acc, .i .i64 n, .i .i64 0] = some R := by
  have w1 := wrap64 (n := 1) (by omega) (by omega)
  refine tree_lim rfl rfl ?_
  simp [h, hg, w1, k1, k2, k3, hb1, hb2, ih]
theorem rkputStep (L : List GV) (n i : Int) (D E : List Ent) (N M : Int) (k k' O V acc : List UInt8) (R : List GV) (j : Nat) (hi : i = (j : Int) + 1) (h : i < n) (h0 : (0 : Int) < i) (hg : L[j + 1]? = some (row (D, N))) (hg' : L[j]? = some (row (E, M))) (hw : IntKind.i64.wrap (i + 1) = i + 1) (hw2 : IntKind.i64.wrap (i - 1) = i - 1) (hn1 : (i - 1).toNat = j) (hn2 : i.toNat = j + 1) (hn0 : (0 : Int) ≤ i - 1) (hn3 : (1 : Int) ≤ i) (hn4 : (0 : Int) ≤ i)
    (k1 : TT.lim 93 [.l (D.map ent)] = some [.s k]) (k1' : TT.lim 93 [.l (E.map ent)] = some [.s k']) (k2 : TT.lim 117 [.s k', .s k] = some [.s O])
    (k3 : TT.lim 94 [.i .u64 N] = some [.s V]) (hb1 : (acc.length : Int) + (O.length : Int) ≤ 9223372036854775807) (hb2 : (acc.length : Int) + (O.length : Int) + (V.length : Int) ≤ 9223372036854775807)
    (ih : TT.lim 116 [.l L, .s (acc ++ (O ++ V)), .i .i64 n, .i .i64 (i + 1)] = some R) :
    TT.lim 116 [.l L, .s acc, .i .i64 n, .i .i64 i] = some R := by
  clear hi
  refine tree_lim rfl rfl ?_
  simp [h, h0, hg, hg', hw, hw2, hn0, hn1, hn2, hn3, hn4, k1, k1', k2, k3, hb1, hb2, ih]
theorem rkputLoop (l : List Row) (hl : l.length ≤ 1000) (hf : ∀ r ∈ l, few12 r.1 = true ∧ 0 ≤ r.2 ∧ r.2 < 18446744073709551616) : ∀ (m i : Nat) (acc : List UInt8), i + m = l.length → acc.length ≤ 10 + 40000 * i →
    TT.lim 116 [.l (l.map row), .s acc, .i .i64 l.length, .i .i64 i] = some [.i .i64 0, .s (acc ++ rowsPut (if 0 < i then ((l[i - 1]?).map K).getD [] else []) (l.drop i))]
  | 0, i, acc, hi, hacc => by
    have hd : l.drop i = [] := List.drop_eq_nil_of_le (by omega)
    have h : ¬ ((i : Int) < l.length) := by omega
    rw [hd]
    refine tree_lim rfl rfl ?_
    simp [h, rowsPut]
  | m + 1, i, acc, hi, hacc => by
    have hlt : i < l.length := by omega
    obtain ⟨h1, h2, h3⟩ := hf l[i] (List.getElem_mem hlt)
    have hk := key_len h1
    have k1 := key74 l[i].1 h1
    have k3 := put75 l[i].2.toNat (by omega)
    rw [show ((l[i].2.toNat : Nat) : Int) = l[i].2 by omega] at k3
    have hv := vput_len (n := l[i].2.toNat) (by omega)
    have he : ∀ a, acc ++ rowsPut a (l.drop i) = acc ++ (oneF a (keyF l[i].1) ++ vput l[i].2.toNat) ++ rowsPut (keyF l[i].1) (l.drop (i + 1)) := by
      intro a
      rw [List.drop_eq_getElem_cons hlt]; simp [rowsPut]
    have ih := fun a (ha : (oneF a (keyF l[i].1)).length ≤ 20 + (keyF l[i].1).length) => rkputLoop l hl hf m (i + 1) (acc ++ (oneF a (keyF l[i].1) ++ vput l[i].2.toNat)) (by omega) (by simp only [List.length_append]; omega)
    have hpr : (if 0 < i + 1 then ((l[i + 1 - 1]?).map K).getD [] else []) = keyF l[i].1 := by simp [hlt]
    rw [hpr, show ((i + 1 : Nat) : Int) = (i : Int) + 1 by omega] at ih
    by_cases h0 : i = 0
    · subst h0
      rw [if_neg (by omega), he]
      have k2 := roneP [] (keyF l[0].1) (by simp) (by omega)
      have ho := oneF_len [] (keyF l[0].1) (by omega)
      exact rkputStep0 _ _ l[0].1 l[0].2 _ _ _ acc _ (by omega) (by simp [hlt]) k1 k2 k3 (by omega) (by omega) (ih [] ho)
    · obtain ⟨j, rfl⟩ : ∃ j, i = j + 1 := ⟨i - 1, by omega⟩
      have hj : j < l.length := by omega
      obtain ⟨g1, _, _⟩ := hf l[j] (List.getElem_mem hj)
      have k1' := key74 l[j].1 g1
      have hkj := key_len g1
      rw [if_pos (by omega), show ((l[j + 1 - 1]?).map K).getD [] = keyF l[j].1 by simp [hj], he]
      have k2 := roneP (keyF l[j].1) (keyF l[j + 1].1) (by omega) (by omega)
      have ho := oneF_len (keyF l[j].1) (keyF l[j + 1].1) (by omega)
      exact rkputStep _ _ _ l[j + 1].1 l[j].1 l[j + 1].2 l[j].2 _ _ _ _ acc _ j (by omega) (by omega) (by omega) (by simp [hlt]) (by simp [hj]) (wrap64 (by omega) (by omega)) (wrap64 (by omega) (by omega)) (by omega) (by omega) (by omega) (by omega) (by omega) k1 k1' k2 k3 (by omega) (by omega) (ih _ ho)
theorem rkputP (t : List Row) (ht : Rows t) (hf : Few t) : TT.lim 98 [.l (t.map row)] = some [.s (putK t).1, .i .i64 (putK t).2] := by
  have k1 := check59 t ht hf
  unfold putK
  by_cases hc : checkT t = 0
  rotate_left
  · rw [if_pos hc]
    refine fn_lim rfl rfl ?_ (by rfl)
    simp [k1, hc]
  rw [if_neg (fun e => e hc)]
  rw [hc] at k1
  have h256 := ((checkT_iff t).1 hc).1
  have hff : ∀ r ∈ t, few12 r.1 = true ∧ 0 ≤ r.2 ∧ r.2 < 18446744073709551616 := fun r hr => ⟨hf r hr, (ht.2 r hr).2.1, (ht.2 r hr).2.2⟩
  have k2 := put75 t.length (by omega)
  have l2 := vput_len (n := t.length) (by omega)
  have k3 := rkputLoop t (by omega) hff t.length 0 (vput t.length) (by omega) (by omega)
  rw [List.drop_zero, if_neg (by omega), show ((0 : Nat) : Int) = 0 from rfl] at k3
  have hk3 : TT.lim 116 [.l (t.map row), .s (vput t.length), .i .i64 t.length, .i .i64 0] = some [.i .i64 0, .s (packF t)] := k3
  have w := wrapu64 (n := (t.length : Int)) (by omega) (by omega)
  have hlm : (t.map row).length = t.length := by simp
  generalize packF t = P at *
  generalize vput t.length = V at *
  generalize t.map row = L at *
  have kt : TT.lim 115 [.l L] = some [.s P] := by
    refine fn_lim rfl rfl ?_ rfl
    simp [hlm, w, k2, hk3]
  refine fn_lim rfl rfl ?_ rfl
  simp [k1, kt]
end M
end Go.Proofs.YtckgelanagoenaaGreatDoor
