/- Tables, told of trees: which rows are few, and the table of some rows. -/
import Derived.Test.YtamcdgfjjeldeaaGreatDoorKCPl2
namespace Go.Proofs.YtamcdgfjjeldeaaGreatDoor
open Go Go.Abs
set_option linter.unusedSimpArgs false
set_option linter.unusedVariables false
set_option maxRecDepth 100000
namespace C
def fewR (long : Bool) (r : Row) : Bool := decide (r.1.length ≤ 18) && few12 r.1 && (!long || decide ((keyF r.1).length ≤ 100))
theorem loop3 (l : List Row) (hl : Rows l) : ∀ m i : Nat, i + m = l.length → TT.lim 3 [.l (l.map row), .i .i64 l.length, .i .i64 i] = some (if (l.drop i).all (fewR (decide (40 < l.length))) = true then [.i .i64 1, .l (l.map row)] else [.i .i64 0])
  | 0, i, hi => by
    have h0 : l.drop i = [] := List.drop_eq_nil_of_le (by omega)
    refine tree_lim rfl rfl ?_
    have h : ¬ ((i : Int) < l.length) := by omega
    simp [h, h0]
  | m + 1, i, hi => by
    have hlt : i < l.length := by omega
    have hr := hl.2 l[i] (List.getElem_mem hlt)
    have ih : TT.lim 3 [.l (l.map row), .i .i64 l.length, .i .i64 ((i : Int) + 1)] = _ := loop3 l hl m (i + 1) (by omega)
    have hda : (l.drop i).all (fewR (decide (40 < l.length))) = (fewR (decide (40 < l.length)) l[i] && (l.drop (i + 1)).all (fewR (decide (40 < l.length)))) := by rw [List.drop_eq_getElem_cons hlt, List.all_cons]
    rw [hda]
    refine tree_lim rfl rfl ?_
    have h : ((i : Int) < l.length) := by omega
    have hw := wrap64 (n := (i : Int) + 1) (by omega) (by have := hl.1; omega)
    have h4 := few4 l[i].1 hr.1
    by_cases h1 : 18 < l[i].1.length
    · have h1' : (18 : Int) < (l[i].1.length : Int) := by omega
      have : fewR (decide (40 < l.length)) l[i] = false := by unfold fewR; simp; omega
      rw [this]
      simp [h, hlt, h1']
    have h1' : ¬ (18 : Int) < (l[i].1.length : Int) := by omega
    have h1d : l[i].1.length ≤ 18 := by omega
    cases hf : few12 l[i].1 with
    | false =>
      rw [hf] at h4
      have : fewR (decide (40 < l.length)) l[i] = false := by unfold fewR; simp [hf]
      rw [this]
      simp [h, hlt, h1', h4]
    | true =>
      rw [hf] at h4
      have k6 := key6 l[i].1 hf
      by_cases h2 : 40 < l.length
      · have h2' : (40 : Int) < (l.length : Int) := by omega
        by_cases h3 : 100 < (keyF l[i].1).length
        · have h3' : (100 : Int) < ((keyF l[i].1).length : Int) := by omega
          have : fewR (decide (40 < l.length)) l[i] = false := by unfold fewR; simp [h2]; omega
          rw [this]
          simp [h, hlt, h1', h4, h2', k6, h3']
        · have h3' : ¬ (100 : Int) < ((keyF l[i].1).length : Int) := by omega
          have : fewR (decide (40 < l.length)) l[i] = true := by unfold fewR; simp [h2, hf, h1d]; omega
          rw [this, Bool.true_and]
          simp [h, hlt, h1', h4, h2', k6, h3', hw, ih]
      · have h2' : ¬ (40 : Int) < (l.length : Int) := by omega
        have : fewR (decide (40 < l.length)) l[i] = true := by unfold fewR; simp [h2, hf, h1d]
        rw [this, Bool.true_and]
        simp [h, hlt, h1', h4, h2', hw, ih]
def few13 (l : List Row) : Bool := l.all (fewR (decide (40 < l.length))) && decide (l.length ≤ 300)
theorem few2 (l : List Row) (hl : Rows l) : TT.lim 2 [.l (l.map row)] = some [.b (few13 l)] := by
  refine fn_lim rfl rfl ?_ rfl
  have h3 : TT.lim 3 [.l (l.map row), .i .i64 l.length, .i .i64 0] = _ := loop3 l hl l.length 0 (by omega)
  rw [List.drop_zero] at h3
  unfold few13
  cases hc : l.all (fewR (decide (40 < l.length))) with
  | false => rw [hc] at h3; simp [h3]
  | true =>
    rw [hc] at h3; simp only [if_true] at h3
    have : (decide ((l.length : Int) ≤ 300)) = decide (l.length ≤ 300) := by rw [Bool.eq_iff_iff]; simp; omega
    simp [h3, this]
theorem few13_few {l : List Row} (h : few13 l = true) : ∀ r ∈ l, few12 r.1 = true := by
  unfold few13 at h
  rw [Bool.and_eq_true] at h
  intro r hr
  have := List.all_eq_true.1 h.1 r hr
  unfold fewR at this
  simp only [Bool.and_eq_true] at this
  exact this.1.2

/-! ### The table of some rows -/
def keyed (r : Row) : GV := .g [.l (r.1.map ent), .i .u64 r.2, .s (keyF r.1)]
@[simp] theorem keyed_cells (r : Row) : (keyed r).cells = [.l (r.1.map ent), .i .u64 r.2, .s (keyF r.1)] := rfl
def firstErr : List Row → Int
  | [] => 0
  | r :: rs => if rowChk r = 0 then firstErr rs else rowChk r
theorem loop14 (l : List Row) (hl : Rows l) (hf : ∀ r ∈ l, few12 r.1 = true) (h256 : l.length ≤ 256) : ∀ (m i : Nat) (acc : List Row), i + m = l.length → acc.length = i →
    TT.lim 14 [.l (l.map row), .i .i64 l.length, .i .i64 i, .l (acc.map keyed)] = some (if firstErr (l.drop i) = 0 then [.i .i64 1, .l ((acc ++ l.drop i).map keyed)] else [.i .i64 0, .i .i64 (firstErr (l.drop i))])
  | 0, i, acc, hi, ha => by
    have h0 : l.drop i = [] := List.drop_eq_nil_of_le (by omega)
    refine tree_lim rfl rfl ?_
    have h : ¬ ((i : Int) < l.length) := by omega
    simp [h, h0, firstErr]
  | m + 1, i, acc, hi, ha => by
    have hlt : i < l.length := by omega
    have hr := hl.2 l[i] (List.getElem_mem hlt)
    have ih : TT.lim 14 [.l (l.map row), .i .i64 l.length, .i .i64 ((i : Int) + 1), .l ((acc ++ [l[i]]).map keyed)] = _ := loop14 l hl hf h256 m (i + 1) (acc ++ [l[i]]) (by omega) (by simp; omega)
    rw [List.append_assoc, List.singleton_append, ← List.drop_eq_getElem_cons hlt, List.map_append] at ih
    have hfe : firstErr (l.drop i) = if rowChk l[i] = 0 then firstErr (l.drop (i + 1)) else rowChk l[i] := by rw [List.drop_eq_getElem_cons hlt]; rfl
    have k15 := check15 l[i] hr.1
    have k6 := key6 l[i].1 (hf _ (List.getElem_mem hlt))
    have hrow : GV.g [.l (l[i].1.map ent), .i .u64 l[i].2] = row l[i] := rfl
    have hkey : GV.g [.l (l[i].1.map ent), .i .u64 l[i].2, .s (keyF l[i].1)] = keyed l[i] := rfl
    have hok : (keyed l[i]).elemOk 3 = true := rfl
    refine tree_lim rfl rfl ?_
    have h : ((i : Int) < l.length) := by omega
    have hw := wrap64 (n := (i : Int) + 1) (by omega) (by omega)
    by_cases h1 : rowChk l[i] = 0
    · rw [hfe, if_pos h1]
      simp only [List.map_cons, List.map_nil] at ih
      have hb : 2 * (acc.length + 1) * 48 ≤ 281474976710656 ∧ acc.length + 1 ≤ 281474976710656 := by omega
      simp [h, hlt, hrow, k15, h1, k6, hkey, hok, hb, hw]
      rw [ih]
      simp
    · rw [hfe, if_neg h1]
      simp [h, hlt, hrow, k15, h1]

def rowD : Row := ([], 0)
def sortR (l : List Row) : List Row := if l.length < 2 then l else (idxSort (l.map keyed)).toList.map fun i => l.getD i rowD
theorem sortR_keyed (l : List Row) : sortG (l.map keyed) = (sortR l).map keyed := by
  unfold sortG sortR
  rw [List.length_map]
  split
  · rfl
  · rw [List.map_map]
    refine List.map_congr_left fun i hi => ?_
    have := List.mem_range.1 ((idxSort_perm (l.map keyed)).2.mem_iff.1 hi)
    rw [List.length_map] at this
    simp [List.getD, this]
theorem sortR_perm (l : List Row) : (sortR l).Perm l := by
  unfold sortR
  split
  · exact List.Perm.refl _
  · have := (idxSort_perm (l.map keyed)).2.map (fun i => l.getD i rowD)
    rw [List.length_map, map_getD_range] at this
    exact this
theorem sortR_sorted (l : List Row) : ∀ (i j : Nat) (a b : Row), i < j → (sortR l)[i]? = some a → (sortR l)[j]? = some b → Op.bytesLess (keyF b.1) (keyF a.1) = false := by
  intro i j a b hij ha hb
  exact sortG_sorted (l.map keyed) i j (keyed a) (keyed b) hij (by rw [sortR_keyed, List.getElem?_map, ha]; rfl) (by rw [sortR_keyed, List.getElem?_map, hb]; rfl)
theorem sort0 (l : List Row) (hl : l.length ≤ 256) : TT.lim 0 [.l (l.map keyed)] = some [.l ((sortR l).map keyed)] := by
  refine prim_lim (Ds := Ds) (k := 0) (f := sortP) rfl ?_
  have hall : (l.map keyed).all isKeyed = true := by
    rw [List.all_eq_true]; intro x hx; obtain ⟨r, _, rfl⟩ := List.mem_map.1 hx; rfl
  simp only [sortP]
  rw [if_pos ⟨by rw [List.length_map]; omega, hall⟩, sortR_keyed]
theorem clone23 (d : List Ent) (h : d.length ≤ 40) : TT.lim 23 [.l (d.map ent)] = some [.l (d.map ent)] := by
  refine prim_lim (Ds := Ds) (k := 23) (f := cloneP 32 2) rfl ?_
  have hall : (d.map ent).all (GV.elemOk 2) = true := by
    rw [List.all_eq_true]; intro x hx; obtain ⟨r, _, rfl⟩ := List.mem_map.1 hx; rfl
  simp only [cloneP]
  rw [if_pos ⟨by rw [List.length_map]; omega, hall⟩]
/-- Do two neighbours have one key? -/
def adjDup : List Row → Bool
  | a :: b :: l => decide (keyF a.1 = keyF b.1) || adjDup (b :: l)
  | _ => false
def adjFrom (l : List Row) (i : Nat) : Bool := if i = 0 then adjDup l else adjDup (l.drop (i - 1))
theorem adj_step {l : List Row} {i : Nat} (h0 : i ≠ 0) (hlt : i < l.length) : adjFrom l i = (decide (keyF (l[i - 1]'(by omega)).1 = keyF l[i].1) || adjFrom l (i + 1)) := by
  unfold adjFrom
  rw [if_neg h0, if_neg (by omega)]
  obtain ⟨j, rfl⟩ : ∃ j, i = j + 1 := ⟨i - 1, by omega⟩
  simp only [Nat.add_sub_cancel]
  rw [List.drop_eq_getElem_cons (show j < l.length by omega), List.drop_eq_getElem_cons hlt]
  rfl
theorem loop22 (s : List Row) (hf : ∀ r ∈ s, few12 r.1 = true) (h256 : s.length ≤ 256) : ∀ (m i : Nat), i + m = s.length →
    TT.lim 22 [.l ((s.take i).map row), .l (s.map keyed), .i .i64 s.length, .i .i64 i] = some (if adjFrom s i = true then [.i .i64 0] else [.i .i64 1, .l (s.map row)])
  | 0, i, hi => by
    have h0 : s.take i = s := List.take_of_length_le (by omega)
    have ha : adjFrom s i = false := by
      unfold adjFrom
      split
      · next h => subst h; have : s = [] := List.eq_nil_of_length_eq_zero (by omega); rw [this]; rfl
      · next h =>
        rw [List.drop_eq_getElem_cons (show i - 1 < s.length by omega), List.drop_eq_nil_of_le (by omega)]
        rfl
    rw [h0, ha]
    refine tree_lim rfl rfl ?_
    have h : ¬ ((i : Int) < s.length) := by omega
    simp [h]
  | m + 1, i, hi => by
    have hlt : i < s.length := by omega
    have ih : TT.lim 22 [.l ((s.take (i + 1)).map row), .l (s.map keyed), .i .i64 s.length, .i .i64 ((i : Int) + 1)] = _ := loop22 s hf h256 m (i + 1) (by omega)
    rw [List.take_succ_eq_append_getElem hlt, List.map_append] at ih
    simp only [List.map_cons, List.map_nil, List.map_take] at ih
    have hfi := hf _ (List.getElem_mem hlt)
    have hd40 : s[i].1.length ≤ 40 := by unfold few12 at hfi; rw [Bool.and_eq_true, decide_eq_true_iff] at hfi; exact hfi.2
    have kc := clone23 s[i].1 hd40
    have hrow : GV.g [.l (s[i].1.map ent), .i .u64 s[i].2] = row s[i] := rfl
    have hok : (row s[i]).elemOk 2 = true := rfl
    have hmin : min i s.length = i := by omega
    have hb : 2 * (i + 1) * 32 ≤ 281474976710656 ∧ i + 1 ≤ 281474976710656 := by omega
    refine tree_lim rfl rfl ?_
    have h : ((i : Int) < s.length) := by omega
    have hw := wrap64 (n := (i : Int) + 1) (by omega) (by omega)
    by_cases h0 : i = 0
    · subst h0
      have ha : adjFrom s 0 = adjFrom s 1 := by
        unfold adjFrom; simp
      rw [ha]
      simp only [Int.natCast_zero, Int.zero_add, List.take_zero, List.map_nil, List.nil_append] at hw ih
      have hn : (0 : Int) < (s.length : Int) := by omega
      simp [hn, hlt, kc, hrow, hok, hw]
      exact ih
    · have hi0 : 0 < i := by omega
      have hi1 : i - 1 < s.length := by omega
      have hw2 := wrap64 (n := (i : Int) - 1) (by omega) (by omega)
      have ht : ((i : Int) - 1).toNat = i - 1 := by omega
      have hnl : (1 : Int) ≤ (i : Int) := by omega
      have hlt2 : (i : Int) - 1 < (s.length : Int) := by omega
      rw [adj_step h0 hlt]
      by_cases h2 : keyF s[i].1 = keyF s[i - 1].1
      · have h3 : (keyF s[i - 1].1 = keyF s[i].1) = True := eq_true h2.symm
        have h2' : (keyF s[i].1 = keyF s[i - 1].1) = True := eq_true h2
        clear h2
        simp [h, hlt, hi0, hw2, ht, hnl, hlt2, hi1, h2', h3]
      · have h3 : ¬ keyF s[i - 1].1 = keyF s[i].1 := fun e => h2 e.symm
        simp [h, hlt, hi0, hw2, ht, hnl, hlt2, hi1, h2, h3, kc, hrow, hok, hmin, hb, hw, ih]

def ofR (l : List Row) : List Row × Int :=
  if 256 < l.length then ([], 13) else if firstErr l = 0 then (if adjDup (sortR l) = true then ([], 14) else (sortR l, 0)) else ([], firstErr l)
theorem of13 (l : List Row) (hl : Rows l) (hf : ∀ r ∈ l, few12 r.1 = true) : TT.lim 13 [.l (l.map row)] = some [.l ((ofR l).1.map row), .i .i64 (ofR l).2] := by
  refine fn_lim rfl rfl ?_ rfl
  unfold ofR
  by_cases h1 : 256 < l.length
  · have h1' : (256 : Int) < (l.length : Int) := by omega
    simp [h1, h1']
  have h1' : ¬ (256 : Int) < (l.length : Int) := by omega
  have k14 : TT.lim 14 [.l (l.map row), .i .i64 l.length, .i .i64 0, .l []] = _ := loop14 l hl hf (by omega) l.length 0 [] (by omega) rfl
  rw [List.drop_zero, List.nil_append] at k14
  by_cases h2 : firstErr l = 0
  · rw [if_pos h2] at k14
    have k0 := sort0 l (by omega)
    have hp := sortR_perm l
    have hsl : (sortR l).length = l.length := hp.length_eq
    have k22 : TT.lim 22 [.l [], .l ((sortR l).map keyed), .i .i64 (sortR l).length, .i .i64 0] = _ := loop22 (sortR l) (fun r hr => hf r (hp.mem_iff.1 hr)) (by omega) (sortR l).length 0 (by omega)
    have ha : adjFrom (sortR l) 0 = adjDup (sortR l) := rfl
    rw [ha] at k22
    have hc : (0 : Int) ≤ ((sortR l).length : Int) ∧ 32 * ((sortR l).length : Int) ≤ 281474976710656 ∧ ((sortR l).length : Int) ≤ 1152921504606846976 := by omega
    have hok : (GV.g [GV.l [], GV.i IntKind.u64 0]).elemOk 2 = true := rfl
    cases hd : adjDup (sortR l) with
    | true => rw [hd] at k22; simp only [if_true] at k22; simp [h1, h1', k14, h2, k0, hc, hok, k22]
    | false => rw [hd] at k22; simp only [Bool.false_eq_true, if_false] at k22; simp [h1, h1', k14, h2, k0, hc, hok, k22]
  · rw [if_neg h2] at k14
    simp [h1, h1', k14, h2]
end C
end Go.Proofs.YtamcdgfjjeldeaaGreatDoor
