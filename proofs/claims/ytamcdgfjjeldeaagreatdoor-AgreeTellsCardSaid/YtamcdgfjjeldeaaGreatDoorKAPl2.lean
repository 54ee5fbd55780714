/- AgreeTells, told of trees: what is agreed upon, counted down, is what is agreed upon at once. -/
import Derived.Test.YtamcdgfjjeldeaaGreatDoorKAPl
namespace Go.Proofs.YtamcdgfjjeldeaaGreatDoor
open Go Go.Abs
set_option linter.unusedSimpArgs false
set_option maxRecDepth 100000
namespace A
def mi (r : Int × Int) : GV := .i .u64 r.1
def ma (r : Int × Int) : GV := .i .u64 r.2
@[simp] theorem mi_cells (r : Int × Int) : (mi r).cells = [.i .u64 r.1] := rfl
@[simp] theorem ma_cells (r : Int × Int) : (ma r).cells = [.i .u64 r.2] := rfl
def hasV (v : Int) (r : Int × Int) : Bool := decide (r.1 ≤ v) && decide (v ≤ r.2)

theorem loop8 (rs : List (Int × Int)) (n : Nat) (hn : rs.length = n) (hb : (n : Int) < 4611686018427387904) (v : Int) (hv : 0 ≤ v ∧ v < 18446744073709551615) : ∀ (m i : Nat) (al : Bool), i + m = n →
    TT.lim 8 [.l (rs.map mi), .l (rs.map ma), .i .u64 (v + 1), .b al, .i .i64 n, .i .i64 i] = some [.i .i64 0, .l (rs.map mi), .l (rs.map ma), .i .u64 (v + 1), .b (al && (rs.drop i).all (hasV v))]
  | 0, i, al, hi => by
    have : rs.drop i = [] := List.drop_eq_nil_of_le (by omega)
    rw [this]
    refine tree_lim rfl rfl ?_
    have h : ¬ ((i : Int) < n) := by omega
    simp [h]
  | m + 1, i, al, hi => by
    have hlt : i < rs.length := by omega
    have ih := fun al => loop8 rs n hn hb v hv m (i + 1) al (by omega)
    have hd : (rs.drop i).all (hasV v) = (hasV v rs[i] && (rs.drop (i + 1)).all (hasV v)) := by rw [List.drop_eq_getElem_cons hlt, List.all_cons]
    refine tree_lim rfl rfl ?_
    have h : ((i : Int) < n) := by omega
    have hw := wrap64 (n := (i : Int) + 1) (by omega) (by omega)
    have hw2 := wrapu64 (n := v) (by omega) (by omega)
    have ih' : ∀ al, TT.lim 8 [.l (rs.map mi), .l (rs.map ma), .i .u64 (v + 1), .b al, .i .i64 n, .i .i64 ((i : Int) + 1)] = _ := fun al => ih al
    cases al with
    | false => simp [h, hw, ih']
    | true =>
      by_cases h1 : rs[i].1 ≤ v
      · by_cases h2 : v ≤ rs[i].2 <;> simp [h, hw, hw2, hlt, ih', hd, hasV, h1, h2, Int.add_sub_cancel]
      · simp [h, hw, hw2, hlt, ih', hd, hasV, h1, Int.add_sub_cancel]

/-- Counted down: the greatest that all have. -/
def com (rs : List (Int × Int)) : Nat → Option Nat
  | 0 => none
  | v + 1 => if (decide (0 < rs.length) && rs.all (hasV v)) = true then some v else com rs v
def comOut : Option Nat → List GV
  | some v => [.i .i64 0, .i .u64 v]
  | none => [.i .i64 1]
theorem loop7 (rs : List (Int × Int)) (hb : (rs.length : Int) < 4611686018427387904) (v : Nat) : (v : Int) < 18446744073709551615 → TT.lim 7 [.l (rs.map mi), .l (rs.map ma), .i .u64 v] = some (comOut (com rs v)) := by
  induction v with
  | zero => intro _; refine tree_lim rfl rfl ?_; simp [com, comOut]
  | succ v ih =>
    intro hv
    have ih := ih (by omega)
    refine tree_lim rfl rfl ?_
    have hw2 := wrapu64 (n := v) (by omega) (by omega)
    have h8 := loop8 rs rs.length rfl hb v (by omega) rs.length 0 (decide (0 < rs.length)) (by omega)
    rw [List.drop_zero] at h8
    have h8' : TT.lim 8 [.l (rs.map mi), .l (rs.map ma), .i .u64 ((v : Int) + 1), .b (decide (0 < rs.length)), .i .i64 rs.length, .i .i64 0] = _ := h8
    have h0 : (0 : Int) < (v : Int) + 1 := by omega
    have hlen : (decide ((0 : Int) < (rs.length : Int))) = decide (0 < rs.length) := by rw [Bool.eq_iff_iff]; simp
    have hc' : ((v + 1 : Nat) : Int) = (v : Int) + 1 := by omega
    rw [hc']
    by_cases hc : (decide (0 < rs.length) && rs.all (hasV v)) = true
    · have e : com rs (v + 1) = some v := by simp only [com]; rw [if_pos hc]
      rw [e]
      simp [h0, hlen, h8', comOut, hc, hw2]
    · have e : com rs (v + 1) = com rs v := by simp only [com]; rw [if_neg hc]
      rw [e]
      rw [Bool.not_eq_true] at hc
      simp [h0, hlen, h8', hc, hw2, ih]

def comV (o : Option Nat) : Int × Bool := match o with
  | some v => (v, true)
  | none => (0, false)
theorem common6 (rs : List (Int × Int)) (hb : (rs.length : Int) < 4611686018427387904) : TT.lim 6 [.l (rs.map mi), .l (rs.map ma)] = some [.i .u64 (comV (com rs 1001)).1, .b (comV (com rs 1001)).2] := by
  have h7 : TT.lim 7 [.l (rs.map mi), .l (rs.map ma), .i .u64 1001] = _ := loop7 rs hb 1001 (by omega)
  refine fn_lim rfl rfl ?_ rfl
  cases hc : com rs 1001 <;> rw [hc] at h7 <;> simp [h7, comOut, comV]

/-! Both are the same. -/
theorem foldMx_le : ∀ (rs : List (Int × Int)) (a b : Int), a ≤ (foldMx rs a b).1 ∧ (foldMx rs a b).2 ≤ b ∧ (∀ r ∈ rs, r.1 ≤ (foldMx rs a b).1 ∧ (foldMx rs a b).2 ≤ r.2)
  | [], a, b => by simp [foldMx]
  | r :: rs, a, b => by
    simp only [foldMx]
    have ka : a ≤ (if a < r.1 then r.1 else a) ∧ r.1 ≤ (if a < r.1 then r.1 else a) := by split <;> omega
    have kb : (if r.2 < b then r.2 else b) ≤ b ∧ (if r.2 < b then r.2 else b) ≤ r.2 := by split <;> omega
    generalize (if a < r.1 then r.1 else a) = a' at *
    generalize (if r.2 < b then r.2 else b) = b' at *
    obtain ⟨h1, h2, h3⟩ := foldMx_le rs a' b'
    refine ⟨by omega, by omega, fun x hx => ?_⟩
    rcases List.mem_cons.1 hx with rfl | hx
    · exact ⟨by omega, by omega⟩
    · exact h3 x hx
theorem foldMx_ge : ∀ (rs : List (Int × Int)) (a b v : Int), a ≤ v → v ≤ b → (∀ r ∈ rs, r.1 ≤ v ∧ v ≤ r.2) → (foldMx rs a b).1 ≤ v ∧ v ≤ (foldMx rs a b).2
  | [], a, b, v, h1, h2, _ => by simp [foldMx, h1, h2]
  | r :: rs, a, b, v, h1, h2, h3 => by
    simp only [foldMx]
    have := h3 r (by simp)
    exact foldMx_ge rs _ _ v (by split <;> omega) (by split <;> omega) fun x hx => h3 x (by simp [hx])
theorem foldMx_mem : ∀ (rs : List (Int × Int)) (a b : Int), (foldMx rs a b).2 = b ∨ ∃ r ∈ rs, (foldMx rs a b).2 = r.2
  | [], a, b => by simp [foldMx]
  | r :: rs, a, b => by
    simp only [foldMx]
    have kb : (if r.2 < b then r.2 else b) = b ∨ (if r.2 < b then r.2 else b) = r.2 := by split <;> simp
    rcases foldMx_mem rs (if a < r.1 then r.1 else a) (if r.2 < b then r.2 else b) with h | ⟨x, hx, h⟩
    · rcases kb with k | k
      · exact .inl (h.trans k)
      · exact .inr ⟨r, by simp, h.trans k⟩
    · exact .inr ⟨x, by simp [hx], h⟩
theorem com_some {rs : List (Int × Int)} : ∀ {n v : Nat}, com rs n = some v → v < n ∧ rs ≠ [] ∧ (∀ r ∈ rs, r.1 ≤ v ∧ (v : Int) ≤ r.2) ∧ ∀ u : Nat, u < n → (∀ r ∈ rs, r.1 ≤ u ∧ (u : Int) ≤ r.2) → u ≤ v
  | 0, v, h => by simp [com] at h
  | n + 1, v, h => by
    simp only [com] at h
    split at h
    · next hc =>
      cases h
      simp only [Bool.and_eq_true, decide_eq_true_iff, List.all_eq_true, hasV] at hc
      exact ⟨by omega, by intro e; rw [e] at hc; simp at hc, fun r hr => hc.2 r hr, fun u hu _ => by omega⟩
    · next hc =>
      obtain ⟨h1, h2, h3, h4⟩ := com_some h
      refine ⟨by omega, h2, h3, fun u hu hr => ?_⟩
      by_cases e : u = n
      · subst e
        exfalso; apply hc
        simp only [Bool.and_eq_true, decide_eq_true_iff, List.all_eq_true, hasV]
        exact ⟨List.length_pos_iff.2 h2, fun r hr' => hr r hr'⟩
      · exact h4 u (by omega) hr
theorem com_none {rs : List (Int × Int)} : ∀ {n : Nat}, com rs n = none → rs = [] ∨ ∀ u : Nat, u < n → ¬ ∀ r ∈ rs, r.1 ≤ u ∧ (u : Int) ≤ r.2
  | 0, _ => .inr fun u hu => by omega
  | n + 1, h => by
    simp only [com] at h
    split at h
    · cases h
    · next hc =>
      rcases com_none h with h1 | h1
      · exact .inl h1
      by_cases e : rs = []
      · exact .inl e
      right
      intro u hu hr
      by_cases e' : u = n
      · subst e'
        apply hc
        simp only [Bool.and_eq_true, decide_eq_true_iff, List.all_eq_true, hasV]
        exact ⟨List.length_pos_iff.2 e, fun r hr' => hr r hr'⟩
      · exact h1 u (by omega) hr
theorem comV_all (rs : List (Int × Int)) (hR : ∀ r ∈ rs, R r ∧ r.2 ≤ 1000) : comV (com rs 1001) = allV rs := by
  cases rs with
  | nil =>
    cases hc : com [] 1001 with
    | none => rfl
    | some v => exact absurd rfl (com_some hc).2.1
  | cons r rs =>
    have hr := hR r (by simp)
    have f1 := foldMx_le rs r.1 r.2
    have f2 := foldMx_mem rs r.1 r.2
    have hmem : (foldMx rs r.1 r.2).2 ≤ 1000 ∧ 0 ≤ (foldMx rs r.1 r.2).2 := by
      rcases f2 with h | ⟨x, hx, h⟩
      · rw [h]; exact ⟨hr.2, hr.1.2.2.1⟩
      · rw [h]; have := hR x (by simp [hx]); exact ⟨this.2, this.1.2.2.1⟩
    simp only [allV]
    split
    · next hlt =>
      cases hc : com (r :: rs) 1001 with
      | none => rfl
      | some v =>
        obtain ⟨h1, h2, h3, h4⟩ := com_some hc
        have := h3 r (by simp)
        have := foldMx_ge rs r.1 r.2 v this.1 this.2 fun x hx => h3 x (by simp [hx])
        omega
    · next hlt =>
      have hall : ∀ x ∈ r :: rs, x.1 ≤ (foldMx rs r.1 r.2).2 ∧ (foldMx rs r.1 r.2).2 ≤ x.2 := by
        intro x hx
        rcases List.mem_cons.1 hx with rfl | hx
        · exact ⟨by omega, by omega⟩
        · have := f1.2.2 x hx; exact ⟨by omega, by omega⟩
      obtain ⟨u, hu⟩ : ∃ u : Nat, (u : Int) = (foldMx rs r.1 r.2).2 := ⟨(foldMx rs r.1 r.2).2.toNat, Int.toNat_of_nonneg hmem.2⟩
      rw [← hu] at hall hmem
      cases hc : com (r :: rs) 1001 with
      | none =>
        rcases com_none hc with h | h
        · cases h
        · exact absurd hall (h u (by omega))
      | some v =>
        obtain ⟨h1, h2, h3, h4⟩ := com_some hc
        have h5 := h4 u (by omega) hall
        have h6 := h3 r (by simp)
        have h7 := foldMx_ge rs r.1 r.2 v h6.1 h6.2 fun x hx => h3 x (by simp [hx])
        simp only [comV]
        rw [← hu]
        congr 1
        omega

@[simp] theorem e_cells (r : Int × Int) : (e r).cells = [.i .u64 r.1, .i .u64 r.2] := rfl
def big (rs : List (Int × Int)) : Bool := rs.any fun r => decide (1000 < r.2)
def out5 (rs : List (Int × Int)) (v p q r s : Int) (i : Nat) : List GV := if big (rs.drop i) = true then [.i .i64 0] else [.i .i64 1, .l (rs.map e), .i .u64 v, .l (rs.map mi), .l (rs.map ma), .i .u64 p, .i .u64 q, .i .u64 r, .i .u64 s]
theorem loop5 (rs : List (Int × Int)) (n : Nat) (hn : rs.length = n) (hb : n ≤ 10) (v p q r s : Int) : ∀ m i : Nat, i + m = n →
    TT.lim 5 [.l (rs.map e), .i .u64 v, .l ((rs.take i).map mi), .l ((rs.take i).map ma), .i .i64 n, .i .i64 i, .i .u64 p, .i .u64 q, .i .u64 r, .i .u64 s] = some (out5 rs v p q r s i)
  | 0, i, hi => by
    have h0 : rs.drop i = [] := List.drop_eq_nil_of_le (by omega)
    have h1 : rs.take i = rs := List.take_of_length_le (by omega)
    refine tree_lim rfl rfl ?_
    have h : ¬ ((i : Int) < n) := by omega
    simp [h, out5, h0, h1, big]
  | m + 1, i, hi => by
    have hlt : i < rs.length := by omega
    have ih := loop5 rs n hn hb v p q r s m (i + 1) (by omega)
    have ih' : TT.lim 5 [.l (rs.map e), .i .u64 v, .l ((rs.take (i + 1)).map mi), .l ((rs.take (i + 1)).map ma), .i .i64 n, .i .i64 ((i : Int) + 1), .i .u64 p, .i .u64 q, .i .u64 r, .i .u64 s] = _ := ih
    rw [List.take_succ_eq_append_getElem hlt, List.map_append, List.map_append] at ih'
    simp only [List.map_cons, List.map_nil] at ih'
    refine tree_lim rfl rfl ?_
    have h : ((i : Int) < n) := by omega
    have hw := wrap64 (n := (i : Int) + 1) (by omega) (by omega)
    have hmin : min i rs.length = i := by omega
    have hz : 2 * (i + 1) * 8 ≤ 281474976710656 ∧ i + 1 ≤ 281474976710656 := by omega
    have hd : big (rs.drop i) = (decide (1000 < rs[i].2) || big (rs.drop (i + 1))) := by unfold big; rw [List.drop_eq_getElem_cons hlt, List.any_cons]
    by_cases h1 : 1000 < rs[i].2
    · simp [h, hlt, h1, out5, hd]
    · have e : out5 rs v p q r s i = out5 rs v p q r s (i + 1) := by unfold out5; rw [hd]; simp [h1]
      rw [e]
      simp [mi, ma] at ih'
      simp [h, hlt, h1, hmin, hz, hw, GV.elemOk, mi, ma]
      simp [ih']

theorem big_false {rs : List (Int × Int)} (h : big rs = false) : ∀ r ∈ rs, r.2 ≤ 1000 := by
  unfold big at h
  rw [List.any_eq_false] at h
  intro r hr
  have := h r hr
  simp at this
  exact this

set_option maxHeartbeats 4000000 in
theorem tells4 (a b : Int × Int) (rs : List (Int × Int)) (v : Int) (ha : R a) (hb : R b) (hr : ∀ r ∈ rs, R r) (hlen : rs.length ≤ 140737488351232) : TT.lim 4 [e a, e b, .l (rs.map e), .i .u64 v] = some [.b true] := by
  refine fn_lim rfl rfl ?_ rfl
  by_cases h1 : 1000 < a.2
  · simp [h1]
  by_cases h2 : 1000 < b.2
  · simp [h1, h2]
  by_cases h3 : 10 < rs.length
  · have h3' : (10 : Int) < (rs.length : Int) := by omega
    simp [h1, h2, h3']
  have h3' : ¬ (10 : Int) < (rs.length : Int) := by omega
  have h5 : TT.lim 5 [.l (rs.map e), .i .u64 v, .l [], .l [], .i .i64 rs.length, .i .i64 0, .i .u64 b.1, .i .u64 b.2, .i .u64 a.1, .i .u64 a.2] = _ := loop5 rs rs.length rfl (by omega) v b.1 b.2 a.1 a.2 rs.length 0 (by omega)
  unfold out5 at h5
  rw [List.drop_zero] at h5
  cases hbig : big rs with
  | true =>
    rw [hbig] at h5
    simp only [if_true] at h5
    simp [h1, h2, h3', h5]
  | false =>
    rw [hbig] at h5
    simp only [Bool.false_eq_true, if_false] at h5
    have k1 := common1 a b
    have k2 := all2 rs (by omega)
    have k3 : TT.lim 6 [.l [.i .u64 a.1, .i .u64 b.1], .l [.i .u64 a.2, .i .u64 b.2]] = _ := common6 [a, b] (by simp)
    have k4 := common6 rs (by omega)
    rw [comV_all rs fun r hr' => ⟨hr r hr', big_false hbig r hr'⟩] at k4
    rw [comV_all [a, b] fun r hr' => by
      simp only [List.mem_cons, List.mem_nil_iff, or_false] at hr'
      rcases hr' with rfl | rfl
      · exact ⟨ha, by omega⟩
      · exact ⟨hb, by omega⟩] at k3
    simp only [e] at k1
    simp [h1, h2, h3', h5, k1, k2, k3, k4]
    unfold R at ha
    repeat' (first | rfl | exact ite_goal (fun h => rfl) (fun h => rfl) | refine ite_goal (fun h => ?_) (fun h => ?_))
    all_goals (exfalso; omega)

theorem agreeTells (gs : List GV) (h : hasArgs [(true, [.int .u64, .int .u64]), (true, [.int .u64, .int .u64]), (false, [.list true [.int .u64, .int .u64]]), (false, [.int .u64])] gs) : TT.lim 4 gs = some [.b true] := by
  obtain ⟨c, gs, rfl, h1, h⟩ := hasA_agg h
  obtain ⟨d, gs, rfl, h2, h⟩ := hasA_agg h
  obtain ⟨l, gs, rfl, h3, h⟩ := hasA_sc h
  obtain ⟨v, gs, rfl, h4, h⟩ := hasA_sc h
  obtain rfl := hasA_nil h
  obtain ⟨v, rfl, _⟩ := has_u64 h4
  have two : ∀ {cs : List GV}, GTy.hasL [.int .u64, .int .u64] cs → ∃ r, R r ∧ GV.g cs = e r := by
    intro cs hc
    obtain ⟨a, cs, rfl, a1, hc⟩ := hasL_cons hc
    obtain ⟨b, cs, rfl, b1, hc⟩ := hasL_cons hc
    obtain rfl := hasL_nil hc
    obtain ⟨a, rfl, a2⟩ := has_u64 a1
    obtain ⟨b, rfl, b2⟩ := has_u64 b1
    exact ⟨(a, b), ⟨a2.1, a2.2, b2.1, b2.2⟩, rfl⟩
  obtain ⟨a, ha, e1⟩ := two h1
  obtain ⟨b, hb, e2⟩ := two h2
  obtain ⟨xs, rfl, h5, h6⟩ := has_list h3
  obtain ⟨rs, hrs, rfl⟩ : ∃ rs : List (Int × Int), (∀ r ∈ rs, R r) ∧ xs = rs.map e := list_map fun x hx => by
    obtain ⟨k1, k2⟩ := h6 x hx
    cases x <;> simp [GV.scalar] at k2
    obtain ⟨r, hr, e1⟩ := two k1
    exact ⟨r, hr, e1⟩
  rw [e1, e2]
  exact tells4 a b rs v ha hb hrs (by simpa [reachBytes] using Nat.le_trans (by simpa using h5) (by decide : reachBytes ≤ 140737488351232))
end A
end Go.Proofs.YtamcdgfjjeldeaaGreatDoor
