/- The law TableSorts, told of trees. -/
import Derived.Test.YtamcdgfjjeldeaaGreatDoorKCPl5
namespace Go.Proofs.YtamcdgfjjeldeaaGreatDoor
open Go Go.Abs
set_option linter.unusedSimpArgs false
set_option linter.unusedVariables false
set_option maxRecDepth 100000
namespace C
/-! ### The number of a descriptor -/
def getR : List Row → List Ent → Option Int
  | [], _ => none
  | r :: rs, d => if r.1 = d then some r.2 else getR rs d
def outGet : Option Int → List GV
  | some n => [.i .i64 0, .i .u64 n]
  | none => [.i .i64 1]
theorem loop36 (t : List Row) (d : List Ent) (ht : t.length ≤ 140737488351232) (hd : d.length ≤ 140737488351232) (hf : ∀ r ∈ t, r.1.length ≤ 140737488351232) : ∀ m i : Nat, i + m = t.length →
    TT.lim 36 [.l (d.map ent), .l (t.map row), .i .i64 t.length, .i .i64 i] = some (outGet (getR (t.drop i) d))
  | 0, i, hi => by
    have h0 : t.drop i = [] := List.drop_eq_nil_of_le (by omega)
    refine tree_lim rfl rfl ?_
    have h : ¬ ((i : Int) < t.length) := by omega
    simp [h, h0, getR, outGet]
  | m + 1, i, hi => by
    have hlt : i < t.length := by omega
    have ih : TT.lim 36 [.l (d.map ent), .l (t.map row), .i .i64 t.length, .i .i64 ((i : Int) + 1)] = _ := loop36 t d ht hd hf m (i + 1) (by omega)
    have k := equal31 t[i].1 d (hf _ (List.getElem_mem hlt)) hd
    have hg : getR (t.drop i) d = if t[i].1 = d then some t[i].2 else getR (t.drop (i + 1)) d := by rw [List.drop_eq_getElem_cons hlt]; rfl
    rw [hg]
    refine tree_lim rfl rfl ?_
    have h : ((i : Int) < t.length) := by omega
    have hw := wrap64 (n := (i : Int) + 1) (by omega) (by omega)
    by_cases h1 : t[i].1 = d
    · rw [if_pos h1]
      have k' : TT.lim 31 [.l (t[i].1.map ent), .l (d.map ent)] = some [.b true] := by rw [k]; simp [h1]
      simp [h, hlt, k', outGet]
    · rw [if_neg h1]
      have k' : TT.lim 31 [.l (t[i].1.map ent), .l (d.map ent)] = some [.b false] := by rw [k]; simp [h1]
      simp [h, hlt, k', hw, ih]
theorem get35 (t : List Row) (d : List Ent) (ht : t.length ≤ 140737488351232) (hd : d.length ≤ 140737488351232) (hf : ∀ r ∈ t, r.1.length ≤ 140737488351232) : TT.lim 35 [.l (t.map row), .l (d.map ent)] = some [.i .u64 ((getR t d).getD 0)] := by
  have h36 : TT.lim 36 [.l (d.map ent), .l (t.map row), .i .i64 t.length, .i .i64 0] = _ := loop36 t d ht hd hf t.length 0 (by omega)
  rw [List.drop_zero] at h36
  refine fn_lim rfl rfl ?_ rfl
  cases hg : getR t d <;> rw [hg] at h36 <;> simp [h36, outGet]
theorem getR_mem : ∀ {t : List Row}, Rise t → ∀ r ∈ t, getR t r.1 = some r.2
  | [], _, r, hr => by simp at hr
  | x :: t, ht, r, hr => by
    have ht' := List.pairwise_cons.1 ht
    unfold getR
    by_cases h : x.1 = r.1
    · rw [if_pos h]
      have : x = r := rise_key ht (by simp) hr (by show keyF x.1 = keyF r.1; rw [h])
      rw [this]
    · rw [if_neg h]
      rcases List.mem_cons.1 hr with e | hr
      · exact absurd (by rw [e]) h
      · exact getR_mem ht'.2 r hr

/-! ### May a table be? -/
def chkR : Option (List UInt8) → List Row → Int
  | _, [] => 0
  | p, r :: rs => if rowChk r ≠ 0 then rowChk r else match p with
    | none => chkR (some (K r)) rs
    | some k => if K r = k then 14 else if Op.bytesLess (K r) k = true then 7 else chkR (some (K r)) rs
theorem loop38 (t : List Row) (ht : Rows t) (hf : ∀ r ∈ t, few12 r.1 = true) : ∀ (m i : Nat) (p : List UInt8), i + m = t.length →
    TT.lim 38 [.s p, .l (t.map row), .i .i64 t.length, .i .i64 i] = some (tagged (chkR (if i = 0 then none else some p) (t.drop i)))
  | 0, i, p, hi => by
    have h0 : t.drop i = [] := List.drop_eq_nil_of_le (by omega)
    refine tree_lim rfl rfl ?_
    have h : ¬ ((i : Int) < t.length) := by omega
    simp [h, h0, chkR, tagged]
  | m + 1, i, p, hi => by
    have hlt : i < t.length := by omega
    have hr := ht.2 t[i] (List.getElem_mem hlt)
    have k15 := check15 t[i] hr.1
    have k6 := key6 t[i].1 (hf _ (List.getElem_mem hlt))
    have hrow : GV.g [.l (t[i].1.map ent), .i .u64 t[i].2] = row t[i] := rfl
    have ih : TT.lim 38 [.s (keyF t[i].1), .l (t.map row), .i .i64 t.length, .i .i64 ((i : Int) + 1)] = _ := loop38 t ht hf m (i + 1) (keyF t[i].1) (by omega)
    rw [if_neg (by omega)] at ih
    rw [List.drop_eq_getElem_cons hlt]
    refine tree_lim rfl rfl ?_
    have h : ((i : Int) < t.length) := by omega
    have hw := wrap64 (n := (i : Int) + 1) (by omega) (by have := ht.1; omega)
    by_cases h1 : rowChk t[i] = 0
    rotate_left
    · simp [-List.getElem_cons_drop, h, hlt, hrow, k15, h1, chkR, tagged]
    by_cases h0 : i = 0
    · subst h0
      simp only [Int.natCast_zero, Int.zero_add] at hw ih
      simp [-List.getElem_cons_drop, h, hlt, hrow, k15, h1, k6, hw, chkR]
      have hn : (0 : Int) < (t.length : Int) := by omega
      simpa using ih
    · have hi0 : 0 < i := by omega
      by_cases h2 : keyF t[i].1 = p
      · have h2' : (keyF t[i].1 = p) = True := eq_true h2
        clear h2
        simp [-List.getElem_cons_drop, h, hlt, hrow, k15, h1, k6, hi0, h0, h2', chkR, tagged]
      · cases h3 : Op.bytesLess (keyF t[i].1) p with
        | true => simp [-List.getElem_cons_drop, h, hlt, hrow, k15, h1, k6, hi0, h0, h2, h3, chkR, tagged]
        | false => simp [-List.getElem_cons_drop, h, hlt, hrow, k15, h1, k6, hi0, h0, h2, h3, hw, ih, chkR]
def checkT (t : List Row) : Int := if 256 < t.length then 13 else chkR none t
theorem check37 (t : List Row) (ht : Rows t) (hf : ∀ r ∈ t, few12 r.1 = true) : TT.lim 37 [.l (t.map row)] = some [.i .i64 (checkT t)] := by
  have h38 : TT.lim 38 [.s [], .l (t.map row), .i .i64 t.length, .i .i64 0] = _ := loop38 t ht hf t.length 0 [] (by omega)
  rw [if_pos rfl, List.drop_zero] at h38
  refine fn_lim rfl rfl ?_ rfl
  unfold checkT
  by_cases h1 : 256 < t.length
  · have h1' : (256 : Int) < (t.length : Int) := by omega
    simp [h1, h1']
  · have h1' : ¬ (256 : Int) < (t.length : Int) := by omega
    by_cases h2 : chkR none t = 0
    · simp only [tagged, h2, if_true] at h38
      simp [h1, h1', h38, h2]
    · simp only [tagged, h2, if_false] at h38
      simp [h1, h1', h38, h2]
theorem chkR_rise : ∀ {t : List Row} (p : Option (List UInt8)), Rise t → (∀ r ∈ t, rowChk r = 0) → (∀ k, p = some k → ∀ r ∈ t, k < K r) → chkR p t = 0
  | [], p, _, _, _ => by cases p <;> rfl
  | r :: t, p, ht, hc, hp => by
    have ht' := List.pairwise_cons.1 ht
    have ih := chkR_rise (t := t) (some (K r)) ht'.2 (fun x hx => hc x (by simp [hx])) (fun k hk x hx => by cases hk; exact ht'.1 x hx)
    unfold chkR
    rw [if_neg (by simp [hc r (by simp)])]
    cases p with
    | none => exact ih
    | some k =>
      have hk := hp k rfl r (by simp)
      have h1 : ¬ K r = k := fun e => by rw [e] at hk; exact List.lt_irrefl _ hk
      have h2 : ¬ Op.bytesLess (K r) k = true := fun e => List.lt_irrefl _ (List.lt_trans hk ((bl_iff _ _).1 e))
      simp only
      rw [if_neg h1, if_neg h2]
      exact ih

/-! ### Rows in another order -/
theorem firstErr_iff : ∀ l : List Row, firstErr l = 0 ↔ ∀ r ∈ l, rowChk r = 0
  | [] => by simp [firstErr]
  | r :: l => by
    unfold firstErr
    by_cases h : rowChk r = 0
    · rw [if_pos h, firstErr_iff l]; simp [h]
    · rw [if_neg h]; simp [h]
theorem adj_nodup : ∀ {l : List Row}, (l.map K).Nodup → adjDup l = false
  | [], _ => rfl
  | [_], _ => rfl
  | a :: b :: l, h => by
    simp only [List.map_cons, List.nodup_cons, List.mem_cons, not_or] at h
    simp only [adjDup, Bool.or_eq_false_iff, decide_eq_false_iff_not]
    exact ⟨h.1.1, adj_nodup (l := b :: l) (by simp only [List.map_cons, List.nodup_cons]; exact h.2)⟩
theorem rise_nodup {l : List Row} (h : Rise l) : (l.map K).Nodup := by
  unfold List.Nodup
  rw [List.pairwise_map]
  refine h.imp fun {a b} hab e => ?_
  rw [e] at hab
  exact List.lt_irrefl _ hab
theorem adj_iff (l : List Row) : adjDup (sortR l) = false ↔ (l.map K).Nodup := by
  constructor
  · intro h
    exact ((sortR_perm l).map K).nodup_iff.1 (rise_nodup (rise_of (sortR_sorted l) h))
  · intro h
    exact adj_nodup (((sortR_perm l).map K).nodup_iff.2 h)
theorem ofR_ok (l : List Row) : (ofR l).2 = 0 ↔ (l.length ≤ 256 ∧ (∀ r ∈ l, rowChk r = 0) ∧ (l.map K).Nodup) := by
  rw [← firstErr_iff, ← adj_iff]
  unfold ofR
  by_cases h1 : 256 < l.length
  · rw [if_pos h1]; simp; omega
  rw [if_neg h1]
  by_cases h2 : firstErr l = 0
  · rw [if_pos h2]
    cases h3 : adjDup (sortR l) with
    | true => simp
    | false => simp [h2]; omega
  · rw [if_neg h2]; simp [h2]
theorem ofR_nil {l : List Row} (h : (ofR l).2 ≠ 0) : (ofR l).1 = [] := by
  unfold ofR at h ⊢
  split
  · rfl
  next h1 =>
  rw [if_neg h1] at h
  split
  · next h2 =>
    rw [if_pos h2] at h
    split
    · rfl
    · next h3 => rw [if_neg h3] at h; exact absurd rfl h
  · rfl
theorem ofR_perm {l m : List Row} (h : l.Perm m) : (ofR l).2 = 0 → (ofR m).2 = 0 := by
  rw [ofR_ok, ofR_ok]
  rintro ⟨h1, h2, h3⟩
  exact ⟨by rw [← h.length_eq]; exact h1, fun r hr => h2 r (h.mem_iff.2 hr), (h.map K).nodup_iff.1 h3⟩
theorem ofR_same {l m : List Row} (h : l.Perm m) (h1 : (ofR l).2 = 0) : (ofR l).1 = (ofR m).1 := by
  obtain ⟨r1, p1, _⟩ := ofR_rise h1
  obtain ⟨r2, p2, _⟩ := ofR_rise (ofR_perm h h1)
  exact rise_eq r1 r2 (fun r hr => p2.mem_iff.2 (h.mem_iff.1 (p1.mem_iff.1 hr))) (fun r hr => p1.mem_iff.2 (h.mem_iff.2 (p2.mem_iff.1 hr)))

theorem loop34 (a t u : List Row) (f : Int) (ha : Rows a) (ht : t.length ≤ 140737488351232) (hf : ∀ r ∈ t, r.1.length ≤ 140737488351232) (hall : ∀ r ∈ a, getR t r.1 = some r.2) : ∀ m i : Nat, i + m = a.length →
    TT.lim 34 [.l (a.map row), .l (t.map row), .l (u.map row), .i .i64 f, .i .i64 a.length, .i .i64 i] = some [.i .i64 1, .l (a.map row), .l (t.map row), .l (u.map row), .i .i64 f]
  | 0, i, hi => by
    refine tree_lim rfl rfl ?_
    have h : ¬ ((i : Int) < a.length) := by omega
    simp [h]
  | m + 1, i, hi => by
    have hlt : i < a.length := by omega
    have hm := List.getElem_mem hlt
    have ih : TT.lim 34 [.l (a.map row), .l (t.map row), .l (u.map row), .i .i64 f, .i .i64 a.length, .i .i64 ((i : Int) + 1)] = _ := loop34 a t u f ha ht hf hall m (i + 1) (by omega)
    have k := get35 t a[i].1 ht (ha.2 _ hm).1.1 hf
    rw [hall _ hm] at k
    refine tree_lim rfl rfl ?_
    have h : ((i : Int) < a.length) := by omega
    have hw := wrap64 (n := (i : Int) + 1) (by omega) (by have := ha.1; omega)
    simp at k
    simp [h, hlt, k, hw, ih]
theorem Rows.perm {l m : List Row} (h : l.Perm m) (hl : Rows l) : Rows m := ⟨by rw [← h.length_eq]; exact hl.1, fun r hr => hl.2 r (h.mem_iff.2 hr)⟩
set_option maxHeartbeats 4000000 in
theorem sorts33 (a : List Row) (n : Int) (ha : Rows a) (h0 : 0 ≤ n) (h1 : n < 65536) : TT.lim 33 [.l (a.map row), .i .u16 n] = some [.b true] := by
  have fa := few2 a ha
  refine fn_lim rfl rfl ?_ rfl
  cases hfw : few13 a with
  | false => rw [hfw] at fa; simp [fa]
  | true =>
  rw [hfw] at fa
  by_cases hz : a.length = 0
  · have : a = [] := List.eq_nil_of_length_eq_zero hz
    subst this
    simp only [List.map_nil] at fa
    simp [fa]
  have hz' : ¬ ((a.length : Int) = 0) := by omega
  have h300 : a.length ≤ 300 := by unfold few13 at hfw; rw [Bool.and_eq_true, decide_eq_true_iff] at hfw; exact hfw.2
  obtain ⟨k, hk⟩ : ∃ k : Nat, (k : Int) = n.tmod (a.length : Int) := ⟨(n.tmod a.length).toNat, by
    rw [Int.tmod_eq_emod_of_nonneg h0]; exact Int.toNat_of_nonneg (Int.emod_nonneg _ hz')⟩
  have hkl : k < a.length := by
    have := Int.emod_lt_of_pos n (show (0 : Int) < (a.length : Int) by omega)
    rw [Int.tmod_eq_emod_of_nonneg h0] at hk
    omega
  have hcv : IntKind.i64.wrap n = n := wrap64 (by omega) (by omega)
  let b := a.drop k ++ a.take k
  have hp : a.Perm b := by
    have := List.perm_append_comm (l₁ := a.take k) (l₂ := a.drop k)
    rw [List.take_append_drop] at this
    exact this
  have oa := of13 a ha (few13_few hfw)
  have ob' : TT.lim 13 [.l (List.drop k (a.map row) ++ List.take k (a.map row))] = some [.l ((ofR b).1.map row), .i .i64 (ofR b).2] := by
    have h := of13 b (ha.perm hp) (fun r hr => few13_few hfw r (hp.mem_iff.2 hr))
    have e : b.map row = List.drop k (a.map row) ++ List.take k (a.map row) := by
      show (a.drop k ++ a.take k).map row = _
      rw [List.map_append, List.map_drop, List.map_take]
    rwa [e] at h
  have hall2 : ((a.map row).all fun x => Nat.beq x.cells.length 2) = true := by
    rw [List.all_eq_true]; intro x hx; obtain ⟨r, _, rfl⟩ := List.mem_map.1 hx; rfl
  have hok1 : ((a.map row).drop k).all (GV.elemOk 2) = true := by
    rw [List.all_eq_true]; intro x hx; obtain ⟨r, _, rfl⟩ := List.mem_map.1 ((List.drop_sublist _ _).subset hx); rfl
  have hok2 : ((a.map row).take k).all (GV.elemOk 2) = true := by
    rw [List.all_eq_true]; intro x hx; obtain ⟨r, _, rfl⟩ := List.mem_map.1 ((List.take_sublist _ _).subset hx); rfl
  have htk : (a.map row).take a.length = a.map row := List.take_of_length_le (by simp)
  have hb1 : 2 * (a.length - k) * 32 ≤ 281474976710656 ∧ a.length - k ≤ 281474976710656 := by omega
  have hb2 : 2 * (a.length - k + min k a.length) * 32 ≤ 281474976710656 ∧ a.length - k + min k a.length ≤ 281474976710656 := by omega
  have hk0 : (0 : Int) ≤ (k : Int) ∧ (k : Int) ≤ (a.length : Int) := by omega
  by_cases ea : (ofR a).2 = 0
  · obtain ⟨ra, pa, la⟩ := ofR_rise ea
    have eb := ofR_perm hp ea
    have hs := ofR_same hp ea
    have hrows := ha.perm pa.symm
    have hfe : ∀ r ∈ (ofR a).1, few12 r.1 = true := fun r hr => few13_few hfw r (pa.mem_iff.1 hr)
    have hlen : (ofR a).1.length = a.length := pa.length_eq
    rw [eb] at ob'
    rw [ea] at oa
    rw [← hs] at ob'
    have hchk : checkT (ofR a).1 = 0 := by
      unfold checkT
      rw [if_neg (by omega)]
      exact chkR_rise none ra (fun r hr => ((ofR_ok a).1 ea).2.1 r (pa.mem_iff.1 hr)) (fun k hk => by cases hk)
    have hgall : ∀ r ∈ a, getR (ofR a).1 r.1 = some r.2 := fun r hr => getR_mem ra r (pa.mem_iff.2 hr)
    generalize (ofR a).1 = t at *
    have k37 := check37 t hrows hfe
    rw [hchk] at k37
    have k27 := same27 t t hrows.1 hrows.1 (fun r hr => (hrows.2 r hr).1.1) (fun r hr => (hrows.2 r hr).1.1)
    have k34 : TT.lim 34 [.l (a.map row), .l (t.map row), .l (t.map row), .i .i64 0, .i .i64 a.length, .i .i64 0] = _ := loop34 a t t 0 ha hrows.1 (fun r hr => (hrows.2 r hr).1.1) hgall a.length 0 (by omega)
    simp at k27
    have hlen' : (t.length : Int) = (a.length : Int) := by omega
    simp [-List.all_eq_true, fa, hz, hz', oa, hcv, ← hk, hall2, htk, hok1, hok2, hb1, hb2, hk0, ob', k34, k27, k37, hlen']
  · have eb : ¬ (ofR b).2 = 0 := fun e => ea (ofR_perm hp.symm e)
    have na := ofR_nil ea
    have nb := ofR_nil eb
    rw [na] at oa
    rw [nb] at ob'
    simp [-List.all_eq_true, fa, hz, hz', oa, hcv, ← hk, hall2, htk, hok1, hok2, hb1, hb2, hk0, ob', ea, eb]
theorem has_u16 {g : GV} (h : (GTy.int .u16).has g) : ∃ n, g = .i .u16 n ∧ 0 ≤ n ∧ n < 65536 := by
  simp only [GTy.has] at h
  obtain ⟨n, rfl, h1, h2⟩ := h
  exact ⟨n, rfl, by simpa [IntKind.min, IntKind.signed] using h1, by simp [IntKind.max, IntKind.signed, IntKind.bits] at h2; omega⟩
theorem tableSorts (gs : List GV) (h : hasArgs [(false, rowsTy), (false, [.int .u16])] gs) : TT.lim 33 gs = some [.b true] := by
  obtain ⟨a, gs, rfl, h1, h⟩ := hasA_sc h
  obtain ⟨n, gs, rfl, h2, h⟩ := hasA_sc h
  obtain rfl := hasA_nil h
  obtain ⟨a, ha, rfl⟩ := rows_of h1
  obtain ⟨n, rfl, n1, n2⟩ := has_u16 h2
  exact sorts33 a n ha n1 n2
end C
end Go.Proofs.YtamcdgfjjeldeaaGreatDoor
