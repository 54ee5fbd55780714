/- The document's keys and numbers, told of trees. -/
import Derived.Test.YtamcdgfjjeldeaaGreatDoorKDPlE
namespace Go.Proofs.YtamcdgfjjeldeaaGreatDoor
open Go Go.Abs
set_option linter.unusedSimpArgs false
set_option linter.unusedVariables false
set_option maxRecDepth 100000
namespace D
/-! ### The same in the document's words -/
theorem loop57 (d : List Ent) (hd : d.length ≤ 40) : ∀ (m i : Nat) (acc : List Ent), i + m = d.length → acc.length = i → TT.lim 57 [.l (acc.map ent), .l (d.map ent), .i .i64 d.length, .i .i64 i] = some [.i .i64 0, .l ((acc ++ d.drop i).map ent)]
  | 0, i, acc, hi, ha => by
    have h0 : d.drop i = [] := List.drop_eq_nil_of_le (by omega)
    have h : ¬ ((i : Int) < d.length) := by omega
    refine tree_lim rfl rfl ?_
    simp [h, h0]
  | m + 1, i, acc, hi, ha => by
    have hlt : i < d.length := by omega
    have ih : TT.lim 57 [.l ((acc ++ [d[i]]).map ent), .l (d.map ent), .i .i64 d.length, .i .i64 ((i : Int) + 1)] = _ := loop57 d hd m (i + 1) (acc ++ [d[i]]) (by omega) (by simp; omega)
    rw [List.append_assoc, List.singleton_append, ← List.drop_eq_getElem_cons hlt] at ih
    generalize hL : (acc ++ d.drop i).map ent = L at ih ⊢
    simp only [List.map_append, List.map_cons, List.map_nil] at ih
    have h : ((i : Int) < d.length) := by omega
    have hw := wrap64 (n := (i : Int) + 1) (by omega) (by omega)
    have he : GV.g [GV.s d[i].1, GV.s d[i].2] = ent d[i] := rfl
    have hok : (ent d[i]).elemOk 2 = true := rfl
    have hb : 2 * (acc.length + 1) * 32 ≤ 281474976710656 ∧ acc.length + 1 ≤ 281474976710656 := by omega
    refine tree_lim rfl rfl ?_
    simp [h, hlt, he, hok, hb, hw, ih]
theorem to56 (d : List Ent) (hd : d.length ≤ 40) : TT.lim 56 [.l (d.map ent)] = some [.l (d.map ent)] := by
  have k : TT.lim 57 [.l [], .l (d.map ent), .i .i64 d.length, .i .i64 0] = _ := loop57 d hd d.length 0 [] (by omega) rfl
  rw [List.drop_zero, List.nil_append] at k
  refine fn_lim rfl rfl ?_ rfl
  simp [k]
theorem loop55 (l : List Row) (hl : l.length ≤ 300) (hf : Few l) : ∀ (m i : Nat) (acc : List Row), i + m = l.length → acc.length = i → TT.lim 55 [.l (acc.map row), .l (l.map row), .i .i64 l.length, .i .i64 i] = some [.i .i64 0, .l ((acc ++ l.drop i).map row)]
  | 0, i, acc, hi, ha => by
    have h0 : l.drop i = [] := List.drop_eq_nil_of_le (by omega)
    have h : ¬ ((i : Int) < l.length) := by omega
    refine tree_lim rfl rfl ?_
    simp [h, h0]
  | m + 1, i, acc, hi, ha => by
    have hlt : i < l.length := by omega
    have ih : TT.lim 55 [.l ((acc ++ [l[i]]).map row), .l (l.map row), .i .i64 l.length, .i .i64 ((i : Int) + 1)] = _ := loop55 l hl hf m (i + 1) (acc ++ [l[i]]) (by omega) (by simp; omega)
    rw [List.append_assoc, List.singleton_append, ← List.drop_eq_getElem_cons hlt] at ih
    generalize hL : (acc ++ l.drop i).map row = L at ih ⊢
    simp only [List.map_append, List.map_cons, List.map_nil] at ih
    have k := to56 l[i].1 (few40 (hf _ (List.getElem_mem hlt)))
    have h : ((i : Int) < l.length) := by omega
    have hw := wrap64 (n := (i : Int) + 1) (by omega) (by omega)
    have he : GV.g [GV.l (l[i].1.map ent), GV.i .u64 l[i].2] = row l[i] := rfl
    have hok : (row l[i]).elemOk 2 = true := rfl
    have hb : 2 * (acc.length + 1) * 32 ≤ 281474976710656 ∧ acc.length + 1 ≤ 281474976710656 := by omega
    refine tree_lim rfl rfl ?_
    simp [h, hlt, k, he, hok, hb, hw, ih]
theorem to54 (l : List Row) (hl : GoodT l) : TT.lim 54 [.l (l.map row)] = some [.l (l.map row)] := by
  have k : TT.lim 55 [.l [], .l (l.map row), .i .i64 l.length, .i .i64 0] = _ := loop55 l hl.len hl.few l.length 0 [] (by omega) rfl
  rw [List.drop_zero, List.nil_append] at k
  refine fn_lim rfl rfl ?_ rfl
  simp [k]
theorem to53 (s : Sn) (h : GoodT s.2) : TT.lim 53 [sn s] = some [sn s] := by
  have k := to54 s.2 h
  have e : GV.g [.i .u64 s.1, .l (s.2.map row)] = sn s := rfl
  refine fn_lim rfl rfl ?_ rfl
  simp [k, e]
theorem delta85 (d : Dl) (h : GoodT d.2.2) : TT.lim 85 [dl d] = some [dl d] := by
  have k := to54 d.2.2 h
  have e : GV.g [.i .u64 d.1, .i .u64 d.2.1, .l (d.2.2.map row)] = dl d := rfl
  refine fn_lim rfl rfl ?_ rfl
  simp [k, e]
/-! ### Keys -/
theorem tmod128 (n : Nat) : (n : Int).tmod 128 = ((n % 128 : Nat) : Int) := by rw [Int.tmod_eq_emod_of_nonneg (by omega)]; omega
theorem tdiv128 (n : Nat) : (n : Int).tdiv 128 = ((n / 128 : Nat) : Int) := by rw [Int.tdiv_eq_ediv_of_nonneg (by omega)]; omega
theorem bytesG_one (n : Nat) (h : n < 256) : bytesG [.i .u8 (n : Int)] = some [UInt8.ofNat n] := by
  have := bytesG_map [n] (by simpa using h)
  simpa [byteG] using this
theorem add_one (s : List UInt8) (c : UInt8) (h : s.length ≤ 1000000) : bin2 .add (some (.s s)) (some (.s [c])) = some (.s (s ++ [c])) := by
  rw [bin2_sadd, if_pos (by simp only [List.length_singleton]; omega)]
theorem step76 (n a b q : Int) (s c r : List UInt8) (h' : 127 < n) (e1 : n.tmod 128 = a) (e2 : n.tdiv 128 = b) (w1 : IntKind.u64.wrap (a + 128) = a + 128) (w2 : IntKind.u8.wrap (a + 128) = a + 128) (w3 : IntKind.u64.wrap b = b)
    (e3 : bytesG [.i .u8 (a + 128)] = some c) (hb : bin2 .add (some (.s s)) (some (.s c)) = some (.s (s ++ c))) (k : TT.lim 76 [.i .u64 b, .s (s ++ c)] = some [.i .i64 0, .i .u64 q, .s (s ++ (c ++ r))]) :
    TT.lim 76 [.i .u64 n, .s s] = some [.i .i64 0, .i .u64 q, .s (s ++ (c ++ r))] := by
  refine tree_lim rfl rfl ?_
  simp [-bin2_sadd, h', e1, e2, w1, w2, w3, e3, hb, k]
theorem put75_aux (n q : Int) (r c : List UInt8) (k : TT.lim 76 [.i .u64 n, .s []] = some [.i .i64 0, .i .u64 q, .s r]) (w : IntKind.u8.wrap q = q) (e : bytesG [.i .u8 q] = some c) (hr : bin2 .add (some (.s r)) (some (.s c)) = some (.s (r ++ c))) :
    TT.lim 75 [.i .u64 n] = some [.s (r ++ c)] := by
  refine fn_lim rfl rfl ?_ rfl
  simp [-bin2_sadd, k, w, e, hr]
theorem loop76 : ∀ n : Nat, n < 18446744073709551616 → ∃ q r, q < 128 ∧ r ++ [UInt8.ofNat q] = vput n ∧ ∀ s : List UInt8, s.length + (vput n).length ≤ 1000 → TT.lim 76 [.i .u64 n, .s s] = some [.i .i64 0, .i .u64 (q : Nat), .s (s ++ r)] := by
  intro n
  induction n using Nat.strongRecOn with
  | _ n ih =>
    intro hn
    by_cases h : n < 128
    · refine ⟨n, [], h, by rw [vput_lt h, List.nil_append], fun s hs => ?_⟩
      have h' : ¬ (127 : Int) < (n : Int) := by omega
      refine tree_lim rfl rfl ?_
      simp [h']
    · obtain ⟨q, r, h1, h2, h3⟩ := ih (n / 128) (by omega) (by omega)
      refine ⟨q, [UInt8.ofNat (n % 128 + 128)] ++ r, h1, by rw [vput_ge h, ← h2, List.append_assoc, List.singleton_append], fun s hs => ?_⟩
      rw [vput_ge h, List.length_cons] at hs
      have k := h3 (s ++ [UInt8.ofNat (n % 128 + 128)]) (by simp; omega)
      rw [List.append_assoc] at k
      have e3 := bytesG_one (n % 128 + 128) (by omega)
      rw [show ((n % 128 + 128 : Nat) : Int) = ((n % 128 : Nat) : Int) + 128 by omega] at e3
      exact step76 n _ _ q s _ r (by omega) (tmod128 n) (tdiv128 n) (wrapu64 (by omega) (by omega)) (wrapu8 (by omega) (by omega)) (wrapu64 (by omega) (by omega)) e3 (add_one s _ (by omega)) k
theorem put75 (n : Nat) (hn : n < 18446744073709551616) : TT.lim 75 [.i .u64 n] = some [.s (vput n)] := by
  obtain ⟨q, r, h1, h2, h3⟩ := loop76 n hn
  have hl := vput_len hn
  have k := h3 [] (by simp; omega)
  rw [List.nil_append] at k
  rw [← h2]
  exact put75_aux n q r _ k (wrapu8 (by omega) (by omega)) (bytesG_one q (by omega)) (add_one r _ (by rw [← h2] at hl; simp at hl; omega))
theorem entput78 (x : Ent) (h1 : x.1.length ≤ 140737488351232) (h2 : x.2.length ≤ 140737488351232) : TT.lim 78 [ent x] = some [.s (entPut x)] := by
  have k1 := put75 x.1.length (by omega)
  have k2 := put75 x.2.length (by omega)
  have l1 := vput_len (n := x.1.length) (by omega)
  have l2 := vput_len (n := x.2.length) (by omega)
  have w1 := wrapu64 (n := (x.1.length : Int)) (by omega) (by omega)
  have w2 := wrapu64 (n := (x.2.length : Int)) (by omega) (by omega)
  have c1 : ((vput x.1.length).length : Int) + (x.1.length : Int) ≤ 9223372036854775807 := by omega
  have c2 : ((vput x.1.length).length : Int) + ((x.1.length : Int) + ((vput x.2.length).length : Int)) ≤ 9223372036854775807 := by omega
  have c3 : ((vput x.1.length).length : Int) + ((x.1.length : Int) + (((vput x.2.length).length : Int) + (x.2.length : Int))) ≤ 9223372036854775807 := by omega
  refine fn_lim rfl rfl ?_ rfl
  simp [w1, w2, k1, k2, c1, c2, c3, entPut, Int.add_assoc]
theorem loop77 (d : List Ent) (hf : d.all fewE = true) (hl : d.length ≤ 40) : ∀ (m i : Nat) (acc : List UInt8), i + m = d.length → acc.length ≤ 10 + 620 * i →
    TT.lim 77 [.s acc, .l (d.map ent), .i .i64 d.length, .i .i64 i] = some [.i .i64 0, .s (acc ++ (d.drop i).flatMap entPut)]
  | 0, i, acc, hi, ha => by
    have h0 : d.drop i = [] := List.drop_eq_nil_of_le (by omega)
    refine tree_lim rfl rfl ?_
    have h : ¬ ((i : Int) < d.length) := by omega
    simp [h, h0]
  | m + 1, i, acc, hi, ha => by
    have hlt : i < d.length := by omega
    have hx := List.all_eq_true.1 hf d[i] (List.getElem_mem hlt)
    have hx1 := hx
    unfold fewE at hx1
    simp only [decide_eq_true_iff] at hx1
    have hp := entput78 d[i] (by omega) (by omega)
    have hpl := entPut_len hx
    have ih : TT.lim 77 [.s (acc ++ entPut d[i]), .l (d.map ent), .i .i64 d.length, .i .i64 ((i : Int) + 1)] = _ := loop77 d hf hl m (i + 1) (acc ++ entPut d[i]) (by omega) (by simp; omega)
    have hd : (d.drop i).flatMap entPut = entPut d[i] ++ (d.drop (i + 1)).flatMap entPut := by rw [List.drop_eq_getElem_cons hlt, List.flatMap_cons]
    rw [hd, ← List.append_assoc]
    have h : ((i : Int) < d.length) := by omega
    have hw := wrap64 (n := (i : Int) + 1) (by omega) (by omega)
    have hb : (acc.length : Int) + ((entPut d[i]).length : Int) ≤ 9223372036854775807 := by omega
    have he : GV.g [GV.s d[i].1, GV.s d[i].2] = ent d[i] := rfl
    refine tree_lim rfl rfl ?_
    simp [h, hlt, he, hp, hb, hw, ih]
theorem key74 (d : List Ent) (hf : few12 d = true) : TT.lim 74 [.l (d.map ent)] = some [.s (keyF d)] := by
  unfold few12 at hf
  rw [Bool.and_eq_true, decide_eq_true_iff] at hf
  have k := put75 d.length (by omega)
  have l1 := vput_len (n := d.length) (by omega)
  have w1 := wrapu64 (n := (d.length : Int)) (by omega) (by omega)
  have h11 : TT.lim 77 [.s (vput d.length), .l (d.map ent), .i .i64 d.length, .i .i64 0] = _ := loop77 d hf.1 hf.2 d.length 0 (vput d.length) (by omega) (by omega)
  rw [List.drop_zero] at h11
  refine fn_lim rfl rfl ?_ rfl
  unfold keyF
  generalize d.flatMap entPut = F at *
  simp [w1, k, h11]
theorem key_len {d : List Ent} (hf : few12 d = true) : (keyF d).length ≤ 30000 := by
  unfold few12 at hf
  rw [Bool.and_eq_true, decide_eq_true_iff] at hf
  have l1 := vput_len (n := d.length) (by omega)
  have := flat_len620 d hf.1
  unfold keyF
  simp only [List.length_append]; omega
theorem less79 (a b : List UInt8) (ha : a.length ≤ 140737488351232) (hb : b.length ≤ 140737488351232) : TT.lim 79 [.s a, .s b] = some [.b (Op.bytesLess a b)] := by
  have k := cmp71 (a, []) (b, []) ⟨ha, by simp⟩ ⟨hb, by simp⟩
  have e1 : GV.g [.s a, .s []] = ent (a, []) := rfl
  have e2 : GV.g [.s b, .s []] = ent (b, []) := rfl
  have hc : decide (cmpE (a, []) (b, []) < 0) = Op.bytesLess a b := by
    unfold cmpE
    cases h : Op.bytesLess a b with
    | true => simp
    | false =>
      simp only [Bool.false_eq_true, if_false]
      rw [if_neg (by simp [Op.bytesLess])]
      split <;> rfl
  refine fn_lim rfl rfl ?_ rfl
  simp [e1, e2, k, hc]
/-! ### May a table be? -/
theorem loop60 (t : List Row) (ht : Rows t) (hf : Few t) (h256 : t.length ≤ 256) : ∀ m i : Nat, i + m = t.length →
    TT.lim 60 [.l (t.map row), .i .i64 t.length, .i .i64 i] = some (tagged (chkR (if h : 0 < i then (t[i - 1]?).map K else none) (t.drop i)))
  | 0, i, hi => by
    have h0 : t.drop i = [] := List.drop_eq_nil_of_le (by omega)
    have h : ¬ ((i : Int) < t.length) := by omega
    refine tree_lim rfl rfl ?_
    simp [h, h0, chkR, tagged]
  | m + 1, i, hi => by
    have hlt : i < t.length := by omega
    have hr := ht.2 t[i] (List.getElem_mem hlt)
    have fr := hf t[i] (List.getElem_mem hlt)
    have k15 := rowchk61 t[i] hr.1
    have k6 := key74 t[i].1 fr
    have hrow : GV.g [.l (t[i].1.map ent), .i .u64 t[i].2] = row t[i] := rfl
    have ih : TT.lim 60 [.l (t.map row), .i .i64 t.length, .i .i64 ((i : Int) + 1)] = _ := loop60 t ht hf h256 m (i + 1) (by omega)
    have hpk : (if h : 0 < i + 1 then (t[i + 1 - 1]?).map K else none) = some (K t[i]) := by simp [hlt]
    rw [hpk] at ih
    rw [List.drop_eq_getElem_cons hlt]
    have h : ((i : Int) < t.length) := by omega
    have hw := wrap64 (n := (i : Int) + 1) (by omega) (by omega)
    by_cases h1 : rowChk t[i] = 0
    rotate_left
    · have hc : ∀ p, chkR p (t[i] :: t.drop (i + 1)) = rowChk t[i] := fun p => by unfold chkR; rw [if_pos h1]
      rw [hc]
      have ht1 : tagged (rowChk t[i]) = [.i .i64 0, .i .i64 (rowChk t[i])] := by unfold tagged; rw [if_neg h1]
      rw [ht1]
      refine tree_lim rfl rfl ?_
      simp [-List.getElem_cons_drop, h, hlt, hrow, k15, h1]
    by_cases h0 : i = 0
    · subst h0
      have hc : chkR (if h : 0 < 0 then (t[0 - 1]?).map K else none) (t[0] :: t.drop (0 + 1)) = chkR (some (K t[0])) (t.drop (0 + 1)) := by
        conv => lhs; unfold chkR
        simp [h1]
      rw [hc]
      generalize tagged (chkR (some (K t[0])) (t.drop (0 + 1))) = out at *
      simp only [Int.natCast_zero, Int.zero_add] at hw ih
      have hn : (0 : Int) < (t.length : Int) := by omega
      refine tree_lim rfl rfl ?_
      simp [-List.getElem_cons_drop, h, hlt, hn, hrow, k15, h1, k6, hw, ih]
    · have hi0 : 0 < i := by omega
      have hi1 : i - 1 < t.length := by omega
      have hi0' : (0 : Int) < (i : Int) := by omega
      have hw2 := wrap64 (n := (i : Int) - 1) (by omega) (by omega)
      have ht2 : ((i : Int) - 1).toNat = i - 1 := by omega
      have hnl : (1 : Int) ≤ (i : Int) := by omega
      have hge : (0 : Int) ≤ (i : Int) - 1 := by omega
      have fp := hf t[i - 1] (List.getElem_mem hi1)
      have k7 := key74 t[i - 1].1 fp
      have kl := less79 (keyF t[i - 1].1) (keyF t[i].1) (by have := key_len fp; omega) (by have := key_len fr; omega)
      have hp : (if h : 0 < i then (t[i - 1]?).map K else none) = some (K t[i - 1]) := by simp [hi0, hi1]
      rw [hp]
      have hc : chkR (some (K t[i - 1])) (t[i] :: t.drop (i + 1)) = if K t[i] = K t[i - 1] then 14 else if Op.bytesLess (K t[i]) (K t[i - 1]) = true then 7 else chkR (some (K t[i])) (t.drop (i + 1)) := by
        conv => lhs; unfold chkR
        rw [if_neg (by simp [h1])]
      rw [hc]
      generalize chkR (some (K t[i])) (t.drop (i + 1)) = out at *
      by_cases h2 : keyF t[i].1 = keyF t[i - 1].1
      · rw [if_pos h2]
        have h2' : (keyF t[i - 1].1 = keyF t[i].1) = True := eq_true h2.symm
        refine tree_lim rfl rfl ?_
        simp [-List.getElem_cons_drop, h, hlt, hrow, k15, h1, k6, hi0', hi0, hw2, ht2, hnl, hge, hi1, k7, h2', tagged]
      · rw [if_neg h2]
        have h2' : ¬ keyF t[i - 1].1 = keyF t[i].1 := fun e => h2 e.symm
        by_cases h3 : keyF t[i].1 < keyF t[i - 1].1
        · rw [if_pos ((bl_iff _ _).2 h3)]
          rw [(bl_not _ _).2 fun h => List.lt_irrefl _ (List.lt_trans h h3)] at kl
          refine tree_lim rfl rfl ?_
          simp [-List.getElem_cons_drop, h, hlt, hrow, k15, h1, k6, hi0', hi0, hw2, ht2, hnl, hge, hi1, k7, h2', kl, tagged]
        · rw [if_neg fun h => h3 ((bl_iff _ _).1 h)]
          have h4 : keyF t[i - 1].1 < keyF t[i].1 := by
            rcases List.le_iff_lt_or_eq.1 (List.not_lt.1 h3) with h | h
            · exact h
            · exact absurd h h2'
          rw [(bl_iff _ _).2 h4] at kl
          refine tree_lim rfl rfl ?_
          simp [-List.getElem_cons_drop, h, hlt, hrow, k15, h1, k6, hi0', hi0, hw2, ht2, hnl, hge, hi1, k7, h2', kl, hw, ih]
theorem check59 (t : List Row) (ht : Rows t) (hf : Few t) : TT.lim 59 [.l (t.map row)] = some [.i .i64 (checkT t)] := by
  unfold checkT
  by_cases h1 : 256 < t.length
  · have h1' : (256 : Int) < (t.length : Int) := by omega
    refine fn_lim rfl rfl ?_ rfl
    simp [h1, h1']
  · have h1' : ¬ (256 : Int) < (t.length : Int) := by omega
    have h38 : TT.lim 60 [.l (t.map row), .i .i64 t.length, .i .i64 0] = _ := loop60 t ht hf (by omega) t.length 0 (by omega)
    rw [List.drop_zero] at h38
    have hp : (if h : 0 < 0 then (t[0 - 1]?).map K else none) = none := rfl
    rw [hp] at h38
    refine fn_lim rfl rfl ?_ rfl
    by_cases h2 : chkR none t = 0
    · simp only [tagged, h2, if_true] at h38
      simp [h1, h1', h38, h2]
    · simp only [tagged, h2, if_false] at h38
      simp [h1, h1', h38, h2]
def getT (t : List Row) (k : List UInt8) : Option Int := (t.find? fun r => decide (K r = k)).map (·.2)
theorem val_get : ∀ (t : List Row) (k : List UInt8), val t k = (getT t k).getD 0
  | [], _ => rfl
  | r :: t, k => by
    unfold val getT
    rw [val_get t k]
    by_cases h : K r = k
    · simp [h]
    · simp [h, getT]
def outG : Option Int → List GV
  | some n => [.i .i64 0, .i .u64 n]
  | none => [.i .i64 1]
theorem loop83 (t : List Row) (d : List Ent) (ht : t.length ≤ 1000) (hf : Few t) (hd : few12 d = true) : ∀ m i : Nat, i + m = t.length → TT.lim 83 [.l (d.map ent), .l (t.map row), .i .i64 t.length, .i .i64 i] = some (outG (getT (t.drop i) (keyF d)))
  | 0, i, hi => by
    have h0 : t.drop i = [] := List.drop_eq_nil_of_le (by omega)
    have h : ¬ ((i : Int) < t.length) := by omega
    refine tree_lim rfl rfl ?_
    simp [h, h0, getT, outG]
  | m + 1, i, hi => by
    have hlt : i < t.length := by omega
    have ih : TT.lim 83 [.l (d.map ent), .l (t.map row), .i .i64 t.length, .i .i64 ((i : Int) + 1)] = _ := loop83 t d ht hf hd m (i + 1) (by omega)
    have k1 := key74 t[i].1 (hf _ (List.getElem_mem hlt))
    have k2 := key74 d hd
    have h : ((i : Int) < t.length) := by omega
    have hw := wrap64 (n := (i : Int) + 1) (by omega) (by omega)
    have hc : getT (t.drop i) (keyF d) = if keyF t[i].1 = keyF d then some t[i].2 else getT (t.drop (i + 1)) (keyF d) := by
      rw [List.drop_eq_getElem_cons hlt]
      unfold getT
      rw [List.find?_cons]
      by_cases e : keyF t[i].1 = keyF d
      · simp [e]
      · simp [e]
    rw [hc]
    generalize getT (t.drop (i + 1)) (keyF d) = out at *
    refine tree_lim rfl rfl ?_
    by_cases e : keyF t[i].1 = keyF d
    · rw [if_pos e]
      have e' : (keyF t[i].1 = keyF d) = True := eq_true e
      clear e
      simp [h, hlt, k1, k2, e', outG]
    · rw [if_neg e]
      simp [h, hlt, k1, k2, e, hw, ih]
theorem get82 (t : List Row) (d : List Ent) (ht : t.length ≤ 1000) (hf : Few t) (hd : few12 d = true) : TT.lim 82 [.l (t.map row), .l (d.map ent)] = some [.i .u64 (val t (keyF d))] := by
  have k : TT.lim 83 [.l (d.map ent), .l (t.map row), .i .i64 t.length, .i .i64 0] = _ := loop83 t d ht hf hd t.length 0 (by omega)
  rw [List.drop_zero] at k
  rw [val_get]
  refine fn_lim rfl rfl ?_ rfl
  cases hg : getT t (keyF d) <;> rw [hg] at k <;> simp only [outG] at k <;> simp [k]
def atLF (t b : List Row) : Bool := b.all fun r => decide (r.2 ≤ val t (K r))
theorem loop81 (t b : List Row) (ht : t.length ≤ 1000) (hf : Few t) (hb : b.length ≤ 1000) (fb : Few b) : ∀ m i : Nat, i + m = b.length → TT.lim 81 [.l (t.map row), .l (b.map row), .i .i64 b.length, .i .i64 i] = some (if atLF t (b.drop i) = true then [.i .i64 1] else [.i .i64 0])
  | 0, i, hi => by
    have h0 : b.drop i = [] := List.drop_eq_nil_of_le (by omega)
    have h : ¬ ((i : Int) < b.length) := by omega
    refine tree_lim rfl rfl ?_
    simp [h, h0, atLF]
  | m + 1, i, hi => by
    have hlt : i < b.length := by omega
    have ih : TT.lim 81 [.l (t.map row), .l (b.map row), .i .i64 b.length, .i .i64 ((i : Int) + 1)] = _ := loop81 t b ht hf hb fb m (i + 1) (by omega)
    have k1 := get82 t b[i].1 ht hf (fb _ (List.getElem_mem hlt))
    have h : ((i : Int) < b.length) := by omega
    have hw := wrap64 (n := (i : Int) + 1) (by omega) (by omega)
    have hc : atLF t (b.drop i) = (decide (b[i].2 ≤ val t (keyF b[i].1)) && atLF t (b.drop (i + 1))) := by
      rw [List.drop_eq_getElem_cons hlt]; rfl
    rw [hc]
    generalize atLF t (b.drop (i + 1)) = out at *
    refine tree_lim rfl rfl ?_
    by_cases e : val t (keyF b[i].1) < b[i].2
    · have e' : ¬ b[i].2 ≤ val t (keyF b[i].1) := by omega
      simp [h, hlt, k1, e, e']
    · have e' : b[i].2 ≤ val t (keyF b[i].1) := by omega
      simp [h, hlt, k1, e, e', hw, ih]
theorem atLeast80 (t b : List Row) (ht : t.length ≤ 1000) (hf : Few t) (hb : b.length ≤ 1000) (fb : Few b) : TT.lim 80 [.l (t.map row), .l (b.map row)] = some [.b (atLF t b)] := by
  have k : TT.lim 81 [.l (t.map row), .l (b.map row), .i .i64 b.length, .i .i64 0] = _ := loop81 t b ht hf hb fb b.length 0 (by omega)
  rw [List.drop_zero] at k
  refine fn_lim rfl rfl ?_ rfl
  cases hg : atLF t b <;> rw [hg] at k <;> simp at k <;> simp [k]
theorem atLF_eq {t b : List Row} (ht : Tb t) (hb : Tb b) : atLF t b = atL t b := by
  rw [Bool.eq_iff_iff, atL_iff _ _ ht.rise hb.rise]
  unfold atLF
  rw [List.all_eq_true]
  constructor
  · intro h r hr
    have h1 := h r hr
    simp only [decide_eq_true_iff] at h1
    have h2 := (hb.pos r hr).1
    obtain ⟨s, hs, e1, e2⟩ := val_pos ht.pos (k := K r) (by omega)
    exact ⟨s, hs, e1, by omega⟩
  · intro h r hr
    obtain ⟨s, hs, e1, e2⟩ := h r hr
    simp only [decide_eq_true_iff]
    rw [← e1, val_mem ht.rise s hs]; exact e2
/-! ### The same -/
theorem loop99 (a b : List Row) (i : Nat) (ha : i < a.length) (hb : i < b.length) (hl : a[i].1.length = b[i].1.length) (h40 : a[i].1.length ≤ 40) (x3 x4 x5 x7 x8 x9 : GV) : ∀ m j : Nat, j + m = a[i].1.length →
    TT.lim 99 [.l (a.map row), .l (b.map row), .i .i64 i, x3, x4, x5, .i .i64 a[i].1.length, x7, x8, x9, .i .i64 j] = some (if a[i].1.drop j = b[i].1.drop j then [.i .i64 1, .l (a.map row), .l (b.map row), x3, .i .i64 i, x4, x5, .i .i64 a[i].1.length, x7, x8, x9] else [.i .i64 0])
  | 0, j, hj => by
    have h0 : a[i].1.drop j = [] := List.drop_eq_nil_of_le (by omega)
    have h1 : b[i].1.drop j = [] := List.drop_eq_nil_of_le (by omega)
    have h : ¬ ((j : Int) < a[i].1.length) := by omega
    refine tree_lim rfl rfl ?_
    simp [h, h0, h1]
  | m + 1, j, hj => by
    have hla : j < a[i].1.length := by omega
    have hlb : j < b[i].1.length := by omega
    have ih : TT.lim 99 [.l (a.map row), .l (b.map row), .i .i64 i, x3, x4, x5, .i .i64 a[i].1.length, x7, x8, x9, .i .i64 ((j : Int) + 1)] = _ := loop99 a b i ha hb hl h40 x3 x4 x5 x7 x8 x9 m (j + 1) (by omega)
    have h : ((j : Int) < a[i].1.length) := by omega
    have hw := wrap64 (n := (j : Int) + 1) (by omega) (by omega)
    have ke := eqGs_ent a[i].1[j] b[i].1[j]
    have hc : (a[i].1.drop j = b[i].1.drop j) = (a[i].1[j] = b[i].1[j] ∧ a[i].1.drop (j + 1) = b[i].1.drop (j + 1)) := by
      rw [List.drop_eq_getElem_cons hla, List.drop_eq_getElem_cons hlb, List.cons.injEq]
    simp only [hc]
    by_cases e : a[i].1[j] = b[i].1[j]
    · have e' : (a[i].1[j] = b[i].1[j]) = True := eq_true e
      rw [decide_eq_true e] at ke
      clear e hc
      simp only [e', true_and]
      refine tree_lim rfl rfl ?_
      simp [h, ha, hb, hla, hlb, ke, hw, ih]
    · rw [decide_eq_false e] at ke
      rw [if_neg fun h => e h.1]
      clear hc
      refine tree_lim rfl rfl ?_
      simp [h, ha, hb, hla, hlb, ke]
theorem loop98 (a b : List Row) (hl : a.length = b.length) (hal : a.length ≤ 1000) (fa : Few a) : ∀ m i : Nat, i + m = a.length →
    TT.lim 98 [.l (a.map row), .l (b.map row), .i .i64 a.length, .i .i64 i] = some (if a.drop i = b.drop i then [.i .i64 1] else [.i .i64 0])
  | 0, i, hi => by
    have h0 : a.drop i = [] := List.drop_eq_nil_of_le (by omega)
    have h1 : b.drop i = [] := List.drop_eq_nil_of_le (by omega)
    have h : ¬ ((i : Int) < a.length) := by omega
    refine tree_lim rfl rfl ?_
    simp [h, h0, h1]
  | m + 1, i, hi => by
    have hla : i < a.length := by omega
    have hlb : i < b.length := by omega
    have ih : TT.lim 98 [.l (a.map row), .l (b.map row), .i .i64 a.length, .i .i64 ((i : Int) + 1)] = _ := loop98 a b hl hal fa m (i + 1) (by omega)
    have h : ((i : Int) < a.length) := by omega
    have hw := wrap64 (n := (i : Int) + 1) (by omega) (by omega)
    have h40 := few40 (fa _ (List.getElem_mem hla))
    have hc : (a.drop i = b.drop i) = (a[i] = b[i] ∧ a.drop (i + 1) = b.drop (i + 1)) := by
      rw [List.drop_eq_getElem_cons hla, List.drop_eq_getElem_cons hlb, List.cons.injEq]
    simp only [hc]
    have hpe : (a[i] = b[i]) = (a[i].1 = b[i].1 ∧ a[i].2 = b[i].2) := propext Prod.ext_iff
    clear hc
    by_cases e2 : a[i].2 = b[i].2
    rotate_left
    · rw [if_neg fun h => e2 (by rw [h.1])]
      clear hpe
      refine tree_lim rfl rfl ?_
      simp [h, hla, hlb, e2]
    by_cases e3 : a[i].1.length = b[i].1.length
    rotate_left
    · rw [if_neg fun h => e3 (by rw [h.1])]
      have e2' : (a[i].2 = b[i].2) = True := eq_true e2
      clear hpe e2
      have e3' : ¬ (a[i].1.length : Int) = (b[i].1.length : Int) := by omega
      refine tree_lim rfl rfl ?_
      simp [h, hla, hlb, e2', e3, e3']
    have k := loop99 a b i hla hlb e3 h40 (.i .i64 a.length) (row a[i]) (.l (a[i].1.map ent)) (row b[i]) (.l (b[i].1.map ent)) (.i .i64 b[i].1.length) a[i].1.length 0 (by omega)
    rw [List.drop_zero, List.drop_zero] at k
    simp only [Int.natCast_zero] at k
    have e2' : (a[i].2 = b[i].2) = True := eq_true e2
    have e3' : ((a[i].1.length : Int) = (b[i].1.length : Int)) = True := eq_true (by omega)
    have e3'' : (a[i].1.length = b[i].1.length) = True := eq_true e3
    by_cases e1 : a[i].1 = b[i].1
    · rw [if_pos e1] at k
      have hc2 : (a[i] = b[i]) = True := eq_true (Prod.ext e1 e2)
      simp only [hc2, true_and]
      clear hpe e2 e3 e1 hc2
      refine tree_lim rfl rfl ?_
      simp [h, hla, hlb, e2', e3', e3'', k, hw, ih]
    · rw [if_neg e1] at k
      rw [if_neg fun h => e1 (by rw [h.1])]
      clear hpe e2 e3
      refine tree_lim rfl rfl ?_
      simp [h, hla, hlb, e2', e3', e3'', k]
theorem same97 (a b : List Row) (hal : a.length ≤ 1000) (fa : Few a) : TT.lim 97 [.l (a.map row), .l (b.map row)] = some [.b (decide (a = b))] := by
  by_cases hl : a.length = b.length
  · have k : TT.lim 98 [.l (a.map row), .l (b.map row), .i .i64 a.length, .i .i64 0] = _ := loop98 a b hl hal fa a.length 0 (by omega)
    rw [List.drop_zero, List.drop_zero] at k
    have hl' : ((a.length : Int) = (b.length : Int)) = True := eq_true (by omega)
    have hl'' : (a.length = b.length) = True := eq_true hl
    clear hl
    by_cases e : a = b
    · rw [if_pos e] at k
      rw [decide_eq_true e]
      clear e
      refine fn_lim rfl rfl ?_ rfl
      simp [hl', hl'', k]
    · rw [if_neg e] at k
      rw [decide_eq_false e]
      refine fn_lim rfl rfl ?_ rfl
      simp [hl', hl'', k]
  · rw [decide_eq_false fun e => hl (by rw [e])]
    have hl' : ¬ (a.length : Int) = (b.length : Int) := by omega
    refine fn_lim rfl rfl ?_ rfl
    simp [hl, hl']
theorem sameD96 (x y : Dl) (hx : GoodT x.2.2) : TT.lim 96 [dl x, dl y] = some [.b (decide (x.1 = y.1) && (decide (x.2.1 = y.2.1) && decide (x.2.2 = y.2.2)))] := by
  have k := same97 x.2.2 y.2.2 (by have := hx.len; omega) hx.few
  refine fn_lim rfl rfl ?_ rfl
  by_cases h1 : x.1 = y.1
  · have h1' : (x.1 = y.1) = True := eq_true h1
    clear h1
    by_cases h2 : x.2.1 = y.2.1
    · have h2' : (x.2.1 = y.2.1) = True := eq_true h2
      clear h2
      simp [h1', h2', k]
    · simp [h1', h2]
  · simp [h1]
theorem sameS100 (x y : Sn) (hx : GoodT x.2) : TT.lim 100 [sn x, sn y] = some [.b (decide (x.1 = y.1) && decide (x.2 = y.2))] := by
  have k := same97 x.2 y.2 (by have := hx.len; omega) hx.few
  refine fn_lim rfl rfl ?_ rfl
  by_cases h1 : x.1 = y.1
  · have h1' : (x.1 = y.1) = True := eq_true h1
    clear h1
    simp [h1', k]
  · simp [h1]
theorem sameD96_refl (x : Dl) (hx : GoodT x.2.2) : TT.lim 96 [dl x, dl x] = some [.b true] := by
  have k := sameD96 x x hx
  simpa using k
theorem sameS100_refl (x : Sn) (hx : GoodT x.2) : TT.lim 100 [sn x, sn x] = some [.b true] := by
  have k := sameS100 x x hx
  simpa using k
theorem check87 (d : Dl) (h : GoodT d.2.2) : TT.lim 87 [dl d] = some [.i .i64 (chkD d)] := by
  have k := check59 d.2.2 h.rows h.few
  unfold chkD
  refine fn_lim rfl rfl ?_ rfl
  by_cases h1 : d.2.1 ≤ d.1
  · simp [h1]
  · simp [h1, k]
/-! ### A clone -/
theorem loop102 (t : List Row) (e : Int) (ht : t.length ≤ 300) (ft : Few t) : ∀ (m i : Nat) (acc : List Row), i + m = t.length → acc.length = i →
    TT.lim 102 [.l (t.map row), .i .i64 t.length, .i .i64 i, .i .u64 e, .l (acc.map row)] = some [.i .i64 0, .i .u64 e, .l ((acc ++ t.drop i).map row)]
  | 0, i, acc, hi, ha => by
    have h0 : t.drop i = [] := List.drop_eq_nil_of_le (by omega)
    have h : ¬ ((i : Int) < t.length) := by omega
    refine tree_lim rfl rfl ?_
    simp [h, h0]
  | m + 1, i, acc, hi, ha => by
    have hlt : i < t.length := by omega
    have ih : TT.lim 102 [.l (t.map row), .i .i64 t.length, .i .i64 ((i : Int) + 1), .i .u64 e, .l ((acc ++ [t[i]]).map row)] = _ := loop102 t e ht ft m (i + 1) (acc ++ [t[i]]) (by omega) (by simp; omega)
    rw [List.append_assoc, List.singleton_append, ← List.drop_eq_getElem_cons hlt] at ih
    generalize hL : (acc ++ t.drop i).map row = L at ih ⊢
    simp only [List.map_append, List.map_cons, List.map_nil] at ih
    have k := clone23 t[i].1 (few40 (ft _ (List.getElem_mem hlt)))
    have h : ((i : Int) < t.length) := by omega
    have hw := wrap64 (n := (i : Int) + 1) (by omega) (by omega)
    have he : GV.g [GV.l (t[i].1.map ent), GV.i .u64 t[i].2] = row t[i] := rfl
    have hok : (row t[i]).elemOk 2 = true := rfl
    have hb : 2 * (acc.length + 1) * 32 ≤ 281474976710656 ∧ acc.length + 1 ≤ 281474976710656 := by omega
    refine tree_lim rfl rfl ?_
    simp [h, hlt, k, he, hok, hb, hw, ih]
theorem clone101 (s : Sn) (h : GoodT s.2) : TT.lim 101 [sn s] = some [sn s] := by
  have k : TT.lim 102 [.l (s.2.map row), .i .i64 s.2.length, .i .i64 0, .i .u64 s.1, .l []] = _ := loop102 s.2 s.1 h.len h.few s.2.length 0 [] (by omega) rfl
  rw [List.drop_zero, List.nil_append] at k
  have hok : (GV.g [.l [], .i .u64 0]).elemOk 2 = true := rfl
  have hl := h.len
  have hc : (32 : Int) * (s.2.length : Int) ≤ 281474976710656 ∧ (s.2.length : Int) ≤ 1152921504606846976 := by omega
  have e : GV.g [.i .u64 s.1, .l (s.2.map row)] = sn s := rfl
  refine fn_lim rfl rfl ?_ rfl
  simp [hok, hc, k, e]
end D
end Go.Proofs.YtamcdgfjjeldeaaGreatDoor
