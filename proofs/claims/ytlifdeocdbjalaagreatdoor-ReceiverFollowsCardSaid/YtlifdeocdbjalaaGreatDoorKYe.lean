/- What the trees compute: plain laws. -/
import Derived.Test.YtlifdeocdbjalaaGreatDoorKYc
namespace Go.Proofs.YtlifdeocdbjalaaGreatDoor
open Go Go.Abs
set_option linter.unusedSimpArgs false
set_option linter.unusedVariables false
set_option maxRecDepth 100000
namespace Y
theorem wrap_u64 (n : Int) : 0 ≤ IntKind.u64.wrap n ∧ IntKind.u64.wrap n < 18446744073709551616 := by
  have : IntKind.u64.wrap n = n % 18446744073709551616 := by simp [IntKind.wrap, IntKind.signed, IntKind.bits]
  rw [this]; omega
theorem lsub_drop {k : List Sn} {i : Nat} (hi : i ≤ k.length) : lsub3 2 (some (.l (k.map sn))) (some (.i .i64 (i : Int))) (some (.i .i64 (k.length : Int))) = some (.l ((k.drop i).map sn)) := by
  rw [lsub3_i, if_pos]
  · congr 2
    rw [Int.toNat_natCast, Int.toNat_natCast, List.take_of_length_le (by simp), List.map_drop]
  · refine ⟨by omega, by omega, by simp, ?_⟩
    rw [List.all_map]
    exact List.all_eq_true.2 fun x _ => rfl
theorem sn_all (k : List Sn) : (k.map sn).all (GV.elemOk 2) = true := by
  rw [List.all_map]
  exact List.all_eq_true.2 fun x _ => rfl
theorem sclone0 (t : List Row) (e : Int) (ht : GoodT t) : ∀ (m i : Nat) (acc : List Row), i + m = t.length → acc.length = i →
    TT.lim 37 [.l (t.map row), .i .i64 t.length, .i .i64 i, .i .u64 e, .l (acc.map row)] = some [.i .i64 0, .l ((acc ++ t.drop i).map row)]
  | 0, i, acc, hi, hl => by
    have h0 : t.drop i = [] := List.drop_eq_nil_of_le (by omega)
    have h : ¬ ((i : Int) < t.length) := by omega
    refine tree_lim rfl rfl ?_
    simp -implicitDefEqProofs [h, h0]
  | m + 1, i, acc, hi, hl => by
    have hlt : i < t.length := by omega
    have h3 := ht.len
    have kc := clone23 t[i].1 (few40 (ht.few _ (List.getElem_mem hlt)))
    have hrow : GV.g [.l (t[i].1.map ent), .i .u64 t[i].2] = row t[i] := rfl
    have hok : (row t[i]).elemOk 2 = true := rfl
    have hbb : 2 * (acc.length + 1) * 32 ≤ 281474976710656 ∧ acc.length + 1 ≤ 281474976710656 := by omega
    have h : ((i : Int) < t.length) := by omega
    have hw := wrap64 (n := (i : Int) + 1) (by omega) (by omega)
    have ih : TT.lim 37 [.l (t.map row), .i .i64 t.length, .i .i64 ((i : Int) + 1), .i .u64 e, .l ((acc ++ [t[i]]).map row)] = _ := sclone0 t e ht m (i + 1) (acc ++ [t[i]]) (by omega) (by simp; omega)
    have hdr : acc ++ t.drop i = acc ++ [t[i]] ++ t.drop (i + 1) := by rw [List.append_assoc, List.singleton_append, ← List.drop_eq_getElem_cons hlt]
    rw [hdr]
    generalize acc ++ [t[i]] ++ t.drop (i + 1) = R at *
    simp only [List.map_append, List.map_cons, List.map_nil] at ih
    refine tree_lim rfl rfl ?_
    simp -implicitDefEqProofs [-List.getElem_cons_drop, h, hlt, hw, kc, hrow, hok, hbb, ih]
theorem sclone34 (s : Sn) (h : GoodT s.2) : TT.lim 36 [sn s] = some [sn s] := by
  have k : TT.lim 37 [.l (s.2.map row), .i .i64 s.2.length, .i .i64 0, .i .u64 s.1, .l []] = _ := sclone0 s.2 s.1 h s.2.length 0 [] (by omega) rfl
  rw [List.nil_append, List.drop_zero] at k
  have h3 := h.len
  have hr : (32 : Int) * s.2.length ≤ 281474976710656 ∧ (s.2.length : Int) ≤ 1152921504606846976 := by omega
  have hel : (GV.g [.l [], .i .u64 0]).elemOk 2 = true := rfl
  have e1 : GV.g [.i .u64 s.1, .l (s.2.map row)] = sn s := rfl
  refine fn_lim rfl rfl ?_ rfl
  simp -implicitDefEqProofs [hr, hel, k, e1]
/-- What may be kept. -/
structure Kp (k : List Sn) : Prop where
  len : k.length ≤ 8
  tb : ∀ s ∈ k, Tb s.2
  pos : ∀ s ∈ k, 0 < s.1 ∧ s.1 < 18446744073709551616
  rise : k.Pairwise fun a b => a.1 < b.1 ∧ atL b.2 a.2 = true
theorem Kp.nil : Kp [] := ⟨by decide, by simp, by simp, List.Pairwise.nil⟩
theorem last_nil (v b : GV) : TT.lim 48 [v, .l [], b] = some [.i .i64 0, .i .u64 0, .l [], .b false] := by
  refine tree_lim rfl rfl ?_
  simp
theorem last_fn (v b : GV) (k : List Sn) (m : Nat) (x : Sn) (hk : k.length = m + 1) (hm : m ≤ 1000) (hx : k[m]? = some x) (hg : GoodT x.2) :
    TT.lim 48 [v, .l (k.map sn), b] = some [.i .i64 0, .i .u64 x.1, .l (x.2.map row), .b true] := by
  have kc := sclone34 x hg
  have hw := wrap64 (n := (m : Int)) (by omega) (by omega)
  have hc : ((k.length : Nat) : Int) = (m : Int) + 1 := by omega
  have hne : ¬ ((m : Int) + 1 = 0) := by omega
  have hlt : (m : Int) < (m : Int) + 1 := by omega
  have e1 : GV.g [.i .u64 x.1, .l (x.2.map row)] = sn x := rfl
  refine tree_lim rfl rfl ?_
  simp -implicitDefEqProofs [hc, hne, hw, hx, kc, e1, hlt]
/-- Where the one of an epoch stands. -/
def findS (e : Int) (k : List Sn) : Option Nat := k.findIdx? fun s => decide (s.1 = e)
def findO : Option Nat → List GV
  | some j => [.i .i64 0, .i .i64 (j : Int)]
  | none => [.i .i64 1]
theorem find0 (e : Int) (v b : GV) (k : List Sn) (hk : k.length ≤ 1000) : ∀ m i : Nat, i + m = k.length →
    TT.lim 50 [.i .u64 e, .l (k.map sn), .i .i64 k.length, .i .i64 i, v, b] = some (findO ((findS e (k.drop i)).map (· + i)))
  | 0, i, hi => by
    have h0 : k.drop i = [] := List.drop_eq_nil_of_le (by omega)
    have h : ¬ ((i : Int) < k.length) := by omega
    refine tree_lim rfl rfl ?_
    simp -implicitDefEqProofs [h, h0, findS, findO]
  | m + 1, i, hi => by
    have hlt : i < k.length := by omega
    have h : ((i : Int) < k.length) := by omega
    have hw := wrap64 (n := (i : Int) + 1) (by omega) (by omega)
    have ih : TT.lim 50 [.i .u64 e, .l (k.map sn), .i .i64 k.length, .i .i64 ((i : Int) + 1), v, b] = _ := find0 e v b k hk m (i + 1) (by omega)
    have hdr : k.drop i = k[i] :: k.drop (i + 1) := List.drop_eq_getElem_cons hlt
    rw [hdr]
    by_cases h1 : k[i].1 = e
    · have hf : findO ((findS e (k[i] :: k.drop (i + 1))).map (· + i)) = [.i .i64 0, .i .i64 (i : Int)] := by
        unfold findS
        rw [List.findIdx?_cons, if_pos (by simpa using h1)]
        simp -implicitDefEqProofs [findO]
      rw [hf]
      have h1' : (k[i].1 = e) = True := eq_true h1
      clear h1 ih
      refine tree_lim rfl rfl ?_
      simp -implicitDefEqProofs [-List.getElem_cons_drop, h, hlt, h1', hw]
    · have hf : findO ((findS e (k[i] :: k.drop (i + 1))).map (· + i)) = findO ((findS e (k.drop (i + 1))).map (· + (i + 1))) := by
        unfold findS
        rw [List.findIdx?_cons, if_neg (by simpa using h1)]
        cases List.findIdx? (fun s : Sn => decide (s.1 = e)) (k.drop (i + 1)) with
        | none => rfl
        | some j =>
          simp only [Option.map_some, findO]
          congr 3
          omega
      rw [hf]
      generalize findO ((findS e (k.drop (i + 1))).map (· + (i + 1))) = R at *
      have h1' : (k[i].1 = e) = False := eq_false h1
      clear h1 hf
      refine tree_lim rfl rfl ?_
      simp -implicitDefEqProofs [-List.getElem_cons_drop, h, hlt, h1', hw, ih]
theorem find_none (e : Int) (v b : GV) (k : List Sn) (hk : k.length ≤ 1000) (hf : findS e k = none) :
    TT.lim 49 [.i .u64 e, v, .l (k.map sn), b] = some [.i .i64 0, .i .i64 0, .b false] := by
  have h0 : TT.lim 50 [.i .u64 e, .l (k.map sn), .i .i64 k.length, .i .i64 0, v, b] = _ := find0 e v b k hk k.length 0 (by omega)
  rw [List.drop_zero, hf] at h0
  simp only [Option.map_none, findO] at h0
  refine tree_lim rfl rfl ?_
  simp -implicitDefEqProofs [h0]
theorem find_some (e : Int) (v b : GV) (k : List Sn) (hk : k.length ≤ 1000) (j : Nat) (hf : findS e k = some j) :
    TT.lim 49 [.i .u64 e, v, .l (k.map sn), b] = some [.i .i64 0, .i .i64 (j : Int), .b true] := by
  have h0 : TT.lim 50 [.i .u64 e, .l (k.map sn), .i .i64 k.length, .i .i64 0, v, b] = _ := find0 e v b k hk k.length 0 (by omega)
  rw [List.drop_zero, hf] at h0
  simp only [Option.map_some, findO, Nat.add_zero] at h0
  refine tree_lim rfl rfl ?_
  simp -implicitDefEqProofs [h0]
theorem findS_some {e : Int} {k : List Sn} {j : Nat} (h : findS e k = some j) : ∃ x, k[j]? = some x ∧ x.1 = e ∧ j < k.length := by
  unfold findS at h
  obtain ⟨h1, h2, -⟩ := List.findIdx?_eq_some_iff_getElem.1 h
  exact ⟨k[j], List.getElem?_eq_getElem h1, by simpa using h2, h1⟩
/-- One was acknowledged. -/
def ackS (e : Int) (k : List Sn) (b : Int) : Bool × List Sn × Int := if e ≤ b then (false, k, b) else match findS e k with
  | none => (false, k, b)
  | some i => (true, k.drop i, e)
theorem ack_fn (e : Int) (v : GV) (k : List Sn) (b : Int) (hk : k.length ≤ 1000) :
    TT.lim 102 [.i .u64 e, v, .l (k.map sn), .i .u64 b] = some [.i .i64 0, .b (ackS e k b).1, .l ((ackS e k b).2.1.map sn), .i .u64 (ackS e k b).2.2] := by
  unfold ackS
  by_cases h1 : e ≤ b
  · rw [if_pos h1]
    refine tree_lim rfl rfl ?_
    simp -implicitDefEqProofs [h1]
  · rw [if_neg h1]
    cases hf : findS e k with
    | none =>
      have h2 := find_none e v (.i .u64 b) k hk hf
      refine tree_lim rfl rfl ?_
      simp -implicitDefEqProofs [h1, h2]
    | some j =>
      have h2 := find_some e v (.i .u64 b) k hk j hf
      obtain ⟨x, -, -, hj⟩ := findS_some hf
      have hl := lsub_drop (k := k) (i := j) (by omega)
      have ha := sn_all (k.drop j)
      have hb : 2 * (k.drop j).length * 32 ≤ 281474976710656 ∧ (k.drop j).length ≤ 281474976710656 := by rw [List.length_drop]; omega
      show _ = some [_, _, GV.l ((k.drop j).map sn), _]
      generalize k.drop j = R at *
      refine tree_lim rfl rfl ?_
      simp -implicitDefEqProofs [-lsub3_i, -List.all_eq_true, -List.all_map, h1, h2, hl, ha, hb]
/-- One more. -/
def addS (x : Sn) (b : Int) : List Sn → List Sn × Int
  | [] => ([x], b)
  | y :: r => if 8 < r.length + 2 then (r ++ [x], if y.1 = b then 0 else b) else (y :: r ++ [x], b)
def pubS (x : Sn) (k : List Sn) (b : Int) : Int × List Sn × Int :=
  if checkT x.2 ≠ 0 then (checkT x.2, k, b) else if x.1 = 0 then (18, k, b) else match k.getLast? with
  | none => (0, addS x b k)
  | some l => if x.1 ≤ l.1 then (20, k, b) else if atL x.2 l.2 = false then (21, k, b) else (0, addS x b k)
theorem last_at {k : List Sn} {l : Sn} (h : k.getLast? = some l) : ∃ m, k.length = m + 1 ∧ k[m]? = some l ∧ l ∈ k := by
  cases hk : k with
  | nil => subst hk; simp at h
  | cons y r =>
    refine ⟨r.length, by simp, ?_, ?_⟩
    · rw [← hk, ← h, List.getLast?_eq_getElem?, hk]; simp
    · rw [← hk]; exact List.mem_of_getLast? h
theorem last_none {k : List Sn} (h : k.getLast? = none) : k = [] := List.getLast?_eq_none_iff.1 h
theorem pub_fn (x : Sn) (v : GV) (k : List Sn) (b : Int) (hx : GoodT x.2) (hk : Kp k) :
    TT.lim 105 [.i .u64 x.1, .l (x.2.map row), v, .l (k.map sn), .i .u64 b] = some [.i .i64 0, .i .i64 (pubS x k b).1, .l ((pubS x k b).2.1.map sn), .i .u64 (pubS x k b).2.2] := by
  have k1 := check49 x hx
  have kc := sclone34 x hx
  have e1 : GV.g [.i .u64 x.1, .l (x.2.map row)] = sn x := rfl
  have hel : (sn x).elemOk 2 = true := rfl
  unfold pubS
  by_cases h1 : checkT x.2 = 0
  rotate_left
  · rw [if_pos h1]
    refine tree_lim rfl rfl ?_
    simp -implicitDefEqProofs [e1, k1, h1]
  rw [if_neg (by simpa using h1)]
  by_cases h2 : x.1 = 0
  · rw [if_pos h2]
    have h2' : (x.1 = 0) = True := eq_true h2
    clear h2
    refine tree_lim rfl rfl ?_
    simp -implicitDefEqProofs [e1, k1, h1, h2']
  rw [if_neg h2]
  have h8 := hk.len
  cases hl : k.getLast? with
  | none =>
    obtain rfl := last_none hl
    refine tree_lim rfl rfl ?_
    simp -implicitDefEqProofs [e1, k1, h1, h2, kc, hel, addS]
  | some l =>
    obtain ⟨m, hm, ha, hmem⟩ := last_at hl
    have hc : ((k.length : Nat) : Int) = (m : Int) + 1 := by omega
    have hp : (0 : Int) < (m : Int) + 1 := by omega
    have hlt : (m : Int) < (m : Int) + 1 := by omega
    have hw := wrap64 (n := (m : Int)) (by omega) (by omega)
    simp only
    by_cases h3 : x.1 ≤ l.1
    · rw [if_pos h3]
      refine tree_lim rfl rfl ?_
      simp -implicitDefEqProofs [e1, k1, h1, h2, hc, hp, hw, ha, h3, hlt]
    rw [if_neg h3]
    have k4 := atLeast24 x.2 l.2 ((checkT_iff _).1 h1).1 (hk.tb l hmem).ok.1 hx.few (hk.tb l hmem).few
    cases h4 : atL x.2 l.2 with
    | false =>
      rw [h4] at k4
      refine tree_lim rfl rfl ?_
      simp -implicitDefEqProofs [e1, k1, h1, h2, hc, hp, hw, ha, h3, k4, hlt]
    | true =>
      rw [h4] at k4
      rw [if_neg (by simp)]
      have hlen : (k ++ [x]).length = m + 2 := by simp; omega
      have hls := lsub_drop (k := k ++ [x]) (i := 1) (by omega)
      have hap : app2 2 32 (some (.l (k.map sn))) (some (.l [sn x])) = some (.l ((k ++ [x]).map sn)) := by
        rw [app2_l, if_pos]
        · rw [List.map_append]; rfl
        · refine ⟨rfl, ?_, ?_⟩ <;> simp only [List.length_map, List.length_cons, List.length_nil] <;> omega
      have hw2 := wrap64 (n := (m : Int) + 2) (by omega) (by omega)
      cases k with
      | nil => simp at hl
      | cons y r =>
        have hr : r.length = m := by simpa using hm
        by_cases h5 : 8 < m + 2
        · have hb : 2 * ((y :: r ++ [x]).drop 1).length * 32 ≤ 281474976710656 ∧ ((y :: r ++ [x]).drop 1).length ≤ 281474976710656 := by
            rw [List.length_drop]; omega
          have hal := sn_all ((y :: r ++ [x]).drop 1)
          have hd : (y :: r ++ [x]).drop 1 = r ++ [x] := rfl
          have hn : (m : Int) + 1 + 1 = (m : Int) + 2 := by omega
          have h6 : (8 : Int) < (m : Int) + 2 := by omega
          have h0 : ((y :: r ++ [x]).map sn)[0]? = some (sn y) := rfl
          have hpos : (0 : Int) < (m : Int) + 2 := by omega
          have hcl : (((y :: r ++ [x]).length : Nat) : Int) = (m : Int) + 2 := by omega
          have hcl2 : (((y :: r ++ [x]).map sn).length : Int) = (m : Int) + 2 := by rw [List.length_map]; exact hcl
          have hcl1 : (((y :: r).map sn).length : Int) = (m : Int) + 1 := by rw [List.length_map]; exact hc
          have hat : ((y :: r).map sn)[m]? = some (sn l) := by rw [List.getElem?_map, ha]; rfl
          have hls' : lsub3 2 (some (.l ((y :: r ++ [x]).map sn))) (some (.i .i64 1)) (some (.i .i64 ((m : Int) + 2))) = some (.l ((r ++ [x]).map sn)) := by
            rw [← hcl]; exact hls
          rw [hd] at hb hal
          have hap2 : app2 2 32 (some (.l [])) (some (.l ((r ++ [x]).map sn))) = some (.l ((r ++ [x]).map sn)) := by
            rw [app2_l, if_pos]
            · rfl
            · exact ⟨hal, by simp only [List.length_map, List.length_nil]; omega, by simp only [List.length_map, List.length_nil]; omega⟩
          have hres : addS x b (y :: r) = (r ++ [x], if y.1 = b then 0 else b) := if_pos (show 8 < r.length + 2 by omega)
          rw [hres]
          clear hres hls
          generalize r ++ [x] = R1 at *
          generalize (y :: r ++ [x]).map sn = M2 at *
          generalize (y :: r).map sn = M1 at *
          by_cases h7 : y.1 = b
          · have h7' : (y.1 = b) = True := eq_true h7
            clear h7
            refine tree_lim rfl rfl ?_
            simp -implicitDefEqProofs [-lsub3_i, -List.all_eq_true, -List.all_map, -app2_l, e1, k1, h1, h2, hcl1, hcl2, hp, hw, hat, h3, k4, kc, hap, h6, hpos, h0, h7', hls', hap2, hlt]
          · refine tree_lim rfl rfl ?_
            simp -implicitDefEqProofs [-lsub3_i, -List.all_eq_true, -List.all_map, -app2_l, e1, k1, h1, h2, hcl1, hcl2, hp, hw, hat, h3, k4, kc, hap, h6, hpos, h0, h7, hls', hap2, hlt]
        · have h6 : ¬ (8 : Int) < (m : Int) + 2 := by omega
          have hcl : (((y :: r ++ [x]).length : Nat) : Int) = (m : Int) + 2 := by omega
          have hcl2 : (((y :: r ++ [x]).map sn).length : Int) = (m : Int) + 2 := by rw [List.length_map]; exact hcl
          have hcl1 : (((y :: r).map sn).length : Int) = (m : Int) + 1 := by rw [List.length_map]; exact hc
          have hat : ((y :: r).map sn)[m]? = some (sn l) := by rw [List.getElem?_map, ha]; rfl
          have hres : addS x b (y :: r) = (y :: r ++ [x], b) := if_neg (show ¬ 8 < r.length + 2 by omega)
          rw [hres]
          clear hres hls
          show _ = some [_, _, GV.l ((y :: r ++ [x]).map sn), _]
          generalize (y :: r ++ [x]).map sn = M2 at *
          generalize (y :: r).map sn = M1 at *
          refine tree_lim rfl rfl ?_
          simp -implicitDefEqProofs [-lsub3_i, -List.all_eq_true, -List.all_map, -app2_l, e1, k1, h1, h2, hcl1, hcl2, hp, hw, hat, h3, k4, kc, hap, h6, hlt]
/-- What it has to tell: kind, epoch, base, table; the code. -/
abbrev Ms := (Int × Int × Int × List Row) × Int
def full (l : Sn) : Ms := ((5, l.1, 0, l.2), 0)
def msgS (v : Int) (k : List Sn) (b : Int) : Ms := match k.getLast? with
  | none => ((0, 0, 0, []), 24)
  | some l => if l.1 = b then ((0, 0, 0, []), 24) else match findS b k with
    | none => full l
    | some i => if 2 ≤ v then match k[i]? with
        | none => full l
        | some s => if (diffS s l).2 ≠ 0 then ((0, 0, 0, []), (diffS s l).2) else ((6, (diffS s l).1.2.1, (diffS s l).1.1, (diffS s l).1.2.2), 0)
      else full l
def msG (r : Ms) : List GV := [.i .i64 0, .i .i64 r.1.1, .i .u64 r.1.2.1, .i .u64 r.1.2.2.1, .l (r.1.2.2.2.map row), .i .i64 r.2]
theorem msg_fn (v : Int) (k : List Sn) (b : Int) (hk : Kp k) :
    TT.lim 47 [.i .i64 v, .l (k.map sn), .i .u64 b] = some (msG (msgS v k b)) := by
  have h8 := hk.len
  unfold msgS
  cases hl : k.getLast? with
  | none =>
    obtain rfl := last_none hl
    have h0 := last_nil (.i .i64 v) (.i .u64 b)
    refine tree_lim rfl rfl ?_
    simp -implicitDefEqProofs [h0, msG]
  | some l =>
    obtain ⟨m, hm, ha, hmem⟩ := last_at hl
    have h0 := last_fn (.i .i64 v) (.i .u64 b) k m l hm (by omega) ha (hk.tb l hmem).good
    simp only
    by_cases h1 : l.1 = b
    · rw [if_pos h1]
      have h1' : (l.1 = b) = True := eq_true h1
      clear h1
      refine tree_lim rfl rfl ?_
      simp -implicitDefEqProofs [h0, h1', msG]
    rw [if_neg h1]
    cases hf : findS b k with
    | none =>
      have h2 := find_none b (.i .i64 v) (.i .u64 b) k (by omega) hf
      refine tree_lim rfl rfl ?_
      simp -implicitDefEqProofs [h0, h1, h2, msG, full]
    | some j =>
      have h2 := find_some b (.i .i64 v) (.i .u64 b) k (by omega) j hf
      obtain ⟨s, hs, -, hj⟩ := findS_some hf
      have hsm : s ∈ k := List.mem_of_getElem? hs
      simp only [hs]
      have hj2 : (j : Int) < k.length := by omega
      by_cases h3 : 2 ≤ v
      · rw [if_pos h3]
        have kd := diff48 s l (hk.tb s hsm).good (hk.tb l hmem).good
        have e1 : GV.g [.i .u64 s.1, .l (s.2.map row)] = sn s := rfl
        have e2 : GV.g [.i .u64 l.1, .l (l.2.map row)] = sn l := rfl
        generalize diffS s l = D at *
        obtain ⟨⟨d1, d2, d3⟩, d4⟩ := D
        by_cases h4 : d4 = 0
        · rw [if_neg (by simpa using h4)]
          have h4' : (d4 = 0) = True := eq_true h4
          subst h4
          refine tree_lim rfl rfl ?_
          simp -implicitDefEqProofs [h0, h1, h2, h3, hs, hj2, e1, e2, kd, msG]
        · rw [if_pos h4]
          refine tree_lim rfl rfl ?_
          simp -implicitDefEqProofs [h0, h1, h2, h3, hs, hj2, e1, e2, kd, msG, h4]
      · rw [if_neg h3]
        refine tree_lim rfl rfl ?_
        simp -implicitDefEqProofs [h0, h1, h2, h3, msG, full]
/-- What an act publishes that adds to the last one. -/
def lastS (k : List Sn) : Sn := k.getLast?.getD zS
def nextS (x : Sn) (ep : Int) (k : List Sn) : Sn :=
  if (applyS (lastS k) ((lastS k).1, IntKind.u64.wrap ((lastS k).1 + ep), x.2)).2 ≠ 0 then x else (applyS (lastS k) ((lastS k).1, IntKind.u64.wrap ((lastS k).1 + ep), x.2)).1
theorem lastS_good {k : List Sn} (hk : Kp k) : Tb (lastS k).2 := by
  unfold lastS
  cases hl : k.getLast? with
  | none => exact tb_nil
  | some l => exact hk.tb l (List.mem_of_getLast? hl)
theorem last_lim (v b : GV) (k : List Sn) (hk : Kp k) : TT.lim 48 [v, .l (k.map sn), b] = some [.i .i64 0, .i .u64 (lastS k).1, .l ((lastS k).2.map row), .b k.getLast?.isSome] := by
  have h8 := hk.len
  unfold lastS
  cases hl : k.getLast? with
  | none =>
    obtain rfl := last_none hl
    exact last_nil v b
  | some l =>
    obtain ⟨m, hm, ha, hmem⟩ := last_at hl
    exact last_fn v b k m l hm (by omega) ha (hk.tb l hmem).good
theorem next_fn (d w : GV) (x : Sn) (ep : Int) (v b : GV) (k : List Sn) (hx : GoodT x.2) (hk : Kp k) :
    TT.lim 104 [d, .i .u64 x.1, .l (x.2.map row), .i .u64 ep, w, v, .l (k.map sn), b] = some [.i .i64 0, .i .u64 (nextS x ep k).1, .l ((nextS x ep k).2.map row)] := by
  have h0 := last_lim v b k hk
  have ka := apply51 (lastS k) ((lastS k).1, IntKind.u64.wrap ((lastS k).1 + ep), x.2) (lastS_good hk).good hx
  unfold nextS
  have e1 : GV.g [.i .u64 (lastS k).1, .l ((lastS k).2.map row)] = sn (lastS k) := rfl
  have e2 : GV.g [.i .u64 (lastS k).1, .i .u64 (IntKind.u64.wrap ((lastS k).1 + ep)), .l (x.2.map row)] = dl ((lastS k).1, IntKind.u64.wrap ((lastS k).1 + ep), x.2) := rfl
  generalize applyS (lastS k) ((lastS k).1, IntKind.u64.wrap ((lastS k).1 + ep), x.2) = A at *
  obtain ⟨⟨a1, a2⟩, a3⟩ := A
  generalize lastS k = L at *
  by_cases h1 : a3 = 0
  · rw [if_neg (by simpa using h1)]
    subst h1
    refine tree_lim rfl rfl ?_
    simp -implicitDefEqProofs [h0, e1, e2, ka]
  · rw [if_pos h1]
    refine tree_lim rfl rfl ?_
    simp -implicitDefEqProofs [h0, e1, e2, ka, h1]
theorem Kp.add {k : List Sn} (hk : Kp k) {x : Sn} {b : Int} (hx : Tb x.2) (h0 : 0 < x.1 ∧ x.1 < 18446744073709551616) (hl : ∀ l, k.getLast? = some l → l.1 < x.1 ∧ atL x.2 l.2 = true) : Kp (addS x b k).1 := by
  have hall : ∀ s ∈ k, s.1 < x.1 ∧ atL x.2 s.2 = true := by
    intro s hs
    obtain ⟨i, hi, rfl⟩ := List.getElem_of_mem hs
    cases hg : k.getLast? with
    | none => exact absurd hi (by rw [last_none hg]; simp)
    | some l =>
      obtain ⟨m, hm, ha, hmem⟩ := last_at hg
      obtain ⟨c1, c2⟩ := hl l hg
      have hml : m < k.length := by omega
      have hml2 : k[m] = l := by have := List.getElem?_eq_getElem hml; rw [ha] at this; injection this with this; exact this.symm
      rcases Nat.lt_or_ge i m with him | him
      · have hp := List.pairwise_iff_getElem.1 hk.rise i m hi hml him
        rw [hml2] at hp
        exact ⟨by omega, atL_trans hx.rise (hk.tb l hmem).rise (hk.tb _ (List.getElem_mem hi)).rise c2 hp.2⟩
      · have : i = m := by omega
        subst this
        simp only [hml2]; exact ⟨c1, c2⟩
  cases k with
  | nil => exact ⟨by simp [addS], by simpa [addS] using hx, by simpa [addS] using h0, by simp [addS]⟩
  | cons y r =>
    have hr : Kp r := ⟨by have := hk.len; simp at this; omega, fun s hs => hk.tb s (by simp [hs]), fun s hs => hk.pos s (by simp [hs]), (List.pairwise_cons.1 hk.rise).2⟩
    have h8 := hk.len
    simp only [List.length_cons] at h8
    simp only [addS]
    split
    · refine ⟨by simp; omega, ?_, ?_, ?_⟩
      · intro s hs
        rcases List.mem_append.1 hs with h | h
        · exact hr.tb s h
        · rw [List.mem_singleton.1 h]; exact hx
      · intro s hs
        rcases List.mem_append.1 hs with h | h
        · exact hr.pos s h
        · rw [List.mem_singleton.1 h]; exact h0
      · refine List.pairwise_append.2 ⟨hr.rise, by simp, fun a ha b hb => ?_⟩
        rw [List.mem_singleton.1 hb]; exact hall a (by simp [ha])
    · refine ⟨by simp; omega, ?_, ?_, ?_⟩
      · intro s hs
        rcases List.mem_append.1 hs with h | h
        · exact hk.tb s h
        · rw [List.mem_singleton.1 h]; exact hx
      · intro s hs
        rcases List.mem_append.1 hs with h | h
        · exact hk.pos s h
        · rw [List.mem_singleton.1 h]; exact h0
      · refine List.pairwise_append.2 ⟨hk.rise, by simp, fun a ha b hb => ?_⟩
        rw [List.mem_singleton.1 hb]; exact hall a ha
theorem pub_kp {x : Sn} {k : List Sn} {b : Int} (hk : Kp k) (hx : GoodT x.2) (h0 : 0 ≤ x.1 ∧ x.1 < 18446744073709551616) : Kp (pubS x k b).2.1 := by
  unfold pubS
  split
  · exact hk
  next h1 =>
  split
  · exact hk
  next h2 =>
  have ht : Tb x.2 := hx.tb ((checkT_iff _).1 (by simpa using h1))
  split
  · next hl => exact hk.add ht ⟨by omega, h0.2⟩ fun l h => by rw [hl] at h; cases h
  · next l hl =>
    split
    · exact hk
    next h3 =>
    split
    · exact hk
    next h4 => exact hk.add ht ⟨by omega, h0.2⟩ fun l' h => by rw [hl] at h; injection h with h; subst h; exact ⟨by omega, by simpa using h4⟩
theorem Kp.drop {k : List Sn} (hk : Kp k) (i : Nat) : Kp (k.drop i) :=
  ⟨by have := hk.len; rw [List.length_drop]; omega, fun s hs => hk.tb s (List.mem_of_mem_drop hs), fun s hs => hk.pos s (List.mem_of_mem_drop hs), hk.rise.sublist (List.drop_sublist i k)⟩
theorem ack_kp {e : Int} {k : List Sn} {b : Int} (hk : Kp k) : Kp (ackS e k b).2.1 := by
  unfold ackS
  split
  · exact hk
  split
  · exact hk
  · exact hk.drop _
theorem next_good {x : Sn} {ep : Int} {k : List Sn} (hk : Kp k) (hx : GoodT x.2) (h0 : 0 ≤ x.1 ∧ x.1 < 18446744073709551616) : GoodT (nextS x ep k).2 ∧ 0 ≤ (nextS x ep k).1 ∧ (nextS x ep k).1 < 18446744073709551616 := by
  unfold nextS
  split
  · exact ⟨hx, h0⟩
  next h1 =>
  have h1 : (applyS (lastS k) ((lastS k).1, IntKind.u64.wrap ((lastS k).1 + ep), x.2)).2 = 0 := by simpa using h1
  have := apply_tb (lastS_good hk).good (d := ((lastS k).1, IntKind.u64.wrap ((lastS k).1 + ep), x.2)) hx h1
  refine ⟨this.1.good, ?_⟩
  rw [(applyS_ok h1).2.2.2.2]
  exact wrap_u64 _
abbrev SAct := Int × Sn × Int × Int
def sactG (a : SAct) : GV := .g [.i .u8 a.1, .i .u64 a.2.1.1, .l (a.2.1.2.map row), .i .u64 a.2.2.1, .i .i64 a.2.2.2]
@[simp] theorem sact_cells (a : SAct) : (sactG a).cells = [.i .u8 a.1, .i .u64 a.2.1.1, .l (a.2.1.2.map row), .i .u64 a.2.2.1, .i .i64 a.2.2.2] := rfl
@[simp] theorem sact_scalar (a : SAct) : (sactG a).scalar = false := rfl
structure ActOk (a : SAct) : Prop where
  rows : Rows a.2.1.2
  ep : 0 ≤ a.2.1.1 ∧ a.2.1.1 < 18446744073709551616
  by' : 0 ≤ a.2.2.1 ∧ a.2.2.1 < 18446744073709551616
  do' : 0 ≤ a.1 ∧ a.1 < 256
theorem ver3 {v : Int} (h0 : 0 ≤ v) (h1 : v < 256) : 1 ≤ IntKind.i64.wrap (IntKind.i64.wrap (v.tmod 3) + 1) ∧ IntKind.i64.wrap (IntKind.i64.wrap (v.tmod 3) + 1) ≤ 3 := by
  have h2 : v.tmod 3 = v % 3 := Int.tmod_eq_emod_of_nonneg h0
  rw [h2, wrap64 (n := v % 3) (by omega) (by omega), wrap64 (n := v % 3 + 1) (by omega) (by omega)]
  omega
abbrev sactTy : List GTy := [.int .u8, .int .u64, .list true [.list true [.str, .str], .int .u64], .int .u64, .int .i64]
theorem has_u8 {g : GV} (h : (GTy.int .u8).has g) : ∃ n, g = .i .u8 n ∧ 0 ≤ n ∧ n < 256 := by
  simp only [GTy.has] at h
  obtain ⟨n, rfl, b1, b2⟩ := h
  exact ⟨n, rfl, by simpa [IntKind.min, IntKind.signed] using b1, by simp [IntKind.max, IntKind.signed, IntKind.bits] at b2; omega⟩
theorem sact_of {cs : List GV} (h : GTy.hasL sactTy cs) : ∃ a : SAct, ActOk a ∧ GV.g cs = sactG a := by
  obtain ⟨g1, r1, rfl, a1, h⟩ := hasL_cons h
  obtain ⟨g2, r2, rfl, a2, h⟩ := hasL_cons h
  obtain ⟨g3, r3, rfl, a3, h⟩ := hasL_cons h
  obtain ⟨g4, r4, rfl, a4, h⟩ := hasL_cons h
  obtain ⟨g5, r5, rfl, a5, h⟩ := hasL_cons h
  have := hasL_nil h
  subst this
  obtain ⟨n1, rfl, b1⟩ := has_u8 a1
  obtain ⟨n2, rfl, b2⟩ := has_u64 a2
  obtain ⟨rs, hrs, rfl⟩ := rows_of a3
  obtain ⟨n4, rfl, b4⟩ := has_u64 a4
  obtain ⟨n5, rfl, -⟩ := has_i64 a5
  exact ⟨(n1, (n2, rs), n4, n5), ⟨hrs, b2, b4, b1⟩, rfl⟩
theorem sacts_of {g : GV} (h : (GTy.list true sactTy).has g) : ∃ acts : List SAct, (∀ a ∈ acts, ActOk a) ∧ g = .l (acts.map sactG) := by
  obtain ⟨xs, rfl, -, hx⟩ := has_list h
  obtain ⟨acts, ha, rfl⟩ := list_map (f := sactG) (p := ActOk) (xs := xs) fun x hx' => by
    obtain ⟨k1, k2⟩ := hx x hx'
    cases x <;> simp [GV.scalar] at k2
    exact sact_of k1
  exact ⟨acts, ha, rfl⟩
theorem same1 (l : Sn) (h : GoodT l.2) : TT.lim 40 [.i .u64 l.1, .l (l.2.map row), .i .u64 l.1, .l (l.2.map row)] = some [.i .i64 0, .b true] := by
  have hs := same_good l.2 l.2 h h
  refine tree_lim rfl rfl ?_
  simp -implicitDefEqProofs [hs]
/-- What was published by its epoch. -/
def MapOk (xs : List GV) (k : List Sn) : Prop := ∀ s ∈ k, assocG (.i .u64 s.1) xs = some (sn s)
theorem key_inj {a b : Int} {x : GV} (h1 : keyEq (.i .u64 a) x = true) (h2 : keyEq (.i .u64 b) x = true) : a = b := by
  cases x <;> simp [keyEq] at h1 h2
  omega
theorem key_u64 (a b : Int) : keyEq (.i .u64 a) (.i .u64 b) = decide (a = b) := by
  simp only [keyEq]
  rw [Bool.eq_iff_iff]
  simp
theorem assoc_put (a b : Int) (u : GV) : ∀ xs : List GV, assocG (.i .u64 a) (putG (.i .u64 b) u xs) = if a = b then some u else assocG (.i .u64 a) xs
  | [] => by
    show (if keyEq (.i .u64 a) (.i .u64 b) = true then some u else none) = _
    rw [key_u64]
    by_cases h : a = b <;> simp [h, assocG]
  | .g [x, v] :: xs => by
    have ih := assoc_put a b u xs
    show assocG (.i .u64 a) (if keyEq (.i .u64 b) x = true then .g [.i .u64 b, u] :: xs else .g [x, v] :: putG (.i .u64 b) u xs) = if a = b then some u else (if keyEq (.i .u64 a) x = true then some v else assocG (.i .u64 a) xs)
    cases hb : keyEq (.i .u64 b) x with
    | true =>
      rw [if_pos rfl]
      show (if keyEq (.i .u64 a) (.i .u64 b) = true then some u else assocG (.i .u64 a) xs) = _
      rw [key_u64]
      by_cases h : a = b
      · simp -implicitDefEqProofs [h]
      · cases ha : keyEq (.i .u64 a) x with
        | true => exact absurd (key_inj ha hb) h
        | false => simp [h]
    | false =>
      rw [if_neg (by simp)]
      show (if keyEq (.i .u64 a) x = true then some v else assocG (.i .u64 a) (putG (.i .u64 b) u xs)) = _
      rw [ih]
      cases ha : keyEq (.i .u64 a) x with
      | true =>
        by_cases h : a = b
        · subst h; rw [ha] at hb; cases hb
        · simp -implicitDefEqProofs [h]
      | false => simp
  | .g [] :: xs => assoc_put a b u xs
  | .g [_] :: xs => assoc_put a b u xs
  | .g (_ :: _ :: _ :: _) :: xs => assoc_put a b u xs
  | .i _ _ :: xs => assoc_put a b u xs
  | .b _ :: xs => assoc_put a b u xs
  | .s _ :: xs => assoc_put a b u xs
  | .l _ :: xs => assoc_put a b u xs
structure Lead (xs : List GV) (k : List Sn) (b : Int) : Prop where
  kp : Kp k
  map : MapOk xs k
  base : b = 0 ∨ ∃ s ∈ k, s.1 = b
theorem lead_ack {e : Int} {xs : List GV} {k : List Sn} {b : Int} (h : Lead xs k b) : Lead xs (ackS e k b).2.1 (ackS e k b).2.2 := by
  refine ⟨ack_kp h.kp, ?_, ?_⟩
  · unfold ackS
    split
    · exact h.map
    split
    · exact h.map
    · exact fun s hs => h.map s (List.mem_of_mem_drop hs)
  · unfold ackS
    split
    · exact h.base
    split
    · exact h.base
    · next i hf =>
      obtain ⟨x, hx, hxe, hi⟩ := findS_some hf
      refine .inr ⟨x, ?_, hxe⟩
      have : (k.drop i)[0]? = some x := by rw [List.getElem?_drop]; simpa using hx
      exact List.mem_of_getElem? this
theorem addS_mem {x : Sn} {b : Int} {k : List Sn} {s : Sn} (h : s ∈ (addS x b k).1) : s ∈ k ∨ s = x := by
  unfold addS at h
  split at h
  · exact .inr (by simpa using h)
  · split at h
    · rcases List.mem_append.1 h with h | h
      · exact .inl (by simp [h])
      · exact .inr (by simpa using h)
    · rcases List.mem_append.1 h with h | h
      · exact .inl h
      · exact .inr (by simpa using h)
theorem addS_base {x : Sn} {b : Int} {k : List Sn} (h : b = 0 ∨ ∃ s ∈ k, s.1 = b) : (addS x b k).2 = 0 ∨ ∃ s ∈ (addS x b k).1, s.1 = (addS x b k).2 := by
  unfold addS
  split
  · rcases h with h | ⟨s, hs, -⟩
    · exact .inl h
    · simp at hs
  · next y r =>
    split
    · by_cases hy : y.1 = b
      · exact .inl (by simp [hy])
      · rcases h with h | ⟨s, hs, he⟩
        · exact .inl (by simp [h])
        · rcases List.mem_cons.1 hs with h2 | h2
          · subst h2; exact absurd he hy
          · exact .inr ⟨s, by simp [h2], by simp [hy, he]⟩
    · rcases h with h | ⟨s, hs, he⟩
      · exact .inl h
      · exact .inr ⟨s, List.mem_append.2 (.inl hs), he⟩
theorem lead_pub {x : Sn} {xs : List GV} {k : List Sn} {b : Int} (h : Lead xs k b) (hx : GoodT x.2) (h0 : 0 ≤ x.1 ∧ x.1 < 18446744073709551616) :
    Lead (if (pubS x k b).1 = 0 then putG (.i .u64 x.1) (sn x) xs else xs) (pubS x k b).2.1 (pubS x k b).2.2 := by
  have hk := pub_kp (b := b) h.kp hx h0
  have add : ∀ hk' : Kp (addS x b k).1, (∀ l, k.getLast? = some l → l.1 < x.1) → Lead (putG (.i .u64 x.1) (sn x) xs) (addS x b k).1 (addS x b k).2 := by
    intro hk' hl
    refine ⟨hk', ?_, addS_base h.base⟩
    intro s hs
    rw [assoc_put]
    by_cases he : s.1 = x.1
    · rw [if_pos he]
      rcases addS_mem hs with h1 | h1
      · exfalso
        obtain ⟨i, hi, rfl⟩ := List.getElem_of_mem h1
        cases hg : k.getLast? with
        | none => exact absurd hi (by rw [last_none hg]; simp)
        | some l =>
          obtain ⟨m, hm, ha, hmem⟩ := last_at hg
          have c1 := hl l hg
          have hml : m < k.length := by omega
          have e1 : k[m] = l := by have := List.getElem?_eq_getElem hml; rw [ha] at this; injection this with this; exact this.symm
          rcases Nat.lt_or_ge i m with c | c
          · have hp := List.pairwise_iff_getElem.1 h.kp.rise i m hi hml c
            rw [e1] at hp
            omega
          · have : i = m := by omega
            subst this
            rw [e1] at he
            omega
      · rw [h1]
    · rw [if_neg he]
      rcases addS_mem hs with h1 | h1
      · exact h.map s h1
      · subst h1; exact absurd rfl he
  unfold pubS at hk ⊢
  split
  · next h1 => simpa [h1] using h
  next h1 =>
  rw [if_neg h1] at hk
  split
  · simpa using h
  next h2 =>
  rw [if_neg h2] at hk
  split
  · next hl =>
    rw [hl] at hk
    exact add hk fun l hl' => by rw [hl] at hl'; cases hl'
  · next l hl =>
    rw [hl] at hk
    simp only at hk
    split
    · exact h
    next h3 =>
    rw [if_neg h3] at hk
    split
    · exact h
    next h4 =>
    rw [if_neg h4] at hk
    exact add hk fun l' hl' => by rw [hl] at hl'; injection hl' with hl'; subst hl'; omega
/-- A message that a sender tells. -/
def bdyM (kind epoch base : Int) (t : List Row) : Bdy := { kind := kind, id := 0, min := 0, max := 0, chosen := 0, flags := 0, cost := 0, priority := 0, deadline := 0, retry := 0, epoch := epoch, base := base, digest := 0, lag := 0, code := 0, want := 0, remaining := 0, allowed := false, name := [], region := [], note := [], d := [], t := t }
def bdyG (kind epoch base : Int) (t : GV) : GV := .g [.i .i64 kind, .i .u64 0, .i .u64 0, .i .u64 0, .i .u64 0, .i .u64 0, .i .u64 0, .i .u64 0, .i .u64 0, .i .u64 0, .i .u64 epoch, .i .u64 base, .i .u64 0, .i .u64 0, .i .u64 0, .i .u64 0, .i .i64 0, .b false, .s [], .s [], .s [], .l [], t, .l []]
theorem bdyM_ok {kind epoch base : Int} {t : List Row} (h1 : -9223372036854775808 ≤ kind ∧ kind ≤ 9223372036854775807) (h2 : 0 ≤ epoch ∧ epoch < 18446744073709551616) (h3 : 0 ≤ base ∧ base < 18446744073709551616) (ht : Rows t) : BdyOk (bdyM kind epoch base t) := by
  refine ⟨h1, ?_, ?_, ?_, ?_, ?_, ?_, ?_, ?_, ?_, h2, h3, ?_, ?_, ?_, ?_, ?_, ?_, ?_, ?_, ?_, ht⟩ <;> simp [bdyM, Ents]
theorem kp_diff {k : List Sn} {b : Int} (hk : Kp k) {l s : Sn} {i : Nat} (hlast : k.getLast? = some l) (hlb : l.1 ≠ b) (hf : findS b k = some i) (hs : k[i]? = some s) : (diffS s l).2 = 0 ∧ GoodT (diffS s l).1.2.2 := by
  obtain ⟨s', hs', hsb, hi⟩ := findS_some hf
  rw [hs] at hs'
  injection hs' with hs'
  subst hs'
  have hmem := List.mem_of_getLast? hlast
  have hsm := List.mem_of_getElem? hs
  obtain ⟨m, hm1, hm2, -⟩ := last_at hlast
  have hml : m < k.length := by omega
  have e1 : k[m] = l := by have := List.getElem?_eq_getElem hml; rw [hm2] at this; injection this with this; exact this.symm
  have e2 : k[i] = s := by have := List.getElem?_eq_getElem hi; rw [hs] at this; injection this with this; exact this.symm
  have him : i < m := by
    rcases Nat.lt_or_ge i m with c | c
    · exact c
    · have : i = m := by omega
      subst this
      rw [e1] at e2
      subst e2
      exact absurd hsb hlb
  have hp := List.pairwise_iff_getElem.1 hk.rise i m hi hml him
  rw [e1, e2] at hp
  have hd : (diffS s l).2 = 0 := by rw [diffS_eq (hk.tb s hsm).ok (hk.tb l hmem).ok hp.1 hp.2]
  exact ⟨hd, (back1 (hk.tb s hsm).good (hk.tb l hmem).good hd).2.2⟩
@[simp] theorem bdyG_cells (kind epoch base : Int) (t : GV) : (bdyG kind epoch base t).cells = [.i .i64 kind, .i .u64 0, .i .u64 0, .i .u64 0, .i .u64 0, .i .u64 0, .i .u64 0, .i .u64 0, .i .u64 0, .i .u64 0, .i .u64 epoch, .i .u64 base, .i .u64 0, .i .u64 0, .i .u64 0, .i .u64 0, .i .i64 0, .b false, .s [], .s [], .s [], .l [], t, .l []] := rfl
abbrev An := Int × Int × Int × Int
def takeR (c v kd ep ba : Int) (t : List Row) (sm : Bool) (h : Sn) : An × Int × Bool × Sn :=
  if c ≠ 0 then ((0, 0, 0, 0), c, sm, h)
  else if kd = 5 then (if sm = true ∧ ep ≤ h.1 then ((7, h.1, 0, 0), 20, sm, h) else ((7, ep, 0, 0), 0, true, (ep, t)))
  else if kd = 6 then (if sm = true ∧ ep ≤ h.1 then ((7, h.1, 0, 0), 20, sm, h)
    else if (applyS h (ba, ep, t)).2 ≠ 0 then ((8, ep, IntKind.u64.wrap (applyS h (ba, ep, t)).2, if 2 ≤ v then h.1 else 0), (applyS h (ba, ep, t)).2, sm, h)
    else ((7, (applyS h (ba, ep, t)).1.1, 0, 0), 0, true, (applyS h (ba, ep, t)).1))
  else ((0, 0, 0, 0), 15, sm, h)
def takeG (r : An × Int × Bool × Sn) : List GV := [.i .i64 0, .i .i64 r.1.1, .i .u64 r.1.2.1, .i .u64 r.1.2.2.1, .i .u64 r.1.2.2.2, .i .i64 r.2.1, .b r.2.2.1, .i .u64 r.2.2.2.1, .l (r.2.2.2.2.map row)]
set_option maxHeartbeats 2000000 in
theorem take_fn (b : Bdy) (fl : List Fld) (v : Int) (sm : Bool) (h : Sn) (hb : BdyOk b) (ht : GoodT b.t) (hok : fldsOk fl) (hlen : fl.length ≤ 1000000) (hh : GoodT h.2) :
    TT.lim 56 ((msgG b (fldsG fl)).cells ++ [.i .i64 v, .b sm, .i .u64 h.1, .l (h.2.map row)]) = some (takeG (takeR (checkM b fl v) v b.kind b.epoch b.base b.t sm h)) := by
  have hc := mcheck_ok b fl v hb ht.few hok hlen
  have hcl := sclone34 (b.epoch, b.t) ht
  have hap := apply51 h (b.base, b.epoch, b.t) hh ht
  have e1 : GV.g [.i .u64 b.epoch, .l (b.t.map row)] = sn (b.epoch, b.t) := rfl
  have e2 : GV.g [.i .u64 h.1, .l (h.2.map row)] = sn h := rfl
  have e3 : GV.g [.i .u64 b.base, .i .u64 b.epoch, .l (b.t.map row)] = dl (b.base, b.epoch, b.t) := rfl
  rw [msgG_cells]
  simp only [List.cons_append, List.nil_append]
  unfold takeR
  generalize applyS h (b.base, b.epoch, b.t) = A at *
  obtain ⟨⟨A1, A2⟩, A3⟩ := A
  generalize checkM b fl v = C at *
  generalize fldsG fl = R at *
  by_cases h1 : C = 0
  rotate_left
  · rw [if_pos h1]
    refine tree_lim rfl rfl ?_
    simp -implicitDefEqProofs [msgG_fold, hc, h1, takeG]
  rw [if_neg (by simpa using h1)]
  subst h1
  by_cases k5 : b.kind = 5
  · rw [if_pos k5]
    have k5' : (b.kind = 5) = True := eq_true k5
    clear k5
    cases sm with
    | false =>
      refine tree_lim rfl rfl ?_
      simp -implicitDefEqProofs [msgG_fold, hc, k5', takeG, e1, hcl]
    | true =>
      by_cases h3 : b.epoch ≤ h.1
      · refine tree_lim rfl rfl ?_
        simp -implicitDefEqProofs [msgG_fold, hc, k5', takeG, h3]
      · refine tree_lim rfl rfl ?_
        simp -implicitDefEqProofs [msgG_fold, hc, k5', takeG, h3, e1, hcl]
  rw [if_neg k5]
  by_cases k6 : b.kind = 6
  rotate_left
  · rw [if_neg k6]
    refine tree_lim rfl rfl ?_
    simp -implicitDefEqProofs [msgG_fold, hc, k5, k6, takeG]
  rw [if_pos k6]
  have k5' : (b.kind = 5) = False := eq_false k5
  have k6' : (b.kind = 6) = True := eq_true k6
  clear k5 k6
  by_cases h3 : sm = true ∧ b.epoch ≤ h.1
  · rw [if_pos h3]
    obtain ⟨rfl, h3⟩ := h3
    refine tree_lim rfl rfl ?_
    simp -implicitDefEqProofs [msgG_fold, hc, k5', k6', takeG, h3]
  rw [if_neg h3]
  by_cases ha : A3 = 0
  · rw [if_neg (by simpa using ha)]
    subst ha
    cases sm with
    | false =>
      refine tree_lim rfl rfl ?_
      simp -implicitDefEqProofs [msgG_fold, hc, k5', k6', takeG, e2, e3, hap]
    | true =>
      have h3 : ¬ b.epoch ≤ h.1 := fun e => h3 ⟨rfl, e⟩
      refine tree_lim rfl rfl ?_
      simp -implicitDefEqProofs [msgG_fold, hc, k5', k6', takeG, h3, e2, e3, hap]
  · rw [if_pos ha]
    by_cases hv : 2 ≤ v
    · cases sm with
      | false =>
        refine tree_lim rfl rfl ?_
        simp -implicitDefEqProofs [msgG_fold, hc, k5', k6', takeG, e2, e3, hap, ha, hv]
      | true =>
        have h3 : ¬ b.epoch ≤ h.1 := fun e => h3 ⟨rfl, e⟩
        refine tree_lim rfl rfl ?_
        simp -implicitDefEqProofs [msgG_fold, hc, k5', k6', takeG, h3, e2, e3, hap, ha, hv]
    · cases sm with
      | false =>
        refine tree_lim rfl rfl ?_
        simp -implicitDefEqProofs [msgG_fold, hc, k5', k6', takeG, e2, e3, hap, ha, hv]
      | true =>
        have h3 : ¬ b.epoch ≤ h.1 := fun e => h3 ⟨rfl, e⟩
        refine tree_lim rfl rfl ?_
        simp -implicitDefEqProofs [msgG_fold, hc, k5', k6', takeG, h3, e2, e3, hap, ha, hv]
theorem have_no (v e t : GV) : TT.lim 39 [v, .b false, e, t] = some [.i .i64 0, .i .u64 0, .l [], .b false] := by
  refine tree_lim rfl rfl ?_
  simp
theorem have_some (v : GV) (h : Sn) (hh : GoodT h.2) : TT.lim 39 [v, .b true, .i .u64 h.1, .l (h.2.map row)] = some [.i .i64 0, .i .u64 h.1, .l (h.2.map row), .b true] := by
  have hcl := sclone34 h hh
  have e1 : GV.g [.i .u64 h.1, .l (h.2.map row)] = sn h := rfl
  refine tree_lim rfl rfl ?_
  simp -implicitDefEqProofs [e1, hcl]
theorem have_any (v : GV) (sm : Bool) (h : Sn) (hh : GoodT h.2) (hz : sm = false → h = zS) : TT.lim 39 [v, .b sm, .i .u64 h.1, .l (h.2.map row)] = some [.i .i64 0, .i .u64 h.1, .l (h.2.map row), .b sm] := by
  cases sm with
  | false => rw [hz rfl]; exact have_no v _ _
  | true => exact have_some v h hh
/-- An answer, as a message. -/
def ansG (a : An) : GV := .g [.i .i64 a.1, .i .u64 0, .i .u64 0, .i .u64 0, .i .u64 0, .i .u64 0, .i .u64 0, .i .u64 0, .i .u64 0, .i .u64 0, .i .u64 a.2.1, .i .u64 0, .i .u64 0, .i .u64 0, .i .u64 a.2.2.1, .i .u64 a.2.2.2, .i .i64 0, .b false, .s [], .s [], .s [], .l [], .l [], .l []]
@[simp] theorem ansG_cells (a : An) : (ansG a).cells = [.i .i64 a.1, .i .u64 0, .i .u64 0, .i .u64 0, .i .u64 0, .i .u64 0, .i .u64 0, .i .u64 0, .i .u64 0, .i .u64 0, .i .u64 a.2.1, .i .u64 0, .i .u64 0, .i .u64 0, .i .u64 a.2.2.1, .i .u64 a.2.2.2, .i .i64 0, .b false, .s [], .s [], .s [], .l [], .l [], .l []] := rfl
@[simp] theorem ansG_scalar (a : An) : (ansG a).scalar = false := rfl
theorem ansG_fold (a b c d : Int) : GV.g [.i .i64 a, .i .u64 0, .i .u64 0, .i .u64 0, .i .u64 0, .i .u64 0, .i .u64 0, .i .u64 0, .i .u64 0, .i .u64 0, .i .u64 b, .i .u64 0, .i .u64 0, .i .u64 0, .i .u64 c, .i .u64 d, .i .i64 0, .b false, .s [], .s [], .s [], .l [], .l [], .l []] = ansG (a, b, c, d) := rfl
/-- A message of a sender. -/
abbrev Tm := Int × Int × Int × List Row
def tmG (m : Tm) : GV := bdyG m.1 m.2.1 m.2.2.1 (.l (m.2.2.2.map row))
@[simp] theorem tmG_cells (m : Tm) : (tmG m).cells = [.i .i64 m.1, .i .u64 0, .i .u64 0, .i .u64 0, .i .u64 0, .i .u64 0, .i .u64 0, .i .u64 0, .i .u64 0, .i .u64 0, .i .u64 m.2.1, .i .u64 m.2.2.1, .i .u64 0, .i .u64 0, .i .u64 0, .i .u64 0, .i .i64 0, .b false, .s [], .s [], .s [], .l [], .l (m.2.2.2.map row), .l []] := rfl
@[simp] theorem tmG_scalar (m : Tm) : (tmG m).scalar = false := rfl
theorem tmG_fold (a b c : Int) (t : List Row) : GV.g [.i .i64 a, .i .u64 0, .i .u64 0, .i .u64 0, .i .u64 0, .i .u64 0, .i .u64 0, .i .u64 0, .i .u64 0, .i .u64 0, .i .u64 b, .i .u64 c, .i .u64 0, .i .u64 0, .i .u64 0, .i .u64 0, .i .i64 0, .b false, .s [], .s [], .s [], .l [], .l (t.map row), .l []] = tmG (a, b, c, t) := rfl
def ansS (a : An) (k : List Sn) (b : Int) : List Sn × Int := if a.1 = 7 then (ackS a.2.1 k b).2 else if a.1 = 8 then (k, 0) else (k, b)
theorem answer_fn (a : An) (v : GV) (k : List Sn) (b : Int) (hk : k.length ≤ 1000) :
    TT.lim 101 [.i .i64 a.1, .i .u64 0, .i .u64 0, .i .u64 0, .i .u64 0, .i .u64 0, .i .u64 0, .i .u64 0, .i .u64 0, .i .u64 0, .i .u64 a.2.1, .i .u64 0, .i .u64 0, .i .u64 0, .i .u64 a.2.2.1, .i .u64 a.2.2.2, .i .i64 0, .b false, .s [], .s [], .s [], .l [], .l [], .l [], v, .l (k.map sn), .i .u64 b] = some [.i .i64 0, .l ((ansS a k b).1.map sn), .i .u64 (ansS a k b).2] := by
  have hack := ack_fn a.2.1 v k b hk
  unfold ansS
  generalize ackS a.2.1 k b = A at *
  by_cases h7 : a.1 = 7
  · rw [if_pos h7]
    have h7' : (a.1 = 7) = True := eq_true h7
    clear h7
    refine tree_lim rfl rfl ?_
    simp -implicitDefEqProofs [h7', hack]
  rw [if_neg h7]
  by_cases h8 : a.1 = 8
  · rw [if_pos h8]
    have h7' : (a.1 = 7) = False := eq_false h7
    have h8' : (a.1 = 8) = True := eq_true h8
    clear h7 h8
    refine tree_lim rfl rfl ?_
    simp -implicitDefEqProofs [h7', h8']
  · rw [if_neg h8]
    refine tree_lim rfl rfl ?_
    simp -implicitDefEqProofs [h7, h8]
theorem ent_inj {x y : Ent} (h : ent x = ent y) : x = y := by
  unfold ent at h
  injection h with h
  simp only [List.cons.injEq, GV.s.injEq, and_true] at h
  exact Prod.ext h.1 h.2
theorem row_inj {x y : Row} (h : row x = row y) : x = y := by
  unfold row at h
  injection h with h
  simp only [List.cons.injEq, GV.l.injEq, GV.i.injEq, and_true, true_and] at h
  exact Prod.ext ((List.map_inj_right fun _ _ => ent_inj).1 h.1) h.2
theorem sn_inj {x y : Sn} (h : sn x = sn y) : x = y := by
  unfold sn at h
  injection h with h
  simp only [List.cons.injEq, GV.l.injEq, GV.i.injEq, and_true, true_and] at h
  exact Prod.ext h.1 ((List.map_inj_right fun _ _ => row_inj).1 h.2)
def GoodM (xs : List GV) (m : Tm) : Prop :=
  (m.1 = 5 ∧ Tb m.2.2.2 ∧ (0 < m.2.1 ∧ m.2.1 < 18446744073709551616) ∧ m.2.2.1 = 0 ∧ assocG (.i .u64 m.2.1) xs = some (sn (m.2.1, m.2.2.2))) ∨
  (m.1 = 6 ∧ Tb m.2.2.2 ∧ (0 < m.2.2.1 ∧ m.2.2.1 < m.2.1 ∧ m.2.1 < 18446744073709551616) ∧ ∃ s l : Sn, assocG (.i .u64 m.2.2.1) xs = some (sn s) ∧ assocG (.i .u64 m.2.1) xs = some (sn l) ∧ l.1 = m.2.1 ∧ s.1 = m.2.2.1 ∧ Tb l.2 ∧ applyS s (m.2.2.1, m.2.1, m.2.2.2) = (l, 0))
theorem msg_goodM {xs : List GV} {k : List Sn} {b : Int} {V : Int} (h : Lead xs k b) (h0 : (msgS V k b).2 = 0) : GoodM xs (msgS V k b).1 ∧ ∃ l, k.getLast? = some l ∧ (msgS V k b).1.2.1 = l.1 ∧ l.1 ≠ b ∧ ((msgS V k b).1.1 = 6 → 2 ≤ V ∧ b ≠ 0 ∧ (msgS V k b).1.2.2.1 = b) ∧ ((msgS V k b).1.1 = 5 → (msgS V k b).1.2.2.2 = l.2) := by
  unfold msgS at h0 ⊢
  cases hl : k.getLast? with
  | none => rw [hl] at h0; simp at h0
  | some l =>
    rw [hl] at h0
    simp only at h0 ⊢
    have hmem := List.mem_of_getLast? hl
    have hp := h.kp.pos l hmem
    have hfull : GoodM xs (full l).1 := .inl ⟨rfl, h.kp.tb l hmem, hp, rfl, h.map l hmem⟩
    by_cases h1 : l.1 = b
    · rw [if_pos h1] at h0; simp at h0
    rw [if_neg h1] at h0 ⊢
    cases hf : findS b k with
    | none => exact ⟨hfull, l, rfl, rfl, h1, fun e => by simp [full] at e, fun _ => rfl⟩
    | some i =>
      rw [hf] at h0
      obtain ⟨s, hs, hsb, hi⟩ := findS_some hf
      obtain ⟨hd, -⟩ := kp_diff h.kp hl h1 hf hs
      simp only [hs] at h0 ⊢
      by_cases h2 : 2 ≤ V
      · rw [if_pos h2, if_neg (by simp [hd])]
        have hsm := List.mem_of_getElem? hs
        have ho := diffS_ok hd
        have hb := back1 (h.kp.tb s hsm).good (h.kp.tb l hmem).good hd
        have htb := (diff_tb (h.kp.tb s hsm) (h.kp.tb l hmem) ho.2.2.2.1).1
        have hps := h.kp.pos s hsm
        rw [ho.2.2.2.2] at hb ⊢
        refine ⟨.inr ⟨rfl, htb, ⟨hps.1, ho.2.2.1, hp.2⟩, s, l, h.map s hsm, h.map l hmem, rfl, rfl, h.kp.tb l hmem, hb.2.1⟩, l, rfl, rfl, h1, fun _ => ⟨h2, ?_, hsb⟩, fun e => by simp at e⟩
        omega
      · rw [if_neg h2]
        exact ⟨hfull, l, rfl, rfl, h1, fun e => by simp [full] at e, fun _ => rfl⟩
/-- A sender and a receiver, and what was told between them. -/
structure Foll (xs : List GV) (told : List Tm) (back : List An) (k : List Sn) (b : Int) (sm : Bool) (h : Sn) : Prop where
  lead : Lead xs k b
  keys : ∀ e g, assocG (.i .u64 e) xs = some g → ∃ l, k.getLast? = some l ∧ e ≤ l.1
  told : ∀ m ∈ told, GoodM xs m
  back : ∀ a ∈ back, a.1 = 7 → sm = true ∧ a.2.1 ≤ h.1
  has : (sm = true ∧ assocG (.i .u64 h.1) xs = some (sn h) ∧ Tb h.2) ∨ (sm = false ∧ h = zS)
  base : b ≤ 0 ∨ (sm = true ∧ b ≤ h.1)
  zero : assocG (.i .u64 0) xs = none
theorem Foll.tb {xs : List GV} {told : List Tm} {back : List An} {k : List Sn} {b : Int} {sm : Bool} {h : Sn} (f : Foll xs told back k b sm h) : Tb h.2 := by
  rcases f.has with ⟨-, -, h1⟩ | ⟨-, h1⟩
  · exact h1
  · rw [h1]; exact tb_nil
theorem pub_last {x : Sn} {k : List Sn} {b : Int} (h0 : (pubS x k b).1 = 0) : (pubS x k b).2.1.getLast? = some x ∧ ∀ l, k.getLast? = some l → l.1 < x.1 := by
  have hadd : (addS x b k).1.getLast? = some x := by
    unfold addS
    split
    · rfl
    · split
      · simp
      · exact List.getLast?_concat
  unfold pubS at h0 ⊢
  split at h0
  · next h1 => exact absurd h0 h1
  next h1 =>
  split at h0
  · cases h0
  next h2 =>
  rw [if_neg h1, if_neg h2]
  cases hl : k.getLast? with
  | none => exact ⟨hadd, fun l e => by cases e⟩
  | some l =>
    rw [hl] at h0
    simp only at h0 ⊢
    split at h0
    · cases h0
    next h3 =>
    split at h0
    · cases h0
    next h4 =>
    rw [if_neg h3, if_neg h4]
    exact ⟨hadd, fun l' e => by injection e with e; subst e; omega⟩
theorem pub_ne {x : Sn} {k : List Sn} {b : Int} (h0 : (pubS x k b).1 = 0) : x.1 ≠ 0 := by
  intro hx
  unfold pubS at h0
  split at h0
  · next h1 => exact h1 h0
  · cases h0
theorem pub_err {x : Sn} {k : List Sn} {b : Int} (h0 : (pubS x k b).1 ≠ 0) : (pubS x k b).2 = (k, b) := by
  unfold pubS at h0 ⊢
  split
  · rfl
  next h1 =>
  rw [if_neg h1] at h0
  split
  · rfl
  next h2 =>
  rw [if_neg h2] at h0
  cases hl : k.getLast? with
  | none => rw [hl] at h0; simp at h0
  | some l =>
    rw [hl] at h0
    simp only at h0 ⊢
    split
    · rfl
    next h3 =>
    rw [if_neg h3] at h0
    split
    · rfl
    next h4 =>
    rw [if_neg h4] at h0
    simp at h0
theorem pub_base {x : Sn} {k : List Sn} {b : Int} : (pubS x k b).2.2 = b ∨ (pubS x k b).2.2 = 0 := by
  have hadd : (addS x b k).2 = b ∨ (addS x b k).2 = 0 := by
    unfold addS
    split
    · exact .inl rfl
    · split
      · simp only
        split
        · exact .inr rfl
        · exact .inl rfl
      · exact .inl rfl
  unfold pubS
  split
  · exact .inl rfl
  split
  · exact .inl rfl
  split
  · exact hadd
  · split
    · exact .inl rfl
    split
    · exact .inl rfl
    · exact hadd
theorem goodM_put {xs : List GV} {m : Tm} {e : Int} {g : GV} (h : GoodM xs m) (hf : ∀ e' g', assocG (.i .u64 e') xs = some g' → e' ≠ e) : GoodM (putG (.i .u64 e) g xs) m := by
  have key : ∀ {e' : Int} {g' : GV}, assocG (.i .u64 e') xs = some g' → assocG (.i .u64 e') (putG (.i .u64 e) g xs) = some g' := by
    intro e' g' he
    rw [assoc_put, if_neg (hf e' g' he)]; exact he
  rcases h with ⟨h1, h2, h3, h4, h5⟩ | ⟨h1, h2, h3, s, l, h4, h5, h6⟩
  · exact .inl ⟨h1, h2, h3, h4, key h5⟩
  · exact .inr ⟨h1, h2, h3, s, l, key h4, key h5, h6⟩
theorem foll_pub {xs : List GV} {told : List Tm} {back : List An} {k : List Sn} {b : Int} {sm : Bool} {h : Sn} (f : Foll xs told back k b sm h) {x : Sn} (hx : GoodT x.2) (h0 : 0 ≤ x.1 ∧ x.1 < 18446744073709551616) :
    Foll (if (pubS x k b).1 = 0 then putG (.i .u64 x.1) (sn x) xs else xs) told back (pubS x k b).2.1 (pubS x k b).2.2 sm h := by
  have hl := lead_pub f.lead hx h0
  by_cases he : (pubS x k b).1 = 0
  · rw [if_pos he] at hl ⊢
    obtain ⟨p1, p2⟩ := pub_last he
    have hf : ∀ e' g', assocG (.i .u64 e') xs = some g' → e' ≠ x.1 := by
      intro e' g' hg
      obtain ⟨l, q1, q2⟩ := f.keys e' g' hg
      have := p2 l q1
      omega
    refine ⟨hl, ?_, fun m hm => goodM_put (f.told m hm) hf, f.back, ?_, ?_, by rw [assoc_put, if_neg (fun e => pub_ne he e.symm)]; exact f.zero⟩
    · intro e' g' hg
      refine ⟨x, p1, ?_⟩
      rw [assoc_put] at hg
      split at hg
      · next e => omega
      · obtain ⟨l, q1, q2⟩ := f.keys e' g' hg
        have := p2 l q1
        omega
    · rcases f.has with ⟨q1, q2, q3⟩ | q
      · exact .inl ⟨q1, by rw [assoc_put, if_neg (hf _ _ q2)]; exact q2, q3⟩
      · exact .inr q
    · rcases pub_base (x := x) (k := k) (b := b) with e | e
      · rw [e]; exact f.base
      · rw [e]; exact .inl (Int.le_refl _)
  · rw [if_neg he] at hl ⊢
    rw [pub_err he] at hl ⊢
    exact f
theorem foll_told {xs : List GV} {told : List Tm} {back : List An} {k : List Sn} {b : Int} {sm : Bool} {h : Sn} (f : Foll xs told back k b sm h) {m : Tm} (hm : GoodM xs m) : Foll xs (told ++ [m]) back k b sm h :=
  ⟨f.lead, f.keys, fun m' hm' => by
    rcases List.mem_append.1 hm' with q | q
    · exact f.told m' q
    · rw [List.mem_singleton.1 q]; exact hm, f.back, f.has, f.base, f.zero⟩
theorem foll_take {xs : List GV} {told : List Tm} {back : List An} {k : List Sn} {b : Int} {sm : Bool} {h : Sn} (f : Foll xs told back k b sm h) {m : Tm} (hm : GoodM xs m) (c v : Int) :
    Foll xs told (back ++ [(takeR c v m.1 m.2.1 m.2.2.1 m.2.2.2 sm h).1]) k b (takeR c v m.1 m.2.1 m.2.2.1 m.2.2.2 sm h).2.2.1 (takeR c v m.1 m.2.1 m.2.2.1 m.2.2.2 sm h).2.2.2 ∧ h.1 ≤ (takeR c v m.1 m.2.1 m.2.2.1 m.2.2.2 sm h).2.2.2.1 := by
  have stay : ∀ a : An, (a.1 = 7 → sm = true ∧ a.2.1 ≤ h.1) → Foll xs told (back ++ [a]) k b sm h := fun a ha =>
    ⟨f.lead, f.keys, f.told, fun a' ha' => by
      rcases List.mem_append.1 ha' with q | q
      · exact f.back a' q
      · rw [List.mem_singleton.1 q]; exact ha, f.has, f.base, f.zero⟩
  have turn : ∀ l : Sn, assocG (.i .u64 l.1) xs = some (sn l) → Tb l.2 → h.1 ≤ l.1 → Foll xs told (back ++ [(7, l.1, 0, 0)]) k b true l := fun l h1 h2 h3 =>
    ⟨f.lead, f.keys, f.told, fun a' ha' e => by
      rcases List.mem_append.1 ha' with q | q
      · have := f.back a' q e
        exact ⟨rfl, by omega⟩
      · rw [List.mem_singleton.1 q]; exact ⟨rfl, Int.le_refl _⟩, .inl ⟨rfl, h1, h2⟩, by
      rcases f.base with q | q
      · exact .inl q
      · exact .inr ⟨rfl, by omega⟩, f.zero⟩
  have hle : ¬ (sm = true ∧ m.2.1 ≤ h.1) → 0 < m.2.1 → h.1 ≤ m.2.1 := by
    intro hn hp
    rcases f.has with ⟨q, -⟩ | ⟨-, q⟩
    · rcases Int.lt_or_le h.1 m.2.1 with c | c
      · omega
      · exact absurd ⟨q, c⟩ hn
    · rw [q]; simp only [zS]; omega
  unfold takeR
  by_cases h1 : c = 0
  rotate_left
  · rw [if_pos h1]; exact ⟨stay _ (fun e => by simp at e), Int.le_refl _⟩
  rw [if_neg (by simpa using h1)]
  rcases hm with ⟨m1, m2, m3, m4, m5⟩ | ⟨m1, m2, m3, s, l, m4, m5, m6, m7, m8, m9⟩
  · rw [if_pos m1]
    by_cases h3 : sm = true ∧ m.2.1 ≤ h.1
    · rw [if_pos h3]; exact ⟨stay _ (fun _ => ⟨h3.1, Int.le_refl _⟩), Int.le_refl _⟩
    · rw [if_neg h3]
      exact ⟨turn (m.2.1, m.2.2.2) m5 m2 (hle h3 m3.1), hle h3 m3.1⟩
  · rw [if_neg (by omega), if_pos m1]
    by_cases h3 : sm = true ∧ m.2.1 ≤ h.1
    · rw [if_pos h3]; exact ⟨stay _ (fun _ => ⟨h3.1, Int.le_refl _⟩), Int.le_refl _⟩
    · rw [if_neg h3]
      by_cases ha : (applyS h (m.2.2.1, m.2.1, m.2.2.2)).2 = 0
      rotate_left
      · rw [if_pos ha]; exact ⟨stay _ (fun e => by simp at e), Int.le_refl _⟩
      · rw [if_neg (by simpa using ha)]
        have hb := (applyS_ok ha).2.2.1
        simp only at hb
        have hs : h = s := by
          rcases f.has with ⟨-, q, -⟩ | ⟨-, q⟩
          · rw [hb, m4] at q
            injection q with q
            exact (sn_inj q).symm
          · exfalso
            rw [q] at hb
            simp only [zS] at hb
            omega
        rw [hs, m9]
        rw [← m6] at m5
        have h4 := hle h3 (by omega)
        rw [hs, ← m6] at h4
        exact ⟨turn l m5 m8 (by rw [hs]; exact h4), h4⟩
theorem ack_last {e : Int} {k : List Sn} {b : Int} : (ackS e k b).2.1.getLast? = k.getLast? := by
  unfold ackS
  split
  · rfl
  split
  · rfl
  · next i hf =>
    obtain ⟨x, -, -, hi⟩ := findS_some hf
    simp only
    rw [List.getLast?_drop, if_neg (by omega)]
theorem ack_base {e : Int} {k : List Sn} {b : Int} : (ackS e k b).2.2 = b ∨ (ackS e k b).2.2 = e := by
  unfold ackS
  split
  · exact .inl rfl
  split
  · exact .inl rfl
  · exact .inr rfl
theorem foll_ans {xs : List GV} {told : List Tm} {back : List An} {k : List Sn} {b : Int} {sm : Bool} {h : Sn} (f : Foll xs told back k b sm h) {a : An} (ha : a.1 = 7 → sm = true ∧ a.2.1 ≤ h.1) :
    Foll xs told back (ansS a k b).1 (ansS a k b).2 sm h ∧ (ansS a k b).1.getLast? = k.getLast? := by
  unfold ansS
  split
  · next h7 =>
    have hq := ha h7
    refine ⟨⟨lead_ack f.lead, fun e g hg => by rw [ack_last]; exact f.keys e g hg, f.told, f.back, f.has, ?_, f.zero⟩, ack_last⟩
    rcases ack_base (e := a.2.1) (k := k) (b := b) with e | e
    · rw [e]; exact f.base
    · rw [e]; exact .inr hq
  split
  · exact ⟨⟨⟨f.lead.kp, f.lead.map, .inl rfl⟩, f.keys, f.told, f.back, f.has, .inl (Int.le_refl _), f.zero⟩, rfl⟩
  · exact ⟨f, rfl⟩
theorem actfew_fn (a : SAct) (ha : ActOk a) : TT.lim 2 [sactG a] = some [.b (few13 a.2.1.2)] := by
  have hf := few2 a.2.1.2 ha.rows
  refine fn_lim rfl rfl ?_ rfl
  simp -implicitDefEqProofs [hf]
theorem actnext_fn (d w : GV) (x : Sn) (ep : Int) (v b : GV) (k : List Sn) (hx : GoodT x.2) (hk : Kp k) :
    TT.lim 103 [d, .i .u64 x.1, .l (x.2.map row), .i .u64 ep, w, v, .l (k.map sn), b] = some [.i .i64 0, .i .u64 (nextS x ep k).1, .l ((nextS x ep k).2.map row)] := by
  have h0 := next_fn d w x ep v b k hx hk
  refine tree_lim rfl rfl ?_
  simp -implicitDefEqProofs [h0]
theorem take_tm (m : Tm) (v : Int) (sm : Bool) (h : Sn) {xs : List GV} (hm : GoodM xs m) (hh : GoodT h.2) :
    TT.lim 56 [.i .i64 m.1, .i .u64 0, .i .u64 0, .i .u64 0, .i .u64 0, .i .u64 0, .i .u64 0, .i .u64 0, .i .u64 0, .i .u64 0, .i .u64 m.2.1, .i .u64 m.2.2.1, .i .u64 0, .i .u64 0, .i .u64 0, .i .u64 0, .i .i64 0, .b false, .s [], .s [], .s [], .l [], .l (m.2.2.2.map row), .l [], .i .i64 v, .b sm, .i .u64 h.1, .l (h.2.map row)] = some (takeG (takeR (checkM (bdyM m.1 m.2.1 m.2.2.1 m.2.2.2) [] v) v m.1 m.2.1 m.2.2.1 m.2.2.2 sm h)) := by
  have hb : BdyOk (bdyM m.1 m.2.1 m.2.2.1 m.2.2.2) := by
    rcases hm with ⟨m1, m2, m3, m4, -⟩ | ⟨m1, m2, m3, -⟩
    · exact bdyM_ok (by omega) (by omega) (by omega) m2.rows
    · exact bdyM_ok (by omega) (by omega) (by omega) m2.rows
  have ht : GoodT m.2.2.2 := by
    rcases hm with ⟨-, m2, -⟩ | ⟨-, m2, -⟩
    · exact m2.good
    · exact m2.good
  exact take_fn (bdyM m.1 m.2.1 m.2.2.1 m.2.2.2) [] v sm h hb ht (by unfold fldsOk; trivial) (by simp) hh
def fG (pick : List Int) : List GV := pick.map (.i .u8 ·)
/-- The law's loop ends well. -/
def FollAt (pick : List Int) (acts : List SAct) (V : Int) (i : Int) (xs : List GV) (told : List Tm) (back : List An) (k : List Sn) (b : Int) (sm : Bool) (h : Sn) : Prop :=
  ∃ Q, (Q = [GV.i .i64 0, .b true] ∨ ∃ (xs' : List GV) (told' : List Tm) (back' : List An) (k' : List Sn) (b' : Int) (sm' : Bool) (h' : Sn), Foll xs' told' back' k' b' sm' h' ∧ Q = [.i .i64 1, .b sm', .i .u64 h'.1, .l (h'.2.map row), .l (k'.map sn), .i .u64 b']) ∧
  TT.lim 1 [.l (fG pick), .l (told.map tmG), .l (back.map ansG), .i .u64 h.1, .l (acts.map sactG), .i .i64 (acts.length : Int), .i .i64 i, .l xs, .i .i64 V, .b sm, .l (h.2.map row), .l (k.map sn), .i .u64 b] = some Q
theorem tmod_nat {p : Int} {n : Nat} (h0 : 0 ≤ p) (hn : 0 < n) : ∃ j : Nat, p.tmod (n : Int) = (j : Int) ∧ j < n := by
  rw [Int.tmod_eq_emod_of_nonneg h0]
  have h1 := Int.emod_nonneg p (b := (n : Int)) (by omega)
  have h2 := Int.emod_lt_of_pos p (b := (n : Int)) (by omega)
  exact ⟨(p % n).toNat, by omega, by omega⟩
theorem at_tm {told : List Tm} {j : Nat} (h : j < told.length) : ∃ m, m ∈ told ∧ at2 24 (some (.l (told.map tmG))) (some (.i .i64 (j : Int))) = some (tmG m) ∧ idx2 (some (.l (told.map tmG))) (some (.i .i64 (j : Int))) = some (.i .i64 (j : Int)) := by
  refine ⟨told[j], List.getElem_mem h, ?_, ?_⟩
  · rw [at2_i, if_pos (by omega), Int.toNat_natCast, List.getElem?_map, List.getElem?_eq_getElem h]; rfl
  · rw [idx2_i, if_pos ⟨by omega, by rw [List.length_map]; omega⟩]
theorem at_ans {back : List An} {j : Nat} (h : j < back.length) : ∃ m, m ∈ back ∧ at2 24 (some (.l (back.map ansG))) (some (.i .i64 (j : Int))) = some (ansG m) ∧ idx2 (some (.l (back.map ansG))) (some (.i .i64 (j : Int))) = some (.i .i64 (j : Int)) := by
  refine ⟨back[j], List.getElem_mem h, ?_, ?_⟩
  · rw [at2_i, if_pos (by omega), Int.toNat_natCast, List.getElem?_map, List.getElem?_eq_getElem h]; rfl
  · rw [idx2_i, if_pos ⟨by omega, by rw [List.length_map]; omega⟩]
theorem app_tm {told : List Tm} (m : Tm) (h : told.length ≤ 100) : app2 24 264 (some (.l (told.map tmG))) (some (.l [tmG m])) = some (.l ((told ++ [m]).map tmG)) := by
  rw [app2_l, if_pos]
  · rw [List.map_append]; rfl
  · refine ⟨rfl, ?_, ?_⟩ <;> simp only [List.length_map, List.length_cons, List.length_nil] <;> omega
theorem app_ans {back : List An} (m : An) (h : back.length ≤ 100) : app2 24 264 (some (.l (back.map ansG))) (some (.l [ansG m])) = some (.l ((back ++ [m]).map ansG)) := by
  rw [app2_l, if_pos]
  · rw [List.map_append]; rfl
  · refine ⟨rfl, ?_, ?_⟩ <;> simp only [List.length_map, List.length_cons, List.length_nil] <;> omega
theorem at_pick {pick : List Int} {i : Nat} (h : i < pick.length) : at2 1 (some (.l (fG pick))) (some (.i .i64 (i : Int))) = some (.i .u8 pick[i]) := by
  unfold fG
  rw [at2_i, if_pos (by omega), Int.toNat_natCast, List.getElem?_map, List.getElem?_eq_getElem h]; rfl
theorem Foll.getD {xs : List GV} {told : List Tm} {back : List An} {k : List Sn} {b : Int} {sm : Bool} {h : Sn} (f : Foll xs told back k b sm h) : (assocG (.i .u64 h.1) xs).getD (.g [.i .u64 0, .l []]) = sn h := by
  rcases f.has with ⟨-, q, -⟩ | ⟨-, q⟩
  · rw [q]; rfl
  · rw [q]
    show (assocG (.i .u64 0) xs).getD _ = _
    rw [f.zero]; rfl
theorem Foll.no {xs : List GV} {told : List Tm} {back : List An} {k : List Sn} {b : Int} {sm : Bool} {h : Sn} (f : Foll xs told back k b sm h) (e : sm = false) : h = zS := by
  rcases f.has with ⟨q, -⟩ | ⟨-, q⟩
  · rw [q] at e; cases e
  · exact q
set_option maxHeartbeats 4000000 in
theorem foll_one (pick : List Int) (hpick : ∀ p ∈ pick, 0 ≤ p ∧ p < 256) (acts : List SAct) (hacts : acts.length ≤ 20) (V : Int) (i : Nat) (hlt : i < acts.length) (xs : List GV) (told : List Tm) (back : List An) (k : List Sn) (b : Int) (sm : Bool) (h : Sn) (f : Foll xs told back k b sm h) (hto : told.length ≤ i) (hba : back.length ≤ i) (ha : ActOk acts[i])
    (hlen : ¬ 60 < acts[i].2.1.2.length) (hfew : few13 acts[i].2.1.2 = true) (y : Sn) (hy : nextS acts[i].2.1 acts[i].2.2.1 k = y)
    (ih : ∀ xs told back k b sm h, told.length ≤ i + 1 → back.length ≤ i + 1 → Foll xs told back k b sm h → FollAt pick acts V ((i : Int) + 1) xs told back k b sm h) : FollAt pick acts V (i : Int) xs told back k b sm h := by
  unfold FollAt at ih ⊢
  have hlt2 : (i : Int) < acts.length := by omega
  have hw := wrap64 (n := (i : Int) + 1) (by omega) (by omega)
  have hf2 := actfew_fn acts[i] ha
  rw [hfew] at hf2
  have hg := good_of ha.rows hfew
  have hlen' : ¬ (60 : Int) < (acts[i].2.1.2.length : Int) := by omega
  have hat : at2 5 (some (.l (acts.map sactG))) (some (.i .i64 (i : Int))) = some (sactG acts[i]) := by
    rw [at2_i, if_pos (by omega), Int.toNat_natCast, List.getElem?_map, List.getElem?_eq_getElem hlt]; rfl
  have h8 := f.lead.kp.len
  have hep := ha.ep
  generalize acts.map sactG = AG at *
  generalize acts[i] = a at *
  obtain ⟨d, x, ep, w⟩ := a
  simp only at *
  have hn := actnext_fn (.i .u8 d) (.i .i64 w) x ep (.i .i64 V) (.i .u64 b) k hg f.lead.kp
  obtain ⟨n1, n2, n3⟩ := next_good (ep := ep) f.lead.kp hg hep
  have hsf : GV.g [.i .u8 d, .i .u64 x.1, .l (x.2.map row), .i .u64 ep, .i .i64 w] = sactG (d, x, ep, w) := rfl
  rw [hy] at hn n1 n2 n3
  have hp := pub_fn y (.i .i64 V) k b n1 f.lead.kp
  have f1 := foll_pub f n1 ⟨n2, n3⟩
  have ey : GV.g [.i .u64 y.1, .l (y.2.map row)] = sn y := rfl
  by_cases p0 : (pubS y k b).1 = 0
  · by_cases m0 : (msgS V (pubS y k b).2.1 (pubS y k b).2.2).2 = 0
    · rw [if_pos p0] at f1
      have f1k := f1.lead
      have hm := msg_fn V (pubS y k b).2.1 (pubS y k b).2.2 f1k.kp
      have gm := (msg_goodM f1k m0).1
      generalize msgS V (pubS y k b).2.1 (pubS y k b).2.2 = M at *
      obtain ⟨⟨M1, M2, M3, M4⟩, M5⟩ := M
      simp only at m0
      subst m0
      have f2 := foll_told f1 gm
      simp only [msG] at hm
      have hap := app_tm (told := told) (M1, M2, M3, M4) (by omega)
      have htol : (told ++ [(M1, M2, M3, M4)]).length ≤ i + 1 := by simp; omega
      have hne : 0 < (told ++ [(M1, M2, M3, M4)]).length := by simp
      generalize told ++ [(M1, M2, M3, M4)] = TO at *
      generalize pubS y k b = P at *
      obtain ⟨p1, k2, b2⟩ := P
      simp only at hp f2 hm p0
      subst p0
      generalize hXS : putG (.i .u64 y.1) (sn y) xs = XS at *
      have hpl : ((fG pick).length : Int) = (pick.length : Int) := by unfold fG; rw [List.length_map]
      by_cases c1 : i < pick.length
      rotate_left
      · have c1' : ¬ (i : Int) < (pick.length : Int) := by omega
        have htb := f2.tb
        have hgd := f2.getD
        have hhv := have_any (.i .i64 V) sm h htb.good f2.no
        have hs1 := same1 h htb.good
        have hno : ¬ h.1 < h.1 := Int.lt_irrefl _
        obtain ⟨Q, hQ, ih⟩ := ih _ _ _ _ _ _ _ (by first | omega | (simp <;> omega)) (by first | omega | (simp <;> omega)) f2
        try simp only [List.map_nil] at ih
        refine ⟨Q, hQ, tree_lim rfl rfl ?_⟩
        simp -implicitDefEqProofs [↓goC_enter, -app2_l, -idx2_i, -at2_i, hlt2, hat, hlen', hsf, hf2, hw, hn, hp, hm, tmG_fold, hap, ey, hXS, hpl, c1', hhv, hs1, hgd, hno, ih]
      have c1' : (i : Int) < (pick.length : Int) := by omega
      have hpa := at_pick c1
      have hpr := hpick _ (List.getElem_mem c1)
      have hq1 : IntKind.i64.wrap pick[i] = pick[i] := wrap64 (by omega) (by omega)
      have hdv := Int.tdiv_eq_ediv_of_nonneg (a := pick[i]) (b := 3) hpr.1
      have hq2 : IntKind.u8.wrap (pick[i].tdiv 3) = pick[i].tdiv 3 := wrapu8 (by omega) (by omega)
      have hq3 : IntKind.i64.wrap (IntKind.u8.wrap (pick[i].tdiv 3)) = pick[i].tdiv 3 := by rw [hq2]; exact wrap64 (by omega) (by omega)
      have hne0 : (TO = []) = False := eq_false (List.length_pos_iff.1 hne)
      obtain ⟨j, hj, hjl⟩ := tmod_nat (p := IntKind.i64.wrap pick[i]) (n := TO.length) (by rw [hq1]; omega) hne
      obtain ⟨m, hmem, hatm, hidxm⟩ := at_tm hjl
      have htk := take_tm m V sm h (f2.told m hmem) f2.tb.good
      obtain ⟨f3, hle⟩ := foll_take f2 (f2.told m hmem) (checkM (bdyM m.1 m.2.1 m.2.2.1 m.2.2.2) [] V) V
      generalize takeR (checkM (bdyM m.1 m.2.1 m.2.2.1 m.2.2.2) [] V) V m.1 m.2.1 m.2.2.1 m.2.2.2 sm h = R at *
      obtain ⟨⟨a1, a2, a3, a4⟩, e3, sm3, h3⟩ := R
      simp only [takeG] at htk f3 hle
      have hapb := app_ans (back := back) (a1, a2, a3, a4) (by omega)
      have hbl' : (back ++ [(a1, a2, a3, a4)]).length ≤ i + 1 := by simp; omega
      have hbp : 0 < (back ++ [(a1, a2, a3, a4)]).length := by simp
      generalize back ++ [(a1, a2, a3, a4)] = BK at *
      have hbp0 : (BK = []) = False := eq_false (List.length_pos_iff.1 hbp)
      have hnl : ¬ h3.1 < h.1 := by omega
      by_cases c3 : pick[i].tmod 3 = 0
      · have c3' : (pick[i].tmod 3 = 0) = True := eq_true c3
        clear c3
        obtain ⟨j2, hj2, hj2l⟩ := tmod_nat (p := IntKind.i64.wrap (IntKind.u8.wrap (pick[i].tdiv 3))) (n := BK.length) (by rw [hq3]; omega) (by omega)
        obtain ⟨an, han, hata, hidxa⟩ := at_ans hj2l
        obtain ⟨fA, -⟩ := foll_ans f3 (f3.back an han)
        have hans := answer_fn an (.i .i64 V) k2 b2 (by have := f3.lead.kp.len; omega)
        generalize ansS an k2 b2 = AS at *
        obtain ⟨k3, b3⟩ := AS
        simp only at fA hans
        have htb := fA.tb
        have hgd := fA.getD
        have hhv := have_any (.i .i64 V) sm3 h3 htb.good fA.no
        have hs1 := same1 h3 htb.good
        have hno : ¬ h3.1 < h3.1 := Int.lt_irrefl _
        obtain ⟨Q, hQ, ih⟩ := ih _ _ _ _ _ _ _ (by first | omega | (simp <;> omega)) (by first | omega | (simp <;> omega)) fA
        try simp only [List.map_nil] at ih
        refine ⟨Q, hQ, tree_lim rfl rfl ?_⟩
        simp -implicitDefEqProofs [↓goC_enter, -app2_l, -idx2_i, -at2_i, hlt2, hat, hlen', hsf, hf2, hw, hn, hp, hm, tmG_fold, hap, ey, hXS, hpl, c1', hpa, hne, hne0, hj, hatm, hidxm, htk, ansG_fold, hapb, hbp, hbp0, hnl, c3', hj2, hata, hidxa, hans, hhv, hs1, hgd, hno, ih]
      · have c3' : (pick[i].tmod 3 = 0) = False := eq_false c3
        clear c3
        have htb := f3.tb
        have hgd := f3.getD
        have hhv := have_any (.i .i64 V) sm3 h3 htb.good f3.no
        have hs1 := same1 h3 htb.good
        have hno : ¬ h3.1 < h3.1 := Int.lt_irrefl _
        obtain ⟨Q, hQ, ih⟩ := ih _ _ _ _ _ _ _ (by first | omega | (simp <;> omega)) (by first | omega | (simp <;> omega)) f3
        try simp only [List.map_nil] at ih
        refine ⟨Q, hQ, tree_lim rfl rfl ?_⟩
        simp -implicitDefEqProofs [↓goC_enter, -app2_l, -idx2_i, -at2_i, hlt2, hat, hlen', hsf, hf2, hw, hn, hp, hm, tmG_fold, hap, ey, hXS, hpl, c1', hpa, hne, hne0, hj, hatm, hidxm, htk, ansG_fold, hapb, hbp, hbp0, hnl, c3', hhv, hs1, hgd, hno, ih]
    · rw [if_pos p0] at f1
      have f1k := f1.lead
      have hm := msg_fn V (pubS y k b).2.1 (pubS y k b).2.2 f1k.kp
      generalize msgS V (pubS y k b).2.1 (pubS y k b).2.2 = M at *
      obtain ⟨⟨M1, M2, M3, M4⟩, M5⟩ := M
      simp only at m0
      simp only [msG] at hm
      have htol : told.length ≤ i + 1 := by omega
      have f2 := f1
      generalize told = TO at *
      generalize pubS y k b = P at *
      obtain ⟨p1, k2, b2⟩ := P
      simp only at hp f2 hm p0
      subst p0
      generalize hXS : putG (.i .u64 y.1) (sn y) xs = XS at *
      have hpl : ((fG pick).length : Int) = (pick.length : Int) := by unfold fG; rw [List.length_map]
      by_cases c1 : i < pick.length
      rotate_left
      · have c1' : ¬ (i : Int) < (pick.length : Int) := by omega
        have htb := f2.tb
        have hgd := f2.getD
        have hhv := have_any (.i .i64 V) sm h htb.good f2.no
        have hs1 := same1 h htb.good
        have hno : ¬ h.1 < h.1 := Int.lt_irrefl _
        obtain ⟨Q, hQ, ih⟩ := ih _ _ _ _ _ _ _ (by first | omega | (simp <;> omega)) (by first | omega | (simp <;> omega)) f2
        try simp only [List.map_nil] at ih
        refine ⟨Q, hQ, tree_lim rfl rfl ?_⟩
        simp -implicitDefEqProofs [↓goC_enter, -app2_l, -idx2_i, -at2_i, hlt2, hat, hlen', hsf, hf2, hw, hn, hp, hm, m0, ey, hXS, hpl, c1', hhv, hs1, hgd, hno, ih]
      have c1' : (i : Int) < (pick.length : Int) := by omega
      have hpa := at_pick c1
      have hpr := hpick _ (List.getElem_mem c1)
      have hq1 : IntKind.i64.wrap pick[i] = pick[i] := wrap64 (by omega) (by omega)
      have hdv := Int.tdiv_eq_ediv_of_nonneg (a := pick[i]) (b := 3) hpr.1
      have hq2 : IntKind.u8.wrap (pick[i].tdiv 3) = pick[i].tdiv 3 := wrapu8 (by omega) (by omega)
      have hq3 : IntKind.i64.wrap (IntKind.u8.wrap (pick[i].tdiv 3)) = pick[i].tdiv 3 := by rw [hq2]; exact wrap64 (by omega) (by omega)
      by_cases c2 : TO = []
      · subst c2
        by_cases c4 : back = []
        · subst c4
          have htb := f2.tb
          have hgd := f2.getD
          have hhv := have_any (.i .i64 V) sm h htb.good f2.no
          have hs1 := same1 h htb.good
          have hno : ¬ h.1 < h.1 := Int.lt_irrefl _
          obtain ⟨Q, hQ, ih⟩ := ih _ _ _ _ _ _ _ (by first | omega | (simp <;> omega)) (by first | omega | (simp <;> omega)) f2
          try simp only [List.map_nil] at ih
          refine ⟨Q, hQ, tree_lim rfl rfl ?_⟩
          simp -implicitDefEqProofs [↓goC_enter, -app2_l, -idx2_i, -at2_i, hlt2, hat, hlen', hsf, hf2, hw, hn, hp, hm, m0, ey, hXS, hpl, c1', hpa, hhv, hs1, hgd, hno, ih]
        have c4 : 0 < back.length := List.length_pos_iff.2 c4
        have c4f : (back = []) = False := eq_false (List.length_pos_iff.1 c4)
        by_cases c3 : pick[i].tmod 3 = 0
        · have c3' : (pick[i].tmod 3 = 0) = True := eq_true c3
          clear c3
          obtain ⟨j2, hj2, hj2l⟩ := tmod_nat (p := IntKind.i64.wrap (IntKind.u8.wrap (pick[i].tdiv 3))) (n := back.length) (by rw [hq3]; omega) (by omega)
          obtain ⟨an, han, hata, hidxa⟩ := at_ans hj2l
          obtain ⟨fA, -⟩ := foll_ans f2 (f2.back an han)
          have hans := answer_fn an (.i .i64 V) k2 b2 (by have := f2.lead.kp.len; omega)
          generalize ansS an k2 b2 = AS at *
          obtain ⟨k3, b3⟩ := AS
          simp only at fA hans
          have htb := fA.tb
          have hgd := fA.getD
          have hhv := have_any (.i .i64 V) sm h htb.good fA.no
          have hs1 := same1 h htb.good
          have hno : ¬ h.1 < h.1 := Int.lt_irrefl _
          obtain ⟨Q, hQ, ih⟩ := ih _ _ _ _ _ _ _ (by first | omega | (simp <;> omega)) (by first | omega | (simp <;> omega)) fA
          try simp only [List.map_nil] at ih
          refine ⟨Q, hQ, tree_lim rfl rfl ?_⟩
          simp -implicitDefEqProofs [↓goC_enter, -app2_l, -idx2_i, -at2_i, hlt2, hat, hlen', hsf, hf2, hw, hn, hp, hm, m0, ey, hXS, hpl, c1', hpa, c4, c4f, c3', hj2, hata, hidxa, hans, hhv, hs1, hgd, hno, ih]
        · have c3' : (pick[i].tmod 3 = 0) = False := eq_false c3
          clear c3
          have htb := f2.tb
          have hgd := f2.getD
          have hhv := have_any (.i .i64 V) sm h htb.good f2.no
          have hs1 := same1 h htb.good
          have hno : ¬ h.1 < h.1 := Int.lt_irrefl _
          obtain ⟨Q, hQ, ih⟩ := ih _ _ _ _ _ _ _ (by first | omega | (simp <;> omega)) (by first | omega | (simp <;> omega)) f2
          try simp only [List.map_nil] at ih
          refine ⟨Q, hQ, tree_lim rfl rfl ?_⟩
          simp -implicitDefEqProofs [↓goC_enter, -app2_l, -idx2_i, -at2_i, hlt2, hat, hlen', hsf, hf2, hw, hn, hp, hm, m0, ey, hXS, hpl, c1', hpa, c4, c4f, c3', hhv, hs1, hgd, hno, ih]
      have hne : 0 < TO.length := List.length_pos_iff.2 c2
      have hne0 : (TO = []) = False := eq_false (List.length_pos_iff.1 hne)
      obtain ⟨j, hj, hjl⟩ := tmod_nat (p := IntKind.i64.wrap pick[i]) (n := TO.length) (by rw [hq1]; omega) hne
      obtain ⟨m, hmem, hatm, hidxm⟩ := at_tm hjl
      have htk := take_tm m V sm h (f2.told m hmem) f2.tb.good
      obtain ⟨f3, hle⟩ := foll_take f2 (f2.told m hmem) (checkM (bdyM m.1 m.2.1 m.2.2.1 m.2.2.2) [] V) V
      generalize takeR (checkM (bdyM m.1 m.2.1 m.2.2.1 m.2.2.2) [] V) V m.1 m.2.1 m.2.2.1 m.2.2.2 sm h = R at *
      obtain ⟨⟨a1, a2, a3, a4⟩, e3, sm3, h3⟩ := R
      simp only [takeG] at htk f3 hle
      have hapb := app_ans (back := back) (a1, a2, a3, a4) (by omega)
      have hbl' : (back ++ [(a1, a2, a3, a4)]).length ≤ i + 1 := by simp; omega
      have hbp : 0 < (back ++ [(a1, a2, a3, a4)]).length := by simp
      generalize back ++ [(a1, a2, a3, a4)] = BK at *
      have hbp0 : (BK = []) = False := eq_false (List.length_pos_iff.1 hbp)
      have hnl : ¬ h3.1 < h.1 := by omega
      by_cases c3 : pick[i].tmod 3 = 0
      · have c3' : (pick[i].tmod 3 = 0) = True := eq_true c3
        clear c3
        obtain ⟨j2, hj2, hj2l⟩ := tmod_nat (p := IntKind.i64.wrap (IntKind.u8.wrap (pick[i].tdiv 3))) (n := BK.length) (by rw [hq3]; omega) (by omega)
        obtain ⟨an, han, hata, hidxa⟩ := at_ans hj2l
        obtain ⟨fA, -⟩ := foll_ans f3 (f3.back an han)
        have hans := answer_fn an (.i .i64 V) k2 b2 (by have := f3.lead.kp.len; omega)
        generalize ansS an k2 b2 = AS at *
        obtain ⟨k3, b3⟩ := AS
        simp only at fA hans
        have htb := fA.tb
        have hgd := fA.getD
        have hhv := have_any (.i .i64 V) sm3 h3 htb.good fA.no
        have hs1 := same1 h3 htb.good
        have hno : ¬ h3.1 < h3.1 := Int.lt_irrefl _
        obtain ⟨Q, hQ, ih⟩ := ih _ _ _ _ _ _ _ (by first | omega | (simp <;> omega)) (by first | omega | (simp <;> omega)) fA
        try simp only [List.map_nil] at ih
        refine ⟨Q, hQ, tree_lim rfl rfl ?_⟩
        simp -implicitDefEqProofs [↓goC_enter, -app2_l, -idx2_i, -at2_i, hlt2, hat, hlen', hsf, hf2, hw, hn, hp, hm, m0, ey, hXS, hpl, c1', hpa, hne, hne0, hj, hatm, hidxm, htk, ansG_fold, hapb, hbp, hbp0, hnl, c3', hj2, hata, hidxa, hans, hhv, hs1, hgd, hno, ih]
      · have c3' : (pick[i].tmod 3 = 0) = False := eq_false c3
        clear c3
        have htb := f3.tb
        have hgd := f3.getD
        have hhv := have_any (.i .i64 V) sm3 h3 htb.good f3.no
        have hs1 := same1 h3 htb.good
        have hno : ¬ h3.1 < h3.1 := Int.lt_irrefl _
        obtain ⟨Q, hQ, ih⟩ := ih _ _ _ _ _ _ _ (by first | omega | (simp <;> omega)) (by first | omega | (simp <;> omega)) f3
        try simp only [List.map_nil] at ih
        refine ⟨Q, hQ, tree_lim rfl rfl ?_⟩
        simp -implicitDefEqProofs [↓goC_enter, -app2_l, -idx2_i, -at2_i, hlt2, hat, hlen', hsf, hf2, hw, hn, hp, hm, m0, ey, hXS, hpl, c1', hpa, hne, hne0, hj, hatm, hidxm, htk, ansG_fold, hapb, hbp, hbp0, hnl, c3', hhv, hs1, hgd, hno, ih]
  · by_cases m0 : (msgS V (pubS y k b).2.1 (pubS y k b).2.2).2 = 0
    · rw [if_neg p0] at f1
      have f1k := f1.lead
      have hm := msg_fn V (pubS y k b).2.1 (pubS y k b).2.2 f1k.kp
      have gm := (msg_goodM f1k m0).1
      generalize msgS V (pubS y k b).2.1 (pubS y k b).2.2 = M at *
      obtain ⟨⟨M1, M2, M3, M4⟩, M5⟩ := M
      simp only at m0
      subst m0
      have f2 := foll_told f1 gm
      simp only [msG] at hm
      have hap := app_tm (told := told) (M1, M2, M3, M4) (by omega)
      have htol : (told ++ [(M1, M2, M3, M4)]).length ≤ i + 1 := by simp; omega
      have hne : 0 < (told ++ [(M1, M2, M3, M4)]).length := by simp
      generalize told ++ [(M1, M2, M3, M4)] = TO at *
      generalize pubS y k b = P at *
      obtain ⟨p1, k2, b2⟩ := P
      simp only at hp f2 hm p0
      generalize hXS : xs = XS at *
      have hpl : ((fG pick).length : Int) = (pick.length : Int) := by unfold fG; rw [List.length_map]
      by_cases c1 : i < pick.length
      rotate_left
      · have c1' : ¬ (i : Int) < (pick.length : Int) := by omega
        have htb := f2.tb
        have hgd := f2.getD
        have hhv := have_any (.i .i64 V) sm h htb.good f2.no
        have hs1 := same1 h htb.good
        have hno : ¬ h.1 < h.1 := Int.lt_irrefl _
        obtain ⟨Q, hQ, ih⟩ := ih _ _ _ _ _ _ _ (by first | omega | (simp <;> omega)) (by first | omega | (simp <;> omega)) f2
        try simp only [List.map_nil] at ih
        refine ⟨Q, hQ, tree_lim rfl rfl ?_⟩
        simp -implicitDefEqProofs [↓goC_enter, -app2_l, -idx2_i, -at2_i, hlt2, hat, hlen', hsf, hf2, hw, hn, hp, hm, tmG_fold, hap, p0, ey, hpl, c1', hhv, hs1, hgd, hno, ih]
      have c1' : (i : Int) < (pick.length : Int) := by omega
      have hpa := at_pick c1
      have hpr := hpick _ (List.getElem_mem c1)
      have hq1 : IntKind.i64.wrap pick[i] = pick[i] := wrap64 (by omega) (by omega)
      have hdv := Int.tdiv_eq_ediv_of_nonneg (a := pick[i]) (b := 3) hpr.1
      have hq2 : IntKind.u8.wrap (pick[i].tdiv 3) = pick[i].tdiv 3 := wrapu8 (by omega) (by omega)
      have hq3 : IntKind.i64.wrap (IntKind.u8.wrap (pick[i].tdiv 3)) = pick[i].tdiv 3 := by rw [hq2]; exact wrap64 (by omega) (by omega)
      have hne0 : (TO = []) = False := eq_false (List.length_pos_iff.1 hne)
      obtain ⟨j, hj, hjl⟩ := tmod_nat (p := IntKind.i64.wrap pick[i]) (n := TO.length) (by rw [hq1]; omega) hne
      obtain ⟨m, hmem, hatm, hidxm⟩ := at_tm hjl
      have htk := take_tm m V sm h (f2.told m hmem) f2.tb.good
      obtain ⟨f3, hle⟩ := foll_take f2 (f2.told m hmem) (checkM (bdyM m.1 m.2.1 m.2.2.1 m.2.2.2) [] V) V
      generalize takeR (checkM (bdyM m.1 m.2.1 m.2.2.1 m.2.2.2) [] V) V m.1 m.2.1 m.2.2.1 m.2.2.2 sm h = R at *
      obtain ⟨⟨a1, a2, a3, a4⟩, e3, sm3, h3⟩ := R
      simp only [takeG] at htk f3 hle
      have hapb := app_ans (back := back) (a1, a2, a3, a4) (by omega)
      have hbl' : (back ++ [(a1, a2, a3, a4)]).length ≤ i + 1 := by simp; omega
      have hbp : 0 < (back ++ [(a1, a2, a3, a4)]).length := by simp
      generalize back ++ [(a1, a2, a3, a4)] = BK at *
      have hbp0 : (BK = []) = False := eq_false (List.length_pos_iff.1 hbp)
      have hnl : ¬ h3.1 < h.1 := by omega
      by_cases c3 : pick[i].tmod 3 = 0
      · have c3' : (pick[i].tmod 3 = 0) = True := eq_true c3
        clear c3
        obtain ⟨j2, hj2, hj2l⟩ := tmod_nat (p := IntKind.i64.wrap (IntKind.u8.wrap (pick[i].tdiv 3))) (n := BK.length) (by rw [hq3]; omega) (by omega)
        obtain ⟨an, han, hata, hidxa⟩ := at_ans hj2l
        obtain ⟨fA, -⟩ := foll_ans f3 (f3.back an han)
        have hans := answer_fn an (.i .i64 V) k2 b2 (by have := f3.lead.kp.len; omega)
        generalize ansS an k2 b2 = AS at *
        obtain ⟨k3, b3⟩ := AS
        simp only at fA hans
        have htb := fA.tb
        have hgd := fA.getD
        have hhv := have_any (.i .i64 V) sm3 h3 htb.good fA.no
        have hs1 := same1 h3 htb.good
        have hno : ¬ h3.1 < h3.1 := Int.lt_irrefl _
        obtain ⟨Q, hQ, ih⟩ := ih _ _ _ _ _ _ _ (by first | omega | (simp <;> omega)) (by first | omega | (simp <;> omega)) fA
        try simp only [List.map_nil] at ih
        refine ⟨Q, hQ, tree_lim rfl rfl ?_⟩
        simp -implicitDefEqProofs [↓goC_enter, -app2_l, -idx2_i, -at2_i, hlt2, hat, hlen', hsf, hf2, hw, hn, hp, hm, tmG_fold, hap, p0, ey, hpl, c1', hpa, hne, hne0, hj, hatm, hidxm, htk, ansG_fold, hapb, hbp, hbp0, hnl, c3', hj2, hata, hidxa, hans, hhv, hs1, hgd, hno, ih]
      · have c3' : (pick[i].tmod 3 = 0) = False := eq_false c3
        clear c3
        have htb := f3.tb
        have hgd := f3.getD
        have hhv := have_any (.i .i64 V) sm3 h3 htb.good f3.no
        have hs1 := same1 h3 htb.good
        have hno : ¬ h3.1 < h3.1 := Int.lt_irrefl _
        obtain ⟨Q, hQ, ih⟩ := ih _ _ _ _ _ _ _ (by first | omega | (simp <;> omega)) (by first | omega | (simp <;> omega)) f3
        try simp only [List.map_nil] at ih
        refine ⟨Q, hQ, tree_lim rfl rfl ?_⟩
        simp -implicitDefEqProofs [↓goC_enter, -app2_l, -idx2_i, -at2_i, hlt2, hat, hlen', hsf, hf2, hw, hn, hp, hm, tmG_fold, hap, p0, ey, hpl, c1', hpa, hne, hne0, hj, hatm, hidxm, htk, ansG_fold, hapb, hbp, hbp0, hnl, c3', hhv, hs1, hgd, hno, ih]
    · rw [if_neg p0] at f1
      have f1k := f1.lead
      have hm := msg_fn V (pubS y k b).2.1 (pubS y k b).2.2 f1k.kp
      generalize msgS V (pubS y k b).2.1 (pubS y k b).2.2 = M at *
      obtain ⟨⟨M1, M2, M3, M4⟩, M5⟩ := M
      simp only at m0
      simp only [msG] at hm
      have htol : told.length ≤ i + 1 := by omega
      have f2 := f1
      generalize told = TO at *
      generalize pubS y k b = P at *
      obtain ⟨p1, k2, b2⟩ := P
      simp only at hp f2 hm p0
      generalize hXS : xs = XS at *
      have hpl : ((fG pick).length : Int) = (pick.length : Int) := by unfold fG; rw [List.length_map]
      by_cases c1 : i < pick.length
      rotate_left
      · have c1' : ¬ (i : Int) < (pick.length : Int) := by omega
        have htb := f2.tb
        have hgd := f2.getD
        have hhv := have_any (.i .i64 V) sm h htb.good f2.no
        have hs1 := same1 h htb.good
        have hno : ¬ h.1 < h.1 := Int.lt_irrefl _
        obtain ⟨Q, hQ, ih⟩ := ih _ _ _ _ _ _ _ (by first | omega | (simp <;> omega)) (by first | omega | (simp <;> omega)) f2
        try simp only [List.map_nil] at ih
        refine ⟨Q, hQ, tree_lim rfl rfl ?_⟩
        simp -implicitDefEqProofs [↓goC_enter, -app2_l, -idx2_i, -at2_i, hlt2, hat, hlen', hsf, hf2, hw, hn, hp, hm, m0, p0, ey, hpl, c1', hhv, hs1, hgd, hno, ih]
      have c1' : (i : Int) < (pick.length : Int) := by omega
      have hpa := at_pick c1
      have hpr := hpick _ (List.getElem_mem c1)
      have hq1 : IntKind.i64.wrap pick[i] = pick[i] := wrap64 (by omega) (by omega)
      have hdv := Int.tdiv_eq_ediv_of_nonneg (a := pick[i]) (b := 3) hpr.1
      have hq2 : IntKind.u8.wrap (pick[i].tdiv 3) = pick[i].tdiv 3 := wrapu8 (by omega) (by omega)
      have hq3 : IntKind.i64.wrap (IntKind.u8.wrap (pick[i].tdiv 3)) = pick[i].tdiv 3 := by rw [hq2]; exact wrap64 (by omega) (by omega)
      by_cases c2 : TO = []
      · subst c2
        by_cases c4 : back = []
        · subst c4
          have htb := f2.tb
          have hgd := f2.getD
          have hhv := have_any (.i .i64 V) sm h htb.good f2.no
          have hs1 := same1 h htb.good
          have hno : ¬ h.1 < h.1 := Int.lt_irrefl _
          obtain ⟨Q, hQ, ih⟩ := ih _ _ _ _ _ _ _ (by first | omega | (simp <;> omega)) (by first | omega | (simp <;> omega)) f2
          try simp only [List.map_nil] at ih
          refine ⟨Q, hQ, tree_lim rfl rfl ?_⟩
          simp -implicitDefEqProofs [↓goC_enter, -app2_l, -idx2_i, -at2_i, hlt2, hat, hlen', hsf, hf2, hw, hn, hp, hm, m0, p0, ey, hpl, c1', hpa, hhv, hs1, hgd, hno, ih]
        have c4 : 0 < back.length := List.length_pos_iff.2 c4
        have c4f : (back = []) = False := eq_false (List.length_pos_iff.1 c4)
        by_cases c3 : pick[i].tmod 3 = 0
        · have c3' : (pick[i].tmod 3 = 0) = True := eq_true c3
          clear c3
          obtain ⟨j2, hj2, hj2l⟩ := tmod_nat (p := IntKind.i64.wrap (IntKind.u8.wrap (pick[i].tdiv 3))) (n := back.length) (by rw [hq3]; omega) (by omega)
          obtain ⟨an, han, hata, hidxa⟩ := at_ans hj2l
          obtain ⟨fA, -⟩ := foll_ans f2 (f2.back an han)
          have hans := answer_fn an (.i .i64 V) k2 b2 (by have := f2.lead.kp.len; omega)
          generalize ansS an k2 b2 = AS at *
          obtain ⟨k3, b3⟩ := AS
          simp only at fA hans
          have htb := fA.tb
          have hgd := fA.getD
          have hhv := have_any (.i .i64 V) sm h htb.good fA.no
          have hs1 := same1 h htb.good
          have hno : ¬ h.1 < h.1 := Int.lt_irrefl _
          obtain ⟨Q, hQ, ih⟩ := ih _ _ _ _ _ _ _ (by first | omega | (simp <;> omega)) (by first | omega | (simp <;> omega)) fA
          try simp only [List.map_nil] at ih
          refine ⟨Q, hQ, tree_lim rfl rfl ?_⟩
          simp -implicitDefEqProofs [↓goC_enter, -app2_l, -idx2_i, -at2_i, hlt2, hat, hlen', hsf, hf2, hw, hn, hp, hm, m0, p0, ey, hpl, c1', hpa, c4, c4f, c3', hj2, hata, hidxa, hans, hhv, hs1, hgd, hno, ih]
        · have c3' : (pick[i].tmod 3 = 0) = False := eq_false c3
          clear c3
          have htb := f2.tb
          have hgd := f2.getD
          have hhv := have_any (.i .i64 V) sm h htb.good f2.no
          have hs1 := same1 h htb.good
          have hno : ¬ h.1 < h.1 := Int.lt_irrefl _
          obtain ⟨Q, hQ, ih⟩ := ih _ _ _ _ _ _ _ (by first | omega | (simp <;> omega)) (by first | omega | (simp <;> omega)) f2
          try simp only [List.map_nil] at ih
          refine ⟨Q, hQ, tree_lim rfl rfl ?_⟩
          simp -implicitDefEqProofs [↓goC_enter, -app2_l, -idx2_i, -at2_i, hlt2, hat, hlen', hsf, hf2, hw, hn, hp, hm, m0, p0, ey, hpl, c1', hpa, c4, c4f, c3', hhv, hs1, hgd, hno, ih]
      have hne : 0 < TO.length := List.length_pos_iff.2 c2
      have hne0 : (TO = []) = False := eq_false (List.length_pos_iff.1 hne)
      obtain ⟨j, hj, hjl⟩ := tmod_nat (p := IntKind.i64.wrap pick[i]) (n := TO.length) (by rw [hq1]; omega) hne
      obtain ⟨m, hmem, hatm, hidxm⟩ := at_tm hjl
      have htk := take_tm m V sm h (f2.told m hmem) f2.tb.good
      obtain ⟨f3, hle⟩ := foll_take f2 (f2.told m hmem) (checkM (bdyM m.1 m.2.1 m.2.2.1 m.2.2.2) [] V) V
      generalize takeR (checkM (bdyM m.1 m.2.1 m.2.2.1 m.2.2.2) [] V) V m.1 m.2.1 m.2.2.1 m.2.2.2 sm h = R at *
      obtain ⟨⟨a1, a2, a3, a4⟩, e3, sm3, h3⟩ := R
      simp only [takeG] at htk f3 hle
      have hapb := app_ans (back := back) (a1, a2, a3, a4) (by omega)
      have hbl' : (back ++ [(a1, a2, a3, a4)]).length ≤ i + 1 := by simp; omega
      have hbp : 0 < (back ++ [(a1, a2, a3, a4)]).length := by simp
      generalize back ++ [(a1, a2, a3, a4)] = BK at *
      have hbp0 : (BK = []) = False := eq_false (List.length_pos_iff.1 hbp)
      have hnl : ¬ h3.1 < h.1 := by omega
      by_cases c3 : pick[i].tmod 3 = 0
      · have c3' : (pick[i].tmod 3 = 0) = True := eq_true c3
        clear c3
        obtain ⟨j2, hj2, hj2l⟩ := tmod_nat (p := IntKind.i64.wrap (IntKind.u8.wrap (pick[i].tdiv 3))) (n := BK.length) (by rw [hq3]; omega) (by omega)
        obtain ⟨an, han, hata, hidxa⟩ := at_ans hj2l
        obtain ⟨fA, -⟩ := foll_ans f3 (f3.back an han)
        have hans := answer_fn an (.i .i64 V) k2 b2 (by have := f3.lead.kp.len; omega)
        generalize ansS an k2 b2 = AS at *
        obtain ⟨k3, b3⟩ := AS
        simp only at fA hans
        have htb := fA.tb
        have hgd := fA.getD
        have hhv := have_any (.i .i64 V) sm3 h3 htb.good fA.no
        have hs1 := same1 h3 htb.good
        have hno : ¬ h3.1 < h3.1 := Int.lt_irrefl _
        obtain ⟨Q, hQ, ih⟩ := ih _ _ _ _ _ _ _ (by first | omega | (simp <;> omega)) (by first | omega | (simp <;> omega)) fA
        try simp only [List.map_nil] at ih
        refine ⟨Q, hQ, tree_lim rfl rfl ?_⟩
        simp -implicitDefEqProofs [↓goC_enter, -app2_l, -idx2_i, -at2_i, hlt2, hat, hlen', hsf, hf2, hw, hn, hp, hm, m0, p0, ey, hpl, c1', hpa, hne, hne0, hj, hatm, hidxm, htk, ansG_fold, hapb, hbp, hbp0, hnl, c3', hj2, hata, hidxa, hans, hhv, hs1, hgd, hno, ih]
      · have c3' : (pick[i].tmod 3 = 0) = False := eq_false c3
        clear c3
        have htb := f3.tb
        have hgd := f3.getD
        have hhv := have_any (.i .i64 V) sm3 h3 htb.good f3.no
        have hs1 := same1 h3 htb.good
        have hno : ¬ h3.1 < h3.1 := Int.lt_irrefl _
        obtain ⟨Q, hQ, ih⟩ := ih _ _ _ _ _ _ _ (by first | omega | (simp <;> omega)) (by first | omega | (simp <;> omega)) f3
        try simp only [List.map_nil] at ih
        refine ⟨Q, hQ, tree_lim rfl rfl ?_⟩
        simp -implicitDefEqProofs [↓goC_enter, -app2_l, -idx2_i, -at2_i, hlt2, hat, hlen', hsf, hf2, hw, hn, hp, hm, m0, p0, ey, hpl, c1', hpa, hne, hne0, hj, hatm, hidxm, htk, ansG_fold, hapb, hbp, hbp0, hnl, c3', hhv, hs1, hgd, hno, ih]
theorem foll0 (pick : List Int) (hpick : ∀ p ∈ pick, 0 ≤ p ∧ p < 256) (acts : List SAct) (hacts : acts.length ≤ 20) (hok : ∀ a ∈ acts, ActOk a) (V : Int) : ∀ (m i : Nat) (xs : List GV) (told : List Tm) (back : List An) (k : List Sn) (b : Int) (sm : Bool) (h : Sn), i + m = acts.length → told.length ≤ i → back.length ≤ i → Foll xs told back k b sm h → FollAt pick acts V (i : Int) xs told back k b sm h
  | 0, i, xs, told, back, k, b, sm, h, hi, _, _, f => by
    have hn : ¬ ((i : Int) < acts.length) := by omega
    refine ⟨_, .inr ⟨xs, told, back, k, b, sm, h, f, rfl⟩, tree_lim rfl rfl ?_⟩
    simp -implicitDefEqProofs [hn]
  | m + 1, i, xs, told, back, k, b, sm, h, hi, hto, hba, f => by
    have hlt : i < acts.length := by omega
    have hlt2 : (i : Int) < acts.length := by omega
    have ha := hok _ (List.getElem_mem hlt)
    by_cases hlen : 60 < acts[i].2.1.2.length
    · have hlen' : (60 : Int) < (acts[i].2.1.2.length : Int) := by omega
      refine ⟨_, .inl rfl, tree_lim rfl rfl ?_⟩
      simp -implicitDefEqProofs [hlt, hlt2, hlen']
    have hlen' : ¬ (60 : Int) < (acts[i].2.1.2.length : Int) := by omega
    have hf := actfew_fn acts[i] ha
    have hsf : GV.g [.i .u8 acts[i].1, .i .u64 acts[i].2.1.1, .l (acts[i].2.1.2.map row), .i .u64 acts[i].2.2.1, .i .i64 acts[i].2.2.2] = sactG acts[i] := rfl
    cases hfew : few13 acts[i].2.1.2 with
    | false =>
      rw [hfew] at hf
      refine ⟨_, .inl rfl, tree_lim rfl rfl ?_⟩
      simp -implicitDefEqProofs [hlt, hlt2, hlen', hsf, hf]
    | true =>
      have hcast : ((i + 1 : Nat) : Int) = (i : Int) + 1 := by omega
      have ih : ∀ xs told back k b sm h, told.length ≤ i + 1 → back.length ≤ i + 1 → Foll xs told back k b sm h → FollAt pick acts V ((i : Int) + 1) xs told back k b sm h := fun xs told back k b sm h q1 q2 q3 => by
        rw [← hcast]; exact foll0 pick hpick acts hacts hok V m (i + 1) xs told back k b sm h (by omega) q1 q2 q3
      exact foll_one pick hpick acts hacts V i hlt xs told back k b sm h f hto hba ha hlen hfew _ rfl ih
theorem names_full (V ep : Int) (t : List Row) (hV : V = 1 ∨ V = 2 ∨ V = 3) : (namesL.all fun n => hasN (knownF 5 V) n || nothB (bdyM 5 ep 0 t) n) = true := by
  rcases hV with rfl | rfl | rfl <;> rfl
theorem names_delta (V ep ba : Int) (t : List Row) (hV : V = 2 ∨ V = 3) : (namesL.all fun n => hasN (knownF 6 V) n || nothB (bdyM 6 ep ba t) n) = true := by
  rcases hV with rfl | rfl <;> rfl
theorem may_full (V ep : Int) (t : List Row) (hV : V = 1 ∨ V = 2 ∨ V = 3) (ht : checkT t = 0) : mayL (bdyM 5 ep 0 t) (knownF 5 V) = 0 := by
  have hu : utfChk [] 0 256 = 0 := rfl
  have h1 : mayB (bdyM 5 ep 0 t) n_epoch = 0 := rfl
  have h2 : mayB (bdyM 5 ep 0 t) n_table = checkT t := rfl
  have h3 : mayB (bdyM 5 ep 0 t) n_region = utfChk [] 0 256 := rfl
  have h4 : mayB (bdyM 5 ep 0 t) n_digest = 0 := rfl
  have k1 : knownF 5 1 = [⟨1, 0, 1, n_epoch⟩, ⟨2, 5, 1, n_table⟩] := rfl
  have k2 : knownF 5 2 = [⟨1, 0, 1, n_epoch⟩, ⟨2, 5, 1, n_table⟩, ⟨3, 3, 2, n_region⟩] := rfl
  have k3 : knownF 5 3 = [⟨1, 0, 1, n_epoch⟩, ⟨2, 5, 1, n_table⟩, ⟨3, 3, 2, n_region⟩, ⟨4, 0, 3, n_digest⟩] := rfl
  rcases hV with rfl | rfl | rfl
  · rw [k1]; simp only [mayL, h1, h2, ht, if_true]
  · rw [k2]; simp only [mayL, h1, h2, h3, hu, ht, if_true]
  · rw [k3]; simp only [mayL, h1, h2, h3, h4, hu, ht, if_true]
theorem may_delta (V ep ba : Int) (t : List Row) (hV : V = 2 ∨ V = 3) (ht : checkT t = 0) : mayL (bdyM 6 ep ba t) (knownF 6 V) = 0 := by
  have hu : utfChk [] 0 256 = 0 := rfl
  have h0 : mayB (bdyM 6 ep ba t) n_base = 0 := rfl
  have h1 : mayB (bdyM 6 ep ba t) n_epoch = 0 := rfl
  have h2 : mayB (bdyM 6 ep ba t) n_table = checkT t := rfl
  have h3 : mayB (bdyM 6 ep ba t) n_region = utfChk [] 0 256 := rfl
  have h4 : mayB (bdyM 6 ep ba t) n_digest = 0 := rfl
  have k2 : knownF 6 2 = [⟨1, 0, 2, n_base⟩, ⟨2, 0, 2, n_epoch⟩, ⟨3, 5, 2, n_table⟩, ⟨4, 3, 2, n_region⟩] := rfl
  have k3 : knownF 6 3 = [⟨1, 0, 2, n_base⟩, ⟨2, 0, 2, n_epoch⟩, ⟨3, 5, 2, n_table⟩, ⟨4, 3, 2, n_region⟩, ⟨5, 0, 3, n_digest⟩] := rfl
  rcases hV with rfl | rfl
  · rw [k2]; simp only [mayL, h0, h1, h2, h3, hu, ht, if_true]
  · rw [k3]; simp only [mayL, h0, h1, h2, h3, h4, hu, ht, if_true]
theorem rest_nil (sp : List Spc) : restM sp [] = 0 := by
  have h : chkFL 0 0 [] = 0 := by unfold chkFL; rfl
  unfold restM
  rw [if_neg (by rw [h]; simp), if_neg (by simp)]
theorem chk_good {xs : List GV} {m : Tm} {V : Int} (h1 : 1 ≤ V) (h3 : V ≤ 3) (hm : GoodM xs m) (h6 : m.1 = 6 → 2 ≤ V) : checkM (bdyM m.1 m.2.1 m.2.2.1 m.2.2.2) [] V = 0 := by
  rcases hm with ⟨m1, m2, m3, m4, -⟩ | ⟨m1, m2, m3, -⟩
  · have hV : V = 1 ∨ V = 2 ∨ V = 3 := by omega
    rw [m1, m4]
    unfold checkM
    have hk : knownF (bdyM 5 m.2.1 0 m.2.2.2).kind V ≠ [] := (by rcases hV with rfl | rfl | rfl <;> decide : knownF 5 V ≠ [])
    have hn : (namesL.all fun n => hasN (knownF (bdyM 5 m.2.1 0 m.2.2.2).kind V) n || nothB (bdyM 5 m.2.1 0 m.2.2.2) n) = true := names_full V m.2.1 m.2.2.2 hV
    have hy : mayL (bdyM 5 m.2.1 0 m.2.2.2) (knownF (bdyM 5 m.2.1 0 m.2.2.2).kind V) = 0 := may_full V m.2.1 m.2.2.2 hV ((checkT_iff _).2 m2.ok)
    have hb : boundsF (bdyM 5 m.2.1 0 m.2.2.2) = 0 := by
      show (if m.2.1 < 1 then (18 : Int) else 0) = 0
      rw [if_neg (by omega)]
    rw [if_neg (by omega), if_neg (by omega), if_neg hk, if_neg (by rw [hn]; simp), if_neg (by rw [hy]; simp), if_neg (by rw [hb]; simp)]
    exact rest_nil _
  · have hV : V = 2 ∨ V = 3 := by have := h6 m1; omega
    rw [m1]
    unfold checkM
    have hk : knownF (bdyM 6 m.2.1 m.2.2.1 m.2.2.2).kind V ≠ [] := (by rcases hV with rfl | rfl <;> decide : knownF 6 V ≠ [])
    have hn : (namesL.all fun n => hasN (knownF (bdyM 6 m.2.1 m.2.2.1 m.2.2.2).kind V) n || nothB (bdyM 6 m.2.1 m.2.2.1 m.2.2.2) n) = true := names_delta V m.2.1 m.2.2.1 m.2.2.2 hV
    have hy : mayL (bdyM 6 m.2.1 m.2.2.1 m.2.2.2) (knownF (bdyM 6 m.2.1 m.2.2.1 m.2.2.2).kind V) = 0 := may_delta V m.2.1 m.2.2.1 m.2.2.2 hV ((checkT_iff _).2 m2.ok)
    have hb : boundsF (bdyM 6 m.2.1 m.2.2.1 m.2.2.2) = 0 := by
      show (if m.2.2.1 < 1 then (18 : Int) else if m.2.1 ≤ m.2.2.1 then 20 else 0) = 0
      rw [if_neg (by omega), if_neg (by omega)]
    rw [if_neg (by omega), if_neg (by omega), if_neg hk, if_neg (by rw [hn]; simp), if_neg (by rw [hy]; simp), if_neg (by rw [hb]; simp)]
    exact rest_nil _
/-- A round at the end. -/
def roundR (V : Int) (k : List Sn) (b : Int) (sm : Bool) (h : Sn) : (List Sn × Int) × Bool × Sn :=
  if (msgS V k b).2 = 0 then
    (ansS (takeR (checkM (bdyM (msgS V k b).1.1 (msgS V k b).1.2.1 (msgS V k b).1.2.2.1 (msgS V k b).1.2.2.2) [] V) V (msgS V k b).1.1 (msgS V k b).1.2.1 (msgS V k b).1.2.2.1 (msgS V k b).1.2.2.2 sm h).1 k b,
     (takeR (checkM (bdyM (msgS V k b).1.1 (msgS V k b).1.2.1 (msgS V k b).1.2.2.1 (msgS V k b).1.2.2.2) [] V) V (msgS V k b).1.1 (msgS V k b).1.2.1 (msgS V k b).1.2.2.1 (msgS V k b).1.2.2.2 sm h).2.2)
  else ((k, b), sm, h)
theorem round_tree {xs : List GV} {told : List Tm} {back : List An} {k : List Sn} {b : Int} {sm : Bool} {h : Sn} (f : Foll xs told back k b sm h) (V : Int) (i : Int) (hi : i < 3) (h0 : 0 ≤ i) (Q : List GV)
    (ih : TT.lim 106 [.i .i64 (i + 1), .i .i64 V, .b (roundR V k b sm h).2.1, .i .u64 (roundR V k b sm h).2.2.1, .l ((roundR V k b sm h).2.2.2.map row), .l ((roundR V k b sm h).1.1.map sn), .i .u64 (roundR V k b sm h).1.2] = some Q) :
    TT.lim 106 [.i .i64 i, .i .i64 V, .b sm, .i .u64 h.1, .l (h.2.map row), .l (k.map sn), .i .u64 b] = some Q := by
  have hm := msg_fn V k b f.lead.kp
  have hw := wrap64 (n := i + 1) (by omega) (by omega)
  have h8 := f.lead.kp.len
  unfold roundR at ih
  by_cases m0 : (msgS V k b).2 = 0
  · rw [if_pos m0] at ih
    have gm := (msg_goodM f.lead m0).1
    generalize msgS V k b = M at *
    obtain ⟨⟨M1, M2, M3, M4⟩, M5⟩ := M
    simp only at m0 ih
    subst m0
    simp only [msG] at hm
    have htk := take_tm (M1, M2, M3, M4) V sm h gm f.tb.good
    simp only at htk
    generalize takeR (checkM (bdyM M1 M2 M3 M4) [] V) V M1 M2 M3 M4 sm h = R at *
    obtain ⟨⟨a1, a2, a3, a4⟩, e3, sm3, h3⟩ := R
    simp only [takeG] at htk ih
    have hans := answer_fn (a1, a2, a3, a4) (.i .i64 V) k b (by omega)
    generalize ansS (a1, a2, a3, a4) k b = AS at *
    simp only at hans
    refine tree_lim rfl rfl ?_
    simp -implicitDefEqProofs [hi, hm, htk, hans, hw, ih]
  · rw [if_neg m0] at ih
    generalize msgS V k b = M at *
    obtain ⟨⟨M1, M2, M3, M4⟩, M5⟩ := M
    simp only at m0
    simp only [msG] at hm
    refine tree_lim rfl rfl ?_
    simp -implicitDefEqProofs [hi, hm, m0, hw, ih]
theorem round_foll {xs : List GV} {told : List Tm} {back : List An} {k : List Sn} {b : Int} {sm : Bool} {h : Sn} (f : Foll xs told back k b sm h) (V : Int) :
    ∃ back', Foll xs told back' (roundR V k b sm h).1.1 (roundR V k b sm h).1.2 (roundR V k b sm h).2.1 (roundR V k b sm h).2.2 ∧ (roundR V k b sm h).1.1.getLast? = k.getLast? := by
  unfold roundR
  by_cases m0 : (msgS V k b).2 = 0
  · rw [if_pos m0]
    have gm := (msg_goodM f.lead m0).1
    have ft := (foll_take f gm (checkM (bdyM (msgS V k b).1.1 (msgS V k b).1.2.1 (msgS V k b).1.2.2.1 (msgS V k b).1.2.2.2) [] V) V).1
    generalize takeR (checkM (bdyM (msgS V k b).1.1 (msgS V k b).1.2.1 (msgS V k b).1.2.2.1 (msgS V k b).1.2.2.2) [] V) V (msgS V k b).1.1 (msgS V k b).1.2.1 (msgS V k b).1.2.2.1 (msgS V k b).1.2.2.2 sm h = R at *
    have fa := foll_ans ft (a := R.1) (ft.back R.1 (by simp))
    exact ⟨_, fa.1, fa.2⟩
  · rw [if_neg m0]; exact ⟨back, f, rfl⟩
/-- What the receiver has is no newer than the last one. -/
theorem Foll.le_last {xs : List GV} {told : List Tm} {back : List An} {k : List Sn} {b : Int} {sm : Bool} {h l : Sn} (f : Foll xs told back k b sm h) (hl : k.getLast? = some l) : h.1 ≤ l.1 ∧ (sm = true → h.1 = l.1 → h = l) := by
  have hlm := f.lead.map l (List.mem_of_getLast? hl)
  have hlp := f.lead.kp.pos l (List.mem_of_getLast? hl)
  rcases f.has with ⟨h1, h2, h3⟩ | ⟨h1, h2⟩
  · obtain ⟨l', e1, e2⟩ := f.keys _ _ h2
    rw [hl] at e1
    injection e1 with e1
    subst e1
    refine ⟨e2, fun _ e => ?_⟩
    rw [e, hlm] at h2
    injection h2 with h2
    exact (sn_inj h2).symm
  · refine ⟨by rw [h2]; simp only [zS]; omega, fun e => by rw [h1] at e; cases e⟩
theorem round_same {xs : List GV} {told : List Tm} {back : List An} {k : List Sn} {b : Int} {h l : Sn} (f : Foll xs told back k b true h) (hl : k.getLast? = some l) (he : h = l) (V : Int) : (roundR V k b true h).2 = (true, l) := by
  unfold roundR
  by_cases m0 : (msgS V k b).2 = 0
  · rw [if_pos m0]
    obtain ⟨gm, l', e1, e2, -⟩ := msg_goodM f.lead m0
    rw [hl] at e1
    injection e1 with e1
    subst e1
    generalize checkM (bdyM (msgS V k b).1.1 (msgS V k b).1.2.1 (msgS V k b).1.2.2.1 (msgS V k b).1.2.2.2) [] V = c at *
    generalize (msgS V k b).1 = M at *
    subst he
    unfold takeR
    have hst : (true = true ∧ M.2.1 ≤ h.1) := ⟨rfl, by omega⟩
    repeat' split
    all_goals first | rfl | contradiction
  · rw [if_neg m0, he]
theorem round_new {xs : List GV} {told : List Tm} {back : List An} {k : List Sn} {b : Int} {sm : Bool} {h l : Sn} (f : Foll xs told back k b sm h) (hl : k.getLast? = some l) (V : Int) (h1 : 1 ≤ V) (h3 : V ≤ 3) (hb0 : 0 ≤ b) :
    (roundR V k b sm h).2 = (true, l) ∨ (b ≠ 0 ∧ (roundR V k b sm h).1.2 = 0) := by
  obtain ⟨hle, heq⟩ := f.le_last hl
  have hlp := f.lead.kp.pos l (List.mem_of_getLast? hl)
  have hlm := f.lead.map l (List.mem_of_getLast? hl)
  by_cases hsame : sm = true ∧ h.1 = l.1
  · obtain ⟨rfl, e⟩ := hsame
    have := heq rfl e
    exact .inl (round_same f hl this V)
  have hlt : ¬ (sm = true ∧ l.1 ≤ h.1) := fun e => hsame ⟨e.1, by omega⟩
  have hlb : l.1 ≠ b := by
    intro e
    rcases f.base with q | ⟨q1, q2⟩
    · omega
    · exact hlt ⟨q1, by omega⟩
  have m0 : (msgS V k b).2 = 0 := by
    unfold msgS
    rw [hl]
    simp only
    rw [if_neg hlb]
    cases hf : findS b k with
    | none => rfl
    | some i =>
      obtain ⟨s, hs, -, hi⟩ := findS_some hf
      obtain ⟨hd, -⟩ := kp_diff f.lead.kp hl hlb hf hs
      simp only [hs]
      split
      · rw [if_neg (by simp [hd])]
      · rfl
  obtain ⟨gm, l', e1, e2, -, e6, e5⟩ := msg_goodM f.lead m0
  rw [hl] at e1
  injection e1 with e1
  subst e1
  have hc := chk_good h1 h3 gm fun e => (e6 e).1
  unfold roundR
  rw [if_pos m0, hc]
  generalize (msgS V k b).1 = M at *
  obtain ⟨M1, M2, M3, M4⟩ := M
  simp only at e2 e5 e6 gm ⊢
  subst e2
  unfold takeR
  rw [if_neg (by simp)]
  rcases gm with ⟨m1, -⟩ | ⟨m1, m2, m3, s, l2, m4, m5, m6, m7, m8, m9⟩
  · simp only at m1
    have ht := e5 m1
    rw [if_pos m1, if_neg hlt]
    simp only
    rw [ht]
    exact .inl rfl
  · simp only at m1 m4 m5 m6 m7 m9
    obtain ⟨v2, bn, bb⟩ := e6 m1
    rw [if_neg (by omega), if_pos m1, if_neg hlt]
    by_cases ha : (applyS h (M3, l.1, M4)).2 = 0
    rotate_left
    · rw [if_pos ha]
      refine .inr ⟨bn, ?_⟩
      simp only
      unfold ansS
      simp
    · rw [if_neg (by simpa using ha)]
      refine .inl ?_
      have hb := (applyS_ok ha).2.2.1
      simp only at hb
      have hs : h = s := by
        rcases f.has with ⟨-, q, -⟩ | ⟨-, q⟩
        · rw [hb, m4] at q
          injection q with q
          exact (sn_inj q).symm
        · exfalso
          rw [q] at hb
          simp only [zS] at hb
          omega
      have hl2 : l2 = l := by
        rw [hlm] at m5
        injection m5 with m5
        exact (sn_inj m5).symm
      simp only
      rw [hs, m9, hl2]
theorem fin_tree {xs : List GV} {told : List Tm} {back : List An} {k : List Sn} {b : Int} {sm : Bool} {h : Sn} (f : Foll xs told back k b sm h) (V : Int) (h1 : 1 ≤ V) (h3 : V ≤ 3) (hb : ∀ k b, Lead xs k b → 0 ≤ b) :
    ∃ (k' : List Sn) (b' : Int) (sm' : Bool) (h' : Sn), TT.lim 106 [.i .i64 0, .i .i64 V, .b sm, .i .u64 h.1, .l (h.2.map row), .l (k.map sn), .i .u64 b] = some [.i .i64 0, .b sm', .i .u64 h'.1, .l (h'.2.map row), .l (k'.map sn), .i .u64 b'] ∧ Kp k' ∧ ((k'.getLast? = none ∧ sm' = false) ∨ ∃ l, k'.getLast? = some l ∧ sm' = true ∧ h' = l ∧ Tb l.2) := by
  obtain ⟨bk1, f1, g1⟩ := round_foll f V
  obtain ⟨bk2, f2, g2⟩ := round_foll f1 V
  obtain ⟨bk3, f3, g3⟩ := round_foll f2 V
  have t1 := round_tree f V 0 (by omega) (by omega)
  have t2 := round_tree f1 V 1 (by omega) (by omega)
  have t3 := round_tree f2 V 2 (by omega) (by omega)
  have r1 : ∀ l, k.getLast? = some l → _ := fun l hl => round_new f hl V h1 h3 (hb _ _ f.lead)
  have r2 : ∀ l, (roundR V k b sm h).1.1.getLast? = some l → _ := fun l hl => round_new f1 hl V h1 h3 (hb _ _ f1.lead)
  have s2 : ∀ l, (roundR V k b sm h).1.1.getLast? = some l → (roundR V k b sm h).2 = (true, l) → (roundR V (roundR V k b sm h).1.1 (roundR V k b sm h).1.2 (roundR V k b sm h).2.1 (roundR V k b sm h).2.2).2 = (true, l) := by
    intro l hl he
    have q1 : (roundR V k b sm h).2.1 = true := by rw [he]
    have q2 : (roundR V k b sm h).2.2 = l := by rw [he]
    rw [q1] at f1 ⊢
    exact round_same f1 hl q2 V
  generalize roundR V k b sm h = R1 at *
  obtain ⟨⟨k1, b1⟩, sm1, h1'⟩ := R1
  simp only at f1 g1 t1 t2 r1 r2 s2 f2 g2 f3 g3 t3
  have s3 : ∀ l, (roundR V k1 b1 sm1 h1').1.1.getLast? = some l → (roundR V k1 b1 sm1 h1').2 = (true, l) → (roundR V (roundR V k1 b1 sm1 h1').1.1 (roundR V k1 b1 sm1 h1').1.2 (roundR V k1 b1 sm1 h1').2.1 (roundR V k1 b1 sm1 h1').2.2).2 = (true, l) := by
    intro l hl he
    have q1 : (roundR V k1 b1 sm1 h1').2.1 = true := by rw [he]
    have q2 : (roundR V k1 b1 sm1 h1').2.2 = l := by rw [he]
    rw [q1] at f2 ⊢
    exact round_same f2 hl q2 V
  generalize roundR V k1 b1 sm1 h1' = R2 at *
  obtain ⟨⟨k2, b2⟩, sm2, h2'⟩ := R2
  simp only at f2 g2 t2 t3 r2 s2 s3 f3 g3
  generalize roundR V k2 b2 sm2 h2' = R3 at *
  obtain ⟨⟨k3, b3⟩, sm3, h3'⟩ := R3
  simp only at f3 g3 t3 s3
  have t4 : TT.lim 106 [.i .i64 3, .i .i64 V, .b sm3, .i .u64 h3'.1, .l (h3'.2.map row), .l (k3.map sn), .i .u64 b3] = some [.i .i64 0, .b sm3, .i .u64 h3'.1, .l (h3'.2.map row), .l (k3.map sn), .i .u64 b3] := by
    refine tree_lim rfl rfl ?_
    simp
  refine ⟨k3, b3, sm3, h3', t1 _ (t2 _ (t3 _ t4)), f3.lead.kp, ?_⟩
  cases hl : k.getLast? with
  | none =>
    refine .inl ⟨by rw [g3, g2, g1]; exact hl, ?_⟩
    rcases f3.has with ⟨-, q, -⟩ | ⟨q, -⟩
    · obtain ⟨l, e, -⟩ := f3.keys _ _ q
      rw [g3, g2, g1, hl] at e
      cases e
    · exact q
  | some l =>
    have hl1 : k1.getLast? = some l := by rw [g1]; exact hl
    have hl2 : k2.getLast? = some l := by rw [g2]; exact hl1
    have hl3 : k3.getLast? = some l := by rw [g3]; exact hl2
    have he : (sm3, h3') = (true, l) := by
      rcases r1 l hl with q | ⟨-, q⟩
      · exact s3 l hl2 (s2 l hl1 q)
      · rcases r2 l hl1 with q2 | ⟨q2, -⟩
        · exact s3 l hl2 q2
        · exact absurd q q2
    injection he with e1 e2
    exact .inr ⟨l, hl3, e1, e2, f3.lead.kp.tb l (List.mem_of_getLast? hl3)⟩
theorem lead_nonneg {xs : List GV} {k : List Sn} {b : Int} (h : Lead xs k b) : 0 ≤ b := by
  rcases h.base with q | ⟨s, hs, e⟩
  · omega
  · have := h.kp.pos s hs; omega
theorem foll_start : Foll [] [] [] [] 0 false zS :=
  ⟨⟨Kp.nil, fun s hs => by simp at hs, .inl rfl⟩, fun e g h => by simp [assocG] at h, fun m hm => by simp at hm, fun a ha => by simp at ha, .inr ⟨rfl, rfl⟩, .inl (Int.le_refl _), rfl⟩
theorem follows_tree (v : Int) (acts : List SAct) (pick : List Int) (hv : 0 ≤ v ∧ v < 256) (hok : ∀ a ∈ acts, ActOk a) (hpick : ∀ p ∈ pick, 0 ≤ p ∧ p < 256) : TT.lim 0 [.i .u8 v, .l (acts.map sactG), .l (fG pick)] = some [.b true] := by
  obtain ⟨v1, v3⟩ := ver3 hv.1 hv.2
  have hpl : ((fG pick).length : Int) = (pick.length : Int) := by unfold fG; rw [List.length_map]
  by_cases hl : 20 < acts.length
  · refine fn_lim rfl rfl ?_ rfl
    have hl' : (20 : Int) < acts.length := by omega
    simp -implicitDefEqProofs [hl', v1, v3]
  have hl' : ¬ (20 : Int) < acts.length := by omega
  by_cases hp : 60 < pick.length
  · refine fn_lim rfl rfl ?_ rfl
    have hp' : (60 : Int) < pick.length := by omega
    simp -implicitDefEqProofs [hl', hp', hpl, v1, v3]
  have hp' : ¬ (60 : Int) < pick.length := by omega
  generalize hV : IntKind.i64.wrap (IntKind.i64.wrap (v.tmod 3) + 1) = V at v1 v3
  obtain ⟨Q, hQ, h0⟩ := foll0 pick hpick acts (by omega) hok V acts.length 0 [] [] [] [] 0 false zS (by omega) (by simp) (by simp) foll_start
  have h0 : TT.lim 1 [.l (fG pick), .l [], .l [], .i .u64 0, .l (acts.map sactG), .i .i64 (acts.length : Int), .i .i64 0, .l [], .i .i64 V, .b false, .l [], .l [], .i .u64 0] = some Q := h0
  generalize hAG : acts.map sactG = AG at *
  have hal : (AG.length : Int) = (acts.length : Int) := by rw [← hAG, List.length_map]
  generalize fG pick = FP at *
  rcases hQ with rfl | ⟨xs', told', back', k', b', sm', h', f, rfl⟩
  · refine fn_lim rfl rfl ?_ rfl
    simp -implicitDefEqProofs [hl', hp', hpl, hal, hV, v1, v3, h0]
  · obtain ⟨k3, b3, sm3, h3, ht, hk, hc⟩ := fin_tree f V v1 v3 (fun _ _ => lead_nonneg)
    have hla := last_lim (.i .i64 V) (.i .u64 b3) k3 hk
    rcases hc with ⟨e1, rfl⟩ | ⟨l, e1, rfl, rfl, htb⟩
    · have hh := have_no (.i .i64 V) (.i .u64 h3.1) (.l (h3.2.map row))
      rw [e1] at hla
      unfold lastS at hla
      rw [e1] at hla
      simp only [Option.getD_none, Option.isSome_none, zS, List.map_nil] at hla
      refine fn_lim rfl rfl ?_ rfl
      simp -implicitDefEqProofs [hl', hp', hpl, hal, hV, v1, v3, h0, ht, hh, hla]
    · have hh := have_some (.i .i64 V) h3 htb.good
      have hs := same1 h3 htb.good
      unfold lastS at hla
      rw [e1] at hla
      simp only [Option.getD_some, Option.isSome_some] at hla
      refine fn_lim rfl rfl ?_ rfl
      simp -implicitDefEqProofs [hl', hp', hpl, hal, hV, v1, v3, h0, ht, hh, hla, hs]
theorem has_u8s {g : GV} (h : (GTy.list false [.int .u8]).has g) : ∃ l : List Int, (∀ p ∈ l, 0 ≤ p ∧ p < 256) ∧ g = .l (fG l) := by
  obtain ⟨xs, rfl, -, hx⟩ := has_list h
  obtain ⟨l, hl, rfl⟩ := list_map (f := fun p : Int => GV.i .u8 p) (p := fun p => 0 ≤ p ∧ p < 256) (xs := xs) fun x hx' => by
    obtain ⟨k1, k2⟩ := hx x hx'
    cases x <;> simp [GV.scalar] at k2
    all_goals
      obtain ⟨g1, r1, e1, a1, k1⟩ := hasL_cons k1
      have := hasL_nil k1
      subst this
      obtain ⟨n, rfl, hn⟩ := has_u8 a1
      simp only [GV.cells, List.cons.injEq, and_true] at e1
      first
        | exact ⟨n, hn, e1⟩
        | cases e1
  exact ⟨l, hl, rfl⟩
theorem receiverFollows (gs : List GV) (h : hasArgs [(false, [.int .u8]), (false, [.list true sactTy]), (false, [.list false [.int .u8]])] gs) : TT.lim 0 gs = some [.b true] := by
  obtain ⟨g, gs, rfl, h2, h⟩ := hasA_sc h
  obtain ⟨l, gs, rfl, h1, h⟩ := hasA_sc h
  obtain ⟨p, gs, rfl, h3, h⟩ := hasA_sc h
  obtain rfl := hasA_nil h
  obtain ⟨acts, ha, rfl⟩ := sacts_of h1
  obtain ⟨v, rfl, hv⟩ := has_u8 h2
  obtain ⟨pick, hp, rfl⟩ := has_u8s h3
  exact follows_tree v acts pick hv ha hp
end Y
end Go.Proofs.YtlifdeocdbjalaaGreatDoor
