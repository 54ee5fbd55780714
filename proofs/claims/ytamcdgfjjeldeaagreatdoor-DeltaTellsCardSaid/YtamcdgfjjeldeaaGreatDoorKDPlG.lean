/- The document's differences and sums, and the law DeltaTells, told of trees. -/
import Derived.Test.YtamcdgfjjeldeaaGreatDoorKDPlF
namespace Go.Proofs.YtamcdgfjjeldeaaGreatDoor
open Go Go.Abs
set_option linter.unusedSimpArgs false
set_option linter.unusedVariables false
set_option maxRecDepth 100000
namespace D
def diffF (s : List Row) : List Row → List Row
  | [] => []
  | r :: rs => if r.2 = val s (K r) then diffF s rs else (r.1, IntKind.u64.wrap (r.2 - val s (K r))) :: diffF s rs
theorem loop84 (n s : List Row) (e f : Int) (hn : n.length ≤ 300) (fn : Few n) (hs : s.length ≤ 300) (fs : Few s) : ∀ (m i : Nat) (acc : List Row), i + m = n.length → acc.length ≤ i →
    TT.lim 84 [.l (n.map row), .i .i64 n.length, .i .i64 i, .i .u64 e, .i .u64 f, .l (acc.map row), .l (s.map row)] = some [.i .i64 0, .i .u64 e, .i .u64 f, .l ((acc ++ diffF s (n.drop i)).map row)]
  | 0, i, acc, hi, ha => by
    have h0 : n.drop i = [] := List.drop_eq_nil_of_le (by omega)
    have h : ¬ ((i : Int) < n.length) := by omega
    refine tree_lim rfl rfl ?_
    simp [h, h0, diffF]
  | m + 1, i, acc, hi, ha => by
    have hlt : i < n.length := by omega
    have k := get82 s n[i].1 (by omega) fs (fn _ (List.getElem_mem hlt))
    have h : ((i : Int) < n.length) := by omega
    have hw := wrap64 (n := (i : Int) + 1) (by omega) (by omega)
    have hok : ∀ r : Row, (row r).elemOk 2 = true := fun r => rfl
    have hb : 2 * (acc.length + 1) * 32 ≤ 281474976710656 ∧ acc.length + 1 ≤ 281474976710656 := by omega
    have hc : diffF s (n.drop i) = if n[i].2 = val s (keyF n[i].1) then diffF s (n.drop (i + 1)) else (n[i].1, IntKind.u64.wrap (n[i].2 - val s (keyF n[i].1))) :: diffF s (n.drop (i + 1)) := by
      rw [List.drop_eq_getElem_cons hlt]; rfl
    rw [hc]
    by_cases e1 : n[i].2 = val s (keyF n[i].1)
    · have ih : TT.lim 84 [.l (n.map row), .i .i64 n.length, .i .i64 ((i : Int) + 1), .i .u64 e, .i .u64 f, .l (acc.map row), .l (s.map row)] = _ := loop84 n s e f hn fn hs fs m (i + 1) acc (by omega) (by omega)
      rw [if_pos e1]
      generalize hL : (acc ++ diffF s (n.drop (i + 1))).map row = L at ih ⊢
      have e1' : (n[i].2 = val s (keyF n[i].1)) = True := eq_true e1
      clear e1 hc
      generalize val s (keyF n[i].1) = v at *
      refine tree_lim rfl rfl ?_
      simp [h, hlt, k, e1', hw, ih]
    · have ih : TT.lim 84 [.l (n.map row), .i .i64 n.length, .i .i64 ((i : Int) + 1), .i .u64 e, .i .u64 f, .l ((acc ++ [(n[i].1, IntKind.u64.wrap (n[i].2 - val s (keyF n[i].1)))]).map row), .l (s.map row)] = _ := loop84 n s e f hn fn hs fs m (i + 1) (acc ++ [(n[i].1, IntKind.u64.wrap (n[i].2 - val s (keyF n[i].1)))]) (by omega) (by simp; omega)
      rw [if_neg e1]
      rw [List.append_assoc, List.singleton_append] at ih
      clear hc
      generalize val s (keyF n[i].1) = v at *
      have he : GV.g [GV.l (n[i].1.map ent), GV.i .u64 (IntKind.u64.wrap (n[i].2 - v))] = row (n[i].1, IntKind.u64.wrap (n[i].2 - v)) := rfl
      generalize hL : (acc ++ (n[i].1, IntKind.u64.wrap (n[i].2 - v)) :: diffF s (n.drop (i + 1))).map row = L at ih ⊢
      simp only [List.map_append, List.map_cons, List.map_nil] at ih
      refine tree_lim rfl rfl ?_
      simp [h, hlt, k, e1, he, hok, hb, hw, ih]
theorem diffF_facts {s : List Row} (hs : Pos s) : ∀ n : List Row, Rise n → Pos n → (∀ r ∈ n, val s (K r) ≤ r.2) →
    Rise (diffF s n) ∧ (∀ x ∈ diffF s n, ∃ r ∈ n, r.1 = x.1) ∧ Pos (diffF s n) ∧ ∀ r ∈ n, val (diffF s n) (K r) = r.2 - val s (K r)
  | [], _, _, _ => ⟨List.Pairwise.nil, by simp [diffF], by simp [diffF, Pos], by simp⟩
  | r :: n, hr, hp, hv => by
    have hr' := List.pairwise_cons.1 hr
    obtain ⟨h1, h2, h3, h4⟩ := diffF_facts hs n hr'.2 (fun x hx => hp x (by simp [hx])) (fun x hx => hv x (by simp [hx]))
    have b1 := hp r (by simp)
    have b2 := hv r (by simp)
    have b3 := val_nonneg hs (K r)
    have hw := wrapu64 (n := r.2 - val s (K r)) (by omega) (by omega)
    have hlow : ∀ x ∈ diffF s n, K r < K x := fun x hx => by
      obtain ⟨y, hy, e⟩ := h2 x hx
      show K r < keyF x.1
      rw [← e]; exact hr'.1 y hy
    unfold diffF
    by_cases e : r.2 = val s (K r)
    · rw [if_pos e]
      refine ⟨h1, fun x hx => ?_, h3, fun x hx => ?_⟩
      · obtain ⟨y, hy, e⟩ := h2 x hx; exact ⟨y, by simp [hy], e⟩
      · rcases List.mem_cons.1 hx with rfl | hx
        · rw [val_above hlow]; omega
        · exact h4 x hx
    · rw [if_neg e, hw]
      refine ⟨List.Pairwise.cons (fun x hx => hlow x hx) h1, fun x hx => ?_, fun x hx => ?_, fun x hx => ?_⟩
      · rcases List.mem_cons.1 hx with rfl | hx
        · exact ⟨r, by simp, rfl⟩
        · obtain ⟨y, hy, e⟩ := h2 x hx; exact ⟨y, by simp [hy], e⟩
      · rcases List.mem_cons.1 hx with rfl | hx
        · exact ⟨by simp only; omega, by simp only; omega⟩
        · exact h3 x hx
      · show (if K r = K x then r.2 - val s (K r) else val (diffF s n) (K x)) = _
        rcases List.mem_cons.1 hx with rfl | hx
        · rw [if_pos rfl]
        · rw [if_neg fun e => by have := hr'.1 x hx; rw [e] at this; exact List.lt_irrefl _ this]
          exact h4 x hx
theorem diffF_eq {s n : List Row} (hs : Tb s) (hn : Tb n) (h : atL n s = true) : diffF s n = diffR n s := by
  have h' := (atL_iff _ _ hn.rise hs.rise).1 h
  have hle : ∀ r ∈ n, val s (K r) ≤ r.2 := fun r hr => by
    rcases val_cases s (K r) with ⟨x, h1, h2, h3⟩ | ⟨_, h2⟩
    · obtain ⟨y, hy, e1, e2⟩ := h' x h1
      have : y = r := rise_key hn.rise hy hr (e1.trans h2)
      rw [h3, ← this]; exact e2
    · have := hn.pos r hr; omega
  obtain ⟨h1, h2, h3, h4⟩ := diffF_facts hs.pos n hn.rise hn.pos hle
  obtain ⟨q1, q2⟩ := diff_tb hs hn h
  refine val_ext h1 q1.rise h3 q1.pos fun k => ?_
  rw [q2]
  rcases val_cases n k with ⟨r, c1, c2, c3⟩ | ⟨c1, c2⟩
  · rw [← c2, h4 r c1, val_mem hn.rise r c1]
  · have : val s k = 0 := val_none fun x hx e => by
      obtain ⟨y, hy, e1, _⟩ := h' x hx
      exact c1 y hy (e1.trans e)
    rw [c2, this, val_none fun x hx e => ?_]
    · rfl
    · obtain ⟨y, hy, e2⟩ := h2 x hx
      exact c1 y hy (by show keyF y.1 = k; rw [e2]; exact e)
theorem diff58 (s n : Sn) (hs : GoodT s.2) (hn : GoodT n.2) : TT.lim 58 [sn s, sn n] = some [dl (diffS s n).1, .i .i64 (diffS s n).2] := by
  have k1 := check59 s.2 hs.rows hs.few
  have k2 := check59 n.2 hn.rows hn.few
  have e3 : GV.g [.i .u64 0, .i .u64 0, .l []] = dl zD := rfl
  have e4 : GV.g [.i .u64 s.1, .i .u64 n.1, .l ((diffR n.2 s.2).map row)] = dl (s.1, n.1, diffR n.2 s.2) := rfl
  have k5 : TT.lim 84 [.l (n.2.map row), .i .i64 n.2.length, .i .i64 0, .i .u64 s.1, .i .u64 n.1, .l [], .l (s.2.map row)] = _ := loop84 n.2 s.2 s.1 n.1 hn.len hn.few hs.len hs.few n.2.length 0 [] (by omega) (by simp)
  rw [List.drop_zero, List.nil_append] at k5
  unfold diffS
  by_cases h1 : checkT s.2 = 0
  rotate_left
  · refine fn_lim rfl rfl ?_ rfl
    simp [k1, h1, e3]
  by_cases h2 : checkT n.2 = 0
  rotate_left
  · refine fn_lim rfl rfl ?_ rfl
    simp [k1, h1, k2, h2, e3]
  by_cases h3 : n.1 ≤ s.1
  · refine fn_lim rfl rfl ?_ rfl
    simp [k1, h1, k2, h2, e3, h3]
  have ts := hs.tb ((checkT_iff _).1 h1)
  have tn := hn.tb ((checkT_iff _).1 h2)
  have k4 := atLeast80 n.2 s.2 (by have := hn.len; omega) hn.few (by have := hs.len; omega) hs.few
  rw [atLF_eq tn ts] at k4
  cases h4 : atL n.2 s.2 with
  | false =>
    rw [h4] at k4
    refine fn_lim rfl rfl ?_ rfl
    simp [k1, h1, k2, h2, e3, h3, k4]
  | true =>
    rw [h4] at k4
    rw [diffF_eq ts tn h4] at k5
    refine fn_lim rfl rfl ?_ rfl
    simp [k1, h1, k2, h2, e4, h3, k4, k5]
/-! ### A row put in its place -/
def out94 (o : List Row) (i : Nat) (r : Row) (x y z : GV) : List GV := match o[i]? with
  | some s => [.i .i64 0, .l (o.map row), .i .i64 i, x, y, z, row s, .l (s.1.map ent), .s (keyF s.1), .l (r.1.map ent), .s (keyF r.1), .i .u64 r.2]
  | none => [.i .i64 1, .l (o.map row), .i .i64 i, x, y, z, .l (r.1.map ent), .i .u64 r.2]
theorem loop94 (o : List Row) (ho : o.length ≤ 1000) (hf : Few o) (r : Row) (fr : few12 r.1 = true) (x y z : GV) : ∀ m i : Nat, i + m = o.length →
    TT.lim 94 [.l (o.map row), .i .i64 i, x, y, z, .l (r.1.map ent), .i .u64 r.2] = some (out94 o (i + adv (K r) (o.drop i)) r x y z)
  | 0, i, hi => by
    have h0 : o.drop i = [] := List.drop_eq_nil_of_le (by omega)
    have h1 : o[i]? = none := List.getElem?_eq_none (by omega)
    have h : ¬ ((i : Int) < o.length) := by omega
    refine tree_lim rfl rfl ?_
    simp [h, h0, adv, out94, h1]
  | m + 1, i, hi => by
    have hlt : i < o.length := by omega
    have ih : TT.lim 94 [.l (o.map row), .i .i64 ((i : Int) + 1), x, y, z, .l (r.1.map ent), .i .u64 r.2] = _ := loop94 o ho hf r fr x y z m (i + 1) (by omega)
    have fo := hf _ (List.getElem_mem hlt)
    have k6 := key74 o[i].1 fo
    have k7 := key74 r.1 fr
    have kl := less79 (keyF o[i].1) (keyF r.1) (by have := key_len fo; omega) (by have := key_len fr; omega)
    have hd : adv (K r) (o.drop i) = if Op.bytesLess (K o[i]) (K r) = true then adv (K r) (o.drop (i + 1)) + 1 else 0 := by rw [List.drop_eq_getElem_cons hlt]; rfl
    have h : ((i : Int) < o.length) := by omega
    have hw := wrap64 (n := (i : Int) + 1) (by omega) (by omega)
    rw [hd]
    cases hb : Op.bytesLess (K o[i]) (K r) with
    | true =>
      rw [show Op.bytesLess (keyF o[i].1) (keyF r.1) = true from hb] at kl
      rw [if_pos rfl, show i + (adv (K r) (o.drop (i + 1)) + 1) = i + 1 + adv (K r) (o.drop (i + 1)) by omega]
      refine tree_lim rfl rfl ?_
      simp [h, hlt, k6, k7, kl, hw, ih]
    | false =>
      rw [show Op.bytesLess (keyF o[i].1) (keyF r.1) = false from hb] at kl
      have h1 : o[i]? = some o[i] := List.getElem?_eq_getElem hlt
      rw [if_neg (by simp), Nat.add_zero]
      refine tree_lim rfl rfl ?_
      simp [h, hlt, k6, k7, kl, out94]
def putR (o : List Row) (r : Row) : List Row := o.take (adv (K r) o) ++ r :: o.drop (adv (K r) o)
def insR (o : List Row) (r : Row) : Option (List Row) := match o[adv (K r) o]? with
  | some s => if K s = K r then none else some (putR o r)
  | none => some (putR o r)
def ofF : List Row → List Row → Option (List Row)
  | o, [] => some o
  | o, r :: l => (insR o r).bind fun o' => ofF o' l
def outO (l : List Row) : Option (List Row) → List GV
  | some t => [.i .i64 1, .l (t.map row)]
  | none => [.i .i64 0]
theorem lsub_lo (l : List Row) (i : Nat) (h : i ≤ l.length) : lsub3 2 (some (.l (l.map row))) (some (.i .i64 0)) (some (.i .i64 i)) = some (.l ((l.take i).map row)) := by
  rw [lsub3_i, if_pos ⟨by omega, by omega, by simpa using h, by simp [row_cells]⟩]
  simp [List.map_take]
theorem lsub_hi (l : List Row) (i : Nat) (h : i ≤ l.length) : lsub3 2 (some (.l (l.map row))) (some (.i .i64 i)) (some (.i .i64 l.length)) = some (.l ((l.drop i).map row)) := by
  rw [lsub3_i, if_pos ⟨by omega, by omega, by simp, by simp [row_cells]⟩]
  have : List.take l.length (l.map row) = l.map row := List.take_of_length_le (by simp)
  simp [this, List.map_drop]
theorem ok_all (l : List Row) : (l.map row).all (GV.elemOk 2) = true := by
  rw [List.all_eq_true]; intro x hx; obtain ⟨r, _, rfl⟩ := List.mem_map.1 hx; rfl
theorem app_rows (a b : List Row) (h : a.length + b.length ≤ 2000) : app2 2 32 (some (.l (a.map row))) (some (.l (b.map row))) = some (.l ((a ++ b).map row)) := by
  rw [app2_l, if_pos ⟨ok_all b, by simp; omega, by simp; omega⟩, List.map_append]
theorem app_nil (a : List Row) (h : a.length ≤ 2000) : app2 2 32 (some (.l [])) (some (.l (a.map row))) = some (.l (a.map row)) := app_rows [] a (by simpa using h)
theorem app_one (a : List Row) (r : Row) (h : a.length ≤ 1900) : app2 2 32 (some (.l (a.map row))) (some (.l [row r])) = some (.l ((a ++ [r]).map row)) := app_rows a [r] (by simp; omega)
theorem putR_eq (o : List Row) (r : Row) : o.take (adv (K r) o) ++ [r] ++ o.drop (adv (K r) o) = putR o r := by unfold putR; simp
theorem putR_len (o : List Row) (r : Row) : (putR o r).length = o.length + 1 := by
  have := adv_le (K r) o
  unfold putR; simp; omega
theorem putR_mem {o : List Row} {r x : Row} : x ∈ putR o r ↔ x = r ∨ x ∈ o := by
  unfold putR
  constructor
  · intro h
    rcases List.mem_append.1 h with h | h
    · exact .inr (List.mem_of_mem_take h)
    · rcases List.mem_cons.1 h with h | h
      · exact .inl h
      · exact .inr (List.mem_of_mem_drop h)
  · rintro (rfl | h)
    · simp
    · rw [← List.take_append_drop (adv (K r) o) o] at h
      rcases List.mem_append.1 h with h | h
      · exact List.mem_append.2 (.inl h)
      · exact List.mem_append.2 (.inr (List.mem_cons_of_mem _ h))
set_option maxHeartbeats 4000000 in
theorem loop93 (l : List Row) (hl : l.length ≤ 300) (fl : Few l) : ∀ (m i : Nat) (o : List Row), i + m = l.length → o.length = i → Few o →
    TT.lim 93 [.l (o.map row), .l (l.map row), .i .i64 l.length, .i .i64 i] = some (outO l (ofF o (l.drop i)))
  | 0, i, o, hi, hoi, fo => by
    have h0 : l.drop i = [] := List.drop_eq_nil_of_le (by omega)
    have h : ¬ ((i : Int) < l.length) := by omega
    refine tree_lim rfl rfl ?_
    simp [h, h0, ofF, outO]
  | m + 1, i, o, hi, hoi, fo => by
    have hlt : i < l.length := by omega
    have fr := fl _ (List.getElem_mem hlt)
    have k94 : TT.lim 94 [.l (o.map row), .i .i64 0, .l (l.map row), .i .i64 l.length, .i .i64 i, .l (l[i].1.map ent), .i .u64 l[i].2] = _ := loop94 o (by omega) fo l[i] fr (.l (l.map row)) (.i .i64 l.length) (.i .i64 i) o.length 0 (by omega)
    rw [Nat.zero_add, List.drop_zero] at k94
    have ih : TT.lim 93 [.l ((putR o l[i]).map row), .l (l.map row), .i .i64 l.length, .i .i64 ((i : Int) + 1)] = _ := loop93 l hl fl m (i + 1) (putR o l[i]) (by omega) (by rw [putR_len]; omega) (fun x hx => by
      rcases putR_mem.1 hx with rfl | hx
      · exact fr
      · exact fo x hx)
    have hal := adv_le (K l[i]) o
    have hc : ofF o (l.drop i) = (insR o l[i]).bind fun o' => ofF o' (l.drop (i + 1)) := by rw [List.drop_eq_getElem_cons hlt]; rfl
    rw [hc]
    have hrow : GV.g [GV.l (l[i].1.map ent), GV.i .u64 l[i].2] = row l[i] := rfl
    have hpe := putR_eq o l[i]
    have s1 := lsub_lo o (adv (K l[i]) o) hal
    have s2 := lsub_hi o (adv (K l[i]) o) hal
    have a1 := app_nil (o.take (adv (K l[i]) o)) (by simp; omega)
    have a2 := app_one (o.take (adv (K l[i]) o)) l[i] (by simp; omega)
    have a3 := app_rows (o.take (adv (K l[i]) o) ++ [l[i]]) (o.drop (adv (K l[i]) o)) (by simp; omega)
    rw [hpe] at a3
    have h : ((i : Int) < l.length) := by omega
    have hw := wrap64 (n := (i : Int) + 1) (by omega) (by omega)
    have hins : insR o l[i] = match o[adv (K l[i]) o]? with
      | some s => if K s = K l[i] then none else some (putR o l[i])
      | none => some (putR o l[i]) := rfl
    rw [hins]
    generalize putR o l[i] = p at *
    generalize hA : adv (K l[i]) o = A at *
    clear hpe hins
    generalize hT : (o.take A ++ [l[i]]).map row = T at *
    generalize hU : (o.take A).map row = U at *
    generalize hV : (o.drop A).map row = V at *
    by_cases hAl : A < o.length
    · have h1 : o[A]? = some o[A] := List.getElem?_eq_getElem hAl
      have hAl' : (A : Int) < (o.length : Int) := by omega
      have foA := fo _ (List.getElem_mem hAl)
      have k6 := key74 o[A].1 foA
      have k7 := key74 l[i].1 fr
      simp only [out94, h1] at k94
      simp only [h1]
      by_cases e : keyF o[A].1 = keyF l[i].1
      · have e' : (keyF o[A].1 = keyF l[i].1) = True := eq_true e
        simp only [e', if_true]
        clear e
        refine tree_lim rfl rfl ?_
        simp [h, hlt, k94, hAl, hAl', k6, k7, e', outO]
      · rw [if_neg e]
        simp only [Option.bind_some]
        refine tree_lim rfl rfl ?_
        simp [-lsub3_i, -app2_l, h, hlt, k94, hAl, hAl', k6, k7, e, hrow, s1, s2, a1, a2, a3, hw, ih]
    · have h1 : o[A]? = none := List.getElem?_eq_none (by omega)
      have hAl' : ¬ (A : Int) < (o.length : Int) := by omega
      simp only [out94, h1] at k94
      simp only [h1, Option.bind_some]
      refine tree_lim rfl rfl ?_
      simp [-lsub3_i, -app2_l, h, hlt, k94, hAl, hAl', hrow, s1, s2, a1, a2, a3, hw, ih]
theorem putR_cons (x : Row) (o : List Row) (r : Row) : putR (x :: o) r = if Op.bytesLess (K x) (K r) = true then x :: putR o r else r :: x :: o := by
  have ha : adv (K r) (x :: o) = if Op.bytesLess (K x) (K r) = true then adv (K r) o + 1 else 0 := rfl
  unfold putR
  rw [ha]
  by_cases h : Op.bytesLess (K x) (K r) = true
  · simp [h]
  · simp [h]
theorem putR_rise {r : Row} : ∀ {o : List Row}, Rise o → (∀ s ∈ o, K s ≠ K r) → Rise (putR o r)
  | [], _, _ => by simp [putR, adv, Rise]
  | x :: o, ho, hk => by
    have ho' := List.pairwise_cons.1 ho
    rw [putR_cons]
    by_cases h : Op.bytesLess (K x) (K r) = true
    · rw [if_pos h]
      refine List.Pairwise.cons (fun y hy => ?_) (putR_rise ho'.2 fun s hs => hk s (by simp [hs]))
      rcases putR_mem.1 hy with rfl | hy
      · exact (bl_iff _ _).1 h
      · exact ho'.1 y hy
    · rw [if_neg h]
      have hlt : K r < K x := by
        rcases List.le_iff_lt_or_eq.1 (List.not_lt.1 fun e => h ((bl_iff _ _).2 e)) with e | e
        · exact e
        · exact absurd e.symm (hk x (by simp))
      refine List.Pairwise.cons (fun y hy => ?_) ho
      rcases List.mem_cons.1 hy with rfl | hy
      · exact hlt
      · exact List.lt_trans hlt (ho'.1 y hy)
theorem putR_perm (o : List Row) (r : Row) : (putR o r).Perm (r :: o) := by
  unfold putR
  refine List.perm_middle.trans ?_
  rw [List.take_append_drop]
theorem ofF_ok : ∀ (l o : List Row), Rise o → (∀ r ∈ l, ∀ s ∈ o, K s ≠ K r) → (l.map K).Nodup → ∃ t, ofF o l = some t ∧ Rise t ∧ t.Perm (o ++ l)
  | [], o, ho, _, _ => ⟨o, rfl, ho, by simp⟩
  | r :: l, o, ho, hk, hn => by
    rw [List.map_cons, List.nodup_cons] at hn
    have hi : insR o r = some (putR o r) := by
      unfold insR
      split
      · next s hs => rw [if_neg (hk r (by simp) s (List.mem_of_getElem? hs))]
      · rfl
    obtain ⟨t, h1, h2, h3⟩ := ofF_ok l (putR o r) (putR_rise ho (hk r (by simp))) (fun x hx s hs => by
      rcases putR_mem.1 hs with rfl | hs
      · intro e; exact hn.1 (List.mem_map.2 ⟨x, hx, e.symm⟩)
      · exact hk x (by simp [hx]) s hs) hn.2
    refine ⟨t, by unfold ofF; rw [hi]; exact h1, h2, h3.trans ?_⟩
    refine ((putR_perm o r).append_right l).trans ?_
    simpa using (List.perm_middle (a := r) (l₁ := o) (l₂ := l)).symm
theorem loop92 (l : List Row) (hl : l.length ≤ 1000) (hc : ∀ r ∈ l, Ents r.1 ∧ rowChk r = 0) : ∀ m i : Nat, i + m = l.length → TT.lim 92 [.l (l.map row), .i .i64 l.length, .i .i64 i] = some [.i .i64 1, .l (l.map row)]
  | 0, i, hi => by
    have h : ¬ ((i : Int) < l.length) := by omega
    refine tree_lim rfl rfl ?_
    simp [h]
  | m + 1, i, hi => by
    have hlt : i < l.length := by omega
    have hr := hc _ (List.getElem_mem hlt)
    have k := rowchk61 l[i] hr.1
    rw [hr.2] at k
    have hrow : GV.g [GV.l (l[i].1.map ent), GV.i .u64 l[i].2] = row l[i] := rfl
    have ih : TT.lim 92 [.l (l.map row), .i .i64 l.length, .i .i64 ((i : Int) + 1)] = _ := loop92 l hl hc m (i + 1) (by omega)
    have h : ((i : Int) < l.length) := by omega
    have hw := wrap64 (n := (i : Int) + 1) (by omega) (by omega)
    refine tree_lim rfl rfl ?_
    simp [h, hlt, hrow, k, hw, ih]
theorem of91 (l : List Row) (hl : l.length ≤ 1000) (fl : Few l) (hc : ∀ r ∈ l, Ents r.1 ∧ rowChk r = 0) (hn : (l.map K).Nodup) : ∃ t, Rise t ∧ t.Perm l ∧ TT.lim 91 [.l (l.map row)] = some (if 256 < l.length then [.l [], .i .i64 13] else [.l (t.map row), .i .i64 0]) := by
  obtain ⟨t, h1, h2, h3⟩ := ofF_ok l [] List.Pairwise.nil (by simp) hn
  rw [List.nil_append] at h3
  refine ⟨t, h2, h3, ?_⟩
  by_cases h256 : 256 < l.length
  · have h' : (256 : Int) < (l.length : Int) := by omega
    rw [if_pos h256]
    refine fn_lim rfl rfl ?_ rfl
    simp [h256, h']
  · have h' : ¬ (256 : Int) < (l.length : Int) := by omega
    rw [if_neg h256]
    have k1 : TT.lim 92 [.l (l.map row), .i .i64 l.length, .i .i64 0] = _ := loop92 l hl hc l.length 0 (by omega)
    have k2 : TT.lim 93 [.l [], .l (l.map row), .i .i64 l.length, .i .i64 0] = _ := loop93 l (by omega) fl l.length 0 [] (by omega) rfl (by intro r hr; simp at hr)
    rw [List.drop_zero, h1] at k2
    simp only [outO] at k2
    refine fn_lim rfl rfl ?_ rfl
    simp [h256, h', k1, k2]
/-! ### Sums -/
def sumL (b : List Row) : List Row → Option (List Row)
  | [] => some []
  | r :: a => if 18446744073709551616 ≤ r.2 + val b (K r) then none else (sumL b a).map ((r.1, r.2 + val b (K r)) :: ·)
def out89 (a b acc : List Row) : Option (List Row) → List GV
  | some m => [.i .i64 1, .l (a.map row), .l (b.map row), .l ((acc ++ m).map row)]
  | none => [.i .i64 0]
theorem loop89 (a b : List Row) (ha : a.length ≤ 300) (fa : Few a) (pa : Pos a) (hb : b.length ≤ 300) (fb : Few b) (pb : Pos b) : ∀ (m i : Nat) (acc : List Row), i + m = a.length → acc.length = i →
    TT.lim 89 [.l (a.map row), .l (b.map row), .l (acc.map row), .i .i64 a.length, .i .i64 i] = some (out89 a b acc (sumL b (a.drop i)))
  | 0, i, acc, hi, hacc => by
    have h0 : a.drop i = [] := List.drop_eq_nil_of_le (by omega)
    have h : ¬ ((i : Int) < a.length) := by omega
    refine tree_lim rfl rfl ?_
    simp [h, h0, sumL, out89]
  | m + 1, i, acc, hi, hacc => by
    have hlt : i < a.length := by omega
    have k := get82 b a[i].1 (by omega) fb (fa _ (List.getElem_mem hlt))
    have pr := pa _ (List.getElem_mem hlt)
    have pv := val_nonneg pb (keyF a[i].1)
    have ih : ∀ v, TT.lim 89 [.l (a.map row), .l (b.map row), .l ((acc ++ [(a[i].1, v)]).map row), .i .i64 a.length, .i .i64 ((i : Int) + 1)] = _ := fun v => loop89 a b ha fa pa hb fb pb m (i + 1) (acc ++ [(a[i].1, v)]) (by omega) (by simp; omega)
    have hc : sumL b (a.drop i) = if 18446744073709551616 ≤ a[i].2 + val b (keyF a[i].1) then none else (sumL b (a.drop (i + 1))).map ((a[i].1, a[i].2 + val b (keyF a[i].1)) :: ·) := by rw [List.drop_eq_getElem_cons hlt]; rfl
    rw [hc]
    clear hc
    have ih' := ih (a[i].2 + val b (keyF a[i].1))
    clear ih
    have hap := app_one acc (a[i].1, a[i].2 + val b (keyF a[i].1)) (by omega)
    generalize val b (keyF a[i].1) = v at *
    have h : ((i : Int) < a.length) := by omega
    have hw := wrap64 (n := (i : Int) + 1) (by omega) (by omega)
    have w1 := wrapu64 (n := 18446744073709551615 - v) (by omega) (by omega)
    have hrow : GV.g [GV.l (a[i].1.map ent), GV.i .u64 (a[i].2 + v)] = row (a[i].1, a[i].2 + v) := rfl
    by_cases e : 18446744073709551616 ≤ a[i].2 + v
    · rw [if_pos e]
      have e' : 18446744073709551615 - v < a[i].2 := by omega
      refine tree_lim rfl rfl ?_
      simp [h, hlt, k, w1, e', out89]
    · rw [if_neg e]
      have e' : ¬ 18446744073709551615 - v < a[i].2 := by omega
      have w2 := wrapu64 (n := a[i].2 + v) (by omega) (by omega)
      have eo : out89 a b (acc ++ [(a[i].1, a[i].2 + v)]) (sumL b (a.drop (i + 1))) = out89 a b acc ((sumL b (a.drop (i + 1))).map ((a[i].1, a[i].2 + v) :: ·)) := by cases sumL b (a.drop (i + 1)) <;> simp [out89]
      rw [eo] at ih'
      generalize out89 a b acc ((sumL b (a.drop (i + 1))).map ((a[i].1, a[i].2 + v) :: ·)) = out at *
      generalize hP : (acc ++ [(a[i].1, a[i].2 + v)]).map row = Pp at *
      refine tree_lim rfl rfl ?_
      simp [-app2_l, h, hlt, k, w1, e', w2, hrow, hap, hw, ih']
def restL (a : List Row) (b : List Row) : List Row := b.filter fun r => decide (val a (K r) = 0)
theorem loop90 (a b : List Row) (ha : a.length ≤ 300) (fa : Few a) (hb : b.length ≤ 300) (fb : Few b) : ∀ (m i : Nat) (acc : List Row), i + m = b.length → acc.length ≤ 300 + i →
    TT.lim 90 [.l (a.map row), .l (acc.map row), .l (b.map row), .i .i64 b.length, .i .i64 i] = some [.i .i64 0, .l ((acc ++ restL a (b.drop i)).map row)]
  | 0, i, acc, hi, hacc => by
    have h0 : b.drop i = [] := List.drop_eq_nil_of_le (by omega)
    have h : ¬ ((i : Int) < b.length) := by omega
    refine tree_lim rfl rfl ?_
    simp [h, h0, restL]
  | m + 1, i, acc, hi, hacc => by
    have hlt : i < b.length := by omega
    have k := get82 a b[i].1 (by omega) fa (fb _ (List.getElem_mem hlt))
    have h : ((i : Int) < b.length) := by omega
    have hw := wrap64 (n := (i : Int) + 1) (by omega) (by omega)
    have hrow : GV.g [GV.l (b[i].1.map ent), GV.i .u64 b[i].2] = row b[i] := rfl
    have hc : restL a (b.drop i) = if val a (keyF b[i].1) = 0 then b[i] :: restL a (b.drop (i + 1)) else restL a (b.drop (i + 1)) := by
      rw [List.drop_eq_getElem_cons hlt]
      unfold restL
      rw [List.filter_cons]
      by_cases e : val a (keyF b[i].1) = 0
      · simp [e]
      · simp [e]
    rw [hc]
    clear hc
    by_cases e : val a (keyF b[i].1) = 0
    · have ih : TT.lim 90 [.l (a.map row), .l ((acc ++ [b[i]]).map row), .l (b.map row), .i .i64 b.length, .i .i64 ((i : Int) + 1)] = _ := loop90 a b ha fa hb fb m (i + 1) (acc ++ [b[i]]) (by omega) (by simp; omega)
      have hap := app_one acc b[i] (by omega)
      rw [if_pos e]
      rw [List.append_assoc, List.singleton_append] at ih
      rw [e] at k
      clear e
      generalize hL : (acc ++ b[i] :: restL a (b.drop (i + 1))).map row = L at *
      generalize hP : (acc ++ [b[i]]).map row = Pp at *
      refine tree_lim rfl rfl ?_
      simp [-app2_l, h, hlt, k, hrow, hap, hw, ih]
    · have ih : TT.lim 90 [.l (a.map row), .l (acc.map row), .l (b.map row), .i .i64 b.length, .i .i64 ((i : Int) + 1)] = _ := loop90 a b ha fa hb fb m (i + 1) acc (by omega) (by omega)
      rw [if_neg e]
      generalize hL : (acc ++ restL a (b.drop (i + 1))).map row = L at *
      generalize val a (keyF b[i].1) = v at *
      refine tree_lim rfl rfl ?_
      simp [h, hlt, k, e, hw, ih]
theorem sumL_none {b : List Row} : ∀ a : List Row, Rise a → Pos a → sumL b a = none → ∃ k, 18446744073709551616 ≤ val a k + val b k
  | [], _, _, h => by simp [sumL] at h
  | r :: a, ha, pa, h => by
    have ha' := List.pairwise_cons.1 ha
    have hv : ∀ k, val (r :: a) k = if K r = k then r.2 else val a k := fun _ => rfl
    unfold sumL at h
    split at h
    · next e => exact ⟨K r, by rw [hv, if_pos rfl]; exact e⟩
    · obtain ⟨k, hk⟩ := sumL_none a ha'.2 (fun x hx => pa x (by simp [hx])) (Option.map_eq_none_iff.1 h)
      refine ⟨k, ?_⟩
      rw [hv]
      by_cases e : K r = k
      · rw [if_pos e]
        subst e
        rw [val_above ha'.1] at hk
        have := pa r (by simp)
        omega
      · rw [if_neg e]; exact hk
theorem sumL_some {b : List Row} : ∀ (a : List Row) {m : List Row}, sumL b a = some m → m.map K = a.map K ∧ (∀ x ∈ m, ∃ r ∈ a, r.1 = x.1 ∧ x.2 = r.2 + val b (K r) ∧ x.2 < 18446744073709551616) ∧ (∀ r ∈ a, (r.1, r.2 + val b (K r)) ∈ m ∧ r.2 + val b (K r) < 18446744073709551616)
  | [], m, h => by simp [sumL] at h; subst h; simp
  | r :: a, m, h => by
    unfold sumL at h
    split at h
    · cases h
    next e =>
    obtain ⟨m', h', rfl⟩ := Option.map_eq_some_iff.1 h
    obtain ⟨h1, h2, h3⟩ := sumL_some a h'
    refine ⟨by simp [h1], fun x hx => ?_, fun x hx => ?_⟩
    · rcases List.mem_cons.1 hx with rfl | hx
      · exact ⟨r, by simp, rfl, rfl, by simp only; omega⟩
      · obtain ⟨y, hy, e⟩ := h2 x hx; exact ⟨y, by simp [hy], e⟩
    · rcases List.mem_cons.1 hx with rfl | hx
      · exact ⟨by simp, by omega⟩
      · obtain ⟨e1, e2⟩ := h3 x hx
        exact ⟨by simp [e1], e2⟩
theorem sum88 (a b : List Row) (ta : Tb a) (tb : Tb b) : TT.lim 88 [.l (a.map row), .l (b.map row)] = some [.l ((tog a b).1.map row), .i .i64 (tog a b).2] := by
  have la := ta.ok.1
  have lb := tb.ok.1
  have k1 : TT.lim 89 [.l (a.map row), .l (b.map row), .l [], .i .i64 a.length, .i .i64 0] = _ := loop89 a b (by omega) ta.few ta.pos (by omega) tb.few tb.pos a.length 0 [] (by omega) rfl
  rw [List.drop_zero] at k1
  cases hs : sumL b a with
  | none =>
    rw [hs] at k1
    have ht : tog a b = ([], 3) := by
      unfold tog
      cases hm : mergeR a b with
      | none => rfl
      | some m =>
        exfalso
        obtain ⟨k, hk⟩ := sumL_none a ta.rise ta.pos hs
        obtain ⟨_, q2, _, q4⟩ := merge_some a b ta.rise tb.rise ta.pos tb.pos hm
        have := val_nonneg q4 k
        rw [q2] at this; omega
    rw [ht]
    refine fn_lim rfl rfl ?_ rfl
    simp [k1, out89]
  | some m =>
    rw [hs] at k1
    simp only [out89, List.nil_append] at k1
    obtain ⟨m1, m2, m3⟩ := sumL_some a hs
    have hml : m.length = a.length := by simpa using congrArg List.length m1
    have k2 : TT.lim 90 [.l (a.map row), .l (m.map row), .l (b.map row), .i .i64 b.length, .i .i64 0] = _ := loop90 a b (by omega) ta.few (by omega) tb.few b.length 0 m (by omega) (by omega)
    rw [List.drop_zero] at k2
    have rest : ∀ x ∈ restL a b, x ∈ b ∧ val a (K x) = 0 := fun x hx => by
      unfold restL at hx
      have := List.mem_filter.1 hx
      simpa using this
    have src : ∀ x ∈ m ++ restL a b, (∃ r, (r ∈ a ∨ r ∈ b) ∧ r.1 = x.1) ∧ 0 < x.2 ∧ x.2 < 18446744073709551616 := by
      intro x hx
      rcases List.mem_append.1 hx with hx | hx
      · obtain ⟨r, hr, e1, e2, e3⟩ := m2 x hx
        have h1 := ta.pos r hr
        have h2 := val_nonneg tb.pos (K r)
        exact ⟨⟨r, .inl hr, e1⟩, by omega, by omega⟩
      · have h1 := rest x hx
        have h2 := tb.pos x h1.1
        exact ⟨⟨x, .inr h1.1, rfl⟩, h2⟩
    have few : Few (m ++ restL a b) := fun x hx => by
      obtain ⟨⟨r, hr, e⟩, _⟩ := src x hx
      rw [← e]; rcases hr with hr | hr
      · exact ta.few r hr
      · exact tb.few r hr
    have chk : ∀ x ∈ m ++ restL a b, Ents x.1 ∧ rowChk x = 0 := fun x hx => by
      obtain ⟨⟨r, hr, e⟩, h1, _⟩ := src x hx
      rcases hr with hr | hr
      · exact ⟨by rw [← e]; exact (ta.rows.2 r hr).1, (rowChk_iff x).2 ⟨by rw [← e]; exact ((rowChk_iff r).1 (ta.ok.2.2 r hr)).1, by omega⟩⟩
      · exact ⟨by rw [← e]; exact (tb.rows.2 r hr).1, (rowChk_iff x).2 ⟨by rw [← e]; exact ((rowChk_iff r).1 (tb.ok.2.2 r hr)).1, by omega⟩⟩
    have nodup : ((m ++ restL a b).map K).Nodup := by
      rw [List.map_append, List.nodup_append]
      refine ⟨by rw [m1]; exact rise_nodup ta.rise, ?_, ?_⟩
      · exact (rise_nodup tb.rise).sublist ((List.filter_sublist).map K)
      · intro x hx y hy e
        subst e
        obtain ⟨r, hr, e1⟩ := List.mem_map.1 (by rw [m1] at hx; exact hx)
        obtain ⟨s, hs', e2⟩ := List.mem_map.1 hy
        have h1 := (rest s hs').2
        rw [e2, ← e1, val_mem ta.rise r hr] at h1
        have := ta.pos r hr
        omega
    have hl : (m ++ restL a b).length ≤ 1000 := by
      have : (restL a b).length ≤ b.length := List.length_filter_le _ _
      simp; omega
    obtain ⟨t, t1, t2, t3⟩ := of91 (m ++ restL a b) hl few chk nodup
    have tp : Pos t := fun x hx => (src x (t2.mem_iff.1 hx)).2
    have tv : ∀ k, val t k = val a k + val b k := by
      intro k
      rcases val_cases a k with ⟨r, c1, c2, c3⟩ | ⟨c1, c2⟩
      · have hmem : (r.1, r.2 + val b (K r)) ∈ t := t2.mem_iff.2 (List.mem_append.2 (.inl (m3 r c1).1))
        have := val_mem t1 _ hmem
        rw [c3, ← c2]; exact this
      · rw [c2, Int.zero_add]
        rcases val_cases b k with ⟨s, d1, d2, d3⟩ | ⟨d1, d2⟩
        · have hmem : s ∈ t := t2.mem_iff.2 (List.mem_append.2 (.inr (List.mem_filter.2 ⟨d1, by rw [decide_eq_true_iff, d2]; exact c2⟩)))
          have := val_mem t1 _ hmem
          rw [← d2, this, val_mem tb.rise s d1]
        · rw [d2]
          refine val_none fun x hx e => ?_
          obtain ⟨⟨r, hr, e1⟩, _⟩ := src x (t2.mem_iff.1 hx)
          have e2 : K r = k := by show keyF r.1 = k; rw [e1]; exact e
          rcases hr with hr | hr
          · exact c1 r hr e2
          · exact d1 r hr e2
    have ht : tog a b = if 256 < (m ++ restL a b).length then ([], 13) else (t, 0) := by
      unfold tog
      cases hm : mergeR a b with
      | none =>
        exfalso
        obtain ⟨k, hk⟩ := merge_none a b ta.rise tb.rise hm
        have := val_nonneg tp k
        rw [tv] at this; omega
      | some m' =>
        obtain ⟨q1, q2, _, q4⟩ := merge_some a b ta.rise tb.rise ta.pos tb.pos hm
        have : m' = t := val_ext q1 t1 q4 tp fun k => by rw [q2, tv]
        rw [this]
        simp only [t2.length_eq]
    rw [ht]
    generalize hA : m ++ restL a b = A at *
    by_cases h256 : 256 < A.length
    · rw [if_pos h256] at t3 ⊢
      refine fn_lim rfl rfl ?_ rfl
      simp [k1, k2, t3]
    · rw [if_neg h256] at t3 ⊢
      refine fn_lim rfl rfl ?_ rfl
      simp [k1, k2, t3]
theorem apply86 (s : Sn) (d : Dl) (hs : GoodT s.2) (hd : GoodT d.2.2) : TT.lim 86 [sn s, dl d] = some [sn (applyS s d).1, .i .i64 (applyS s d).2] := by
  have k1 := check59 s.2 hs.rows hs.few
  have k2 := check87 d hd
  have e2 : GV.g [.i .u64 d.1, .i .u64 d.2.1, .l (d.2.2.map row)] = dl d := rfl
  have e3 : GV.g [.i .u64 0, .l []] = sn zS := rfl
  have e4 : GV.g [.i .u64 d.2.1, .l ((tog s.2 d.2.2).1.map row)] = sn (d.2.1, (tog s.2 d.2.2).1) := rfl
  unfold applyS
  by_cases h1 : checkT s.2 = 0
  rotate_left
  · refine fn_lim rfl rfl ?_ rfl
    simp [k1, h1, e3]
  by_cases h2 : chkD d = 0
  rotate_left
  · refine fn_lim rfl rfl ?_ rfl
    simp [k1, h1, e2, k2, h2, e3]
  by_cases h3 : s.1 = d.1
  rotate_left
  · refine fn_lim rfl rfl ?_ rfl
    simp [k1, h1, e2, k2, h2, e3, h3]
  have k3 := sum88 s.2 d.2.2 (hs.tb ((checkT_iff _).1 h1)) (hd.tb (chkD_ok h2).2)
  have h3' : (s.1 = d.1) = True := eq_true h3
  clear h3
  by_cases h4 : (tog s.2 d.2.2).2 = 0
  rotate_left
  · refine fn_lim rfl rfl ?_ rfl
    simp [k1, h1, e2, k2, h2, e3, h3', k3, h4]
  · refine fn_lim rfl rfl ?_ rfl
    simp [k1, h1, e2, k2, h2, e4, h3', k3, h4]
theorem join95 (x y : Dl) (hx : GoodT x.2.2) (hy : GoodT y.2.2) : TT.lim 95 [dl x, dl y] = some [dl (joinD x y).1, .i .i64 (joinD x y).2] := by
  have k1 := check87 x hx
  have k2 := check87 y hy
  have e1 : GV.g [.i .u64 x.1, .i .u64 x.2.1, .l (x.2.2.map row)] = dl x := rfl
  have e2 : GV.g [.i .u64 y.1, .i .u64 y.2.1, .l (y.2.2.map row)] = dl y := rfl
  have e3 : GV.g [.i .u64 0, .i .u64 0, .l []] = dl zD := rfl
  have e4 : GV.g [.i .u64 x.1, .i .u64 y.2.1, .l ((tog x.2.2 y.2.2).1.map row)] = dl (x.1, y.2.1, (tog x.2.2 y.2.2).1) := rfl
  unfold joinD
  by_cases h1 : chkD x = 0
  rotate_left
  · refine fn_lim rfl rfl ?_ rfl
    simp [e1, k1, h1, e3]
  by_cases h2 : chkD y = 0
  rotate_left
  · refine fn_lim rfl rfl ?_ rfl
    simp [e1, k1, h1, e2, k2, h2, e3]
  by_cases h3 : y.1 = x.2.1
  rotate_left
  · refine fn_lim rfl rfl ?_ rfl
    simp [e1, k1, h1, e2, k2, h2, e3, h3]
  have k3 := sum88 x.2.2 y.2.2 (hx.tb (chkD_ok h1).2) (hy.tb (chkD_ok h2).2)
  have h3' : (y.1 = x.2.1) = True := eq_true h3
  clear h3
  by_cases h4 : (tog x.2.2 y.2.2).2 = 0
  rotate_left
  · refine fn_lim rfl rfl ?_ rfl
    simp [e1, k1, h1, e2, k2, h2, e3, h3', k3, h4]
  · refine fn_lim rfl rfl ?_ rfl
    simp [e1, k1, h1, e2, k2, h2, e4, h3', k3, h4]
theorem apply_good' {s : Sn} {d : Dl} (hs : GoodT s.2) (hd : GoodT d.2.2) : GoodT (applyS s d).1.2 := by
  by_cases h : (applyS s d).2 = 0
  · exact (apply_tb hs hd h).1.good
  · rw [applyS_zero h]; exact tb_nil.good
set_option maxHeartbeats 8000000 in
theorem tells52 (s n : Sn) (d f : Dl) (rs : Rows s.2) (rn : Rows n.2) (rd : Rows d.2.2) (rf : Rows f.2.2) : TT.lim 52 [sn s, sn n, dl d, dl f] = some [.b true] := by
  have f1 := few2 _ rs
  have f2 := few2 _ rn
  have f3 := few2 _ rd
  have f4 := few2 _ rf
  have e1 : GV.g [.i .u64 s.1, .l (s.2.map row)] = sn s := rfl
  have e2 : GV.g [.i .u64 n.1, .l (n.2.map row)] = sn n := rfl
  have e3 : GV.g [.i .u64 d.1, .i .u64 d.2.1, .l (d.2.2.map row)] = dl d := rfl
  have e4 : GV.g [.i .u64 f.1, .i .u64 f.2.1, .l (f.2.2.map row)] = dl f := rfl
  refine fn_lim rfl rfl ?_ rfl
  cases g1 : few13 s.2 with
  | false => rw [g1] at f1; simp [f1]
  | true =>
  rw [g1] at f1
  cases g2 : few13 n.2 with
  | false => rw [g2] at f2; simp [f1, f2]
  | true =>
  rw [g2] at f2
  cases g3 : few13 d.2.2 with
  | false => rw [g3] at f3; simp [f1, f2, f3]
  | true =>
  rw [g3] at f3
  cases g4 : few13 f.2.2 with
  | false => rw [g4] at f4; simp [f1, f2, f3, f4]
  | true =>
  rw [g4] at f4
  have qs := good_of rs g1
  have qn := good_of rn g2
  have qd := good_of rd g3
  have qf := good_of rf g4
  have gA : GoodT (diffS s n).1.2.2 := by
    by_cases h : (diffS s n).2 = 0
    · exact (back1 qs qn h).2.2
    · rw [diffS_zero h]; exact tb_nil.good
  have gB := apply_good' qs qd
  have gC := joinD_rows qd qf
  have a1 := diff48 s n qs qn
  have a2 := diff58 s n qs qn
  have b1 := apply51 s d qs qd
  have b2 := apply86 s d qs qd
  have c1 := join40 d f qd qf
  have c2 := join95 d f qd qf
  have t1 := to53 s qs
  have t2 := to53 n qn
  have t3 := to53 _ gB
  have t4 := delta85 d qd
  have t5 := delta85 f qf
  have t6 := delta85 _ gA
  have t7 := delta85 _ gC
  have r1 := sameD96_refl _ gA
  have r2 := sameS100_refl _ gB
  have r3 := sameD96_refl _ gC
  have r4 := sameS100 s n qs
  have u1 := check41 d qd
  have u2 := check87 d qd
  have u3 := check49 s qs
  have u4 := check37 s.2 qs.rows qs.few
  have w1 := same_good s.2 n.2 qs qn
  have w2 := same_good s.2 s.2 qs qs
  rw [decide_eq_true (rfl : s.2 = s.2)] at w2
  have cl := clone101 s qs
  have e5 : GV.g [.i .u64 (diffS s n).1.1, .i .u64 (diffS s n).1.2.1, .l ((diffS s n).1.2.2.map row)] = dl (diffS s n).1 := rfl
  have e6 : GV.g [.i .u64 (applyS s d).1.1, .l ((applyS s d).1.2.map row)] = sn (applyS s d).1 := rfl
  have e7 : GV.g [.i .u64 (joinD d f).1.1, .i .u64 (joinD d f).1.2.1, .l ((joinD d f).1.2.2.map row)] = dl (joinD d f).1 := rfl
  generalize diffS s n = A at *
  generalize applyS s d = B at *
  generalize joinD d f = C at *
  generalize hq : decide (s.2 = n.2) = q at *
  clear hq
  by_cases hen : s.1 = n.1
  · have hen' : (s.1 = n.1) = True := eq_true hen
    simp only [hen'] at r4
    clear hen
    cases q <;> simp [f1, f2, f3, f4, e1, e2, e3, e4, e5, e6, e7, a1, a2, b1, b2, c1, c2, t1, t2, t3, t4, t5, t6, t7, r1, r2, r3, r4, u1, u2, u3, u4, hen', w1, w2, cl]
  · simp only [hen] at r4
    simp [f1, f2, f3, f4, e1, e2, e3, e4, e5, e6, e7, a1, a2, b1, b2, c1, c2, t1, t2, t3, t4, t5, t6, t7, r1, r2, r3, r4, u1, u2, u3, u4, hen, w1, w2, cl]
abbrev snTy : List GTy := [.int .u64, .list true [.list true [.str, .str], .int .u64]]
theorem sn_of {cs : List GV} (h : GTy.hasL snTy cs) : ∃ s : Sn, Rows s.2 ∧ GV.g cs = sn s := by
  obtain ⟨e, l, rfl, h2, h⟩ := hasL_cons h
  obtain ⟨t, l, rfl, h3, h⟩ := hasL_cons h
  obtain rfl := hasL_nil h
  obtain ⟨e, rfl, _, _⟩ := has_u64 h2
  obtain ⟨t, ht, rfl⟩ := rows_of h3
  exact ⟨(e, t), ht, rfl⟩
theorem deltaTells (gs : List GV) (h : hasArgs [(true, snTy), (true, snTy), (true, dlTy), (true, dlTy)] gs) : TT.lim 52 gs = some [.b true] := by
  obtain ⟨a, gs, rfl, h1, h⟩ := hasA_agg h
  obtain ⟨b, gs, rfl, h2, h⟩ := hasA_agg h
  obtain ⟨c, gs, rfl, h3, h⟩ := hasA_agg h
  obtain ⟨d, gs, rfl, h4, h⟩ := hasA_agg h
  obtain rfl := hasA_nil h
  obtain ⟨x, hx, ex⟩ := sn_of h1
  obtain ⟨y, hy, ey⟩ := sn_of h2
  obtain ⟨z, hz, ez⟩ := dl_of h3
  obtain ⟨w, hw, ew⟩ := dl_of h4
  rw [ex, ey, ez, ew]
  exact tells52 x y z w hx hy hz hw
end D
end Go.Proofs.YtamcdgfjjeldeaaGreatDoor
