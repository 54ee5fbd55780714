/- What the trees compute: plain laws. -/
import Derived.Test.YtcnadokjijncjaaGreatDoorKVe2
namespace Go.Proofs.YtcnadokjijncjaaGreatDoor
open Go Go.Abs
set_option linter.unusedSimpArgs false
set_option linter.unusedVariables false
set_option maxRecDepth 100000
namespace V
abbrev wPair : List UInt8 := [112, 97, 105, 114]
abbrev wThere : List UInt8 := [116, 104, 101, 114, 101]
abbrev wBack : List UInt8 := [98, 97, 99, 107]
def M4 : List Nat := [18446744073709551615, 18446744073709551615, 18446744073709551615, 18446744073709551615]
def pairF (w : List UInt8) (r : List (List UInt8)) : List Nat × Int := if w ≠ wPair then ([], 23) else if r.length ≠ 4 then ([], 23) else numsF r M4
theorem len4 {α : Type} {l : List α} (h : l.length = 4) : ∃ a b c d, l = [a, b, c, d] := by
  match l, h with
  | [a, b, c, d], _ => exact ⟨a, b, c, d, rfl⟩
structure Sc where
  m1 : Nat
  m2 : Nat
  m3 : Nat
  m4 : Nat
  th : List Ft
  bk : List Ft
  cm : List Cm
def zSc : Sc := ⟨0, 0, 0, 0, [], [], []⟩
def scL (s : Sc) : List GV := [nG s.m1, nG s.m2, nG s.m3, nG s.m4, .l (s.th.map ftG), .l (s.bk.map ftG), .l (s.cm.map cmG)]
theorem ppair_ok (w : List UInt8) (r : List (List UInt8)) (hl : r.length ≤ 70000) (hw : ∀ x ∈ r, x.length ≤ 70000) (a1 a2 a3 a4 T B C : GV) :
    ((pairF w r).2 ≠ 0 ∧ TT.lim 16 [.l (.s w :: r.map .s), a1, a2, a3, a4, T, B, C] = some [.i .i64 0, .i .i64 (pairF w r).2, a1, a2, a3, a4]) ∨
    ∃ n1 n2 n3 n4, pairF w r = ([n1, n2, n3, n4], 0) ∧ TT.lim 16 [.l (.s w :: r.map .s), a1, a2, a3, a4, T, B, C] = some [.i .i64 0, .i .i64 0, nG n1, nG n2, nG n3, nG n4] := by
  have hml := mapLen r
  by_cases h1 : w = wPair
  rotate_left
  · left
    have e : pairF w r = ([], 23) := by unfold pairF; rw [if_pos h1]
    rw [e]
    have h1' := eq_false h1
    clear h1 e
    generalize r.map GV.s = R at *
    refine ⟨by decide, tree_lim rfl rfl ?_⟩
    simp [h1']
  subst h1
  by_cases h2 : r.length = 4
  rotate_left
  · left
    have e : pairF wPair r = ([], 23) := by unfold pairF; rw [if_neg (by simp), if_pos h2]
    rw [e]
    have h2' : ¬ ((r.length : Int) + 1 = 5) := by omega
    clear e
    generalize r.map GV.s = R at *
    refine ⟨by decide, tree_lim rfl rfl ?_⟩
    simp [hml, h2']
  have e : pairF wPair r = numsF r M4 := by unfold pairF; rw [if_neg (by simp), if_neg (by simpa using h2)]
  obtain ⟨a, b, c, d, rfl⟩ := len4 h2
  have k : TT.lim 6 [.l [.s a, .s b, .s c, .s d], .l [.i .u64 18446744073709551615, .i .u64 18446744073709551615, .i .u64 18446744073709551615, .i .u64 18446744073709551615]] = _ := pnums_ok [a, b, c, d] M4 rfl hw (by decide)
  rw [e]
  by_cases e0 : (numsF [a, b, c, d] M4).2 = 0
  · right
    obtain ⟨n1, n2, n3, n4, hn⟩ := len4 (numsF_len e0 rfl)
    refine ⟨n1, n2, n3, n4, Prod.ext hn e0, ?_⟩
    rw [e0, hn] at k
    simp only [List.map_cons, List.map_nil, nG] at k ⊢
    clear e
    refine tree_lim rfl rfl ?_
    simp [k]
  · left
    refine ⟨e0, ?_⟩
    clear e
    generalize (numsF [a, b, c, d] M4).1.map nG = N at *
    generalize (numsF [a, b, c, d] M4).2 = E at *
    refine tree_lim rfl rfl ?_
    simp [k, e0]
def furF (no : Int) (w : List UInt8) (r : List (List UInt8)) (s : Sc) : Int × Sc :=
  if w = wThere then (if (fateF r).2 ≠ 0 then ((fateF r).2, s) else if s.th.length + s.bk.length = 200 then (13, s) else (0, { s with th := s.th ++ [(fateF r).1] }))
  else if w = wBack then (if (fateF r).2 ≠ 0 then ((fateF r).2, s) else if s.th.length + s.bk.length = 200 then (13, s) else (0, { s with bk := s.bk ++ [(fateF r).1] }))
  else if (cmdF w r).2 ≠ 0 then ((cmdF w r).2, s) else if s.cm.length = 1000 then (13, s) else (0, { s with cm := s.cm ++ [{ (cmdF w r).1 with ln := no }] })
theorem elemF (f : Ft) : (ftG f).elemOk 6 = true := rfl
theorem elemC (c : Cm) : (cmG c).elemOk 5 = true := rfl
def ScOk (s : Sc) : Prop := s.th.length + s.bk.length ≤ 200 ∧ s.cm.length ≤ 1000
theorem furF_ok {no : Int} {w : List UInt8} {r : List (List UInt8)} {s : Sc} (h : ScOk s) : ScOk (furF no w r s).2 := by
  obtain ⟨h1, h2⟩ := h
  unfold furF
  repeat' split
  all_goals first | exact ⟨h1, h2⟩ | skip
  all_goals
    refine ⟨?_, ?_⟩ <;> simp only [List.length_append, List.length_singleton] <;> omega
theorem pfur_ok (no : Int) (w : List UInt8) (r : List (List UInt8)) (hl : r.length ≤ 70000) (hw : ∀ x ∈ r, x.length ≤ 70000) (s : Sc) (hs : ScOk s) :
    TT.lim 15 (.i .i64 no :: .l (.s w :: r.map .s) :: scL s) = some (.i .i64 0 :: .i .i64 (furF no w r s).1 :: (scL (furF no w r s).2).drop 4) := by
  have kf := pfate_ok w r hl hw
  have kc := pcmd_ok w r hl hw
  obtain ⟨m1, m2, m3, m4, th, bk, cm⟩ := s
  obtain ⟨hs1, hs2⟩ := hs
  simp only at hs1 hs2
  have ht : ((th.map ftG).length : Int) = (th.length : Int) := by rw [List.length_map]
  have hb : ((bk.map ftG).length : Int) = (bk.length : Int) := by rw [List.length_map]
  have hc : ((cm.map cmG).length : Int) = (cm.length : Int) := by rw [List.length_map]
  have hwr : IntKind.i64.wrap ((th.length : Int) + bk.length) = (th.length : Int) + bk.length := wrap64 (by omega) (by omega)
  have c1 : 2 * ((th.map ftG).length + 1) * 32 ≤ 281474976710656 ∧ (th.map ftG).length + 1 ≤ 281474976710656 := by rw [List.length_map]; omega
  have c2 : 2 * ((bk.map ftG).length + 1) * 32 ≤ 281474976710656 ∧ (bk.map ftG).length + 1 ≤ 281474976710656 := by rw [List.length_map]; omega
  have c3 : 2 * ((cm.map cmG).length + 1) * 48 ≤ 281474976710656 ∧ (cm.map cmG).length + 1 ≤ 281474976710656 := by rw [List.length_map]; omega
  have w200 : IntKind.i64.wrap 200 = 200 := rfl
  unfold furF
  simp only
  by_cases w1 : w = wThere
  · rw [if_pos w1]
    subst w1
    clear kc
    by_cases e1 : (fateF r).2 = 0
    rotate_left
    · rw [if_pos e1]
      simp only [scL, List.drop_succ_cons, List.drop_zero]
      generalize (fateF r).2 = E at *
      generalize r.map GV.s = R at *
      generalize th.map ftG = T at *
      generalize bk.map ftG = B at *
      generalize cm.map cmG = C at *
      refine tree_lim rfl rfl ?_
      simp [kf, e1]
    rw [if_neg (by simpa using e1)]
    rw [e1] at kf
    by_cases e2 : th.length + bk.length = 200
    · rw [if_pos e2]
      have e2' : (th.length : Int) + bk.length = 200 := by omega
      simp only [scL, List.drop_succ_cons, List.drop_zero]
      generalize r.map GV.s = R at *
      generalize th.map ftG = T at *
      generalize bk.map ftG = B at *
      generalize cm.map cmG = C at *
      refine tree_lim rfl rfl ?_
      simp [kf, ht, hb, hwr, w200, e2']
    · rw [if_neg e2]
      have e2' : ¬ (th.length : Int) + bk.length = 200 := by omega
      simp only [scL, List.drop_succ_cons, List.drop_zero, List.map_append, List.map_cons, List.map_nil]
      have hE := elemF (fateF r).1
      generalize fateF r = F at *
      obtain ⟨⟨f1, f2, f3, f4, f5, f6⟩, FE⟩ := F
      simp only [ftG] at kf hE ⊢
      generalize r.map GV.s = R at *
      generalize th.map ftG = T at *
      generalize bk.map ftG = B at *
      generalize cm.map cmG = C at *
      refine tree_lim rfl rfl ?_
      simp [kf, ht, hb, hwr, e2', c1, hE]
  rw [if_neg w1]
  by_cases w2 : w = wBack
  · rw [if_pos w2]
    subst w2
    clear kc w1
    by_cases e1 : (fateF r).2 = 0
    rotate_left
    · rw [if_pos e1]
      simp only [scL, List.drop_succ_cons, List.drop_zero]
      generalize (fateF r).2 = E at *
      generalize r.map GV.s = R at *
      generalize th.map ftG = T at *
      generalize bk.map ftG = B at *
      generalize cm.map cmG = C at *
      refine tree_lim rfl rfl ?_
      simp [kf, e1]
    rw [if_neg (by simpa using e1)]
    rw [e1] at kf
    by_cases e2 : th.length + bk.length = 200
    · rw [if_pos e2]
      have e2' : (th.length : Int) + bk.length = 200 := by omega
      simp only [scL, List.drop_succ_cons, List.drop_zero]
      generalize r.map GV.s = R at *
      generalize th.map ftG = T at *
      generalize bk.map ftG = B at *
      generalize cm.map cmG = C at *
      refine tree_lim rfl rfl ?_
      simp [kf, ht, hb, hwr, w200, e2']
    · rw [if_neg e2]
      have e2' : ¬ (th.length : Int) + bk.length = 200 := by omega
      simp only [scL, List.drop_succ_cons, List.drop_zero, List.map_append, List.map_cons, List.map_nil]
      have hE := elemF (fateF r).1
      generalize fateF r = F at *
      obtain ⟨⟨f1, f2, f3, f4, f5, f6⟩, FE⟩ := F
      simp only [ftG] at kf hE ⊢
      generalize r.map GV.s = R at *
      generalize th.map ftG = T at *
      generalize bk.map ftG = B at *
      generalize cm.map cmG = C at *
      refine tree_lim rfl rfl ?_
      simp [kf, ht, hb, hwr, e2', c2, hE]
  rw [if_neg w2]
  have w1' := eq_false w1
  have w2' := eq_false w2
  clear kf w1 w2
  by_cases e1 : (cmdF w r).2 = 0
  rotate_left
  · rw [if_pos e1]
    simp only [scL, List.drop_succ_cons, List.drop_zero]
    generalize (cmdF w r).2 = E at *
    generalize r.map GV.s = R at *
    generalize th.map ftG = T at *
    generalize bk.map ftG = B at *
    generalize cm.map cmG = C at *
    refine tree_lim rfl rfl ?_
    simp [w1', w2', kc, e1]
  rw [if_neg (by simpa using e1)]
  rw [e1] at kc
  by_cases e2 : cm.length = 1000
  · rw [if_pos e2]
    have e2' : (cm.length : Int) = 1000 := by omega
    simp only [scL, List.drop_succ_cons, List.drop_zero]
    generalize r.map GV.s = R at *
    generalize th.map ftG = T at *
    generalize bk.map ftG = B at *
    generalize cm.map cmG = C at *
    refine tree_lim rfl rfl ?_
    simp [w1', w2', kc, hc, e2']
  · rw [if_neg e2]
    have e2' : ¬ (cm.length : Int) = 1000 := by omega
    simp only [scL, List.drop_succ_cons, List.drop_zero, List.map_append, List.map_cons, List.map_nil]
    generalize cmdF w r = F at *
    obtain ⟨⟨f1, f2, f3, f4, f5⟩, FE⟩ := F
    have hE := elemC ⟨no, f2, f3, f4, f5⟩
    simp only [cmG] at kc hE ⊢
    generalize r.map GV.s = R at *
    generalize th.map ftG = T at *
    generalize bk.map ftG = B at *
    generalize cm.map cmG = C at *
    refine tree_lim rfl rfl ?_
    simp [w1', w2', kc, hc, e2', c3, hE]
def stepF (no : Nat) (b : Bool) (s : Sc) (l : List UInt8) : Int × Bool × Sc :=
  match lineF l with
  | [] => (0, b, s)
  | w :: r => if b = false then (if (pairF w r).2 ≠ 0 then ((pairF w r).2, b, s) else (0, true, { s with m1 := (pairF w r).1.getD 0 0, m2 := (pairF w r).1.getD 1 0, m3 := (pairF w r).1.getD 2 0, m4 := (pairF w r).1.getD 3 0 }))
    else ((furF (no + 1) w r s).1, b, (furF (no + 1) w r s).2)
def runF : Nat → Bool → Sc → List (List UInt8) → Nat × Int × Bool × Sc
  | _, b, s, [] => (0, 0, b, s)
  | no, b, s, l :: ls => if (stepF no b s l).1 ≠ 0 then (no + 1, (stepF no b s l).1, b, s) else runF (no + 1) (stepF no b s l).2.1 (stepF no b s l).2.2 ls
def parseF (t : List UInt8) : Sc × Nat × Int :=
  if 65536 < t.length then (zSc, 0, 4) else
  if (runF 0 false zSc (cutF 10 t)).2.1 ≠ 0 then (zSc, (runF 0 false zSc (cutF 10 t)).1, (runF 0 false zSc (cutF 10 t)).2.1)
  else if (runF 0 false zSc (cutF 10 t)).2.2.1 = false then (zSc, 0, 24) else ((runF 0 false zSc (cutF 10 t)).2.2.2, 0, 0)
def ansP (x : Nat × Int × Bool × Sc) : List GV := if x.2.1 ≠ 0 then [.i .i64 0, .i .i64 x.1, .i .i64 x.2.1] else .i .i64 1 :: .b x.2.2.1 :: scL x.2.2.2
theorem lineF_nil {l : List UInt8} (h : wordsF l = []) : lineF l = [] := by unfold lineF; rw [h]
theorem lineF_hash {l w : List UInt8} {r : List (List UInt8)} (h : wordsF l = (35 :: w) :: r) : lineF l = [] := by unfold lineF; rw [h]; rfl
theorem lineF_cons {l w : List UInt8} {b : UInt8} {r : List (List UInt8)} (h : wordsF l = (b :: w) :: r) (hb : b ≠ 35) : lineF l = (b :: w) :: r := by
  unfold lineF
  rw [h]
  simp only [List.getElem?_cons_zero, Option.some.injEq]
  rw [if_neg hb]
theorem stepF_nil {no : Nat} {b : Bool} {s : Sc} {l : List UInt8} (h : lineF l = []) : stepF no b s l = (0, b, s) := by unfold stepF; rw [h]
theorem stepF_cons {no : Nat} {b : Bool} {s : Sc} {l w : List UInt8} {r : List (List UInt8)} (h : lineF l = w :: r) : stepF no b s l = if b = false then (if (pairF w r).2 ≠ 0 then ((pairF w r).2, b, s) else (0, true, { s with m1 := (pairF w r).1.getD 0 0, m2 := (pairF w r).1.getD 1 0, m3 := (pairF w r).1.getD 2 0, m4 := (pairF w r).1.getD 3 0 })) else ((furF (no + 1) w r s).1, b, (furF (no + 1) w r s).2) := by unfold stepF; rw [h]
theorem stepF_ok {no : Nat} {b : Bool} {s : Sc} {l : List UInt8} (h : ScOk s) : ScOk (stepF no b s l).2.2 := by
  cases e : lineF l with
  | nil => rw [stepF_nil e]; exact h
  | cons w r =>
    rw [stepF_cons e]
    split
    · split
      · exact h
      · exact h
    · exact furF_ok h
theorem cutF_mem_len (c : UInt8) : ∀ (s x : List UInt8), x ∈ cutF c s → x.length ≤ s.length
  | [], x, h => by simp [cutF] at h; subst h; simp
  | b :: s, x, h => by
    have ih := cutF_mem_len c s
    unfold cutF at h
    split at h
    · rcases List.mem_cons.1 h with rfl | h
      · simp
      · have := ih x h; simp; omega
    · split at h
      · next e =>
        rcases List.mem_cons.1 h with rfl | h
        · simp
        · cases h
      · next y r e =>
        rcases List.mem_cons.1 h with rfl | h
        · have := ih y (by rw [e]; simp)
          simp; omega
        · have := ih x (by rw [e]; simp [h]); simp; omega
theorem words_len (l : List UInt8) : (wordsF l).length ≤ l.length + 1 := by
  have h1 := List.length_filter_le (fun w : List UInt8 => !w.isEmpty) (cutF 32 l)
  have h2 := cutF_len 32 l
  exact Nat.le_trans h1 h2
theorem words_mem {l x : List UInt8} (h : x ∈ wordsF l) : x.length ≤ l.length := cutF_mem_len 32 l x (List.mem_filter.1 h).1
theorem scL_eq (s : Sc) : scL s = [nG s.m1, nG s.m2, nG s.m3, nG s.m4, .l (s.th.map ftG), .l (s.bk.map ftG), .l (s.cm.map cmG)] := rfl
theorem pparse0 (ls : List (List UInt8)) (hk : ls.length ≤ 70000) (hls : ∀ l ∈ ls, l.length ≤ 65536) : ∀ (m i : Nat) (b : Bool) (s : Sc), i + m = ls.length → ScOk s →
    TT.lim 3 (.b b :: .l (ls.map .s) :: .i .i64 ls.length :: .i .i64 i :: scL s) = some (ansP (runF i b s (ls.drop i)))
  | 0, i, b, s, hi, hs => by
    have h : ¬ ((i : Int) < ls.length) := by omega
    rw [List.drop_eq_nil_of_le (by omega)]
    have e : ansP (runF i b s []) = .i .i64 1 :: .b b :: scL s := rfl
    rw [e, scL_eq]
    generalize s.th.map ftG = T at *
    generalize s.bk.map ftG = B at *
    generalize s.cm.map cmG = C at *
    refine tree_lim rfl rfl ?_
    simp [h]
  | m + 1, i, b, s, hi, hs => by
    have hlt : i < ls.length := by omega
    have h : ((i : Int) < ls.length) := by omega
    have hw := wrap64 (n := (i : Int) + 1) (by omega) (by omega)
    have hcast : ((i + 1 : Nat) : Int) = (i : Int) + 1 := by omega
    have hget : (ls.map GV.s)[i]? = some (.s ls[i]) := by rw [List.getElem?_map, List.getElem?_eq_getElem hlt]; rfl
    have hll : ls[i].length ≤ 65536 := hls _ (List.getElem_mem hlt)
    have kw := tfields ls[i] (by omega)
    have ih := fun b s => pparse0 ls hk hls m (i + 1) b s (by omega)
    rw [List.drop_eq_getElem_cons hlt]
    have hsk : stepF i b s ls[i] = (0, b, s) → TT.lim 3 (.b b :: .l (ls.map .s) :: .i .i64 ls.length :: .i .i64 ((i + 1 : Nat) : Int) :: scL s) = some (ansP (runF i b s (ls[i] :: ls.drop (i + 1)))) := fun e => by
      rw [ih b s hs]
      conv => rhs; rw [runF, e]
      rfl
    cases hws : wordsF ls[i] with
    | nil =>
      have hk := hsk (stepF_nil (lineF_nil hws))
      rw [hws, List.map_nil] at kw
      rw [hcast, scL_eq] at hk
      rw [scL_eq]
      generalize ansP (runF i b s (ls[i] :: ls.drop (i + 1))) = O at *
      generalize s.th.map ftG = T at *
      generalize s.bk.map ftG = B at *
      generalize s.cm.map cmG = C at *
      generalize ls[i] = l at *
      generalize ls.map GV.s = LS at *
      generalize (ls.length : Int) = L at *
      refine tree_lim rfl rfl ?_
      simp [h, hw, hget, kw, hk]
    | cons w0 r =>
      obtain ⟨c, w, rfl⟩ := List.exists_cons_of_ne_nil (words_ne (l := ls[i]) w0 (by rw [hws]; simp))
      have hrl : r.length ≤ 70000 := by
        have := words_len ls[i]
        rw [hws, List.length_cons] at this; omega
      have hrw : ∀ x ∈ r, x.length ≤ 70000 := fun x hx => by
        have := words_mem (l := ls[i]) (x := x) (by rw [hws]; simp [hx]); omega
      rw [hws, List.map_cons] at kw
      have hp : ¬ (((r.map GV.s).length : Int) + 1 = 0) := by omega
      by_cases hc : c = 35
      · subst hc
        have hk := hsk (stepF_nil (lineF_hash hws))
        rw [hcast, scL_eq] at hk
        rw [scL_eq]
        generalize ansP (runF i b s (ls[i] :: ls.drop (i + 1))) = O at *
        generalize s.th.map ftG = T at *
        generalize s.bk.map ftG = B at *
        generalize s.cm.map cmG = C at *
        generalize ls[i] = l at *
        generalize ls.map GV.s = LS at *
        generalize (ls.length : Int) = L at *
        generalize r.map GV.s = R at *
        refine tree_lim rfl rfl ?_
        simp [h, hw, hget, kw, hp, hk]
      have hc' : ((c.toNat : Int) = 35) = False := eq_false fun h => hc (UInt8.toNat_inj.1 (by show c.toNat = 35; omega))
      have hst := stepF_cons (no := i) (b := b) (s := s) (lineF_cons hws hc)
      clear hsk
      cases b with
      | false =>
        rw [if_pos rfl] at hst
        have kp := ppair_ok (c :: w) r hrl hrw (nG s.m1) (nG s.m2) (nG s.m3) (nG s.m4) (.l (s.th.map ftG)) (.l (s.bk.map ftG)) (.l (s.cm.map cmG))
        rcases kp with ⟨e1, kp⟩ | ⟨n1, n2, n3, n4, e1, kp⟩
        · rw [if_pos e1] at hst
          have : ansP (runF i false s (ls[i] :: ls.drop (i + 1))) = [.i .i64 0, .i .i64 ((i : Int) + 1), .i .i64 (pairF (c :: w) r).2] := by
            rw [runF, hst, if_pos e1]
            unfold ansP
            rw [if_pos e1, hcast]
          rw [this, scL_eq]
          clear this hst ih
          generalize (pairF (c :: w) r).2 = E at *
          generalize s.th.map ftG = T at *
          generalize s.bk.map ftG = B at *
          generalize s.cm.map cmG = C at *
          generalize ls[i] = l at *
          generalize ls.map GV.s = LS at *
          generalize (ls.length : Int) = L at *
          generalize r.map GV.s = R at *
          refine tree_lim rfl rfl ?_
          simp [h, hw, hget, kw, hp, hc', kp, e1]
        · rw [e1, if_neg (by simp)] at hst
          have ih1 := ih true { s with m1 := n1, m2 := n2, m3 := n3, m4 := n4 } hs
          rw [runF, hst, if_neg (by simp)]
          change TT.lim _ _ = some (ansP (runF (i + 1) true { s with m1 := n1, m2 := n2, m3 := n3, m4 := n4 } (ls.drop (i + 1))))
          clear hst ih
          rw [hcast, scL_eq] at ih1
          rw [scL_eq]
          generalize ansP (runF (i + 1) true { s with m1 := n1, m2 := n2, m3 := n3, m4 := n4 } (ls.drop (i + 1))) = O at *
          simp only at ih1
          generalize s.th.map ftG = T at *
          generalize s.bk.map ftG = B at *
          generalize s.cm.map cmG = C at *
          generalize ls[i] = l at *
          generalize ls.map GV.s = LS at *
          generalize (ls.length : Int) = L at *
          generalize r.map GV.s = R at *
          refine tree_lim rfl rfl ?_
          simp [h, hw, hget, kw, hp, hc', kp, ih1]
      | true =>
        rw [if_neg (by simp)] at hst
        have kp := pfur_ok ((i : Int) + 1) (c :: w) r hrl hrw s hs
        have hok := furF_ok (no := (i : Int) + 1) (w := c :: w) (r := r) hs
        by_cases e1 : (furF ((i : Int) + 1) (c :: w) r s).1 = 0
        · have ih1 := ih true (furF ((i : Int) + 1) (c :: w) r s).2 hok
          have hm : (furF ((i : Int) + 1) (c :: w) r s).2.m1 = s.m1 ∧ (furF ((i : Int) + 1) (c :: w) r s).2.m2 = s.m2 ∧ (furF ((i : Int) + 1) (c :: w) r s).2.m3 = s.m3 ∧ (furF ((i : Int) + 1) (c :: w) r s).2.m4 = s.m4 := by
            unfold furF
            repeat' split
            all_goals exact ⟨rfl, rfl, rfl, rfl⟩
          rw [runF, hst]
          simp only
          rw [if_neg (by simpa using e1)]
          clear hst ih hok
          rw [e1] at kp
          rw [hcast, scL_eq, hm.1, hm.2.1, hm.2.2.1, hm.2.2.2] at ih1
          simp only [scL_eq, List.drop_succ_cons, List.drop_zero] at kp
          rw [scL_eq]
          generalize furF ((i : Int) + 1) (c :: w) r s = F at *
          generalize ansP (runF (i + 1) true F.2 (ls.drop (i + 1))) = O at *
          generalize F.2.th.map ftG = T' at *
          generalize F.2.bk.map ftG = B' at *
          generalize F.2.cm.map cmG = C' at *
          generalize s.th.map ftG = T at *
          generalize s.bk.map ftG = B at *
          generalize s.cm.map cmG = C at *
          generalize ls[i] = l at *
          generalize ls.map GV.s = LS at *
          generalize (ls.length : Int) = L at *
          generalize r.map GV.s = R at *
          clear hm e1
          refine tree_lim rfl rfl ?_
          simp [h, hw, hget, kw, hp, hc', kp, ih1]
        · have : ansP (runF i true s (ls[i] :: ls.drop (i + 1))) = [.i .i64 0, .i .i64 ((i : Int) + 1), .i .i64 (furF ((i : Int) + 1) (c :: w) r s).1] := by
            rw [runF, hst]
            simp only
            rw [if_pos e1]
            unfold ansP
            rw [if_pos e1, hcast]
          rw [this]
          clear this hst ih hok
          simp only [scL_eq, List.drop_succ_cons, List.drop_zero] at kp
          rw [scL_eq]
          generalize furF ((i : Int) + 1) (c :: w) r s = F at *
          generalize F.2.th.map ftG = T' at *
          generalize F.2.bk.map ftG = B' at *
          generalize F.2.cm.map cmG = C' at *
          generalize F.1 = E at *
          generalize s.th.map ftG = T at *
          generalize s.bk.map ftG = B at *
          generalize s.cm.map cmG = C at *
          generalize ls[i] = l at *
          generalize ls.map GV.s = LS at *
          generalize (ls.length : Int) = L at *
          generalize r.map GV.s = R at *
          refine tree_lim rfl rfl ?_
          simp [h, hw, hget, kw, hp, hc', kp, e1]
theorem pparse_ok (t : List UInt8) (ht : t.length ≤ 65536) : TT.lim 1 [.s t] = some [.g (scL (parseF t).1), .i .i64 (parseF t).2.1, .i .i64 (parseF t).2.2] := by
  have k1 := tsplit t (by omega)
  have hcl := cutF_len 10 t
  have k2 := pparse0 (cutF 10 t) (by omega) (fun l hl => Nat.le_trans (cutF_mem_len 10 t l hl) ht) (cutF 10 t).length 0 false zSc (by omega) ⟨by decide, by decide⟩
  rw [List.drop_zero] at k2
  have hml := mapLen (cutF 10 t)
  have h0 : ¬ (65536 : Int) < t.length := by omega
  have hz : scL zSc = [.i .u64 0, .i .u64 0, .i .u64 0, .i .u64 0, .l [], .l [], .l []] := rfl
  rw [hz] at k2
  simp only [Int.natCast_zero] at k2
  unfold parseF
  rw [if_neg (by omega)]
  generalize runF 0 false zSc (cutF 10 t) = R at *
  generalize (cutF 10 t).map GV.s = C at *
  generalize ((cutF 10 t).length : Int) = CL at *
  unfold ansP at k2
  by_cases e : R.2.1 = 0
  · rw [if_neg (by simpa using e)] at k2
    rw [if_neg (by simpa using e)]
    by_cases e2 : R.2.2.1 = false
    · rw [if_pos e2, hz]
      rw [e2, scL_eq] at k2
      generalize R.2.2.2.th.map ftG = T' at *
      generalize R.2.2.2.bk.map ftG = B' at *
      generalize R.2.2.2.cm.map cmG = C' at *
      refine fn_lim rfl rfl ?_ rfl
      simp [h0, k1, hml, k2]
    · rw [if_neg e2]
      have e3 : R.2.2.1 = true := by simpa using e2
      rw [e3] at k2
      simp only [scL_eq, nG] at k2 ⊢
      generalize R.2.2.2.th.map ftG = T' at *
      generalize R.2.2.2.bk.map ftG = B' at *
      generalize R.2.2.2.cm.map cmG = C' at *
      refine fn_lim rfl rfl ?_ rfl
      simp [h0, k1, hml, k2]
  · rw [if_pos e] at k2
    rw [if_pos e, hz]
    refine fn_lim rfl rfl ?_ rfl
    simp [h0, k1, hml, k2]
theorem pairF_bad {w : List UInt8} {r : List (List UInt8)} (h : w ≠ wPair) : pairF w r = ([], 23) := by unfold pairF; rw [if_pos h]
theorem pairF_len {r : List (List UInt8)} (h : r.length ≠ 4) : pairF wPair r = ([], 23) := by unfold pairF; rw [if_neg (by simp), if_pos h]
theorem pairF_is {r : List (List UInt8)} (h : r.length = 4) : pairF wPair r = numsF r M4 := by unfold pairF; rw [if_neg (by simp), if_neg (by simpa using h)]
theorem rpair (w : List UInt8) (r : List (List UInt8)) (hw : ∀ x ∈ r, x.length ≤ 70000) (hwp : w = wPair) :
    ((pairF w r).2 ≠ 0 ∧ ∃ l, TT.lim 23 [.l (r.map .s), .l [.i .u64 18446744073709551615, .i .u64 18446744073709551615, .i .u64 18446744073709551615, .i .u64 18446744073709551615]] = some [l, .i .i64 (pairF w r).2]) ∨
    ∃ n1 n2 n3 n4, pairF w r = ([n1, n2, n3, n4], 0) ∧ TT.lim 23 [.l (r.map .s), .l [.i .u64 18446744073709551615, .i .u64 18446744073709551615, .i .u64 18446744073709551615, .i .u64 18446744073709551615]] = some [.l [nG n1, nG n2, nG n3, nG n4], .i .i64 0] := by
  subst hwp
  have k : TT.lim 23 [.l (r.map .s), .l [.i .u64 18446744073709551615, .i .u64 18446744073709551615, .i .u64 18446744073709551615, .i .u64 18446744073709551615]] = _ := rnums_ok r M4 hw (by decide)
  by_cases h : r.length = 4
  · rw [if_pos (show r.length = M4.length from h)] at k
    rw [pairF_is h]
    by_cases e0 : (numsF r M4).2 = 0
    · obtain ⟨n1, n2, n3, n4, hn⟩ := len4 (numsF_len e0 h.symm)
      rw [e0, hn] at k
      exact .inr ⟨n1, n2, n3, n4, Prod.ext hn e0, k⟩
    · exact .inl ⟨e0, _, k⟩
  · rw [if_neg (show ¬ r.length = M4.length from h)] at k
    rw [pairF_len h]
    exact .inl ⟨by decide, _, k⟩
theorem rnums_any (r : List (List UInt8)) (hw : ∀ x ∈ r, x.length ≤ 70000) : ∃ l e, TT.lim 23 [.l (r.map .s), .l [.i .u64 18446744073709551615, .i .u64 18446744073709551615, .i .u64 18446744073709551615, .i .u64 18446744073709551615]] = some [l, .i .i64 e] := by
  have k : TT.lim 23 [.l (r.map .s), .l [.i .u64 18446744073709551615, .i .u64 18446744073709551615, .i .u64 18446744073709551615, .i .u64 18446744073709551615]] = _ := rnums_ok r M4 hw (by decide)
  split at k
  · exact ⟨_, _, k⟩
  · exact ⟨_, _, k⟩
theorem rparse0 (ls : List (List UInt8)) (hk : ls.length ≤ 70000) (hls : ∀ l ∈ ls, l.length ≤ 65536) : ∀ (m i : Nat) (b : Bool) (s : Sc), i + m = ls.length → ScOk s →
    TT.lim 20 (.b b :: .l (ls.map .s) :: .i .i64 ls.length :: .i .i64 i :: scL s) = some (ansP (runF i b s (ls.drop i)))
  | 0, i, b, s, hi, hs => by
    have h : ¬ ((i : Int) < ls.length) := by omega
    rw [List.drop_eq_nil_of_le (by omega)]
    have e : ansP (runF i b s []) = .i .i64 1 :: .b b :: scL s := rfl
    rw [e, scL_eq]
    generalize s.th.map ftG = T at *
    generalize s.bk.map ftG = B at *
    generalize s.cm.map cmG = C at *
    refine tree_lim rfl rfl ?_
    simp [h]
  | m + 1, i, b, s, hi, hs => by
    have hlt : i < ls.length := by omega
    have h : ((i : Int) < ls.length) := by omega
    have hw := wrap64 (n := (i : Int) + 1) (by omega) (by omega)
    have hcast : ((i + 1 : Nat) : Int) = (i : Int) + 1 := by omega
    have hget : (ls.map GV.s)[i]? = some (.s ls[i]) := by rw [List.getElem?_map, List.getElem?_eq_getElem hlt]; rfl
    have hll : ls[i].length ≤ 65536 := hls _ (List.getElem_mem hlt)
    have kw := rwords_ok ls[i] (by omega)
    have ih := fun b s => rparse0 ls hk hls m (i + 1) b s (by omega)
    rw [List.drop_eq_getElem_cons hlt]
    cases hws : lineF ls[i] with
    | nil =>
      have hk : TT.lim 20 (.b b :: .l (ls.map .s) :: .i .i64 ls.length :: .i .i64 ((i + 1 : Nat) : Int) :: scL s) = some (ansP (runF i b s (ls[i] :: ls.drop (i + 1)))) := by
        rw [ih b s hs]
        conv => rhs; rw [runF, stepF_nil hws]
        rfl
      rw [hws, List.map_nil] at kw
      rw [hcast, scL_eq] at hk
      rw [scL_eq]
      generalize ansP (runF i b s (ls[i] :: ls.drop (i + 1))) = O at *
      generalize s.th.map ftG = T at *
      generalize s.bk.map ftG = B at *
      generalize s.cm.map cmG = C at *
      generalize ls[i] = l at *
      generalize ls.map GV.s = LS at *
      generalize (ls.length : Int) = L at *
      refine tree_lim rfl rfl ?_
      simp [h, hw, hget, kw, hk]
    | cons w r =>
      have hmem : ∀ x ∈ w :: r, x ∈ wordsF ls[i] ∧ (w :: r).length ≤ (wordsF ls[i]).length := fun x hx => by
        rw [← hws] at hx ⊢
        unfold lineF at hx ⊢
        split at hx
        · cases hx
        · next e => 
          rw [e]
          split at hx
          · cases hx
          · next e2 =>
            simp only [if_neg e2]
            exact ⟨hx, Nat.le_refl _⟩
      have hrl : r.length ≤ 70000 := by
        have := words_len ls[i]
        have h2 := (hmem w (by simp)).2
        rw [List.length_cons] at h2; omega
      have hrw : ∀ x ∈ r, x.length ≤ 70000 := fun x hx => by
        have := words_mem (hmem x (by simp [hx])).1; omega
      rw [hws, List.map_cons] at kw
      have hp : ¬ (((r.map GV.s).length : Int) + 1 = 0) := by omega
      have q1 : ((1 : Int) ≤ ((r.map GV.s).length : Int) + 1) = True := eq_true (by omega)
      have q2 : (∀ x, x ∈ r.map GV.s → x.cells.length = 1) = True := eq_true fun x hx => by
        obtain ⟨y, _, rfl⟩ := List.mem_map.1 hx
        rfl
      have hst := stepF_cons (no := i) (b := b) (s := s) hws
      cases b with
      | false =>
        rw [if_pos rfl] at hst
        by_cases w1 : w = wPair
        rotate_left
        · rw [pairF_bad w1, if_pos (by simp)] at hst
          have : ansP (runF i false s (ls[i] :: ls.drop (i + 1))) = [.i .i64 0, .i .i64 ((i : Int) + 1), .i .i64 23] := by
            rw [runF, hst, if_pos (by simp)]
            unfold ansP
            rw [if_pos (by simp), hcast]
          rw [this, scL_eq]
          have w1' := eq_false w1
          obtain ⟨l0, e0, kp⟩ := rnums_any r hrw
          clear this hst ih w1 hmem
          generalize s.th.map ftG = T at *
          generalize s.bk.map ftG = B at *
          generalize s.cm.map cmG = C at *
          generalize ls[i] = l at *
          generalize ls.map GV.s = LS at *
          generalize (ls.length : Int) = L at *
          generalize r.map GV.s = R at *
          refine tree_lim rfl rfl ?_
          simp [h, hw, hget, kw, hp, q1, q2, kp, w1']
        have kp := rpair w r hrw w1
        rcases kp with ⟨e1, l0, kp⟩ | ⟨n1, n2, n3, n4, e1, kp⟩
        · rw [if_pos e1] at hst
          have : ansP (runF i false s (ls[i] :: ls.drop (i + 1))) = [.i .i64 0, .i .i64 ((i : Int) + 1), .i .i64 (pairF w r).2] := by
            rw [runF, hst, if_pos e1]
            unfold ansP
            rw [if_pos e1, hcast]
          rw [this, scL_eq]
          clear this hst ih hmem
          generalize (pairF w r).2 = E at *
          generalize s.th.map ftG = T at *
          generalize s.bk.map ftG = B at *
          generalize s.cm.map cmG = C at *
          generalize ls[i] = l at *
          generalize ls.map GV.s = LS at *
          generalize (ls.length : Int) = L at *
          generalize r.map GV.s = R at *
          subst w1
          refine tree_lim rfl rfl ?_
          simp [h, hw, hget, kw, hp, q1, q2, kp, e1]
        · rw [e1, if_neg (by simp)] at hst
          have ih1 := ih true { s with m1 := n1, m2 := n2, m3 := n3, m4 := n4 } hs
          rw [runF, hst, if_neg (by simp)]
          change TT.lim _ _ = some (ansP (runF (i + 1) true { s with m1 := n1, m2 := n2, m3 := n3, m4 := n4 } (ls.drop (i + 1))))
          clear hst ih hmem
          rw [hcast, scL_eq] at ih1
          rw [scL_eq]
          generalize ansP (runF (i + 1) true { s with m1 := n1, m2 := n2, m3 := n3, m4 := n4 } (ls.drop (i + 1))) = O at *
          simp only at ih1
          generalize s.th.map ftG = T at *
          generalize s.bk.map ftG = B at *
          generalize s.cm.map cmG = C at *
          generalize ls[i] = l at *
          generalize ls.map GV.s = LS at *
          generalize (ls.length : Int) = L at *
          generalize r.map GV.s = R at *
          subst w1
          simp only [nG] at *
          refine tree_lim rfl rfl ?_
          simp [h, hw, hget, kw, hp, q1, q2, kp, ih1]
      | true =>
        rw [if_neg (by simp)] at hst
        have hok := furF_ok (no := (i : Int) + 1) (w := w) (r := r) hs
        have bad : ∀ e : Int, e ≠ 0 → (furF ((i : Int) + 1) w r s).1 = e → ansP (runF i true s (ls[i] :: ls.drop (i + 1))) = [.i .i64 0, .i .i64 ((i : Int) + 1), .i .i64 e] := fun e he hf => by
          rw [runF, hst]
          simp only
          rw [if_pos (by rw [hf]; exact he)]
          unfold ansP
          rw [if_pos (by simp only; rw [hf]; exact he), hcast, hf]
        have good : ∀ s', ScOk s' → furF ((i : Int) + 1) w r s = (0, s') → TT.lim 20 (.b true :: .l (ls.map .s) :: .i .i64 ls.length :: .i .i64 ((i : Int) + 1) :: scL s') = some (ansP (runF i true s (ls[i] :: ls.drop (i + 1)))) := fun s' hs' hf => by
          have := ih true s' hs'
          rw [hcast] at this
          rw [this, runF, hst, hf]
          rfl
        clear hst ih hmem
        generalize ansP (runF i true s (ls[i] :: ls.drop (i + 1))) = O at *
        have kf := rfate_ok r hrl hrw
        obtain ⟨c0, kc, hc0⟩ := rcmd_ok ((i : Int) + 1) w r hrl hrw
        obtain ⟨m1, m2, m3, m4, th, bk, cm⟩ := s
        obtain ⟨hs1, hs2⟩ := id hs
        simp only at hs1 hs2
        have w200 : IntKind.i64.wrap 200 = 200 := rfl
        have ht : ((th.map ftG).length : Int) = (th.length : Int) := by rw [List.length_map]
        have hb : ((bk.map ftG).length : Int) = (bk.length : Int) := by rw [List.length_map]
        have hc : ((cm.map cmG).length : Int) = (cm.length : Int) := by rw [List.length_map]
        have hwr : IntKind.i64.wrap ((th.length : Int) + bk.length) = (th.length : Int) + bk.length := wrap64 (by omega) (by omega)
        have c1 : 2 * ((th.map ftG).length + 1) * 32 ≤ 281474976710656 ∧ (th.map ftG).length + 1 ≤ 281474976710656 := by rw [List.length_map]; omega
        have c2 : 2 * ((bk.map ftG).length + 1) * 32 ≤ 281474976710656 ∧ (bk.map ftG).length + 1 ≤ 281474976710656 := by rw [List.length_map]; omega
        have c3 : 2 * ((cm.map cmG).length + 1) * 48 ≤ 281474976710656 ∧ (cm.map cmG).length + 1 ≤ 281474976710656 := by rw [List.length_map]; omega
        unfold furF at bad good hok
        simp only at bad good hok
        by_cases w1 : w = wThere
        · simp only [if_pos w1] at bad good hok
          subst w1
          clear kc hc0
          by_cases e1 : (fateF r).2 = 0
          rotate_left
          · rw [if_pos e1] at bad
            rw [bad _ e1 rfl]
            clear bad good hok
            have hE := elemF (fateF r).1
            simp only [ftG] at hE
            simp only [scL]
            generalize (fateF r).2 = E at *
            generalize r.map GV.s = R at *
            generalize th.map ftG = T at *
            generalize bk.map ftG = B at *
            generalize cm.map cmG = C at *
            generalize ls[i] = l at *
            generalize ls.map GV.s = LS at *
            generalize (ls.length : Int) = L at *
            refine tree_lim rfl rfl ?_
            simp [h, hw, hget, kw, hp, q1, q2, kf, e1, hE, c1]
          have e1' : ¬ (fateF r).2 ≠ 0 := by simpa using e1
          simp only [if_neg e1'] at bad good hok
          rw [e1] at kf
          by_cases e2 : th.length + bk.length = 200
          · rw [if_pos e2] at bad
            rw [bad 13 (by decide) rfl]
            clear bad good hok
            have e2' : (th.length : Int) + bk.length = 200 := by omega
            have hE := elemF (fateF r).1
            simp only [ftG] at hE
            simp only [scL]
            generalize r.map GV.s = R at *
            generalize th.map ftG = T at *
            generalize bk.map ftG = B at *
            generalize cm.map cmG = C at *
            generalize ls[i] = l at *
            generalize ls.map GV.s = LS at *
            generalize (ls.length : Int) = L at *
            refine tree_lim rfl rfl ?_
            simp [h, hw, hget, kw, hp, q1, q2, kf, ht, hb, hwr, w200, e2', hE, c1]
          · simp only [if_neg e2] at bad good hok
            have g1 := good _ hok rfl
            clear bad good hok
            have e2' : ¬ (th.length : Int) + bk.length = 200 := by omega
            simp only [scL, List.map_append, List.map_cons, List.map_nil] at g1 ⊢
            have hE := elemF (fateF r).1
            generalize fateF r = F at *
            obtain ⟨⟨f1, f2, f3, f4, f5, f6⟩, FE⟩ := F
            simp only [ftG] at kf hE g1 ⊢
            generalize r.map GV.s = R at *
            generalize th.map ftG = T at *
            generalize bk.map ftG = B at *
            generalize cm.map cmG = C at *
            generalize ls[i] = l at *
            generalize ls.map GV.s = LS at *
            generalize (ls.length : Int) = L at *
            refine tree_lim rfl rfl ?_
            simp [h, hw, hget, kw, hp, q1, q2, kf, ht, hb, hwr, w200, e2', c1, hE, g1]
        simp only [if_neg w1] at bad good hok
        by_cases w2 : w = wBack
        · simp only [if_pos w2] at bad good hok
          subst w2
          clear kc hc0 w1
          by_cases e1 : (fateF r).2 = 0
          rotate_left
          · rw [if_pos e1] at bad
            rw [bad _ e1 rfl]
            clear bad good hok
            have hE := elemF (fateF r).1
            simp only [ftG] at hE
            simp only [scL]
            generalize (fateF r).2 = E at *
            generalize r.map GV.s = R at *
            generalize th.map ftG = T at *
            generalize bk.map ftG = B at *
            generalize cm.map cmG = C at *
            generalize ls[i] = l at *
            generalize ls.map GV.s = LS at *
            generalize (ls.length : Int) = L at *
            refine tree_lim rfl rfl ?_
            simp [h, hw, hget, kw, hp, q1, q2, kf, e1, hE, c2]
          have e1' : ¬ (fateF r).2 ≠ 0 := by simpa using e1
          simp only [if_neg e1'] at bad good hok
          rw [e1] at kf
          by_cases e2 : th.length + bk.length = 200
          · rw [if_pos e2] at bad
            rw [bad 13 (by decide) rfl]
            clear bad good hok
            have e2' : (th.length : Int) + bk.length = 200 := by omega
            have hE := elemF (fateF r).1
            simp only [ftG] at hE
            simp only [scL]
            generalize r.map GV.s = R at *
            generalize th.map ftG = T at *
            generalize bk.map ftG = B at *
            generalize cm.map cmG = C at *
            generalize ls[i] = l at *
            generalize ls.map GV.s = LS at *
            generalize (ls.length : Int) = L at *
            refine tree_lim rfl rfl ?_
            simp [h, hw, hget, kw, hp, q1, q2, kf, ht, hb, hwr, w200, e2', hE, c2]
          · simp only [if_neg e2] at bad good hok
            have g1 := good _ hok rfl
            clear bad good hok
            have e2' : ¬ (th.length : Int) + bk.length = 200 := by omega
            simp only [scL, List.map_append, List.map_cons, List.map_nil] at g1 ⊢
            have hE := elemF (fateF r).1
            generalize fateF r = F at *
            obtain ⟨⟨f1, f2, f3, f4, f5, f6⟩, FE⟩ := F
            simp only [ftG] at kf hE g1 ⊢
            generalize r.map GV.s = R at *
            generalize th.map ftG = T at *
            generalize bk.map ftG = B at *
            generalize cm.map cmG = C at *
            generalize ls[i] = l at *
            generalize ls.map GV.s = LS at *
            generalize (ls.length : Int) = L at *
            refine tree_lim rfl rfl ?_
            simp [h, hw, hget, kw, hp, q1, q2, kf, ht, hb, hwr, w200, e2', c2, hE, g1]
        simp only [if_neg w2] at bad good hok
        have w1' := eq_false w1
        have w2' := eq_false w2
        clear kf w1 w2
        by_cases e1 : (cmdF w r).2 = 0
        rotate_left
        · rw [if_pos e1] at bad
          rw [bad _ e1 rfl]
          clear bad good hok hc0
          have hE := elemC c0
          simp only [cmG] at hE
          simp only [scL]
          generalize (cmdF w r).2 = E at *
          generalize r.map GV.s = R at *
          generalize th.map ftG = T at *
          generalize bk.map ftG = B at *
          generalize cm.map cmG = C at *
          generalize ls[i] = l at *
          generalize ls.map GV.s = LS at *
          generalize (ls.length : Int) = L at *
          refine tree_lim rfl rfl ?_
          simp [h, hw, hget, kw, hp, q1, q2, w1', w2', kc, e1, hE, c3]
        have e1' : ¬ (cmdF w r).2 ≠ 0 := by simpa using e1
        simp only [if_neg e1'] at bad good hok
        rw [hc0 e1, e1] at kc
        by_cases e2 : cm.length = 1000
        · rw [if_pos e2] at bad
          rw [bad 13 (by decide) rfl]
          clear bad good hok hc0
          have e2' : (cm.length : Int) = 1000 := by omega
          have hE := elemC { (cmdF w r).1 with ln := (i : Int) + 1 }
          simp only [cmG] at hE
          simp only [scL]
          generalize r.map GV.s = R at *
          generalize th.map ftG = T at *
          generalize bk.map ftG = B at *
          generalize cm.map cmG = C at *
          generalize ls[i] = l at *
          generalize ls.map GV.s = LS at *
          generalize (ls.length : Int) = L at *
          refine tree_lim rfl rfl ?_
          simp [h, hw, hget, kw, hp, q1, q2, w1', w2', kc, hc, e2', hE, c3]
        · simp only [if_neg e2] at bad good hok
          have g1 := good _ hok rfl
          clear bad good hok hc0
          have e2' : ¬ (cm.length : Int) = 1000 := by omega
          simp only [scL, List.map_append, List.map_cons, List.map_nil] at g1 ⊢
          generalize cmdF w r = F at *
          obtain ⟨⟨f1, f2, f3, f4, f5⟩, FE⟩ := F
          have hE := elemC ⟨(i : Int) + 1, f2, f3, f4, f5⟩
          simp only [cmG] at kc hE g1 ⊢
          generalize r.map GV.s = R at *
          generalize th.map ftG = T at *
          generalize bk.map ftG = B at *
          generalize cm.map cmG = C at *
          generalize ls[i] = l at *
          generalize ls.map GV.s = LS at *
          generalize (ls.length : Int) = L at *
          refine tree_lim rfl rfl ?_
          simp [h, hw, hget, kw, hp, q1, q2, w1', w2', kc, hc, e2', c3, hE, g1]
end V
end Go.Proofs.YtcnadokjijncjaaGreatDoor
