/- What the trees compute: plain laws. -/
import Derived.Test.YtcnadokjijncjaaGreatDoorKVe1
namespace Go.Proofs.YtcnadokjijncjaaGreatDoor
open Go Go.Abs
set_option linter.unusedSimpArgs false
set_option linter.unusedVariables false
set_option maxRecDepth 100000
namespace V
theorem numsF_len : ∀ {ws : List (List UInt8)} {ms : List Nat}, (numsF ws ms).2 = 0 → ms.length = ws.length → (numsF ws ms).1.length = ms.length
  | [], ms, h, e => by
    have : ms = [] := List.eq_nil_of_length_eq_zero e
    subst this; rfl
  | w :: ws, [], h, e => by cases e
  | w :: ws, m :: ms, h, e => by
    rw [numsF_cons] at h ⊢
    split at h
    · next h1 => exact absurd h h1
    · next h1 =>
      split at h
      · next h2 => exact absurd h h2
      · next h2 =>
        rw [if_neg h1, if_neg h2]
        simp only [List.length_cons] at e ⊢
        rw [numsF_len (by simpa using h2) (by omega)]
structure Ft where
  dr : Bool
  c : Int
  d : Int
  cu : Int
  at_ : Int
  by_ : Int
def ftG (f : Ft) : GV := .g [.b f.dr, .i .u8 f.c, .i .u8 f.d, .i .i64 f.cu, .i .i64 f.at_, .i .u8 f.by_]
@[simp] theorem ftG_cells (f : Ft) : (ftG f).cells = [.b f.dr, .i .u8 f.c, .i .u8 f.d, .i .i64 f.cu, .i .i64 f.at_, .i .u8 f.by_] := rfl
def zFt : Ft := ⟨false, 0, 0, 0, 0, 0⟩
def dropB : List UInt8 := [100, 114, 111, 112]
def fateM : List Nat := [255, 255, 100000, 100000, 255]
def mkFt (l : List Nat) : Ft := ⟨false, IntKind.u8.wrap ((l.getD 0 0 : Nat) : Int), IntKind.u8.wrap ((l.getD 1 0 : Nat) : Int), IntKind.i64.wrap ((l.getD 2 0 : Nat) : Int), IntKind.i64.wrap ((l.getD 3 0 : Nat) : Int), IntKind.u8.wrap ((l.getD 4 0 : Nat) : Int)⟩
def fateF (l : List (List UInt8)) : Ft × Int :=
  if l = [dropB] then (⟨true, 0, 0, 0, 0, 0⟩, 0) else if l.length ≠ 5 then (zFt, 23) else if (numsF l fateM).2 ≠ 0 then (zFt, (numsF l fateM).2) else (mkFt (numsF l fateM).1, 0)
theorem len5 {α : Type} {l : List α} (h : l.length = 5) : ∃ a b c d e, l = [a, b, c, d, e] := by
  match l, h with
  | [a, b, c, d, e], _ => exact ⟨a, b, c, d, e, rfl⟩
theorem fate5 {a b c d e : List UInt8} : fateF [a, b, c, d, e] = if (numsF [a, b, c, d, e] fateM).2 ≠ 0 then (zFt, (numsF [a, b, c, d, e] fateM).2) else (mkFt (numsF [a, b, c, d, e] fateM).1, 0) := by
  unfold fateF
  rw [if_neg (by simp), if_neg (by simp)]
theorem fate_other {l : List (List UInt8)} (h : l ≠ [dropB]) (h5 : l.length ≠ 5) : fateF l = (zFt, 23) := by
  unfold fateF
  rw [if_neg h, if_pos h5]
theorem pfate_ok (w : List UInt8) (l : List (List UInt8)) (hl : l.length ≤ 70000) (hw : ∀ x ∈ l, x.length ≤ 70000) : TT.lim 10 [.l (.s w :: l.map .s)] = some [ftG (fateF l).1, .i .i64 (fateF l).2] := by
  by_cases h5 : l.length = 5
  · obtain ⟨a, b, c, d, e, rfl⟩ := len5 h5
    have k : TT.lim 6 [.l [.s a, .s b, .s c, .s d, .s e], .l [.i .u64 255, .i .u64 255, .i .u64 100000, .i .u64 100000, .i .u64 255]] = _ := pnums_ok [a, b, c, d, e] fateM rfl hw (by decide)
    rw [fate5]
    by_cases e0 : (numsF [a, b, c, d, e] fateM).2 = 0
    rotate_left
    · rw [if_pos e0]
      generalize (numsF [a, b, c, d, e] fateM).1.map nG = N at *
      generalize (numsF [a, b, c, d, e] fateM).2 = E at *
      refine fn_lim rfl rfl ?_ rfl
      simp [k, e0, ftG, zFt]
    · rw [if_neg (by simpa using e0)]
      obtain ⟨n0, n1, n2, n3, n4, hn⟩ := len5 (numsF_len e0 rfl)
      rw [e0, hn] at k
      rw [hn]
      simp only [List.map_cons, List.map_nil, nG] at k
      refine fn_lim rfl rfl ?_ rfl
      simp [k, ftG, mkFt]
  by_cases hd : l = [dropB]
  · subst hd
    have : fateF [dropB] = (⟨true, 0, 0, 0, 0, 0⟩, 0) := by unfold fateF; rw [if_pos rfl]
    rw [this]
    unfold dropB
    refine fn_lim rfl rfl ?_ rfl
    simp [ftG]
  rw [fate_other hd h5]
  match l, h5, hd with
  | [], _, _ =>
    refine fn_lim rfl rfl ?_ rfl
    simp [ftG, zFt]
  | [a], _, hd =>
    have ha : (a = [100, 114, 111, 112]) = False := eq_false fun e => hd (by rw [e]; rfl)
    clear hd
    refine fn_lim rfl rfl ?_ rfl
    simp [ha, ftG, zFt]
  | a :: b :: r, h5, _ =>
    have h2 : ¬ ((r.length : Int) + 1 + 1 + 1 = 2) := by omega
    have h6 : ¬ ((r.length : Int) + 1 + 1 + 1 = 6) := by simp only [List.length_cons] at h5; omega
    have hrl : ((r.map GV.s).length : Int) = (r.length : Int) := by rw [List.length_map]
    clear hw h5 hd
    refine fn_lim rfl rfl ?_ rfl
    simp [h2, h6, ftG, zFt]
theorem rfate_ok (l : List (List UInt8)) (hl : l.length ≤ 70000) (hw : ∀ x ∈ l, x.length ≤ 70000) : TT.lim 28 [.l (l.map .s)] = some [ftG (fateF l).1, .i .i64 (fateF l).2] := by
  have k : TT.lim 23 [.l (l.map .s), .l [.i .u64 255, .i .u64 255, .i .u64 100000, .i .u64 100000, .i .u64 255]] = _ := rnums_ok l fateM hw (by decide)
  by_cases h5 : l.length = 5
  · rw [if_pos (show l.length = fateM.length from h5)] at k
    obtain ⟨a, b, c, d, e, rfl⟩ := len5 h5
    rw [fate5]
    by_cases e0 : (numsF [a, b, c, d, e] fateM).2 = 0
    rotate_left
    · rw [if_pos e0]
      generalize (numsF [a, b, c, d, e] fateM).1.map nG = N at *
      generalize (numsF [a, b, c, d, e] fateM).2 = E at *
      simp only [List.map_cons, List.map_nil] at k
      refine fn_lim rfl rfl ?_ rfl
      simp [k, e0, ftG, zFt]
    · rw [if_neg (by simpa using e0)]
      obtain ⟨n0, n1, n2, n3, n4, hn⟩ := len5 (numsF_len e0 rfl)
      rw [e0, hn] at k
      rw [hn]
      simp only [List.map_cons, List.map_nil, nG] at k
      refine fn_lim rfl rfl ?_ rfl
      simp [k, ftG, mkFt]
  rw [if_neg (show ¬ l.length = fateM.length from h5)] at k
  by_cases hd : l = [dropB]
  · subst hd
    have : fateF [dropB] = (⟨true, 0, 0, 0, 0, 0⟩, 0) := by unfold fateF; rw [if_pos rfl]
    rw [this]
    unfold dropB
    refine fn_lim rfl rfl ?_ rfl
    simp [ftG]
  rw [fate_other hd h5]
  match l, h5, hd, k with
  | [], _, _, k =>
    rw [List.map_nil] at k
    refine fn_lim rfl rfl ?_ rfl
    simp [k, ftG, zFt]
  | [a], _, hd, k =>
    have ha : (a = [100, 114, 111, 112]) = False := eq_false fun e => hd (by rw [e]; rfl)
    rw [List.map_cons, List.map_nil] at k
    clear hd
    refine fn_lim rfl rfl ?_ rfl
    simp [k, ha, ftG, zFt]
  | a :: b :: r, h5, _, k =>
    have h2 : ¬ ((r.length : Int) + 1 + 1 = 1) := by omega
    rw [List.map_cons, List.map_cons] at k
    clear hw h5 hd
    refine fn_lim rfl rfl ?_ rfl
    simp [k, h2, ftG, zFt]
structure Cm where
  ln : Int
  op : Int
  en : Int
  n : Int
  w : List UInt8
def cmG (c : Cm) : GV := .g [.i .i64 c.ln, .i .u8 c.op, .i .i64 c.en, .i .u64 c.n, .s c.w]
@[simp] theorem cmG_cells (c : Cm) : (cmG c).cells = [.i .i64 c.ln, .i .u8 c.op, .i .i64 c.en, .i .u64 c.n, .s c.w] := rfl
def zCm : Cm := ⟨0, 0, 0, 0, []⟩
abbrev wAdd : List UInt8 := [97, 100, 100]
abbrev wPub : List UInt8 := [112, 117, 98, 108, 105, 115, 104]
abbrev wPoll : List UInt8 := [112, 111, 108, 108]
abbrev wStep : List UInt8 := [115, 116, 101, 112]
abbrev wShow : List UInt8 := [115, 104, 111, 119]
abbrev wAll : List UInt8 := [97, 108, 108]
def cmd1 (op most : Nat) (f : Nat → Cm) (r : List (List UInt8)) : Cm × Int :=
  match r with
  | [a] => if (numE a most).2 ≠ 0 then (zCm, (numE a most).2) else (f (numE a most).1, 0)
  | _ => (zCm, 23)
def addF (r : List (List UInt8)) : Cm × Int :=
  match r with
  | [a, b, c] => if (numE a 1).2 ≠ 0 then (zCm, (numE a 1).2) else if 64 < b.length then (zCm, 13) else if (numE c 18446744073709551615).2 ≠ 0 then (zCm, (numE c 18446744073709551615).2) else (⟨0, 0, (numE a 1).1, (numE c 18446744073709551615).1, b⟩, 0)
  | _ => (zCm, 23)
def pubF (r : List (List UInt8)) : Cm × Int :=
  match r with
  | [a, b] => if (numE a 1).2 ≠ 0 then (zCm, (numE a 1).2) else if (numE b 18446744073709551615).2 ≠ 0 then (zCm, (numE b 18446744073709551615).2) else (⟨0, 1, (numE a 1).1, (numE b 18446744073709551615).1, []⟩, 0)
  | _ => (zCm, 23)
def cmdF (w : List UInt8) (r : List (List UInt8)) : Cm × Int :=
  if w = wAdd then addF r else if w = wPub then pubF r
  else if w = wPoll then cmd1 2 1 (fun n => ⟨0, 2, n, 0, []⟩) r
  else if w = wStep then cmd1 3 100000 (fun n => ⟨0, 3, 0, n, []⟩) r
  else if w = wShow then cmd1 4 1 (fun n => ⟨0, 4, n, 0, []⟩) r
  else if w = wAll ∧ r = [] then (⟨0, 5, 0, 0, []⟩, 0) else (zCm, 23)
theorem nums1 (b : List UInt8) (m : Nat) : numsF [b] [m] = if (numE b m).2 ≠ 0 then ([], (numE b m).2) else ([(numE b m).1], 0) := rfl
theorem pn1 (a : List UInt8) (m : Nat) (ha : a.length ≤ 70000) : ((numE a m).2 = 0 ∧ TT.lim 6 [.l [.s a], .l [.i .u64 m]] = some [.l [.i .u64 (numE a m).1], .i .i64 0]) ∨ ((numE a m).2 ≠ 0 ∧ TT.lim 6 [.l [.s a], .l [.i .u64 m]] = some [.l [], .i .i64 (numE a m).2]) := by
  have k : TT.lim 6 [.l [.s a], .l [.i .u64 m]] = _ := pnums_ok [a] [m] rfl (by simpa using ha) (by simp)
  rw [nums1] at k
  by_cases e : (numE a m).2 = 0
  · rw [if_neg (by simpa using e)] at k
    exact .inl ⟨e, k⟩
  · rw [if_pos e] at k
    exact .inr ⟨e, k⟩
theorem pn2 (a b : List UInt8) (m m2 : Nat) (ha : a.length ≤ 70000) (hb : b.length ≤ 70000) : ((numE a m).2 ≠ 0 ∧ TT.lim 6 [.l [.s a, .s b], .l [.i .u64 m, .i .u64 m2]] = some [.l [], .i .i64 (numE a m).2]) ∨ ((numE a m).2 = 0 ∧ (numE b m2).2 ≠ 0 ∧ TT.lim 6 [.l [.s a, .s b], .l [.i .u64 m, .i .u64 m2]] = some [.l [], .i .i64 (numE b m2).2]) ∨ ((numE a m).2 = 0 ∧ (numE b m2).2 = 0 ∧ TT.lim 6 [.l [.s a, .s b], .l [.i .u64 m, .i .u64 m2]] = some [.l [.i .u64 (numE a m).1, .i .u64 (numE b m2).1], .i .i64 0]) := by
  have k : TT.lim 6 [.l [.s a, .s b], .l [.i .u64 m, .i .u64 m2]] = _ := pnums_ok [a, b] [m, m2] rfl (by simp; exact ⟨ha, hb⟩) (by simp)
  rw [numsF_cons, nums1] at k
  by_cases e : (numE a m).2 = 0
  · rw [if_neg (by simpa using e)] at k
    by_cases e2 : (numE b m2).2 = 0
    · rw [if_neg (c := (numE b m2).2 ≠ 0) (by simpa using e2)] at k
      exact .inr (.inr ⟨e, e2, k⟩)
    · rw [if_pos (c := (numE b m2).2 ≠ 0) e2, if_pos (c := (numE b m2).2 ≠ 0) e2] at k
      exact .inr (.inl ⟨e, e2, k⟩)
  · rw [if_pos e] at k
    exact .inl ⟨e, k⟩
theorem padd_ok (r : List (List UInt8)) (a b c : List UInt8) (hr : r = [a, b, c]) (w : List UInt8) (hw : ∀ x ∈ r, x.length ≤ 70000) : TT.lim 12 [.l (.s w :: r.map .s)] = some [cmG (addF r).1, .i .i64 (addF r).2] := by
  subst hr
  have k1 := pn1 a 1 (hw a (by simp))
  have k2 := pn1 c 18446744073709551615 (hw c (by simp))
  have hle := numE_le (w := a) (m := 1)
  simp only [Int.natCast_one] at k1
  simp only [Int.cast_ofNat_Int] at k2
  unfold addF
  simp only
  rcases k1 with ⟨e1, k1⟩ | ⟨e1, k1⟩
  · rw [if_neg (by simpa using e1)]
    by_cases hb : 64 < b.length
    · rw [if_pos hb]
      have hb' : (64 : Int) < b.length := by omega
      generalize (numE a 1).1 = v at *
      refine fn_lim rfl rfl ?_ rfl
      simp [k1, hb', cmG, zCm]
    · rw [if_neg hb]
      have hb' : ¬ (64 : Int) < b.length := by omega
      rcases k2 with ⟨e2, k2⟩ | ⟨e2, k2⟩
      · rw [if_neg (by simpa using e2)]
        have hv := wrap64 (n := ((numE a 1).1 : Int)) (by omega) (by omega)
        generalize (numE a 1).1 = v at *
        generalize (numE c 18446744073709551615).1 = u at *
        refine fn_lim rfl rfl ?_ rfl
        simp [k1, hb', k2, hv, cmG]
      · rw [if_pos e2]
        generalize (numE a 1).1 = v at *
        generalize (numE c 18446744073709551615).2 = u at *
        refine fn_lim rfl rfl ?_ rfl
        simp [k1, hb', k2, e2, cmG, zCm]
  · rw [if_pos e1]
    generalize (numE a 1).2 = u at *
    refine fn_lim rfl rfl ?_ rfl
    simp [k1, e1, cmG, zCm]
theorem len1 {α : Type} {r : List α} (h : r.length = 1) : ∃ a, r = [a] := by
  match r, h with
  | [a], _ => exact ⟨a, rfl⟩
theorem len2 {α : Type} {r : List α} (h : r.length = 2) : ∃ a b, r = [a, b] := by
  match r, h with
  | [a, b], _ => exact ⟨a, b, rfl⟩
theorem len3 {α : Type} {r : List α} (h : r.length = 3) : ∃ a b c, r = [a, b, c] := by
  match r, h with
  | [a, b, c], _ => exact ⟨a, b, c, rfl⟩
theorem cmd1_bad {op most : Nat} {f : Nat → Cm} {r : List (List UInt8)} (h : r.length ≠ 1) : cmd1 op most f r = (zCm, 23) := by
  unfold cmd1
  split
  · exact absurd rfl h
  · rfl
theorem addF_bad {r : List (List UInt8)} (h : r.length ≠ 3) : addF r = (zCm, 23) := by
  unfold addF
  split
  · exact absurd rfl h
  · rfl
theorem pubF_bad {r : List (List UInt8)} (h : r.length ≠ 2) : pubF r = (zCm, 23) := by
  unfold pubF
  split
  · exact absurd rfl h
  · rfl
theorem cmdF_add (r : List (List UInt8)) : cmdF wAdd r = addF r := rfl
theorem cmdF_pub (r : List (List UInt8)) : cmdF wPub r = pubF r := by unfold cmdF; rw [if_neg (by decide), if_pos rfl]
theorem cmdF_poll (r : List (List UInt8)) : cmdF wPoll r = cmd1 2 1 (fun n => ⟨0, 2, n, 0, []⟩) r := by unfold cmdF; rw [if_neg (by decide), if_neg (by decide), if_pos rfl]
theorem cmdF_step (r : List (List UInt8)) : cmdF wStep r = cmd1 3 100000 (fun n => ⟨0, 3, 0, n, []⟩) r := by unfold cmdF; rw [if_neg (by decide), if_neg (by decide), if_neg (by decide), if_pos rfl]
theorem cmdF_show (r : List (List UInt8)) : cmdF wShow r = cmd1 4 1 (fun n => ⟨0, 4, n, 0, []⟩) r := by unfold cmdF; rw [if_neg (by decide), if_neg (by decide), if_neg (by decide), if_neg (by decide), if_pos rfl]
theorem cmdF_all (r : List (List UInt8)) : cmdF wAll r = if r = [] then (⟨0, 5, 0, 0, []⟩, 0) else (zCm, 23) := by
  unfold cmdF
  rw [if_neg (by decide), if_neg (by decide), if_neg (by decide), if_neg (by decide), if_neg (by decide)]
  by_cases h : r = []
  · rw [if_pos ⟨rfl, h⟩, if_pos h]
  · rw [if_neg (fun x => h x.2), if_neg h]
theorem cmdF_other {w : List UInt8} (r : List (List UInt8)) (h1 : w ≠ wAdd) (h2 : w ≠ wPub) (h3 : w ≠ wPoll) (h4 : w ≠ wStep) (h5 : w ≠ wShow) (h6 : w ≠ wAll) : cmdF w r = (zCm, 23) := by
  unfold cmdF
  rw [if_neg h1, if_neg h2, if_neg h3, if_neg h4, if_neg h5, if_neg (fun x => h6 x.1)]
theorem mapLen (r : List (List UInt8)) : (((r.map GV.s).length : Nat) : Int) = (r.length : Int) := by rw [List.length_map]
theorem pcmd_ok (w : List UInt8) (r : List (List UInt8)) (hl : r.length ≤ 70000) (hw : ∀ x ∈ r, x.length ≤ 70000) : TT.lim 11 [.l (.s w :: r.map .s)] = some [cmG (cmdF w r).1, .i .i64 (cmdF w r).2] := by
  have hml := mapLen r
  by_cases w1 : w = wAdd
  · subst w1
    rw [cmdF_add]
    by_cases h : r.length = 3
    · obtain ⟨a, b, c, rfl⟩ := len3 h
      have k := padd_ok [a, b, c] a b c rfl wAdd hw
      generalize addF [a, b, c] = A at *
      simp only [cmG, List.map_cons, List.map_nil] at k ⊢
      refine fn_lim rfl rfl ?_ rfl
      simp [k]
    · rw [addF_bad h]
      have h' : ¬ ((r.length : Int) + 1 = 4) := by omega
      generalize r.map GV.s = R at *
      refine fn_lim rfl rfl ?_ rfl
      simp [hml, h', cmG, zCm]
  by_cases w2 : w = wPub
  · subst w2
    rw [cmdF_pub]
    by_cases h : r.length = 2
    · obtain ⟨a, b, rfl⟩ := len2 h
      have k := pn2 a b 1 18446744073709551615 (hw a (by simp)) (hw b (by simp))
      have hle := numE_le (w := a) (m := 1)
      simp only [Int.natCast_one, Int.cast_ofNat_Int] at k
      unfold pubF
      simp only
      rcases k with ⟨e1, k⟩ | ⟨e1, e2, k⟩ | ⟨e1, e2, k⟩
      · rw [if_pos e1]
        generalize (numE a 1).2 = u at *
        refine fn_lim rfl rfl ?_ rfl
        simp [k, e1, cmG, zCm]
      · rw [if_neg (by simpa using e1), if_pos e2]
        generalize (numE b 18446744073709551615).2 = u at *
        refine fn_lim rfl rfl ?_ rfl
        simp [k, e2, cmG, zCm]
      · rw [if_neg (by simpa using e1), if_neg (by simpa using e2)]
        have hv := wrap64 (n := ((numE a 1).1 : Int)) (by omega) (by omega)
        generalize (numE a 1).1 = v at *
        generalize (numE b 18446744073709551615).1 = u at *
        refine fn_lim rfl rfl ?_ rfl
        simp [k, hv, cmG]
    · rw [pubF_bad h]
      have h' : ¬ ((r.length : Int) + 1 = 3) := by omega
      generalize r.map GV.s = R at *
      refine fn_lim rfl rfl ?_ rfl
      simp [hml, h', cmG, zCm]
  by_cases w3 : w = wPoll
  · subst w3
    rw [cmdF_poll]
    by_cases h : r.length = 1
    · obtain ⟨a, rfl⟩ := len1 h
      have k := pn1 a 1 (hw a (by simp))
      have hle := numE_le (w := a) (m := 1)
      simp only [Int.natCast_one] at k
      unfold cmd1
      simp only
      rcases k with ⟨e1, k⟩ | ⟨e1, k⟩
      · rw [if_neg (by simpa using e1)]
        have hv := wrap64 (n := ((numE a 1).1 : Int)) (by omega) (by omega)
        generalize (numE a 1).1 = v at *
        refine fn_lim rfl rfl ?_ rfl
        simp [k, hv, cmG]
      · rw [if_pos e1]
        generalize (numE a 1).2 = u at *
        refine fn_lim rfl rfl ?_ rfl
        simp [k, e1, cmG, zCm]
    · rw [cmd1_bad h]
      have h' : ¬ ((r.length : Int) + 1 = 2) := by omega
      generalize r.map GV.s = R at *
      refine fn_lim rfl rfl ?_ rfl
      simp [hml, h', cmG, zCm]
  by_cases w4 : w = wStep
  · subst w4
    rw [cmdF_step]
    by_cases h : r.length = 1
    · obtain ⟨a, rfl⟩ := len1 h
      have k := pn1 a 100000 (hw a (by simp))
      rw [show ((100000 : Nat) : Int) = 100000 from rfl] at k
      unfold cmd1
      simp only
      rcases k with ⟨e1, k⟩ | ⟨e1, k⟩
      · rw [if_neg (by simpa using e1)]
        generalize (numE a 100000).1 = v at *
        refine fn_lim rfl rfl ?_ rfl
        simp [k, cmG]
      · rw [if_pos e1]
        generalize (numE a 100000).2 = u at *
        refine fn_lim rfl rfl ?_ rfl
        simp [k, e1, cmG, zCm]
    · rw [cmd1_bad h]
      have h' : ¬ ((r.length : Int) + 1 = 2) := by omega
      generalize r.map GV.s = R at *
      refine fn_lim rfl rfl ?_ rfl
      simp [hml, h', cmG, zCm]
  by_cases w5 : w = wShow
  · subst w5
    rw [cmdF_show]
    by_cases h : r.length = 1
    · obtain ⟨a, rfl⟩ := len1 h
      have k := pn1 a 1 (hw a (by simp))
      have hle := numE_le (w := a) (m := 1)
      simp only [Int.natCast_one] at k
      unfold cmd1
      simp only
      rcases k with ⟨e1, k⟩ | ⟨e1, k⟩
      · rw [if_neg (by simpa using e1)]
        have hv := wrap64 (n := ((numE a 1).1 : Int)) (by omega) (by omega)
        generalize (numE a 1).1 = v at *
        refine fn_lim rfl rfl ?_ rfl
        simp [k, hv, cmG]
      · rw [if_pos e1]
        generalize (numE a 1).2 = u at *
        refine fn_lim rfl rfl ?_ rfl
        simp [k, e1, cmG, zCm]
    · rw [cmd1_bad h]
      have h' : ¬ ((r.length : Int) + 1 = 2) := by omega
      generalize r.map GV.s = R at *
      refine fn_lim rfl rfl ?_ rfl
      simp [hml, h', cmG, zCm]
  by_cases w6 : w = wAll
  · subst w6
    rw [cmdF_all]
    by_cases h : r = []
    · subst h
      rw [if_pos rfl]
      refine fn_lim rfl rfl ?_ rfl
      simp [cmG]
    · rw [if_neg h]
      have : r.length ≠ 0 := fun e => h (List.eq_nil_of_length_eq_zero e)
      have h' : ¬ ((r.length : Int) + 1 = 1) := by omega
      generalize r.map GV.s = R at *
      refine fn_lim rfl rfl ?_ rfl
      simp [hml, h', cmG, zCm]
  · rw [cmdF_other r w1 w2 w3 w4 w5 w6]
    have w1' := eq_false w1
    have w2' := eq_false w2
    have w3' := eq_false w3
    have w4' := eq_false w4
    have w5' := eq_false w5
    have w6' := eq_false w6
    clear w1 w2 w3 w4 w5 w6
    generalize r.map GV.s = R at *
    refine fn_lim rfl rfl ?_ rfl
    simp [w1', w2', w3', w4', w5', w6', cmG, zCm]
def opF (w : List UInt8) : Int := if w = wAdd then 0 else if w = wPub then 1 else if w = wPoll then 2 else if w = wStep then 3 else if w = wShow then 4 else if w = wAll then 5 else 6
theorem rop_ok (ln : GV) (w : List UInt8) (r : List GV) : TT.lim 30 [ln, .l (.s w :: r), .i .u8 0] = some [.i .i64 0, .i .u8 (opF w)] := by
  unfold opF
  have x6 : IntKind.u8.wrap 6 = 6 := rfl
  have x5 : IntKind.u8.wrap 5 = 5 := rfl
  have x4 : IntKind.u8.wrap 4 = 4 := rfl
  have x3 : IntKind.u8.wrap 3 = 3 := rfl
  have x2 : IntKind.u8.wrap 2 = 2 := rfl
  have x1 : IntKind.u8.wrap 1 = 1 := rfl
  have s6 : TT.lim 30 [ln, .l (.s w :: r), .i .u8 6] = some [.i .i64 0, .i .u8 6] := by
    refine tree_lim rfl rfl ?_
    simp
  have s5 : TT.lim 30 [ln, .l (.s w :: r), .i .u8 5] = some [.i .i64 0, .i .u8 (if w = wAll then 5 else 6)] := by
    by_cases e : w = wAll
    · subst e
      refine tree_lim rfl rfl ?_
      simp
    · rw [if_neg e]
      have e' := eq_false fun h : wAll = w => e h.symm
      clear e
      refine tree_lim rfl rfl ?_
      simp [e', x6, s6]
  have s4 : TT.lim 30 [ln, .l (.s w :: r), .i .u8 4] = some [.i .i64 0, .i .u8 (if w = wShow then 4 else if w = wAll then 5 else 6)] := by
    generalize (if w = wAll then (5 : Int) else 6) = Q at *
    by_cases e : w = wShow
    · subst e
      refine tree_lim rfl rfl ?_
      simp
    · rw [if_neg e]
      have e' := eq_false fun h : wShow = w => e h.symm
      clear e
      refine tree_lim rfl rfl ?_
      simp [e', x5, s5]
  generalize (if w = wShow then (4 : Int) else if w = wAll then 5 else 6) = Q4 at *
  have s3 : TT.lim 30 [ln, .l (.s w :: r), .i .u8 3] = some [.i .i64 0, .i .u8 (if w = wStep then 3 else Q4)] := by
    by_cases e : w = wStep
    · subst e
      refine tree_lim rfl rfl ?_
      simp
    · rw [if_neg e]
      have e' := eq_false fun h : wStep = w => e h.symm
      clear e s5 s6
      refine tree_lim rfl rfl ?_
      simp [e', x4, s4]
  generalize (if w = wStep then (3 : Int) else Q4) = Q3 at *
  have s2 : TT.lim 30 [ln, .l (.s w :: r), .i .u8 2] = some [.i .i64 0, .i .u8 (if w = wPoll then 2 else Q3)] := by
    by_cases e : w = wPoll
    · subst e
      refine tree_lim rfl rfl ?_
      simp
    · rw [if_neg e]
      have e' := eq_false fun h : wPoll = w => e h.symm
      clear e s4 s5 s6
      refine tree_lim rfl rfl ?_
      simp [e', x3, s3]
  generalize (if w = wPoll then (2 : Int) else Q3) = Q2 at *
  have s1 : TT.lim 30 [ln, .l (.s w :: r), .i .u8 1] = some [.i .i64 0, .i .u8 (if w = wPub then 1 else Q2)] := by
    by_cases e : w = wPub
    · subst e
      refine tree_lim rfl rfl ?_
      simp
    · rw [if_neg e]
      have e' := eq_false fun h : wPub = w => e h.symm
      clear e s3 s4 s5 s6
      refine tree_lim rfl rfl ?_
      simp [e', x2, s2]
  generalize (if w = wPub then (1 : Int) else Q2) = Q1 at *
  by_cases e : w = wAdd
  · subst e
    refine tree_lim rfl rfl ?_
    simp
  · rw [if_neg e]
    have e' := eq_false fun h : wAdd = w => e h.symm
    clear e s2 s3 s4 s5 s6
    refine tree_lim rfl rfl ?_
    simp [e', x1, s1]
theorem rcmd_ok (ln : Int) (w : List UInt8) (r : List (List UInt8)) (hl : r.length ≤ 70000) (hw : ∀ x ∈ r, x.length ≤ 70000) : ∃ c, TT.lim 29 [.i .i64 ln, .l (.s w :: r.map .s)] = some [cmG c, .i .i64 (cmdF w r).2] ∧ ((cmdF w r).2 = 0 → c = { (cmdF w r).1 with ln := ln }) := by
  have k0 := rop_ok (.i .i64 ln) w (r.map .s)
  have W1 : IntKind.i64.wrap 1 = 1 := rfl
  have W2 : IntKind.i64.wrap 2 = 2 := rfl
  have W3 : IntKind.i64.wrap 3 = 3 := rfl
  have hml := mapLen r
  have hwr : IntKind.i64.wrap (r.length : Int) = r.length := wrap64 (by omega) (by omega)
  by_cases w1 : w = wAdd
  · subst w1
    rw [show opF wAdd = 0 from rfl] at k0
    rw [cmdF_add]
    by_cases h : r.length = 3
    · obtain ⟨a, b, c, rfl⟩ := len3 h
      simp only [List.map_cons, List.map_nil] at k0
      have k1 := rnum_ok a 1 (hw a (by simp))
      have k2 := rnum_ok c 18446744073709551615 (hw c (by simp))
      have hle := numE_le (w := a) (m := 1)
      have hv := wrap64 (n := ((numE a 1).1 : Int)) (by omega) (by omega)
      simp only [Int.natCast_one] at k1
      simp only [Int.cast_ofNat_Int] at k2
      unfold addF
      simp only
      by_cases e1 : (numE a 1).2 = 0
      rotate_left
      · rw [if_pos e1]
        refine ⟨⟨ln, 0, (numE a 1).1, 0, []⟩, ?_, fun h => absurd h e1⟩
        clear hle
        generalize (numE a 1).1 = v at *
        generalize (numE a 1).2 = u at *
        refine fn_lim rfl rfl ?_ rfl
        simp [k0, W1, W2, W3, k1, e1, hv, cmG]
      rw [if_neg (by simpa using e1)]
      rw [e1] at k1
      by_cases hb : 64 < b.length
      · rw [if_pos hb]
        have hb' : (64 : Int) < b.length := by omega
        refine ⟨⟨ln, 0, (numE a 1).1, 0, b⟩, ?_, fun h => absurd h (by decide)⟩
        clear hle e1
        generalize (numE a 1).1 = v at *
        refine fn_lim rfl rfl ?_ rfl
        simp [k0, W1, W2, W3, k1, hv, hb', cmG]
      rw [if_neg hb]
      have hb' : ¬ (64 : Int) < b.length := by omega
      refine ⟨⟨ln, 0, (numE a 1).1, (numE c 18446744073709551615).1, b⟩, ?_, fun h => ?_⟩
      · have hf : (if (numE c 18446744073709551615).2 ≠ 0 then (zCm, (numE c 18446744073709551615).2) else ((⟨0, 0, (numE a 1).1, (numE c 18446744073709551615).1, b⟩ : Cm), 0)).2 = (numE c 18446744073709551615).2 := by
          split
          · rfl
          · next h => simpa using (by simpa using h : (numE c 18446744073709551615).2 = 0).symm
        rw [hf]
        clear hle e1 hf
        generalize (numE a 1).1 = v at *
        generalize (numE c 18446744073709551615).1 = x at *
        generalize (numE c 18446744073709551615).2 = y at *
        refine fn_lim rfl rfl ?_ rfl
        simp [k0, W1, W2, W3, k1, hv, hb', k2, cmG]
      · by_cases e2 : (numE c 18446744073709551615).2 = 0
        · rw [if_neg (by simpa using e2)]
        · rw [if_pos e2] at h; exact absurd h e2
    · rw [addF_bad h]
      refine ⟨zCm, ?_, fun h => absurd h (by decide)⟩
      have h' : ¬ ((r.length : Int) = 3) := by omega
      generalize r.map GV.s = R at *
      refine fn_lim rfl rfl ?_ rfl
      simp [k0, hml, hwr, h', cmG, zCm]
  by_cases w2 : w = wPub
  · subst w2
    rw [show opF wPub = 1 from rfl] at k0
    rw [cmdF_pub]
    by_cases h : r.length = 2
    · obtain ⟨a, c, rfl⟩ := len2 h
      simp only [List.map_cons, List.map_nil] at k0
      have k1 := rnum_ok a 1 (hw a (by simp))
      have k2 := rnum_ok c 18446744073709551615 (hw c (by simp))
      have hle := numE_le (w := a) (m := 1)
      have hv := wrap64 (n := ((numE a 1).1 : Int)) (by omega) (by omega)
      simp only [Int.natCast_one] at k1
      simp only [Int.cast_ofNat_Int] at k2
      unfold pubF
      simp only
      by_cases e1 : (numE a 1).2 = 0
      rotate_left
      · rw [if_pos e1]
        refine ⟨⟨ln, 1, (numE a 1).1, 0, []⟩, ?_, fun h => absurd h e1⟩
        clear hle
        generalize (numE a 1).1 = v at *
        generalize (numE a 1).2 = u at *
        refine fn_lim rfl rfl ?_ rfl
        simp [k0, W1, W2, W3, k1, e1, hv, cmG]
      rw [if_neg (by simpa using e1)]
      rw [e1] at k1
      refine ⟨⟨ln, 1, (numE a 1).1, (numE c 18446744073709551615).1, []⟩, ?_, fun h => ?_⟩
      · have hf : (if (numE c 18446744073709551615).2 ≠ 0 then (zCm, (numE c 18446744073709551615).2) else ((⟨0, 1, (numE a 1).1, (numE c 18446744073709551615).1, []⟩ : Cm), 0)).2 = (numE c 18446744073709551615).2 := by
          split
          · rfl
          · next h => simpa using (by simpa using h : (numE c 18446744073709551615).2 = 0).symm
        rw [hf]
        clear hle e1 hf
        generalize (numE a 1).1 = v at *
        generalize (numE c 18446744073709551615).1 = x at *
        generalize (numE c 18446744073709551615).2 = y at *
        refine fn_lim rfl rfl ?_ rfl
        simp [k0, W1, W2, W3, k1, hv, k2, cmG]
      · by_cases e2 : (numE c 18446744073709551615).2 = 0
        · rw [if_neg (by simpa using e2)]
        · rw [if_pos e2] at h; exact absurd h e2
    · rw [pubF_bad h]
      refine ⟨zCm, ?_, fun h => absurd h (by decide)⟩
      have h' : ¬ ((r.length : Int) = 2) := by omega
      generalize r.map GV.s = R at *
      refine fn_lim rfl rfl ?_ rfl
      simp [k0, hml, hwr, h', cmG, zCm]
  by_cases w3 : w = wPoll
  · subst w3
    rw [show opF wPoll = 2 from rfl] at k0
    rw [cmdF_poll]
    by_cases h : r.length = 1
    · obtain ⟨a, rfl⟩ := len1 h
      simp only [List.map_cons, List.map_nil] at k0
      have k1 := rnum_ok a 1 (hw a (by simp))
      have hle := numE_le (w := a) (m := 1)
      have hv := wrap64 (n := ((numE a 1).1 : Int)) (by omega) (by omega)
      simp only [Int.natCast_one] at k1
      unfold cmd1
      simp only
      refine ⟨⟨ln, 2, (numE a 1).1, 0, []⟩, ?_, fun h => ?_⟩
      · by_cases e1 : (numE a 1).2 = 0
        · rw [if_neg (by simpa using e1)]
          rw [e1] at k1
          clear hle e1
          generalize (numE a 1).1 = v at *
          refine fn_lim rfl rfl ?_ rfl
          simp [k0, W1, W2, W3, k1, hv, cmG]
        · rw [if_pos e1]
          clear hle
          generalize (numE a 1).1 = v at *
          generalize (numE a 1).2 = u at *
          refine fn_lim rfl rfl ?_ rfl
          simp [k0, W1, W2, W3, k1, hv, e1, cmG]
      · by_cases e1 : (numE a 1).2 = 0
        · rw [if_neg (by simpa using e1)]
        · rw [if_pos e1] at h; exact absurd h e1
    · rw [cmd1_bad h]
      refine ⟨zCm, ?_, fun h => absurd h (by decide)⟩
      have h' : ¬ ((r.length : Int) = 1) := by omega
      generalize r.map GV.s = R at *
      refine fn_lim rfl rfl ?_ rfl
      simp [k0, hml, hwr, h', cmG, zCm]
  by_cases w4 : w = wStep
  · subst w4
    rw [show opF wStep = 3 from rfl] at k0
    rw [cmdF_step]
    by_cases h : r.length = 1
    · obtain ⟨a, rfl⟩ := len1 h
      simp only [List.map_cons, List.map_nil] at k0
      have k1 := rnum_ok a 100000 (hw a (by simp))
      rw [show ((100000 : Nat) : Int) = 100000 from rfl] at k1
      unfold cmd1
      simp only
      refine ⟨⟨ln, 3, 0, (numE a 100000).1, []⟩, ?_, fun h => ?_⟩
      · by_cases e1 : (numE a 100000).2 = 0
        · rw [if_neg (by simpa using e1)]
          rw [e1] at k1
          clear e1
          generalize (numE a 100000).1 = v at *
          refine fn_lim rfl rfl ?_ rfl
          simp [k0, W1, W2, W3, k1, cmG]
        · rw [if_pos e1]
          generalize (numE a 100000).1 = v at *
          generalize (numE a 100000).2 = u at *
          refine fn_lim rfl rfl ?_ rfl
          simp [k0, W1, W2, W3, k1, e1, cmG]
      · by_cases e1 : (numE a 100000).2 = 0
        · rw [if_neg (by simpa using e1)]
        · rw [if_pos e1] at h; exact absurd h e1
    · rw [cmd1_bad h]
      refine ⟨zCm, ?_, fun h => absurd h (by decide)⟩
      have h' : ¬ ((r.length : Int) = 1) := by omega
      generalize r.map GV.s = R at *
      refine fn_lim rfl rfl ?_ rfl
      simp [k0, hml, hwr, h', cmG, zCm]
  by_cases w5 : w = wShow
  · subst w5
    rw [show opF wShow = 4 from rfl] at k0
    rw [cmdF_show]
    by_cases h : r.length = 1
    · obtain ⟨a, rfl⟩ := len1 h
      simp only [List.map_cons, List.map_nil] at k0
      have k1 := rnum_ok a 1 (hw a (by simp))
      have hle := numE_le (w := a) (m := 1)
      have hv := wrap64 (n := ((numE a 1).1 : Int)) (by omega) (by omega)
      simp only [Int.natCast_one] at k1
      unfold cmd1
      simp only
      refine ⟨⟨ln, 4, (numE a 1).1, 0, []⟩, ?_, fun h => ?_⟩
      · by_cases e1 : (numE a 1).2 = 0
        · rw [if_neg (by simpa using e1)]
          rw [e1] at k1
          clear hle e1
          generalize (numE a 1).1 = v at *
          refine fn_lim rfl rfl ?_ rfl
          simp [k0, W1, W2, W3, k1, hv, cmG]
        · rw [if_pos e1]
          clear hle
          generalize (numE a 1).1 = v at *
          generalize (numE a 1).2 = u at *
          refine fn_lim rfl rfl ?_ rfl
          simp [k0, W1, W2, W3, k1, hv, e1, cmG]
      · by_cases e1 : (numE a 1).2 = 0
        · rw [if_neg (by simpa using e1)]
        · rw [if_pos e1] at h; exact absurd h e1
    · rw [cmd1_bad h]
      refine ⟨zCm, ?_, fun h => absurd h (by decide)⟩
      have h' : ¬ ((r.length : Int) = 1) := by omega
      generalize r.map GV.s = R at *
      refine fn_lim rfl rfl ?_ rfl
      simp [k0, hml, hwr, h', cmG, zCm]
  by_cases w6 : w = wAll
  · subst w6
    rw [show opF wAll = 5 from rfl] at k0
    rw [cmdF_all]
    by_cases h : r = []
    · subst h
      rw [if_pos rfl]
      refine ⟨⟨ln, 5, 0, 0, []⟩, ?_, fun _ => rfl⟩
      rw [List.map_nil] at k0 ⊢
      have hw0 : IntKind.i64.wrap 0 = 0 := rfl
      refine fn_lim rfl rfl ?_ rfl
      simp [k0, hw0, cmG]
    · rw [if_neg h]
      refine ⟨zCm, ?_, fun h => absurd h (by decide)⟩
      have : r.length ≠ 0 := fun e => h (List.eq_nil_of_length_eq_zero e)
      have h' : ¬ ((r.length : Int) = 0) := by omega
      clear h
      generalize r.map GV.s = R at *
      generalize r.length = RL at *
      refine fn_lim rfl rfl ?_ rfl
      simp [k0, hml, hwr, this, cmG, zCm]
  · rw [cmdF_other r w1 w2 w3 w4 w5 w6]
    rw [show opF w = 6 by unfold opF; rw [if_neg w1, if_neg w2, if_neg w3, if_neg w4, if_neg w5, if_neg w6]] at k0
    refine ⟨zCm, ?_, fun h => absurd h (by decide)⟩
    clear w1 w2 w3 w4 w5 w6
    generalize r.map GV.s = R at *
    refine fn_lim rfl rfl ?_ rfl
    simp [k0, cmG, zCm]
end V
end Go.Proofs.YtcnadokjijncjaaGreatDoor
