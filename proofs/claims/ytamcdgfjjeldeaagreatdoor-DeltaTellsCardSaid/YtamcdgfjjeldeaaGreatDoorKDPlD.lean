/- Deltas, told of trees. -/
import Derived.Test.YtamcdgfjjeldeaaGreatDoorKDPlC
namespace Go.Proofs.YtamcdgfjjeldeaaGreatDoor
open Go Go.Abs
set_option linter.unusedSimpArgs false
set_option linter.unusedVariables false
set_option maxRecDepth 100000
namespace D
/-! ### Tables that may be -/
def Ok (t : List Row) : Prop := t.length ≤ 256 ∧ Rise t ∧ ∀ r ∈ t, rowChk r = 0
theorem chkR_inv : ∀ {t : List Row} (p : Option (List UInt8)), chkR p t = 0 → Rise t ∧ (∀ r ∈ t, rowChk r = 0) ∧ ∀ k, p = some k → ∀ r ∈ t, k < K r
  | [], p, _ => ⟨List.Pairwise.nil, by simp, by simp⟩
  | r :: t, p, h => by
    unfold chkR at h
    by_cases h1 : rowChk r = 0
    rotate_left
    · rw [if_pos h1] at h; exact absurd h h1
    rw [if_neg (by simp [h1])] at h
    have main : ∀ (h : chkR (some (K r)) t = 0), Rise (r :: t) ∧ ∀ x ∈ r :: t, rowChk x = 0 := by
      intro h
      obtain ⟨i1, i2, i3⟩ := chkR_inv (some (K r)) h
      refine ⟨List.Pairwise.cons (i3 _ rfl) i1, fun x hx => ?_⟩
      rcases List.mem_cons.1 hx with rfl | hx
      · exact h1
      · exact i2 x hx
    cases p with
    | none => exact ⟨(main h).1, (main h).2, by simp⟩
    | some k =>
      simp only at h
      split at h
      · cases h
      next h2 =>
      split at h
      · cases h
      next h3 =>
      refine ⟨(main h).1, (main h).2, ?_⟩
      rintro _ ⟨⟩ x hx
      have hk : k < K r := by
        rcases List.le_iff_lt_or_eq.1 (List.not_lt.1 fun e => h3 ((bl_iff _ _).2 e)) with e | e
        · exact e
        · exact absurd e.symm h2
      rcases List.mem_cons.1 hx with rfl | hx
      · exact hk
      · exact List.lt_trans hk ((List.pairwise_cons.1 (main h).1).1 x hx)
theorem checkT_iff (t : List Row) : checkT t = 0 ↔ Ok t := by
  unfold checkT Ok
  constructor
  · intro h
    split at h
    · cases h
    · obtain ⟨h1, h2, _⟩ := chkR_inv none h
      exact ⟨by omega, h1, h2⟩
  · rintro ⟨h1, h2, h3⟩
    rw [if_neg (by omega)]
    exact chkR_rise none h2 h3 (by simp)
theorem rowChk_iff (r : Row) : rowChk r = 0 ↔ descrChk r.1 = 0 ∧ r.2 ≠ 0 := by
  unfold rowChk
  by_cases h : descrChk r.1 = 0
  · simp [h]
  · simp [h]
structure Tb (t : List Row) : Prop where
  ok : Ok t
  rows : Rows t
  few : Few t
theorem Tb.pos {t : List Row} (h : Tb t) : Pos t := fun r hr => by
  have h1 := ((rowChk_iff r).1 (h.ok.2.2 r hr)).2
  have h2 := (h.rows.2 r hr).2
  omega
theorem Tb.rise {t : List Row} (h : Tb t) : Rise t := h.ok.2.1
theorem tb_nil : Tb [] := ⟨⟨by simp, List.Pairwise.nil, by simp⟩, ⟨by simp, by simp⟩, fun r hr => by simp at hr⟩
/-- Rows of descriptors of such tables. -/
theorem tb_of {a b m : List Row} (ha : Tb a) (hb : Tb b) (hl : m.length ≤ 256) (hr : Rise m) (hk : Keys a b m) (hp : Pos m) : Tb m := by
  have src : ∀ r ∈ m, descrChk r.1 = 0 ∧ Ents r.1 ∧ few12 r.1 = true := by
    intro r hr
    obtain ⟨s, hs, e⟩ := hk r hr
    rw [← e]
    rcases hs with hs | hs
    · exact ⟨((rowChk_iff s).1 (ha.ok.2.2 s hs)).1, (ha.rows.2 s hs).1, ha.few s hs⟩
    · exact ⟨((rowChk_iff s).1 (hb.ok.2.2 s hs)).1, (hb.rows.2 s hs).1, hb.few s hs⟩
  refine ⟨⟨hl, hr, fun r hr => (rowChk_iff r).2 ⟨(src r hr).1, by have := hp r hr; omega⟩⟩, ⟨by omega, fun r hr => ⟨(src r hr).2.1, ?_⟩⟩, fun r hr => (src r hr).2.2⟩
  have := hp r hr; omega
/-! ### Both together -/
def tog (a b : List Row) : List Row × Int := match mergeR a b with
  | none => ([], 3)
  | some m => if 256 < m.length then ([], 13) else (m, 0)
structure GoodT (t : List Row) : Prop where
  len : t.length ≤ 300
  few : Few t
  rows : Rows t
theorem Tb.good {t : List Row} (h : Tb t) : GoodT t := ⟨Nat.le_trans h.ok.1 (by decide), h.few, h.rows⟩
theorem together42 (a b : List Row) (ha : GoodT a) (hb : GoodT b) : TT.lim 42 [.l (a.map row), .l (b.map row)] = some [.l ((tog a b).1.map row), .i .i64 (tog a b).2] := by
  have k := loop43 (a.length + b.length) a b [] (Nat.le_refl _) (by have := ha.len; have := hb.len; simp; omega) ha.few hb.few (fun r hr => (ha.rows.2 r hr).2) (fun r hr => (hb.rows.2 r hr).2)
  have hl1 := ha.len
  have hl2 := hb.len
  have hw := wrap64 (n := (a.length : Int) + (b.length : Int)) (by omega) (by omega)
  have hok : (GV.g [.l [], .i .u64 0]).elemOk 2 = true := rfl
  have hc : (0 : Int) ≤ (a.length : Int) + (b.length : Int) ∧ 32 * ((a.length : Int) + (b.length : Int)) ≤ 281474976710656 ∧ (a.length : Int) + (b.length : Int) ≤ 1152921504606846976 := by omega
  unfold tog
  cases hm : mergeR a b with
  | none =>
    rw [hm] at k
    simp only [outM, List.map_nil] at k
    refine fn_lim rfl rfl ?_ rfl
    simp [hw, hok, hc, k]
  | some m =>
    rw [hm] at k
    simp only [outM, List.map_nil, List.nil_append] at k
    by_cases h : 256 < m.length
    · have h' : (256 : Int) < (m.length : Int) := by omega
      refine fn_lim rfl rfl ?_ rfl
      simp [hw, hok, hc, k, h, h']
    · have h' : ¬ (256 : Int) < (m.length : Int) := by omega
      simp only [if_neg h]
      refine fn_lim rfl rfl ?_ rfl
      simp [hw, hok, hc, k, h']
theorem tog_ok {a b : List Row} (ha : Tb a) (hb : Tb b) (h : (tog a b).2 = 0) : Tb (tog a b).1 ∧ ∀ k, val (tog a b).1 k = val a k + val b k := by
  unfold tog at h ⊢
  cases hm : mergeR a b with
  | none => rw [hm] at h; cases h
  | some m =>
    rw [hm] at h
    simp only at h ⊢
    split at h
    · cases h
    next hl =>
    rw [if_neg hl]
    obtain ⟨h1, h2, h3, h4⟩ := merge_some a b ha.rise hb.rise ha.pos hb.pos hm
    exact ⟨tb_of ha hb (Nat.not_lt.1 hl) h1 h3 h4, h2⟩
theorem tog_nil {a b : List Row} (h : (tog a b).2 ≠ 0) : (tog a b).1 = [] := by
  unfold tog at h ⊢
  cases hm : mergeR a b with
  | none => rfl
  | some m =>
    rw [hm] at h
    simp only at h ⊢
    split at h
    · next hl => rw [if_pos hl]
    · exact absurd rfl h
/-- What two ways of adding up come to. -/
theorem tog_val {a b c d : List Row} (ha : Tb a) (hb : Tb b) (hc : Tb c) (hd : Tb d) (h : ∀ k, val a k + val b k = val c k + val d k) : tog a b = tog c d := by
  have key : ∀ {a b c d : List Row}, Tb a → Tb b → Tb c → Tb d → (∀ k, val a k + val b k = val c k + val d k) → mergeR a b = none → ∀ m, mergeR c d = some m → False := by
    intro a b c d ha hb hc hd h h1 m h2
    obtain ⟨k, hk⟩ := merge_none a b ha.rise hb.rise h1
    obtain ⟨_, q2, _, q4⟩ := merge_some c d hc.rise hd.rise hc.pos hd.pos h2
    have := val_nonneg q4 k
    rw [q2, ← h] at this
    omega
  unfold tog
  cases h1 : mergeR a b with
  | none =>
    cases h2 : mergeR c d with
    | none => rfl
    | some m => exact (key ha hb hc hd h h1 m h2).elim
  | some m =>
    cases h2 : mergeR c d with
    | none => exact (key hc hd ha hb (fun k => (h k).symm) h2 m h1).elim
    | some m' =>
      obtain ⟨p1, p2, _, p4⟩ := merge_some a b ha.rise hb.rise ha.pos hb.pos h1
      obtain ⟨q1, q2, _, q4⟩ := merge_some c d hc.rise hd.rise hc.pos hd.pos h2
      rw [val_ext p1 q1 p4 q4 fun k => by rw [p2, q2, h]]
/-! ### Deltas -/
abbrev Dl := Int × Int × List Row
def dl (d : Dl) : GV := .g [.i .u64 d.1, .i .u64 d.2.1, .l (d.2.2.map row)]
@[simp] theorem dl_cells (d : Dl) : (dl d).cells = [.i .u64 d.1, .i .u64 d.2.1, .l (d.2.2.map row)] := rfl
@[simp] theorem dl_scalar (d : Dl) : (dl d).scalar = false := rfl
theorem dl_fold (b e : Int) (t : List Row) : GV.g [.i .u64 b, .i .u64 e, .l (t.map row)] = dl (b, e, t) := rfl
def zD : Dl := (0, 0, [])
def chkD (d : Dl) : Int := if d.2.1 ≤ d.1 then 20 else checkT d.2.2
theorem check41 (d : Dl) (h : GoodT d.2.2) : TT.lim 41 [dl d] = some [.i .i64 (chkD d)] := by
  have k := check37 d.2.2 h.rows h.few
  unfold chkD
  refine fn_lim rfl rfl ?_ rfl
  by_cases h1 : d.2.1 ≤ d.1
  · simp [h1]
  · simp [h1, k]
theorem chkD_ok {d : Dl} (h : chkD d = 0) : d.1 < d.2.1 ∧ Ok d.2.2 := by
  unfold chkD at h
  split at h
  · cases h
  · exact ⟨by omega, (checkT_iff _).1 h⟩
theorem chkD_of {d : Dl} (h1 : d.1 < d.2.1) (h2 : Ok d.2.2) : chkD d = 0 := by
  unfold chkD
  rw [if_neg (by omega)]; exact (checkT_iff _).2 h2
def joinD (x y : Dl) : Dl × Int :=
  if chkD x ≠ 0 then (zD, chkD x) else if chkD y ≠ 0 then (zD, chkD y) else if y.1 ≠ x.2.1 then (zD, 19)
  else if (tog x.2.2 y.2.2).2 ≠ 0 then (zD, (tog x.2.2 y.2.2).2) else ((x.1, y.2.1, (tog x.2.2 y.2.2).1), 0)
theorem join40 (x y : Dl) (hx : GoodT x.2.2) (hy : GoodT y.2.2) : TT.lim 40 [dl x, dl y] = some [dl (joinD x y).1, .i .i64 (joinD x y).2] := by
  have k1 := check41 x hx
  have k2 := check41 y hy
  have k3 := together42 _ _ hx hy
  have e1 : GV.g [.i .u64 x.1, .i .u64 x.2.1, .l (x.2.2.map row)] = dl x := rfl
  have e2 : GV.g [.i .u64 y.1, .i .u64 y.2.1, .l (y.2.2.map row)] = dl y := rfl
  have e3 : GV.g [.i .u64 0, .i .u64 0, .l []] = dl zD := rfl
  have e4 : GV.g [.i .u64 x.1, .i .u64 y.2.1, .l ((tog x.2.2 y.2.2).1.map row)] = dl (x.1, y.2.1, (tog x.2.2 y.2.2).1) := rfl
  unfold joinD
  by_cases h1 : chkD x = 0
  rotate_left
  · refine fn_lim rfl rfl ?_ rfl
    simp [e1, k1, h1, e3]
  by_cases h2 : chkD y = 0
  rotate_left
  · refine fn_lim rfl rfl ?_ rfl
    simp [e1, k1, h1, e2, k2, h2, e3]
  by_cases h3 : y.1 = x.2.1
  rotate_left
  · refine fn_lim rfl rfl ?_ rfl
    simp [e1, k1, h1, e2, k2, h2, e3, h3]
  have h3' : (y.1 = x.2.1) = True := eq_true h3
  clear h3
  by_cases h4 : (tog x.2.2 y.2.2).2 = 0
  rotate_left
  · refine fn_lim rfl rfl ?_ rfl
    simp [e1, k1, h1, e2, k2, h2, e3, h3', k3, h4]
  · refine fn_lim rfl rfl ?_ rfl
    simp [e1, k1, h1, e2, k2, h2, e4, h3', k3, h4]
theorem joinD_ok {x y : Dl} (h : (joinD x y).2 = 0) : chkD x = 0 ∧ chkD y = 0 ∧ y.1 = x.2.1 ∧ (tog x.2.2 y.2.2).2 = 0 ∧ (joinD x y).1 = (x.1, y.2.1, (tog x.2.2 y.2.2).1) := by
  unfold joinD at h ⊢
  split at h
  · next h1 => exact absurd h h1
  next h1 =>
  split at h
  · next h2 => exact absurd h h2
  next h2 =>
  split at h
  · cases h
  next h3 =>
  split at h
  · next h4 => exact absurd h h4
  next h4 =>
  rw [if_neg h1, if_neg h2, if_neg h3, if_neg h4]
  exact ⟨by simpa using h1, by simpa using h2, by simpa using h3, by simpa using h4, rfl⟩
theorem joinD_eq {x y : Dl} (h1 : chkD x = 0) (h2 : chkD y = 0) (h3 : y.1 = x.2.1) : joinD x y = if (tog x.2.2 y.2.2).2 ≠ 0 then (zD, (tog x.2.2 y.2.2).2) else ((x.1, y.2.1, (tog x.2.2 y.2.2).1), 0) := by
  unfold joinD
  rw [if_neg (by simp [h1]), if_neg (by simp [h2]), if_neg (by simp [h3])]
theorem GoodT.tb {t : List Row} (h : GoodT t) (ho : Ok t) : Tb t := ⟨ho, h.rows, h.few⟩
theorem joinD_tb {x y : Dl} (hx : GoodT x.2.2) (hy : GoodT y.2.2) (h : (joinD x y).2 = 0) : Tb (joinD x y).1.2.2 := by
  obtain ⟨h1, h2, h3, h4, h5⟩ := joinD_ok h
  rw [h5]
  exact (tog_ok (hx.tb (chkD_ok h1).2) (hy.tb (chkD_ok h2).2) h4).1
theorem join_assoc {x y z : Dl} (hx : GoodT x.2.2) (hy : GoodT y.2.2) (hz : GoodT z.2.2) (h1 : (joinD x y).2 = 0) (h2 : (joinD y z).2 = 0) : joinD (joinD x y).1 z = joinD x (joinD y z).1 := by
  have t1 := joinD_tb hx hy h1
  have t2 := joinD_tb hy hz h2
  obtain ⟨a1, a2, a3, a4, a5⟩ := joinD_ok h1
  obtain ⟨b1, b2, b3, b4, b5⟩ := joinD_ok h2
  have tx := hx.tb (chkD_ok a1).2
  have ty := hy.tb (chkD_ok a2).2
  have tz := hz.tb (chkD_ok b2).2
  obtain ⟨c1, c2⟩ := tog_ok tx ty a4
  obtain ⟨d1, d2⟩ := tog_ok ty tz b4
  rw [a5, b5]
  have l1 := (chkD_ok a1).1
  have l2 := (chkD_ok a2).1
  have l3 := (chkD_ok b2).1
  have ev : tog (tog x.2.2 y.2.2).1 z.2.2 = tog x.2.2 (tog y.2.2 z.2.2).1 := tog_val c1 tz tx d1 fun k => by rw [c2, d2]; omega
  rw [joinD_eq (chkD_of (by simp only; omega) c1.ok) b2 (by simp only; exact b3), joinD_eq a1 (chkD_of (by simp only; omega) d1.ok) (by simp only; exact a3)]
  simp only [ev]
theorem good_of {l : List Row} (hl : Rows l) (h : few13 l = true) : GoodT l := by
  refine ⟨?_, fun r hr => few13_few h r hr, hl⟩
  unfold few13 at h
  rw [Bool.and_eq_true, decide_eq_true_iff] at h
  exact h.2
theorem joinD_rows {x y : Dl} (hx : GoodT x.2.2) (hy : GoodT y.2.2) : GoodT (joinD x y).1.2.2 := by
  by_cases h : (joinD x y).2 = 0
  · exact (joinD_tb hx hy h).good
  · have : (joinD x y).1 = zD := by
      unfold joinD at h ⊢
      split
      · rfl
      next h1 =>
      split
      · rfl
      next h2 =>
      split
      · rfl
      next h3 =>
      split
      · rfl
      next h4 =>
      rw [if_neg h1, if_neg h2, if_neg h3, if_neg h4] at h
      exact absurd rfl h
    rw [this]
    exact tb_nil.good
theorem same_good (a b : List Row) (ha : GoodT a) (hb : GoodT b) : TT.lim 27 [.l (a.map row), .l (b.map row)] = some [.b (decide (a = b))] :=
  same27 a b (by have := ha.len; omega) (by have := hb.len; omega) (fun r hr => (ha.rows.2 r hr).1.1) (fun r hr => (hb.rows.2 r hr).1.1)
set_option maxHeartbeats 4000000 in
theorem joins39 (x y z : Dl) (hx : Rows x.2.2) (hy : Rows y.2.2) (hz : Rows z.2.2) : TT.lim 39 [dl x, dl y, dl z] = some [.b true] := by
  have f1 := few2 _ hx
  have f2 := few2 _ hy
  have f3 := few2 _ hz
  have e1 : GV.g [.i .u64 x.1, .i .u64 x.2.1, .l (x.2.2.map row)] = dl x := rfl
  have e2 : GV.g [.i .u64 y.1, .i .u64 y.2.1, .l (y.2.2.map row)] = dl y := rfl
  have e3 : GV.g [.i .u64 z.1, .i .u64 z.2.1, .l (z.2.2.map row)] = dl z := rfl
  refine fn_lim rfl rfl ?_ rfl
  by_cases l1 : (100 : Int) < (x.2.2.length : Int)
  · simp [l1]
  cases g1 : few13 x.2.2 with
  | false => rw [g1] at f1; simp [l1, f1]
  | true =>
  rw [g1] at f1
  by_cases l2 : (100 : Int) < (y.2.2.length : Int)
  · simp [l1, f1, l2]
  cases g2 : few13 y.2.2 with
  | false => rw [g2] at f2; simp [l1, f1, l2, f2]
  | true =>
  rw [g2] at f2
  by_cases l3 : (100 : Int) < (z.2.2.length : Int)
  · simp [l1, f1, l2, f2, l3]
  cases g3 : few13 z.2.2 with
  | false => rw [g3] at f3; simp [l1, f1, l2, f2, l3, f3]
  | true =>
  rw [g3] at f3
  have q1 := good_of hx g1
  have q2 := good_of hy g2
  have q3 := good_of hz g3
  have j1 := join40 x y q1 q2
  have j2 := join40 y z q2 q3
  by_cases h1 : (joinD x y).2 = 0
  rotate_left
  · simp [l1, f1, l2, f2, l3, f3, e1, e2, e3, j1, j2, h1]
  by_cases h2 : (joinD y z).2 = 0
  rotate_left
  · simp [l1, f1, l2, f2, l3, f3, e1, e2, e3, j1, j2, h1, h2]
  have t1 := joinD_rows q1 q2
  have t2 := joinD_rows q2 q3
  have j3 := join40 (joinD x y).1 z t1 q3
  have j4 := join40 x (joinD y z).1 q1 t2
  have ea := join_assoc q1 q2 q3 h1 h2
  have t4 := joinD_rows q1 t2
  rw [ea] at j3
  have e4 : GV.g [.i .u64 (joinD x y).1.1, .i .u64 (joinD x y).1.2.1, .l ((joinD x y).1.2.2.map row)] = dl (joinD x y).1 := rfl
  have e5 : GV.g [.i .u64 (joinD y z).1.1, .i .u64 (joinD y z).1.2.1, .l ((joinD y z).1.2.2.map row)] = dl (joinD y z).1 := rfl
  have ks := same_good _ _ t4 t4
  rw [decide_eq_true (rfl : (joinD x (joinD y z).1).1.2.2 = _)] at ks
  generalize joinD x (joinD y z).1 = w at *
  generalize joinD x y = u at *
  generalize joinD y z = v at *
  simp [l1, f1, l2, f2, l3, f3, e1, e2, e3, j1, j2, h1, h2, j3, j4, e4, e5, ks]
/-! ### Arguments -/
abbrev dlTy : List GTy := [.int .u64, .int .u64, .list true [.list true [.str, .str], .int .u64]]
theorem dl_of {cs : List GV} (h : GTy.hasL dlTy cs) : ∃ d : Dl, Rows d.2.2 ∧ GV.g cs = dl d := by
  obtain ⟨b, l, rfl, h1, h⟩ := hasL_cons h
  obtain ⟨e, l, rfl, h2, h⟩ := hasL_cons h
  obtain ⟨t, l, rfl, h3, h⟩ := hasL_cons h
  obtain rfl := hasL_nil h
  obtain ⟨b, rfl, _, _⟩ := has_u64 h1
  obtain ⟨e, rfl, _, _⟩ := has_u64 h2
  obtain ⟨t, ht, rfl⟩ := rows_of h3
  exact ⟨(b, e, t), ht, rfl⟩
theorem deltaJoins (gs : List GV) (h : hasArgs [(true, dlTy), (true, dlTy), (true, dlTy)] gs) : TT.lim 39 gs = some [.b true] := by
  obtain ⟨a, gs, rfl, h1, h⟩ := hasA_agg h
  obtain ⟨b, gs, rfl, h2, h⟩ := hasA_agg h
  obtain ⟨c, gs, rfl, h3, h⟩ := hasA_agg h
  obtain rfl := hasA_nil h
  obtain ⟨x, hx, ex⟩ := dl_of h1
  obtain ⟨y, hy, ey⟩ := dl_of h2
  obtain ⟨z, hz, ez⟩ := dl_of h3
  rw [ex, ey, ez]
  exact joins39 x y z hx hy hz
def diffR : List Row → List Row → List Row
  | [], _ => []
  | r :: rs, [] => if r.2 = 0 then diffR rs [] else r :: diffR rs []
  | r :: rs, l :: ls => if K l = K r then (if IntKind.u64.wrap (r.2 - l.2) = 0 then diffR rs ls else (r.1, IntKind.u64.wrap (r.2 - l.2)) :: diffR rs ls) else if r.2 = 0 then diffR rs (l :: ls) else r :: diffR rs (l :: ls)
theorem cmpK_self (a : List UInt8) : cmpK a a = 0 := by unfold cmpK; simp [List.lt_irrefl]
theorem cmpK_ne {a b : List UInt8} (h : a ≠ b) : cmpK a b ≠ 0 := by
  unfold cmpK
  split
  · omega
  next h1 =>
  split
  · omega
  next h2 => exact absurd (List.le_antisymm (List.not_lt.1 h2) (List.not_lt.1 h1)) h
set_option maxHeartbeats 4000000 in
theorem loop50 (t : List Row) (e f : Int) (ht : t.length ≤ 300) (ft : Few t) : ∀ (m i : Nat) (b acc : List Row), i + m = t.length → acc.length ≤ i → Few b →
    TT.lim 50 [.l (b.map row), .l (t.map row), .i .i64 t.length, .i .i64 i, .i .u64 e, .i .u64 f, .l (acc.map row)] = some [.i .i64 0, .i .u64 e, .i .u64 f, .l ((acc ++ diffR (t.drop i) b).map row)]
  | 0, i, b, acc, hi, ha, fb => by
    have h0 : t.drop i = [] := List.drop_eq_nil_of_le (by omega)
    refine tree_lim rfl rfl ?_
    have h : ¬ ((i : Int) < t.length) := by omega
    simp [h, h0, diffR]
  | m + 1, i, b, acc, hi, ha, fb => by
    have hlt : i < t.length := by omega
    have fr := ft t[i] (List.getElem_mem hlt)
    have kc := clone23 t[i].1 (few40 fr)
    have hrow : GV.g [.l (t[i].1.map ent), .i .u64 t[i].2] = row t[i] := rfl
    have hok : ∀ r : Row, (row r).elemOk 2 = true := fun r => rfl
    have hbb : 2 * (acc.length + 1) * 32 ≤ 281474976710656 ∧ acc.length + 1 ≤ 281474976710656 := by omega
    have h : ((i : Int) < t.length) := by omega
    have hw := wrap64 (n := (i : Int) + 1) (by omega) (by omega)
    have ih1 : ∀ b', Few b' → TT.lim 50 [.l (b'.map row), .l (t.map row), .i .i64 t.length, .i .i64 ((i : Int) + 1), .i .u64 e, .i .u64 f, .l (acc.map row)] = _ := fun b' fb' => loop50 t e f ht ft m (i + 1) b' acc (by omega) (by omega) fb'
    have ih2 : ∀ b' r, Few b' → TT.lim 50 [.l (b'.map row), .l (t.map row), .i .i64 t.length, .i .i64 ((i : Int) + 1), .i .u64 e, .i .u64 f, .l ((acc ++ [r]).map row)] = _ := fun b' r fb' => loop50 t e f ht ft m (i + 1) b' (acc ++ [r]) (by omega) (by simp; omega) fb'
    have hdr : t.drop i = t[i] :: t.drop (i + 1) := List.drop_eq_getElem_cons hlt
    rw [hdr]
    cases b with
    | nil =>
      by_cases h1 : t[i].2 = 0
      · have ih := ih1 [] fb
        simp only [List.map_nil] at ih
        simp only [diffR]
        rw [if_pos h1]
        have h1' : (t[i].2 = 0) = True := eq_true h1
        clear h1
        refine tree_lim rfl rfl ?_
        simp [-List.getElem_cons_drop, h, hlt, h1', hw, ih]
      · have ih := ih2 [] t[i] fb
        simp only [List.map_nil, List.map_append, List.map_cons] at ih
        simp only [diffR]
        rw [if_neg h1]
        refine tree_lim rfl rfl ?_
        simp [-List.getElem_cons_drop, h, hlt, h1, hw, kc, hrow, hok, hbb, ih]
    | cons l ls =>
      have fl := fb l (by simp)
      have fls : Few ls := fun r hr => fb r (by simp [hr])
      have hl := lsub_tail (row l) ls ((ls.length : Int) + 1) rfl rfl
      have hp : (0 : Int) < (ls.length : Int) + 1 := by omega
      have kcmp := cmp44 l.1 t[i].1 fl fr
      by_cases h2 : K l = K t[i]
      · rw [show keyF l.1 = keyF t[i].1 from h2, cmpK_self] at kcmp
        simp only [diffR]
        rw [if_pos h2]
        by_cases h1 : IntKind.u64.wrap (t[i].2 - l.2) = 0
        · have ih := ih1 ls fls
          rw [if_pos h1]
          refine tree_lim rfl rfl ?_
          simp [-List.getElem_cons_drop, -lsub3_i, h, hlt, hp, kcmp, hl, h1, hw, ih]
        · have ih := ih2 ls (t[i].1, IntKind.u64.wrap (t[i].2 - l.2)) fls
          rw [if_neg h1]
          simp only [List.map_nil, List.map_append, List.map_cons] at ih
          have hrow2 : GV.g [.l (t[i].1.map ent), .i .u64 (IntKind.u64.wrap (t[i].2 - l.2))] = row (t[i].1, IntKind.u64.wrap (t[i].2 - l.2)) := rfl
          refine tree_lim rfl rfl ?_
          simp [-List.getElem_cons_drop, -lsub3_i, h, hlt, hp, kcmp, hl, h1, hw, kc, hrow2, hok, hbb, ih]
      · have hne := cmpK_ne h2
        generalize cmpK (keyF l.1) (keyF t[i].1) = v at kcmp hne
        simp only [diffR]
        rw [if_neg h2]
        by_cases h1 : t[i].2 = 0
        · have ih := ih1 (l :: ls) fb
          simp only [List.map_cons] at ih
          rw [if_pos h1]
          have h1' : (t[i].2 = 0) = True := eq_true h1
          clear h1
          refine tree_lim rfl rfl ?_
          simp [-List.getElem_cons_drop, -lsub3_i, h, hlt, hp, kcmp, hne, h1', hw, ih]
        · have ih := ih2 (l :: ls) t[i] fb
          simp only [List.map_nil, List.map_append, List.map_cons] at ih
          rw [if_neg h1]
          refine tree_lim rfl rfl ?_
          simp [-List.getElem_cons_drop, -lsub3_i, h, hlt, hp, kcmp, hne, h1, hw, kc, hrow, hok, hbb, ih]
theorem diff_facts : ∀ (t b : List Row), Rise t → Rise b → Pos t → Pos b → (∀ l ∈ b, ∃ r ∈ t, K r = K l ∧ l.2 ≤ r.2) →
    Rise (diffR t b) ∧ (∀ k, val (diffR t b) k = val t k - val b k) ∧ (∀ r ∈ diffR t b, ∃ s ∈ t, s.1 = r.1) ∧ Pos (diffR t b)
  | [], [], _, _, _, _, _ => ⟨List.Pairwise.nil, fun k => rfl, by simp [diffR], by simp [diffR, Pos]⟩
  | [], l :: b, _, _, _, _, h => by obtain ⟨r, hr, _⟩ := h l (by simp); simp at hr
  | r :: t, [], ht, hb, pt, pb, h => by
    have ht' := List.pairwise_cons.1 ht
    obtain ⟨h1, h2, h3, h4⟩ := diff_facts t [] ht'.2 hb (fun x hx => pt x (by simp [hx])) pb (by simp)
    have hr := pt r (by simp)
    simp only [diffR]
    rw [if_neg (by omega)]
    refine ⟨List.Pairwise.cons (fun x hx => ?_) h1, fun k => ?_, fun x hx => ?_, fun x hx => ?_⟩
    · obtain ⟨s, hs, e⟩ := h3 x hx
      show K r < keyF x.1
      rw [← e]; exact ht'.1 s hs
    · show (if K r = k then r.2 else val (diffR t []) k) = (if K r = k then r.2 else val t k) - val [] k
      split
      · simp [val]
      · exact h2 k
    · rcases List.mem_cons.1 hx with rfl | hx
      · exact ⟨x, by simp, rfl⟩
      · obtain ⟨s, hs, e⟩ := h3 x hx; exact ⟨s, by simp [hs], e⟩
    · rcases List.mem_cons.1 hx with rfl | hx
      · exact hr
      · exact h4 x hx
  | r :: t, l :: b, ht, hb, pt, pb, h => by
    have ht' := List.pairwise_cons.1 ht
    have hb' := List.pairwise_cons.1 hb
    have hr := pt r (by simp)
    have hl := pb l (by simp)
    simp only [diffR]
    by_cases he : K l = K r
    · rw [if_pos he]
      have hle : l.2 ≤ r.2 := by
        obtain ⟨s, hs, e, hn⟩ := h l (by simp)
        have : s = r := rise_key ht hs (by simp) (e.trans he)
        rw [← this]; exact hn
      have hw := wrapu64 (n := r.2 - l.2) (by omega) (by omega)
      rw [hw]
      obtain ⟨h1, h2, h3, h4⟩ := diff_facts t b ht'.2 hb'.2 (fun x hx => pt x (by simp [hx])) (fun x hx => pb x (by simp [hx])) (fun x hx => by
        obtain ⟨s, hs, e, hn⟩ := h x (by simp [hx])
        rcases List.mem_cons.1 hs with rfl | hs
        · have := hb'.1 x hx; rw [he, ← e] at this; exact absurd this (List.lt_irrefl _)
        · exact ⟨s, hs, e, hn⟩)
      have h3' : ∀ x ∈ diffR t b, ∃ s ∈ r :: t, s.1 = x.1 := fun x hx => by obtain ⟨s, hs, e⟩ := h3 x hx; exact ⟨s, by simp [hs], e⟩
      have hv : ∀ k, (if K r = k then r.2 - l.2 else val (diffR t b) k) = val (r :: t) k - val (l :: b) k := fun k => by
        show _ = (if K r = k then r.2 else val t k) - (if K l = k then l.2 else val b k)
        rw [he]
        split
        · rfl
        · exact h2 k
      by_cases h0 : r.2 - l.2 = 0
      · rw [if_pos h0]
        refine ⟨h1, fun k => ?_, h3', h4⟩
        rw [← hv k]
        split
        · next e =>
          rw [h0]; subst e
          refine val_above fun x hx => ?_
          obtain ⟨s, hs, e⟩ := h3 x hx
          show K r < keyF x.1
          rw [← e]; exact ht'.1 s hs
        · rfl
      · rw [if_neg h0]
        refine ⟨List.Pairwise.cons (fun x hx => ?_) h1, hv, fun x hx => ?_, fun x hx => ?_⟩
        · obtain ⟨s, hs, e⟩ := h3 x hx
          show keyF r.1 < keyF x.1
          rw [← e]; exact ht'.1 s hs
        · rcases List.mem_cons.1 hx with rfl | hx
          · exact ⟨r, by simp, rfl⟩
          · exact h3' x hx
        · rcases List.mem_cons.1 hx with rfl | hx
          · exact ⟨by simp only; omega, by simp only; omega⟩
          · exact h4 x hx
    · rw [if_neg he, if_neg (by omega)]
      have hin : ∀ x ∈ l :: b, ∃ s ∈ t, K s = K x ∧ x.2 ≤ s.2 := by
        have hlr : K r < K l := by
          obtain ⟨s, hs, e, _⟩ := h l (by simp)
          rcases List.mem_cons.1 hs with rfl | hs
          · exact absurd e.symm he
          · rw [← e]; exact ht'.1 s hs
        intro x hx
        obtain ⟨s, hs, e, hn⟩ := h x hx
        rcases List.mem_cons.1 hs with rfl | hs
        · exfalso
          rcases List.mem_cons.1 hx with rfl | hx
          · exact he e.symm
          · have := List.lt_trans hlr (hb'.1 x hx); rw [e] at this; exact List.lt_irrefl _ this
        · exact ⟨s, hs, e, hn⟩
      obtain ⟨h1, h2, h3, h4⟩ := diff_facts t (l :: b) ht'.2 hb (fun x hx => pt x (by simp [hx])) pb hin
      refine ⟨List.Pairwise.cons (fun x hx => ?_) h1, fun k => ?_, fun x hx => ?_, fun x hx => ?_⟩
      · obtain ⟨s, hs, e⟩ := h3 x hx
        show K r < keyF x.1
        rw [← e]; exact ht'.1 s hs
      · show (if K r = k then r.2 else val (diffR t (l :: b)) k) = (if K r = k then r.2 else val t k) - val (l :: b) k
        split
        · next e =>
          rw [val_none (t := l :: b) fun x hx e2 => by
            obtain ⟨s, hs, e3, _⟩ := hin x hx
            have := ht'.1 s hs
            rw [e3, e2, e] at this; exact List.lt_irrefl _ this]
          omega
        · exact h2 k
      · rcases List.mem_cons.1 hx with rfl | hx
        · exact ⟨x, by simp, rfl⟩
        · obtain ⟨s, hs, e⟩ := h3 x hx; exact ⟨s, by simp [hs], e⟩
      · rcases List.mem_cons.1 hx with rfl | hx
        · exact hr
        · exact h4 x hx
abbrev Sn := Int × List Row
def sn (s : Sn) : GV := .g [.i .u64 s.1, .l (s.2.map row)]
@[simp] theorem sn_cells (s : Sn) : (sn s).cells = [.i .u64 s.1, .l (s.2.map row)] := rfl
@[simp] theorem sn_scalar (s : Sn) : (sn s).scalar = false := rfl
def zS : Sn := (0, [])
theorem check49 (s : Sn) (h : GoodT s.2) : TT.lim 49 [sn s] = some [.i .i64 (checkT s.2)] := by
  have k := check37 s.2 h.rows h.few
  refine fn_lim rfl rfl ?_ rfl
  simp [k]
def diffS (s n : Sn) : Dl × Int :=
  if checkT s.2 ≠ 0 then (zD, checkT s.2) else if checkT n.2 ≠ 0 then (zD, checkT n.2) else if n.1 ≤ s.1 then (zD, 20)
  else if atL n.2 s.2 = false then (zD, 21) else ((s.1, n.1, diffR n.2 s.2), 0)
def applyS (s : Sn) (d : Dl) : Sn × Int :=
  if checkT s.2 ≠ 0 then (zS, checkT s.2) else if chkD d ≠ 0 then (zS, chkD d) else if s.1 ≠ d.1 then (zS, 19)
  else if (tog s.2 d.2.2).2 ≠ 0 then (zS, (tog s.2 d.2.2).2) else ((d.2.1, (tog s.2 d.2.2).1), 0)
theorem diff48 (s n : Sn) (hs : GoodT s.2) (hn : GoodT n.2) : TT.lim 48 [sn s, sn n] = some [dl (diffS s n).1, .i .i64 (diffS s n).2] := by
  have k1 := check49 s hs
  have k2 := check49 n hn
  have e1 : GV.g [.i .u64 s.1, .l (s.2.map row)] = sn s := rfl
  have e2 : GV.g [.i .u64 n.1, .l (n.2.map row)] = sn n := rfl
  have e3 : GV.g [.i .u64 0, .i .u64 0, .l []] = dl zD := rfl
  have e4 : GV.g [.i .u64 s.1, .i .u64 n.1, .l ((diffR n.2 s.2).map row)] = dl (s.1, n.1, diffR n.2 s.2) := rfl
  have k5 : TT.lim 50 [.l (s.2.map row), .l (n.2.map row), .i .i64 n.2.length, .i .i64 0, .i .u64 s.1, .i .u64 n.1, .l []] = _ := loop50 n.2 s.1 n.1 hn.len hn.few n.2.length 0 s.2 [] (by omega) (by simp) hs.few
  rw [List.drop_zero, List.nil_append] at k5
  unfold diffS
  by_cases h1 : checkT s.2 = 0
  rotate_left
  · refine fn_lim rfl rfl ?_ rfl
    simp [e1, k1, h1, e3]
  by_cases h2 : checkT n.2 = 0
  rotate_left
  · refine fn_lim rfl rfl ?_ rfl
    simp [e1, k1, h1, e2, k2, h2, e3]
  by_cases h3 : n.1 ≤ s.1
  · refine fn_lim rfl rfl ?_ rfl
    simp [e1, k1, h1, e2, k2, h2, e3, h3]
  have k4 := atLeast24 n.2 s.2 ((checkT_iff _).1 h2).1 ((checkT_iff _).1 h1).1 hn.few hs.few
  cases h4 : atL n.2 s.2 with
  | false =>
    rw [h4] at k4
    refine fn_lim rfl rfl ?_ rfl
    simp [e1, k1, h1, e2, k2, h2, e3, h3, k4]
  | true =>
    rw [h4] at k4
    refine fn_lim rfl rfl ?_ rfl
    simp [e1, k1, h1, e2, k2, h2, e4, h3, k4, k5]
theorem apply51 (s : Sn) (d : Dl) (hs : GoodT s.2) (hd : GoodT d.2.2) : TT.lim 51 [sn s, dl d] = some [sn (applyS s d).1, .i .i64 (applyS s d).2] := by
  have k1 := check49 s hs
  have k2 := check41 d hd
  have k3 := together42 _ _ hs hd
  have e1 : GV.g [.i .u64 s.1, .l (s.2.map row)] = sn s := rfl
  have e2 : GV.g [.i .u64 d.1, .i .u64 d.2.1, .l (d.2.2.map row)] = dl d := rfl
  have e3 : GV.g [.i .u64 0, .l []] = sn zS := rfl
  have e4 : GV.g [.i .u64 d.2.1, .l ((tog s.2 d.2.2).1.map row)] = sn (d.2.1, (tog s.2 d.2.2).1) := rfl
  unfold applyS
  by_cases h1 : checkT s.2 = 0
  rotate_left
  · refine fn_lim rfl rfl ?_ rfl
    simp [e1, k1, h1, e3]
  by_cases h2 : chkD d = 0
  rotate_left
  · refine fn_lim rfl rfl ?_ rfl
    simp [e1, k1, h1, e2, k2, h2, e3]
  by_cases h3 : s.1 = d.1
  rotate_left
  · refine fn_lim rfl rfl ?_ rfl
    simp [e1, k1, h1, e2, k2, h2, e3, h3]
  have h3' : (s.1 = d.1) = True := eq_true h3
  clear h3
  by_cases h4 : (tog s.2 d.2.2).2 = 0
  rotate_left
  · refine fn_lim rfl rfl ?_ rfl
    simp [e1, k1, h1, e2, k2, h2, e3, h3', k3, h4]
  · refine fn_lim rfl rfl ?_ rfl
    simp [e1, k1, h1, e2, k2, h2, e4, h3', k3, h4]
theorem diffS_ok {s n : Sn} (h : (diffS s n).2 = 0) : Ok s.2 ∧ Ok n.2 ∧ s.1 < n.1 ∧ atL n.2 s.2 = true ∧ (diffS s n).1 = (s.1, n.1, diffR n.2 s.2) := by
  unfold diffS at h ⊢
  split at h
  · next h1 => exact absurd h h1
  next h1 =>
  split at h
  · next h2 => exact absurd h h2
  next h2 =>
  split at h
  · cases h
  next h3 =>
  split at h
  · cases h
  next h4 =>
  rw [if_neg h1, if_neg h2, if_neg h3, if_neg h4]
  exact ⟨(checkT_iff _).1 (by simpa using h1), (checkT_iff _).1 (by simpa using h2), by omega, by simpa using h4, rfl⟩
theorem diffS_eq {s n : Sn} (h1 : Ok s.2) (h2 : Ok n.2) (h3 : s.1 < n.1) (h4 : atL n.2 s.2 = true) : diffS s n = ((s.1, n.1, diffR n.2 s.2), 0) := by
  unfold diffS
  rw [if_neg (by simp [(checkT_iff _).2 h1]), if_neg (by simp [(checkT_iff _).2 h2]), if_neg (by omega), if_neg (by simp [h4])]
theorem diffS_zero {s n : Sn} (h : (diffS s n).2 ≠ 0) : (diffS s n).1 = zD := by
  unfold diffS at h ⊢
  split
  · rfl
  next h1 =>
  split
  · rfl
  next h2 =>
  split
  · rfl
  next h3 =>
  split
  · rfl
  next h4 =>
  rw [if_neg h1, if_neg h2, if_neg h3, if_neg h4] at h
  exact absurd rfl h
theorem applyS_ok {s : Sn} {d : Dl} (h : (applyS s d).2 = 0) : Ok s.2 ∧ chkD d = 0 ∧ s.1 = d.1 ∧ (tog s.2 d.2.2).2 = 0 ∧ (applyS s d).1 = (d.2.1, (tog s.2 d.2.2).1) := by
  unfold applyS at h ⊢
  split at h
  · next h1 => exact absurd h h1
  next h1 =>
  split at h
  · next h2 => exact absurd h h2
  next h2 =>
  split at h
  · cases h
  next h3 =>
  split at h
  · next h4 => exact absurd h h4
  next h4 =>
  rw [if_neg h1, if_neg h2, if_neg h3, if_neg h4]
  exact ⟨(checkT_iff _).1 (by simpa using h1), by simpa using h2, by simpa using h3, by simpa using h4, rfl⟩
theorem applyS_eq {s : Sn} {d : Dl} (h1 : Ok s.2) (h2 : chkD d = 0) (h3 : s.1 = d.1) : applyS s d = if (tog s.2 d.2.2).2 ≠ 0 then (zS, (tog s.2 d.2.2).2) else ((d.2.1, (tog s.2 d.2.2).1), 0) := by
  unfold applyS
  rw [if_neg (by simp [(checkT_iff _).2 h1]), if_neg (by simp [h2]), if_neg (by simp [h3])]
theorem applyS_zero {s : Sn} {d : Dl} (h : (applyS s d).2 ≠ 0) : (applyS s d).1 = zS := by
  unfold applyS at h ⊢
  split
  · rfl
  next h1 =>
  split
  · rfl
  next h2 =>
  split
  · rfl
  next h3 =>
  split
  · rfl
  next h4 =>
  rw [if_neg h1, if_neg h2, if_neg h3, if_neg h4] at h
  exact absurd rfl h
/-- What is at least another: by keys. -/
theorem diff_tb {s n : List Row} (hs : Tb s) (hn : Tb n) (h : atL n s = true) : Tb (diffR n s) ∧ ∀ k, val (diffR n s) k = val n k - val s k := by
  have h' := (atL_iff _ _ hn.rise hs.rise).1 h
  obtain ⟨h1, h2, h3, h4⟩ := diff_facts n s hn.rise hs.rise hn.pos hs.pos h'
  have hl : (diffR n s).length ≤ n.length := rise_len h1 hn.rise fun r hr => by obtain ⟨x, hx, e⟩ := h3 r hr; exact ⟨x, hx, by show keyF x.1 = keyF r.1; rw [e]⟩
  exact ⟨tb_of hn hn (Nat.le_trans hl hn.ok.1) h1 (fun r hr => by obtain ⟨x, hx, e⟩ := h3 r hr; exact ⟨x, .inl hx, e⟩) h4, h2⟩
theorem tog_self {t : List Row} (ht : Tb t) : tog t [] = (t, 0) := by
  have h : mergeR t [] = some t := by cases t <;> rw [mergeR]
  unfold tog
  rw [h]
  simp only
  rw [if_neg (by have := ht.ok.1; omega)]
theorem back1 {s n : Sn} (hs : GoodT s.2) (hn : GoodT n.2) (h : (diffS s n).2 = 0) : chkD (diffS s n).1 = 0 ∧ applyS s (diffS s n).1 = (n, 0) ∧ GoodT (diffS s n).1.2.2 := by
  obtain ⟨h1, h2, h3, h4, h5⟩ := diffS_ok h
  have ts := hs.tb h1
  have tn := hn.tb h2
  obtain ⟨k1, k2⟩ := diff_tb ts tn h4
  rw [h5]
  have hc : chkD (s.1, n.1, diffR n.2 s.2) = 0 := chkD_of h3 k1.ok
  have ht : tog s.2 (diffR n.2 s.2) = tog n.2 [] := tog_val ts k1 tn tb_nil fun k => by rw [k2]; simp [val]; omega
  rw [tog_self tn] at ht
  refine ⟨hc, ?_, k1.good⟩
  rw [applyS_eq h1 hc rfl]
  simp only [ht]
  rfl
theorem atL_of {m s : List Row} (hm : Tb m) (hs : Tb s) (h : ∀ k, val s k ≤ val m k) : atL m s = true := by
  rw [atL_iff _ _ hm.rise hs.rise]
  intro r hr
  have h1 := val_mem hs.rise r hr
  have h2 := (hs.pos r hr).1
  have h3 := h (K r)
  obtain ⟨x, hx, e1, e2⟩ := val_pos hm.pos (k := K r) (by omega)
  exact ⟨x, hx, e1, by omega⟩
theorem apply_tb {s : Sn} {d : Dl} (hs : GoodT s.2) (hd : GoodT d.2.2) (h : (applyS s d).2 = 0) : Tb (applyS s d).1.2 ∧ ∀ k, val (applyS s d).1.2 k = val s.2 k + val d.2.2 k := by
  obtain ⟨h1, h2, h3, h4, h5⟩ := applyS_ok h
  rw [h5]
  exact tog_ok (hs.tb h1) (hd.tb (chkD_ok h2).2) h4
theorem back2 {s : Sn} {d : Dl} (hs : GoodT s.2) (hd : GoodT d.2.2) (h : (applyS s d).2 = 0) : diffS s (applyS s d).1 = (d, 0) ∧ atL (applyS s d).1.2 s.2 = true := by
  obtain ⟨h1, h2, h3, h4, h5⟩ := applyS_ok h
  obtain ⟨k1, k2⟩ := apply_tb hs hd h
  have ts := hs.tb h1
  have td := hd.tb (chkD_ok h2).2
  have ha : atL (applyS s d).1.2 s.2 = true := atL_of k1 ts fun k => by have := val_nonneg td.pos k; rw [k2]; omega
  refine ⟨?_, ha⟩
  obtain ⟨q1, q2⟩ := diff_tb ts k1 ha
  have he : diffR (applyS s d).1.2 s.2 = d.2.2 := val_ext q1.rise td.rise q1.pos td.pos fun k => by rw [q2, k2]; omega
  have hu : (applyS s d).1.1 = d.2.1 := by rw [h5]
  rw [diffS_eq h1 k1.ok (by rw [hu, h3]; exact (chkD_ok h2).1) ha, he, hu, h3]
theorem back3 {s : Sn} {d f : Dl} (hs : GoodT s.2) (hd : GoodT d.2.2) (hf : GoodT f.2.2) (h : (applyS s d).2 = 0) (h' : (applyS (applyS s d).1 f).2 = 0) : (joinD d f).2 = 0 ∧ applyS s (joinD d f).1 = applyS (applyS s d).1 f := by
  obtain ⟨h1, h2, h3, h4, h5⟩ := applyS_ok h
  obtain ⟨k1, k2⟩ := apply_tb hs hd h
  obtain ⟨p1, p2, p3, p4, p5⟩ := applyS_ok h'
  obtain ⟨q1, q2⟩ := apply_tb k1.good hf h'
  have ts := hs.tb h1
  have td := hd.tb (chkD_ok h2).2
  have tf := hf.tb (chkD_ok p2).2
  have hu : (applyS s d).1.1 = d.2.1 := by rw [h5]
  have l1 := (chkD_ok h2).1
  have l2 := (chkD_ok p2).1
  have hz : (tog d.2.2 f.2.2).2 = 0 := by
    unfold tog
    cases hm : mergeR d.2.2 f.2.2 with
    | none =>
      exfalso
      obtain ⟨k, hk⟩ := merge_none _ _ td.rise tf.rise hm
      have a1 := val_nonneg q1.pos k
      have a2 := val_nonneg ts.pos k
      rw [q2, k2] at a1
      omega
    | some j =>
      obtain ⟨j1, j2, _, j4⟩ := merge_some _ _ td.rise tf.rise td.pos tf.pos hm
      have hl : j.length ≤ (applyS (applyS s d).1 f).1.2.length := rise_len j1 q1.rise fun r hr => by
        have b1 := val_mem j1 r hr
        have b2 := (j4 r hr).1
        have b3 := val_nonneg ts.pos (K r)
        obtain ⟨x, hx, e, _⟩ := val_pos q1.pos (k := K r) (by rw [q2, k2]; rw [j2] at b1; omega)
        exact ⟨x, hx, e⟩
      simp only
      rw [if_neg (by have := q1.ok.1; omega)]
  have hj : joinD d f = ((d.1, f.2.1, (tog d.2.2 f.2.2).1), 0) := by
    rw [joinD_eq h2 p2 (by rw [← p3, hu]), if_neg (by simp [hz])]
  obtain ⟨j1, j2⟩ := tog_ok td tf hz
  rw [hj]
  refine ⟨rfl, ?_⟩
  have ht : tog s.2 (tog d.2.2 f.2.2).1 = tog (applyS s d).1.2 f.2.2 := tog_val ts j1 k1 tf fun k => by rw [j2, k2]; omega
  rw [applyS_eq (d := (d.1, f.2.1, (tog d.2.2 f.2.2).1)) h1 (chkD_of (by simp only; omega) j1.ok) h3, applyS_eq p1 p2 p3]
  simp only [ht]
end D
end Go.Proofs.YtamcdgfjjeldeaaGreatDoor
