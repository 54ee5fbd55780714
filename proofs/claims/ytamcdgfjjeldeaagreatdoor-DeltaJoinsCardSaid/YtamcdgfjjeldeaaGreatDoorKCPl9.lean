/- The law DeltaJoins, told of trees. -/
import Derived.Test.YtamcdgfjjeldeaaGreatDoorKCPl8
namespace Go.Proofs.YtamcdgfjjeldeaaGreatDoor
open Go Go.Abs
set_option linter.unusedSimpArgs false
set_option linter.unusedVariables false
set_option maxRecDepth 100000
namespace C
/-! ### Tables that may be -/
def Ok (t : List Row) : Prop := t.length ≤ 256 ∧ Rise t ∧ ∀ r ∈ t, rowChk r = 0
theorem chkR_inv : ∀ {t : List Row} (p : Option (List UInt8)), chkR p t = 0 → Rise t ∧ (∀ r ∈ t, rowChk r = 0) ∧ ∀ k, p = some k → ∀ r ∈ t, k < K r
  | [], p, _ => ⟨List.Pairwise.nil, by simp, by simp⟩
  | r :: t, p, h => by
    unfold chkR at h
    by_cases h1 : rowChk r = 0
    rotate_left
    · rw [if_pos h1] at h; exact absurd h h1
    rw [if_neg (by simp [h1])] at h
    have main : ∀ (h : chkR (some (K r)) t = 0), Rise (r :: t) ∧ ∀ x ∈ r :: t, rowChk x = 0 := by
      intro h
      obtain ⟨i1, i2, i3⟩ := chkR_inv (some (K r)) h
      refine ⟨List.Pairwise.cons (i3 _ rfl) i1, fun x hx => ?_⟩
      rcases List.mem_cons.1 hx with rfl | hx
      · exact h1
      · exact i2 x hx
    cases p with
    | none => exact ⟨(main h).1, (main h).2, by simp⟩
    | some k =>
      simp only at h
      split at h
      · cases h
      next h2 =>
      split at h
      · cases h
      next h3 =>
      refine ⟨(main h).1, (main h).2, ?_⟩
      rintro _ ⟨⟩ x hx
      have hk : k < K r := by
        rcases List.le_iff_lt_or_eq.1 (List.not_lt.1 fun e => h3 ((bl_iff _ _).2 e)) with e | e
        · exact e
        · exact absurd e.symm h2
      rcases List.mem_cons.1 hx with rfl | hx
      · exact hk
      · exact List.lt_trans hk ((List.pairwise_cons.1 (main h).1).1 x hx)
theorem checkT_iff (t : List Row) : checkT t = 0 ↔ Ok t := by
  unfold checkT Ok
  constructor
  · intro h
    split at h
    · cases h
    · obtain ⟨h1, h2, _⟩ := chkR_inv none h
      exact ⟨by omega, h1, h2⟩
  · rintro ⟨h1, h2, h3⟩
    rw [if_neg (by omega)]
    exact chkR_rise none h2 h3 (by simp)
theorem rowChk_iff (r : Row) : rowChk r = 0 ↔ descrChk r.1 = 0 ∧ r.2 ≠ 0 := by
  unfold rowChk
  by_cases h : descrChk r.1 = 0
  · simp [h]
  · simp [h]
structure Tb (t : List Row) : Prop where
  ok : Ok t
  rows : Rows t
  few : Few t
theorem Tb.pos {t : List Row} (h : Tb t) : Pos t := fun r hr => by
  have h1 := ((rowChk_iff r).1 (h.ok.2.2 r hr)).2
  have h2 := (h.rows.2 r hr).2
  omega
theorem Tb.rise {t : List Row} (h : Tb t) : Rise t := h.ok.2.1
theorem tb_nil : Tb [] := ⟨⟨by simp, List.Pairwise.nil, by simp⟩, ⟨by simp, by simp⟩, fun r hr => by simp at hr⟩
/-- Rows of descriptors of such tables. -/
theorem tb_of {a b m : List Row} (ha : Tb a) (hb : Tb b) (hl : m.length ≤ 256) (hr : Rise m) (hk : Keys a b m) (hp : Pos m) : Tb m := by
  have src : ∀ r ∈ m, descrChk r.1 = 0 ∧ Ents r.1 ∧ few12 r.1 = true := by
    intro r hr
    obtain ⟨s, hs, e⟩ := hk r hr
    rw [← e]
    rcases hs with hs | hs
    · exact ⟨((rowChk_iff s).1 (ha.ok.2.2 s hs)).1, (ha.rows.2 s hs).1, ha.few s hs⟩
    · exact ⟨((rowChk_iff s).1 (hb.ok.2.2 s hs)).1, (hb.rows.2 s hs).1, hb.few s hs⟩
  refine ⟨⟨hl, hr, fun r hr => (rowChk_iff r).2 ⟨(src r hr).1, by have := hp r hr; omega⟩⟩, ⟨by omega, fun r hr => ⟨(src r hr).2.1, ?_⟩⟩, fun r hr => (src r hr).2.2⟩
  have := hp r hr; omega
/-! ### Both together -/
def tog (a b : List Row) : List Row × Int := match mergeR a b with
  | none => ([], 3)
  | some m => if 256 < m.length then ([], 13) else (m, 0)
structure GoodT (t : List Row) : Prop where
  len : t.length ≤ 300
  few : Few t
  rows : Rows t
theorem Tb.good {t : List Row} (h : Tb t) : GoodT t := ⟨Nat.le_trans h.ok.1 (by decide), h.few, h.rows⟩
theorem together42 (a b : List Row) (ha : GoodT a) (hb : GoodT b) : TT.lim 42 [.l (a.map row), .l (b.map row)] = some [.l ((tog a b).1.map row), .i .i64 (tog a b).2] := by
  have k := loop43 (a.length + b.length) a b [] (Nat.le_refl _) (by have := ha.len; have := hb.len; simp; omega) ha.few hb.few (fun r hr => (ha.rows.2 r hr).2) (fun r hr => (hb.rows.2 r hr).2)
  have hl1 := ha.len
  have hl2 := hb.len
  have hw := wrap64 (n := (a.length : Int) + (b.length : Int)) (by omega) (by omega)
  have hok : (GV.g [.l [], .i .u64 0]).elemOk 2 = true := rfl
  have hc : (0 : Int) ≤ (a.length : Int) + (b.length : Int) ∧ 32 * ((a.length : Int) + (b.length : Int)) ≤ 281474976710656 ∧ (a.length : Int) + (b.length : Int) ≤ 1152921504606846976 := by omega
  unfold tog
  cases hm : mergeR a b with
  | none =>
    rw [hm] at k
    simp only [outM, List.map_nil] at k
    refine fn_lim rfl rfl ?_ rfl
    simp [hw, hok, hc, k]
  | some m =>
    rw [hm] at k
    simp only [outM, List.map_nil, List.nil_append] at k
    by_cases h : 256 < m.length
    · have h' : (256 : Int) < (m.length : Int) := by omega
      refine fn_lim rfl rfl ?_ rfl
      simp [hw, hok, hc, k, h, h']
    · have h' : ¬ (256 : Int) < (m.length : Int) := by omega
      simp only [if_neg h]
      refine fn_lim rfl rfl ?_ rfl
      simp [hw, hok, hc, k, h']
theorem tog_ok {a b : List Row} (ha : Tb a) (hb : Tb b) (h : (tog a b).2 = 0) : Tb (tog a b).1 ∧ ∀ k, val (tog a b).1 k = val a k + val b k := by
  unfold tog at h ⊢
  cases hm : mergeR a b with
  | none => rw [hm] at h; cases h
  | some m =>
    rw [hm] at h
    simp only at h ⊢
    split at h
    · cases h
    next hl =>
    rw [if_neg hl]
    obtain ⟨h1, h2, h3, h4⟩ := merge_some a b ha.rise hb.rise ha.pos hb.pos hm
    exact ⟨tb_of ha hb (Nat.not_lt.1 hl) h1 h3 h4, h2⟩
theorem tog_nil {a b : List Row} (h : (tog a b).2 ≠ 0) : (tog a b).1 = [] := by
  unfold tog at h ⊢
  cases hm : mergeR a b with
  | none => rfl
  | some m =>
    rw [hm] at h
    simp only at h ⊢
    split at h
    · next hl => rw [if_pos hl]
    · exact absurd rfl h
/-- What two ways of adding up come to. -/
theorem tog_val {a b c d : List Row} (ha : Tb a) (hb : Tb b) (hc : Tb c) (hd : Tb d) (h : ∀ k, val a k + val b k = val c k + val d k) : tog a b = tog c d := by
  have key : ∀ {a b c d : List Row}, Tb a → Tb b → Tb c → Tb d → (∀ k, val a k + val b k = val c k + val d k) → mergeR a b = none → ∀ m, mergeR c d = some m → False := by
    intro a b c d ha hb hc hd h h1 m h2
    obtain ⟨k, hk⟩ := merge_none a b ha.rise hb.rise h1
    obtain ⟨_, q2, _, q4⟩ := merge_some c d hc.rise hd.rise hc.pos hd.pos h2
    have := val_nonneg q4 k
    rw [q2, ← h] at this
    omega
  unfold tog
  cases h1 : mergeR a b with
  | none =>
    cases h2 : mergeR c d with
    | none => rfl
    | some m => exact (key ha hb hc hd h h1 m h2).elim
  | some m =>
    cases h2 : mergeR c d with
    | none => exact (key hc hd ha hb (fun k => (h k).symm) h2 m h1).elim
    | some m' =>
      obtain ⟨p1, p2, _, p4⟩ := merge_some a b ha.rise hb.rise ha.pos hb.pos h1
      obtain ⟨q1, q2, _, q4⟩ := merge_some c d hc.rise hd.rise hc.pos hd.pos h2
      rw [val_ext p1 q1 p4 q4 fun k => by rw [p2, q2, h]]
/-! ### Deltas -/
abbrev Dl := Int × Int × List Row
def dl (d : Dl) : GV := .g [.i .u64 d.1, .i .u64 d.2.1, .l (d.2.2.map row)]
@[simp] theorem dl_cells (d : Dl) : (dl d).cells = [.i .u64 d.1, .i .u64 d.2.1, .l (d.2.2.map row)] := rfl
@[simp] theorem dl_scalar (d : Dl) : (dl d).scalar = false := rfl
theorem dl_fold (b e : Int) (t : List Row) : GV.g [.i .u64 b, .i .u64 e, .l (t.map row)] = dl (b, e, t) := rfl
def zD : Dl := (0, 0, [])
def chkD (d : Dl) : Int := if d.2.1 ≤ d.1 then 20 else checkT d.2.2
theorem check41 (d : Dl) (h : GoodT d.2.2) : TT.lim 41 [dl d] = some [.i .i64 (chkD d)] := by
  have k := check37 d.2.2 h.rows h.few
  unfold chkD
  refine fn_lim rfl rfl ?_ rfl
  by_cases h1 : d.2.1 ≤ d.1
  · simp [h1]
  · simp [h1, k]
theorem chkD_ok {d : Dl} (h : chkD d = 0) : d.1 < d.2.1 ∧ Ok d.2.2 := by
  unfold chkD at h
  split at h
  · cases h
  · exact ⟨by omega, (checkT_iff _).1 h⟩
theorem chkD_of {d : Dl} (h1 : d.1 < d.2.1) (h2 : Ok d.2.2) : chkD d = 0 := by
  unfold chkD
  rw [if_neg (by omega)]; exact (checkT_iff _).2 h2
def joinD (x y : Dl) : Dl × Int :=
  if chkD x ≠ 0 then (zD, chkD x) else if chkD y ≠ 0 then (zD, chkD y) else if y.1 ≠ x.2.1 then (zD, 19)
  else if (tog x.2.2 y.2.2).2 ≠ 0 then (zD, (tog x.2.2 y.2.2).2) else ((x.1, y.2.1, (tog x.2.2 y.2.2).1), 0)
theorem join40 (x y : Dl) (hx : GoodT x.2.2) (hy : GoodT y.2.2) : TT.lim 40 [dl x, dl y] = some [dl (joinD x y).1, .i .i64 (joinD x y).2] := by
  have k1 := check41 x hx
  have k2 := check41 y hy
  have k3 := together42 _ _ hx hy
  have e1 : GV.g [.i .u64 x.1, .i .u64 x.2.1, .l (x.2.2.map row)] = dl x := rfl
  have e2 : GV.g [.i .u64 y.1, .i .u64 y.2.1, .l (y.2.2.map row)] = dl y := rfl
  have e3 : GV.g [.i .u64 0, .i .u64 0, .l []] = dl zD := rfl
  have e4 : GV.g [.i .u64 x.1, .i .u64 y.2.1, .l ((tog x.2.2 y.2.2).1.map row)] = dl (x.1, y.2.1, (tog x.2.2 y.2.2).1) := rfl
  unfold joinD
  by_cases h1 : chkD x = 0
  rotate_left
  · refine fn_lim rfl rfl ?_ rfl
    simp [e1, k1, h1, e3]
  by_cases h2 : chkD y = 0
  rotate_left
  · refine fn_lim rfl rfl ?_ rfl
    simp [e1, k1, h1, e2, k2, h2, e3]
  by_cases h3 : y.1 = x.2.1
  rotate_left
  · refine fn_lim rfl rfl ?_ rfl
    simp [e1, k1, h1, e2, k2, h2, e3, h3]
  have h3' : (y.1 = x.2.1) = True := eq_true h3
  clear h3
  by_cases h4 : (tog x.2.2 y.2.2).2 = 0
  rotate_left
  · refine fn_lim rfl rfl ?_ rfl
    simp [e1, k1, h1, e2, k2, h2, e3, h3', k3, h4]
  · refine fn_lim rfl rfl ?_ rfl
    simp [e1, k1, h1, e2, k2, h2, e4, h3', k3, h4]
theorem joinD_ok {x y : Dl} (h : (joinD x y).2 = 0) : chkD x = 0 ∧ chkD y = 0 ∧ y.1 = x.2.1 ∧ (tog x.2.2 y.2.2).2 = 0 ∧ (joinD x y).1 = (x.1, y.2.1, (tog x.2.2 y.2.2).1) := by
  unfold joinD at h ⊢
  split at h
  · next h1 => exact absurd h h1
  next h1 =>
  split at h
  · next h2 => exact absurd h h2
  next h2 =>
  split at h
  · cases h
  next h3 =>
  split at h
  · next h4 => exact absurd h h4
  next h4 =>
  rw [if_neg h1, if_neg h2, if_neg h3, if_neg h4]
  exact ⟨by simpa using h1, by simpa using h2, by simpa using h3, by simpa using h4, rfl⟩
theorem joinD_eq {x y : Dl} (h1 : chkD x = 0) (h2 : chkD y = 0) (h3 : y.1 = x.2.1) : joinD x y = if (tog x.2.2 y.2.2).2 ≠ 0 then (zD, (tog x.2.2 y.2.2).2) else ((x.1, y.2.1, (tog x.2.2 y.2.2).1), 0) := by
  unfold joinD
  rw [if_neg (by simp [h1]), if_neg (by simp [h2]), if_neg (by simp [h3])]
theorem GoodT.tb {t : List Row} (h : GoodT t) (ho : Ok t) : Tb t := ⟨ho, h.rows, h.few⟩
theorem joinD_tb {x y : Dl} (hx : GoodT x.2.2) (hy : GoodT y.2.2) (h : (joinD x y).2 = 0) : Tb (joinD x y).1.2.2 := by
  obtain ⟨h1, h2, h3, h4, h5⟩ := joinD_ok h
  rw [h5]
  exact (tog_ok (hx.tb (chkD_ok h1).2) (hy.tb (chkD_ok h2).2) h4).1
theorem join_assoc {x y z : Dl} (hx : GoodT x.2.2) (hy : GoodT y.2.2) (hz : GoodT z.2.2) (h1 : (joinD x y).2 = 0) (h2 : (joinD y z).2 = 0) : joinD (joinD x y).1 z = joinD x (joinD y z).1 := by
  have t1 := joinD_tb hx hy h1
  have t2 := joinD_tb hy hz h2
  obtain ⟨a1, a2, a3, a4, a5⟩ := joinD_ok h1
  obtain ⟨b1, b2, b3, b4, b5⟩ := joinD_ok h2
  have tx := hx.tb (chkD_ok a1).2
  have ty := hy.tb (chkD_ok a2).2
  have tz := hz.tb (chkD_ok b2).2
  obtain ⟨c1, c2⟩ := tog_ok tx ty a4
  obtain ⟨d1, d2⟩ := tog_ok ty tz b4
  rw [a5, b5]
  have l1 := (chkD_ok a1).1
  have l2 := (chkD_ok a2).1
  have l3 := (chkD_ok b2).1
  have ev : tog (tog x.2.2 y.2.2).1 z.2.2 = tog x.2.2 (tog y.2.2 z.2.2).1 := tog_val c1 tz tx d1 fun k => by rw [c2, d2]; omega
  rw [joinD_eq (chkD_of (by simp only; omega) c1.ok) b2 (by simp only; exact b3), joinD_eq a1 (chkD_of (by simp only; omega) d1.ok) (by simp only; exact a3)]
  simp only [ev]
end C
end Go.Proofs.YtamcdgfjjeldeaaGreatDoor
