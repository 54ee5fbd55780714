/- What the trees compute: plain laws. -/
import Derived.Test.YtckgelanagoenaaGreatDoorKMe4
namespace Go.Proofs.YtckgelanagoenaaGreatDoor
open Go Go.Abs
set_option linter.unusedSimpArgs false
set_option linter.unusedVariables false
set_option maxRecDepth 100000
namespace M
theorem rnames83 : TT.lim 83 [] = some [.l (namesL.map .s)] := by
  refine fn_lim rfl rfl ?_ rfl
  simp [namesL]
def findU (l : List Spc) (n : List UInt8) : Option Int := match l with
  | [] => none
  | s :: l => if s.name = n then some s.use else findU l n
def useFrom : Nat → Int → List UInt8 → Option Int
  | 0, _, _ => none
  | m + 1, k, n => match findU (specsF k) n with
    | some u => some u
    | none => useFrom m (k + 1) n
def useN (n : List UInt8) : Int := match placeOf n with
  | some p => useP p
  | none => -1
theorem use00 (n : List UInt8) (a1 : GV) (l : List Spc) (hlen : l.length ≤ 1000) : ∀ (m i : Nat), i + m = l.length →
    TT.lim 90 [.s n, a1, .l (l.map spc), .i .i64 l.length, .i .i64 i] = some (match findU (l.drop i) n with | some u => [.i .i64 0, .i .i64 u] | none => [.i .i64 1])
  | 0, i, hi => by
    have h0 : l.drop i = [] := List.drop_eq_nil_of_le (by omega)
    refine tree_lim rfl rfl ?_
    have h : ¬ ((i : Int) < l.length) := by omega
    simp [h, h0, findU]
  | m + 1, i, hi => by
    have hlt : i < l.length := by omega
    have ih := use00 n a1 l hlen m (i + 1) (by omega)
    have hcast : ((i : Int) + 1) = ((i + 1 : Nat) : Int) := by omega
    rw [← hcast] at ih
    have h1 : ((i : Int) < l.length) := by omega
    have hw := wrap64 (n := (i : Int) + 1) (by omega) (by omega)
    rw [List.drop_eq_getElem_cons hlt]
    refine tree_lim rfl rfl ?_
    by_cases hc : l[i].name = n
    · simp only [findU, if_pos hc]
      simp [h1, hlt, hc]
    · simp only [findU, if_neg hc]
      simp [h1, hlt, hc, hw, ih]
theorem use0 (n : List UInt8) : ∀ (m : Nat) (k : Int), k + m = 9 → 1 ≤ k →
    TT.lim 89 [.s n, .i .i64 k] = some (match useFrom m k n with | some u => [.i .i64 0, .i .i64 u] | none => [.i .i64 1])
  | 0, k, hk, h1 => by
    have : ¬ k ≤ 8 := by omega
    refine tree_lim rfl rfl ?_
    simp [this, useFrom]
  | m + 1, k, hk, h1 => by
    have h8 : k ≤ 8 := by omega
    have hw := wrap64 (n := k + 1) (by omega) (by omega)
    have hs := rspecs_ok k
    have ih := use0 n m (k + 1) (by omega) (by omega)
    have hu : TT.lim 90 [.s n, .i .i64 k, .l ((specsF k).map spc), .i .i64 (specsF k).length, .i .i64 0] = _ := use00 n (.i .i64 k) (specsF k) (by have := sp_len k; omega) (specsF k).length 0 (by omega)
    rw [List.drop_zero] at hu
    have he : useFrom (m + 1) k n = match findU (specsF k) n with | some u => some u | none => useFrom m (k + 1) n := rfl
    rw [he]
    generalize specsF k = l at *
    cases hf : findU l n with
    | some u =>
      rw [hf] at hu
      refine tree_lim rfl rfl ?_
      simp [h8, hs, hu]
    | none =>
      rw [hf] at hu
      refine tree_lim rfl rfl ?_
      simp [h8, hs, hu, hw, ih]
theorem uf_remaining : useFrom 8 1 n_remaining = some (useP .rem) := by unfold n_remaining; decide
theorem uf_allowed : useFrom 8 1 n_allowed = some (useP .allow) := by unfold n_allowed; decide
theorem uf_name : useFrom 8 1 n_name = some (useP .name) := by unfold n_name; decide
theorem uf_region : useFrom 8 1 n_region = some (useP .region) := by unfold n_region; decide
theorem uf_note : useFrom 8 1 n_note = some (useP .note) := by unfold n_note; decide
theorem uf_descr : useFrom 8 1 n_descr = some (useP .d) := by unfold n_descr; decide
theorem uf_table : useFrom 8 1 n_table = some (useP .t) := by unfold n_table; decide
theorem uf_id : useFrom 8 1 n_id = some (useP (.num 0)) := by unfold n_id; decide
theorem uf_min : useFrom 8 1 n_min = some (useP (.num 1)) := by unfold n_min; decide
theorem uf_max : useFrom 8 1 n_max = some (useP (.num 2)) := by unfold n_max; decide
theorem uf_chosen : useFrom 8 1 n_chosen = some (useP (.num 3)) := by unfold n_chosen; decide
theorem uf_flags : useFrom 8 1 n_flags = some (useP (.num 4)) := by unfold n_flags; decide
theorem uf_cost : useFrom 8 1 n_cost = some (useP (.num 5)) := by unfold n_cost; decide
theorem uf_priority : useFrom 8 1 n_priority = some (useP (.num 6)) := by unfold n_priority; decide
theorem uf_deadline : useFrom 8 1 n_deadline = some (useP (.num 7)) := by unfold n_deadline; decide
theorem uf_retry : useFrom 8 1 n_retry = some (useP (.num 8)) := by unfold n_retry; decide
theorem uf_epoch : useFrom 8 1 n_epoch = some (useP (.num 9)) := by unfold n_epoch; decide
theorem uf_base : useFrom 8 1 n_base = some (useP (.num 10)) := by unfold n_base; decide
theorem uf_digest : useFrom 8 1 n_digest = some (useP (.num 11)) := by unfold n_digest; decide
theorem uf_lag : useFrom 8 1 n_lag = some (useP (.num 12)) := by unfold n_lag; decide
theorem uf_code : useFrom 8 1 n_code = some (useP (.num 13)) := by unfold n_code; decide
theorem uf_want : useFrom 8 1 n_want = some (useP (.num 14)) := by unfold n_want; decide
theorem uf_none (n : List UInt8) (e0 : ¬ n = n_remaining) (e1 : ¬ n = n_allowed) (e2 : ¬ n = n_name) (e3 : ¬ n = n_region) (e4 : ¬ n = n_note) (e5 : ¬ n = n_descr) (e6 : ¬ n = n_table) (e7 : ¬ n = n_id) (e8 : ¬ n = n_min) (e9 : ¬ n = n_max) (e10 : ¬ n = n_chosen) (e11 : ¬ n = n_flags) (e12 : ¬ n = n_cost) (e13 : ¬ n = n_priority) (e14 : ¬ n = n_deadline) (e15 : ¬ n = n_retry) (e16 : ¬ n = n_epoch) (e17 : ¬ n = n_base) (e18 : ¬ n = n_digest) (e19 : ¬ n = n_lag) (e20 : ¬ n = n_code) (e21 : ¬ n = n_want) : useFrom 8 1 n = none := by
  have hh : ∀ k s, s ∈ specsF k → ¬ s.name = n := by
    intro k s hs e
    have h1 := pl_none n e0 e1 e2 e3 e4 e5 e6 e7 e8 e9 e10 e11 e12 e13 e14 e15 e16 e17 e18 e19 e20 e21
    rw [← e] at h1
    have key : ∀ s ∈ specsF k, placeOf s.name ≠ none := by
      unfold specsF
      repeat' split
      all_goals first | (unfold sp1; decide) | (unfold sp2; decide) | (unfold sp3; decide) | (unfold sp4; decide) | (unfold sp5; decide) | (unfold sp6; decide) | (unfold sp7; decide) | (unfold sp8; decide) | (intro s hs; cases hs)
    exact key s hs h1
  have hf : ∀ (l : List Spc), (∀ s ∈ l, ¬ s.name = n) → findU l n = none := by
    intro l
    induction l with
    | nil => intro _; rfl
    | cons s l ih => intro h; simp only [findU]; rw [if_neg (h s (by simp))]; exact ih fun s hs => h s (by simp [hs])
  have hk : ∀ k, findU (specsF k) n = none := fun k => hf _ fun s hs => hh k s hs
  simp only [useFrom, hk]
theorem use_ok (n : List UInt8) : TT.lim 88 [.s n] = some [.i .i64 (useN n)] := by
  have hu : ∀ o, useFrom 8 1 n = o → TT.lim 88 [.s n] = some [.i .i64 (match o with | some u => u | none => -1)] := by
    intro o ho
    have h0 := use0 n 8 1 (by omega) (by omega)
    rw [ho] at h0
    refine fn_lim rfl rfl ?_ rfl
    cases o with
    | some u => simp [h0]
    | none => simp [h0]
  have hv : useFrom 8 1 n = (match placeOf n with | some p => some (useP p) | none => none) := by
    refine by_name (Q := fun n => useFrom 8 1 n = (match placeOf n with | some p => some (useP p) | none => none)) (by rw [pl_remaining]; exact uf_remaining) (by rw [pl_allowed]; exact uf_allowed) (by rw [pl_name]; exact uf_name) (by rw [pl_region]; exact uf_region) (by rw [pl_note]; exact uf_note) (by rw [pl_descr]; exact uf_descr) (by rw [pl_table]; exact uf_table) (by rw [pl_id]; exact uf_id) (by rw [pl_min]; exact uf_min) (by rw [pl_max]; exact uf_max) (by rw [pl_chosen]; exact uf_chosen) (by rw [pl_flags]; exact uf_flags) (by rw [pl_cost]; exact uf_cost) (by rw [pl_priority]; exact uf_priority) (by rw [pl_deadline]; exact uf_deadline) (by rw [pl_retry]; exact uf_retry) (by rw [pl_epoch]; exact uf_epoch) (by rw [pl_base]; exact uf_base) (by rw [pl_digest]; exact uf_digest) (by rw [pl_lag]; exact uf_lag) (by rw [pl_code]; exact uf_code) (by rw [pl_want]; exact uf_want) (fun n e0 e1 e2 e3 e4 e5 e6 e7 e8 e9 e10 e11 e12 e13 e14 e15 e16 e17 e18 e19 e20 e21 => by rw [pl_none n e0 e1 e2 e3 e4 e5 e6 e7 e8 e9 e10 e11 e12 e13 e14 e15 e16 e17 e18 e19 e20 e21]; exact uf_none n e0 e1 e2 e3 e4 e5 e6 e7 e8 e9 e10 e11 e12 e13 e14 e15 e16 e17 e18 e19 e20 e21) n
  have := hu _ hv
  rw [this]
  unfold useN
  cases placeOf n <;> rfl
theorem use_pl {n : List UInt8} {p : Pl} (h : placeOf n = some p) : TT.lim 88 [.s n] = some [.i .i64 (useP p)] := by
  have hu := use_ok n
  unfold useN at hu
  rw [h] at hu
  exact hu
def RVal (b : Bdy) (r : List GV) (n : List UInt8) (p : Pl) : Prop := TT.lim 87 [msgG b r, .s n] = some [.i .u64 (valP b p).1, .s (valP b p).2]
theorem rnum_id (b : Bdy) (r : List GV) : TT.lim 91 [msgG b r, .s n_id] = some [.i .u64 (numB b 0)] := by
  have e : numB b 0 = b.id := rfl
  rw [e]
  unfold n_id
  refine fn_lim rfl rfl ?_ rfl
  simp
theorem rnum_min (b : Bdy) (r : List GV) : TT.lim 91 [msgG b r, .s n_min] = some [.i .u64 (numB b 1)] := by
  have e : numB b 1 = b.min := rfl
  rw [e]
  unfold n_min
  refine fn_lim rfl rfl ?_ rfl
  simp
theorem rnum_max (b : Bdy) (r : List GV) : TT.lim 91 [msgG b r, .s n_max] = some [.i .u64 (numB b 2)] := by
  have e : numB b 2 = b.max := rfl
  rw [e]
  unfold n_max
  refine fn_lim rfl rfl ?_ rfl
  simp
theorem rnum_chosen (b : Bdy) (r : List GV) : TT.lim 91 [msgG b r, .s n_chosen] = some [.i .u64 (numB b 3)] := by
  have e : numB b 3 = b.chosen := rfl
  rw [e]
  unfold n_chosen
  refine fn_lim rfl rfl ?_ rfl
  simp
theorem rnum_flags (b : Bdy) (r : List GV) : TT.lim 91 [msgG b r, .s n_flags] = some [.i .u64 (numB b 4)] := by
  have e : numB b 4 = b.flags := rfl
  rw [e]
  unfold n_flags
  refine fn_lim rfl rfl ?_ rfl
  simp
theorem rnum_cost (b : Bdy) (r : List GV) : TT.lim 91 [msgG b r, .s n_cost] = some [.i .u64 (numB b 5)] := by
  have e : numB b 5 = b.cost := rfl
  rw [e]
  unfold n_cost
  refine fn_lim rfl rfl ?_ rfl
  simp
theorem rnum_priority (b : Bdy) (r : List GV) : TT.lim 91 [msgG b r, .s n_priority] = some [.i .u64 (numB b 6)] := by
  have e : numB b 6 = b.priority := rfl
  rw [e]
  unfold n_priority
  refine fn_lim rfl rfl ?_ rfl
  simp
theorem rnum_deadline (b : Bdy) (r : List GV) : TT.lim 91 [msgG b r, .s n_deadline] = some [.i .u64 (numB b 7)] := by
  have e : numB b 7 = b.deadline := rfl
  rw [e]
  unfold n_deadline
  refine fn_lim rfl rfl ?_ rfl
  simp
theorem rnum_retry (b : Bdy) (r : List GV) : TT.lim 91 [msgG b r, .s n_retry] = some [.i .u64 (numB b 8)] := by
  have e : numB b 8 = b.retry := rfl
  rw [e]
  unfold n_retry
  refine fn_lim rfl rfl ?_ rfl
  simp
theorem rnum_epoch (b : Bdy) (r : List GV) : TT.lim 91 [msgG b r, .s n_epoch] = some [.i .u64 (numB b 9)] := by
  have e : numB b 9 = b.epoch := rfl
  rw [e]
  unfold n_epoch
  refine fn_lim rfl rfl ?_ rfl
  simp
theorem rnum_base (b : Bdy) (r : List GV) : TT.lim 91 [msgG b r, .s n_base] = some [.i .u64 (numB b 10)] := by
  have e : numB b 10 = b.base := rfl
  rw [e]
  unfold n_base
  refine fn_lim rfl rfl ?_ rfl
  simp
theorem rnum_digest (b : Bdy) (r : List GV) : TT.lim 91 [msgG b r, .s n_digest] = some [.i .u64 (numB b 11)] := by
  have e : numB b 11 = b.digest := rfl
  rw [e]
  unfold n_digest
  refine fn_lim rfl rfl ?_ rfl
  simp
theorem rnum_lag (b : Bdy) (r : List GV) : TT.lim 91 [msgG b r, .s n_lag] = some [.i .u64 (numB b 12)] := by
  have e : numB b 12 = b.lag := rfl
  rw [e]
  unfold n_lag
  refine fn_lim rfl rfl ?_ rfl
  simp
theorem rnum_code (b : Bdy) (r : List GV) : TT.lim 91 [msgG b r, .s n_code] = some [.i .u64 (numB b 13)] := by
  have e : numB b 13 = b.code := rfl
  rw [e]
  unfold n_code
  refine fn_lim rfl rfl ?_ rfl
  simp
theorem rnum_want (b : Bdy) (r : List GV) : TT.lim 91 [msgG b r, .s n_want] = some [.i .u64 (numB b 14)] := by
  have e : numB b 14 = b.want := rfl
  rw [e]
  unfold n_want
  refine fn_lim rfl rfl ?_ rfl
  simp
theorem rword_name (b : Bdy) (r : List GV) : TT.lim 92 [msgG b r, .s n_name] = some [.s b.name] := by
  unfold n_name
  refine fn_lim rfl rfl ?_ rfl
  simp
theorem rword_region (b : Bdy) (r : List GV) : TT.lim 92 [msgG b r, .s n_region] = some [.s b.region] := by
  unfold n_region
  refine fn_lim rfl rfl ?_ rfl
  simp
theorem rword_note (b : Bdy) (r : List GV) : TT.lim 92 [msgG b r, .s n_note] = some [.s b.note] := by
  unfold n_note
  refine fn_lim rfl rfl ?_ rfl
  simp
theorem rval_id (b : Bdy) (r : List GV) : RVal b r n_id (.num 0) := by
  have hu := use_pl pl_id
  unfold RVal
  have hn := rnum_id b r
  have hu : TT.lim 88 [.s n_id] = some [.i .i64 0] := hu
  refine fn_lim rfl rfl ?_ rfl
  simp [hu, msgG_fold, hn, valP]
theorem rval_min (b : Bdy) (r : List GV) : RVal b r n_min (.num 1) := by
  have hu := use_pl pl_min
  unfold RVal
  have hn := rnum_min b r
  have hu : TT.lim 88 [.s n_min] = some [.i .i64 0] := hu
  refine fn_lim rfl rfl ?_ rfl
  simp [hu, msgG_fold, hn, valP]
theorem rval_max (b : Bdy) (r : List GV) : RVal b r n_max (.num 2) := by
  have hu := use_pl pl_max
  unfold RVal
  have hn := rnum_max b r
  have hu : TT.lim 88 [.s n_max] = some [.i .i64 0] := hu
  refine fn_lim rfl rfl ?_ rfl
  simp [hu, msgG_fold, hn, valP]
theorem rval_chosen (b : Bdy) (r : List GV) : RVal b r n_chosen (.num 3) := by
  have hu := use_pl pl_chosen
  unfold RVal
  have hn := rnum_chosen b r
  have hu : TT.lim 88 [.s n_chosen] = some [.i .i64 0] := hu
  refine fn_lim rfl rfl ?_ rfl
  simp [hu, msgG_fold, hn, valP]
theorem rval_flags (b : Bdy) (r : List GV) : RVal b r n_flags (.num 4) := by
  have hu := use_pl pl_flags
  unfold RVal
  have hn := rnum_flags b r
  have hu : TT.lim 88 [.s n_flags] = some [.i .i64 0] := hu
  refine fn_lim rfl rfl ?_ rfl
  simp [hu, msgG_fold, hn, valP]
theorem rval_cost (b : Bdy) (r : List GV) : RVal b r n_cost (.num 5) := by
  have hu := use_pl pl_cost
  unfold RVal
  have hn := rnum_cost b r
  have hu : TT.lim 88 [.s n_cost] = some [.i .i64 0] := hu
  refine fn_lim rfl rfl ?_ rfl
  simp [hu, msgG_fold, hn, valP]
theorem rval_priority (b : Bdy) (r : List GV) : RVal b r n_priority (.num 6) := by
  have hu := use_pl pl_priority
  unfold RVal
  have hn := rnum_priority b r
  have hu : TT.lim 88 [.s n_priority] = some [.i .i64 0] := hu
  refine fn_lim rfl rfl ?_ rfl
  simp [hu, msgG_fold, hn, valP]
theorem rval_deadline (b : Bdy) (r : List GV) : RVal b r n_deadline (.num 7) := by
  have hu := use_pl pl_deadline
  unfold RVal
  have hn := rnum_deadline b r
  have hu : TT.lim 88 [.s n_deadline] = some [.i .i64 0] := hu
  refine fn_lim rfl rfl ?_ rfl
  simp [hu, msgG_fold, hn, valP]
theorem rval_retry (b : Bdy) (r : List GV) : RVal b r n_retry (.num 8) := by
  have hu := use_pl pl_retry
  unfold RVal
  have hn := rnum_retry b r
  have hu : TT.lim 88 [.s n_retry] = some [.i .i64 0] := hu
  refine fn_lim rfl rfl ?_ rfl
  simp [hu, msgG_fold, hn, valP]
theorem rval_epoch (b : Bdy) (r : List GV) : RVal b r n_epoch (.num 9) := by
  have hu := use_pl pl_epoch
  unfold RVal
  have hn := rnum_epoch b r
  have hu : TT.lim 88 [.s n_epoch] = some [.i .i64 0] := hu
  refine fn_lim rfl rfl ?_ rfl
  simp [hu, msgG_fold, hn, valP]
theorem rval_base (b : Bdy) (r : List GV) : RVal b r n_base (.num 10) := by
  have hu := use_pl pl_base
  unfold RVal
  have hn := rnum_base b r
  have hu : TT.lim 88 [.s n_base] = some [.i .i64 0] := hu
  refine fn_lim rfl rfl ?_ rfl
  simp [hu, msgG_fold, hn, valP]
theorem rval_digest (b : Bdy) (r : List GV) : RVal b r n_digest (.num 11) := by
  have hu := use_pl pl_digest
  unfold RVal
  have hn := rnum_digest b r
  have hu : TT.lim 88 [.s n_digest] = some [.i .i64 0] := hu
  refine fn_lim rfl rfl ?_ rfl
  simp [hu, msgG_fold, hn, valP]
theorem rval_lag (b : Bdy) (r : List GV) : RVal b r n_lag (.num 12) := by
  have hu := use_pl pl_lag
  unfold RVal
  have hn := rnum_lag b r
  have hu : TT.lim 88 [.s n_lag] = some [.i .i64 0] := hu
  refine fn_lim rfl rfl ?_ rfl
  simp [hu, msgG_fold, hn, valP]
theorem rval_code (b : Bdy) (r : List GV) : RVal b r n_code (.num 13) := by
  have hu := use_pl pl_code
  unfold RVal
  have hn := rnum_code b r
  have hu : TT.lim 88 [.s n_code] = some [.i .i64 0] := hu
  refine fn_lim rfl rfl ?_ rfl
  simp [hu, msgG_fold, hn, valP]
theorem rval_want (b : Bdy) (r : List GV) : RVal b r n_want (.num 14) := by
  have hu := use_pl pl_want
  unfold RVal
  have hn := rnum_want b r
  have hu : TT.lim 88 [.s n_want] = some [.i .i64 0] := hu
  refine fn_lim rfl rfl ?_ rfl
  simp [hu, msgG_fold, hn, valP]
theorem rval_allowed (b : Bdy) (r : List GV) : RVal b r n_allowed .allow := by
  have hu := use_pl pl_allowed
  unfold RVal
  have hu : TT.lim 88 [.s n_allowed] = some [.i .i64 1] := hu
  refine fn_lim rfl rfl ?_ rfl
  cases hc : b.allowed <;> simp [hu, valP, hc]
theorem rval_remaining (b : Bdy) (r : List GV) (hb : BdyOk b) : RVal b r n_remaining .rem := by
  have hu := use_pl pl_remaining
  unfold RVal
  have hu : TT.lim 88 [.s n_remaining] = some [.i .i64 2] := hu
  have hx := hb.remaining
  refine fn_lim rfl rfl ?_ rfl
  by_cases hc : 0 ≤ b.remaining
  · have w1 := wrapu64 (n := b.remaining) (by omega) (by omega)
    have w2 := wrapu64 (n := 2 * b.remaining) (by omega) (by omega)
    simp [hu, valP, zz, hc, w1, w2]
  · have w0 := wrap64 (n := b.remaining + 1) (by omega) (by omega)
    have w00 := wrap64 (n := 0 - (b.remaining + 1)) (by omega) (by omega)
    have w1 := wrapu64 (n := 0 - (b.remaining + 1)) (by omega) (by omega)
    have w2 := wrapu64 (n := 0 - (b.remaining + 1) + 1) (by omega) (by omega)
    have w3 := wrapu64 (n := 0 - (b.remaining + 1) + 1 - 1) (by omega) (by omega)
    have w4 := wrapu64 (n := 2 * (0 - (b.remaining + 1) + 1 - 1)) (by omega) (by omega)
    have w5 := wrapu64 (n := 2 * (0 - (b.remaining + 1) + 1 - 1) + 1) (by omega) (by omega)
    have e : 2 * (0 - (b.remaining + 1) + 1 - 1) + 1 = -2 * b.remaining - 1 := by omega
    have hz : zz b.remaining = 2 * (0 - (b.remaining + 1) + 1 - 1) + 1 := by unfold zz; rw [if_neg hc, e]
    have hv : valP b .rem = (zz b.remaining, []) := rfl
    rw [hv, hz]
    simp only [Nat.reduceAdd] at *
    simp [-Int.add_sub_cancel, -Int.zero_sub, hu, hc, w0, w00, w1, w2, w3, w4, w5]
theorem rval_name (b : Bdy) (r : List GV) : RVal b r n_name .name := by
  have hu := use_pl pl_name
  unfold RVal
  have hn := rword_name b r
  have hu : TT.lim 88 [.s n_name] = some [.i .i64 3] := hu
  refine fn_lim rfl rfl ?_ rfl
  simp [hu, msgG_fold, hn, valP]
theorem rval_region (b : Bdy) (r : List GV) : RVal b r n_region .region := by
  have hu := use_pl pl_region
  unfold RVal
  have hn := rword_region b r
  have hu : TT.lim 88 [.s n_region] = some [.i .i64 3] := hu
  refine fn_lim rfl rfl ?_ rfl
  simp [hu, msgG_fold, hn, valP]
theorem rval_note (b : Bdy) (r : List GV) : RVal b r n_note .note := by
  have hu := use_pl pl_note
  unfold RVal
  have hn := rword_note b r
  have hu : TT.lim 88 [.s n_note] = some [.i .i64 3] := hu
  refine fn_lim rfl rfl ?_ rfl
  simp [hu, msgG_fold, hn, valP]
theorem rval_descr (b : Bdy) (r : List GV) (hf : few12 b.d = true) : RVal b r n_descr .d := by
  have hu := use_pl pl_descr
  unfold RVal
  have hu : TT.lim 88 [.s n_descr] = some [.i .i64 4] := hu
  have hk := key74 b.d hf
  refine fn_lim rfl rfl ?_ rfl
  by_cases e : b.d = []
  · simp [hu, valP, e]
  · simp [hu, valP, e, hk]
theorem rval_table (b : Bdy) (r : List GV) (hb : BdyOk b) (hf : Few b.t) : RVal b r n_table .t := by
  have hu := use_pl pl_table
  unfold RVal
  have hu : TT.lim 88 [.s n_table] = some [.i .i64 5] := hu
  have hk := rkputP b.t hb.t hf
  refine fn_lim rfl rfl ?_ rfl
  by_cases e : b.t = []
  · simp [hu, valP, e]
  · simp [hu, valP, e, hk]
theorem noth_n (x : Int) : decide (x = 0) = (decide (x = 0) && decide (([] : List UInt8) = [])) := by simp
theorem noth_t (x : List UInt8) : decide (x = []) = (decide ((0 : Int) = 0) && decide (x = [])) := by simp
theorem rnot_of (b : Bdy) (r : List GV) {n : List UInt8} {c : Bool} {x : Int × List UInt8} (d1 : ¬ n = [100, 101, 115, 99, 114]) (d2 : ¬ n = [116, 97, 98, 108, 101]) (hv : TT.lim 87 [msgG b r, .s n] = some [.i .u64 x.1, .s x.2]) (en : c = (decide (x.1 = 0) && decide (x.2 = []))) : TT.lim 86 [msgG b r, .s n] = some [.b c] := by
  rw [en]
  refine fn_lim rfl rfl ?_ rfl
  by_cases c1 : x.1 = 0
  · simp [d1, d2, msgG_fold, hv, c1]
  · simp [d1, d2, msgG_fold, hv, c1]
theorem rnot_remaining (b : Bdy) (r : List GV) (hb : BdyOk b) : TT.lim 86 [msgG b r, .s n_remaining] = some [.b (nothP b .rem)] := rnot_of b r (by decide) (by decide) (rval_remaining b r hb) (by
  rw [Bool.eq_iff_iff]
  simp only [nothP, valP, zz]
  by_cases hc : 0 ≤ b.remaining
  · simp [hc]
    omega
  · simp [hc]
    omega)
theorem rnot_allowed (b : Bdy) (r : List GV) : TT.lim 86 [msgG b r, .s n_allowed] = some [.b (nothP b .allow)] := rnot_of b r (by decide) (by decide) (rval_allowed b r ) (by
  rw [Bool.eq_iff_iff]
  by_cases hc : b.allowed = true <;> simp [nothP, valP, hc])
theorem rnot_name (b : Bdy) (r : List GV) : TT.lim 86 [msgG b r, .s n_name] = some [.b (nothP b .name)] := rnot_of b r (by decide) (by decide) (rval_name b r ) (noth_t b.name)
theorem rnot_region (b : Bdy) (r : List GV) : TT.lim 86 [msgG b r, .s n_region] = some [.b (nothP b .region)] := rnot_of b r (by decide) (by decide) (rval_region b r ) (noth_t b.region)
theorem rnot_note (b : Bdy) (r : List GV) : TT.lim 86 [msgG b r, .s n_note] = some [.b (nothP b .note)] := rnot_of b r (by decide) (by decide) (rval_note b r ) (noth_t b.note)
theorem rnot_descr (b : Bdy) (r : List GV) : TT.lim 86 [msgG b r, .s n_descr] = some [.b (nothP b .d)] := by
  have e : nothP b .d = decide (b.d = []) := rfl
  rw [e]
  unfold n_descr
  refine fn_lim rfl rfl ?_ rfl
  by_cases hc : b.d = [] <;> simp [hc]
theorem rnot_table (b : Bdy) (r : List GV) : TT.lim 86 [msgG b r, .s n_table] = some [.b (nothP b .t)] := by
  have e : nothP b .t = decide (b.t = []) := rfl
  rw [e]
  unfold n_table
  refine fn_lim rfl rfl ?_ rfl
  by_cases hc : b.t = [] <;> simp [hc]
theorem rnot_id (b : Bdy) (r : List GV) : TT.lim 86 [msgG b r, .s n_id] = some [.b (nothP b (.num 0))] := rnot_of b r (by decide) (by decide) (rval_id b r ) (noth_n (numB b 0))
theorem rnot_min (b : Bdy) (r : List GV) : TT.lim 86 [msgG b r, .s n_min] = some [.b (nothP b (.num 1))] := rnot_of b r (by decide) (by decide) (rval_min b r ) (noth_n (numB b 1))
theorem rnot_max (b : Bdy) (r : List GV) : TT.lim 86 [msgG b r, .s n_max] = some [.b (nothP b (.num 2))] := rnot_of b r (by decide) (by decide) (rval_max b r ) (noth_n (numB b 2))
theorem rnot_chosen (b : Bdy) (r : List GV) : TT.lim 86 [msgG b r, .s n_chosen] = some [.b (nothP b (.num 3))] := rnot_of b r (by decide) (by decide) (rval_chosen b r ) (noth_n (numB b 3))
theorem rnot_flags (b : Bdy) (r : List GV) : TT.lim 86 [msgG b r, .s n_flags] = some [.b (nothP b (.num 4))] := rnot_of b r (by decide) (by decide) (rval_flags b r ) (noth_n (numB b 4))
theorem rnot_cost (b : Bdy) (r : List GV) : TT.lim 86 [msgG b r, .s n_cost] = some [.b (nothP b (.num 5))] := rnot_of b r (by decide) (by decide) (rval_cost b r ) (noth_n (numB b 5))
theorem rnot_priority (b : Bdy) (r : List GV) : TT.lim 86 [msgG b r, .s n_priority] = some [.b (nothP b (.num 6))] := rnot_of b r (by decide) (by decide) (rval_priority b r ) (noth_n (numB b 6))
theorem rnot_deadline (b : Bdy) (r : List GV) : TT.lim 86 [msgG b r, .s n_deadline] = some [.b (nothP b (.num 7))] := rnot_of b r (by decide) (by decide) (rval_deadline b r ) (noth_n (numB b 7))
theorem rnot_retry (b : Bdy) (r : List GV) : TT.lim 86 [msgG b r, .s n_retry] = some [.b (nothP b (.num 8))] := rnot_of b r (by decide) (by decide) (rval_retry b r ) (noth_n (numB b 8))
theorem rnot_epoch (b : Bdy) (r : List GV) : TT.lim 86 [msgG b r, .s n_epoch] = some [.b (nothP b (.num 9))] := rnot_of b r (by decide) (by decide) (rval_epoch b r ) (noth_n (numB b 9))
theorem rnot_base (b : Bdy) (r : List GV) : TT.lim 86 [msgG b r, .s n_base] = some [.b (nothP b (.num 10))] := rnot_of b r (by decide) (by decide) (rval_base b r ) (noth_n (numB b 10))
theorem rnot_digest (b : Bdy) (r : List GV) : TT.lim 86 [msgG b r, .s n_digest] = some [.b (nothP b (.num 11))] := rnot_of b r (by decide) (by decide) (rval_digest b r ) (noth_n (numB b 11))
theorem rnot_lag (b : Bdy) (r : List GV) : TT.lim 86 [msgG b r, .s n_lag] = some [.b (nothP b (.num 12))] := rnot_of b r (by decide) (by decide) (rval_lag b r ) (noth_n (numB b 12))
theorem rnot_code (b : Bdy) (r : List GV) : TT.lim 86 [msgG b r, .s n_code] = some [.b (nothP b (.num 13))] := rnot_of b r (by decide) (by decide) (rval_code b r ) (noth_n (numB b 13))
theorem rnot_want (b : Bdy) (r : List GV) : TT.lim 86 [msgG b r, .s n_want] = some [.b (nothP b (.num 14))] := rnot_of b r (by decide) (by decide) (rval_want b r ) (noth_n (numB b 14))
theorem rnot_all (b : Bdy) (r : List GV) (hb : BdyOk b) (n : List UInt8) : placeOf n ≠ none → TT.lim 86 [msgG b r, .s n] = some [.b (nothB b n)] := by
  refine by_name (Q := fun n => placeOf n ≠ none → TT.lim 86 [msgG b r, .s n] = some [.b (nothB b n)]) (fun _ => by unfold nothB; rw [pl_remaining]; exact rnot_remaining b r hb) (fun _ => by unfold nothB; rw [pl_allowed]; exact rnot_allowed b r ) (fun _ => by unfold nothB; rw [pl_name]; exact rnot_name b r ) (fun _ => by unfold nothB; rw [pl_region]; exact rnot_region b r ) (fun _ => by unfold nothB; rw [pl_note]; exact rnot_note b r ) (fun _ => by unfold nothB; rw [pl_descr]; exact rnot_descr b r ) (fun _ => by unfold nothB; rw [pl_table]; exact rnot_table b r ) (fun _ => by unfold nothB; rw [pl_id]; exact rnot_id b r ) (fun _ => by unfold nothB; rw [pl_min]; exact rnot_min b r ) (fun _ => by unfold nothB; rw [pl_max]; exact rnot_max b r ) (fun _ => by unfold nothB; rw [pl_chosen]; exact rnot_chosen b r ) (fun _ => by unfold nothB; rw [pl_flags]; exact rnot_flags b r ) (fun _ => by unfold nothB; rw [pl_cost]; exact rnot_cost b r ) (fun _ => by unfold nothB; rw [pl_priority]; exact rnot_priority b r ) (fun _ => by unfold nothB; rw [pl_deadline]; exact rnot_deadline b r ) (fun _ => by unfold nothB; rw [pl_retry]; exact rnot_retry b r ) (fun _ => by unfold nothB; rw [pl_epoch]; exact rnot_epoch b r ) (fun _ => by unfold nothB; rw [pl_base]; exact rnot_base b r ) (fun _ => by unfold nothB; rw [pl_digest]; exact rnot_digest b r ) (fun _ => by unfold nothB; rw [pl_lag]; exact rnot_lag b r ) (fun _ => by unfold nothB; rw [pl_code]; exact rnot_code b r ) (fun _ => by unfold nothB; rw [pl_want]; exact rnot_want b r ) (fun n e0 e1 e2 e3 e4 e5 e6 e7 e8 e9 e10 e11 e12 e13 e14 e15 e16 e17 e18 e19 e20 e21 h => absurd (pl_none n e0 e1 e2 e3 e4 e5 e6 e7 e8 e9 e10 e11 e12 e13 e14 e15 e16 e17 e18 e19 e20 e21) h) n
theorem rchk00 (b : Bdy) (r : List GV) (n : List UInt8) (a3 a4 a5 : GV) (l : List Spc) (hlen : l.length ≤ 1000) : ∀ (m i : Nat) (is : Bool), i + m = l.length →
    TT.lim 85 [.l (l.map spc), .s n, .b is, a3, a4, a5, .i .i64 l.length, .i .i64 i, .i .i64 b.kind, .i .u64 b.id, .i .u64 b.min, .i .u64 b.max, .i .u64 b.chosen, .i .u64 b.flags, .i .u64 b.cost, .i .u64 b.priority, .i .u64 b.deadline, .i .u64 b.retry, .i .u64 b.epoch, .i .u64 b.base, .i .u64 b.digest, .i .u64 b.lag, .i .u64 b.code, .i .u64 b.want, .i .i64 b.remaining, .b b.allowed, .s b.name, .s b.region, .s b.note, .l (b.d.map ent), .l (b.t.map row), .l r] = some [.i .i64 0, .b (is || hasN (l.drop i) n)]
  | 0, i, is, hi => by
    have h0 : l.drop i = [] := List.drop_eq_nil_of_le (by omega)
    refine tree_lim rfl rfl ?_
    have h : ¬ ((i : Int) < l.length) := by omega
    simp [h, h0, hasN]
  | m + 1, i, is, hi => by
    have hlt : i < l.length := by omega
    have hcast : ((i : Int) + 1) = ((i + 1 : Nat) : Int) := by omega
    have ih := fun is => rchk00 b r n a3 a4 a5 l hlen m (i + 1) is (by omega)
    simp only [← hcast] at ih
    have h1 : ((i : Int) < l.length) := by omega
    have hw := wrap64 (n := (i : Int) + 1) (by omega) (by omega)
    have hd : hasN (l.drop i) n = (decide (l[i].name = n) || hasN (l.drop (i + 1)) n) := by rw [List.drop_eq_getElem_cons hlt]; rfl
    rw [hd]
    generalize hasN (l.drop (i + 1)) n = X at *
    refine tree_lim rfl rfl ?_
    cases is with
    | true => simp [h1, hlt, hw, ih]
    | false => simp [h1, hlt, hw, ih]
theorem rchk0 (b : Bdy) (r : List GV) (hb : BdyOk b) (l : List Spc) (hlen : l.length ≤ 1000) (ns : List (List UInt8)) (hn : ns.length ≤ 1000) (hns : ∀ n ∈ ns, placeOf n ≠ none) : ∀ (m i : Nat), i + m = ns.length →
    TT.lim 84 [.l (l.map spc), .l (ns.map .s), .i .i64 ns.length, .i .i64 i, .i .i64 b.kind, .i .u64 b.id, .i .u64 b.min, .i .u64 b.max, .i .u64 b.chosen, .i .u64 b.flags, .i .u64 b.cost, .i .u64 b.priority, .i .u64 b.deadline, .i .u64 b.retry, .i .u64 b.epoch, .i .u64 b.base, .i .u64 b.digest, .i .u64 b.lag, .i .u64 b.code, .i .u64 b.want, .i .i64 b.remaining, .b b.allowed, .s b.name, .s b.region, .s b.note, .l (b.d.map ent), .l (b.t.map row), .l r] = some (if (ns.drop i).all (fun n => hasN l n || nothB b n) = true then [.i .i64 1] else [.i .i64 0])
  | 0, i, hi => by
    have h0 : ns.drop i = [] := List.drop_eq_nil_of_le (by omega)
    refine tree_lim rfl rfl ?_
    have h : ¬ ((i : Int) < ns.length) := by omega
    simp [h, h0]
  | m + 1, i, hi => by
    have hlt : i < ns.length := by omega
    have ih := rchk0 b r hb l hlen ns hn hns m (i + 1) (by omega)
    have hcast : ((i : Int) + 1) = ((i + 1 : Nat) : Int) := by omega
    rw [← hcast] at ih
    have h1 : ((i : Int) < ns.length) := by omega
    have hw := wrap64 (n := (i : Int) + 1) (by omega) (by omega)
    have hd : (ns.drop i).all (fun n => hasN l n || nothB b n) = ((hasN l ns[i] || nothB b ns[i]) && (ns.drop (i + 1)).all (fun n => hasN l n || nothB b n)) := by rw [List.drop_eq_getElem_cons hlt, List.all_cons]
    rw [hd]
    have hN := rnot_all b r hb ns[i] (hns _ (List.getElem_mem hlt))
    have h0 : TT.lim 85 [.l (l.map spc), .s ns[i], .b false, .l (ns.map .s), .i .i64 ns.length, .i .i64 i, .i .i64 l.length, .i .i64 0, .i .i64 b.kind, .i .u64 b.id, .i .u64 b.min, .i .u64 b.max, .i .u64 b.chosen, .i .u64 b.flags, .i .u64 b.cost, .i .u64 b.priority, .i .u64 b.deadline, .i .u64 b.retry, .i .u64 b.epoch, .i .u64 b.base, .i .u64 b.digest, .i .u64 b.lag, .i .u64 b.code, .i .u64 b.want, .i .i64 b.remaining, .b b.allowed, .s b.name, .s b.region, .s b.note, .l (b.d.map ent), .l (b.t.map row), .l r] = _ := rchk00 b r ns[i] (.l (ns.map .s)) (.i .i64 ns.length) (.i .i64 i) l hlen l.length 0 false (by omega)
    rw [List.drop_zero, Bool.false_or] at h0
    generalize (ns.drop (i + 1)).all (fun n => hasN l n || nothB b n) = X at *
    generalize hasN l ns[i] = A at *
    generalize nothB b ns[i] = B at *
    refine tree_lim rfl rfl ?_
    cases A with
    | true => simp [h1, hlt, hw, h0, ih]
    | false =>
      cases B with
      | true => simp [h1, hlt, hw, h0, msgG_fold, hN, ih]
      | false => simp [h1, hlt, hw, h0, msgG_fold, hN]
def RStep (b : Bdy) (r : List GV) (s : Spc) : Prop := ∀ (l : List Spc) (i : Nat) (out : List GV), (h : i < l.length) → l[i] = s → l.length ≤ 1000 →
    TT.lim 120 [.l (l.map spc), .i .i64 l.length, .i .i64 ((i : Int) + 1), .i .i64 b.kind, .i .u64 b.id, .i .u64 b.min, .i .u64 b.max, .i .u64 b.chosen, .i .u64 b.flags, .i .u64 b.cost, .i .u64 b.priority, .i .u64 b.deadline, .i .u64 b.retry, .i .u64 b.epoch, .i .u64 b.base, .i .u64 b.digest, .i .u64 b.lag, .i .u64 b.code, .i .u64 b.want, .i .i64 b.remaining, .b b.allowed, .s b.name, .s b.region, .s b.note, .l (b.d.map ent), .l (b.t.map row), .l r] = some out →
    TT.lim 120 [.l (l.map spc), .i .i64 l.length, .i .i64 i, .i .i64 b.kind, .i .u64 b.id, .i .u64 b.min, .i .u64 b.max, .i .u64 b.chosen, .i .u64 b.flags, .i .u64 b.cost, .i .u64 b.priority, .i .u64 b.deadline, .i .u64 b.retry, .i .u64 b.epoch, .i .u64 b.base, .i .u64 b.digest, .i .u64 b.lag, .i .u64 b.code, .i .u64 b.want, .i .i64 b.remaining, .b b.allowed, .s b.name, .s b.region, .s b.note, .l (b.d.map ent), .l (b.t.map row), .l r] = some (if mayB b s.name = 0 then out else [.i .i64 0, .i .i64 (mayB b s.name)])
theorem rst_other (b : Bdy) (r : List GV) (s : Spc) (u3 : s.use ≠ 3) (u4 : s.use ≠ 4) (u5 : s.use ≠ 5) (hm : mayB b s.name = 0) : RStep b r s := by
  intro l i out h hs hlen ih
  have h1 : ((i : Int) < l.length) := by omega
  have hw := wrap64 (n := (i : Int) + 1) (by omega) (by omega)
  rw [if_pos hm]
  refine tree_lim rfl rfl ?_
  simp [h1, h, hs, hw, u3, u4, u5, ih]
theorem rst_name (b : Bdy) (r : List GV) (hb : BdyOk b) (s : Spc) (hu : s.use = 3) (hn : s.name = n_name) : RStep b r s := by
  intro l i out h hs hlen ih
  have h1 : ((i : Int) < l.length) := by omega
  have hw := wrap64 (n := (i : Int) + 1) (by omega) (by omega)
  have hm : mayB b s.name = utfChk b.name 0 256 := by rw [hn]; unfold mayB; rw [pl_name]; rfl
  have hr := rword_name b r
  have hc := check65 b.name 0 256 hb.name
  rw [hm]
  generalize utfChk b.name 0 256 = c at *
  rw [← hn] at hr
  by_cases e : c = 0
  · subst e
    rw [if_pos rfl]
    refine tree_lim rfl rfl ?_
    simp [h1, h, hs, hw, hu, msgG_fold, hr, hc, ih]
  · rw [if_neg e]
    refine tree_lim rfl rfl ?_
    simp [h1, h, hs, hw, hu, msgG_fold, hr, hc, e]
theorem rst_region (b : Bdy) (r : List GV) (hb : BdyOk b) (s : Spc) (hu : s.use = 3) (hn : s.name = n_region) : RStep b r s := by
  intro l i out h hs hlen ih
  have h1 : ((i : Int) < l.length) := by omega
  have hw := wrap64 (n := (i : Int) + 1) (by omega) (by omega)
  have hm : mayB b s.name = utfChk b.region 0 256 := by rw [hn]; unfold mayB; rw [pl_region]; rfl
  have hr := rword_region b r
  have hc := check65 b.region 0 256 hb.region
  rw [hm]
  generalize utfChk b.region 0 256 = c at *
  rw [← hn] at hr
  by_cases e : c = 0
  · subst e
    rw [if_pos rfl]
    refine tree_lim rfl rfl ?_
    simp [h1, h, hs, hw, hu, msgG_fold, hr, hc, ih]
  · rw [if_neg e]
    refine tree_lim rfl rfl ?_
    simp [h1, h, hs, hw, hu, msgG_fold, hr, hc, e]
theorem rst_note (b : Bdy) (r : List GV) (hb : BdyOk b) (s : Spc) (hu : s.use = 3) (hn : s.name = n_note) : RStep b r s := by
  intro l i out h hs hlen ih
  have h1 : ((i : Int) < l.length) := by omega
  have hw := wrap64 (n := (i : Int) + 1) (by omega) (by omega)
  have hm : mayB b s.name = utfChk b.note 0 256 := by rw [hn]; unfold mayB; rw [pl_note]; rfl
  have hr := rword_note b r
  have hc := check65 b.note 0 256 hb.note
  rw [hm]
  generalize utfChk b.note 0 256 = c at *
  rw [← hn] at hr
  by_cases e : c = 0
  · subst e
    rw [if_pos rfl]
    refine tree_lim rfl rfl ?_
    simp [h1, h, hs, hw, hu, msgG_fold, hr, hc, ih]
  · rw [if_neg e]
    refine tree_lim rfl rfl ?_
    simp [h1, h, hs, hw, hu, msgG_fold, hr, hc, e]
theorem rst_descr (b : Bdy) (r : List GV) (hb : BdyOk b) (s : Spc) (hu : s.use = 4) (hn : s.name = n_descr) : RStep b r s := by
  intro l i out h hs hlen ih
  have h1 : ((i : Int) < l.length) := by omega
  have hw := wrap64 (n := (i : Int) + 1) (by omega) (by omega)
  have hm : mayB b s.name = if b.d = [] then 0 else descrChk b.d := by rw [hn]; unfold mayB; rw [pl_descr]; rfl
  have hc := check62 b.d hb.d
  rw [hm]
  by_cases hd : b.d = []
  · rw [if_pos (by rw [if_pos hd])]
    have hd' : (b.d = []) = True := eq_true hd
    have hd2 : (0 < b.d.length) = False := eq_false (by rw [hd]; simp)
    refine tree_lim rfl rfl ?_
    simp [h1, h, hs, hw, hu, hd2, ih]
  · rw [if_neg hd]
    have hd0 : 0 < b.d.length := List.length_pos_iff.2 hd
    generalize descrChk b.d = c at *
    by_cases e : c = 0
    · subst e
      rw [if_pos rfl]
      refine tree_lim rfl rfl ?_
      simp [h1, h, hs, hw, hu, hd, hc, ih]
    · rw [if_neg e]
      refine tree_lim rfl rfl ?_
      simp [h1, h, hs, hw, hu, hd, hc, e]
theorem rst_table (b : Bdy) (r : List GV) (hb : BdyOk b) (hf : Few b.t) (s : Spc) (hu : s.use = 5) (hn : s.name = n_table) : RStep b r s := by
  intro l i out h hs hlen ih
  have h1 : ((i : Int) < l.length) := by omega
  have hw := wrap64 (n := (i : Int) + 1) (by omega) (by omega)
  have hm : mayB b s.name = checkT b.t := by rw [hn]; unfold mayB; rw [pl_table]; rfl
  have hc := check59 b.t hb.t hf
  rw [hm]
  generalize checkT b.t = c at *
  by_cases e : c = 0
  · subst e
    rw [if_pos rfl]
    refine tree_lim rfl rfl ?_
    simp [h1, h, hs, hw, hu, hc, ih]
  · rw [if_neg e]
    refine tree_lim rfl rfl ?_
    simp [h1, h, hs, hw, hu, hc, e]
theorem rst_o (b : Bdy) (r : List GV) (s : Spc) {n : List UInt8} {p : Pl} (h : placeOf n = some p) (e : useP p < 3) (m : mayP b p = 0) (_ : placeOf n ≠ none) (hn : s.name = n) (hu : s.use = useN n) : RStep b r s := by
  have e2 : s.use < 3 := by rw [hu]; unfold useN; rw [h]; exact e
  exact rst_other b r s (by omega) (by omega) (by omega) (by rw [hn]; unfold mayB; rw [h]; exact m)
theorem rst_all (b : Bdy) (r : List GV) (hb : BdyOk b) (hf : Few b.t) (s : Spc) (hp : placeOf s.name ≠ none) (hu : s.use = useN s.name) : RStep b r s := by
  have key : ∀ n, placeOf n ≠ none → s.name = n → s.use = useN n → RStep b r s := by
    intro n
    refine by_name (Q := fun n => placeOf n ≠ none → s.name = n → s.use = useN n → RStep b r s) (rst_o b r s pl_remaining (by decide) rfl) (rst_o b r s pl_allowed (by decide) rfl) (fun _ hn hu => rst_name b r hb s (hu.trans (by unfold useN; rw [pl_name]; rfl)) hn) (fun _ hn hu => rst_region b r hb s (hu.trans (by unfold useN; rw [pl_region]; rfl)) hn) (fun _ hn hu => rst_note b r hb s (hu.trans (by unfold useN; rw [pl_note]; rfl)) hn) (fun _ hn hu => rst_descr b r hb s (hu.trans (by unfold useN; rw [pl_descr]; rfl)) hn) (fun _ hn hu => rst_table b r hb hf s (hu.trans (by unfold useN; rw [pl_table]; rfl)) hn) (rst_o b r s pl_id (by decide) rfl) (rst_o b r s pl_min (by decide) rfl) (rst_o b r s pl_max (by decide) rfl) (rst_o b r s pl_chosen (by decide) rfl) (rst_o b r s pl_flags (by decide) rfl) (rst_o b r s pl_cost (by decide) rfl) (rst_o b r s pl_priority (by decide) rfl) (rst_o b r s pl_deadline (by decide) rfl) (rst_o b r s pl_retry (by decide) rfl) (rst_o b r s pl_epoch (by decide) rfl) (rst_o b r s pl_base (by decide) rfl) (rst_o b r s pl_digest (by decide) rfl) (rst_o b r s pl_lag (by decide) rfl) (rst_o b r s pl_code (by decide) rfl) (rst_o b r s pl_want (by decide) rfl) (fun n e0 e1 e2 e3 e4 e5 e6 e7 e8 e9 e10 e11 e12 e13 e14 e15 e16 e17 e18 e19 e20 e21 h => absurd (pl_none n e0 e1 e2 e3 e4 e5 e6 e7 e8 e9 e10 e11 e12 e13 e14 e15 e16 e17 e18 e19 e20 e21) h) n
  exact key _ hp rfl hu
theorem rchk1 (b : Bdy) (r : List GV) (hb : BdyOk b) (hf : Few b.t) (l : List Spc) (hlen : l.length ≤ 1000) (hns : ∀ s ∈ l, placeOf s.name ≠ none ∧ s.use = useN s.name) : ∀ (m i : Nat), i + m = l.length →
    TT.lim 120 [.l (l.map spc), .i .i64 l.length, .i .i64 i, .i .i64 b.kind, .i .u64 b.id, .i .u64 b.min, .i .u64 b.max, .i .u64 b.chosen, .i .u64 b.flags, .i .u64 b.cost, .i .u64 b.priority, .i .u64 b.deadline, .i .u64 b.retry, .i .u64 b.epoch, .i .u64 b.base, .i .u64 b.digest, .i .u64 b.lag, .i .u64 b.code, .i .u64 b.want, .i .i64 b.remaining, .b b.allowed, .s b.name, .s b.region, .s b.note, .l (b.d.map ent), .l (b.t.map row), .l r] = some (if mayL b (l.drop i) = 0 then [.i .i64 1] else [.i .i64 0, .i .i64 (mayL b (l.drop i))])
  | 0, i, hi => by
    have h0 : l.drop i = [] := List.drop_eq_nil_of_le (by omega)
    refine tree_lim rfl rfl ?_
    have h : ¬ ((i : Int) < l.length) := by omega
    simp [h, h0, mayL]
  | m + 1, i, hi => by
    have hlt : i < l.length := by omega
    have ih := rchk1 b r hb hf l hlen hns m (i + 1) (by omega)
    have hcast : ((i : Int) + 1) = ((i + 1 : Nat) : Int) := by omega
    rw [← hcast] at ih
    have hq := hns _ (List.getElem_mem hlt)
    have := rst_all b r hb hf l[i] hq.1 hq.2 l i _ hlt rfl hlen ih
    rw [this, List.drop_eq_getElem_cons hlt]
    by_cases hc : mayB b l[i].name = 0
    · have hm : mayL b (l[i] :: l.drop (i + 1)) = mayL b (l.drop (i + 1)) := by simp only [mayL, hc, if_true]
      rw [if_pos hc, hm]
    · have hm : mayL b (l[i] :: l.drop (i + 1)) = mayB b l[i].name := by simp only [mayL, hc, if_false]
      rw [if_neg hc, hm, if_neg hc]
theorem rchk20 (l : List Spc) (hlen : l.length ≤ 1000) (a1 a2 a3 : GV) (t : Int) (a7 a8 a9 a10 : GV) : ∀ (m i : Nat), i + m = l.length →
    TT.lim 124 [.l (l.map spc), a1, a2, a3, .i .i64 l.length, .i .i64 i, .i .u64 t, a7, a8, a9, a10] = some (if hasTag (l.drop i) t = true then [.i .i64 0] else [.i .i64 1])
  | 0, i, hi => by
    have h0 : l.drop i = [] := List.drop_eq_nil_of_le (by omega)
    refine tree_lim rfl rfl ?_
    have h : ¬ ((i : Int) < l.length) := by omega
    simp [h, h0, hasTag]
  | m + 1, i, hi => by
    have hlt : i < l.length := by omega
    have ih := rchk20 l hlen a1 a2 a3 t a7 a8 a9 a10 m (i + 1) (by omega)
    have hcast : ((i : Int) + 1) = ((i + 1 : Nat) : Int) := by omega
    rw [← hcast] at ih
    have h1 : ((i : Int) < l.length) := by omega
    have hw := wrap64 (n := (i : Int) + 1) (by omega) (by omega)
    have hd : hasTag (l.drop i) t = (decide (t = l[i].tag) || hasTag (l.drop (i + 1)) t) := by rw [List.drop_eq_getElem_cons hlt]; rfl
    rw [hd]
    generalize hasTag (l.drop (i + 1)) t = X at *
    refine tree_lim rfl rfl ?_
    by_cases hc : t = l[i].tag
    · simp [h1, hlt, hc]
    · have hc' : ¬ l[i].tag = t := fun e => hc e.symm
      simp [h1, hlt, hc, hc', hw, ih]
theorem rchk2 (l : List Spc) (hlen : l.length ≤ 1000) (fl : List Fld) (hfl : fl.length ≤ 1000000) : ∀ (m i : Nat), i + m = fl.length →
    TT.lim 123 [.l (l.map spc), .l (fldsG fl), .i .i64 fl.length, .i .i64 i] = some (if (fl.drop i).any (fun f => hasTag l f.tag) = true then [.i .i64 0] else [.i .i64 1])
  | 0, i, hi => by
    have h0 : fl.drop i = [] := List.drop_eq_nil_of_le (by omega)
    refine tree_lim rfl rfl ?_
    have h : ¬ ((i : Int) < fl.length) := by omega
    simp [h, h0]
  | m + 1, i, hi => by
    have hlt : i < fl.length := by omega
    have ih := rchk2 l hlen fl hfl m (i + 1) (by omega)
    have hcast : ((i : Int) + 1) = ((i + 1 : Nat) : Int) := by omega
    rw [← hcast] at ih
    have h1 : ((i : Int) < fl.length) := by omega
    have hw := wrap64 (n := (i : Int) + 1) (by omega) (by omega)
    have hd : (fl.drop i).any (fun f => hasTag l f.tag) = (hasTag l fl[i].tag || (fl.drop (i + 1)).any (fun f => hasTag l f.tag)) := by rw [List.drop_eq_getElem_cons hlt, List.any_cons]
    rw [hd]
    have hget : (fldsG fl)[i]? = some (fldG fl[i]) := by rw [fldsG_map, List.getElem?_map, List.getElem?_eq_getElem hlt]; rfl
    clear hd
    obtain ⟨t, y, n, s, k, hfi⟩ : ∃ t y n s k, fl[i] = Fld.mk t y n s k := by
      cases fl[i] with
      | mk t y n s k => exact ⟨_, _, _, _, _, rfl⟩
    rw [hfi] at hget ⊢
    rw [show (Fld.mk t y n s k).tag = t from rfl]
    have h3 : TT.lim 124 [.l (l.map spc), .l (fldsG fl), .i .i64 fl.length, .i .i64 i, .i .i64 l.length, .i .i64 0, .i .u64 t, .i .i64 y, .i .u64 n, .s s, .l (fldsG k)] = _ := rchk20 l hlen _ _ _ t _ _ _ _ l.length 0 (by omega)
    rw [List.drop_zero] at h3
    refine tree_lim rfl rfl ?_
    by_cases hc : hasTag l t = true
    · rw [if_pos hc] at h3
      simp [-List.any_eq_true, h1, hget, h3, hc]
    · rw [if_neg hc] at h3
      have hc : hasTag l t = false := by simpa using hc
      simp [-List.any_eq_true, h1, hget, h3, hw, ih, hc]
theorem known_use (k v : Int) : ∀ s ∈ knownF k v, placeOf s.name ≠ none ∧ s.use = useN s.name := by
  have key : ∀ s ∈ specsF k, placeOf s.name ≠ none ∧ s.use = useN s.name := by
    unfold specsF
    repeat' split
    all_goals first | (unfold sp1; decide) | (unfold sp2; decide) | (unfold sp3; decide) | (unfold sp4; decide) | (unfold sp5; decide) | (unfold sp6; decide) | (unfold sp7; decide) | (unfold sp8; decide) | (intro s hs; cases hs)
  intro s hs
  exact key s (List.mem_filter.1 hs).1
set_option maxHeartbeats 4000000 in
theorem rcheck_ok18 (b : Bdy) (fl : List Fld) (v : Int) (hb : BdyOk b) (hf : Few b.t) (hok : fldsOk fl) (hlen : fl.length ≤ 1000000) : TT.lim 79 [msgG b (fldsG fl), .i .i64 v] = some [.i .i64 (checkM b fl v)] := by
  refine fn_lim rfl rfl ?_ rfl
  unfold checkM
  by_cases v1 : v < 1
  · simp [v1]
  by_cases v3 : 3 < v
  · simp [v1, v3]
  rw [if_neg v1, if_neg v3]
  have hkn := rknown_ok b.kind v (by omega)
  have hpl := known_use b.kind v
  have hl8 := known_len b.kind v
  generalize knownF b.kind v = sp at *
  by_cases hsp : sp = []
  · rw [if_pos hsp]
    rw [hsp] at hkn
    simp [v1, v3, hkn]
  rw [if_neg hsp]
  have hsp0 : ¬ sp.length = 0 := fun e => hsp (List.length_eq_zero_iff.1 e)
  have hnm := rnames83
  have h1 := rchk0 b (fldsG fl) hb sp (by omega) namesL (by decide) names_place namesL.length 0 (by omega)
  have h2 := rchk1 b (fldsG fl) hb hf sp (by omega) hpl sp.length 0 (by omega)
  have h3 := rchk2 sp (by omega) fl hlen fl.length 0 (by omega)
  have h4 : TT.lim 121 [.l (fldsG fl), .i .i64 0] = some [.i .i64 (chkFL 0 0 fl)] := rfchk_all (szL fl + 1) fl (by omega) hok hlen 0 (by omega)
  rw [List.drop_zero] at h1 h2 h3
  have hfl := fldsG_len fl
  rw [← hfl] at h3
  have h1' : TT.lim 84 [.l (sp.map spc), .l (namesL.map .s), .i .i64 namesL.length, .i .i64 0, .i .i64 b.kind, .i .u64 b.id, .i .u64 b.min, .i .u64 b.max, .i .u64 b.chosen, .i .u64 b.flags, .i .u64 b.cost, .i .u64 b.priority, .i .u64 b.deadline, .i .u64 b.retry, .i .u64 b.epoch, .i .u64 b.base, .i .u64 b.digest, .i .u64 b.lag, .i .u64 b.code, .i .u64 b.want, .i .i64 b.remaining, .b b.allowed, .s b.name, .s b.region, .s b.note, .l (b.d.map ent), .l (b.t.map row), .l (fldsG fl)] = _ := h1
  clear h1
  have h2' : TT.lim 120 [.l (sp.map spc), .i .i64 sp.length, .i .i64 0, .i .i64 b.kind, .i .u64 b.id, .i .u64 b.min, .i .u64 b.max, .i .u64 b.chosen, .i .u64 b.flags, .i .u64 b.cost, .i .u64 b.priority, .i .u64 b.deadline, .i .u64 b.retry, .i .u64 b.epoch, .i .u64 b.base, .i .u64 b.digest, .i .u64 b.lag, .i .u64 b.code, .i .u64 b.want, .i .i64 b.remaining, .b b.allowed, .s b.name, .s b.region, .s b.note, .l (b.d.map ent), .l (b.t.map row), .l (fldsG fl)] = _ := h2
  clear h2
  have h3' : TT.lim 123 [.l (sp.map spc), .l (fldsG fl), .i .i64 (fldsG fl).length, .i .i64 0] = _ := h3
  clear h3
  have hr : restM sp fl = if chkFL 0 0 fl ≠ 0 then chkFL 0 0 fl else if fl.any (fun f => hasTag sp f.tag) = true then 14 else 0 := rfl
  generalize (namesL.all fun n => hasN sp n || nothB b n) = A at *
  generalize mayL b sp = M at *
  generalize chkFL 0 0 fl = F at *
  generalize (fl.any fun f => hasTag sp f.tag) = W at *
  generalize restM sp fl = R at *
  generalize namesL = NL at *
  cases A with
  | false =>
    simp only [Bool.false_eq_true, if_false] at h1'
    simp [v1, v3, hkn, hsp, hnm, h1']
  | true =>
  simp only [if_true] at h1'
  by_cases hM : M = 0
  rotate_left
  · rw [if_neg hM] at h2'
    simp [v1, v3, hkn, hsp, hnm, h1', h2', hM]
  rw [if_pos hM] at h2'
  rw [if_neg (by simp), if_neg (by simp [hM])]
  clear hM
  have z1 : (b.min < 1) = (b.min = 0) := propext ⟨fun h => by have := hb.min; omega, fun h => by omega⟩
  have z2 : (b.chosen < 1) = (b.chosen = 0) := propext ⟨fun h => by have := hb.chosen; omega, fun h => by omega⟩
  have z3 : (b.epoch < 1) = (b.epoch = 0) := propext ⟨fun h => by have := hb.epoch; omega, fun h => by omega⟩
  have z4 : (b.base < 1) = (b.base = 0) := propext ⟨fun h => by have := hb.base; omega, fun h => by omega⟩
  unfold boundsF
  simp only [z1, z2, z3, z4]
  by_cases e1 : b.kind = 1
  · have e1 := eq_true e1
    by_cases c1 : b.min = 0
    · have c1 := eq_true c1
      simp [v1, v3, hkn, hsp, hnm, h1', h2', e1, c1]
    by_cases c2 : b.max < b.min
    · simp [v1, v3, hkn, hsp, hnm, h1', h2', e1, c1, c2]
    by_cases c3 : 255 < b.max
    · simp [v1, v3, hkn, hsp, hnm, h1', h2', e1, c1, c2, c3]
    simp only [e1, c1, c2, c3, if_true, if_false, ne_eq, not_true_eq_false]
    rw [hr]
    by_cases hF : F = 0
    · subst hF
      cases W with
      | true => simp only [if_true] at h3'; simp [v1, v3, hkn, hsp, hnm, h1', h2', e1, c1, c2, c3, h4, h3']
      | false => simp only [Bool.false_eq_true, if_false] at h3'; simp [v1, v3, hkn, hsp, hnm, h1', h2', e1, c1, c2, c3, h4, h3']
    · simp [v1, v3, hkn, hsp, hnm, h1', h2', e1, c1, c2, c3, h4, hF]
  by_cases e2 : b.kind = 2
  · have e2 := eq_true e2
    by_cases c1 : b.chosen = 0
    · have c1 := eq_true c1
      simp [v1, v3, hkn, hsp, hnm, h1', h2', e1, e2, c1]
    by_cases c2 : 255 < b.chosen
    · simp [v1, v3, hkn, hsp, hnm, h1', h2', e1, e2, c1, c2]
    simp only [e1, e2, c1, c2, if_true, if_false, ne_eq, not_true_eq_false]
    rw [hr]
    by_cases hF : F = 0
    · subst hF
      cases W with
      | true => simp only [if_true] at h3'; simp [v1, v3, hkn, hsp, hnm, h1', h2', e1, e2, c1, c2, h4, h3']
      | false => simp only [Bool.false_eq_true, if_false] at h3'; simp [v1, v3, hkn, hsp, hnm, h1', h2', e1, e2, c1, c2, h4, h3']
    · simp [v1, v3, hkn, hsp, hnm, h1', h2', e1, e2, c1, c2, h4, hF]
  by_cases e3 : b.kind = 3
  · have n5 : (b.kind = 5) = False := eq_false (by omega)
    have n6 : (b.kind = 6) = False := eq_false (by omega)
    have e3 := eq_true e3
    by_cases c1 : b.d = []
    · have c1 := eq_true c1
      simp [v1, v3, hkn, hsp, hnm, h1', h2', e1, e2, e3, n5, n6, c1]
    simp only [e1, e2, e3, c1, if_true, if_false, ne_eq, not_true_eq_false]
    rw [hr]
    by_cases hF : F = 0
    · subst hF
      cases W with
      | true => simp only [if_true] at h3'; simp [v1, v3, hkn, hsp, hnm, h1', h2', e1, e2, e3, n5, n6, c1, h4, h3']
      | false => simp only [Bool.false_eq_true, if_false] at h3'; simp [v1, v3, hkn, hsp, hnm, h1', h2', e1, e2, e3, n5, n6, c1, h4, h3']
    · simp [v1, v3, hkn, hsp, hnm, h1', h2', e1, e2, e3, n5, n6, c1, h4, hF]
  by_cases e5 : b.kind = 5
  · have e5 := eq_true e5
    by_cases c1 : b.epoch = 0
    · have c1 := eq_true c1
      simp [v1, v3, hkn, hsp, hnm, h1', h2', e1, e2, e3, e5, c1]
    simp only [e1, e2, e3, e5, c1, if_true, if_false, ne_eq, not_true_eq_false]
    rw [hr]
    by_cases hF : F = 0
    · subst hF
      cases W with
      | true => simp only [if_true] at h3'; simp [v1, v3, hkn, hsp, hnm, h1', h2', e1, e2, e3, e5, c1, h4, h3']
      | false => simp only [Bool.false_eq_true, if_false] at h3'; simp [v1, v3, hkn, hsp, hnm, h1', h2', e1, e2, e3, e5, c1, h4, h3']
    · simp [v1, v3, hkn, hsp, hnm, h1', h2', e1, e2, e3, e5, c1, h4, hF]
  by_cases e6 : b.kind = 6
  · have e6 := eq_true e6
    by_cases c1 : b.base = 0
    · have c1 := eq_true c1
      simp [v1, v3, hkn, hsp, hnm, h1', h2', e1, e2, e3, e5, e6, c1]
    by_cases c2 : b.epoch ≤ b.base
    · simp [v1, v3, hkn, hsp, hnm, h1', h2', e1, e2, e3, e5, e6, c1, c2]
    simp only [e1, e2, e3, e5, e6, c1, c2, if_true, if_false, ne_eq, not_true_eq_false]
    rw [hr]
    by_cases hF : F = 0
    · subst hF
      cases W with
      | true => simp only [if_true] at h3'; simp [v1, v3, hkn, hsp, hnm, h1', h2', e1, e2, e3, e5, e6, c1, c2, h4, h3']
      | false => simp only [Bool.false_eq_true, if_false] at h3'; simp [v1, v3, hkn, hsp, hnm, h1', h2', e1, e2, e3, e5, e6, c1, c2, h4, h3']
    · simp [v1, v3, hkn, hsp, hnm, h1', h2', e1, e2, e3, e5, e6, c1, c2, h4, hF]
  simp only [e1, e2, e3, e5, e6, if_false, ne_eq, not_true_eq_false]
  rw [hr]
  by_cases hF : F = 0
  · subst hF
    cases W with
    | true => simp only [if_true] at h3'; simp [v1, v3, hkn, hsp, hnm, h1', h2', e1, e2, e3, e5, e6, h4, h3']
    | false => simp only [Bool.false_eq_true, if_false] at h3'; simp [v1, v3, hkn, hsp, hnm, h1', h2', e1, e2, e3, e5, e6, h4, h3']
  · simp [v1, v3, hkn, hsp, hnm, h1', h2', e1, e2, e3, e5, e6, h4, hF]
/-- The numbers with a sign, written by their bits. -/
theorem zz_bits (x : Int) (h0 : -9223372036854775808 ≤ x) (h1 : x ≤ 9223372036854775807) : ∃ u w : Int, IntKind.u64.wrap x = u ∧ IntKind.u64.wrap (x.fdiv (2 ^ 63)) = w ∧ intG .xor .u64 (IntKind.u64.wrap (u * 2 ^ 1)) w = some (.i .u64 (zz x)) := by
  have wr : ∀ y : Int, IntKind.u64.wrap y = y % 18446744073709551616 := fun y => by simp [IntKind.wrap, IntKind.signed, IntKind.bits]
  refine ⟨_, _, rfl, rfl, ?_⟩
  rw [wr, wr, wr]
  unfold zz
  have hb : IntKind.u64.bits = 64 := rfl
  by_cases h : 0 ≤ x
  · have e1 : x.fdiv (2 ^ 63) = 0 := by
      rw [Int.fdiv_eq_ediv_of_nonneg _ (by decide)]
      exact Int.ediv_eq_zero_of_lt h (by omega)
    rw [e1, if_pos h]
    have e2 : x % 18446744073709551616 * 2 ^ 1 % 18446744073709551616 = 2 * x := by omega
    rw [e2]
    simp only [intG, wr, hb]
    have e3 : (BitVec.ofInt 64 (2 * x) ^^^ BitVec.ofInt 64 (0 % 18446744073709551616)) = BitVec.ofInt 64 (2 * x) := by
      have : BitVec.ofInt 64 (0 % 18446744073709551616) = 0#64 := rfl
      rw [this, BitVec.xor_zero]
    show some (GV.i IntKind.u64 (((BitVec.ofInt 64 (2 * x) ^^^ BitVec.ofInt 64 (0 % 18446744073709551616)).toNat : Int) % 18446744073709551616)) = _
    rw [e3, BitVec.toNat_ofInt]
    congr 2
    omega
  · have e1 : x.fdiv (2 ^ 63) = -1 := by
      rw [Int.fdiv_eq_ediv_of_nonneg _ (by decide)]
      omega
    rw [e1, if_neg h]
    have e2 : x % 18446744073709551616 * 2 ^ 1 % 18446744073709551616 = 2 * x + 18446744073709551616 := by omega
    rw [e2]
    simp only [intG, wr, hb]
    have e3 : (BitVec.ofInt 64 (2 * x + 18446744073709551616) ^^^ BitVec.ofInt 64 (-1 % 18446744073709551616)) = ~~~ BitVec.ofInt 64 (2 * x + 18446744073709551616) := by
      have : BitVec.ofInt 64 (-1 % 18446744073709551616) = BitVec.allOnes 64 := by decide
      rw [this, BitVec.xor_allOnes]
    show some (GV.i IntKind.u64 (((BitVec.ofInt 64 (2 * x + 18446744073709551616) ^^^ BitVec.ofInt 64 (-1 % 18446744073709551616)).toNat : Int) % 18446744073709551616)) = _
    rw [e3, BitVec.toNat_not, BitVec.toNat_ofInt]
    congr 2
    omega
def ValIs (b : Bdy) (r : List GV) (n : List UInt8) (p : Pl) : Prop := TT.lim 127 [msgG b r, .s n] = some [.g [.i .u64 0, .i .i64 (typP p), .i .u64 (valP b p).1, .s (valP b p).2, .l []], .b true]
theorem val_id (b : Bdy) (r : List GV) : ValIs b r n_id (.num 0) := by
  unfold ValIs
  show _ = some [GV.g [.i .u64 0, .i .i64 0, .i .u64 b.id, .s [], .l []], GV.b true]
  unfold n_id
  refine fn_lim rfl rfl ?_ rfl
  simp
theorem val_min (b : Bdy) (r : List GV) : ValIs b r n_min (.num 1) := by
  unfold ValIs
  show _ = some [GV.g [.i .u64 0, .i .i64 0, .i .u64 b.min, .s [], .l []], GV.b true]
  unfold n_min
  refine fn_lim rfl rfl ?_ rfl
  simp
theorem val_max (b : Bdy) (r : List GV) : ValIs b r n_max (.num 2) := by
  unfold ValIs
  show _ = some [GV.g [.i .u64 0, .i .i64 0, .i .u64 b.max, .s [], .l []], GV.b true]
  unfold n_max
  refine fn_lim rfl rfl ?_ rfl
  simp
theorem val_chosen (b : Bdy) (r : List GV) : ValIs b r n_chosen (.num 3) := by
  unfold ValIs
  show _ = some [GV.g [.i .u64 0, .i .i64 0, .i .u64 b.chosen, .s [], .l []], GV.b true]
  unfold n_chosen
  refine fn_lim rfl rfl ?_ rfl
  simp
theorem val_flags (b : Bdy) (r : List GV) : ValIs b r n_flags (.num 4) := by
  unfold ValIs
  show _ = some [GV.g [.i .u64 0, .i .i64 0, .i .u64 b.flags, .s [], .l []], GV.b true]
  unfold n_flags
  refine fn_lim rfl rfl ?_ rfl
  simp
theorem val_cost (b : Bdy) (r : List GV) : ValIs b r n_cost (.num 5) := by
  unfold ValIs
  show _ = some [GV.g [.i .u64 0, .i .i64 0, .i .u64 b.cost, .s [], .l []], GV.b true]
  unfold n_cost
  refine fn_lim rfl rfl ?_ rfl
  simp
theorem val_priority (b : Bdy) (r : List GV) : ValIs b r n_priority (.num 6) := by
  unfold ValIs
  show _ = some [GV.g [.i .u64 0, .i .i64 0, .i .u64 b.priority, .s [], .l []], GV.b true]
  unfold n_priority
  refine fn_lim rfl rfl ?_ rfl
  simp
theorem val_deadline (b : Bdy) (r : List GV) : ValIs b r n_deadline (.num 7) := by
  unfold ValIs
  show _ = some [GV.g [.i .u64 0, .i .i64 0, .i .u64 b.deadline, .s [], .l []], GV.b true]
  unfold n_deadline
  refine fn_lim rfl rfl ?_ rfl
  simp
theorem val_retry (b : Bdy) (r : List GV) : ValIs b r n_retry (.num 8) := by
  unfold ValIs
  show _ = some [GV.g [.i .u64 0, .i .i64 0, .i .u64 b.retry, .s [], .l []], GV.b true]
  unfold n_retry
  refine fn_lim rfl rfl ?_ rfl
  simp
theorem val_epoch (b : Bdy) (r : List GV) : ValIs b r n_epoch (.num 9) := by
  unfold ValIs
  show _ = some [GV.g [.i .u64 0, .i .i64 0, .i .u64 b.epoch, .s [], .l []], GV.b true]
  unfold n_epoch
  refine fn_lim rfl rfl ?_ rfl
  simp
theorem val_base (b : Bdy) (r : List GV) : ValIs b r n_base (.num 10) := by
  unfold ValIs
  show _ = some [GV.g [.i .u64 0, .i .i64 0, .i .u64 b.base, .s [], .l []], GV.b true]
  unfold n_base
  refine fn_lim rfl rfl ?_ rfl
  simp
theorem val_digest (b : Bdy) (r : List GV) : ValIs b r n_digest (.num 11) := by
  unfold ValIs
  show _ = some [GV.g [.i .u64 0, .i .i64 0, .i .u64 b.digest, .s [], .l []], GV.b true]
  unfold n_digest
  refine fn_lim rfl rfl ?_ rfl
  simp
theorem val_lag (b : Bdy) (r : List GV) : ValIs b r n_lag (.num 12) := by
  unfold ValIs
  show _ = some [GV.g [.i .u64 0, .i .i64 0, .i .u64 b.lag, .s [], .l []], GV.b true]
  unfold n_lag
  refine fn_lim rfl rfl ?_ rfl
  simp
theorem val_code (b : Bdy) (r : List GV) : ValIs b r n_code (.num 13) := by
  unfold ValIs
  show _ = some [GV.g [.i .u64 0, .i .i64 0, .i .u64 b.code, .s [], .l []], GV.b true]
  unfold n_code
  refine fn_lim rfl rfl ?_ rfl
  simp
theorem val_want (b : Bdy) (r : List GV) : ValIs b r n_want (.num 14) := by
  unfold ValIs
  show _ = some [GV.g [.i .u64 0, .i .i64 0, .i .u64 b.want, .s [], .l []], GV.b true]
  unfold n_want
  refine fn_lim rfl rfl ?_ rfl
  simp
theorem val_name (b : Bdy) (r : List GV) : ValIs b r n_name .name := by
  unfold ValIs
  show _ = some [GV.g [.i .u64 0, .i .i64 1, .i .u64 0, .s b.name, .l []], GV.b true]
  unfold n_name
  refine fn_lim rfl rfl ?_ rfl
  simp
theorem val_region (b : Bdy) (r : List GV) : ValIs b r n_region .region := by
  unfold ValIs
  show _ = some [GV.g [.i .u64 0, .i .i64 1, .i .u64 0, .s b.region, .l []], GV.b true]
  unfold n_region
  refine fn_lim rfl rfl ?_ rfl
  simp
theorem val_note (b : Bdy) (r : List GV) : ValIs b r n_note .note := by
  unfold ValIs
  show _ = some [GV.g [.i .u64 0, .i .i64 1, .i .u64 0, .s b.note, .l []], GV.b true]
  unfold n_note
  refine fn_lim rfl rfl ?_ rfl
  simp
theorem val_allowed (b : Bdy) (r : List GV) : ValIs b r n_allowed .allow := by
  unfold ValIs
  unfold n_allowed
  refine fn_lim rfl rfl ?_ rfl
  cases hc : b.allowed <;> simp [typP, valP, hc]
theorem val_remaining (b : Bdy) (r : List GV) (hb : BdyOk b) : ValIs b r n_remaining .rem := by
  unfold ValIs
  obtain ⟨u, w, h1, h2, h3⟩ := zz_bits b.remaining hb.remaining.1 hb.remaining.2
  show _ = some [GV.g [.i .u64 0, .i .i64 0, .i .u64 (zz b.remaining), .s [], .l []], GV.b true]
  have h2 : IntKind.u64.wrap (b.remaining.fdiv 9223372036854775808) = w := h2
  have h3 : intG .xor .u64 (IntKind.u64.wrap (u * 2)) w = some (.i .u64 (zz b.remaining)) := h3
  unfold n_remaining
  refine fn_lim rfl rfl ?_ rfl
  simp [shG, h1, h2, h3, IntKind.bits]
theorem val_descr (b : Bdy) (r : List GV) (hf : few12 b.d = true) : ValIs b r n_descr .d := by
  unfold ValIs
  have hk := key6 b.d hf
  have e : valP b .d = (0, if b.d = [] then [] else keyF b.d) := rfl
  rw [e]
  unfold n_descr
  refine fn_lim rfl rfl ?_ rfl
  by_cases e : b.d = []
  · have e' := eq_true e
    simp [typP, e']
  · simp [typP, e, hk]
theorem val_table (b : Bdy) (r : List GV) (hb : BdyOk b) (hf : Few b.t) : ValIs b r n_table .t := by
  unfold ValIs
  have hk := kputP b.t hb.t hf
  have e : valP b .t = (0, if b.t = [] then [] else (putK b.t).1) := rfl
  rw [e]
  unfold n_table
  refine fn_lim rfl rfl ?_ rfl
  by_cases e : b.t = []
  · have e' := eq_true e
    simp [typP, e']
  · simp [typP, e, hk]
theorem mval_none (b : Bdy) (r : List GV) (n : List UInt8) (e0 : ¬ n = n_remaining) (e1 : ¬ n = n_allowed) (e2 : ¬ n = n_name) (e3 : ¬ n = n_region) (e4 : ¬ n = n_note) (e5 : ¬ n = n_descr) (e6 : ¬ n = n_table) (e7 : ¬ n = n_id) (e8 : ¬ n = n_min) (e9 : ¬ n = n_max) (e10 : ¬ n = n_chosen) (e11 : ¬ n = n_flags) (e12 : ¬ n = n_cost) (e13 : ¬ n = n_priority) (e14 : ¬ n = n_deadline) (e15 : ¬ n = n_retry) (e16 : ¬ n = n_epoch) (e17 : ¬ n = n_base) (e18 : ¬ n = n_digest) (e19 : ¬ n = n_lag) (e20 : ¬ n = n_code) (e21 : ¬ n = n_want) : TT.lim 127 [msgG b r, .s n] = some [.g [.i .u64 0, .i .i64 0, .i .u64 0, .s [], .l []], .b false] := by
  unfold n_remaining n_allowed n_name n_region n_note n_descr n_table n_id n_min n_max n_chosen n_flags n_cost n_priority n_deadline n_retry n_epoch n_base n_digest n_lag n_code n_want at *
  refine fn_lim rfl rfl ?_ rfl
  simp [e0, e1, e2, e3, e4, e5, e6, e7, e8, e9, e10, e11, e12, e13, e14, e15, e16, e17, e18, e19, e20, e21]
theorem of08_all : ∀ (N : Nat) (l : List Fld), szL l < N → fldsOk l → l.length ≤ 1000000 → TT.lim 24 [.l (fldsG l)] = some [.l (fldsG l)]
  | 0, l, h, _, _ => by omega
  | N + 1, l, hN, hok, hlen => by
    have loop : ∀ m i, i + m = l.length → TT.lim 25 [.l ((fldsG l).take i), .l (fldsG l), .i .i64 l.length, .i .i64 i] = some [.i .i64 0, .l (fldsG l)] := by
      intro m
      induction m with
      | zero =>
        intro i hi
        have h0 : (fldsG l).take i = fldsG l := List.take_of_length_le (by rw [fldsG_len]; omega)
        rw [h0]
        refine tree_lim rfl rfl ?_
        have h : ¬ ((i : Int) < l.length) := by omega
        simp [h]
      | succ m ih =>
        intro i hi
        have hlt : i < l.length := by omega
        have hf := fldsOk_mem hok l[i] (List.getElem_mem hlt)
        have hs := szL_mem (List.getElem_mem hlt)
        have hget : (fldsG l)[i]? = some (fldG l[i]) := by rw [fldsG_map, List.getElem?_map, List.getElem?_eq_getElem hlt]; rfl
        have hcast : ((i : Int) + 1) = ((i + 1 : Nat) : Int) := by omega
        have ih' := ih (i + 1) (by omega)
        have htk : (fldsG l).take (i + 1) = (fldsG l).take i ++ [fldG l[i]] := by
          rw [List.take_add_one, hget]; rfl
        rw [htk, ← hcast] at ih'
        clear htk
        obtain ⟨t, y, n, s, k, hfi⟩ : ∃ t y n s k, l[i] = Fld.mk t y n s k := by
          cases l[i] with
          | mk t y n s k => exact ⟨_, _, _, _, _, rfl⟩
        rw [hfi] at hget hf hs ih'
        simp only [fldOk] at hf
        simp only [szF] at hs
        have hwr := wrap64 (n := (i : Int) + 1) (by omega) (by omega)
        have h : ((i : Int) < l.length) := by omega
        have hk := of08_all N k (by omega) hf.2 hf.1.2.2.2.2.2.2.2
        have hfold : GV.g [.i .u64 t, .i .i64 y, .i .u64 n, .s s, .l (fldsG k)] = fldG (.mk t y n s k) := by simp only [fldG]
        have hel : (fldG (.mk t y n s k)).elemOk 5 = true := by simp only [fldG]; rfl
        have hl0 : ((fldsG l).take i).length = i := by rw [List.length_take, fldsG_len]; omega
        have hb1 : 2 * (((fldsG l).take i).length + 1) * 64 ≤ 281474976710656 := by rw [hl0]; omega
        have hb2 : ((fldsG l).take i).length ≤ 281474976710655 := by rw [hl0]; omega
        generalize (fldsG l).take i = acc at *
        refine tree_lim rfl rfl ?_
        simp [h, hget, hk, hfold, hel, hb1, hb2, hwr, ih']
    have h0 := loop l.length 0 (by omega)
    have hl2 := fldsG_len l
    have h0' : TT.lim 25 [.l [], .l (fldsG l), .i .i64 (fldsG l).length, .i .i64 0] = some [.i .i64 0, .l (fldsG l)] := by rw [hl2]; exact h0
    refine fn_lim rfl rfl ?_ rfl
    simp [h0']
theorem fromF_ok : ∀ (n : Nat) (l : List One) (deep : Int), (∀ x ∈ l, OneOk x ∧ x.text.length ≤ 300) → l.length ≤ 1000000 → fldsOk (fromF n l deep).1
  | 0, l, deep, _, _ => by simp only [fromF, fldsOk]
  | n + 1, [], deep, _, _ => by simp only [fromF, fldsOk]
  | n + 1, x :: l, deep, h, hl => by
    have hx := h x (by simp)
    have hl' : ∀ y ∈ l, OneOk y ∧ y.text.length ≤ 300 := fun y hy => h y (by simp [hy])
    have hx1 := hx.1
    unfold OneOk at hx1
    simp only [List.length_cons] at hl
    simp only [fromF]
    split
    · have hp : fldsOk (if x.deep = 255 then (([] : List Fld), l) else fromF n l (x.deep + 1)).1 ∧ (if x.deep = 255 then (([] : List Fld), l) else fromF n l (x.deep + 1)).1.length ≤ 1000000 ∧ ∃ k, (if x.deep = 255 then (([] : List Fld), l) else fromF n l (x.deep + 1)).2 = l.drop k := by
        split
        · exact ⟨by simp only [fldsOk], by simp, 0, rfl⟩
        · have := fromF_le n l (x.deep + 1)
          exact ⟨fromF_ok n l _ hl' (by omega), by omega, this.2⟩
      obtain ⟨p1, p2, k, p3⟩ := hp
      simp only [fldsOk, fldOk]
      refine ⟨⟨⟨hx1.2.2.2.2.1, hx1.2.2.2.2.2.1, hx1.2.2.1, hx1.2.2.2.1, hx1.2.2.2.2.2.2.1, hx1.2.2.2.2.2.2.2.1, hx.2, p2⟩, p1⟩, ?_⟩
      rw [p3]
      exact fromF_ok n (l.drop k) deep (fun y hy => hl' y (List.mem_of_mem_drop hy)) (by rw [List.length_drop]; omega)
    · simp only [fldsOk]
theorem make8_fok (l : List One) (hl : Ones l) (hf : few8 l = true) : fldsOk (make8 l) ∧ (make8 l).length ≤ 1000000 := by
  unfold few8 at hf
  rw [Bool.and_eq_true, decide_eq_true_iff, List.all_eq_true] at hf
  refine ⟨fromF_ok _ l 0 (fun x hx => ⟨hl.2 x hx, by simpa using hf.1 x hx⟩) (by omega), ?_⟩
  have := fromF_le (l.length + 1) l 0
  unfold make8
  omega
theorem of18_ok (b : Bdy) (fl : List Fld) (hd : b.d.length ≤ 40) (ht : GoodT b.t) (hok : fldsOk fl) (hlen : fl.length ≤ 1000000) : TT.lim 19 [msgG b (fldsG fl)] = some [msgG b (fldsG fl)] := by
  have h1 := to56 b.d hd
  have h2 := to54 b.t ht
  have h3 := of08_all (szL fl + 1) fl (by omega) hok hlen
  refine fn_lim rfl rfl ?_ rfl
  simp [h1, h2, h3, msgG_fold]
theorem same_zero : TT.lim 133 [.l [.g [.i .u64 0, .i .i64 0, .i .u64 0, .s [], .l []]], .l [.g [.i .u64 0, .i .i64 0, .i .u64 0, .s [], .l []]]] = some [.b true] := by
  have h4 : TT.lim 134 [.l []] = some [.i .i64 1] := by
    refine tree_lim rfl rfl ?_
    simp
  have h3 : TT.lim 135 [.l [], .i .i64 1, .i .i64 1, .l [.g [.i .u64 0, .i .i64 0, .i .u64 0, .s [], .l []]], .l [.g [.i .u64 0, .i .i64 0, .i .u64 0, .s [], .l []]]] = some [.i .i64 1, .l []] := by
    refine tree_lim rfl rfl ?_
    simp
  have hw : IntKind.i64.wrap 1 = 1 := by decide
  have h2 : TT.lim 135 [.l [], .i .i64 1, .i .i64 0, .l [.g [.i .u64 0, .i .i64 0, .i .u64 0, .s [], .l []]], .l [.g [.i .u64 0, .i .i64 0, .i .u64 0, .s [], .l []]]] = some [.i .i64 1, .l []] := by
    refine tree_lim rfl rfl ?_
    simp [hw, h3]
  have hw0 : IntKind.i64.wrap 0 = 0 := by decide
  have h1 : TT.lim 134 [.l [.g [.l [.g [.i .u64 0, .i .i64 0, .i .u64 0, .s [], .l []]], .l [.g [.i .u64 0, .i .i64 0, .i .u64 0, .s [], .l []]]]]] = some [.i .i64 1] := by
    refine tree_lim rfl rfl ?_
    simp [hw0, h2, h4]
  refine fn_lim rfl rfl ?_ rfl
  simp [h1]
theorem useP_ge (p : Pl) : 0 ≤ useP p ∧ (useP p).tdiv 3 = typP p ∧ useP p ≤ 5 := by cases p <;> simp [useP, typP]
theorem eqs_names (h : True) : TT.lim 125 [.l (namesL.map .s), .l (namesL.map .s)] = some [.b true] := by
  have := eqsP namesL namesL (by decide) (by decide)
  rw [decide_eq_true rfl] at this
  exact this
theorem val_all (b : Bdy) (r : List GV) (hb : BdyOk b) (hd : few12 b.d = true) (hf : Few b.t) (n : List UInt8) : (∃ p, placeOf n = some p ∧ TT.lim 127 [msgG b r, .s n] = some [.g [.i .u64 0, .i .i64 (typP p), .i .u64 (valP b p).1, .s (valP b p).2, .l []], .b true] ∧ TT.lim 87 [msgG b r, .s n] = some [.i .u64 (valP b p).1, .s (valP b p).2] ∧ useN n = useP p) ∨
    (TT.lim 127 [msgG b r, .s n] = some [.g [.i .u64 0, .i .i64 0, .i .u64 0, .s [], .l []], .b false] ∧ useN n = -1) := by
  refine by_name (Q := fun n => (∃ p, placeOf n = some p ∧ TT.lim 127 [msgG b r, .s n] = some [.g [.i .u64 0, .i .i64 (typP p), .i .u64 (valP b p).1, .s (valP b p).2, .l []], .b true] ∧ TT.lim 87 [msgG b r, .s n] = some [.i .u64 (valP b p).1, .s (valP b p).2] ∧ useN n = useP p) ∨ (TT.lim 127 [msgG b r, .s n] = some [.g [.i .u64 0, .i .i64 0, .i .u64 0, .s [], .l []], .b false] ∧ useN n = -1)) (.inl ⟨_, pl_remaining, val_remaining b r hb, rval_remaining b r hb, by unfold useN; rw [pl_remaining]⟩) (.inl ⟨_, pl_allowed, val_allowed b r , rval_allowed b r , by unfold useN; rw [pl_allowed]⟩) (.inl ⟨_, pl_name, val_name b r , rval_name b r , by unfold useN; rw [pl_name]⟩) (.inl ⟨_, pl_region, val_region b r , rval_region b r , by unfold useN; rw [pl_region]⟩) (.inl ⟨_, pl_note, val_note b r , rval_note b r , by unfold useN; rw [pl_note]⟩) (.inl ⟨_, pl_descr, val_descr b r hd, rval_descr b r hd, by unfold useN; rw [pl_descr]⟩) (.inl ⟨_, pl_table, val_table b r hb hf, rval_table b r hb hf, by unfold useN; rw [pl_table]⟩) (.inl ⟨_, pl_id, val_id b r , rval_id b r , by unfold useN; rw [pl_id]⟩) (.inl ⟨_, pl_min, val_min b r , rval_min b r , by unfold useN; rw [pl_min]⟩) (.inl ⟨_, pl_max, val_max b r , rval_max b r , by unfold useN; rw [pl_max]⟩) (.inl ⟨_, pl_chosen, val_chosen b r , rval_chosen b r , by unfold useN; rw [pl_chosen]⟩) (.inl ⟨_, pl_flags, val_flags b r , rval_flags b r , by unfold useN; rw [pl_flags]⟩) (.inl ⟨_, pl_cost, val_cost b r , rval_cost b r , by unfold useN; rw [pl_cost]⟩) (.inl ⟨_, pl_priority, val_priority b r , rval_priority b r , by unfold useN; rw [pl_priority]⟩) (.inl ⟨_, pl_deadline, val_deadline b r , rval_deadline b r , by unfold useN; rw [pl_deadline]⟩) (.inl ⟨_, pl_retry, val_retry b r , rval_retry b r , by unfold useN; rw [pl_retry]⟩) (.inl ⟨_, pl_epoch, val_epoch b r , rval_epoch b r , by unfold useN; rw [pl_epoch]⟩) (.inl ⟨_, pl_base, val_base b r , rval_base b r , by unfold useN; rw [pl_base]⟩) (.inl ⟨_, pl_digest, val_digest b r , rval_digest b r , by unfold useN; rw [pl_digest]⟩) (.inl ⟨_, pl_lag, val_lag b r , rval_lag b r , by unfold useN; rw [pl_lag]⟩) (.inl ⟨_, pl_code, val_code b r , rval_code b r , by unfold useN; rw [pl_code]⟩) (.inl ⟨_, pl_want, val_want b r , rval_want b r , by unfold useN; rw [pl_want]⟩) (fun n e0 e1 e2 e3 e4 e5 e6 e7 e8 e9 e10 e11 e12 e13 e14 e15 e16 e17 e18 e19 e20 e21 => .inr ⟨mval_none b r n e0 e1 e2 e3 e4 e5 e6 e7 e8 e9 e10 e11 e12 e13 e14 e15 e16 e17 e18 e19 e20 e21, by unfold useN; rw [pl_none n e0 e1 e2 e3 e4 e5 e6 e7 e8 e9 e10 e11 e12 e13 e14 e15 e16 e17 e18 e19 e20 e21]⟩) n
set_option maxHeartbeats 4000000 in
theorem messageChecks (gs : List GV) (h : hasArgs [(true, rawTy), (false, [.int .i64]), (false, [.str])] gs) : TT.lim 0 gs = some [.b true] := by
  obtain ⟨c, gs, rfl, h1, h⟩ := hasA_agg h
  obtain ⟨v, gs, rfl, h2, h⟩ := hasA_sc h
  obtain ⟨n, gs, rfl, h3, h⟩ := hasA_sc h
  obtain rfl := hasA_nil h
  obtain ⟨b, l, hb, hl, e⟩ := raw_of h1
  rw [e]
  obtain ⟨v, rfl, hv1, hv2⟩ := has_i64 h2
  obtain ⟨n, rfl, hn⟩ := has_str h3
  have hf := few18_ok b l hb hl
  have hm := make18_ok b l hl
  have hfew : few18 b l = true → few12 b.d = true ∧ few13 b.t = true ∧ few8 l = true := fun h => by
    unfold few18 at h
    simp only [Bool.and_eq_true] at h
    exact ⟨h.2.2.2.1, h.2.2.2.2.1, h.2.2.2.2.2⟩
  clear h1 h2 h3 h e
  by_cases hfw : few18 b l = true
  rotate_left
  · have hfw : few18 b l = false := by simpa using hfw
    rw [hfw] at hf
    refine fn_lim rfl rfl ?_ rfl
    simp [msgG_fold, hf]
  rw [hfw] at hf
  obtain ⟨f12, f13, f8⟩ := hfew hfw
  have hm := hm f8
  obtain ⟨hok, hlen⟩ := make8_fok l hl f8
  have hgt := good_of hb.t f13
  have hft : Few b.t := hgt.few
  have hd40 : b.d.length ≤ 40 := by unfold few12 at f12; rw [Bool.and_eq_true, decide_eq_true_iff] at f12; exact f12.2
  have ho := of18_ok b (make8 l) hd40 hgt hok hlen
  have hmc := mcheck_ok b (make8 l) v hb hft hok hlen
  have hrc := rcheck_ok18 b (make8 l) v hb hft hok hlen
  have hn1 := names39
  have hn2 := rnames83
  have hq := eqs_names trivial
  have hct := check37 b.t hb.t hft
  have hu := use_ok n
  have hz := same_zero
  have hva := val_all b (fldsG (make8 l)) hb f12 hft n
  generalize fldsG (make8 l) = rr at *
  generalize namesL.map GV.s = NL at *
  generalize checkM b (make8 l) v = C at *
  generalize checkT b.t = ct at *
  clear hfw f12 f13 f8 hok hlen hgt hft hd40
  rcases hva with ⟨p, hp, hv, hrv, hun⟩ | ⟨hv, hun⟩
  · rw [hun] at hu
    obtain ⟨g1, g2, g3⟩ := useP_ge p
    have g4 : ¬ useP p < 0 := by omega
    have g5 : ¬ ((3 : Int) = 0) := by decide
    generalize useP p = u at *
    have hw := wrap64 (n := u.tdiv 3) (by rw [g2]; cases p <;> simp [typP]) (by rw [g2]; cases p <;> simp [typP])
    generalize typP p = ty at *
    generalize valP b p = x at *
    rw [g2] at hw
    by_cases ht : n = [116, 97, 98, 108, 101]
    · subst ht
      by_cases hc0 : ct = 0
      · subst hc0
        refine fn_lim rfl rfl ?_ rfl
        simp [msgG_fold, hf, hm, ho, hmc, hrc, hn1, hn2, hq, hct, hu, hv, hrv, g4, g2, hw]
      · refine fn_lim rfl rfl ?_ rfl
        simp [msgG_fold, hf, hm, ho, hmc, hrc, hn1, hn2, hq, hct, hc0]
    · refine fn_lim rfl rfl ?_ rfl
      simp [msgG_fold, hf, hm, ho, hmc, hrc, hn1, hn2, hq, ht, hu, hv, hrv, g4, g2, hw]
  · rw [hun] at hu
    by_cases ht : n = [116, 97, 98, 108, 101]
    · subst ht
      by_cases hc0 : ct = 0
      · subst hc0
        refine fn_lim rfl rfl ?_ rfl
        simp [msgG_fold, hf, hm, ho, hmc, hrc, hn1, hn2, hq, hct, hu, hv, hz]
      · refine fn_lim rfl rfl ?_ rfl
        simp [msgG_fold, hf, hm, ho, hmc, hrc, hn1, hn2, hq, hct, hc0]
    · refine fn_lim rfl rfl ?_ rfl
      simp [msgG_fold, hf, hm, ho, hmc, hrc, hn1, hn2, hq, ht, hu, hv, hz]
end M
end Go.Proofs.YtckgelanagoenaaGreatDoor
