/- Tables as sums, told of trees. -/
import Derived.Test.YtamcdgfjjeldeaaGreatDoorKDPlB
import Derived.Lib.Bytealg
namespace Go.Proofs.YtamcdgfjjeldeaaGreatDoor
open Go Go.Abs
set_option linter.unusedSimpArgs false
set_option linter.unusedVariables false
set_option maxRecDepth 100000
namespace D
/-! ### How keys compare -/
def cmpK (a b : List UInt8) : Int := if a < b then -1 else if b < a then 1 else 0
theorem compareBytes_eq : ∀ a b : List UInt8, Lib.compareBytes a b = cmpK a b
  | [], [] => by simp [Lib.compareBytes, cmpK]
  | [], _ :: _ => by simp [Lib.compareBytes, cmpK]
  | _ :: _, [] => by simp [Lib.compareBytes, cmpK]
  | x :: a, y :: b => by
    unfold Lib.compareBytes
    rw [compareBytes_eq a b]
    unfold cmpK
    simp only [List.cons_lt_cons_iff]
    by_cases h1 : x < y
    · simp [h1]
    · by_cases h2 : y < x
      · have hne : ¬ x = y := fun e => by subst e; exact UInt8.lt_irrefl _ h2
        simp [h1, h2, hne]
      · have he : x = y := UInt8.le_antisymm (UInt8.not_lt.1 h2) (UInt8.not_lt.1 h1)
        subst he
        simp [UInt8.lt_irrefl]
theorem cmpB_eq (a b : List UInt8) : cmpB a b = cmpK a b := (Lib.cmp_eq _ _).trans (compareBytes_eq a b)
theorem cmp45 (a b : List UInt8) : TT.lim 45 [.s a, .s b] = some [.i .i64 (cmpK a b)] := prim_lim rfl (by rw [← cmpB_eq]; rfl)
theorem cmp44 (d e : List Ent) (hd : few12 d = true) (he : few12 e = true) : TT.lim 44 [.l (d.map ent), .l (e.map ent)] = some [.i .i64 (cmpK (keyF d) (keyF e))] := by
  have k1 := key6 d hd
  have k2 := key6 e he
  have k3 := cmp45 (keyF d) (keyF e)
  refine fn_lim rfl rfl ?_ rfl
  simp [k1, k2, k3]
theorem add46 (x y : Int) (h1 : 0 ≤ x) (h2 : 0 ≤ y) : TT.lim 46 [.i .u64 x, .i .u64 y, .i .u64 0] = some [.i .u64 ((x + y) % 18446744073709551616), .i .u64 ((x + y) / 18446744073709551616)] := prim_lim rfl (by
  unfold add64P
  simp only
  rw [if_pos ⟨h1, h2, by omega, by omega⟩]
  simp only [Int.add_zero])
/-! ### A table as what it has of each key -/
def val : List Row → List UInt8 → Int
  | [], _ => 0
  | r :: rs, k => if K r = k then r.2 else val rs k
def Pos (t : List Row) : Prop := ∀ r ∈ t, 0 < r.2 ∧ r.2 < 18446744073709551616
theorem val_none : ∀ {t : List Row} {k : List UInt8}, (∀ r ∈ t, K r ≠ k) → val t k = 0
  | [], _, _ => rfl
  | r :: t, k, h => by unfold val; rw [if_neg (h r (by simp))]; exact val_none fun x hx => h x (by simp [hx])
theorem val_mem : ∀ {t : List Row}, Rise t → ∀ r ∈ t, val t (K r) = r.2
  | [], _, r, h => by simp at h
  | x :: t, ht, r, h => by
    have ht' := List.pairwise_cons.1 ht
    unfold val
    rcases List.mem_cons.1 h with rfl | h
    · rw [if_pos rfl]
    · rw [if_neg fun e => by have := ht'.1 r h; rw [e] at this; exact List.lt_irrefl _ this]
      exact val_mem ht'.2 r h
theorem val_cases : ∀ (t : List Row) (k : List UInt8), (∃ r ∈ t, K r = k ∧ val t k = r.2) ∨ ((∀ r ∈ t, K r ≠ k) ∧ val t k = 0)
  | [], k => .inr ⟨by simp, rfl⟩
  | x :: t, k => by
    unfold val
    by_cases h : K x = k
    · exact .inl ⟨x, by simp, h, by rw [if_pos h]⟩
    · rw [if_neg h]
      rcases val_cases t k with ⟨r, h1, h2, h3⟩ | ⟨h1, h2⟩
      · exact .inl ⟨r, by simp [h1], h2, h3⟩
      · refine .inr ⟨fun r hr => ?_, h2⟩
        rcases List.mem_cons.1 hr with rfl | hr
        · exact h
        · exact h1 r hr
theorem val_nonneg {t : List Row} (hp : Pos t) (k : List UInt8) : 0 ≤ val t k ∧ val t k < 18446744073709551616 := by
  rcases val_cases t k with ⟨r, h1, h2, h3⟩ | ⟨h1, h2⟩
  · have := hp r h1; omega
  · omega
theorem val_pos {t : List Row} (hp : Pos t) {k : List UInt8} (h : 0 < val t k) : ∃ r ∈ t, K r = k ∧ val t k = r.2 := by
  rcases val_cases t k with h1 | ⟨h1, h2⟩
  · exact h1
  · omega
theorem val_ext {a b : List Row} (ha : Rise a) (hb : Rise b) (pa : Pos a) (pb : Pos b) (h : ∀ k, val a k = val b k) : a = b := by
  have key : ∀ {a b : List Row}, Rise a → Rise b → Pos a → Pos b → (∀ k, val a k = val b k) → ∀ r ∈ a, r ∈ b := by
    intro a b ha hb pa pb h r hr
    have h1 := val_mem ha r hr
    have h2 := (pa r hr).1
    obtain ⟨s, hs, h3, h4⟩ := val_pos pb (k := K r) (by rw [← h]; omega)
    have : s = r := Prod.ext (keyF_inj h3) (by rw [← h4, ← h, h1])
    rw [← this]; exact hs
  exact rise_eq ha hb (key ha hb pa pb h) (key hb ha pb pa fun k => (h k).symm)
/-! ### Two tables joined -/
def mergeR : List Row → List Row → Option (List Row)
  | [], b => some b
  | x :: a, [] => some (x :: a)
  | x :: a, y :: b =>
    if K x < K y then (mergeR a (y :: b)).map (x :: ·)
    else if K y < K x then (mergeR (x :: a) b).map (y :: ·)
    else if x.2 + y.2 < 18446744073709551616 then (mergeR a b).map ((x.1, x.2 + y.2) :: ·) else none
termination_by a b => a.length + b.length
def Keys (a b m : List Row) : Prop := ∀ r ∈ m, ∃ s, (s ∈ a ∨ s ∈ b) ∧ s.1 = r.1
theorem merge_some : ∀ (a b : List Row) {m : List Row}, Rise a → Rise b → Pos a → Pos b → mergeR a b = some m → Rise m ∧ (∀ k, val m k = val a k + val b k) ∧ Keys a b m ∧ Pos m := by
  intro a b
  induction a, b using mergeR.induct with
  | case1 b =>
    intro m ha hb pa pb h
    rw [mergeR] at h; cases h
    exact ⟨hb, fun k => by simp [val], fun r hr => ⟨r, .inr hr, rfl⟩, pb⟩
  | case2 x a =>
    intro m ha hb pa pb h
    rw [mergeR] at h; cases h
    exact ⟨ha, fun k => by simp [val], fun r hr => ⟨r, .inl hr, rfl⟩, pa⟩
  | case3 x a y b hlt ih =>
    intro m ha hb pa pb h
    rw [mergeR, if_pos hlt] at h
    obtain ⟨m', h', rfl⟩ := Option.map_eq_some_iff.1 h
    have ha' := List.pairwise_cons.1 ha
    have hb' := List.pairwise_cons.1 hb
    obtain ⟨h1, h2, h3, h4⟩ := ih ha'.2 hb (fun r hr => pa r (by simp [hr])) pb h'
    have hx : ∀ s, s ∈ a ∨ s ∈ y :: b → K x < K s := by
      rintro s (hs | hs)
      · exact ha'.1 s hs
      · rcases List.mem_cons.1 hs with rfl | hs
        · exact hlt
        · exact List.lt_trans hlt (hb'.1 s hs)
    refine ⟨List.Pairwise.cons (fun r hr => ?_) h1, fun k => ?_, fun r hr => ?_, fun r hr => ?_⟩
    · obtain ⟨s, hs, e⟩ := h3 r hr
      have := hx s hs
      show K x < keyF r.1
      rw [← e]; exact this
    · show (if K x = k then x.2 else val m' k) = (if K x = k then x.2 else val a k) + val (y :: b) k
      split
      · next e =>
        rw [val_none (t := y :: b) fun r hr e2 => by have := hx r (.inr hr); rw [e, e2] at this; exact List.lt_irrefl _ this]
        omega
      · exact h2 k
    · rcases List.mem_cons.1 hr with rfl | hr
      · exact ⟨r, .inl (by simp), rfl⟩
      · obtain ⟨s, hs, e⟩ := h3 r hr
        exact ⟨s, hs.imp (fun h => by simp [h]) id, e⟩
    · rcases List.mem_cons.1 hr with rfl | hr
      · exact pa r (by simp)
      · exact h4 r hr
  | case4 x a y b hlt hgt ih =>
    intro m ha hb pa pb h
    rw [mergeR, if_neg hlt, if_pos hgt] at h
    obtain ⟨m', h', rfl⟩ := Option.map_eq_some_iff.1 h
    have ha' := List.pairwise_cons.1 ha
    have hb' := List.pairwise_cons.1 hb
    obtain ⟨h1, h2, h3, h4⟩ := ih ha hb'.2 pa (fun r hr => pb r (by simp [hr])) h'
    have hx : ∀ s, s ∈ x :: a ∨ s ∈ b → K y < K s := by
      rintro s (hs | hs)
      · rcases List.mem_cons.1 hs with rfl | hs
        · exact hgt
        · exact List.lt_trans hgt (ha'.1 s hs)
      · exact hb'.1 s hs
    refine ⟨List.Pairwise.cons (fun r hr => ?_) h1, fun k => ?_, fun r hr => ?_, fun r hr => ?_⟩
    · obtain ⟨s, hs, e⟩ := h3 r hr
      have := hx s hs
      show K y < keyF r.1
      rw [← e]; exact this
    · show (if K y = k then y.2 else val m' k) = val (x :: a) k + (if K y = k then y.2 else val b k)
      split
      · next e =>
        rw [val_none (t := x :: a) fun r hr e2 => by have := hx r (.inl hr); rw [e, e2] at this; exact List.lt_irrefl _ this]
        omega
      · exact h2 k
    · rcases List.mem_cons.1 hr with rfl | hr
      · exact ⟨r, .inr (by simp), rfl⟩
      · obtain ⟨s, hs, e⟩ := h3 r hr
        exact ⟨s, hs.imp id (fun h => by simp [h]), e⟩
    · rcases List.mem_cons.1 hr with rfl | hr
      · exact pb r (by simp)
      · exact h4 r hr
  | case5 x a y b hlt hgt hs ih =>
    intro m ha hb pa pb h
    rw [mergeR, if_neg hlt, if_neg hgt, if_pos hs] at h
    obtain ⟨m', h', rfl⟩ := Option.map_eq_some_iff.1 h
    have ha' := List.pairwise_cons.1 ha
    have hb' := List.pairwise_cons.1 hb
    have he : K x = K y := List.le_antisymm (List.not_lt.1 hgt) (List.not_lt.1 hlt)
    obtain ⟨h1, h2, h3, h4⟩ := ih ha'.2 hb'.2 (fun r hr => pa r (by simp [hr])) (fun r hr => pb r (by simp [hr])) h'
    have hx : ∀ s, s ∈ a ∨ s ∈ b → K x < K s := by
      rintro s (hs | hs)
      · exact ha'.1 s hs
      · rw [he]; exact hb'.1 s hs
    refine ⟨List.Pairwise.cons (fun r hr => ?_) h1, fun k => ?_, fun r hr => ?_, fun r hr => ?_⟩
    · obtain ⟨s, hs, e⟩ := h3 r hr
      have := hx s hs
      show keyF x.1 < keyF r.1
      rw [← e]; exact this
    · show (if K x = k then x.2 + y.2 else val m' k) = (if K x = k then x.2 else val a k) + (if K y = k then y.2 else val b k)
      rw [he]
      split
      · rfl
      · exact h2 k
    · rcases List.mem_cons.1 hr with rfl | hr
      · exact ⟨x, .inl (by simp), rfl⟩
      · obtain ⟨s, hs, e⟩ := h3 r hr
        exact ⟨s, hs.imp (fun h => by simp [h]) (fun h => by simp [h]), e⟩
    · rcases List.mem_cons.1 hr with rfl | hr
      · have q1 := pa x (by simp); have q2 := pb y (by simp)
        exact ⟨by simp only; omega, hs⟩
      · exact h4 r hr
  | case6 x a y b hlt hgt hs =>
    intro m ha hb pa pb h
    rw [mergeR, if_neg hlt, if_neg hgt, if_neg hs] at h; cases h
theorem val_above {t : List Row} {k : List UInt8} (h : ∀ r ∈ t, k < K r) : val t k = 0 := val_none fun r hr e => by have := h r hr; rw [e] at this; exact List.lt_irrefl _ this
theorem merge_none : ∀ (a b : List Row), Rise a → Rise b → mergeR a b = none → ∃ k, 18446744073709551616 ≤ val a k + val b k := by
  intro a b
  induction a, b using mergeR.induct with
  | case1 b => intro ha hb h; rw [mergeR] at h; cases h
  | case2 x a => intro ha hb h; rw [mergeR] at h; cases h
  | case3 x a y b hlt ih =>
    intro ha hb h
    rw [mergeR, if_pos hlt] at h
    have ha' := List.pairwise_cons.1 ha
    have hb' := List.pairwise_cons.1 hb
    obtain ⟨k, hk⟩ := ih ha'.2 hb (Option.map_eq_none_iff.1 h)
    refine ⟨k, ?_⟩
    by_cases e : K x = k
    · exfalso
      subst e
      rw [val_above ha'.1, val_above (t := y :: b) fun r hr => ?_] at hk
      · omega
      · rcases List.mem_cons.1 hr with rfl | hr
        · exact hlt
        · exact List.lt_trans hlt (hb'.1 r hr)
    · show _ ≤ (if K x = k then x.2 else val a k) + _
      rw [if_neg e]; exact hk
  | case4 x a y b hlt hgt ih =>
    intro ha hb h
    rw [mergeR, if_neg hlt, if_pos hgt] at h
    have ha' := List.pairwise_cons.1 ha
    have hb' := List.pairwise_cons.1 hb
    obtain ⟨k, hk⟩ := ih ha hb'.2 (Option.map_eq_none_iff.1 h)
    refine ⟨k, ?_⟩
    by_cases e : K y = k
    · exfalso
      subst e
      rw [val_above hb'.1, val_above (t := x :: a) fun r hr => ?_] at hk
      · omega
      · rcases List.mem_cons.1 hr with rfl | hr
        · exact hgt
        · exact List.lt_trans hgt (ha'.1 r hr)
    · show _ ≤ _ + (if K y = k then y.2 else val b k)
      rw [if_neg e]; exact hk
  | case5 x a y b hlt hgt hs ih =>
    intro ha hb h
    rw [mergeR, if_neg hlt, if_neg hgt, if_pos hs] at h
    have ha' := List.pairwise_cons.1 ha
    have hb' := List.pairwise_cons.1 hb
    have he : K x = K y := List.le_antisymm (List.not_lt.1 hgt) (List.not_lt.1 hlt)
    obtain ⟨k, hk⟩ := ih ha'.2 hb'.2 (Option.map_eq_none_iff.1 h)
    refine ⟨k, ?_⟩
    by_cases e : K x = k
    · exfalso
      subst e
      rw [val_above ha'.1, val_above (t := b) fun r hr => by rw [he]; exact hb'.1 r hr] at hk
      omega
    · show _ ≤ (if K x = k then x.2 else val a k) + (if K y = k then y.2 else val b k)
      rw [if_neg e, ← he, if_neg e]; exact hk
  | case6 x a y b hlt hgt hs =>
    intro ha hb h
    have he : K x = K y := List.le_antisymm (List.not_lt.1 hgt) (List.not_lt.1 hlt)
    refine ⟨K x, ?_⟩
    show _ ≤ (if K x = K x then x.2 else val a _) + (if K y = K x then y.2 else val b _)
    rw [if_pos rfl, if_pos he.symm]; omega
/-- Lengths, by keys. -/
theorem rise_len : ∀ {a b : List Row}, Rise a → Rise b → (∀ r ∈ a, ∃ s ∈ b, K s = K r) → a.length ≤ b.length
  | [], _, _, _, _ => Nat.zero_le _
  | _ :: _, [], _, _, h => by obtain ⟨s, hs, _⟩ := h _ (List.mem_cons_self ..); simp at hs
  | x :: a, y :: b, ha, hb, h => by
    have ha' := List.pairwise_cons.1 ha
    have hb' := List.pairwise_cons.1 hb
    have hxy : K y = K x ∨ K y < K x := by
      obtain ⟨s, hs, e⟩ := h x (by simp)
      rcases List.mem_cons.1 hs with rfl | hs
      · exact .inl e
      · right; rw [← e]; exact hb'.1 s hs
    have := rise_len ha'.2 hb'.2 fun r hr => by
      obtain ⟨s, hs, e⟩ := h r (by simp [hr])
      rcases List.mem_cons.1 hs with rfl | hs
      · have h1 := ha'.1 r hr
        rw [← e] at h1
        rcases hxy with e2 | e2
        · rw [e2] at h1; exact absurd h1 (List.lt_irrefl _)
        · exact absurd (List.lt_trans h1 e2) (List.lt_irrefl _)
      · exact ⟨s, hs, e⟩
    simp only [List.length_cons]; omega
theorem lsub_tail (x : GV) (l : List Row) (n : Int) (hx : x.cells.length = 2) (hn : n = l.length + 1) : lsub3 2 (some (.l (x :: l.map row))) (some (.i .i64 1)) (some (.i .i64 n)) = some (.l (l.map row)) := by
  subst hn
  rw [lsub3_i, if_pos ⟨by omega, by omega, by simp, by rw [List.all_cons]; simp [hx, row_cells]⟩]
  · congr 2
    have h1 : ((l.length : Int) + 1).toNat = l.length + 1 := by omega
    rw [h1, List.take_of_length_le (by simp)]; rfl
def outM (acc : List Row) : Option (List Row) → List GV
  | some m => [.i .i64 1, .l ((acc ++ m).map row)]
  | none => [.i .i64 0]
theorem few40 {d : List Ent} (h : few12 d = true) : d.length ≤ 40 := by
  unfold few12 at h; simp at h; omega
theorem cmpK_lt {a b : List UInt8} (h : a < b) : cmpK a b = -1 := by unfold cmpK; rw [if_pos h]
theorem cmpK_gt {a b : List UInt8} (h1 : ¬ a < b) (h : b < a) : cmpK a b = 1 := by unfold cmpK; rw [if_neg h1, if_pos h]
theorem cmpK_eq {a b : List UInt8} (h1 : ¬ a < b) (h : ¬ b < a) : cmpK a b = 0 := by unfold cmpK; rw [if_neg h1, if_neg h]
def Few (t : List Row) : Prop := ∀ r ∈ t, few12 r.1 = true
set_option maxHeartbeats 4000000 in
theorem loop43 : ∀ (n : Nat) (a b acc : List Row), a.length + b.length ≤ n → acc.length + a.length + b.length ≤ 1000 → Few a → Few b → (∀ r ∈ a, 0 ≤ r.2 ∧ r.2 < 18446744073709551616) → (∀ r ∈ b, 0 ≤ r.2 ∧ r.2 < 18446744073709551616) →
    TT.lim 43 [.l (a.map row), .l (b.map row), .l (acc.map row)] = some (outM acc (mergeR a b)) := by
  intro n
  induction n with
  | zero =>
    intro a b acc hn hb fa fb va vb
    obtain rfl : a = [] := List.eq_nil_of_length_eq_zero (by omega)
    obtain rfl : b = [] := List.eq_nil_of_length_eq_zero (by omega)
    rw [mergeR]
    refine tree_lim rfl rfl ?_
    simp [outM]
  | succ n ih =>
    intro a b acc hn hb fa fb va vb
    cases a with
    | nil =>
      cases b with
      | nil =>
        rw [mergeR]
        refine tree_lim rfl rfl ?_
        simp [outM]
      | cons y b =>
        simp only [List.length_nil, List.length_cons, Nat.zero_add] at hn hb
        have ih' := ih [] b (acc ++ [y]) (by simp; omega) (by simp; omega) fa (fun r hr => fb r (by simp [hr])) va (fun r hr => vb r (by simp [hr]))
        rw [mergeR] at ih' ⊢
        simp only [outM, List.append_assoc, List.singleton_append, List.map_append, List.map_cons, List.map_nil] at ih' ⊢
        have kc := clone23 y.1 (few40 (fb y (by simp)))
        have hrow : GV.g [.l (y.1.map ent), .i .u64 y.2] = row y := rfl
        have hok : (row y).elemOk 2 = true := rfl
        have hl := lsub_tail (row y) b ((b.length : Int) + 1) rfl rfl
        have hbb : 2 * (acc.length + 1) * 32 ≤ 281474976710656 ∧ acc.length + 1 ≤ 281474976710656 := by omega
        have hp : (0 : Int) < (b.length : Int) + 1 := by omega
        have hp2 : ¬ ((b.length : Int) + 1 = 0) := by omega
        refine tree_lim rfl rfl ?_
        simp [-lsub3_i, kc, hrow, hok, hl, hbb, hp, hp2, ih']
    | cons x a =>
      cases b with
      | nil =>
        simp only [List.length_nil, List.length_cons, Nat.add_zero] at hn hb
        have ih' := ih a [] (acc ++ [x]) (by simp; omega) (by simp; omega) (fun r hr => fa r (by simp [hr])) fb (fun r hr => va r (by simp [hr])) vb
        have hm : mergeR a [] = some a := by cases a <;> rw [mergeR]
        rw [hm] at ih'
        rw [mergeR]
        simp only [outM, List.append_assoc, List.singleton_append, List.map_append, List.map_cons, List.map_nil] at ih' ⊢
        have kc := clone23 x.1 (few40 (fa x (by simp)))
        have hrow : GV.g [.l (x.1.map ent), .i .u64 x.2] = row x := rfl
        have hok : (row x).elemOk 2 = true := rfl
        have hl := lsub_tail (row x) a ((a.length : Int) + 1) rfl rfl
        have hbb : 2 * (acc.length + 1) * 32 ≤ 281474976710656 ∧ acc.length + 1 ≤ 281474976710656 := by omega
        have hp : (0 : Int) < (a.length : Int) + 1 := by omega
        have hp2 : ¬ ((a.length : Int) + 1 = 0) := by omega
        refine tree_lim rfl rfl ?_
        simp [-lsub3_i, kc, hrow, hok, hl, hbb, hp, hp2, ih']
      | cons y b =>
        simp only [List.length_cons] at hn hb
        have fx := fa x (by simp)
        have fy := fb y (by simp)
        have kcx := clone23 x.1 (few40 fx)
        have kcy := clone23 y.1 (few40 fy)
        have hrx : GV.g [.l (x.1.map ent), .i .u64 x.2] = row x := rfl
        have hry : GV.g [.l (y.1.map ent), .i .u64 y.2] = row y := rfl
        have hrs : GV.g [.l (x.1.map ent), .i .u64 (x.2 + y.2)] = row (x.1, x.2 + y.2) := rfl
        have hok : ∀ r : Row, (row r).elemOk 2 = true := fun r => rfl
        have hlx := lsub_tail (row x) a ((a.length : Int) + 1) rfl rfl
        have hly := lsub_tail (row y) b ((b.length : Int) + 1) rfl rfl
        have hbb : 2 * (acc.length + 1) * 32 ≤ 281474976710656 ∧ acc.length + 1 ≤ 281474976710656 := by omega
        have hp : (0 : Int) < (a.length : Int) + 1 := by omega
        have hp2 : ¬ ((a.length : Int) + 1 = 0) := by omega
        have hq : (0 : Int) < (b.length : Int) + 1 := by omega
        have hq2 : ¬ ((b.length : Int) + 1 = 0) := by omega
        have kcmp := cmp44 x.1 y.1 fx fy
        have kadd := add46 x.2 y.2 (va x (by simp)).1 (vb y (by simp)).1
        have vx := va x (by simp)
        have vy := vb y (by simp)
        by_cases h1 : K x < K y
        · have ih' := ih a (y :: b) (acc ++ [x]) (by simp; omega) (by simp; omega) (fun r hr => fa r (by simp [hr])) fb (fun r hr => va r (by simp [hr])) vb
          rw [mergeR, if_pos h1]
          rw [cmpK_lt h1] at kcmp
          have e : outM (acc ++ [x]) (mergeR a (y :: b)) = outM acc ((mergeR a (y :: b)).map (x :: ·)) := by cases mergeR a (y :: b) <;> simp [outM]
          rw [e] at ih'
          generalize outM acc ((mergeR a (y :: b)).map (x :: ·)) = out at ih' ⊢
          simp only [List.map_append, List.map_cons, List.map_nil] at ih'
          refine tree_lim rfl rfl ?_
          simp [-lsub3_i, kcx, kcy, hrx, hry, hok, hlx, hly, hbb, hp, hp2, hq, hq2, kcmp, ih']
        by_cases h2 : K y < K x
        · have ih' := ih (x :: a) b (acc ++ [y]) (by simp; omega) (by simp; omega) fa (fun r hr => fb r (by simp [hr])) va (fun r hr => vb r (by simp [hr]))
          rw [mergeR, if_neg h1, if_pos h2]
          rw [cmpK_gt h1 h2] at kcmp
          have e : outM (acc ++ [y]) (mergeR (x :: a) b) = outM acc ((mergeR (x :: a) b).map (y :: ·)) := by cases mergeR (x :: a) b <;> simp [outM]
          rw [e] at ih'
          generalize outM acc ((mergeR (x :: a) b).map (y :: ·)) = out at ih' ⊢
          simp only [List.map_append, List.map_cons, List.map_nil] at ih'
          refine tree_lim rfl rfl ?_
          simp [-lsub3_i, kcx, kcy, hrx, hry, hok, hlx, hly, hbb, hp, hp2, hq, hq2, kcmp, ih']
        rw [mergeR, if_neg h1, if_neg h2]
        rw [cmpK_eq h1 h2] at kcmp
        by_cases h3 : x.2 + y.2 < 18446744073709551616
        · have ih' := ih a b (acc ++ [(x.1, x.2 + y.2)]) (by omega) (by simp; omega) (fun r hr => fa r (by simp [hr])) (fun r hr => fb r (by simp [hr])) (fun r hr => va r (by simp [hr])) (fun r hr => vb r (by simp [hr]))
          rw [if_pos h3]
          have e : outM (acc ++ [(x.1, x.2 + y.2)]) (mergeR a b) = outM acc ((mergeR a b).map ((x.1, x.2 + y.2) :: ·)) := by cases mergeR a b <;> simp [outM]
          rw [e] at ih'
          generalize outM acc ((mergeR a b).map ((x.1, x.2 + y.2) :: ·)) = out at ih' ⊢
          simp only [List.map_append, List.map_cons, List.map_nil] at ih'
          rw [show (x.2 + y.2) % 18446744073709551616 = x.2 + y.2 by omega, show (x.2 + y.2) / 18446744073709551616 = 0 by omega] at kadd
          refine tree_lim rfl rfl ?_
          simp [-lsub3_i, kcx, kcy, hrx, hry, hrs, hok, hlx, hly, hbb, hp, hp2, hq, hq2, kcmp, kadd, ih']
        · rw [if_neg h3]
          rw [show (x.2 + y.2) / 18446744073709551616 = 1 by omega] at kadd
          refine tree_lim rfl rfl ?_
          simp [-lsub3_i, kcx, kcy, hrx, hry, hok, hlx, hly, hbb, hp, hp2, hq, hq2, kcmp, kadd, outM]
end D
end Go.Proofs.YtamcdgfjjeldeaaGreatDoor
