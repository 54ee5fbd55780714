/- The document's checks, told of trees. -/
import Derived.Test.YtamcdgfjjeldeaaGreatDoorKDPlD
import Derived.Lib.TrimUEq
import Derived.Lib.MapLaws
namespace Go.Proofs.YtamcdgfjjeldeaaGreatDoor
open Go Go.Abs
set_option linter.unusedSimpArgs false
set_option linter.unusedVariables false
set_option maxRecDepth 100000
namespace D
def contOut : Option (Int × Int × Int) → List GV
  | some (a, b, c) => [.i .i64 1, .i .i64 a, .i .i64 b, .i .i64 c]
  | none => [.i .i64 0]
theorem end69 (s : List UInt8) (size n least : Int) : TT.lim 69 [.s s, .i .i64 size, .i .i64 n, .i .i64 least, .i .i64 size] = some (contOut (some (size, n, least))) := by
  refine tree_lim rfl rfl ?_
  simp [contOut]
def atI (s : List UInt8) (k : Nat) : Int := ((s.getD k 0).toNat : Int)
theorem atI_b (s : List UInt8) (k : Nat) : 0 ≤ atI s k ∧ atI s k < 256 := by unfold atI; have := (s.getD k 0).toNat_lt; omega
theorem at_some {s : List UInt8} {k : Nat} (h : k < s.length) : s[k]? = some (s.getD k 0) := by simp [List.getD, h]
theorem step69 (s : List UInt8) (size n least : Int) (i : Nat) (hi : (i : Int) < size) (hl : i < s.length) (h0 : 0 ≤ n) (h1 : n < 1000000000000) (hs : size < 1000) :
    ∀ out, (if atI s i < 128 then some (contOut none) else if 192 ≤ atI s i then some (contOut none) else TT.lim 69 [.s s, .i .i64 size, .i .i64 (64 * n + atI s i - 128), .i .i64 least, .i .i64 ((i : Int) + 1)]) = some out →
    TT.lim 69 [.s s, .i .i64 size, .i .i64 n, .i .i64 least, .i .i64 i] = some out := by
  intro out h
  have hb := atI_b s i
  have hx : (s[i]?).bind (fun c => some (GV.i .u8 c.toNat)) = some (.i .u8 (atI s i)) := by rw [at_some hl]; rfl
  generalize atI s i = x at *
  have w1 := wrap64 (n := x) (by omega) (by omega)
  refine tree_lim rfl rfl ?_
  by_cases c1 : x < 128
  · rw [if_pos c1] at h
    rw [← h]
    simp [hi, hx, w1, c1, contOut]
  rw [if_neg c1] at h
  by_cases c2 : 192 ≤ x
  · rw [if_pos c2] at h
    rw [← h]
    simp [hi, hx, w1, c1, c2, contOut]
  rw [if_neg c2] at h
  have w2 := wrap64 (n := 64 * n) (by omega) (by omega)
  have w3 := wrap64 (n := 64 * n + x) (by omega) (by omega)
  have w4 := wrap64 (n := 64 * n + x - 128) (by omega) (by omega)
  have w5 := wrap64 (n := (i : Int) + 1) (by omega) (by omega)
  simp [hi, hx, w1, c1, c2, w2, w3, w4, w5, h]
def finI (v least size : Int) : Int := if v < least then 0 else if 1114111 < v then 0 else if 55296 ≤ v ∧ v < 57344 then 0 else size
abbrev badI (x : Int) : Prop := x < 128 ∨ 192 ≤ x
def firstI (n b0 b1 b2 b3 : Int) : Int :=
  if n = 0 then 0 else if b0 < 128 then 1 else if b0 < 192 then 0
  else if b0 < 224 then (if n < 2 then 0 else if badI b1 then 0 else finI (64 * (b0 - 192) + b1 - 128) 128 2)
  else if b0 < 240 then (if n < 3 then 0 else if badI b1 ∨ badI b2 then 0 else finI (64 * (64 * (b0 - 224) + b1 - 128) + b2 - 128) 2048 3)
  else if b0 < 248 then (if n < 4 then 0 else if badI b1 ∨ badI b2 ∨ badI b3 then 0 else finI (64 * (64 * (64 * (b0 - 240) + b1 - 128) + b2 - 128) + b3 - 128) 65536 4)
  else 0
/-- What the loop comes to: two, three, four bytes. -/
theorem loop2 (s : List UInt8) (n least : Int) (hl : 2 ≤ s.length) (h0 : 0 ≤ n) (h1 : n < 64) :
    TT.lim 69 [.s s, .i .i64 2, .i .i64 n, .i .i64 least, .i .i64 1] = some (contOut (if badI (atI s 1) then none else some (2, 64 * n + atI s 1 - 128, least))) := by
  refine step69 s 2 n least 1 (by decide) (by omega) h0 (by omega) (by decide) _ ?_
  have e := end69 s 2 (64 * n + atI s 1 - 128) least
  by_cases c : badI (atI s 1)
  · rw [if_pos c]
    rcases c with c | c
    · exact if_pos c
    · rw [if_neg (by omega)]; exact if_pos c
  · rw [if_neg c, if_neg (fun h => c (.inl h)), if_neg (fun h => c (.inr h))]; exact e
theorem loop3b (s : List UInt8) (n least : Int) (hl : 3 ≤ s.length) (h0 : 0 ≤ n) (h1 : n < 64) :
    TT.lim 69 [.s s, .i .i64 3, .i .i64 n, .i .i64 least, .i .i64 1] = some (contOut (if badI (atI s 1) ∨ badI (atI s 2) then none else some (3, 64 * (64 * n + atI s 1 - 128) + atI s 2 - 128, least))) := by
  have a1 := atI_b s 1
  refine step69 s 3 n least 1 (by decide) (by omega) h0 (by omega) (by decide) _ ?_
  by_cases c : badI (atI s 1)
  · rw [if_pos (show badI (atI s 1) ∨ badI (atI s 2) from .inl c)]
    rcases c with c | c
    · exact if_pos c
    · rw [if_neg (by omega)]; exact if_pos c
  · rw [if_neg (fun h => c (.inl h)), if_neg (fun h => c (.inr h))]
    have c1 : 128 ≤ atI s 1 := by omega
    refine step69 s 3 _ least 2 (by decide) (by omega) (by show 0 ≤ 64 * n + atI s 1 - 128; omega) (by show 64 * n + atI s 1 - 128 < _; omega) (by decide) _ ?_
    have e := end69 s 3 (64 * (64 * n + atI s 1 - 128) + atI s 2 - 128) least
    by_cases d : badI (atI s 2)
    · rw [if_pos (show badI (atI s 1) ∨ badI (atI s 2) from .inr d)]
      rcases d with d | d
      · exact if_pos d
      · rw [if_neg (by omega)]; exact if_pos d
    · rw [if_neg (show ¬ (badI (atI s 1) ∨ badI (atI s 2)) by simp [c, d]), if_neg (fun h => d (.inl h)), if_neg (fun h => d (.inr h))]; exact e
theorem loop4 (s : List UInt8) (n least : Int) (hl : 4 ≤ s.length) (h0 : 0 ≤ n) (h1 : n < 64) :
    TT.lim 69 [.s s, .i .i64 4, .i .i64 n, .i .i64 least, .i .i64 1] = some (contOut (if badI (atI s 1) ∨ badI (atI s 2) ∨ badI (atI s 3) then none else some (4, 64 * (64 * (64 * n + atI s 1 - 128) + atI s 2 - 128) + atI s 3 - 128, least))) := by
  have a1 := atI_b s 1
  have a2 := atI_b s 2
  refine step69 s 4 n least 1 (by decide) (by omega) h0 (by omega) (by decide) _ ?_
  by_cases c : badI (atI s 1)
  · rw [if_pos (show badI (atI s 1) ∨ badI (atI s 2) ∨ badI (atI s 3) from .inl c)]
    rcases c with c | c
    · exact if_pos c
    · rw [if_neg (by omega)]; exact if_pos c
  · rw [if_neg (fun h => c (.inl h)), if_neg (fun h => c (.inr h))]
    have c1 : 128 ≤ atI s 1 := by omega
    refine step69 s 4 _ least 2 (by decide) (by omega) (by show 0 ≤ 64 * n + atI s 1 - 128; omega) (by show 64 * n + atI s 1 - 128 < _; omega) (by decide) _ ?_
    by_cases d : badI (atI s 2)
    · rw [if_pos (show badI (atI s 1) ∨ badI (atI s 2) ∨ badI (atI s 3) from .inr (.inl d))]
      rcases d with d | d
      · exact if_pos d
      · rw [if_neg (by omega)]; exact if_pos d
    · rw [if_neg (fun h => d (.inl h)), if_neg (fun h => d (.inr h))]
      have d1 : 128 ≤ atI s 2 := by omega
      refine step69 s 4 _ least 3 (by decide) (by omega) (by show 0 ≤ 64 * (64 * n + atI s 1 - 128) + atI s 2 - 128; omega) (by show 64 * (64 * n + atI s 1 - 128) + atI s 2 - 128 < _; omega) (by decide) _ ?_
      have e := end69 s 4 (64 * (64 * (64 * n + atI s 1 - 128) + atI s 2 - 128) + atI s 3 - 128) least
      by_cases f : badI (atI s 3)
      · rw [if_pos (show badI (atI s 1) ∨ badI (atI s 2) ∨ badI (atI s 3) from .inr (.inr f))]
        rcases f with f | f
        · exact if_pos f
        · rw [if_neg (by omega)]; exact if_pos f
      · rw [if_neg (show ¬ (badI (atI s 1) ∨ badI (atI s 2) ∨ badI (atI s 3)) by simp [c, d, f]), if_neg (fun h => f (.inl h)), if_neg (fun h => f (.inr h))]; exact e
def firstF (s : List UInt8) : Int := firstI s.length (atI s 0) (atI s 1) (atI s 2) (atI s 3)
theorem contOut_b {c : Prop} [Decidable c] (x : Int × Int × Int) (h : c) : contOut (if c then none else some x) = [.i .i64 0] := by rw [if_pos h]; rfl
theorem contOut_g {c : Prop} [Decidable c] (a b d : Int) (h : ¬ c) : contOut (if c then none else some (a, b, d)) = [.i .i64 1, .i .i64 a, .i .i64 b, .i .i64 d] := by rw [if_neg h]; rfl
set_option maxHeartbeats 4000000 in
theorem first68 (s : List UInt8) (hl : s.length ≤ 140737488351232) : TT.lim 68 [.s s] = some [.i .i64 (firstF s)] := by
  have hb := atI_b s 0
  have k2 := fun hl h0 h1 => loop2 s (atI s 0 - 192) 128 hl h0 h1
  have k3 := fun hl h0 h1 => loop3b s (atI s 0 - 224) 2048 hl h0 h1
  have k4 := fun hl h0 h1 => loop4 s (atI s 0 - 240) 65536 hl h0 h1
  unfold firstF firstI
  by_cases hn : s.length = 0
  · refine fn_lim rfl rfl ?_ rfl
    simp [hn]
  have hn' : ¬ (s.length : Int) = 0 := by omega
  have hne : ¬ s = [] := fun e => hn (by rw [e]; rfl)
  have hx : (s[0]?).bind (fun c => some (GV.i .u8 c.toNat)) = some (.i .u8 (atI s 0)) := by rw [at_some (by omega)]; rfl
  have w1 := wrap64 (n := atI s 0) (by omega) (by omega)
  rw [if_neg hn']
  generalize atI s 0 = x at *
  generalize atI s 1 = b1 at *
  generalize atI s 2 = b2 at *
  generalize atI s 3 = b3 at *
  by_cases c0 : x < 128
  · refine fn_lim rfl rfl ?_ rfl
    simp [hn', hne, hx, w1, c0]
  by_cases c1 : x < 192
  · have d1 : ¬ 192 ≤ x := by omega
    have d2 : ¬ 224 ≤ x := by omega
    have d3 : ¬ 240 ≤ x := by omega
    refine fn_lim rfl rfl ?_ rfl
    simp [hn', hne, hx, w1, c0, c1, d1, d2, d3]
  have d1 : 192 ≤ x := by omega
  have w2 := wrap64 (n := x - 192) (by omega) (by omega)
  by_cases c2 : x < 224
  · rw [if_neg c0, if_neg c1, if_pos c2]
    by_cases n2 : (s.length : Int) < 2
    · refine fn_lim rfl rfl ?_ rfl
      simp [hn', hne, hx, w1, c0, d1, c2, w2, n2]
    rw [if_neg n2]
    have k := k2 (by omega) (by omega) (by omega)
    by_cases e1 : badI b1
    · rw [contOut_b _ e1] at k
      rw [if_pos e1]
      refine fn_lim rfl rfl ?_ rfl
      simp [hn', hne, hx, w1, c0, d1, c2, w2, n2, k]
    rw [contOut_g _ _ _ e1] at k
    rw [if_neg e1]
    generalize 64 * (x - 192) + b1 - 128 = v at *
    unfold finI
    by_cases f1 : v < 128
    · refine fn_lim rfl rfl ?_ rfl
      simp [hn', hne, hx, w1, c0, d1, c2, w2, n2, k, f1]
    by_cases f2 : 1114111 < v
    · refine fn_lim rfl rfl ?_ rfl
      simp [hn', hne, hx, w1, c0, d1, c2, w2, n2, k, f1, f2]
    by_cases f3 : 55296 ≤ v
    · by_cases f4 : v < 57344
      · refine fn_lim rfl rfl ?_ rfl
        simp [hn', hne, hx, w1, c0, d1, c2, w2, n2, k, f1, f2, f3, f4]
      · refine fn_lim rfl rfl ?_ rfl
        simp [hn', hne, hx, w1, c0, d1, c2, w2, n2, k, f1, f2, f3, f4]
    · refine fn_lim rfl rfl ?_ rfl
      simp [hn', hne, hx, w1, c0, d1, c2, w2, n2, k, f1, f2, f3]
  have d2 : 224 ≤ x := by omega
  have w3 := wrap64 (n := x - 224) (by omega) (by omega)
  by_cases c3 : x < 240
  · rw [if_neg c0, if_neg c1, if_neg c2, if_pos c3]
    by_cases n2 : (s.length : Int) < 3
    · refine fn_lim rfl rfl ?_ rfl
      simp [hn', hne, hx, w1, c0, d1, c2, d2, c3, w3, n2]
    rw [if_neg n2]
    have k := k3 (by omega) (by omega) (by omega)
    by_cases e1 : badI b1 ∨ badI b2
    · rw [contOut_b _ e1] at k
      rw [if_pos e1]
      refine fn_lim rfl rfl ?_ rfl
      simp [hn', hne, hx, w1, c0, d1, c2, d2, c3, w3, n2, k]
    rw [contOut_g _ _ _ e1] at k
    rw [if_neg e1]
    generalize 64 * (64 * (x - 224) + b1 - 128) + b2 - 128 = v at *
    unfold finI
    by_cases f1 : v < 2048
    · refine fn_lim rfl rfl ?_ rfl
      simp [hn', hne, hx, w1, c0, d1, c2, d2, c3, w3, n2, k, f1]
    by_cases f2 : 1114111 < v
    · refine fn_lim rfl rfl ?_ rfl
      simp [hn', hne, hx, w1, c0, d1, c2, d2, c3, w3, n2, k, f1, f2]
    by_cases f3 : 55296 ≤ v
    · by_cases f4 : v < 57344
      · refine fn_lim rfl rfl ?_ rfl
        simp [hn', hne, hx, w1, c0, d1, c2, d2, c3, w3, n2, k, f1, f2, f3, f4]
      · refine fn_lim rfl rfl ?_ rfl
        simp [hn', hne, hx, w1, c0, d1, c2, d2, c3, w3, n2, k, f1, f2, f3, f4]
    · refine fn_lim rfl rfl ?_ rfl
      simp [hn', hne, hx, w1, c0, d1, c2, d2, c3, w3, n2, k, f1, f2, f3]
  have d3 : 240 ≤ x := by omega
  have w4 := wrap64 (n := x - 240) (by omega) (by omega)
  by_cases c4 : x < 248
  · rw [if_neg c0, if_neg c1, if_neg c2, if_neg c3, if_pos c4]
    by_cases n2 : (s.length : Int) < 4
    · refine fn_lim rfl rfl ?_ rfl
      simp [hn', hne, hx, w1, c0, d1, c2, d2, c3, d3, c4, w4, n2]
    rw [if_neg n2]
    have k := k4 (by omega) (by omega) (by omega)
    by_cases e1 : badI b1 ∨ badI b2 ∨ badI b3
    · rw [contOut_b _ e1] at k
      rw [if_pos e1]
      refine fn_lim rfl rfl ?_ rfl
      simp [hn', hne, hx, w1, c0, d1, c2, d2, c3, d3, c4, w4, n2, k]
    rw [contOut_g _ _ _ e1] at k
    rw [if_neg e1]
    generalize 64 * (64 * (64 * (x - 240) + b1 - 128) + b2 - 128) + b3 - 128 = v at *
    unfold finI
    by_cases f1 : v < 65536
    · refine fn_lim rfl rfl ?_ rfl
      simp [hn', hne, hx, w1, c0, d1, c2, d2, c3, d3, c4, w4, n2, k, f1]
    by_cases f2 : 1114111 < v
    · refine fn_lim rfl rfl ?_ rfl
      simp [hn', hne, hx, w1, c0, d1, c2, d2, c3, d3, c4, w4, n2, k, f1, f2]
    by_cases f3 : 55296 ≤ v
    · by_cases f4 : v < 57344
      · refine fn_lim rfl rfl ?_ rfl
        simp [hn', hne, hx, w1, c0, d1, c2, d2, c3, d3, c4, w4, n2, k, f1, f2, f3, f4]
      · refine fn_lim rfl rfl ?_ rfl
        simp [hn', hne, hx, w1, c0, d1, c2, d2, c3, d3, c4, w4, n2, k, f1, f2, f3, f4]
    · refine fn_lim rfl rfl ?_ rfl
      simp [hn', hne, hx, w1, c0, d1, c2, d2, c3, d3, c4, w4, n2, k, f1, f2, f3]
  · refine fn_lim rfl rfl ?_ rfl
    simp [hn', hne, hx, w1, c0, c1, d1, c2, d2, c3, d3, c4]
set_option maxHeartbeats 8000000 in
/-- It is the model's own way of decoding. -/
theorem firstI_N (n b0 b1 b2 b3 : Nat) (hn : 0 < n) (h0 : b0 < 256) (h1 : b1 < 256) (h2 : b2 < 256) (h3 : b3 < 256) : firstI n b0 b1 b2 b3 = if (Lib.decodeN n b0 b1 b2 b3).1 = 65533 ∧ (Lib.decodeN n b0 b1 b2 b3).2 = 1 then 0 else ((Lib.decodeN n b0 b1 b2 b3).2 : Nat) := by
  generalize hd : Lib.decodeN n b0 b1 b2 b3 = d
  unfold Lib.decodeN at hd
  unfold firstI finI
  rw [if_neg (by omega)]
  repeat' split at hd
  all_goals subst hd
  all_goals dsimp only
  · rw [if_pos (by omega), if_neg (by omega)]; rfl
  all_goals rw [if_neg (show ¬ (b0 : Int) < 128 by omega)]
  all_goals first | rw [if_neg (by omega)] | rw [if_pos (show True ∧ True from ⟨trivial, trivial⟩)] | skip
  all_goals (repeat' split)
  all_goals first | omega | (simp only [not_true_eq_false, and_self] at *; omega)
theorem firstF_eq (s : List UInt8) (hne : s ≠ []) : firstF s = if (Lib.decodeL s).1 = 65533 ∧ (Lib.decodeL s).2 = 1 then 0 else ((Lib.decodeL s).2 : Nat) := by
  unfold firstF atI
  rw [Lib.decodeL_N]
  exact firstI_N _ _ _ _ _ (List.length_pos_iff.2 hne) (UInt8.toNat_lt _) (UInt8.toNat_lt _) (UInt8.toNat_lt _) (UInt8.toNat_lt _)
theorem decodeL_pos (s : List UInt8) : 1 ≤ (Lib.decodeL s).2 := by
  rw [Lib.decodeL_N]
  rcases Lib.decodeN_shape s.length (s.getD 0 0).toNat (s.getD 1 0).toNat (s.getD 2 0).toNat (s.getD 3 0).toNat with ⟨_, e⟩ | ⟨_, _, _, _, e⟩ | ⟨_, _, _, _, _, _, e⟩ | ⟨_, _, _, _, _, _, _, e⟩ | e
  all_goals rw [e]; dsimp only; omega
theorem loop67 : ∀ (n : Nat) (s : List UInt8), s.length ≤ n → s.length ≤ 140737488351232 → TT.lim 67 [.s s] = some (if Lib.validGoD n s = true then [.i .i64 1] else [.i .i64 0])
  | 0, s, hn, hl => by
    obtain rfl : s = [] := List.eq_nil_of_length_eq_zero (by omega)
    refine tree_lim rfl rfl ?_
    simp [Lib.validGoD]
  | n + 1, s, hn, hl => by
    by_cases hne : s = []
    · subst hne
      refine tree_lim rfl rfl ?_
      simp [Lib.validGoD]
    have hp := List.length_pos_iff.2 hne
    have k := first68 s hl
    have hf := firstF_eq s hne
    have hle := Lib.decodeL_le s hne
    have hd := decodeL_pos s
    have hp' : (0 : Int) < (s.length : Int) := by omega
    unfold Lib.validGoD
    rw [if_neg hne]
    by_cases c : (Lib.decodeL s).1 = 65533 ∧ (Lib.decodeL s).2 = 1
    · rw [if_pos c] at hf
      rw [hf] at k
      rw [if_pos c]
      refine tree_lim rfl rfl ?_
      simp [hp, hp', k]
    · rw [if_neg c] at hf
      rw [hf] at k
      rw [if_neg c]
      have ih := loop67 n (s.drop (Lib.decodeL s).2) (by simp; omega) (by simp; omega)
      generalize (Lib.decodeL s).2 = w at *
      have hw : ¬ w = 0 := by omega
      have ht : List.take s.length s = s := List.take_length
      refine tree_lim rfl rfl ?_
      simp [hp, hp', k, hw, hle, ht, ih]
theorem good66 (s : List UInt8) (h : s.length ≤ 140737488351232) : TT.lim 66 [.s s] = some [.b (Lib.validD s)] := by
  have k := loop67 s.length s (Nat.le_refl _) h
  unfold Lib.validD
  refine fn_lim rfl rfl ?_ rfl
  cases hv : Lib.validGoD s.length s <;> rw [hv] at k <;> simp at k <;> simp [k]
theorem check65 (s : List UInt8) (lo hi : Int) (h : s.length ≤ 140737488351232) : TT.lim 65 [.s s, .i .i64 lo, .i .i64 hi] = some [.i .i64 (utfChk s lo hi)] := by
  have h20 := good66 s h
  refine fn_lim rfl rfl ?_ rfl
  unfold utfChk
  by_cases h1 : (s.length : Int) < lo
  · simp [h1]
  · by_cases h2 : hi < (s.length : Int)
    · simp [h1, h2]
    · cases hv : Lib.validD s <;> rw [hv] at h20 <;> simp [h1, h2, h20, hv]
theorem entcheck64 (x : Ent) (h1 : x.1.length ≤ 140737488351232) (h2 : x.2.length ≤ 140737488351232) : TT.lim 64 [ent x] = some [.i .i64 (entChk x)] := by
  have k1 := check65 x.1 1 64 h1
  have k2 := check65 x.2 0 256 h2
  refine fn_lim rfl rfl ?_ rfl
  unfold entChk
  by_cases h : utfChk x.1 1 64 = 0
  · simp [k1, h, k2]
  · simp [k1, h]
/-! ### How texts compare -/
def diffAt : List UInt8 → List UInt8 → Option Bool
  | x :: a, y :: b => if x = y then diffAt a b else some (decide (x < y))
  | _, _ => none
theorem bytesLess_diff : ∀ a b : List UInt8, Op.bytesLess a b = (diffAt a b).getD (decide (a.length < b.length))
  | [], [] => rfl
  | [], _ :: _ => by simp [Op.bytesLess, diffAt]
  | _ :: _, [] => by simp [Op.bytesLess, diffAt]
  | x :: a, y :: b => by
    unfold Op.bytesLess diffAt
    rw [bytesLess_diff a b]
    by_cases h : x = y
    · subst h
      simp [UInt8.lt_irrefl]
    · simp [h]
def out73 (a b : List UInt8) : Option Bool → List GV
  | some r => [.i .i64 0, .b r]
  | none => [.i .i64 1, .s a, .s b]
theorem loop73 (a b : List UInt8) (ha : a.length ≤ 140737488351232) (hb : b.length ≤ 140737488351232) : ∀ m i : Nat, i + m = a.length → TT.lim 73 [.s a, .s b, .i .i64 i] = some (out73 a b (diffAt (a.drop i) (b.drop i)))
  | 0, i, hi => by
    have h0 : a.drop i = [] := List.drop_eq_nil_of_le (by omega)
    have h : ¬ ((i : Int) < a.length) := by omega
    refine tree_lim rfl rfl ?_
    simp [h, h0, diffAt, out73]
  | m + 1, i, hi => by
    have hlt : i < a.length := by omega
    have h : ((i : Int) < a.length) := by omega
    by_cases hlb : i < b.length
    rotate_left
    · have h0 : b.drop i = [] := List.drop_eq_nil_of_le (by omega)
      have h1 : ¬ ((i : Int) < b.length) := by omega
      have hd : diffAt (a.drop i) [] = none := by cases a.drop i <;> rfl
      refine tree_lim rfl rfl ?_
      simp [h, h0, h1, hd, out73]
    have hb1 : ((i : Int) < b.length) := by omega
    have ih : TT.lim 73 [.s a, .s b, .i .i64 ((i : Int) + 1)] = _ := loop73 a b ha hb m (i + 1) (by omega)
    have hw := wrap64 (n := (i : Int) + 1) (by omega) (by omega)
    rw [List.drop_eq_getElem_cons hlt, List.drop_eq_getElem_cons hlb]
    unfold diffAt
    by_cases e : a[i] = b[i]
    · rw [if_pos e]
      have e' : ((a[i].toNat : Int) = (b[i].toNat : Int)) = True := eq_true (by rw [e])
      refine tree_lim rfl rfl ?_
      simp [h, hlt, hlb, hb1, e', hw, ih]
    · rw [if_neg e]
      have e' : ¬ (a[i].toNat : Int) = (b[i].toNat : Int) := fun h => e (UInt8.toNat_inj.1 (by omega))
      have hd : decide (a[i] < b[i]) = decide (a[i].toNat < b[i].toNat) := by rw [Bool.eq_iff_iff]; simp [UInt8.lt_iff_toNat_lt]
      refine tree_lim rfl rfl ?_
      simp [h, hlt, hlb, hb1, e', hd, out73]
theorem less72 (a b : List UInt8) (ha : a.length ≤ 140737488351232) (hb : b.length ≤ 140737488351232) : TT.lim 72 [.s a, .s b] = some [.b (Op.bytesLess a b)] := by
  have k : TT.lim 73 [.s a, .s b, .i .i64 0] = _ := loop73 a b ha hb a.length 0 (by omega)
  rw [List.drop_zero, List.drop_zero] at k
  rw [bytesLess_diff]
  refine fn_lim rfl rfl ?_ rfl
  cases hd : diffAt a b with
  | none =>
    rw [hd] at k
    have hl : decide ((a.length : Int) < (b.length : Int)) = decide (a.length < b.length) := by rw [Bool.eq_iff_iff]; simp
    simp [k, out73, hl]
  | some r =>
    rw [hd] at k
    simp [k, out73]
def cmpE (x y : Ent) : Int := if Op.bytesLess x.1 y.1 = true then -1 else if x.1 = y.1 ∧ Op.bytesLess x.2 y.2 = true then -1 else if x = y then 0 else 1
structure SmallE (x : Ent) : Prop where
  key : x.1.length ≤ 140737488351232
  val : x.2.length ≤ 140737488351232
theorem cmp71 (x y : Ent) (hx : SmallE x) (hy : SmallE y) : TT.lim 71 [ent x, ent y] = some [.i .i64 (cmpE x y)] := by
  have k1 := less72 x.1 y.1 hx.key hy.key
  have k2 := less72 x.2 y.2 hx.val hy.val
  have ke := eqGs_ent x y
  unfold cmpE
  refine fn_lim rfl rfl ?_ rfl
  cases h1 : Op.bytesLess x.1 y.1 with
  | true => rw [h1] at k1; simp [k1]
  | false =>
    rw [h1] at k1
    by_cases h2 : x.1 = y.1
    · have h2' : (x.1 = y.1) = True := eq_true h2
      clear h2
      cases h3 : Op.bytesLess x.2 y.2 with
      | true => rw [h3] at k2; simp [k1, h2', k2]
      | false =>
        rw [h3] at k2
        by_cases h4 : x = y
        · have h4' : decide (x = y) = true := by simp [h4]
          rw [h4'] at ke
          have h4'' : (x = y) = True := eq_true h4
          clear h4
          simp [k1, h2', k2, ke, h4'']
        · have h4' : decide (x = y) = false := by simp [h4]
          rw [h4'] at ke
          simp [k1, h2', k2, ke, h4]
    · by_cases h4 : x = y
      · exact absurd (by rw [h4]) h2
      · have h4' : decide (x = y) = false := by simp [h4]
        rw [h4'] at ke
        simp [k1, h2, ke, h4]
def behE (p x : List UInt8) : Int := if x = p then 14 else if Op.bytesLess x p = true then 7 else 0
theorem behind70 (p x : Ent) (hp : SmallE p) (hx : SmallE x) : TT.lim 70 [ent p, ent x] = some [.i .i64 (behE p.1 x.1)] := by
  have k := cmp71 p x hp hx
  have e1 : GV.g [.s p.1, .s p.2] = ent p := rfl
  have e2 : GV.g [.s x.1, .s x.2] = ent x := rfl
  unfold behE
  by_cases h1 : x.1 = p.1
  · have h1' : (p.1 = x.1) = True := eq_true h1.symm
    rw [if_pos h1]
    refine fn_lim rfl rfl ?_ rfl
    simp [h1']
  rw [if_neg h1]
  have h1' : ¬ p.1 = x.1 := fun e => h1 e.symm
  have hne : ¬ p = x := fun e => h1' (by rw [e])
  have hc : cmpE p x = if Op.bytesLess x.1 p.1 = true then 1 else -1 := by
    unfold cmpE
    by_cases h2 : p.1 < x.1
    · rw [if_pos ((bl_iff _ _).2 h2), if_neg fun h => List.lt_irrefl _ (List.lt_trans h2 ((bl_iff _ _).1 h))]
    · have h3 : x.1 < p.1 := by
        rcases List.le_iff_lt_or_eq.1 (List.not_lt.1 h2) with h | h
        · exact h
        · exact absurd h h1
      rw [if_neg fun h => h2 ((bl_iff _ _).1 h), if_neg fun h => h1' h.1, if_neg hne, if_pos ((bl_iff _ _).2 h3)]
  rw [hc] at k
  refine fn_lim rfl rfl ?_ rfl
  cases h3 : Op.bytesLess x.1 p.1 with
  | true => rw [h3] at k; simp [h1', e1, e2, k]
  | false => rw [h3] at k; simp [h1', e1, e2, k]
theorem Ents.small {d : List Ent} (h : Ents d) : ∀ x ∈ d, SmallE x := fun x hx => ⟨(h.2 x hx).1, (h.2 x hx).2⟩
theorem loop63_stop (d : List Ent) (e i : Int) (he : e ≠ 0) : TT.lim 63 [.l (d.map ent), .i .i64 e, .i .i64 i] = some [.i .i64 0, .i .i64 e] := by
  refine tree_lim rfl rfl ?_
  by_cases h : i < (d.length : Int)
  · simp [h, he]
  · simp [h]
theorem loop63 (d : List Ent) (hd : Ents d) : ∀ m i : Nat, i + m = d.length → TT.lim 63 [.l (d.map ent), .i .i64 0, .i .i64 i] = some [.i .i64 0, .i .i64 (chkL (prevK d i) (d.drop i))]
  | 0, i, hi => by
    have h0 : d.drop i = [] := List.drop_eq_nil_of_le (by omega)
    refine tree_lim rfl rfl ?_
    have h : ¬ ((i : Int) < d.length) := by omega
    simp [h, h0, chkL]
  | m + 1, i, hi => by
    have hlt : i < d.length := by omega
    have hx := hd.small d[i] (List.getElem_mem hlt)
    have hp := entcheck64 d[i] hx.key hx.val
    have ih : TT.lim 63 [.l (d.map ent), .i .i64 0, .i .i64 ((i : Int) + 1)] = _ := loop63 d hd m (i + 1) (by omega)
    have hst := fun e he => loop63_stop d e ((i : Int) + 1) he
    have hpk : prevK d (i + 1) = some d[i].1 := by unfold prevK; rw [if_neg (by omega)]; simp [hlt]
    rw [hpk] at ih
    have hdr : d.drop i = d[i] :: d.drop (i + 1) := List.drop_eq_getElem_cons hlt
    rw [hdr]
    have h : ((i : Int) < d.length) := by omega
    have hw := wrap64 (n := (i : Int) + 1) (by omega) (by have := hd.1; omega)
    have he : GV.g [GV.s d[i].1, GV.s d[i].2] = ent d[i] := rfl
    by_cases h1 : entChk d[i] = 0
    rotate_left
    · have hs := hst _ h1
      have hc : chkL (prevK d i) (d[i] :: d.drop (i + 1)) = entChk d[i] := by
        cases prevK d i <;> simp [chkL, h1]
      rw [hc]
      refine tree_lim rfl rfl ?_
      simp [h, hlt, he, hp, h1, hw, hs]
    by_cases h0 : i = 0
    · subst h0
      have hc : chkL (prevK d 0) (d[0] :: d.drop 1) = chkL (some d[0].1) (d.drop 1) := by simp [prevK, chkL, h1]
      rw [hc]
      simp only [Int.natCast_zero, Int.zero_add] at hw ih
      have hpos : (0 : Int) < (d.length : Int) := by omega
      generalize chkL (some d[0].1) (d.drop 1) = out at *
      refine tree_lim rfl rfl ?_
      simp [h, hlt, hpos, he, hp, h1, hw, ih]
    · have hi1 : i - 1 < d.length := by omega
      have hpk2 : prevK d i = some d[i - 1].1 := by unfold prevK; rw [if_neg h0]; simp [hi1]
      have hw2 := wrap64 (n := (i : Int) - 1) (by omega) (by have := hd.1; omega)
      have hi0 : (0 : Int) < (i : Int) := by omega
      have hi0n : 0 < i := by omega
      have ht : ((i : Int) - 1).toNat = i - 1 := by omega
      have hnl : (1 : Int) ≤ (i : Int) := by omega
      have hge : (0 : Int) ≤ (i : Int) - 1 := by omega
      have hy := hd.small d[i - 1] (List.getElem_mem hi1)
      have kb := behind70 d[i - 1] d[i] hy hx
      have he2 : GV.g [GV.s d[i - 1].1, GV.s d[i - 1].2] = ent d[i - 1] := rfl
      have hc : chkL (prevK d i) (d[i] :: d.drop (i + 1)) = if behE d[i - 1].1 d[i].1 ≠ 0 then behE d[i - 1].1 d[i].1 else chkL (some d[i].1) (d.drop (i + 1)) := by
        rw [hpk2]
        unfold behE
        conv => lhs; unfold chkL
        rw [if_neg (by simp [h1])]
        by_cases q1 : d[i].1 = d[i - 1].1
        · simp [q1]
        · by_cases q2 : Op.bytesLess d[i].1 d[i - 1].1 = true
          · simp [q1, q2]
          · simp [q1, q2]
      rw [hc]
      have hst2 := hst (behE d[i - 1].1 d[i].1)
      generalize behE d[i - 1].1 d[i].1 = bb at *
      generalize chkL (some d[i].1) (d.drop (i + 1)) = out at *
      by_cases hb : bb = 0
      · subst hb
        refine tree_lim rfl rfl ?_
        simp [h, hlt, he, he2, hp, h1, hi0, hi0n, hw2, ht, hge, hi1, hnl, kb, hw, ih]
      · have hs := hst2 hb
        refine tree_lim rfl rfl ?_
        simp [h, hlt, he, he2, hp, h1, hi0, hi0n, hw2, ht, hge, hi1, hnl, kb, hw, hb, hs]
theorem check62 (d : List Ent) (hd : Ents d) : TT.lim 62 [.l (d.map ent)] = some [.i .i64 (descrChk d)] := by
  have h17 : TT.lim 63 [.l (d.map ent), .i .i64 0, .i .i64 0] = _ := loop63 d hd d.length 0 (by omega)
  have hpk : prevK d 0 = none := rfl
  rw [hpk, List.drop_zero] at h17
  have w1 := wrapu64 (n := (d.length : Int)) (by omega) (by have := hd.1; omega)
  have s1 := loop63_stop d 12 0 (by decide)
  have s2 := loop63_stop d 13 0 (by decide)
  refine fn_lim rfl rfl ?_ rfl
  unfold descrChk
  by_cases h0 : d.length = 0
  · have : d = [] := List.eq_nil_of_length_eq_zero h0
    subst this
    simp only [List.map_nil] at s1
    simp [IntKind.wrap, IntKind.signed, s1]
  · have hne : ¬ d = [] := fun e => h0 (by rw [e]; rfl)
    by_cases h1 : 16 < d.length
    · have h1' : (16 : Int) < (d.length : Int) := by omega
      simp [w1, h0, hne, h1, h1', s2]
    · have h1' : ¬ (16 : Int) < (d.length : Int) := by omega
      simp [w1, h0, hne, h1, h1', h17]
theorem rowchk61 (r : Row) (hd : Ents r.1) : TT.lim 61 [row r] = some [.i .i64 (rowChk r)] := by
  have k := check62 r.1 hd
  refine fn_lim rfl rfl ?_ rfl
  unfold rowChk
  by_cases h : descrChk r.1 = 0
  · by_cases h2 : r.2 = 0
    · simp [k, h, h2]
    · simp [k, h, h2]
  · simp [k, h]
end D
end Go.Proofs.YtamcdgfjjeldeaaGreatDoor
