/- What a script's words want of Go's library, told: cutting at a byte, words, numbers. -/
import Derived.Test.YtdpjiaedcmagdaaGreatDoorAbsTold
import Derived.Lib.SplitLaws
import Derived.Lib.FieldsP
import Derived.Lib.ItoaNum
import Derived.Lib.IndexBytes
import Derived.Lib.ParseIntB
import Derived.Laws.RangeString
import Derived.Laws.RangeAny
import Derived.Lib.RuneCount
import Derived.Shelf.GgClosure.StringsIndexFunc
namespace Go.Abs
open Go.RowKit
noncomputable section
set_option linter.unusedSectionVars false
set_option linter.unusedVariables false
variable {P : Program}

/-! ### Cutting at a byte -/
def cutF (c : UInt8) : List UInt8 → List (List UInt8)
  | [] => [[]]
  | b :: l => if b = c then [] :: cutF c l else match cutF c l with | [] => [[b]] | x :: r => (b :: x) :: r
theorem split_cut (c : UInt8) : ∀ l, Lib.splitK [c] 0 (Lib.count l [c]) l = cutF c l
  | [] => by simp [Lib.count_one, Lib.splitK, cutF]
  | b :: l => by
    have ih := split_cut c l
    by_cases h : b = c
    · subst h
      rw [Lib.count_cons_eq, Nat.add_comm, Lib.splitK]
      have hi : Lib.index (b :: l) [b] = 0 := by rw [Lib.index_one]; simp [Lib.indexByte]
      rw [hi]
      simp [cutF, ih]
    · rw [Lib.count_cons_ne b c l h]
      have hi : Lib.index (b :: l) [c] = if Lib.index l [c] = -1 then -1 else Lib.index l [c] + 1 := by
        rw [Lib.index_one, Lib.index_one, Lib.indexByte]
        simp [h]
      cases hk : Lib.count l [c] with
      | zero =>
        rw [hk] at ih
        simp only [Lib.splitK] at ih ⊢
        unfold cutF
        rw [if_neg h, ← ih]
      | succ k =>
        rw [hk] at ih
        have hne : Lib.index l [c] ≠ -1 := fun e => by rw [Lib.count_miss e] at hk; cases hk
        have hge : -1 ≤ Lib.index l [c] := by rw [Lib.index_one]; exact Lib.indexByte_ge _ _
        obtain ⟨i, hix⟩ : ∃ i : Nat, Lib.index l [c] = i := ⟨(Lib.index l [c]).toNat, by omega⟩
        rw [if_neg hne, hix] at hi
        have e1 : ¬ ((i : Int) == -1) = true := by simp
        have e2 : ¬ (((i : Int) + 1) == -1) = true := by simp; omega
        have e3 : ((i : Int) + 1).toNat = i + 1 := by omega
        rw [Lib.splitK, hix, if_neg e1] at ih
        rw [Lib.splitK, hi, if_neg e2, e3]
        unfold cutF
        rw [if_neg h, ← ih]
        simp only [Int.toNat_natCast, Nat.add_zero, List.take_succ_cons, List.length_singleton, List.drop_succ_cons]
theorem cutF_app {c : UInt8} {l : List UInt8} : ∀ {w : List UInt8}, c ∉ w → cutF c (w ++ l) = match cutF c l with | [] => [w] | x :: r => (w ++ x) :: r
  | [], _ => by
    cases h : cutF c l with
    | nil =>
      cases l with
      | nil => cases h
      | cons b l =>
        unfold cutF at h
        split at h
        · cases h
        · split at h <;> cases h
    | cons x r => simpa using h
  | b :: w, hw => by
    have hb : ¬ b = c := fun e => hw (by simp [e])
    rw [List.cons_append, cutF, if_neg hb, cutF_app (fun h => hw (List.mem_cons_of_mem _ h))]
    cases cutF c l <;> rfl
def wordsF (l : List UInt8) : List (List UInt8) := (cutF 32 l).filter fun w => !w.isEmpty
theorem words_nil : wordsF [] = [] := rfl
theorem words_sp (l : List UInt8) : wordsF (32 :: l) = wordsF l := by simp [wordsF, cutF]
theorem words_word {w : List UInt8} (hw : w ≠ []) (h : (32 : UInt8) ∉ w) (l : List UInt8) : wordsF (w ++ 32 :: l) = w :: wordsF l := by
  unfold wordsF
  rw [cutF_app h]
  simp [cutF, hw]
theorem words_last {w : List UInt8} (hw : w ≠ []) (h : (32 : UInt8) ∉ w) : wordsF w = [w] := by
  have := cutF_app (l := []) h
  rw [List.append_nil] at this
  unfold wordsF
  rw [this]
  simp [cutF, hw]

/-! ### Runes and bytes -/
theorem get_byte (s : ByteArray) {k : Nat} (h : k < s.size) : s.data.toList[k]? = some (s[k]'h) := by
  obtain ⟨⟨l⟩⟩ := s
  rw [List.getElem?_eq_getElem (by simpa [ByteArray.size] using h)]
  rfl
theorem get!_byte (s : ByteArray) {k : Nat} (h : k < s.size) : s.get! k = s[k]'h := by
  obtain ⟨d⟩ := s
  show d[k]! = d[k]'h
  exact getElem!_pos d k h
/-- A rune of several bytes: those behind its first one are not below 128. -/
theorem decode_span (s : ByteArray) (pos : Nat) (h : pos < s.size) : pos + (Utf8.decode s pos).2 ≤ s.size ∧ ∀ k, 1 ≤ k → k < (Utf8.decode s pos).2 → 128 ≤ (s.get! (pos + k)).toNat := by
  unfold Utf8.decode
  simp only [Bool.and_eq_true, decide_eq_true_eq, beq_iff_eq]
  repeat' split
  all_goals refine ⟨by simp only; omega, fun k h1 h2 => ?_⟩
  all_goals (simp only at h2)
  all_goals first | (exfalso; omega) | skip
  · obtain rfl : k = 1 := by omega
    omega
  · rcases (show k = 1 ∨ k = 2 by omega) with rfl | rfl <;> omega
  · rcases (show k = 1 ∨ k = 2 ∨ k = 3 by omega) with rfl | rfl | rfl <;> omega
theorem spans_words (s : ByteArray) : ∀ (f pos : Nat) (st : Option Nat) (acc : List (Nat × Nat)), s.size ≤ pos + f → pos ≤ s.size → (∀ a, st = some a → a < pos ∧ (32 : UInt8) ∉ (s.data.toList.drop a).take (pos - a)) →
    (Lib.closeSpans s (Lib.spansFromP (fun x => x == 32) s f pos st acc)).map (fun x => (s.extract x.1 x.2).data.toList) = acc.map (fun x => (s.extract x.1 x.2).data.toList) ++ wordsF (s.data.toList.drop (st.getD pos)) := by
  have hL : s.data.toList.length = s.size := by obtain ⟨⟨l⟩⟩ := s; rfl
  have fin : ∀ (pos : Nat) (st : Option Nat) (acc : List (Nat × Nat)), pos = s.size → (∀ a, st = some a → a < pos ∧ (32 : UInt8) ∉ (s.data.toList.drop a).take (pos - a)) →
      (Lib.closeSpans s (acc, st)).map (fun x => (s.extract x.1 x.2).data.toList) = acc.map (fun x => (s.extract x.1 x.2).data.toList) ++ wordsF (s.data.toList.drop (st.getD pos)) := by
    intro pos st acc hp hst
    cases st with
    | none =>
      rw [Option.getD_none, List.drop_eq_nil_of_le (by omega), words_nil, List.append_nil]
      rfl
    | some a =>
      obtain ⟨h1, h2⟩ := hst a rfl
      have e : (s.data.toList.drop a).take (pos - a) = s.data.toList.drop a := List.take_of_length_le (by rw [List.length_drop]; omega)
      rw [e] at h2
      rw [Option.getD_some, words_last (by intro e; have := congrArg List.length e; rw [List.length_drop] at this; simp at this; omega) h2]
      simp only [Lib.closeSpans, List.map_append, List.map_cons, List.map_nil]
      rw [Lib.extract_data, ← hp, e]
  intro f
  induction f with
  | zero =>
    intro pos st acc h1 h2 hst
    exact fin pos st acc (by omega) hst
  | succ f ih =>
    intro pos st acc h1 h2 hst
    by_cases hp : pos < s.size
    rotate_left
    · rw [Lib.spansFromP_end _ _ _ _ _ _ hp]
      exact fin pos st acc (by omega) hst
    have hb := get_byte s hp
    have hdrop : s.data.toList.drop pos = (s[pos]'hp) :: s.data.toList.drop (pos + 1) := by
      rw [List.drop_eq_getElem_cons (by omega)]
      congr 1
    by_cases h32 : (s[pos]'hp) = 32
    · have hd : Utf8.decode s pos = (32, 1) := by
        rw [Go.decode_ascii s pos hp (by rw [h32]; decide), h32]
        rfl
      unfold Lib.spansFromP
      rw [if_pos hp, hd]
      simp only [beq_self_eq_true, if_true]
      rw [h32] at hdrop
      cases st with
      | none =>
        rw [ih (pos + 1) none acc (by omega) (by omega) (fun a e => by cases e), Option.getD_none, Option.getD_none, hdrop, words_sp]
      | some a =>
        obtain ⟨g1, g2⟩ := hst a rfl
        rw [ih (pos + 1) none _ (by omega) (by omega) (fun a e => by cases e), Option.getD_none, Option.getD_some]
        have e : s.data.toList.drop a = (s.data.toList.drop a).take (pos - a) ++ 32 :: s.data.toList.drop (pos + 1) := by
          rw [← hdrop]
          have := List.take_append_drop (pos - a) (s.data.toList.drop a)
          rw [List.drop_drop, show a + (pos - a) = pos by omega] at this
          exact this.symm
        have hne : (s.data.toList.drop a).take (pos - a) ≠ [] := by
          intro e; have := congrArg List.length e
          rw [List.length_take, List.length_drop] at this; simp at this; omega
        rw [List.map_append, List.map_cons, List.map_nil, List.append_assoc, Lib.extract_data]
        congr 1
        conv => rhs; rw [e]
        rw [words_word hne g2]
        rfl
    · -- no blank: its bytes are none either
      have hr : ((Utf8.decode s pos).1 == 32) = false := by
        by_cases ha : (s[pos]'hp).toNat < 128
        · rw [Go.decode_ascii s pos hp ha]
          rw [beq_eq_false_iff_ne]
          intro e
          exact h32 (UInt8.toNat_inj.1 e)
        · have := (Go.decode_high s pos hp (by omega)).1
          rw [beq_eq_false_iff_ne]; omega
      have hd1 : 1 ≤ (Utf8.decode s pos).2 := Lib.decode_width_pos s pos hp
      obtain ⟨hd2, hd3⟩ := decode_span s pos hp
      unfold Lib.spansFromP
      rw [if_pos hp, if_neg (by rw [hr]; decide)]
      generalize (Utf8.decode s pos).2 = d at *
      have key : ∀ a, a ≤ pos → (32 : UInt8) ∉ (s.data.toList.drop a).take (pos - a) → (32 : UInt8) ∉ (s.data.toList.drop a).take (pos + d - a) := by
        intro a ha hn hm
        obtain ⟨k, hk⟩ := List.getElem?_of_mem hm
        rw [List.getElem?_take] at hk
        split at hk
        rotate_left
        · cases hk
        next hkl =>
        by_cases hk2 : k < pos - a
        · refine hn (List.mem_iff_getElem?.2 ⟨k, ?_⟩)
          rw [List.getElem?_take, if_pos hk2]; exact hk
        · rw [List.getElem?_drop] at hk
          obtain ⟨j, rfl⟩ : ∃ j, k = pos - a + j := ⟨k - (pos - a), by omega⟩
          rw [show a + (pos - a + j) = pos + j by omega] at hk
          by_cases hj : j = 0
          · subst hj
            rw [Nat.add_zero, hb] at hk
            exact h32 (Option.some.inj hk)
          · have := hd3 j (by omega) (by omega)
            have hlt : pos + j < s.size := by omega
            rw [get_byte s hlt] at hk
            rw [get!_byte s hlt, Option.some.inj hk] at this
            exact absurd this (by decide)
      cases st with
      | none =>
        rw [ih (pos + d) (some pos) acc (by omega) hd2 (fun a e => by cases e; exact ⟨by omega, key pos (Nat.le_refl _) (by simp)⟩), Option.getD_some, Option.getD_none]
      | some a =>
        obtain ⟨g1, g2⟩ := hst a rfl
        rw [ih (pos + d) (some a) acc (by omega) hd2 (fun b e => by cases e; exact ⟨by omega, key a (by omega) g2⟩), Option.getD_some, Option.getD_some]
theorem fields_words (s : ByteArray) : (Lib.goFieldsP (fun x => x == 32) s).map (·.data.toList) = wordsF s.data.toList := by
  have h := spans_words s s.size 0 none [] (by omega) (by omega) (fun a e => by cases e)
  rw [List.map_nil, List.nil_append, Option.getD_none, List.drop_zero] at h
  unfold Lib.goFieldsP Lib.spansOfP
  rw [List.map_map]
  exact h
theorem split_words (s : ByteArray) (c : UInt8) : (Lib.splitB ⟨#[c]⟩ 0 (Lib.countB s ⟨#[c]⟩) s).map (·.data.toList) = cutF c s.data.toList := by
  rw [Lib.splitB_data]
  exact split_cut c _

/-! ### Numbers -/
def digB (l : List UInt8) : Bool := l.all fun c => decide (48 ≤ c.toNat) && decide (c.toNat ≤ 57)
def oddR (x : Nat) : Bool := decide (x < 48) || decide (57 < x)
theorem odd_idx (s : ByteArray) : decide (0 ≤ Lib.idxFunc oddR true s) = !digB s.data.toList := by
  have hL : s.data.toList.length = s.size := by obtain ⟨⟨l⟩⟩ := s; rfl
  have key : ∀ (f pos : Nat), s.size ≤ pos + f → pos ≤ s.size → decide (0 ≤ Lib.idxFuncFrom oddR true s f pos) = !digB (s.data.toList.drop pos) := by
    have fin : ∀ pos, pos = s.size → (!digB (s.data.toList.drop pos)) = false := fun pos e => by rw [List.drop_eq_nil_of_le (by omega)]; rfl
    intro f
    induction f with
    | zero => intro pos h1 h2; rw [fin pos (by omega)]; rfl
    | succ f ih =>
      intro pos h1 h2
      by_cases hp : pos < s.size
      rotate_left
      · rw [Lib.idxFuncFrom_end _ _ _ _ _ hp, fin pos (by omega)]; rfl
      have hb := get_byte s hp
      have hdrop : s.data.toList.drop pos = (s[pos]'hp) :: s.data.toList.drop (pos + 1) := by
        rw [List.drop_eq_getElem_cons (by omega)]
        congr 1
      rw [Lib.idxFuncFrom, if_pos hp, hdrop]
      by_cases hdig : 48 ≤ (s[pos]'hp).toNat ∧ (s[pos]'hp).toNat ≤ 57
      · have hd : Utf8.decode s pos = ((s[pos]'hp).toNat, 1) := Go.decode_ascii s pos hp (by omega)
        have ho : oddR (s[pos]'hp).toNat = false := by unfold oddR; simp; omega
        rw [hd]
        simp only [ho, Bool.false_eq_true, if_false]
        rw [ih (pos + 1) (by omega) (by omega)]
        unfold digB
        rw [List.all_cons, decide_eq_true hdig.1, decide_eq_true hdig.2]
        rfl
      · have ho : oddR (Utf8.decode s pos).1 = true := by
          by_cases ha : (s[pos]'hp).toNat < 128
          · rw [Go.decode_ascii s pos hp ha]
            unfold oddR; simp; omega
          · have := (Go.decode_high s pos hp (by omega)).1
            unfold oddR; simp; omega
        rw [if_pos ho]
        have : (decide (48 ≤ (s[pos]'hp).toNat) && decide ((s[pos]'hp).toNat ≤ 57)) = false := by
          rw [Bool.and_eq_false_iff, decide_eq_false_iff_not, decide_eq_false_iff_not]; omega
        unfold digB
        rw [List.all_cons, this]
        simp
  have := key s.size 0 (by omega) (by omega)
  rw [List.drop_zero] at this
  exact this
def numF (l : List UInt8) : Nat × Int :=
  if l = [] ∨ digB l = false ∨ (1 < l.length ∧ l[0]? = some 48) then (0, 23) else match Lib.parseUintB 64 l with | .ok u => (u, 0) | _ => (0, 3)

/-! ### Told -/
def splitP : List GV → Option (List GV)
  | [.s x, .s [c]] => if x.length < 4294967281 then some [.l ((cutF c x).map .s)] else none
  | _ => none
def fieldsP : List GV → Option (List GV)
  | [.s x] => if x.length ≤ 4294967296 then some [.l ((wordsF x).map .s)] else none
  | _ => none
def numberP : List GV → Option (List GV)
  | [.s x] => if x.length ≤ 281474976710656 then some [.i .u64 ((numF x).1 : Nat), .i .i64 (numF x).2] else none
  | _ => none
def fmtUP : List GV → Option (List GV)
  | [.i .u64 n, .i .i64 b] => if (0 ≤ n ∧ n < 18446744073709551616) ∧ b = 10 then some [.s (Lib.decDigits n.toNat)] else none
  | _ => none
def itoaP : List GV → Option (List GV)
  | [.i .i64 n] => if -9223372036854775808 ≤ n ∧ n ≤ 9223372036854775807 then some [.s (Lib.itoa n)] else none
  | _ => none
theorem strs_GRs {ro : Nat → Option Obj} : ∀ (xs : List ByteArray), GRs ro ((xs.map (·.data.toList)).map .s) (xs.map Value.string)
  | [] => rfl
  | x :: xs => by
    simp only [List.map_cons, GRs]
    exact ⟨_, _, rfl, by simp only [GR], strs_GRs xs⟩
theorem strs_cells (xs : List ByteArray) : cellsL (xs.map Value.string) = xs.map Value.string := by
  unfold cellsL
  induction xs with
  | nil => rfl
  | cons x xs ih => rw [List.map_cons, List.flatMap_cons, ih]; rfl
/-- A new row of texts, frozen. -/
theorem strs_new {tabs : List (Nat × List AV)} {ro : Nat → Option Obj} {w w' : World} (hro : RoOk tabs ro w) (hb : Below w.heap.size w w') {v : Value} {t : TypeId} {n : Nat} {xs : List ByteArray} (hown : w'.ownsRow w.heap.size t 1 v n (xs.map Value.string)) (hn : n = xs.length) :
    GRs (roAll ro w w') [.l ((xs.map (·.data.toList)).map .s)] [v] := by
  subst hn
  simp only [GRs]
  refine ⟨_, _, rfl, ?_, rfl⟩
  obtain ⟨_, hown⟩ := hown
  simp only [GR]
  rcases hown with ⟨rfl, hn⟩ | ⟨g, cap, cur, rfl, hg, hb, hcap, _, hcs, htake⟩
  · left
    have : xs = [] := List.eq_nil_of_length_eq_zero hn
    subst this
    exact ⟨rfl, _, rfl⟩
  · right
    refine ⟨g, 0, cap, xs.map Value.string, 1, by simp, by simpa using hcap, strs_GRs xs, fun y hy => ?_, fun hne => ⟨cur, t, (0, 0), ?_, ?_, ?_⟩⟩
    · obtain ⟨x, _, rfl⟩ := List.mem_map.1 hy
      rfl
    · show (if g < w.heap.size then ro g else w'.heap[g]?) = _
      rw [if_neg (by omega)]; exact hb
    · rw [strs_cells, List.length_map, hcs, Nat.zero_add]; omega
    · intro k x hk
      rw [strs_cells] at hk
      rw [← htake, List.getElem?_take] at hk
      split at hk
      · simpa using hk
      · cases hk
theorem split_FnC {tabs : List (Nat × List AV)} {f : FuncId} {t : TypeId}
    (walk : ∀ (s : ByteArray) (c : UInt8) (w : World), s.size < 4294967281 → Calls P f #[.string s, .string ⟨#[c]⟩] w fun e w' => ∃ v, e = .returned v ∧ w'.ownsRow w.heap.size t 1 v (Lib.countB s ⟨#[c]⟩ + 1) ((Lib.splitB ⟨#[c]⟩ 0 (Lib.countB s ⟨#[c]⟩) s).map Value.string) ∧ Below w.heap.size w w')
    (enters : ∀ args w, (callFunc f args).run P w = .ok (.enter f args) w) {gs out : List GV} (h : splitP gs = some out) : FnC P tabs f [] [.sc] gs out := by
  unfold splitP at h
  split at h
  rotate_left
  · cases h
  next x c =>
  split at h
  rotate_left
  · cases h
  next hc =>
  cases h
  letI : TabsOf := Tg [] [] 0
  refine ⟨fun ro w vs hro hvs => ?_, rfl⟩
  simp only [GRs, GR] at hvs
  obtain ⟨_, _, rfl, rfl, _, _, rfl, rfl, rfl⟩ := hvs
  refine .inr ⟨enters _ w, Calls.mono' (walk ⟨⟨x⟩⟩ c w hc) ?_⟩
  rintro e w' ⟨v, rfl, hown, hb⟩
  refine ⟨v, rfl, roAll ro w w', roStep_all hro hb, [v], rfl, ?_⟩
  have := strs_new hro hb hown (by rw [Lib.splitB_all ⟨#[c]⟩ (Nat.le_refl 1) 0 _ _ rfl])
  rw [split_words] at this
  exact this
theorem fields_FnC {tabs : List (Nat × List AV)} {f g : FuncId} {t : TypeId}
    (walk : ∀ (s : ByteArray) (w : World), s.size ≤ 4294967296 → Calls P f #[.string s, .func (.func g) #[] #[]] w fun e w' => ∃ v, e = .returned v ∧ w'.ownsRow w.heap.size t 1 v (Lib.goFieldsP (fun x => x == 32) s).length ((Lib.goFieldsP (fun x => x == 32) s).map Value.string) ∧ Below w.heap.size w w')
    (enters : ∀ args w, (callFunc f args).run P w = .ok (.enter f args) w) {gs out : List GV} (h : fieldsP gs = some out) : FnC P tabs f [none, some g] [.sc] gs out := by
  unfold fieldsP at h
  split at h
  rotate_left
  · cases h
  next x =>
  split at h
  rotate_left
  · cases h
  next hc =>
  cases h
  letI : TabsOf := Tg [] [] 0
  refine ⟨fun ro w vs hro hvs => ?_, rfl⟩
  simp only [GRs, GR] at hvs
  obtain ⟨_, _, rfl, rfl, rfl⟩ := hvs
  refine .inr ⟨enters _ w, Calls.mono' (walk ⟨⟨x⟩⟩ w hc) ?_⟩
  rintro e w' ⟨v, rfl, hown, hb⟩
  refine ⟨v, rfl, roAll ro w w', roStep_all hro hb, [v], rfl, ?_⟩
  have := strs_new hro hb hown rfl
  rw [fields_words] at this
  exact this
/-- A function of a number that answers a text. -/
theorem text_FnC {tabs : List (Nat × List AV)} {f : FuncId} {a : GV} {v : Value} (ha : ∀ ro x, GR ro a x → x = v) {out : List UInt8}
    (walk : ∀ ro w, RoOk tabs ro w → Calls P f #[v] w fun e w' => e = .returned (.string ⟨⟨out⟩⟩) ∧ Below w.heap.size w w')
    (enters : ∀ args w, (callFunc f args).run P w = .ok (.enter f args) w) : FnC P tabs f [] [.sc] [a] [.s out] := by
  letI : TabsOf := Tg [] [] 0
  refine ⟨fun ro w vs hro hvs => ?_, rfl⟩
  simp only [GRs] at hvs
  obtain ⟨x, _, rfl, hx, rfl⟩ := hvs
  obtain rfl := ha ro x hx
  refine .inr ⟨enters _ w, Calls.mono' (walk ro w hro) ?_⟩
  rintro e w' ⟨rfl, hb⟩
  exact ⟨_, rfl, roAll ro w w', roStep_all hro hb, [_], rfl, by simp [GRs, GR]⟩
/-- A table, as the kit names it. -/
theorem RoOk.ints {tabs : List (Nat × List AV)} {ro : Nat → Option Obj} {w : World} (hro : RoOk tabs ro w) {g : Nat} {k : IntKind} {zs : List Int} {name : String} (hm : (g, zs.map fun z => AV.i k z) ∈ tabs) (hz : zs ≠ []) (hg : P.globalNamed name = some g) : Lib.TabIs P w name k zs := by
  obtain ⟨cs, elem, fr, h1, h2, h3, h4, -⟩ := hro.tab _ hm
  have hsz : cs.size = zs.length := by rw [h4 (by simpa using hz)]; simp
  have hcs : cs = (zs.map fun z => Value.int k z).toArray := by
    apply Array.ext'
    apply List.ext_getElem?
    intro i
    rw [List.getElem?_map]
    cases hi : zs[i]? with
    | none =>
      rw [Option.map_none, List.getElem?_eq_none]
      rw [List.getElem?_eq_none_iff] at hi
      rw [Array.length_toList]; omega
    | some z =>
      obtain ⟨x, hx, hv⟩ := h3 i (.i k z) (by rw [List.getElem?_map, hi]; rfl)
      rw [Array.getElem?_toList, hx]
      rcases hv with hv | ⟨_, _, _, _, hz', _⟩
      · exact hv.symm
      · cases hz'
  unfold Lib.TabIs World.var?
  rw [hg]
  simp only [Option.bind_some]
  rw [hro.at' _ _ h1, hcs]
theorem RoOk.iface {tabs : List (Nat × List AV)} {ro : Nat → Option Obj} {w : World} (hro : RoOk tabs ro w) {g : Nat} (hm : (g, []) ∈ tabs) : ∃ t q, w.cell? ⟨g, 0, none⟩ = some (.iface t q) := by
  obtain ⟨cs, elem, fr, h1, -, -, -, h5⟩ := hro.tab _ hm
  obtain ⟨t, q, h6⟩ := h5 rfl
  refine ⟨t, q, ?_⟩
  unfold World.cell?
  rw [hro.at' _ _ h1]
  simpa using h6
end
end Go.Abs
