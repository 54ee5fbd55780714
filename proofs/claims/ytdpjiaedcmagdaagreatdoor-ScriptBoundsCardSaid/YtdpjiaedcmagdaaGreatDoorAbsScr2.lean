/- What printing a script wants of Go's library, told: joining by blanks, a byte put by others, a word without some bytes. -/
import Derived.Test.YtdpjiaedcmagdaaGreatDoorAbsScr
import Derived.Lib.Join
import Derived.Lib.Replace
namespace Go.Abs
open Go.RowKit
noncomputable section
set_option linter.unusedSectionVars false
set_option linter.unusedVariables false
variable {P : Program}

def joinW : List (List UInt8) → List UInt8
  | [] => []
  | [w] => w
  | w :: x :: r => w ++ 32 :: joinW (x :: r)
theorem join_eq : ∀ ws : List (List UInt8), Lib.join ws [32] = joinW ws
  | [] => rfl
  | [w] => Lib.join_one w [32]
  | w :: x :: r => by
    rw [joinW, ← join_eq (x :: r)]
    simp [Lib.join, List.intercalate]
def strsOf : List GV → Option (List (List UInt8))
  | [] => some []
  | .s x :: l => (strsOf l).map (x :: ·)
  | _ => none
theorem strsOf_map : ∀ {xs : List GV} {l : List (List UInt8)}, strsOf xs = some l → xs = l.map .s
  | [], l, h => by cases h; rfl
  | .s x :: xs, l, h => by
    simp only [strsOf, Option.map_eq_some_iff] at h
    obtain ⟨r, hr, rfl⟩ := h
    rw [strsOf_map hr]; rfl
theorem strsOf_of : ∀ l : List (List UInt8), strsOf (l.map .s) = some l
  | [] => rfl
  | x :: l => by simp [strsOf, strsOf_of l]
def joinP : List GV → Option (List GV)
  | [.l xs, .s [32]] => match strsOf xs with
    | some l => if l.length ≤ 140737488355328 ∧ (joinW l).length ≤ 140737488355328 then some [.s (joinW l)] else none
    | none => none
  | _ => none
/-- A byte put by others. -/
def putB (c : UInt8) (new s : List UInt8) : List UInt8 := s.flatMap fun b => if b = c then new else [b]
def replP : List GV → Option (List GV)
  | [.s x, .s [c], .s new] => if x.length < 4294967281 ∧ x.length + x.length * new.length ≤ 140737488355328 then some [.s (putB c new x)] else none
  | _ => none
def goodW (w : List UInt8) : Bool := !w.isEmpty && !w.contains 32 && !w.contains 10
def withoutP : List GV → Option (List GV)
  | [.s w, .l [.i .i32 a, .i .i32 b]] => if a = 32 ∧ b = 10 ∧ w.length ≤ 281474976710656 then some [.b (goodW w)] else none
  | _ => none
theorem put_eq (c : UInt8) (new : List UInt8) : ∀ s : List UInt8, Lib.replaceK [c] new (Lib.count s [c]) s = putB c new s
  | [] => by simp [Lib.count_one, Lib.replaceK, putB]
  | b :: l => by
    have ih := put_eq c new l
    by_cases h : b = c
    · subst h
      rw [Lib.count_cons_eq, Nat.add_comm]
      have hi : Lib.index (b :: l) [b] = ((0 : Nat) : Int) := by rw [Lib.index_one]; simp [Lib.indexByte]
      rw [Lib.replaceK_hit [b] new _ _ 0 hi]
      simp [putB, ih]
    · have hp : putB c new (b :: l) = b :: putB c new l := by
        unfold putB
        rw [List.flatMap_cons, if_neg h]
        rfl
      rw [Lib.count_cons_ne b c l h, hp]
      have hi : Lib.index (b :: l) [c] = if Lib.index l [c] = -1 then -1 else Lib.index l [c] + 1 := by
        rw [Lib.index_one, Lib.index_one, Lib.indexByte]
        simp [h]
      cases hk : Lib.count l [c] with
      | zero =>
        rw [hk] at ih
        simp only [Lib.replaceK] at ih ⊢
        rw [← ih]
      | succ k =>
        rw [hk] at ih
        obtain ⟨i, hix⟩ := Lib.index_of_count (s := l) (old := [c]) (by omega)
        rw [hix, if_neg (by omega)] at hi
        rw [Lib.replaceK_hit [c] new k l i hix] at ih
        rw [Lib.replaceK_hit [c] new k (b :: l) (i + 1) (by rw [hi]; rfl), ← ih]
        simp only [List.take_succ_cons, List.length_singleton, List.cons_append]
        rw [show i + 1 + 1 = (i + 1) + 1 from rfl, List.drop_succ_cons]
theorem GRs_strs {ro : Nat → Option Obj} : ∀ {l : List (List UInt8)} {ys : List Value}, GRs ro (l.map .s) ys → ys = l.map fun b => Value.string ⟨⟨b⟩⟩
  | [], ys, h => by simpa [GRs] using h
  | b :: l, ys, h => by
    simp only [List.map_cons, GRs] at h
    obtain ⟨v, r, rfl, h1, h2⟩ := h
    simp only [GR] at h1
    rw [h1, GRs_strs h2]; rfl
/-- A list of texts lies so. -/
theorem strs_lie {ro : Nat → Option Obj} {tabs : List (Nat × List AV)} {w : World} (hro : RoOk tabs ro w) {l : List (List UInt8)} {v : Value} (h : GR ro (.l (l.map .s)) v) :
    (l = [] ∧ ∃ p, v = .slice p 0 0) ∨ ∃ g off c, v = .slice (some ⟨g, off, none⟩) l.length c ∧ l.length ≤ c ∧ (l ≠ [] → g < w.heap.size) ∧ ∀ (j : Nat) x, (l.map fun b => (⟨⟨b⟩⟩ : ByteArray))[j]? = some x → w.cell? ⟨g, off + j, none⟩ = some (.string x) := by
  simp only [GR] at h
  rcases h with ⟨he, p, rfl⟩ | ⟨bl, off, c, ys, sz, rfl, hc, hys, hsz, hmem⟩
  · exact .inl ⟨List.map_eq_nil_iff.1 he, p, rfl⟩
  · right
    rw [List.length_map] at hc
    have hy := GRs_strs hys
    have hcl : cellsL ys = ys := by
      rw [hy]
      have := strs_cells (l.map fun b => (⟨⟨b⟩⟩ : ByteArray))
      rw [List.map_map] at this
      exact this
    refine ⟨bl, off, c, by rw [List.length_map], hc, fun hne => ?_, fun j x hj => ?_⟩
    · obtain ⟨cur, t, fr, k1, k2, k3⟩ := hmem (fun e => hne (List.map_eq_nil_iff.1 e))
      have := hro.at' _ _ k1
      exact (Array.getElem?_eq_some_iff.1 this).1
    · have hne : l ≠ [] := fun e => by rw [e] at hj; simp at hj
      obtain ⟨cur, t, fr, k1, k2, k3⟩ := hmem (fun e => hne (List.map_eq_nil_iff.1 e))
      have h4 := hro.at' _ _ k1
      have h5 := k3 j (.string x) (by
        rw [hcl, hy, List.getElem?_map]
        rw [List.getElem?_map] at hj
        cases hl : l[j]? with
        | none => rw [hl] at hj; cases hj
        | some b => rw [hl] at hj; cases hj; rfl)
      unfold World.cell?
      rw [h4]
      simpa using h5
theorem join_FnC {tabs : List (Nat × List AV)} {f : FuncId}
    (nil : ∀ (p : Option Addr) (c : Nat) (sep : ByteArray) (w : World), Calls P f #[.slice p 0 c, .string sep] w fun e w' => e = .returned (.string ⟨#[]⟩) ∧ w' = w)
    (walk : ∀ (bk o c : Nat) (xs : List ByteArray) (sep : ByteArray) (w : World), (∀ (j : Nat) x, xs[j]? = some x → w.cell? ⟨bk, o + j, none⟩ = some (.string x)) → (xs ≠ [] → bk < w.heap.size) → xs.length ≤ 140737488355328 → xs.length ≤ c →
      (Lib.join (xs.map (·.data.toList)) sep.data.toList).length ≤ 140737488355328 → Calls P f #[.slice (some ⟨bk, o, none⟩) xs.length c, .string sep] w fun e w' => e = .returned (.string ⟨(Lib.join (xs.map (·.data.toList)) sep.data.toList).toArray⟩) ∧ Below w.heap.size w w')
    (enters : ∀ args w, (callFunc f args).run P w = .ok (.enter f args) w) {gs out : List GV} (h : joinP gs = some out) : FnC P tabs f [] [.sc] gs out := by
  unfold joinP at h
  split at h
  rotate_left
  · cases h
  next xs =>
  split at h
  rotate_left
  · cases h
  next l hl =>
  split at h
  rotate_left
  · cases h
  next hc =>
  cases h
  have e := strsOf_map hl
  subst e
  letI : TabsOf := Tg [] [] 0
  refine ⟨fun ro w vs hro hvs => ?_, rfl⟩
  simp only [GRs] at hvs
  obtain ⟨v, _, rfl, hv, _, _, rfl, hs, rfl⟩ := hvs
  simp only [GR] at hs
  subst hs
  rcases strs_lie hro hv with ⟨rfl, p, rfl⟩ | ⟨g, off, c, rfl, h1, h2, h3⟩
  · refine .inr ⟨enters _ w, Calls.mono' (nil p 0 _ w) ?_⟩
    rintro e w' ⟨rfl, hw⟩
    rw [hw]
    exact ⟨_, rfl, roAll ro w w, roStep_all hro (Below.refl _ _), [_], rfl, by simp [GRs, GR, joinW]⟩
  · have hlen : (l.map fun b => (⟨⟨b⟩⟩ : ByteArray)).length = l.length := List.length_map _
    have hj : (l.map fun b => (⟨⟨b⟩⟩ : ByteArray)).map (·.data.toList) = l := by rw [List.map_map]; exact List.map_id' l
    have k := walk g off c (l.map fun b => (⟨⟨b⟩⟩ : ByteArray)) ⟨⟨[32]⟩⟩ w h3 (fun hn => h2 fun e => hn (by rw [e]; rfl)) (by rw [hlen]; exact hc.1) (by rw [hlen]; exact h1) (by rw [hj]; rw [show (⟨⟨[32]⟩⟩ : ByteArray).data.toList = [32] from rfl, join_eq]; exact hc.2)
    rw [hj, hlen, show (⟨⟨[32]⟩⟩ : ByteArray).data.toList = [32] from rfl, join_eq] at k
    refine .inr ⟨enters _ w, Calls.mono' k ?_⟩
    rintro e w' ⟨rfl, hb⟩
    exact ⟨_, rfl, roAll ro w w', roStep_all hro hb, [_], rfl, by simp [GRs, GR]⟩
/-- A function of texts alone that answers a text. -/
theorem texts_FnC {tabs : List (Nat × List AV)} {f : FuncId} {ins : List (List UInt8)} {out : List UInt8}
    (walk : ∀ w, Calls P f (ins.map fun b => Value.string ⟨⟨b⟩⟩).toArray w fun e w' => e = .returned (.string ⟨⟨out⟩⟩) ∧ Below w.heap.size w w')
    (enters : ∀ args w, (callFunc f args).run P w = .ok (.enter f args) w) : FnC P tabs f [] [.sc] (ins.map .s) [.s out] := by
  letI : TabsOf := Tg [] [] 0
  refine ⟨fun ro w vs hro hvs => ?_, rfl⟩
  have hv : vs = ins.map fun b => Value.string ⟨⟨b⟩⟩ := by
    clear walk
    induction ins generalizing vs with
    | nil => simpa [GRs] using hvs
    | cons b ins ih =>
      simp only [List.map_cons, GRs] at hvs
      obtain ⟨v, l, rfl, h1, h2⟩ := hvs
      simp only [GR] at h1
      rw [h1, ih _ h2]; rfl
  subst hv
  refine .inr ⟨enters _ w, Calls.mono' (walk w) ?_⟩
  rintro e w' ⟨rfl, hb⟩
  exact ⟨_, rfl, roAll ro w w', roStep_all hro hb, [_], rfl, by simp [GRs, GR]⟩
/-- What parts words, among runes. -/
def sepR (x : Nat) : Bool := x == 32 || x == 10
def sepB (c : UInt8) : Bool := c == 32 || c == 10
theorem sep_idx (s : ByteArray) : decide (0 ≤ Lib.idxFunc sepR true s) = s.data.toList.any sepB := by
  have hL : s.data.toList.length = s.size := by obtain ⟨⟨l⟩⟩ := s; rfl
  have key : ∀ (f pos : Nat), s.size ≤ pos + f → pos ≤ s.size → decide (0 ≤ Lib.idxFuncFrom sepR true s f pos) = (s.data.toList.drop pos).any sepB := by
    have fin : ∀ pos, pos = s.size → (s.data.toList.drop pos).any sepB = false := fun pos e => by rw [List.drop_eq_nil_of_le (by omega)]; rfl
    intro f
    induction f with
    | zero => intro pos h1 h2; rw [fin pos (by omega)]; rfl
    | succ f ih =>
      intro pos h1 h2
      by_cases hp : pos < s.size
      rotate_left
      · rw [Lib.idxFuncFrom_end _ _ _ _ _ hp, fin pos (by omega)]; rfl
      have hb := get_byte s hp
      have hdrop : s.data.toList.drop pos = (s[pos]'hp) :: s.data.toList.drop (pos + 1) := by
        rw [List.drop_eq_getElem_cons (by omega)]
        congr 1
      rw [Lib.idxFuncFrom, if_pos hp]
      by_cases hsep : sepB (s[pos]'hp) = true
      · have ha : (s[pos]'hp).toNat < 128 := by
          unfold sepB at hsep
          rw [Bool.or_eq_true, beq_iff_eq, beq_iff_eq] at hsep
          rcases hsep with e | e <;> rw [e] <;> decide
        have ho : sepR (Utf8.decode s pos).1 = true := by
          rw [Go.decode_ascii s pos hp ha]
          unfold sepB at hsep
          unfold sepR
          rw [Bool.or_eq_true, beq_iff_eq, beq_iff_eq] at hsep
          rcases hsep with e | e <;> rw [e] <;> rfl
        rw [if_pos ho, hdrop, List.any_cons, hsep]
        simp
      · have hd1 : 1 ≤ (Utf8.decode s pos).2 := Lib.decode_width_pos s pos hp
        obtain ⟨hd2, hd3⟩ := decode_span s pos hp
        have hne : ¬ ((s[pos]'hp) = 32 ∨ (s[pos]'hp) = 10) := by
          intro h
          apply hsep
          unfold sepB
          rw [Bool.or_eq_true, beq_iff_eq, beq_iff_eq]; exact h
        have ho : ¬ sepR (Utf8.decode s pos).1 = true := by
          unfold sepR
          rw [Bool.or_eq_true, beq_iff_eq, beq_iff_eq]
          by_cases ha : (s[pos]'hp).toNat < 128
          · rw [Go.decode_ascii s pos hp ha]
            rintro (h | h)
            · exact hne (.inl (UInt8.toNat_inj.1 h))
            · exact hne (.inr (UInt8.toNat_inj.1 h))
          · have := (Go.decode_high s pos hp (by omega)).1
            omega
        rw [if_neg ho]
        generalize (Utf8.decode s pos).2 = d at *
        rw [ih (pos + d) (by omega) hd2]
        have e : s.data.toList.drop pos = (s.data.toList.drop pos).take d ++ s.data.toList.drop (pos + d) := by
          have := List.take_append_drop d (s.data.toList.drop pos)
          rw [List.drop_drop] at this
          exact this.symm
        rw [e, List.any_append]
        have hz : ((s.data.toList.drop pos).take d).any sepB = false := by
          rw [List.any_eq_false]
          intro x hx
          obtain ⟨k, hk⟩ := List.getElem?_of_mem hx
          rw [List.getElem?_take] at hk
          split at hk
          rotate_left
          · cases hk
          next hkl =>
          rw [List.getElem?_drop] at hk
          by_cases hj : k = 0
          · subst hj
            rw [Nat.add_zero, hb] at hk
            rw [← Option.some.inj hk]; exact hsep
          · have h5 := hd3 k (by omega) hkl
            have hlt : pos + k < s.size := by omega
            rw [get_byte s hlt] at hk
            rw [get!_byte s hlt, Option.some.inj hk] at h5
            unfold sepB
            rw [Bool.or_eq_true, beq_iff_eq, beq_iff_eq]
            rintro (h | h) <;> rw [h] at h5 <;> exact absurd h5 (by decide)
        rw [hz, Bool.false_or]
  have := key s.size 0 (by omega) (by omega)
  rw [List.drop_zero] at this
  exact this
theorem goodW_sep (w : List UInt8) : goodW w = (!w.isEmpty && !w.any sepB) := by
  have h : w.any sepB = (w.contains 32 || w.contains 10) := by
    induction w with
    | nil => rfl
    | cons c w ih =>
      rw [List.any_cons, ih, List.contains_cons, List.contains_cons]
      unfold sepB
      rw [show ((32 : UInt8) == c) = (c == 32) from Bool.beq_comm, show ((10 : UInt8) == c) = (c == 10) from Bool.beq_comm]
      cases (c == 32) <;> cases (c == 10) <;> simp
  unfold goodW
  rw [h, Bool.not_or, Bool.and_assoc]
/-- Two runes lie so. -/
theorem two_lie {ro : Nat → Option Obj} {tabs : List (Nat × List AV)} {w : World} (hro : RoOk tabs ro w) {a b : Int} {v : Value} (h : GR ro (.l [.i .i32 a, .i .i32 b]) v) :
    ∃ g off c, v = .slice (some ⟨g, off, none⟩) 2 c ∧ g < w.heap.size ∧ w.cell? ⟨g, off, none⟩ = some (.int .i32 a) ∧ w.cell? ⟨g, off + 1, none⟩ = some (.int .i32 b) := by
  simp only [GR] at h
  rcases h with ⟨he, p, rfl⟩ | ⟨bl, off, c, ys, sz, rfl, hc, hys, hsz, hmem⟩
  · cases he
  · have hy : ys = [.int .i32 a, .int .i32 b] := by
      simp only [GRs, GR] at hys
      obtain ⟨_, _, rfl, h1, _, _, rfl, h2, rfl⟩ := hys
      rw [h1, h2]
    obtain ⟨cur, t, fr, k1, k2, k3⟩ := hmem (by simp)
    have h4 := hro.at' _ _ k1
    have hcl : cellsL ys = ys := by rw [hy]; rfl
    rw [hcl, hy] at k3
    have hsz' : bl < w.heap.size := (Array.getElem?_eq_some_iff.1 h4).1
    refine ⟨bl, off, c, rfl, hsz', ?_, ?_⟩
    · unfold World.cell?
      rw [h4]
      simpa using k3 0 _ rfl
    · unfold World.cell?
      rw [h4]
      simpa using k3 1 _ rfl
theorem without_FnC {tabs : List (Nat × List AV)} {f : FuncId}
    (walk : ∀ (s : ByteArray) (g off c : Nat) (w : World), g < w.heap.size → w.cell? ⟨g, off, none⟩ = some (.int .i32 32) → w.cell? ⟨g, off + 1, none⟩ = some (.int .i32 10) → s.size ≤ 281474976710656 →
      Calls P f #[.string s, .slice (some ⟨g, off, none⟩) 2 c] w fun e w' => e = .returned (.bool (goodW s.data.toList)) ∧ Below w.heap.size w w')
    (enters : ∀ args w, (callFunc f args).run P w = .ok (.enter f args) w) {gs out : List GV} (h : withoutP gs = some out) : FnC P tabs f [] [.sc] gs out := by
  unfold withoutP at h
  split at h
  rotate_left
  · cases h
  next x a b =>
  split at h
  rotate_left
  · cases h
  next hc =>
  cases h
  obtain ⟨rfl, rfl, hx⟩ := hc
  letI : TabsOf := Tg [] [] 0
  refine ⟨fun ro w vs hro hvs => ?_, rfl⟩
  simp only [GRs] at hvs
  obtain ⟨v, _, rfl, hv, v2, _, rfl, hs, rfl⟩ := hvs
  have hv' : v = .string ⟨⟨x⟩⟩ := by simpa only [GR] using hv
  subst hv'
  obtain ⟨g, off, c, rfl, h1, h2, h3⟩ := two_lie hro hs
  have k := walk ⟨⟨x⟩⟩ g off c w h1 h2 h3 hx
  refine .inr ⟨enters _ w, Calls.mono' k ?_⟩
  rintro e w' ⟨rfl, hb⟩
  exact ⟨_, rfl, roAll ro w w', roStep_all hro hb, [_], rfl, by simp [GRs, GR]⟩
end
end Go.Abs
