/- Regions whose order Go leaves open: the proof. -/
import Derived.Test.YtincemehblfipaaGreatDoorAbsDraw
namespace Go.Abs
noncomputable section
variable [TabsOf]
set_option linter.unusedSectionVars false
set_option linter.unusedVariables false
set_option linter.unusedSimpArgs false

theorem natBeq {a b : Nat} (h : a ≠ b) : Nat.beq a b = false := by
  cases e : Nat.beq a b with
  | false => rfl
  | true => exact absurd (Nat.eq_of_beq_eq_true e) h

section
variable {α : Type}
def lookU : List (Nat × Option α) → Nat → Option (Option α)
  | [], _ => none
  | (k, v) :: l, b => match lookU l b with
    | some x => some x
    | none => if b = k then some v else none

theorem get_applyU : ∀ (l : List (Nat × Option α)) (t : Tr α) (b : Nat), (applyU l t).get b = (lookU l b).getD (t.get b)
  | [], t, b => rfl
  | (k, v) :: l, t, b => by
    rw [applyU, get_applyU l, lookU]
    cases lookU l b with
    | some x => rfl
    | none =>
      simp only [Option.getD_none, Tr.get_set]
      split <;> rfl

theorem lookU_mem : ∀ (l : List (Nat × Option α)) (b : Nat), lookU l b ≠ none ↔ b ∈ keysOf l
  | [], b => by simp [lookU, keysOf]
  | (k, v) :: l, b => by
    have ih := lookU_mem l b
    simp only [keysOf, List.map_cons, List.mem_cons] at ih ⊢
    rw [lookU]
    cases h : lookU l b with
    | some x => rw [h] at ih; simp only [ne_eq, reduceCtorEq, not_false_eq_true, true_iff] at ih; simp [ih]
    | none =>
      rw [h] at ih
      simp only [ne_eq, not_true_eq_false, false_iff] at ih
      simp only [ih, or_false]
      split <;> simp_all

theorem lookU_none {l : List (Nat × Option α)} {b : Nat} (h : b ∉ keysOf l) : lookU l b = none := by
  cases h' : lookU l b with
  | none => rfl
  | some x => exact absurd ((lookU_mem l b).1 (by rw [h']; simp)) h

def lastU : List (List (Nat × Option α)) → Nat → (Nat → Bool) → Nat → Option (Option α)
  | [], _, _, _ => none
  | u :: us, k, D, b => match lastU us (k + 1) D b with
    | some x => some x
    | none => if D k = true then lookU u b else none

def foldD : List (List (Nat × Option α)) → Nat → (Nat → Bool) → Tr α → Tr α
  | [], _, _, t => t
  | u :: us, k, D, t => foldD us (k + 1) D (if D k = true then applyU u t else t)

theorem get_foldD : ∀ (us : List (List (Nat × Option α))) (k : Nat) (D : Nat → Bool) (t : Tr α) (b : Nat), (foldD us k D t).get b = (lastU us k D b).getD (t.get b)
  | [], _, _, _, _ => rfl
  | u :: us, k, D, t, b => by
    rw [foldD, get_foldD us, lastU]
    cases lastU us (k + 1) D b with
    | some x => rfl
    | none =>
      simp only [Option.getD_none]
      split
      · rw [get_applyU]
      · rfl

def applyAll : List (List (Nat × Option α)) → Tr α → Tr α
  | [], t => t
  | u :: us, t => applyAll us (applyU u t)

theorem lastU_agree : ∀ (us : List (List (Nat × Option α))) (k : Nat) (D E : Nat → Bool) (b : Nat), (∀ (j : Nat) u, us[j]? = some u → D (k + j) ≠ E (k + j) → lookU u b = none) → lastU us k D b = lastU us k E b
  | [], _, _, _, _, _ => rfl
  | u :: us, k, D, E, b, h => by
    have ih := lastU_agree us (k + 1) D E b (fun j v hj hne => h (j + 1) v (by simpa using hj) (by rw [show k + (j + 1) = k + 1 + j by omega]; exact hne))
    have h0 := h 0 u (by simp)
    rw [lastU, lastU, ih]
    cases lastU us (k + 1) E b with
    | some x => rfl
    | none =>
      simp only [Nat.add_zero] at h0
      by_cases e : D k = E k
      · rw [e]
      · rw [h0 e]; simp

theorem lastU_empty (us : List (List (Nat × Option α))) (k : Nat) (D : Nat → Bool) (b : Nat) (h : ∀ j, j < us.length → D (k + j) = false) : lastU us k D b = none := by
  induction us generalizing k with
  | nil => rfl
  | cons u us ih =>
    rw [lastU, ih (k + 1) (fun j hj => by rw [show k + 1 + j = k + (j + 1) by omega]; exact h (j + 1) (by simpa using hj))]
    have := h 0 (by simp)
    simp only [Nat.add_zero] at this
    simp [this]

theorem lastU_some : ∀ (us : List (List (Nat × Option α))) (k : Nat) (D : Nat → Bool) (b : Nat) (x : Option α), lastU us k D b = some x → ∃ (j : Nat) (u : List (Nat × Option α)), us[j]? = some u ∧ D (k + j) = true ∧ lookU u b = some x
  | [], _, _, _, _, h => by simp [lastU] at h
  | u :: us, k, D, b, x, h => by
    rw [lastU] at h
    split at h
    · next y hy =>
      cases h
      obtain ⟨j, v, h1, h2, h3⟩ := lastU_some us (k + 1) D b _ hy
      exact ⟨j + 1, v, by simpa using h1, by rw [show k + (j + 1) = k + 1 + j by omega]; exact h2, h3⟩
    · split at h
      · next hd => exact ⟨0, u, by simp, by simpa using hd, h⟩
      · cases h

theorem get_applyAll : ∀ (us : List (List (Nat × Option α))) (i k : Nat) (t : Tr α) (b : Nat), (applyAll (us.take i) t).get b = (lastU us k (fun j => decide (j < k + i)) b).getD (t.get b)
  | [], i, k, t, b => by simp [applyAll, lastU]
  | u :: us, 0, k, t, b => by
    rw [lastU_empty _ _ _ _ (fun j _ => by simp)]; rfl
  | u :: us, i + 1, k, t, b => by
    have ih := get_applyAll us i (k + 1) (applyU u t) b
    simp only [List.take_succ_cons, applyAll]
    rw [ih, lastU]
    have : (fun j => decide (j < k + 1 + i)) = fun j => decide (j < k + (i + 1)) := by funext j; congr 1; apply propext; omega
    rw [this]
    cases lastU us (k + 1) (fun j => decide (j < k + (i + 1))) b with
    | some x => rfl
    | none =>
      simp only [Option.getD_none]
      rw [if_pos (by simp), get_applyU]

theorem lastU_add : ∀ (us : List (List (Nat × Option α))) (k i : Nat) (D : Nat → Bool) (b : Nat) (u : List (Nat × Option α)), us[i]? = some u → D (k + i) = false →
    (∀ (j : Nat) v, us[j]? = some v → i < j → D (k + j) = true → lookU u b ≠ none → lookU v b = none) →
    lastU us k (fun j => D j || Nat.beq j (k + i)) b = match lookU u b with | some x => some x | none => lastU us k D b
  | [], _, _, _, _, _, h, _, _ => by simp at h
  | v :: us, k, 0, D, b, u, h, hD, hdis => by
    simp at h; subst h
    have tail : lastU us (k + 1) (fun j => D j || Nat.beq j (k + 0)) b = lastU us (k + 1) D b := by
      refine lastU_agree _ _ _ _ _ fun j w hj hne => ?_
      exfalso; apply hne
      have : Nat.beq (k + 1 + j) (k + 0) = false := natBeq (by omega)
      simp only [this, Bool.or_false]
    simp only [lastU, tail]
    simp only [Nat.add_zero] at hD ⊢
    have hb : Nat.beq k k = true := by simp
    cases hl : lookU v b with
    | none => simp [hb, hD, hl]
    | some x =>
      have : lastU us (k + 1) D b = none := by
        cases ht : lastU us (k + 1) D b with
        | none => rfl
        | some y =>
          obtain ⟨j, w, h1, h2, h3⟩ := lastU_some _ _ _ _ _ ht
          have := hdis (j + 1) w (by simpa using h1) (by omega) (by rw [show k + (j + 1) = k + 1 + j by omega]; exact h2) (by rw [hl]; simp)
          rw [this] at h3; cases h3
      simp [this, hb, hl]
  | v :: us, k, i + 1, D, b, u, h, hD, hdis => by
    have ih := lastU_add us (k + 1) i D b u (by simpa using h) (by rw [show k + 1 + i = k + (i + 1) by omega]; exact hD) (fun j w hj hij hDj => hdis (j + 1) w (by simpa using hj) (by omega) (by rw [show k + (j + 1) = k + 1 + j by omega]; exact hDj))
    have e : (fun j => D j || Nat.beq j (k + 1 + i)) = fun j => D j || Nat.beq j (k + (i + 1)) := by funext j; congr 2; omega
    rw [e] at ih
    simp only [lastU, ih]
    have hk : Nat.beq k (k + (i + 1)) = false := natBeq (by omega)
    cases hl : lookU u b with
    | some x => simp
    | none => simp [hk]

theorem get_restrictT (t : Tr α) : ∀ (l : List Nat) (b : Nat), (restrictT t l).get b = if b ∈ l then t.get b else none
  | [], b => by simp [restrictT]
  | k :: l, b => by
    rw [restrictT, Tr.get_set, get_restrictT t l]
    by_cases e : b = k
    · subst e; simp
    · simp [e]

theorem get_eraseT : ∀ (l : List Nat) (t : Tr α) (b : Nat), (eraseT t l).get b = if b ∈ l then none else t.get b
  | [], t, b => by simp [eraseT]
  | k :: l, t, b => by
    rw [eraseT, get_eraseT l, Tr.get_set]
    by_cases e : b = k
    · subst e; simp
    · simp [e]
end

/-! ### The masks -/
theorem maskOf_bit {get : Nat → Nat} {j : Nat} : ∀ {es : List Edge}, (maskOf get es).testBit j = true → ∃ e ∈ es, Region.binds .any e = true ∧ (j = e.on ∨ (get e.on).testBit j = true)
  | [], h => by simp [maskOf] at h
  | e :: es, h => by
    rw [maskOf] at h
    split at h
    · next hb =>
      rw [Nat.testBit_or, Nat.testBit_or, Bool.or_eq_true, Bool.or_eq_true, Nat.testBit_two_pow] at h
      rcases h with (h | h) | h
      · exact ⟨e, by simp, hb, .inl (of_decide_eq_true h).symm⟩
      · exact ⟨e, by simp, hb, .inr h⟩
      · obtain ⟨e', h1, h2, h3⟩ := maskOf_bit h
        exact ⟨e', by simp [h1], h2, h3⟩
    · obtain ⟨e', h1, h2, h3⟩ := maskOf_bit h
      exact ⟨e', by simp [h1], h2, h3⟩

theorem masksGo_spec : ∀ (os : List Oper) (acc : List Nat), (masksGo os acc).length = acc.length + os.length ∧ (∀ k, k < acc.length → (masksGo os acc)[k]? = acc[k]?) ∧
    ∀ (k : Nat) o, os[k]? = some o → (masksGo os acc)[acc.length + k]? = some (maskOf (fun j => ((masksGo os acc).take (acc.length + k)).getD j 0) o.after.toList)
  | [], acc => by simp [masksGo]
  | o :: os, acc => by
    obtain ⟨h1, h2, h3⟩ := masksGo_spec os (acc ++ [maskOf (fun k => acc.getD k 0) o.after.toList])
    rw [masksGo]
    simp only [List.length_append, List.length_cons, List.length_nil] at h1 h2 h3
    refine ⟨by simp only [List.length_cons]; omega, fun k hk => ?_, fun k o' ho => ?_⟩
    · rw [h2 k (by omega), List.getElem?_append_left hk]
    · cases k with
      | zero =>
        simp at ho; subst ho
        rw [Nat.add_zero, h2 acc.length (by omega), List.getElem?_append_right (Nat.le_refl _)]
        simp only [Nat.sub_self, List.getElem?_cons_zero]
        congr 2
        funext j
        by_cases hj : j < acc.length
        · rw [List.getD_eq_getElem?_getD, List.getD_eq_getElem?_getD, List.getElem?_take, if_pos hj, h2 j (by omega), List.getElem?_append_left hj]
        · rw [List.getD_eq_getElem?_getD, List.getD_eq_getElem?_getD, List.getElem?_take, if_neg hj, List.getElem?_eq_none (by omega)]
      | succ k =>
        have := h3 k o' (by simpa using ho)
        rw [show acc.length + 1 + k = acc.length + (k + 1) by omega] at this
        exact this

theorem masksOk_lt : ∀ (M : List Nat) (k : Nat), masksOk M k = true → ∀ (j m : Nat), M[j]? = some m → m < 2 ^ (k + j)
  | [], _, _, j, m, h => by simp at h
  | x :: M, k, h, j, m, hj => by
    simp only [masksOk, Bool.and_eq_true] at h
    cases j with
    | zero => simp at hj; subst hj; have h' := h.1; rw [Nat.blt_eq] at h'; simpa using h'
    | succ j =>
      have := masksOk_lt M (k + 1) h.2 j m (by simpa using hj)
      rw [show k + (j + 1) = k + 1 + j by omega]; exact this

end
end Go.Abs
