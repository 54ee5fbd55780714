/- Regions whose order Go leaves open: the invariant. -/
import Derived.Test.YtincemehblfipaaGreatDoorAbsDrawOk2
namespace Go.Abs
noncomputable section
variable [TabsOf]
set_option linter.unusedSectionVars false
set_option linter.unusedVariables false
set_option linter.unusedSimpArgs false
variable {P : Program}

def slotsL (rs : List DRec) : List (List (Nat × Option AV)) := rs.map (·.slot)
def updsL (rs : List DRec) : List (List (Nat × Option AObj)) := rs.map (·.upd)
def cAt : Nat → List DRec → Nat → Nat
  | c, _, 0 => c
  | c, [], _ => c
  | _, r :: rs, k + 1 => cAt r.next rs k

theorem dGo_spec {call : Caller} {ops : Array Oper} {M : List Nat} {N0 lock gn n : Nat} : ∀ (m : Nat) (prev : List DRec) (i : Nat) (t : Tr AV) (h : Tr AObj) (c : Nat) (rs : List DRec) (t' : Tr AV) (h' : Tr AObj) (c' : Nat),
    dGo P call ops M N0 lock gn n m prev i t h c = some (rs, t', h', c') → ∃ new, rs = prev ++ new ∧ new.length = m ∧ t' = applyAll (slotsL new) t ∧ h' = applyAll (updsL new) h ∧ c' = cAt c new m ∧
      ∀ (k : Nat) r, new[k]? = some r → dOne P call ops M N0 lock gn n (prev ++ new.take k) (i + k) (applyAll ((slotsL new).take k) t) (applyAll ((updsL new).take k) h) (cAt c new k) = some r
  | 0, prev, i, t, h, c, rs, t', h', c', hs => by
    simp only [dGo, Option.some.injEq, Prod.mk.injEq] at hs
    obtain ⟨rfl, rfl, rfl, rfl⟩ := hs
    exact ⟨[], by simp, rfl, rfl, rfl, rfl, by simp⟩
  | m + 1, prev, i, t, h, c, rs, t', h', c', hs => by
    unfold dGo at hs
    split at hs
    · cases hs
    · next r hr =>
      obtain ⟨new, h1, h2, h3, h4, h5, h6⟩ := dGo_spec m _ _ _ _ _ _ _ _ _ hs
      refine ⟨r :: new, by rw [h1]; simp, by simp [h2], ?_, ?_, ?_, ?_⟩
      · rw [h3]; rfl
      · rw [h4]; rfl
      · rw [h5]; rfl
      · intro k s hk
        cases k with
        | zero =>
          simp at hk; subst hk
          simpa [applyAll, slotsL, updsL, cAt] using hr
        | succ k =>
          have := h6 k s (by simpa using hk)
          rw [show i + 1 + k = i + (k + 1) by omega] at this
          simp only [List.append_assoc, List.singleton_append] at this
          simpa [slotsL, updsL, applyAll, cAt] using this

theorem dOne0_base {call : Caller} {ops : Array Oper} {M : List Nat} {N0 lock gn n i c : Nat} {prev : List DRec} {t : Tr AV} {h : Tr AObj} {r : DRec} (hs : dOne0 P call ops M N0 lock gn n prev i t h c = some r) : r.base = c := by
  unfold dOne0 at hs
  split at hs
  · cases hs
  · simp only at hs
    split at hs
    · cases hs
    · cases hs; rfl
    · split at hs
      · split at hs
        · cases hs; rfl
        · cases hs
      · split at hs
        · split at hs
          · split at hs
            · cases hs; rfl
            · cases hs
          · cases hs
        · split at hs
          · split at hs
            · cases hs; rfl
            · cases hs
          · cases hs
        · split at hs
          · split at hs
            · cases hs; rfl
            · cases hs
          · cases hs
        · split at hs
          · cases hs; rfl
          · cases hs

theorem dOne0_slot {call : Caller} {ops : Array Oper} {M : List Nat} {N0 lock gn n i c : Nat} {prev : List DRec} {t : Tr AV} {h : Tr AObj} {r : DRec} (hs : dOne0 P call ops M N0 lock gn n prev i t h c = some r) : ∃ o v, ops[i]? = some o ∧ r.slot = dstU o v := by
  unfold dOne0 at hs
  split at hs
  · cases hs
  · next o ho =>
    simp only at hs
    split at hs
    · cases hs
    · cases hs; exact ⟨o, _, ho, rfl⟩
    · split at hs
      · split at hs
        · cases hs; exact ⟨o, _, ho, rfl⟩
        · cases hs
      · split at hs
        · split at hs
          · split at hs
            · cases hs; exact ⟨o, _, ho, rfl⟩
            · cases hs
          · cases hs
        · split at hs
          · split at hs
            · cases hs; exact ⟨o, _, ho, rfl⟩
            · cases hs
          · cases hs
        · split at hs
          · split at hs
            · cases hs; exact ⟨o, _, ho, rfl⟩
            · cases hs
          · cases hs
        · split at hs
          · cases hs; exact ⟨o, _, ho, rfl⟩
          · cases hs

theorem dOne_fin {call : Caller} {ops : Array Oper} {M : List Nat} {N0 lock gn n i c : Nat} {prev : List DRec} {t : Tr AV} {h : Tr AObj} {r : DRec} (hs : dOne0 P call ops M N0 lock gn n prev i t h c = some r) : r.fin = none := by
  unfold dOne0 at hs
  split at hs
  · cases hs
  · simp only at hs
    split at hs
    · cases hs
    · cases hs; rfl
    · split at hs
      · split at hs
        · cases hs; rfl
        · cases hs
      · split at hs
        · split at hs
          · split at hs
            · cases hs; rfl
            · cases hs
          · cases hs
        · split at hs
          · split at hs
            · cases hs; rfl
            · cases hs
          · cases hs
        · split at hs
          · split at hs
            · cases hs; rfl
            · cases hs
          · cases hs
        · split at hs
          · cases hs; rfl
          · cases hs

theorem dOne_base {call : Caller} {ops : Array Oper} {M : List Nat} {N0 lock gn n i c : Nat} {prev : List DRec} {t : Tr AV} {h : Tr AObj} {r : DRec} (hs : dOne P call ops M N0 lock gn n prev i t h c = some r) : r.base = c := by
  unfold dOne at hs
  split at hs
  · unfold dLast at hs
    split at hs
    · cases hs
    · split at hs
      · cases hs
      · cases hs; rfl
      · split at hs
        · cases hs; rfl
        · cases hs
  · exact dOne0_base hs

theorem dOne_slot {call : Caller} {ops : Array Oper} {M : List Nat} {N0 lock gn n i c : Nat} {prev : List DRec} {t : Tr AV} {h : Tr AObj} {r : DRec} (hs : dOne P call ops M N0 lock gn n prev i t h c = some r) : ∃ o v, ops[i]? = some o ∧ r.slot = dstU o v := by
  unfold dOne at hs
  split at hs
  · unfold dLast at hs
    split at hs
    · cases hs
    · next o ho =>
      split at hs
      · cases hs
      · cases hs; exact ⟨o, _, ho, rfl⟩
      · split at hs
        · cases hs; exact ⟨o, _, ho, rfl⟩
        · cases hs
  · exact dOne0_slot hs

/-- What the evaluator has found out of a region's orders. -/
structure Ctx0 (ops : Array Oper) (M : List Nat) (rs : List DRec) (n N0 : Nat) : Prop where
  hM : M = masksGo ops.toList []
  mok : masksOk M 0 = true
  len : rs.length = ops.size
  pairs : ∀ (i j : Nat) r s, rs[i]? = some r → rs[j]? = some s → unord M i j = true → pairOk ops N0 i j r s = true
  slot : ∀ (i : Nat) r, rs[i]? = some r → r.base ≤ r.next ∧ ∀ p ∈ r.slot, p.1 < n

/-- What the evaluator has found out of a region. -/
structure Ctx (P : Program) (call : Caller) (ops : Array Oper) (M : List Nat) (rs : List DRec) (a0 : AAct) (σ0 : ASt) (cf : Nat) : Prop extends Ctx0 ops M rs a0.n σ0.next where
  one : ∀ (i : Nat) r, rs[i]? = some r → dOne P call ops M σ0.next σ0.lock a0.gn a0.n (rs.take i) i (applyAll ((slotsL rs).take i) a0.t) (applyAll ((updsL rs).take i) σ0.h) (cAt (σ0.next + ops.size) rs i) = some r
  fin : cf = cAt (σ0.next + ops.size) rs ops.size
  big : cf ≤ bigId
  lock : σ0.lock ≤ σ0.next

section
variable {call : Caller} {ops : Array Oper} {M : List Nat} {rs : List DRec} {a0 : AAct} {σ0 : ASt} {cf nn N0 : Nat}

theorem cAt_succ : ∀ (rs : List DRec) (c k : Nat) (r : DRec), rs[k]? = some r → cAt c rs (k + 1) = r.next
  | [], c, k, r, h => by simp at h
  | s :: rs, c, 0, r, h => by simp at h; subst h; cases rs <;> rfl
  | s :: rs, c, k + 1, r, h => by
    show cAt s.next rs (k + 1) = r.next
    exact cAt_succ rs s.next k r (by simpa using h)

theorem Ctx.base (C : Ctx P call ops M rs a0 σ0 cf) {i : Nat} {r : DRec} (h : rs[i]? = some r) : r.base = cAt (σ0.next + ops.size) rs i := dOne_base (C.one i r h)

theorem Ctx.mono (C : Ctx P call ops M rs a0 σ0 cf) : ∀ (k i : Nat), i + k ≤ rs.length → cAt (σ0.next + ops.size) rs i ≤ cAt (σ0.next + ops.size) rs (i + k)
  | 0, i, _ => Nat.le_refl _
  | k + 1, i, h => by
    have ih := C.mono k i (by omega)
    have hlt : i + k < rs.length := by omega
    have hr : rs[i + k]? = some rs[i + k] := List.getElem?_eq_getElem hlt
    have := (C.slot _ _ hr).1
    rw [C.base hr] at this
    rw [show i + (k + 1) = (i + k) + 1 by omega, cAt_succ rs _ _ _ hr]
    omega

theorem Ctx.lt (C : Ctx P call ops M rs a0 σ0 cf) {i j : Nat} {r s : DRec} (hi : rs[i]? = some r) (hj : rs[j]? = some s) (h : i < j) : r.next ≤ s.base := by
  have hjl := (List.getElem?_eq_some_iff.1 hj).1
  have := C.mono (j - (i + 1)) (i + 1) (by omega)
  rw [cAt_succ rs _ _ _ hi, show i + 1 + (j - (i + 1)) = j by omega] at this
  rw [C.base hj]; exact this

theorem Ctx.lo (C : Ctx P call ops M rs a0 σ0 cf) {i : Nat} {r : DRec} (hi : rs[i]? = some r) : σ0.next + ops.size ≤ r.base := by
  have := C.mono i 0 (by have := (List.getElem?_eq_some_iff.1 hi).1; omega)
  rw [C.base hi]
  simpa [cAt] using this

theorem Ctx.hi (C : Ctx P call ops M rs a0 σ0 cf) {i : Nat} {r : DRec} (hi : rs[i]? = some r) : r.next ≤ cf := by
  have hil := (List.getElem?_eq_some_iff.1 hi).1
  have := C.mono (ops.size - (i + 1)) (i + 1) (by have := C.len; omega)
  rw [cAt_succ rs _ _ _ hi, show i + 1 + (ops.size - (i + 1)) = ops.size by have := C.len; omega] at this
  rw [C.fin]; exact this

theorem Ctx.cf_lo (C : Ctx P call ops M rs a0 σ0 cf) : σ0.next + ops.size ≤ cf := by
  have := C.mono ops.size 0 (by have := C.len; omega)
  rw [C.fin]; simpa [cAt] using this

/-- Which operations the edges put ahead. -/
theorem Ctx0.mask (C : Ctx0 ops M rs nn N0) {i : Nat} {o : Oper} (ho : ops[i]? = some o) : M[i]? = some (maskOf (fun j => (M.take i).getD j 0) o.after.toList) ∧ M.length = ops.size := by
  obtain ⟨h1, _, h3⟩ := masksGo_spec ops.toList []
  have := h3 i o (by simpa using ho)
  simp only [List.length_nil, Nat.zero_add] at this h1
  rw [C.hM]
  exact ⟨this, by simpa using h1⟩

def Closed (ops : Array Oper) (D : Nat → Bool) : Prop := ∀ i o, D i = true → ops[i]? = some o → ∀ e ∈ o.after.toList, Region.binds .any e = true → D e.on = true

theorem Ctx0.anc (C : Ctx0 ops M rs nn N0) {D : Nat → Bool} (hD : Closed ops D) : ∀ (i : Nat) (o : Oper), ops[i]? = some o → (∀ e ∈ o.after.toList, Region.binds .any e = true → D e.on = true) → ∀ j, ordB M j i = true → D j = true := by
  intro i
  induction i using Nat.strongRecOn with
  | _ i ih =>
    intro o ho hdeps j hj
    obtain ⟨hm, hl⟩ := C.mask ho
    unfold ordB at hj
    rw [List.getD_eq_getElem?_getD, hm] at hj
    obtain ⟨e, he, hb, h1⟩ := maskOf_bit hj
    have hDe := hdeps e he hb
    rcases h1 with rfl | h1
    · exact hDe
    · rw [List.getD_eq_getElem?_getD, List.getElem?_take] at h1
      split at h1
      · next hlt =>
        by_cases hin : e.on < ops.size
        · have hoe : ops[e.on]? = some ops[e.on] := by simp [hin]
          refine ih e.on hlt ops[e.on] hoe (fun e' he' hb' => hD e.on _ hDe hoe e' he' hb') j ?_
          unfold ordB
          rw [List.getD_eq_getElem?_getD]; exact h1
        · rw [List.getElem?_eq_none (by omega)] at h1
          simp at h1
      · simp at h1

theorem Ctx0.ord_lt (C : Ctx0 ops M rs nn N0) {i j : Nat} (h : ordB M j i = true) : j < i := by
  unfold ordB at h
  rw [List.getD_eq_getElem?_getD] at h
  cases hm : M[i]? with
  | none => rw [hm] at h; simp at h
  | some m =>
    rw [hm] at h
    have hlt := masksOk_lt M 0 C.mok i m hm
    simp only [Nat.zero_add, Option.getD_some] at hlt h
    exact Nat.lt_of_not_le fun hle => by
      have := Nat.testBit_lt_two_pow (Nat.lt_of_lt_of_le hlt (Nat.pow_le_pow_right (by omega) hle))
      rw [this] at h; cases h

/-- Where what has been done and what stands ahead in the text part, the order is open. -/
theorem Ctx0.open_ (C : Ctx0 ops M rs nn N0) {D : Nat → Bool} (hD : Closed ops D) {i j : Nat} {o : Oper} (ho : ops[i]? = some o) (hi : D i = false) (hdeps : ∀ e ∈ o.after.toList, Region.binds .any e = true → D e.on = true)
    (hj : j < ops.size) (hne : D j ≠ decide (j < i)) : unord M i j = true := by
  have hij : i ≠ j := by rintro rfl; rw [hi] at hne; simp at hne
  have h1 : ordB M j i = false := by
    cases h : ordB M j i with
    | false => rfl
    | true =>
      have h2 := C.anc hD i o ho hdeps j h
      have h3 := C.ord_lt h
      rw [h2] at hne; simp [h3] at hne
  have h2 : ordB M i j = false := by
    cases h : ordB M i j with
    | false => rfl
    | true =>
      have h3 := C.ord_lt h
      have h4 : D j = true := by
        cases hDj : D j with
        | true => rfl
        | false => rw [hDj] at hne; simp at hne; omega
      have hoj : ops[j]? = some ops[j] := by simp [hj]
      have := C.anc hD j _ hoj (fun e he hb => hD j _ h4 hoj e he hb) i h
      rw [this] at hi; cases hi
  unfold unord
  rw [natBeq hij, h1, h2]; rfl

theorem disj_not {l m : List Nat} (h : disj l m = true) {b : Nat} (hb : b ∈ l) : b ∉ m := by
  unfold disj at h
  rw [List.all_eq_true] at h
  have := h b hb
  simpa using this

end
end
end Go.Abs
