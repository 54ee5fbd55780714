/- Regions whose order Go leaves open: the region. -/
import Derived.Test.YtjpgiloggpfehaaGreatDoorAbsDrawOk5
namespace Go.Abs
variable [TabsOf]
set_option linter.unusedSectionVars false
set_option linter.unusedVariables false
set_option linter.unusedSimpArgs false
variable {P : Program}

section
variable {call : Caller} {ops : Array Oper} {M : List Nat} {rs : List DRec} {a0 : AAct} {σ0 : ASt} {cf : Nat} {η0 : Env} {w0 : World}

def inB (listed : Array Bool) : Nat → Bool := fun j => listed.getD j false

theorem ready_mem {listed : Array Bool} (hl : listed.size = ops.size) {i : Nat} (h : i ∈ Region.ready .any ops listed) : i < ops.size ∧ inB listed i = false ∧ ∀ o, ops[i]? = some o → ∀ e ∈ o.after.toList, Region.binds .any e = true → inB listed e.on = true := by
  unfold Region.ready at h
  simp only [List.mem_filter, List.mem_range, Bool.and_eq_true, Bool.not_eq_true'] at h
  obtain ⟨h1, h2, h3⟩ := h
  have hlt : i < listed.size := by omega
  refine ⟨h1, ?_, ?_⟩
  · unfold inB
    rw [Array.getD_eq_getD_getElem?, Array.getElem?_eq_getElem hlt] at h2 ⊢
    exact h2
  · intro o ho e he hb
    rw [ho] at h3
    simp only [Option.map_some, Option.getD_some] at h3
    rw [Array.all_eq_true'] at h3
    have := h3 e (by simpa using he)
    rw [hb] at this
    simpa [inB] using this

theorem count_set (listed : Array Bool) (i : Nat) (h : listed[i]? = some false) : (listed.setIfInBounds i true).toList.count false + 1 = listed.toList.count false := by
  have hlt : i < listed.size := (Array.getElem?_eq_some_iff.1 h).1
  have hv : listed[i] = false := (Array.getElem?_eq_some_iff.1 h).2
  have h1 : listed.toList[i]'(by simpa using hlt) = false := by simpa using hv
  have hpos : 0 < listed.toList.count false := List.count_pos_iff.2 (by rw [← h1]; exact List.getElem_mem _)
  rw [Array.toList_setIfInBounds, List.count_set (by simpa using hlt), h1]
  have e1 : ((false == false) = true) := rfl
  have e2 : ¬ ((true == false) = true) := by decide
  rw [if_pos e1, if_neg e2]
  omega

theorem foldD_all {α : Type} : ∀ (us : List (List (Nat × Option α))) (k : Nat) (D : Nat → Bool) (t : Tr α), (∀ j, j < us.length → D (k + j) = true) → foldD us k D t = applyAll us t
  | [], _, _, _, _ => rfl
  | u :: us, k, D, t, h => by
    have h0 := h 0 (by simp)
    simp only [Nat.add_zero] at h0
    rw [foldD, if_pos h0, applyAll, foldD_all us (k + 1) D _ (fun j hj => by rw [show k + 1 + j = k + (j + 1) by omega]; exact h (j + 1) (by simpa using hj))]

theorem any_ok (C : Ctx P call ops M rs a0 σ0 cf) (hcall : CallOk P call) (hS0 : SR P η0 σ0 w0) {Q : Exit → Act → World → Prop}
    (hK : ∀ η' A' w', DInv P ops rs a0 σ0 cf η0 w0 (fun j => decide (j < ops.size)) η' w' A' → Q .normal A' w') :
    ∀ (fuel : Nat) (listed : Array Bool) (η : Env) (w : World) (A : Act), listed.size = ops.size → listed.toList.count false = fuel → DInv P ops rs a0 σ0 cf η0 w0 (inB listed) η w A → wpAny P .any ops Q fuel listed A w := by
  intro fuel
  induction fuel with
  | zero =>
    intro listed η w A hl hc hinv
    have hall : ∀ j, j < ops.size → inB listed j = true := by
      intro j hj
      have hlt : j < listed.size := by omega
      have hm : listed[j] ∈ listed.toList := by simp
      have : false ∉ listed.toList := List.count_eq_zero.1 hc
      unfold inB
      rw [Array.getD_eq_getD_getElem?, Array.getElem?_eq_getElem hlt]
      cases hv : listed[j] with
      | true => rfl
      | false => rw [hv] at hm; exact absurd hm this
    have hD : inB listed = fun j => decide (j < ops.size) := by
      funext j
      by_cases hj : j < ops.size
      · rw [hall j hj]; simp [hj]
      · unfold inB
        rw [Array.getD_eq_getD_getElem?, Array.getElem?_eq_none (by omega)]
        simp [hj]
    refine ⟨?_, ?_⟩
    · apply List.eq_nil_iff_forall_not_mem.2
      intro i hi
      obtain ⟨h1, h2, _⟩ := ready_mem hl hi
      rw [hall i h1] at h2; cases h2
    · rw [hD] at hinv; exact hK η A w hinv
  | succ fuel ih =>
    intro listed η w A hl hc hinv
    refine ⟨fun hr => ?_, fun i hi => ?_⟩
    · -- something is ready
      exfalso
      have hex : ∃ i, i < ops.size ∧ inB listed i = false ∧ ∀ j, j < i → inB listed j = true := by
        have hpos : 0 < listed.toList.count false := by omega
        have hm := List.count_pos_iff.1 hpos
        obtain ⟨k, hk⟩ := List.mem_iff_getElem?.1 hm
        have hklt : k < ops.size := by have := (List.getElem?_eq_some_iff.1 hk).1; simp at this; omega
        have hkf : inB listed k = false := by
          unfold inB; rw [Array.getD_eq_getD_getElem?]
          rw [Array.getElem?_toList] at hk; rw [hk]; rfl
        clear hm hk
        induction k using Nat.strongRecOn with
        | _ k ihk =>
          by_cases hb : ∃ j, j < k ∧ inB listed j = false
          · obtain ⟨j, h1, h2⟩ := hb
            exact ihk j h1 (by omega) h2
          · refine ⟨k, hklt, hkf, fun j hj => ?_⟩
            cases hv : inB listed j with
            | true => rfl
            | false => exact absurd ⟨j, hj, hv⟩ hb
      obtain ⟨i, h1, h2, h3⟩ := hex
      have hmem : i ∈ Region.ready .any ops listed := by
        unfold Region.ready
        simp only [List.mem_filter, List.mem_range, Bool.and_eq_true, Bool.not_eq_true']
        have hlt : i < listed.size := by omega
        refine ⟨h1, ?_, ?_⟩
        · unfold inB at h2
          rw [Array.getD_eq_getD_getElem?, Array.getElem?_eq_getElem hlt] at h2 ⊢
          exact h2
        · have ho : ops[i]? = some ops[i] := by simp [h1]
          rw [ho]
          simp only [Option.map_some, Option.getD_some]
          rw [Array.all_eq_true']
          intro e he
          cases hb : Region.binds .any e with
          | false => rfl
          | true =>
            simp only [Bool.not_true, Bool.false_or]
            obtain ⟨hm, hlen⟩ := C.mask ho
            -- the edge leads to something ahead in the text
            have hbit : ordB M e.on i = true := by
              unfold ordB
              rw [List.getD_eq_getElem?_getD, hm]
              simp only [Option.getD_some]
              have : ∀ (es : List Edge), e ∈ es → (maskOf (fun j => (M.take i).getD j 0) es).testBit e.on = true := by
                intro es
                induction es with
                | nil => intro h; simp at h
                | cons x es ihes =>
                  intro h
                  rw [maskOf]
                  simp only [List.mem_cons] at h
                  rcases h with rfl | h
                  · rw [if_pos hb, Nat.testBit_or, Nat.testBit_or, Nat.testBit_two_pow]; simp
                  · split
                    · rw [Nat.testBit_or, ihes h, Bool.or_true]
                    · exact ihes h
              exact this _ (by simpa using he)
            exact h3 e.on (C.ord_lt hbit)
      rw [hr] at hmem; simp at hmem
    · obtain ⟨h1, h2, h3⟩ := ready_mem hl hi
      refine C.step hcall hS0 hinv h1 h2 h3 fun η' A' w' hinv' => ?_
      have hf : listed[i]? = some false := by
        have hlt : i < listed.size := by omega
        unfold inB at h2
        rw [Array.getD_eq_getD_getElem?, Array.getElem?_eq_getElem hlt] at h2
        rw [Array.getElem?_eq_getElem hlt]
        simpa using h2
      have hD : addD (inB listed) i = inB (listed.setIfInBounds i true) := by
        funext j
        unfold addD inB
        have hlt : i < listed.size := by omega
        rw [Array.getD_eq_getD_getElem?, Array.getD_eq_getD_getElem?, Array.getElem?_setIfInBounds]
        by_cases e : i = j
        · subst e; rw [if_pos rfl, if_pos hlt]; simp
        · rw [if_neg e, natBeq (fun e' => e e'.symm)]; simp
      rw [hD] at hinv'
      exact ih _ η' w' A' (by simpa using hl) (by have := count_set listed i hf; omega) hinv'

end

/-- The evaluator's word on a region whose order is open. -/
theorem draw_ok (hm : P.follows .mixedOrders = true) : DrawOk P (aDraw P) := by
  intro call hcall ops a σ a' σ' hs η w A id Q h ht hK
  unfold aDraw at hs
  simp only at hs
  split at hs
  · next hok =>
    simp only [Bool.and_eq_true] at hok
    split at hs
    · next rs t hh c hgo =>
      split at hs
      · next hchk =>
        simp only [Bool.and_eq_true] at hchk
        obtain ⟨⟨hp, hsl⟩, hbig⟩ := hchk
        simp only [Option.some.injEq, Prod.mk.injEq] at hs
        obtain ⟨rfl, rfl⟩ := hs
        obtain ⟨new, h1, h2, h3, h4, h5, h6⟩ := dGo_spec _ _ _ _ _ _ _ _ _ _ hgo
        simp only [List.nil_append] at h1
        subst h1
        have C : Ctx P call ops (masksGo ops.toList []) rs a σ c := {
          hM := rfl
          mok := hok.1
          len := h2
          one := fun i r hr => by have := h6 i r hr; simpa using this
          pairs := by
            intro i j r s hr hs' hu
            unfold pairsOk at hp
            rw [List.all_eq_true] at hp
            have := hp (r, i) (by rw [List.mem_zipIdx_iff_getElem?]; simpa using hr)
            simp only at this
            rw [List.all_eq_true] at this
            have := this (s, j) (by rw [List.mem_zipIdx_iff_getElem?]; simpa using hs')
            simp only [hu, Bool.not_true, Bool.false_or] at this
            exact this
          slot := by
            intro i r hr
            unfold slotsOk at hsl
            rw [List.all_eq_true] at hsl
            have := hsl r (List.mem_of_getElem? hr)
            simp only [Bool.and_eq_true] at this
            refine ⟨Nat.le_of_ble_eq_true this.1, fun p hpm => ?_⟩
            have h8 := this.2
            rw [List.all_eq_true] at h8
            have := h8 p hpm
            rwa [Nat.blt_eq] at this
          fin := h5
          big := Nat.le_of_ble_eq_true hbig
          lock := Nat.le_of_ble_eq_true hok.2 }
        refine wp_region_any hm ?_
        have hcl := C.cf_lo
        have hempty : inB (Array.replicate ops.size false) = fun _ => false := by
          funext j
          unfold inB
          rw [Array.getD_eq_getD_getElem?, Array.getElem?_replicate]
          split <;> rfl
        refine any_ok C hcall (h.drew) (η0 := η) (w0 := { w with drawn := w.drawn + 1 }) ?_ ops.size (Array.replicate ops.size false) η _ A (by simp) (by simp) ?_
        · intro η' A' w' hinv
          have hslots : foldD (slotsL rs) 0 (fun j => decide (j < ops.size)) a.t = t := by
            rw [h3]; exact foldD_all _ _ _ _ (fun j hj => by simp [slotsL] at hj ⊢; omega)
          have hupds : foldD (updsL rs) 0 (fun j => decide (j < ops.size)) σ.h = hh := by
            rw [h4]; exact foldD_all _ _ _ _ (fun j hj => by simp [updsL] at hj ⊢; omega)
          have hst := hinv.st
          have htr := hinv.tr
          rw [hupds] at hst
          rw [hslots] at htr
          exact hK η' A' w' ((St.drew h).trans hst) htr
        · rw [hempty]
          have hno : ∀ {α : Type} (us : List (List (Nat × Option α))) (k : Nat) (t : Tr α), foldD us k (fun _ => false) t = t := by
            intro α us
            induction us with
            | nil => intro k t; rfl
            | cons u us ih => intro k t; rw [foldD]; simp only [Bool.false_eq_true, if_false]; exact ih _ _
          refine ⟨fun i o hi => by simp at hi, ?_, ?_, fun id q hq => .inl (h.dom id q hq)⟩
          · rw [hno]
            refine (St.refl h.drew).sub (fun id o ho => ho) (by show σ.next ≤ c; omega) rfl
          · rw [hno]; exact ⟨ht.gn, ht.size, ht.none, ht.slot⟩
      · cases hs
    · cases hs
  · cases hs

end Go.Abs
