/- Regions whose order Go leaves open: the region. -/
import Derived.Test.YtincemehblfipaaGreatDoorAbsDrawOk5
namespace Go.Abs
noncomputable section
variable [TabsOf]
set_option linter.unusedSectionVars false
set_option linter.unusedVariables false
set_option linter.unusedSimpArgs false
variable {P : Program}

section
variable {call : Caller} {ops : Array Oper} {M : List Nat} {rs : List DRec} {a0 : AAct} {σ0 : ASt} {cf : Nat} {η0 : Env} {w0 : World}

def inB (listed : Array Bool) : Nat → Bool := fun j => listed.getD j false

theorem ready_mem {listed : Array Bool} (hl : listed.size = ops.size) {i : Nat} (h : i ∈ Region.ready .any ops listed) : i < ops.size ∧ inB listed i = false ∧ ∀ o, ops[i]? = some o → ∀ e ∈ o.after.toList, Region.binds .any e = true → inB listed e.on = true := by
  unfold Region.ready at h
  simp only [List.mem_filter, List.mem_range, Bool.and_eq_true, Bool.not_eq_true'] at h
  obtain ⟨h1, h2, h3⟩ := h
  have hlt : i < listed.size := by omega
  refine ⟨h1, ?_, ?_⟩
  · unfold inB
    rw [Array.getD_eq_getD_getElem?, Array.getElem?_eq_getElem hlt] at h2 ⊢
    exact h2
  · intro o ho e he hb
    rw [ho] at h3
    simp only [Option.map_some, Option.getD_some] at h3
    rw [Array.all_eq_true'] at h3
    have := h3 e (by simpa using he)
    rw [hb] at this
    simpa [inB] using this

theorem count_set (listed : Array Bool) (i : Nat) (h : listed[i]? = some false) : (listed.setIfInBounds i true).toList.count false + 1 = listed.toList.count false := by
  have hlt : i < listed.size := (Array.getElem?_eq_some_iff.1 h).1
  have hv : listed[i] = false := (Array.getElem?_eq_some_iff.1 h).2
  have h1 : listed.toList[i]'(by simpa using hlt) = false := by simpa using hv
  have hpos : 0 < listed.toList.count false := List.count_pos_iff.2 (by rw [← h1]; exact List.getElem_mem _)
  rw [Array.toList_setIfInBounds, List.count_set (by simpa using hlt), h1]
  have e1 : ((false == false) = true) := rfl
  have e2 : ¬ ((true == false) = true) := by decide
  rw [if_pos e1, if_neg e2]
  omega

theorem foldD_all {α : Type} : ∀ (us : List (List (Nat × Option α))) (k : Nat) (D : Nat → Bool) (t : Tr α), (∀ j, j < us.length → D (k + j) = true) → foldD us k D t = applyAll us t
  | [], _, _, _, _ => rfl
  | u :: us, k, D, t, h => by
    have h0 := h 0 (by simp)
    simp only [Nat.add_zero] at h0
    rw [foldD, if_pos h0, applyAll, foldD_all us (k + 1) D _ (fun j hj => by rw [show k + 1 + j = k + (j + 1) by omega]; exact h (j + 1) (by simpa using hj))]

end

section
variable {ops : Array Oper} {M : List Nat} {rs : List DRec} {a0 : AAct} {σ : ASt} {η0 : Env} {w0 : World} {n N0 : Nat}

theorem any_gen (C : Ctx0 ops M rs n N0) (Inv : (Nat → Bool) → Env → World → Act → Prop)
    (hstep : ∀ D η w A i (K : Act → World → Prop) (Q : Exit → Act → World → Prop), Inv D η w A → i < ops.size → D i = false → (∀ o, ops[i]? = some o → ∀ e ∈ o.after.toList, Region.binds .any e = true → D e.on = true) →
      (∀ η' A' w', Inv (addD D i) η' w' A' → K A' w') → wpOp P ops Q i K A w) {Q : Exit → Act → World → Prop}
    (hK : ∀ η' A' w', Inv (fun j => decide (j < ops.size)) η' w' A' → Q .normal A' w') :
    ∀ (fuel : Nat) (listed : Array Bool) (η : Env) (w : World) (A : Act), listed.size = ops.size → listed.toList.count false = fuel → Inv (inB listed) η w A → wpAny P .any ops Q fuel listed A w := by
  intro fuel
  induction fuel with
  | zero =>
    intro listed η w A hl hc hinv
    have hall : ∀ j, j < ops.size → inB listed j = true := by
      intro j hj
      have hlt : j < listed.size := by omega
      have hm : listed[j] ∈ listed.toList := by simp
      have : false ∉ listed.toList := List.count_eq_zero.1 hc
      unfold inB
      rw [Array.getD_eq_getD_getElem?, Array.getElem?_eq_getElem hlt]
      cases hv : listed[j] with
      | true => rfl
      | false => rw [hv] at hm; exact absurd hm this
    have hD : inB listed = fun j => decide (j < ops.size) := by
      funext j
      by_cases hj : j < ops.size
      · rw [hall j hj]; simp [hj]
      · unfold inB
        rw [Array.getD_eq_getD_getElem?, Array.getElem?_eq_none (by omega)]
        simp [hj]
    refine ⟨?_, ?_⟩
    · apply List.eq_nil_iff_forall_not_mem.2
      intro i hi
      obtain ⟨h1, h2, _⟩ := ready_mem hl hi
      rw [hall i h1] at h2; cases h2
    · rw [hD] at hinv; exact hK η A w hinv
  | succ fuel ih =>
    intro listed η w A hl hc hinv
    refine ⟨fun hr => ?_, fun i hi => ?_⟩
    · exfalso
      have hex : ∃ i, i < ops.size ∧ inB listed i = false ∧ ∀ j, j < i → inB listed j = true := by
        have hpos : 0 < listed.toList.count false := by omega
        have hm := List.count_pos_iff.1 hpos
        obtain ⟨k, hk⟩ := List.mem_iff_getElem?.1 hm
        have hklt : k < ops.size := by have := (List.getElem?_eq_some_iff.1 hk).1; simp at this; omega
        have hkf : inB listed k = false := by
          unfold inB; rw [Array.getD_eq_getD_getElem?]
          rw [Array.getElem?_toList] at hk; rw [hk]; rfl
        clear hm hk
        induction k using Nat.strongRecOn with
        | _ k ihk =>
          by_cases hb : ∃ j, j < k ∧ inB listed j = false
          · obtain ⟨j, h1, h2⟩ := hb
            exact ihk j h1 (by omega) h2
          · refine ⟨k, hklt, hkf, fun j hj => ?_⟩
            cases hv : inB listed j with
            | true => rfl
            | false => exact absurd ⟨j, hj, hv⟩ hb
      obtain ⟨i, h1, h2, h3⟩ := hex
      have hmem : i ∈ Region.ready .any ops listed := by
        unfold Region.ready
        simp only [List.mem_filter, List.mem_range, Bool.and_eq_true, Bool.not_eq_true']
        have hlt : i < listed.size := by omega
        refine ⟨h1, ?_, ?_⟩
        · unfold inB at h2
          rw [Array.getD_eq_getD_getElem?, Array.getElem?_eq_getElem hlt] at h2 ⊢
          exact h2
        · have ho : ops[i]? = some ops[i] := by simp [h1]
          rw [ho]
          simp only [Option.map_some, Option.getD_some]
          rw [Array.all_eq_true']
          intro e he
          cases hb : Region.binds .any e with
          | false => rfl
          | true =>
            simp only [Bool.not_true, Bool.false_or]
            obtain ⟨hm, hlen⟩ := C.mask ho
            have hbit : ordB M e.on i = true := by
              unfold ordB
              rw [List.getD_eq_getElem?_getD, hm]
              simp only [Option.getD_some]
              have : ∀ (es : List Edge), e ∈ es → (maskOf (fun j => (M.take i).getD j 0) es).testBit e.on = true := by
                intro es
                induction es with
                | nil => intro h; simp at h
                | cons x es ihes =>
                  intro h
                  rw [maskOf]
                  simp only [List.mem_cons] at h
                  rcases h with rfl | h
                  · rw [if_pos hb, Nat.testBit_or, Nat.testBit_or, Nat.testBit_two_pow]; simp
                  · split
                    · rw [Nat.testBit_or, ihes h, Bool.or_true]
                    · exact ihes h
              exact this _ (by simpa using he)
            exact h3 e.on (C.ord_lt hbit)
      rw [hr] at hmem; simp at hmem
    · obtain ⟨h1, h2, h3⟩ := ready_mem hl hi
      refine hstep _ _ _ _ i _ Q hinv h1 h2 h3 fun η' A' w' hinv' => ?_
      have hf : listed[i]? = some false := by
        have hlt : i < listed.size := by omega
        unfold inB at h2
        rw [Array.getD_eq_getD_getElem?, Array.getElem?_eq_getElem hlt] at h2
        rw [Array.getElem?_eq_getElem hlt]
        simpa using h2
      have hD : addD (inB listed) i = inB (listed.setIfInBounds i true) := by
        funext j
        unfold addD inB
        have hlt : i < listed.size := by omega
        rw [Array.getD_eq_getD_getElem?, Array.getD_eq_getD_getElem?, Array.getElem?_setIfInBounds]
        by_cases e : i = j
        · subst e; rw [if_pos rfl, if_pos hlt]; simp
        · rw [if_neg e, natBeq (fun e' => e e'.symm)]; simp
      rw [hD] at hinv'
      exact ih _ η' w' A' (by simpa using hl) (by have := count_set listed i hf; omega) hinv'
end

theorem takeAll {α : Type} : ∀ (us : List (List (Nat × Option α))) (k i : Nat) (t : Tr α), us.length = i + 1 → (∀ u, us[i]? = some u → u = []) → foldD us k (fun j => decide (j < k + i)) t = applyAll us t
  | [], k, i, t, h, _ => by simp at h
  | u :: us, k, 0, t, h, hl => by
    have : us = [] := by cases us <;> simp at h ⊢
    subst this
    have := hl u (by simp)
    subst this
    simp [foldD, applyAll, applyU]
  | u :: us, k, i + 1, t, h, hl => by
    rw [foldD, if_pos (by simp), applyAll]
    have := takeAll us (k + 1) i (applyU u t) (by simpa using h) (fun v hv => hl v (by simpa using hv))
    have e : (fun j => decide (j < k + 1 + i)) = fun j => decide (j < k + (i + 1)) := by funext j; congr 1; apply propext; omega
    rw [e] at this
    exact this

/-- The evaluator's word on a region whose order is open. -/
theorem draw_ok (hm : P.follows .mixedOrders = true) : DrawOk P (aDraw P) := by
  intro call hcall ops a σ a' σ' hs η w A id Q h ht hK
  unfold aDraw at hs
  simp only at hs
  split at hs
  · next hok =>
    simp only [Bool.and_eq_true] at hok
    split at hs
    · next rs t hh c hgo =>
      split at hs
      · next hchk =>
        simp only [Bool.and_eq_true] at hchk
        obtain ⟨⟨⟨hst0, hdy0⟩, hsl⟩, hbig⟩ := hchk
        obtain ⟨new, h1, h2, h3, h4, h5, h6⟩ := dGo_spec _ _ _ _ _ _ _ _ _ _ hgo
        simp only [List.nil_append] at h1
        subst h1
        have C : Ctx P call ops (masksGo ops.toList []) rs a σ c := {
          hM := rfl
          mok := hok.1
          len := h2
          one := fun i r hr => by have := h6 i r hr; simpa using this
          pairs := pairs_of hst0 hdy0 (fun i r hr => by have := h6 i r hr; exact dOne_slot (by simpa using this))
          slot := by
            intro i r hr
            unfold slotsOk at hsl
            rw [List.all_eq_true] at hsl
            have := hsl r (List.mem_of_getElem? hr)
            simp only [Bool.and_eq_true] at this
            refine ⟨Nat.le_of_ble_eq_true this.1, fun p hpm => ?_⟩
            have h8 := this.2
            rw [List.all_eq_true] at h8
            have := h8 p hpm
            rwa [Nat.blt_eq] at this
          fin := h5
          big := Nat.le_of_ble_eq_true hbig
          lock := Nat.le_of_ble_eq_true hok.2 }
        refine wp_region_any hm ?_
        have hcl := C.cf_lo
        have hempty : inB (Array.replicate ops.size false) = fun _ => false := by
          funext j
          unfold inB
          rw [Array.getD_eq_getD_getElem?, Array.getElem?_replicate]
          split <;> rfl
        have hno : ∀ {α : Type} (us : List (List (Nat × Option α))) (k : Nat) (t : Tr α), foldD us k (fun _ => false) t = t := by
          intro α us
          induction us with
          | nil => intro k t; rfl
          | cons u us ih => intro k t; rw [foldD]; simp only [Bool.false_eq_true, if_false]; exact ih _ _
        have start : DInv P ops rs a σ c η { w with drawn := w.drawn + 1 } (fun _ => false) η { w with drawn := w.drawn + 1 } A := by
          refine ⟨fun i o hi => by simp at hi, ?_, ?_, fun id q hq => .inl (h.dom id q hq)⟩
          · rw [hno]
            refine (St.refl h.drew).sub (fun id o ho => ho) (by show σ.next ≤ c; omega) rfl
          · rw [hno]; exact ⟨ht.gn, ht.size, ht.none, ht.slot⟩
        have hslots : foldD (slotsL rs) 0 (fun j => decide (j < ops.size)) a.t = t := by
          rw [h3]; exact foldD_all _ _ _ _ (fun j hj => by simp [slotsL] at hj ⊢; omega)
        by_cases hlast : ∃ l, l + 1 = ops.size ∧ lastAll (masksGo ops.toList []) ops.size l = true
        · -- the last operation stands behind all others
          obtain ⟨l, hl, hla⟩ := hlast
          obtain ⟨r, hr⟩ : ∃ r, rs[l]? = some r := ⟨_, List.getElem?_eq_getElem (by rw [h2]; omega)⟩
          obtain ⟨o, ho⟩ : ∃ o, ops[l]? = some o := ⟨ops[l], by simp [← hl]⟩
          have hone := C.one l r hr
          unfold dOne at hone
          rw [if_pos hla] at hone
          unfold dLast at hone
          rw [ho] at hone
          simp only at hone
          have hgl : rs.getLast? = some r := by rw [List.getLast?_eq_getElem?, h2, show ops.size - 1 = l by omega]; exact hr
          rw [hgl] at hs
          have hlock : ∀ j, ordB (masksGo ops.toList []) j l = true ∨ ¬ j < l := by
            intro j
            by_cases hj : j < l
            · left
              unfold lastAll at hla
              simp only [Bool.and_eq_true, List.all_eq_true] at hla
              exact hla.2 j (by simpa using hj)
            · exact .inr hj
          have hcl2 : cAt (σ.next + ops.size) rs l ≤ c := by
            have := C.hi hr
            have := C.base hr
            have := (C.slot l r hr).1
            omega
          -- what stands once the last one is done
          let Fin : Env → World → Act → Prop := fun η1 w1 A1 => St P η σ { w with drawn := w.drawn + 1 } η1 σ' w1 ∧ TR P η1 { t := t, n := a.n, gn := a.gn } A1
          refine any_gen C.toCtx0 (fun D η1 w1 A1 => (D l = false ∧ DInv P ops rs a σ c η { w with drawn := w.drawn + 1 } D η1 w1 A1) ∨ (D l = true ∧ Fin η1 w1 A1 ∧ ∀ j, j < ops.size → D j = true)) ?_ ?_ ops.size (Array.replicate ops.size false) η _ A (by simp) (by simp) (.inl ⟨by rw [hempty], by rw [hempty]; exact start⟩)
          · intro D η1 w1 A1 i K Q' hinv hil hi hdeps0 hK'
            rcases hinv with ⟨hD, hinv⟩ | ⟨hD, _, hall⟩
            · by_cases hil2 : i = l
              · subst hil2
                have hdeps := hdeps0 o ho
                have hanc := C.anc hinv.closed i o ho hdeps
                have hDlt : ∀ j, j < i → D j = true := fun j hj => hanc j ((hlock j).resolve_right (by omega))
                have hact := C.act hinv ho hr hi hdeps
                have hDeq : D = fun j => D j := rfl
                -- the state ahead of it
                have hst : St P η σ { w with drawn := w.drawn + 1 } η1 { h := foldD (updsL rs) 0 D σ.h, next := c, lock := σ.lock } w1 := hinv.st
                have hupd : ∀ b, (applyAll ((updsL rs).take i) σ.h).get b = (foldD (updsL rs) 0 D σ.h).get b := by
                  intro b
                  rw [get_applyAll (updsL rs) i 0, get_foldD]
                  congr 1
                  refine lastU_agree _ _ _ _ _ fun j u hj hne => ?_
                  exfalso; apply hne
                  have hjl : j < ops.size := by have := (List.getElem?_eq_some_iff.1 hj).1; simp [updsL] at this; omega
                  simp only [Nat.zero_add]
                  by_cases hji : j < i
                  · rw [hDlt j hji]; simp [hji]
                  · have : j = i := by omega
                    subst this; rw [hi]; simp
                have hall' : ∀ j, j < ops.size → addD D i j = true := by
                  intro j hj
                  unfold addD
                  by_cases hji : j = i
                  · subst hji; simp
                  · rw [hDlt j (by omega)]; rfl
                have hslot2 : ∀ d, t.get d = (lookU r.slot d).getD ((foldD (slotsL rs) 0 D a.t).get d) := by
                  intro d
                  rw [← hslots]
                  have hg := C.get_slot (a0 := a) hinv.closed ho hr hi hdeps d
                  rw [← hg]
                  congr 1
                  have : ∀ (us : List (List (Nat × Option AV))) (k : Nat) (D E : Nat → Bool) (t : Tr AV), (∀ j, j < us.length → D (k + j) = E (k + j)) → foldD us k D t = foldD us k E t := by
                    intro us
                    induction us with
                    | nil => intro k D E t _; rfl
                    | cons u us ih =>
                      intro k D E t he
                      have h0 := he 0 (by simp)
                      simp only [Nat.add_zero] at h0
                      rw [foldD, foldD, h0]
                      exact ih _ _ _ _ (fun j hj => by rw [show k + 1 + j = k + (j + 1) by omega]; exact he (j + 1) (by simpa using hj))
                  refine this _ _ _ _ _ fun j hj => ?_
                  simp only [Nat.zero_add]
                  have hjl : j < ops.size := by simp [slotsL] at hj; omega
                  rw [hall' j hjl]; simp [hjl]
                unfold wpOp
                rw [ho]
                simp only
                split at hone
                · cases hone
                · next hw =>
                  cases hone
                  simp only [Option.bind_some] at hs
                  rw [wanted_ok hact hw]
                  simp only [Bool.false_eq_true, if_false]
                  cases hs
                  refine hK' η1 _ w1 (.inr ⟨by unfold addD; simp, ⟨?_, hinv.tr.add (Env.le.refl _) hslot2 (C.slot i _ hr).2 (by simp)⟩, hall'⟩)
                  refine hst.sub (fun id' o' ho' => ?_) ?_ rfl
                  · rw [show (ASt.get { h := foldD (updsL rs) 0 D σ.h, next := c, lock := σ.lock } id') = (foldD (updsL rs) 0 D σ.h).get id' from rfl, ← hupd]; exact ho'
                  · show c ≤ cAt (σ.next + ops.size) rs i
                    have h9 : cAt (σ.next + ops.size) rs ops.size = cAt (σ.next + ops.size) rs (i + 1) := by congr 1; omega
                    have := C.fin.trans (h9.trans (cAt_succ rs _ _ _ hr))
                    exact Nat.le_of_eq this
                · next hw =>
                  rw [wanted_ok hact hw]
                  simp only [if_true]
                  left
                  split at hone
                  · next v τ hop =>
                    rw [fOp_eq] at hop
                    cases hone
                    simp only [Option.bind_some] at hs
                    cases hs
                    have hcfin : c = cAt (σ.next + ops.size) rs i := by
                      have h9 : cAt (σ.next + ops.size) rs ops.size = cAt (σ.next + ops.size) rs (i + 1) := by congr 1; omega
                      exact C.fin.trans (h9.trans (cAt_succ rs _ _ _ hr))
                    have hS1 : SR P η1 { h := applyAll ((updsL rs).take i) σ.h, next := cAt (σ.next + ops.size) rs i, lock := σ.lock } w1 := by
                      refine hst.rel.sub (fun id' o' ho' => ?_) (by show c ≤ cAt (σ.next + ops.size) rs i; exact Nat.le_of_eq hcfin)
                      rw [show (ASt.get { h := foldD (updsL rs) 0 D σ.h, next := c, lock := σ.lock } id') = (foldD (updsL rs) 0 D σ.h).get id' from rfl, ← hupd]; exact ho'
                    have hst1 : St P η σ { w with drawn := w.drawn + 1 } η1 { h := applyAll ((updsL rs).take i) σ.h, next := cAt (σ.next + ops.size) rs i, lock := σ.lock } w1 := by
                      refine hst.sub (fun id' o' ho' => ?_) (by show c ≤ cAt (σ.next + ops.size) rs i; exact Nat.le_of_eq hcfin) rfl
                      rw [show (ASt.get { h := foldD (updsL rs) 0 D σ.h, next := c, lock := σ.lock } id') = (foldD (updsL rs) 0 D σ.h).get id' from rfl, ← hupd]; exact ho'
                    refine aOp_wp hS1 hcall hact hop fun x η' w' hst2 hx => ?_
                    exact hK' η' _ w' (.inr ⟨by unfold addD; simp, ⟨hst1.trans hst2, hinv.tr.add hst2.ext hslot2 (C.slot i _ hr).2 hx⟩, hall'⟩)
                  · cases hone
              · have hnl : lastAll (masksGo ops.toList []) ops.size i = false := by
                  unfold lastAll
                  rw [Bool.and_eq_false_iff]
                  left
                  exact natBeq (fun e : i + 1 = ops.size => hil2 (by omega))
                refine C.step hcall h.drew hinv hil hi hdeps0 hnl fun η' A' w' hinv' => hK' η' A' w' (.inl ⟨?_, hinv'⟩)
                unfold addD
                rw [hD, natBeq (fun e => hil2 e.symm)]; rfl
            · rw [hall i hil] at hi; cases hi
          · intro η1 A1 w1 hinv
            rcases hinv with ⟨hD, _⟩ | ⟨_, ⟨hst, htr⟩, _⟩
            · simp at hD; omega
            · have hs' : a' = { a with t := t } := by
                split at hone
                · cases hone
                · cases hone; simp only [Option.bind_some] at hs; cases hs; rfl
                · split at hone
                  · cases hone; simp only [Option.bind_some] at hs; cases hs; rfl
                  · cases hone
              subst hs'
              exact hK η1 A1 w1 ((St.drew h).trans hst) htr
        · have hnl : ∀ i, i < ops.size → lastAll (masksGo ops.toList []) ops.size i = false := by
            intro i hi
            cases e : lastAll (masksGo ops.toList []) ops.size i with
            | false => rfl
            | true =>
              exfalso; apply hlast
              have e' := e
              unfold lastAll at e'
              rw [Bool.and_eq_true] at e'
              exact ⟨i, Nat.eq_of_beq_eq_true e'.1, e⟩
          have hfin : (rs.getLast?).bind (·.fin) = none := by
            cases hgl : rs.getLast? with
            | none => rfl
            | some r =>
              rw [List.getLast?_eq_getElem?] at hgl
              have hlt := (List.getElem?_eq_some_iff.1 hgl).1
              have hone := C.one _ r hgl
              unfold dOne at hone
              rw [hnl _ (by rw [← h2]; exact hlt)] at hone
              simp only [Bool.false_eq_true, if_false] at hone
              exact dOne_fin hone
          rw [hfin] at hs
          simp only [Option.some.injEq, Prod.mk.injEq] at hs
          obtain ⟨rfl, rfl⟩ := hs
          refine any_gen C.toCtx0 (fun D η1 w1 A1 => DInv P ops rs a σ c η { w with drawn := w.drawn + 1 } D η1 w1 A1) ?_ ?_ ops.size (Array.replicate ops.size false) η _ A (by simp) (by simp) (by rw [hempty]; exact start)
          · intro D η1 w1 A1 i K Q' hinv hil hi hdeps0 hK'
            exact C.step hcall h.drew hinv hil hi hdeps0 (hnl i hil) hK'
          · intro η' A' w' hinv
            have hupds : foldD (updsL rs) 0 (fun j => decide (j < ops.size)) σ.h = hh := by
              rw [h4]; exact foldD_all _ _ _ _ (fun j hj => by simp [updsL] at hj ⊢; omega)
            have hst := hinv.st
            have htr := hinv.tr
            rw [hupds] at hst
            rw [hslots] at htr
            exact hK η' A' w' ((St.drew h).trans hst) htr
      · cases hs
    · cases hs
  · cases hs

end
end Go.Abs
