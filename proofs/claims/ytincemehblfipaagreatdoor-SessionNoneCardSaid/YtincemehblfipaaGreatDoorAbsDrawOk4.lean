/- Regions whose order Go leaves open: one operation keeps the invariant. -/
import Derived.Test.YtincemehblfipaaGreatDoorAbsDrawOk3
namespace Go.Abs
noncomputable section
variable [TabsOf]
set_option linter.unusedSectionVars false
set_option linter.unusedVariables false
set_option linter.unusedSimpArgs false
variable {P : Program}

structure DInv (P : Program) (ops : Array Oper) (rs : List DRec) (a0 : AAct) (σ0 : ASt) (cf : Nat) (η0 : Env) (w0 : World) (D : Nat → Bool) (η : Env) (w : World) (A : Act) : Prop where
  closed : Closed ops D
  st : St P η0 σ0 w0 η { h := foldD (updsL rs) 0 D σ0.h, next := cf, lock := σ0.lock } w
  tr : TR P η { t := foldD (slotsL rs) 0 D a0.t, n := a0.n, gn := a0.gn } A
  dm : ∀ id q, η id = some q → id < σ0.next ∨ (∃ k, k < ops.size ∧ D k = true ∧ id = σ0.next + k) ∨ (∃ (j : Nat) (r : DRec), rs[j]? = some r ∧ D j = true ∧ r.base ≤ id ∧ id < r.next)

theorem TR.add {η η' : Env} {T T' : Tr AV} {n gn : Nat} {A : Act} {o : Oper} {v : Option AV} {x : Value} (h : TR P η { t := T, n := n, gn := gn } A) (hle : η.le η') (hg : ∀ d, T'.get d = (lookU (dstU o v) d).getD (T.get d))
    (hb : ∀ p ∈ dstU o v, p.1 < n) (hv : ∀ u, v = some u → VR η' u x) : TR P η' { t := T', n := n, gn := gn } (A.put o.dst x) := by
  have h' := h.mono hle
  unfold dstU at hg hb
  cases hd : o.dst with
  | none =>
    rw [hd] at hg
    refine ⟨h.gn, h.size, h.none, fun d u hu => ?_⟩
    rw [hg] at hu
    exact h'.slot d u hu
  | some d0 =>
    rw [hd] at hg hb
    have hd0 := hb (d0, v) (by simp)
    refine ⟨h.gn, by have := h.size; simpa [Act.put] using this, h.none, fun d u hu => ?_⟩
    rw [hg] at hu
    simp only [lookU] at hu
    show ∃ y, (A.tmps.setIfInBounds d0 x)[d]? = some y ∧ _
    rw [Array.getElem?_setIfInBounds]
    by_cases e : d = d0
    · subst e
      rw [if_pos rfl, if_pos (by have := h.size; simp only at this hd0; omega)]
      rw [if_pos rfl] at hu
      exact ⟨x, rfl, hv u hu⟩
    · rw [if_neg (fun e' => e e'.symm)]
      rw [if_neg e] at hu
      exact h'.slot d u hu

section
variable {call : Caller} {ops : Array Oper} {M : List Nat} {rs : List DRec} {a0 : AAct} {σ0 : ASt} {cf : Nat} {η0 η : Env} {w0 w : World} {D : Nat → Bool} {A : Act} {i nn N0 : Nat} {o : Oper} {r : DRec}

def addD (D : Nat → Bool) (i : Nat) : Nat → Bool := fun j => D j || Nat.beq j i

theorem updsL_at {rs : List DRec} {i : Nat} {r : DRec} (h : rs[i]? = some r) : (updsL rs)[i]? = some r.upd := by simp [updsL, h]
theorem slotsL_at {rs : List DRec} {i : Nat} {r : DRec} (h : rs[i]? = some r) : (slotsL rs)[i]? = some r.slot := by simp [slotsL, h]
theorem updsL_of {rs : List DRec} {i : Nat} {u : List (Nat × Option AObj)} (h : (updsL rs)[i]? = some u) : ∃ r, rs[i]? = some r ∧ r.upd = u := by simpa [updsL] using h
theorem slotsL_of {rs : List DRec} {i : Nat} {u : List (Nat × Option AV)} (h : (slotsL rs)[i]? = some u) : ∃ r, rs[i]? = some r ∧ r.slot = u := by simpa [slotsL] using h

theorem pair_parts {N0 i j : Nat} {r s : DRec} {o : Oper} (ho : ops[i]? = some o) (h : pairOk ops N0 i j r s = true) : disj (keysOf r.slot) (keysOf s.slot) = true ∧ disj (o.looksAt ops) (keysOf s.slot) = true ∧ disj (keysOf r.upd) (keysOf s.upd) = true ∧
    (∀ l, r.vis = some l → disj l (keysOf s.upd) = true) ∧ (r.vis = none → i < j → (∀ k ∈ keysOf s.upd, N0 ≤ k) ∧ disj r.loc (keysOf s.upd) = true ∧ s.base = s.next) ∧ (r.vis = none → i ≠ j → j < i ∨ i < j) := by
  unfold pairOk at h
  rw [ho] at h
  simp only [Bool.and_eq_true] at h
  obtain ⟨⟨⟨h1, h2⟩, h3⟩, h4⟩ := h
  refine ⟨h1, h2, h3, ?_, ?_, fun _ hne => by omega⟩
  · intro l hl; rw [hl] at h4; exact h4
  · intro hn hij
    rw [hn] at h4
    simp only [Bool.or_eq_true, Bool.and_eq_true] at h4
    rcases h4 with h4 | ⟨⟨h5, h6⟩, h7⟩
    · rw [Nat.blt_eq] at h4; omega
    · refine ⟨fun k hk => ?_, h6, Nat.eq_of_beq_eq_true h7⟩
      rw [List.all_eq_true] at h5
      exact Nat.le_of_ble_eq_true (h5 k hk)

/-- The operation's part in the state behind it. -/
theorem Ctx0.get_upd (C : Ctx0 ops M rs nn N0) (hD : Closed ops D) (ho : ops[i]? = some o) (hr : rs[i]? = some r) (hi : D i = false) (hdeps : ∀ e ∈ o.after.toList, Region.binds .any e = true → D e.on = true) (b : Nat) :
    (foldD (updsL rs) 0 (addD D i) σ0.h).get b = (lookU r.upd b).getD ((foldD (updsL rs) 0 D σ0.h).get b) := by
  rw [get_foldD, get_foldD]
  have := lastU_add (updsL rs) 0 i D b r.upd (updsL_at hr) (by simpa using hi) (fun j v hj hij hDj hne => by
    obtain ⟨s, hs, rfl⟩ := updsL_of hj
    have hjl : j < ops.size := by have := (List.getElem?_eq_some_iff.1 hs).1; rw [C.len] at this; exact this
    have hun := C.open_ hD ho hi hdeps hjl (by simp at hDj; rw [hDj]; simp; omega)
    have hp := pair_parts ho (C.pairs i j r s hr hs hun)
    exact lookU_none (disj_not hp.2.2.1 ((lookU_mem _ _).1 hne)))
  simp only [Nat.zero_add] at this
  unfold addD
  rw [this]
  cases lookU r.upd b <;> rfl

theorem Ctx0.get_slot (C : Ctx0 ops M rs nn N0) (hD : Closed ops D) (ho : ops[i]? = some o) (hr : rs[i]? = some r) (hi : D i = false) (hdeps : ∀ e ∈ o.after.toList, Region.binds .any e = true → D e.on = true) (b : Nat) :
    (foldD (slotsL rs) 0 (addD D i) a0.t).get b = (lookU r.slot b).getD ((foldD (slotsL rs) 0 D a0.t).get b) := by
  rw [get_foldD, get_foldD]
  have := lastU_add (slotsL rs) 0 i D b r.slot (slotsL_at hr) (by simpa using hi) (fun j v hj hij hDj hne => by
    obtain ⟨s, hs, rfl⟩ := slotsL_of hj
    have hjl : j < ops.size := by have := (List.getElem?_eq_some_iff.1 hs).1; rw [C.len] at this; exact this
    have hun := C.open_ hD ho hi hdeps hjl (by simp at hDj; rw [hDj]; simp; omega)
    have hp := pair_parts ho (C.pairs i j r s hr hs hun)
    exact lookU_none (disj_not hp.1 ((lookU_mem _ _).1 hne)))
  simp only [Nat.zero_add] at this
  unfold addD
  rw [this]
  cases lookU r.slot b <;> rfl

/-- What the operation looks at reads the same in the text's order and in any other. -/
theorem Ctx0.same_slot (C : Ctx0 ops M rs nn N0) (hD : Closed ops D) (ho : ops[i]? = some o) (hr : rs[i]? = some r) (hi : D i = false) (hdeps : ∀ e ∈ o.after.toList, Region.binds .any e = true → D e.on = true) {d : Nat} (hd : d ∈ o.looksAt ops) :
    (applyAll ((slotsL rs).take i) a0.t).get d = (foldD (slotsL rs) 0 D a0.t).get d := by
  rw [get_applyAll (slotsL rs) i 0, get_foldD]
  congr 1
  refine lastU_agree _ _ _ _ _ fun j u hj hne => ?_
  obtain ⟨s, hs, rfl⟩ := slotsL_of hj
  have hjl : j < ops.size := by have := (List.getElem?_eq_some_iff.1 hs).1; rw [C.len] at this; exact this
  simp only [Nat.zero_add] at hne
  have hun := C.open_ hD ho hi hdeps hjl (fun e => hne e.symm)
  have hp := pair_parts ho (C.pairs i j r s hr hs hun)
  exact lookU_none (disj_not hp.2.1 hd)

theorem Ctx0.same_upd (C : Ctx0 ops M rs nn N0) (hD : Closed ops D) (ho : ops[i]? = some o) (hr : rs[i]? = some r) (hi : D i = false) (hdeps : ∀ e ∈ o.after.toList, Region.binds .any e = true → D e.on = true) {l : List Nat} (hv : r.vis = some l) {b : Nat} (hb : b ∈ l) :
    (applyAll ((updsL rs).take i) σ0.h).get b = (foldD (updsL rs) 0 D σ0.h).get b := by
  rw [get_applyAll (updsL rs) i 0, get_foldD]
  congr 1
  refine lastU_agree _ _ _ _ _ fun j u hj hne => ?_
  obtain ⟨s, hs, rfl⟩ := updsL_of hj
  have hjl : j < ops.size := by have := (List.getElem?_eq_some_iff.1 hs).1; rw [C.len] at this; exact this
  simp only [Nat.zero_add] at hne
  have hun := C.open_ hD ho hi hdeps hjl (fun e => hne e.symm)
  have hp := pair_parts ho (C.pairs i j r s hr hs hun)
  exact lookU_none (disj_not (hp.2.2.2.1 l hv) hb)

/-- The slots, as the operation sees them. -/
theorem Ctx.act (C : Ctx P call ops M rs a0 σ0 cf) (hinv : DInv P ops rs a0 σ0 cf η0 w0 D η w A) (ho : ops[i]? = some o) (hr : rs[i]? = some r) (hi : D i = false) (hdeps : ∀ e ∈ o.after.toList, Region.binds .any e = true → D e.on = true) :
    TR P η { t := restrictT (applyAll ((slotsL rs).take i) a0.t) (o.looksAt ops), n := a0.n, gn := a0.gn } A := by
  refine ⟨hinv.tr.gn, hinv.tr.size, hinv.tr.none, fun d v hv => ?_⟩
  rw [get_restrictT] at hv
  split at hv
  · next hd =>
    rw [C.same_slot (a0 := a0) hinv.closed ho hr hi hdeps hd] at hv
    exact hinv.tr.slot d v hv
  · cases hv

theorem Ctx.gen (C : Ctx P call ops M rs a0 σ0 cf) (hcall : CallOk P call) (hinv : DInv P ops rs a0 σ0 cf η0 w0 D η w A) (ho : ops[i]? = some o) (hr : rs[i]? = some r) (hil : i < ops.size) (hi : D i = false)
    (hdeps : ∀ e ∈ o.after.toList, Region.binds .any e = true → D e.on = true) {ηi : Env} {τ τ' : ASt} {v : Option AV} {a : AAct} {K : Act → World → Prop} {Q : Exit → Act → World → Prop}
    (hSi : SR P ηi τ w) (hTi : TR P ηi a A) (hle : ηi.le η) (hro : ηi.ro = η.ro) (hop : aOp P call o a.eval τ = some (v, τ')) (hslot : r.slot = dstU o v)
    (sub : ∀ id ob, τ.get id = some ob → (foldD (updsL rs) 0 D σ0.h).get id = some ob) (free : ∀ id q, η id = some q → ¬ (τ.next ≤ id ∧ id < τ'.next))
    (hu : ∀ b ob, lookU r.upd b = some (some ob) → τ'.get b = some ob ∧ ((∃ o0, τ.get b = some o0 ∧ o0.own = true) ∨ (ob.own = true ∧ τ.get b = none)))
    (unl : ∀ id ob, τ.get id = some ob → ob.own = true → τ.lock ≤ id → lookU r.upd id ≠ none) (hlk : σ0.lock ≤ τ.lock) (hul : ∀ b, lookU r.upd b ≠ none → τ.lock ≤ b)
    (hdm : ∀ id, τ.next ≤ id → id < τ'.next → σ0.next ≤ id ∧ id < cf ∧ (id = σ0.next + i ∨ (r.base ≤ id ∧ id < r.next)))
    (hK : ∀ η' A' w', DInv P ops rs a0 σ0 cf η0 w0 (addD D i) η' w' A' → K A' w') : o.wp P A w K Q := by
  refine aOp_wp hSi hcall hTi hop fun x ηi' w' hst hx => ?_
  let η' : Env := ⟨fun id => if τ.next ≤ id ∧ id < τ'.next then ηi' id else η id, ηi'.ro⟩
  have h1 : η.le η' := ⟨fun id q hq => by
    show (if τ.next ≤ id ∧ id < τ'.next then ηi' id else η id) = some q
    rw [if_neg (free id q hq)]; exact hq, fun b o hb => hst.ext.ro b o (by rw [hro]; exact hb)⟩
  have h2 : ηi'.le η' := ⟨fun id q hq => by
    show (if τ.next ≤ id ∧ id < τ'.next then ηi' id else η id) = some q
    split
    · exact hq
    · next hn =>
      rcases hst.new id q hq with h3 | h3
      · exact hle.pl _ _ h3
      · exact absurd h3 hn, fun _ _ h => h⟩
  have hnew : ∀ id q, η' id = some q → η id = some q ∨ (τ.next ≤ id ∧ id < τ'.next) := fun id q hq => by
    have hq' : (if τ.next ≤ id ∧ id < τ'.next then ηi' id else η id) = some q := hq
    split at hq'
    · next hn => exact .inr hn
    · exact .inl hq'
  have hg := C.get_upd (σ0 := σ0) hinv.closed ho hr hi hdeps
  have hdom : ∀ id q, η' id = some q → id < cf := fun id q hq => by
    rcases hnew id q hq with h3 | ⟨h3, h4⟩
    · exact hinv.st.rel.dom id q h3
    · exact (hdm id h3 h4).2.1
  obtain ⟨rel, size, keep, own, roNew⟩ := St.merge (σ' := { h := foldD (updsL rs) 0 (addD D i) σ0.h, next := cf, lock := σ0.lock }) (upd := r.upd) (η' := η') hinv.st.rel hSi hst sub hle hro rfl h1 h2 hg hu unl hlk hul hdom
  refine hK η' _ w' ⟨?_, ?_, ?_, ?_⟩
  · intro k o' hk ho' e he hb
    unfold addD at hk ⊢
    simp only [Bool.or_eq_true] at hk ⊢
    rcases hk with hk | hk
    · exact .inl (hinv.closed k o' hk ho' e he hb)
    · have := Nat.eq_of_beq_eq_true hk; subst this
      rw [ho] at ho'; cases ho'
      exact .inl (hdeps e he hb)
  · refine hinv.st.then h1 rel size keep own hst.os hst.tape hst.output rfl (Nat.le_refl _) ?_ roNew
    intro id q hq
    rcases hnew id q hq with h3 | ⟨h3, h4⟩
    · exact .inl h3
    · exact .inr ⟨(hdm id h3 h4).1, (hdm id h3 h4).2.1⟩
  · have hg' := C.get_slot (a0 := a0) hinv.closed ho hr hi hdeps
    rw [hslot] at hg'
    exact hinv.tr.add h1 hg' (by rw [← hslot]; exact (C.slot i r hr).2) (fun u hu' => VR.mono h2 _ _ (hx u hu'))
  · intro id q hq
    have hD' : ∀ k, D k = true → addD D i k = true := fun k hk => by unfold addD; rw [hk]; rfl
    have hii : addD D i i = true := by unfold addD; simp
    rcases hnew id q hq with h3 | ⟨h3, h4⟩
    · rcases hinv.dm id q h3 with h5 | ⟨k, h5, h6, h7⟩ | ⟨j, s, h5, h6, h7⟩
      · exact .inl h5
      · exact .inr (.inl ⟨k, h5, hD' k h6, h7⟩)
      · exact .inr (.inr ⟨j, s, h5, hD' j h6, h7⟩)
    · obtain ⟨_, _, h5 | h5⟩ := hdm id h3 h4
      · exact .inr (.inl ⟨i, hil, hii, h5⟩)
      · exact .inr (.inr ⟨i, r, hr, hii, h5⟩)

end
end
end Go.Abs
