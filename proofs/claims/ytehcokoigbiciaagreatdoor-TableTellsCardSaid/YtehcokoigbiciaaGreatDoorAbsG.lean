/- Regions whose order Go leaves open: one operation keeps the invariant. -/
import Derived.Test.YtehcokoigbiciaaGreatDoorAbsF

/-! # AbsDrawOk4 -/
namespace Go.Abs
noncomputable section
variable [TabsOf]
set_option linter.unusedSectionVars false
set_option linter.unusedVariables false
set_option linter.unusedSimpArgs false
variable {P : Program}

structure DInv (P : Program) (ops : Array Oper) (rs : List DRec) (a0 : AAct) (σ0 : ASt) (cf : Nat) (η0 : Env) (w0 : World) (D : Nat → Bool) (η : Env) (w : World) (A : Act) : Prop where
  closed : Closed ops D
  st : St P η0 σ0 w0 η { h := foldD (updsL rs) 0 D σ0.h, next := cf, lock := σ0.lock } w
  tr : TR P η { t := foldD (slotsL rs) 0 D a0.t, n := a0.n, gn := a0.gn } A
  dm : ∀ id, η.has id → id < σ0.next ∨ (∃ k, k < ops.size ∧ D k = true ∧ id = σ0.next + k) ∨ (∃ (j : Nat) (r : DRec), rs[j]? = some r ∧ D j = true ∧ r.base ≤ id ∧ id < r.next)

theorem TR.add {η η' : Env} {T T' : Tr AV} {n gn : Nat} {A : Act} {o : Oper} {v : Option AV} {x : Value} (h : TR P η { t := T, n := n, gn := gn } A) (hle : η.le η') (hg : ∀ d, T'.get d = (lookU (dstU o v) d).getD (T.get d))
    (hb : ∀ p ∈ dstU o v, p.1 < n) (hv : ∀ u, v = some u → VR η' u x) : TR P η' { t := T', n := n, gn := gn } (A.put o.dst x) := by
  have h' := h.mono hle
  unfold dstU at hg hb
  cases hd : o.dst with
  | none =>
    rw [hd] at hg
    refine ⟨h.gn, h.size, h.none, fun d u hu => ?_⟩
    rw [hg] at hu
    exact h'.slot d u hu
  | some d0 =>
    rw [hd] at hg hb
    have hd0 := hb (d0, v) (by simp)
    refine ⟨h.gn, by have := h.size; simpa [Act.put] using this, h.none, fun d u hu => ?_⟩
    rw [hg] at hu
    simp only [lookU] at hu
    show ∃ y, (A.tmps.setIfInBounds d0 x)[d]? = some y ∧ _
    rw [Array.getElem?_setIfInBounds]
    by_cases e : d = d0
    · subst e
      rw [if_pos rfl, if_pos (by have := h.size; simp only at this hd0; omega)]
      rw [if_pos rfl] at hu
      exact ⟨x, rfl, hv u hu⟩
    · rw [if_neg (fun e' => e e'.symm)]
      rw [if_neg e] at hu
      exact h'.slot d u hu

section
variable {call : Caller} {ops : Array Oper} {M : List Nat} {rs : List DRec} {a0 : AAct} {σ0 : ASt} {cf : Nat} {η0 η : Env} {w0 w : World} {D : Nat → Bool} {A : Act} {i nn N0 : Nat} {o : Oper} {r : DRec}

def addD (D : Nat → Bool) (i : Nat) : Nat → Bool := fun j => D j || Nat.beq j i

theorem updsL_at {rs : List DRec} {i : Nat} {r : DRec} (h : rs[i]? = some r) : (updsL rs)[i]? = some r.upd := by simp [updsL, h]
theorem slotsL_at {rs : List DRec} {i : Nat} {r : DRec} (h : rs[i]? = some r) : (slotsL rs)[i]? = some r.slot := by simp [slotsL, h]
theorem updsL_of {rs : List DRec} {i : Nat} {u : List (Nat × Option AObj)} (h : (updsL rs)[i]? = some u) : ∃ r, rs[i]? = some r ∧ r.upd = u := by simpa [updsL] using h
theorem slotsL_of {rs : List DRec} {i : Nat} {u : List (Nat × Option AV)} (h : (slotsL rs)[i]? = some u) : ∃ r, rs[i]? = some r ∧ r.slot = u := by simpa [slotsL] using h

theorem pair_parts {N0 i j : Nat} {r s : DRec} {o : Oper} (ho : ops[i]? = some o) (h : pairOk ops N0 i j r s = true) : disj (keysOf r.slot) (keysOf s.slot) = true ∧ disj (o.looksAt ops) (keysOf s.slot) = true ∧ disj (keysOf r.upd) (keysOf s.upd) = true ∧
    (∀ l, r.vis = some l → disj l (keysOf s.upd) = true) ∧ (r.vis = none → i < j → (∀ k ∈ keysOf s.upd, N0 ≤ k) ∧ disj r.loc (keysOf s.upd) = true ∧ s.base = s.next) ∧ (r.vis = none → i ≠ j → j < i ∨ i < j) := by
  unfold pairOk at h
  rw [ho] at h
  simp only [Bool.and_eq_true] at h
  obtain ⟨⟨⟨h1, h2⟩, h3⟩, h4⟩ := h
  refine ⟨h1, h2, h3, ?_, ?_, fun _ hne => by omega⟩
  · intro l hl; rw [hl] at h4; exact h4
  · intro hn hij
    rw [hn] at h4
    simp only [Bool.or_eq_true, Bool.and_eq_true] at h4
    rcases h4 with h4 | ⟨⟨h5, h6⟩, h7⟩
    · rw [Nat.blt_eq] at h4; omega
    · refine ⟨fun k hk => ?_, h6, Nat.eq_of_beq_eq_true h7⟩
      rw [List.all_eq_true] at h5
      exact Nat.le_of_ble_eq_true (h5 k hk)

/-- The operation's part in the state behind it. -/
theorem Ctx0.get_upd (C : Ctx0 ops M rs nn N0) (hD : Closed ops D) (ho : ops[i]? = some o) (hr : rs[i]? = some r) (hi : D i = false) (hdeps : ∀ e ∈ o.after.toList, Region.binds .any e = true → D e.on = true) (b : Nat) :
    (foldD (updsL rs) 0 (addD D i) σ0.h).get b = (lookU r.upd b).getD ((foldD (updsL rs) 0 D σ0.h).get b) := by
  rw [get_foldD, get_foldD]
  have := lastU_add (updsL rs) 0 i D b r.upd (updsL_at hr) (by simpa using hi) (fun j v hj hij hDj hne => by
    obtain ⟨s, hs, rfl⟩ := updsL_of hj
    have hjl : j < ops.size := by have := (List.getElem?_eq_some_iff.1 hs).1; rw [C.len] at this; exact this
    have hun := C.open_ hD ho hi hdeps hjl (by simp at hDj; rw [hDj]; simp; omega)
    have hp := pair_parts ho (C.pairs i j r s hr hs hun)
    exact lookU_none (disj_not hp.2.2.1 ((lookU_mem _ _).1 hne)))
  simp only [Nat.zero_add] at this
  unfold addD
  rw [this]
  cases lookU r.upd b <;> rfl

theorem Ctx0.get_slot (C : Ctx0 ops M rs nn N0) (hD : Closed ops D) (ho : ops[i]? = some o) (hr : rs[i]? = some r) (hi : D i = false) (hdeps : ∀ e ∈ o.after.toList, Region.binds .any e = true → D e.on = true) (b : Nat) :
    (foldD (slotsL rs) 0 (addD D i) a0.t).get b = (lookU r.slot b).getD ((foldD (slotsL rs) 0 D a0.t).get b) := by
  rw [get_foldD, get_foldD]
  have := lastU_add (slotsL rs) 0 i D b r.slot (slotsL_at hr) (by simpa using hi) (fun j v hj hij hDj hne => by
    obtain ⟨s, hs, rfl⟩ := slotsL_of hj
    have hjl : j < ops.size := by have := (List.getElem?_eq_some_iff.1 hs).1; rw [C.len] at this; exact this
    have hun := C.open_ hD ho hi hdeps hjl (by simp at hDj; rw [hDj]; simp; omega)
    have hp := pair_parts ho (C.pairs i j r s hr hs hun)
    exact lookU_none (disj_not hp.1 ((lookU_mem _ _).1 hne)))
  simp only [Nat.zero_add] at this
  unfold addD
  rw [this]
  cases lookU r.slot b <;> rfl

/-- What the operation looks at reads the same in the text's order and in any other. -/
theorem Ctx0.same_slot (C : Ctx0 ops M rs nn N0) (hD : Closed ops D) (ho : ops[i]? = some o) (hr : rs[i]? = some r) (hi : D i = false) (hdeps : ∀ e ∈ o.after.toList, Region.binds .any e = true → D e.on = true) {d : Nat} (hd : d ∈ o.looksAt ops) :
    (applyAll ((slotsL rs).take i) a0.t).get d = (foldD (slotsL rs) 0 D a0.t).get d := by
  rw [get_applyAll (slotsL rs) i 0, get_foldD]
  congr 1
  refine lastU_agree _ _ _ _ _ fun j u hj hne => ?_
  obtain ⟨s, hs, rfl⟩ := slotsL_of hj
  have hjl : j < ops.size := by have := (List.getElem?_eq_some_iff.1 hs).1; rw [C.len] at this; exact this
  simp only [Nat.zero_add] at hne
  have hun := C.open_ hD ho hi hdeps hjl (fun e => hne e.symm)
  have hp := pair_parts ho (C.pairs i j r s hr hs hun)
  exact lookU_none (disj_not hp.2.1 hd)

theorem Ctx0.same_upd (C : Ctx0 ops M rs nn N0) (hD : Closed ops D) (ho : ops[i]? = some o) (hr : rs[i]? = some r) (hi : D i = false) (hdeps : ∀ e ∈ o.after.toList, Region.binds .any e = true → D e.on = true) {l : List Nat} (hv : r.vis = some l) {b : Nat} (hb : b ∈ l) :
    (applyAll ((updsL rs).take i) σ0.h).get b = (foldD (updsL rs) 0 D σ0.h).get b := by
  rw [get_applyAll (updsL rs) i 0, get_foldD]
  congr 1
  refine lastU_agree _ _ _ _ _ fun j u hj hne => ?_
  obtain ⟨s, hs, rfl⟩ := updsL_of hj
  have hjl : j < ops.size := by have := (List.getElem?_eq_some_iff.1 hs).1; rw [C.len] at this; exact this
  simp only [Nat.zero_add] at hne
  have hun := C.open_ hD ho hi hdeps hjl (fun e => hne e.symm)
  have hp := pair_parts ho (C.pairs i j r s hr hs hun)
  exact lookU_none (disj_not (hp.2.2.2.1 l hv) hb)

/-- The slots, as the operation sees them. -/
theorem Ctx.act (C : Ctx P call ops M rs a0 σ0 cf) (hinv : DInv P ops rs a0 σ0 cf η0 w0 D η w A) (ho : ops[i]? = some o) (hr : rs[i]? = some r) (hi : D i = false) (hdeps : ∀ e ∈ o.after.toList, Region.binds .any e = true → D e.on = true) :
    TR P η { t := restrictT (applyAll ((slotsL rs).take i) a0.t) (o.looksAt ops), n := a0.n, gn := a0.gn } A := by
  refine ⟨hinv.tr.gn, hinv.tr.size, hinv.tr.none, fun d v hv => ?_⟩
  rw [get_restrictT] at hv
  split at hv
  · next hd =>
    rw [C.same_slot (a0 := a0) hinv.closed ho hr hi hdeps hd] at hv
    exact hinv.tr.slot d v hv
  · cases hv

theorem Ctx.gen (C : Ctx P call ops M rs a0 σ0 cf) (hcall : CallOk P call) (hinv : DInv P ops rs a0 σ0 cf η0 w0 D η w A) (ho : ops[i]? = some o) (hr : rs[i]? = some r) (hil : i < ops.size) (hi : D i = false)
    (hdeps : ∀ e ∈ o.after.toList, Region.binds .any e = true → D e.on = true) {ηi : Env} {τ τ' : ASt} {v : Option AV} {a : AAct} {K : Act → World → Prop} {Q : Exit → Act → World → Prop}
    (hSi : SR P ηi τ w) (hTi : TR P ηi a A) (hle : ηi.le η) (hro : ηi.ro = η.ro) (hop : aOp P call o a.eval τ = some (v, τ')) (hslot : r.slot = dstU o v)
    (sub : ∀ id ob, τ.get id = some ob → (foldD (updsL rs) 0 D σ0.h).get id = some ob) (free : ∀ id, η.has id → ¬ (τ.next ≤ id ∧ id < τ'.next))
    (hu : ∀ b ob, lookU r.upd b = some (some ob) → τ'.get b = some ob ∧ ((∃ o0, τ.get b = some o0 ∧ o0.own = true) ∨ (ob.own = true ∧ τ.get b = none)))
    (unl : ∀ id ob, τ.get id = some ob → ob.own = true → τ.lock ≤ id → lookU r.upd id ≠ none) (hlk : σ0.lock ≤ τ.lock) (hul : ∀ b, lookU r.upd b ≠ none → τ.lock ≤ b)
    (hdm : ∀ id, τ.next ≤ id → id < τ'.next → σ0.next ≤ id ∧ id < cf ∧ (id = σ0.next + i ∨ (r.base ≤ id ∧ id < r.next)))
    (hK : ∀ η' A' w', DInv P ops rs a0 σ0 cf η0 w0 (addD D i) η' w' A' → K A' w') : o.wp P A w K Q := by
  refine aOp_wp hSi hcall hTi hop fun x ηi' w' hst hx => ?_
  let η' : Env := ⟨fun id => if τ.next ≤ id ∧ id < τ'.next then ηi' id else η id, ηi'.ro, fun id => if τ.next ≤ id ∧ id < τ'.next then ηi'.gh id else η.gh id⟩
  have h1 : η.le η' := ⟨fun id q hq => by
    show (if τ.next ≤ id ∧ id < τ'.next then ηi' id else η id) = some q
    rw [if_neg (free id (.inl ⟨q, hq⟩))]; exact hq, fun b o hb => hst.ext.ro b o (by rw [hro]; exact hb), fun id hg => by
    show (if τ.next ≤ id ∧ id < τ'.next then ηi'.gh id else η.gh id) = true
    rw [if_neg (free id (.inr hg))]; exact hg⟩
  have h2 : ηi'.le η' := ⟨fun id q hq => by
    show (if τ.next ≤ id ∧ id < τ'.next then ηi' id else η id) = some q
    split
    · exact hq
    · next hn =>
      rcases hst.newPl hq with h3 | h3
      · exact hle.pl _ _ h3
      · exact absurd h3 hn, fun _ _ h => h, fun id hg => by
    show (if τ.next ≤ id ∧ id < τ'.next then ηi'.gh id else η.gh id) = true
    split
    · exact hg
    · next hn =>
      rcases hst.new id (.inr hg) with (⟨q, h3⟩ | h3) | h3
      · have := hst.ext.pl _ _ h3
        rw [(hst.rel.ghd id hg).1] at this; cases this
      · exact hle.gh _ h3
      · exact absurd h3 hn⟩
  have hnew : ∀ id, η'.has id → η.has id ∨ (τ.next ≤ id ∧ id < τ'.next) := fun id hh => by
    by_cases hn : τ.next ≤ id ∧ id < τ'.next
    · exact .inr hn
    · left
      rcases hh with ⟨q, hq⟩ | hg
      · have hq' : (if τ.next ≤ id ∧ id < τ'.next then ηi' id else η id) = some q := hq
        rw [if_neg hn] at hq'
        exact .inl ⟨q, hq'⟩
      · have hg' : (if τ.next ≤ id ∧ id < τ'.next then ηi'.gh id else η.gh id) = true := hg
        rw [if_neg hn] at hg'
        exact .inr hg'
  have hghd : ∀ id, η'.gh id = true → η' id = none := fun id hg => by
    have hg' : (if τ.next ≤ id ∧ id < τ'.next then ηi'.gh id else η.gh id) = true := hg
    show (if τ.next ≤ id ∧ id < τ'.next then ηi' id else η id) = none
    split at hg'
    · next hn => rw [if_pos hn]; exact (hst.rel.ghd id hg').1
    · next hn => rw [if_neg hn]; exact (hinv.st.rel.ghd id hg').1
  have hg := C.get_upd (σ0 := σ0) hinv.closed ho hr hi hdeps
  have hdom : ∀ id, η'.has id → id < cf := fun id hq => by
    rcases hnew id hq with h3 | ⟨h3, h4⟩
    · exact hinv.st.rel.hasLt h3
    · exact (hdm id h3 h4).2.1
  obtain ⟨rel, size, keep, own, roNew⟩ := St.merge (σ' := { h := foldD (updsL rs) 0 (addD D i) σ0.h, next := cf, lock := σ0.lock }) (upd := r.upd) (η' := η') hinv.st.rel hSi hst sub hle hro rfl h1 h2 hg hu unl hlk hul (fun id q hq => hdom id (.inl ⟨q, hq⟩)) (fun id hgi => ⟨hghd id hgi, hdom id (.inr hgi)⟩)
  refine hK η' _ w' ⟨?_, ?_, ?_, ?_⟩
  · intro k o' hk ho' e he hb
    unfold addD at hk ⊢
    simp only [Bool.or_eq_true] at hk ⊢
    rcases hk with hk | hk
    · exact .inl (hinv.closed k o' hk ho' e he hb)
    · have := Nat.eq_of_beq_eq_true hk; subst this
      rw [ho] at ho'; cases ho'
      exact .inl (hdeps e he hb)
  · refine hinv.st.then h1 rel size keep own hst.os hst.tape hst.output rfl (Nat.le_refl _) ?_ roNew
    intro id hq
    rcases hnew id hq with h3 | ⟨h3, h4⟩
    · exact .inl h3
    · exact .inr ⟨(hdm id h3 h4).1, (hdm id h3 h4).2.1⟩
  · have hg' := C.get_slot (a0 := a0) hinv.closed ho hr hi hdeps
    rw [hslot] at hg'
    exact hinv.tr.add h1 hg' (by rw [← hslot]; exact (C.slot i r hr).2) (fun u hu' => VR.mono h2 _ _ (hx u hu'))
  · intro id hq
    have hD' : ∀ k, D k = true → addD D i k = true := fun k hk => by unfold addD; rw [hk]; rfl
    have hii : addD D i i = true := by unfold addD; simp
    rcases hnew id hq with h3 | ⟨h3, h4⟩
    · rcases hinv.dm id h3 with h5 | ⟨k, h5, h6, h7⟩ | ⟨j, s, h5, h6, h7⟩
      · exact .inl h5
      · exact .inr (.inl ⟨k, h5, hD' k h6, h7⟩)
      · exact .inr (.inr ⟨j, s, h5, hD' j h6, h7⟩)
    · obtain ⟨_, _, h5 | h5⟩ := hdm id h3 h4
      · exact .inr (.inl ⟨i, hil, hii, h5⟩)
      · exact .inr (.inr ⟨i, r, hr, hii, h5⟩)

end
end
end Go.Abs

/-! # AbsDrawOk5 -/
namespace Go.Abs
noncomputable section
variable [TabsOf]
set_option linter.unusedSectionVars false
set_option linter.unusedVariables false
set_option linter.unusedSimpArgs false
variable {P : Program}

section
variable {call : Caller} {ops : Array Oper} {M : List Nat} {rs : List DRec} {a0 : AAct} {σ0 : ASt} {cf : Nat} {η0 η : Env} {w0 w : World} {D : Nat → Bool} {A : Act} {i : Nat} {o : Oper} {r : DRec}

theorem lookU_map {l : List Nat} {f : Nat → Option AObj} {b : Nat} {x : Option AObj} (h : lookU (l.map fun k => (k, f k)) b = some x) : b ∈ l ∧ x = f b := by
  induction l with
  | nil => simp [lookU] at h
  | cons k l ih =>
    simp only [List.map_cons, lookU] at h
    split at h
    · next y hy => cases h; have := ih hy; exact ⟨by simp [this.1], this.2⟩
    · split at h
      · next e => cases h; subst e; exact ⟨by simp, rfl⟩
      · cases h

theorem keys_map (l : List Nat) (f : Nat → Option AObj) : keysOf (l.map fun k => (k, f k)) = l := by
  simp [keysOf, List.map_map, Function.comp_def]

theorem lookU_fresh {τ : ASt} : ∀ {n c b : Nat} {x : Option AObj}, lookU (freshU τ c n) b = some x → c ≤ b ∧ b < c + n ∧ ∀ o, x = some o → τ.get b = some o ∧ o.own = true
  | 0, c, b, x, h => by simp [freshU, lookU] at h
  | n + 1, c, b, x, h => by
    simp only [freshU, lookU] at h
    split at h
    · next y hy =>
      cases h
      obtain ⟨h1, h2, h3⟩ := lookU_fresh hy
      exact ⟨by omega, by omega, h3⟩
    · split at h
      · next e =>
        subst e
        simp only [Option.some.injEq] at h
        refine ⟨Nat.le_refl _, by omega, fun o ho => ?_⟩
        rw [ho] at h
        split at h
        · next o' ho' =>
          split at h
          · next hown => cases h; exact ⟨ho', hown⟩
          · cases h
        · cases h
      · cases h

theorem lookU_append {l m : List (Nat × Option AObj)} {b : Nat} : lookU (l ++ m) b = match lookU m b with | some x => some x | none => lookU l b := by
  induction l with
  | nil => simp only [List.nil_append]; cases lookU m b <;> rfl
  | cons p l ih =>
    obtain ⟨k, v⟩ := p
    simp only [List.cons_append, lookU, ih]
    cases lookU m b <;> rfl

theorem ownKeys_mem {h : Tr AObj} {lock : Nat} {l : List Nat} {k : Nat} : k ∈ ownKeys h lock l ↔ k ∈ l ∧ lock ≤ k ∧ ∃ ob, h.get k = some ob ∧ ob.own = true := by
  unfold ownKeys
  rw [List.mem_filter, Bool.and_eq_true]
  constructor
  · rintro ⟨h1, h2, h3⟩
    refine ⟨h1, Nat.le_of_ble_eq_true h2, ?_⟩
    split at h3
    · next ob hob => exact ⟨ob, hob, h3⟩
    · cases h3
  · rintro ⟨h1, h2, ob, h3, h4⟩
    exact ⟨h1, Nat.ble_eq_true_of_le h2, by rw [h3]; exact h4⟩

theorem SR.cutAt {η : Env} {σ τ : ASt} {w : World} {c : Nat} (h : SR P η σ w) (hg : P.globals.size < c) (hsub : ∀ id o, τ.get id = some o → σ.get id = some o) (hc : ∀ id o, τ.get id = some o → id < c ∧ belowObj c o = true) (hn : c ≤ τ.next) : SR P (η.cut c) τ w := by
  have hcut : ∀ id q, id < c → η id = some q → η.cut c id = some q := fun id q h1 h2 => by simp only [Env.cut]; rw [if_pos h1]; exact h2
  refine ⟨fun g hgg => ?_, fun id q hq => ?_, fun id o ho => ?_, fun id hg' => ?_, fun id o id' o' q q' a1 a2 a3 a4 a5 a6 => ?_, h.roAt, fun id o q a1 a2 a3 => h.roSep id o q (hsub _ _ a1) a2 ((Env.cut_le _ _).pl _ _ a3), h.tabs⟩
  · obtain ⟨sz, es, h1⟩ := h.glob g hgg; exact ⟨sz, es, hcut _ _ (by omega) h1⟩
  · simp only [Env.cut] at hq
    split at hq
    · omega
    · cases hq
  · rcases h.live id o (hsub _ _ ho) with ⟨q, hq, hr⟩ | ⟨hgi, h2⟩
    · exact .inl ⟨q, hcut _ _ (hc id o ho).1 hq, hr.cut (hc id o ho).2⟩
    · exact .inr ⟨Env.cut_gh (hc id o ho).1 hgi, h2⟩
  · have hg2 : (decide (id < c) && η.gh id) = true := hg'
    rw [Bool.and_eq_true, decide_eq_true_iff] at hg2
    exact ⟨by simp only [Env.cut]; rw [if_pos hg2.1]; exact (h.ghd id hg2.2).1, by omega⟩
  · exact h.sep id o id' o' q q' (hsub _ _ a1) a2 (hsub _ _ a3) a4 ((Env.cut_le _ _).pl _ _ a5) ((Env.cut_le _ _).pl _ _ a6)

theorem Env.cut_all {η : Env} {c : Nat} (h' : ∀ id, η.has id → id < c) : η.cut c = η := by
  have h : ∀ id q, η id = some q → id < c := fun id q hq => h' id (.inl ⟨q, hq⟩)
  have h2 : (fun id => decide (id < c) && η.gh id) = η.gh := by
    funext id
    cases hg : η.gh id with
    | false => simp
    | true => simp [h' id (.inr hg)]
  unfold Env.cut
  have : (fun id => if id < c then η id else none) = η.pl := by
    funext id
    split
    · rfl
    · next hn =>
      cases he : η id with
      | none => rfl
      | some q => exact absurd (h id q he) hn
  rw [this, h2]

theorem SR.part {η : Env} {σ τ : ASt} {w : World} (h : SR P η σ w) (hsub : ∀ id o, τ.get id = some o → σ.get id = some o) (hn : ∀ id, η.has id → id < τ.next) : SR P η τ w :=
  ⟨h.glob, fun id q hq => hn id (.inl ⟨q, hq⟩), fun id o ho => h.live id o (hsub id o ho), fun id hg => ⟨(h.ghd id hg).1, hn id (.inr hg)⟩, fun id o id' o' q q' a1 a2 a3 a4 a5 a6 => h.sep id o id' o' q q' (hsub _ _ a1) a2 (hsub _ _ a3) a4 a5 a6, h.roAt, fun id o q a1 a2 a3 => h.roSep id o q (hsub _ _ a1) a2 a3, h.tabs⟩

theorem belowKeys_at {c : Nat} {h : Tr AObj} : ∀ {l : List Nat}, belowKeys c h l = true → ∀ k ∈ l, k < c ∧ ∀ o, h.get k = some o → belowObj c o = true
  | [], _, k, hk => by simp at hk
  | x :: l, hb, k, hk => by
    simp only [belowKeys, Bool.and_eq_true] at hb
    simp only [List.mem_cons] at hk
    rcases hk with rfl | hk
    · refine ⟨by have := hb.1.1; rwa [Nat.blt_eq] at this, fun o ho => ?_⟩
      have := hb.1.2; rw [ho] at this; exact this
    · exact belowKeys_at hb.2 k hk

theorem belowTr_at {c : Nat} {t : Tr AV} : ∀ {l : List Nat}, belowTr c t l = true → ∀ k ∈ l, ∀ v, t.get k = some v → v.under c = true
  | [], _, k, hk => by simp at hk
  | x :: l, hb, k, hk => by
    simp only [belowTr, Bool.and_eq_true] at hb
    simp only [List.mem_cons] at hk
    rcases hk with rfl | hk
    · intro v hv; have := hb.1; rw [hv] at this; exact this
    · exact belowTr_at hb.2 k hk

theorem prevKeys_at {M : List Nat} {i : Nat} : ∀ {rs : List DRec} {k : Nat} {b : Nat}, b ∉ prevKeys M i rs k → ∀ (j : Nat) r, rs[j]? = some r → unord M i (k + j) = true → b ∉ keysOf r.upd
  | [], k, b, _, j, r, hj, _ => by simp at hj
  | s :: rs, k, b, hb, j, r, hj, hu => by
    unfold prevKeys at hb
    cases j with
    | zero =>
      simp at hj; subst hj
      rw [Nat.add_zero] at hu
      rw [if_pos hu] at hb
      simp only [List.mem_append, not_or] at hb
      exact hb.1
    | succ j =>
      have hb' : b ∉ prevKeys M i rs (k + 1) := by
        split at hb
        · simp only [List.mem_append, not_or] at hb; exact hb.2
        · exact hb
      exact prevKeys_at hb' j r (by simpa using hj) (by rw [show k + 1 + j = k + (j + 1) by omega]; exact hu)

theorem locKeys_at {M : List Nat} {i : Nat} : ∀ {rs : List DRec} {k : Nat} {b : Nat} (j : Nat) (r : DRec), rs[j]? = some r → unord M i (k + j) = false → b ∈ keysOf r.upd → b ∈ locKeys M i rs k
  | [], k, b, j, r, hj, _, _ => by simp at hj
  | s :: rs, k, b, j, r, hj, hu, hb => by
    unfold locKeys
    cases j with
    | zero =>
      simp at hj; subst hj
      rw [Nat.add_zero] at hu
      rw [if_neg (by rw [hu]; simp)]
      simp [hb]
    | succ j =>
      have := locKeys_at (k := k + 1) j r (by simpa using hj) (by rw [show k + 1 + j = k + (j + 1) by omega]; exact hu) hb
      split
      · exact this
      · simp [this]

theorem Ctx.bound (C : Ctx P call ops M rs a0 σ0 cf) (hinv : DInv P ops rs a0 σ0 cf η0 w0 D η w A) (id : Nat) (h : η.has id) : id < cf := hinv.st.rel.hasLt h

/-- The intervals of new numbers lie apart. -/
theorem Ctx.apart (C : Ctx P call ops M rs a0 σ0 cf) (hinv : DInv P ops rs a0 σ0 cf η0 w0 D η w A) (hr : rs[i]? = some r) (hi : D i = false) {id : Nat} (h : η.has id) : ¬ (r.base ≤ id ∧ id < r.next) := by
  rintro ⟨h1, h2⟩
  have hlo := C.lo hr
  rcases hinv.dm id h with h3 | ⟨k, h3, h4, h5⟩ | ⟨j, s, h3, h4, h5, h6⟩
  · omega
  · omega
  · by_cases hij : i = j
    · subst hij; rw [hi] at h4; cases h4
    · rcases Nat.lt_or_gt_of_ne hij with hlt | hlt
      · have := C.lt hr h3 hlt; omega
      · have := C.lt h3 hr hlt; omega

theorem Ctx.step (C : Ctx P call ops M rs a0 σ0 cf) (hcall : CallOk P call) (hS0 : SR P η0 σ0 w0) (hinv : DInv P ops rs a0 σ0 cf η0 w0 D η w A) (hil : i < ops.size) (hi : D i = false)
    (hdeps0 : ∀ o, ops[i]? = some o → ∀ e ∈ o.after.toList, Region.binds .any e = true → D e.on = true) (hnl : lastAll ops M i = false) {K : Act → World → Prop} {Q : Exit → Act → World → Prop}
    (hK : ∀ η' A' w', DInv P ops rs a0 σ0 cf η0 w0 (addD D i) η' w' A' → K A' w') : wpOp P ops Q i K A w := by
  obtain ⟨o, ho⟩ : ∃ o, ops[i]? = some o := ⟨ops[i], by simp [hil]⟩
  obtain ⟨r, hr⟩ : ∃ r, rs[i]? = some r := ⟨_, List.getElem?_eq_getElem (by rw [C.len]; exact hil)⟩
  have hdeps := hdeps0 o ho
  have hone := C.one i r hr
  have hact := C.act hinv ho hr hi hdeps
  have hbase := C.base hr
  have hlo := C.lo hr
  have hhi := C.hi hr
  have hN0 : P.globals.size < σ0.next := by
    obtain ⟨sz, es, h1⟩ := hS0.glob P.globals.size (Nat.le_refl _)
    exact hS0.dom _ _ h1
  have hbn := (C.slot i r hr).1
  have hlock := C.lock
  have hbig := C.big
  have hbnd := C.bound hinv
  unfold dOne at hone
  rw [hnl] at hone
  simp only [Bool.false_eq_true, if_false] at hone
  unfold dOne0 at hone
  rw [ho] at hone
  simp only at hone
  unfold wpOp
  rw [ho]
  simp only
  -- how much of the blocks the text's order and this one share
  split at hone
  · cases hone
  · -- the guard says no
    next hw =>
    rw [wanted_ok hact hw]
    simp only [Bool.false_eq_true, if_false]
    cases hone
    refine hK η _ w ⟨?_, ?_, ?_, ?_⟩
    · intro k o' hk ho' e he hb
      unfold addD at hk ⊢
      simp only [Bool.or_eq_true] at hk ⊢
      rcases hk with hk | hk
      · exact .inl (hinv.closed k o' hk ho' e he hb)
      · have := Nat.eq_of_beq_eq_true hk; subst this
        rw [ho] at ho'; cases ho'
        exact .inl (hdeps0 _ ho e he hb)
    · have hg := C.get_upd (σ0 := σ0) hinv.closed ho hr hi hdeps
      refine hinv.st.sub ?_ (Nat.le_refl _) rfl
      intro id ob hob
      have : (foldD (updsL rs) 0 (addD D i) σ0.h).get id = some ob := hob
      rw [hg] at this
      exact this
    · exact hinv.tr.add (Env.le.refl _) (C.get_slot (a0 := a0) hinv.closed ho hr hi hdeps) (C.slot i _ hr).2 (by rintro u hu; cases hu; exact ⟨[], rfl, rfl⟩)
    · intro id hq
      have hD' : ∀ k, D k = true → addD D i k = true := fun k hk => by unfold addD; rw [hk]; rfl
      rcases hinv.dm id hq with h5 | ⟨k, h5, h6, h7⟩ | ⟨j, s, h5, h6, h7⟩
      · exact .inl h5
      · exact .inr (.inl ⟨k, h5, hD' k h6, h7⟩)
      · exact .inr (.inr ⟨j, s, h5, hD' j h6, h7⟩)
  · -- the guard says yes
    next hw =>
    rw [wanted_ok hact hw]
    simp only [if_true]
    left
    have rest : ∀ l : List Nat, r.vis = some l → ∀ id ob, (restrictT (applyAll ((updsL rs).take i) σ0.h) l).get id = some ob → (foldD (updsL rs) 0 D σ0.h).get id = some ob ∧ id ∈ l ∧ (applyAll ((updsL rs).take i) σ0.h).get id = some ob := by
      intro l hl id ob hob
      rw [get_restrictT] at hob
      split at hob
      · next hm => rw [← C.same_upd (σ0 := σ0) hinv.closed ho hr hi hdeps hl hm]; exact ⟨hob, hm, hob⟩
      · cases hob
    have cutAct : ∀ c, belowTr c (applyAll ((slotsL rs).take i) a0.t) (o.looksAt ops) = true → TR P (η.cut c) { t := restrictT (applyAll ((slotsL rs).take i) a0.t) (o.looksAt ops), n := a0.n, gn := a0.gn } A := by
      intro c hb
      refine ⟨hact.gn, hact.size, hact.none, fun d v hv => ?_⟩
      obtain ⟨x, hx, hvx⟩ := hact.slot d v hv
      refine ⟨x, hx, VR.cut v x ?_ hvx⟩
      rw [get_restrictT] at hv
      split at hv
      · next hd => exact belowTr_at hb d hd v hv
      · cases hv
    split at hone
    · -- a new variable
      next ty hty =>
      split at hone
      · next z hz =>
        cases hone
        have hop : aOp P call o (AAct.eval { t := .nil, n := a0.n, gn := a0.gn }) { h := .nil, next := σ0.next + i, lock := σ0.lock } = some (some (.p (σ0.next + i) 0), ({ h := .nil, next := σ0.next + i, lock := σ0.lock } : ASt).new (.cells z ty true false)) := by
          unfold aOp; rw [hty]; simp only [hz, Option.map_some]
        have hS' : SR P (η.cut σ0.next) { h := .nil, next := σ0.next + i, lock := σ0.lock } w := hinv.st.rel.cutAt hN0 (fun id ob h => by simp [ASt.get] at h) (fun id ob h => by simp [ASt.get] at h) (by simp)
        refine C.gen hcall hinv ho hr hil hi hdeps hS' (a := { t := .nil, n := a0.n, gn := a0.gn }) ⟨hact.gn, hact.size, hact.none, fun d v hv => by simp at hv⟩ (Env.cut_le _ _) rfl hop rfl (fun id ob h => by simp [ASt.get] at h) ?_ ?_ ?_ (Nat.le_refl _) ?_ ?_ hK
        · rintro id hq ⟨h1, h2⟩
          have h1' : σ0.next + i ≤ id := h1
          have h2' : id < σ0.next + i + 1 := h2
          rcases hinv.dm id hq with h3 | ⟨k, h3, h4, h5⟩ | ⟨j, s, h3, h4, h5, h6⟩
          · omega
          · have : k = i := by omega
            subst this; rw [hi] at h4; cases h4
          · have := C.lo h3; omega
        · intro b ob hb
          simp only [lookU] at hb
          split at hb
          · next e =>
            cases hb; subst e
            refine ⟨?_, .inr ⟨rfl, Tr.get_nil _⟩⟩
            rw [ASt.get_new, if_pos rfl]
          · cases hb
        · intro id ob h; simp [ASt.get] at h
        · intro b hb
          have := (lookU_mem _ _).1 hb
          simp [keysOf] at this
          subst this
          show σ0.lock ≤ σ0.next + i
          omega
        · intro id h1 h2
          have h1' : σ0.next + i ≤ id := h1
          have h2' : id < σ0.next + i + 1 := h2
          have := C.cf_lo
          exact ⟨by omega, by omega, .inl (by omega)⟩
      · cases hone
    · split at hone
      · -- it makes no memory, and changes none
        next l hcls =>
        split at hone
        · next v τ' hop =>
          rw [fOp_eq] at hop
          split at hone
          · next hnx =>
            cases hone
            have hnx' := Nat.eq_of_beq_eq_true hnx
            have hS' : SR P η { h := restrictT (applyAll ((updsL rs).take i) σ0.h) l, next := bigId, lock := bigId } w := hinv.st.rel.part (fun id ob h => (rest l rfl id ob h).1) (fun id hq => Nat.lt_of_lt_of_le (hbnd id hq) hbig)
            refine C.gen hcall hinv ho hr hil hi hdeps hS' hact (Env.le.refl _) rfl hop rfl (fun id ob h => (rest l rfl id ob h).1) ?_ ?_ ?_ ?_ ?_ ?_ hK
            · rintro id hq ⟨h1, h2⟩
              have h1' : bigId ≤ id := h1
              omega
            · intro b ob hb; simp [lookU] at hb
            · intro id ob h1 h2 h3
              have h3' : bigId ≤ id := h3
              have := hbnd id (hS'.hasOf h1); omega
            · have := C.cf_lo; show σ0.lock ≤ bigId; omega
            · intro b hb; simp [lookU] at hb
            · intro id h1 h2
              have h1' : bigId ≤ id := h1
              omega
          · cases hone
        · cases hone
      · -- it makes no memory
        next l hcls =>
        split at hone
        · next v τ' hop =>
          rw [fOp_eq] at hop
          split at hone
          · next hnx =>
            cases hone
            have hnx' := Nat.eq_of_beq_eq_true hnx
            have hS' : SR P η { h := restrictT (applyAll ((updsL rs).take i) σ0.h) l, next := bigId, lock := σ0.lock } w := hinv.st.rel.part (fun id ob h => (rest l rfl id ob h).1) (fun id hq => Nat.lt_of_lt_of_le (hbnd id hq) hbig)
            refine C.gen hcall hinv ho hr hil hi hdeps hS' hact (Env.le.refl _) rfl hop rfl (fun id ob h => (rest l rfl id ob h).1) ?_ ?_ ?_ (Nat.le_refl _) ?_ ?_ hK
            · rintro id hq ⟨h1, h2⟩
              have h1' : bigId ≤ id := h1
              omega
            · intro b ob hb
              obtain ⟨h1, h2⟩ := lookU_map hb
              obtain ⟨h3, h4, ob', h5, h6⟩ := ownKeys_mem.1 h1
              refine ⟨h2.symm, .inl ⟨ob', ?_, h6⟩⟩
              show (restrictT _ l).get b = _
              rw [get_restrictT, if_pos h3]; exact h5
            · intro id ob h1 h2 h3
              obtain ⟨_, h4, h5⟩ := rest l rfl id ob h1
              rw [lookU_mem, keys_map]
              exact ownKeys_mem.2 ⟨h4, h3, ob, h5, h2⟩
            · intro b hb
              rw [lookU_mem, keys_map] at hb
              exact (ownKeys_mem.1 hb).2.1
            · intro id h1 h2
              have h1' : bigId ≤ id := h1
              omega
          · cases hone
        · cases hone
      · -- it makes memory
        next l hcls =>
        split at hone
        · next hbel =>
          simp only [Bool.and_eq_true] at hbel
          split at hone
          · next v τ' hop =>
            rw [fOp_eq] at hop
            cases hone
            simp only at hlo hhi hbn
            have hS' : SR P (η.cut (cAt (σ0.next + ops.size) rs i)) { h := restrictT (applyAll ((updsL rs).take i) σ0.h) l, next := cAt (σ0.next + ops.size) rs i, lock := σ0.lock } w :=
              hinv.st.rel.cutAt (by omega) (fun id ob h => (rest l rfl id ob h).1) (fun id ob h => by
                obtain ⟨_, h1, h2⟩ := rest l rfl id ob h
                have := belowKeys_at hbel.2 id h1
                exact ⟨this.1, this.2 ob h2⟩) (Nat.le_refl _)
            refine C.gen hcall hinv ho hr hil hi hdeps hS' (cutAct _ hbel.1) (Env.cut_le _ _) rfl hop rfl (fun id ob h => (rest l rfl id ob h).1) ?_ ?_ ?_ (Nat.le_refl _) ?_ ?_ hK
            · rintro id hq ⟨h1, h2⟩
              exact C.apart hinv hr hi hq ⟨h1, h2⟩
            · intro b ob hb
              rw [lookU_append] at hb
              split at hb
              · next x hx =>
                cases hb
                obtain ⟨h1, h2, h3⟩ := lookU_fresh hx
                obtain ⟨h4, h5⟩ := h3 ob rfl
                refine ⟨h4, .inr ⟨h5, ?_⟩⟩
                show (restrictT _ l).get b = none
                rw [get_restrictT]
                split
                · next hm => have := (belowKeys_at hbel.2 b hm).1; omega
                · rfl
              · obtain ⟨h1, h2⟩ := lookU_map hb
                obtain ⟨h3, h4, ob', h5, h6⟩ := ownKeys_mem.1 h1
                refine ⟨h2.symm, .inl ⟨ob', ?_, h6⟩⟩
                show (restrictT _ l).get b = _
                rw [get_restrictT, if_pos h3]; exact h5
            · intro id ob h1 h2 h3
              obtain ⟨_, h4, h5⟩ := rest l rfl id ob h1
              rw [lookU_mem]
              unfold keysOf
              rw [List.map_append, List.mem_append]
              left
              have := keys_map (ownKeys (applyAll ((updsL rs).take i) σ0.h) σ0.lock l) (fun k => τ'.get k)
              unfold keysOf at this
              rw [this]
              exact ownKeys_mem.2 ⟨h4, h3, ob, h5, h2⟩
            · intro b hb
              rw [lookU_append] at hb
              split at hb
              · next x hx =>
                obtain ⟨h1, _, _⟩ := lookU_fresh hx
                show σ0.lock ≤ b
                omega
              · rw [lookU_mem, keys_map] at hb
                exact (ownKeys_mem.1 hb).2.1
            · intro id h1 h2
              have h1' : cAt (σ0.next + ops.size) rs i ≤ id := h1
              exact ⟨by omega, by omega, .inr ⟨h1, h2⟩⟩
          · cases hone
        · cases hone
      · -- a call
        next hcls =>
        split at hone
        · next v τ' hop0 =>
          have hop := unlessB_some hop0
          rw [fOp_eq] at hop
          cases hone
          simp only at hlo hhi hbn
          have hall : ∀ id, η.has id → id < cAt (σ0.next + ops.size) rs i := by
            intro id hq
            rcases hinv.dm id hq with h3 | ⟨k, h3, h4, h5⟩ | ⟨j, s, h3, h4, h5, h6⟩
            · omega
            · omega
            · have hij : i ≠ j := by rintro rfl; rw [hi] at h4; cases h4
              rcases Nat.lt_or_gt_of_ne hij with hlt | hlt
              · have hjl : j < ops.size := by have := (List.getElem?_eq_some_iff.1 h3).1; rw [C.len] at this; exact this
                have hun := C.open_ hinv.closed ho hi hdeps hjl (by rw [h4]; simp; omega)
                have hp := pair_parts ho (C.pairs i j _ s hr h3 hun)
                have := (hp.2.2.2.2.1 rfl hlt).2.2
                omega
              · have := C.lt h3 hr hlt
                simp only at this
                omega
          have hsub : ∀ id ob, (eraseT (applyAll ((updsL rs).take i) σ0.h) (prevKeys M i (rs.take i) 0)).get id = some ob → (foldD (updsL rs) 0 D σ0.h).get id = some ob := by
            intro id ob hob
            rw [get_eraseT] at hob
            split at hob
            · cases hob
            · next hnk =>
              rw [← hob, get_applyAll (updsL rs) i 0, get_foldD]
              congr 1
              refine (lastU_agree _ _ _ _ _ fun j u hj hne => ?_).symm
              obtain ⟨s, hs, rfl⟩ := updsL_of hj
              have hjl : j < ops.size := by have := (List.getElem?_eq_some_iff.1 hs).1; rw [C.len] at this; exact this
              simp only [Nat.zero_add] at hne
              have hun := C.open_ hinv.closed ho hi hdeps hjl (fun e => hne e.symm)
              apply lookU_none
              by_cases hji : j < i
              · exact prevKeys_at hnk j s (by rw [List.getElem?_take, if_pos hji]; exact hs) (by rw [Nat.zero_add]; exact hun)
              · have hij : i < j := by
                  rcases Nat.lt_or_ge i j with h | h
                  · exact h
                  · have : i = j := by omega
                    subst this; rw [hi] at hne; simp at hne
                have hp := pair_parts ho (C.pairs i j _ s hr hs hun)
                obtain ⟨h1, h2, h3⟩ := hp.2.2.2.2.1 rfl hij
                intro hmem
                have hge := h1 id hmem
                -- a block of the region's own
                rw [get_applyAll (updsL rs) i 0] at hob
                cases hl : lastU (updsL rs) 0 (fun j => decide (j < 0 + i)) id with
                | none =>
                  rw [hl] at hob
                  have := hS0.hasLt (hS0.hasOf hob)
                  omega
                | some x =>
                  obtain ⟨j', u', h4, h5, h6⟩ := lastU_some _ _ _ _ _ hl
                  obtain ⟨s', hs', rfl⟩ := updsL_of h4
                  simp only [Nat.zero_add, decide_eq_true_eq] at h5
                  have hk : id ∈ keysOf s'.upd := (lookU_mem _ _).1 (by rw [h6]; simp)
                  have htk : (rs.take i)[j']? = some s' := by rw [List.getElem?_take, if_pos h5]; exact hs'
                  have hnu : unord M i (0 + j') = false := by
                    cases hu : unord M i (0 + j') with
                    | false => rfl
                    | true => exact absurd hk (prevKeys_at hnk j' s' htk hu)
                  have := locKeys_at j' s' htk hnu hk
                  exact disj_not h2 this hmem
          have hS' : SR P η { h := eraseT (applyAll ((updsL rs).take i) σ0.h) (prevKeys M i (rs.take i) 0), next := cAt (σ0.next + ops.size) rs i, lock := cAt (σ0.next + ops.size) rs i } w := hinv.st.rel.part hsub hall
          refine C.gen hcall hinv ho hr hil hi hdeps hS' hact (Env.le.refl _) rfl hop rfl hsub ?_ ?_ ?_ ?_ ?_ ?_ hK
          · rintro id hq ⟨h1, h2⟩
            exact C.apart hinv hr hi hq ⟨h1, h2⟩
          · intro b ob hb
            obtain ⟨h1, h2, h3⟩ := lookU_fresh hb
            obtain ⟨h4, h5⟩ := h3 ob rfl
            refine ⟨h4, .inr ⟨h5, ?_⟩⟩
            cases hg : ASt.get { h := eraseT (applyAll ((updsL rs).take i) σ0.h) (prevKeys M i (rs.take i) 0), next := cAt (σ0.next + ops.size) rs i, lock := cAt (σ0.next + ops.size) rs i } b with
            | none => rfl
            | some ob' =>
              have := hall b (hS'.hasOf hg)
              omega
          · intro id ob h1 h2 h3
            have h3' : cAt (σ0.next + ops.size) rs i ≤ id := h3
            have := hall id (hS'.hasOf h1)
            omega
          · show σ0.lock ≤ cAt (σ0.next + ops.size) rs i
            omega
          · intro b hb
            cases hx : lookU (freshU τ' (cAt (σ0.next + ops.size) rs i) (τ'.next - cAt (σ0.next + ops.size) rs i)) b with
            | none => exact absurd hx hb
            | some x => exact (lookU_fresh hx).1
          · intro id h1 h2
            have h1' : cAt (σ0.next + ops.size) rs i ≤ id := h1
            exact ⟨by omega, by omega, .inr ⟨h1, h2⟩⟩
        · generalize reachOf o (AAct.eval { t := restrictT (applyAll ((slotsL rs).take i) a0.t) (o.looksAt ops), n := a0.n, gn := a0.gn }) (applyAll ((updsL rs).take i) σ0.h) = l at hone
          split at hone
          · next hbel =>
            simp only [Bool.and_eq_true] at hbel
            split at hone
            · next v τ' hop =>
              rw [fOp_eq] at hop
              cases hone
              simp only at hlo hhi hbn
              have hS' : SR P (η.cut (cAt (σ0.next + ops.size) rs i)) { h := restrictT (applyAll ((updsL rs).take i) σ0.h) l, next := cAt (σ0.next + ops.size) rs i, lock := σ0.lock } w :=
                hinv.st.rel.cutAt (by omega) (fun id ob h => (rest l rfl id ob h).1) (fun id ob h => by
                  obtain ⟨_, h1, h2⟩ := rest l rfl id ob h
                  have := belowKeys_at hbel.2 id h1
                  exact ⟨this.1, this.2 ob h2⟩) (Nat.le_refl _)
              refine C.gen hcall hinv ho hr hil hi hdeps hS' (cutAct _ hbel.1) (Env.cut_le _ _) rfl hop rfl (fun id ob h => (rest l rfl id ob h).1) ?_ ?_ ?_ (Nat.le_refl _) ?_ ?_ hK
              · rintro id hq ⟨h1, h2⟩
                exact C.apart hinv hr hi hq ⟨h1, h2⟩
              · intro b ob hb
                rw [lookU_append] at hb
                split at hb
                · next x hx =>
                  cases hb
                  obtain ⟨h1, h2, h3⟩ := lookU_fresh hx
                  obtain ⟨h4, h5⟩ := h3 ob rfl
                  refine ⟨h4, .inr ⟨h5, ?_⟩⟩
                  show (restrictT _ l).get b = none
                  rw [get_restrictT]
                  split
                  · next hm => have := (belowKeys_at hbel.2 b hm).1; omega
                  · rfl
                · obtain ⟨h1, h2⟩ := lookU_map hb
                  obtain ⟨h3, h4, ob', h5, h6⟩ := ownKeys_mem.1 h1
                  refine ⟨h2.symm, .inl ⟨ob', ?_, h6⟩⟩
                  show (restrictT _ l).get b = _
                  rw [get_restrictT, if_pos h3]; exact h5
              · intro id ob h1 h2 h3
                obtain ⟨_, h4, h5⟩ := rest l rfl id ob h1
                rw [lookU_mem]
                unfold keysOf
                rw [List.map_append, List.mem_append]
                left
                have := keys_map (ownKeys (applyAll ((updsL rs).take i) σ0.h) σ0.lock l) (fun k => τ'.get k)
                unfold keysOf at this
                rw [this]
                exact ownKeys_mem.2 ⟨h4, h3, ob, h5, h2⟩
              · intro b hb
                rw [lookU_append] at hb
                split at hb
                · next x hx =>
                  obtain ⟨h1, _, _⟩ := lookU_fresh hx
                  show σ0.lock ≤ b
                  omega
                · rw [lookU_mem, keys_map] at hb
                  exact (ownKeys_mem.1 hb).2.1
              · intro id h1 h2
                have h1' : cAt (σ0.next + ops.size) rs i ≤ id := h1
                exact ⟨by omega, by omega, .inr ⟨h1, h2⟩⟩
            · cases hone
          · cases hone

end
end
end Go.Abs

/-! # AbsDrawOk6 -/
namespace Go.Abs
noncomputable section
variable [TabsOf]
set_option linter.unusedSectionVars false
set_option linter.unusedVariables false
set_option linter.unusedSimpArgs false
variable {P : Program}

section
variable {call : Caller} {ops : Array Oper} {M : List Nat} {rs : List DRec} {a0 : AAct} {σ0 : ASt} {cf : Nat} {η0 : Env} {w0 : World}

def inB (listed : Array Bool) : Nat → Bool := fun j => listed.getD j false

theorem ready_mem {listed : Array Bool} (hl : listed.size = ops.size) {i : Nat} (h : i ∈ Region.ready .any ops listed) : i < ops.size ∧ inB listed i = false ∧ ∀ o, ops[i]? = some o → ∀ e ∈ o.after.toList, Region.binds .any e = true → inB listed e.on = true := by
  unfold Region.ready at h
  simp only [List.mem_filter, List.mem_range, Bool.and_eq_true, Bool.not_eq_true'] at h
  obtain ⟨h1, h2, h3⟩ := h
  have hlt : i < listed.size := by omega
  refine ⟨h1, ?_, ?_⟩
  · unfold inB
    rw [Array.getD_eq_getD_getElem?, Array.getElem?_eq_getElem hlt] at h2 ⊢
    exact h2
  · intro o ho e he hb
    rw [ho] at h3
    simp only [Option.map_some, Option.getD_some] at h3
    rw [Array.all_eq_true'] at h3
    have := h3 e (by simpa using he)
    rw [hb] at this
    simpa [inB] using this

theorem count_set (listed : Array Bool) (i : Nat) (h : listed[i]? = some false) : (listed.setIfInBounds i true).toList.count false + 1 = listed.toList.count false := by
  have hlt : i < listed.size := (Array.getElem?_eq_some_iff.1 h).1
  have hv : listed[i] = false := (Array.getElem?_eq_some_iff.1 h).2
  have h1 : listed.toList[i]'(by simpa using hlt) = false := by simpa using hv
  have hpos : 0 < listed.toList.count false := List.count_pos_iff.2 (by rw [← h1]; exact List.getElem_mem _)
  rw [Array.toList_setIfInBounds, List.count_set (by simpa using hlt), h1]
  have e1 : ((false == false) = true) := rfl
  have e2 : ¬ ((true == false) = true) := by decide
  rw [if_pos e1, if_neg e2]
  omega

theorem foldD_all {α : Type} : ∀ (us : List (List (Nat × Option α))) (k : Nat) (D : Nat → Bool) (t : Tr α), (∀ j, j < us.length → D (k + j) = true) → foldD us k D t = applyAll us t
  | [], _, _, _, _ => rfl
  | u :: us, k, D, t, h => by
    have h0 := h 0 (by simp)
    simp only [Nat.add_zero] at h0
    rw [foldD, if_pos h0, applyAll, foldD_all us (k + 1) D _ (fun j hj => by rw [show k + 1 + j = k + (j + 1) by omega]; exact h (j + 1) (by simpa using hj))]

end

section
variable {ops : Array Oper} {M : List Nat} {rs : List DRec} {a0 : AAct} {σ : ASt} {η0 : Env} {w0 : World} {n N0 : Nat}

theorem any_gen (C : Ctx0 ops M rs n N0) (Inv : (Nat → Bool) → Env → World → Act → Prop)
    (hstep : ∀ D η w A i (K : Act → World → Prop) (Q : Exit → Act → World → Prop), Inv D η w A → i < ops.size → D i = false → (∀ o, ops[i]? = some o → ∀ e ∈ o.after.toList, Region.binds .any e = true → D e.on = true) →
      (∀ η' A' w', Inv (addD D i) η' w' A' → K A' w') → wpOp P ops Q i K A w) {Q : Exit → Act → World → Prop}
    (hK : ∀ η' A' w', Inv (fun j => decide (j < ops.size)) η' w' A' → Q .normal A' w') :
    ∀ (fuel : Nat) (listed : Array Bool) (η : Env) (w : World) (A : Act), listed.size = ops.size → listed.toList.count false = fuel → Inv (inB listed) η w A → wpAny P .any ops Q fuel listed A w := by
  intro fuel
  induction fuel with
  | zero =>
    intro listed η w A hl hc hinv
    have hall : ∀ j, j < ops.size → inB listed j = true := by
      intro j hj
      have hlt : j < listed.size := by omega
      have hm : listed[j] ∈ listed.toList := by simp
      have : false ∉ listed.toList := List.count_eq_zero.1 hc
      unfold inB
      rw [Array.getD_eq_getD_getElem?, Array.getElem?_eq_getElem hlt]
      cases hv : listed[j] with
      | true => rfl
      | false => rw [hv] at hm; exact absurd hm this
    have hD : inB listed = fun j => decide (j < ops.size) := by
      funext j
      by_cases hj : j < ops.size
      · rw [hall j hj]; simp [hj]
      · unfold inB
        rw [Array.getD_eq_getD_getElem?, Array.getElem?_eq_none (by omega)]
        simp [hj]
    refine ⟨?_, ?_⟩
    · apply List.eq_nil_iff_forall_not_mem.2
      intro i hi
      obtain ⟨h1, h2, _⟩ := ready_mem hl hi
      rw [hall i h1] at h2; cases h2
    · rw [hD] at hinv; exact hK η A w hinv
  | succ fuel ih =>
    intro listed η w A hl hc hinv
    refine ⟨fun hr => ?_, fun i hi => ?_⟩
    · exfalso
      have hex : ∃ i, i < ops.size ∧ inB listed i = false ∧ ∀ j, j < i → inB listed j = true := by
        have hpos : 0 < listed.toList.count false := by omega
        have hm := List.count_pos_iff.1 hpos
        obtain ⟨k, hk⟩ := List.mem_iff_getElem?.1 hm
        have hklt : k < ops.size := by have := (List.getElem?_eq_some_iff.1 hk).1; simp at this; omega
        have hkf : inB listed k = false := by
          unfold inB; rw [Array.getD_eq_getD_getElem?]
          rw [Array.getElem?_toList] at hk; rw [hk]; rfl
        clear hm hk
        induction k using Nat.strongRecOn with
        | _ k ihk =>
          by_cases hb : ∃ j, j < k ∧ inB listed j = false
          · obtain ⟨j, h1, h2⟩ := hb
            exact ihk j h1 (by omega) h2
          · refine ⟨k, hklt, hkf, fun j hj => ?_⟩
            cases hv : inB listed j with
            | true => rfl
            | false => exact absurd ⟨j, hj, hv⟩ hb
      obtain ⟨i, h1, h2, h3⟩ := hex
      have hmem : i ∈ Region.ready .any ops listed := by
        unfold Region.ready
        simp only [List.mem_filter, List.mem_range, Bool.and_eq_true, Bool.not_eq_true']
        have hlt : i < listed.size := by omega
        refine ⟨h1, ?_, ?_⟩
        · unfold inB at h2
          rw [Array.getD_eq_getD_getElem?, Array.getElem?_eq_getElem hlt] at h2 ⊢
          exact h2
        · have ho : ops[i]? = some ops[i] := by simp [h1]
          rw [ho]
          simp only [Option.map_some, Option.getD_some]
          rw [Array.all_eq_true']
          intro e he
          cases hb : Region.binds .any e with
          | false => rfl
          | true =>
            simp only [Bool.not_true, Bool.false_or]
            obtain ⟨hm, hlen⟩ := C.mask ho
            have hbit : ordB M e.on i = true := by
              unfold ordB
              rw [List.getD_eq_getElem?_getD, hm]
              simp only [Option.getD_some]
              have : ∀ (es : List Edge), e ∈ es → (maskOf (fun j => (M.take i).getD j 0) es).testBit e.on = true := by
                intro es
                induction es with
                | nil => intro h; simp at h
                | cons x es ihes =>
                  intro h
                  rw [maskOf]
                  simp only [List.mem_cons] at h
                  rcases h with rfl | h
                  · rw [if_pos hb, Nat.testBit_or, Nat.testBit_or, Nat.testBit_two_pow]; simp
                  · split
                    · rw [Nat.testBit_or, ihes h, Bool.or_true]
                    · exact ihes h
              exact this _ (by simpa using he)
            exact h3 e.on (C.ord_lt hbit)
      rw [hr] at hmem; simp at hmem
    · obtain ⟨h1, h2, h3⟩ := ready_mem hl hi
      refine hstep _ _ _ _ i _ Q hinv h1 h2 h3 fun η' A' w' hinv' => ?_
      have hf : listed[i]? = some false := by
        have hlt : i < listed.size := by omega
        unfold inB at h2
        rw [Array.getD_eq_getD_getElem?, Array.getElem?_eq_getElem hlt] at h2
        rw [Array.getElem?_eq_getElem hlt]
        simpa using h2
      have hD : addD (inB listed) i = inB (listed.setIfInBounds i true) := by
        funext j
        unfold addD inB
        have hlt : i < listed.size := by omega
        rw [Array.getD_eq_getD_getElem?, Array.getD_eq_getD_getElem?, Array.getElem?_setIfInBounds]
        by_cases e : i = j
        · subst e; rw [if_pos rfl, if_pos hlt]; simp
        · rw [if_neg e, natBeq (fun e' => e e'.symm)]; simp
      rw [hD] at hinv'
      exact ih _ η' w' A' (by simpa using hl) (by have := count_set listed i hf; omega) hinv'
end

theorem tailGo_spec {ops : Array Oper} {M : List Nat} : ∀ (k i j : Nat), tailGo ops M k ≤ i → i < k → freeAt ops i = false → j < i → freeAt ops j = true ∨ ordB M j i = true
  | 0, i, j, _, h, _, _ => by omega
  | k + 1, i, j, h1, h2, h3, h4 => by
    unfold tailGo at h1
    split at h1
    · next ha =>
      by_cases e : i = k
      · subst e
        rw [h3, Bool.false_or, List.all_eq_true] at ha
        have := ha j (by simpa using h4)
        rwa [Bool.or_eq_true] at this
      · exact tailGo_spec k i j h1 (by omega) h3 h4
    · omega

theorem tailSt_snoc : ∀ (rs : List DRec) (r : DRec) (σ : ASt), tailSt (rs ++ [r]) σ = match r.fin with | some τ => τ | none => tailSt rs σ
  | [], _, _ => rfl
  | s :: rs, r, σ => by
    show tailSt (rs ++ [r]) _ = _
    rw [tailSt_snoc rs r]
    rfl

theorem tailSt_none {rs : List DRec} {σ : ASt} : ∀ k, k ≤ rs.length → (∀ (i : Nat) r, i < k → rs[i]? = some r → r.fin = none) → tailSt (rs.take k) σ = σ
  | 0, _, _ => by simp [tailSt]
  | k + 1, hk, h => by
    obtain ⟨r, hr⟩ : ∃ r, rs[k]? = some r := ⟨_, List.getElem?_eq_getElem (by omega)⟩
    rw [List.take_add_one, hr, Option.toList_some, tailSt_snoc, h k r (by omega) hr]
    exact tailSt_none k (by omega) (fun i r' hi => h i r' (by omega))

theorem tailSt_take {rs : List DRec} {σ : ASt} {m : Nat} {r : DRec} {τ : ASt} (hr : rs[m]? = some r) (hf : r.fin = some τ) : ∀ k, m < k → k ≤ rs.length → (∀ (i : Nat) r', m < i → i < k → rs[i]? = some r' → r'.fin = none) → tailSt (rs.take k) σ = τ
  | 0, h, _, _ => by omega
  | k + 1, hm, hk, h => by
    by_cases e : m = k
    · subst e
      rw [List.take_add_one, hr, Option.toList_some, tailSt_snoc, hf]
    · obtain ⟨r', hr'⟩ : ∃ r, rs[k]? = some r := ⟨_, List.getElem?_eq_getElem (by omega)⟩
      rw [List.take_add_one, hr', Option.toList_some, tailSt_snoc, h k r' (by omega) (by omega) hr']
      exact tailSt_take hr hf k (by omega) (by omega) (fun i r'' h1 h2 => h i r'' h1 (by omega))

theorem fOp_free {call : Caller} {o : Oper} (hf : freeOp o = true) {ev : Operand → Option AV} {σ1 σ2 τ : ASt} {v : Option AV} (hs : fOp P call o ev σ1 = some (v, τ)) : fOp P call o ev σ2 = some (v, σ2) := by
  rw [fOp_eq] at hs ⊢
  obtain ⟨dst, op, type, pos, after, guard⟩ := o
  cases op with
  | move x =>
    simp only [aOp, retV, Option.map_eq_some_iff, Prod.mk.injEq] at hs ⊢
    obtain ⟨u, h1, h2, _⟩ := hs
    exact ⟨u, h1, h2, trivial⟩
  | assign x =>
    simp only [aOp, retV, Option.map_eq_some_iff, Prod.mk.injEq] at hs ⊢
    obtain ⟨u, h1, h2, _⟩ := hs
    exact ⟨u, h1, h2, trivial⟩
  | extract x k =>
    simp only [aOp] at hs ⊢
    split at hs
    · simp only [retV, Option.map_eq_some_iff, Prod.mk.injEq] at hs ⊢
      obtain ⟨u, h1, h2, _⟩ := hs
      exact ⟨u, h1, h2, trivial⟩
    · cases hs
  | binOp op t x y z =>
    simp only [aOp] at hs ⊢
    split at hs
    · simp only [retV, Option.map_eq_some_iff, Prod.mk.injEq] at hs ⊢
      obtain ⟨u, h1, h2, _⟩ := hs
      exact ⟨u, h1, h2, trivial⟩
    · cases hs
  | _ => simp [freeOp] at hf

theorem clsOf_free {o : Oper} (hf : freeOp o = true) (ev : Operand → Option AV) : clsOf o ev = .na [] := by
  obtain ⟨dst, op, type, pos, after, guard⟩ := o
  cases op <;> first | rfl | (simp [freeOp] at hf)

theorem dLast_next {call : Caller} {ops : Array Oper} {lock gn n i c : Nat} {prev : List DRec} {t : Tr AV} {h : Tr AObj} {r : DRec} (hs : dLast P call ops lock gn n prev i t h c = some r) : r.next = c := by
  unfold dLast at hs
  split at hs
  · cases hs
  · split at hs
    · cases hs
    · cases hs; rfl
    · split at hs
      · cases hs; rfl
      · cases hs

theorem dOne0_free {call : Caller} {ops : Array Oper} {M : List Nat} {N0 lock gn n i c : Nat} {prev : List DRec} {t : Tr AV} {h : Tr AObj} {r : DRec} {o : Oper} (ho : ops[i]? = some o) (hf : freeOp o = true) (hs : dOne0 P call ops M N0 lock gn n prev i t h c = some r) :
    r.upd = [] ∧ r.next = c ∧ r.fin = none ∧ ((wantedA o ops { t := restrictT t (o.looksAt ops), n := n, gn := gn } = some false ∧ r.slot = dstU o (some (.tup []))) ∨
      (wantedA o ops { t := restrictT t (o.looksAt ops), n := n, gn := gn } = some true ∧ ∃ v, (∀ σ2, fOp P call o (AAct.eval { t := restrictT t (o.looksAt ops), n := n, gn := gn }) σ2 = some (v, σ2)) ∧ r.slot = dstU o v)) := by
  unfold dOne0 at hs
  rw [ho] at hs
  simp only at hs
  split at hs
  · cases hs
  · next hw => cases hs; exact ⟨rfl, rfl, rfl, .inl ⟨hw, rfl⟩⟩
  · next hw =>
    split at hs
    · next ty e => exfalso; obtain ⟨dst, op, type, pos, after, guard⟩ := o; cases e; simp [freeOp] at hf
    · rw [clsOf_free hf] at hs
      simp only at hs
      split at hs
      · next v τ hv =>
        split at hs
        · cases hs
          exact ⟨rfl, rfl, rfl, .inr ⟨hw, v, fun σ2 => fOp_free hf hv, rfl⟩⟩
        · cases hs
      · cases hs

theorem closed_add {ops : Array Oper} {D : Nat → Bool} {i : Nat} (h : Closed ops D) (hd : ∀ o, ops[i]? = some o → ∀ e ∈ o.after.toList, Region.binds .any e = true → D e.on = true) : Closed ops (addD D i) := by
  intro j o hj ho e he hb
  unfold addD at hj ⊢
  rw [Bool.or_eq_true] at hj ⊢
  rcases hj with hj | hj
  · exact .inl (h j o hj ho e he hb)
  · have := Nat.eq_of_beq_eq_true hj
    subst this
    exact .inl (hd o ho e he hb)

section
variable {call : Caller} {ops : Array Oper} {M : List Nat} {rs : List DRec} {a : AAct} {σ : ASt} {c : Nat} {D : Nat → Bool}

theorem Ctx.act' (C : Ctx P call ops M rs a σ c) (hcl : Closed ops D) {i : Nat} {o : Oper} {r : DRec} (ho : ops[i]? = some o) (hr : rs[i]? = some r) (hi : D i = false) (hdeps : ∀ e ∈ o.after.toList, Region.binds .any e = true → D e.on = true)
    {η : Env} {A : Act} (htr : TR P η { t := foldD (slotsL rs) 0 D a.t, n := a.n, gn := a.gn } A) : TR P η { t := restrictT (applyAll ((slotsL rs).take i) a.t) (o.looksAt ops), n := a.n, gn := a.gn } A := by
  refine ⟨htr.gn, htr.size, htr.none, fun d v hv => ?_⟩
  rw [get_restrictT] at hv
  split at hv
  · next hd =>
    rw [C.same_slot (a0 := a) hcl ho hr hi hdeps hd] at hv
    exact htr.slot d v hv
  · cases hv

/-- One of the last: it sees all that stands. -/
theorem Ctx.last (C : Ctx P call ops M rs a σ c) (hcall : CallOk P call) (hcl : Closed ops D) {i : Nat} {o : Oper} {r : DRec} (ho : ops[i]? = some o) (hr : rs[i]? = some r) (hi : D i = false) (hdeps : ∀ e ∈ o.after.toList, Region.binds .any e = true → D e.on = true) (hla : lastAll ops M i = true)
    {η η1 : Env} {w0 w1 : World} {A : Act} (hst : St P η σ w0 η1 (tailSt (rs.take i) { h := applyAll ((updsL rs).take i) σ.h, next := cAt (σ.next + ops.size) rs i, lock := σ.lock }) w1)
    (htr : TR P η1 { t := foldD (slotsL rs) 0 D a.t, n := a.n, gn := a.gn } A) {K : Act → World → Prop} {Q : Exit → Act → World → Prop}
    (hK : ∀ η' A' w' τ, r.fin = some τ → St P η σ w0 η' τ w' → TR P η' { t := foldD (slotsL rs) 0 (addD D i) a.t, n := a.n, gn := a.gn } A' → K A' w') : wpOp P ops Q i K A w1 := by
  have hone := C.one i r hr
  unfold dOne at hone
  rw [if_pos hla] at hone
  unfold dLast at hone
  rw [ho] at hone
  simp only at hone
  have hact := C.act' hcl ho hr hi hdeps htr
  have hnext := fun d => C.get_slot (a0 := a) hcl ho hr hi hdeps d
  have hsl := (C.slot i r hr).2
  unfold wpOp
  rw [ho]
  simp only
  split at hone
  · cases hone
  · next hw =>
    cases hone
    rw [wanted_ok hact hw]
    simp only [Bool.false_eq_true, if_false]
    exact hK η1 _ w1 _ rfl hst (htr.add (Env.le.refl _) hnext hsl (by rintro u hu; cases hu; exact ⟨[], rfl, rfl⟩))
  · next hw =>
    rw [wanted_ok hact hw]
    simp only [if_true]
    left
    split at hone
    · next v τ hop =>
      rw [fOp_eq] at hop
      cases hone
      refine aOp_wp hst.rel hcall hact hop fun x η' w' hst2 hx => ?_
      exact hK η' _ w' _ rfl (hst.trans hst2) (htr.add hst2.ext hnext hsl hx)
    · cases hone

/-- A free one: wherever it stands. -/
theorem Ctx.free (C : Ctx P call ops M rs a σ c) (hcall : CallOk P call) (hcl : Closed ops D) {i : Nat} {o : Oper} {r : DRec} (ho : ops[i]? = some o) (hr : rs[i]? = some r) (hi : D i = false) (hdeps : ∀ e ∈ o.after.toList, Region.binds .any e = true → D e.on = true) (hf : freeOp o = true)
    {η η1 : Env} {τ : ASt} {w0 w1 : World} {A : Act} (hst : St P η σ w0 η1 τ w1) (htr : TR P η1 { t := foldD (slotsL rs) 0 D a.t, n := a.n, gn := a.gn } A) {K : Act → World → Prop} {Q : Exit → Act → World → Prop}
    (hK : ∀ η' A' w', St P η σ w0 η' τ w' → TR P η' { t := foldD (slotsL rs) 0 (addD D i) a.t, n := a.n, gn := a.gn } A' → K A' w') : wpOp P ops Q i K A w1 := by
  have hone := C.one i r hr
  unfold dOne at hone
  have hnl : lastAll ops M i = false := by
    unfold lastAll freeAt
    rw [ho]
    simp only [hf, Bool.not_true, Bool.and_false]
  rw [hnl] at hone
  simp only [Bool.false_eq_true, if_false] at hone
  obtain ⟨_, _, _, hcase⟩ := dOne0_free ho hf hone
  have hact := C.act' hcl ho hr hi hdeps htr
  have hnext := fun d => C.get_slot (a0 := a) hcl ho hr hi hdeps d
  have hsl := (C.slot i r hr).2
  unfold wpOp
  rw [ho]
  simp only
  rcases hcase with ⟨hw, hs⟩ | ⟨hw, v, hv, hs⟩
  · rw [hs] at hnext hsl
    rw [wanted_ok hact hw]
    simp only [Bool.false_eq_true, if_false]
    exact hK η1 _ w1 hst (htr.add (Env.le.refl _) hnext hsl (by rintro u hu; cases hu; exact ⟨[], rfl, rfl⟩))
  · rw [hs] at hnext hsl
    rw [wanted_ok hact hw]
    simp only [if_true]
    left
    have hop := hv τ
    rw [fOp_eq] at hop
    refine aOp_wp hst.rel hcall hact hop fun x η' w' hst2 hx => ?_
    exact hK η' _ w' (hst.trans hst2) (htr.add hst2.ext hnext hsl hx)

theorem Ctx.tailNext (C : Ctx P call ops M rs a σ c) {l : Nat} (hl : ∀ i, l ≤ i → i < ops.size → lastAll ops M i = true ∨ freeAt ops i = true) : ∀ k, l + k ≤ ops.size → cAt (σ.next + ops.size) rs (l + k) = cAt (σ.next + ops.size) rs l
  | 0, _ => rfl
  | k + 1, h => by
    have ih := C.tailNext hl k (by omega)
    obtain ⟨r, hr⟩ : ∃ r, rs[l + k]? = some r := ⟨_, List.getElem?_eq_getElem (by rw [C.len]; omega)⟩
    obtain ⟨o, ho⟩ : ∃ o, ops[l + k]? = some o := ⟨ops[l + k], by simp⟩
    have hone := C.one _ _ hr
    unfold dOne at hone
    rw [show l + (k + 1) = (l + k) + 1 by omega, cAt_succ rs _ _ _ hr, ← ih]
    split at hone
    · exact dLast_next hone
    · next hn =>
      rcases hl (l + k) (by omega) (by omega) with h1 | h1
      · exact absurd h1 hn
      · unfold freeAt at h1
        rw [ho] at h1
        exact (dOne0_free ho h1 hone).2.1
end

/-- The evaluator's word on a region whose order is open. -/
theorem draw0_ok (hm : P.follows .mixedOrders = true) : DrawOk P (aDraw0 P) := by
  intro call hcall ops a σ a' σ' hs η w A id Q h ht hK
  unfold aDraw0 at hs
  simp only at hs
  split at hs
  · next hok =>
    simp only [Bool.and_eq_true] at hok
    split at hs
    · next rs t hh c hgo =>
      split at hs
      · next hchk =>
        simp only [Bool.and_eq_true] at hchk
        obtain ⟨⟨⟨hst0, hdy0⟩, hsl⟩, hbig⟩ := hchk
        obtain ⟨new, h1, h2, h3, h4, h5, h6⟩ := dGo_spec _ _ _ _ _ _ _ _ _ _ hgo
        simp only [List.nil_append] at h1
        subst h1
        have C : Ctx P call ops (masksGo ops.toList []) rs a σ c := {
          hM := rfl
          mok := hok.1
          len := h2
          one := fun i r hr => by have := h6 i r hr; simpa using this
          pairs := pairs_of hst0 hdy0 (fun i r hr => by have := h6 i r hr; exact dOne_slot (by simpa using this))
          slot := by
            intro i r hr
            unfold slotsOk at hsl
            rw [List.all_eq_true] at hsl
            have := hsl r (List.mem_of_getElem? hr)
            simp only [Bool.and_eq_true] at this
            refine ⟨Nat.le_of_ble_eq_true this.1, fun p hpm => ?_⟩
            have h8 := this.2
            rw [List.all_eq_true] at h8
            have := h8 p hpm
            rwa [Nat.blt_eq] at this
          fin := h5
          big := Nat.le_of_ble_eq_true hbig
          lock := Nat.le_of_ble_eq_true hok.2 }
        refine wp_region_any hm ?_
        have hcl := C.cf_lo
        have hempty : inB (Array.replicate ops.size false) = fun _ => false := by
          funext j
          unfold inB
          rw [Array.getD_eq_getD_getElem?, Array.getElem?_replicate]
          split <;> rfl
        have hno : ∀ {α : Type} (us : List (List (Nat × Option α))) (k : Nat) (t : Tr α), foldD us k (fun _ => false) t = t := by
          intro α us
          induction us with
          | nil => intro k t; rfl
          | cons u us ih => intro k t; rw [foldD]; simp only [Bool.false_eq_true, if_false]; exact ih _ _
        have start : DInv P ops rs a σ c η { w with drawn := w.drawn + 1 } (fun _ => false) η { w with drawn := w.drawn + 1 } A := by
          refine ⟨fun i o hi => by simp at hi, ?_, ?_, fun id hq => .inl (h.hasLt hq)⟩
          · rw [hno]
            refine (St.refl h.drew).sub (fun id o ho => ho) (by show σ.next ≤ c; omega) rfl
          · rw [hno]; exact ⟨ht.gn, ht.size, ht.none, ht.slot⟩
        have hslots : foldD (slotsL rs) 0 (fun j => decide (j < ops.size)) a.t = t := by
          rw [h3]; exact foldD_all _ _ _ _ (fun j hj => by simp [slotsL] at hj ⊢; omega)
        have hlast : ∀ i, i < ops.size → lastAll ops (masksGo ops.toList []) i = true → freeAt ops i = false ∧ ∀ j, j < i → freeAt ops j = true ∨ ordB (masksGo ops.toList []) j i = true := by
          intro i hi hla
          unfold lastAll at hla
          rw [Bool.and_eq_true, Bool.not_eq_true'] at hla
          exact ⟨hla.2, fun j hj => tailGo_spec _ _ _ (Nat.le_of_ble_eq_true hla.1) hi hla.2 hj⟩
        have hup : ∀ i j, i ≤ j → j < ops.size → lastAll ops (masksGo ops.toList []) i = true → lastAll ops (masksGo ops.toList []) j = true ∨ freeAt ops j = true := by
          intro i j hij hj hla
          unfold lastAll at hla ⊢
          rw [Bool.and_eq_true, Bool.not_eq_true'] at hla
          have := Nat.le_of_ble_eq_true hla.1
          cases hf : freeAt ops j with
          | true => exact .inr rfl
          | false => left; rw [Nat.ble_eq_true_of_le (Nat.le_trans this hij)]; rfl
        have hfree : ∀ i, freeAt ops i = true → lastAll ops (masksGo ops.toList []) i = false := by
          intro i hf
          unfold lastAll
          rw [hf]
          simp
        have hfin : ∀ (i : Nat) r, rs[i]? = some r → lastAll ops (masksGo ops.toList []) i = false → r.fin = none := by
          intro i r hr hi
          have hone := C.one i r hr
          unfold dOne at hone
          rw [hi] at hone
          simp only [Bool.false_eq_true, if_false] at hone
          exact dOne_fin hone
        have hfupd : ∀ (i : Nat) r, rs[i]? = some r → freeAt ops i = true → r.upd = [] := by
          intro i r hr hf
          have hone := C.one i r hr
          unfold dOne at hone
          rw [hfree i hf] at hone
          simp only [Bool.false_eq_true, if_false] at hone
          unfold freeAt at hf
          split at hf
          · next o ho => exact (dOne0_free ho hf hone).1
          · cases hf
        let wd : World := { w with drawn := w.drawn + 1 }
        cases hs
        refine any_gen C.toCtx0 (fun D η1 w1 A1 => ((∀ i, i < ops.size → lastAll ops (masksGo ops.toList []) i = true → D i = false) ∧ DInv P ops rs a σ c η wd D η1 w1 A1) ∨
          ∃ m, m < ops.size ∧ lastAll ops (masksGo ops.toList []) m = true ∧ Closed ops D ∧ (∀ j, j < ops.size → freeAt ops j = false → D j = decide (j ≤ m)) ∧ ∃ r τ, rs[m]? = some r ∧ r.fin = some τ ∧ St P η σ wd η1 τ w1 ∧ TR P η1 { t := foldD (slotsL rs) 0 D a.t, n := a.n, gn := a.gn } A1) ?_ ?_ ops.size (Array.replicate ops.size false) η _ A (by simp) (by simp) (.inl ⟨fun i _ _ => by rw [hempty], by rw [hempty]; exact start⟩)
        · intro D η1 w1 A1 i K Q' hinv hil hi hdeps0 hK'
          obtain ⟨o, ho⟩ : ∃ o, ops[i]? = some o := ⟨ops[i], by simp [hil]⟩
          obtain ⟨r, hr⟩ : ∃ r, rs[i]? = some r := ⟨_, List.getElem?_eq_getElem (by rw [h2]; exact hil)⟩
          have hdeps := hdeps0 o ho
          rcases hinv with ⟨hD, hinv⟩ | ⟨m, hm2, hmla, hcl, hDm, r1, τ1, hr1, hf1, hst1, htr1⟩
          · by_cases hla : lastAll ops (masksGo ops.toList []) i = true
            · -- the first of the last ones
              obtain ⟨hnf, hord⟩ := hlast i hil hla
              have hDeq : ∀ j, j < ops.size → freeAt ops j = false → D j = decide (j < i) := by
                intro j hj hjf
                by_cases h1 : j < i
                · have : D j = true := C.anc hinv.closed i o ho hdeps j ((hord j h1).resolve_left (by rw [hjf]; simp))
                  rw [this]; simp [h1]
                · have : D j = false := hD j hj ((hup i j (by omega) hj hla).resolve_right (by rw [hjf]; simp))
                  rw [this]; simp [h1]
              have hbefore : ∀ j, j < i → lastAll ops (masksGo ops.toList []) j = false := by
                intro j hj
                cases e : lastAll ops (masksGo ops.toList []) j with
                | false => rfl
                | true =>
                  have h1 := hD j (by omega) e
                  rw [hDeq j (by omega) (hlast j (by omega) e).1] at h1
                  exact absurd hj (of_decide_eq_false h1)
              have hupd : ∀ b, (applyAll ((updsL rs).take i) σ.h).get b = (foldD (updsL rs) 0 D σ.h).get b := by
                intro b
                rw [get_applyAll (updsL rs) i 0, get_foldD]
                congr 1
                refine lastU_agree _ _ _ _ _ fun j u hj hne => ?_
                have hjl : j < ops.size := by have := (List.getElem?_eq_some_iff.1 hj).1; simp [updsL] at this; omega
                simp only [Nat.zero_add] at hne
                cases hjf : freeAt ops j with
                | false => exact absurd (hDeq j hjl hjf).symm hne
                | true =>
                  obtain ⟨r', hr', hu⟩ := updsL_of hj
                  rw [hfupd j r' hr' hjf] at hu
                  subst hu
                  rfl
              have hcl2 : cAt (σ.next + ops.size) rs i = c := by
                have := C.tailNext (l := i) (fun k h1 h2 => hup i k h1 h2 hla) (ops.size - i) (by omega)
                rw [show i + (ops.size - i) = ops.size by omega] at this
                rw [← this]; exact C.fin.symm
              have hts : ∀ σ1, tailSt (rs.take i) σ1 = σ1 := fun σ1 => tailSt_none i (by omega) fun j r' h1 h2 => hfin j r' h2 (hbefore j h1)
              refine C.last hcall hinv.closed ho hr hi hdeps hla (η := η) (w0 := wd) (η1 := η1) ?_ hinv.tr fun η' A' w' τ hf hst htr => hK' η' A' w' (.inr ⟨i, hil, hla, closed_add hinv.closed hdeps0, ?_, r, τ, hr, hf, hst, htr⟩)
              · rw [hts]
                refine hinv.st.sub (fun id' o' ho' => ?_) (Nat.le_of_eq hcl2.symm) rfl
                rw [show (ASt.get { h := foldD (updsL rs) 0 D σ.h, next := c, lock := σ.lock } id') = (foldD (updsL rs) 0 D σ.h).get id' from rfl, ← hupd]; exact ho'
              · intro j hj hjf
                unfold addD
                rw [hDeq j hj hjf]
                by_cases e : j = i
                · subst e; simp
                · rw [natBeq e, Bool.or_false]; congr 1; apply propext; omega
            · have hnl : lastAll ops (masksGo ops.toList []) i = false := by simpa using hla
              refine C.step hcall h.drew hinv hil hi hdeps0 hnl fun η' A' w' hinv' => hK' η' A' w' (.inl ⟨fun j hj hjl => ?_, hinv'⟩)
              have hji : j ≠ i := fun e => by subst e; rw [hnl] at hjl; cases hjl
              unfold addD
              rw [hD j hj hjl, natBeq hji]; rfl
          · cases hif : freeAt ops i with
            | true =>
              have hof : freeOp o = true := by unfold freeAt at hif; rw [ho] at hif; exact hif
              refine C.free hcall hcl ho hr hi hdeps hof hst1 htr1 fun η' A' w' hst htr => hK' η' A' w' (.inr ⟨m, hm2, hmla, closed_add hcl hdeps0, ?_, r1, τ1, hr1, hf1, hst, htr⟩)
              intro j hj hjf
              have hji : j ≠ i := fun e => by subst e; rw [hif] at hjf; cases hjf
              unfold addD
              rw [hDm j hj hjf, natBeq hji, Bool.or_false]
            | false =>
              have him : ¬ i ≤ m := by
                intro hle
                rw [hDm i hil hif] at hi
                exact of_decide_eq_false hi hle
              have hla : lastAll ops (masksGo ops.toList []) i = true := (hup m i (by omega) hil hmla).resolve_right (by rw [hif]; simp)
              have hmid : ∀ j, m < j → j < i → freeAt ops j = true := by
                intro j h1 h2
                cases hjf : freeAt ops j with
                | true => rfl
                | false =>
                  have h8 : D j = true := C.anc hcl i o ho hdeps j (((hlast i hil hla).2 j h2).resolve_left (by rw [hjf]; simp))
                  rw [hDm j (by omega) hjf] at h8
                  have := of_decide_eq_true h8
                  omega
              have hts : ∀ σ1, tailSt (rs.take i) σ1 = τ1 := fun σ1 => tailSt_take hr1 hf1 i (by omega) (by omega) fun j r' h1 h2 h3 => hfin j r' h3 (hfree j (hmid j h1 h2))
              refine C.last hcall hcl ho hr hi hdeps hla (η := η) (w0 := wd) (η1 := η1) (by rw [hts]; exact hst1) htr1 fun η' A' w' τ hf hst htr => hK' η' A' w' (.inr ⟨i, hil, hla, closed_add hcl hdeps0, ?_, r, τ, hr, hf, hst, htr⟩)
              intro j hj hjf
              unfold addD
              rw [hDm j hj hjf]
              by_cases e : j = i
              · subst e; simp
              · rw [natBeq e, Bool.or_false]
                congr 1
                apply propext
                constructor
                · omega
                · intro h1
                  apply Classical.byContradiction
                  intro h2
                  have := hmid j (by omega) (by omega)
                  rw [this] at hjf; cases hjf
        · intro η1 A1 w1 hinv
          rcases hinv with ⟨hD, hinv⟩ | ⟨m, hm2, hmla, hcl, hDm, r1, τ1, hr1, hf1, hst1, htr1⟩
          · have hno2 : ∀ i, i < ops.size → lastAll ops (masksGo ops.toList []) i = false := by
              intro i hi
              cases e : lastAll ops (masksGo ops.toList []) i with
              | false => rfl
              | true => have := hD i hi e; simp at this; omega
            have hts : tailSt rs { h := hh, next := c, lock := σ.lock } = { h := hh, next := c, lock := σ.lock } := by
              have := tailSt_none (rs := rs) (σ := { h := hh, next := c, lock := σ.lock }) rs.length (Nat.le_refl _) fun j r' h1 h2 => hfin j r' h2 (hno2 j (by omega))
              rwa [List.take_length] at this
            rw [hts] at hK
            have hupds : foldD (updsL rs) 0 (fun j => decide (j < ops.size)) σ.h = hh := by
              rw [h4]; exact foldD_all _ _ _ _ (fun j hj => by simp [updsL] at hj ⊢; omega)
            have hst := hinv.st
            have htr := hinv.tr
            rw [hupds] at hst
            rw [hslots] at htr
            exact hK η1 A1 w1 ((St.drew h).trans hst) htr
          · have hts : ∀ σ1, tailSt rs σ1 = τ1 := by
              intro σ1
              have := tailSt_take (σ := σ1) hr1 hf1 rs.length (by omega) (Nat.le_refl _) fun j r' h1 h2 h3 => by
                refine hfin j r' h3 (hfree j ?_)
                cases hjf : freeAt ops j with
                | true => rfl
                | false =>
                  have h9 : decide (j < ops.size) = decide (j ≤ m) := hDm j (by omega) hjf
                  have h10 : decide (j < ops.size) = true := by simp; omega
                  rw [h10] at h9
                  have := of_decide_eq_true h9.symm
                  omega
              rwa [List.take_length] at this
            rw [hts] at hK
            rw [hslots] at htr1
            exact hK η1 A1 w1 ((St.drew h).trans hst1) htr1
      · cases hs
    · cases hs
  · cases hs

/-! ### A literal of a map -/
section
variable {call : Caller} {ops : Array Oper} {M : List Nat} {N0 gn n : Nat}

theorem litFree_ok {o : Oper} (hf : litFree o = true) {ev : Operand → Option AV} {σ1 σ2 τ : ASt} {v : Option AV} (hs : fOp P call o ev σ1 = some (v, τ)) : fOp P call o ev σ2 = some (v, σ2) := by
  obtain ⟨dst, op, type, pos, after, guard⟩ := o
  cases op with
  | move x =>
    simp only [fOp_eq, aOp, retV, Option.map_eq_some_iff, Prod.mk.injEq] at hs ⊢
    obtain ⟨u, h1, h2, _⟩ := hs
    exact ⟨u, h1, h2, trivial⟩
  | assign x =>
    simp only [fOp_eq, aOp, retV, Option.map_eq_some_iff, Prod.mk.injEq] at hs ⊢
    obtain ⟨u, h1, h2, _⟩ := hs
    exact ⟨u, h1, h2, trivial⟩
  | nilCheck x =>
    rw [show fOp P call _ ev σ1 = fOp8 P call ev σ1 x from rfl] at hs
    rw [show fOp P call _ ev σ2 = fOp8 P call ev σ2 x from rfl]
    unfold fOp8 at hs ⊢
    split at hs <;> simp only [retV, Option.map_some, Option.some.injEq, Prod.mk.injEq, reduceCtorEq] at hs ⊢ <;> exact ⟨hs.1, trivial⟩
  | fieldAddr ty x f =>
    rw [show fOp P call _ ev σ1 = fOp17 P call ev σ1 ty x f from rfl] at hs
    rw [show fOp P call _ ev σ2 = fOp17 P call ev σ2 ty x f from rfl]
    unfold fOp17 at hs ⊢
    split at hs
    · simp only [retV, Option.map_eq_some_iff, Prod.mk.injEq] at hs ⊢
      obtain ⟨u, h1, h2, _⟩ := hs
      exact ⟨u, h1, h2, trivial⟩
    · cases hs
  | _ => simp [litFree] at hf

theorem litOne_spec {i : Nat} {t : Tr AV} {r : DRec} {e : Option (List UInt8 × AV)} (h : litOne P call ops M N0 gn n i t = some (r, e)) : ∃ o v, ops[i]? = some o ∧ o.guard = none ∧ r = litRec (N0 + 1) (dstU o v) ∧
    ((i = 0 ∧ e = none ∧ v = some (.mp N0) ∧ ∃ ty, o.op = .makeMap ty none) ∨
     (i ≠ 0 ∧ v = none ∧ ∃ ty m k x s u, o.op = .insert ty m k x ∧ AAct.eval { t := restrictT t (o.looksAt ops), n := n, gn := gn } m = some (.mp N0) ∧ AAct.eval { t := restrictT t (o.looksAt ops), n := n, gn := gn } k = some (.s s) ∧ AAct.eval { t := restrictT t (o.looksAt ops), n := n, gn := gn } x = some u ∧ litKey P ty = true ∧ ordB M 0 i = true ∧ e = some (s, u)) ∨
     (i ≠ 0 ∧ e = none ∧ ∀ σ2, fOp P call o (AAct.eval { t := restrictT t (o.looksAt ops), n := n, gn := gn }) σ2 = some (v, σ2))) := by
  unfold litOne at h
  split at h
  · cases h
  · next o ho =>
    split at h
    · cases h
    · next hg =>
      split at h
      · next hi =>
        have hi := Nat.eq_of_beq_eq_true hi
        split at h
        · next ty hop =>
          cases h
          exact ⟨o, _, ho, hg, rfl, .inl ⟨hi, rfl, rfl, ty, hop⟩⟩
        · cases h
      · next hi =>
        have hi : i ≠ 0 := fun e => by subst e; exact hi rfl
        split at h
        · next ty m k x hop =>
          split at h
          · next id s u e1 e2 e3 =>
            split at h
            · next hc =>
              cases h
              simp only [Bool.and_eq_true] at hc
              have := Nat.eq_of_beq_eq_true hc.1.1
              subst this
              exact ⟨o, _, ho, hg, rfl, .inr (.inl ⟨hi, rfl, ty, m, k, x, s, u, hop, e1, e2, e3, hc.1.2, hc.2, rfl⟩)⟩
            · cases h
          · cases h
        · split at h
          · next hf =>
            split at h
            · next v τ hv =>
              cases h
              exact ⟨o, v, ho, hg, rfl, .inr (.inr ⟨hi, rfl, fun σ2 => litFree_ok hf hv⟩)⟩
            · cases h
          · cases h

theorem litGo_spec : ∀ (m i : Nat) (t : Tr AV) (l : List (DRec × Option (List UInt8 × AV))) (t' : Tr AV), litGo P call ops M N0 gn n m i t = some (l, t') →
    l.length = m ∧ t' = applyAll (slotsL (l.map (·.1))) t ∧ ∀ (k : Nat) r, l[k]? = some r → litOne P call ops M N0 gn n (i + k) (applyAll ((slotsL (l.map (·.1))).take k) t) = some r
  | 0, i, t, l, t', h => by
    cases h
    exact ⟨rfl, rfl, fun k r hr => by simp at hr⟩
  | m + 1, i, t, l, t', h => by
    unfold litGo at h
    split at h
    · cases h
    · next r hr =>
      split at h
      · cases h
      · next l2 t2 hl =>
        cases h
        obtain ⟨h1, h2, h3⟩ := litGo_spec m _ _ _ _ hl
        refine ⟨by simp [h1], by rw [h2]; rfl, fun k r' hk => ?_⟩
        cases k with
        | zero => simp only [List.getElem?_cons_zero, Option.some.injEq] at hk; subst hk; exact hr
        | succ k =>
          simp only [List.getElem?_cons_succ] at hk
          have := h3 k r' hk
          rw [show i + 1 + k = i + (k + 1) by omega] at this
          exact this

theorem entsD_none : ∀ (es : List (Option (List UInt8 × AV))) (k : Nat) (D : Nat → Bool), (∀ (j : Nat) e, es[j]? = some (some e) → D (k + j) = false) → entsD es k D = []
  | [], _, _, _ => rfl
  | none :: l, k, D, h => by
    rw [entsD]
    exact entsD_none l (k + 1) D fun j e hj => by have := h (j + 1) e (by simpa using hj); rwa [show k + (j + 1) = k + 1 + j by omega] at this
  | some x :: l, k, D, h => by
    have h0 := h 0 x (by simp)
    simp only [Nat.add_zero] at h0
    rw [entsD, h0]
    exact entsD_none l (k + 1) D fun j e hj => by have := h (j + 1) e (by simpa using hj); rwa [show k + (j + 1) = k + 1 + j by omega] at this
theorem entsD_all : ∀ (es : List (Option (List UInt8 × AV))) (k : Nat) (D : Nat → Bool), (∀ j, j < es.length → D (k + j) = true) → entsD es k D = es.filterMap id
  | [], _, _, _ => rfl
  | none :: l, k, D, h => by
    rw [entsD, entsD_all l (k + 1) D fun j hj => by have := h (j + 1) (by simpa using hj); rwa [show k + (j + 1) = k + 1 + j by omega] at this]
    rfl
  | some x :: l, k, D, h => by
    have h0 := h 0 (by simp)
    simp only [Nat.add_zero] at h0
    rw [entsD, h0, entsD_all l (k + 1) D fun j hj => by have := h (j + 1) (by simpa using hj); rwa [show k + (j + 1) = k + 1 + j by omega] at this]
    rfl
theorem entsD_agree : ∀ (es : List (Option (List UInt8 × AV))) (k : Nat) (D E : Nat → Bool), (∀ (j : Nat) e, es[j]? = some (some e) → D (k + j) = E (k + j)) → entsD es k D = entsD es k E
  | [], _, _, _, _ => rfl
  | none :: l, k, D, E, h => by
    rw [entsD, entsD]
    exact entsD_agree l (k + 1) D E fun j e hj => by have := h (j + 1) e (by simpa using hj); rwa [show k + (j + 1) = k + 1 + j by omega] at this
  | some x :: l, k, D, E, h => by
    have h0 := h 0 x (by simp)
    simp only [Nat.add_zero] at h0
    rw [entsD, entsD, h0, entsD_agree l (k + 1) D E fun j e hj => by have := h (j + 1) e (by simpa using hj); rwa [show k + (j + 1) = k + 1 + j by omega] at this]
theorem entsD_add : ∀ (es : List (Option (List UInt8 × AV))) (k i : Nat) (D : Nat → Bool) (e : List UInt8 × AV), es[i]? = some (some e) → D (k + i) = false → (entsD es k (addD D (k + i))).Perm (e :: entsD es k D)
  | [], _, i, _, _, h, _ => by simp at h
  | x :: l, k, 0, D, e, h, hD => by
    simp only [List.getElem?_cons_zero, Option.some.injEq] at h
    subst h
    simp only [Nat.add_zero] at hD ⊢
    have h1 : addD D k k = true := by unfold addD; simp
    rw [entsD, entsD, h1, hD, entsD_agree l (k + 1) (addD D k) D fun j e' _ => by unfold addD; rw [natBeq (by omega), Bool.or_false]]
    exact List.Perm.refl _
  | none :: l, k, i + 1, D, e, h, hD => by
    rw [entsD, entsD, show k + (i + 1) = k + 1 + i by omega] at *
    exact entsD_add l (k + 1) i D e (by simpa using h) hD
  | some x :: l, k, i + 1, D, e, h, hD => by
    have h1 : addD D (k + (i + 1)) k = D k := by unfold addD; rw [natBeq (by omega), Bool.or_false]
    rw [entsD, entsD, h1]
    have ih := entsD_add l (k + 1) i D e (by simpa using h) (by rwa [show k + 1 + i = k + (i + 1) by omega])
    rw [show k + 1 + i = k + (i + 1) by omega] at ih
    cases D k with
    | true => exact (ih.cons x).trans (List.Perm.swap e x _)
    | false => exact ih
theorem entsD_sub : ∀ (es : List (Option (List UInt8 × AV))) (k : Nat) (D : Nat → Bool), ∀ e ∈ entsD es k D, ∃ j, es[j]? = some (some e) ∧ D (k + j) = true
  | [], _, _, e, h => by simp [entsD] at h
  | none :: l, k, D, e, h => by
    rw [entsD] at h
    obtain ⟨j, h1, h2⟩ := entsD_sub l (k + 1) D e h
    exact ⟨j + 1, by simpa using h1, by rwa [show k + (j + 1) = k + 1 + j by omega]⟩
  | some x :: l, k, D, e, h => by
    rw [entsD] at h
    split at h
    · next hk =>
      rcases List.mem_cons.1 h with rfl | h
      · exact ⟨0, by simp, by simpa using hk⟩
      · obtain ⟨j, h1, h2⟩ := entsD_sub l (k + 1) D e h
        exact ⟨j + 1, by simpa using h1, by rwa [show k + (j + 1) = k + 1 + j by omega]⟩
    · obtain ⟨j, h1, h2⟩ := entsD_sub l (k + 1) D e h
      exact ⟨j + 1, by simpa using h1, by rwa [show k + (j + 1) = k + 1 + j by omega]⟩
theorem nodupS_ok : ∀ {l : List (List UInt8)}, nodupS l = true → l.Nodup
  | [], _ => List.nodup_nil
  | s :: l, h => by
    simp only [nodupS, Bool.and_eq_true, Bool.not_eq_true'] at h
    refine List.nodup_cons.2 ⟨fun hm => ?_, nodupS_ok h.2⟩
    have : (l.any fun x => x == s) = true := List.any_eq_true.2 ⟨s, hm, by simp⟩
    rw [h.1] at this; cases this
theorem nodup_two : ∀ {es : List (Option (List UInt8 × AV))}, ((es.filterMap id).map (·.1)).Nodup → ∀ (i j : Nat) e f, es[i]? = some (some e) → es[j]? = some (some f) → i ≠ j → e.1 ≠ f.1
  | [], _, i, j, e, f, h, _, _ => by simp at h
  | none :: l, hn, i, j, e, f, h1, h2, hne => by
    cases i with
    | zero => simp at h1
    | succ i =>
      cases j with
      | zero => simp at h2
      | succ j => exact nodup_two (es := l) (by simpa using hn) i j e f (by simpa using h1) (by simpa using h2) (by omega)
  | some x :: l, hn, i, j, e, f, h1, h2, hne => by
    simp only [List.filterMap_cons_some (f := id) (a := some x) (b := x) rfl, List.map_cons, List.nodup_cons, List.mem_map, not_exists, not_and] at hn
    have mem : ∀ (k : Nat) g, l[k]? = some (some g) → g ∈ l.filterMap id := fun k g hk => List.mem_filterMap.2 ⟨some g, List.mem_of_getElem? hk, rfl⟩
    cases i with
    | zero =>
      simp only [List.getElem?_cons_zero, Option.some.injEq] at h1
      subst h1
      cases j with
      | zero => exact absurd rfl hne
      | succ j => exact fun e' => hn.1 f (mem j f (by simpa using h2)) e'.symm
    | succ i =>
      cases j with
      | zero =>
        simp only [List.getElem?_cons_zero, Option.some.injEq] at h2
        subst h2
        exact fun e' => hn.1 e (mem i e (by simpa using h1)) e'
      | succ j => exact nodup_two hn.2 i j e f (by simpa using h1) (by simpa using h2) (by omega)

theorem findA_none {s : List UInt8} : ∀ (es : List (AV × AV)) (i : Nat), (∀ e ∈ es, ∃ t, e.1 = .s t ∧ t ≠ s) → findA (.s s) es i = some none
  | [], _, _ => rfl
  | e :: es, i, h => by
    obtain ⟨t, h1, h2⟩ := h e (by simp)
    have hk : keySame (.s s) e.1 = some false := by
      rw [h1]
      simp only [keySame, Option.some.injEq, beq_eq_false_iff_ne, ne_eq]
      exact fun e' => h2 e'.symm
    unfold findA
    rw [hk]
    exact findA_none es (i + 1) fun e he => h e (by simp [he])

/-- Less is said of a block. -/
theorem St.weak {η η1 : Env} {σ τ : ASt} {w w1 : World} (h : St P η σ w η1 τ w1) {id : Nat} {o o' : AObj} (hg : τ.get id = some o) (ho : o'.own = o.own) (hl : Live P η1 w1 id o') : St P η σ w η1 (τ.put id o') w1 :=
  { h with
    rel := h.rel.swap hg ho hl
    own := fun id2 o2 q a b c d => by
      rw [ASt.get_put] at a
      split at a
      · next e => cases a; subst e; exact h.own id2 o q hg (by rw [← ho]; exact b) c d
      · exact h.own id2 o2 q a b c d }

theorem pmap_of {η : Env} {q : Place} {w : World} {es : List (List UInt8 × AV)} {es' : List (AV × AV)} (hn : (es.map (·.1)).Nodup) (hp : es'.Perm (es.map fun e => (AV.s e.1, e.2))) (h : OR P η q w (.map es')) : OR P η q w (.pmap es) := by
  obtain ⟨ms, clock, h1, h2, h3⟩ := h
  refine ⟨hn, ms, clock, ?_⟩
  have key : ∀ (l l' : List (AV × AV)), l.Perm l' → ∀ ms : List MapEntry, MRs η l ms → ∃ ms', ms.Perm ms' ∧ MRs η l' ms' := by
    intro l l' hp
    induction hp with
    | nil => exact fun ms h => ⟨ms, List.Perm.refl _, h⟩
    | cons x hp ih =>
      intro ms h
      obtain ⟨m, rest, rfl, a, b, c⟩ := h.tail
      obtain ⟨ms', h1, h2⟩ := ih rest c
      refine ⟨m :: ms', h1.cons m, by simp [h2.1], fun k e hk => ?_⟩
      cases k with
      | zero => simp only [List.getElem?_cons_zero, Option.some.injEq] at hk; subst hk; exact ⟨m, by simp, a, b⟩
      | succ k => simpa using h2.2 k e (by simpa using hk)
    | swap x y l =>
      intro ms h
      obtain ⟨m, rest, rfl, a, b, c⟩ := h.tail
      obtain ⟨m2, rest2, rfl, a2, b2, c2⟩ := c.tail
      refine ⟨m2 :: m :: rest2, List.Perm.swap _ _ _, by simp [c2.1], fun k e hk => ?_⟩
      match k with
      | 0 => simp only [List.getElem?_cons_zero, Option.some.injEq] at hk; subst hk; exact ⟨m2, by simp, a2, b2⟩
      | 1 => simp only [List.getElem?_cons_succ, List.getElem?_cons_zero, Option.some.injEq] at hk; subst hk; exact ⟨m, by simp, a, b⟩
      | k + 2 => simpa using c2.2 k e (by simpa using hk)
    | trans _ _ ih1 ih2 =>
      intro ms h
      obtain ⟨ms1, a, b⟩ := ih1 ms h
      obtain ⟨ms2, c, d⟩ := ih2 ms1 b
      exact ⟨ms2, a.trans c, d⟩
  obtain ⟨ms', a, b⟩ := key _ _ hp ms.toList ⟨by simpa using h2, fun k e hk => by obtain ⟨m, hm, x, y⟩ := h3 k e hk; exact ⟨m, by simpa using hm, x, y⟩⟩
  refine ⟨ms', h1, a, by simpa using b.1, fun k e hk => ?_⟩
  obtain ⟨m, hm, x, y⟩ := b.2 k (AV.s e.1, e.2) (by rw [List.getElem?_map, hk]; rfl)
  exact ⟨m, hm, by simpa only [VR] using x, y⟩

theorem litKey_ok {t : TypeId} (h : litKey P t = true) : ∃ kt et, P.underlying t = some (.map kt et) ∧ P.underlying kt = some .string := by
  unfold litKey at h
  split at h
  · next kt et hu =>
    split at h
    · next hk => exact ⟨kt, et, hu, hk⟩
    · cases h
  · cases h
end

theorem lit_ok (hm : P.follows .mixedOrders = true) : DrawOk P (litDraw P) := by
  intro call hcall ops a σ a' σ' hs η w A rid Q h ht hK
  unfold litDraw at hs
  split at hs
  rotate_left
  · cases hs
  next hlit =>
  simp only at hs
  split at hs
  rotate_left
  · cases hs
  next hok =>
  simp only [Bool.and_eq_true] at hok
  split at hs
  rotate_left
  · cases hs
  next l t hgo =>
  split at hs
  rotate_left
  · cases hs
  next hchk =>
  simp only [Bool.and_eq_true] at hchk
  obtain ⟨⟨hst0, hsl⟩, hnd0⟩ := hchk
  have hnd := nodupS_ok hnd0
  obtain ⟨hlen, ht', hone⟩ := litGo_spec _ _ _ _ _ hgo
  have hlock := Nat.le_of_ble_eq_true hok.2
  have hes : l.filterMap (·.2) = (l.map (·.2)).filterMap id := by rw [List.filterMap_map]; rfl
  rw [hes] at hs hnd
  have ent : ∀ (j : Nat) e, (l.map (·.2))[j]? = some (some e) → ∃ r, l[j]? = some (r, some e) := fun j e hj => by
    rw [List.getElem?_map] at hj
    obtain ⟨x, h1, h2⟩ := Option.map_eq_some_iff.1 hj
    exact ⟨x.1, by rw [h1, ← h2]⟩
  have rec_ : ∀ (i : Nat) r, (l.map (·.1))[i]? = some r → ∃ e, l[i]? = some (r, e) := fun i r hr => by
    rw [List.getElem?_map] at hr
    obtain ⟨x, h1, h2⟩ := Option.map_eq_some_iff.1 hr
    exact ⟨x.2, by rw [h1, ← h2]⟩
  have spec : ∀ (i : Nat) r e, l[i]? = some (r, e) → _ := fun i r e hr => litOne_spec (hone i (r, e) hr)
  simp only [Nat.zero_add] at spec
  have C : Ctx0 ops (masksGo ops.toList []) (l.map (·.1)) a.n (σ.next + 1) := {
    hM := rfl
    mok := hok.1
    len := by simpa using hlen
    pairs := by
      refine pairs_of hst0 ?_ fun i r hr => ?_
      · unfold dynOk
        rw [List.all_eq_true]
        intro p hp
        obtain ⟨s, j⟩ := p
        rw [List.mem_zipIdx_iff_getElem?] at hp
        obtain ⟨e, he⟩ := rec_ j s (by simpa using hp)
        obtain ⟨o, v, _, _, h3, _⟩ := spec j s e he
        subst h3
        simp [litRec]
      · obtain ⟨e, he⟩ := rec_ i r hr
        obtain ⟨o, v, h1, _, h3, _⟩ := spec i r e he
        subst h3
        exact ⟨o, v, h1, rfl⟩
    slot := by
      intro i r hr
      unfold slotsOk at hsl
      rw [List.all_eq_true] at hsl
      have := hsl r (List.mem_of_getElem? hr)
      simp only [Bool.and_eq_true] at this
      refine ⟨Nat.le_of_ble_eq_true this.1, fun p hpm => ?_⟩
      have h8 := this.2
      rw [List.all_eq_true] at h8
      have := h8 p hpm
      rwa [Nat.blt_eq] at this }
  refine wp_region_any hm ?_
  have hempty : inB (Array.replicate ops.size false) = fun _ => false := by
    funext j
    unfold inB
    rw [Array.getD_eq_getD_getElem?, Array.getElem?_replicate]
    split <;> rfl
  have hno : ∀ {α : Type} (us : List (List (Nat × Option α))) (k : Nat) (t : Tr α), foldD us k (fun _ => false) t = t := by
    intro α us
    induction us with
    | nil => intro k t; rfl
    | cons u us ih => intro k t; rw [foldD]; simp only [Bool.false_eq_true, if_false]; exact ih _ _
  have hslots : foldD (slotsL (l.map (·.1))) 0 (fun j => decide (j < ops.size)) a.t = t := by
    rw [ht']; exact foldD_all _ _ _ _ (fun j hj => by simp [slotsL] at hj ⊢; omega)
  cases hs
  let wd : World := { w with drawn := w.drawn + 1 }
  have getnew : ∀ o, (σ.new o).get σ.next = some o := fun o => by rw [ASt.get_new]; simp
  have putnew : ∀ o o' id x, (σ.new o').get id = some x → ((σ.new o).put σ.next o').get id = some x := fun o o' id x hx => by
    rw [ASt.get_put]
    rw [ASt.get_new] at hx ⊢
    by_cases e : id = σ.next
    · rw [if_pos e] at hx ⊢; exact hx
    · rw [if_neg e] at hx ⊢; rw [if_neg e]; exact hx
  have hpos : 0 < ops.size ∧ ∃ ty o, ops[0]? = some o ∧ o.op = .makeMap ty none := by
    unfold isLit at hlit
    split at hlit
    · next o ho =>
      split at hlit
      · next ty hop => exact ⟨(Array.getElem?_eq_some_iff.1 ho).1, ty, o, ho, hop⟩
      · cases hlit
    · cases hlit
  refine any_gen C (fun D η1 w1 A1 => Closed ops D ∧ TR P η1 { t := foldD (slotsL (l.map (·.1))) 0 D a.t, n := a.n, gn := a.gn } A1 ∧ (D 0 = false → St P η σ wd η1 σ w1) ∧
      (D 0 = true → ∃ es', es'.Perm ((entsD (l.map (·.2)) 0 D).map fun e => (AV.s e.1, e.2)) ∧ St P η σ wd η1 (σ.new (.map es')) w1)) ?_ ?_ ops.size (Array.replicate ops.size false) η _ A (by simp) (by simp) ?_
  · intro D η1 w1 A1 i K Q' hinv hil hi hdeps0 hK'
    obtain ⟨hcl, htr, hst0, hst1⟩ := hinv
    obtain ⟨o, ho⟩ : ∃ o, ops[i]? = some o := ⟨ops[i], by simp [hil]⟩
    obtain ⟨⟨r, e⟩, hl⟩ : ∃ x, l[i]? = some x := ⟨_, List.getElem?_eq_getElem (by rw [hlen]; exact hil)⟩
    have hr : (l.map (·.1))[i]? = some r := by rw [List.getElem?_map, hl]; rfl
    have hdeps := hdeps0 o ho
    obtain ⟨o', v, ho', hg, hrec, hcase⟩ := spec i r e hl
    rw [ho] at ho'; cases ho'
    have hact : TR P η1 { t := restrictT (applyAll ((slotsL (l.map (·.1))).take i) a.t) (o.looksAt ops), n := a.n, gn := a.gn } A1 := by
      refine ⟨htr.gn, htr.size, htr.none, fun d v hv => ?_⟩
      rw [get_restrictT] at hv
      split at hv
      · next hd =>
        rw [C.same_slot (a0 := a) hcl ho hr hi hdeps hd] at hv
        exact htr.slot d v hv
      · cases hv
    have hnext := fun d => C.get_slot (a0 := a) hcl ho hr hi hdeps d
    have hslr := (C.slot i r hr).2
    have hcl2 := closed_add hcl hdeps0
    rw [hrec] at hnext hslr
    have hw : wantedA o ops { t := restrictT (applyAll ((slotsL (l.map (·.1))).take i) a.t) (o.looksAt ops), n := a.n, gn := a.gn } = some true := by
      unfold wantedA; rw [hg]
    have step : ∀ {τ τ' : ASt}, SR P η1 τ w1 → aOp P call o (AAct.eval { t := restrictT (applyAll ((slotsL (l.map (·.1))).take i) a.t) (o.looksAt ops), n := a.n, gn := a.gn }) τ = some (v, τ') →
        (∀ η' A' w', St P η1 τ w1 η' τ' w' → TR P η' { t := foldD (slotsL (l.map (·.1))) 0 (addD D i) a.t, n := a.n, gn := a.gn } A' → K A' w') → wpOp P ops Q' i K A1 w1 := by
      intro τ τ' hsr hop hk
      unfold wpOp
      rw [ho]
      simp only
      rw [wanted_ok hact hw]
      simp only [if_true]
      left
      exact aOp_wp hsr hcall hact hop fun x η' w' hst2 hx => hk η' _ w' hst2 (htr.add hst2.ext hnext hslr hx)
    have other : e = none → i ≠ 0 → entsD (l.map (·.2)) 0 (addD D i) = entsD (l.map (·.2)) 0 D := by
      intro he _
      refine entsD_agree _ _ _ _ fun j f hj => ?_
      simp only [Nat.zero_add]
      have : j ≠ i := by
        rintro rfl
        obtain ⟨r2, h2⟩ := ent j f hj
        rw [hl, he] at h2
        cases h2
      unfold addD
      rw [natBeq this, Bool.or_false]
    rcases hcase with ⟨hi0, he, hv, ty, hop⟩ | ⟨hi0, hv, ty, m, k, x, s, u, hop, e1, e2, e3, hlk, hord, he⟩ | ⟨hi0, he, hfr⟩
    · -- the map is made
      subst hi0
      have hst := hst0 hi
      have hnoD : ∀ (j : Nat) f, (l.map (·.2))[j]? = some (some f) → D j = false := by
        intro j f hj
        obtain ⟨r2, h2⟩ := ent j f hj
        obtain ⟨o2, v2, ho2, _, _, hc2⟩ := spec j r2 _ h2
        rcases hc2 with ⟨_, hx, _⟩ | ⟨_, _, _, _, _, _, _, _, _, _, _, _, _, hord2, _⟩ | ⟨_, hx, _⟩
        · cases hx
        · cases hDj : D j with
          | false => rfl
          | true =>
            have := C.anc hcl j o2 ho2 (fun e' he' hb => hcl j o2 hDj ho2 e' he' hb) 0 hord2
            rw [hi] at this; cases this
        · cases hx
      refine step hst.rel (τ' := σ.new (.map [])) ?_ fun η' A' w' hst2 htr2 => hK' η' A' w' ⟨hcl2, htr2, fun h0 => ?_, fun _ => ⟨[], ?_, hst.trans hst2⟩⟩
      · have h14 : ∀ ev, fOp P call o ev σ = fOp14 P call ev σ ty none := fun ev => by unfold fOp; rw [hop]; rfl
        rw [hv, ← fOp_eq, h14]
        rfl
      · exfalso
        unfold addD at h0
        simp at h0
      · have hz : entsD (l.map (·.2)) 0 (addD D 0) = [] := by
          refine entsD_none _ _ _ fun j f hj => ?_
          simp only [Nat.zero_add]
          have h1 := hnoD j f hj
          have : j ≠ 0 := by
            rintro rfl
            obtain ⟨r2, h2⟩ := ent 0 f hj
            rw [hl, he] at h2
            cases h2
          unfold addD
          rw [natBeq this, h1]; rfl
        rw [hz]
        exact List.Perm.refl _
    · -- an entry is put
      have hD0 : D 0 = true := C.anc hcl i o ho hdeps 0 hord
      obtain ⟨es', hperm, hst⟩ := hst1 hD0
      obtain ⟨kt, et, hu1, hu2⟩ := litKey_ok hlk
      have hel : (l.map (·.2))[i]? = some (some (s, u)) := by rw [List.getElem?_map, hl, he]; rfl
      have hfind : findA (.s s) es' 0 = some none := by
        refine findA_none es' 0 fun f hf => ?_
        have hf2 := hperm.mem_iff.1 hf
        obtain ⟨g, hg1, hg2⟩ := List.mem_map.1 hf2
        obtain ⟨j, hj1, hj2⟩ := entsD_sub _ _ _ g hg1
        simp only [Nat.zero_add] at hj2
        refine ⟨g.1, by rw [← hg2], ?_⟩
        exact nodup_two hnd j i g (s, u) hj1 hel (by rintro rfl; rw [hi] at hj2; cases hj2)
      refine step hst.rel (τ' := (σ.new (.map es')).put σ.next (.map (es' ++ [(.s s, u)]))) ?_ fun η' A' w' hst2 htr2 => hK' η' A' w' ⟨hcl2, htr2, fun h0 => ?_, fun _ => ⟨es' ++ [(.s s, u)], ?_, ?_⟩⟩
      · have hfit : fitKey P kt (.s s) = true := by unfold fitKey; rw [hu2]
        have hup : aMapUpdate P ty (.mp σ.next) (.s s) u (σ.new (.map es')) = some ((σ.new (.map es')).put σ.next (.map (es' ++ [(.s s, u)]))) := by
          unfold aMapUpdate
          rw [hu1]
          simp only [getnew]
          rw [if_pos ⟨hlock, hfit⟩, hfind]
        have h22 : ∀ ev, fOp P call o ev (σ.new (.map es')) = fOp22 P call ev (σ.new (.map es')) ty m k x := fun ev => by unfold fOp; rw [hop]; rfl
        rw [hv, ← fOp_eq, h22]
        unfold fOp22
        rw [e1, e2, e3]
        simp only [hup, orT, retS, Option.map_some]
      · exfalso
        unfold addD at h0
        rw [hD0] at h0
        simp at h0
      · have hp2 := entsD_add (l.map (·.2)) 0 i D (s, u) hel (by simpa using hi)
        simp only [Nat.zero_add] at hp2
        refine List.Perm.trans ?_ (hp2.map fun e => (AV.s e.1, e.2)).symm
        rw [List.map_cons]
        exact (List.perm_append_singleton _ _).trans (hperm.cons _)
      · refine (hst.trans hst2).sub (fun id' x' hx' => putnew _ _ _ _ hx') ?_ rfl
        exact Nat.le_refl _
    · -- any other
      cases hD0 : D 0 with
      | false =>
        have hst := hst0 hD0
        refine step hst.rel (τ' := σ) (by rw [← fOp_eq]; exact hfr σ) fun η' A' w' hst2 htr2 => hK' η' A' w' ⟨hcl2, htr2, fun _ => hst.trans hst2, fun h0 => ?_⟩
        exfalso
        unfold addD at h0
        rw [hD0, natBeq (fun e' => hi0 e'.symm)] at h0
        cases h0
      | true =>
        obtain ⟨es', hperm, hst⟩ := hst1 hD0
        refine step hst.rel (τ' := σ.new (.map es')) (by rw [← fOp_eq]; exact hfr _) fun η' A' w' hst2 htr2 => hK' η' A' w' ⟨hcl2, htr2, fun h0 => ?_, fun _ => ⟨es', by rw [other he hi0]; exact hperm, hst.trans hst2⟩⟩
        exfalso
        unfold addD at h0
        rw [hD0] at h0
        simp at h0
  · intro η1 A1 w1 hinv
    obtain ⟨hcl, htr, _, hst1⟩ := hinv
    obtain ⟨es', hperm, hst⟩ := hst1 (by simpa using hpos.1)
    rw [entsD_all _ _ _ (fun j hj => by simp at hj ⊢; omega)] at hperm
    rw [hslots] at htr
    refine hK η1 A1 w1 ((St.drew h).trans ?_) htr
    obtain ⟨q, hq, hor⟩ := hst.rel.obj σ.next _ (getnew _) rfl
    have := hst.weak (o' := .pmap ((l.map (·.2)).filterMap id)) (getnew _) rfl (.inl ⟨q, hq, pmap_of hnd hperm hor⟩)
    exact this.sub (fun id' x' hx' => putnew _ _ _ _ hx') (Nat.le_refl _) rfl
  · rw [hempty]
    refine ⟨fun i o hi => by simp at hi, ?_, fun _ => St.refl h.drew, fun h0 => by simp at h0⟩
    rw [hno]
    exact ⟨ht.gn, ht.size, ht.none, ht.slot⟩

theorem draw_ok (hm : P.follows .mixedOrders = true) : DrawOk P (aDraw P) := by
  intro call hcall ops a σ a' σ' hs
  unfold aDraw at hs
  split at hs
  · next r hr => cases hs; exact lit_ok hm call hcall ops a σ a' σ' hr
  · exact draw0_ok hm call hcall ops a σ a' σ' hs

end
end Go.Abs
