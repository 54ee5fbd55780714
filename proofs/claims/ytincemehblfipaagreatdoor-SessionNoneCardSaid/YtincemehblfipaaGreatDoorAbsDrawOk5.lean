/- Regions whose order Go leaves open: each kind of operation; the region. -/
import Derived.Test.YtincemehblfipaaGreatDoorAbsDrawOk4
namespace Go.Abs
noncomputable section
variable [TabsOf]
set_option linter.unusedSectionVars false
set_option linter.unusedVariables false
set_option linter.unusedSimpArgs false
variable {P : Program}

section
variable {call : Caller} {ops : Array Oper} {M : List Nat} {rs : List DRec} {a0 : AAct} {σ0 : ASt} {cf : Nat} {η0 η : Env} {w0 w : World} {D : Nat → Bool} {A : Act} {i : Nat} {o : Oper} {r : DRec}

theorem lookU_map {l : List Nat} {f : Nat → Option AObj} {b : Nat} {x : Option AObj} (h : lookU (l.map fun k => (k, f k)) b = some x) : b ∈ l ∧ x = f b := by
  induction l with
  | nil => simp [lookU] at h
  | cons k l ih =>
    simp only [List.map_cons, lookU] at h
    split at h
    · next y hy => cases h; have := ih hy; exact ⟨by simp [this.1], this.2⟩
    · split at h
      · next e => cases h; subst e; exact ⟨by simp, rfl⟩
      · cases h

theorem keys_map (l : List Nat) (f : Nat → Option AObj) : keysOf (l.map fun k => (k, f k)) = l := by
  simp [keysOf, List.map_map, Function.comp_def]

theorem lookU_fresh {τ : ASt} : ∀ {n c b : Nat} {x : Option AObj}, lookU (freshU τ c n) b = some x → c ≤ b ∧ b < c + n ∧ ∀ o, x = some o → τ.get b = some o ∧ o.own = true
  | 0, c, b, x, h => by simp [freshU, lookU] at h
  | n + 1, c, b, x, h => by
    simp only [freshU, lookU] at h
    split at h
    · next y hy =>
      cases h
      obtain ⟨h1, h2, h3⟩ := lookU_fresh hy
      exact ⟨by omega, by omega, h3⟩
    · split at h
      · next e =>
        subst e
        simp only [Option.some.injEq] at h
        refine ⟨Nat.le_refl _, by omega, fun o ho => ?_⟩
        rw [ho] at h
        split at h
        · next o' ho' =>
          split at h
          · next hown => cases h; exact ⟨ho', hown⟩
          · cases h
        · cases h
      · cases h

theorem lookU_append {l m : List (Nat × Option AObj)} {b : Nat} : lookU (l ++ m) b = match lookU m b with | some x => some x | none => lookU l b := by
  induction l with
  | nil => simp only [List.nil_append]; cases lookU m b <;> rfl
  | cons p l ih =>
    obtain ⟨k, v⟩ := p
    simp only [List.cons_append, lookU, ih]
    cases lookU m b <;> rfl

theorem ownKeys_mem {h : Tr AObj} {lock : Nat} {l : List Nat} {k : Nat} : k ∈ ownKeys h lock l ↔ k ∈ l ∧ lock ≤ k ∧ ∃ ob, h.get k = some ob ∧ ob.own = true := by
  unfold ownKeys
  rw [List.mem_filter, Bool.and_eq_true]
  constructor
  · rintro ⟨h1, h2, h3⟩
    refine ⟨h1, Nat.le_of_ble_eq_true h2, ?_⟩
    split at h3
    · next ob hob => exact ⟨ob, hob, h3⟩
    · cases h3
  · rintro ⟨h1, h2, ob, h3, h4⟩
    exact ⟨h1, Nat.ble_eq_true_of_le h2, by rw [h3]; exact h4⟩

theorem SR.cutAt {η : Env} {σ τ : ASt} {w : World} {c : Nat} (h : SR P η σ w) (hg : P.globals.size < c) (hsub : ∀ id o, τ.get id = some o → σ.get id = some o) (hc : ∀ id o, τ.get id = some o → id < c ∧ belowObj c o = true) (hn : c ≤ τ.next) : SR P (η.cut c) τ w := by
  have hcut : ∀ id q, id < c → η id = some q → η.cut c id = some q := fun id q h1 h2 => by simp only [Env.cut]; rw [if_pos h1]; exact h2
  refine ⟨fun g hgg => ?_, fun id q hq => ?_, fun id o ho => ?_, fun id o id' o' q q' a1 a2 a3 a4 a5 a6 => ?_, h.roAt, fun id o q a1 a2 a3 => h.roSep id o q (hsub _ _ a1) a2 ((Env.cut_le _ _).pl _ _ a3), h.tabs⟩
  · obtain ⟨sz, es, h1⟩ := h.glob g hgg; exact ⟨sz, es, hcut _ _ (by omega) h1⟩
  · simp only [Env.cut] at hq
    split at hq
    · omega
    · cases hq
  · obtain ⟨q, hq, hr⟩ := h.obj id o (hsub _ _ ho)
    exact ⟨q, hcut _ _ (hc id o ho).1 hq, hr.cut (hc id o ho).2⟩
  · exact h.sep id o id' o' q q' (hsub _ _ a1) a2 (hsub _ _ a3) a4 ((Env.cut_le _ _).pl _ _ a5) ((Env.cut_le _ _).pl _ _ a6)

theorem Env.cut_all {η : Env} {c : Nat} (h : ∀ id q, η id = some q → id < c) : η.cut c = η := by
  unfold Env.cut
  have : (fun id => if id < c then η id else none) = η.pl := by
    funext id
    split
    · rfl
    · next hn =>
      cases he : η id with
      | none => rfl
      | some q => exact absurd (h id q he) hn
  rw [this]

theorem SR.part {η : Env} {σ τ : ASt} {w : World} (h : SR P η σ w) (hsub : ∀ id o, τ.get id = some o → σ.get id = some o) (hn : ∀ id q, η id = some q → id < τ.next) : SR P η τ w :=
  ⟨h.glob, hn, fun id o ho => h.obj id o (hsub id o ho), fun id o id' o' q q' a1 a2 a3 a4 a5 a6 => h.sep id o id' o' q q' (hsub _ _ a1) a2 (hsub _ _ a3) a4 a5 a6, h.roAt, fun id o q a1 a2 a3 => h.roSep id o q (hsub _ _ a1) a2 a3, h.tabs⟩

theorem belowKeys_at {c : Nat} {h : Tr AObj} : ∀ {l : List Nat}, belowKeys c h l = true → ∀ k ∈ l, k < c ∧ ∀ o, h.get k = some o → belowObj c o = true
  | [], _, k, hk => by simp at hk
  | x :: l, hb, k, hk => by
    simp only [belowKeys, Bool.and_eq_true] at hb
    simp only [List.mem_cons] at hk
    rcases hk with rfl | hk
    · refine ⟨by have := hb.1.1; rwa [Nat.blt_eq] at this, fun o ho => ?_⟩
      have := hb.1.2; rw [ho] at this; exact this
    · exact belowKeys_at hb.2 k hk

theorem belowTr_at {c : Nat} {t : Tr AV} : ∀ {l : List Nat}, belowTr c t l = true → ∀ k ∈ l, ∀ v, t.get k = some v → v.under c = true
  | [], _, k, hk => by simp at hk
  | x :: l, hb, k, hk => by
    simp only [belowTr, Bool.and_eq_true] at hb
    simp only [List.mem_cons] at hk
    rcases hk with rfl | hk
    · intro v hv; have := hb.1; rw [hv] at this; exact this
    · exact belowTr_at hb.2 k hk

theorem prevKeys_at {M : List Nat} {i : Nat} : ∀ {rs : List DRec} {k : Nat} {b : Nat}, b ∉ prevKeys M i rs k → ∀ (j : Nat) r, rs[j]? = some r → unord M i (k + j) = true → b ∉ keysOf r.upd
  | [], k, b, _, j, r, hj, _ => by simp at hj
  | s :: rs, k, b, hb, j, r, hj, hu => by
    unfold prevKeys at hb
    cases j with
    | zero =>
      simp at hj; subst hj
      rw [Nat.add_zero] at hu
      rw [if_pos hu] at hb
      simp only [List.mem_append, not_or] at hb
      exact hb.1
    | succ j =>
      have hb' : b ∉ prevKeys M i rs (k + 1) := by
        split at hb
        · simp only [List.mem_append, not_or] at hb; exact hb.2
        · exact hb
      exact prevKeys_at hb' j r (by simpa using hj) (by rw [show k + 1 + j = k + (j + 1) by omega]; exact hu)

theorem locKeys_at {M : List Nat} {i : Nat} : ∀ {rs : List DRec} {k : Nat} {b : Nat} (j : Nat) (r : DRec), rs[j]? = some r → unord M i (k + j) = false → b ∈ keysOf r.upd → b ∈ locKeys M i rs k
  | [], k, b, j, r, hj, _, _ => by simp at hj
  | s :: rs, k, b, j, r, hj, hu, hb => by
    unfold locKeys
    cases j with
    | zero =>
      simp at hj; subst hj
      rw [Nat.add_zero] at hu
      rw [if_neg (by rw [hu]; simp)]
      simp [hb]
    | succ j =>
      have := locKeys_at (k := k + 1) j r (by simpa using hj) (by rw [show k + 1 + j = k + (j + 1) by omega]; exact hu) hb
      split
      · exact this
      · simp [this]

theorem Ctx.bound (C : Ctx P call ops M rs a0 σ0 cf) (hinv : DInv P ops rs a0 σ0 cf η0 w0 D η w A) (id : Nat) (q : Place) (h : η id = some q) : id < cf := hinv.st.rel.dom id q h

/-- The intervals of new numbers lie apart. -/
theorem Ctx.apart (C : Ctx P call ops M rs a0 σ0 cf) (hinv : DInv P ops rs a0 σ0 cf η0 w0 D η w A) (hr : rs[i]? = some r) (hi : D i = false) {id : Nat} {q : Place} (h : η id = some q) : ¬ (r.base ≤ id ∧ id < r.next) := by
  rintro ⟨h1, h2⟩
  have hlo := C.lo hr
  rcases hinv.dm id q h with h3 | ⟨k, h3, h4, h5⟩ | ⟨j, s, h3, h4, h5, h6⟩
  · omega
  · omega
  · by_cases hij : i = j
    · subst hij; rw [hi] at h4; cases h4
    · rcases Nat.lt_or_gt_of_ne hij with hlt | hlt
      · have := C.lt hr h3 hlt; omega
      · have := C.lt h3 hr hlt; omega

theorem Ctx.step (C : Ctx P call ops M rs a0 σ0 cf) (hcall : CallOk P call) (hS0 : SR P η0 σ0 w0) (hinv : DInv P ops rs a0 σ0 cf η0 w0 D η w A) (hil : i < ops.size) (hi : D i = false)
    (hdeps0 : ∀ o, ops[i]? = some o → ∀ e ∈ o.after.toList, Region.binds .any e = true → D e.on = true) (hnl : lastAll M ops.size i = false) {K : Act → World → Prop} {Q : Exit → Act → World → Prop}
    (hK : ∀ η' A' w', DInv P ops rs a0 σ0 cf η0 w0 (addD D i) η' w' A' → K A' w') : wpOp P ops Q i K A w := by
  obtain ⟨o, ho⟩ : ∃ o, ops[i]? = some o := ⟨ops[i], by simp [hil]⟩
  obtain ⟨r, hr⟩ : ∃ r, rs[i]? = some r := ⟨_, List.getElem?_eq_getElem (by rw [C.len]; exact hil)⟩
  have hdeps := hdeps0 o ho
  have hone := C.one i r hr
  have hact := C.act hinv ho hr hi hdeps
  have hbase := C.base hr
  have hlo := C.lo hr
  have hhi := C.hi hr
  have hN0 : P.globals.size < σ0.next := by
    obtain ⟨sz, es, h1⟩ := hS0.glob P.globals.size (Nat.le_refl _)
    exact hS0.dom _ _ h1
  have hbn := (C.slot i r hr).1
  have hlock := C.lock
  have hbig := C.big
  have hbnd := C.bound hinv
  unfold dOne at hone
  rw [hnl] at hone
  simp only [Bool.false_eq_true, if_false] at hone
  unfold dOne0 at hone
  rw [ho] at hone
  simp only at hone
  unfold wpOp
  rw [ho]
  simp only
  -- how much of the blocks the text's order and this one share
  split at hone
  · cases hone
  · -- the guard says no
    next hw =>
    rw [wanted_ok hact hw]
    simp only [Bool.false_eq_true, if_false]
    cases hone
    refine hK η _ w ⟨?_, ?_, ?_, ?_⟩
    · intro k o' hk ho' e he hb
      unfold addD at hk ⊢
      simp only [Bool.or_eq_true] at hk ⊢
      rcases hk with hk | hk
      · exact .inl (hinv.closed k o' hk ho' e he hb)
      · have := Nat.eq_of_beq_eq_true hk; subst this
        rw [ho] at ho'; cases ho'
        exact .inl (hdeps0 _ ho e he hb)
    · have hg := C.get_upd (σ0 := σ0) hinv.closed ho hr hi hdeps
      refine hinv.st.sub ?_ (Nat.le_refl _) rfl
      intro id ob hob
      have : (foldD (updsL rs) 0 (addD D i) σ0.h).get id = some ob := hob
      rw [hg] at this
      exact this
    · exact hinv.tr.add (Env.le.refl _) (C.get_slot (a0 := a0) hinv.closed ho hr hi hdeps) (C.slot i _ hr).2 (by simp)
    · intro id q hq
      have hD' : ∀ k, D k = true → addD D i k = true := fun k hk => by unfold addD; rw [hk]; rfl
      rcases hinv.dm id q hq with h5 | ⟨k, h5, h6, h7⟩ | ⟨j, s, h5, h6, h7⟩
      · exact .inl h5
      · exact .inr (.inl ⟨k, h5, hD' k h6, h7⟩)
      · exact .inr (.inr ⟨j, s, h5, hD' j h6, h7⟩)
  · -- the guard says yes
    next hw =>
    rw [wanted_ok hact hw]
    simp only [if_true]
    left
    have rest : ∀ l : List Nat, r.vis = some l → ∀ id ob, (restrictT (applyAll ((updsL rs).take i) σ0.h) l).get id = some ob → (foldD (updsL rs) 0 D σ0.h).get id = some ob ∧ id ∈ l ∧ (applyAll ((updsL rs).take i) σ0.h).get id = some ob := by
      intro l hl id ob hob
      rw [get_restrictT] at hob
      split at hob
      · next hm => rw [← C.same_upd (σ0 := σ0) hinv.closed ho hr hi hdeps hl hm]; exact ⟨hob, hm, hob⟩
      · cases hob
    have cutAct : ∀ c, belowTr c (applyAll ((slotsL rs).take i) a0.t) (o.looksAt ops) = true → TR P (η.cut c) { t := restrictT (applyAll ((slotsL rs).take i) a0.t) (o.looksAt ops), n := a0.n, gn := a0.gn } A := by
      intro c hb
      refine ⟨hact.gn, hact.size, hact.none, fun d v hv => ?_⟩
      obtain ⟨x, hx, hvx⟩ := hact.slot d v hv
      refine ⟨x, hx, VR.cut v x ?_ hvx⟩
      rw [get_restrictT] at hv
      split at hv
      · next hd => exact belowTr_at hb d hd v hv
      · cases hv
    split at hone
    · -- a new variable
      next ty hty =>
      split at hone
      · next z hz =>
        cases hone
        have hop : aOp P call o (AAct.eval { t := .nil, n := a0.n, gn := a0.gn }) { h := .nil, next := σ0.next + i, lock := σ0.lock } = some (some (.p (σ0.next + i) 0), ({ h := .nil, next := σ0.next + i, lock := σ0.lock } : ASt).new (.cells z ty true false)) := by
          unfold aOp; rw [hty]; simp only [hz, Option.map_some]
        have hS' : SR P (η.cut σ0.next) { h := .nil, next := σ0.next + i, lock := σ0.lock } w := hinv.st.rel.cutAt hN0 (fun id ob h => by simp [ASt.get] at h) (fun id ob h => by simp [ASt.get] at h) (by simp)
        refine C.gen hcall hinv ho hr hil hi hdeps hS' (a := { t := .nil, n := a0.n, gn := a0.gn }) ⟨hact.gn, hact.size, hact.none, fun d v hv => by simp at hv⟩ (Env.cut_le _ _) rfl hop rfl (fun id ob h => by simp [ASt.get] at h) ?_ ?_ ?_ (Nat.le_refl _) ?_ ?_ hK
        · rintro id q hq ⟨h1, h2⟩
          have h1' : σ0.next + i ≤ id := h1
          have h2' : id < σ0.next + i + 1 := h2
          rcases hinv.dm id q hq with h3 | ⟨k, h3, h4, h5⟩ | ⟨j, s, h3, h4, h5, h6⟩
          · omega
          · have : k = i := by omega
            subst this; rw [hi] at h4; cases h4
          · have := C.lo h3; omega
        · intro b ob hb
          simp only [lookU] at hb
          split at hb
          · next e =>
            cases hb; subst e
            refine ⟨?_, .inr ⟨rfl, Tr.get_nil _⟩⟩
            rw [ASt.get_new, if_pos rfl]
          · cases hb
        · intro id ob h; simp [ASt.get] at h
        · intro b hb
          have := (lookU_mem _ _).1 hb
          simp [keysOf] at this
          subst this
          show σ0.lock ≤ σ0.next + i
          omega
        · intro id h1 h2
          have h1' : σ0.next + i ≤ id := h1
          have h2' : id < σ0.next + i + 1 := h2
          have := C.cf_lo
          exact ⟨by omega, by omega, .inl (by omega)⟩
      · cases hone
    · split at hone
      · -- it makes no memory, and changes none
        next l hcls =>
        split at hone
        · next v τ' hop =>
          rw [fOp_eq] at hop
          split at hone
          · next hnx =>
            cases hone
            have hnx' := Nat.eq_of_beq_eq_true hnx
            have hS' : SR P η { h := restrictT (applyAll ((updsL rs).take i) σ0.h) l, next := bigId, lock := bigId } w := hinv.st.rel.part (fun id ob h => (rest l rfl id ob h).1) (fun id q hq => Nat.lt_of_lt_of_le (hbnd id q hq) hbig)
            refine C.gen hcall hinv ho hr hil hi hdeps hS' hact (Env.le.refl _) rfl hop rfl (fun id ob h => (rest l rfl id ob h).1) ?_ ?_ ?_ ?_ ?_ ?_ hK
            · rintro id q hq ⟨h1, h2⟩
              have h1' : bigId ≤ id := h1
              omega
            · intro b ob hb; simp [lookU] at hb
            · intro id ob h1 h2 h3
              have h3' : bigId ≤ id := h3
              obtain ⟨q, hq, _⟩ := hS'.obj id ob h1
              have := hbnd id q hq; omega
            · have := C.cf_lo; show σ0.lock ≤ bigId; omega
            · intro b hb; simp [lookU] at hb
            · intro id h1 h2
              have h1' : bigId ≤ id := h1
              omega
          · cases hone
        · cases hone
      · -- it makes no memory
        next l hcls =>
        split at hone
        · next v τ' hop =>
          rw [fOp_eq] at hop
          split at hone
          · next hnx =>
            cases hone
            have hnx' := Nat.eq_of_beq_eq_true hnx
            have hS' : SR P η { h := restrictT (applyAll ((updsL rs).take i) σ0.h) l, next := bigId, lock := σ0.lock } w := hinv.st.rel.part (fun id ob h => (rest l rfl id ob h).1) (fun id q hq => Nat.lt_of_lt_of_le (hbnd id q hq) hbig)
            refine C.gen hcall hinv ho hr hil hi hdeps hS' hact (Env.le.refl _) rfl hop rfl (fun id ob h => (rest l rfl id ob h).1) ?_ ?_ ?_ (Nat.le_refl _) ?_ ?_ hK
            · rintro id q hq ⟨h1, h2⟩
              have h1' : bigId ≤ id := h1
              omega
            · intro b ob hb
              obtain ⟨h1, h2⟩ := lookU_map hb
              obtain ⟨h3, h4, ob', h5, h6⟩ := ownKeys_mem.1 h1
              refine ⟨h2.symm, .inl ⟨ob', ?_, h6⟩⟩
              show (restrictT _ l).get b = _
              rw [get_restrictT, if_pos h3]; exact h5
            · intro id ob h1 h2 h3
              obtain ⟨_, h4, h5⟩ := rest l rfl id ob h1
              rw [lookU_mem, keys_map]
              exact ownKeys_mem.2 ⟨h4, h3, ob, h5, h2⟩
            · intro b hb
              rw [lookU_mem, keys_map] at hb
              exact (ownKeys_mem.1 hb).2.1
            · intro id h1 h2
              have h1' : bigId ≤ id := h1
              omega
          · cases hone
        · cases hone
      · -- it makes memory
        next l hcls =>
        split at hone
        · next hbel =>
          simp only [Bool.and_eq_true] at hbel
          split at hone
          · next v τ' hop =>
            rw [fOp_eq] at hop
            cases hone
            simp only at hlo hhi hbn
            have hS' : SR P (η.cut (cAt (σ0.next + ops.size) rs i)) { h := restrictT (applyAll ((updsL rs).take i) σ0.h) l, next := cAt (σ0.next + ops.size) rs i, lock := σ0.lock } w :=
              hinv.st.rel.cutAt (by omega) (fun id ob h => (rest l rfl id ob h).1) (fun id ob h => by
                obtain ⟨_, h1, h2⟩ := rest l rfl id ob h
                have := belowKeys_at hbel.2 id h1
                exact ⟨this.1, this.2 ob h2⟩) (Nat.le_refl _)
            refine C.gen hcall hinv ho hr hil hi hdeps hS' (cutAct _ hbel.1) (Env.cut_le _ _) rfl hop rfl (fun id ob h => (rest l rfl id ob h).1) ?_ ?_ ?_ (Nat.le_refl _) ?_ ?_ hK
            · rintro id q hq ⟨h1, h2⟩
              exact C.apart hinv hr hi hq ⟨h1, h2⟩
            · intro b ob hb
              rw [lookU_append] at hb
              split at hb
              · next x hx =>
                cases hb
                obtain ⟨h1, h2, h3⟩ := lookU_fresh hx
                obtain ⟨h4, h5⟩ := h3 ob rfl
                refine ⟨h4, .inr ⟨h5, ?_⟩⟩
                show (restrictT _ l).get b = none
                rw [get_restrictT]
                split
                · next hm => have := (belowKeys_at hbel.2 b hm).1; omega
                · rfl
              · obtain ⟨h1, h2⟩ := lookU_map hb
                obtain ⟨h3, h4, ob', h5, h6⟩ := ownKeys_mem.1 h1
                refine ⟨h2.symm, .inl ⟨ob', ?_, h6⟩⟩
                show (restrictT _ l).get b = _
                rw [get_restrictT, if_pos h3]; exact h5
            · intro id ob h1 h2 h3
              obtain ⟨_, h4, h5⟩ := rest l rfl id ob h1
              rw [lookU_mem]
              unfold keysOf
              rw [List.map_append, List.mem_append]
              left
              have := keys_map (ownKeys (applyAll ((updsL rs).take i) σ0.h) σ0.lock l) (fun k => τ'.get k)
              unfold keysOf at this
              rw [this]
              exact ownKeys_mem.2 ⟨h4, h3, ob, h5, h2⟩
            · intro b hb
              rw [lookU_append] at hb
              split at hb
              · next x hx =>
                obtain ⟨h1, _, _⟩ := lookU_fresh hx
                show σ0.lock ≤ b
                omega
              · rw [lookU_mem, keys_map] at hb
                exact (ownKeys_mem.1 hb).2.1
            · intro id h1 h2
              have h1' : cAt (σ0.next + ops.size) rs i ≤ id := h1
              exact ⟨by omega, by omega, .inr ⟨h1, h2⟩⟩
          · cases hone
        · cases hone
      · -- a call
        next hcls =>
        split at hone
        · next v τ' hop =>
          rw [fOp_eq] at hop
          cases hone
          simp only at hlo hhi hbn
          have hall : ∀ id q, η id = some q → id < cAt (σ0.next + ops.size) rs i := by
            intro id q hq
            rcases hinv.dm id q hq with h3 | ⟨k, h3, h4, h5⟩ | ⟨j, s, h3, h4, h5, h6⟩
            · omega
            · omega
            · have hij : i ≠ j := by rintro rfl; rw [hi] at h4; cases h4
              rcases Nat.lt_or_gt_of_ne hij with hlt | hlt
              · have hjl : j < ops.size := by have := (List.getElem?_eq_some_iff.1 h3).1; rw [C.len] at this; exact this
                have hun := C.open_ hinv.closed ho hi hdeps hjl (by rw [h4]; simp; omega)
                have hp := pair_parts ho (C.pairs i j _ s hr h3 hun)
                have := (hp.2.2.2.2.1 rfl hlt).2.2
                omega
              · have := C.lt h3 hr hlt
                simp only at this
                omega
          have hsub : ∀ id ob, (eraseT (applyAll ((updsL rs).take i) σ0.h) (prevKeys M i (rs.take i) 0)).get id = some ob → (foldD (updsL rs) 0 D σ0.h).get id = some ob := by
            intro id ob hob
            rw [get_eraseT] at hob
            split at hob
            · cases hob
            · next hnk =>
              rw [← hob, get_applyAll (updsL rs) i 0, get_foldD]
              congr 1
              refine (lastU_agree _ _ _ _ _ fun j u hj hne => ?_).symm
              obtain ⟨s, hs, rfl⟩ := updsL_of hj
              have hjl : j < ops.size := by have := (List.getElem?_eq_some_iff.1 hs).1; rw [C.len] at this; exact this
              simp only [Nat.zero_add] at hne
              have hun := C.open_ hinv.closed ho hi hdeps hjl (fun e => hne e.symm)
              apply lookU_none
              by_cases hji : j < i
              · exact prevKeys_at hnk j s (by rw [List.getElem?_take, if_pos hji]; exact hs) (by rw [Nat.zero_add]; exact hun)
              · have hij : i < j := by
                  rcases Nat.lt_or_ge i j with h | h
                  · exact h
                  · have : i = j := by omega
                    subst this; rw [hi] at hne; simp at hne
                have hp := pair_parts ho (C.pairs i j _ s hr hs hun)
                obtain ⟨h1, h2, h3⟩ := hp.2.2.2.2.1 rfl hij
                intro hmem
                have hge := h1 id hmem
                -- a block of the region's own
                rw [get_applyAll (updsL rs) i 0] at hob
                cases hl : lastU (updsL rs) 0 (fun j => decide (j < 0 + i)) id with
                | none =>
                  rw [hl] at hob
                  obtain ⟨q, hq, _⟩ := hS0.obj id ob hob
                  have := hS0.dom id q hq
                  omega
                | some x =>
                  obtain ⟨j', u', h4, h5, h6⟩ := lastU_some _ _ _ _ _ hl
                  obtain ⟨s', hs', rfl⟩ := updsL_of h4
                  simp only [Nat.zero_add, decide_eq_true_eq] at h5
                  have hk : id ∈ keysOf s'.upd := (lookU_mem _ _).1 (by rw [h6]; simp)
                  have htk : (rs.take i)[j']? = some s' := by rw [List.getElem?_take, if_pos h5]; exact hs'
                  have hnu : unord M i (0 + j') = false := by
                    cases hu : unord M i (0 + j') with
                    | false => rfl
                    | true => exact absurd hk (prevKeys_at hnk j' s' htk hu)
                  have := locKeys_at j' s' htk hnu hk
                  exact disj_not h2 this hmem
          have hS' : SR P η { h := eraseT (applyAll ((updsL rs).take i) σ0.h) (prevKeys M i (rs.take i) 0), next := cAt (σ0.next + ops.size) rs i, lock := cAt (σ0.next + ops.size) rs i } w := hinv.st.rel.part hsub hall
          refine C.gen hcall hinv ho hr hil hi hdeps hS' hact (Env.le.refl _) rfl hop rfl hsub ?_ ?_ ?_ ?_ ?_ ?_ hK
          · rintro id q hq ⟨h1, h2⟩
            exact C.apart hinv hr hi hq ⟨h1, h2⟩
          · intro b ob hb
            obtain ⟨h1, h2, h3⟩ := lookU_fresh hb
            obtain ⟨h4, h5⟩ := h3 ob rfl
            refine ⟨h4, .inr ⟨h5, ?_⟩⟩
            cases hg : ASt.get { h := eraseT (applyAll ((updsL rs).take i) σ0.h) (prevKeys M i (rs.take i) 0), next := cAt (σ0.next + ops.size) rs i, lock := cAt (σ0.next + ops.size) rs i } b with
            | none => rfl
            | some ob' =>
              obtain ⟨q, hq, _⟩ := hS'.obj b ob' hg
              have := hall b q hq
              omega
          · intro id ob h1 h2 h3
            have h3' : cAt (σ0.next + ops.size) rs i ≤ id := h3
            obtain ⟨q, hq, _⟩ := hS'.obj id ob h1
            have := hall id q hq
            omega
          · show σ0.lock ≤ cAt (σ0.next + ops.size) rs i
            omega
          · intro b hb
            cases hx : lookU (freshU τ' (cAt (σ0.next + ops.size) rs i) (τ'.next - cAt (σ0.next + ops.size) rs i)) b with
            | none => exact absurd hx hb
            | some x => exact (lookU_fresh hx).1
          · intro id h1 h2
            have h1' : cAt (σ0.next + ops.size) rs i ≤ id := h1
            exact ⟨by omega, by omega, .inr ⟨h1, h2⟩⟩
        · cases hone

end
end
end Go.Abs
