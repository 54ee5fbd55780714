/- Regions whose order Go leaves open: one operation, from a part of what is known. -/
import Derived.Test.YtincemehblfipaaGreatDoorAbsDrawOk
namespace Go.Abs
noncomputable section
variable [TabsOf]
set_option linter.unusedSectionVars false
set_option linter.unusedVariables false
set_option linter.unusedSimpArgs false
variable {P : Program}

/-- An operation of any kind, from its evaluation. -/
theorem aOp_wp {η : Env} {τ τ' : ASt} {w : World} (h : SR P η τ w) {call : Caller} (hcall : CallOk P call) {o : Oper} {a : AAct} {A : Act} (ht : TR P η a A) {r : Option AV} {K : Act → World → Prop} {Q : Exit → Act → World → Prop}
    (hs : aOp P call o a.eval τ = some (r, τ')) (hK : ∀ x η' w', St P η τ w η' τ' w' → (∀ v, r = some v → VR η' v x) → K (A.put o.dst x) w') : o.wp P A w K Q := by
  cases hc : isCall o.op with
  | true =>
    refine call_step h hcall ht hc hs fun v x η' w' hr hst hv => hK x η' w' hst fun u hu => by rw [hr] at hu; cases hu; exact hv
  | false =>
    obtain ⟨nx, w', η', hrun, hst, hres⟩ := op_ok h (fun x v hv => eval_ok h ht x v hv) hc hs
    unfold Oper.wp
    rw [hrun]
    cases r with
    | none => subst hres; exact hK undef η' w' hst (by simp)
    | some v =>
      obtain ⟨x, rfl, hv⟩ := hres
      exact hK x η' w' hst (fun u hu => by cases hu; exact hv)

def Env.cut (η : Env) (c : Nat) : Env := ⟨fun id => if id < c then η id else none, η.ro⟩

theorem Env.cut_le (η : Env) (c : Nat) : (η.cut c).le η := ⟨fun id q h => (by
  simp only [Env.cut] at h; split at h
  · exact h
  · cases h), fun _ _ h => h⟩

mutual
theorem VR.cut {η : Env} {c : Nat} : ∀ (a : AV) (v : Value), a.under c = true → VR η a v → VR (η.cut c) a v
  | .b _, _, _, hv => by simpa only [VR] using hv
  | .i _ _, _, _, hv => by simpa only [VR] using hv
  | .s _, _, _, hv => by simpa only [VR] using hv
  | .nilp, _, _, hv => by simpa only [VR] using hv
  | .p id _, _, hu, hv => by
    simp only [VR] at hv ⊢; obtain ⟨q, hq, e⟩ := hv
    simp only [AV.under, Nat.blt_eq] at hu
    exact ⟨q, by simp only [Env.cut]; rw [if_pos hu]; exact hq, e⟩
  | .nils, _, _, hv => by simpa only [VR] using hv
  | .sl id _ _ _, _, hu, hv => by
    simp only [VR] at hv ⊢; obtain ⟨q, hq, e⟩ := hv
    simp only [AV.under, Nat.blt_eq] at hu
    exact ⟨q, by simp only [Env.cut]; rw [if_pos hu]; exact hq, e⟩
  | .nilm, _, _, hv => by simpa only [VR] using hv
  | .mp id, _, hu, hv => by
    simp only [VR] at hv ⊢; obtain ⟨q, hq, e⟩ := hv
    simp only [AV.under, Nat.blt_eq] at hu
    exact ⟨q, by simp only [Env.cut]; rw [if_pos hu]; exact hq, e⟩
  | .nilf, _, _, hv => by simpa only [VR] using hv
  | .fn _ fi cs, _, hu, hv => by
    simp only [VR] at hv ⊢
    simp only [AV.under, Bool.and_eq_true] at hu
    obtain ⟨us, vs, e, h1, h2⟩ := hv
    exact ⟨us, vs, e, VRs.cut fi us hu.1 h1, VRs.cut cs vs hu.2 h2⟩
  | .nili, _, _, hv => by simpa only [VR] using hv
  | .ifc _ a, _, hu, hv => by simp only [VR] at hv ⊢; simp only [AV.under] at hu; obtain ⟨x, e, h1⟩ := hv; exact ⟨x, e, VR.cut a x hu h1⟩
  | .agg l, _, hu, hv => by simp only [VR] at hv ⊢; simp only [AV.under] at hu; obtain ⟨x, e, h1⟩ := hv; exact ⟨x, e, VRs.cut l x hu h1⟩
  | .tup l, _, hu, hv => by simp only [VR] at hv ⊢; simp only [AV.under] at hu; obtain ⟨x, e, h1⟩ := hv; exact ⟨x, e, VRs.cut l x hu h1⟩
  | .z _ _ _, _, _, hv => by simpa only [VR] using hv
  | .ro l, _, hu, hv => by
    simp only [VR] at hv ⊢
    simp only [AV.under] at hu
    rcases hv with hv | ⟨bl, off, cp, xs, sz, e, hc, h1, h2, h3⟩
    · exact .inl hv
    right
    exact ⟨bl, off, cp, xs, sz, e, hc, VRs.cut l xs hu h1, h2, h3⟩
  | .rp a _, _, hu, hv => by
    simp only [VR] at hv ⊢
    simp only [AV.under] at hu
    obtain ⟨bl, base, cs, elem, fr, x, h1, h2, h3⟩ := hv
    exact ⟨bl, base, cs, elem, fr, x, h1, VR.cut a x hu h2, h3⟩
theorem VRs.cut {η : Env} {c : Nat} : ∀ (l : List AV) (vs : List Value), AV.unders c l = true → VRs η l vs → VRs (η.cut c) l vs
  | [], _, _, hv => by simpa only [VRs] using hv
  | a :: l, _, hu, hv => by
    simp only [VRs] at hv ⊢
    simp only [AV.unders, Bool.and_eq_true] at hu
    obtain ⟨x, xs, e, h1, h2⟩ := hv
    exact ⟨x, xs, e, VR.cut a x hu.1 h1, VRs.cut l xs hu.2 h2⟩
end

theorem unders_at {c : Nat} : ∀ {l : List AV} {k : Nat} {a : AV}, AV.unders c l = true → l[k]? = some a → a.under c = true
  | [], k, a, _, h => by simp at h
  | x :: l, k, a, hu, h => by
    simp only [AV.unders, Bool.and_eq_true] at hu
    cases k with
    | zero => simp at h; subst h; exact hu.1
    | succ k => exact unders_at hu.2 (by simpa using h)

theorem OR.cut {η : Env} {c : Nat} {q : Place} {w : World} {o : AObj} (hu : belowObj c o = true) (h : OR P η q w o) : OR P (η.cut c) q w o := by
  cases o with
  | cells l et rw opn =>
    obtain ⟨cs, elem, fr, h1, r⟩ := h
    exact ⟨cs, elem, fr, h1, { r with cell := fun k a hk => by obtain ⟨x, hx, hv⟩ := r.cell k a hk; exact ⟨x, hx, VR.cut a x (unders_at hu hk) hv⟩ }⟩
  | iter s pos => exact h
  | map es =>
    obtain ⟨ms, clock, h1, h2, h3⟩ := h
    refine ⟨ms, clock, h1, h2, fun k e hk => ?_⟩
    obtain ⟨m, hm, ha, hb⟩ := h3 k e hk
    simp only [belowObj, List.all_eq_true, Bool.and_eq_true] at hu
    have := hu e (List.mem_of_getElem? hk)
    exact ⟨m, hm, VR.cut _ _ this.1 ha, VR.cut _ _ this.2 hb⟩
  | iterM m =>
    cases m with
    | none => exact h
    | some m =>
      obtain ⟨h0, since, last, q', h1, h2⟩ := h
      simp only [belowObj, Nat.blt_eq] at hu
      exact ⟨h0, since, last, q', by simp only [Env.cut]; rw [if_pos hu]; exact h1, h2⟩

/-- What a part of the state leads to, laid into the whole. -/
theorem St.merge {η ηi ηi' η' : Env} {σ σ' τ τ' : ASt} {w w' : World} {upd : List (Nat × Option AObj)} (hS : SR P η σ w) (hSi : SR P ηi τ w) (hst : St P ηi τ w ηi' τ' w') (sub : ∀ id o, τ.get id = some o → σ.get id = some o) (hi : ηi.le η) (hro : ηi.ro = η.ro) (hro' : η'.ro = ηi'.ro)
    (h1 : η.le η') (h2 : ηi'.le η') (hg : ∀ b, σ'.get b = (lookU upd b).getD (σ.get b))
    (hu : ∀ b o, lookU upd b = some (some o) → τ'.get b = some o ∧ ((∃ o0, τ.get b = some o0 ∧ o0.own = true) ∨ (o.own = true ∧ τ.get b = none)))
    (unl : ∀ id o, τ.get id = some o → o.own = true → τ.lock ≤ id → lookU upd id ≠ none) (hlk : σ.lock ≤ τ.lock) (hul : ∀ b, lookU upd b ≠ none → τ.lock ≤ b)
    (hnx : ∀ id q, η' id = some q → id < σ'.next) :
    SR P η' σ' w' ∧ w.heap.size ≤ w'.heap.size ∧
    (∀ bl, bl < w.heap.size → (∀ id o q, σ.get id = some o → o.own = true → σ.lock ≤ id → η id = some q → q.bl ≠ bl) → w'.heap[bl]? = w.heap[bl]?) ∧
    (∀ id o q, σ'.get id = some o → o.own = true → σ.lock ≤ id → η' id = some q → w.heap.size ≤ q.bl ∨ ∃ id0 o0 q0, σ.get id0 = some o0 ∧ o0.own = true ∧ σ.lock ≤ id0 ∧ η id0 = some q0 ∧ q0.bl = q.bl) ∧
    (∀ b, η'.ro b ≠ none → η.ro b ≠ none ∨ w.heap.size ≤ b ∨ ∃ id0 o0 q0, σ.get id0 = some o0 ∧ o0.own = true ∧ σ.lock ≤ id0 ∧ η id0 = some q0 ∧ q0.bl = b) := by
  -- a block of the whole that is not written is as it was
  have stays : ∀ b o q, lookU upd b = none → σ.get b = some o → η b = some q → q.bl < w.heap.size → w'.heap[q.bl]? = w.heap[q.bl]? := by
    intro b o q hb ho hq hlt
    refine hst.keep _ hlt ?_
    intro id o2 q2 a1 a2 a3 a4
    have hne : id ≠ b := fun e => unl id o2 a1 a2 a3 (by rw [e]; exact hb)
    exact hS.sep id o2 b o q2 q (sub _ _ a1) a2 ho hne (hi.pl _ _ a4) hq
  have place : ∀ b o, lookU upd b = some (some o) → ∃ q, η' b = some q ∧ OR P η' q w' o ∧ ηi' b = some q := by
    intro b o hb
    obtain ⟨q, hq, hr⟩ := hst.rel.obj b o (hu b o hb).1
    exact ⟨q, h2.pl _ _ hq, hr.mono h2, hq⟩
  -- where a written block lies
  have where_ : ∀ b o q, lookU upd b = some (some o) → ηi' b = some q → (w.heap.size ≤ q.bl) ∨ (∃ id0 o0 q0, τ.get id0 = some o0 ∧ o0.own = true ∧ τ.lock ≤ id0 ∧ ηi id0 = some q0 ∧ q0.bl = q.bl) := by
    intro b o q hb hq
    obtain ⟨h4, h5⟩ := hu b o hb
    rcases h5 with ⟨o0, h6, h7⟩ | ⟨h6, h7⟩
    · obtain ⟨q0, hq0, _⟩ := hst.rel.obj b o h4
      rw [hq] at hq0; cases hq0
      obtain ⟨p', hp', _⟩ := hSi.obj b o0 h6
      have := hst.ext.pl _ _ hp'
      rw [hq] at this; cases this
      exact .inr ⟨b, o0, q, h6, h7, hul b (by rw [hb]; simp), hp', rfl⟩
    · rcases hst.own b o q h4 h6 (hul b (by rw [hb]; simp)) hq with h8 | h8
      · exact .inl h8
      · exact .inr h8
  have cases_ : ∀ id o, σ'.get id = some o → (lookU upd id = some (some o)) ∨ (lookU upd id = none ∧ σ.get id = some o) := by
    intro id o ho
    rw [hg] at ho
    cases hl : lookU upd id with
    | none => rw [hl] at ho; exact .inr ⟨rfl, ho⟩
    | some x => rw [hl] at ho; simp only [Option.getD_some] at ho; subst ho; exact .inl rfl
  refine ⟨⟨?_, hnx, ?_, ?_, fun b o hb => hst.rel.roAt b o (by rw [← hro']; exact hb), ?_, fun p hp => (hS.tabs p hp).mono h1⟩, hst.size, ?_, ?_, ?_⟩
  · intro g hgg; obtain ⟨sz, es, h5⟩ := hS.glob g hgg; exact ⟨sz, es, h1.pl _ _ h5⟩
  · intro id o ho
    rcases cases_ id o ho with h4 | ⟨h4, h5⟩
    · obtain ⟨q, a, b, _⟩ := place id o h4; exact ⟨q, a, b⟩
    · obtain ⟨q, hq, hr⟩ := hS.obj id o h5
      exact ⟨q, h1.pl _ _ hq, (OR.heap (w := w) (stays id o q h4 h5 hq hr.lt) hr).mono h1⟩
  · intro id o id' o' q q' a1 a2 a3 a4 a5 a6
    rcases cases_ id o a1 with b1 | ⟨b1, b1'⟩ <;> rcases cases_ id' o' a3 with b2 | ⟨b2, b2'⟩
    · obtain ⟨p, c1, _, c2⟩ := place id o b1
      obtain ⟨p', c3, _, c4⟩ := place id' o' b2
      rw [a5] at c1; cases c1
      rw [a6] at c3; cases c3
      exact hst.rel.sep id o id' o' _ _ (hu _ _ b1).1 a2 (hu _ _ b2).1 a4 c2 c4
    · obtain ⟨p, c1, _, c2⟩ := place id o b1
      rw [a5] at c1; cases c1
      obtain ⟨p', d1, d2⟩ := hS.obj id' o' b2'
      have := h1.pl _ _ d1
      rw [a6] at this; cases this
      rcases where_ id o q b1 c2 with e | ⟨id0, o0, q0, e1, e2, e3, e4, e5⟩
      · have := d2.lt; omega
      · rw [← e5]
        exact hS.sep id0 o0 id' o' q0 q' (sub _ _ e1) e2 b2' (fun e => unl id0 o0 e1 e2 e3 (by rw [e]; exact b2)) (hi.pl _ _ e4) d1
    · obtain ⟨p', c3, _, c4⟩ := place id' o' b2
      rw [a6] at c3; cases c3
      obtain ⟨p, d1, d2⟩ := hS.obj id o b1'
      have := h1.pl _ _ d1
      rw [a5] at this; cases this
      rcases where_ id' o' q' b2 c4 with e | ⟨id0, o0, q0, e1, e2, e3, e4, e5⟩
      · have := d2.lt; omega
      · rw [← e5]
        exact hS.sep id o id0 o0 q q0 b1' a2 (sub _ _ e1) (fun e => unl id0 o0 e1 e2 e3 (by rw [← e]; exact b1)) d1 (hi.pl _ _ e4)
    · obtain ⟨p, d1, _⟩ := hS.obj id o b1'
      obtain ⟨p', d2, _⟩ := hS.obj id' o' b2'
      have e1 := h1.pl _ _ d1; have e2 := h1.pl _ _ d2
      rw [a5] at e1; cases e1
      rw [a6] at e2; cases e2
      exact hS.sep id o id' o' _ _ b1' a2 b2' a4 d1 d2
  · intro id o q a1 a2 a3
    rcases cases_ id o a1 with b1 | ⟨b1, b1'⟩
    · obtain ⟨p, c1, _, c2⟩ := place id o b1
      rw [a3] at c1; cases c1
      rw [hro']
      exact hst.rel.roSep id o q (hu _ _ b1).1 a2 c2
    · obtain ⟨p, d1, d2⟩ := hS.obj id o b1'
      have := h1.pl _ _ d1
      rw [a3] at this; cases this
      cases hr : η'.ro q.bl with
      | none => rfl
      | some o2 =>
        exfalso
        rcases hst.roNew q.bl (by rw [← hro', hr]; simp) with e | e | ⟨id0, o0, q0, e1, e2, e3, e4, e5⟩
        · rw [hro, hS.roSep id o q b1' a2 d1] at e; exact e rfl
        · have := d2.lt; omega
        · exact hS.sep id0 o0 id o q0 q (sub _ _ e1) e2 b1' (fun e => unl id0 o0 e1 e2 e3 (by rw [e]; exact b1)) (hi.pl _ _ e4) d1 e5
  · intro bl hbl hno
    exact hst.keep bl hbl fun id o q a1 a2 a3 a4 => hno id o q (sub _ _ a1) a2 (Nat.le_trans hlk a3) (hi.pl _ _ a4)
  · intro id o q a1 a2 a3 a4
    rcases cases_ id o a1 with b1 | ⟨b1, b1'⟩
    · obtain ⟨p, c1, _, c2⟩ := place id o b1
      rw [a4] at c1; cases c1
      rcases where_ id o q b1 c2 with e | ⟨id0, o0, q0, e1, e2, e3, e4, e5⟩
      · exact .inl e
      · exact .inr ⟨id0, o0, q0, sub _ _ e1, e2, Nat.le_trans hlk e3, hi.pl _ _ e4, e5⟩
    · obtain ⟨p, d1, _⟩ := hS.obj id o b1'
      have := h1.pl _ _ d1
      rw [a4] at this; cases this
      exact .inr ⟨id, o, q, b1', a2, a3, d1, rfl⟩
  · intro b hb
    rcases hst.roNew b (by rw [← hro']; exact hb) with e | e | ⟨id0, o0, q0, e1, e2, e3, e4, e5⟩
    · rw [hro] at e; exact .inl e
    · exact .inr (.inl e)
    · exact .inr (.inr ⟨id0, o0, q0, sub _ _ e1, e2, Nat.le_trans hlk e3, hi.pl _ _ e4, e5⟩)

/-- A step behind steps, all of it told from the beginning. -/
theorem St.then {η0 η η' : Env} {σ0 σ σ' : ASt} {w0 w w' : World} (h : St P η0 σ0 w0 η σ w) (hle : η.le η') (rel : SR P η' σ' w') (size : w.heap.size ≤ w'.heap.size)
    (keep : ∀ bl, bl < w.heap.size → (∀ id o q, σ.get id = some o → o.own = true → σ.lock ≤ id → η id = some q → q.bl ≠ bl) → w'.heap[bl]? = w.heap[bl]?)
    (own : ∀ id o q, σ'.get id = some o → o.own = true → σ.lock ≤ id → η' id = some q → w.heap.size ≤ q.bl ∨ ∃ id0 o0 q0, σ.get id0 = some o0 ∧ o0.own = true ∧ σ.lock ≤ id0 ∧ η id0 = some q0 ∧ q0.bl = q.bl)
    (os : w'.os = w.os) (tape : w'.tape = w.tape) (output : w'.output = w.output) (lock : σ'.lock = σ.lock) (next : σ.next ≤ σ'.next)
    (new : ∀ id q, η' id = some q → η id = some q ∨ (σ0.next ≤ id ∧ id < σ'.next))
    (roNew : ∀ b, η'.ro b ≠ none → η.ro b ≠ none ∨ w.heap.size ≤ b ∨ ∃ id0 o0 q0, σ.get id0 = some o0 ∧ o0.own = true ∧ σ.lock ≤ id0 ∧ η id0 = some q0 ∧ q0.bl = b) : St P η0 σ0 w0 η' σ' w' := by
  refine ⟨h.ext.trans hle, rel, Nat.le_trans h.size size, ?_, ?_, os.trans h.os, tape.trans h.tape, output.trans h.output, lock.trans h.lock, Nat.le_trans h.next next, ?_, ?_⟩
  · intro bl hbl hno
    rw [keep bl (Nat.lt_of_lt_of_le hbl h.size) ?_, h.keep bl hbl hno]
    intro id o q h1 h2 h3 h4
    rcases h.own id o q h1 h2 (h.lock ▸ h3) h4 with h5 | ⟨id0, o0, q0, a, b, c, d, e⟩
    · omega
    · rw [← e]; exact hno id0 o0 q0 a b c d
  · intro id o q h1 h2 h3 h4
    rcases own id o q h1 h2 (by rw [h.lock]; exact h3) h4 with h5 | ⟨id0, o0, q0, a, b, c, d, e⟩
    · exact .inl (Nat.le_trans h.size h5)
    · rcases h.own id0 o0 q0 a b (h.lock ▸ c) d with h6 | ⟨id1, o1, q1, a1, b1, c1, d1, e1⟩
      · left; omega
      · exact .inr ⟨id1, o1, q1, a1, b1, c1, d1, e1.trans e⟩
  · intro id q hq
    rcases new id q hq with h1 | h1
    · rcases h.new id q h1 with h3 | ⟨h3, h4⟩
      · exact .inl h3
      · exact .inr ⟨h3, Nat.lt_of_lt_of_le h4 next⟩
    · exact .inr h1
  · intro b hb
    rcases roNew b hb with h1 | h1 | ⟨id0, o0, q0, a1, b1, c1, d1, e1⟩
    · exact h.roNew b h1
    · exact .inr (.inl (Nat.le_trans h.size h1))
    · rcases h.own id0 o0 q0 a1 b1 (h.lock ▸ c1) d1 with h2 | ⟨id2, o2, q2, a2, b2, c2, d2, e2⟩
      · right; left; omega
      · exact .inr (.inr ⟨id2, o2, q2, a2, b2, c2, d2, e2.trans e1⟩)

end
end Go.Abs
