/- An operation; a call; a region. -/
import Derived.Test.YtincemehblfipaaGreatDoorAbsStep
namespace Go.Abs
noncomputable section
variable [TabsOf]
set_option linter.unusedSectionVars false
set_option linter.unusedVariables false
set_option linter.unusedSimpArgs false
variable {P : Program} {η : Env} {σ σ' : ASt} {w : World}

/-- A call by number: what the model does, whether the function has a body or stands in the model. -/
def CallN (P : Program) (f : FuncId) (args : Array Value) (w : World) (R : Value → World → Prop) : Prop :=
  (∃ v w', (callFunc f args).run P w = .ok (.value v) w' ∧ R v w') ∨
  ((callFunc f args).run P w = .ok (.enter f args) w ∧ Calls P f args w fun e w' => ∃ v, e = .returned v ∧ R v w')

def CallOk (P : Program) (call : Caller) : Prop := ∀ f args σ r σ', call f args σ = some (r, σ') → ∀ η w vs, SR P η σ w → VRs η args vs →
  CallN P f ⟨vs⟩ w fun v w' => ∃ η', St P η σ w η' σ' w' ∧ VR η' r v

def isCall : Op → Bool
  | .call { callee := .value _, .. } => true
  | .call { callee := .invoke _ _, .. } => true
  | _ => false

theorem makeFunc_ok {f : FuncId} {first caps : List AV} {us vs : List Value} (h1 : VRs η first us) (h2 : VRs η caps vs) : ∃ y, (Instr.makeFunc (.func f) ⟨us⟩ ⟨vs⟩).run P w = .ok y w ∧ VR η (.fn f first caps) y :=
  ⟨_, rfl, by simp only [VR]; exact ⟨us, vs, rfl, h1, h2⟩⟩

theorem optEval_ok {ev : Operand → Option AV} {ρ : Operand → Value} (hρ : ∀ x a, ev x = some a → VR η a (ρ x)) {o : Option Operand} {r : Option AV} (h : optEval ev o = some r) : OptVR η r (o.map ρ) := by
  cases o with
  | none => simp [optEval] at h; subst h; trivial
  | some x =>
    simp only [optEval, Option.map_eq_some_iff] at h
    obtain ⟨a, ha, rfl⟩ := h
    exact hρ _ _ ha

theorem mapToList {α β : Type} (a : Array α) (f : α → β) : a.map f = ⟨a.toList.map f⟩ := by
  apply Array.ext'; simp

set_option maxHeartbeats 1000000 in
theorem op_ok (h : SR P η σ w) {call : Caller} {o : Oper} {ev : Operand → Option AV} {ρ : Operand → Value} (hρ : ∀ x a, ev x = some a → VR η a (ρ x)) (hc : isCall o.op = false) {r : Option AV}
    (hs : aOp P call o ev σ = some (r, σ')) : OpRes P η σ w r σ' (execOp ρ o) := by
  unfold aOp at hs
  unfold execOp
  split at hs
  · next x he => rw [he]; obtain ⟨v, h1, rfl, rfl⟩ := retV_some hs; exact ⟨_, w, η, rfl, St.refl h, _, rfl, hρ _ _ h1⟩
  · next x he => rw [he]; obtain ⟨v, h1, rfl, rfl⟩ := retV_some hs; exact ⟨_, w, η, rfl, St.refl h, _, rfl, hρ _ _ h1⟩
  · next c a b he =>
    rw [he]
    split at hs
    · next t hcv =>
      obtain ⟨v, h1, rfl, rfl⟩ := retV_some hs
      refine ⟨.value (if t then ρ a else ρ b), w, η, ?_, St.refl h, _, rfl, ?_⟩
      · simp only [Sem.run_bind, asBool_ok (hρ _ _ hcv), Result.andThen_ok, Sem.run_pure]
      · cases t
        · exact hρ _ _ h1
        · exact hρ _ _ h1
    · cases hs
  · next t he =>
    rw [he]
    simp only [Option.map_eq_some_iff] at hs
    obtain ⟨z, hz, e⟩ := hs
    cases e
    exact opV (alloc_ok h hz)
  · next t x he =>
    rw [he]
    simp only [Option.map_eq_some_iff] at hs
    obtain ⟨z, hz, e⟩ := hs
    cases e
    exact opV (box_ok h (hρ _ _ hz))
  · next t parts he =>
    rw [he]
    split at hs
    · next ps hps =>
      obtain ⟨v, h1, rfl, rfl⟩ := retV_some hs
      exact opV (pureV h (build_ok h1 (by rw [mapToList]; exact evalParts_ok hρ hps)))
    · cases hs
  · next t len parts he =>
    rw [he]
    split at hs
    · next e size bytes z ps hi hps =>
      split at hs
      · cases hs
      · next hlen =>
        split at hs
        · next cs hf =>
          cases hs
          exact opV (buildSlice_ok h hi hlen hf (by rw [mapToList]; exact evalParts_ok hρ hps))
        · cases hs
    · cases hs
  · next t a he =>
    rw [he]
    split at hs
    · next av hav =>
      obtain ⟨v, h1, rfl, rfl⟩ := retV_some hs
      exact opV (pureV h (load_ok h h1 (hρ _ _ hav)))
    · cases hs
  · next t a x he =>
    rw [he]
    split at hs
    · next av xv hav hxv =>
      obtain ⟨h1, rfl⟩ := retS_some hs
      obtain ⟨w', h2, h3⟩ := store_ok h h1 (hρ _ _ hav) (hρ _ _ hxv)
      exact opU ⟨w', η, h2, h3⟩
    · cases hs
  · next x he =>
    rw [he]
    split at hs
    · next id off hxv =>
      obtain ⟨v, h1, rfl, rfl⟩ := retV_some hs
      cases h1
      have hv := hρ _ _ hxv
      simp only [VR] at hv
      obtain ⟨q, hq, hv⟩ := hv
      exact ⟨.value (ρ x), w, η, by simp only [hv]; rfl, St.refl h, _, rfl, hρ _ _ hxv⟩
    · next b off hxv =>
      obtain ⟨v, h1, rfl, rfl⟩ := retV_some hs
      cases h1
      have hv := hρ _ _ hxv
      simp only [VR] at hv
      obtain ⟨bl, base, cs, elem, fr, y, _, _, hv, _⟩ := hv
      exact ⟨.value (ρ x), w, η, by simp only [hv]; rfl, St.refl h, _, rfl, hρ _ _ hxv⟩
    · next f fs cs hxv =>
      obtain ⟨v, h1, rfl, rfl⟩ := retV_some hs
      cases h1
      have hv := hρ _ _ hxv
      simp only [VR] at hv
      obtain ⟨us, vs, hv, _⟩ := hv
      exact ⟨.value (ρ x), w, η, by simp only [hv]; rfl, St.refl h, _, rfl, hρ _ _ hxv⟩
    · cases hs
  · next op t x y _ he =>
    rw [he]
    split at hs
    · next a b ha hb =>
      obtain ⟨v, h1, rfl, rfl⟩ := retV_some hs
      exact opV (pureV h (bin_ok h h1 (hρ _ _ ha) (hρ _ _ hb)))
    · cases hs
  · next op t x he =>
    rw [he]
    split at hs
    · next a ha =>
      split at hs
      · next u hu =>
        obtain ⟨v, h1, rfl, rfl⟩ := retV_some hs
        simp only [Option.bind_eq_some_iff] at h1
        obtain ⟨z, hz, hvz⟩ := h1
        have hrun : (Op.unary op (ρ x)).run P w = .ok z w := by rw [scalar_VR hu (hρ _ _ ha)]; exact pureRun_run hz w
        exact opV (pureV h ⟨z, hrun, ofVal_VR _ _ _ hvz⟩)
      · cases hs
    · cases hs
  · next src dst x he =>
    rw [he]
    split at hs
    · next a ha =>
      obtain ⟨v, h1, rfl⟩ := retVS_some hs
      exact opV (convert_ok h h1 (hρ _ _ ha))
    · cases hs
  · next t x he =>
    rw [he]
    split at hs
    · next a ha hi =>
      obtain ⟨v, h1, rfl, rfl⟩ := retV_some hs
      cases h1
      exact opV (pureV h (makeIface_ok hi (hρ _ _ ha)))
    · cases hs
  · next f first caps he =>
    rw [he]
    split at hs
    · next fs cs hfs hcs =>
      obtain ⟨v, h1, rfl, rfl⟩ := retV_some hs
      cases h1
      simp only [mapToList]
      exact opV (pureV h (makeFunc_ok (evals_ok hρ hfs) (evals_ok hρ hcs)))
    · cases hs
  · next t r' he =>
    rw [he]
    split at hs
    · cases hs
      exact opV (makeMap_ok h (.inl rfl))
    · next x =>
      split at hs
      · next n kt et hn hu =>
        cases hs
        simp only [Option.bind_eq_some_iff] at hn
        obtain ⟨a, ha, hn⟩ := hn
        obtain ⟨k, hk⟩ := aInt_VR hn (hρ _ _ ha)
        exact opV (makeMap_ok h (.inr ⟨k, n, kt, et, by simp [hk], hu⟩))
      · cases hs
  · next t l c he =>
    rw [he]
    split at hs
    · next a b ha hb =>
      obtain ⟨v, h1, rfl⟩ := retVS_some hs
      exact opV (makeSlice_ok h h1 (hρ _ _ ha) (hρ _ _ hb))
    · cases hs
  · next t x lo hi he =>
    rw [he]
    split at hs
    · next a lo' hi' ha hlo hhi =>
      obtain ⟨v, h1, rfl, rfl⟩ := retV_some hs
      exact opV (pureV h (slice_ok h h1 (hρ _ _ ha) (optEval_ok hρ hlo) (optEval_ok hρ hhi)))
    · cases hs
  · next t x f he =>
    rw [he]
    split at hs
    · next a ha =>
      obtain ⟨v, h1, rfl, rfl⟩ := retV_some hs
      exact opV (pureV h (fieldAddr_ok h1 (hρ _ _ ha)))
    · cases hs
  · next t x f he =>
    rw [he]
    split at hs
    · next a ha =>
      obtain ⟨v, h1, rfl, rfl⟩ := retV_some hs
      exact opV (pureV h (field_ok h1 (hρ _ _ ha)))
    · cases hs
  · next t x ix he =>
    rw [he]
    split at hs
    · next a k ha hk =>
      obtain ⟨v, h1, rfl, rfl⟩ := retV_some hs
      exact opV (pureV h (indexAddr_ok h1 (hρ _ _ ha) (hρ _ _ hk)))
    · cases hs
  · next t x ix he =>
    rw [he]
    split at hs
    · next a k ha hk =>
      obtain ⟨v, h1, rfl, rfl⟩ := retV_some hs
      exact opV (pureV h (index_ok h1 (hρ _ _ ha) (hρ _ _ hk)))
    · cases hs
  · next t m k ok he =>
    rw [he]
    split at hs
    · next a b ha hb =>
      obtain ⟨v, h1, rfl, rfl⟩ := retV_some hs
      exact opV (pureV h (lookup_ok h h1 (hρ _ _ ha) (hρ _ _ hb)))
    · cases hs
  · next t m k x he =>
    rw [he]
    split at hs
    · next a b c ha hb hc' =>
      obtain ⟨h1, rfl⟩ := retS_some hs
      obtain ⟨w', h2, h3⟩ := mapUpdate_ok h h1 (hρ _ _ ha) (hρ _ _ hb) (hρ _ _ hc')
      exact opU ⟨w', η, h2, h3⟩
    · cases hs
  · next t m k x he =>
    rw [he]
    split at hs
    · next a b c ha hb hc' =>
      obtain ⟨h1, rfl⟩ := retS_some hs
      obtain ⟨w', h2, h3⟩ := mapUpdate_ok h h1 (hρ _ _ ha) (hρ _ _ hb) (hρ _ _ hc')
      exact opU ⟨w', η, h2, h3⟩
    · cases hs
  · next t x he =>
    rw [he]
    split at hs
    · next s hu hx =>
      cases hs
      have hv := hρ _ _ hx
      simp only [VR] at hv
      simp only [hv]
      exact opV (range_ok h hu)
    · next k e hu hx =>
      cases hs
      have hv := hρ _ _ hx
      simp only [VR] at hv
      simp only [hv]
      exact opV (rangeM_nil h hu)
    · next k e id hu hx =>
      split at hs
      · next es hg =>
        cases hs
        exact opV (rangeM_some h hu hg (hρ _ _ hx))
      · cases hs
    · cases hs
  · next it he =>
    rw [he]
    split at hs
    · next a ha =>
      obtain ⟨v, h1, rfl⟩ := retVS_some hs
      obtain ⟨y, w', h2, h3, h4⟩ := next_ok (ty := o.type) h h1 (hρ _ _ ha)
      exact opV ⟨y, w', η, h2, h3, h4⟩
    · cases hs
  · next it he =>
    rw [he]
    have hov : VR η (.tup [.b false]) (.tuple #[.bool false]) := by simp only [VR]; exact ⟨[_], rfl, VRs.cons (by simp only [VR]) (by simp [VRs])⟩
    split at hs
    · next id ha =>
      split at hs
      · next hg =>
        cases hs
        exact opV (pureV h ⟨_, nextM_nil (ty := o.type) h hg (hρ _ _ ha), hov⟩)
      · next m hg =>
        split at hs
        · next hm =>
          cases hs
          exact opV (pureV h ⟨_, nextM_some (ty := o.type) h hg hm (hρ _ _ ha), hov⟩)
        · cases hs
      · cases hs
    · cases hs
  · next x xt t ok he =>
    rw [he]
    split at hs
    · next a ha =>
      obtain ⟨v, h1, rfl, rfl⟩ := retV_some hs
      exact opV (pureV h (typeAssert_ok h1 (hρ _ _ ha)))
    · cases hs
  · next x k he =>
    rw [he]
    split at hs
    · next l ha =>
      obtain ⟨v, h1, rfl, rfl⟩ := retV_some hs
      exact opV (pureV h (extract_ok h1 (hρ _ _ ha)))
    · cases hs
  · next c he =>
    rw [he]
    split at hs
    · next args hargs =>
      split at hs
      · next b hb =>
        have hv := evals_ok hρ hargs
        have hres := builtin_ok (cs := c.args.map fun | .const _ => true | _ => false) (ty := o.type) h hs hv
        simp only [resolve, hb, mapToList, pure_bind, invoke]
        rw [mapToList] at hres
        exact hres
      · next f hf =>
        rw [he] at hc
        exfalso
        obtain ⟨callee, args, at'⟩ := c
        simp only at hf
        subst hf
        simp [isCall] at hc
      · next f name hf =>
        rw [he] at hc
        exfalso
        obtain ⟨callee, args, at'⟩ := c
        simp only at hf
        subst hf
        simp [isCall] at hc
    · cases hs
  · cases hs

end
end Go.Abs
