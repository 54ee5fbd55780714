/- A function without parameters that the evaluator has run to true: a prim of its own, that leaves the state as it is. -/
import Derived.Test.YtincemehblfipaaGreatDoorAbsWorld
namespace Go.Abs
noncomputable section
variable [TabsOf]
set_option linter.unusedSectionVars false
variable {P : Program}

theorem CallN.mono {f : FuncId} {args : Array Value} {w : World} {R R' : Value → World → Prop} (h : CallN P f args w R) (hR : ∀ v w', R v w' → R' v w') : CallN P f args w R' := by
  rcases h with ⟨v, w', h1, h2⟩ | ⟨h1, h2⟩
  · exact .inl ⟨v, w', h1, hR v w' h2⟩
  · refine .inr ⟨h1, Calls.mono' h2 ?_⟩
    rintro e w' ⟨v, he, hr⟩
    exact ⟨v, he, hR v w' hr⟩

/-- Where nothing that stood has changed, the state is as it was. -/
theorem St.of_kept {η : Env} {σ : ASt} {w w' : World} (h : SR P η σ w) (hk : Kept w w') : St P η σ w η σ w' := by
  refine ⟨Env.le.refl _, ⟨h.glob, h.dom, fun id o ho => ?_, h.sep, fun b o hb => (hk.keep b (getLt (h.roAt b o hb))).trans (h.roAt b o hb), h.roSep, h.tabs⟩, hk.size, fun bl hb _ => hk.keep bl hb, fun id o q h1 h2 h3 h4 => .inr ⟨id, o, q, h1, h2, h3, h4, rfl⟩, hk.os, hk.tape, hk.output, rfl, Nat.le_refl _, fun _ _ h => .inl h, fun _ h => .inl h⟩
  obtain ⟨q, hq, hr⟩ := h.obj id o ho
  exact ⟨q, hq, OR.heap (hk.keep _ hr.lt) hr⟩

/-- The tables, told of the world. -/
theorem TabRo.at {η : Env} {σ : ASt} {w : World} (h : SR P η σ w) {g : Nat} {c : List AV} (ht : TabRo η g c) : TabAt w g c := by
  obtain ⟨cs, elem, fr, h1, h2, h3⟩ := ht
  exact ⟨cs, elem, fr, h.roAt _ _ h1, h2, h3⟩

/-- A start of the evaluator that holds tables alone. -/
def TabStart (σ0 : ASt) (n : Nat) : Prop := n < σ0.next ∧ ∀ id o, σ0.get id = some o → ∃ c, o = .cells c 0 false false ∧ (id, c) ∈ TabsOf.tabs ∧ id ≤ n

theorem SR.tabStart {η : Env} {σ σ0 : ASt} {w : World} (h : SR P η σ w) (h0 : TabStart σ0 P.globals.size) : SR P (envOf P.globals.size σ0 η.ro) σ0 w :=
  SR_start h0.1 (fun id o ho => by
    obtain ⟨c, rfl, hm, hle⟩ := h0.2 id o ho
    exact ⟨hle, c, rfl, (h.tabs _ hm).at h⟩) h.roAt (fun p hp => by
      obtain ⟨cs, elem, fr, h1, h2⟩ := h.tabs p hp
      exact ⟨cs, elem, fr, h1, h2⟩)
theorem TabStart.own {σ0 : ASt} {n : Nat} (h : TabStart σ0 n) : ∀ id o, σ0.get id = some o → o.own = false := by
  intro id o ho
  obtain ⟨c, rfl, _⟩ := h.2 id o ho
  rfl

def pClosed : PFn := fun args σ => match args with
  | [] => some (.b true, σ)
  | _ => none

theorem pClosed_ok {call : Caller} {f : FuncId} {σ0 σ' : ASt} (hcall : CallOk P call) (h0 : TabStart σ0 P.globals.size) (hrun : call f [] σ0 = some (.b true, σ')) : PrimOk P f pClosed := by
  intro args σ r σ1 hs η w vs hS hv
  unfold pClosed at hs
  split at hs
  · cases hs
    simp only [VRs] at hv
    subst hv
    refine CallN.mono (hcall f [] σ0 _ _ hrun _ w [] (hS.tabStart h0) rfl) ?_
    rintro v w' ⟨η', hst, hr⟩
    refine ⟨η, St.of_kept hS (hst.kept h0.own), ?_⟩
    simp only [VR] at hr ⊢
    exact hr
  · cases hs
end
end Go.Abs
