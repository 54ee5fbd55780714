/- A function without parameters that the evaluator has run to true: a prim of its own, that leaves the state as it is. -/
import Derived.Test.YtjpgiloggpfehaaGreatDoorAbsWorld
namespace Go.Abs
variable {P : Program}

theorem CallN.mono {f : FuncId} {args : Array Value} {w : World} {R R' : Value → World → Prop} (h : CallN P f args w R) (hR : ∀ v w', R v w' → R' v w') : CallN P f args w R' := by
  rcases h with ⟨v, w', h1, h2⟩ | ⟨h1, h2⟩
  · exact .inl ⟨v, w', h1, hR v w' h2⟩
  · refine .inr ⟨h1, Calls.mono' h2 ?_⟩
    rintro e w' ⟨v, he, hr⟩
    exact ⟨v, he, hR v w' hr⟩

/-- Where nothing that stood has changed, the state is as it was. -/
theorem St.of_kept {η : Env} {σ : ASt} {w w' : World} (h : SR P η σ w) (hk : Kept w w') : St P η σ w η σ w' := by
  refine ⟨Env.le.refl _, ⟨h.glob, h.dom, fun id o ho => ?_, h.sep⟩, hk.size, fun bl hb _ => hk.keep bl hb, fun id o q h1 h2 h3 h4 => .inr ⟨id, o, q, h1, h2, h3, h4, rfl⟩, hk.os, hk.tape, hk.output, rfl, Nat.le_refl _, fun _ _ h => .inl h⟩
  obtain ⟨q, hq, hr⟩ := h.obj id o ho
  exact ⟨q, hq, OR.heap (hk.keep _ hr.lt) hr⟩

/-! ### The tables in a state -/
def eqZ : Int → Int → Bool
  | .ofNat a, .ofNat b => Nat.beq a b
  | _, _ => false
theorem eqZ_ok {a b : Int} (h : eqZ a b = true) : a = b := by
  unfold eqZ at h
  split at h
  · rw [Nat.eq_of_beq_eq_true h]
  · cases h
def eqInts : List AV → List AV → Bool
  | [], [] => true
  | .i k n :: l, .i k' n' :: l' => (k == k') && eqZ n n' && eqInts l l'
  | _, _ => false
theorem eqInts_ok : ∀ {l l' : List AV}, eqInts l l' = true → l = l' ∧ ∀ a ∈ l, ∃ k z, a = AV.i k z := by
  intro l
  induction l with
  | nil =>
    intro l' h
    cases l' with
    | nil => exact ⟨rfl, by simp⟩
    | cons _ _ => simp [eqInts] at h
  | cons a l ih =>
    intro l' h
    cases l' with
    | nil => cases a <;> simp [eqInts] at h
    | cons b l' =>
      cases a <;> cases b <;> simp only [eqInts, Bool.and_eq_true, Bool.false_eq_true] at h
      obtain ⟨⟨h1, h2⟩, h3⟩ := h
      obtain ⟨rfl, h4⟩ := ih h3
      obtain rfl := eqZ_ok h2
      obtain rfl := eq_of_beq h1
      refine ⟨rfl, fun a ha => ?_⟩
      rcases List.mem_cons.1 ha with rfl | ha
      · exact ⟨_, _, rfl⟩
      · exact h4 a ha

def hasTab (σ : ASt) (g : Nat) (c : List AV) : Bool := match σ.get g with
  | some (.cells c' _ _ _) => eqInts c' c
  | _ => false

theorem hasTab_ok {η : Env} {σ : ASt} {w : World} {g : Nat} {c : List AV} (hS : SR P η σ w) (hg : g ≤ P.globals.size) (h : hasTab σ g c = true) : TabAt w g c := by
  unfold hasTab at h
  split at h
  · next c' et rw opn ho =>
    obtain ⟨rfl, hall⟩ := eqInts_ok h
    obtain ⟨q, hq, cs, elem, fr, hb, hc⟩ := hS.obj g _ ho
    obtain ⟨sz, es, hq'⟩ := hS.glob g hg
    rw [hq] at hq'
    cases hq'
    refine ⟨cs, elem, fr, hb, ?_, fun k a ha => ?_⟩
    · have := hc.fits; have := hc.le; simp only at *; omega
    · obtain ⟨x, hx, hv⟩ := hc.cell k a ha
      obtain ⟨k', z, rfl⟩ := hall a (List.mem_of_getElem? ha)
      simp only [VR] at hv
      exact ⟨x, by simpa using hx, fun η' => by simp only [VR]; exact hv⟩
  · cases h

def pClosed (tabsB : ASt → Bool) : PFn := fun args σ => match args with
  | [] => bif tabsB σ then some (.b true, σ) else none
  | _ => none

theorem pClosed_ok {call : Caller} {f : FuncId} {σ0 σ' : ASt} {η0 : Env} {tabsB : ASt → Bool} {Tabs : World → Prop} (hcall : CallOk P call) (htab : ∀ σ η w, SR P η σ w → tabsB σ = true → Tabs w)
    (hS0 : ∀ w, Tabs w → SR P η0 σ0 w) (hno : ∀ id o, σ0.get id = some o → o.own = false) (hrun : call f [] σ0 = some (.b true, σ')) : PrimOk P f (pClosed tabsB) := by
  intro args σ r σ1 hs η w vs hS hv
  unfold pClosed at hs
  split at hs
  · cases hb : tabsB σ with
    | false => rw [hb] at hs; cases hs
    | true =>
      rw [hb] at hs
      cases hs
      simp only [VRs] at hv
      subst hv
      refine CallN.mono (hcall f [] σ0 _ _ hrun η0 w [] (hS0 w (htab σ η w hS hb)) rfl) ?_
      rintro v w' ⟨η', hst, hr⟩
      refine ⟨η, St.of_kept hS (hst.kept hno), ?_⟩
      simp only [VR] at hr ⊢
      exact hr
  · cases hs
end Go.Abs
