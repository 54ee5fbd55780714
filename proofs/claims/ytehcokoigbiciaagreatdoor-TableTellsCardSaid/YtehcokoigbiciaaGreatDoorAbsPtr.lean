/- A step that changes one block alone. -/
import Derived.Test.YtehcokoigbiciaaGreatDoorAbsJ
namespace Go.Abs
noncomputable section
set_option linter.unusedSectionVars false
set_option linter.unusedVariables false
variable {P : Program}

/-- What a call does that changes one block alone. -/
structure RoStepAt (bl : Nat) (ro ro' : Nat → Option Obj) (w w' : World) : Prop where
  kept : KeptB ⟨w, fun b => b = bl, fun _ => none⟩ w'
  le : ∀ b o, ro b = some o → ro' b = some o
  new : ∀ b, ro' b ≠ none → ro b ≠ none ∨ w.heap.size ≤ b
  at' : ∀ b o, ro' b = some o → w'.heap[b]? = some o
  off : ro' bl = none

section
variable [TabsOf]
theorem St.ofRoAt {η : Env} {σ : ASt} {w w' : World} {ro' : Nat → Option Obj} (h : SR P η σ w) {id : Nat} {o o' : AObj} {q : Place} (hg : σ.get id = some o) (ho : o.own = true) (ho' : o'.own = true) (hl : σ.lock ≤ id) (hq : η id = some q)
    (k : RoStepAt q.bl η.ro ro' w w') (hr : OR P ⟨η.pl, ro', η.gh⟩ q w' o') : St P η σ w ⟨η.pl, ro', η.gh⟩ (σ.put id o') w' := by
  have hle : (η : Env).le ⟨η.pl, ro', η.gh⟩ := ⟨fun _ _ h => h, k.le, fun _ h => h⟩
  have get : ∀ i u, (σ.put id o').get i = some u → (i = id ∧ u = o') ∨ (i ≠ id ∧ σ.get i = some u) := by
    intro i u hi
    rw [ASt.get_put] at hi
    split at hi
    · next e => cases hi; exact .inl ⟨e, rfl⟩
    · next e => exact .inr ⟨e, hi⟩
  have own : ∀ i u, (σ.put id o').get i = some u → u.own = true → ∃ u0, σ.get i = some u0 ∧ u0.own = true := by
    intro i u hi hu
    rcases get i u hi with ⟨rfl, rfl⟩ | ⟨_, h1⟩
    · exact ⟨o, hg, ho⟩
    · exact ⟨u, h1, hu⟩
  have any : ∀ i u, (σ.put id o').get i = some u → ∃ u0, σ.get i = some u0 := by
    intro i u hi
    rcases get i u hi with ⟨rfl, rfl⟩ | ⟨_, h1⟩
    · exact ⟨o, hg⟩
    · exact ⟨u, h1⟩
  refine ⟨hle, ⟨h.glob, h.dom, fun i u hi => ?_, h.ghd, fun i u i' u' p p' a1 a2 a3 a4 a5 a6 => ?_, k.at', fun i u p a1 a2 a3 => ?_, fun p hp => (h.tabs p hp).mono hle⟩, k.kept.size, fun bl hb hno => ?_, fun i u p h1 h2 h3 h4 => ?_, k.kept.os, k.kept.tape, k.kept.output, rfl, Nat.le_refl _, fun _ h => .inl h, fun b hb => ?_⟩
  · rcases get i u hi with ⟨rfl, rfl⟩ | ⟨hne, h1⟩
    · exact .inl ⟨q, hq, hr⟩
    · refine ((h.live i u h1).heap fun p hp hor => k.kept.keep _ hor.lt ?_).mono hle
      intro e
      exact h.sep id o i u q p hg ho h1 (fun e => hne e.symm) hq hp e.symm
  · obtain ⟨v, v1, v2⟩ := own i u a1 a2
    obtain ⟨v', v1'⟩ := any i' u' a3
    exact h.sep i v i' v' p p' v1 v2 v1' a4 a5 a6
  · rcases get i u a1 with ⟨rfl, rfl⟩ | ⟨_, h1⟩
    · have : (η : Env) i = some p := a3
      rw [hq] at this; cases this
      exact k.off
    · have hor := h.at h1 (show η i = some p from a3)
      cases hro : ro' p.bl with
      | none => exact hro
      | some o2 =>
        rcases k.new p.bl (by rw [hro]; simp) with h2 | h2
        · exact absurd (h.roSep i u p h1 a2 a3) h2
        · have := hor.lt; omega
  · exact k.kept.keep bl hb fun e => hno id o q hg ho hl hq e.symm
  · obtain ⟨v, v1, v2⟩ := own i u h1 h2
    exact .inr ⟨i, v, p, v1, v2, h3, h4, rfl⟩
  · rcases k.new b hb with h1 | h1
    · exact .inl h1
    · exact .inr (.inl h1)
end

end
end Go.Abs
