/- Functions with an address for their first argument: the block behind it is handed in by its cells, and handed back. -/
import Derived.Test.YtamcdgfjjeldeaaGreatDoorAbsJ
namespace Go.Abs
noncomputable section
set_option linter.unusedSectionVars false
set_option linter.unusedVariables false
variable {P : Program}

/-- What a call does that changes one block alone. -/
structure RoStepAt (bl : Nat) (ro ro' : Nat → Option Obj) (w w' : World) : Prop where
  kept : KeptB ⟨w, fun b => b = bl⟩ w'
  le : ∀ b o, ro b = some o → ro' b = some o
  new : ∀ b, ro' b ≠ none → ro b ≠ none ∨ w.heap.size ≤ b
  at' : ∀ b o, ro' b = some o → w'.heap[b]? = some o
  off : ro' bl = none

section
variable [TabsOf]
theorem St.ofRoAt {η : Env} {σ : ASt} {w w' : World} {ro' : Nat → Option Obj} (h : SR P η σ w) {id : Nat} {o o' : AObj} {q : Place} (hg : σ.get id = some o) (ho : o.own = true) (ho' : o'.own = true) (hl : σ.lock ≤ id) (hq : η id = some q)
    (k : RoStepAt q.bl η.ro ro' w w') (hr : OR P ⟨η.pl, ro', η.gh⟩ q w' o') : St P η σ w ⟨η.pl, ro', η.gh⟩ (σ.put id o') w' := by
  have hle : (η : Env).le ⟨η.pl, ro', η.gh⟩ := ⟨fun _ _ h => h, k.le, fun _ h => h⟩
  have get : ∀ i u, (σ.put id o').get i = some u → (i = id ∧ u = o') ∨ (i ≠ id ∧ σ.get i = some u) := by
    intro i u hi
    rw [ASt.get_put] at hi
    split at hi
    · next e => cases hi; exact .inl ⟨e, rfl⟩
    · next e => exact .inr ⟨e, hi⟩
  have own : ∀ i u, (σ.put id o').get i = some u → u.own = true → ∃ u0, σ.get i = some u0 ∧ u0.own = true := by
    intro i u hi hu
    rcases get i u hi with ⟨rfl, rfl⟩ | ⟨_, h1⟩
    · exact ⟨o, hg, ho⟩
    · exact ⟨u, h1, hu⟩
  have any : ∀ i u, (σ.put id o').get i = some u → ∃ u0, σ.get i = some u0 := by
    intro i u hi
    rcases get i u hi with ⟨rfl, rfl⟩ | ⟨_, h1⟩
    · exact ⟨o, hg⟩
    · exact ⟨u, h1⟩
  refine ⟨hle, ⟨h.glob, h.dom, fun i u hi => ?_, h.ghd, fun i u i' u' p p' a1 a2 a3 a4 a5 a6 => ?_, k.at', fun i u p a1 a2 a3 => ?_, fun p hp => (h.tabs p hp).mono hle⟩, k.kept.size, fun bl hb hno => ?_, fun i u p h1 h2 h3 h4 => ?_, k.kept.os, k.kept.tape, k.kept.output, rfl, Nat.le_refl _, fun _ h => .inl h, fun b hb => ?_⟩
  · rcases get i u hi with ⟨rfl, rfl⟩ | ⟨hne, h1⟩
    · exact .inl ⟨q, hq, hr⟩
    · refine ((h.live i u h1).heap fun p hp hor => k.kept.keep _ hor.lt ?_).mono hle
      intro e
      exact h.sep id o i u q p hg ho h1 (fun e => hne e.symm) hq hp e.symm
  · obtain ⟨v, v1, v2⟩ := own i u a1 a2
    obtain ⟨v', v1'⟩ := any i' u' a3
    exact h.sep i v i' v' p p' v1 v2 v1' a4 a5 a6
  · rcases get i u a1 with ⟨rfl, rfl⟩ | ⟨_, h1⟩
    · have : (η : Env) i = some p := a3
      rw [hq] at this; cases this
      exact k.off
    · have hor := h.at h1 (show η i = some p from a3)
      cases hro : ro' p.bl with
      | none => exact hro
      | some o2 =>
        rcases k.new p.bl (by rw [hro]; simp) with h2 | h2
        · exact absurd (h.roSep i u p h1 a2 a3) h2
        · have := hor.lt; omega
  · exact k.kept.keep bl hb fun e => hno id o q hg ho hl hq e.symm
  · obtain ⟨v, v1, v2⟩ := own i u h1 h2
    exact .inr ⟨i, v, p, v1, v2, h3, h4, rfl⟩
  · rcases k.new b hb with h1 | h1
    · exact .inl h1
    · exact .inr (.inl h1)
end

/-- The contract: the block's cells, then the other arguments; the cells behind the call, then the results. -/
structure FnP (P : Program) (tabs : List (Nat × List AV)) (f : FuncId) (et n : Nat) (sh : List OSh) (gs out : List GV) : Prop where
  call : ∃ cs rest cs' res, gs = .g cs :: rest ∧ out = .g cs' :: res ∧ cs.length = n ∧ cs'.length = n ∧ shFits sh res = true ∧
    ∀ ro w vs bl arr fr, RoOk tabs ro w → ro bl = none → w.heap[bl]? = some (.cells arr et fr) → (∀ k, k < arr.size → ¬ (fr.1 ≤ k ∧ k < fr.2)) → GRs ro cs arr.toList → GRs ro rest vs →
      CallN P f ⟨.pointer (some ⟨bl, 0, none⟩) :: vs⟩ w fun v w' => ∃ ro' arr' fr', RoStepAt bl ro ro' w w' ∧ w'.heap[bl]? = some (.cells arr' et fr') ∧ (∀ k, k < arr'.size → ¬ (fr'.1 ≤ k ∧ k < fr'.2)) ∧ GRs ro' cs' arr'.toList ∧ ∃ us, v = tupV us ∧ GRs ro' res us

section
variable [NodesOf]
/-- The call, by the cells behind the address. -/
def pCallP (P : Program) (k et n : Nat) (sh : List OSh) : PFn := fun args σ =>
  match args with
  | .p id 0 :: rest =>
    match σ.get id with
    | some (.cells c et' true false) =>
      let fz := fzOf P σ (.agg c :: rest)
      if Nat.beq et et' && !(Nat.beq et 0) && Nat.beq c.length n && Nat.ble σ.lock id && !(fz.contains id) && fz.all (Nat.ble σ.lock ·) then
        match valsN P σ fz (.agg c :: rest) with
        | some ns => match findNd (.call k ns 0), outsAV k ns 1 sh with
          | some m, some (a :: l) => match cellNs m 0 n with
            | some c' => some (tupOf (a :: l), (kills σ fz).put id (.cells c' et true false))
            | none => none
          | _, _ => none
        | none => none
      else none
    | _ => none
  | _ => none
end

theorem pCallP_ok {T : TabsOf} {f : FuncId} {k et n : Nat} {sh : List OSh} (hC : ∀ gs out, T.I k gs = some out → FnP P T.tabs f et n sh gs out) : @PrimOk T P f (@pCallP T.toNodesOf P k et n sh) := by
  letI := T
  intro args σ r σ' hs η w vs hS hv
  unfold pCallP at hs
  split at hs
  · next id rest =>
    split at hs
    · next c et' hg =>
      simp only at hs
      split at hs
      · next hcnd =>
        simp only [Bool.and_eq_true, Bool.not_eq_true'] at hcnd
        obtain ⟨⟨⟨⟨⟨h1, h2⟩, h3⟩, h4⟩, h5⟩, h6⟩ := hcnd
        have e1 := Nat.eq_of_beq_eq_true h1
        subst e1
        have het : et ≠ 0 := by rintro rfl; simp at h2
        have hcn := Nat.eq_of_beq_eq_true h3
        have hlk := Nat.le_of_ble_eq_true h4
        have hlks : ∀ i ∈ fzOf P σ (.agg c :: rest), σ.lock ≤ i := fun i hi => Nat.le_of_ble_eq_true (List.all_eq_true.1 h6 i hi)
        split at hs
        · next ns hns =>
          split at hs
          · next m a l hm hl =>
            split at hs
            · next c' hc' =>
              cases hs
              obtain ⟨x, xs, rfl, hx, hxs⟩ := hv
              simp only [VR] at hx
              obtain ⟨q, hq, rfl⟩ := hx
              obtain ⟨arr, elem, fr, hb, rr⟩ := hS.at hg hq
              obtain ⟨w1, w2, w3⟩ := rr.whole het
              subst w1
              have hba := w3 rfl
              have hsh := rr.shut rfl
              have hlen : c.length = arr.size := by omega
              have hcv : VRs η c arr.toList := by
                refine VRs.of (by simpa using hlen) fun i u hi => ?_
                obtain ⟨y, y1, y2⟩ := rr.cell i u hi
                rw [hba, Nat.zero_add] at y1
                exact ⟨y, by simpa using y1, y2⟩
              obtain ⟨ro1, f1, f2, f3⟩ := freezeSt hS (fzOf P σ (.agg c :: rest)) hlks
              have C : MCtx T P T.tabs P.globals.size (P.globals.size + 1) η σ w (fzOf P σ (.agg c :: rest)) [] [] [] ro1 := ⟨hS, rfl, f1, f3, rfl, Nat.lt_succ_self _⟩
              have hagg : VR η (.agg c) (.agg ⟨arr.toList⟩) := by simp only [VR]; exact ⟨arr.toList, rfl, hcv⟩
              obtain ⟨gl, k1, k2⟩ := valsN_ok C hns (VRs.cons hagg hxs)
              have hI : ∃ out, T.I k gl = some out ∧ ∃ g, out[0]? = some g ∧ TabsOf.val m = some g := by
                obtain ⟨g', d1, d2⟩ := findNd_ok hm
                have k1' : valsOf TabsOf.val ns = some gl := k1
                simp only [Nd.den, k1'] at d2
                split at d2
                · next r hr => exact ⟨r, hr, g', d2, d1⟩
                · cases d2
              obtain ⟨out, hI, g0, hg0, hvm⟩ := hI
              obtain ⟨cs, rest', cs', res, rfl, rfl, l1, l2, hfit, hcall⟩ := (hC gl out hI).call
              simp only [List.getElem?_cons_zero, Option.some.injEq] at hg0
              subst hg0
              obtain ⟨y, ys, ey, gy, gys⟩ := k2
              cases ey
              simp only [GR] at gy
              obtain ⟨us0, eu, gy⟩ := gy
              cases eu
              have hnot : id ∉ fzOf P σ (.agg c :: rest) := by
                intro hm
                have : (fzOf P σ (.agg c :: rest)).contains id = true := by simpa using hm
                rw [this] at h5; cases h5
              have hg' : (kills σ (fzOf P σ (.agg c :: rest))).get id = some (.cells c elem true false) := by rw [kills_get, if_neg hnot]; exact hg
              have hron : ro1 q.bl = none := f2.rel.roSep id _ q hg' rfl hq
              have hfree : ∀ j, j < arr.size → ¬ (fr.1 ≤ j ∧ j < fr.2) := by
                intro j hj
                have := rr.free rfl j (by omega)
                rw [hba, Nat.zero_add] at this; exact this
              rw [hba]
              refine CallN.mono (hcall ro1 w xs q.bl arr fr f2.rel.roOk hron hb hfree gy gys) ?_
              rintro v w' ⟨ro', arr', fr', hstep, hb', hfree', hcs', us, rfl, hus⟩
              have hasz : arr'.size = n := by
                have := hcs'.length
                simp only [Array.length_toList] at this
                omega
              obtain ⟨r0, t1, t2⟩ := cellNs_ok (η := ⟨η.pl, ro', η.gh⟩) hvm n 0 hc'
              have hr0 : r0 = gvAVs cs' := by
                unfold takeN at t1
                rw [List.drop_zero] at t1
                have hgl : (gvAVs (GV.g cs').cells).length = n := by rw [gvAVs_length]; exact l2
                rw [List.take_of_length_le (by omega), if_pos hgl] at t1
                cases t1; rfl
              subst hr0
              have hcv' := t2 _ ((GRs_VRs (η := ⟨η.pl, ro', η.gh⟩) _ _).1 hcs')
              have hcl' : c'.length = n := by
                have := hcv'.length
                simp only [Array.length_toList] at this
                omega
              have hor : OR P ⟨η.pl, ro', η.gh⟩ q w' (.cells c' elem true false) := by
                refine ⟨arr', elem, fr', hb', { fits := by omega, le := by omega, shut := fun _ => by omega, cell := fun i u hi => ?_, free := fun _ j hj => ?_, whole := fun _ => ⟨rfl, by omega, fun _ => hba⟩, room := by simp }⟩
                · obtain ⟨y, y1, y2⟩ := hcv'.at hi
                  exact ⟨y, by rw [hba, Nat.zero_add]; simpa using y1, y2⟩
                · rw [hba, Nat.zero_add]; exact hfree' j (by omega)
              have hst := St.ofRoAt (o' := .cells c' elem true false) f2.rel hg' rfl rfl (by rw [kills_lock]; exact hlk) hq hstep hor
              exact ⟨_, f2.trans hst, tupOf_ok (outsAV_ok k1 hI (η' := ⟨η.pl, ro', η.gh⟩) hl hfit (fun i => by rw [Nat.add_comm]; simp) hus)⟩
            · cases hs
          · cases hs
        · cases hs
      · cases hs
    · cases hs
  · cases hs
end
end Go.Abs
