/- Building, conversions, assertions, extraction, maps that are read. -/
import Derived.Test.YtincemehblfipaaGreatDoorAbsOps4
namespace Go.Abs
noncomputable section
variable [TabsOf]
set_option linter.unusedSectionVars false
set_option linter.unusedVariables false
set_option linter.unusedSimpArgs false
variable {P : Program} {η : Env} {σ σ' : ASt} {w : World}

/-! ### Building an aggregate -/
def PRs (η : Env) : List (Nat × AV) → List (Nat × Value) → Prop
  | [], ps => ps = []
  | (i, a) :: l, ps => ∃ x rest, ps = (i, x) :: rest ∧ VR η a x ∧ PRs η l rest

theorem foldl_setFrom (off : Nat) : ∀ (l : List Value) (k : Nat) (cs : Array Value),
    (l.zipIdx k).foldl (fun cs (c, j) => cs.setIfInBounds (off + j) c) cs = setFrom cs (off + k) l
  | [], _, _ => rfl
  | v :: l, k, cs => by
    simp only [List.zipIdx_cons, List.foldl_cons]
    rw [foldl_setFrom off l (k + 1)]
    rfl

theorem setRange_VRs {c c' vs : List AV} {off : Nat} {cs : Array Value} {xs : List Value} (h : setRange c off vs = some c') (hc : VRs η c cs.toList) (hv : VRs η vs xs) : VRs η c' (setFrom cs off xs).toList := by
  obtain ⟨h1, h2, h3⟩ := setRange_some h
  have hl := hc.length; have hl' := hv.length
  simp only [Array.length_toList] at hl
  refine VRs.of ?_ fun k a hk => ?_
  · have := setFrom_size xs cs off; simp only [Array.length_toList]; omega
  · rw [h3] at hk
    rw [Array.getElem?_toList, setFrom_get _ _ _ _ (by omega)]
    split at hk
    · next h4 =>
      rw [if_pos (by omega)]
      obtain ⟨x, hx, hvx⟩ := hv.at hk
      exact ⟨x, hx, hvx⟩
    · rw [if_neg (by omega)]
      obtain ⟨x, hx, hvx⟩ := hc.at hk
      rw [Array.getElem?_toList] at hx
      exact ⟨x, hx, hvx⟩

theorem fill_ok {place : Nat → Option (Nat × Nat)} : ∀ {ps : List (Nat × AV)} {qs : List (Nat × Value)} {c c' : List AV} {cs : Array Value},
    aFill place c ps = some c' → PRs η ps qs → VRs η c cs.toList → ∃ cs', Instr.fill place cs qs = some cs' ∧ VRs η c' cs'.toList
  | [], qs, c, c', cs, h, hp, hc => by
    simp only [PRs] at hp; subst hp
    simp only [aFill, Option.some.injEq] at h; subst h
    exact ⟨cs, rfl, hc⟩
  | (i, a) :: ps, qs, c, c', cs, h, hp, hc => by
    simp only [PRs] at hp
    obtain ⟨x, rest, rfl, hx, hp⟩ := hp
    unfold aFill at h
    split at h
    · cases h
    · next off size hpl =>
      split at h
      · next hsz =>
        split at h
        · next c1 hr =>
          have hcells := cells_VRs hx
          have hlen := hcells.length
          have h1 := setRange_VRs hr hc hcells
          obtain ⟨hb, _, _⟩ := setRange_some hr
          have hcl := hc.length
          simp only [Array.length_toList] at hlen hcl
          obtain ⟨cs', hf, hv⟩ := fill_ok h hp h1
          refine ⟨cs', ?_, hv⟩
          unfold Instr.fill
          simp only [hpl]
          rw [if_neg (by simp; omega)]
          rw [← hf]
          congr 1
          have hz := foldl_setFrom off x.cells.toList 0 cs
          rw [Nat.add_zero] at hz
          rw [← hz, ← Array.foldl_toList, Array.toList_zipIdx]
        · cases h
      · cases h

theorem evalParts_ok {ev : Operand → Option AV} {ρ : Operand → Value} (hρ : ∀ x a, ev x = some a → VR η a (ρ x)) : ∀ {l : List (Nat × Operand)} {ps : List (Nat × AV)},
    evalParts ev l = some ps → PRs η ps (l.map fun (i, x) => (i, ρ x))
  | [], ps, h => by simp [evalParts] at h; subst h; simp [PRs]
  | (i, x) :: l, ps, h => by
    unfold evalParts at h
    split at h
    · next v r hv hr =>
      cases h
      exact ⟨ρ x, _, rfl, hρ _ _ hv, evalParts_ok hρ hr⟩
    · cases h

theorem evals_ok {ev : Operand → Option AV} {ρ : Operand → Value} (hρ : ∀ x a, ev x = some a → VR η a (ρ x)) : ∀ {l : List Operand} {vs : List AV},
    evals ev l = some vs → VRs η vs (l.map ρ)
  | [], vs, h => by simp [evals] at h; subst h; simp [VRs]
  | x :: l, vs, h => by
    unfold evals at h
    split at h
    · next v r hv hr =>
      cases h
      exact VRs.cons (hρ _ _ hv) (evals_ok hρ hr)
    · cases h

theorem mapM_sizes : ∀ {fs : List Field} {ps : List (Nat × Nat)}, sizesOf P fs = some ps → (fs.mapM fun f => do pure (f.offset, ← sizeOf f.type) : Sem (List (Nat × Nat))).run P w = .ok ps w
  | [], ps, h => by simp [sizesOf] at h; subst h; rfl
  | f :: fs, ps, h => by
    unfold sizesOf at h
    split at h
    · next n r hn hr =>
      cases h
      simp only [List.mapM_cons, Sem.run_bind, run_size hn, Result.andThen_ok, Sem.run_pure, mapM_sizes hr]
    · cases h

theorem build_ok {t : TypeId} {ps : List (Nat × AV)} {qs : Array (Nat × Value)} {v : AV} (hs : aBuild P t ps = some v) (hp : PRs η ps qs.toList) :
    ∃ y, (Instr.build t qs).run P w = .ok y w ∧ VR η v y := by
  unfold aBuild at hs
  split at hs
  · next zero fields hz hu =>
    obtain ⟨z, hzr, hzv⟩ := run_zero hz
    split at hs
    · next places hpl =>
      simp only [Option.map_eq_some_iff] at hs
      obtain ⟨c, hf, rfl⟩ := hs
      obtain ⟨cs, hf', hv⟩ := fill_ok hf hp (hzv η)
      refine ⟨.agg cs, ?_, by simp only [VR]; exact ⟨cs.toList, rfl, hv⟩⟩
      have hm : (fields.mapM fun f => do pure (f.offset, ← sizeOf f.type) : Sem (Array (Nat × Nat))).run P w = .ok ⟨places⟩ w := by
        rw [Array.mapM_eq_mapM_toList]
        simp only [Sem.run_map, mapM_sizes hpl, Result.andThen_ok]
      simp only [Instr.build, Sem.run_bind, hzr, Result.andThen_ok, run_under hu, hm]
      have : (fun i : Nat => (⟨places⟩ : Array (Nat × Nat))[i]?) = fun i : Nat => places[i]? := by funext i; simp
      rw [this, hf']
      rfl
    · cases hs
  · next zero n elem hz hu =>
    obtain ⟨z, hzr, hzv⟩ := run_zero hz
    split at hs
    · next size hn =>
      simp only [Option.map_eq_some_iff] at hs
      obtain ⟨c, hf, rfl⟩ := hs
      obtain ⟨cs, hf', hv⟩ := fill_ok hf hp (hzv η)
      refine ⟨.agg cs, ?_, by simp only [VR]; exact ⟨cs.toList, rfl, hv⟩⟩
      simp only [Instr.build, Sem.run_bind, hzr, Result.andThen_ok, run_under hu, run_size hn, hf']
      rfl
    · cases hs
  · cases hs

/-! ### Interface values -/
theorem makeIface_ok {t : TypeId} {a : AV} {x : Value} (h : isIfaceT P t = some false) (hx : VR η a x) : ∃ y, (Instr.makeInterface t x).run P w = .ok y w ∧ VR η (.ifc t a) y := by
  unfold isIfaceT at h
  split at h <;> cases h
  next d hno hu =>
  refine ⟨.iface t x, ?_, by simp only [VR]; exact ⟨x, rfl, hx⟩⟩
  simp only [Instr.makeInterface, Sem.run_bind, run_under hu, Result.andThen_ok]
  cases d <;> simp_all

theorem zeroOf_ok {t : TypeId} {i : TypeInfo} {z : Value} {a : AV} (hi : P.info? t = some i) (hz : i.zero = some z) (ha : ofVal 4 z = some a) : (zeroValue t).run P w = .ok z w ∧ VR η a z :=
  ⟨by simp [zeroValue, run_info hi, hz], ofVal_VR _ _ _ ha⟩

theorem typeAssert_ok {t xt : TypeId} {a v : AV} {x : Value} {ok : Bool} (hs : aTypeAssert P a t ok = some v) (hx : VR η a x) :
    ∃ y, (Instr.typeAssert x xt t ok).run P w = .ok y w ∧ VR η v y := by
  unfold aTypeAssert at hs
  split at hs
  · next u b hi =>
    simp only [VR] at hx
    obtain ⟨y, rfl, hy⟩ := hx
    have hd : ∃ d, P.underlying t = some d ∧ ∀ ms, d ≠ .interface ms := by
      unfold isIfaceT at hi
      split at hi <;> cases hi
      next d hno hu => exact ⟨d, hu, fun ms e => hno ms e⟩
    obtain ⟨d, hu, hno⟩ := hd
    split at hs
    · next e =>
      cases hs
      subst e
      refine ⟨if ok then .tuple #[y, .bool true] else y, ?_, ?_⟩
      · simp only [Instr.typeAssert, Sem.run_bind, run_under hu, Result.andThen_ok]
        cases d <;> simp_all
      · cases ok
        · simpa using hy
        · simp only [VR]; exact ⟨[y, .bool true], rfl, VRs.cons hy (VRs.cons (by simp [VR]) (by simp [VRs]))⟩
    · next e =>
      split at hs
      · next hok =>
        split at hs
        · next i hinf =>
          split at hs
          · next z hz =>
            simp only [Option.map_eq_some_iff] at hs
            obtain ⟨a, ha, rfl⟩ := hs
            obtain ⟨h1, h2⟩ := zeroOf_ok (w := w) (η := η) hinf hz ha
            refine ⟨.tuple #[z, .bool false], ?_, ?_⟩
            · subst hok
              simp only [Instr.typeAssert, Sem.run_bind, run_under hu, Result.andThen_ok]
              have e' : ¬ u = t := e
              cases d <;> simp_all
            · simp only [VR]; exact ⟨[z, .bool false], rfl, VRs.cons h2 (VRs.cons (by simp [VR]) (by simp [VRs]))⟩
          · cases hs
        · cases hs
      · cases hs
  · next hi =>
    simp only [VR] at hx; subst hx
    have hd : ∃ d, P.underlying t = some d ∧ ∀ ms, d ≠ .interface ms := by
      unfold isIfaceT at hi
      split at hi <;> cases hi
      next d hno hu => exact ⟨d, hu, fun ms e => hno ms e⟩
    obtain ⟨d, hu, hno⟩ := hd
    split at hs
    · next hok =>
      split at hs
      · next i hinf =>
        split at hs
        · next z hz =>
          simp only [Option.map_eq_some_iff] at hs
          obtain ⟨a, ha, rfl⟩ := hs
          obtain ⟨h1, h2⟩ := zeroOf_ok (w := w) (η := η) hinf hz ha
          refine ⟨.tuple #[z, .bool false], ?_, ?_⟩
          · subst hok
            simp only [Instr.typeAssert, Sem.run_bind, run_under hu, Result.andThen_ok]
            cases d <;> simp_all
          · simp only [VR]; exact ⟨[z, .bool false], rfl, VRs.cons h2 (VRs.cons (by simp [VR]) (by simp [VRs]))⟩
        · cases hs
      · cases hs
    · cases hs
  · cases hs

theorem extract_ok {l : List AV} {k : Nat} {v : AV} {x : Value} (hs : l[k]? = some v) (hx : VR η (.tup l) x) : ∃ y, (Instr.extract x k).run P w = .ok y w ∧ VR η v y := by
  simp only [VR] at hx
  obtain ⟨vs, rfl, hv⟩ := hx
  obtain ⟨y, hy, hvy⟩ := hv.at hs
  exact ⟨y, by simp [Instr.extract, hy], hvy⟩

/-! ### Maps that are read -/
theorem beqBytes (s s' : List UInt8) : ((⟨⟨s⟩⟩ : ByteArray) == ⟨⟨s'⟩⟩) = (s == s') := by
  show ByteArray.beq _ _ = _
  unfold ByteArray.beq
  simp

theorem keySame_ok {kd : TypeDesc} {a b : AV} {x y : Value} {r : Bool} (hf : match kd, a with | .int _, .i _ _ | .int _, .z _ _ _ | .string, .s _ | .bool, .b _ => True | _, _ => False) (h : keySame a b = some r) (hx : VR η a x) (hy : VR η b y) :
    Instr.sameNow kd x y = some r := by
  unfold keySame at h
  split at h
  · next k n k' n' =>
    simp only [VR] at hx hy; subst hx; subst hy
    cases kd <;> simp at hf
    simp only [Instr.sameNow]; split at h
    · next e => rw [if_pos e]; exact h
    · cases h
  · next s s' =>
    simp only [VR] at hx hy; subst hx; subst hy
    cases kd <;> simp at hf
    simp only [Instr.sameNow]
    rw [← h, beqBytes]
  · next s s' =>
    simp only [VR] at hx hy; subst hx; subst hy
    cases kd <;> simp at hf
    simp only [Instr.sameNow]; exact h
  · next k lo hi k' n =>
    simp only [VR] at hx hy; obtain ⟨m, h1, h2, rfl⟩ := hx; subst hy
    cases kd <;> simp at hf
    split at h
    · next e =>
      cases h
      obtain ⟨e, e2⟩ := e
      simp only [Instr.sameNow]
      rw [if_pos e]
      have : m ≠ n := by omega
      simp [this]
    · cases h
  · cases h

end
end Go.Abs
