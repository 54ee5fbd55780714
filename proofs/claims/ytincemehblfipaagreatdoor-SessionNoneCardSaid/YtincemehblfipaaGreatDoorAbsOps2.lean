/- More operations: those that make no memory and change none. -/
import Derived.Test.YtincemehblfipaaGreatDoorAbsOps1
namespace Go.Abs
noncomputable section
variable [TabsOf]
set_option linter.unusedSectionVars false
set_option linter.unusedVariables false
set_option linter.unusedSimpArgs false
variable {P : Program} {η : Env} {σ σ' : ASt} {w : World}

theorem aInt_VR {a : AV} {n : Int} {x : Value} (h : aInt a = some n) (hx : VR η a x) : ∃ k, x = .int k n := by
  cases a <;> simp [aInt] at h
  subst h; simp only [VR] at hx; exact ⟨_, hx⟩

theorem run_asInt {k : IntKind} {n : Int} : (asIntOf (.int k n)).run P w = .ok (k, n) w := rfl

theorem scalar_VR {a : AV} {v : Value} {x : Value} (h : scalarOf a = some v) (hx : VR η a x) : x = v := toVal_unique 4 a v x h hx

theorem part_ok {t : TypeId} {cs : List AV} {vs : List Value} {off : Nat} {v : AV} (h : aPart P t cs off = some v) (hv : VRs η cs vs) :
    ∃ y, (part t ⟨vs⟩ off).run P w = .ok y w ∧ VR η v y := by
  unfold aPart at h
  split at h
  · next hagg =>
    split at h
    · next n hn =>
      simp only [Option.map_eq_some_iff] at h
      obtain ⟨l, hl, rfl⟩ := h
      refine ⟨.agg ((⟨vs⟩ : Array Value).extract off (off + n)), ?_, ?_⟩
      · simp [part, run_isAgg hagg, run_size hn]
      · simp only [VR]
        obtain ⟨rfl, _, _⟩ := takeN_some hl
        refine ⟨(vs.drop off).take n, ?_, (hv.drop off).take n⟩
        simp
    · cases h
  · next hagg =>
    obtain ⟨x, hx, hvx⟩ := hv.at h
    refine ⟨x, ?_, hvx⟩
    simp [part, run_isAgg hagg, hx]
  · cases h

theorem field_ok {t : TypeId} {a v : AV} {x : Value} {f : Nat} (h : aField P t a f = some v) (hx : VR η a x) :
    ∃ y, (Instr.field t x f).run P w = .ok y w ∧ VR η v y := by
  unfold aField at h
  split at h
  · next fields cs hu =>
    split at h
    · next fd hf =>
      simp only [VR] at hx
      obtain ⟨vs, rfl, hv⟩ := hx
      obtain ⟨y, hy, hvy⟩ := part_ok (w := w) h hv
      exact ⟨y, by simp [Instr.field, run_under hu, hf, asAgg, hy], hvy⟩
    · cases h
  · cases h

theorem fieldAddr_ok {t : TypeId} {a v : AV} {x : Value} {f : Nat} (h : aFieldAddr P t a f = some v) (hx : VR η a x) :
    ∃ y, (Instr.fieldAt t x f).run P w = .ok y w ∧ VR η v y := by
  unfold aFieldAddr at h
  split at h
  · next fields id off hu =>
    split at h
    · next fd hf =>
      split at h
      · next n hn =>
        split at h
        · cases h
        · next h0 =>
          cases h
          simp only [VR] at hx
          obtain ⟨q, hq, rfl⟩ := hx
          refine ⟨.pointer (some ⟨q.bl, q.ba + off + fd.offset, none⟩), ?_, ?_⟩
          · simp [Instr.fieldAt, run_under hu, hf, Instr.sureAddr, fieldPlace, run_size hn, h0, add_none]
          · simp only [VR]; exact ⟨q, hq, by rw [Nat.add_assoc]⟩
      · cases h
    · cases h
  · next fields b off hu =>
    split at h
    · next fd hf =>
      split at h
      · next n hn =>
        split at h
        · cases h
        · next h0 =>
          cases h
          simp only [VR] at hx
          obtain ⟨bl, base, cs, elem, fr, x, h1, h2, rfl, h3⟩ := hx
          refine ⟨.pointer (some ⟨bl, base + off + fd.offset, none⟩), ?_, ?_⟩
          · simp [Instr.fieldAt, run_under hu, hf, Instr.sureAddr, fieldPlace, run_size hn, h0, add_none]
          · simp only [VR]; exact ⟨bl, base, cs, elem, fr, x, h1, h2, by rw [Nat.add_assoc], h3⟩
      · cases h
    · cases h
  · cases h

theorem indexAddr_ok {t : TypeId} {a i v : AV} {x y : Value} (h : aIndexAddr P t a i = some v) (hx : VR η a x) (hy : VR η i y) :
    ∃ z, (Instr.indexAt t x y).run P w = .ok z w ∧ VR η v z := by
  unfold aIndexAddr at h
  split at h
  · next e id off len cap k hu hk =>
    obtain ⟨kd, rfl⟩ := aInt_VR hk hy
    split at h
    · next size hn =>
      split at h
      · next hr =>
        cases h
        simp only [VR] at hx
        obtain ⟨q, hq, hle, rfl⟩ := hx
        refine ⟨.pointer (some ⟨q.bl, q.ba + off + k.toNat * size, none⟩), ?_, ?_⟩
        · simp [Instr.indexAt, asIntOf, run_under hu, run_size hn, hr, add_none]
        · simp only [VR]; exact ⟨q, hq, by rw [Nat.add_assoc]⟩
      · cases h
    · cases h
  · next len e id off k hu hk =>
    obtain ⟨kd, rfl⟩ := aInt_VR hk hy
    split at h
    · next size hn =>
      split at h
      · next hr =>
        cases h
        simp only [VR] at hx
        obtain ⟨q, hq, rfl⟩ := hx
        refine ⟨.pointer (some ⟨q.bl, q.ba + off + k.toNat * size, none⟩), ?_, ?_⟩
        · simp [Instr.indexAt, asIntOf, run_under hu, run_size hn, hr, add_none, Instr.sureAddr]
        · simp only [VR]; exact ⟨q, hq, by rw [Nat.add_assoc]⟩
      · cases h
    · cases h
  · next e l k hu hk =>
    obtain ⟨kd, rfl⟩ := aInt_VR hk hy
    split at h
    · next size hn =>
      split at h
      · next h0 =>
        split at h
        · next b hb =>
          split at h
          · next hsz =>
            cases h
            obtain ⟨bl, off, c, cs, elem, fr, x, rfl, hc, h1, h2, h3, h4⟩ := ro_elem hx hb hsz
            have hlt := (List.getElem?_eq_some_iff.1 hb).1
            have hr : 0 ≤ k ∧ k < (l.length : Int) := ⟨h0, by omega⟩
            refine ⟨.pointer (some ⟨bl, off + k.toNat * size, none⟩), ?_, ?_⟩
            · simp [Instr.indexAt, asIntOf, run_under hu, run_size hn, hr, add_none]
            · simp only [VR]; exact ⟨bl, off + k.toNat * size, cs, elem, fr, x, h1, h2, rfl, h3, h4⟩
          · cases h
        · cases h
      · cases h
    · cases h
  · next len e b off k hu hk =>
    obtain ⟨kd, rfl⟩ := aInt_VR hk hy
    split at h
    · next size hn =>
      split at h
      · next hr =>
        cases h
        simp only [VR] at hx
        obtain ⟨bl, base, cs, elem, fr, x, h1, h2, rfl, h3⟩ := hx
        refine ⟨.pointer (some ⟨bl, base + off + k.toNat * size, none⟩), ?_, ?_⟩
        · simp [Instr.indexAt, asIntOf, run_under hu, run_size hn, hr, add_none, Instr.sureAddr]
        · simp only [VR]; exact ⟨bl, base, cs, elem, fr, x, h1, h2, by rw [Nat.add_assoc], h3⟩
      · cases h
    · cases h
  · cases h

theorem getBytes (s : List UInt8) (k : Nat) : ((⟨⟨s⟩⟩ : ByteArray)[k]?) = s[k]? := by
  rw [getElem?_def, getElem?_def]
  rfl

theorem index_ok {t : TypeId} {a i v : AV} {x y : Value} (h : aIndex P t a i = some v) (hx : VR η a x) (hy : VR η i y) :
    ∃ z, (Instr.index t x y).run P w = .ok z w ∧ VR η v z := by
  unfold aIndex at h
  split at h
  · next s k hu hk =>
    obtain ⟨kd, rfl⟩ := aInt_VR hk hy
    split at h
    · next h0 =>
      split at h
      · next c hc =>
        cases h
        simp only [VR] at hx; subst hx
        refine ⟨.int .u8 c.toNat, ?_, by simp [VR]⟩
        simp [Instr.index, asIntOf, run_under hu, h0, getBytes, hc]
      · cases h
    · cases h
  · next len e cs k hu hk =>
    obtain ⟨kd, rfl⟩ := aInt_VR hk hy
    split at h
    · next size hn =>
      split at h
      · next hr =>
        simp only [VR] at hx
        obtain ⟨vs, rfl, hv⟩ := hx
        obtain ⟨z, hz, hvz⟩ := part_ok (w := w) h hv
        exact ⟨z, by simp [Instr.index, asIntOf, run_under hu, run_size hn, hr, hz], hvz⟩
      · cases h
    · cases h
  · cases h

def OptVR (η : Env) : Option AV → Option Value → Prop
  | none, none => True
  | some a, some x => VR η a x
  | _, _ => False

/-- The two bounds of a slice expression. -/
theorem bounds_ok {sl : Bool} {len cap : Nat} {room : Nat → Bool} {lo hi : Option AV} {lo' hi' : Option Value} {l h : Nat} (hb : aBounds len room lo hi = some (l, h)) (hroom : ∀ k, room k = true → k ≤ cap) (hlc : len ≤ cap)
    (hlo : OptVR η lo lo') (hhi : OptVR η hi hi') :
    (Instr.sliceBounds sl len cap lo' hi' none).run P w = .ok (l, h, cap) w ∧ l ≤ h ∧ h ≤ cap := by
  unfold aBounds at hb
  split at hb
  · cases hb
  next hh e =>
  split at hb
  · cases hb
  next ll e2 =>
  simp only [Option.some.injEq, Prod.mk.injEq] at hb
  obtain ⟨rfl, rfl⟩ := hb
  have hH : ∀ c, (match hi' with | some v => Instr.sliceBound v cap c | none => pure len).run P w = .ok hh w ∧ hh ≤ cap := by
    intro c
    cases hi with
    | none => cases hi' with
      | none => simp [aHigh] at e; subst e; exact ⟨rfl, hlc⟩
      | some _ => exact hhi.elim
    | some a => cases hi' with
      | none => exact hhi.elim
      | some x =>
        simp only [aHigh] at e; simp only [OptVR] at hhi
        split at e
        · next n hn =>
          obtain ⟨kd, rfl⟩ := aInt_VR hn hhi
          split at e
          · next h1 =>
            cases e
            have := hroom _ h1.2
            refine ⟨?_, this⟩
            simp [Instr.sliceBound, asIntOf, h1.1]
            intro hbad; omega
          · cases e
        · cases e
  have hL : ∀ c, (match lo' with | some v => Instr.sliceBound v hh c | none => pure 0).run P w = .ok ll w ∧ ll ≤ hh := by
    intro c
    cases lo with
    | none => cases lo' with
      | none => simp [aLow] at e2; subst e2; exact ⟨rfl, Nat.zero_le _⟩
      | some _ => exact hlo.elim
    | some a => cases lo' with
      | none => exact hlo.elim
      | some x =>
        simp only [aLow] at e2; simp only [OptVR] at hlo
        split at e2
        · next n hn =>
          obtain ⟨kd, rfl⟩ := aInt_VR hn hlo
          split at e2
          · next h1 =>
            cases e2
            refine ⟨?_, by omega⟩
            simp [Instr.sliceBound, asIntOf, h1.1]
            intro hbad; omega
          · cases e2
        · cases e2
  refine ⟨?_, (hL .index).2, (hH .index).2⟩
  unfold Instr.sliceBounds
  have h1 := hH (if sl then .sliceAcap else .sliceAlen)
  have h2 := hL (if (none : Option Value).isSome then .slice3C else .sliceB)
  cases hi' <;> simp only [Sem.run_bind, Sem.run_pure, Result.andThen_ok] at h1 h2 ⊢ <;> cases lo' <;> simp only [Sem.run_bind, Sem.run_pure, Result.andThen_ok] at h1 h2 ⊢ <;> simp_all

end
end Go.Abs
