/- Maps; new blocks. -/
import Derived.Test.YtincemehblfipaaGreatDoorAbsOps5
namespace Go.Abs
noncomputable section
variable [TabsOf]
set_option linter.unusedSectionVars false
set_option linter.unusedVariables false
set_option linter.unusedSimpArgs false
variable {P : Program} {η : Env} {σ σ' : ASt} {w : World}

def MRs (η : Env) (es : List (AV × AV)) (ms : List MapEntry) : Prop :=
  ms.length = es.length ∧ ∀ (k : Nat) e, es[k]? = some e → ∃ m, ms[k]? = some m ∧ VR η e.1 m.key ∧ VR η e.2 m.val

theorem MRs.tail {e : AV × AV} {es : List (AV × AV)} {ms : List MapEntry} (h : MRs η (e :: es) ms) : ∃ m rest, ms = m :: rest ∧ VR η e.1 m.key ∧ VR η e.2 m.val ∧ MRs η es rest := by
  obtain ⟨hl, hp⟩ := h
  cases ms with
  | nil => simp at hl
  | cons m rest =>
    obtain ⟨m', hm, h1, h2⟩ := hp 0 e (by simp)
    simp at hm; subst hm
    exact ⟨m, rest, rfl, h1, h2, by simpa using hl, fun k e' hk => by simpa using hp (k + 1) e' (by simpa using hk)⟩

def FitsKey (kd : TypeDesc) (a : AV) : Prop := match kd, a with | .int _, .i _ _ | .int _, .z _ _ _ | .string, .s _ | .bool, .b _ => True | _, _ => False

theorem find_ok {kd : TypeDesc} {k : AV} {x : Value} (hf : FitsKey kd k) (hx : VR η k x) : ∀ {es : List (AV × AV)} {ms : List MapEntry} {i : Nat} {r : Option (Nat × AV)},
    findA k es i = some r → MRs η es ms → ∃ r', Instr.findNow kd x ms i = some r' ∧ (match r, r' with | none, none => True | some (j, v), some (j', y) => j = j' ∧ i ≤ j ∧ j < i + es.length ∧ VR η v y | _, _ => False)
  | [], ms, i, r, h, hm => by
    simp only [findA, Option.some.injEq] at h; subst h
    have : ms = [] := by have := hm.1; cases ms <;> simp_all
    subst this
    exact ⟨none, rfl, trivial⟩
  | e :: es, ms, i, r, h, hm => by
    obtain ⟨m, rest, rfl, h1, h2, h3⟩ := hm.tail
    unfold findA at h
    split at h
    · next hk =>
      cases h
      have hs := keySame_ok (kd := kd) hf hk hx h1
      exact ⟨some (i, m.val), by simp [Instr.findNow, hs], rfl, Nat.le_refl _, by simp, h2⟩
    · next hk =>
      have hs := keySame_ok (kd := kd) hf hk hx h1
      obtain ⟨r', hr, hrel⟩ := find_ok hf hx h h3
      refine ⟨r', by simp [Instr.findNow, hs, hr], ?_⟩
      cases r <;> cases r' <;> simp only at hrel ⊢
      obtain ⟨a, b, c, d⟩ := hrel
      exact ⟨a, by omega, by simp; omega, d⟩
    · cases h

theorem fitKey_ok {t : TypeId} {k : AV} (h : fitKey P t k = true) : ∃ kd, P.underlying t = some kd ∧ FitsKey kd k := by
  unfold fitKey at h
  split at h
  · next hu => exact ⟨_, hu, trivial⟩
  · next hu => exact ⟨_, hu, trivial⟩
  · next hu => exact ⟨_, hu, trivial⟩
  · next hu => exact ⟨_, hu, trivial⟩
  · cases h

theorem checkKey_ok {t : TypeId} {k : AV} {x : Value} {kd : TypeDesc} (hu : P.underlying t = some kd) (hf : FitsKey kd k) (hx : VR η k x) (b : Bool) : (Instr.checkKey b 10000 t x).run P w = .ok () w := by
  have H : ∀ n : Nat, (Instr.checkKey b (n + 1) t x).run P w = .ok () w := fun n => by
    cases kd <;> cases k <;> simp only [FitsKey] at hf <;> simp only [VR] at hx <;> (first | subst hx | obtain ⟨_, _, _, rfl⟩ := hx) <;> simp only [Instr.checkKey, Sem.run_bind, run_under hu, Result.andThen_ok, Sem.run_pure]
  exact H 9999

def lkTail (kt et : TypeId) (y : Value) (ok : Bool) (es : Array MapEntry) : Sem Value := do
  Instr.checkKey es.isEmpty 10000 kt y
  let (v, k) ← match ← Instr.findKey kt y es.toList with
    | some (_, v) => pure (v, true)
    | none => pure (← zeroValue et, false)
  pure (if ok then .tuple #[v, .bool k] else v)

theorem lookup_nil {t kt et : TypeId} (hu : P.underlying t = some (.map kt et)) (y : Value) (ok : Bool) : (Instr.lookup t (.map none) y ok).run P w = (lkTail kt et y ok #[]).run P w := by
  simp only [Instr.lookup, lkTail, Sem.run_bind, run_under hu, Result.andThen_ok, Sem.run_pure]
  congr 1
theorem lookup_some {t kt et : TypeId} (hu : P.underlying t = some (.map kt et)) (y : Value) (ok : Bool) {r : Nat} {ms : Array MapEntry} {clock : Nat} (hb : w.heap[r]? = some (.map ms clock)) :
    (Instr.lookup t (.map (some r)) y ok).run P w = (lkTail kt et y ok ms).run P w := by
  have hg : (getObj r).run P w = .ok (.map ms clock) w := by simp [getObj, Sem.run, hb]
  simp only [Instr.lookup, lkTail, Sem.run_bind, run_under hu, Result.andThen_ok, Sem.run_pure, hg]
  congr 1

theorem lookup_ok (h : SR P η σ w) {t : TypeId} {m k v : AV} {x y : Value} {ok : Bool} (hs : aLookup P t m k ok σ = some v) (hx : VR η m x) (hy : VR η k y) :
    ∃ z, (Instr.lookup t x y ok).run P w = .ok z w ∧ VR η v z := by
  unfold aLookup at hs
  split at hs
  · next kt et hu =>
    split at hs
    · next es hes =>
      split at hs
      · next hfit =>
        obtain ⟨kd, hku, hf⟩ := fitKey_ok hfit
        have hms : ∃ ms : Array MapEntry, (Instr.lookup t x y ok).run P w = (lkTail kt et y ok ms).run P w ∧ MRs η es ms.toList := by
          split at hes
          · cases hes
            simp only [VR] at hx; subst hx
            exact ⟨#[], lookup_nil hu y ok, by simp [MRs]⟩
          · next id =>
            simp only [VR] at hx
            obtain ⟨q, hq, rfl⟩ := hx
            split at hes
            · next es' hg =>
              cases hes
              obtain ⟨q', hq', ms, clock, hb, hsz, hp⟩ := h.obj _ _ hg
              rw [hq] at hq'; cases hq'
              refine ⟨ms, lookup_some hu y ok hb, by simpa using hsz, fun k e hk => ?_⟩
              obtain ⟨m, hm, h1, h2⟩ := hp k e hk
              exact ⟨m, by simpa using hm, h1, h2⟩
            · cases hes
          · cases hes
        obtain ⟨ms, hrun, hmr⟩ := hms
        rw [hrun]
        have hck : ∀ b, (Instr.checkKey b 10000 kt y).run P w = .ok () w := fun b => checkKey_ok hku hf hy b
        have key : ∀ r, findA k es 0 = some r → ∃ r', (Instr.findKey kt y ms.toList).run P w = .ok r' w ∧ (match r, r' with | none, none => True | some (j, v), some (j', y) => j = j' ∧ 0 ≤ j ∧ j < 0 + es.length ∧ VR η v y | _, _ => False) := fun r hr => by
          obtain ⟨r', h1, h2⟩ := find_ok hf hy hr hmr
          exact ⟨r', by simp only [Instr.findKey, Sem.run_bind, run_under hku, Result.andThen_ok, h1, Sem.run_pure], h2⟩
        split at hs
        · next j u hfound =>
          cases hs
          obtain ⟨r', h1, h2⟩ := key _ hfound
          cases r' with
          | none => exact h2.elim
          | some p =>
            obtain ⟨j', z⟩ := p
            obtain ⟨rfl, _, _, hvz⟩ := h2
            refine ⟨if ok then .tuple #[z, .bool true] else z, ?_, ?_⟩
            · simp only [lkTail, Sem.run_bind, Result.andThen_ok, hck, h1, Sem.run_pure]
            · cases ok
              · simpa using hvz
              · simp only [VR]; exact ⟨[z, .bool true], rfl, VRs.cons hvz (VRs.cons (by simp [VR]) (by simp [VRs]))⟩
        · next hfound =>
          obtain ⟨r', h1, h2⟩ := key _ hfound
          cases r' with
          | some p => exact h2.elim
          | none =>
            split at hs
            · next i hinf =>
              split at hs
              · next z hz =>
                simp only [Option.map_eq_some_iff] at hs
                obtain ⟨a, ha, rfl⟩ := hs
                obtain ⟨h3, h4⟩ := zeroOf_ok (w := w) (η := η) hinf hz ha
                refine ⟨if ok then .tuple #[z, .bool false] else z, ?_, ?_⟩
                · simp only [lkTail, Sem.run_bind, Result.andThen_ok, hck, h1, h3, Sem.run_pure]
                · cases ok
                  · simpa using h4
                  · simp only [VR]; exact ⟨[z, .bool false], rfl, VRs.cons h4 (VRs.cons (by simp [VR]) (by simp [VRs]))⟩
              · cases hs
            · cases hs
        · cases hs
      · cases hs
    · cases hs
  · cases hs

theorem sameBits_refl {k : AV} {x y : Value} {kd : TypeDesc} (hf : FitsKey kd k) (hx : VR η k x) (hy : Instr.sameNow kd x y = some true) (n : Nat) : Instr.sameBits (n + 1) y x = true := by
  cases kd <;> cases k <;> simp only [FitsKey] at hf <;> simp only [VR] at hx <;> (first | subst hx | obtain ⟨_, _, _, rfl⟩ := hx) <;> cases y <;> simp only [Instr.sameNow, Option.some.injEq, reduceCtorEq] at hy
  · simp_all [Instr.sameBits]
  · split at hy
    · simp_all [Instr.sameBits]
    · cases hy
  · split at hy
    · simp_all [Instr.sameBits]
    · cases hy
  · next s s' =>
    obtain ⟨⟨l⟩⟩ := s'
    rw [beqBytes] at hy
    simp only [Instr.sameBits, beqBytes]
    simp_all

/-! ### New blocks -/
theorem cells_new (h : SR P η σ w) {c : List AV} {xs : Array Value} {elem : TypeId} {opn : Bool} {es : Nat} (hv : VRs η c (xs.toList.take c.length)) (hle : c.length ≤ xs.size) (hshut : opn = false → c.length = xs.size)
    (hroom : opn = true → elem ≠ 0 ∧ 0 < es ∧ sizeT P elem = some es) :
    St P η σ w (η.put σ.next ⟨w.heap.size, 0, xs.size, es⟩) (σ.new (.cells c elem true opn)) { w with heap := w.heap.push (.cells xs elem) } := by
  refine St.alloc h _ _ _ rfl ?_
  refine ⟨xs, elem, (0, 0), by simp, ?_⟩
  refine { fits := by simp, le := hle, shut := hshut, cell := ?_, free := fun _ k _ => by simp, whole := fun _ => ⟨rfl, by simp, fun _ => rfl⟩, room := hroom }
  intro k a hk
  obtain ⟨x, hx, hvx⟩ := hv.at hk
  have hkl : k < c.length := (List.getElem?_eq_some_iff.1 hk).1
  rw [List.getElem?_take, if_pos hkl] at hx
  exact ⟨x, by simpa using hx, VR.mono (Env.put_le h _) _ _ hvx⟩

theorem new_p {q : Place} {id : Nat} (h0 : q.ba = 0) : VR (η.put id q) (.p id 0) (.pointer (some ⟨q.bl, 0, none⟩)) := by
  simp only [VR]; exact ⟨q, by simp [Env.put], by simp [h0]⟩

theorem alloc_ok (h : SR P η σ w) {t : TypeId} {z : List AV} (hz : zeroCellsOf P t = some z) :
    ∃ y w' η', (Instr.alloc t true (.tuple #[])).run P w = .ok y w' ∧ St P η σ w η' (σ.new (.cells z t true false)) w' ∧ VR η' (.p σ.next 0) y := by
  obtain ⟨zv, hzr, hzv⟩ := run_zero hz
  have hl := (hzv η).length
  refine ⟨_, _, _, ?_, cells_new h (xs := zv.cells) (es := 0) (opn := false) ?_ (by simpa using Nat.le_of_eq hl) (fun _ => by simpa using hl) (by simp), new_p rfl⟩
  · simp only [Instr.alloc, Sem.run_bind, hzr, Result.andThen_ok, newVar, newRow, newObj, Sem.run, Sem.run_pure]
  · rw [hl, List.take_length]; exact hzv η

theorem box_ok (h : SR P η σ w) {t : TypeId} {a : AV} {x : Value} (hx : VR η a x) :
    ∃ y w' η', (Instr.box t x).run P w = .ok y w' ∧ St P η σ w η' (σ.new (.cells a.cells t true false)) w' ∧ VR η' (.p σ.next 0) y := by
  have hc := cells_VRs hx
  have hl := hc.length
  refine ⟨_, _, _, ?_, cells_new h (xs := x.cells) (es := 0) (opn := false) ?_ (by simpa using Nat.le_of_eq hl) (fun _ => by simpa using hl) (by simp), new_p rfl⟩
  · simp only [Instr.box, Sem.run_bind, Result.andThen_ok, newVar, newRow, newObj, Sem.run, Sem.run_pure]
  · rw [hl, List.take_length]; exact hc

theorem elemInfo_some {t e : TypeId} {size bytes : Nat} {z : List AV} (h : elemInfo P t = some (e, size, bytes, z)) :
    P.underlying t = some (.slice e) ∧ (∃ i, P.info? e = some i ∧ i.size = size ∧ i.bytes = bytes) ∧ zeroCellsOf P e = some z ∧ e ≠ 0 ∧ z.length = size ∧ sizeT P e = some size := by
  unfold elemInfo at h
  split at h
  · next e' hu =>
    split at h
    · next i z' hi hz =>
      split at h
      · next hc =>
        cases h
        exact ⟨hu, ⟨i, hi, rfl, rfl⟩, hz, hc.1, hc.2, by simp [sizeT, hi]⟩
      · cases h
    · cases h
  · cases h

theorem repl_get {z : List AV} : ∀ (n k : Nat), k < n * z.length → (repl n z)[k]? = z[k % z.length]?
  | 0, k, h => by simp at h
  | n + 1, k, h => by
    have hs : repl (n + 1) z = z ++ repl n z := by simp [repl, List.replicate_succ]
    rw [hs]
    have hp : 0 < z.length := by rcases Nat.eq_zero_or_pos z.length with e | e <;> simp_all
    by_cases hk : k < z.length
    · rw [List.getElem?_append_left hk, Nat.mod_eq_of_lt hk]
    · rw [List.getElem?_append_right (by omega), repl_get n (k - z.length) (by rw [Nat.succ_mul] at h; omega)]
      congr 1
      have : k = (k - z.length) + z.length := by omega
      rw [this, Nat.add_mod_right]; congr 1; omega
theorem repl_length {z : List AV} (n : Nat) : (repl n z).length = n * z.length := by simp [repl]

theorem zeros_VRs {z : List AV} {zv : Array Value} {n size : Nat} (hz : VRs η z zv.toList) (hs : z.length = size) : VRs η (repl n z) ((Array.range (n * size)).map (zv[· % zv.size]!)).toList := by
  have hl := hz.length
  simp only [Array.length_toList] at hl
  refine VRs.of ?_ fun k a hk => ?_
  · rw [repl_length]; simp [hs]
  · have hkl : k < n * z.length := by have := (List.getElem?_eq_some_iff.1 hk).1; rwa [repl_length] at this
    rw [repl_get n k hkl] at hk
    obtain ⟨x, hx, hv⟩ := hz.at hk
    refine ⟨x, ?_, hv⟩
    have hk2 : k < n * size := by rw [← hs]; exact hkl
    rw [Array.getElem?_toList] at hx
    rw [Array.getElem?_toList, Array.getElem?_map, Array.getElem?_range, if_pos hk2]
    have hm : k % zv.size < zv.size := by
      have := (Array.getElem?_eq_some_iff.1 hx).1; rwa [hl] at this
    rw [hl] at hx
    simp [hm, getElem!_pos] 
    have := (Array.getElem?_eq_some_iff.1 hx).2
    exact this

end
end Go.Abs
