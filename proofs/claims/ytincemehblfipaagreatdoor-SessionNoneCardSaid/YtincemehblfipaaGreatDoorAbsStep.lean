/- One operation of a region; a region in the order of the text. -/
import Derived.Test.YtincemehblfipaaGreatDoorAbsOps10
namespace Go.Abs
noncomputable section
variable [TabsOf]
set_option linter.unusedSectionVars false
set_option linter.unusedVariables false
set_option linter.unusedSimpArgs false
variable {P : Program} {η : Env} {σ σ' : ASt} {w : World}

/-- The slots. -/
structure TR (P : Program) (η : Env) (a : AAct) (A : Act) : Prop where
  gn : a.gn = P.globals.size
  size : A.tmps.size = a.n
  none : A.defers = []
  slot : ∀ t v, a.t.get t = some v → ∃ x, A.tmps[t]? = some x ∧ VR η v x

theorem TR.mono {η η' : Env} {a : AAct} {A : Act} (h : TR P η a A) (hle : η.le η') : TR P η' a A :=
  ⟨h.gn, h.size, h.none, fun t v hv => by obtain ⟨x, hx, hr⟩ := h.slot t v hv; exact ⟨x, hx, VR.mono hle _ _ hr⟩⟩

theorem TR.put {a a' : AAct} {A : Act} {dst : Option Tmp} {r : Option AV} {x : Value} (h : TR P η a A) (hp : a.put dst r = some a') (hr : ∀ v, r = some v → VR η v x) : TR P η a' (A.put dst x) := by
  unfold AAct.put at hp
  split at hp
  · cases hp; exact h
  · next d =>
    split at hp
    · next hd =>
      cases hp
      refine ⟨h.gn, by simp [Act.put, h.size], h.none, fun t v hv => ?_⟩
      rw [Tr.get_set] at hv
      show ∃ y, (A.tmps.setIfInBounds d x)[t]? = some y ∧ _
      rw [Array.getElem?_setIfInBounds]
      split at hv
      · next e =>
        subst e
        rw [if_pos rfl, if_pos (by rw [h.size]; exact hd)]
        exact ⟨x, rfl, hr v hv⟩
      · next e => rw [if_neg (fun e' => e e'.symm)]; exact h.slot t v hv
    · cases hp

theorem eval_ok {a : AAct} {A : Act} (h : SR P η σ w) (ht : TR P η a A) (x : Operand) (v : AV) (hv : a.eval x = some v) : VR η v (A.eval x) := by
  cases x with
  | tmp t =>
    obtain ⟨y, hy, hr⟩ := ht.slot t v hv
    simp only [Act.eval]
    rw [Array.getD_eq_getD_getElem?, hy]; exact hr
  | const c => exact ofVal_VR _ _ _ hv
  | global g =>
    simp only [AAct.eval] at hv
    split at hv
    · next hg =>
      cases hv
      rw [ht.gn] at hg
      obtain ⟨sz, es, h1⟩ := h.glob g (Nat.le_of_lt hg)
      simp only [VR, Act.eval]
      exact ⟨_, h1, by simp⟩
    · cases hv
  | func f =>
    simp only [AAct.eval, Option.some.injEq] at hv; subst hv
    simp only [VR, Act.eval]
    exact ⟨[], [], rfl, by simp [VRs], by simp [VRs]⟩

def OpRes (P : Program) (η : Env) (σ : ASt) (w : World) (r : Option AV) (σ' : ASt) (s : Sem Next) : Prop :=
  ∃ nx w' η', s.run P w = .ok nx w' ∧ St P η σ w η' σ' w' ∧ (match r with | some v => ∃ x, nx = .value x ∧ VR η' v x | none => nx = .skip)

theorem opV {r : AV} {s : Sem Value} (h : ∃ y w' η', s.run P w = .ok y w' ∧ St P η σ w η' σ' w' ∧ VR η' r y) : OpRes P η σ w (some r) σ' (do pure (.value (← s))) := by
  obtain ⟨y, w', η', h1, h2, h3⟩ := h
  exact ⟨.value y, w', η', by simp only [Sem.run_bind, h1, Result.andThen_ok, Sem.run_pure], h2, y, rfl, h3⟩
theorem opU {s : Sem Unit} (h : ∃ w' η', s.run P w = .ok () w' ∧ St P η σ w η' σ' w') : OpRes P η σ w none σ' (do s; pure .skip) := by
  obtain ⟨w', η', h1, h2⟩ := h
  exact ⟨.skip, w', η', by simp only [Sem.run_bind, h1, Result.andThen_ok, Sem.run_pure], h2, rfl⟩
theorem pureV {r : AV} {s : Sem Value} (h : SR P η σ w) (hs : ∃ y, s.run P w = .ok y w ∧ VR η r y) : ∃ y w' η', s.run P w = .ok y w' ∧ St P η σ w η' σ w' ∧ VR η' r y := by
  obtain ⟨y, h1, h2⟩ := hs
  exact ⟨y, w, η, h1, St.refl h, h2⟩

theorem retV_some {v : Option AV} {r : Option AV} (h : retV σ v = some (r, σ')) : ∃ u, v = some u ∧ r = some u ∧ σ' = σ := by
  simp only [retV, Option.map_eq_some_iff, Prod.mk.injEq] at h
  obtain ⟨u, h1, h2, h3⟩ := h
  exact ⟨u, h1, h2.symm, h3.symm⟩
theorem retVS_some {v : Option (AV × ASt)} {r : Option AV} (h : retVS v = some (r, σ')) : ∃ u, v = some (u, σ') ∧ r = some u := by
  simp only [retVS, Option.map_eq_some_iff, Prod.exists, Prod.mk.injEq] at h
  obtain ⟨u, s, h1, h2, h3⟩ := h
  subst h3
  exact ⟨u, h1, h2.symm⟩
theorem retS_some {v : Option ASt} {r : Option AV} (h : retS v = some (r, σ')) : v = some σ' ∧ r = none := by
  simp only [retS, Option.map_eq_some_iff, Prod.mk.injEq] at h
  obtain ⟨s, h1, h2, h3⟩ := h
  subst h3
  exact ⟨h1, h2.symm⟩

theorem asBool_ok {c : Value} {t : Bool} (h : VR η (.b t) c) : (asBool c).run P w = .ok t w := by
  simp only [VR] at h; subst h; rfl

theorem arr1 {α : Type} {ts : Array α} {a : α} (h : ts.toList = [a]) : ts = #[a] := by
  cases ts; simp at h; subst h; rfl

/-- The built-in functions. -/
theorem clear_ok (h : SR P η σ w) {ts : Array TypeId} {ty t : TypeId} {x v : AV} {u : Value} (ht : ts[0]? = some t) (hs : aClear P t x σ = some (v, σ')) (hu : VR η x u) :
    ∃ y w' η', (Builtin.clear_ ts ty #[u]).run P w = .ok y w' ∧ St P η σ w η' σ' w' ∧ VR η' v y := by
  have hun : ∀ η' : Env, VR η' (.tup []) (.tuple #[]) := fun η' => by simp only [VR]; exact ⟨[], rfl, by simp [VRs]⟩
  unfold aClear at hs
  split at hs
  · next e hut =>
    cases hs
    simp only [VR] at hu; subst hu
    exact ⟨_, w, η, by simp only [Builtin.clear_, ht, List.getElem?_toArray, List.getElem?_cons_zero, Sem.run_bind, run_under hut, Result.andThen_ok, Sem.run_pure], St.refl h, hun _⟩
  · next e hut =>
    cases hs
    simp only [VR] at hu
    rcases hu with ⟨_, rfl⟩ | ⟨bl, off, c, xs, sz, rfl, _⟩
    · exact ⟨_, w, η, by simp only [Builtin.clear_, ht, List.getElem?_toArray, List.getElem?_cons_zero, Sem.run_bind, run_under hut, Result.andThen_ok, Sem.run_pure], St.refl h, hun _⟩
    · exact ⟨_, w, η, by simp only [Builtin.clear_, ht, List.getElem?_toArray, List.getElem?_cons_zero, Sem.run_bind, run_under hut, Result.andThen_ok, Sem.run_pure, List.length_nil], St.refl h, hun _⟩
  · next e id off n cap hut =>
    simp only [VR] at hu
    obtain ⟨q, hq, _, rfl⟩ := hu
    split at hs
    · next h0 =>
      cases hs; subst h0
      exact ⟨_, w, η, by simp only [Builtin.clear_, ht, List.getElem?_toArray, List.getElem?_cons_zero, Sem.run_bind, run_under hut, Result.andThen_ok, Sem.run_pure], St.refl h, hun _⟩
    · next h0 =>
      split at hs
      · next z c et opn hz hg =>
        split at hs
        · next hc =>
          simp only [Option.map_eq_some_iff] at hs
          obtain ⟨c', hr, e1⟩ := hs
          cases e1
          obtain ⟨zv, hzr, hzv⟩ := run_zero hz
          have hzs := zeros_VRs (n := n) (size := z.length) (hzv η) rfl
          have hlen := (hzv η).length
          have hone : (repl n z).all AV.isAddrOrScalar = true := by
            rw [List.all_eq_true]
            intro a ha
            unfold repl at ha
            simp only [List.mem_flatten, List.mem_replicate] at ha
            obtain ⟨l, ⟨_, rfl⟩, ha⟩ := ha
            exact List.all_eq_true.1 hc.2 a ha
          obtain ⟨w', hrun, hst⟩ := write_ok h hg hc.1 hq hr hzs hone
          refine ⟨_, w', η, ?_, hst, hun _⟩
          have hzc : (Builtin.zeroCells zv.cells n) = (Array.range (n * z.length)).map (zv.cells[· % zv.cells.size]!) := by
            unfold Builtin.zeroCells
            rw [hlen]; simp
          obtain ⟨m, rfl⟩ : ∃ m, n = m + 1 := ⟨n - 1, by omega⟩
          simp only [Builtin.clear_, ht, List.getElem?_toArray, List.getElem?_cons_zero, Sem.run_bind, run_under hut, Result.andThen_ok, hzr]
          rw [hzc, hrun]
          rfl
        · cases hs
      · cases hs
  · next k e hut =>
    cases hs
    simp only [VR] at hu; subst hu
    exact ⟨_, w, η, by simp only [Builtin.clear_, ht, List.getElem?_toArray, List.getElem?_cons_zero, Sem.run_bind, run_under hut, Result.andThen_ok, Sem.run_pure], St.refl h, hun _⟩
  · next k e id hut =>
    split at hs
    · next es hg =>
      split at hs
      · next hl =>
        cases hs
        simp only [VR] at hu
        obtain ⟨q, hq, rfl⟩ := hu
        obtain ⟨q', hq', ms, clock, hb, hsz, _⟩ := h.obj _ _ hg
        rw [hq] at hq'; cases hq'
        refine ⟨.tuple #[], setBlk w q.bl (.map #[] clock), η, ?_, St.write h hg rfl hl hq setBlk_size (fun k hk => setBlk_ne hk) rfl rfl rfl ⟨#[], clock, setBlk_at hb, rfl, by simp⟩, hun _⟩
        simp only [Builtin.clear_, ht, List.getElem?_toArray, List.getElem?_cons_zero, Sem.run_bind, run_under hut, Result.andThen_ok, getObj, Sem.run, hb, setObj_ok hb (fun _ _ _ => by simp), Sem.run_pure]
      · cases hs
    · cases hs
  · cases hs

theorem builtin_ok (h : SR P η σ w) {b : Builtin} {ts : Array TypeId} {ty : TypeId} {cs : Array Bool} {args : List AV} {vs : List Value} {r : Option AV} (hs : aBuiltin P b ts args σ = some (r, σ')) (hv : VRs η args vs) :
    OpRes P η σ w r σ' (builtin b ts ty cs ⟨vs⟩) := by
  unfold aBuiltin at hs
  split at hs
  · next x =>
    simp only [VRs] at hv
    obtain ⟨u, _, rfl, hu, rfl⟩ := hv
    split at hs
    · next t ht =>
      obtain ⟨v, h1, rfl, rfl⟩ := retV_some hs
      exact opV (pureV h (len_ok h ht h1 hu))
    · cases hs
  · next s x =>
    simp only [VRs] at hv
    obtain ⟨u, _, rfl, hu, u', _, rfl, hu', rfl⟩ := hv
    obtain ⟨v, h1, rfl⟩ := retVS_some hs
    exact opV (append_ok h h1 hu hu')
  · next s x =>
    simp only [VRs] at hv
    obtain ⟨u, _, rfl, hu, u', _, rfl, hu', rfl⟩ := hv
    obtain ⟨v, h1, rfl⟩ := retVS_some hs
    exact opV (copy_ok h h1 hu hu')
  · next x =>
    simp only [VRs] at hv
    obtain ⟨u, _, rfl, hu, rfl⟩ := hv
    split at hs
    · next t ht =>
      obtain ⟨v, h1, rfl⟩ := retVS_some hs
      exact opV (clear_ok h ht h1 hu)
    · cases hs
  · simp only [VRs] at hv
    obtain ⟨u, _, rfl, hu, rfl⟩ := hv
    obtain ⟨v, h1, rfl, rfl⟩ := retV_some hs
    cases h1
    simp only [VR] at hu; subst hu
    exact opV (pureV h ⟨_, sliceData_nil, by simp only [VR]⟩)
  · next id off n cap =>
    split at hs
    · cases hs
    · next hc =>
      simp only [VRs] at hv
      obtain ⟨u, _, rfl, hu, rfl⟩ := hv
      obtain ⟨v, h1, rfl, rfl⟩ := retV_some hs
      cases h1
      simp only [VR] at hu
      obtain ⟨q, hq, hle, rfl⟩ := hu
      refine opV (pureV h ⟨_, sliceData_some ?_, by simp only [VR]; exact ⟨q, hq, rfl⟩⟩)
      intro e
      rw [e] at hle
      have hn : n = 0 := by omega
      subst hn
      cases cap with
      | none => exact hc ⟨rfl, .inl rfl⟩
      | some c => simp only [Option.getD_some] at e; subst e; exact hc ⟨rfl, .inr rfl⟩
  · next x n =>
    simp only [VRs] at hv
    obtain ⟨u, _, rfl, hu, u', _, rfl, hu', rfl⟩ := hv
    simp only [VR] at hu'; subst hu'
    split at hs
    · next t it hts =>
      have := arr2 hts; subst this
      split at hs
      · next h0 =>
        subst h0
        split at hs
        · obtain ⟨v, h1, rfl, rfl⟩ := retV_some hs
          cases h1
          simp only [VR] at hu; subst hu
          exact opV (pureV h ⟨_, unsafeString_zero, by simp only [VR]⟩)
        · obtain ⟨v, h1, rfl, rfl⟩ := retV_some hs
          cases h1
          simp only [VR] at hu
          obtain ⟨q, hq, rfl⟩ := hu
          exact opV (pureV h ⟨_, unsafeString_zero, by simp only [VR]⟩)
        · cases hs
      · split at hs
        · next id off =>
          split at hs
          · next e c et opn hut hg =>
            split at hs
            · next hc =>
              obtain ⟨rfl, c1, c2, c3, c4, c5⟩ := hc
              split at hs
              · next r' hr =>
                split at hs
                · next b hb =>
                  cases hs
                  simp only [VR] at hu
                  obtain ⟨q, hq, rfl⟩ := hu
                  obtain ⟨y, w', h1, h2, h3⟩ := unsafeString_ok (it := it) (ty := ty) h hut hg c1 c2 c3 c4 c5 hr hb hq
                  exact opV ⟨y, w', η, h1, h2, h3⟩
                · cases hs
              · cases hs
            · cases hs
          · cases hs
        · cases hs
    · cases hs
  · next x y =>
    simp only [VRs] at hv
    obtain ⟨u, _, rfl, hu, u', _, rfl, hu', rfl⟩ := hv
    split at hs
    · next a a' h1 h2 =>
      obtain ⟨v, h3, rfl, rfl⟩ := retV_some hs
      simp only [Option.bind_eq_some_iff] at h3
      obtain ⟨z, hz, hvz⟩ := h3
      rw [scalar_VR h1 hu, scalar_VR h2 hu']
      exact opV (pureV h ⟨z, pureRun_run hz w, ofVal_VR _ _ _ hvz⟩)
    · cases hs
  · next x y =>
    simp only [VRs] at hv
    obtain ⟨u, _, rfl, hu, u', _, rfl, hu', rfl⟩ := hv
    split at hs
    · next a a' h1 h2 =>
      obtain ⟨v, h3, rfl, rfl⟩ := retV_some hs
      simp only [Option.bind_eq_some_iff] at h3
      obtain ⟨z, hz, hvz⟩ := h3
      rw [scalar_VR h1 hu, scalar_VR h2 hu']
      exact opV (pureV h ⟨z, pureRun_run hz w, ofVal_VR _ _ _ hvz⟩)
    · cases hs
  · cases hs

end
end Go.Abs
