/- From a run of the evaluator to what a row asks of a world. -/
import Derived.Test.YtincemehblfipaaGreatDoorAbsPrims
import Derived.Lib.LaidU8
import Derived.ChangeSame
namespace Go.Abs
noncomputable section
variable [TabsOf]
set_option linter.unusedSectionVars false
open Go.ChangeShapes Go.WideShapes
variable {P : Program}

theorem and_mk {a b : Bool} (ha : a = true) (hb : b = true) : (a && b) = true := by rw [ha, hb]; rfl

/-- Nothing that stood in the world has changed. -/
structure Kept (W W' : World) : Prop where
  os : W'.os = W.os
  tape : W'.tape = W.tape
  output : W'.output = W.output
  size : W.heap.size ≤ W'.heap.size
  keep : ∀ bl, bl < W.heap.size → W'.heap[bl]? = W.heap[bl]?

theorem Kept.but {W W' : World} (h : Kept W W') (m : MemPlace → Prop) : W.keptBut W' m := by
  refine ⟨h.os, h.output, fun i hi => ?_⟩
  rw [h.keep i hi]
  cases hw : W.heap[i]? with
  | none => trivial
  | some o => cases o <;> first | exact ⟨rfl, rfl, rfl, fun _ _ => rfl⟩ | exact .inr ⟨rfl, rfl⟩ | rfl

theorem Kept.frozen {W W' : World} (h : Kept W W') (a : Addr) (ha : a.block < W.heap.size) : W'.frozen? a = W.frozen? a := by
  unfold World.frozen?
  rw [h.keep _ ha]

theorem St.kept {η η' : Env} {σ σ' : ASt} {w w' : World} (h : St P η σ w η' σ' w') (hno : ∀ id o, σ.get id = some o → o.own = false) : Kept w w' :=
  ⟨h.os, h.tape, h.output, h.size, fun bl hb => h.keep bl hb fun id o q h1 h2 _ _ => by rw [hno id o h1] at h2; cases h2⟩

/-- A function with a body: what 'CallN' says is what 'Calls' says. -/
theorem CallN.calls {f : FuncId} {fn : Func} {c : Code} {args : Array Value} {w : World} {R : Value → World → Prop} (hn : NamesOk P) (hf : P.funcs[f]? = some fn) (hc : fn.body = some c)
    (h : CallN P f args w R) : Calls P f args w fun e w' => ∃ v, e = .returned v ∧ R v w' := by
  rcases h with ⟨v, w', h, _⟩ | ⟨_, h⟩
  · have hname := hn f fn c hf hc
    simp only [callFunc, Sem.run_bind, program, Sem.run, Result.andThen_ok, hf] at h
    simp only [hname, Bool.false_eq_true, if_false, hc, Option.isNone_some, Sem.run_pure] at h
    cases h
  · exact h

theorem Calls.mono' {f : FuncId} {args : Array Value} {w : World} {R R' : Ending → World → Prop} (h : Calls P f args w R) (hR : ∀ e w', R e w' → R' e w') : Calls P f args w R' := by
  intro cs
  obtain ⟨e, w', fr, h1, h2⟩ := h cs
  exact ⟨e, w', fr, hR e w' h1, h2⟩

theorem kept_calls {f : FuncId} {fn : Func} {c : Code} {args : List AV} {vs : List Value} {w : World} {η : Env} {σ σ' : ASt} {r : AV} {call : Caller} (hcall : CallOk P call) (hn : NamesOk P) (hf : P.funcs[f]? = some fn) (hc : fn.body = some c)
    (hrun : call f args σ = some (r, σ')) (hS : SR P η σ w) (hv : VRs η args vs) (hno : ∀ id o, σ.get id = some o → o.own = false) :
    Calls P f ⟨vs⟩ w fun e w' => ∃ v, e = .returned v ∧ (∃ η', VR η' r v) ∧ Kept w w' :=
  Calls.mono' (CallN.calls hn hf hc (hcall f args σ r σ' hrun η w vs hS hv)) fun _ _ ⟨v, he, η', hst, hr⟩ => ⟨v, he, ⟨η', hr⟩, hst.kept hno⟩

/-- The evaluator's start: globals at their own numbers. -/
def envOf (n : Nat) (σ : ASt) (ro : Nat → Option Obj := fun _ => none) : Env := ⟨fun id => if id ≤ n then some ⟨id, 0, (match σ.get id with | some (.cells c _ _ _) => c.length | _ => 0), 0⟩ else none, ro⟩

structure TabAt (w : World) (g : Nat) (c : List AV) : Prop where
  at' : ∃ cs elem fr, w.heap[g]? = some (.cells cs elem fr) ∧ c.length ≤ cs.size ∧ ∀ (k : Nat) a, c[k]? = some a → ∃ x, cs[k]? = some x ∧ ∀ η, VR η a x

theorem SR_start {σ : ASt} {w : World} (hn : P.globals.size < σ.next) (hobj : ∀ id o, σ.get id = some o → id ≤ P.globals.size ∧ ∃ c, o = .cells c 0 false false ∧ TabAt w id c) {ro : Nat → Option Obj} (hro : ∀ b o, ro b = some o → w.heap[b]? = some o) (htab : ∀ p ∈ TabsOf.tabs, TabRo (envOf P.globals.size σ ro) p.1 p.2) : SR P (envOf P.globals.size σ ro) σ w := by
  refine ⟨fun g hg => ?_, fun id q hq => ?_, fun id o ho => ?_, fun id o id' o' q q' h1 h2 h3 hne => ?_, hro, fun id o q h1 h2 _ => ?_, htab⟩
  rotate_right
  · obtain ⟨_, c, rfl, _⟩ := hobj id o h1
    cases h2
  · exact ⟨_, _, by simp only [envOf]; rw [if_pos hg]⟩
  · simp only [envOf] at hq
    split at hq
    · omega
    · cases hq
  · obtain ⟨hid, c, rfl, ⟨cs, elem, fr, hb, hl, hk⟩⟩ := hobj id o ho
    refine ⟨⟨id, 0, c.length, 0⟩, ?_, cs, elem, fr, hb, ?_⟩
    · simp only [envOf]; rw [if_pos hid, ho]
    · refine ⟨by simpa using hl, Nat.le_refl _, fun _ => rfl, fun k a ha => ?_, (fun h => by cases h), fun h => absurd rfl h, (fun h => by cases h)⟩
      obtain ⟨x, hx, hv⟩ := hk k a ha
      exact ⟨x, by simpa using hx, hv _⟩
  · obtain ⟨_, c, rfl, _⟩ := hobj id o h1
    cases h2

/-- A table of integers, from the row's list. -/
theorem tabAt_ints {w : World} {name : String} {k : IntKind} {zs : List Int} {g : Nat} (h : Lib.TabIs P w name k zs) (hg : P.globalNamed name = some g) : TabAt w g (zs.map fun z => .i k z) := by
  unfold Lib.TabIs World.var? at h
  rw [hg] at h
  simp only [Option.bind_some] at h
  split at h
  · next cs elem fr hb =>
    cases h
    refine ⟨_, _, _, hb, by simp, fun i a ha => ?_⟩
    simp only [List.getElem?_map, Option.map_eq_some_iff] at ha
    obtain ⟨z, hz, rfl⟩ := ha
    exact ⟨.int k z, by simp [hz], fun η => by simp only [VR]⟩
  · cases h

/-- An array of pairs of integers, as a row lists it. -/
def pairData (k : IntKind) (n : Nat) (f : Nat → Int) : DataW Unit := .agg ((List.range n).map fun i => .agg ([f (2 * i), f (2 * i + 1)].map fun z => .lit (.int k z)))

theorem tabAt_pairs {w : World} {name : String} {k : IntKind} {n : Nat} {f : Nat → Int} {g : Nat} {t e : TypeId} {fs : Array Field} (h : Lib.VarReads P w name (pairData k n f)) (hg : P.globalNamed name = some g)
    (hty : (P.globals[g]?).map (·.type) = some t) (ht : P.underlying t = some (.array n e)) (he : P.underlying e = some (.struct fs))
    (hf : ∀ (m : Nat) (fl : Field), fs[m]? = some fl → P.underlying fl.type = some (.int k) ∧ fl.offset = m ∧ P.cellsOf fl.type = 1) (hfs : fs.size = 2)
    (hce : P.cellsOf e = 2) (hct : P.cellsOf t = 2 * n) : TabAt w g ((List.range (2 * n)).map fun j => .i k (f j)) := by
  obtain ⟨g', t', cs, fuel, p, hg', hty', hvar, hd⟩ := h
  obtain rfl := Option.some.inj (hg.symm.trans hg')
  obtain rfl := Option.some.inj (hty.symm.trans hty')
  have hlen : cs.toList.length = 2 * n := by
    cases fuel with
    | zero => simp [DataW.trod] at hd
    | succ fuel =>
      simp only [DataW.trod, ht] at hd
      split at hd
      · next hl => rw [← hct]; exact hl
      · cases hd
  have hcell : ∀ j, j < 2 * n → cs[j]? = some (.int k (f j)) := by
    intro j hj
    obtain ⟨fuel', d, q, hdi, he'⟩ := Lib.array_elem ht hd (j / 2) (by omega)
    simp only [List.getElem?_map, List.getElem?_range (show j / 2 < n by omega), Option.map_some, Option.some.injEq] at hdi
    subst hdi
    rw [hce] at he'
    have hcs := Lib.ints_of_struct he hf (by rw [hce, hfs]) he'
    have e0 := congrArg (·[0]?) hcs
    have e1 := congrArg (·[1]?) hcs
    simp [List.getElem?_drop] at e0 e1
    by_cases hm : j % 2 = 0
    · have : j / 2 * 2 = j := by omega
      rw [this] at e0
      rw [e0]
      congr 3; omega
    · have : j / 2 * 2 + 1 = j := by omega
      rw [this] at e1
      rw [e1]
      congr 3; omega
  unfold World.var? at hvar
  rw [hg] at hvar
  simp only [Option.bind_some] at hvar
  split at hvar
  · next cs' elem fr hb =>
    cases hvar
    refine ⟨_, _, _, hb, by simp at hlen ⊢; omega, fun j a ha => ?_⟩
    simp only [List.getElem?_map, Option.map_eq_some_iff] at ha
    obtain ⟨m, hm, rfl⟩ := ha
    have hjl : j < 2 * n := by
      have := (List.getElem?_eq_some_iff.1 hm).1
      simpa using this
    rw [List.getElem?_range hjl] at hm
    cases hm
    exact ⟨_, hcell j hjl, fun η => by simp only [VR]⟩
  · cases hvar

/-- What a row asks, where no block that stood before is changed. -/
theorem post_of_kept {H : Type} {enc : TypeId × Value → H} {f : Func} {s : ChangeSpec} {apart fresh handsOn again : Bool} {W W' : World} {args : Array Value} {v : Value} {ds gs : List (DataW H)} {before pa pv : List MemPlace}
    (hW : DataW.Whole enc P f.params.toList s.vars apart W args.toList ds gs before)
    (hres : ∀ (b : Nat) (sp : Nat → Bool) (hd : Bool), DataW.TrodAll enc P W' b sp hd f.resultTypes.toList (v.resultList f.resultTypes.size) (s.fn H (ds ++ gs)).results [])
    (hargs : ∀ sp : Nat → Bool, (∀ p ∈ before, sp p.block = true) → DataW.TrodAll enc P W' 0 sp true f.params.toList args.toList (s.fn H (ds ++ gs)).args pa)
    (hvars : ∀ sp : Nat → Bool, (∀ p ∈ before, sp p.block = true) → DataW.TrodVars enc P W' sp s.vars (s.fn H (ds ++ gs)).vars pv)
    (hps : before = pa ++ pv) (hk : Kept W W')
    (hok : ∀ (j : Nat) (t : TypeId) (r : Value), f.resultTypes[j]? = some t → (v.resultList f.resultTypes.size)[j]? = some r → Value.okWide P W' .any 0 t r) :
    s.post enc P f apart fresh handsOn again W args v W' := by
  have hold : ∀ p ∈ before, (fun b => decide (b < W.heap.size)) p.block = true := fun p hp => by simpa using hW.lt p hp
  have hlt := fun p hp => hW.lt p hp
  refine ⟨ds, gs, before, [], pa, pv, hW, hres _ _ _, hargs _ hold, hvars _ hold, World.keptBut_mono (fun p hp => ⟨hp, ?_⟩) (hk.but (· ∈ before)), fun _ => ?_⟩
  · rw [hps, List.mem_append] at hp
    exact Or.inr hp
  · obtain ⟨_, _, _, _, _, hz, hn⟩ := hW
    refine ⟨hok, _, _, ([] ++ pa) ++ pv, ⟨[] ++ pa, pv, trodAll_append (hargs _ (fun _ _ => rfl)) (hres _ _ _), hvars _ (fun _ _ => rfl), rfl, ?_, ?_⟩, ?_⟩
    · intro b off hp
      have hp' : MemPlace.cell b off ∈ before := by rw [hps]; simpa using hp
      have hb := hlt _ hp'
      rw [hk.frozen ⟨b, off, none⟩ hb]
      exact hz b off hp'
    · intro ha
      have := hn ha
      rw [hps] at this
      simpa using this
    · intro p hp _
      rw [hps]
      simpa using hp
end
end Go.Abs
