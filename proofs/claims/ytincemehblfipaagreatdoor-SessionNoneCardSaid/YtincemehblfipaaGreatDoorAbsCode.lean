/- Regions, code, calls: what the evaluator answers, the model does. -/
import Derived.Test.YtincemehblfipaaGreatDoorAbsStep2
namespace Go.Abs
noncomputable section
variable [TabsOf]
set_option linter.unusedSectionVars false
set_option linter.unusedVariables false
set_option linter.unusedSimpArgs false
variable {P : Program} {η : Env} {σ σ' : ASt} {w : World}

theorem VRs.toArr {l : List AV} {vs : List Value} (h : VRs η l vs) : VRs η l vs := h

theorem cons_arr (r : Value) (l : List Value) : (#[r] ++ (⟨l⟩ : Array Value)) = ⟨r :: l⟩ := by apply Array.ext'; simp
theorem invoke_method (name : String) (r : Value) (l : List Value) : invoke (.fn (.method name) #[]) (#[r] ++ (⟨l⟩ : Array Value)) = callMethod r name ⟨l⟩ := by
  rw [cons_arr]
  have e1 : (⟨r :: l⟩ : Array Value)[0]? = some r := by simp
  have e2 : (⟨r :: l⟩ : Array Value).extract 1 (⟨r :: l⟩ : Array Value).size = ⟨l⟩ := by apply Array.ext'; simp
  have : invoke (.fn (.method name) #[]) (⟨r :: l⟩ : Array Value) = (do
    let some recv := (⟨r :: l⟩ : Array Value)[0]? | stuck "call: a method without a receiver"
    callMethod recv name ((⟨r :: l⟩ : Array Value).extract 1 (⟨r :: l⟩ : Array Value).size)) := rfl
  rw [this, e1, e2]

/-- A call through an interface value: whose method it is, and with which receiver. -/
theorem method_ok (h : SR P η σ w) {name : String} {a rv : AV} {f : FuncId} {x : Value} (hs : aMethod P name σ a = some (f, rv)) (hx : VR η a x) (args : Array Value) :
    ∃ y, (callMethod x name args).run P w = (callFunc f (#[y] ++ args)).run P w ∧ VR η rv y := by
  unfold aMethod at hs
  split at hs
  · next t v =>
    simp only [VR] at hx
    obtain ⟨xv, rfl, hv⟩ := hx
    split at hs
    · next i d hi hd =>
      split at hs
      · next m hm =>
        split at hs
        · next f' ptr hp hf =>
          have hmeth : ∀ y, (receiverAt t (.val xv) ptr (some ((name.splitOn ".").getLastD name))).run P w = .ok y w →
              (callMethod (.iface t xv) name args).run P w = (callFunc f' (#[y] ++ args)).run P w := by
            intro y hr
            have hpe : m.path.isEmpty = true := by simpa using hp
            have : ∀ n : Nat, (method (n + 1) t xv name).run P w = .ok (f', y) w := by
              intro n
              simp only [method, Sem.run_bind, run_info hi, Result.andThen_ok, hm, hp, follow, Sem.run_pure, hf, hpe, if_true, hr]
            simp only [callMethod, Sem.run_bind, program, Sem.run, Result.andThen_ok]
            rw [show P.types.size + Made.depth = (P.types.size + Made.depth - 1) + 1 by simp [Made.depth], this]
            rfl
          split at hs
          · next e =>
            cases hs
            exact ⟨xv, hmeth _ (by simp only [receiverAt, Sem.run_bind, run_under hd, Result.andThen_ok, Go.Place.get, Sem.run_pure]), hv⟩
          · next e =>
            split at hs
            · next id off =>
              simp only [Option.map_eq_some_iff, Prod.mk.injEq] at hs
              obtain ⟨z, hz, rfl, rfl⟩ := hs
              obtain ⟨y, hy, hvy⟩ := load_ok h hz hv
              simp only [VR] at hv
              obtain ⟨q, hq, rfl⟩ := hv
              refine ⟨y, hmeth _ ?_, hvy⟩
              have hy' : (loadVar e ⟨q.bl, q.ba + off, none⟩).run P w = .ok y w := by simpa [Instr.loadAt, Instr.sureAddr] using hy
              have hwrap : ∀ nm : String, (Builtin.ssaWrapNilChk_ #[t] t #[.pointer (some ⟨q.bl, q.ba + off, none⟩), strVal "", strVal nm]).run P w = .ok (.pointer (some ⟨q.bl, q.ba + off, none⟩)) w := fun _ => rfl
              have has : (asAddr (.pointer (some ⟨q.bl, q.ba + off, none⟩))).run P w = .ok ⟨q.bl, q.ba + off, none⟩ w := rfl
              simp only [receiverAt, Sem.run_bind, run_under hd, Result.andThen_ok, Go.Place.get, Sem.run_pure, hwrap, has, hy']
            · cases hs
          · cases hs
          · next h1 h2 h3 =>
            cases hs
            refine ⟨xv, hmeth _ ?_, hv⟩
            simp only [receiverAt, Sem.run_bind, run_under hd, Result.andThen_ok]
            cases d <;> simp only [Go.Place.get, Sem.run_pure]
            all_goals simp_all
        · cases hs
      · cases hs
    · cases hs
  · cases hs

/-- A call as an operation. -/
theorem call_step (h : SR P η σ w) {call : Caller} (hcall : CallOk P call) {o : Oper} {a : AAct} {A : Act} (ht : TR P η a A) (hc : isCall o.op = true) {r : Option AV} {K : Act → World → Prop} {Q : Exit → Act → World → Prop}
    (hs : aOp P call o a.eval σ = some (r, σ')) (hK : ∀ v x η' w', r = some v → St P η σ w η' σ' w' → VR η' v x → K (A.put o.dst x) w') : o.wp P A w K Q := by
  have hρ : ∀ x v, a.eval x = some v → VR η v (A.eval x) := fun x v hv => eval_ok h ht x v hv
  unfold aOp at hs
  cases hop : o.op with
  | call c =>
    rw [hop] at hc hs
    simp only at hs
    split at hs
    · next args hargs =>
      obtain ⟨callee, cargs, at'⟩ := c
      cases callee with
      | builtin b => simp [isCall] at hc
      | invoke rc name =>
        simp only at hs
        split at hs
        · next f rv hf =>
          simp only [Option.bind_eq_some_iff] at hf
          obtain ⟨iv, hiv, hf⟩ := hf
          obtain ⟨u, h1, rfl⟩ := retVS_some hs
          have hav := evals_ok hρ hargs
          obtain ⟨y, hm, hy⟩ := method_ok h hf (hρ _ _ hiv) (⟨cargs.toList.map A.eval⟩)
          have hcn := hcall _ _ _ _ _ h1 η w (y :: cargs.toList.map A.eval) h (VRs.cons hy hav)
          have hexec : (execOp A.eval o).run P w = (callFunc f ⟨y :: cargs.toList.map A.eval⟩).run P w := by
            unfold execOp
            rw [hop]
            have e0 : cargs.map A.eval = ⟨cargs.toList.map A.eval⟩ := by apply Array.ext'; simp
            simp only [resolve, pure_bind, e0]
            rw [invoke_method, hm, cons_arr]
          unfold Oper.wp
          rw [hexec]
          rcases hcn with ⟨v, w', hrun, η', hst, hv⟩ | ⟨hrun, hcalls⟩
          · rw [hrun]
            exact hK u v η' w' rfl hst hv
          · rw [hrun]
            refine Calls.mono hcalls ?_
            rintro e w' ⟨v, rfl, η', hst, hv⟩
            exact hK u v η' w' rfl hst hv
        · cases hs
      | value f =>
        simp only at hs
        split at hs
        · next fn fi caps hf =>
          obtain ⟨u, h1, rfl⟩ := retVS_some hs
          have hfv := hρ _ _ hf
          simp only [VR] at hfv
          obtain ⟨us, vs, hfe, hfi, hcaps⟩ := hfv
          have hav := evals_ok hρ hargs
          have hcn := hcall _ _ _ _ _ h1 η w (us ++ cargs.toList.map A.eval ++ vs) h ((hfi.append hav).append hcaps)
          have hexec : (execOp A.eval o).run P w = (callFunc fn ⟨us ++ cargs.toList.map A.eval ++ vs⟩).run P w := by
            unfold execOp
            rw [hop]
            simp only [resolve, hfe, Deferred.ofValue, pure_bind, invoke]
            congr 2
            apply Array.ext'
            simp
          unfold Oper.wp
          rw [hexec]
          rcases hcn with ⟨v, w', hrun, η', hst, hv⟩ | ⟨hrun, hcalls⟩
          · rw [hrun]
            exact hK u v η' w' rfl hst hv
          · rw [hrun]
            refine Calls.mono hcalls ?_
            rintro e w' ⟨v, rfl, η', hst, hv⟩
            exact hK u v η' w' rfl hst hv
        · cases hs
    · cases hs
  | _ => rw [hop] at hc; simp [isCall] at hc

theorem yielded_ok {ops : Array Oper} {j : Nat} {o : Oper} {d : Nat} {a : AAct} {A : Act} {x : Bool} (ht : TR P η a A) (ho : ops[j]? = some o) (hd : o.dst = some d) (hx : a.t.get d = some (.b x)) : yielded ops A.tmps j = some x := by
  obtain ⟨y, hy, hv⟩ := ht.slot d _ hx
  simp only [VR] at hv; subst hv
  simp only [yielded, ho, Option.bind_some, hd, hy]

theorem wanted_ok {o : Oper} {ops : Array Oper} {a : AAct} {A : Act} {b : Bool} (ht : TR P η a A) (hw : wantedA o ops a = some b) : Region.wanted o (yielded ops A.tmps) = b := by
  unfold wantedA at hw
  unfold Region.wanted
  split at hw
  · next hg => rw [hg]; cases hw; rfl
  · next j want hg =>
    rw [hg]
    split at hw
    · next q hq =>
      split at hw
      · next d hd =>
        split at hw
        · next x hx =>
          cases hw
          simp only [yielded_ok ht hq hd hx]
          cases x <;> cases want <;> rfl
        · cases hw
      · cases hw
    · cases hw

theorem step_ok (h : SR P η σ w) {call : Caller} (hcall : CallOk P call) {ops : Array Oper} {i : Nat} {a a' : AAct} {A : Act} (ht : TR P η a A) {K : Act → World → Prop} {Q : Exit → Act → World → Prop}
    (hs : aStep P call ops i a σ = some (a', σ')) (hK : ∀ η' A' w', St P η σ w η' σ' w' → TR P η' a' A' → K A' w') : wpOp P ops Q i K A w := by
  unfold aStep at hs
  unfold wpOp
  split at hs
  · cases hs
  · next o ho =>
    rw [ho]
    simp only
    split at hs
    · cases hs
    · next hw =>
      rw [wanted_ok ht hw]
      simp only [Bool.false_eq_true, if_false]
      simp only [Option.map_eq_some_iff, Prod.mk.injEq] at hs
      obtain ⟨a1, hp, rfl, rfl⟩ := hs
      exact hK η _ w (St.refl h) (ht.put hp (by simp))
    · next hw =>
      rw [wanted_ok ht hw]
      simp only [if_true]
      split at hs
      · cases hs
      · next r σ1 hop =>
        rw [fOp_eq] at hop
        simp only [Option.map_eq_some_iff, Prod.mk.injEq] at hs
        obtain ⟨a1, hp, rfl, rfl⟩ := hs
        left
        cases hc : isCall o.op with
        | true =>
          refine call_step h hcall ht hc hop fun v x η' w' hr hst hv => ?_
          exact hK η' _ w' hst ((ht.mono hst.ext).put hp (fun u hu => by rw [hr] at hu; cases hu; exact hv))
        | false =>
          obtain ⟨nx, w', η', hrun, hst, hres⟩ := op_ok h (fun x v hv => eval_ok h ht x v hv) hc hop
          unfold Oper.wp
          rw [hrun]
          cases r with
          | none => subst hres; exact hK η' _ w' hst ((ht.mono hst.ext).put hp (by simp))
          | some v =>
            obtain ⟨x, rfl, hv⟩ := hres
            exact hK η' _ w' hst ((ht.mono hst.ext).put hp (fun u hu => by cases hu; exact hv))

theorem ops_ok {call : Caller} (hcall : CallOk P call) {ops : Array Oper} {Q : Exit → Act → World → Prop} : ∀ (l : List Nat) {η : Env} {σ : ASt} {w : World} {a a' : AAct} {A : Act}, SR P η σ w → TR P η a A →
    aOps P call ops l a σ = some (a', σ') → (∀ η' A' w', St P η σ w η' σ' w' → TR P η' a' A' → Q .normal A' w') → wpOps P ops Q l A w
  | [], η, σ, w, a, a', A, h, ht, hs, hK => by
    simp only [aOps, Option.some.injEq, Prod.mk.injEq] at hs
    obtain ⟨rfl, rfl⟩ := hs
    exact hK η A w (St.refl h) ht
  | i :: l, η, σ, w, a, a', A, h, ht, hs, hK => by
    rw [wpOps_cons]
    unfold aOps at hs
    split at hs
    · next a1 σ1 h1 =>
      refine step_ok h hcall ht h1 fun η1 A1 w1 hst ht1 => ?_
      exact ops_ok hcall l hst.rel ht1 hs fun η' A' w' hst' ht' => hK η' A' w' (hst.trans hst') ht'
    · cases hs

def AExit.toExit : AExit → Exit
  | .normal => .normal
  | .exit id => .exit id
  | .ret => .ret

def DrawOk (P : Program) (dr : Caller → Drawer) : Prop := ∀ call, CallOk P call → ∀ ops a σ a' σ', dr call ops a σ = some (a', σ') → ∀ η w A id Q, SR P η σ w → TR P η a A →
  (∀ η' A' w', St P η σ w η' σ' w' → TR P η' a' A' → Q .normal A' w') → (Code.region id ops true).wp P Q A w

/-- What a contract or a body of the model's own is good for. -/
def PrimsOk (P : Program) (pr : Prims) : Prop := ∀ f g, pr f = some g → ∀ args σ r σ', g args σ = some (r, σ') → ∀ η w vs, SR P η σ w → VRs η args vs →
  CallN P f ⟨vs⟩ w fun v w' => ∃ η', St P η σ w η' σ' w' ∧ VR η' r v

/-- No function with a body bears the name that the model answers by itself. -/
def NamesOk (P : Program) : Prop := ∀ (f : Nat) fn c, P.funcs[f]? = some fn → fn.body = some c → (fn.name == "runtime.NumGoroutine") = false

def RunOk (P : Program) (run : Code → AAct → ASt → Option (AExit × AAct × ASt)) : Prop := ∀ c a σ e a' σ', run c a σ = some (e, a', σ') → ∀ η w A Q, SR P η σ w → TR P η a A →
  (∀ η' A' w', St P η σ w η' σ' w' → TR P η' a' A' → Q e.toExit A' w') → c.wp P Q A w

theorem results_ok (h : SR P η σ w) {a : AAct} {A : Act} (ht : TR P η a A) (F : ResultVar → Sem Value) (hF1 : ∀ t, F (.tmp t) = pure (A.tmps.getD t undef)) (hF2 : ∀ a t, F (.cell a t) = (do loadVar t (← asAddr (A.tmps.getD a undef)))) :
    ∀ (rs : List ResultVar) (l : List AV), aResults P σ a rs = some l → ∃ vs, (rs.mapM F).run P w = .ok vs w ∧ VRs η l vs
  | [], l, hl => by simp only [aResults, Option.some.injEq] at hl; subst hl; exact ⟨[], rfl, by simp [VRs]⟩
  | .tmp t :: rs, l, hl => by
    unfold aResults at hl
    split at hl
    · next v r hv hr =>
      cases hl
      obtain ⟨vs, h1, h2⟩ := results_ok h ht F hF1 hF2 rs r hr
      obtain ⟨x, hx, hvx⟩ := ht.slot t v hv
      refine ⟨x :: vs, ?_, VRs.cons hvx h2⟩
      simp only [List.mapM_cons, hF1, Sem.run_bind, Sem.run_pure, Result.andThen_ok, h1]
      rw [Array.getD_eq_getD_getElem?, hx]; rfl
    · cases hl
  | .cell t ty :: rs, l, hl => by
    unfold aResults at hl
    split at hl
    · next v r hv hr =>
      cases hl
      obtain ⟨vs, h1, h2⟩ := results_ok h ht F hF1 hF2 rs r hr
      simp only [Option.bind_eq_some_iff] at hv
      obtain ⟨p, hp, hv⟩ := hv
      obtain ⟨x, hx, hvx⟩ := ht.slot t p hp
      obtain ⟨y, hy, hvy⟩ := load_ok h hv hvx
      refine ⟨y :: vs, ?_, VRs.cons hvy h2⟩
      have hxa : ∃ ad, x = .pointer (some ad) := by
        cases p <;> simp [aLoad] at hv
        · simp only [VR] at hvx
          obtain ⟨q, _, rfl⟩ := hvx
          exact ⟨_, rfl⟩
        · simp only [VR] at hvx
          obtain ⟨bl, base, cs, elem, fr, x, _, _, rfl, _⟩ := hvx
          exact ⟨_, rfl⟩
      obtain ⟨ad, rfl⟩ := hxa
      have hg : A.tmps.getD t undef = .pointer (some ad) := by rw [Array.getD_eq_getD_getElem?, hx]; rfl
      have hy' : (loadVar ty ad).run P w = .ok y w := by simpa [Instr.loadAt, Instr.sureAddr] using hy
      have hasA : (asAddr (A.tmps.getD t undef)).run P w = .ok ad w := by rw [hg]; rfl
      simp only [List.mapM_cons, hF2, Sem.run_bind, Sem.run_pure, Result.andThen_ok, h1, hasA, hy']
    · cases hl

theorem tup_ok {l : List AV} {vs : List Value} (h : VRs η l vs) : VR η (tupOf l) (if h : (⟨vs⟩ : Array Value).size = 1 then (⟨vs⟩ : Array Value)[0] else .tuple ⟨vs⟩) := by
  have hl := h.length
  unfold tupOf
  split
  · next v =>
    simp only [VRs] at h
    obtain ⟨x, _, rfl, hx, rfl⟩ := h
    simpa using hx
  · next hne =>
    have : (⟨vs⟩ : Array Value).size ≠ 1 := by
      intro e
      have : l.length = 1 := by rw [hl]; exact e
      obtain ⟨v, rfl⟩ := List.length_eq_one_iff.1 this
      exact hne v rfl
    rw [dif_neg this]
    simp only [VR]; exact ⟨vs, rfl, h⟩

theorem argTr_get : ∀ (args : List AV) (k : Nat) (t : Tr AV) (j : Nat), (argTr args k t).get j = if k ≤ j ∧ j < k + args.length then args[j - k]? else t.get j
  | [], k, t, j => by simp [argTr]; omega
  | v :: args, k, t, j => by
    rw [argTr, argTr_get args (k + 1)]
    simp only [List.length_cons]
    by_cases h1 : k + 1 ≤ j ∧ j < k + 1 + args.length
    · rw [if_pos h1, if_pos (by omega)]
      have : j - k = (j - (k + 1)) + 1 := by omega
      rw [this]; simp
    · rw [if_neg h1, Tr.get_set]
      by_cases h2 : j = k
      · subst h2; rw [if_pos rfl, if_pos (by omega)]; simp
      · rw [if_neg h2, if_neg (by omega)]

theorem enter_ok {args : List AV} {vs : List Value} {n : Nat} (h : VRs η args vs) :
    TR P η { t := argTr args 0 .nil, n := max args.length n, gn := P.globals.size } { tmps := (⟨vs⟩ : Array Value) ++ Array.replicate (n - (⟨vs⟩ : Array Value).size) undef, defers := [] } := by
  have hl := h.length
  refine ⟨rfl, ?_, rfl, fun t v hv => ?_⟩
  · simp; omega
  · rw [argTr_get] at hv
    split at hv
    · next hr =>
      obtain ⟨x, hx, hvx⟩ := h.at hv
      refine ⟨x, ?_, hvx⟩
      simp only [Nat.sub_zero] at hx
      have hlt := (List.getElem?_eq_some_iff.1 hx).1
      rw [Array.getElem?_append_left (by simpa using hlt)]
      simpa using hx
    · simp at hv

theorem callWith_ok {pr : Prims} {run : Code → AAct → ASt → Option (AExit × AAct × ASt)} (hp : PrimsOk P pr) (hn : NamesOk P) (hr : RunOk P run) : CallOk P (callWith P pr run) := by
  intro f args σ r σ' hs η w vs h hv
  unfold callWith at hs
  split at hs
  · next g hg => exact hp f g hg args σ r σ' hs η w vs h hv
  · split at hs
    · cases hs
    · next fn hfn =>
      split at hs
      · cases hs
      · next c hc =>
        have key : ∀ (e : AExit) a', (e = .normal ∨ e = .ret) → run c { t := argTr args 0 .nil, n := max args.length fn.ntmps, gn := P.globals.size } σ = some (e, a', σ') → ∀ l, aResults P σ' a' fn.results.toList = some l → r = tupOf l →
            CallN P f ⟨vs⟩ w fun v w' => ∃ η', St P η σ w η' σ' w' ∧ VR η' r v := by
          intro e a' he hrun l hl hrl
          right
          refine ⟨?_, ?_⟩
          · have hname := hn f fn c hfn hc
            simp only [callFunc, Sem.run_bind, program, Sem.run, Result.andThen_ok, hfn]
            simp only [hname, Bool.false_eq_true, if_false, hc, Option.isNone_some, Sem.run_pure]
          · refine calls_of_wp hfn hc ?_
            refine hr c _ _ _ _ _ hrun η w _ _ h (enter_ok hv) ?_
            intro η' A' w' hst ht
            have hres : ∃ us, (results fn A'.tmps).run P w' = .ok (if h : (⟨us⟩ : Array Value).size = 1 then (⟨us⟩ : Array Value)[0] else .tuple ⟨us⟩) w' ∧ VRs η' l us := by
              unfold results
              rw [Array.mapM_eq_mapM_toList]
              simp only [Sem.run_bind, Sem.run_map]
              obtain ⟨us, h1, h2⟩ := results_ok hst.rel ht (fun | .tmp t => pure (A'.tmps.getD t undef) | .cell a t => do loadVar t (← asAddr (A'.tmps.getD a undef))) (fun _ => rfl) (fun _ _ => rfl) _ _ hl
              refine ⟨us, ?_, h2⟩
              exact congrArg (fun r : Result (List Value) => (r.andThen fun a w' => Result.ok a.toArray w').andThen fun a w' => Sem.run P (pure (if h : a.size = 1 then a[0] else Value.tuple a)) w') h1
            obtain ⟨us, hres, h2⟩ := hres
            have hpost : A'.defers = [] ∧ ∃ v, (results fn A'.tmps).run P w' = .ok v w' ∧ ∃ v', Ending.returned v = .returned v' ∧ ∃ η', St P η σ w η' σ' w' ∧ VR η' r v' :=
              ⟨ht.none, _, hres, _, rfl, η', hst, by rw [hrl]; exact tup_ok h2⟩
            rcases he with rfl | rfl
            · exact hpost
            · exact hpost
        split at hs
        · next a' σ1 hrun =>
          simp only [Option.map_eq_some_iff, Prod.mk.injEq] at hs
          obtain ⟨l, hl, h1, h2⟩ := hs
          subst h2
          exact key _ a' (.inl rfl) hrun l hl h1.symm
        · next a' σ1 hrun =>
          simp only [Option.map_eq_some_iff, Prod.mk.injEq] at hs
          obtain ⟨l, hl, h1, h2⟩ := hs
          subst h2
          exact key _ a' (.inr rfl) hrun l hl h1.symm
        · cases hs

theorem code_ok {dr : Caller → Drawer} {pr : Prims} (hd : DrawOk P dr) (hp : PrimsOk P pr) (hn : NamesOk P) : ∀ n : Nat, RunOk P (aCodeF P dr pr n) ∧
    (∀ b a σ e a' σ', aCodeF P dr pr n (.loop b) a σ = some (e, a', σ') → ∀ η w A Q, SR P η σ w → TR P η a A → (∀ η' A' w', St P η σ w η' σ' w' → TR P η' a' A' → Q e.toExit A' w') → Code.rounds P b Q n A w) := by
  intro n
  induction n with
  | zero => exact ⟨fun c a σ e a' σ' hs => by simp [aCodeF_zero] at hs, fun b a σ e a' σ' hs => by simp [aCodeF_zero] at hs⟩
  | succ n ih =>
    obtain ⟨ih1, ih2⟩ := ih
    have hcall := callWith_ok hp hn ih1
    have loopOk : ∀ b a σ e a' σ', aCodeF P dr pr (n + 1) (.loop b) a σ = some (e, a', σ') → ∀ η w A Q, SR P η σ w → TR P η a A → (∀ η' A' w', St P η σ w η' σ' w' → TR P η' a' A' → Q e.toExit A' w') → Code.rounds P b Q (n + 1) A w := by
      intro b a σ e a' σ' hs η w A Q h ht hK
      rw [rounds_succ]
      simp only [aCodeF_succ, codeBody] at hs
      split at hs
      · next a1 σ1 h1 =>
        refine ih1 _ _ _ _ _ _ h1 η w A _ h ht ?_
        intro η1 A1 w1 hst ht1
        exact ih2 _ _ _ _ _ _ hs η1 w1 A1 Q hst.rel ht1 fun η' A' w' hst' ht' => hK η' A' w' (hst.trans hst') ht'
      · next hne =>
        refine ih1 _ _ _ _ _ _ hs η w A _ h ht ?_
        intro η1 A1 w1 hst ht1
        cases e with
        | normal => exact absurd hs (by intro e'; exact hne _ _ e')
        | exit id => exact hK η1 A1 w1 hst ht1
        | ret => exact hK η1 A1 w1 hst ht1
    refine ⟨?_, loopOk⟩
    intro c a σ e a' σ' hs η w A Q h ht hK
    cases c with
    | loop b => exact wp_loop_rounds (n + 1) (loopOk b a σ e a' σ' hs η w A Q h ht hK)
    | skip => simp only [aCodeF_succ, codeBody, Option.some.injEq, Prod.mk.injEq] at hs; obtain ⟨rfl, rfl, rfl⟩ := hs; exact wp_skip (hK η A w (St.refl h) ht)
    | region id ops draw =>
      cases draw with
      | false =>
        simp only [aCodeF_succ, codeBody, Option.map_eq_some_iff, Prod.mk.injEq] at hs
        obtain ⟨⟨a1, σ1⟩, h1, rfl, rfl, rfl⟩ := hs
        exact wp_region (ops_ok hcall _ h ht h1 hK)
      | true =>
        simp only [aCodeF_succ, codeBody, Option.map_eq_some_iff, Prod.mk.injEq] at hs
        obtain ⟨⟨a1, σ1⟩, h1, rfl, rfl, rfl⟩ := hs
        exact hd _ hcall ops a σ _ _ h1 η w A id Q h ht hK
    | seq x y =>
      simp only [aCodeF_succ, codeBody] at hs
      refine wp_seq ?_
      split at hs
      · next a1 σ1 h1 =>
        refine ih1 _ _ _ _ _ _ h1 η w A _ h ht ?_
        intro η1 A1 w1 hst ht1
        exact ih1 _ _ _ _ _ _ hs η1 w1 A1 Q hst.rel ht1 fun η' A' w' hst' ht' => hK η' A' w' (hst.trans hst') ht'
      · next hne =>
        refine ih1 _ _ _ _ _ _ hs η w A _ h ht ?_
        intro η1 A1 w1 hst ht1
        cases e with
        | normal => exact absurd hs (by intro e'; exact hne _ _ e')
        | exit id => exact hK η1 A1 w1 hst ht1
        | ret => exact hK η1 A1 w1 hst ht1
    | cond x y z =>
      simp only [aCodeF_succ, codeBody] at hs
      split at hs
      · next t hx =>
        have hv := eval_ok h ht x _ hx
        simp only [VR] at hv
        refine wp_cond hv ?_
        exact ih1 _ _ _ _ _ _ hs η w A Q h ht hK
      · cases hs
    | block id b =>
      simp only [aCodeF_succ, codeBody] at hs
      refine wp_block ?_
      split at hs
      · next id' a1 σ1 h1 =>
        refine ih1 _ _ _ _ _ _ h1 η w A _ h ht ?_
        intro η1 A1 w1 hst ht1
        simp only [AExit.toExit, Exit.inBlock]
        split at hs
        · next e1 =>
          cases hs
          rw [if_pos e1]
          exact hK η1 A1 w1 hst ht1
        · next e1 =>
          cases hs
          rw [if_neg e1]
          exact hK η1 A1 w1 hst ht1
      · next hne =>
        refine ih1 _ _ _ _ _ _ hs η w A _ h ht ?_
        intro η1 A1 w1 hst ht1
        cases e with
        | normal => exact hK η1 A1 w1 hst ht1
        | exit id' => exact absurd hs (by intro e'; exact hne _ _ _ e')
        | ret => exact hK η1 A1 w1 hst ht1
    | exit id => simp only [aCodeF_succ, codeBody, Option.some.injEq, Prod.mk.injEq] at hs; obtain ⟨rfl, rfl, rfl⟩ := hs; exact wp_exit (hK η A w (St.refl h) ht)
    | ret => simp only [aCodeF_succ, codeBody, Option.some.injEq, Prod.mk.injEq] at hs; obtain ⟨rfl, rfl, rfl⟩ := hs; exact wp_ret (hK η A w (St.refl h) ht)
    | rangeFunc _ _ _ _ => simp [aCodeF_succ, codeBody] at hs
    | scope _ => simp [aCodeF_succ, codeBody] at hs
    | label _ => simp [aCodeF_succ, codeBody] at hs
    | goto _ => simp [aCodeF_succ, codeBody] at hs
    | refuse _ => simp [aCodeF_succ, codeBody] at hs

/-- A call that the evaluator carries out, the model carries out. -/
theorem aCall_ok {dr : Caller → Drawer} {pr : Prims} (hd : DrawOk P dr) (hp : PrimsOk P pr) (hn : NamesOk P) (n : Nat) : CallOk P (aCall P dr pr n) :=
  callWith_ok hp hn (code_ok hd hp hn n).1

end
end Go.Abs
