/- Loops by contract: the step that the evaluator takes at a loop, and how a loop's contract is proved. -/
import Derived.Test.YtehcokoigbiciaaGreatDoorAbsI
import Derived.ChangeArms
import Derived.Deep.Slices
import Derived.Carry
import Derived.Test.YtehcokoigbiciaaGreatDoorAbsH
import Derived.ProofKit
import Derived.OpenShut
import Derived.Deep.DeepHandedRow

/-! # AbsLoopC -/
namespace Go.Abs
noncomputable section
set_option linter.unusedSectionVars false
set_option linter.unusedVariables false
set_option linter.unusedSimpArgs false
variable {P : Program}

/-! ### How a state fits a shape: found, not yet looked at -/
structure US where
  r : List (Nat × Option Nat)
  p : List (Nat × Nat)
  fz : List Nat

def US.bindP (u : US) (j m : Nat) : US := match getA j u.p with
  | some _ => u
  | none => { u with p := (j, m) :: u.p }
def US.bindR (u : US) (i : Nat) (x : Option Nat) : US := match getA i u.r with
  | some _ => u
  | none => { u with r := (i, x) :: u.r }

section
variable [NodesOf]
/-- What a value's node is, where it may be frozen for that. -/
def outCand (P : Program) (σ : ASt) (a : AV) : Option (Nat × Option Nat) :=
  match nodeOf a with
  | some m => some (m, none)
  | none => match a with
    | .sv id _ => match σ.get id with
      | some (.vec m _ _) => some (m, some id)
      | _ => none
    | .sl id off len cap => match σ.get id with
      | some (.cells _ et _ _) => (listOf P σ et (.sl id off len cap)).map fun m => (m, some id)
      | _ => none
    | _ => none

mutual
def uV (P : Program) (G : Nat) (σ : ASt) : AV → AV → US → US
  | .nd j, a, u => match outCand P σ a with
    | some (m, some id) => { u.bindP j m with fz := id :: u.fz }
    | some (m, none) => u.bindP j m
    | none => u
  | .sv i _, a, u => match a with
    | .sv id _ => u.bindR i (some id)
    | .nils => u.bindR i none
    | _ => u
  | .p i _, a, u => match a with
    | .p id _ => if i ≤ G then u else u.bindR i (some id)
    | _ => u
  | .mp i, a, u => match a with
    | .mp id => u.bindR i (some id)
    | _ => u
  | .sl i _ _ _, a, u => match a with
    | .sl id _ _ _ => u.bindR i (some id)
    | _ => u
  | .rx j _, a, u => match a with
    | .rx m _ => u.bindP j m
    | _ => u
  | .fn _ fi cs, a, u => match a with
    | .fn _ fi' cs' => uVs P G σ cs cs' (uVs P G σ fi fi' u)
    | _ => u
  | .agg l, a, u => match a with
    | .agg l' => uVs P G σ l l' u
    | _ => u
  | .tup l, a, u => match a with
    | .tup l' => uVs P G σ l l' u
    | _ => u
  | .ifc _ x, a, u => match a with
    | .ifc _ x' => uV P G σ x x' u
    | _ => u
  | _, _, u => u
def uVs (P : Program) (G : Nat) (σ : ASt) : List AV → List AV → US → US
  | [], _, u => u
  | a :: l, m, u => match m with
    | b :: m' => uVs P G σ l m' (uV P G σ a b u)
    | [] => u
end
def uSlots (P : Program) (G : Nat) (σ : ASt) (t : Tr AV) : List (Nat × AV) → US → US
  | [], u => u
  | p :: l, u => uSlots P G σ t l (match t.get p.1 with | some v => uV P G σ p.2 v u | none => u)
def uObjs (P : Program) (G : Nat) (σ : ASt) : List (Nat × AObj) → US → US
  | [], u => u
  | p :: l, u => uObjs P G σ l (match getA p.1 u.r with
    | some (some id) => match p.2, σ.get id with
      | .cells c _ _ _, some (.cells c' _ _ _) => uVs P G σ c c' u
      | .vec j _ _, some (.vec m _ _) => u.bindP j m
      | .smap j _ _, some (.smap m _ _) => u.bindP j m
      | .smap j _ _, some (.map []) => match findNd (.ml []) with
        | some m => u.bindP j m
        | none => u
      | _, _ => u
    | some none => match p.2 with
      | .vec j _ _ => match findNd (.ml []) with
        | some m => u.bindP j m
        | none => u
      | _ => u
    | none => u)
def psOf (p : List (Nat × Nat)) : Nat → Nat → Option (List Nat)
  | _, 0 => some []
  | j, n + 1 => match getA j p, psOf p (j + 1) n with
    | some m, some r => some (m :: r)
    | _, _ => none

def ancR : Nat → Nat → List (Nat × Option Nat)
  | _, 0 => []
  | i, n + 1 => (i + 1, some (i + 1)) :: ancR (i + 1) n
/-- The nodes of a shape's places in a state, and how its blocks are named there. -/
def fit (P : Program) (s : Shp) (a : AAct) (σ : ASt) : US := uObjs P s.gn σ s.objs (uSlots P s.gn σ a.t s.slots ⟨ancR s.gn s.ka, [], []⟩)
def fits (P : Program) (s : Shp) (a : AAct) (σ : ASt) (ps : List Nat) : Bool := Nat.beq ps.length s.np && match fit P s a σ with
  | ⟨r, _, fz⟩ => mAll P s a σ fz r ps

structure LoopSpec where
  key : Nat
  pre : Shp
  posts : List (AExit × Shp)

/-- Which of the ends it is: by what is decided. -/
def pickExit (tag : Nat) : List (AExit × Shp) → Nat → Option (AExit × Shp)
  | [], _ => none
  | [p], _ => some p
  | p :: q :: l, t => match findNd (.ci .i64 t) with
    | some c => match findNd (.bin .eql tag c) with
      | some b => match decOf b with
        | some true => some p
        | some false => pickExit tag (q :: l) (t + 1)
        | none => none
      | none => none
    | none => none
def outNs (key : Nat) (ps : List Nat) : List (Option Nat) → Nat → Nat → Option (List Nat)
  | _, _, 0 => some []
  | some i :: al, j, n + 1 => match ps[i]?, outNs key ps al j n with
    | some m, some r => some (m :: r)
    | _, _ => none
  | none :: al, j, n + 1 => match findNd (.call key ps j), outNs key ps al (j + 1) n with
    | some m, some r => some (m :: r)
    | _, _ => none
  | [], j, n + 1 => match findNd (.call key ps j), outNs key ps [] (j + 1) n with
    | some m, some r => some (m :: r)
    | _, _ => none

def lStep (P : Program) (tabs : List (Nat × List AV)) (sp : LoopSpec) (a : AAct) (σ : ASt) : Option (AExit × AAct × ASt) :=
  match psOf (fit P sp.pre a σ).p 0 sp.pre.np with
  | some ps => if fits P sp.pre a σ ps then
      match findNd (.call sp.key ps 0) with
      | some tag => match pickExit tag sp.posts 0 with
        | some (e, s) => if Nat.beq s.ka NodesOf.ka then match outNs sp.key ps s.al 1 s.np with
          | some ns => some (e, s.actN (fun j => ns.getD j 0), s.stN tabs (fun j => ns.getD j 0))
          | none => none
          else none
        | none => none
      | none => none
    else none
  | none => none
end

/-- The values of an end: some are values of the start. -/
def exG : List (Option Nat) → List GV → List GV → Option (List GV)
  | [], _, r => some r
  | some i :: al, gs, r => match gs[i]?, exG al gs r with
    | some g, some l => some (g :: l)
    | _, _ => none
  | none :: al, gs, x :: r => match exG al gs r with
    | some l => some (x :: l)
    | none => none
  | none :: _, _, [] => none
/-- The nodes of an end. -/
def exN (np : Nat) : List (Option Nat) → List Nat → Option (List Nat)
  | [], r => some r
  | some i :: al, r => bif Nat.blt i np then (match exN np al r with
    | some l => some (i :: l)
    | none => none) else none
  | none :: al, x :: r => match exN np al r with
    | some l => some (x :: l)
    | none => none
  | none :: _, [] => none
def alTail1 (np : Nat) (l : List Nat) : List (Option Nat) → Bool
  | [] => true
  | none :: al => alTail1 np l al
  | some i :: al => Nat.blt i np && ((match l[i]? with | some m => Nat.beq m i | none => false) && alTail1 np l al)
def alTail (np : Nat) (l : List Nat) : List (AExit × Shp) → Bool
  | [] => true
  | p :: ps => alTail1 np l p.2.al && alTail np l ps
theorem valsOf_pos {val : Nat → Option GV} : ∀ {l : List Nat} {gs : List GV}, valsOf val l = some gs → ∀ (i m : Nat), l[i]? = some m → gs[i]? = val m
  | [], gs, h, i, m, hm => by simp at hm
  | x :: l, gs, h, i, m, hm => by
    simp only [valsOf] at h
    split at h
    · next g r h5 h6 =>
      cases h
      cases i with
      | zero => simp at hm; subst hm; simp [h5]
      | succ i => simpa using valsOf_pos h6 i m (by simpa using hm)
    · cases h
theorem exN_ok {np : Nat} {gs env more : List GV} (henv : env = gs ++ more) (hn : gs.length = np) : ∀ {al : List (Option Nat)} {l l2 : List Nat} {r : List GV}, exN np al l = some l2 → valsOf (fun n => env[n]?) l = some r → ∃ rest, valsOf (fun n => env[n]?) l2 = some rest ∧ exG al gs r = some rest
  | [], l, l2, r, h, hv => by simp only [exN, Option.some.injEq] at h; subst h; exact ⟨r, hv, rfl⟩
  | some i :: al, l, l2, r, h, hv => by
    simp only [exN] at h
    cases hb : Nat.blt i np with
    | false => rw [hb] at h; cases h
    | true =>
      rw [hb] at h
      simp only [cond_true] at h
      rw [Nat.blt_eq] at hb
      split at h
      · next l3 h3 =>
        cases h
        obtain ⟨rest, h4, h5⟩ := exN_ok henv hn h3 hv
        have hi : env[i]? = some (gs[i]'(by omega)) := by rw [henv, List.getElem?_append_left (by omega), List.getElem?_eq_getElem (by omega)]
        refine ⟨gs[i]'(by omega) :: rest, ?_, ?_⟩
        · simp only [valsOf, hi, h4]
        · simp only [exG, h5, List.getElem?_eq_getElem (show i < gs.length by omega)]
      · cases h
  | none :: al, [], l2, r, h, hv => by simp [exN] at h
  | none :: al, x :: l, l2, r, h, hv => by
    simp only [exN] at h
    split at h
    · next l3 h3 =>
      cases h
      simp only [valsOf] at hv
      split at hv
      · next g r' h6 h7 =>
        cases hv
        obtain ⟨rest, h4, h5⟩ := exN_ok henv hn h3 h7
        exact ⟨g :: rest, by simp only [valsOf, h6, h4], by simp only [exG, h5]⟩
      · cases hv
    · cases h
theorem exG_tail {np : Nat} {gs env more gs' : List GV} (henv : env = gs ++ more) (hn : gs.length = np) {l : List Nat} (hv : valsOf (fun n => env[n]?) l = some gs') : ∀ {al : List (Option Nat)}, alTail1 np l al = true → ∀ r, exG al gs' r = exG al gs r
  | [], _, r => rfl
  | none :: al, h, [] => rfl
  | none :: al, h, x :: r => by
    simp only [alTail1] at h
    simp only [exG, exG_tail henv hn hv h r]
  | some i :: al, h, r => by
    simp only [alTail1, Bool.and_eq_true, Nat.blt_eq] at h
    obtain ⟨h1, h2, h3⟩ := h
    split at h2
    · next m hm =>
      have := Nat.eq_of_beq_eq_true h2
      subst this
      have h4 : gs'[m]? = gs[m]? := by
        rw [valsOf_pos hv m m hm]
        show env[m]? = gs[m]?
        rw [henv, List.getElem?_append_left (by omega)]
      simp only [exG, exG_tail henv hn hv h3 r, h4]
    · cases h2
theorem alTail_mem {np : Nat} {l : List Nat} : ∀ {posts : List (AExit × Shp)}, alTail np l posts = true → ∀ p ∈ posts, alTail1 np l p.2.al = true
  | q :: posts, h, p, hp => by
    simp only [alTail, Bool.and_eq_true] at h
    rcases List.mem_cons.1 hp with rfl | hp
    · exact h.1
    · exact alTail_mem h.2 p hp

/-- What a loop does, told by values: its end's number, and what stands then. -/
def LoopC (P : Program) (tabs : List (Nat × List AV)) (b : Code) (pre : Shp) (posts : List (AExit × Shp)) (gs out : List GV) : Prop :=
  ∃ (t : Nat) (r rest : List GV) (e : AExit) (s : Shp), out = GV.i .i64 t :: r ∧ posts[t]? = some (e, s) ∧ exG s.al gs r = some rest ∧ rest.length = s.np ∧ ∀ w0 ro0 A w K, StateIs P tabs pre gs w0 ro0 A w → (∀ A' w', StateIs P tabs s rest w0 ro0 A' w' → K e.toExit A' w') → Inl P b K A w

theorem pickExit_ok {T : TabsOf} {tag : Nat} {t0 : Nat} (htag : T.val tag = some (.i .i64 (t0 : Nat))) : ∀ (l : List (AExit × Shp)) (t : Nat) {p : AExit × Shp}, @pickExit T.toNodesOf tag l t = some p → t ≤ t0 → ∀ q, l[t0 - t]? = some q → p = q
  | [], t, p, h, _, q, hq => by simp [pickExit] at h
  | [x], t, p, h, hle, q, hq => by
    simp only [pickExit, Option.some.injEq] at h
    cases hd : t0 - t with
    | zero => rw [hd] at hq; simp at hq; rw [← h, hq]
    | succ n => rw [hd] at hq; simp at hq
  | x :: y :: l, t, p, h, hle, q, hq => by
    letI := T
    simp only [pickExit] at h
    split at h
    · next c hc =>
      split at h
      · next b hb =>
        obtain ⟨g1, k1, k2⟩ := findNd_ok hc
        simp only [Nd.den, Option.some.injEq] at k2
        subst k2
        obtain ⟨g2, m1, m2⟩ := findNd_ok hb
        have htag' : TabsOf.val tag = some (.i .i64 (t0 : Nat)) := htag
        simp only [Nd.den, htag', k1, binG, if_true, intG, Option.some.injEq] at m2
        split at h
        · next hd =>
          cases h
          have := T.decOk b true (decGo_some hd)
          have m1' : T.val b = some g2 := m1
          rw [m1'] at this; cases this
          simp at m2
          have : t0 - t = 0 := by omega
          rw [this] at hq; simpa using hq
        · next hd =>
          have := T.decOk b false (decGo_some hd)
          have m1' : T.val b = some g2 := m1
          rw [m1'] at this; cases this
          simp at m2
          have e : t0 - t = (t0 - (t + 1)) + 1 := by omega
          rw [e, List.getElem?_cons_succ] at hq
          exact pickExit_ok htag (y :: l) (t + 1) h (by omega) q hq
        · cases h
      · cases h
    · cases h

theorem outNs_ok {T : TabsOf} {key : Nat} {ps : List Nat} {gs out : List GV} (hps : valsOf T.val ps = some gs) (hI : T.I key gs = some out) : ∀ (n j : Nat) (al : List (Option Nat)) {ns : List Nat} {r rest : List GV}, (∀ k : Nat, r[k]? = out[j + k]?) → exG al gs r = some rest → @outNs T.toNodesOf key ps al j n = some ns → ns.length = n ∧ ∀ (i m : Nat), ns[i]? = some m → T.val m = rest[i]?
  | 0, j, al, ns, r, rest, _, _, h => by
    letI := T
    have : ns = [] := by unfold outNs at h; simpa using h.symm
    subst this; simp
  | n + 1, j, some i0 :: al, ns, r, rest, hr, he, h => by
    letI := T
    simp only [outNs] at h
    simp only [exG] at he
    split at he
    · next g l hg hl =>
      cases he
      split at h
      · next m r' hm hr' =>
        cases h
        obtain ⟨h1, h2⟩ := outNs_ok hps hI n j al hr hl hr'
        refine ⟨by simp [h1], fun i m' hi => ?_⟩
        cases i with
        | zero =>
          simp at hi; subst hi
          have := valsOf_pos hps i0 m hm
          rw [List.getElem?_cons_zero, ← hg]; exact this.symm
        | succ i => simpa using h2 i m' (by simpa using hi)
      · cases h
    · cases he
  | n + 1, j, none :: al, ns, [], rest, hr, he, h => by simp [exG] at he
  | n + 1, j, none :: al, ns, x :: r, rest, hr, he, h => by
    letI := T
    simp only [outNs] at h
    simp only [exG] at he
    split at he
    · next l hl =>
      cases he
      split at h
      · next m r' hm hr' =>
        cases h
        obtain ⟨h1, h2⟩ := outNs_ok hps hI n (j + 1) al (r := r) (fun k => by
          have := hr (k + 1)
          rw [List.getElem?_cons_succ] at this
          rw [this]; congr 1; omega) hl hr'
        refine ⟨by simp [h1], fun i m' hi => ?_⟩
        cases i with
        | zero =>
          simp at hi; subst hi
          obtain ⟨g, k1, k2⟩ := findNd_ok hm
          have hps' : valsOf TabsOf.val ps = some gs := hps
          have hI' : TabsOf.I key gs = some out := hI
          simp only [Nd.den, hps', hI'] at k2
          have k1' : T.val m = some g := k1
          have := hr 0
          simp only [List.getElem?_cons_zero, Nat.add_zero] at this
          rw [k1', List.getElem?_cons_zero, this]; exact k2.symm
        | succ i => simpa using h2 i m' (by simpa using hi)
      · cases h
    · cases he
  | n + 1, j, [], ns, r, rest, hr, he, h => by
    letI := T
    simp only [outNs] at h
    simp only [exG, Option.some.injEq] at he
    subst he
    split at h
    · next m r' hm hr' =>
      cases h
      obtain ⟨h1, h2⟩ := outNs_ok hps hI n (j + 1) [] (r := r.tail) (fun k => by
        have := hr (k + 1)
        rw [List.getElem?_tail, this]; congr 1; omega) rfl hr'
      refine ⟨by simp [h1], fun i m' hi => ?_⟩
      cases i with
      | zero =>
        simp at hi; subst hi
        obtain ⟨g, k1, k2⟩ := findNd_ok hm
        have hps' : valsOf TabsOf.val ps = some gs := hps
        have hI' : TabsOf.I key gs = some out := hI
        simp only [Nd.den, hps', hI'] at k2
        have k1' : T.val m = some g := k1
        have := hr 0
        rw [Nat.add_zero] at this
        rw [k1', this]; exact k2.symm
      | succ i =>
        have := h2 i m' (by simpa using hi)
        rw [this, List.getElem?_tail]
    · cases h

theorem lStep_ok {T : TabsOf} {tabs : List (Nat × List AV)} (htabs : T.tabs = tabs) (hlow : TabsLow tabs P.globals.size) {sp : LoopSpec} (hok : sp.pre.ok = true) {b : Code} (hC : ∀ gs out, T.I sp.key gs = some out → LoopC P tabs b sp.pre sp.posts gs out)
    {a a' : AAct} {σ σ' : ASt} {e : AExit} (h : @lStep T.toNodesOf P tabs sp a σ = some (e, a', σ')) {Q : AExit → AAct → ASt → Prop} (hq : Q e a' σ') : @ATL T P b a σ Q := by
  letI := T
  unfold lStep at h
  split at h
  · next ps hps =>
    split at h
    · next hfit =>
      split at h
      · next tag htag =>
        split at h
        · next e' s hpick =>
          split at h
          rotate_left
          · cases h
          next hska =>
          have hska := Nat.eq_of_beq_eq_true hska
          split at h
          · next ns hns =>
            cases h
            obtain ⟨gt, t1, t2⟩ := findNd_ok htag
            simp only [Nd.den] at t2
            split at t2
            · next gs hgs =>
              split at t2
              · next out hI =>
                obtain ⟨t, r, rest, e2, s2, rfl, hp2, hex, hrl, hrun⟩ := hC gs out hI
                simp only [List.getElem?_cons_zero, Option.some.injEq] at t2
                subst t2
                have hpe := pickExit_ok t1 sp.posts 0 hpick (Nat.zero_le _) (e2, s2) (by simpa using hp2)
                cases hpe
                obtain ⟨n1, n2⟩ := outNs_ok hgs hI _ 1 s.al (r := r) (fun k => by rw [Nat.add_comm, List.getElem?_cons_succ]) hex hns
                intro w0 ro0 η w A K hF hl ht hK
                unfold fits at hfit
                rw [Bool.and_eq_true] at hfit
                have hst := match_ok htabs hlow hok hF hl ht hfit.2 hgs
                refine hrun w0 ro0 A w K hst fun A' w' hs' => ?_
                obtain ⟨η', hF', ht'⟩ := shp_put (T := T) (f := fun j => ns.getD j 0) htabs hska.symm (fun j g hj => by
                  have hjl : j < ns.length := by have := (List.getElem?_eq_some_iff.1 hj).1; omega
                  have hm : ns[j]? = some (ns.getD j 0) := by rw [List.getD_eq_getElem?_getD, List.getElem?_eq_getElem hjl]; rfl
                  rw [n2 j _ hm]; exact hj) hs'
                exact hK e _ _ η' A' w' hq hF' rfl ht'
              · cases t2
            · cases t2
          · cases h
        · cases h
      · cases h
    · cases h
  · cases h

theorem valsOf_length {val : Nat → Option GV} : ∀ {l : List Nat} {gs : List GV}, valsOf val l = some gs → gs.length = l.length
  | [], gs, h => by simp only [valsOf, Option.some.injEq] at h; subst h; rfl
  | x :: l, gs, h => by
    simp only [valsOf] at h
    split at h
    · next h5 h6 => cases h; simp [valsOf_length h6]
    · cases h

/-! ### A loop's own contract, from the ways of its body -/
def AExit.eq : AExit → AExit → Bool
  | .normal, .normal => true
  | .ret, .ret => true
  | .exit a, .exit b => Nat.beq a b
  | _, _ => false
theorem AExit.eq_of {a b : AExit} (h : a.eq b = true) : a = b := by
  cases a <;> cases b <;> first | rfl | (cases h; done) | skip
  rw [Nat.eq_of_beq_eq_true h]

/-- Prims that go by the nodes. -/
abbrev PList := NodesOf → List (FuncId × PFn)
def PListOk (P : Program) (tabs : List (Nat × List AV)) (I : Itp) (pl : PList) : Prop := ∀ T : TabsOf, T.tabs = tabs → T.I = I → ∀ p ∈ pl T.toNodesOf, @PrimOk T P p.1 p.2

def runOf (P : Program) (N : NodesOf) (pl : PList) (fuel : Nat) : Code → AAct → ASt → Option (AExit × AAct × ASt) := @aCodeF N P (aDraw P) (primTr (pl N)) fuel
def stepsOf (P : Program) (tabs : List (Nat × List AV)) (N : NodesOf) (specs : List (Nat × LoopSpec)) : LoopStep := fun k a σ => match getA k specs with
  | some sp => @lStep N P tabs sp a σ
  | none => none

def leafLoop (P : Program) (tabs : List (Nat × List AV)) (pl : PList) (specs : List (Nat × LoopSpec)) (fuel : Nat) (sp : LoopSpec) (ac : AC) (ns : List Nd) (ds : List (Nat × Bool)) (lf : Leaf) : Bool :=
  match @acRun ⟨ns, ds, sp.pre.ka⟩ (stepsOf P tabs ⟨ns, ds, sp.pre.ka⟩ specs) (runOf P ⟨ns, ds, sp.pre.ka⟩ pl fuel) ac (sp.pre.actN fun j => j) (sp.pre.stN tabs fun j => j) with
  | some (e, a', σ') => match lf with
    | .ret (tn :: l) => match ns[tn]? with
      | some (.ci .i64 t) => match sp.posts[t.toNat]? with
        | some (e', s) => decide (0 ≤ t) && !(e.eq .normal) && e.eq e' && s.ok && (match exN sp.pre.np s.al l with | some l2 => @fits ⟨ns, ds, sp.pre.ka⟩ P s a' σ' l2 | none => false)
        | none => false
      | _ => false
    | .tail f l => Nat.beq f sp.key && e.eq .normal && (alTail sp.pre.np l sp.posts && @fits ⟨ns, ds, sp.pre.ka⟩ P sp.pre a' σ' l)
    | _ => false
  | none => false

/-- The nodes and values of a way. -/
@[reducible] def Tw (tabs : List (Nat × List AV)) (I : Itp) (ka : Nat) {ns : List Nd} {ds : List (Nat × Bool)} {env : List GV} (h : WayOk I ns ds env) : TabsOf := { nodes := ns, dec := ds, ka := ka, tabs := tabs, I := I, val := fun n => env[n]?, nodeOk := h.node, decOk := h.dec }

theorem WayOk.start (I : Itp) (gs : List GV) (n : Nat) (h : gs.length = n) : WayOk I (List.replicate n .arg) [] gs :=
  ⟨by simp [h], fun k nd hk hn => absurd (List.mem_replicate.1 (List.mem_of_getElem? hk)).2 hn, fun k b hb => by simp at hb⟩

theorem runOf_ok {T : TabsOf} (hm : P.follows .mixedOrders = true) (hn : NamesOk P) {pl : PList} (hp : ∀ p ∈ pl T.toNodesOf, @PrimOk T P p.1 p.2) (fuel : Nat) : @RunOk T P (runOf P T.toNodesOf pl fuel) :=
  (@code_ok T P _ _ (draw_ok hm) (primTr_ok hp) hn fuel).1

theorem LoopC.of_tree {tabs : List (Nat × List AV)} (hlow : TabsLow tabs P.globals.size) (hm : P.follows .mixedOrders = true) (hn : NamesOk P) {pl : PList} {I : Itp} (hpl : PListOk P tabs I pl) {specs : List (Nat × LoopSpec)} {fuel : Nat} {sp : LoopSpec} (hok : sp.pre.ok = true) {ps : List Nat} {b : Code} {t : Tree}
    (hspecs : ∀ k sp', getA k specs = some sp' → sp'.pre.ok = true ∧ ∀ c, (annot ps b).HasLoop k c → ∀ gs out, I sp'.key gs = some out → LoopC P tabs c sp'.pre sp'.posts gs out)
    (hself : ∀ gs out, I sp.key gs = some out → LoopC P tabs b sp.pre sp.posts gs out)
    (hchk : t.chk (leafLoop P tabs pl specs fuel sp (annot ps b)) (List.replicate sp.pre.np .arg) [] = true) {gs out : List GV} (hlen : gs.length = sp.pre.np) (hd : t.den I gs = some out) : LoopC P tabs b sp.pre sp.posts gs out := by
  obtain ⟨ns, ds, env, lf, h1, h2, ⟨more, h3⟩, h4⟩ := Tree.chk_ok t hchk (WayOk.start I gs _ hlen) hd
  let T : TabsOf := Tw tabs I sp.pre.ka h2
  unfold leafLoop at h1
  split at h1
  · next e a' σ' hrun =>
    -- every run of the body from the shape
    have hAT : ∀ Q : AExit → AAct → ASt → Prop, Q e a' σ' → @AT T P b (sp.pre.actN fun j => j) (sp.pre.stN tabs fun j => j) Q := by
      intro Q hq
      have := @acRun_ok P T (stepsOf P tabs ⟨ns, ds, sp.pre.ka⟩ specs) (runOf P ⟨ns, ds, sp.pre.ka⟩ pl fuel) (runOf_ok (T := T) hm hn (hpl T rfl rfl) fuel) (annot ps b) (annotF_erase ps b 0).2 (fun k c hk a σ e1 a1 σ1 hs Q' hq' => by
        unfold stepsOf at hs
        split at hs
        · next sp' hsp =>
          obtain ⟨k1, k2⟩ := hspecs k sp' hsp
          exact lStep_ok (T := T) rfl hlow k1 (fun gs out hI => k2 c hk gs out hI) hs hq'
        · cases hs) _ _ _ _ _ hrun Q hq
      rwa [show (annot ps b).erase = b from (annotF_erase ps b 0).1] at this
    have henv : ∀ j g, gs[j]? = some g → T.val ((fun j => j) j) = some g := by
      intro j g hj
      show env[j]? = some g
      rw [h3]
      have := (List.getElem?_eq_some_iff.1 hj).1
      rw [List.getElem?_append_left this]; exact hj
    split at h1
    · next tn l =>
      split at h1
      · next tt htn =>
        split at h1
        · next e' s hpost =>
          simp only [Bool.and_eq_true, decide_eq_true_iff] at h1
          obtain ⟨⟨⟨⟨t0, t1⟩, t2⟩, t3⟩, t4⟩ := h1
          split at t4
          rotate_left
          · cases t4
          next l2 hl2 =>
          have e1 := AExit.eq_of t2
          subst e1
          simp only [valsOf] at h4
          split at h4
          · next g r hg hr0 =>
            cases h4
            obtain ⟨g', k1, k2⟩ := h2.node tn _ htn (by simp)
            have hg' : env[tn]? = some g := hg
            rw [hg'] at k1; cases k1
            simp only [Nd.den, Option.some.injEq] at k2
            subst k2
            obtain ⟨rest, hrest, hex⟩ := exN_ok h3 hlen hl2 hr0
            have hfl : rest.length = s.np := by
              unfold fits at t4
              rw [Bool.and_eq_true] at t4
              rw [← Nat.eq_of_beq_eq_true t4.1]
              exact valsOf_length hrest
            refine ⟨tt.toNat, r, rest, e, s, by rw [Int.toNat_of_nonneg t0], hpost, hex, hfl, fun w0 ro0 A w K hS hK => Inl.step ?_⟩
            obtain ⟨η, hF, ht⟩ := shp_put (T := T) (f := fun j => j) rfl rfl henv hS
            refine hAT (fun e2 a2 σ2 => e2 = e ∧ a2 = a' ∧ σ2 = σ') ⟨rfl, rfl, rfl⟩ w0 ro0 η w A _ hF rfl ht ?_
            rintro e2 a2 σ2 η' A' w' ⟨rfl, rfl, rfl⟩ hF' hl' ht'
            unfold fits at t4
            rw [Bool.and_eq_true] at t4
            have hst := match_ok (T := T) rfl hlow t3 hF' hl' ht' t4.2 hrest
            have := hK A' w' hst
            cases e2 with
            | normal => simp [AExit.eq] at t1
            | exit id => exact this
            | ret => exact this
          · cases h4
        · cases h1
      · cases h1
    · next f l =>
      simp only [Bool.and_eq_true] at h1
      obtain ⟨⟨t1, t2⟩, t5, t3⟩ := h1
      have e1 := AExit.eq_of t2
      subst e1
      have e2 := Nat.eq_of_beq_eq_true t1
      subst e2
      obtain ⟨gs', hgs', hI⟩ := h4
      obtain ⟨tn, r, rest, e2, s, r1, r2, r5, r3, r4⟩ := hself gs' out hI
      refine ⟨tn, r, rest, e2, s, r1, r2, by rw [← exG_tail h3 hlen hgs' (alTail_mem t5 _ (List.mem_of_getElem? r2)) r]; exact r5, r3, fun w0 ro0 A w K hS hK => Inl.step ?_⟩
      obtain ⟨η, hF, ht⟩ := shp_put (T := T) (f := fun j => j) rfl rfl henv hS
      refine hAT (fun e2 a2 σ2 => e2 = .normal ∧ a2 = a' ∧ σ2 = σ') ⟨rfl, rfl, rfl⟩ w0 ro0 η w A _ hF rfl ht ?_
      rintro e3 a2 σ2 η' A' w' ⟨rfl, rfl, rfl⟩ hF' hl' ht'
      unfold fits at t3
      rw [Bool.and_eq_true] at t3
      have hst := match_ok (T := T) rfl hlow hok hF' hl' ht' t3.2 hgs'
      exact r4 w0 ro0 A' w' K hst hK
    · cases h1
  · cases h1
end
end Go.Abs

/-! # AbsFun -/
namespace Go.Abs
noncomputable section
set_option linter.unusedSectionVars false
set_option linter.unusedVariables false
set_option linter.unusedSimpArgs false
variable {P : Program}

/-- A function's contract: what it hands back for these values, told by shapes. -/
structure FnC (P : Program) (tabs : List (Nat × List AV)) (f : FuncId) (st : List (Option FuncId)) (sh : List OSh) (gs out : List GV) : Prop where
  call : PureC P tabs f st gs out
  fits : shFits sh out = true

section
variable [NodesOf]
def cellN (P : Program) (σ : ASt) (fz : List Nat) (a : AV) : Option Nat :=
  match outCand P σ a with
  | some (m, none) => some m
  | some (m, some _) => if frzOk P σ fz a m then some m else none
  | none => none
def cellsN (P : Program) (σ : ASt) (fz : List Nat) : List AV → Option (List Nat)
  | [] => some []
  | a :: l => match cellN P σ fz a, cellsN P σ fz l with
    | some m, some r => some (m :: r)
    | _, _ => none
def valN (P : Program) (σ : ASt) (fz : List Nat) : AV → Option Nat
  | .agg l => match cellsN P σ fz l with
    | some ns => findNd (.mk ns)
    | none => none
  | a => cellN P σ fz a
def valsN (P : Program) (σ : ASt) (fz : List Nat) : List AV → Option (List Nat)
  | [] => some []
  | a :: l => match valN P σ fz a, valsN P σ fz l with
    | some m, some r => some (m :: r)
    | _, _ => none
def fzCell (P : Program) (σ : ASt) (a : AV) : List Nat := match outCand P σ a with
  | some (_, some id) => [id]
  | _ => []
def fzOf (P : Program) (σ : ASt) : List AV → List Nat
  | [] => []
  | .agg l :: r => l.flatMap (fzCell P σ) ++ fzOf P σ r
  | a :: r => fzCell P σ a ++ fzOf P σ r

def outAV (k : Nat) (ns : List Nat) (j : Nat) : OSh → Option AV
  | .sc => mkN (.call k ns j)
  | .ag n => match findNd (.call k ns j) with
    | some m => (cellNs m 0 n).map .agg
    | none => none
def outsAV (k : Nat) (ns : List Nat) : Nat → List OSh → Option (List AV)
  | _, [] => some []
  | j, s :: l => match outAV k ns j s, outsAV k ns (j + 1) l with
    | some a, some r => some (a :: r)
    | _, _ => none

def pCall (P : Program) (k : Nat) (st : List (Option FuncId)) (sh : List OSh) : PFn := fun args0 σ => match takeS st args0 with
  | none => none
  | some args =>
  let fz := fzOf P σ args
  if fz.all (Nat.ble σ.lock ·) then
    match valsN P σ fz args with
    | some ns => match outsAV k ns 0 sh with
      | some (a :: l) => some (tupOf (a :: l), kills σ fz)
      | _ => none
    | none => none
  else none
end

/-! ### Blocks are frozen for a call -/
theorem freezeSt {T : TabsOf} {η : Env} {σ : ASt} {w : World} (h : @SR T P η σ w) : ∀ fz : List Nat, (∀ id ∈ fz, σ.lock ≤ id) → ∃ ro1, (∀ b o, η.ro b = some o → ro1 b = some o) ∧ @St T P η σ w ⟨η.pl, ro1, η.gh⟩ (kills σ fz) w ∧
    (∀ id ∈ fz, ∀ o q, σ.get id = some o → o.own = true → η id = some q → ro1 q.bl = w.heap[q.bl]?)
  | [], _ => ⟨η.ro, fun _ _ h => h, @St.refl T _ _ _ _ h, by simp⟩
  | id :: fz, hlk => by
    letI := T
    obtain ⟨ro1, h1, h2, h3⟩ := freezeSt h fz (fun k hk => hlk k (List.mem_cons_of_mem _ hk))
    by_cases hx : ∃ o q, (kills σ fz).get id = some o ∧ o.own = true ∧ η id = some q
    · obtain ⟨o, q, ho, hown, hq⟩ := hx
      have hst := St.freeze h2.rel ho hown (by rw [kills_lock]; exact hlk id (by simp)) (show (⟨η.pl, ro1, η.gh⟩ : Env) id = some q from hq)
      refine ⟨roAdd ro1 w q.bl, fun b o hb => roAdd_le h2.rel.roAt q.bl b o (h1 b o hb), h2.trans hst, ?_⟩
      intro id' hid' o' q' ho' hown' hq'
      show (if q'.bl = q.bl then w.heap[q.bl]? else ro1 q'.bl) = _
      split
      · next e => rw [e]
      · next e =>
        rcases List.mem_cons.1 hid' with rfl | hid'
        · rw [hq] at hq'; cases hq'; exact absurd rfl e
        · exact h3 id' hid' o' q' ho' hown' hq'
    · refine ⟨ro1, h1, h2.killR id, ?_⟩
      intro id' hid' o' q' ho' hown' hq'
      rcases List.mem_cons.1 hid' with rfl | hid'
      · by_cases hm : id' ∈ fz
        · exact h3 id' hm o' q' ho' hown' hq'
        · exact absurd ⟨o', q', by rw [kills_get, if_neg hm]; exact ho', hown', hq'⟩ hx
      · exact h3 id' hid' o' q' ho' hown' hq'

section
variable {T : TabsOf} {tabs : List (Nat × List AV)} {G next : Nat} {η : Env} {σ : ASt} {w : World} {fz : List Nat} {r : List (Nat × Option Nat)} {ps : List Nat} {gs : List GV} {ro1 : Nat → Option Obj}

theorem outCand_none {a : AV} {m : Nat} (h : @outCand T.toNodesOf P σ a = some (m, none)) : @nodeOf T.toNodesOf a = some m := by
  letI := T
  unfold outCand at h
  split at h
  · next m' hm => cases h; exact hm
  · split at h
    · split at h <;> cases h
    · split at h
      · obtain ⟨m', _, e⟩ := Option.map_eq_some_iff.1 h; cases e
      · cases h
    · cases h

theorem cellN_ok (C : MCtx T P tabs G next η σ w fz r ps gs ro1) {a : AV} {m : Nat} {v : Value} (h : @cellN T.toNodesOf P σ fz a = some m) (hv : @VR T η a v) : ∃ g, T.val m = some g ∧ g.scalar = true ∧ GR ro1 g v := by
  letI := T
  unfold cellN at h
  split at h
  · next m' hc =>
    cases h
    obtain ⟨g, k1, k2, k3⟩ := nodeOf_ok (outCand_none hc) hv
    exact ⟨g, k1, k2, GR.mono C.roLe _ _ k3⟩
  · next m' id hc =>
    split at h
    · next hf =>
      cases h
      -- the node has a value
      have hval : ∃ g, T.val m = some g := by
        unfold outCand at hc
        split at hc
        · cases hc
        · split at hc
          · next id' n =>
            split at hc
            · next m2 et f hg =>
              cases hc
              rcases C.rel.live _ _ hg with ⟨q, hq, hor⟩ | ⟨_, n2, et2, f2, e2, hv0⟩
              · obtain ⟨xs, x1, _⟩ := hor.ofVec; exact ⟨_, x1⟩
              · cases e2; exact ⟨_, hv0⟩
            · cases hc
          · split at hc
            · next c et rw_ opn hg =>
              obtain ⟨m2, hl, e⟩ := Option.map_eq_some_iff.1 hc
              cases e
              unfold listOf at hl
              simp only [hg] at hl
              split at hl
              · split at hl
                · split at hl
                  · split at hl
                    · obtain ⟨g, g1, _⟩ := findNd_ok hl; exact ⟨g, g1⟩
                    · cases hl
                  · cases hl
                · cases hl
              · cases hl
            · cases hc
          · cases hc
      obtain ⟨g, hg⟩ := hval
      obtain ⟨k1, k2⟩ := frzOk_ok C hf hv hg
      exact ⟨g, hg, k1, k2⟩
    · cases h
  · cases h
theorem cellsN_ok (C : MCtx T P tabs G next η σ w fz r ps gs ro1) : ∀ {l : List AV} {ns : List Nat} {vs : List Value}, @cellsN T.toNodesOf P σ fz l = some ns → @VRs T η l vs → ∃ gl, valsOf T.val ns = some gl ∧ gl.all GV.scalar = true ∧ GRs ro1 gl vs
  | [], ns, vs, h, hv => by simp only [cellsN, Option.some.injEq] at h; subst h; simp only [VRs] at hv; subst hv; exact ⟨[], rfl, rfl, by simp [GRs]⟩
  | a :: l, ns, vs, h, hv => by
    letI := T
    simp only [cellsN] at h
    split at h
    · next m r' hm hr =>
      cases h
      simp only [VRs] at hv
      obtain ⟨x, xs, rfl, h1, h2⟩ := hv
      obtain ⟨g, g1, g2, g3⟩ := cellN_ok C hm h1
      obtain ⟨gl, k1, k2, k3⟩ := cellsN_ok C hr h2
      exact ⟨g :: gl, by simp only [valsOf, g1, k1], by simp [g2, k2], by simp only [GRs]; exact ⟨x, xs, rfl, g3, k3⟩⟩
    · cases h
theorem valN_ok (C : MCtx T P tabs G next η σ w fz r ps gs ro1) {a : AV} {m : Nat} {v : Value} (h : @valN T.toNodesOf P σ fz a = some m) (hv : @VR T η a v) : ∃ g, T.val m = some g ∧ GR ro1 g v ∧ (match a with | .agg l => ∃ gl, g = .g gl ∧ gl.length = l.length | _ => g.scalar = true) := by
  letI := T
  cases a
  case agg l =>
    simp only [valN] at h
    split at h
    · next ns hns =>
      simp only [VR] at hv
      obtain ⟨vs, rfl, hvs⟩ := hv
      obtain ⟨gl, k1, k2, k3⟩ := cellsN_ok C hns hvs
      obtain ⟨g, g1, g2⟩ := findNd_ok h
      have k1' : valsOf TabsOf.val ns = some gl := k1
      simp only [Nd.den, k1', k2, if_true, Option.some.injEq] at g2
      subst g2
      exact ⟨_, g1, by simp only [GR]; exact ⟨vs, rfl, k3⟩, gl, rfl, by rw [k3.length, hvs.length]⟩
    · cases h
  all_goals
    simp only [valN] at h
    obtain ⟨g, g1, g2, g3⟩ := cellN_ok C h hv
    exact ⟨g, g1, g3, g2⟩
theorem valsN_ok (C : MCtx T P tabs G next η σ w fz r ps gs ro1) : ∀ {l : List AV} {ns : List Nat} {vs : List Value}, @valsN T.toNodesOf P σ fz l = some ns → @VRs T η l vs → ∃ gl, valsOf T.val ns = some gl ∧ GRs ro1 gl vs
  | [], ns, vs, h, hv => by simp only [valsN, Option.some.injEq] at h; subst h; simp only [VRs] at hv; subst hv; exact ⟨[], rfl, by simp [GRs]⟩
  | a :: l, ns, vs, h, hv => by
    letI := T
    simp only [valsN] at h
    split at h
    · next m r' hm hr =>
      cases h
      simp only [VRs] at hv
      obtain ⟨x, xs, rfl, h1, h2⟩ := hv
      obtain ⟨g, g1, g2, _⟩ := valN_ok C hm h1
      obtain ⟨gl, k1, k2⟩ := valsN_ok C hr h2
      exact ⟨g :: gl, by simp only [valsOf, g1, k1], by simp only [GRs]; exact ⟨x, xs, rfl, g2, k2⟩⟩
    · cases h

/-- The results of a call, by its nodes. -/
theorem outsAV_ok {k : Nat} {ns : List Nat} {gl out : List GV} (hns : valsOf T.val ns = some gl) (hI : T.I k gl = some out) {η' : Env} : ∀ {sh : List OSh} {j : Nat} {l : List AV} {us : List Value} {rest : List GV}, @outsAV T.toNodesOf k ns j sh = some l → shFits sh rest = true → (∀ i, rest[i]? = out[j + i]?) → GRs η'.ro rest us → @VRs T η' l us
  | [], j, l, us, rest, h, hf, hr, hg => by
    cases rest with
    | cons a b => simp [shFits] at hf
    | nil => simp only [outsAV, Option.some.injEq] at h; subst h; simp only [GRs] at hg; subst hg; simp [VRs]
  | s :: sh, j, l, us, rest, h, hf, hr, hg => by
    letI := T
    cases rest with
    | nil => cases s <;> simp [shFits] at hf
    | cons g rest =>
      simp only [outsAV] at h
      split at h
      · next a r' ha hr' =>
        cases h
        simp only [GRs] at hg
        obtain ⟨u, us', rfl, g1, g2⟩ := hg
        have h0 := hr 0
        simp only [List.getElem?_cons_zero, Nat.add_zero] at h0
        have hden : (Nd.call k ns j).den TabsOf.I TabsOf.val = some g := by
          have hns' : valsOf TabsOf.val ns = some gl := hns
          have hI' : TabsOf.I k gl = some out := hI
          simp only [Nd.den, hns', hI']; exact h0.symm
        have hrest : ∀ i, rest[i]? = out[j + 1 + i]? := fun i => by
          have := hr (i + 1)
          rw [List.getElem?_cons_succ] at this
          rw [this]; congr 1; omega
        cases s with
        | sc =>
          simp only [shFits, Bool.and_eq_true] at hf
          refine ⟨u, us', rfl, ?_, outsAV_ok hns hI hr' hf.2 hrest g2⟩
          obtain ⟨_, g', _, k2, k3⟩ := mkN_ok (η := η') ha
          rw [hden] at k2; cases k2
          exact k3 u hf.1 g1
        | ag n =>
          simp only [shFits, Bool.and_eq_true] at hf
          refine ⟨u, us', rfl, ?_, outsAV_ok hns hI hr' hf.2 hrest g2⟩
          simp only [outAV] at ha
          split at ha
          · next m hm =>
            obtain ⟨l', hl', rfl⟩ := Option.map_eq_some_iff.1 ha
            obtain ⟨g', k1, k2⟩ := findNd_ok hm
            rw [hden] at k2; cases k2
            obtain ⟨r'', h5, h6⟩ := cellNs_ok (η := η') k1 n 0 hl'
            cases g with
            | g cs =>
              have hlen := Nat.eq_of_beq_eq_true hf.1.2
              simp only [GR] at g1
              obtain ⟨vs, rfl, hvs⟩ := g1
              simp only [VR]
              refine ⟨vs, rfl, h6 vs ?_⟩
              obtain ⟨e1, e2, _⟩ := takeN_some h5
              have hlen' : cs.length = n := hlen
              rw [e1, List.drop_zero, List.take_of_length_le (by rw [gvAVs_length]; show cs.length ≤ n; omega)]
              exact (GRs_VRs _ _).1 hvs
            | _ => simp [GV.scalar] at hf
          · cases ha
      · cases h

theorem tupOf_ok {T : TabsOf} {η : Env} {l : List AV} {us : List Value} (h : @VRs T η l us) : @VR T η (tupOf l) (tupV us) := by
  letI := T
  have hl := h.length
  match l, us, h, hl with
  | [a], [u], h, _ => simp only [VRs] at h; obtain ⟨x, xs, e, h1, h2⟩ := h; cases e; exact h1
  | [], [], h, _ => show VR η (.tup []) (.tuple ⟨[]⟩); simp only [VR]; exact ⟨_, rfl, h⟩
  | a :: b :: l, u :: u' :: us, h, _ => show VR η (.tup _) (.tuple ⟨_⟩); simp only [VR]; exact ⟨_, rfl, h⟩
  | [], _ :: _, _, hl => simp at hl
  | [_], [], _, hl => simp at hl
  | [_], _ :: _ :: _, _, hl => simp at hl
  | _ :: _ :: _, [], _, hl => simp at hl
  | _ :: _ :: _, [_], _, hl => simp at hl

theorem pCall_ok {f : FuncId} {k : Nat} {st : List (Option FuncId)} {sh : List OSh} (hC : ∀ gs out, T.I k gs = some out → FnC P T.tabs f st sh gs out) : @PrimOk T P f (@pCall T.toNodesOf P k st sh) := by
  letI := T
  intro args0 σ rr σ' hs η w vs0 hS hv0
  unfold pCall at hs
  split at hs
  · cases hs
  next args htk =>
  obtain ⟨vs, rfl, hv⟩ := takeS_ok htk hv0
  simp only at hs
  split at hs
  · next hlk =>
    have hlk' : ∀ id ∈ fzOf P σ args, σ.lock ≤ id := fun id hid => Nat.le_of_ble_eq_true (List.all_eq_true.1 hlk id hid)
    split at hs
    · next ns hns =>
      split at hs
      · next a0 l hl =>
        cases hs
        obtain ⟨ro1, f1, f2, f3⟩ := freezeSt hS (fzOf P σ args) hlk'
        have C : MCtx T P T.tabs P.globals.size (P.globals.size + 1) η σ w (fzOf P σ args) [] [] [] ro1 := ⟨hS, rfl, f1, f3, rfl, Nat.lt_succ_self _⟩
        obtain ⟨gl, k1, k2⟩ := valsN_ok C hns hv
        -- the call's values
        have hI : ∃ out, T.I k gl = some out := by
          have hden : ∀ {m g}, findNd (.call k ns 0) = some m → TabsOf.val m = some g → ∃ out, T.I k gl = some out := by
            intro m g hm hg
            obtain ⟨g', _, d2⟩ := findNd_ok hm
            have k1' : valsOf TabsOf.val ns = some gl := k1
            simp only [Nd.den, k1'] at d2
            split at d2
            · next r hr => exact ⟨r, hr⟩
            · cases d2
          cases sh with
          | nil => simp [outsAV] at hl
          | cons s sh =>
            simp only [outsAV] at hl
            split at hl
            · next a1 r1 ha1 _ =>
              cases s with
              | sc =>
                simp only [outAV, mkN] at ha1
                split at ha1
                · next m hm => obtain ⟨g, g1, _⟩ := findNd_ok hm; exact hden hm g1
                · cases ha1
              | ag n =>
                simp only [outAV] at ha1
                split at ha1
                · next m hm => obtain ⟨g, g1, _⟩ := findNd_ok hm; exact hden hm g1
                · cases ha1
            · cases hl
        obtain ⟨out, hI⟩ := hI
        obtain ⟨hcall, hfit⟩ := hC gl out hI
        refine CallN.mono (hcall ro1 w vs f2.rel.roOk k2) ?_
        rintro v w' ⟨ro', hro, us, rfl, hus⟩
        have hst := St.ofRo (ro' := ro') f2.rel hro
        refine ⟨_, f2.trans hst, tupOf_ok (outsAV_ok k1 hI (η' := ⟨η.pl, ro', η.gh⟩) hl hfit (fun i => by simp) hus)⟩
      · cases hs
    · cases hs
  · cases hs

/-! ### A function's contract, from the ways of its body -/
def rsFits : List OSh → List AV → Bool
  | [], [] => true
  | .sc :: l, a :: m => (match a with | .agg _ => false | _ => true) && rsFits l m
  | .ag n :: l, a :: m => (match a with | .agg c => Nat.beq c.length n | _ => false) && rsFits l m
  | _, _ => false
theorem valsN_fits (C : MCtx T P tabs G next η σ w fz r ps gs ro1) : ∀ {sh : List OSh} {l : List AV} {ns : List Nat} {vs : List Value} {gl : List GV}, @valsN T.toNodesOf P σ fz l = some ns → @VRs T η l vs → valsOf T.val ns = some gl → rsFits sh l = true → shFits sh gl = true
  | sh, [], ns, vs, gl, h, hv, hg, hf => by
    cases sh with
    | nil => simp only [valsN, Option.some.injEq] at h; subst h; simp only [valsOf, Option.some.injEq] at hg; subst hg; rfl
    | cons s sh => cases s <;> simp [rsFits] at hf
  | sh, a :: l, ns, vs, gl, h, hv, hg, hf => by
    letI := T
    simp only [valsN] at h
    split at h
    · next m r' hm hr =>
      cases h
      simp only [VRs] at hv
      obtain ⟨x, xs, rfl, h1, h2⟩ := hv
      obtain ⟨g, g1, g2, g3⟩ := valN_ok C hm h1
      simp only [valsOf, g1] at hg
      split at hg
      · next g' rest e1 e2 =>
        cases e1; cases hg
        cases sh with
        | nil => simp [rsFits] at hf
        | cons s sh =>
          cases s with
          | sc =>
            simp only [rsFits, Bool.and_eq_true] at hf
            simp only [shFits, Bool.and_eq_true]
            refine ⟨?_, valsN_fits C hr h2 e2 hf.2⟩
            cases a <;> first | exact g3 | (simp at hf)
          | ag n =>
            simp only [rsFits, Bool.and_eq_true] at hf
            simp only [shFits, Bool.and_eq_true]
            refine ⟨?_, valsN_fits C hr h2 e2 hf.2⟩
            cases a <;> first | (simp at hf; done) | skip
            obtain ⟨gl', rfl, e3⟩ := g3
            have := Nat.eq_of_beq_eq_true hf.1
            exact ⟨rfl, by rw [show (GV.g gl').cells = gl' from rfl, e3, this]; exact Nat.beq_refl n⟩
      · cases hg
    · cases h

section
variable [NodesOf]
def argsAV : Nat → List OSh → Option (List AV)
  | _, [] => some []
  | j, .sc :: l => match argsAV (j + 1) l with
    | some r => some (.nd j :: r)
    | none => none
  | j, .ag n :: l => match cellNs j 0 n, argsAV (j + 1) l with
    | some c, some r => some (.agg c :: r)
    | _, _ => none
end
theorem argsAV_ok {η : Env} : ∀ {sh : List OSh} {j : Nat} {l : List AV} {vs : List Value} {rest : List GV}, @argsAV T.toNodesOf j sh = some l → shFits sh rest = true → (∀ i g, rest[i]? = some g → T.val (j + i) = some g) → GRs η.ro rest vs → @VRs T η l vs
  | [], j, l, vs, rest, h, hf, hr, hg => by
    cases rest with
    | cons a b => simp [shFits] at hf
    | nil => simp only [argsAV, Option.some.injEq] at h; subst h; simp only [GRs] at hg; subst hg; simp [VRs]
  | s :: sh, j, l, vs, rest, h, hf, hr, hg => by
    letI := T
    cases rest with
    | nil => cases s <;> simp [shFits] at hf
    | cons g rest =>
      simp only [GRs] at hg
      obtain ⟨u, us, rfl, g1, g2⟩ := hg
      have h0 := hr 0 g (by simp)
      have hrest : ∀ i g, rest[i]? = some g → T.val (j + 1 + i) = some g := fun i g hi => by
        have := hr (i + 1) g (by simpa using hi)
        rw [← this]; congr 1; omega
      cases s with
      | sc =>
        simp only [argsAV] at h
        split at h
        · next r' hr' =>
          cases h
          simp only [shFits, Bool.and_eq_true] at hf
          exact ⟨u, us, rfl, by simp only [VR]; exact ⟨g, h0, hf.1, g1⟩, argsAV_ok hr' hf.2 hrest g2⟩
        · cases h
      | ag n =>
        simp only [argsAV] at h
        split at h
        · next c r' hc hr' =>
          cases h
          simp only [shFits, Bool.and_eq_true] at hf
          refine ⟨u, us, rfl, ?_, argsAV_ok hr' hf.2 hrest g2⟩
          obtain ⟨r'', h5, h6⟩ := cellNs_ok (η := η) h0 n 0 hc
          cases g with
          | g cs =>
            have hlen := Nat.eq_of_beq_eq_true hf.1.2
            simp only [GR] at g1
            obtain ⟨vs, rfl, hvs⟩ := g1
            simp only [VR]
            refine ⟨vs, rfl, h6 vs ?_⟩
            obtain ⟨e1, e2, _⟩ := takeN_some h5
            have hlen' : cs.length = n := hlen
            rw [e1, List.drop_zero, List.take_of_length_le (by rw [gvAVs_length]; show cs.length ≤ n; omega)]
            exact (GRs_VRs _ _).1 hvs
          | _ => simp [GV.scalar] at hf
        · cases h

def leafFn (P : Program) (tabs : List (Nat × List AV)) (pl : PList) (specs : List (Nat × LoopSpec)) (fuel : Nat) (st : List (Option FuncId)) (shIn shOut : List OSh) (ntmps : Nat) (res : List ResultVar) (ac : AC) (ns : List Nd) (ds : List (Nat × Bool)) (lf : Leaf) : Bool :=
  match lf with
  | .ret l => match @argsAV ⟨ns, ds, 0⟩ 0 shIn with
    | some args => match @acRun ⟨ns, ds, 0⟩ (stepsOf P tabs ⟨ns, ds, 0⟩ specs) (runOf P ⟨ns, ds, 0⟩ pl fuel) ac { t := argTr (putA st args) 0 .nil, n := max (putA st args).length ntmps, gn := P.globals.size } ⟨ofL (tabObjs tabs), P.globals.size + 1, 0⟩ with
      | some (e, a', σ') => (match e with | .exit _ => false | _ => true) && match aResults P σ' a' res with
        | some rs => rsFits shOut rs && match @valsN ⟨ns, ds, 0⟩ P σ' (@fzOf ⟨ns, ds, 0⟩ P σ' rs) rs with
          | some l' => natsEq l l'
          | none => false
        | none => false
      | none => false
    | none => false
  | _ => false

theorem tabStart (hlow : TabsLow tabs P.globals.size) (htabs : T.tabs = tabs) : @TabStart T ⟨ofL (tabObjs tabs), P.globals.size + 1, 0⟩ P.globals.size := by
  refine ⟨Nat.lt_succ_self _, fun id o ho => ?_⟩
  have hm := ofL_mem (show (ofL (tabObjs tabs)).get id = some o from ho)
  obtain ⟨p, hp, e⟩ := List.mem_map.1 hm
  cases e
  exact ⟨p.2, rfl, by rw [htabs]; exact hp, hlow.low p hp⟩

theorem FnC.of_tree {tabs : List (Nat × List AV)} (hlow : TabsLow tabs P.globals.size) (hm : P.follows .mixedOrders = true) (hn : NamesOk P) {pl : PList} {I : Itp} (hpl : PListOk P tabs I pl) {specs : List (Nat × LoopSpec)} {fuel : Nat} {f : FuncId} {fn : Func} {c : Code} {pe : List Nat} {st : List (Option FuncId)} {shIn shOut : List OSh} {t : Tree}
    (hf : P.funcs[f]? = some fn) (hc : fn.body = some c)
    (hspecs : ∀ k sp', getA k specs = some sp' → sp'.pre.ok = true ∧ ∀ b, (annot pe c).HasLoop k b → ∀ gs out, I sp'.key gs = some out → LoopC P tabs b sp'.pre sp'.posts gs out)
    (hchk : t.chk (leafFn P tabs pl specs fuel st shIn shOut fn.ntmps fn.results.toList (annot pe c)) (List.replicate shIn.length .arg) [] = true) {gs out : List GV} (hd : (PDef.fn shIn shOut t).den I gs = some out) : FnC P tabs f st shOut gs out := by
  simp only [PDef.den] at hd
  split at hd
  rotate_left
  · cases hd
  next hfit =>
  split at hd
  rotate_left
  · cases hd
  next out0 hd0 =>
  split at hd
  rotate_left
  · cases hd
  next hfo =>
  cases hd
  have hd := hd0
  have hlen : gs.length = shIn.length := by
    clear hd hd0 hchk
    induction shIn generalizing gs with
    | nil => cases gs with | nil => rfl | cons _ _ => simp [shFits] at hfit
    | cons s sh ih => cases gs with
      | nil => cases s <;> simp [shFits] at hfit
      | cons g gs => cases s <;> simp only [shFits, Bool.and_eq_true] at hfit <;> simp [ih hfit.2]
  obtain ⟨ns, ds, env, lf, h1, h2, ⟨more, h3⟩, h4⟩ := Tree.chk_ok t hchk (WayOk.start I gs _ hlen) hd
  let T : TabsOf := Tw tabs I 0 h2
  unfold leafFn at h1
  split at h1
  · next l =>
    split at h1
    · next args hargs =>
      split at h1
      · next e a' σ' hrun =>
        rw [Bool.and_eq_true] at h1
        obtain ⟨he, h1⟩ := h1
        split at h1
        · next rs hrs =>
          rw [Bool.and_eq_true] at h1
          obtain ⟨hrf, h1⟩ := h1
          split at h1
          · next l' hl' =>
            have hll := natsEq_eq h1
            subst hll
            have hAT : ∀ Q : AExit → AAct → ASt → Prop, Q e a' σ' → @AT T P c { t := argTr (putA st args) 0 .nil, n := max (putA st args).length fn.ntmps, gn := P.globals.size } ⟨ofL (tabObjs tabs), P.globals.size + 1, 0⟩ Q := by
              intro Q hq
              have := @acRun_ok P T (stepsOf P tabs ⟨ns, ds, 0⟩ specs) (runOf P ⟨ns, ds, 0⟩ pl fuel) (runOf_ok (T := T) hm hn (hpl T rfl rfl) fuel) (annot pe c) (annotF_erase pe c 0).2 (fun k b hk a σ e1 a1 σ1 hs Q' hq' => by
                unfold stepsOf at hs
                split at hs
                · next sp' hsp =>
                  obtain ⟨k1, k2⟩ := hspecs k sp' hsp
                  exact lStep_ok (T := T) rfl hlow k1 (fun gs out hI => k2 b hk gs out hI) hs hq'
                · cases hs) _ _ _ _ _ hrun Q hq
              rwa [show (annot pe c).erase = c from (annotF_erase pe c 0).1] at this
            have henv : ∀ i g, gs[i]? = some g → T.val (0 + i) = some g := by
              intro j g hj
              show env[0 + j]? = some g
              rw [h3, Nat.zero_add]
              have := (List.getElem?_eq_some_iff.1 hj).1
              rw [List.getElem?_append_left this]; exact hj
            -- the ends of all calls
            have key : ∀ ro w vs, RoOk tabs ro w → GRs ro gs vs → Calls P f ⟨putS st vs⟩ w fun en w' => ∃ v, en = .returned v ∧ ∃ ro', RoStep ro ro' w w' ∧ ∃ us, v = tupV us ∧ GRs ro' out us := by
              intro ro w vs hro hvs
              letI := T
              have hst : TabStart (⟨ofL (tabObjs tabs), P.globals.size + 1, 0⟩ : ASt) P.globals.size := tabStart (T := T) hlow rfl
              have hS0 : SR P (envOf P.globals.size ⟨ofL (tabObjs tabs), P.globals.size + 1, 0⟩ ro) ⟨ofL (tabObjs tabs), P.globals.size + 1, 0⟩ w :=
                SR_start hst.1 (fun id o ho => by
                  obtain ⟨c, rfl, hmem, hle⟩ := hst.2 id o ho
                  obtain ⟨cs, elem, fr, k1, k2, k3⟩ := hro.tab _ hmem
                  exact ⟨hle, c, rfl, ⟨cs, elem, fr, hro.at' _ _ k1, k2, k3⟩⟩) hro.at' (fun p hp => hro.tab p hp)
              have hv0 : VRs (envOf P.globals.size ⟨ofL (tabObjs tabs), P.globals.size + 1, 0⟩ ro) (putA st args) (putS st vs) := putA_ok (argsAV_ok (T := T) hargs hfit henv hvs)
              refine calls_of_wp hf hc ?_
              refine hAT (fun e2 a2 σ2 => e2 = e ∧ a2 = a' ∧ σ2 = σ') ⟨rfl, rfl, rfl⟩ (.shut w) ro (envOf P.globals.size ⟨ofL (tabObjs tabs), P.globals.size + 1, 0⟩ ro) w _ _ (Fresh.start hS0 hst.own) rfl (enter_ok hv0) ?_
              rintro e2 a2 σ2 η1 A' w' ⟨rfl, rfl, rfl⟩ hF hl0 ht
              obtain ⟨us, r1, r2⟩ := results_ok hF.rel ht (fun | .tmp t => pure (A'.tmps.getD t undef) | .cell a t => do loadVar t (← asAddr (A'.tmps.getD a undef))) (fun _ => rfl) (fun _ _ => rfl) _ _ hrs
              obtain ⟨ro1, f1, f2, f3⟩ := freezeAll hF hl0 (@fzOf ⟨ns, ds, 0⟩ P σ2 rs)
              have C : MCtx T P tabs P.globals.size (P.globals.size + 1) η1 σ2 w' (@fzOf ⟨ns, ds, 0⟩ P σ2 rs) [] [] [] ro1 := ⟨hF.rel, rfl, f1, f3, rfl, Nat.lt_succ_self _⟩
              obtain ⟨gl, k1, k2⟩ := valsN_ok C hl' r2
              have hgl : gl = out := by
                have h4' : valsOf (fun n => env[n]?) l = some out := h4
                have k1' : valsOf (fun n => env[n]?) l = some gl := k1
                rw [k1'] at h4'; cases h4'; rfl
              subst hgl
              have hres' : (results fn A'.tmps).run P w' = .ok (if h : (⟨us⟩ : Array Value).size = 1 then (⟨us⟩ : Array Value)[0] else .tuple ⟨us⟩) w' := by
                unfold results
                rw [Array.mapM_eq_mapM_toList]
                simp only [Sem.run_bind, Sem.run_map]
                exact congrArg (fun r : Result (List Value) => (r.andThen fun a w' => Result.ok a.toArray w').andThen fun a w' => Sem.run P (pure (if h : a.size = 1 then a[0] else Value.tuple a)) w') r1
              have htup : (if h : (⟨us⟩ : Array Value).size = 1 then (⟨us⟩ : Array Value)[0] else .tuple ⟨us⟩) = tupV us := by
                match us with
                | [] => rfl
                | [u] => rfl
                | u :: u' :: us => rfl
              rw [htup] at hres'
              have hpost : A'.defers = [] ∧ ∃ v, (results fn A'.tmps).run P w' = .ok v w' ∧ ∃ v', Ending.returned v = .returned v' ∧ (∃ ro', RoStep ro ro' w w' ∧ ∃ us, v' = tupV us ∧ GRs ro' gl us) :=
                ⟨ht.none, _, hres', _, rfl, ⟨ro1, ⟨hF.kept.shut, f2.roLe, f2.roNewS, f2.rel.roAt⟩, us, rfl, k2⟩⟩
              cases e2 with
              | normal => exact hpost
              | ret => exact hpost
              | exit id => simp at he
            refine ⟨fun ro w vs hro hvs => ?_, ?_⟩
            · right
              refine ⟨?_, Calls.mono' (key ro w vs hro hvs) ?_⟩
              · have hname := hn f fn c hf hc
                simp only [callFunc, Sem.run_bind, program, Sem.run, Result.andThen_ok, hf]
                simp only [hname, Bool.false_eq_true, if_false, hc, Option.isNone_some, Sem.run_pure]
              · rintro en w' ⟨v, rfl, h5⟩
                exact ⟨v, rfl, h5⟩
            · exact hfo
          · cases h1
        · cases h1
      · cases h1
    · cases h1
  · cases h1
end
end
end Go.Abs

/-! # AbsLend -/
namespace Go.Abs
open Go.RowKit
noncomputable section
set_option linter.unusedSectionVars false
set_option linter.unusedVariables false
variable {P : Program}
section
variable [NodesOf]
/-- Are the answers texts (true) or numbers (false), by the nodes that are named? -/
def lendN (k : Nat) (ns : List Nat) : Nat → List Bool → Bool
  | _, [] => true
  | j, b :: l => (match findNd (.call k ns j) with
    | some c => (match b with
      | true => (match findNd (.sid c) with | some _ => true | none => false)
      | false => (match findNd (.conv .i64 c) with | some _ => true | none => false))
    | none => false) && lendN k ns (j + 1) l
def pLend (P : Program) (k : Nat) (ks : List Bool) : PFn := fun args σ =>
  let fz := fzOf P σ args
  if fz.all (Nat.ble σ.lock ·) then
    match valsN P σ fz args with
    | some ns => if lendN k ns 0 ks then match outsAV k ns 0 (ks.map fun _ => .sc) with
      | some (a :: l) => some (tupOf (a :: l), σ)
      | _ => none
      else none
    | none => none
  else none
/-- What a call answers is frozen, where its last argument isn't told. -/
def pFzR (P : Program) (p : PFn) : PFn := fun args σ => match p args σ with
  | some (.tup l, σ1) => (match args.getLast? with
    | some (.nd _) =>
      if (fzOf P σ1 l).all (Nat.ble σ1.lock ·) then
        match cellsN P σ1 (fzOf P σ1 l) l with
        | some ns => some (.tup (ns.map .nd), kills σ1 (fzOf P σ1 l))
        | none => none
      else none
    | _ => some (.tup l, σ1))
  | r => r
/-- The blocks of our own among the arguments are frozen first. -/
def pFz (P : Program) (p : PFn) : PFn := fun args σ =>
  let fz := fzOf P σ args
  if fz.all (Nat.ble σ.lock ·) then
    match cellsN P σ fz args with
    | some ns => p (ns.map .nd) (kills σ fz)
    | none => none
  else none
end
theorem nds_ok {T : TabsOf} {η : Env} : ∀ {ns : List Nat} {gl : List GV} {vs : List Value}, valsOf T.val ns = some gl → gl.all GV.scalar = true → GRs η.ro gl vs → @VRs T η (ns.map .nd) vs
  | [], gl, vs, h, _, hg => by
    simp only [valsOf, Option.some.injEq] at h
    subst h
    simp only [GRs] at hg
    subst hg
    simp [VRs]
  | n :: ns, gl, vs, h, hs, hg => by
    letI := T
    simp only [valsOf] at h
    split at h
    · next g r h1 h2 =>
      cases h
      simp only [GRs] at hg
      obtain ⟨x, xs, rfl, g1, g2⟩ := hg
      rw [List.all_cons, Bool.and_eq_true] at hs
      simp only [List.map_cons, VRs]
      refine ⟨x, xs, rfl, ?_, nds_ok h2 hs.2 g2⟩
      simp only [VR]
      exact ⟨g, h1, hs.1, g1⟩
    · cases h
theorem pFz_ok {T : TabsOf} {f : FuncId} {p : PFn} (hp : @PrimOk T P f p) : @PrimOk T P f (@pFz T.toNodesOf P p) := by
  letI := T
  intro args σ rr σ' hs η w vs hS hv
  unfold pFz at hs
  simp only at hs
  split at hs
  · next hlk =>
    have hlk' : ∀ id ∈ fzOf P σ args, σ.lock ≤ id := fun id hid => Nat.le_of_ble_eq_true (List.all_eq_true.1 hlk id hid)
    split at hs
    · next ns hns =>
      obtain ⟨ro1, f1, f2, f3⟩ := freezeSt hS (fzOf P σ args) hlk'
      have C : MCtx T P T.tabs P.globals.size (P.globals.size + 1) η σ w (fzOf P σ args) [] [] [] ro1 := ⟨hS, rfl, f1, f3, rfl, Nat.lt_succ_self _⟩
      obtain ⟨gl, k1, k3, k2⟩ := cellsN_ok C hns hv
      have hv2 : VRs ⟨η.pl, ro1, η.gh⟩ (ns.map .nd) vs := nds_ok (T := T) k1 k3 k2
      refine CallN.mono (hp _ _ _ _ hs _ w vs f2.rel hv2) ?_
      rintro v w' ⟨η', hst, hr⟩
      exact ⟨η', f2.trans hst, hr⟩
    · cases hs
  · cases hs
theorem pFzR_ok {T : TabsOf} {f : FuncId} {p : PFn} (hp : @PrimOk T P f p) : @PrimOk T P f (@pFzR T.toNodesOf P p) := by
  letI := T
  intro args σ rr σ' hs η w vs hS hv
  unfold pFzR at hs
  split at hs
  · next l σ1 hc =>
    split at hs
    · split at hs
      · next hlk =>
        have hlk' : ∀ id ∈ fzOf P σ1 l, σ1.lock ≤ id := fun id hid => Nat.le_of_ble_eq_true (List.all_eq_true.1 hlk id hid)
        split at hs
        · next ns hns =>
          cases hs
          refine CallN.mono (hp _ _ _ _ hc _ w vs hS hv) ?_
          rintro v w' ⟨η', hst, hr⟩
          obtain ⟨ro1, f1, f2, f3⟩ := freezeSt hst.rel (fzOf P σ1 l) hlk'
          have C : MCtx T P T.tabs P.globals.size (P.globals.size + 1) η' σ1 w' (fzOf P σ1 l) [] [] [] ro1 := ⟨hst.rel, rfl, f1, f3, rfl, Nat.lt_succ_self _⟩
          simp only [VR] at hr
          obtain ⟨us, rfl, hr⟩ := hr
          obtain ⟨gl, k1, k3, k2⟩ := cellsN_ok C hns hr
          refine ⟨⟨η'.pl, ro1, η'.gh⟩, hst.trans f2, ?_⟩
          simp only [VR]
          exact ⟨us, rfl, nds_ok (T := T) k1 k3 k2⟩
        · cases hs
      · cases hs
    · cases hs
      exact hp _ _ _ _ hc _ w vs hS hv
  · exact hp _ _ _ _ hs _ w vs hS hv
theorem GRs.plain {ro ro2 : Nat → Option Obj} : ∀ {l : List GV} {vs : List Value}, (∀ g ∈ l, (∃ x, g = .s x) ∨ ∃ k n, g = .i k n) → GRs ro l vs → GRs ro2 l vs
  | [], vs, _, h => h
  | g :: l, vs, hl, h => by
    simp only [GRs] at h ⊢
    obtain ⟨x, xs, rfl, h1, h2⟩ := h
    refine ⟨x, xs, rfl, ?_, GRs.plain (fun g hg => hl g (by simp [hg])) h2⟩
    rcases hl g (by simp) with ⟨y, rfl⟩ | ⟨k, n, rfl⟩ <;> exact h1
theorem lend_plain {T : TabsOf} {k : Nat} {ns : List Nat} {gl out : List GV} (hns : valsOf T.val ns = some gl) (hI : T.I k gl = some out) : ∀ {ks : List Bool} {j : Nat}, @lendN T.toNodesOf k ns j ks = true → ∀ i, i < ks.length → (∃ x, out[j + i]? = some (.s x)) ∨ ∃ kk n, out[j + i]? = some (.i kk n)
  | [], j, h, i, hi => by simp at hi
  | b :: l, j, h, i, hi => by
    letI := T
    unfold lendN at h
    rw [Bool.and_eq_true] at h
    obtain ⟨h1, h2⟩ := h
    cases i with
    | succ i =>
      have := lend_plain hns hI (ks := l) h2 i (by simpa using hi)
      rwa [Nat.add_right_comm, Nat.add_assoc] at this
    | zero =>
      split at h1
      · next c hc =>
        obtain ⟨g, g1, g2⟩ := findNd_ok hc
        have hns' : valsOf TabsOf.val ns = some gl := hns
        have hI' : TabsOf.I k gl = some out := hI
        simp only [Nd.den, hns', hI'] at g2
        rw [Nat.add_zero, g2]
        cases b with
        | true =>
          simp only at h1
          split at h1
          · next m hm =>
            obtain ⟨g', p1, p2⟩ := findNd_ok hm
            simp only [Nd.den, g1] at p2
            split at p2
            · next x e => cases e; exact .inl ⟨x, rfl⟩
            · cases p2
          · cases h1
        | false =>
          simp only at h1
          split at h1
          · next m hm =>
            obtain ⟨g', p1, p2⟩ := findNd_ok hm
            simp only [Nd.den, g1] at p2
            split at p2
            · next kk n e => cases e; exact .inr ⟨kk, n, rfl⟩
            · cases p2
          · cases h1
      · cases h1
theorem pLend_ok {T : TabsOf} {f : FuncId} {k : Nat} {ks : List Bool} (hC : ∀ gs out, T.I k gs = some out → FnC P T.tabs f [] (ks.map fun _ => .sc) gs out) : @PrimOk T P f (@pLend T.toNodesOf P k ks) := by
  letI := T
  intro args σ rr σ' hs η w vs hS hv
  unfold pLend at hs
  simp only at hs
  split at hs
  · next hlk =>
    have hlk' : ∀ id ∈ fzOf P σ args, σ.lock ≤ id := fun id hid => Nat.le_of_ble_eq_true (List.all_eq_true.1 hlk id hid)
    split at hs
    · next ns hns =>
      split at hs
      · next hld =>
        split at hs
        · next a0 l hl =>
          cases hs
          obtain ⟨ro1, f1, f2, f3⟩ := freezeSt hS (fzOf P σ args) hlk'
          have C : MCtx T P T.tabs P.globals.size (P.globals.size + 1) η σ w (fzOf P σ args) [] [] [] ro1 := ⟨hS, rfl, f1, f3, rfl, Nat.lt_succ_self _⟩
          obtain ⟨gl, k1, k2⟩ := valsN_ok C hns hv
          have hI : ∃ out, T.I k gl = some out := by
            cases ks with
            | nil => simp [outsAV] at hl
            | cons b l =>
              unfold lendN at hld
              rw [Bool.and_eq_true] at hld
              have h1 := hld.1
              split at h1
              · next c hc =>
                obtain ⟨g', _, d2⟩ := findNd_ok hc
                have k1' : valsOf TabsOf.val ns = some gl := k1
                simp only [Nd.den, k1'] at d2
                split at d2
                · next r hr => exact ⟨r, hr⟩
                · cases d2
              · cases h1
          obtain ⟨out, hI⟩ := hI
          obtain ⟨hcall, hfit⟩ := hC gl out hI
          refine CallN.mono (hcall ro1 w vs f2.rel.roOk k2) ?_
          rintro v w' ⟨ro', hro, us, rfl, hus⟩
          have hro2 : RoStep η.ro η.ro w w' := ⟨hro.kept, fun _ _ h => h, fun _ h => .inl h, fun b o h => hro.at' b o (hro.le b o (f1 b o h))⟩
          have hst := St.ofRo (ro' := η.ro) hS hro2
          have hlen : out.length = ks.length := by
            have : ∀ (ks : List Bool) (out : List GV), shFits (ks.map fun _ => OSh.sc) out = true → out.length = ks.length := by
              intro ks
              induction ks with
              | nil => intro out h; cases out with
                | nil => rfl
                | cons a b => simp [shFits] at h
              | cons b ks ih => intro out h; cases out with
                | nil => simp [shFits] at h
                | cons g out => simp only [List.map_cons, shFits, Bool.and_eq_true] at h; simp [ih out h.2]
            exact this ks out hfit
          have hpl : ∀ g ∈ out, (∃ x, g = .s x) ∨ ∃ k n, g = .i k n := fun g hg => by
            obtain ⟨i, hi⟩ := List.getElem?_of_mem hg
            have hil : i < ks.length := by rw [← hlen]; exact (List.getElem?_eq_some_iff.1 hi).1
            have := lend_plain k1 hI hld i hil
            rw [Nat.zero_add, hi] at this
            rcases this with ⟨x, e⟩ | ⟨kk, n, e⟩ <;> cases e
            · exact .inl ⟨x, rfl⟩
            · exact .inr ⟨kk, n, rfl⟩
          exact ⟨_, hst, tupOf_ok (outsAV_ok k1 hI (η' := ⟨η.pl, η.ro, η.gh⟩) hl hfit (fun i => by simp) (GRs.plain hpl hus))⟩
        · cases hs
      · cases hs
    · cases hs
  · cases hs
end
end Go.Abs

/-! # AbsFnS -/
namespace Go.Abs
noncomputable section
set_option linter.unusedSectionVars false
set_option linter.unusedVariables false
set_option linter.unusedSimpArgs false
variable {P : Program}

def Shp.args (s : Shp) : List AV := s.slots.map (·.2)
/-- Values, told by a shape. -/
def ArgsAre (P : Program) (tabs : List (Nat × List AV)) (s : Shp) (gs : List GV) (w0 : Base) (ro0 : Nat → Option Obj) (vs : List Value) (w : World) : Prop :=
  ∃ η, @Fresh (Tg tabs gs s.ka) P w0 ro0 η (s.st tabs) w ∧ @VRs (Tg tabs gs s.ka) η s.args vs
/-- What a function does that is handed blocks: its end's number, and what stands then. -/
def FnS (P : Program) (tabs : List (Nat × List AV)) (f : FuncId) (st : List (Option FuncId)) (pre : Shp) (posts : List (AExit × Shp)) (gs out : List GV) : Prop :=
  ∃ (t : Nat) (r rest : List GV) (e : AExit) (s : Shp), out = GV.i .i64 t :: r ∧ posts[t]? = some (e, s) ∧ exG s.al gs r = some rest ∧ rest.length = s.np ∧
    ∀ w0 ro0 w vs, ArgsAre P tabs pre gs w0 ro0 vs w → CallN P f ⟨putS st vs⟩ w fun v w' => ∃ us, v = tupV us ∧ ArgsAre P tabs s rest w0 ro0 us w'

/-! ### Blocks and nodes, renamed -/
mutual
def AV.ren (ρ f : Nat → Nat) : AV → AV
  | .nd j => .nd (f j)
  | .rx j off => .rx (f j) off
  | .sv id j => .sv (ρ id) (f j)
  | .p id off => .p (ρ id) off
  | .mp id => .mp (ρ id)
  | .sl id off len cap => .sl (ρ id) off len cap
  | .fn g fi cs => .fn g (AV.rens ρ f fi) (AV.rens ρ f cs)
  | .ifc t a => .ifc t (a.ren ρ f)
  | .agg l => .agg (AV.rens ρ f l)
  | .tup l => .tup (AV.rens ρ f l)
  | a => a
def AV.rens (ρ f : Nat → Nat) : List AV → List AV
  | [] => []
  | a :: l => a.ren ρ f :: AV.rens ρ f l
end
mutual
def AV.okS (G : Nat) : AV → Bool
  | .sv id _ => Nat.blt G id
  | .sl id _ _ _ => Nat.blt G id
  | .fn _ fi cs => AV.okSs G fi && AV.okSs G cs
  | .ifc _ a => a.okS G
  | .agg l => AV.okSs G l
  | .tup l => AV.okSs G l
  | .nd _ | .rx _ _ | .p _ _ | .mp _ | .b _ | .i _ _ | .s _ | .nilp | .nils | .nilf | .nili | .nilm => true
  | _ => false
def AV.okSs (G : Nat) : List AV → Bool
  | [] => true
  | a :: l => a.okS G && AV.okSs G l
end
def AObj.ren (ρ f : Nat → Nat) : AObj → AObj
  | .cells c et rw opn => .cells (AV.rens ρ f c) et rw opn
  | .vec j et b => .vec (f j) et b
  | .smap j kk sz => .smap (f j) kk sz
  | o => o
def AObj.okS (G : Nat) : AObj → Bool
  | .cells c _ rw _ => AV.okSs G c && rw
  | .vec _ _ _ => true
  | .smap _ _ _ => true
  | _ => false
theorem rens_map (ρ f : Nat → Nat) : ∀ l : List AV, AV.rens ρ f l = l.map (AV.ren ρ f)
  | [] => rfl
  | a :: l => by simp [AV.rens, rens_map ρ f l]

structure RenOk (S T : TabsOf) (G : Nat) (ρ f : Nat → Nat) (η η' : Env) : Prop where
  val : ∀ j g, S.val j = some g → T.val (f j) = some g
  pl : ∀ i q, G < i → η i = some q → η' (ρ i) = some q
  gl : ∀ i q, i ≤ G → η i = some q → ∃ q', η' (ρ i) = some q' ∧ q'.bl = q.bl ∧ q'.ba = q.ba
  gh : ∀ i, G < i → η.gh i = true → η'.gh (ρ i) = true
  ro : ∀ b o, η.ro b = some o → η'.ro b = some o

section
variable {S T : TabsOf} {G : Nat} {ρ f : Nat → Nat} {η η' : Env}
mutual
theorem VR.ren (h : RenOk S T G ρ f η η') : ∀ (a : AV) (v : Value), a.okS G = true → @VR S η a v → @VR T η' (a.ren ρ f) v
  | .b _, _, _, hv => by simpa only [VR, AV.ren] using hv
  | .i _ _, _, _, hv => by simpa only [VR, AV.ren] using hv
  | .s _, _, _, hv => by simpa only [VR, AV.ren] using hv
  | .nilp, _, _, hv => by simpa only [VR, AV.ren] using hv
  | .p i off, v, _, hv => by
    simp only [VR, AV.ren] at hv ⊢
    obtain ⟨q, hq, rfl⟩ := hv
    by_cases hi : i ≤ G
    · obtain ⟨q', h1, h2, h3⟩ := h.gl i q hi hq
      exact ⟨q', h1, by rw [h2, h3]⟩
    · exact ⟨q, h.pl i q (by omega) hq, rfl⟩
  | .nils, _, _, hv => by simpa only [VR, AV.ren] using hv
  | .sl i off len cap, v, ho, hv => by
    simp only [AV.okS, Nat.blt_eq] at ho
    simp only [VR, AV.ren] at hv ⊢
    obtain ⟨q, hq, h1, rfl⟩ := hv
    exact ⟨q, h.pl i q ho hq, h1, rfl⟩
  | .nilm, _, _, hv => by simpa only [VR, AV.ren] using hv
  | .mp i, v, _, hv => by
    simp only [VR, AV.ren] at hv ⊢
    obtain ⟨q, hq, rfl⟩ := hv
    by_cases hi : i ≤ G
    · obtain ⟨q', h1, h2, h3⟩ := h.gl i q hi hq
      exact ⟨q', h1, by rw [h2]⟩
    · exact ⟨q, h.pl i q (by omega) hq, rfl⟩
  | .nilf, _, _, hv => by simpa only [VR, AV.ren] using hv
  | .fn _ fi cs, _, ho, hv => by
    simp only [AV.okS, Bool.and_eq_true] at ho
    simp only [VR, AV.ren] at hv ⊢
    obtain ⟨us, vs, e, h1, h2⟩ := hv
    exact ⟨us, vs, e, VRs.ren h fi us ho.1 h1, VRs.ren h cs vs ho.2 h2⟩
  | .nili, _, _, hv => by simpa only [VR, AV.ren] using hv
  | .ifc _ a, _, ho, hv => by simp only [AV.okS] at ho; simp only [VR, AV.ren] at hv ⊢; obtain ⟨x, e, h1⟩ := hv; exact ⟨x, e, VR.ren h a x ho h1⟩
  | .agg l, _, ho, hv => by simp only [AV.okS] at ho; simp only [VR, AV.ren] at hv ⊢; obtain ⟨x, e, h1⟩ := hv; exact ⟨x, e, VRs.ren h l x ho h1⟩
  | .tup l, _, ho, hv => by simp only [AV.okS] at ho; simp only [VR, AV.ren] at hv ⊢; obtain ⟨x, e, h1⟩ := hv; exact ⟨x, e, VRs.ren h l x ho h1⟩
  | .z _ _ _, _, ho, _ => by simp [AV.okS] at ho
  | .ro _, _, ho, _ => by simp [AV.okS] at ho
  | .rp _ _, _, ho, _ => by simp [AV.okS] at ho
  | .nd _, _, _, hv => by simp only [VR, AV.ren] at hv ⊢; obtain ⟨g, h1, h2, h3⟩ := hv; exact ⟨g, h.val _ _ h1, h2, GR.mono h.ro _ _ h3⟩
  | .rx _ _, _, _, hv => by
    simp only [VR, AV.ren] at hv ⊢
    obtain ⟨g, bl, base, cs, elem, fr, x, h1, h2, h3, h4⟩ := hv
    exact ⟨g, bl, base, cs, elem, fr, x, h.val _ _ h1, h.ro _ _ h2, GR.mono h.ro _ _ h3, h4⟩
  | .sv i j, _, ho, hv => by
    simp only [AV.okS, Nat.blt_eq] at ho
    simp only [VR, AV.ren] at hv ⊢
    obtain ⟨xs, h1, ⟨q, hq, h2⟩ | ⟨hg, h2⟩⟩ := hv
    · exact ⟨xs, h.val _ _ h1, .inl ⟨q, h.pl i q ho hq, h2⟩⟩
    · exact ⟨xs, h.val _ _ h1, .inr ⟨h.gh i ho hg, h2⟩⟩
  | .pv _ _ _, _, ho, _ => by simp [AV.okS] at ho
  | .pd _ _, _, ho, _ => by simp [AV.okS] at ho
theorem VRs.ren (h : RenOk S T G ρ f η η') : ∀ (l : List AV) (vs : List Value), AV.okSs G l = true → @VRs S η l vs → @VRs T η' (AV.rens ρ f l) vs
  | [], _, _, hv => by simpa only [VRs, AV.rens] using hv
  | a :: l, _, ho, hv => by
    simp only [AV.okSs, Bool.and_eq_true] at ho
    simp only [VRs, AV.rens] at hv ⊢
    obtain ⟨x, xs, e, h1, h2⟩ := hv
    exact ⟨x, xs, e, VR.ren h a x ho.1 h1, VRs.ren h l xs ho.2 h2⟩
end
theorem OR.ren (h : RenOk S T G ρ f η η') {q : Place} {w : World} {o : AObj} (ho : o.okS G = true) (r : @OR S P η q w o) : @OR T P η' q w (o.ren ρ f) := by
  cases o with
  | cells c et rw_ opn =>
    simp only [AObj.okS, Bool.and_eq_true] at ho
    obtain ⟨cs, elem, fr, h1, ⟨r1, r2, r3, r4, r5, r6, r7⟩⟩ := r
    have hl : (AV.rens ρ f c).length = c.length := by rw [rens_map]; simp
    have hok : ∀ a ∈ c, a.okS G = true := by
      have : ∀ l : List AV, AV.okSs G l = true → ∀ a ∈ l, a.okS G = true := by
        intro l
        induction l with
        | nil => intro _ a ha; simp at ha
        | cons b l ih =>
          intro h a ha
          simp only [AV.okSs, Bool.and_eq_true] at h
          rcases List.mem_cons.1 ha with rfl | ha
          · exact h.1
          · exact ih h.2 a ha
      exact this c ho.1
    refine ⟨cs, elem, fr, h1, @CellsR.mk T P η' q _ et rw_ opn cs elem fr r1 (by rw [hl]; exact r2) (fun e => by rw [hl]; exact r3 e) (fun k a hk => ?_) r5 r6 r7⟩
    rw [rens_map, List.getElem?_map] at hk
    obtain ⟨a0, h2, rfl⟩ := Option.map_eq_some_iff.1 hk
    obtain ⟨x, hx, hv⟩ := r4 k a0 h2
    exact ⟨x, hx, VR.ren h a0 x (hok a0 (List.mem_of_getElem? h2)) hv⟩
  | iter s pos => simp [AObj.okS] at ho
  | map es => simp [AObj.okS] at ho
  | pmap es => simp [AObj.okS] at ho
  | iterM m => simp [AObj.okS] at ho
  | smap j kk sz =>
    obtain ⟨xs, ms, clock, k1, k2, k3⟩ := r
    exact ⟨xs, ms, clock, h.val _ _ k1, k2, k3.mono h.ro⟩
  | vec j et b =>
    obtain ⟨xs, cs, elem, fr, ys, k1, k2, k3, k4, k5, k6, ⟨r1, r2, r3, r4, r5, r6, r7⟩, k8⟩ := r
    exact ⟨xs, cs, elem, fr, ys, h.val _ _ k1, k2, GRs.mono h.ro _ _ k3, k4, k5, k6, @CellsR.mk T P η' q [] et true true cs elem fr r1 r2 r3 (fun k a hk => by simp at hk) r5 r6 r7, k8⟩
theorem Live.ren (h : RenOk S T G ρ f η η') {w : World} {i : Nat} {o : AObj} (hi : G < i) (ho : o.okS G = true) (r : @Live S P η w i o) : @Live T P η' w (ρ i) (o.ren ρ f) := by
  rcases r with ⟨q, hq, hr⟩ | ⟨hg, n, et, b, rfl, hv⟩
  · exact .inl ⟨q, h.pl i q hi hq, OR.ren h ho hr⟩
  · exact .inr ⟨h.gh i hi hg, f n, et, b, rfl, h.val _ _ hv⟩
end
theorem AObj.okS_own {G : Nat} {o : AObj} (h : o.okS G = true) : o.own = true := by
  cases o <;> simp only [AObj.okS, Bool.and_eq_true, Bool.false_eq_true] at h <;> simp [AObj.own]
  exact h.2
theorem AObj.ren_own {G : Nat} {ρ f : Nat → Nat} {o : AObj} (h : o.okS G = true) : (o.ren ρ f).own = true := by
  cases o <;> simp only [AObj.okS, Bool.and_eq_true, Bool.false_eq_true] at h <;> simp [AObj.own, AObj.ren]
  exact h.2

/-! ### The call -/
def rhoC (G ka next : Nat) (r : List (Nat × Option Nat)) (i : Nat) : Nat := if i ≤ G then i else if i ≤ G + ka then (match getA i r with | some (some id) => id | _ => 0) else next + (i - (G + ka + 1))
def putObjs (ρ f : Nat → Nat) : List (Nat × AObj) → Tr AObj → Tr AObj
  | [], h => h
  | p :: l, h => (putObjs ρ f l h).set (ρ p.1) (some (p.2.ren ρ f))
def idsOf : List (Nat × Option Nat) → List Nat
  | [] => []
  | p :: l => match p.2 with
    | some id => id :: idsOf l
    | none => idsOf l
def dupFree {α : Type} : List (Nat × α) → Bool
  | [] => true
  | p :: l => (match getA p.1 l with | none => true | some _ => false) && dupFree l
/-- The handed-in blocks that keep their names stand in the state. -/
def ancS (r : List (Nat × Option Nat)) (σ : ASt) : Nat → Nat → Bool
  | _, 0 => true
  | i, n + 1 => (match getA (i + 1) r with
    | some (some id) => (match σ.get id with | some (.cells _ _ _ _) => true | _ => false)
    | _ => false) && ancS r σ (i + 1) n
def postOk (s : Shp) : Bool := Nat.blt (s.gn + s.ka) s.next && AV.okSs s.gn s.args && dupFree s.objs && s.objs.all fun p => Nat.blt s.gn p.1 && Nat.blt p.1 s.next && p.2.okS s.gn

section
variable [NodesOf]
def fitA (P : Program) (s : Shp) (l : List AV) (σ : ASt) : US := uObjs P s.gn σ s.objs (uVs P s.gn σ s.args l ⟨[], [], []⟩)
def fitB (P : Program) (s : Shp) (l : List AV) (σ : ASt) : US := uObjs P s.gn σ s.objs (uVs P s.gn σ s.args l ⟨ancR s.gn s.ka, [], []⟩)
def mArgs (P : Program) (s : Shp) (l : List AV) (σ : ASt) (fz : List Nat) (r : List (Nat × Option Nat)) (ps : List Nat) : Bool :=
  Nat.beq s.gn P.globals.size && Nat.blt (s.gn + s.ka) s.next && rInj r && mVs P s.gn σ fz r ps s.args l && mObjs P s.gn s.next σ fz r ps s.objs
/-- Does the function fit, and what does it lead to? -/
def pCallS (P : Program) (st : List (Option FuncId)) (sp : LoopSpec) : PFn := fun args0 σ => match takeS st args0 with
  | none => none
  | some args => match fitA P sp.pre args σ with
    | ⟨r, p, fz⟩ => match psOf p 0 sp.pre.np with
      | none => none
      | some ps =>
        if mArgs P sp.pre args σ fz r ps && (fz.all (Nat.ble σ.lock ·) && ((idsOf r).all (fun id => Nat.ble σ.lock id && !(fz.contains id)) && ancS r σ sp.pre.gn sp.pre.ka)) then
          match findNd (.call sp.key ps 0) with
          | some tag => match pickExit tag sp.posts 0 with
            | some (_, s) => if postOk s && (Nat.beq s.ka sp.pre.ka && Nat.beq s.gn sp.pre.gn) then match outNs sp.key ps s.al 1 s.np with
              | some ns =>
                some (tupOf (AV.rens (rhoC s.gn s.ka σ.next r) (fun j => ns.getD j 0) s.args), ⟨putObjs (rhoC s.gn s.ka σ.next r) (fun j => ns.getD j 0) s.objs (kills (kills σ fz) (idsOf r)).h, σ.next + (s.next - (s.gn + s.ka + 1)), σ.lock⟩)
              | none => none
              else none
            | none => none
          | none => none
        else none
end

theorem dupFree_at {α : Type} : ∀ {l : List (Nat × α)}, dupFree l = true → ∀ {k : Nat} {v : α}, (k, v) ∈ l → getA k l = some v
  | [], _, k, v, h => by simp at h
  | p :: l, hd, k, v, h => by
    simp only [dupFree, Bool.and_eq_true] at hd
    rcases List.mem_cons.1 h with e | h
    · subst e; simp [getA]
    · have h1 := dupFree_at hd.2 h
      simp only [getA]
      cases hb : Nat.beq k p.1 with
      | true =>
        have e := Nat.eq_of_beq_eq_true hb
        have h2 := hd.1
        rw [← e, h1] at h2
        cases h2
      | false => exact h1
theorem getA_append {α : Type} : ∀ {l m : List (Nat × α)} {k : Nat} {v : α}, getA k l = some v → getA k (l ++ m) = some v
  | [], m, k, v, h => by simp [getA] at h
  | p :: l, m, k, v, h => by
    simp only [List.cons_append, getA] at h ⊢
    cases hb : Nat.beq k p.1 with
    | true => rw [hb] at h; exact h
    | false => rw [hb] at h; exact getA_append h
theorem putObjs_get {ρ f : Nat → Nat} : ∀ {l : List (Nat × AObj)} {h : Tr AObj} {k : Nat} {o : AObj}, (putObjs ρ f l h).get k = some o → (∃ i o0, (i, o0) ∈ l ∧ ρ i = k ∧ o = o0.ren ρ f) ∨ (h.get k = some o ∧ ∀ p ∈ l, ρ p.1 ≠ k)
  | [], h, k, o, hg => .inr ⟨hg, fun p hp => by simp at hp⟩
  | q :: l, h, k, o, hg => by
    simp only [putObjs, Tr.get_set] at hg
    split at hg
    · next e => cases hg; exact .inl ⟨q.1, q.2, by simp, e.symm, rfl⟩
    · next e =>
      rcases putObjs_get hg with ⟨i, o0, h1, h2, h3⟩ | ⟨h1, h2⟩
      · exact .inl ⟨i, o0, List.mem_cons_of_mem _ h1, h2, h3⟩
      · refine .inr ⟨h1, fun p hp => ?_⟩
        rcases List.mem_cons.1 hp with rfl | hp
        · exact fun e' => e e'.symm
        · exact h2 p hp
theorem idsOf_mem {r : List (Nat × Option Nat)} : ∀ {i id : Nat}, getA i r = some (some id) → id ∈ idsOf r := by
  induction r with
  | nil => intro i id h; simp [getA] at h
  | cons p l ih =>
    intro i id h
    simp only [getA] at h
    cases hb : Nat.beq i p.1 with
    | true =>
      rw [hb] at h
      simp only [cond_true, Option.some.injEq] at h
      simp only [idsOf, h]
      simp
    | false =>
      rw [hb] at h
      have := ih h
      simp only [idsOf]
      split
      · exact List.mem_cons_of_mem _ this
      · exact this
theorem ancS_at {r : List (Nat × Option Nat)} {σ : ASt} : ∀ {n i : Nat}, ancS r σ i n = true → ∀ j, i < j → j ≤ i + n → ∃ id c et rw opn, getA j r = some (some id) ∧ σ.get id = some (.cells c et rw opn)
  | 0, i, _, j, h1, h2 => by omega
  | n + 1, i, h, j, h1, h2 => by
    simp only [ancS, Bool.and_eq_true] at h
    by_cases e : j = i + 1
    · subst e
      have h3 := h.1
      split at h3
      · next id hid =>
        split at h3
        · next c et rw opn hg => exact ⟨id, c, et, rw, opn, hid, hg⟩
        · cases h3
      · cases h3
    · exact ancS_at h.2 j (by omega) (by omega)

/-- The step behind a call that was handed blocks. -/
theorem St.ofShp {T : TabsOf} {tabs : List (Nat × List AV)} (htabs : T.tabs = tabs) {G ka : Nat} (hG : G = P.globals.size) {η η2 : Env} {σ : ASt} {w w' : World} (h : @SR T P η σ w) {r : List (Nat × Option Nat)} (hinj : rInj r = true) (hlk : ∀ id ∈ idsOf r, σ.lock ≤ id) (hanc : ancS r σ G ka = true)
    {s : Shp} (hs : postOk s = true) (hsk : s.ka = ka) (hsg : s.gn = G) {gs : List GV} {f : Nat → Nat} (hf : ∀ j g, gs[j]? = some g → T.val (f j) = some g)
    (hF : @Fresh (Tg tabs gs s.ka) P ⟨w, fun b => ∃ id o q, id ∈ idsOf r ∧ σ.get id = some o ∧ o.own = true ∧ η id = some q ∧ q.bl = b, fun i => if G < i ∧ i ≤ G + ka then (match getA i r with | some (some id) => η id | _ => none) else none⟩ η.ro η2 (s.st tabs) w')
    {vs : List Value} (hv : @VRs (Tg tabs gs s.ka) η2 s.args vs) :
    ∃ η', @St T P η σ w η' ⟨putObjs (rhoC s.gn s.ka σ.next r) f s.objs (kills σ (idsOf r)).h, σ.next + (s.next - (s.gn + s.ka + 1)), σ.lock⟩ w' ∧ @VRs T η' (AV.rens (rhoC s.gn s.ka σ.next r) f s.args) vs := by
  obtain ⟨⟨sglob, sdom, slive, sghd, ssep, sroAt, sroSep, stabs⟩, skept, sown, sroLe, sroNew, sanc⟩ := hF
  letI := T
  subst hsk; subst hsg
  unfold postOk at hs
  simp only [Bool.and_eq_true, Nat.blt_eq] at hs
  obtain ⟨⟨⟨p1, p2⟩, p3⟩, p4⟩ := hs
  have p4' : ∀ i o, (i, o) ∈ s.objs → s.gn < i ∧ i < s.next ∧ o.okS s.gn = true := by
    intro i o hm
    have := List.all_eq_true.1 p4 _ hm
    simp only [Bool.and_eq_true, Nat.blt_eq] at this
    exact ⟨this.1.1, this.1.2, this.2⟩
  have stget : ∀ i o, (i, o) ∈ s.objs → (s.st tabs).get i = some o := by
    intro i o hm
    show (ofL (s.objs ++ tabObjs tabs)).get i = some o
    rw [ofL_get]
    exact getA_append (dupFree_at p3 hm)
  let B : Nat := s.gn + s.ka + 1
  let η' : Env := ⟨fun id => if id < σ.next then η id else η2 (id - σ.next + B), η2.ro, fun id => if id < σ.next then η.gh id else η2.gh (id - σ.next + B)⟩
  have hroLe : ∀ b o, η.ro b = some o → η2.ro b = some o := sroLe
  have hext : η.le η' := by
    refine ⟨fun id q hq => ?_, hroLe, fun id hg => ?_⟩
    · show (if id < σ.next then η id else _) = some q
      rw [if_pos (h.dom id q hq)]; exact hq
    · show (if id < σ.next then η.gh id else _) = true
      rw [if_pos (h.ghd id hg).2]; exact hg
  -- where the handed-in blocks lie
  have anc : ∀ i, s.gn < i → i ≤ s.gn + s.ka → ∃ id q, getA i r = some (some id) ∧ η id = some q ∧ η2 i = some q ∧ id < σ.next ∧ (∃ o, σ.get id = some o) := by
    intro i h1 h2
    obtain ⟨id, c, et, rw_, opn, g1, g2⟩ := ancS_at hanc i h1 h2
    obtain ⟨q, hq, _⟩ := h.obj _ _ g2 rfl
    have := (sanc i q (by show (if s.gn < i ∧ i ≤ s.gn + s.ka then _ else _) = _; rw [if_pos ⟨h1, h2⟩, g1]; exact hq)).1
    exact ⟨id, q, g1, hq, this, h.dom id q hq, _, g2⟩
  have rhoA : ∀ i id, s.gn < i → i ≤ s.gn + s.ka → getA i r = some (some id) → rhoC s.gn s.ka σ.next r i = id := by
    intro i id h1 h2 h3
    unfold rhoC
    rw [if_neg (by omega), if_pos h2, h3]
  have rhoN : ∀ i, s.gn + s.ka < i → rhoC s.gn s.ka σ.next r i = σ.next + (i - B) := by
    intro i h1
    unfold rhoC
    rw [if_neg (by omega), if_neg (by omega)]
  have plN : ∀ i, s.gn + s.ka < i → η' (σ.next + (i - B)) = η2 i ∧ η'.gh (σ.next + (i - B)) = η2.gh i := by
    intro i h1
    have e : σ.next + (i - B) - σ.next + B = i := by show σ.next + (i - (s.gn + s.ka + 1)) - σ.next + (s.gn + s.ka + 1) = i; omega
    constructor
    · show (if σ.next + (i - B) < σ.next then _ else η2 (σ.next + (i - B) - σ.next + B)) = _
      rw [if_neg (by omega), e]
    · show (if σ.next + (i - B) < σ.next then _ else η2.gh (σ.next + (i - B) - σ.next + B)) = _
      rw [if_neg (by omega), e]
  have hren : RenOk (Tg tabs gs s.ka) T s.gn (rhoC s.gn s.ka σ.next r) f η2 η' := by
    refine ⟨hf, fun i q hi hq => ?_, fun i q hi hq => ?_, fun i hi hg => ?_, fun _ _ h => h⟩
    · by_cases hk : i ≤ s.gn + s.ka
      · obtain ⟨id, q', g1, g2, g3, g4, _⟩ := anc i hi hk
        rw [rhoA i id hi hk g1]
        rw [hq] at g3; cases g3
        exact hext.pl _ _ g2
      · rw [rhoN i (by omega), (plN i (by omega)).1]; exact hq
    · obtain ⟨sz, es, e1⟩ := sglob i (by omega)
      rw [hq] at e1; cases e1
      obtain ⟨sz', es', e2⟩ := h.glob i (by omega)
      refine ⟨⟨i, 0, sz', es'⟩, ?_, rfl, rfl⟩
      show η' (rhoC s.gn s.ka σ.next r i) = _
      unfold rhoC
      rw [if_pos hi]
      exact hext.pl _ _ e2
    · by_cases hk : i ≤ s.gn + s.ka
      · obtain ⟨id, q', g1, g2, g3, _⟩ := anc i hi hk
        rw [(sghd i hg).1] at g3; cases g3
      · rw [rhoN i (by omega), (plN i (by omega)).2]; exact hg
  -- what stood and was not handed in
  have old : ∀ id o, (kills σ (idsOf r)).get id = some o → id ∉ idsOf r ∧ σ.get id = some o := by
    intro id o hg
    rw [kills_get] at hg
    split at hg
    · cases hg
    · next hm => exact ⟨hm, hg⟩
  have notHole : ∀ id o q, id ∉ idsOf r → σ.get id = some o → η id = some q → ∀ id0 o0 q0, id0 ∈ idsOf r → σ.get id0 = some o0 → o0.own = true → η id0 = some q0 → q0.bl ≠ q.bl := by
    intro id o q hm hg hq id0 o0 q0 hm0 hg0 ho0 hq0
    exact h.sep id0 o0 id o q0 q hg0 ho0 hg (fun e => hm (e ▸ hm0)) hq0 hq
  have keepOld : ∀ id o q, id ∉ idsOf r → σ.get id = some o → η id = some q → q.bl < w.heap.size → w'.heap[q.bl]? = w.heap[q.bl]? := by
    intro id o q hm hg hq hlt
    refine skept.keep q.bl hlt ?_
    rintro ⟨id0, o0, q0, a1, a2, a3, a4, a5⟩
    exact notHole id o q hm hg hq id0 o0 q0 a1 a2 a3 a4 a5
  -- what the objects are
  have obj : ∀ k o, (putObjs (rhoC s.gn s.ka σ.next r) f s.objs (kills σ (idsOf r)).h).get k = some o → (∃ i o0, (i, o0) ∈ s.objs ∧ rhoC s.gn s.ka σ.next r i = k ∧ o = o0.ren (rhoC s.gn s.ka σ.next r) f) ∨ (k ∉ idsOf r ∧ σ.get k = some o ∧ ∀ p ∈ s.objs, rhoC s.gn s.ka σ.next r p.1 ≠ k) := by
    intro k o hk
    rcases putObjs_get hk with h1 | ⟨h1, h2⟩
    · exact .inl h1
    · obtain ⟨h3, h4⟩ := old k o h1
      exact .inr ⟨h3, h4, h2⟩
  have plOld : ∀ k o q, σ.get k = some o → η' k = some q → η k = some q := by
    intro k o q hg hq
    have hlt : k < σ.next := h.hasLt (h.hasOf hg)
    have hq' : (if k < σ.next then η k else _) = some q := hq
    rw [if_pos hlt] at hq'; exact hq'
  have plNew : ∀ i o q, (i, o) ∈ s.objs → η' (rhoC s.gn s.ka σ.next r i) = some q → η2 i = some q := by
    intro i o q hm hq
    obtain ⟨g1, g2, g3⟩ := p4' i o hm
    by_cases hk : i ≤ s.gn + s.ka
    · obtain ⟨id, q', a1, a2, a3, a4, _⟩ := anc i g1 hk
      rw [rhoA i id g1 hk a1] at hq
      have := hext.pl _ _ a2
      rw [hq] at this; cases this
      exact a3
    · rw [rhoN i (by omega), (plN i (by omega)).1] at hq; exact hq
  have rhoInj : ∀ i j oi oj, (i, oi) ∈ s.objs → (j, oj) ∈ s.objs → rhoC s.gn s.ka σ.next r i = rhoC s.gn s.ka σ.next r j → i = j := by
    intro i j oi oj hi hj e
    obtain ⟨g1, g2, _⟩ := p4' i oi hi
    obtain ⟨k1, k2, _⟩ := p4' j oj hj
    by_cases c1 : i ≤ s.gn + s.ka <;> by_cases c2 : j ≤ s.gn + s.ka
    · obtain ⟨id, _, a1, _, _, _, _⟩ := anc i g1 c1
      obtain ⟨id', _, b1, _, _, _, _⟩ := anc j k1 c2
      rw [rhoA i id g1 c1 a1, rhoA j id' k1 c2 b1] at e
      subst e
      exact rInj_at hinj i j id a1 b1
    · obtain ⟨id, _, a1, _, _, a4, _⟩ := anc i g1 c1
      rw [rhoA i id g1 c1 a1, rhoN j (by omega)] at e
      omega
    · obtain ⟨id, _, a1, _, _, a4, _⟩ := anc j k1 c2
      rw [rhoA j id k1 c2 a1, rhoN i (by omega)] at e
      omega
    · rw [rhoN i (by omega), rhoN j (by omega)] at e
      have hB : B = s.gn + s.ka + 1 := rfl
      omega
  have ownNew : ∀ i o q, (i, o) ∈ s.objs → η2 i = some q → w.heap.size ≤ q.bl ∨ ∃ id o0 q0, id ∈ idsOf r ∧ σ.get id = some o0 ∧ o0.own = true ∧ η id = some q0 ∧ q0.bl = q.bl := by
    intro i o q hm hq
    exact sown i o q (stget i o hm) (AObj.okS_own (p4' i o hm).2.2) hq
  have hlt : ∀ k o q, σ.get k = some o → η k = some q → q.bl < w.heap.size := fun k o q hg hq => (h.at hg hq).lt
  refine ⟨η', ⟨hext, ⟨?_, ?_, ?_, ?_, ?_, sroAt, ?_, ?_⟩, skept.size, ?_, ?_, skept.os, skept.tape, skept.output, rfl, Nat.le_add_right _ _, ?_, ?_⟩, VRs.ren hren _ _ p2 hv⟩
  · intro g hg
    obtain ⟨sz, es, e⟩ := h.glob g hg
    exact ⟨sz, es, hext.pl _ _ e⟩
  · intro id q hq
    show id < σ.next + (s.next - (s.gn + s.ka + 1))
    by_cases hl : id < σ.next
    · omega
    · have hq' : (if id < σ.next then η id else η2 (id - σ.next + B)) = some q := hq
      rw [if_neg hl] at hq'
      have := sdom _ _ hq'
      have : id - σ.next + (s.gn + s.ka + 1) < s.next := this
      omega
  · intro k o hk
    rcases obj k o hk with ⟨i, o0, h1, rfl, rfl⟩ | ⟨h1, h2, _⟩
    · obtain ⟨g1, g2, g3⟩ := p4' i o0 h1
      exact Live.ren hren g1 g3 (slive i o0 (stget i o0 h1))
    · refine ((h.live k o h2).heap fun q hq hor => ?_).mono hext
      exact keepOld k o q h1 h2 hq hor.lt
  · intro id hg
    have hg' : (if id < σ.next then η.gh id else η2.gh (id - σ.next + B)) = true := hg
    show (if id < σ.next then η id else η2 (id - σ.next + B)) = none ∧ id < σ.next + (s.next - (s.gn + s.ka + 1))
    by_cases hl : id < σ.next
    · rw [if_pos hl] at hg' ⊢
      exact ⟨(h.ghd id hg').1, by omega⟩
    · rw [if_neg hl] at hg' ⊢
      obtain ⟨a1, a2⟩ := sghd _ hg'
      have a2' : id - σ.next + (s.gn + s.ka + 1) < s.next := a2
      exact ⟨a1, by omega⟩
  · intro k o k' o' q q' a1 a2 a3 a4 a5 a6
    rcases obj k o a1 with ⟨i, o0, h1, rfl, rfl⟩ | ⟨h1, h2, _⟩ <;> rcases obj k' o' a3 with ⟨j, o0', k1, rfl, rfl⟩ | ⟨k1, k2, _⟩
    · have b1 := plNew i o0 q h1 a5
      have b2 := plNew j o0' q' k1 a6
      exact ssep i o0 j o0' q q' (stget i o0 h1) (AObj.okS_own (p4' i o0 h1).2.2) (stget j o0' k1) (fun e => a4 (by rw [e])) b1 b2
    · have b1 := plNew i o0 q h1 a5
      have b2 := plOld k' o' q' k2 a6
      rcases ownNew i o0 q h1 b1 with c1 | ⟨id, o1, q1, c1, c2, c3, c4, c5⟩
      · have := hlt k' o' q' k2 b2
        omega
      · rw [← c5]
        exact notHole k' o' q' k1 k2 b2 id o1 q1 c1 c2 c3 c4
    · have b1 := plOld k o q h2 a5
      have b2 := plNew j o0' q' k1 a6
      rcases ownNew j o0' q' k1 b2 with c1 | ⟨id, o1, q1, c1, c2, c3, c4, c5⟩
      · have := hlt k o q h2 b1
        omega
      · rw [← c5]
        exact fun e => notHole k o q h1 h2 b1 id o1 q1 c1 c2 c3 c4 e.symm
    · exact h.sep k o k' o' q q' h2 a2 k2 a4 (plOld k o q h2 a5) (plOld k' o' q' k2 a6)
  · intro k o q a1 a2 a3
    rcases obj k o a1 with ⟨i, o0, h1, rfl, rfl⟩ | ⟨h1, h2, _⟩
    · exact sroSep i o0 q (stget i o0 h1) (AObj.okS_own (p4' i o0 h1).2.2) (plNew i o0 q h1 a3)
    · have b1 := plOld k o q h2 a3
      show η2.ro q.bl = none
      cases hro : η2.ro q.bl with
      | none => rfl
      | some x =>
        rcases sroNew q.bl (by rw [hro]; simp) with c1 | c1 | ⟨id, o1, q1, c1, c2, c3, c4, c5⟩
        · exact absurd (h.roSep k o q h2 a2 b1) c1
        · have := hlt k o q h2 b1
          have c1' : w.heap.size ≤ q.bl := c1
          omega
        · exact absurd c5 (notHole k o q h1 h2 b1 id o1 q1 c1 c2 c3 c4)
  · intro p hp
    have hp' : p ∈ tabs := by rw [← htabs]; exact hp
    obtain ⟨cs, elem, fr, e1, e2⟩ := stabs p hp'
    exact ⟨cs, elem, fr, e1, e2⟩
  · intro bl hbl hno
    refine skept.keep bl hbl ?_
    rintro ⟨id, o, q, a1, a2, a3, a4, a5⟩
    exact hno id o q a2 a3 (hlk id a1) a4 a5
  · intro k o q a1 a2 a3 a4
    rcases obj k o a1 with ⟨i, o0, h1, rfl, rfl⟩ | ⟨h1, h2, _⟩
    · rcases ownNew i o0 q h1 (plNew i o0 q h1 a4) with c1 | ⟨id, o1, q1, c1, c2, c3, c4, c5⟩
      · exact .inl c1
      · exact .inr ⟨id, o1, q1, c2, c3, hlk id c1, c4, c5⟩
    · exact .inr ⟨k, o, q, h2, a2, a3, plOld k o q h2 a4, rfl⟩
  · intro id hh
    by_cases hl : id < σ.next
    · left
      rcases hh with ⟨q, hq⟩ | hg
      · have hq' : (if id < σ.next then η id else _) = some q := hq
        rw [if_pos hl] at hq'
        exact .inl ⟨q, hq'⟩
      · have hg' : (if id < σ.next then η.gh id else _) = true := hg
        rw [if_pos hl] at hg'
        exact .inr hg'
    · right
      refine ⟨by omega, ?_⟩
      show id < σ.next + (s.next - (s.gn + s.ka + 1))
      rcases hh with ⟨q, hq⟩ | hg
      · have hq' : (if id < σ.next then η id else η2 (id - σ.next + B)) = some q := hq
        rw [if_neg hl] at hq'
        have : id - σ.next + (s.gn + s.ka + 1) < s.next := sdom _ _ hq'
        omega
      · have hg' : (if id < σ.next then η.gh id else η2.gh (id - σ.next + B)) = true := hg
        rw [if_neg hl] at hg'
        have : id - σ.next + (s.gn + s.ka + 1) < s.next := (sghd _ hg').2
        omega
  · intro b hb
    rcases sroNew b hb with c1 | c1 | ⟨id, o1, q1, c1, c2, c3, c4, c5⟩
    · exact .inl c1
    · exact .inr (.inl c1)
    · exact .inr (.inr ⟨id, o1, q1, c2, c3, hlk id c1, c4, c5⟩)

theorem pCallS_ok {T : TabsOf} (hlow : TabsLow T.tabs P.globals.size) {f : FuncId} {st : List (Option FuncId)} {sp : LoopSpec} (hok : sp.pre.ok = true) (hC : ∀ gs out, T.I sp.key gs = some out → FnS P T.tabs f st sp.pre sp.posts gs out) : @PrimOk T P f (@pCallS T.toNodesOf P st sp) := by
  letI := T
  intro args0 σ rr σ' hs η w vs0 hS hv0
  unfold pCallS at hs
  split at hs
  · cases hs
  next args htk =>
  obtain ⟨vs, rfl, hv⟩ := takeS_ok htk hv0
  split at hs
  next r p fz hfit =>
  split at hs
  · cases hs
  next ps hps =>
  split at hs
  rotate_left
  · cases hs
  next hm =>
  split at hs
  rotate_left
  · cases hs
  next tag htag =>
  split at hs
  rotate_left
  · cases hs
  next e s hpick =>
  split at hs
  rotate_left
  · cases hs
  next hpost =>
  split at hs
  rotate_left
  · cases hs
  next ns hns =>
  cases hs
  rw [Bool.and_eq_true, Bool.and_eq_true, Bool.and_eq_true] at hm
  obtain ⟨hm, hm1, hm2, hm3⟩ := hm
  unfold mArgs at hm
  simp only [Bool.and_eq_true, Nat.blt_eq] at hm
  obtain ⟨⟨⟨⟨m1, m2⟩, m3⟩, m4⟩, m5⟩ := hm
  have m1 := Nat.eq_of_beq_eq_true m1
  rw [Bool.and_eq_true, Bool.and_eq_true] at hpost
  obtain ⟨q1, q2, q3⟩ := hpost
  have q2 := Nat.eq_of_beq_eq_true q2
  have q3 := Nat.eq_of_beq_eq_true q3
  unfold Shp.ok at hok
  rw [Bool.and_eq_true, Bool.and_eq_true] at hok
  obtain ⟨⟨_, hbs⟩, hbo⟩ := hok
  have hbs : AV.unders sp.pre.next sp.pre.args = true := by
    have : ∀ l : List (Nat × AV), belowSlots sp.pre.next l = true → AV.unders sp.pre.next (l.map (·.2)) = true := by
      intro l
      induction l with
      | nil => intro _; rfl
      | cons a l ih => intro h; simp only [belowSlots, Bool.and_eq_true] at h; simp only [List.map_cons, AV.unders, Bool.and_eq_true]; exact ⟨h.1, ih h.2⟩
    exact this _ hbs
  have hlk1 : ∀ id ∈ fz, σ.lock ≤ id := fun id hid => Nat.le_of_ble_eq_true (List.all_eq_true.1 hm1 id hid)
  have hlk2 : ∀ id ∈ idsOf r, σ.lock ≤ id := fun id hid => by
    have := List.all_eq_true.1 hm2 id hid
    rw [Bool.and_eq_true] at this
    exact Nat.le_of_ble_eq_true this.1
  have hnfz : ∀ id ∈ idsOf r, id ∉ fz := fun id hid hm => by
    have := List.all_eq_true.1 hm2 id hid
    rw [Bool.and_eq_true, List.contains_iff_mem.2 hm] at this
    simp at this
  obtain ⟨ro1, f1, f2, f3⟩ := freezeSt hS fz hlk1
  -- the call's values
  obtain ⟨gt, t1, t2⟩ := findNd_ok htag
  simp only [Nd.den] at t2
  split at t2
  rotate_left
  · cases t2
  next gs hgs =>
  split at t2
  rotate_left
  · cases t2
  next out hI =>
  obtain ⟨t, r0, rest, e2, s2, rfl, hp2, hex, hrl, hrun⟩ := hC gs out hI
  simp only [List.getElem?_cons_zero, Option.some.injEq] at t2
  subst t2
  have hpe := pickExit_ok t1 sp.posts 0 hpick (Nat.zero_le _) (e2, s2) (by simpa using hp2)
  cases hpe
  obtain ⟨n1, n2⟩ := outNs_ok hgs hI _ 1 s.al (r := r0) (fun k => by rw [Nat.add_comm, List.getElem?_cons_succ]) hex hns
  have hval : ∀ j g, rest[j]? = some g → T.val (ns.getD j 0) = some g := by
    intro j g hj
    have hjl : j < ns.length := by have := (List.getElem?_eq_some_iff.1 hj).1; omega
    have hm : ns[j]? = some (ns.getD j 0) := by rw [List.getD_eq_getElem?_getD, List.getElem?_eq_getElem hjl]; rfl
    rw [n2 j _ hm]; exact hj
  have C : MCtx T P T.tabs sp.pre.gn sp.pre.next η σ w fz r ps gs ro1 := ⟨hS, hgs, f1, f3, m1, by omega⟩
  obtain ⟨hR, hown⟩ := match_sr (ka := sp.pre.ka) rfl hlow hbo (by omega) m1 C f2.rel.roAt (fun id o q b2 b3 b4 b5 => f2.rel.roSep id o q (by rw [kills_get, if_neg b2]; exact b3) b4 b5) m3 m5
  -- the base of the call
  let σ1 : ASt := kills σ fz
  let η1 : Env := ⟨η.pl, ro1, η.gh⟩
  let w0 : Base := ⟨w, fun b => ∃ id o q, id ∈ idsOf r ∧ σ1.get id = some o ∧ o.own = true ∧ η1 id = some q ∧ q.bl = b, fun i => if sp.pre.gn < i ∧ i ≤ sp.pre.gn + sp.pre.ka then (match getA i r with | some (some id) => η1 id | _ => none) else none⟩
  have hF : @Fresh (Tg T.tabs gs sp.pre.ka) P w0 ro1 (mEnv T.tabs sp.pre.gn sp.pre.next r η ro1) (sp.pre.st T.tabs) w := by
    refine @Fresh.mk (Tg T.tabs gs sp.pre.ka) P w0 ro1 _ _ w hR ⟨rfl, rfl, rfl, Nat.le_refl _, fun _ _ _ => rfl⟩ ?_ (fun _ _ h => h) (fun _ h => .inl h) ?_
    · intro i o q a1 a2 a3
      obtain ⟨id, o', b1, b2, b3, b4, b5⟩ := hown i o q a1 a2 a3
      exact .inr ⟨id, o', q, idsOf_mem b1, by show (kills σ fz).get id = _; rw [kills_get, if_neg b2]; exact b3, b4, b5, rfl⟩
    · intro i q hi
      have hi' : (if sp.pre.gn < i ∧ i ≤ sp.pre.gn + sp.pre.ka then (match getA i r with | some (some id) => η1 id | _ => none) else none) = some q := hi
      split at hi'
      · next hr =>
        split at hi'
        · next id hid =>
          refine ⟨?_, by omega, by show i ≤ P.globals.size + sp.pre.ka; omega⟩
          rw [mEnv_at hr.1 (by omega) hid]; exact hi'
        · cases hi'
      · cases hi'
  have hvs := mVs_ok (ka := sp.pre.ka) C _ _ _ hbs m4 hv
  refine CallN.mono (hrun w0 ro1 w vs ⟨_, hF, hvs⟩) ?_
  rintro v w' ⟨us, rfl, η2, hF2, hv2⟩
  have hanc1 : ancS r σ1 sp.pre.gn sp.pre.ka = true := by
    -- no block that keeps its name is frozen
    have : ∀ n i, (∀ j, i < j → j ≤ i + n → ∃ id, getA j r = some (some id) ∧ id ∉ fz) → ancS r σ i n = true → ancS r σ1 i n = true := by
      intro n
      induction n with
      | zero => intro i _ _; rfl
      | succ n ih =>
        intro i hnf h
        simp only [ancS, Bool.and_eq_true] at h ⊢
        obtain ⟨id, h1, h2⟩ := hnf (i + 1) (by omega) (by omega)
        refine ⟨?_, ih (i + 1) (fun j a b => hnf j (by omega) (by omega)) h.2⟩
        have h3 := h.1
        rw [h1] at h3 ⊢
        simp only at h3 ⊢
        show (match (kills σ fz).get id with | some (.cells _ _ _ _) => true | _ => false) = true
        rw [kills_get, if_neg h2]; exact h3
    refine this _ _ (fun j a b => ?_) hm3
    obtain ⟨id, c, et, rw_, opn, g1, g2⟩ := ancS_at hm3 j a b
    exact ⟨id, g1, hnfz id (idsOf_mem g1)⟩
  obtain ⟨η', hst, hvr⟩ := St.ofShp (T := T) (tabs := T.tabs) (G := sp.pre.gn) (ka := sp.pre.ka) rfl m1 f2.rel m3 (by rw [kills_lock]; exact hlk2) hanc1 q1 q2 q3 hval hF2 hv2
  have hst' := f2.trans hst
  rw [kills_next, kills_lock] at hst'
  rw [kills_next] at hvr
  exact ⟨η', hst', tupOf_ok hvr⟩

/-! ### The contract, from the ways of the body -/
def leafFnS (P : Program) (tabs : List (Nat × List AV)) (pl : PList) (specs : List (Nat × LoopSpec)) (fuel : Nat) (st : List (Option FuncId)) (sp : LoopSpec) (ntmps : Nat) (res : List ResultVar) (ac : AC) (ns : List Nd) (ds : List (Nat × Bool)) (lf : Leaf) : Bool :=
  match lf with
  | .ret (tn :: l) => match @acRun ⟨ns, ds, sp.pre.ka⟩ (stepsOf P tabs ⟨ns, ds, sp.pre.ka⟩ specs) (runOf P ⟨ns, ds, sp.pre.ka⟩ pl fuel) ac { t := argTr (putA st (AV.mapNs (fun j => j) sp.pre.args)) 0 .nil, n := max (putA st (AV.mapNs (fun j => j) sp.pre.args)).length ntmps, gn := P.globals.size } (sp.pre.stN tabs fun j => j) with
    | some (e, a', σ') => (match e with | .exit _ => false | _ => true) && match aResults P σ' a' res with
      | some rs => match ns[tn]? with
        | some (.ci .i64 t) => match sp.posts[t.toNat]? with
          | some (_, s) => decide (0 ≤ t) && (s.ok && (Nat.beq s.ka sp.pre.ka && (match exN sp.pre.np s.al l with
            | some l2 => Nat.beq l2.length s.np && (match @fitB ⟨ns, ds, sp.pre.ka⟩ P s rs σ' with
              | ⟨r, _, fz⟩ => anchR r s.gn s.ka && @mArgs ⟨ns, ds, sp.pre.ka⟩ P s rs σ' fz r l2)
            | none => false)))
          | none => false
        | _ => false
      | none => false
    | none => false
  | _ => false

theorem FnS.of_tree {tabs : List (Nat × List AV)} (hlow : TabsLow tabs P.globals.size) (hm : P.follows .mixedOrders = true) (hn : NamesOk P) {pl : PList} {I : Itp} (hpl : PListOk P tabs I pl) {specs : List (Nat × LoopSpec)} {fuel : Nat} {f : FuncId} {fn : Func} {c : Code} {pe : List Nat} {st : List (Option FuncId)} {sp : LoopSpec} {n : Nat} (hnp : n = sp.pre.np) {t : Tree}
    (hf : P.funcs[f]? = some fn) (hc : fn.body = some c)
    (hspecs : ∀ k sp', getA k specs = some sp' → sp'.pre.ok = true ∧ ∀ b, (annot pe c).HasLoop k b → ∀ gs out, I sp'.key gs = some out → LoopC P tabs b sp'.pre sp'.posts gs out)
    (hchk : t.chk (leafFnS P tabs pl specs fuel st sp fn.ntmps fn.results.toList (annot pe c)) (List.replicate sp.pre.np .arg) [] = true) {gs out : List GV} (hd : (PDef.tree n t).den I gs = some out) : FnS P tabs f st sp.pre sp.posts gs out := by
  simp only [PDef.den] at hd
  split at hd
  rotate_left
  · cases hd
  next hlen =>
  subst hnp
  obtain ⟨ns, ds, env, lf, h1, h2, ⟨more, h3⟩, h4⟩ := Tree.chk_ok t hchk (WayOk.start I gs _ hlen) hd
  let T : TabsOf := Tw tabs I sp.pre.ka h2
  unfold leafFnS at h1
  split at h1
  rotate_left
  · cases h1
  next tn l =>
  split at h1
  rotate_left
  · cases h1
  next e a' σ' hrun =>
  rw [Bool.and_eq_true] at h1
  obtain ⟨he, h1⟩ := h1
  split at h1
  rotate_left
  · cases h1
  next rs hrs =>
  split at h1
  rotate_left
  · cases h1
  next tt htn =>
  split at h1
  rotate_left
  · cases h1
  next e' s hpost =>
  rw [Bool.and_eq_true, Bool.and_eq_true, Bool.and_eq_true, decide_eq_true_iff] at h1
  obtain ⟨c1, c2, c3, h1⟩ := h1
  split at h1
  rotate_left
  · cases h1
  next l2 hl2 =>
  rw [Bool.and_eq_true] at h1
  obtain ⟨c4, h1⟩ := h1
  have c3 := Nat.eq_of_beq_eq_true c3
  have c4 := Nat.eq_of_beq_eq_true c4
  split at h1
  next r pp fz hfit =>
  rw [Bool.and_eq_true] at h1
  obtain ⟨c5, c6⟩ := h1
  unfold mArgs at c6
  simp only [Bool.and_eq_true, Nat.blt_eq] at c6
  obtain ⟨⟨⟨⟨m1, m2⟩, m3⟩, m4⟩, m5⟩ := c6
  have m1 := Nat.eq_of_beq_eq_true m1
  have h4' : valsOf (fun n => env[n]?) (tn :: l) = some out := h4
  simp only [valsOf] at h4'
  split at h4'
  rotate_left
  · cases h4'
  next g r0 hg hr0 =>
  cases h4'
  obtain ⟨rest, hrest, hex⟩ := exN_ok h3 hlen hl2 hr0
  obtain ⟨g', k1, k2⟩ := h2.node tn _ htn (by simp)
  have hg' : env[tn]? = some g := hg
  rw [hg'] at k1; cases k1
  simp only [Nd.den, Option.some.injEq] at k2
  subst k2
  unfold Shp.ok at c2
  rw [Bool.and_eq_true, Bool.and_eq_true] at c2
  obtain ⟨⟨_, hbs⟩, hbo⟩ := c2
  have hbs : AV.unders s.next s.args = true := by
    have : ∀ l : List (Nat × AV), belowSlots s.next l = true → AV.unders s.next (l.map (·.2)) = true := by
      intro l
      induction l with
      | nil => intro _; rfl
      | cons a l ih => intro h; simp only [belowSlots, Bool.and_eq_true] at h; simp only [List.map_cons, AV.unders, Bool.and_eq_true]; exact ⟨h.1, ih h.2⟩
    exact this _ hbs
  refine ⟨tt.toNat, r0, rest, e', s, by rw [Int.toNat_of_nonneg c1], hpost, hex, by rw [← c4]; exact valsOf_length hrest, fun w0 ro0 w vs hA => ?_⟩
  have hAT : ∀ Q : AExit → AAct → ASt → Prop, Q e a' σ' → @AT T P c { t := argTr (putA st (AV.mapNs (fun j => j) sp.pre.args)) 0 .nil, n := max (putA st (AV.mapNs (fun j => j) sp.pre.args)).length fn.ntmps, gn := P.globals.size } (sp.pre.stN tabs fun j => j) Q := by
    intro Q hq
    have := @acRun_ok P T (stepsOf P tabs ⟨ns, ds, sp.pre.ka⟩ specs) (runOf P ⟨ns, ds, sp.pre.ka⟩ pl fuel) (runOf_ok (T := T) hm hn (hpl T rfl rfl) fuel) (annot pe c) (annotF_erase pe c 0).2 (fun k b hk a σ e1 a1 σ1 hs Q' hq' => by
      unfold stepsOf at hs
      split at hs
      · next sp' hsp =>
        obtain ⟨k1, k2⟩ := hspecs k sp' hsp
        exact lStep_ok (T := T) rfl hlow k1 (fun gs out hI => k2 b hk gs out hI) hs hq'
      · cases hs) _ _ _ _ _ hrun Q hq
    rwa [show (annot pe c).erase = c from (annotF_erase pe c 0).1] at this
  have henv : ∀ j g, gs[j]? = some g → T.val ((fun j => j) j) = some g := by
    intro j g hj
    show env[j]? = some g
    rw [h3]
    have := (List.getElem?_eq_some_iff.1 hj).1
    rw [List.getElem?_append_left this]; exact hj
  obtain ⟨η, hF0, hv0⟩ := hA
  have hF1 := fresh_put (T := T) (f := fun j => j) rfl rfl henv hF0
  have hv1 : @VRs T η (AV.mapNs (fun j => j) sp.pre.args) vs := VRs.mapN (S := Tg tabs gs sp.pre.ka) (T := T) henv _ _ hv0
  have key : Calls P f ⟨putS st vs⟩ w fun en w' => ∃ v, en = .returned v ∧ ∃ us, v = tupV us ∧ ArgsAre P tabs s rest w0 ro0 us w' := by
    letI := T
    have hv2 : VRs η (putA st (AV.mapNs (fun j => j) sp.pre.args)) (putS st vs) := putA_ok hv1
    refine calls_of_wp hf hc ?_
    refine hAT (fun e2 a2 σ2 => e2 = e ∧ a2 = a' ∧ σ2 = σ') ⟨rfl, rfl, rfl⟩ w0 ro0 η w _ _ hF1 rfl (enter_ok hv2) ?_
    rintro e2 a2 σ2 η1 A' w' ⟨rfl, rfl, rfl⟩ hF hl0 ht
    obtain ⟨us, r1, r2⟩ := results_ok hF.rel ht (fun | .tmp t => pure (A'.tmps.getD t undef) | .cell a t => do loadVar t (← asAddr (A'.tmps.getD a undef))) (fun _ => rfl) (fun _ _ => rfl) _ _ hrs
    obtain ⟨ro1, f1, f2, f3⟩ := freezeAll hF hl0 fz
    have C : MCtx T P tabs s.gn s.next η1 σ2 w' fz r l2 rest ro1 := ⟨hF.rel, hrest, f1, f3, m1, by omega⟩
    obtain ⟨hR, hown⟩ := match_sr (ka := s.ka) (T := T) rfl hlow hbo (by omega) m1 C f2.rel.roAt (fun id o q b2 b3 b4 b5 => f2.rel.roSep id o q (by rw [kills_get, if_neg b2]; exact b3) b4 b5) m3 m5
    have hvs := mVs_ok (ka := s.ka) C _ _ _ hbs m4 r2
    have hA' : ArgsAre P tabs s rest w0 ro0 us w' := by
      refine ⟨_, @Fresh.mk (Tg tabs rest s.ka) P w0 ro0 _ _ w' hR hF.kept ?_ f2.roLe f2.roNew ?_, hvs⟩
      · intro i o q a1 a2 a3
        obtain ⟨id, u, b1, b2, b3, b4, b5⟩ := hown i o q a1 a2 a3
        exact hF.own id u q b3 b4 b5
      · intro i q hi
        obtain ⟨a1, a2, a3⟩ := hF.anc i q hi
        have a3' : i ≤ P.globals.size + s.ka := by rw [c3]; exact a3
        refine ⟨?_, a2, a3'⟩
        rw [mEnv_at (by omega) (by omega) (anchR_at c5 i (by omega) (by omega))]
        exact a1
    have hres' : (results fn A'.tmps).run P w' = .ok (if h : (⟨us⟩ : Array Value).size = 1 then (⟨us⟩ : Array Value)[0] else .tuple ⟨us⟩) w' := by
      unfold results
      rw [Array.mapM_eq_mapM_toList]
      simp only [Sem.run_bind, Sem.run_map]
      exact congrArg (fun r : Result (List Value) => (r.andThen fun a w' => Result.ok a.toArray w').andThen fun a w' => Sem.run P (pure (if h : a.size = 1 then a[0] else Value.tuple a)) w') r1
    have htup : (if h : (⟨us⟩ : Array Value).size = 1 then (⟨us⟩ : Array Value)[0] else .tuple ⟨us⟩) = tupV us := by
      match us with
      | [] => rfl
      | [u] => rfl
      | u :: u' :: us => rfl
    rw [htup] at hres'
    have hpost : A'.defers = [] ∧ ∃ v, (results fn A'.tmps).run P w' = .ok v w' ∧ ∃ v', Ending.returned v = .returned v' ∧ ∃ us, v' = tupV us ∧ ArgsAre P tabs s rest w0 ro0 us w' :=
      ⟨ht.none, _, hres', _, rfl, us, rfl, hA'⟩
    cases e2 with
    | normal => exact hpost
    | ret => exact hpost
    | exit id => simp at he
  right
  refine ⟨?_, Calls.mono' key ?_⟩
  · have hname := hn f fn c hf hc
    simp only [callFunc, Sem.run_bind, program, Sem.run, Result.andThen_ok, hf]
    simp only [hname, Bool.false_eq_true, if_false, hc, Option.isNone_some, Sem.run_pure]
  · rintro en w' ⟨v, rfl, h5⟩
    exact ⟨v, rfl, h5⟩
end
end Go.Abs

/-! # AbsRow -/
namespace Go.Abs
noncomputable section
set_option linter.unusedSectionVars false
set_option linter.unusedVariables false
set_option linter.unusedSimpArgs false
variable {P : Program} {H : Type} {enc : TypeId × Value → H}

/-- The kinds of cells of plain data. -/
inductive GTy where
  | bool
  | int (k : IntKind)
  | str
  | list (agg : Bool) (e : List GTy)

def fieldTys (P : Program) (r : TypeId → Option (List GTy)) : Nat → List Field → Option (List GTy)
  | _, [] => some []
  | off, f :: fs => match r f.type with
    | some l => if Nat.beq f.offset off && Nat.beq (P.cellsOf f.type) l.length then match fieldTys P r (off + l.length) fs with
      | some m => some (l ++ m)
      | none => none
      else none
    | none => none
/-- The kinds of a type's cells. -/
def cellTys (P : Program) : Nat → TypeId → Option (List GTy)
  | 0, _ => none
  | n + 1, t => match P.underlying t with
    | some .bool => some [.bool]
    | some (.int k) => some [.int k]
    | some .string => some [.str]
    | some (.slice e) => match cellTys P n e, isAggT P e with
      | some l, some b => if Nat.beq (P.cellsOf e) l.length && Nat.ble 1 l.length && Nat.ble 1 (P.bytesOf e) && (b || Nat.beq l.length 1) then some [.list b l] else none
      | _, _ => none
    | some (.struct fs) => match fieldTys P (cellTys P n) 0 fs.toList with
      | some l => if Nat.beq (P.cellsOf t) l.length then some l else none
      | none => none
    | _ => none

mutual
def GTy.has : GTy → GV → Prop
  | .bool, g => ∃ b, g = .b b
  | .int k, g => ∃ n, g = .i k n ∧ k.min ≤ n ∧ n ≤ k.max
  | .str, g => ∃ s, g = .s s ∧ s.length ≤ reachBytes
  | .list agg e, g => ∃ xs, g = .l xs ∧ xs.length ≤ reachBytes ∧ ∀ x ∈ xs, GTy.hasL e x.cells ∧ x.scalar = !agg
def GTy.hasL : List GTy → List GV → Prop
  | [], gs => gs = []
  | t :: ts, gs => ∃ g r, gs = g :: r ∧ GTy.has t g ∧ GTy.hasL ts r
end

theorem GTy.has.scalar {t : GTy} {g : GV} (h : t.has g) : g.scalar = true := by
  cases t <;> simp only [GTy.has] at h
  · obtain ⟨b, rfl⟩ := h; rfl
  · obtain ⟨b, rfl, _⟩ := h; rfl
  · obtain ⟨b, rfl, _⟩ := h; rfl
  · obtain ⟨b, rfl, _⟩ := h; rfl
theorem GTy.hasL.scalars : ∀ {l : List GTy} {gs : List GV}, GTy.hasL l gs → gs.all GV.scalar = true ∧ gs.length = l.length
  | [], gs, h => by simp only [GTy.hasL] at h; subst h; exact ⟨rfl, rfl⟩
  | t :: l, gs, h => by
    simp only [GTy.hasL] at h
    obtain ⟨g, r, rfl, h1, h2⟩ := h
    have := GTy.hasL.scalars h2
    simp [h1.scalar, this.1, this.2]
theorem GTy.hasL.append : ∀ {l m : List GTy} {gs hs : List GV}, GTy.hasL l gs → GTy.hasL m hs → GTy.hasL (l ++ m) (gs ++ hs)
  | [], m, gs, hs, h, h' => by simp only [GTy.hasL] at h; subst h; simpa using h'
  | t :: l, m, gs, hs, h, h' => by
    simp only [GTy.hasL] at h
    obtain ⟨g, r, rfl, h1, h2⟩ := h
    simp only [List.cons_append, GTy.hasL]
    exact ⟨g, r ++ hs, rfl, h1, GTy.hasL.append h2 h'⟩
theorem GRs.append {ro : Nat → Option Obj} : ∀ {l m : List GV} {vs us : List Value}, GRs ro l vs → GRs ro m us → GRs ro (l ++ m) (vs ++ us)
  | [], m, vs, us, h, h' => by simp only [GRs] at h; subst h; simpa using h'
  | a :: l, m, vs, us, h, h' => by
    simp only [GRs] at h
    obtain ⟨x, xs, rfl, h1, h2⟩ := h
    simp only [List.cons_append, GRs]
    exact ⟨x, xs ++ us, rfl, h1, GRs.append h2 h'⟩

theorem weights_each_mem : ∀ {ts : List TypeId} {ds : List (DataW H)} {i : Nat} {t : TypeId} {d : DataW H}, ts[i]? = some t → ds[i]? = some d → ∀ z ∈ d.weights P t, z ∈ DataW.weightsEach P ts ds
  | [], _, i, t, d, h, _, z, _ => by simp at h
  | _ :: _, [], i, t, d, _, h, z, _ => by simp at h
  | t0 :: ts, d0 :: ds, i, t, d, h1, h2, z, hz => by
    simp only [DataW.weightsEach, List.mem_append]
    cases i with
    | zero => simp at h1 h2; subst h1; subst h2; exact .inl hz
    | succ i => exact .inr (weights_each_mem (by simpa using h1) (by simpa using h2) z hz)
theorem weights_all_mem : ∀ {e : TypeId} {ds : List (DataW H)} {d : DataW H}, d ∈ ds → ∀ z ∈ d.weights P e, z ∈ DataW.weightsAll P e ds
  | e, [], d, h, z, _ => by simp at h
  | e, d0 :: ds, d, h, z, hz => by
    simp only [DataW.weightsAll, List.mem_append]
    rcases List.mem_cons.1 h with rfl | h
    · exact .inl hz
    · exact .inr (weights_all_mem h z hz)

def heapRo (w : World) : Nat → Option Obj := fun b => w.heap[b]?

theorem cell?_at {w : World} {a : Addr} {v : Value} (h : w.cell? a = some v) : a.spot = none ∧ ∃ c elem fr, w.heap[a.block]? = some (.cells c elem fr) ∧ c[a.off]? = some v := by
  unfold World.cell? at h
  split at h
  · next c elem fr hb =>
    split at h
    · cases h
    · next hs => exact ⟨by simpa using hs, c, elem, fr, hb, h⟩
  · cases h

/-- A struct's fields, one behind the other. -/
theorem fields_GR {w : World} {r : TypeId → Option (List GTy)} {fuel : Nat} {cs : List Value}
    (ih : ∀ t l ch (x : DataW H × List MemPlace), r t = some l → DataW.trod enc P w 0 (fun _ => true) true fuel t ch = some x → (∀ z ∈ x.1.weights P t, z ≤ reachBytes) → ∃ gs, GRs (heapRo w) gs ch ∧ GTy.hasL l gs) :
    ∀ (fs : List Field) (xs : List (DataW H × List MemPlace)) (off : Nat) (l : List GTy), fieldTys P r off fs = some l → xs.length = fs.length →
      (∀ (i : Nat) (f : Field), fs[i]? = some f → DataW.trod enc P w 0 (fun _ => true) true fuel f.type ((cs.drop f.offset).take (P.cellsOf f.type)) = xs[i]?) →
      (∀ z ∈ DataW.weightsEach P (fs.map (·.type)) (xs.map (·.1)), z ≤ reachBytes) →
      ∃ gs, GRs (heapRo w) gs ((cs.drop off).take l.length) ∧ GTy.hasL l gs
  | [], xs, off, l, h, _, _, _ => by
    simp only [fieldTys, Option.some.injEq] at h; subst h
    exact ⟨[], by simp [GRs], by simp [GTy.hasL]⟩
  | f :: fs, [], off, l, _, hl, _, _ => by simp at hl
  | f :: fs, x :: xs, off, l, h, hl, hx, hw => by
    simp only [fieldTys] at h
    split at h
    · next l1 h1 =>
      split at h
      · next hc =>
        rw [Bool.and_eq_true] at hc
        have e1 := Nat.eq_of_beq_eq_true hc.1
        have e2 := Nat.eq_of_beq_eq_true hc.2
        split at h
        · next m hm =>
          cases h
          have h0 := hx 0 f rfl
          simp only [List.getElem?_cons_zero] at h0
          obtain ⟨gs, g1, g2⟩ := ih f.type l1 _ x h1 h0 (fun z hz => hw z (by simp only [List.map_cons, DataW.weightsEach, List.mem_append]; exact .inl hz))
          obtain ⟨hs, k1, k2⟩ := fields_GR ih fs xs (off + l1.length) m hm (by simpa using hl) (fun i f' hf => by have := hx (i + 1) f' (by simpa using hf); simpa using this)
            (fun z hz => hw z (by simp only [List.map_cons, DataW.weightsEach, List.mem_append]; exact .inr hz))
          refine ⟨gs ++ hs, ?_, g2.append k2⟩
          rw [e1, e2] at g1
          have : (cs.drop off).take (l1 ++ m).length = (cs.drop off).take l1.length ++ (cs.drop (off + l1.length)).take m.length := by
            rw [List.length_append, List.take_add, List.drop_drop]
          rw [this]
          exact GRs.append g1 k1
        · cases h
      · cases h
    · cases h

/-- The elements of a slice, one behind the other. -/
theorem elems_cells {c : Nat} {ch : Nat → List Value} {arr : Array Value} {off : Nat} : ∀ (n : Nat) (_ : ∀ i, i < n → (ch i).length = c ∧ ∀ j, j < c → arr[off + i * c + j]? = (ch i)[j]?),
    ((List.range n).flatMap ch).length = n * c ∧ ∀ (k : Nat) x, ((List.range n).flatMap ch)[k]? = some x → arr[off + k]? = some x
  | 0, _ => by simp
  | n + 1, h => by
    obtain ⟨h1, h2⟩ := elems_cells n fun i hi => h i (by omega)
    obtain ⟨e1, e2⟩ := h n (by omega)
    rw [List.range_succ, List.flatMap_append]
    simp only [List.flatMap_cons, List.flatMap_nil, List.append_nil]
    refine ⟨by rw [List.length_append, h1, e1, Nat.add_mul, Nat.one_mul], fun k x hk => ?_⟩
    by_cases hlt : k < n * c
    · rw [List.getElem?_append_left (by omega)] at hk
      exact h2 k x hk
    · rw [List.getElem?_append_right (by omega), h1] at hk
      have hj := (List.getElem?_eq_some_iff.1 hk).1
      have := e2 (k - n * c) (by omega)
      rw [hk] at this
      rw [← this]; congr 1; omega

theorem GRs.ofFn {ro : Nat → Option Obj} {G : Nat → GV} {Y : Nat → Value} : ∀ (l : List Nat), (∀ i ∈ l, GR ro (G i) (Y i)) → GRs ro (l.map G) (l.map Y)
  | [], _ => by simp [GRs]
  | i :: l, h => by simp only [List.map_cons, GRs]; exact ⟨_, _, rfl, h i (by simp), GRs.ofFn l fun j hj => h j (by simp [hj])⟩

theorem trodG {w : World} : ∀ (n m : Nat) (t : TypeId) (cs : List Value) (x : DataW H × List MemPlace) (l : List GTy), cellTys P n t = some l → DataW.trod enc P w 0 (fun _ => true) true m t cs = some x →
    (∀ z ∈ x.1.weights P t, z ≤ reachBytes) → ∃ gs, GRs (heapRo w) gs cs ∧ GTy.hasL l gs
  | 0, m, t, cs, x, l, hc, h, hw => by simp [cellTys] at hc
  | n + 1, m, t, cs, x, l, hc, h, hw => by
    simp only [cellTys] at hc
    split at hc
    · next hu =>
      cases hc
      obtain ⟨b, rfl, rfl⟩ := DataW.trod_bool hu h
      exact ⟨[.b b], by simp [GRs, GR], by simp only [GTy.hasL]; exact ⟨_, _, rfl, by simp [GTy.has], rfl⟩⟩
    · next k hu =>
      cases hc
      obtain ⟨b, rfl, rfl, hwf⟩ := DataW.trod_int hu h
      have hwf' : k.min ≤ b ∧ b ≤ k.max := by simpa [Lit.wf] using hwf
      exact ⟨[.i k b], by simp [GRs, GR], by simp only [GTy.hasL]; exact ⟨_, _, rfl, by simp only [GTy.has]; exact ⟨b, rfl, hwf'⟩, rfl⟩⟩
    · next hu =>
      cases hc
      obtain ⟨s, rfl, rfl, hs⟩ := DataW.trod_string hu h
      refine ⟨[.s s.data.toList], by simp only [GRs, GR]; exact ⟨_, _, rfl, by cases s with | mk a => cases a; rfl, rfl⟩, by simp only [GTy.hasL]; exact ⟨_, _, rfl, by simp only [GTy.has]; exact ⟨_, rfl, hw _ (by simp [DataW.weights])⟩, rfl⟩⟩
    · next e hu =>
      split at hc
      · next le agg he hag =>
        split at hc
        · next hcond =>
          cases hc
          simp only [Bool.and_eq_true, Bool.or_eq_true] at hcond
          obtain ⟨⟨⟨c1, c2⟩, c3⟩, c4⟩ := hcond
          have c1 := Nat.eq_of_beq_eq_true c1
          have c2 := Nat.le_of_ble_eq_true c2
          have c3 := Nat.le_of_ble_eq_true c3
          rcases Deep.open_slice hu h with ⟨rfl, rfl⟩ | ⟨a, len, cap0, cap, n', D, Pl, rfl, hb, hl, hm, rfl, rfl, hi⟩
          · exact ⟨[.l []], by simp [GRs, GR], by simp only [GTy.hasL]; exact ⟨_, _, rfl, by simp only [GTy.has]; exact ⟨[], rfl, by simp, by simp⟩, rfl⟩⟩
          have hlenW : cap * P.bytesOf e ≤ reachBytes := by
            have := hw (cap * P.bytesOf e) (by simp only [DataW.weights, hu, List.mem_cons, List.length_map, List.length_range]; left; rw [Nat.add_sub_cancel' hl])
            exact this
          have hcapR : cap ≤ reachBytes := Nat.le_trans (Nat.le_mul_of_pos_right _ c3) hlenW
          have one : ∀ i, i < len → ∃ ch gs, (ch.length = P.cellsOf e ∧ ∀ j, j < P.cellsOf e → w.cell? (((a.add (i * P.cellsOf e))).add j) = ch[j]?) ∧ GRs (heapRo w) gs ch ∧ GTy.hasL le gs := by
            intro i hil
            obtain ⟨ch, h1, h2⟩ := hi i (by omega)
            obtain ⟨_, h3, h4⟩ := World.cells?_some h1
            obtain ⟨gs, g1, g2⟩ := trodG n n' e ch _ le he h2 (fun z hz => hw z (by
              simp only [DataW.weights, hu, List.mem_cons, List.mem_append]
              right; left
              exact weights_all_mem (by simp only [List.mem_map, List.mem_range]; exact ⟨i, hil, rfl⟩) z hz))
            exact ⟨ch, gs, ⟨h3, h4⟩, g1, g2⟩
          by_cases hz : cap = 0
          · have hlz : len = 0 := by omega
            subst hz; subst hlz
            refine ⟨[.l []], by simp only [GRs, GR]; exact ⟨_, _, rfl, .inl ⟨trivial, _, rfl⟩, rfl⟩, by simp only [GTy.hasL]; exact ⟨_, _, rfl, by simp only [GTy.has]; exact ⟨[], rfl, by simp, by simp⟩, rfl⟩⟩
          -- the address is plain
          have ha : a.spot = none ∧ ∃ arr elem fr, w.heap[a.block]? = some (.cells arr elem fr) := by
            obtain ⟨ch, h1, h2⟩ := hi 0 (by omega)
            obtain ⟨_, h3, h4⟩ := World.cells?_some h1
            have h5 := h4 0 (by omega)
            have hch : ch[0]? = some ch[0] := List.getElem?_eq_getElem (by omega)
            rw [hch] at h5
            have h6 := cell?_at h5
            simp only [Nat.zero_mul, Addr.add, if_true] at h6
            exact ⟨h6.1, h6.2.choose, h6.2.choose_spec.choose, h6.2.choose_spec.choose_spec.choose, h6.2.choose_spec.choose_spec.choose_spec.1⟩
          obtain ⟨hsp, arr, elem, fr, hblk⟩ := ha
          obtain ⟨bl, off, sp⟩ := a
          simp only at hsp hblk
          subst hsp
          have addr : ∀ i j : Nat, ((Addr.mk bl off none).add i).add j = ⟨bl, off + i + j, none⟩ := by
            intro i j
            unfold Addr.add
            split <;> split <;> simp_all
          have hex : ∃ (ch : Nat → List Value) (G : Nat → List GV), ∀ i, i < len → (ch i).length = P.cellsOf e ∧ (∀ j, j < P.cellsOf e → arr[off + i * P.cellsOf e + j]? = (ch i)[j]?) ∧ GRs (heapRo w) (G i) (ch i) ∧ GTy.hasL le (G i) := by
            refine ⟨fun i => if hil : i < len then (one i hil).choose else [], fun i => if hil : i < len then (one i hil).choose_spec.choose else [], fun i hil => ?_⟩
            simp only [dif_pos hil]
            obtain ⟨⟨h1, h2⟩, h3, h4⟩ := (one i hil).choose_spec.choose_spec
            refine ⟨h1, fun j hj => ?_, h3, h4⟩
            have := h2 j hj
            rw [addr] at this
            rw [← this]
            have hch := List.getElem?_eq_getElem (l := (one i hil).choose) (i := j) (by omega)
            rw [hch] at this
            have h6 := cell?_at this
            simp only at h6
            obtain ⟨_, c', e', f', h7, h8⟩ := h6
            rw [hblk] at h7; cases h7
            rw [this, h8]
          obtain ⟨ch, G, hG⟩ := hex
          obtain ⟨q1, q2⟩ := elems_cells (c := P.cellsOf e) (ch := ch) (arr := arr) (off := off) len fun i hil => ⟨(hG i hil).1, fun j hj => (hG i hil).2.1 j hj⟩
          have hgl : ∀ i, i < len → (G i).length = le.length := fun i hil => (hG i hil).2.2.2.scalars.2
          let X : Nat → GV := fun i => if agg then .g (G i) else (G i).headD (.l [])
          let Y : Nat → Value := fun i => if agg then .agg ⟨ch i⟩ else (ch i).headD undef
          have hX : ∀ i, i < len → (X i).cells = G i ∧ (X i).scalar = !agg ∧ GR (heapRo w) (X i) (Y i) ∧ (Y i).cells.toList = ch i := by
            intro i hil
            obtain ⟨p1, p2, p3, p4⟩ := hG i hil
            cases agg with
            | true => simp only [X, Y, if_true]; exact ⟨rfl, rfl, by simp only [GR]; exact ⟨_, rfl, p3⟩, rfl⟩
            | false =>
              have hle1 : le.length = 1 := by simpa using c4
              obtain ⟨g, hg⟩ : ∃ g, G i = [g] := List.length_eq_one_iff.1 (by rw [hgl i hil, hle1])
              obtain ⟨y, hy⟩ : ∃ y, ch i = [y] := List.length_eq_one_iff.1 (by rw [p1, c1, hle1])
              have hsc : g.scalar = true := by have := p4.scalars.1; rw [hg] at this; simpa using this
              have hgy : GR (heapRo w) g y := by rw [hg, hy] at p3; simp only [GRs] at p3; obtain ⟨u, us, e1, e2, _⟩ := p3; cases e1; exact e2
              simp only [X, Y, hg, hy, List.headD_cons, Bool.false_eq_true, if_false, Bool.not_false]
              refine ⟨by cases g <;> first | rfl | (simp [GV.scalar] at hsc), hsc, hgy, ?_⟩
              cases g <;> simp only [GR] at hgy
              · subst hgy; rfl
              · subst hgy; rfl
              · subst hgy; rfl
              · rcases hgy with ⟨_, _, rfl⟩ | ⟨_, _, _, _, _, rfl, _⟩ <;> rfl
              · simp [GV.scalar] at hsc
          refine ⟨[.l ((List.range len).map X)], ?_, ?_⟩
          · simp only [GRs]
            refine ⟨_, _, rfl, ?_, rfl⟩
            simp only [GR]
            right
            have hflat : cellsL ((List.range len).map Y) = (List.range len).flatMap ch := by
              unfold cellsL
              rw [List.flatMap_map]
              rw [List.flatMap_def, List.flatMap_def, List.map_congr_left fun i hir => (hX i (List.mem_range.1 hir)).2.2.2]
            refine ⟨bl, off, cap, (List.range len).map Y, P.cellsOf e, by simp, by simpa using hl, GRs.ofFn _ fun i hir => (hX i (List.mem_range.1 hir)).2.2.1, ?_, fun hne => ⟨arr, elem, fr, hblk, ?_, ?_⟩⟩
            · intro y hy
              obtain ⟨i, hir, rfl⟩ := List.mem_map.1 hy
              have := (hX i (List.mem_range.1 hir)).2.2.2
              rw [← Array.length_toList, this]
              exact (hG i (List.mem_range.1 hir)).1
            · rw [hflat, q1]
              have hlp : 0 < len := by
                rcases Nat.eq_zero_or_pos len with h0 | h0
                · subst h0; simp at hne
                · exact h0
              have hcp : 0 < P.cellsOf e := by omega
              have hk : len * P.cellsOf e - 1 < ((List.range len).flatMap ch).length := by
                rw [q1]; have : 0 < len * P.cellsOf e := Nat.mul_pos hlp hcp; omega
              have := q2 _ _ (List.getElem?_eq_getElem hk)
              have := (Array.getElem?_eq_some_iff.1 this).1
              have : 0 < len * P.cellsOf e := Nat.mul_pos hlp hcp
              omega
            · rw [hflat]; exact q2
          · simp only [GTy.hasL]
            refine ⟨_, _, rfl, ?_, rfl⟩
            simp only [GTy.has]
            refine ⟨_, rfl, by simp; omega, fun y hy => ?_⟩
            obtain ⟨i, hir, rfl⟩ := List.mem_map.1 hy
            obtain ⟨k1, k2, _⟩ := hX i (List.mem_range.1 hir)
            rw [k1]
            exact ⟨(hG i (List.mem_range.1 hir)).2.2.2, k2⟩
        · cases hc
      · cases hc
    · next fs hu =>
      split at hc
      · next l' hf =>
        split at hc
        · next hcl =>
          cases hc
          have hcl := Nat.eq_of_beq_eq_true hcl
          obtain ⟨xs, n', rfl, rfl, hlen, hxl, hx⟩ := DataW.trod_struct hu h
          obtain ⟨gs, g1, g2⟩ := fields_GR (enc := enc) (P := P) (w := w) (fuel := n') (cs := cs) (r := cellTys P n) (fun t l ch x h1 h2 h3 => trodG n n' t ch x l h1 h2 h3) fs.toList xs 0 l hf (by simpa using hxl)
            (fun i f hi => hx i f (by simpa using hi)) (fun z hz => hw z (by simp only [DataW.weights, hu]; simpa using hz))
          refine ⟨gs, ?_, g2⟩
          rw [List.drop_zero, List.take_of_length_le (by omega)] at g1
          exact g1
        · cases hc
      · cases hc
    · cases hc

/-! ### Arguments -/
/-- The kinds of arguments: aggregates by their cells. -/
def argTys (P : Program) (n : Nat) : List TypeId → Option (List (Bool × List GTy))
  | [] => some []
  | t :: ts => match cellTys P n t, isAggT P t, argTys P n ts with
    | some l, some b, some r => if b || Nat.beq l.length 1 then some ((b, l) :: r) else none
    | _, _, _ => none
def hasArgs : List (Bool × List GTy) → List GV → Prop
  | [], gs => gs = []
  | (b, l) :: r, gs => ∃ g gs', gs = g :: gs' ∧ GTy.hasL l g.cells ∧ g.scalar = !b ∧ hasArgs r gs'

theorem okWide_cells {w : World} {r : Reach} {b0 : Nat} {t : TypeId} {v : Value} (h : Value.okWide P w r b0 t v) : (isAggT P t = some true → ∃ cs, v = .agg cs) ∧
    (isAggT P t = some false → v.cells = #[v] ∨ ∀ n, cellTys P n t = none) := by
  unfold Value.okWide at h
  unfold isAggT
  constructor
  · intro ha
    split at ha
    · next hu => rw [hu] at h; simp only at h; obtain ⟨cs, rfl, _⟩ := h; exact ⟨cs, rfl⟩
    · next hu => rw [hu] at h; simp only at h; obtain ⟨cs, rfl, _⟩ := h; exact ⟨cs, rfl⟩
    · cases ha
    · cases ha
  · intro ha
    split at ha
    · cases ha
    · cases ha
    · next u h1 h2 hu =>
      rw [hu] at h
      cases u <;> first
        | (exact absurd rfl (h1 _))
        | (exact absurd rfl (h2 _ _))
        | (right; intro n; cases n <;> simp [cellTys, hu]; done)
        | (left; simp only [Cell.okWide, hu, Cell.ok] at h; cases v <;> first | rfl | (simp only at h; done) | (cases h; done))
    · cases ha

theorem trodAllG {w : World} {n : Nat} : ∀ {ts : List TypeId} {vs : List Value} {ds : List (DataW H)} {ps : List MemPlace} {L : List (Bool × List GTy)}, argTys P n ts = some L → DataW.TrodAll enc P w 0 (fun _ => true) true ts vs ds ps →
    (∀ z ∈ DataW.weightsEach P ts ds, z ≤ reachBytes) → (∀ (j : Nat) t v, ts[j]? = some t → vs[j]? = some v → ∃ b0, Value.okWide P w .any b0 t v) → ∃ gs, GRs (heapRo w) gs vs ∧ hasArgs L gs
  | [], [], [], ps, L, hL, h, hw, hok => by simp only [argTys, Option.some.injEq] at hL; subst hL; exact ⟨[], by simp [GRs], by simp [hasArgs]⟩
  | t :: ts, v :: vs, d :: ds, ps, L, hL, h, hw, hok => by
    obtain ⟨p, q, ⟨m, h1⟩, h2, rfl⟩ := h
    simp only [argTys] at hL
    split at hL
    · next l b r hc hag hr =>
      split at hL
      · next hb =>
        cases hL
        obtain ⟨gs, g1, g2⟩ := trodG n m t _ _ l hc h1 (fun z hz => hw z (by simp only [DataW.weightsEach, List.mem_append]; exact .inl hz))
        obtain ⟨hs, k1, k2⟩ := trodAllG hr h2 (fun z hz => hw z (by simp only [DataW.weightsEach, List.mem_append]; exact .inr hz)) (fun j t' v' h1 h2 => hok (j + 1) t' v' (by simpa using h1) (by simpa using h2))
        obtain ⟨b0, hv⟩ := hok 0 t v rfl rfl
        obtain ⟨o1, o2⟩ := okWide_cells hv
        cases b with
        | true =>
          obtain ⟨cs, rfl⟩ := o1 hag
          refine ⟨.g gs :: hs, by simp only [GRs]; exact ⟨_, _, rfl, by simp only [GR]; exact ⟨cs.toList, rfl, g1⟩, k1⟩, ?_⟩
          simp only [hasArgs]
          exact ⟨_, _, rfl, g2, rfl, k2⟩
        | false =>
          have hl1 : l.length = 1 := by simpa using hb
          rcases o2 hag with o2 | o2
          rotate_left
          · rw [o2 n] at hc; cases hc
          rw [o2] at g1
          obtain ⟨g, rfl⟩ : ∃ g, gs = [g] := List.length_eq_one_iff.1 (by rw [g2.scalars.2, hl1])
          have hsc : g.scalar = true := by have := g2.scalars.1; simpa using this
          simp only [GRs] at g1
          obtain ⟨u, us, e1, e2, _⟩ := g1
          cases e1
          refine ⟨g :: hs, by simp only [GRs]; exact ⟨_, _, rfl, e2, k1⟩, ?_⟩
          simp only [hasArgs]
          exact ⟨_, _, rfl, by cases g <;> first | exact g2 | (simp [GV.scalar] at hsc), hsc, k2⟩
      · cases hL
    · cases hL
  | [], _ :: _, _, _, _, _, h, _, _ => by simp [DataW.TrodAll] at h
  | [], [], _ :: _, _, _, _, h, _, _ => by simp [DataW.TrodAll] at h
  | _ :: _, [], _, _, _, _, h, _, _ => by simp [DataW.TrodAll] at h
  | _ :: _, _ :: _, [], _, _, _, h, _, _ => by simp [DataW.TrodAll] at h

/-! ### Behind the call -/
theorem Kept.below {W W' : World} (h : Kept W W') : Go.RowKit.Below W.heap.size W W' := ⟨h.os, h.tape, h.output, h.size, h.keep⟩

theorem trodAll_stays {W W' : World} (hl : laidOutB P = true) (hk : Kept W W') {sp : Nat → Bool} : ∀ {ts : List TypeId} {vs : List Value} {ds : List (DataW H)} {ps : List MemPlace}, DataW.TrodAll enc P W 0 (fun _ => true) true ts vs ds ps →
    (∀ t ∈ ts, P.readableRec t = true ∧ t < P.types.size) → (∀ x ∈ ps, x.block < W.heap.size) → (∀ x ∈ ps, sp x.block = true) → DataW.TrodAll enc P W' 0 sp true ts vs ds ps
  | [], [], [], ps, h, _, _, _ => h
  | t :: ts, v :: vs, d :: ds, ps, h, hr, hlt, hsp => by
    obtain ⟨p, q, h1, h2, rfl⟩ := h
    obtain ⟨r1, r2⟩ := hr t (by simp)
    exact ⟨p, q, WideElems.Trod_stays hl r1 r2 h1 (fun x hx => hk.below.same (hlt x (List.mem_append_left _ hx))) (fun x hx => hsp x (List.mem_append_left _ hx)),
      trodAll_stays hl hk h2 (fun t' ht => hr t' (by simp [ht])) (fun x hx => hlt x (List.mem_append_right _ hx)) (fun x hx => hsp x (List.mem_append_right _ hx)), rfl⟩
  | [], _ :: _, _, _, h, _, _, _ => by simp [DataW.TrodAll] at h
  | [], [], _ :: _, _, h, _, _, _ => by simp [DataW.TrodAll] at h
  | _ :: _, [], _, _, h, _, _, _ => by simp [DataW.TrodAll] at h
  | _ :: _, _ :: _, [], _, h, _, _, _ => by simp [DataW.TrodAll] at h
end
end Go.Abs

/-! # AbsLaw -/
namespace Go.Abs
open Go.ChangeShapes Go.WideShapes Go.ChangeAt Go.RowKit
noncomputable section
set_option linter.unusedSectionVars false
set_option linter.unusedVariables false
variable {P : Program}

/-! ### Closed calls -/
theorem closed_run {T0 : TabsOf} {call : Caller} {f : FuncId} {σ0 σ' : ASt} (hcall : @CallOk T0 P call) (h0 : @TabStart T0 σ0 P.globals.size) (hrun : call f [] σ0 = some (.b true, σ')) {ro : Nat → Option Obj} {w : World} (hro : RoOk T0.tabs ro w) :
    CallN P f ⟨[]⟩ w fun v w' => v = .bool true ∧ Kept w w' := by
  letI := T0
  have hS : SR P (envOf P.globals.size σ0 ro) σ0 w := SR_start h0.1 (fun id o ho => by
    obtain ⟨c, rfl, hm, hle⟩ := h0.2 id o ho
    obtain ⟨cs, elem, fr, h1, h2, h3⟩ := hro.tab _ hm
    exact ⟨hle, c, rfl, ⟨cs, elem, fr, hro.at' _ _ h1, h2, h3⟩⟩) hro.at' (fun p hp => hro.tab p hp)
  refine CallN.mono (hcall f [] σ0 _ _ hrun _ w [] hS rfl) ?_
  rintro v w' ⟨η', hst, hr⟩
  simp only [VR] at hr
  exact ⟨hr, hst.kept h0.own⟩

theorem pClosed_of {T : TabsOf} {f : FuncId} (h : ∀ ro w, RoOk T.tabs ro w → CallN P f ⟨[]⟩ w fun v w' => v = .bool true ∧ Kept w w') : @PrimOk T P f pClosed := by
  letI := T
  intro args σ r σ1 hs η w vs hS hv
  unfold pClosed at hs
  split at hs
  · cases hs
    simp only [VRs] at hv
    subst hv
    refine CallN.mono (h η.ro w hS.roOk) ?_
    rintro v w' ⟨rfl, hk⟩
    exact ⟨η, St.of_kept hS hk, by simp only [VR]⟩
  · cases hs

/-! ### A law's row -/
theorem law_row {H : Type} {enc : TypeId × Value → H} {tabs : List (Nat × List AV)} {f : FuncId} {fn : Func} {c : Code} {s : ChangeSpec} {n : Nat} {L : List (Bool × List GTy)} {tb : TypeId} {again : Bool} (hn : NamesOk P) (hf : P.funcs[f]? = some fn) (hc : fn.body = some c)
    (hL : argTys P n fn.params.toList = some L) (hlaid : laidOutB P = true) (hread : ∀ t ∈ fn.params.toList, P.readableRec t = true ∧ t < P.types.size) (hr : fn.resultTypes = #[tb]) (htb : P.underlying tb = some .bool)
    (hvars : s.vars = []) (hs : ∀ ds : List (DataW H), ds.length = fn.params.size → s.fn H ds = { results := [.lit (.bool true)], args := ds })
    (hlaw : ∀ gs, hasArgs L gs → FnC P tabs f [] [.sc] gs [.b true]) {W : World} {base : Nat} {args : Array Value} {ds gs : List (DataW H)} {before : List MemPlace}
    (hval : ∀ (j : Nat) t v, fn.params[j]? = some t → args[j]? = some v → Value.okWide P W .any base t v)
    (hW : DataW.Whole enc P fn.params.toList s.vars false W args.toList ds gs before) {vt : List TypeId} (hvt : vt = []) (hsz0 : (DataW.weightsEach P (fn.params.toList ++ vt) (ds ++ gs)).all (· ≤ reachBytes) = true) (hro : RoOk tabs (heapRo W) W) :
    Calls P f args W fun e W' => ∃ v, e = .returned v ∧ s.post enc P fn false true false again W args v W' := by
  letI : TabsOf := Tg [] [] 0
  have hW' := hW
  have hlt := fun p hp => hW.lt p hp
  obtain ⟨p, q, hA, hV, rfl, hfz, hnd⟩ := hW
  have hV' := hV
  rw [hvars] at hV
  obtain ⟨rfl, rfl⟩ := trodVars_none hV
  have hsz : ∀ z ∈ DataW.weightsEach P fn.params.toList ds, z ≤ reachBytes := by
    subst hvt
    rw [List.append_nil, List.append_nil, List.all_eq_true] at hsz0
    exact fun z hz => by simpa using hsz0 z hz
  obtain ⟨gl, g1, g2⟩ := trodAllG hL hA hsz (fun j t v h1 h2 => ⟨base, hval j t v (by simpa using h1) (by simpa using h2)⟩)
  have hcall := (hlaw gl g2).call (heapRo W) W args.toList hro g1
  have hcall' := CallN.calls hn hf hc hcall
  have hput : (⟨putS [] args.toList⟩ : Array Value) = args := by simp [putS]
  rw [hput] at hcall'
  have hdl : ds.length = fn.params.size := by
    have : ∀ {ts : List TypeId} {vs : List Value} {ds : List (DataW H)} {ps : List MemPlace}, DataW.TrodAll enc P W 0 (fun _ => true) true ts vs ds ps → ds.length = ts.length := by
      intro ts
      induction ts with
      | nil => intro vs ds ps h; cases vs <;> cases ds <;> simp [DataW.TrodAll] at h ⊢
      | cons t ts ih => intro vs ds ps h; cases vs <;> cases ds <;> simp [DataW.TrodAll] at h ⊢; obtain ⟨_, _, _, h2, _⟩ := h; exact ih h2
    simpa using this hA
  refine Calls.mono' hcall' ?_
  rintro e W' ⟨v, rfl, ro', hstep, us, rfl, hus⟩
  simp only [GRs] at hus
  obtain ⟨u, us', rfl, hu, rfl⟩ := hus
  simp only [GR] at hu
  subst hu
  have hfn : s.fn H (ds ++ []) = { results := [.lit (.bool true)], args := ds } := by rw [List.append_nil]; exact hs ds hdl
  simp only [List.append_nil] at hW' hlt
  refine ⟨_, rfl, post_of_kept (pa := p) (pv := []) hW' (fun _ _ _ => ?_) (fun sp hsp => ?_) (fun _ _ => ?_) (by simp) hstep.kept (ok_one (by rw [hr]) rfl (okWide_bool_mk htb _))⟩
  · rw [hfn, hr]; exact trodAll_cons_mk (shut_bool htb _) trodAll_mk0
  · rw [hfn]; exact trodAll_stays hlaid hstep.kept hA hread hlt hsp
  · rw [hfn, hvars]; rfl

/-! ### Loops by their numbers -/
def AC.loopAt : AC → Nat → Option Code
  | .plain _, _ => none
  | .seq x y, k => match x.loopAt k with
    | some b => some b
    | none => y.loopAt k
  | .cond _ y z, k => match y.loopAt k with
    | some b => some b
    | none => z.loopAt k
  | .block _ x, k => x.loopAt k
  | .loop k' b, k => if Nat.beq k' k then some b else none
  | .peel x k' b, k => if Nat.beq k' k then some b else x.loopAt k
theorem AC.loopAt_has {k : Nat} {b : Code} : ∀ {x : AC}, x.loopAt k = some b → x.HasLoop k b
  | .plain _, h => by simp [AC.loopAt] at h
  | .seq x y, h => by
    simp only [AC.loopAt] at h
    split at h
    · next hx => cases h; exact .inl (AC.loopAt_has hx)
    · exact .inr (AC.loopAt_has h)
  | .cond _ x y, h => by
    simp only [AC.loopAt] at h
    split at h
    · next hx => cases h; exact .inl (AC.loopAt_has hx)
    · exact .inr (AC.loopAt_has h)
  | .block _ x, h => AC.loopAt_has (x := x) h
  | .loop k' b', h => by
    simp only [AC.loopAt] at h
    split at h
    · next e => cases h; exact ⟨Nat.eq_of_beq_eq_true e, rfl⟩
    · cases h
  | .peel x k' b', h => by
    simp only [AC.loopAt] at h
    split at h
    · next e => cases h; exact .inl ⟨Nat.eq_of_beq_eq_true e, rfl⟩
    · exact .inr (AC.loopAt_has h)
theorem annotF_range (ps : List Nat) : ∀ (c : Code) (n : Nat), n ≤ (annotF ps c n).2 ∧ ∀ k b, (annotF ps c n).1.HasLoop k b → (n ≤ k ∧ k < (annotF ps c n).2) ∧ (annotF ps c n).1.loopAt k = some b
  | .seq x y, n => by
    obtain ⟨h1, h2⟩ := annotF_range ps x n
    obtain ⟨h3, h4⟩ := annotF_range ps y (annotF ps x n).2
    simp only [annotF, AC.HasLoop, AC.loopAt]
    refine ⟨by omega, fun k b h => ?_⟩
    rcases h with h | h
    · obtain ⟨r, e⟩ := h2 k b h; exact ⟨by omega, by rw [e]⟩
    · obtain ⟨r, e⟩ := h4 k b h
      refine ⟨by omega, ?_⟩
      cases hx : (annotF ps x n).1.loopAt k with
      | none => exact e
      | some b' => have := (h2 k b' (AC.loopAt_has hx)).1; omega
  | .cond _ x y, n => by
    obtain ⟨h1, h2⟩ := annotF_range ps x n
    obtain ⟨h3, h4⟩ := annotF_range ps y (annotF ps x n).2
    simp only [annotF, AC.HasLoop, AC.loopAt]
    refine ⟨by omega, fun k b h => ?_⟩
    rcases h with h | h
    · obtain ⟨r, e⟩ := h2 k b h; exact ⟨by omega, by rw [e]⟩
    · obtain ⟨r, e⟩ := h4 k b h
      refine ⟨by omega, ?_⟩
      cases hx : (annotF ps x n).1.loopAt k with
      | none => exact e
      | some b' => have := (h2 k b' (AC.loopAt_has hx)).1; omega
  | .block id x, n => annotF_range ps x n
  | .loop x, n => by
    obtain ⟨h1, h2⟩ := annotF_range ps x (n + 1)
    simp only [annotF]
    split
    · exact ⟨by simp, fun k b h => by simp [AC.HasLoop] at h⟩
    · split
      · simp only [AC.HasLoop, AC.loopAt]
        refine ⟨by omega, fun k b h => ?_⟩
        rcases h with ⟨rfl, rfl⟩ | h
        · exact ⟨by omega, by simp⟩
        · obtain ⟨r, e⟩ := h2 k b h
          refine ⟨by omega, ?_⟩
          have : Nat.beq n k = false := by cases hb : Nat.beq n k with | false => rfl | true => have := Nat.eq_of_beq_eq_true hb; omega
          rw [this]; exact e
      · simp only [AC.HasLoop, AC.loopAt]
        refine ⟨by omega, fun k b h => ?_⟩
        obtain ⟨rfl, rfl⟩ := h
        exact ⟨by omega, by simp⟩
  | .skip, n | .region _ _ _, n | .rangeFunc _ _ _ _, n | .exit _, n | .scope _, n | .label _, n | .goto _, n | .ret, n | .refuse _, n => ⟨Nat.le_refl _, fun k b h => by simp [annotF, AC.HasLoop] at h⟩
theorem loopAt_of {ps : List Nat} {c : Code} {k : Nat} {b : Code} (h : (annot ps c).HasLoop k b) : (annot ps c).loopAt k = some b := ((annotF_range ps c 0).2 k b h).2

/-- A loop's body, by the way to it: at each step what is peeled, and the loop's number. -/
def bodyOf : Code → List (List Nat × Nat) → Code
  | c, [] => c
  | c, (ps, k) :: r => bodyOf (((annot ps c).loopAt k).getD .skip) r
theorem bodyOf_of {ps : List Nat} {c : Code} {k : Nat} {b : Code} (h : (annot ps c).HasLoop k b) : bodyOf c [(ps, k)] = b := by
  simp only [bodyOf, loopAt_of h, Option.getD_some]
theorem bodyOf_snoc {ps : List Nat} {k : Nat} : ∀ (r : List (List Nat × Nat)) (c : Code), bodyOf c (r ++ [(ps, k)]) = bodyOf (bodyOf c r) [(ps, k)]
  | [], _ => rfl
  | (_, _) :: r, _ => bodyOf_snoc r _

/-! ### All contracts at once -/
abbrev Ctr := List GV → List GV → Prop
def CofL (Cs : List Ctr) (k : Nat) (gs out : List GV) : Prop := match Cs[k]? with
  | some c => c gs out
  | none => False
def TofL (Ds : List PDef) : PProg := fun k => Ds[k]?
/-- What a definition computes keeps its contract, where its calls keep theirs. -/
def GoodC (C : Nat → List GV → List GV → Prop) (d : PDef) (c : Ctr) : Prop := ∀ I : Itp, (∀ k gs out, I k gs = some out → C k gs out) → ∀ gs out, d.den I gs = some out → c gs out
def AllGood (C : Nat → List GV → List GV → Prop) : List PDef → List Ctr → Prop
  | [], [] => True
  | d :: ds, c :: cs => GoodC C d c ∧ AllGood C ds cs
  | _, _ => False
theorem AllGood.at {C : Nat → List GV → List GV → Prop} : ∀ {ds : List PDef} {cs : List Ctr}, AllGood C ds cs → ∀ {k : Nat} {d : PDef}, ds[k]? = some d → ∃ c, cs[k]? = some c ∧ GoodC C d c
  | [], [], _, k, d, hd => by simp at hd
  | d0 :: ds, c0 :: cs, h, k, d, hd => by
    cases k with
    | zero => simp at hd; subst hd; exact ⟨c0, rfl, h.1⟩
    | succ k => obtain ⟨c, h1, h2⟩ := AllGood.at h.2 (k := k) (by simpa using hd); exact ⟨c, by simpa using h1, h2⟩
  | [], _ :: _, h, _, _, _ => h.elim
  | _ :: _, [], h, _, _, _ => h.elim
theorem lim_good {Ds : List PDef} {Cs : List Ctr} (h : AllGood (CofL Cs) Ds Cs) : ∀ k gs out, (TofL Ds).lim k gs = some out → CofL Cs k gs out := by
  refine PProg.lim_ind fun k d hk I hI gs out hd => ?_
  obtain ⟨c, h1, h2⟩ := h.at hk
  unfold CofL
  rw [h1]
  exact h2 I hI gs out hd

/-- The loops of annotated code, each by its spec. -/
def SpecsOk (P : Program) (tabs : List (Nat × List AV)) (I : Itp) (ac : AC) (specs : List (Nat × LoopSpec)) : Prop :=
  ∀ k sp', getA k specs = some sp' → sp'.pre.ok = true ∧ ∀ b, ac.HasLoop k b → ∀ gs out, I sp'.key gs = some out → LoopC P tabs b sp'.pre sp'.posts gs out
theorem SpecsOk.nil {tabs : List (Nat × List AV)} {I : Itp} {ac : AC} : SpecsOk P tabs I ac [] := fun k sp' h => by simp [getA] at h
theorem SpecsOk.cons {tabs : List (Nat × List AV)} {I : Itp} {ps : List Nat} {c : Code} {k : Nat} {sp : LoopSpec} {specs : List (Nat × LoopSpec)} (hok : sp.pre.ok = true) (hb : ∀ gs out, I sp.key gs = some out → LoopC P tabs (bodyOf c [(ps, k)]) sp.pre sp.posts gs out)
    (r : SpecsOk P tabs I (annot ps c) specs) : SpecsOk P tabs I (annot ps c) ((k, sp) :: specs) := by
  intro k' sp' h
  simp only [getA] at h
  cases e : Nat.beq k' k with
  | true =>
    rw [e] at h
    cases h
    have e := Nat.eq_of_beq_eq_true e
    subst e
    exact ⟨hok, fun b hb' gs out hI => by rw [← bodyOf_of hb']; exact hb gs out hI⟩
  | false => rw [e] at h; exact r k' sp' h

theorem LoopC.of_tree_at {tabs : List (Nat × List AV)} (hlow : TabsLow tabs P.globals.size) (hm : P.follows .mixedOrders = true) (hn : NamesOk P) {pl : PList} {I : Itp} (hpl : PListOk P tabs I pl) {specs : List (Nat × LoopSpec)} {fuel : Nat} {sp : LoopSpec} (hok : sp.pre.ok = true) {n : Nat} (hnp : n = sp.pre.np)
    {ps : List Nat} {b : Code} {t : Tree} (hspecs : SpecsOk P tabs I (annot ps b) specs) (hself : ∀ gs out, I sp.key gs = some out → LoopC P tabs b sp.pre sp.posts gs out)
    (hchk : t.chk (leafLoop P tabs pl specs fuel sp (annot ps b)) (List.replicate sp.pre.np .arg) [] = true) {gs out : List GV} (hd : (PDef.tree n t).den I gs = some out) : LoopC P tabs b sp.pre sp.posts gs out := by
  simp only [PDef.den] at hd
  split at hd
  · next hlen => exact LoopC.of_tree hlow hm hn hpl hok hspecs hself hchk (by rw [hlen, hnp]) hd
  · cases hd

/-- Prims, one ahead of others. -/
def PL.nil : PList := fun _ => []
def PL.cons (f : FuncId) (p : NodesOf → PFn) (l : PList) : PList := fun N => (f, p N) :: l N
theorem PL.ok_nil {tabs : List (Nat × List AV)} {I : Itp} : PListOk P tabs I PL.nil := fun T _ _ p hp => by simp [PL.nil] at hp
theorem PL.ok_cons {tabs : List (Nat × List AV)} {I : Itp} {f : FuncId} {p : NodesOf → PFn} {l : PList} (h : ∀ T : TabsOf, T.tabs = tabs → T.I = I → @PrimOk T P f (p T.toNodesOf)) (hl : PListOk P tabs I l) : PListOk P tabs I (PL.cons f p l) := by
  intro T hT hI q hq
  rcases List.mem_cons.1 hq with rfl | hq
  · exact h T hT hI
  · exact hl T hT hI q hq
theorem PL.ok_call {tabs : List (Nat × List AV)} {I : Itp} {f : FuncId} {k : Nat} {st : List (Option FuncId)} {sh : List OSh} {l : PList} (h : ∀ gs out, I k gs = some out → FnC P tabs f st sh gs out) (hl : PListOk P tabs I l) : PListOk P tabs I (PL.cons f (fun N => @pCall N P k st sh) l) :=
  PL.ok_cons (fun T hT hI => pCall_ok fun gs out h' => by subst hT; subst hI; exact h gs out h') hl
/-- One or the other. -/
def orP (p q : PFn) : PFn := fun args σ => match p args σ with
  | some r => some r
  | none => q args σ
theorem orP_ok {T : TabsOf} {f : FuncId} {p q : PFn} (hp : @PrimOk T P f p) (hq : @PrimOk T P f q) : @PrimOk T P f (orP p q) := by
  letI := T
  intro args σ r σ' hs
  unfold orP at hs
  split at hs
  · next r0 h0 => cases hs; exact hp args σ r σ' h0
  · exact hq args σ r σ' hs
end
end Go.Abs
