/- All definitions of a law as rows of one table: which function or loop each is of; all are checked by a few runs. -/
import Derived.Test.YtehcokoigbiciaaGreatDoorAbsJ
namespace Go.Abs
noncomputable section
set_option linter.unusedSectionVars false
set_option linter.unusedVariables false
variable {P : Program}

inductive Row where
  | any (c : Ctr)
  | told (f : FuncId) (st : List (Option FuncId)) (sh : List OSh)
  | fn (f : FuncId) (st : List (Option FuncId)) (sh : List OSh) (pe : List Nat) (l : List (Nat × Nat))
  | fs (f : FuncId) (st : List (Option FuncId)) (sp : LoopSpec) (pe : List Nat) (l : List (Nat × Nat))
  | lp (f : FuncId) (way : List (List Nat × Nat)) (sp : LoopSpec) (ps : List Nat) (l : List (Nat × Nat))

def bodyF (P : Program) (f : FuncId) : Code := match P.funcs[f]? with
  | some fn => fn.body.getD .skip
  | none => .skip
def Row.ctr (P : Program) (tabs : List (Nat × List AV)) : Row → Ctr
  | .any c => c
  | .told f st sh => FnC P tabs f st sh
  | .fn f st sh _ _ => FnC P tabs f st sh
  | .fs f st sp _ _ => FnS P tabs f st sp.pre sp.posts
  | .lp f way sp _ _ => LoopC P tabs (bodyOf (bodyF P f) way) sp.pre sp.posts
def Row.hand : Row → Bool
  | .any _ | .told _ _ _ => true
  | _ => false

def eqNs : List Nat → List Nat → Bool
  | [], [] => true
  | a :: l, b :: m => Nat.beq a b && eqNs l m
  | _, _ => false
theorem eqNs_eq : ∀ {l m : List Nat}, eqNs l m = true → l = m
  | [], [], _ => rfl
  | a :: l, b :: m, h => by
    simp only [eqNs, Bool.and_eq_true] at h
    rw [Nat.eq_of_beq_eq_true h.1, eqNs_eq h.2]
  | [], _ :: _, h => by simp [eqNs] at h
  | _ :: _, [], h => by simp [eqNs] at h
def eqWay : List (List Nat × Nat) → List (List Nat × Nat) → Bool
  | [], [] => true
  | (a, b) :: l, (c, d) :: m => eqNs a c && Nat.beq b d && eqWay l m
  | _, _ => false
theorem eqWay_eq : ∀ {l m : List (List Nat × Nat)}, eqWay l m = true → l = m
  | [], [], _ => rfl
  | (a, b) :: l, (c, d) :: m, h => by
    simp only [eqWay, Bool.and_eq_true] at h
    rw [eqNs_eq h.1.1, Nat.eq_of_beq_eq_true h.1.2, eqWay_eq h.2]
  | [], _ :: _, h => by simp [eqWay] at h
  | _ :: _, [], h => by simp [eqWay] at h
def eqSh : List OSh → List OSh → Bool
  | [], [] => true
  | .sc :: l, .sc :: m => eqSh l m
  | .ag a :: l, .ag b :: m => Nat.beq a b && eqSh l m
  | _, _ => false
theorem eqSh_eq : ∀ {l m : List OSh}, eqSh l m = true → l = m
  | [], [], _ => rfl
  | .sc :: l, .sc :: m, h => by simp only [eqSh] at h; rw [eqSh_eq h]
  | .ag a :: l, .ag b :: m, h => by
    simp only [eqSh, Bool.and_eq_true] at h
    rw [Nat.eq_of_beq_eq_true h.1, eqSh_eq h.2]
  | [], _ :: _, h => by simp [eqSh] at h
  | .sc :: _, [], h => by simp [eqSh] at h
  | .ag _ :: _, [], h => by simp [eqSh] at h
  | .sc :: _, .ag _ :: _, h => by simp [eqSh] at h
  | .ag _ :: _, .sc :: _, h => by simp [eqSh] at h

def specsOf (rows : List Row) (f : FuncId) (way : List (List Nat × Nat)) (pe : List Nat) : List (Nat × Nat) → Option (List (Nat × LoopSpec))
  | [] => some []
  | (k, key) :: r => match rows[key]? with
    | some (.lp f' way' sp _ _) => if (Nat.beq f' f && eqWay way' (way ++ [(pe, k)]) && Nat.beq sp.key key && sp.pre.ok) = true then (specsOf rows f way pe r).map ((k, sp) :: ·) else none
    | _ => none

section
variable {tabs : List (Nat × List AV)} {rows : List Row} {I : Itp}
abbrev ctrs (P : Program) (tabs : List (Nat × List AV)) (rows : List Row) : Nat → List GV → List GV → Prop := CofL (rows.map (Row.ctr P tabs))
theorem ctr_at {k : Nat} {r : Row} (hr : rows[k]? = some r) {gs out : List GV} (h : ctrs P tabs rows k gs out) : r.ctr P tabs gs out := by
  unfold ctrs CofL at h
  rw [List.getElem?_map, hr] at h
  exact h
theorem specsOf_ok (hI : ∀ k gs out, I k gs = some out → ctrs P tabs rows k gs out) {f : FuncId} {way : List (List Nat × Nat)} {pe : List Nat} : ∀ {l : List (Nat × Nat)} {specs : List (Nat × LoopSpec)}, specsOf rows f way pe l = some specs →
    SpecsOk P tabs I (annot pe (bodyOf (bodyF P f) way)) specs
  | [], _, h => by cases h; exact SpecsOk.nil
  | (k, key) :: r, specs, h => by
    unfold specsOf at h
    split at h
    · next f' way' sp ps l hrow =>
      split at h
      · next hc =>
        simp only [Bool.and_eq_true] at hc
        obtain ⟨⟨⟨h1, h2⟩, h3⟩, h4⟩ := hc
        have h1 := Nat.eq_of_beq_eq_true h1
        have h2 := eqWay_eq h2
        have h3 := Nat.eq_of_beq_eq_true h3
        subst h1
        subst h2
        subst h3
        obtain ⟨specs', h5, rfl⟩ := Option.map_eq_some_iff.1 h
        refine SpecsOk.cons h4 (fun gs out hi => ?_) (specsOf_ok hI h5)
        have := ctr_at hrow (hI _ _ _ hi)
        simp only [Row.ctr, bodyOf_snoc] at this
        exact this
      · cases h
    · cases h

def chkRow (P : Program) (tabs : List (Nat × List AV)) (pl : PList) (fuel : Nat) (rows : List Row) (k : Nat) (d : PDef) : Bool :=
  match rows[k]? with
  | some (.fn f st sh pe l) => match d with
    | .fn shIn shOut t => eqSh sh shOut && (match P.funcs[f]? with
      | some fn => match fn.body, specsOf rows f [] pe l with
        | some c, some specs => t.chk (leafFn P tabs pl specs fuel st shIn shOut fn.ntmps fn.results.toList (annot pe c)) (List.replicate shIn.length .arg) []
        | _, _ => false
      | none => false)
    | _ => false
  | some (.fs f st sp pe l) => match d with
    | .tree n t => Nat.beq n sp.pre.np && (match P.funcs[f]? with
      | some fn => match fn.body, specsOf rows f [] pe l with
        | some c, some specs => t.chk (leafFnS P tabs pl specs fuel st sp fn.ntmps fn.results.toList (annot pe c)) (List.replicate sp.pre.np .arg) []
        | _, _ => false
      | none => false)
    | _ => false
  | some (.lp f way sp ps l) => match d with
    | .tree n t => Nat.beq n sp.pre.np && (Nat.beq sp.key k && sp.pre.ok) && (match specsOf rows f way ps l with
      | some specs => t.chk (leafLoop P tabs pl specs fuel sp (annot ps (bodyOf (bodyF P f) way))) (List.replicate sp.pre.np .arg) []
      | none => false)
    | _ => false
  | _ => false

theorem chkRow_ok (hlow : TabsLow tabs P.globals.size) (hm : P.follows .mixedOrders = true) (hn : NamesOk P) {pl : PList} (hpl : ∀ I : Itp, (∀ k gs out, I k gs = some out → ctrs P tabs rows k gs out) → PListOk P tabs I pl) {fuel k : Nat} {d : PDef} {r : Row} (hr : rows[k]? = some r)
    (h : chkRow P tabs pl fuel rows k d = true) : GoodC (ctrs P tabs rows) d (r.ctr P tabs) := by
  intro I hI gs out hd
  unfold chkRow at h
  rw [hr] at h
  cases r with
  | any c => cases h
  | told f st sh => cases h
  | fn f st sh pe l =>
    cases d with
    | tree n t => cases h
    | prim g => cases h
    | fn shIn shOut t =>
      simp only [Bool.and_eq_true] at h
      have := eqSh_eq h.1
      subst this
      have h := h.2
      split at h
      · next fn hf =>
        split at h
        · next c specs hc hs =>
          have hb : bodyOf (bodyF P f) [] = c := by simp only [bodyOf, bodyF, hf, hc, Option.getD_some]
          have hsp := specsOf_ok hI hs
          rw [hb] at hsp
          exact FnC.of_tree hlow hm hn (hpl I hI) hf hc hsp h hd
        · cases h
      · cases h
  | fs f st sp pe l =>
    cases d with
    | fn a b t => cases h
    | prim g => cases h
    | tree n t =>
      simp only [Bool.and_eq_true] at h
      have e := Nat.eq_of_beq_eq_true h.1
      have h := h.2
      split at h
      · next fn hf =>
        split at h
        · next c specs hc hs =>
          have hb : bodyOf (bodyF P f) [] = c := by simp only [bodyOf, bodyF, hf, hc, Option.getD_some]
          have hsp := specsOf_ok hI hs
          rw [hb] at hsp
          exact FnS.of_tree hlow hm hn (hpl I hI) e hf hc hsp h hd
        · cases h
      · cases h
  | lp f way sp ps l =>
    cases d with
    | fn a b t => cases h
    | prim g => cases h
    | tree n t =>
      simp only [Bool.and_eq_true] at h
      have e := Nat.eq_of_beq_eq_true h.1.1
      have e2 := Nat.eq_of_beq_eq_true h.1.2.1
      have hok := h.1.2.2
      have h := h.2
      split at h
      · next specs hs =>
        refine LoopC.of_tree_at hlow hm hn (hpl I hI) hok e (specsOf_ok hI hs) (fun gs out hi => ?_) h hd
        rw [e2] at hi
        exact ctr_at hr (hI _ _ _ hi)
      · cases h

def chk1 (P : Program) (tabs : List (Nat × List AV)) (pl : PList) (rows : List Row) (Ds : List PDef) (k : Nat) : Bool := match rows[k]?, Ds[k]? with
  | some r, some d => r.hand || chkRow P tabs pl 100000 rows k d
  | _, _ => false
def chkSeg (P : Program) (tabs : List (Nat × List AV)) (pl : PList) (rows : List Row) (Ds : List PDef) : Nat → Nat → Bool
  | _, 0 => true
  | a, n + 1 => chk1 P tabs pl rows Ds a && chkSeg P tabs pl rows Ds (a + 1) n
def Seg (P : Program) (tabs : List (Nat × List AV)) (pl : PList) (rows : List Row) (Ds : List PDef) (a b : Nat) : Prop := ∀ k, a ≤ k → k < b → chk1 P tabs pl rows Ds k = true
theorem Seg.of {pl : PList} {Ds : List PDef} : ∀ {n a : Nat}, chkSeg P tabs pl rows Ds a n = true → Seg P tabs pl rows Ds a (a + n)
  | 0, a, _, k, h1, h2 => by omega
  | n + 1, a, h, k, h1, h2 => by
    simp only [chkSeg, Bool.and_eq_true] at h
    by_cases e : k = a
    · subst e; exact h.1
    · exact Seg.of h.2 k (by omega) (by omega)
theorem Seg.join {pl : PList} {Ds : List PDef} {a b c : Nat} (h1 : Seg P tabs pl rows Ds a b) (h2 : Seg P tabs pl rows Ds b c) : Seg P tabs pl rows Ds a c := fun k k1 k2 => by
  by_cases e : k < b
  · exact h1 k k1 e
  · exact h2 k (by omega) k2

/-- What is proved by hand. -/
def HandOk (P : Program) (tabs : List (Nat × List AV)) (rows : List Row) (Ds : List PDef) : List Nat → Prop
  | [] => True
  | k :: l => (∃ r d, rows[k]? = some r ∧ Ds[k]? = some d ∧ GoodC (ctrs P tabs rows) d (r.ctr P tabs)) ∧ HandOk P tabs rows Ds l
theorem HandOk.at {Ds : List PDef} : ∀ {l : List Nat}, HandOk P tabs rows Ds l → ∀ {k : Nat}, k ∈ l → ∀ {r : Row} {d : PDef}, rows[k]? = some r → Ds[k]? = some d → GoodC (ctrs P tabs rows) d (r.ctr P tabs)
  | a :: l, h, k, hk, r, d, hr, hd => by
    rcases List.mem_cons.1 hk with rfl | hk
    · obtain ⟨r', d', h1, h2, h3⟩ := h.1
      rw [hr] at h1; cases h1
      rw [hd] at h2; cases h2
      exact h3
    · exact HandOk.at h.2 hk hr hd
def handL : List Row → Nat → List Nat
  | [], _ => []
  | r :: l, k => if r.hand = true then k :: handL l (k + 1) else handL l (k + 1)
theorem handL_at : ∀ {l : List Row} {k i : Nat} {r : Row}, l[i]? = some r → r.hand = true → k + i ∈ handL l k
  | [], _, _, _, h, _ => by simp at h
  | a :: l, k, 0, r, h, hh => by
    simp only [List.getElem?_cons_zero, Option.some.injEq] at h
    subst h
    unfold handL
    rw [if_pos hh]
    simp
  | a :: l, k, i + 1, r, h, hh => by
    have := handL_at (l := l) (k := k + 1) (i := i) (by simpa using h) hh
    rw [show k + 1 + i = k + (i + 1) by omega] at this
    unfold handL
    split
    · exact List.mem_cons_of_mem _ this
    · exact this
theorem allGood_of {C : Nat → List GV → List GV → Prop} : ∀ {Ds : List PDef} {rows : List Row}, Ds.length = rows.length → (∀ (k : Nat) d r, Ds[k]? = some d → rows[k]? = some r → GoodC C d (r.ctr P tabs)) → AllGood C Ds (rows.map (Row.ctr P tabs))
  | [], [], _, _ => trivial
  | d :: Ds, r :: rows, hl, h => ⟨h 0 d r (by simp) (by simp), allGood_of (by simpa using hl) fun k d' r' h1 h2 => h (k + 1) d' r' (by simpa using h1) (by simpa using h2)⟩
  | [], _ :: _, hl, _ => by simp at hl
  | _ :: _, [], hl, _ => by simp at hl
/-- All at once. -/
theorem tab_lim (hlow : TabsLow tabs P.globals.size) (hm : P.follows .mixedOrders = true) (hn : NamesOk P) {pl : PList} (hpl : ∀ I : Itp, (∀ k gs out, I k gs = some out → ctrs P tabs rows k gs out) → PListOk P tabs I pl) {Ds : List PDef}
    (hhand : HandOk P tabs rows Ds (handL rows 0)) (hlen : Ds.length = rows.length) (hseg : Seg P tabs pl rows Ds 0 Ds.length) : ∀ k gs out, (TofL Ds).lim k gs = some out → ctrs P tabs rows k gs out := by
  refine lim_good (allGood_of hlen fun k d r hd hr => ?_)
  have hk := (List.getElem?_eq_some_iff.1 hd).1
  cases hh : r.hand with
  | true =>
    refine hhand.at ?_ hr hd
    have := handL_at (k := 0) hr hh
    rwa [Nat.zero_add] at this
  | false =>
    have := hseg k (Nat.zero_le _) hk
    unfold chk1 at this
    rw [hr, hd] at this
    simp only [hh, Bool.false_or] at this
    exact chkRow_ok hlow hm hn hpl hr this

/-! ### The prims -/
def callP (P : Program) (rows : List Row) (k : Nat) (N : NodesOf) : PFn := match rows[k]? with
  | some (.fn _ st sh _ _) => @pCall N P k st sh
  | some (.told _ st sh) => @pCall N P k st sh
  | some (.fs _ st sp _ _) => @pCallS N P st sp
  | _ => fun _ _ => none
def callsP (P : Program) (rows : List Row) : List Nat → NodesOf → PFn
  | [], _ => fun _ _ => none
  | [k], N => callP P rows k N
  | k :: l, N => orP (callP P rows k N) (callsP P rows l N)
def entOk (rows : List Row) (f : FuncId) (k : Nat) : Bool := match rows[k]? with
  | some (.fn f' _ _ _ _) => Nat.beq f' f
  | some (.told f' _ _) => Nat.beq f' f
  | some (.fs f' _ sp _ _) => Nat.beq f' f && Nat.beq sp.key k && sp.pre.ok
  | _ => false
def entsOk (rows : List Row) (es : List (FuncId × List Nat)) : Bool := es.all fun e => e.2.all (entOk rows e.1)
def plOf (P : Program) (rows : List Row) (es : List (FuncId × List Nat)) (raw : PList) : PList := fun N => es.map (fun e => (e.1, callsP P rows e.2 N)) ++ raw N

theorem callP_ok (hlow : TabsLow tabs P.globals.size) {T : TabsOf} (hT : T.tabs = tabs) (hI : ∀ k gs out, T.I k gs = some out → ctrs P tabs rows k gs out) {f : FuncId} {k : Nat} (h : entOk rows f k = true) : @PrimOk T P f (callP P rows k T.toNodesOf) := by
  subst hT
  unfold entOk at h
  unfold callP
  split at h
  · next f' st sh pe l hr =>
    have := Nat.eq_of_beq_eq_true h
    subst this
    exact pCall_ok fun gs out h' => ctr_at hr (hI k gs out h')
  · next f' st sh hr =>
    have := Nat.eq_of_beq_eq_true h
    subst this
    exact pCall_ok fun gs out h' => ctr_at hr (hI k gs out h')
  · next f' st sp pe l hr =>
    simp only [Bool.and_eq_true] at h
    have := Nat.eq_of_beq_eq_true h.1.1
    subst this
    have e := Nat.eq_of_beq_eq_true h.1.2
    exact pCallS_ok hlow h.2 fun gs out h' => ctr_at hr (hI k gs out (by rw [← e]; exact h'))
  · cases h
theorem callsP_ok (hlow : TabsLow tabs P.globals.size) {T : TabsOf} (hT : T.tabs = tabs) (hI : ∀ k gs out, T.I k gs = some out → ctrs P tabs rows k gs out) {f : FuncId} : ∀ {l : List Nat}, l.all (entOk rows f) = true → @PrimOk T P f (callsP P rows l T.toNodesOf)
  | [], _ => fun _ _ _ _ h => by cases h
  | [k], h => callP_ok hlow hT hI (by simpa using h)
  | k :: k' :: l, h => by
    simp only [List.all_cons, Bool.and_eq_true] at h
    exact orP_ok (callP_ok hlow hT hI h.1) (callsP_ok hlow hT hI (l := k' :: l) (by simpa using h.2))
theorem plOf_ok (hlow : TabsLow tabs P.globals.size) {es : List (FuncId × List Nat)} {raw : PList} (hes : entsOk rows es = true) {I : Itp} (hI : ∀ k gs out, I k gs = some out → ctrs P tabs rows k gs out) (hraw : PListOk P tabs I raw) : PListOk P tabs I (plOf P rows es raw) := by
  intro T hT hTI p hp
  rcases List.mem_append.1 hp with hp | hp
  · obtain ⟨e, he, rfl⟩ := List.mem_map.1 hp
    unfold entsOk at hes
    rw [List.all_eq_true] at hes
    exact callsP_ok hlow hT (by rw [hTI]; exact hI) (hes e he)
  · exact hraw T hT hTI p hp
end
end
end Go.Abs
