/- What the abstract values and states stand for; the steps from state to state. -/
import Derived.Test.YtincemehblfipaaGreatDoorAbsEval
import Derived.WalkKit
namespace Go.Abs
noncomputable section
variable [TabsOf]
set_option linter.unusedSectionVars false
set_option linter.unusedVariables false

/-! ### Lists of values, place by place -/
theorem VRs_iff {η : Env} : ∀ {l : List AV} {vs : List Value}, VRs η l vs ↔ l.length = vs.length ∧ ∀ (k : Nat) a x, l[k]? = some a → vs[k]? = some x → VR η a x
  | [], vs => by
    simp only [VRs]
    constructor
    · rintro rfl; simp
    · rintro ⟨h, _⟩; cases vs with
      | nil => rfl
      | cons _ _ => simp at h
  | a :: l, vs => by
    simp only [VRs]
    constructor
    · rintro ⟨x, xs, rfl, h1, h2⟩
      have ih := (VRs_iff (l := l) (vs := xs)).1 h2
      refine ⟨by simp [ih.1], ?_⟩
      intro k b y hk hy
      cases k with
      | zero => simp at hk hy; subst hk; subst hy; exact h1
      | succ k => simp at hk hy; exact ih.2 k b y hk hy
    · rintro ⟨hl, h⟩
      cases vs with
      | nil => simp at hl
      | cons x xs =>
        refine ⟨x, xs, rfl, h 0 a x (by simp) (by simp), (VRs_iff (l := l) (vs := xs)).2 ⟨by simpa using hl, ?_⟩⟩
        intro k b y hk hy
        exact h (k + 1) b y (by simpa using hk) (by simpa using hy)

theorem VRs.length {η : Env} {l : List AV} {vs : List Value} (h : VRs η l vs) : l.length = vs.length := (VRs_iff.1 h).1
theorem VRs.at {η : Env} {l : List AV} {vs : List Value} (h : VRs η l vs) {k : Nat} {a : AV} (hk : l[k]? = some a) : ∃ x, vs[k]? = some x ∧ VR η a x := by
  have h' := VRs_iff.1 h
  obtain ⟨hlt, rfl⟩ := List.getElem?_eq_some_iff.1 hk
  have : k < vs.length := by omega
  exact ⟨vs[k], List.getElem?_eq_getElem this, h'.2 k _ _ hk (List.getElem?_eq_getElem this)⟩
theorem VRs.of {η : Env} {l : List AV} {vs : List Value} (hl : l.length = vs.length) (h : ∀ (k : Nat) a, l[k]? = some a → ∃ x, vs[k]? = some x ∧ VR η a x) : VRs η l vs :=
  VRs_iff.2 ⟨hl, fun k a x hk hx => by obtain ⟨y, hy, hv⟩ := h k a hk; rw [hx] at hy; cases hy; exact hv⟩
theorem VRs.append {η : Env} {l l' : List AV} {vs vs' : List Value} (h : VRs η l vs) (h' : VRs η l' vs') : VRs η (l ++ l') (vs ++ vs') := by
  induction l generalizing vs with
  | nil => simp only [VRs] at h; subst h; simpa using h'
  | cons a l ih =>
    simp only [VRs] at h
    obtain ⟨x, xs, rfl, h1, h2⟩ := h
    exact ⟨x, xs ++ vs', rfl, h1, ih h2⟩
theorem VRs.take {η : Env} {l : List AV} {vs : List Value} (h : VRs η l vs) (n : Nat) : VRs η (l.take n) (vs.take n) := by
  induction n generalizing l vs with
  | zero => simp [VRs]
  | succ n ih => cases l with
    | nil => simp only [VRs] at h; subst h; simp [VRs]
    | cons a l =>
      simp only [VRs] at h
      obtain ⟨x, xs, rfl, h1, h2⟩ := h
      exact ⟨x, xs.take n, by simp, h1, ih h2⟩
theorem VRs.drop {η : Env} {l : List AV} {vs : List Value} (h : VRs η l vs) (n : Nat) : VRs η (l.drop n) (vs.drop n) := by
  induction n generalizing l vs with
  | zero => simpa using h
  | succ n ih => cases l with
    | nil => simp only [VRs] at h; subst h; simp [VRs]
    | cons a l =>
      simp only [VRs] at h
      obtain ⟨x, xs, rfl, h1, h2⟩ := h
      simpa using ih h2
theorem VRs.nil_iff {η : Env} {vs : List Value} : VRs η [] vs ↔ vs = [] := by simp [VRs]
theorem VRs.cons {η : Env} {a : AV} {l : List AV} {x : Value} {vs : List Value} (h : VR η a x) (h' : VRs η l vs) : VRs η (a :: l) (x :: vs) := ⟨x, vs, rfl, h, h'⟩

/-! ### More places change nothing -/
structure Env.le (η η' : Env) : Prop where
  pl : ∀ id q, η id = some q → η' id = some q
  ro : ∀ b o, η.ro b = some o → η'.ro b = some o
theorem Env.le.refl (η : Env) : η.le η := ⟨fun _ _ h => h, fun _ _ h => h⟩
theorem Env.le.trans {a b c : Env} (h : a.le b) (h' : b.le c) : a.le c := ⟨fun id q hq => h'.pl id q (h.pl id q hq), fun b o ho => h'.ro b o (h.ro b o ho)⟩

mutual
theorem VR.mono {η η' : Env} (h : η.le η') : ∀ (a : AV) (v : Value), VR η a v → VR η' a v
  | .b _, _, hv => by simpa only [VR] using hv
  | .i _ _, _, hv => by simpa only [VR] using hv
  | .s _, _, hv => by simpa only [VR] using hv
  | .nilp, _, hv => by simpa only [VR] using hv
  | .p _ _, _, hv => by simp only [VR] at hv ⊢; obtain ⟨q, hq, e⟩ := hv; exact ⟨q, h.pl _ _ hq, e⟩
  | .nils, _, hv => by simpa only [VR] using hv
  | .sl _ _ _ _, _, hv => by simp only [VR] at hv ⊢; obtain ⟨q, hq, e⟩ := hv; exact ⟨q, h.pl _ _ hq, e⟩
  | .nilm, _, hv => by simpa only [VR] using hv
  | .mp _, _, hv => by simp only [VR] at hv ⊢; obtain ⟨q, hq, e⟩ := hv; exact ⟨q, h.pl _ _ hq, e⟩
  | .nilf, _, hv => by simpa only [VR] using hv
  | .fn _ fi cs, _, hv => by
    simp only [VR] at hv ⊢
    obtain ⟨us, vs, e, h1, h2⟩ := hv
    exact ⟨us, vs, e, VRs.mono h fi us h1, VRs.mono h cs vs h2⟩
  | .nili, _, hv => by simpa only [VR] using hv
  | .ifc _ a, _, hv => by simp only [VR] at hv ⊢; obtain ⟨x, e, h1⟩ := hv; exact ⟨x, e, VR.mono h a x h1⟩
  | .agg l, _, hv => by simp only [VR] at hv ⊢; obtain ⟨x, e, h1⟩ := hv; exact ⟨x, e, VRs.mono h l x h1⟩
  | .tup l, _, hv => by simp only [VR] at hv ⊢; obtain ⟨x, e, h1⟩ := hv; exact ⟨x, e, VRs.mono h l x h1⟩
  | .z _ _ _, _, hv => by simpa only [VR] using hv
  | .ro l, _, hv => by
    simp only [VR] at hv ⊢
    rcases hv with hv | ⟨bl, off, c, xs, sz, e, hc, h1, h2, h3⟩
    · exact .inl hv
    refine .inr ?_
    exact ⟨bl, off, c, xs, sz, e, hc, VRs.mono h l xs h1, h2, fun hn => by obtain ⟨cs, elem, fr, h4, h5⟩ := h3 hn; exact ⟨cs, elem, fr, h.ro _ _ h4, h5⟩⟩
  | .rp a _, _, hv => by
    simp only [VR] at hv ⊢
    obtain ⟨bl, base, cs, elem, fr, x, h1, h2, h3⟩ := hv
    exact ⟨bl, base, cs, elem, fr, x, h.ro _ _ h1, VR.mono h a x h2, h3⟩
theorem VRs.mono {η η' : Env} (h : η.le η') : ∀ (l : List AV) (vs : List Value), VRs η l vs → VRs η' l vs
  | [], _, hv => by simpa only [VRs] using hv
  | a :: l, _, hv => by
    simp only [VRs] at hv ⊢
    obtain ⟨x, xs, e, h1, h2⟩ := hv
    exact ⟨x, xs, e, VR.mono h a x h1, VRs.mono h l xs h2⟩
end

/-! ### Values without addresses -/
theorem optMap_some {α β : Type} {f : α → Option β} : ∀ {l : List α} {r : List β}, optMap f l = some r → l.length = r.length ∧ ∀ (k : Nat) x, l[k]? = some x → ∃ y, r[k]? = some y ∧ f x = some y
  | [], r, h => by simp [optMap] at h; subst h; simp
  | x :: xs, r, h => by
    simp only [optMap] at h
    split at h
    · cases h
    · rename_i y hy
      split at h
      · cases h
      · rename_i ys hys
        cases h
        have ih := optMap_some hys
        refine ⟨by simp [ih.1], fun k z hz => ?_⟩
        cases k with
        | zero => simp at hz; subst hz; exact ⟨y, by simp, hy⟩
        | succ k => simp at hz; obtain ⟨u, hu, hf⟩ := ih.2 k z hz; exact ⟨u, by simpa using hu, hf⟩

theorem toVal_VR {η : Env} : ∀ (n : Nat) (a : AV) (v : Value), a.toVal n = some v → VR η a v := by
  intro n
  induction n with
  | zero => intro a v h; simp [AV.toVal] at h
  | succ n ih =>
    intro a v h
    have lst : ∀ (l : List AV) (vs : List Value), optMap (AV.toVal n) l = some vs → VRs η l vs := fun l vs hl => by
      have := optMap_some hl
      exact VRs.of this.1 fun k a hk => by obtain ⟨y, hy, hf⟩ := this.2 k a hk; exact ⟨y, hy, ih _ _ hf⟩
    cases a <;> simp only [AV.toVal, Option.map_eq_some_iff, Option.some.injEq] at h <;> simp only [VR] <;> first | exact h.symm | (cases h; done) | skip
    case ifc t a => obtain ⟨y, h1, h2⟩ := h; exact ⟨_, h2.symm, ih _ _ h1⟩
    case agg l => obtain ⟨y, h1, h2⟩ := h; exact ⟨_, h2.symm, lst _ _ h1⟩
    case tup l => obtain ⟨y, h1, h2⟩ := h; exact ⟨_, h2.symm, lst _ _ h1⟩

/-- A value without addresses stands for one concrete value alone. -/
theorem toVal_unique {η : Env} : ∀ (n : Nat) (a : AV) (v x : Value), a.toVal n = some v → VR η a x → x = v := by
  intro n
  induction n with
  | zero => intro a v x h; simp [AV.toVal] at h
  | succ n ih =>
    intro a v x h hx
    have lst : ∀ (l : List AV) (vs us : List Value), optMap (AV.toVal n) l = some vs → VRs η l us → us = vs := fun l vs us hl hu => by
      have h1 := optMap_some hl
      have h2 := VRs_iff.1 hu
      apply List.ext_getElem?
      intro k
      by_cases hk : k < l.length
      · obtain ⟨y, hy, hf⟩ := h1.2 k _ (List.getElem?_eq_getElem hk)
        obtain ⟨z, hz, hv⟩ := hu.at (List.getElem?_eq_getElem hk)
        rw [hy, hz, ih _ _ _ hf hv]
      · rw [List.getElem?_eq_none (by omega), List.getElem?_eq_none (by omega)]
    cases a <;> simp only [AV.toVal, Option.map_eq_some_iff, Option.some.injEq] at h <;> simp only [VR] at hx <;> first | exact hx.trans h | (cases h; done) | skip
    case ifc t a => obtain ⟨y, h1, h2⟩ := h; obtain ⟨z, rfl, hz⟩ := hx; rw [← h2, ih _ _ _ h1 hz]
    case agg l => obtain ⟨y, h1, h2⟩ := h; obtain ⟨z, rfl, hz⟩ := hx; rw [← h2, lst _ _ _ h1 hz]
    case tup l => obtain ⟨y, h1, h2⟩ := h; obtain ⟨z, rfl, hz⟩ := hx; rw [← h2, lst _ _ _ h1 hz]

theorem ofVal_VR {η : Env} : ∀ (n : Nat) (v : Value) (a : AV), ofVal n v = some a → VR η a v := by
  intro n
  induction n with
  | zero => intro v a h; simp [ofVal] at h
  | succ n ih =>
    intro v a h
    have lst : ∀ (vs : List Value) (l : List AV), optMap (ofVal n) vs = some l → VRs η l vs := fun vs l hl => by
      have h1 := optMap_some hl
      refine VRs.of h1.1.symm fun k a hk => ?_
      have hlt : k < vs.length := by have := (List.getElem?_eq_some_iff.1 hk).1; omega
      obtain ⟨y, hy, hf⟩ := h1.2 k _ (List.getElem?_eq_getElem hlt)
      rw [hk] at hy; cases hy
      exact ⟨_, List.getElem?_eq_getElem hlt, ih _ _ hf⟩
    unfold ofVal at h
    split at h
    all_goals try (cases h; done)
    all_goals try (cases h; simp only [VR]; done)
    · simp only [Option.map_eq_some_iff] at h; obtain ⟨y, h1, rfl⟩ := h; simp only [VR]; exact ⟨_, rfl, ih _ _ h1⟩
    · simp only [Option.map_eq_some_iff] at h; obtain ⟨y, h1, rfl⟩ := h; simp only [VR]; exact ⟨_, rfl, lst _ _ h1⟩
    · simp only [Option.map_eq_some_iff] at h; obtain ⟨y, h1, rfl⟩ := h; simp only [VR]; exact ⟨_, rfl, lst _ _ h1⟩

theorem pureRun_run {α : Type} {P : Program} {s : Sem α} {a : α} (h : pureRun P s = some a) (w : World) : s.run P w = .ok a w := by
  induction s with
  | pure x => simp [pureRun] at h; subst h; rfl
  | program k ih => exact ih P h
  | mark m k ih => exact ih h
  | _ => simp [pureRun] at h

/-! ### The tree of places -/
theorem Tr.getP_nil {α : Type} : ∀ p : List Bool, (Tr.nil : Tr α).getP p = none
  | [] => rfl
  | b :: p => by
    show Tr.getP p (bif b then Tr.nil else Tr.nil) = none
    cases b <;> exact Tr.getP_nil p
@[simp] theorem Tr.get_nil {α : Type} (m : Nat) : (Tr.nil : Tr α).get m = none := Tr.getP_nil _
theorem Tr.getP_setP {α : Type} (x : Option α) : ∀ (p q : List Bool) (t : Tr α), (t.setP x p).getP q = if q = p then x else t.getP q
  | [], [], t => rfl
  | [], c :: q, t => by
    rw [if_neg (by simp)]
    rfl
  | b :: p, [], t => by
    rw [if_neg (by simp)]
    cases b <;> rfl
  | b :: p, c :: q, t => by
    have h1 : (t.setP x (b :: p)) = bif b then .nd t.val (t.lft.setP x p) t.rgt else .nd t.val t.lft (t.rgt.setP x p) := rfl
    have h2 : ∀ u : Tr α, u.getP (c :: q) = (bif c then u.lft else u.rgt).getP q := fun _ => rfl
    rw [h1, h2, h2]
    cases b <;> cases c
    · show (t.rgt.setP x p).getP q = _
      rw [Tr.getP_setP x p q]
      simp
    · show t.lft.getP q = _
      simp
    · show t.rgt.getP q = _
      simp
    · show (t.lft.setP x p).getP q = _
      rw [Tr.getP_setP x p q]
      simp
def unpath : List Bool → Nat
  | [] => 0
  | b :: p => 2 * unpath p + (if b then 1 else 2)
theorem unpath_pathF : ∀ (f n : Nat), n < 2 ^ f → unpath (pathF f n) = n
  | 0, n, h => by
    have : n = 0 := by simpa using h
    subst this; rfl
  | f + 1, n, h => by
    have h1 : pathF (f + 1) n = bif Nat.beq n 0 then [] else Nat.beq ((n - 1) % 2) 0 :: pathF f ((n - 1) / 2) := rfl
    rw [h1]
    by_cases h0 : n = 0
    · subst h0; rfl
    · have hb : Nat.beq n 0 = false := by cases n with | zero => exact absurd rfl h0 | succ n => rfl
      rw [hb]
      show 2 * unpath (pathF f ((n - 1) / 2)) + _ = n
      have hp : 2 ^ (f + 1) = 2 * 2 ^ f := by rw [Nat.pow_succ, Nat.mul_comm]
      rw [unpath_pathF f _ (by omega)]
      rcases Nat.mod_two_eq_zero_or_one (n - 1) with h2 | h2
      · rw [h2]; show 2 * ((n - 1) / 2) + 1 = n; omega
      · rw [h2]; show 2 * ((n - 1) / 2) + 2 = n; omega
theorem unpath_path (n : Nat) : unpath (path n) = n := unpath_pathF _ _ Nat.lt_log2_self
theorem path_inj {n m : Nat} : path n = path m ↔ n = m := ⟨fun h => by rw [← unpath_path n, h, unpath_path], fun h => by rw [h]⟩
theorem Tr.get_set {α : Type} (t : Tr α) (n m : Nat) (x : Option α) : (t.set n x).get m = if m = n then x else t.get m := by
  unfold Tr.get Tr.set
  rw [Tr.getP_setP]
  by_cases h : m = n
  · subst h; simp
  · rw [if_neg h, if_neg (fun e => h (path_inj.1 e))]

theorem ASt.get_put (σ : ASt) (id id' : Nat) (o : AObj) : (σ.put id o).get id' = if id' = id then some o else σ.get id' := Tr.get_set _ _ _ _
theorem ASt.get_kill (σ : ASt) (id id' : Nat) : (σ.kill id).get id' = if id' = id then none else σ.get id' := Tr.get_set _ _ _ _
theorem ASt.get_new (σ : ASt) (id' : Nat) (o : AObj) : (σ.new o).get id' = if id' = σ.next then some o else σ.get id' := Tr.get_set _ _ _ _

/-! ### States -/
def AObj.own : AObj → Bool
  | .cells _ _ rw _ => rw
  | _ => true

structure CellsR (P : Program) (η : Env) (q : Place) (c : List AV) (et : TypeId) (rw opn : Bool) (cs : Array Value) (elem : TypeId) (fr : Nat × Nat) : Prop where
  fits : q.ba + q.sz ≤ cs.size
  le : c.length ≤ q.sz
  shut : opn = false → c.length = q.sz
  cell : ∀ (k : Nat) a, c[k]? = some a → ∃ x, cs[q.ba + k]? = some x ∧ VR η a x
  free : rw = true → ∀ k, k < q.sz → ¬ (fr.1 ≤ q.ba + k ∧ q.ba + k < fr.2)
  whole : et ≠ 0 → elem = et ∧ q.ba + q.sz = cs.size ∧ (opn = false → q.ba = 0)
  room : opn = true → et ≠ 0 ∧ 0 < q.es ∧ sizeT P et = some q.es

def OR (P : Program) (η : Env) (q : Place) (w : World) : AObj → Prop
  | .cells c et rw opn => ∃ cs elem fr, w.heap[q.bl]? = some (.cells cs elem fr) ∧ CellsR P η q c et rw opn cs elem fr
  | .iter s pos => w.heap[q.bl]? = some (.stringIter ⟨⟨s⟩⟩ pos) ∧ q.ba = 0
  | .map es => ∃ ms clock, w.heap[q.bl]? = some (.map ms clock) ∧ ms.size = es.length ∧ ∀ (k : Nat) e, es[k]? = some e → ∃ m, ms[k]? = some m ∧ VR η e.1 m.key ∧ VR η e.2 m.val
  | .iterM none => q.ba = 0 ∧ ∃ since last, w.heap[q.bl]? = some (.mapIter none since #[] last)
  | .iterM (some m) => q.ba = 0 ∧ ∃ since last q', η m = some q' ∧ w.heap[q.bl]? = some (.mapIter (some q'.bl) since #[] last)

theorem CellsR.mono {P : Program} {η η' : Env} (h : η.le η') {q : Place} {c : List AV} {et : TypeId} {rw opn : Bool} {cs : Array Value} {elem : TypeId} {fr : Nat × Nat}
    (r : CellsR P η q c et rw opn cs elem fr) : CellsR P η' q c et rw opn cs elem fr :=
  { r with cell := fun k a hk => by obtain ⟨x, hx, hv⟩ := r.cell k a hk; exact ⟨x, hx, VR.mono h _ _ hv⟩ }

theorem OR.mono {P : Program} {η η' : Env} (h : η.le η') {q : Place} {w : World} {o : AObj} (r : OR P η q w o) : OR P η' q w o := by
  cases o with
  | cells c et rw opn => obtain ⟨cs, elem, fr, h1, h2⟩ := r; exact ⟨cs, elem, fr, h1, h2.mono h⟩
  | iter s pos => exact r
  | map es =>
    obtain ⟨ms, clock, h1, h2, h3⟩ := r
    refine ⟨ms, clock, h1, h2, fun k e hk => ?_⟩
    obtain ⟨m, hm, ha, hb⟩ := h3 k e hk
    exact ⟨m, hm, VR.mono h _ _ ha, VR.mono h _ _ hb⟩
  | iterM m =>
    cases m with
    | none => exact r
    | some m =>
      obtain ⟨h0, since, last, q', h1, h2⟩ := r
      exact ⟨h0, since, last, q', h.pl _ _ h1, h2⟩

theorem OR.heap {P : Program} {η : Env} {q : Place} {w w' : World} {o : AObj} (h : w'.heap[q.bl]? = w.heap[q.bl]?) (r : OR P η q w o) : OR P η q w' o := by
  cases o with
  | iterM m => cases m <;> simp only [OR] at r ⊢ <;> rw [h] <;> exact r
  | _ => simp only [OR] at r ⊢; rw [h]; exact r

/-- What a table's block holds, among those that nobody changes. -/
def TabRo (η : Env) (g : Nat) (c : List AV) : Prop := ∃ cs elem fr, η.ro g = some (.cells cs elem fr) ∧ c.length ≤ cs.size ∧ ∀ (k : Nat) a, c[k]? = some a → ∃ x, cs[k]? = some x ∧ ∀ η', VR η' a x
theorem TabRo.mono {η η' : Env} {g : Nat} {c : List AV} (h : TabRo η g c) (hle : η.le η') : TabRo η' g c := by
  obtain ⟨cs, elem, fr, h1, h2⟩ := h
  exact ⟨cs, elem, fr, hle.ro _ _ h1, h2⟩

structure SR (P : Program) (η : Env) (σ : ASt) (w : World) : Prop where
  glob : ∀ g, g ≤ P.globals.size → ∃ sz es, η g = some ⟨g, 0, sz, es⟩
  dom : ∀ id q, η id = some q → id < σ.next
  obj : ∀ id o, σ.get id = some o → ∃ q, η id = some q ∧ OR P η q w o
  sep : ∀ id o id' o' q q', σ.get id = some o → o.own = true → σ.get id' = some o' → id ≠ id' → η id = some q → η id' = some q' → q.bl ≠ q'.bl
  roAt : ∀ b o, η.ro b = some o → w.heap[b]? = some o
  roSep : ∀ id o q, σ.get id = some o → o.own = true → η id = some q → η.ro q.bl = none
  tabs : ∀ p ∈ TabsOf.tabs, TabRo η p.1 p.2

/-- A step of the concrete world, and what the state says before and behind it. -/
structure St (P : Program) (η : Env) (σ : ASt) (w : World) (η' : Env) (σ' : ASt) (w' : World) : Prop where
  ext : η.le η'
  rel : SR P η' σ' w'
  size : w.heap.size ≤ w'.heap.size
  keep : ∀ bl, bl < w.heap.size → (∀ id o q, σ.get id = some o → o.own = true → σ.lock ≤ id → η id = some q → q.bl ≠ bl) → w'.heap[bl]? = w.heap[bl]?
  own : ∀ id o q, σ'.get id = some o → o.own = true → σ.lock ≤ id → η' id = some q → w.heap.size ≤ q.bl ∨ ∃ id0 o0 q0, σ.get id0 = some o0 ∧ o0.own = true ∧ σ.lock ≤ id0 ∧ η id0 = some q0 ∧ q0.bl = q.bl
  os : w'.os = w.os
  tape : w'.tape = w.tape
  output : w'.output = w.output
  lock : σ'.lock = σ.lock
  next : σ.next ≤ σ'.next
  new : ∀ id q, η' id = some q → η id = some q ∨ (σ.next ≤ id ∧ id < σ'.next)
  roNew : ∀ b, η'.ro b ≠ none → η.ro b ≠ none ∨ w.heap.size ≤ b ∨ ∃ id0 o0 q0, σ.get id0 = some o0 ∧ o0.own = true ∧ σ.lock ≤ id0 ∧ η id0 = some q0 ∧ q0.bl = b

theorem St.refl {P : Program} {η : Env} {σ : ASt} {w : World} (h : SR P η σ w) : St P η σ w η σ w :=
  ⟨Env.le.refl _, h, Nat.le_refl _, fun _ _ _ => rfl, fun id o q h1 h2 h3 h4 => .inr ⟨id, o, q, h1, h2, h3, h4, rfl⟩, rfl, rfl, rfl, rfl, Nat.le_refl _, fun _ _ h => .inl h, fun _ h => .inl h⟩

theorem St.trans {P : Program} {η η1 η2 : Env} {σ σ1 σ2 : ASt} {w w1 w2 : World} (h : St P η σ w η1 σ1 w1) (k : St P η1 σ1 w1 η2 σ2 w2) : St P η σ w η2 σ2 w2 := by
  refine ⟨h.ext.trans k.ext, k.rel, Nat.le_trans h.size k.size, ?_, ?_, k.os.trans h.os, k.tape.trans h.tape, k.output.trans h.output, k.lock.trans h.lock, Nat.le_trans h.next k.next, ?_, ?_⟩
  rotate_right
  · intro b hb
    rcases k.roNew b hb with h1 | h1 | ⟨id0, o0, q0, a1, b1, c1, d1, e1⟩
    · exact h.roNew b h1
    · exact .inr (.inl (Nat.le_trans h.size h1))
    · rcases h.own id0 o0 q0 a1 b1 (h.lock ▸ c1) d1 with h2 | ⟨id2, o2, q2, a2, b2, c2, d2, e2⟩
      · right; left; omega
      · exact .inr (.inr ⟨id2, o2, q2, a2, b2, c2, d2, e2.trans e1⟩)
  rotate_right
  · intro id q hq
    rcases k.new id q hq with h1 | ⟨h1, h2⟩
    · rcases h.new id q h1 with h3 | ⟨h3, h4⟩
      · exact .inl h3
      · exact .inr ⟨h3, Nat.lt_of_lt_of_le h4 k.next⟩
    · exact .inr ⟨Nat.le_trans h.next h1, h2⟩
  · intro bl hbl hno
    rw [k.keep bl (Nat.lt_of_lt_of_le hbl h.size) ?_, h.keep bl hbl hno]
    intro id o q h1 h2 h3 h4
    rcases h.own id o q h1 h2 (h.lock ▸ h3) h4 with h5 | ⟨id0, o0, q0, a, b, c, d, e⟩
    · omega
    · rw [← e]; exact hno id0 o0 q0 a b c d
  · intro id o q h1 h2 h3 h4
    rcases k.own id o q h1 h2 (by rw [h.lock]; exact h3) h4 with h5 | ⟨id0, o0, q0, a, b, c, d, e⟩
    · exact .inl (Nat.le_trans h.size h5)
    · rcases h.own id0 o0 q0 a b (h.lock ▸ c) d with h6 | ⟨id1, o1, q1, a1, b1, c1, d1, e1⟩
      · left; omega
      · exact .inr ⟨id1, o1, q1, a1, b1, c1, d1, e1.trans e⟩

/-- A draw from the tape changes nothing. -/
theorem SR.drew {P : Program} {η : Env} {σ : ASt} {w : World} (h : SR P η σ w) : SR P η σ { w with drawn := w.drawn + 1 } :=
  ⟨h.glob, h.dom, fun id o ho => by obtain ⟨q, hq, hr⟩ := h.obj id o ho; exact ⟨q, hq, OR.heap (w := w) rfl hr⟩, h.sep, h.roAt, h.roSep, h.tabs⟩

theorem St.drew {P : Program} {η : Env} {σ : ASt} {w : World} (h : SR P η σ w) : St P η σ w η σ { w with drawn := w.drawn + 1 } :=
  ⟨Env.le.refl _, h.drew, Nat.le_refl _, fun _ _ _ => rfl, fun id o q h1 h2 h3 h4 => .inr ⟨id, o, q, h1, h2, h3, h4, rfl⟩, rfl, rfl, rfl, rfl, Nat.le_refl _, fun _ _ h => .inl h, fun _ h => .inl h⟩

end
end Go.Abs
