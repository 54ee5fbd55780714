/- Memory: reads, writes and new blocks of the concrete world, as steps. -/
import Derived.Test.YtincemehblfipaaGreatDoorAbsRel
namespace Go.Abs
noncomputable section
variable [TabsOf]
set_option linter.unusedSectionVars false
set_option linter.unusedVariables false
set_option linter.unusedSimpArgs false

theorem add_none (bl off n : Nat) : (⟨bl, off, none⟩ : Addr).add n = ⟨bl, off + n, none⟩ := by
  unfold Addr.add; split
  · next h => simp [h]
  · rfl

theorem cell_eq {w : World} {bl off : Nat} {cs : Array Value} {elem : TypeId} {fr : Nat × Nat} (h : w.heap[bl]? = some (.cells cs elem fr)) :
    w.cell? ⟨bl, off, none⟩ = cs[off]? := by
  simp [World.cell?, h]

theorem frozen_eq {w : World} {bl off : Nat} {cs : Array Value} {elem : TypeId} {fr : Nat × Nat} (h : w.heap[bl]? = some (.cells cs elem fr)) :
    w.frozen? ⟨bl, off, none⟩ = (decide (fr.1 ≤ off) && decide (off < fr.2)) := by
  simp [World.frozen?, h]

theorem run_loadCellsFrom {P : Program} {w : World} {bl off : Nat} {cs : Array Value} {elem : TypeId} {fr : Nat × Nat} (h : w.heap[bl]? = some (.cells cs elem fr)) :
    ∀ (n i : Nat) (acc : Array Value), off + i + n ≤ cs.size →
      (loadCellsFrom ⟨bl, off, none⟩ i n acc).run P w = .ok (acc ++ (cs.toList.drop (off + i)).take n) w := by
  intro n
  induction n with
  | zero => intro i acc _; simp [loadCellsFrom]
  | succ n ih =>
    intro i acc hle
    have hlt : off + i < cs.size := by omega
    have hc : w.cell? ⟨bl, off + i, none⟩ = some cs[off + i] := by rw [cell_eq h]; simp [hlt]
    simp only [loadCellsFrom, Sem.run_bind, add_none]
    have hl : (load ⟨bl, off + i, none⟩).run P w = .ok cs[off + i] w := by simp [load, Sem.run, hc]
    rw [hl]
    simp only [Result.andThen_ok]
    rw [ih (i + 1) _ (by omega)]
    congr 1
    have : cs.toList.drop (off + i) = cs[off + i] :: cs.toList.drop (off + (i + 1)) := by
      rw [List.drop_eq_getElem_cons (by simpa using hlt)]; simp [Nat.add_assoc]
    rw [this]; simp

theorem run_loadCells {P : Program} {w : World} {bl off n : Nat} {cs : Array Value} {elem : TypeId} {fr : Nat × Nat} (h : w.heap[bl]? = some (.cells cs elem fr)) (hle : off + n ≤ cs.size) :
    (loadCells ⟨bl, off, none⟩ n).run P w = .ok ⟨(cs.toList.drop off).take n⟩ w := by
  unfold loadCells
  rw [run_loadCellsFrom h n 0 #[] (by simpa using hle)]
  simp

theorem run_load1 {P : Program} {w : World} {bl off : Nat} {cs : Array Value} {elem : TypeId} {fr : Nat × Nat} {x : Value} (h : w.heap[bl]? = some (.cells cs elem fr)) (hx : cs[off]? = some x) :
    (load ⟨bl, off, none⟩).run P w = .ok x w := by
  have hc : w.cell? ⟨bl, off, none⟩ = some x := by rw [cell_eq h, hx]
  simp [load, Sem.run, hc]

/-- The cells of a block from a place on, written. -/
def setFrom (cs : Array Value) (off : Nat) : List Value → Array Value
  | [] => cs
  | v :: vs => setFrom (cs.setIfInBounds off v) (off + 1) vs

theorem setFrom_size : ∀ (vs : List Value) (cs : Array Value) (off : Nat), (setFrom cs off vs).size = cs.size
  | [], _, _ => rfl
  | v :: vs, cs, off => by rw [setFrom, setFrom_size vs]; simp

theorem setFrom_get : ∀ (vs : List Value) (cs : Array Value) (off k : Nat), off + vs.length ≤ cs.size →
    (setFrom cs off vs)[k]? = if off ≤ k ∧ k < off + vs.length then vs[k - off]? else cs[k]?
  | [], cs, off, k, h => by simp [setFrom]; omega
  | v :: vs, cs, off, k, h => by
    simp only [List.length_cons] at h
    rw [setFrom, setFrom_get vs _ _ _ (by simp; omega)]
    by_cases h1 : off + 1 ≤ k ∧ k < off + 1 + vs.length
    · rw [if_pos h1, if_pos ⟨by omega, by simp; omega⟩]
      have : k - off = (k - (off + 1)) + 1 := by omega
      rw [this]; simp
    · rw [if_neg h1]
      by_cases h2 : k = off
      · subst h2
        rw [if_pos ⟨Nat.le_refl _, by simp⟩]
        have hk : k < cs.size := by omega
        simp [hk]
      · rw [if_neg (by simp only [List.length_cons]; omega)]
        rw [Array.getElem?_setIfInBounds, if_neg (fun e => h2 e.symm)]

def setBlk (w : World) (bl : Nat) (o : Obj) : World := { w with heap := w.heap.setIfInBounds bl o }

theorem setBlk_at {w : World} {bl : Nat} {o o' : Obj} (h : w.heap[bl]? = some o) : (setBlk w bl o').heap[bl]? = some o' := by
  have : bl < w.heap.size := (Array.getElem?_eq_some_iff.1 h).1
  simp [setBlk, this]
theorem setBlk_ne {w : World} {bl k : Nat} {o' : Obj} (h : k ≠ bl) : (setBlk w bl o').heap[k]? = w.heap[k]? := by
  simp only [setBlk]; rw [Array.getElem?_setIfInBounds, if_neg (fun e => h e.symm)]
theorem setBlk_size {w : World} {bl : Nat} {o' : Obj} : (setBlk w bl o').heap.size = w.heap.size := by simp [setBlk]
theorem setBlk_twice {w : World} {bl : Nat} {o o' : Obj} : setBlk (setBlk w bl o) bl o' = setBlk w bl o' := by
  simp only [setBlk]; congr 1
  apply Array.ext_getElem?; intro i
  simp only [Array.getElem?_setIfInBounds, Array.size_setIfInBounds]
  split <;> rfl

theorem setCell_eq {w : World} {bl off : Nat} {cs : Array Value} {elem : TypeId} {fr : Nat × Nat} (h : w.heap[bl]? = some (.cells cs elem fr)) (v : Value) :
    w.setCell ⟨bl, off, none⟩ v = setBlk w bl (.cells (cs.setIfInBounds off v) elem fr) := by
  unfold World.setCell setBlk
  congr 1
  apply Array.ext_getElem?; intro i
  rw [Array.getElem?_modify, Array.getElem?_setIfInBounds]
  by_cases e : bl = i
  · subst e
    have : bl < w.heap.size := (Array.getElem?_eq_some_iff.1 h).1
    rw [if_pos rfl, if_pos rfl, if_pos this, h]; rfl
  · rw [if_neg e, if_neg e]

theorem setBlk_same {w : World} {bl : Nat} {o : Obj} (h : w.heap[bl]? = some o) : setBlk w bl o = w := by
  unfold setBlk
  have : w.heap.setIfInBounds bl o = w.heap := by
    apply Array.ext_getElem?; intro i
    rw [Array.getElem?_setIfInBounds]
    by_cases e : bl = i
    · subst e
      have : bl < w.heap.size := (Array.getElem?_eq_some_iff.1 h).1
      rw [if_pos rfl, if_pos this, h]
    · rw [if_neg e]
  rw [this]

def oneC : Value → Bool
  | .agg _ | .tuple _ => false
  | _ => true

theorem run_storeCells {P : Program} : ∀ (vs : List Value) (w : World) (bl off i : Nat) (cs : Array Value) (elem : TypeId) (fr : Nat × Nat),
    w.heap[bl]? = some (.cells cs elem fr) → off + i + vs.length ≤ cs.size → (∀ v ∈ vs, oneC v = true) →
    (∀ k, off + i ≤ k → k < off + i + vs.length → ¬ (fr.1 ≤ k ∧ k < fr.2)) →
    (storeCells ⟨bl, off, none⟩ vs i).run P w = .ok () (setBlk w bl (.cells (setFrom cs (off + i) vs) elem fr))
  | [], w, bl, off, i, cs, elem, fr, h, _, _, _ => by simp [storeCells, setFrom, setBlk_same h]
  | v :: vs, w, bl, off, i, cs, elem, fr, h, hle, hone, hfr => by
    simp only [List.length_cons] at hle hfr
    have hlt : off + i < cs.size := by omega
    have hc : w.cell? ⟨bl, off + i, none⟩ = some cs[off + i] := by rw [cell_eq h]; simp [hlt]
    have hf : w.frozen? ⟨bl, off + i, none⟩ = false := by
      rw [frozen_eq h]; have := hfr (off + i) (by omega) (by omega); simpa using this
    have hv := hone v (by simp)
    have hs : (store ⟨bl, off + i, none⟩ v).run P w = .ok () (setBlk w bl (.cells (cs.setIfInBounds (off + i) v) elem fr)) := by
      rw [← setCell_eq h]
      cases v <;> simp [oneC] at hv <;> simp [store, Sem.run, hc, hf]
    simp only [storeCells, Sem.run_bind, add_none, hs, Result.andThen_ok]
    rw [run_storeCells vs _ bl off (i + 1) (cs.setIfInBounds (off + i) v) elem fr (setBlk_at h) (by simp; omega) (fun x hx => hone x (by simp [hx])) (fun k h1 h2 => hfr k (by omega) (by omega))]
    rw [setBlk_twice]
    rfl

/-! ### Steps -/
def Env.put (η : Env) (id : Nat) (q : Place) : Env := ⟨fun k => if k = id then some q else η k, η.ro⟩

theorem Env.put_le {P : Program} {η : Env} {σ : ASt} {w : World} (h : SR P η σ w) (q : Place) : η.le (η.put σ.next q) := by
  refine ⟨fun id p hp => ?_, fun _ _ h => h⟩
  have := h.dom id p hp
  simp only [Env.put]; rw [if_neg (by omega)]; exact hp

theorem getLt {w : World} {k : Nat} {o : Obj} (h : w.heap[k]? = some o) : k < w.heap.size := (Array.getElem?_eq_some_iff.1 h).1

theorem OR.lt {P : Program} {η : Env} {q : Place} {w : World} {o : AObj} (h : OR P η q w o) : q.bl < w.heap.size := by
  cases o with
  | cells c et rw opn => obtain ⟨cs, elem, fr, h1, _⟩ := h; exact getLt h1
  | iter s pos => exact getLt h.1
  | map es => obtain ⟨ms, clock, h1, _⟩ := h; exact getLt h1
  | iterM m => cases m with
    | none => obtain ⟨_, _, _, h1⟩ := h; exact getLt h1
    | some m => obtain ⟨_, _, _, _, _, h1⟩ := h; exact getLt h1

/-- A new block. -/
theorem St.alloc {P : Program} {η : Env} {σ : ASt} {w : World} (h : SR P η σ w) (o : AObj) (oc : Obj) (q : Place) (hq : q.bl = w.heap.size)
    (ho : OR P (η.put σ.next q) q { w with heap := w.heap.push oc } o) : St P η σ w (η.put σ.next q) (σ.new o) { w with heap := w.heap.push oc } := by
  have hle := Env.put_le h q
  have hat : ∀ k, k < w.heap.size → (w.heap.push oc)[k]? = w.heap[k]? := fun k hk => by rw [Array.getElem?_push, if_neg (by omega)]
  have hnext : ∀ id o', σ.get id = some o' → id < σ.next := fun id o' h1 => by obtain ⟨p, hp, _⟩ := h.obj id o' h1; exact h.dom id p hp
  have hrolt : ∀ b o, η.ro b = some o → b < w.heap.size := fun b o hb => getLt (h.roAt b o hb)
  refine ⟨hle, ⟨?_, ?_, ?_, ?_, fun b o hb => ?_, fun id o1 p a1 a2 a3 => ?_, fun p hp => (h.tabs p hp).mono hle⟩, by simp, fun bl hbl _ => hat bl hbl, ?_, rfl, rfl, rfl, rfl, Nat.le_succ _, ?_, fun _ h => .inl h⟩
  rotate_right
  · intro id p hp
    simp only [Env.put] at hp
    split at hp
    · next e => subst e; exact .inr ⟨Nat.le_refl _, Nat.lt_succ_self _⟩
    · exact .inl hp
  · intro g hg; obtain ⟨sz, es, h1⟩ := h.glob g hg; exact ⟨sz, es, hle.pl _ _ h1⟩
  · intro id p hp
    simp only [Env.put] at hp
    show id < σ.next + 1
    split at hp
    · omega
    · have := h.dom id p hp; omega
  · intro id o' ho'
    rw [ASt.get_new] at ho'
    split at ho'
    · next e => cases ho'; subst e; exact ⟨q, by simp [Env.put], ho⟩
    · obtain ⟨p, hp, hr⟩ := h.obj id o' ho'
      exact ⟨p, hle.pl _ _ hp, OR.heap (w := w) (hat _ hr.lt) (hr.mono hle)⟩
  · intro id o1 id' o2 p p' h1 h2 h3 h4 h5 h6
    rw [ASt.get_new] at h1 h3
    simp only [Env.put] at h5 h6
    split at h1 <;> split at h3
    · omega
    · next e e' =>
      rw [if_pos e] at h5; rw [if_neg e'] at h6; cases h5
      obtain ⟨p2, hp2, hr⟩ := h.obj id' o2 h3
      rw [hp2] at h6; cases h6
      have := hr.lt; omega
    · next e e' =>
      rw [if_neg e] at h5; rw [if_pos e'] at h6; cases h6
      obtain ⟨p2, hp2, hr⟩ := h.obj id o1 h1
      rw [hp2] at h5; cases h5
      have := hr.lt; omega
    · next e e' =>
      rw [if_neg e] at h5; rw [if_neg e'] at h6
      exact h.sep id o1 id' o2 p p' h1 h2 h3 h4 h5 h6
  · exact (hat b (hrolt b o hb)).trans (h.roAt b o hb)
  · rw [ASt.get_new] at a1
    simp only [Env.put] at a3 ⊢
    split at a1
    · next e =>
      rw [if_pos e] at a3; cases a3
      cases hro : η.ro q.bl with
      | none => rfl
      | some o2 => have := hrolt _ _ hro; omega
    · next e => rw [if_neg e] at a3; exact h.roSep id o1 p a1 a2 a3
  · intro id o1 p h1 h2 h3 h4
    rw [ASt.get_new] at h1
    simp only [Env.put] at h4
    split at h1
    · next e => rw [if_pos e] at h4; cases h4; left; omega
    · next e => rw [if_neg e] at h4; exact .inr ⟨id, o1, p, h1, h2, h3, h4, rfl⟩

/-- A write into a block of our own. -/
theorem St.write {P : Program} {η : Env} {σ : ASt} {w w' : World} (h : SR P η σ w) {id : Nat} {o o' : AObj} {q : Place} (hg : σ.get id = some o) (ho : o.own = true) (hl : σ.lock ≤ id)
    (hq : η id = some q) (hsz : w'.heap.size = w.heap.size) (hk : ∀ k, k ≠ q.bl → w'.heap[k]? = w.heap[k]?) (h1 : w'.os = w.os) (h2 : w'.tape = w.tape) (h3 : w'.output = w.output)
    (hr : OR P η q w' o') : St P η σ w η (σ.put id o') w' := by
  have hro := h.roSep id o q hg ho hq
  refine ⟨Env.le.refl _, ⟨h.glob, h.dom, ?_, ?_, fun b o2 hb => ?_, fun id2 o2 p a1 a2 a3 => ?_, h.tabs⟩, by omega, ?_, ?_, h1, h2, h3, rfl, Nat.le_refl _, fun _ _ h => .inl h, fun _ h => .inl h⟩
  · intro id' o2 h4
    rw [ASt.get_put] at h4
    split at h4
    · next e => cases h4; subst e; exact ⟨q, hq, hr⟩
    · next e =>
      obtain ⟨p, hp, hr'⟩ := h.obj id' o2 h4
      exact ⟨p, hp, OR.heap (w := w) (hk _ (h.sep id o id' o2 q p hg ho h4 (fun e' => e e'.symm) hq hp).symm) hr'⟩
  · intro id1 o1 id2 o2 p p' a b c d e f
    rw [ASt.get_put] at a c
    split at a <;> split at c
    · omega
    · next e1 e2 => subst e1; exact h.sep id1 o id2 o2 p p' hg ho c d e f
    · next e1 e2 => subst e2; exact h.sep id1 o1 id2 o p p' a b hg d e f
    · exact h.sep id1 o1 id2 o2 p p' a b c d e f
  · rw [hk b (fun e => by rw [e] at hb; rw [hro] at hb; cases hb)]; exact h.roAt b o2 hb
  · rw [ASt.get_put] at a1
    split at a1
    · next e => subst e; rw [hq] at a3; cases a3; exact hro
    · exact h.roSep id2 o2 p a1 a2 a3
  · intro bl hbl hno
    exact hk bl (hno id o q hg ho hl hq).symm
  · intro id1 o1 p a b c d
    rw [ASt.get_put] at a
    split at a
    · next e => subst e; exact .inr ⟨id1, o, p, hg, ho, hl, d, rfl⟩
    · exact .inr ⟨id1, o1, p, a, b, c, d, rfl⟩

/-- A block of our own is given up, and a part of it comes back under a new name. -/
theorem St.again {P : Program} {η : Env} {σ : ASt} {w w' : World} (h : SR P η σ w) {id : Nat} {o o' : AObj} {q q' : Place} (hg : σ.get id = some o) (ho : o.own = true) (hl : σ.lock ≤ id)
    (hq : η id = some q) (hq' : q'.bl = q.bl) (hsz : w'.heap.size = w.heap.size) (hk : ∀ k, k ≠ q.bl → w'.heap[k]? = w.heap[k]?) (h1 : w'.os = w.os) (h2 : w'.tape = w.tape) (h3 : w'.output = w.output)
    (hr : OR P (η.put σ.next q') q' w' o') : St P η σ w (η.put σ.next q') ((σ.kill id).new o') w' := by
  have hle := Env.put_le h q'
  have hid : id < σ.next := h.dom id q hq
  have get : ∀ k, ((σ.kill id).new o').get k = if k = σ.next then some o' else if k = id then none else σ.get k := fun k => by
    rw [ASt.get_new, ASt.get_kill]; rfl
  have hro := h.roSep id o q hg ho hq
  refine ⟨hle, ⟨?_, ?_, ?_, ?_, fun b o2 hb => ?_, fun id2 o2 p a1 a2 a3 => ?_, fun p hp => (h.tabs p hp).mono hle⟩, by omega, ?_, ?_, h1, h2, h3, rfl, Nat.le_succ _, ?_, fun _ h => .inl h⟩
  rotate_right
  · intro id p hp
    simp only [Env.put] at hp
    split at hp
    · next e => subst e; exact .inr ⟨Nat.le_refl _, Nat.lt_succ_self _⟩
    · exact .inl hp
  · intro g hg; obtain ⟨sz, es, h1⟩ := h.glob g hg; exact ⟨sz, es, hle.pl _ _ h1⟩
  · intro k p hp
    simp only [Env.put] at hp
    show k < σ.next + 1
    split at hp
    · omega
    · have := h.dom k p hp; omega
  · intro k o2 h4
    rw [get] at h4
    split at h4
    · next e => cases h4; subst e; exact ⟨q', by simp [Env.put], hr⟩
    · split at h4
      · cases h4
      · next e e2 =>
        obtain ⟨p, hp, hr'⟩ := h.obj k o2 h4
        exact ⟨p, hle.pl _ _ hp, OR.heap (w := w) (hk _ (h.sep id o k o2 q p hg ho h4 (fun e' => e2 e'.symm) hq hp).symm) (hr'.mono hle)⟩
  · intro id1 o1 id2 o2 p p' a b c d e f
    rw [get] at a c
    simp only [Env.put] at e f
    split at a <;> split at c
    · omega
    · next e1 e2 =>
      split at c
      · cases c
      · next e3 =>
        rw [if_pos e1] at e; rw [if_neg e2] at f; cases e
        rw [hq']
        exact h.sep id o id2 o2 q p' hg ho c (fun e' => e3 e'.symm) hq f
    · next e1 e2 =>
      split at a
      · cases a
      · next e3 =>
        rw [if_neg e1] at e; rw [if_pos e2] at f; cases f
        rw [hq']
        exact h.sep id1 o1 id o p q a b hg e3 e hq
    · next e1 e2 =>
      split at a
      · cases a
      · split at c
        · cases c
        · rw [if_neg e1] at e; rw [if_neg e2] at f
          exact h.sep id1 o1 id2 o2 p p' a b c d e f
  · rw [hk b (fun e => by rw [e] at hb; have hb' : η.ro q.bl = some o2 := hb; rw [hro] at hb'; cases hb')]; exact h.roAt b o2 hb
  · rw [get] at a1
    simp only [Env.put] at a3 ⊢
    split at a1
    · next e => rw [if_pos e] at a3; cases a3; rw [hq']; exact hro
    · next e =>
      rw [if_neg e] at a3
      split at a1
      · cases a1
      · exact h.roSep id2 o2 p a1 a2 a3
  · intro bl hbl hno
    exact hk bl (hno id o q hg ho hl hq).symm
  · intro id1 o1 p a b c d
    rw [get] at a
    simp only [Env.put] at d
    split at a
    · next e => rw [if_pos e] at d; cases d; exact .inr ⟨id, o, q, hg, ho, hl, hq, hq'.symm⟩
    · next e =>
      rw [if_neg e] at d
      split at a
      · cases a
      · exact .inr ⟨id1, o1, p, a, b, c, d, rfl⟩

/-- Less is said of the state: what is said stands. -/
theorem SR.sub {P : Program} {η : Env} {σ τ : ASt} {w : World} (h : SR P η σ w) (hs : ∀ id o, τ.get id = some o → σ.get id = some o) (hn : σ.next ≤ τ.next) : SR P η τ w :=
  ⟨h.glob, fun id q hq => Nat.lt_of_lt_of_le (h.dom id q hq) hn, fun id o ho => h.obj id o (hs id o ho),
    fun id o id' o' q q' a b c d e f => h.sep id o id' o' q q' (hs _ _ a) b (hs _ _ c) d e f, h.roAt, fun id o q a b c => h.roSep id o q (hs _ _ a) b c, h.tabs⟩

theorem St.sub {P : Program} {η η' : Env} {σ σ' τ : ASt} {w w' : World} (h : St P η σ w η' σ' w') (hs : ∀ id o, τ.get id = some o → σ'.get id = some o) (hn : σ'.next ≤ τ.next) (hl : τ.lock = σ'.lock) : St P η σ w η' τ w' :=
  { h with rel := h.rel.sub hs hn, own := fun id o q a b c d => h.own id o q (hs _ _ a) b c d, lock := hl.trans h.lock, next := Nat.le_trans h.next hn, new := fun id q hq => (h.new id q hq).imp (fun x => x) fun ⟨a, b⟩ => ⟨a, Nat.lt_of_lt_of_le b hn⟩ }

end
end Go.Abs
