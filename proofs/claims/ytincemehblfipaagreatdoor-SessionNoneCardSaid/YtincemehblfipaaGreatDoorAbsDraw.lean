/- Regions whose order Go leaves open: the evaluator goes by the text, and looks whether another order could make a difference. -/
import Derived.Test.YtincemehblfipaaGreatDoorAbsCode
namespace Go.Abs
noncomputable section
variable [TabsOf]
set_option linter.unusedSectionVars false
set_option linter.unusedVariables false
set_option linter.unusedSimpArgs false

/-! ### The order that the edges bind -/
def maskOf (get : Nat → Nat) : List Edge → Nat
  | [] => 0
  | e :: es => if Region.binds .any e then (2 ^ e.on ||| get e.on) ||| maskOf get es else maskOf get es

def masksGo : List Oper → List Nat → List Nat
  | [], acc => acc
  | o :: os, acc => masksGo os (acc ++ [maskOf (fun k => acc.getD k 0) o.after.toList])

def ordB (M : List Nat) (j i : Nat) : Bool := (M.getD i 0).testBit j
def unord (M : List Nat) (i j : Nat) : Bool := !(Nat.beq i j) && !(ordB M j i) && !(ordB M i j)

def masksOk : List Nat → Nat → Bool
  | [], _ => true
  | m :: ms, i => Nat.blt m (2 ^ i) && masksOk ms (i + 1)

/-! ### Updates -/
def applyU {α : Type} : List (Nat × Option α) → Tr α → Tr α
  | [], t => t
  | (k, v) :: l, t => applyU l (t.set k v)

def restrictT {α : Type} (t : Tr α) : List Nat → Tr α
  | [] => .nil
  | k :: l => (restrictT t l).set k (t.get k)

def eraseT {α : Type} (t : Tr α) : List Nat → Tr α
  | [] => t
  | k :: l => eraseT (t.set k none) l

mutual
def AV.under (c : Nat) : AV → Bool
  | .p id _ => Nat.blt id c
  | .sl id _ _ _ => Nat.blt id c
  | .mp id => Nat.blt id c
  | .fn _ fi cs => AV.unders c fi && AV.unders c cs
  | .ifc _ a => a.under c
  | .agg l => AV.unders c l
  | .tup l => AV.unders c l
  | .ro l => AV.unders c l
  | .rp a _ => a.under c
  | _ => true
def AV.unders (c : Nat) : List AV → Bool
  | [] => true
  | a :: l => a.under c && AV.unders c l
end

def belowObj (c : Nat) : AObj → Bool
  | .cells l _ _ _ => AV.unders c l
  | .iter _ _ => true
  | .map es => es.all fun e => e.1.under c && e.2.under c
  | .iterM (some m) => Nat.blt m c
  | .iterM none => true

def belowKeys (c : Nat) (h : Tr AObj) : List Nat → Bool
  | [] => true
  | k :: l => Nat.blt k c && (match h.get k with | some o => belowObj c o | none => true) && belowKeys c h l

def belowTr (c : Nat) (t : Tr AV) : List Nat → Bool
  | [] => true
  | k :: l => (match t.get k with | some v => v.under c | none => true) && belowTr c t l

structure DRec where
  slot : List (Nat × Option AV)
  upd : List (Nat × Option AObj)
  vis : Option (List Nat)
  loc : List Nat
  base : Nat
  next : Nat
  fin : Option ASt := none

inductive Cls where
  | na (vis : List Nat)           -- it makes no memory, and changes none; it reads these blocks
  | wr (w : List Nat)             -- it makes no memory, and may change these blocks
  | sa (w : List Nat)             -- it makes memory; it may change these blocks, and reads no others
  | ca                            -- a call

def idOf : AV → List Nat
  | .p id _ => [id]
  | .sl id _ _ _ => [id]
  | .mp id => [id]
  | _ => []

def idsAt (ev : Operand → Option AV) (x : Operand) : List Nat := match ev x with | some a => idOf a | none => []

def clsOf (o : Oper) (ev : Operand → Option AV) : Cls :=
  match o.op with
  | .load _ a => .na (idsAt ev a)
  | .store _ a _ => .wr (idsAt ev a)
  | .box .. | .buildSlice .. | .makeSlice .. | .makeMap .. => .sa []
  | .convert _ _ x => .sa (idsAt ev x)
  | .slice _ x _ _ _ => .na (idsAt ev x)
  | .lookup _ m _ _ => .na (idsAt ev m)
  | .mapUpdate _ m _ _ | .insert _ m _ _ => .wr (idsAt ev m)
  | .range _ x => .sa (idsAt ev x)
  | .next it _ => .wr (idsAt ev it)
  | .call c => match c.callee with
    | .builtin .len => .na (c.args.toList.flatMap (idsAt ev))
    | .builtin .append | .builtin .copy | .builtin .clear => .sa (c.args.toList.flatMap (idsAt ev))
    | .builtin .unsafeString => .wr (c.args.toList.flatMap (idsAt ev))
    | .builtin _ => .na []
    | _ => .ca
  | _ => .na []

def bigId : Nat := 2 ^ 64

def dstU (o : Oper) (v : Option AV) : List (Nat × Option AV) := match o.dst with | some d => [(d, v)] | none => []

/-- The new blocks, by number. -/
def freshU (τ : ASt) : Nat → Nat → List (Nat × Option AObj)
  | _, 0 => []
  | c, n + 1 => (c, match τ.get c with | some o => if o.own then some o else none | none => none) :: freshU τ (c + 1) n

def keysOf {α : Type} (l : List (Nat × Option α)) : List Nat := l.map (·.1)

def prevKeys (M : List Nat) (i : Nat) : List DRec → Nat → List Nat
  | [], _ => []
  | r :: rs, j => if unord M i j then keysOf r.upd ++ prevKeys M i rs (j + 1) else prevKeys M i rs (j + 1)

def locKeys (M : List Nat) (i : Nat) : List DRec → Nat → List Nat
  | [], _ => []
  | r :: rs, j => if unord M i j then locKeys M i rs (j + 1) else keysOf r.upd ++ locKeys M i rs (j + 1)

/-- The blocks of a list that may be changed. -/
def ownKeys (h : Tr AObj) (lock : Nat) (l : List Nat) : List Nat := l.filter fun k => Nat.ble lock k && (match h.get k with | some o => o.own | none => false)

def dOne0 (P : Program) (call : Caller) (ops : Array Oper) (M : List Nat) (N0 lock gn n : Nat) (prev : List DRec) (i : Nat) (t : Tr AV) (h : Tr AObj) (c : Nat) : Option DRec :=
  match ops[i]? with
  | none => none
  | some o =>
    let a : AAct := { t := restrictT t (o.looksAt ops), n := n, gn := gn }
    match wantedA o ops a with
    | none => none
    | some false => some { slot := dstU o none, upd := [], vis := some [], loc := [], base := c, next := c }
    | some true =>
      match o.op with
      | .alloc ty => match zeroCellsOf P ty with
        | some z => some { slot := dstU o (some (.p (N0 + i) 0)), upd := [(N0 + i, some (.cells z ty true false))], vis := some [], loc := [], base := c, next := c }
        | none => none
      | _ =>
        match clsOf o a.eval with
        | .na l =>
          match fOp P call o a.eval { h := restrictT h l, next := bigId, lock := bigId } with
          | some (v, τ) => if Nat.beq τ.next bigId then some { slot := dstU o v, upd := [], vis := some l, loc := [], base := c, next := c } else none
          | none => none
        | .wr l =>
          match fOp P call o a.eval { h := restrictT h l, next := bigId, lock := lock } with
          | some (v, τ) => if Nat.beq τ.next bigId then some { slot := dstU o v, upd := (ownKeys h lock l).map fun k => (k, τ.get k), vis := some l, loc := [], base := c, next := c } else none
          | none => none
        | .sa l =>
          if belowTr c t (o.looksAt ops) && belowKeys c h l then
            match fOp P call o a.eval { h := restrictT h l, next := c, lock := lock } with
            | some (v, τ) => some { slot := dstU o v, upd := ((ownKeys h lock l).map fun k => (k, τ.get k)) ++ freshU τ c (τ.next - c), vis := some l, loc := [], base := c, next := τ.next }
            | none => none
          else none
        | .ca =>
          match fOp P call o a.eval { h := eraseT h (prevKeys M i prev 0), next := c, lock := c } with
          | some (v, τ) => some { slot := dstU o v, upd := freshU τ c (τ.next - c), vis := none, loc := locKeys M i prev 0, base := c, next := τ.next }
          | none => none

/-- Does an operation stand last, behind all others? -/
def lastAll (M : List Nat) (size i : Nat) : Bool := Nat.beq (i + 1) size && (List.range i).all fun j => ordB M j i

/-- Such an operation sees the whole state. -/
def dLast (P : Program) (call : Caller) (ops : Array Oper) (lock gn n i : Nat) (t : Tr AV) (h : Tr AObj) (c : Nat) : Option DRec :=
  match ops[i]? with
  | none => none
  | some o =>
    match wantedA o ops { t := restrictT t (o.looksAt ops), n := n, gn := gn } with
    | none => none
    | some false => some { slot := dstU o none, upd := [], vis := some [], loc := [], base := c, next := c, fin := some { h := h, next := c, lock := lock } }
    | some true => match fOp P call o (AAct.eval { t := restrictT t (o.looksAt ops), n := n, gn := gn }) { h := h, next := c, lock := lock } with
      | some (v, τ) => some { slot := dstU o v, upd := [], vis := some [], loc := [], base := c, next := c, fin := some τ }
      | none => none

def dOne (P : Program) (call : Caller) (ops : Array Oper) (M : List Nat) (N0 lock gn n : Nat) (prev : List DRec) (i : Nat) (t : Tr AV) (h : Tr AObj) (c : Nat) : Option DRec :=
  if lastAll M ops.size i = true then dLast P call ops lock gn n i t h c else dOne0 P call ops M N0 lock gn n prev i t h c

def dGo (P : Program) (call : Caller) (ops : Array Oper) (M : List Nat) (N0 lock gn n : Nat) : Nat → List DRec → Nat → Tr AV → Tr AObj → Nat → Option (List DRec × Tr AV × Tr AObj × Nat)
  | 0, prev, _, t, h, c => some (prev, t, h, c)
  | m + 1, prev, i, t, h, c =>
    match dOne P call ops M N0 lock gn n prev i t h c with
    | none => none
    | some r => dGo P call ops M N0 lock gn n m (prev ++ [r]) (i + 1) (applyU r.slot t) (applyU r.upd h) r.next

def disj (l m : List Nat) : Bool := l.all fun k => !(m.contains k)

/-- May two operations whose order is open stand in either order? -/
def pairOk (ops : Array Oper) (N0 : Nat) (i j : Nat) (r s : DRec) : Bool :=
  let keys := keysOf s.upd
  disj (keysOf r.slot) (keysOf s.slot) &&
  (match ops[i]? with | some o => disj (o.looksAt ops) (keysOf s.slot) | none => false) &&
  disj (keysOf r.upd) keys &&
  (match r.vis with
   | some l => disj l keys
   | none => Nat.blt j i || (keys.all (Nat.ble N0 ·) && disj r.loc keys && Nat.beq s.base s.next))

/-- What the text alone tells of two operations: their slots. -/
def statPair (ops : Array Oper) (i j : Nat) : Bool :=
  match ops[i]?, ops[j]? with
  | some o, some o' =>
    match o'.dst with
    | none => true
    | some d' => (match o.dst with | some d => !(Nat.beq d d') | none => true) && !((o.looksAt ops).contains d')
  | _, _ => false
def statOk (ops : Array Oper) (M : List Nat) : Bool :=
  (List.range ops.size).all fun i => (List.range ops.size).all fun j => !(unord M i j) || statPair ops i j

/-- What their blocks tell. -/
def dynPair (N0 i j : Nat) (r s : DRec) : Bool :=
  disj (keysOf r.upd) (keysOf s.upd) &&
  (match r.vis with
   | some l => disj l (keysOf s.upd)
   | none => Nat.blt j i || ((keysOf s.upd).all (Nat.ble N0 ·) && disj r.loc (keysOf s.upd) && Nat.beq s.base s.next))
def dynOk (M : List Nat) (N0 : Nat) (rs : List DRec) : Bool :=
  rs.zipIdx.all fun (s, j) => (s.upd.isEmpty && Nat.beq s.base s.next) || rs.zipIdx.all fun (r, i) => !(unord M i j) || dynPair N0 i j r s

theorem disj_nil (l : List Nat) : disj l [] = true := by
  unfold disj; simp

theorem pairs_of {ops : Array Oper} {M : List Nat} {N0 : Nat} {rs : List DRec} (hst : statOk ops M = true) (hdy : dynOk M N0 rs = true) (hslot : ∀ (i : Nat) r, rs[i]? = some r → ∃ o v, ops[i]? = some o ∧ r.slot = dstU o v) :
    ∀ (i j : Nat) r s, rs[i]? = some r → rs[j]? = some s → unord M i j = true → pairOk ops N0 i j r s = true := by
  intro i j r s hr hs hu
  obtain ⟨o, v, ho, hrs⟩ := hslot i r hr
  obtain ⟨o', v', ho', hss⟩ := hslot j s hs
  have hil : i < ops.size := (Array.getElem?_eq_some_iff.1 ho).1
  have hjl : j < ops.size := (Array.getElem?_eq_some_iff.1 ho').1
  unfold statOk at hst
  rw [List.all_eq_true] at hst
  have h1 := hst i (by simpa using hil)
  rw [List.all_eq_true] at h1
  have h2 := h1 j (by simpa using hjl)
  rw [hu] at h2
  simp only [Bool.not_true, Bool.false_or, statPair, ho, ho'] at h2
  have h3 : dynPair N0 i j r s = true := by
    unfold dynOk at hdy
    rw [List.all_eq_true] at hdy
    have h4 := hdy (s, j) (by rw [List.mem_zipIdx_iff_getElem?]; simpa using hs)
    simp only [Bool.or_eq_true, Bool.and_eq_true] at h4
    rcases h4 with ⟨h5, h6⟩ | h4
    · have h7 : s.upd = [] := by simpa using h5
      unfold dynPair
      rw [h7]
      simp only [keysOf, List.map_nil, disj_nil, List.all_nil, h6, Bool.and_self, Bool.or_true]
      cases r.vis <;> rfl
    · rw [List.all_eq_true] at h4
      have h5 := h4 (r, i) (by rw [List.mem_zipIdx_iff_getElem?]; simpa using hr)
      simp only [hu, Bool.not_true, Bool.false_or] at h5
      exact h5
  unfold dynPair at h3
  rw [Bool.and_eq_true] at h3
  unfold pairOk
  rw [ho]
  simp only [hrs, hss, h3.1, h3.2, Bool.and_true]
  unfold dstU
  cases hd' : o'.dst with
  | none => simp [keysOf, disj_nil]
  | some d' =>
    rw [hd'] at h2
    simp only [Bool.and_eq_true] at h2
    rw [Bool.and_eq_true]
    constructor
    · cases hd : o.dst with
      | none => simp [keysOf, disj]
      | some d =>
        rw [hd] at h2
        have := h2.1
        simp only [keysOf, List.map_cons, List.map_nil, disj, List.all_cons, List.all_nil, Bool.and_true, Bool.not_eq_true'] at this ⊢
        rw [List.contains_cons]
        simp only [List.contains_nil, Bool.or_false]
        cases hb : d == d' with
        | false => rfl
        | true =>
          have e := eq_of_beq hb
          subst e
          simp at this
    · have := h2.2
      simp only [keysOf, List.map_cons, List.map_nil, disj, List.all_eq_true, Bool.not_eq_true'] at this ⊢
      intro k hk
      rw [List.contains_cons]
      simp only [List.contains_nil, Bool.or_false]
      cases hb : k == d' with
      | false => rfl
      | true =>
        have e := eq_of_beq hb
        subst e
        rw [List.contains_iff_mem.2 hk] at this
        cases this

def slotsOk (n : Nat) (rs : List DRec) : Bool := rs.all fun r => Nat.ble r.base r.next && r.slot.all fun p => Nat.blt p.1 n

def aDraw (P : Program) (call : Caller) (ops : Array Oper) (a : AAct) (σ : ASt) : Option (AAct × ASt) :=
  let M := masksGo ops.toList []
  let N0 := σ.next
  if masksOk M 0 && Nat.ble σ.lock σ.next then
    match dGo P call ops M N0 σ.lock a.gn a.n ops.size [] 0 a.t σ.h (N0 + ops.size) with
    | some (rs, t, h, c) =>
      if statOk ops M && dynOk M N0 rs && slotsOk a.n rs && Nat.ble c bigId then
        match (rs.getLast?).bind (·.fin) with
        | some τ => some ({ a with t := t }, τ)
        | none => some ({ a with t := t }, { h := h, next := c, lock := σ.lock })
      else none
    | none => none
  else none

end
end Go.Abs
