/- Regions whose order Go leaves open: the evaluator goes by the text, and looks whether another order could make a difference. -/
import Derived.Test.YtehcokoigbiciaaGreatDoorAbsE

/-! # AbsDraw -/
namespace Go.Abs
noncomputable section
variable [NodesOf]
set_option linter.unusedSectionVars false
set_option linter.unusedVariables false
set_option linter.unusedSimpArgs false

/-! ### The order that the edges bind -/
def maskOf (get : Nat → Nat) : List Edge → Nat
  | [] => 0
  | e :: es => if Region.binds .any e then (2 ^ e.on ||| get e.on) ||| maskOf get es else maskOf get es

def masksGo : List Oper → List Nat → List Nat
  | [], acc => acc
  | o :: os, acc => masksGo os (acc ++ [maskOf (fun k => acc.getD k 0) o.after.toList])

def ordB (M : List Nat) (j i : Nat) : Bool := (M.getD i 0).testBit j
def unord (M : List Nat) (i j : Nat) : Bool := !(Nat.beq i j) && !(ordB M j i) && !(ordB M i j)

def masksOk : List Nat → Nat → Bool
  | [], _ => true
  | m :: ms, i => Nat.blt m (2 ^ i) && masksOk ms (i + 1)

/-! ### Updates -/
def applyU {α : Type} : List (Nat × Option α) → Tr α → Tr α
  | [], t => t
  | (k, v) :: l, t => applyU l (t.set k v)

def restrictT {α : Type} (t : Tr α) : List Nat → Tr α
  | [] => .nil
  | k :: l => (restrictT t l).set k (t.get k)

def eraseT {α : Type} (t : Tr α) : List Nat → Tr α
  | [] => t
  | k :: l => eraseT (t.set k none) l

mutual
def AV.under (c : Nat) : AV → Bool
  | .p id _ => Nat.blt id c
  | .sl id _ _ _ => Nat.blt id c
  | .mp id => Nat.blt id c
  | .fn _ fi cs => AV.unders c fi && AV.unders c cs
  | .ifc _ a => a.under c
  | .agg l => AV.unders c l
  | .tup l => AV.unders c l
  | .ro l => AV.unders c l
  | .rp a _ => a.under c
  | .sv id _ => Nat.blt id c
  | .pv id _ _ => Nat.blt id c
  | .pd id _ => Nat.blt id c
  | _ => true
def AV.unders (c : Nat) : List AV → Bool
  | [] => true
  | a :: l => a.under c && AV.unders c l
end

def belowObj (c : Nat) : AObj → Bool
  | .cells l _ _ _ => AV.unders c l
  | .iter _ _ => true
  | .map es => es.all fun e => e.1.under c && e.2.under c
  | .iterM (some m) => Nat.blt m c
  | .iterM none => true
  | .vec _ _ _ => true
  | .smap _ _ _ => true
  | .pmap es => es.all fun e => e.2.under c

def belowKeys (c : Nat) (h : Tr AObj) : List Nat → Bool
  | [] => true
  | k :: l => Nat.blt k c && (match h.get k with | some o => belowObj c o | none => true) && belowKeys c h l

def belowTr (c : Nat) (t : Tr AV) : List Nat → Bool
  | [] => true
  | k :: l => (match t.get k with | some v => v.under c | none => true) && belowTr c t l

structure DRec where
  slot : List (Nat × Option AV)
  upd : List (Nat × Option AObj)
  vis : Option (List Nat)
  loc : List Nat
  base : Nat
  next : Nat
  fin : Option ASt := none

inductive Cls where
  | na (vis : List Nat)           -- it makes no memory, and changes none; it reads these blocks
  | wr (w : List Nat)             -- it makes no memory, and may change these blocks
  | sa (w : List Nat)             -- it makes memory; it may change these blocks, and reads no others
  | ca                            -- a call

def idOf : AV → List Nat
  | .p id _ => [id]
  | .sl id _ _ _ => [id]
  | .mp id => [id]
  | .sv id _ => [id]
  | .pv id _ _ => [id]
  | .pd id _ => [id]
  | _ => []

def idsAt (ev : Operand → Option AV) (x : Operand) : List Nat := match ev x with | some a => idOf a | none => []

def clsOf (o : Oper) (ev : Operand → Option AV) : Cls :=
  match o.op with
  | .load _ a => .na (idsAt ev a)
  | .indexAddr _ x _ => .na (idsAt ev x)
  | .store _ a _ => .wr (idsAt ev a)
  | .box .. | .buildSlice .. | .makeSlice .. | .makeMap .. => .sa []
  | .convert _ _ x => .sa (idsAt ev x)
  | .slice _ x _ _ _ => .na (idsAt ev x)
  | .lookup _ m _ _ => .na (idsAt ev m)
  | .mapUpdate _ m _ _ | .insert _ m _ _ => .wr (idsAt ev m)
  | .range _ x => .sa (idsAt ev x)
  | .next it _ => .wr (idsAt ev it)
  | .call c => match c.callee with
    | .builtin .len => .na (c.args.toList.flatMap (idsAt ev))
    | .builtin .append | .builtin .copy | .builtin .clear => .sa (c.args.toList.flatMap (idsAt ev))
    | .builtin .unsafeSliceData => .na (c.args.toList.flatMap (idsAt ev))
    | .builtin .unsafeString => .wr (c.args.toList.flatMap (idsAt ev))
    | .builtin _ => .na []
    | _ => .ca
  | _ => .na []

def bigId : Nat := 2 ^ 64

def dstU (o : Oper) (v : Option AV) : List (Nat × Option AV) := match o.dst with | some d => [(d, v)] | none => []

/-- The new blocks, by number. -/
def freshU (τ : ASt) : Nat → Nat → List (Nat × Option AObj)
  | _, 0 => []
  | c, n + 1 => (c, match τ.get c with | some o => if o.own then some o else none | none => none) :: freshU τ (c + 1) n

def keysOf {α : Type} (l : List (Nat × Option α)) : List Nat := l.map (·.1)

def prevKeys (M : List Nat) (i : Nat) : List DRec → Nat → List Nat
  | [], _ => []
  | r :: rs, j => if unord M i j then keysOf r.upd ++ prevKeys M i rs (j + 1) else prevKeys M i rs (j + 1)

def locKeys (M : List Nat) (i : Nat) : List DRec → Nat → List Nat
  | [], _ => []
  | r :: rs, j => if unord M i j then locKeys M i rs (j + 1) else keysOf r.upd ++ locKeys M i rs (j + 1)

/-- The blocks of a list that may be changed. -/
def ownKeys (h : Tr AObj) (lock : Nat) (l : List Nat) : List Nat := l.filter fun k => Nat.ble lock k && (match h.get k with | some o => o.own | none => false)

mutual
/-- The blocks that a value names. -/
def avIds : AV → List Nat
  | .p id _ | .sl id _ _ _ | .mp id | .sv id _ | .pv id _ _ | .pd id _ => [id]
  | .fn _ fs cs => avIdsL fs ++ avIdsL cs
  | .ifc _ v => avIds v
  | .agg l => avIdsL l
  | .tup l => avIdsL l
  | _ => []
def avIdsL : List AV → List Nat
  | [] => []
  | a :: l => avIds a ++ avIdsL l
end
def objIds : AObj → List Nat
  | .cells l _ _ _ => avIdsL l
  | .map es => es.flatMap fun e => avIds e.1 ++ avIds e.2
  | .pmap es => es.flatMap fun e => avIds e.2
  | .iterM (some m) => [m]
  | _ => []
/-- The blocks that are reached from these. -/
def reachGo (h : Tr AObj) : Nat → List Nat → List Nat → List Nat
  | 0, _, seen => seen
  | _ + 1, [], seen => seen
  | f + 1, k :: todo, seen => bif seen.contains k then reachGo h f todo seen else reachGo h f ((match h.get k with | some o => objIds o | none => []) ++ todo) (k :: seen)
def reachOf (o : Oper) (ev : Operand → Option AV) (h : Tr AObj) : List Nat :=
  reachGo h 1000 (o.op.operands.toList.flatMap fun x => match ev x with | some v => avIds v | none => []) []

/-- Does an operation that surely makes memory stand behind this one in the text, its order open? -/
def mkOp (ops : Array Oper) (j : Nat) : Bool := match ops[j]? with
  | some o => match o.op with
    | .buildSlice .. | .makeSlice .. | .makeMap .. => true
    | _ => false
  | none => false
def lateMk (ops : Array Oper) (M : List Nat) (i : Nat) : Bool := (List.range ops.size).any fun j => Nat.blt i j && mkOp ops j && unord M i j

def unlessB {α : Type} (b : Bool) (x : Unit → Option α) : Option α := bif b then none else x ()
theorem unlessB_some {α : Type} {b : Bool} {x : Unit → Option α} {y : α} (h : unlessB b x = some y) : x () = some y := by
  cases b with
  | true => cases h
  | false => exact h

def dOne0 (P : Program) (call : Caller) (ops : Array Oper) (M : List Nat) (N0 lock gn n : Nat) (prev : List DRec) (i : Nat) (t : Tr AV) (h : Tr AObj) (c : Nat) : Option DRec :=
  match ops[i]? with
  | none => none
  | some o =>
    let a : AAct := { t := restrictT t (o.looksAt ops), n := n, gn := gn }
    match wantedA o ops a with
    | none => none
    | some false => some { slot := dstU o (some (.tup [])), upd := [], vis := some [], loc := [], base := c, next := c }
    | some true =>
      match o.op with
      | .alloc ty => match zeroCellsOf P ty with
        | some z => some { slot := dstU o (some (.p (N0 + i) 0)), upd := [(N0 + i, some (.cells z ty true false))], vis := some [], loc := [], base := c, next := c }
        | none => none
      | _ =>
        match clsOf o a.eval with
        | .na l =>
          match fOp P call o a.eval { h := restrictT h l, next := bigId, lock := bigId } with
          | some (v, τ) => if Nat.beq τ.next bigId then some { slot := dstU o v, upd := [], vis := some l, loc := [], base := c, next := c } else none
          | none => none
        | .wr l =>
          match fOp P call o a.eval { h := restrictT h l, next := bigId, lock := lock } with
          | some (v, τ) => if Nat.beq τ.next bigId then some { slot := dstU o v, upd := (ownKeys h lock l).map fun k => (k, τ.get k), vis := some l, loc := [], base := c, next := c } else none
          | none => none
        | .sa l =>
          if belowTr c t (o.looksAt ops) && belowKeys c h l then
            match fOp P call o a.eval { h := restrictT h l, next := c, lock := lock } with
            | some (v, τ) => some { slot := dstU o v, upd := ((ownKeys h lock l).map fun k => (k, τ.get k)) ++ freshU τ c (τ.next - c), vis := some l, loc := [], base := c, next := τ.next }
            | none => none
          else none
        | .ca =>
          match unlessB (lateMk ops M i) (fun _ => fOp P call o a.eval { h := eraseT h (prevKeys M i prev 0), next := c, lock := c }) with
          | some (v, τ) => some { slot := dstU o v, upd := freshU τ c (τ.next - c), vis := none, loc := locKeys M i prev 0, base := c, next := τ.next }
          | none =>
            -- it changes blocks: those that it reaches
            if belowTr c t (o.looksAt ops) && belowKeys c h (reachOf o a.eval h) then
              match fOp P call o a.eval { h := restrictT h (reachOf o a.eval h), next := c, lock := lock } with
              | some (v, τ) => some { slot := dstU o v, upd := ((ownKeys h lock (reachOf o a.eval h)).map fun k => (k, τ.get k)) ++ freshU τ c (τ.next - c), vis := some (reachOf o a.eval h), loc := [], base := c, next := τ.next }
              | none => none
            else none

/-- An operation that looks at no memory, and makes none, whatever stands. -/
def freeOp (o : Oper) : Bool := match o.op with
  | .move _ | .assign _ | .binOp .. | .extract .. => true
  | _ => false
def freeAt (ops : Array Oper) (i : Nat) : Bool := match ops[i]? with | some o => freeOp o | none => false

/-- From which operation on does each, but for the free ones, stand behind all ahead of it? -/
def tailGo (ops : Array Oper) (M : List Nat) : Nat → Nat
  | 0 => 0
  | k + 1 => if (freeAt ops k || (List.range k).all fun j => freeAt ops j || ordB M j k) = true then tailGo ops M k else k + 1
def lastAll (ops : Array Oper) (M : List Nat) (i : Nat) : Bool := Nat.ble (tailGo ops M ops.size) i && !(freeAt ops i)

/-- The state ahead of such an operation. -/
def tailSt : List DRec → ASt → ASt
  | [], σ => σ
  | r :: rs, σ => tailSt rs (match r.fin with | some τ => τ | none => σ)

/-- Such an operation sees the whole state. -/
def dLast (P : Program) (call : Caller) (ops : Array Oper) (lock gn n : Nat) (prev : List DRec) (i : Nat) (t : Tr AV) (h : Tr AObj) (c : Nat) : Option DRec :=
  match ops[i]? with
  | none => none
  | some o =>
    match wantedA o ops { t := restrictT t (o.looksAt ops), n := n, gn := gn } with
    | none => none
    | some false => some { slot := dstU o (some (.tup [])), upd := [], vis := some [], loc := [], base := c, next := c, fin := some (tailSt prev { h := h, next := c, lock := lock }) }
    | some true => match fOp P call o (AAct.eval { t := restrictT t (o.looksAt ops), n := n, gn := gn }) (tailSt prev { h := h, next := c, lock := lock }) with
      | some (v, τ) => some { slot := dstU o v, upd := [], vis := some [], loc := [], base := c, next := c, fin := some τ }
      | none => none

def dOne (P : Program) (call : Caller) (ops : Array Oper) (M : List Nat) (N0 lock gn n : Nat) (prev : List DRec) (i : Nat) (t : Tr AV) (h : Tr AObj) (c : Nat) : Option DRec :=
  if lastAll ops M i = true then dLast P call ops lock gn n prev i t h c else dOne0 P call ops M N0 lock gn n prev i t h c

def dGo (P : Program) (call : Caller) (ops : Array Oper) (M : List Nat) (N0 lock gn n : Nat) : Nat → List DRec → Nat → Tr AV → Tr AObj → Nat → Option (List DRec × Tr AV × Tr AObj × Nat)
  | 0, prev, _, t, h, c => some (prev, t, h, c)
  | m + 1, prev, i, t, h, c =>
    match dOne P call ops M N0 lock gn n prev i t h c with
    | none => none
    | some r => dGo P call ops M N0 lock gn n m (prev ++ [r]) (i + 1) (applyU r.slot t) (applyU r.upd h) r.next

def disj (l m : List Nat) : Bool := l.all fun k => !(m.contains k)

/-- May two operations whose order is open stand in either order? -/
def pairOk (ops : Array Oper) (N0 : Nat) (i j : Nat) (r s : DRec) : Bool :=
  let keys := keysOf s.upd
  disj (keysOf r.slot) (keysOf s.slot) &&
  (match ops[i]? with | some o => disj (o.looksAt ops) (keysOf s.slot) | none => false) &&
  disj (keysOf r.upd) keys &&
  (match r.vis with
   | some l => disj l keys
   | none => Nat.blt j i || (keys.all (Nat.ble N0 ·) && disj r.loc keys && Nat.beq s.base s.next))

/-- What the text alone tells of two operations: their slots. -/
def statPair (ops : Array Oper) (i j : Nat) : Bool :=
  match ops[i]?, ops[j]? with
  | some o, some o' =>
    match o'.dst with
    | none => true
    | some d' => (match o.dst with | some d => !(Nat.beq d d') | none => true) && !((o.looksAt ops).contains d')
  | _, _ => false
def statOk (ops : Array Oper) (M : List Nat) : Bool :=
  (List.range ops.size).all fun i => (List.range ops.size).all fun j => !(unord M i j) || statPair ops i j

/-- What their blocks tell. -/
def dynPair (N0 i j : Nat) (r s : DRec) : Bool :=
  disj (keysOf r.upd) (keysOf s.upd) &&
  (match r.vis with
   | some l => disj l (keysOf s.upd)
   | none => Nat.blt j i || ((keysOf s.upd).all (Nat.ble N0 ·) && disj r.loc (keysOf s.upd) && Nat.beq s.base s.next))
def dynOk (M : List Nat) (N0 : Nat) (rs : List DRec) : Bool :=
  rs.zipIdx.all fun (s, j) => (s.upd.isEmpty && Nat.beq s.base s.next) || rs.zipIdx.all fun (r, i) => !(unord M i j) || dynPair N0 i j r s

theorem disj_nil (l : List Nat) : disj l [] = true := by
  unfold disj; simp

theorem pairs_of {ops : Array Oper} {M : List Nat} {N0 : Nat} {rs : List DRec} (hst : statOk ops M = true) (hdy : dynOk M N0 rs = true) (hslot : ∀ (i : Nat) r, rs[i]? = some r → ∃ o v, ops[i]? = some o ∧ r.slot = dstU o v) :
    ∀ (i j : Nat) r s, rs[i]? = some r → rs[j]? = some s → unord M i j = true → pairOk ops N0 i j r s = true := by
  intro i j r s hr hs hu
  obtain ⟨o, v, ho, hrs⟩ := hslot i r hr
  obtain ⟨o', v', ho', hss⟩ := hslot j s hs
  have hil : i < ops.size := (Array.getElem?_eq_some_iff.1 ho).1
  have hjl : j < ops.size := (Array.getElem?_eq_some_iff.1 ho').1
  unfold statOk at hst
  rw [List.all_eq_true] at hst
  have h1 := hst i (by simpa using hil)
  rw [List.all_eq_true] at h1
  have h2 := h1 j (by simpa using hjl)
  rw [hu] at h2
  simp only [Bool.not_true, Bool.false_or, statPair, ho, ho'] at h2
  have h3 : dynPair N0 i j r s = true := by
    unfold dynOk at hdy
    rw [List.all_eq_true] at hdy
    have h4 := hdy (s, j) (by rw [List.mem_zipIdx_iff_getElem?]; simpa using hs)
    simp only [Bool.or_eq_true, Bool.and_eq_true] at h4
    rcases h4 with ⟨h5, h6⟩ | h4
    · have h7 : s.upd = [] := by simpa using h5
      unfold dynPair
      rw [h7]
      simp only [keysOf, List.map_nil, disj_nil, List.all_nil, h6, Bool.and_self, Bool.or_true]
      cases r.vis <;> rfl
    · rw [List.all_eq_true] at h4
      have h5 := h4 (r, i) (by rw [List.mem_zipIdx_iff_getElem?]; simpa using hr)
      simp only [hu, Bool.not_true, Bool.false_or] at h5
      exact h5
  unfold dynPair at h3
  rw [Bool.and_eq_true] at h3
  unfold pairOk
  rw [ho]
  simp only [hrs, hss, h3.1, h3.2, Bool.and_true]
  unfold dstU
  cases hd' : o'.dst with
  | none => simp [keysOf, disj_nil]
  | some d' =>
    rw [hd'] at h2
    simp only [Bool.and_eq_true] at h2
    rw [Bool.and_eq_true]
    constructor
    · cases hd : o.dst with
      | none => simp [keysOf, disj]
      | some d =>
        rw [hd] at h2
        have := h2.1
        simp only [keysOf, List.map_cons, List.map_nil, disj, List.all_cons, List.all_nil, Bool.and_true, Bool.not_eq_true'] at this ⊢
        rw [List.contains_cons]
        simp only [List.contains_nil, Bool.or_false]
        cases hb : d == d' with
        | false => rfl
        | true =>
          have e := eq_of_beq hb
          subst e
          simp at this
    · have := h2.2
      simp only [keysOf, List.map_cons, List.map_nil, disj, List.all_eq_true, Bool.not_eq_true'] at this ⊢
      intro k hk
      rw [List.contains_cons]
      simp only [List.contains_nil, Bool.or_false]
      cases hb : k == d' with
      | false => rfl
      | true =>
        have e := eq_of_beq hb
        subst e
        rw [List.contains_iff_mem.2 hk] at this
        cases this

def slotsOk (n : Nat) (rs : List DRec) : Bool := rs.all fun r => Nat.ble r.base r.next && r.slot.all fun p => Nat.blt p.1 n

def aDraw0 (P : Program) (call : Caller) (ops : Array Oper) (a : AAct) (σ : ASt) : Option (AAct × ASt) :=
  let M := masksGo ops.toList []
  let N0 := σ.next
  if masksOk M 0 && Nat.ble σ.lock σ.next then
    match dGo P call ops M N0 σ.lock a.gn a.n ops.size [] 0 a.t σ.h (N0 + ops.size) with
    | some (rs, t, h, c) =>
      if statOk ops M && dynOk M N0 rs && slotsOk a.n rs && Nat.ble c bigId then
        some ({ a with t := t }, tailSt rs { h := h, next := c, lock := σ.lock })
      else none
    | none => none
  else none

/-! ### A literal of a map: its entries may be put in any order -/
def litFree (o : Oper) : Bool := match o.op with
  | .move _ | .assign _ | .nilCheck _ | .fieldAddr .. => true
  | _ => false
def litKey (P : Program) (t : TypeId) : Bool := match P.underlying t with
  | some (.map kt _) => match P.underlying kt with
    | some .string => true
    | _ => false
  | _ => false
def litRec (c : Nat) (slot : List (Nat × Option AV)) : DRec := { slot := slot, upd := [], vis := some [], loc := [], base := c, next := c }
def litOne (P : Program) (call : Caller) (ops : Array Oper) (M : List Nat) (N0 gn n i : Nat) (t : Tr AV) : Option (DRec × Option (List UInt8 × AV)) :=
  match ops[i]? with
  | none => none
  | some o =>
    match o.guard with
    | some _ => none
    | none =>
      if Nat.beq i 0 = true then match o.op with
        | .makeMap _ none => some (litRec (N0 + 1) (dstU o (some (.mp N0))), none)
        | _ => none
      else match o.op with
        | .insert ty m k v => match AAct.eval { t := restrictT t (o.looksAt ops), n := n, gn := gn } m, AAct.eval { t := restrictT t (o.looksAt ops), n := n, gn := gn } k, AAct.eval { t := restrictT t (o.looksAt ops), n := n, gn := gn } v with
          | some (.mp id), some (.s s), some u => if (Nat.beq id N0 && litKey P ty && ordB M 0 i) = true then some (litRec (N0 + 1) (dstU o none), some (s, u)) else none
          | _, _, _ => none
        | _ => if litFree o = true then match fOp P call o (AAct.eval { t := restrictT t (o.looksAt ops), n := n, gn := gn }) { h := .nil, next := N0, lock := N0 } with
            | some (v, _) => some (litRec (N0 + 1) (dstU o v), none)
            | none => none
          else none
def litGo (P : Program) (call : Caller) (ops : Array Oper) (M : List Nat) (N0 gn n : Nat) : Nat → Nat → Tr AV → Option (List (DRec × Option (List UInt8 × AV)) × Tr AV)
  | 0, _, t => some ([], t)
  | m + 1, i, t => match litOne P call ops M N0 gn n i t with
    | none => none
    | some r => match litGo P call ops M N0 gn n m (i + 1) (applyU r.1.slot t) with
      | none => none
      | some (l, t') => some (r :: l, t')
def entsD : List (Option (List UInt8 × AV)) → Nat → (Nat → Bool) → List (List UInt8 × AV)
  | [], _, _ => []
  | none :: l, k, D => entsD l (k + 1) D
  | some e :: l, k, D => if D k = true then e :: entsD l (k + 1) D else entsD l (k + 1) D
def nodupS : List (List UInt8) → Bool
  | [] => true
  | s :: l => !(l.any fun x => x == s) && nodupS l
def isLit (ops : Array Oper) : Bool := match ops[0]? with
  | some o => match o.op with
    | .makeMap _ none => true
    | _ => false
  | none => false
def litDraw (P : Program) (call : Caller) (ops : Array Oper) (a : AAct) (σ : ASt) : Option (AAct × ASt) :=
  if isLit ops = true then
    let M := masksGo ops.toList []
    if (masksOk M 0 && Nat.ble σ.lock σ.next) = true then
      match litGo P call ops M σ.next a.gn a.n ops.size 0 a.t with
      | some (l, t) =>
        if (statOk ops M && slotsOk a.n (l.map (·.1)) && nodupS ((l.filterMap (·.2)).map (·.1))) = true then
          some ({ a with t := t }, σ.new (.pmap (l.filterMap (·.2))))
        else none
      | none => none
    else none
  else none
def aDraw (P : Program) (call : Caller) (ops : Array Oper) (a : AAct) (σ : ASt) : Option (AAct × ASt) :=
  match litDraw P call ops a σ with
  | some r => some r
  | none => aDraw0 P call ops a σ

end
end Go.Abs

/-! # AbsDrawOk -/
namespace Go.Abs
noncomputable section
variable [TabsOf]
set_option linter.unusedSectionVars false
set_option linter.unusedVariables false
set_option linter.unusedSimpArgs false

theorem natBeq {a b : Nat} (h : a ≠ b) : Nat.beq a b = false := by
  cases e : Nat.beq a b with
  | false => rfl
  | true => exact absurd (Nat.eq_of_beq_eq_true e) h

section
variable {α : Type}
def lookU : List (Nat × Option α) → Nat → Option (Option α)
  | [], _ => none
  | (k, v) :: l, b => match lookU l b with
    | some x => some x
    | none => if b = k then some v else none

theorem get_applyU : ∀ (l : List (Nat × Option α)) (t : Tr α) (b : Nat), (applyU l t).get b = (lookU l b).getD (t.get b)
  | [], t, b => rfl
  | (k, v) :: l, t, b => by
    rw [applyU, get_applyU l, lookU]
    cases lookU l b with
    | some x => rfl
    | none =>
      simp only [Option.getD_none, Tr.get_set]
      split <;> rfl

theorem lookU_mem : ∀ (l : List (Nat × Option α)) (b : Nat), lookU l b ≠ none ↔ b ∈ keysOf l
  | [], b => by simp [lookU, keysOf]
  | (k, v) :: l, b => by
    have ih := lookU_mem l b
    simp only [keysOf, List.map_cons, List.mem_cons] at ih ⊢
    rw [lookU]
    cases h : lookU l b with
    | some x => rw [h] at ih; simp only [ne_eq, reduceCtorEq, not_false_eq_true, true_iff] at ih; simp [ih]
    | none =>
      rw [h] at ih
      simp only [ne_eq, not_true_eq_false, false_iff] at ih
      simp only [ih, or_false]
      split <;> simp_all

theorem lookU_none {l : List (Nat × Option α)} {b : Nat} (h : b ∉ keysOf l) : lookU l b = none := by
  cases h' : lookU l b with
  | none => rfl
  | some x => exact absurd ((lookU_mem l b).1 (by rw [h']; simp)) h

def lastU : List (List (Nat × Option α)) → Nat → (Nat → Bool) → Nat → Option (Option α)
  | [], _, _, _ => none
  | u :: us, k, D, b => match lastU us (k + 1) D b with
    | some x => some x
    | none => if D k = true then lookU u b else none

def foldD : List (List (Nat × Option α)) → Nat → (Nat → Bool) → Tr α → Tr α
  | [], _, _, t => t
  | u :: us, k, D, t => foldD us (k + 1) D (if D k = true then applyU u t else t)

theorem get_foldD : ∀ (us : List (List (Nat × Option α))) (k : Nat) (D : Nat → Bool) (t : Tr α) (b : Nat), (foldD us k D t).get b = (lastU us k D b).getD (t.get b)
  | [], _, _, _, _ => rfl
  | u :: us, k, D, t, b => by
    rw [foldD, get_foldD us, lastU]
    cases lastU us (k + 1) D b with
    | some x => rfl
    | none =>
      simp only [Option.getD_none]
      split
      · rw [get_applyU]
      · rfl

def applyAll : List (List (Nat × Option α)) → Tr α → Tr α
  | [], t => t
  | u :: us, t => applyAll us (applyU u t)

theorem lastU_agree : ∀ (us : List (List (Nat × Option α))) (k : Nat) (D E : Nat → Bool) (b : Nat), (∀ (j : Nat) u, us[j]? = some u → D (k + j) ≠ E (k + j) → lookU u b = none) → lastU us k D b = lastU us k E b
  | [], _, _, _, _, _ => rfl
  | u :: us, k, D, E, b, h => by
    have ih := lastU_agree us (k + 1) D E b (fun j v hj hne => h (j + 1) v (by simpa using hj) (by rw [show k + (j + 1) = k + 1 + j by omega]; exact hne))
    have h0 := h 0 u (by simp)
    rw [lastU, lastU, ih]
    cases lastU us (k + 1) E b with
    | some x => rfl
    | none =>
      simp only [Nat.add_zero] at h0
      by_cases e : D k = E k
      · rw [e]
      · rw [h0 e]; simp

theorem lastU_empty (us : List (List (Nat × Option α))) (k : Nat) (D : Nat → Bool) (b : Nat) (h : ∀ j, j < us.length → D (k + j) = false) : lastU us k D b = none := by
  induction us generalizing k with
  | nil => rfl
  | cons u us ih =>
    rw [lastU, ih (k + 1) (fun j hj => by rw [show k + 1 + j = k + (j + 1) by omega]; exact h (j + 1) (by simpa using hj))]
    have := h 0 (by simp)
    simp only [Nat.add_zero] at this
    simp [this]

theorem lastU_some : ∀ (us : List (List (Nat × Option α))) (k : Nat) (D : Nat → Bool) (b : Nat) (x : Option α), lastU us k D b = some x → ∃ (j : Nat) (u : List (Nat × Option α)), us[j]? = some u ∧ D (k + j) = true ∧ lookU u b = some x
  | [], _, _, _, _, h => by simp [lastU] at h
  | u :: us, k, D, b, x, h => by
    rw [lastU] at h
    split at h
    · next y hy =>
      cases h
      obtain ⟨j, v, h1, h2, h3⟩ := lastU_some us (k + 1) D b _ hy
      exact ⟨j + 1, v, by simpa using h1, by rw [show k + (j + 1) = k + 1 + j by omega]; exact h2, h3⟩
    · split at h
      · next hd => exact ⟨0, u, by simp, by simpa using hd, h⟩
      · cases h

theorem get_applyAll : ∀ (us : List (List (Nat × Option α))) (i k : Nat) (t : Tr α) (b : Nat), (applyAll (us.take i) t).get b = (lastU us k (fun j => decide (j < k + i)) b).getD (t.get b)
  | [], i, k, t, b => by simp [applyAll, lastU]
  | u :: us, 0, k, t, b => by
    rw [lastU_empty _ _ _ _ (fun j _ => by simp)]; rfl
  | u :: us, i + 1, k, t, b => by
    have ih := get_applyAll us i (k + 1) (applyU u t) b
    simp only [List.take_succ_cons, applyAll]
    rw [ih, lastU]
    have : (fun j => decide (j < k + 1 + i)) = fun j => decide (j < k + (i + 1)) := by funext j; congr 1; apply propext; omega
    rw [this]
    cases lastU us (k + 1) (fun j => decide (j < k + (i + 1))) b with
    | some x => rfl
    | none =>
      simp only [Option.getD_none]
      rw [if_pos (by simp), get_applyU]

theorem lastU_add : ∀ (us : List (List (Nat × Option α))) (k i : Nat) (D : Nat → Bool) (b : Nat) (u : List (Nat × Option α)), us[i]? = some u → D (k + i) = false →
    (∀ (j : Nat) v, us[j]? = some v → i < j → D (k + j) = true → lookU u b ≠ none → lookU v b = none) →
    lastU us k (fun j => D j || Nat.beq j (k + i)) b = match lookU u b with | some x => some x | none => lastU us k D b
  | [], _, _, _, _, _, h, _, _ => by simp at h
  | v :: us, k, 0, D, b, u, h, hD, hdis => by
    simp at h; subst h
    have tail : lastU us (k + 1) (fun j => D j || Nat.beq j (k + 0)) b = lastU us (k + 1) D b := by
      refine lastU_agree _ _ _ _ _ fun j w hj hne => ?_
      exfalso; apply hne
      have : Nat.beq (k + 1 + j) (k + 0) = false := natBeq (by omega)
      simp only [this, Bool.or_false]
    simp only [lastU, tail]
    simp only [Nat.add_zero] at hD ⊢
    have hb : Nat.beq k k = true := by simp
    cases hl : lookU v b with
    | none => simp [hb, hD, hl]
    | some x =>
      have : lastU us (k + 1) D b = none := by
        cases ht : lastU us (k + 1) D b with
        | none => rfl
        | some y =>
          obtain ⟨j, w, h1, h2, h3⟩ := lastU_some _ _ _ _ _ ht
          have := hdis (j + 1) w (by simpa using h1) (by omega) (by rw [show k + (j + 1) = k + 1 + j by omega]; exact h2) (by rw [hl]; simp)
          rw [this] at h3; cases h3
      simp [this, hb, hl]
  | v :: us, k, i + 1, D, b, u, h, hD, hdis => by
    have ih := lastU_add us (k + 1) i D b u (by simpa using h) (by rw [show k + 1 + i = k + (i + 1) by omega]; exact hD) (fun j w hj hij hDj => hdis (j + 1) w (by simpa using hj) (by omega) (by rw [show k + (j + 1) = k + 1 + j by omega]; exact hDj))
    have e : (fun j => D j || Nat.beq j (k + 1 + i)) = fun j => D j || Nat.beq j (k + (i + 1)) := by funext j; congr 2; omega
    rw [e] at ih
    simp only [lastU, ih]
    have hk : Nat.beq k (k + (i + 1)) = false := natBeq (by omega)
    cases hl : lookU u b with
    | some x => simp
    | none => simp [hk]

theorem get_restrictT (t : Tr α) : ∀ (l : List Nat) (b : Nat), (restrictT t l).get b = if b ∈ l then t.get b else none
  | [], b => by simp [restrictT]
  | k :: l, b => by
    rw [restrictT, Tr.get_set, get_restrictT t l]
    by_cases e : b = k
    · subst e; simp
    · simp [e]

theorem get_eraseT : ∀ (l : List Nat) (t : Tr α) (b : Nat), (eraseT t l).get b = if b ∈ l then none else t.get b
  | [], t, b => by simp [eraseT]
  | k :: l, t, b => by
    rw [eraseT, get_eraseT l, Tr.get_set]
    by_cases e : b = k
    · subst e; simp
    · simp [e]
end

/-! ### The masks -/
theorem maskOf_bit {get : Nat → Nat} {j : Nat} : ∀ {es : List Edge}, (maskOf get es).testBit j = true → ∃ e ∈ es, Region.binds .any e = true ∧ (j = e.on ∨ (get e.on).testBit j = true)
  | [], h => by simp [maskOf] at h
  | e :: es, h => by
    rw [maskOf] at h
    split at h
    · next hb =>
      rw [Nat.testBit_or, Nat.testBit_or, Bool.or_eq_true, Bool.or_eq_true, Nat.testBit_two_pow] at h
      rcases h with (h | h) | h
      · exact ⟨e, by simp, hb, .inl (of_decide_eq_true h).symm⟩
      · exact ⟨e, by simp, hb, .inr h⟩
      · obtain ⟨e', h1, h2, h3⟩ := maskOf_bit h
        exact ⟨e', by simp [h1], h2, h3⟩
    · obtain ⟨e', h1, h2, h3⟩ := maskOf_bit h
      exact ⟨e', by simp [h1], h2, h3⟩

theorem masksGo_spec : ∀ (os : List Oper) (acc : List Nat), (masksGo os acc).length = acc.length + os.length ∧ (∀ k, k < acc.length → (masksGo os acc)[k]? = acc[k]?) ∧
    ∀ (k : Nat) o, os[k]? = some o → (masksGo os acc)[acc.length + k]? = some (maskOf (fun j => ((masksGo os acc).take (acc.length + k)).getD j 0) o.after.toList)
  | [], acc => by simp [masksGo]
  | o :: os, acc => by
    obtain ⟨h1, h2, h3⟩ := masksGo_spec os (acc ++ [maskOf (fun k => acc.getD k 0) o.after.toList])
    rw [masksGo]
    simp only [List.length_append, List.length_cons, List.length_nil] at h1 h2 h3
    refine ⟨by simp only [List.length_cons]; omega, fun k hk => ?_, fun k o' ho => ?_⟩
    · rw [h2 k (by omega), List.getElem?_append_left hk]
    · cases k with
      | zero =>
        simp at ho; subst ho
        rw [Nat.add_zero, h2 acc.length (by omega), List.getElem?_append_right (Nat.le_refl _)]
        simp only [Nat.sub_self, List.getElem?_cons_zero]
        congr 2
        funext j
        by_cases hj : j < acc.length
        · rw [List.getD_eq_getElem?_getD, List.getD_eq_getElem?_getD, List.getElem?_take, if_pos hj, h2 j (by omega), List.getElem?_append_left hj]
        · rw [List.getD_eq_getElem?_getD, List.getD_eq_getElem?_getD, List.getElem?_take, if_neg hj, List.getElem?_eq_none (by omega)]
      | succ k =>
        have := h3 k o' (by simpa using ho)
        rw [show acc.length + 1 + k = acc.length + (k + 1) by omega] at this
        exact this

theorem masksOk_lt : ∀ (M : List Nat) (k : Nat), masksOk M k = true → ∀ (j m : Nat), M[j]? = some m → m < 2 ^ (k + j)
  | [], _, _, j, m, h => by simp at h
  | x :: M, k, h, j, m, hj => by
    simp only [masksOk, Bool.and_eq_true] at h
    cases j with
    | zero => simp at hj; subst hj; have h' := h.1; rw [Nat.blt_eq] at h'; simpa using h'
    | succ j =>
      have := masksOk_lt M (k + 1) h.2 j m (by simpa using hj)
      rw [show k + (j + 1) = k + 1 + j by omega]; exact this

end
end Go.Abs

/-! # AbsDrawOk2 -/
namespace Go.Abs
noncomputable section
variable [TabsOf]
set_option linter.unusedSectionVars false
set_option linter.unusedVariables false
set_option linter.unusedSimpArgs false
variable {P : Program}

/-- An operation of any kind, from its evaluation. -/
theorem aOp_wp {η : Env} {τ τ' : ASt} {w : World} (h : SR P η τ w) {call : Caller} (hcall : CallOk P call) {o : Oper} {a : AAct} {A : Act} (ht : TR P η a A) {r : Option AV} {K : Act → World → Prop} {Q : Exit → Act → World → Prop}
    (hs : aOp P call o a.eval τ = some (r, τ')) (hK : ∀ x η' w', St P η τ w η' τ' w' → (∀ v, r = some v → VR η' v x) → K (A.put o.dst x) w') : o.wp P A w K Q := by
  cases hc : isCall o.op with
  | true =>
    refine call_step h hcall ht hc hs fun v x η' w' hr hst hv => hK x η' w' hst fun u hu => by rw [hr] at hu; cases hu; exact hv
  | false =>
    obtain ⟨nx, w', η', hrun, hst, hres⟩ := op_ok h (fun x v hv => eval_ok h ht x v hv) hc hs
    unfold Oper.wp
    rw [hrun]
    cases r with
    | none => subst hres; exact hK undef η' w' hst (by simp)
    | some v =>
      obtain ⟨x, rfl, hv⟩ := hres
      exact hK x η' w' hst (fun u hu => by cases hu; exact hv)

def Env.cut (η : Env) (c : Nat) : Env := ⟨fun id => if id < c then η id else none, η.ro, fun id => decide (id < c) && η.gh id⟩

theorem Env.cut_le (η : Env) (c : Nat) : (η.cut c).le η := ⟨fun id q h => (by
  simp only [Env.cut] at h; split at h
  · exact h
  · cases h), fun _ _ h => h, fun _ h => (Bool.and_eq_true _ _ ▸ h : _ ∧ _).2⟩
theorem Env.cut_gh {η : Env} {c id : Nat} (h : id < c) (hg : η.gh id = true) : (η.cut c).gh id = true := by simp [Env.cut, h, hg]

mutual
theorem VR.cut {η : Env} {c : Nat} : ∀ (a : AV) (v : Value), a.under c = true → VR η a v → VR (η.cut c) a v
  | .b _, _, _, hv => by simpa only [VR] using hv
  | .i _ _, _, _, hv => by simpa only [VR] using hv
  | .s _, _, _, hv => by simpa only [VR] using hv
  | .nilp, _, _, hv => by simpa only [VR] using hv
  | .p id _, _, hu, hv => by
    simp only [VR] at hv ⊢; obtain ⟨q, hq, e⟩ := hv
    simp only [AV.under, Nat.blt_eq] at hu
    exact ⟨q, by simp only [Env.cut]; rw [if_pos hu]; exact hq, e⟩
  | .nils, _, _, hv => by simpa only [VR] using hv
  | .sl id _ _ _, _, hu, hv => by
    simp only [VR] at hv ⊢; obtain ⟨q, hq, e⟩ := hv
    simp only [AV.under, Nat.blt_eq] at hu
    exact ⟨q, by simp only [Env.cut]; rw [if_pos hu]; exact hq, e⟩
  | .nilm, _, _, hv => by simpa only [VR] using hv
  | .mp id, _, hu, hv => by
    simp only [VR] at hv ⊢; obtain ⟨q, hq, e⟩ := hv
    simp only [AV.under, Nat.blt_eq] at hu
    exact ⟨q, by simp only [Env.cut]; rw [if_pos hu]; exact hq, e⟩
  | .nilf, _, _, hv => by simpa only [VR] using hv
  | .fn _ fi cs, _, hu, hv => by
    simp only [VR] at hv ⊢
    simp only [AV.under, Bool.and_eq_true] at hu
    obtain ⟨us, vs, e, h1, h2⟩ := hv
    exact ⟨us, vs, e, VRs.cut fi us hu.1 h1, VRs.cut cs vs hu.2 h2⟩
  | .nili, _, _, hv => by simpa only [VR] using hv
  | .ifc _ a, _, hu, hv => by simp only [VR] at hv ⊢; simp only [AV.under] at hu; obtain ⟨x, e, h1⟩ := hv; exact ⟨x, e, VR.cut a x hu h1⟩
  | .agg l, _, hu, hv => by simp only [VR] at hv ⊢; simp only [AV.under] at hu; obtain ⟨x, e, h1⟩ := hv; exact ⟨x, e, VRs.cut l x hu h1⟩
  | .tup l, _, hu, hv => by simp only [VR] at hv ⊢; simp only [AV.under] at hu; obtain ⟨x, e, h1⟩ := hv; exact ⟨x, e, VRs.cut l x hu h1⟩
  | .z _ _ _, _, _, hv => by simpa only [VR] using hv
  | .ro l, _, hu, hv => by
    simp only [VR] at hv ⊢
    simp only [AV.under] at hu
    rcases hv with hv | ⟨bl, off, cp, xs, sz, e, hc, h1, h2, h3⟩
    · exact .inl hv
    right
    exact ⟨bl, off, cp, xs, sz, e, hc, VRs.cut l xs hu h1, h2, h3⟩
  | .rp a _, _, hu, hv => by
    simp only [VR] at hv ⊢
    simp only [AV.under] at hu
    obtain ⟨bl, base, cs, elem, fr, x, h1, h2, h3⟩ := hv
    exact ⟨bl, base, cs, elem, fr, x, h1, VR.cut a x hu h2, h3⟩
  | .nd _, _, _, hv => by simp only [VR] at hv ⊢; exact hv
  | .rx _ _, _, _, hv => by simp only [VR] at hv ⊢; exact hv
  | .sv id _, _, hu, hv => by
    simp only [VR] at hv ⊢
    simp only [AV.under, Nat.blt_eq] at hu
    obtain ⟨xs, h1, ⟨q, hq, h2⟩ | h2⟩ := hv
    · exact ⟨xs, h1, .inl ⟨q, by simp only [Env.cut]; rw [if_pos hu]; exact hq, h2⟩⟩
    · exact ⟨xs, h1, .inr ⟨Env.cut_gh hu h2.1, h2.2⟩⟩
  | .pv id _ _, _, hu, hv => by
    simp only [VR] at hv ⊢
    simp only [AV.under, Nat.blt_eq] at hu
    obtain ⟨q, k, i, hq, h2⟩ := hv
    exact ⟨q, k, i, by simp only [Env.cut]; rw [if_pos hu]; exact hq, h2⟩
  | .pd id _, _, hu, hv => by
    simp only [VR] at hv ⊢
    simp only [AV.under, Nat.blt_eq] at hu
    obtain ⟨xs, p, h1, h2, h3⟩ := hv
    exact ⟨xs, p, h1, h2, fun hn => by obtain ⟨q, hq, h4⟩ := h3 hn; exact ⟨q, by simp only [Env.cut]; rw [if_pos hu]; exact hq, h4⟩⟩
theorem VRs.cut {η : Env} {c : Nat} : ∀ (l : List AV) (vs : List Value), AV.unders c l = true → VRs η l vs → VRs (η.cut c) l vs
  | [], _, _, hv => by simpa only [VRs] using hv
  | a :: l, _, hu, hv => by
    simp only [VRs] at hv ⊢
    simp only [AV.unders, Bool.and_eq_true] at hu
    obtain ⟨x, xs, e, h1, h2⟩ := hv
    exact ⟨x, xs, e, VR.cut a x hu.1 h1, VRs.cut l xs hu.2 h2⟩
end

theorem unders_at {c : Nat} : ∀ {l : List AV} {k : Nat} {a : AV}, AV.unders c l = true → l[k]? = some a → a.under c = true
  | [], k, a, _, h => by simp at h
  | x :: l, k, a, hu, h => by
    simp only [AV.unders, Bool.and_eq_true] at hu
    cases k with
    | zero => simp at h; subst h; exact hu.1
    | succ k => exact unders_at hu.2 (by simpa using h)

theorem OR.cut {η : Env} {c : Nat} {q : Place} {w : World} {o : AObj} (hu : belowObj c o = true) (h : OR P η q w o) : OR P (η.cut c) q w o := by
  cases o with
  | cells l et rw opn =>
    obtain ⟨cs, elem, fr, h1, r⟩ := h
    exact ⟨cs, elem, fr, h1, { r with cell := fun k a hk => by obtain ⟨x, hx, hv⟩ := r.cell k a hk; exact ⟨x, hx, VR.cut a x (unders_at hu hk) hv⟩ }⟩
  | iter s pos => exact h
  | map es =>
    obtain ⟨ms, clock, h1, h2, h3⟩ := h
    refine ⟨ms, clock, h1, h2, fun k e hk => ?_⟩
    obtain ⟨m, hm, ha, hb⟩ := h3 k e hk
    simp only [belowObj, List.all_eq_true, Bool.and_eq_true] at hu
    have := hu e (List.mem_of_getElem? hk)
    exact ⟨m, hm, VR.cut _ _ this.1 ha, VR.cut _ _ this.2 hb⟩
  | iterM m =>
    cases m with
    | none => exact h
    | some m =>
      obtain ⟨h0, since, last, q', h1, h2⟩ := h
      simp only [belowObj, Nat.blt_eq] at hu
      exact ⟨h0, since, last, q', by simp only [Env.cut]; rw [if_pos hu]; exact h1, h2⟩
  | smap n kk sz => exact h
  | pmap es =>
    obtain ⟨hn, ms, clock, ms', h1, hp, h2, h3⟩ := h
    refine ⟨hn, ms, clock, ms', h1, hp, h2, fun k e hk => ?_⟩
    obtain ⟨m, hm, ha, hb⟩ := h3 k e hk
    simp only [belowObj, List.all_eq_true] at hu
    exact ⟨m, hm, ha, VR.cut _ _ (hu e (List.mem_of_getElem? hk)) hb⟩
  | vec n et f =>
    obtain ⟨xs, cs, elem, fr, ys, h1, h2, h3, h4, h5, h6, r, h8⟩ := h
    exact ⟨xs, cs, elem, fr, ys, h1, h2, h3, h4, h5, h6, { r with cell := fun k a hk => by simp at hk }, h8⟩

/-- What a part of the state leads to, laid into the whole. -/
theorem St.merge {η ηi ηi' η' : Env} {σ σ' τ τ' : ASt} {w w' : World} {upd : List (Nat × Option AObj)} (hS : SR P η σ w) (hSi : SR P ηi τ w) (hst : St P ηi τ w ηi' τ' w') (sub : ∀ id o, τ.get id = some o → σ.get id = some o) (hi : ηi.le η) (hro : ηi.ro = η.ro) (hro' : η'.ro = ηi'.ro)
    (h1 : η.le η') (h2 : ηi'.le η') (hg : ∀ b, σ'.get b = (lookU upd b).getD (σ.get b))
    (hu : ∀ b o, lookU upd b = some (some o) → τ'.get b = some o ∧ ((∃ o0, τ.get b = some o0 ∧ o0.own = true) ∨ (o.own = true ∧ τ.get b = none)))
    (unl : ∀ id o, τ.get id = some o → o.own = true → τ.lock ≤ id → lookU upd id ≠ none) (hlk : σ.lock ≤ τ.lock) (hul : ∀ b, lookU upd b ≠ none → τ.lock ≤ b)
    (hnx : ∀ id q, η' id = some q → id < σ'.next) (hgh : ∀ id, η'.gh id = true → η' id = none ∧ id < σ'.next) :
    SR P η' σ' w' ∧ w.heap.size ≤ w'.heap.size ∧
    (∀ bl, bl < w.heap.size → (∀ id o q, σ.get id = some o → o.own = true → σ.lock ≤ id → η id = some q → q.bl ≠ bl) → w'.heap[bl]? = w.heap[bl]?) ∧
    (∀ id o q, σ'.get id = some o → o.own = true → σ.lock ≤ id → η' id = some q → w.heap.size ≤ q.bl ∨ ∃ id0 o0 q0, σ.get id0 = some o0 ∧ o0.own = true ∧ σ.lock ≤ id0 ∧ η id0 = some q0 ∧ q0.bl = q.bl) ∧
    (∀ b, η'.ro b ≠ none → η.ro b ≠ none ∨ w.heap.size ≤ b ∨ ∃ id0 o0 q0, σ.get id0 = some o0 ∧ o0.own = true ∧ σ.lock ≤ id0 ∧ η id0 = some q0 ∧ q0.bl = b) := by
  -- a block of the whole that is not written is as it was
  have stays : ∀ b o q, lookU upd b = none → σ.get b = some o → η b = some q → q.bl < w.heap.size → w'.heap[q.bl]? = w.heap[q.bl]? := by
    intro b o q hb ho hq hlt
    refine hst.keep _ hlt ?_
    intro id o2 q2 a1 a2 a3 a4
    have hne : id ≠ b := fun e => unl id o2 a1 a2 a3 (by rw [e]; exact hb)
    exact hS.sep id o2 b o q2 q (sub _ _ a1) a2 ho hne (hi.pl _ _ a4) hq
  have place : ∀ b o q, lookU upd b = some (some o) → η' b = some q → OR P η' q w' o ∧ ηi' b = some q := by
    intro b o q hb hq'
    rcases hst.rel.live b o (hu b o hb).1 with ⟨p, hp, hr⟩ | ⟨hgb, _⟩
    · have := h2.pl _ _ hp
      rw [hq'] at this; cases this
      exact ⟨hr.mono h2, hp⟩
    · rw [(hgh b (h2.gh b hgb)).1] at hq'; cases hq'
  have old : ∀ id o q, σ.get id = some o → η' id = some q → η id = some q ∧ OR P η q w o := by
    intro id o q ho hq'
    rcases hS.live id o ho with ⟨p, hp, hr⟩ | ⟨hgb, _⟩
    · have := h1.pl _ _ hp
      rw [hq'] at this; cases this
      exact ⟨hp, hr⟩
    · rw [(hgh id (h1.gh id hgb)).1] at hq'; cases hq'
  -- where a written block lies
  have where_ : ∀ b o q, lookU upd b = some (some o) → ηi' b = some q → (w.heap.size ≤ q.bl) ∨ (∃ id0 o0 q0, τ.get id0 = some o0 ∧ o0.own = true ∧ τ.lock ≤ id0 ∧ ηi id0 = some q0 ∧ q0.bl = q.bl) := by
    intro b o q hb hq
    obtain ⟨h4, h5⟩ := hu b o hb
    rcases h5 with ⟨o0, h6, h7⟩ | ⟨h6, h7⟩
    · rcases hSi.live b o0 h6 with ⟨p', hp', _⟩ | ⟨hgb, _⟩
      · have := hst.ext.pl _ _ hp'
        rw [hq] at this; cases this
        exact .inr ⟨b, o0, q, h6, h7, hul b (by rw [hb]; simp), hp', rfl⟩
      · rw [(hst.rel.ghd b (hst.ext.gh b hgb)).1] at hq; cases hq
    · rcases hst.own b o q h4 h6 (hul b (by rw [hb]; simp)) hq with h8 | h8
      · exact .inl h8
      · exact .inr h8
  have cases_ : ∀ id o, σ'.get id = some o → (lookU upd id = some (some o)) ∨ (lookU upd id = none ∧ σ.get id = some o) := by
    intro id o ho
    rw [hg] at ho
    cases hl : lookU upd id with
    | none => rw [hl] at ho; exact .inr ⟨rfl, ho⟩
    | some x => rw [hl] at ho; simp only [Option.getD_some] at ho; subst ho; exact .inl rfl
  refine ⟨⟨?_, hnx, ?_, hgh, ?_, fun b o hb => hst.rel.roAt b o (by rw [← hro']; exact hb), ?_, fun p hp => (hS.tabs p hp).mono h1⟩, hst.size, ?_, ?_, ?_⟩
  · intro g hgg; obtain ⟨sz, es, h5⟩ := hS.glob g hgg; exact ⟨sz, es, h1.pl _ _ h5⟩
  · intro id o ho
    rcases cases_ id o ho with h4 | ⟨h4, h5⟩
    · exact (hst.rel.live id o (hu id o h4).1).mono h2
    · exact ((hS.live id o h5).heap (w := w) fun q hq hr => stays id o q h4 h5 hq hr.lt).mono h1
  · intro id o id' o' q q' a1 a2 a3 a4 a5 a6
    rcases cases_ id o a1 with b1 | ⟨b1, b1'⟩ <;> rcases cases_ id' o' a3 with b2 | ⟨b2, b2'⟩
    · obtain ⟨_, c2⟩ := place id o q b1 a5
      obtain ⟨_, c4⟩ := place id' o' q' b2 a6
      exact hst.rel.sep id o id' o' _ _ (hu _ _ b1).1 a2 (hu _ _ b2).1 a4 c2 c4
    · obtain ⟨_, c2⟩ := place id o q b1 a5
      obtain ⟨d1, d2⟩ := old id' o' q' b2' a6
      rcases where_ id o q b1 c2 with e | ⟨id0, o0, q0, e1, e2, e3, e4, e5⟩
      · have := d2.lt; omega
      · rw [← e5]
        exact hS.sep id0 o0 id' o' q0 q' (sub _ _ e1) e2 b2' (fun e => unl id0 o0 e1 e2 e3 (by rw [e]; exact b2)) (hi.pl _ _ e4) d1
    · obtain ⟨_, c4⟩ := place id' o' q' b2 a6
      obtain ⟨d1, d2⟩ := old id o q b1' a5
      rcases where_ id' o' q' b2 c4 with e | ⟨id0, o0, q0, e1, e2, e3, e4, e5⟩
      · have := d2.lt; omega
      · rw [← e5]
        exact hS.sep id o id0 o0 q q0 b1' a2 (sub _ _ e1) (fun e => unl id0 o0 e1 e2 e3 (by rw [← e]; exact b1)) d1 (hi.pl _ _ e4)
    · exact hS.sep id o id' o' _ _ b1' a2 b2' a4 (old id o q b1' a5).1 (old id' o' q' b2' a6).1
  · intro id o q a1 a2 a3
    rcases cases_ id o a1 with b1 | ⟨b1, b1'⟩
    · obtain ⟨_, c2⟩ := place id o q b1 a3
      rw [hro']
      exact hst.rel.roSep id o q (hu _ _ b1).1 a2 c2
    · obtain ⟨d1, d2⟩ := old id o q b1' a3
      cases hr : η'.ro q.bl with
      | none => rfl
      | some o2 =>
        exfalso
        rcases hst.roNew q.bl (by rw [← hro', hr]; simp) with e | e | ⟨id0, o0, q0, e1, e2, e3, e4, e5⟩
        · rw [hro, hS.roSep id o q b1' a2 d1] at e; exact e rfl
        · have := d2.lt; omega
        · exact hS.sep id0 o0 id o q0 q (sub _ _ e1) e2 b1' (fun e => unl id0 o0 e1 e2 e3 (by rw [e]; exact b1)) (hi.pl _ _ e4) d1 e5
  · intro bl hbl hno
    exact hst.keep bl hbl fun id o q a1 a2 a3 a4 => hno id o q (sub _ _ a1) a2 (Nat.le_trans hlk a3) (hi.pl _ _ a4)
  · intro id o q a1 a2 a3 a4
    rcases cases_ id o a1 with b1 | ⟨b1, b1'⟩
    · obtain ⟨_, c2⟩ := place id o q b1 a4
      rcases where_ id o q b1 c2 with e | ⟨id0, o0, q0, e1, e2, e3, e4, e5⟩
      · exact .inl e
      · exact .inr ⟨id0, o0, q0, sub _ _ e1, e2, Nat.le_trans hlk e3, hi.pl _ _ e4, e5⟩
    · obtain ⟨d1, _⟩ := old id o q b1' a4
      exact .inr ⟨id, o, q, b1', a2, a3, d1, rfl⟩
  · intro b hb
    rcases hst.roNew b (by rw [← hro']; exact hb) with e | e | ⟨id0, o0, q0, e1, e2, e3, e4, e5⟩
    · rw [hro] at e; exact .inl e
    · exact .inr (.inl e)
    · exact .inr (.inr ⟨id0, o0, q0, sub _ _ e1, e2, Nat.le_trans hlk e3, hi.pl _ _ e4, e5⟩)

/-- A step behind steps, all of it told from the beginning. -/
theorem St.then {η0 η η' : Env} {σ0 σ σ' : ASt} {w0 w w' : World} (h : St P η0 σ0 w0 η σ w) (hle : η.le η') (rel : SR P η' σ' w') (size : w.heap.size ≤ w'.heap.size)
    (keep : ∀ bl, bl < w.heap.size → (∀ id o q, σ.get id = some o → o.own = true → σ.lock ≤ id → η id = some q → q.bl ≠ bl) → w'.heap[bl]? = w.heap[bl]?)
    (own : ∀ id o q, σ'.get id = some o → o.own = true → σ.lock ≤ id → η' id = some q → w.heap.size ≤ q.bl ∨ ∃ id0 o0 q0, σ.get id0 = some o0 ∧ o0.own = true ∧ σ.lock ≤ id0 ∧ η id0 = some q0 ∧ q0.bl = q.bl)
    (os : w'.os = w.os) (tape : w'.tape = w.tape) (output : w'.output = w.output) (lock : σ'.lock = σ.lock) (next : σ.next ≤ σ'.next)
    (new : ∀ id, η'.has id → η.has id ∨ (σ0.next ≤ id ∧ id < σ'.next))
    (roNew : ∀ b, η'.ro b ≠ none → η.ro b ≠ none ∨ w.heap.size ≤ b ∨ ∃ id0 o0 q0, σ.get id0 = some o0 ∧ o0.own = true ∧ σ.lock ≤ id0 ∧ η id0 = some q0 ∧ q0.bl = b) : St P η0 σ0 w0 η' σ' w' := by
  refine ⟨h.ext.trans hle, rel, Nat.le_trans h.size size, ?_, ?_, os.trans h.os, tape.trans h.tape, output.trans h.output, lock.trans h.lock, Nat.le_trans h.next next, ?_, ?_⟩
  · intro bl hbl hno
    rw [keep bl (Nat.lt_of_lt_of_le hbl h.size) ?_, h.keep bl hbl hno]
    intro id o q h1 h2 h3 h4
    rcases h.own id o q h1 h2 (h.lock ▸ h3) h4 with h5 | ⟨id0, o0, q0, a, b, c, d, e⟩
    · omega
    · rw [← e]; exact hno id0 o0 q0 a b c d
  · intro id o q h1 h2 h3 h4
    rcases own id o q h1 h2 (by rw [h.lock]; exact h3) h4 with h5 | ⟨id0, o0, q0, a, b, c, d, e⟩
    · exact .inl (Nat.le_trans h.size h5)
    · rcases h.own id0 o0 q0 a b (h.lock ▸ c) d with h6 | ⟨id1, o1, q1, a1, b1, c1, d1, e1⟩
      · left; omega
      · exact .inr ⟨id1, o1, q1, a1, b1, c1, d1, e1.trans e⟩
  · intro id hq
    rcases new id hq with h1 | h1
    · rcases h.new id h1 with h3 | ⟨h3, h4⟩
      · exact .inl h3
      · exact .inr ⟨h3, Nat.lt_of_lt_of_le h4 next⟩
    · exact .inr h1
  · intro b hb
    rcases roNew b hb with h1 | h1 | ⟨id0, o0, q0, a1, b1, c1, d1, e1⟩
    · exact h.roNew b h1
    · exact .inr (.inl (Nat.le_trans h.size h1))
    · rcases h.own id0 o0 q0 a1 b1 (h.lock ▸ c1) d1 with h2 | ⟨id2, o2, q2, a2, b2, c2, d2, e2⟩
      · right; left; omega
      · exact .inr (.inr ⟨id2, o2, q2, a2, b2, c2, d2, e2.trans e1⟩)

end
end Go.Abs

/-! # AbsDrawOk3 -/
namespace Go.Abs
noncomputable section
variable [TabsOf]
set_option linter.unusedSectionVars false
set_option linter.unusedVariables false
set_option linter.unusedSimpArgs false
variable {P : Program}

def slotsL (rs : List DRec) : List (List (Nat × Option AV)) := rs.map (·.slot)
def updsL (rs : List DRec) : List (List (Nat × Option AObj)) := rs.map (·.upd)
def cAt : Nat → List DRec → Nat → Nat
  | c, _, 0 => c
  | c, [], _ => c
  | _, r :: rs, k + 1 => cAt r.next rs k

theorem dGo_spec {call : Caller} {ops : Array Oper} {M : List Nat} {N0 lock gn n : Nat} : ∀ (m : Nat) (prev : List DRec) (i : Nat) (t : Tr AV) (h : Tr AObj) (c : Nat) (rs : List DRec) (t' : Tr AV) (h' : Tr AObj) (c' : Nat),
    dGo P call ops M N0 lock gn n m prev i t h c = some (rs, t', h', c') → ∃ new, rs = prev ++ new ∧ new.length = m ∧ t' = applyAll (slotsL new) t ∧ h' = applyAll (updsL new) h ∧ c' = cAt c new m ∧
      ∀ (k : Nat) r, new[k]? = some r → dOne P call ops M N0 lock gn n (prev ++ new.take k) (i + k) (applyAll ((slotsL new).take k) t) (applyAll ((updsL new).take k) h) (cAt c new k) = some r
  | 0, prev, i, t, h, c, rs, t', h', c', hs => by
    simp only [dGo, Option.some.injEq, Prod.mk.injEq] at hs
    obtain ⟨rfl, rfl, rfl, rfl⟩ := hs
    exact ⟨[], by simp, rfl, rfl, rfl, rfl, by simp⟩
  | m + 1, prev, i, t, h, c, rs, t', h', c', hs => by
    unfold dGo at hs
    split at hs
    · cases hs
    · next r hr =>
      obtain ⟨new, h1, h2, h3, h4, h5, h6⟩ := dGo_spec m _ _ _ _ _ _ _ _ _ hs
      refine ⟨r :: new, by rw [h1]; simp, by simp [h2], ?_, ?_, ?_, ?_⟩
      · rw [h3]; rfl
      · rw [h4]; rfl
      · rw [h5]; rfl
      · intro k s hk
        cases k with
        | zero =>
          simp at hk; subst hk
          simpa [applyAll, slotsL, updsL, cAt] using hr
        | succ k =>
          have := h6 k s (by simpa using hk)
          rw [show i + 1 + k = i + (k + 1) by omega] at this
          simp only [List.append_assoc, List.singleton_append] at this
          simpa [slotsL, updsL, applyAll, cAt] using this

theorem dOne0_base {call : Caller} {ops : Array Oper} {M : List Nat} {N0 lock gn n i c : Nat} {prev : List DRec} {t : Tr AV} {h : Tr AObj} {r : DRec} (hs : dOne0 P call ops M N0 lock gn n prev i t h c = some r) : r.base = c := by
  unfold dOne0 at hs
  split at hs
  · cases hs
  · simp only at hs
    split at hs
    · cases hs
    · cases hs; rfl
    · split at hs
      · split at hs
        · cases hs; rfl
        · cases hs
      · split at hs
        · split at hs
          · split at hs
            · cases hs; rfl
            · cases hs
          · cases hs
        · split at hs
          · split at hs
            · cases hs; rfl
            · cases hs
          · cases hs
        · split at hs
          · split at hs
            · cases hs; rfl
            · cases hs
          · cases hs
        · split at hs
          · cases hs; rfl
          · split at hs
            · split at hs
              · cases hs; rfl
              · cases hs
            · cases hs

theorem dOne0_slot {call : Caller} {ops : Array Oper} {M : List Nat} {N0 lock gn n i c : Nat} {prev : List DRec} {t : Tr AV} {h : Tr AObj} {r : DRec} (hs : dOne0 P call ops M N0 lock gn n prev i t h c = some r) : ∃ o v, ops[i]? = some o ∧ r.slot = dstU o v := by
  unfold dOne0 at hs
  split at hs
  · cases hs
  · next o ho =>
    simp only at hs
    split at hs
    · cases hs
    · cases hs; exact ⟨o, _, ho, rfl⟩
    · split at hs
      · split at hs
        · cases hs; exact ⟨o, _, ho, rfl⟩
        · cases hs
      · split at hs
        · split at hs
          · split at hs
            · cases hs; exact ⟨o, _, ho, rfl⟩
            · cases hs
          · cases hs
        · split at hs
          · split at hs
            · cases hs; exact ⟨o, _, ho, rfl⟩
            · cases hs
          · cases hs
        · split at hs
          · split at hs
            · cases hs; exact ⟨o, _, ho, rfl⟩
            · cases hs
          · cases hs
        · split at hs
          · cases hs; exact ⟨o, _, ho, rfl⟩
          · split at hs
            · split at hs
              · cases hs; exact ⟨o, _, ho, rfl⟩
              · cases hs
            · cases hs

theorem dOne_fin {call : Caller} {ops : Array Oper} {M : List Nat} {N0 lock gn n i c : Nat} {prev : List DRec} {t : Tr AV} {h : Tr AObj} {r : DRec} (hs : dOne0 P call ops M N0 lock gn n prev i t h c = some r) : r.fin = none := by
  unfold dOne0 at hs
  split at hs
  · cases hs
  · simp only at hs
    split at hs
    · cases hs
    · cases hs; rfl
    · split at hs
      · split at hs
        · cases hs; rfl
        · cases hs
      · split at hs
        · split at hs
          · split at hs
            · cases hs; rfl
            · cases hs
          · cases hs
        · split at hs
          · split at hs
            · cases hs; rfl
            · cases hs
          · cases hs
        · split at hs
          · split at hs
            · cases hs; rfl
            · cases hs
          · cases hs
        · split at hs
          · cases hs; rfl
          · split at hs
            · split at hs
              · cases hs; rfl
              · cases hs
            · cases hs

theorem dOne_base {call : Caller} {ops : Array Oper} {M : List Nat} {N0 lock gn n i c : Nat} {prev : List DRec} {t : Tr AV} {h : Tr AObj} {r : DRec} (hs : dOne P call ops M N0 lock gn n prev i t h c = some r) : r.base = c := by
  unfold dOne at hs
  split at hs
  · unfold dLast at hs
    split at hs
    · cases hs
    · split at hs
      · cases hs
      · cases hs; rfl
      · split at hs
        · cases hs; rfl
        · cases hs
  · exact dOne0_base hs

theorem dOne_slot {call : Caller} {ops : Array Oper} {M : List Nat} {N0 lock gn n i c : Nat} {prev : List DRec} {t : Tr AV} {h : Tr AObj} {r : DRec} (hs : dOne P call ops M N0 lock gn n prev i t h c = some r) : ∃ o v, ops[i]? = some o ∧ r.slot = dstU o v := by
  unfold dOne at hs
  split at hs
  · unfold dLast at hs
    split at hs
    · cases hs
    · next o ho =>
      split at hs
      · cases hs
      · cases hs; exact ⟨o, _, ho, rfl⟩
      · split at hs
        · cases hs; exact ⟨o, _, ho, rfl⟩
        · cases hs
  · exact dOne0_slot hs

/-- What the evaluator has found out of a region's orders. -/
structure Ctx0 (ops : Array Oper) (M : List Nat) (rs : List DRec) (n N0 : Nat) : Prop where
  hM : M = masksGo ops.toList []
  mok : masksOk M 0 = true
  len : rs.length = ops.size
  pairs : ∀ (i j : Nat) r s, rs[i]? = some r → rs[j]? = some s → unord M i j = true → pairOk ops N0 i j r s = true
  slot : ∀ (i : Nat) r, rs[i]? = some r → r.base ≤ r.next ∧ ∀ p ∈ r.slot, p.1 < n

/-- What the evaluator has found out of a region. -/
structure Ctx (P : Program) (call : Caller) (ops : Array Oper) (M : List Nat) (rs : List DRec) (a0 : AAct) (σ0 : ASt) (cf : Nat) : Prop extends Ctx0 ops M rs a0.n σ0.next where
  one : ∀ (i : Nat) r, rs[i]? = some r → dOne P call ops M σ0.next σ0.lock a0.gn a0.n (rs.take i) i (applyAll ((slotsL rs).take i) a0.t) (applyAll ((updsL rs).take i) σ0.h) (cAt (σ0.next + ops.size) rs i) = some r
  fin : cf = cAt (σ0.next + ops.size) rs ops.size
  big : cf ≤ bigId
  lock : σ0.lock ≤ σ0.next

section
variable {call : Caller} {ops : Array Oper} {M : List Nat} {rs : List DRec} {a0 : AAct} {σ0 : ASt} {cf nn N0 : Nat}

theorem cAt_succ : ∀ (rs : List DRec) (c k : Nat) (r : DRec), rs[k]? = some r → cAt c rs (k + 1) = r.next
  | [], c, k, r, h => by simp at h
  | s :: rs, c, 0, r, h => by simp at h; subst h; cases rs <;> rfl
  | s :: rs, c, k + 1, r, h => by
    show cAt s.next rs (k + 1) = r.next
    exact cAt_succ rs s.next k r (by simpa using h)

theorem Ctx.base (C : Ctx P call ops M rs a0 σ0 cf) {i : Nat} {r : DRec} (h : rs[i]? = some r) : r.base = cAt (σ0.next + ops.size) rs i := dOne_base (C.one i r h)

theorem Ctx.mono (C : Ctx P call ops M rs a0 σ0 cf) : ∀ (k i : Nat), i + k ≤ rs.length → cAt (σ0.next + ops.size) rs i ≤ cAt (σ0.next + ops.size) rs (i + k)
  | 0, i, _ => Nat.le_refl _
  | k + 1, i, h => by
    have ih := C.mono k i (by omega)
    have hlt : i + k < rs.length := by omega
    have hr : rs[i + k]? = some rs[i + k] := List.getElem?_eq_getElem hlt
    have := (C.slot _ _ hr).1
    rw [C.base hr] at this
    rw [show i + (k + 1) = (i + k) + 1 by omega, cAt_succ rs _ _ _ hr]
    omega

theorem Ctx.lt (C : Ctx P call ops M rs a0 σ0 cf) {i j : Nat} {r s : DRec} (hi : rs[i]? = some r) (hj : rs[j]? = some s) (h : i < j) : r.next ≤ s.base := by
  have hjl := (List.getElem?_eq_some_iff.1 hj).1
  have := C.mono (j - (i + 1)) (i + 1) (by omega)
  rw [cAt_succ rs _ _ _ hi, show i + 1 + (j - (i + 1)) = j by omega] at this
  rw [C.base hj]; exact this

theorem Ctx.lo (C : Ctx P call ops M rs a0 σ0 cf) {i : Nat} {r : DRec} (hi : rs[i]? = some r) : σ0.next + ops.size ≤ r.base := by
  have := C.mono i 0 (by have := (List.getElem?_eq_some_iff.1 hi).1; omega)
  rw [C.base hi]
  simpa [cAt] using this

theorem Ctx.hi (C : Ctx P call ops M rs a0 σ0 cf) {i : Nat} {r : DRec} (hi : rs[i]? = some r) : r.next ≤ cf := by
  have hil := (List.getElem?_eq_some_iff.1 hi).1
  have := C.mono (ops.size - (i + 1)) (i + 1) (by have := C.len; omega)
  rw [cAt_succ rs _ _ _ hi, show i + 1 + (ops.size - (i + 1)) = ops.size by have := C.len; omega] at this
  rw [C.fin]; exact this

theorem Ctx.cf_lo (C : Ctx P call ops M rs a0 σ0 cf) : σ0.next + ops.size ≤ cf := by
  have := C.mono ops.size 0 (by have := C.len; omega)
  rw [C.fin]; simpa [cAt] using this

/-- Which operations the edges put ahead. -/
theorem Ctx0.mask (C : Ctx0 ops M rs nn N0) {i : Nat} {o : Oper} (ho : ops[i]? = some o) : M[i]? = some (maskOf (fun j => (M.take i).getD j 0) o.after.toList) ∧ M.length = ops.size := by
  obtain ⟨h1, _, h3⟩ := masksGo_spec ops.toList []
  have := h3 i o (by simpa using ho)
  simp only [List.length_nil, Nat.zero_add] at this h1
  rw [C.hM]
  exact ⟨this, by simpa using h1⟩

def Closed (ops : Array Oper) (D : Nat → Bool) : Prop := ∀ i o, D i = true → ops[i]? = some o → ∀ e ∈ o.after.toList, Region.binds .any e = true → D e.on = true

theorem Ctx0.anc (C : Ctx0 ops M rs nn N0) {D : Nat → Bool} (hD : Closed ops D) : ∀ (i : Nat) (o : Oper), ops[i]? = some o → (∀ e ∈ o.after.toList, Region.binds .any e = true → D e.on = true) → ∀ j, ordB M j i = true → D j = true := by
  intro i
  induction i using Nat.strongRecOn with
  | _ i ih =>
    intro o ho hdeps j hj
    obtain ⟨hm, hl⟩ := C.mask ho
    unfold ordB at hj
    rw [List.getD_eq_getElem?_getD, hm] at hj
    obtain ⟨e, he, hb, h1⟩ := maskOf_bit hj
    have hDe := hdeps e he hb
    rcases h1 with rfl | h1
    · exact hDe
    · rw [List.getD_eq_getElem?_getD, List.getElem?_take] at h1
      split at h1
      · next hlt =>
        by_cases hin : e.on < ops.size
        · have hoe : ops[e.on]? = some ops[e.on] := by simp [hin]
          refine ih e.on hlt ops[e.on] hoe (fun e' he' hb' => hD e.on _ hDe hoe e' he' hb') j ?_
          unfold ordB
          rw [List.getD_eq_getElem?_getD]; exact h1
        · rw [List.getElem?_eq_none (by omega)] at h1
          simp at h1
      · simp at h1

theorem Ctx0.ord_lt (C : Ctx0 ops M rs nn N0) {i j : Nat} (h : ordB M j i = true) : j < i := by
  unfold ordB at h
  rw [List.getD_eq_getElem?_getD] at h
  cases hm : M[i]? with
  | none => rw [hm] at h; simp at h
  | some m =>
    rw [hm] at h
    have hlt := masksOk_lt M 0 C.mok i m hm
    simp only [Nat.zero_add, Option.getD_some] at hlt h
    exact Nat.lt_of_not_le fun hle => by
      have := Nat.testBit_lt_two_pow (Nat.lt_of_lt_of_le hlt (Nat.pow_le_pow_right (by omega) hle))
      rw [this] at h; cases h

/-- Where what has been done and what stands ahead in the text part, the order is open. -/
theorem Ctx0.open_ (C : Ctx0 ops M rs nn N0) {D : Nat → Bool} (hD : Closed ops D) {i j : Nat} {o : Oper} (ho : ops[i]? = some o) (hi : D i = false) (hdeps : ∀ e ∈ o.after.toList, Region.binds .any e = true → D e.on = true)
    (hj : j < ops.size) (hne : D j ≠ decide (j < i)) : unord M i j = true := by
  have hij : i ≠ j := by rintro rfl; rw [hi] at hne; simp at hne
  have h1 : ordB M j i = false := by
    cases h : ordB M j i with
    | false => rfl
    | true =>
      have h2 := C.anc hD i o ho hdeps j h
      have h3 := C.ord_lt h
      rw [h2] at hne; simp [h3] at hne
  have h2 : ordB M i j = false := by
    cases h : ordB M i j with
    | false => rfl
    | true =>
      have h3 := C.ord_lt h
      have h4 : D j = true := by
        cases hDj : D j with
        | true => rfl
        | false => rw [hDj] at hne; simp at hne; omega
      have hoj : ops[j]? = some ops[j] := by simp [hj]
      have := C.anc hD j _ hoj (fun e he hb => hD j _ h4 hoj e he hb) i h
      rw [this] at hi; cases hi
  unfold unord
  rw [natBeq hij, h1, h2]; rfl

theorem disj_not {l m : List Nat} (h : disj l m = true) {b : Nat} (hb : b ∈ l) : b ∉ m := by
  unfold disj at h
  rw [List.all_eq_true] at h
  have := h b hb
  simpa using this

end
end
end Go.Abs
