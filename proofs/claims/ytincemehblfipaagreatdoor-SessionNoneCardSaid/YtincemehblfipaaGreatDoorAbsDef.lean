/- The abstract values, states and the evaluator: definitions alone. -/
import Derived.Calls
import Derived.Below
import Derived.Orders
import Derived.LoopN
import Derived.KernelRfl
namespace Go.Abs
noncomputable section

/-- Abstract values: a pointer names an abstract block and an offset. -/
inductive AV where
  | b (x : Bool)
  | i (k : IntKind) (n : Int)
  | s (x : List UInt8)
  | nilp
  | p (id off : Nat)
  | nils
  | sl (id off len : Nat) (cap : Option Nat)
  | nilm
  | mp (id : Nat)
  | nilf
  | fn (f : FuncId) (first caps : List AV)
  | nili
  | ifc (t : TypeId) (v : AV)
  | agg (l : List AV)
  | tup (l : List AV)
  | z (k : IntKind) (lo hi : Int)
  | ro (l : List AV)              -- a slice of elements that nobody changes; without elements it may be nil
  | rp (a : AV) (off : Nat)       -- an address within such an element
  deriving Inhabited

/-- The concrete place of an abstract block: block, first cell, number of cells, cells an element. -/
structure Place where
  bl : Nat
  ba : Nat
  sz : Nat
  es : Nat

/-- Where the abstract blocks lie, and the blocks that nobody changes. -/
structure Env where
  pl : Nat → Option Place
  ro : Nat → Option Obj
instance : CoeFun Env (fun _ => Nat → Option Place) := ⟨Env.pl⟩

/-- The program's tables: a global's number, and what its cells hold. -/
class TabsOf where
  tabs : List (Nat × List AV)

/-- The cells of values, one behind the other. -/
def cellsL (xs : List Value) : List Value := xs.flatMap fun x => x.cells.toList
def cellsAt (cs : Array Value) (off : Nat) (l : List Value) : Prop := ∀ (k : Nat) x, l[k]? = some x → cs[off + k]? = some x

mutual
def VR (η : Env) : AV → Value → Prop
  | .b x, v => v = .bool x
  | .i k n, v => v = .int k n
  | .s x, v => v = .string ⟨⟨x⟩⟩
  | .nilp, v => v = .pointer none
  | .p id off, v => ∃ q, η id = some q ∧ v = .pointer (some ⟨q.bl, q.ba + off, none⟩)
  | .nils, v => v = .slice none 0 0
  | .sl id off len cap, v => ∃ q, η id = some q ∧ len ≤ cap.getD ((q.sz - off) / q.es) ∧ v = .slice (some ⟨q.bl, q.ba + off, none⟩) len (cap.getD ((q.sz - off) / q.es))
  | .nilm, v => v = .map none
  | .mp id, v => ∃ q, η id = some q ∧ v = .map (some q.bl)
  | .nilf, v => v = .nilFunc
  | .fn f fi caps, v => ∃ us vs, v = .func (.func f) ⟨us⟩ ⟨vs⟩ ∧ VRs η fi us ∧ VRs η caps vs
  | .nili, v => v = .nilIface
  | .ifc t a, v => ∃ x, v = .iface t x ∧ VR η a x
  | .agg l, v => ∃ vs, v = .agg ⟨vs⟩ ∧ VRs η l vs
  | .tup l, v => ∃ vs, v = .tuple ⟨vs⟩ ∧ VRs η l vs
  | .z k lo hi, v => ∃ n : Int, lo ≤ n ∧ n ≤ hi ∧ v = .int k n
  | .ro l, v => (l = [] ∧ v = .slice none 0 0) ∨ ∃ bl off c xs sz, v = .slice (some ⟨bl, off, none⟩) l.length c ∧ l.length ≤ c ∧ VRs η l xs ∧ (∀ x ∈ xs, x.cells.size = sz) ∧
      (l ≠ [] → ∃ cs elem fr, η.ro bl = some (.cells cs elem fr) ∧ off + (cellsL xs).length ≤ cs.size ∧ cellsAt cs off (cellsL xs))
  | .rp a off, v => ∃ bl base cs elem fr x, η.ro bl = some (.cells cs elem fr) ∧ VR η a x ∧ v = .pointer (some ⟨bl, base + off, none⟩) ∧ base + x.cells.size ≤ cs.size ∧ cellsAt cs base x.cells.toList
def VRs (η : Env) : List AV → List Value → Prop
  | [], vs => vs = []
  | a :: l, vs => ∃ x xs, vs = x :: xs ∧ VR η a x ∧ VRs η l xs
end

/-- A binary tree of places 0, 1, ..: quick in the kernel. -/
inductive Tr (α : Type) where
  | nil
  | nd (v : Option α) (l r : Tr α)
  deriving Inhabited

def Tr.val {α : Type} (t : Tr α) : Option α := Tr.casesOn t none (fun v _ _ => v)
def Tr.lft {α : Type} (t : Tr α) : Tr α := Tr.casesOn t .nil (fun _ l _ => l)
def Tr.rgt {α : Type} (t : Tr α) : Tr α := Tr.casesOn t .nil (fun _ _ r => r)
/-- By a path: the recursor itself, which the kernel unfolds quickly. -/
def Tr.getP {α : Type} (p : List Bool) : Tr α → Option α := List.rec (motive := fun _ => Tr α → Option α) Tr.val (fun b _ ih t => ih (bif b then t.lft else t.rgt)) p
def Tr.setP {α : Type} (x : Option α) (p : List Bool) : Tr α → Tr α := List.rec (motive := fun _ => Tr α → Tr α) (fun t => .nd x t.lft t.rgt)
  (fun b _ ih t => bif b then .nd t.val (ih t.lft) t.rgt else .nd t.val t.lft (ih t.rgt)) p
def pathF (f : Nat) : Nat → List Bool := Nat.rec (motive := fun _ => Nat → List Bool) (fun _ => []) (fun _ ih n => bif Nat.beq n 0 then [] else Nat.beq ((n - 1) % 2) 0 :: ih ((n - 1) / 2)) f
def path (n : Nat) : List Bool := pathF (Nat.log2 n + 1) n
def Tr.get {α : Type} (t : Tr α) (n : Nat) : Option α := Tr.getP (path n) t
def Tr.set {α : Type} (t : Tr α) (n : Nat) (x : Option α) : Tr α := Tr.setP x (path n) t

/-- An abstract block. -/
inductive AObj where
  | cells (c : List AV) (et : TypeId) (rw opn : Bool)
  | iter (s : List UInt8) (pos : Nat)
  | map (es : List (AV × AV))
  | iterM (m : Option Nat)        -- a map's iterator that has not moved
  deriving Inhabited

structure ASt where
  h : Tr AObj
  next : Nat
  lock : Nat
  deriving Inhabited

def ASt.get (σ : ASt) (id : Nat) : Option AObj := σ.h.get id
def ASt.put (σ : ASt) (id : Nat) (o : AObj) : ASt := { σ with h := σ.h.set id (some o) }
def ASt.kill (σ : ASt) (id : Nat) : ASt := { σ with h := σ.h.set id none }
def ASt.new (σ : ASt) (o : AObj) : ASt := { σ with h := σ.h.set σ.next (some o), next := σ.next + 1 }

def optMap {α β : Type} (f : α → Option β) : List α → Option (List β)
  | [] => some []
  | x :: xs => match f x with
    | none => none
    | some y => match optMap f xs with
      | none => none
      | some ys => some (y :: ys)

/-- What a value is that holds no address. -/
def AV.toVal : Nat → AV → Option Value
  | 0, _ => none
  | n + 1, a =>
    match a with
    | .b x => some (.bool x)
    | .i k x => some (.int k x)
    | .s x => some (.string ⟨⟨x⟩⟩)
    | .nilp => some (.pointer none)
    | .nils => some (.slice none 0 0)
    | .nilm => some (.map none)
    | .nilf => some .nilFunc
    | .nili => some .nilIface
    | .ifc t v => (AV.toVal n v).map (.iface t)
    | .agg l => (optMap (AV.toVal n) l).map fun vs => .agg ⟨vs⟩
    | .tup l => (optMap (AV.toVal n) l).map fun vs => .tuple ⟨vs⟩
    | _ => none

def ofVal : Nat → Value → Option AV
  | 0, _ => none
  | n + 1, v =>
    match v with
    | .bool x => some (.b x)
    | .int k x => some (.i k x)
    | .string s => some (.s s.data.toList)
    | .pointer none => some .nilp
    | .slice none 0 0 => some .nils
    | .map none => some .nilm
    | .nilFunc => some .nilf
    | .nilIface => some .nili
    | .iface t x => (ofVal n x).map (.ifc t)
    | .agg cs => (optMap (ofVal n) cs.toList).map .agg
    | .tuple cs => (optMap (ofVal n) cs.toList).map .tup
    | _ => none

def pureRun {α : Type} (P : Program) : Sem α → Option α
  | .pure a => some a
  | .program k => pureRun P (k P)
  | .mark _ k => pureRun P k
  | _ => none

structure AAct where
  t : Tr AV
  n : Nat
  gn : Nat

def AAct.eval (a : AAct) : Operand → Option AV
  | .tmp t => a.t.get t
  | .const v => ofVal 4 v
  | .global g => if g < a.gn then some (.p g 0) else none
  | .func f => some (.fn f [] [])

def AAct.put (a : AAct) (dst : Option Tmp) (v : Option AV) : Option AAct :=
  match dst with
  | none => some a
  | some d => if d < a.n then some { a with t := a.t.set d v } else none

/-- The cells of a value. -/
def AV.cells : AV → List AV
  | .agg l => l
  | v => [v]

def AV.isAddrOrScalar : AV → Bool
  | .agg _ | .tup _ => false
  | _ => true

def zeroCellsOf (P : Program) (t : TypeId) : Option (List AV) :=
  match P.info? t with
  | some i => match i.zero with
    | some z => (ofVal 4 z).map AV.cells
    | none => none
  | none => none

def isAggT (P : Program) (t : TypeId) : Option Bool :=
  match P.underlying t with
  | some (.struct _) | some (.array _ _) => some true
  | some _ => some false
  | none => none

def sizeT (P : Program) (t : TypeId) : Option Nat := (P.info? t).map (·.size)

/-- Cells from a place on. -/
def takeN (l : List AV) (off n : Nat) : Option (List AV) :=
  let r := (l.drop off).take n
  if r.length = n then some r else none

def setRange (l : List AV) (off : Nat) (vs : List AV) : Option (List AV) :=
  if off + vs.length ≤ l.length then some (l.take off ++ vs ++ l.drop (off + vs.length)) else none

def aFill (place : Nat → Option (Nat × Nat)) (cells : List AV) : List (Nat × AV) → Option (List AV)
  | [] => some cells
  | (i, v) :: rest =>
    match place i with
    | none => none
    | some (off, size) =>
      if v.cells.length = size then
        match setRange cells off v.cells with
        | some cs => aFill place cs rest
        | none => none
      else none

def evalParts (ev : Operand → Option AV) : List (Nat × Operand) → Option (List (Nat × AV))
  | [] => some []
  | (i, x) :: rest => match ev x, evalParts ev rest with
    | some v, some r => some ((i, v) :: r)
    | _, _ => none

def evals (ev : Operand → Option AV) : List Operand → Option (List AV)
  | [] => some []
  | x :: rest => match ev x, evals ev rest with
    | some v, some r => some (v :: r)
    | _, _ => none

def aPart (P : Program) (t : TypeId) (cs : List AV) (off : Nat) : Option AV :=
  match isAggT P t with
  | some true => match sizeT P t with
    | some n => (takeN cs off n).map .agg
    | none => none
  | some false => cs[off]?
  | none => none

def sizesOf (P : Program) : List Field → Option (List (Nat × Nat))
  | [] => some []
  | f :: fs => match sizeT P f.type, sizesOf P fs with
    | some n, some r => some ((f.offset, n) :: r)
    | _, _ => none

def aBuild (P : Program) (t : TypeId) (parts : List (Nat × AV)) : Option AV :=
  match zeroCellsOf P t, P.underlying t with
  | some zero, some (.struct fields) =>
    match sizesOf P fields.toList with
    | some places => (aFill (fun i => places[i]?) zero parts).map .agg
    | none => none
  | some zero, some (.array _ elem) =>
    match sizeT P elem with
    | some size => (aFill (fun i => some (i * size, size)) zero parts).map .agg
    | none => none
  | _, _ => none

def repl (n : Nat) (zero : List AV) : List AV := (List.replicate n zero).flatten

def aLoad (P : Program) (t : TypeId) (σ : ASt) (a : AV) : Option AV :=
  match a with
  | .p id off =>
    match σ.get id with
    | some (.cells c _ _ _) =>
      match isAggT P t with
      | some true => match sizeT P t with
        | some n => (takeN c off n).map .agg
        | none => none
      | some false => c[off]?
      | none => none
    | _ => none
  | .rp e off =>
    match isAggT P t with
    | some true => match sizeT P t with
      | some n => (takeN e.cells off n).map .agg
      | none => none
    | some false => e.cells[off]?
    | none => none
  | _ => none

def aStore (P : Program) (t : TypeId) (σ : ASt) (a v : AV) : Option ASt :=
  match a with
  | .p id off =>
    match σ.get id with
    | some (.cells c et true opn) =>
      if σ.lock ≤ id ∧ sizeT P t = some v.cells.length ∧ v.cells.all AV.isAddrOrScalar then
        (setRange c off v.cells).map fun c' => σ.put id (.cells c' et true opn)
      else none
    | _ => none
  | _ => none

def aInt : AV → Option Int
  | .i _ n => some n
  | _ => none

/-- The bounds of a slice expression on 'len', where 'room' tells what is within the capacity. -/
def aHigh (len : Nat) (room : Nat → Bool) : Option AV → Option Nat
  | none => some len
  | some v => match aInt v with
    | some h => if 0 ≤ h ∧ room h.toNat = true then some h.toNat else none
    | none => none
def aLow (h : Nat) : Option AV → Option Nat
  | none => some 0
  | some v => match aInt v with
    | some l => if 0 ≤ l ∧ l ≤ h then some l.toNat else none
    | none => none
def aBounds (len : Nat) (room : Nat → Bool) (low high : Option AV) : Option (Nat × Nat) :=
  match aHigh len room high with
  | none => none
  | some h => match aLow h low with
    | none => none
    | some l => some (l, h)

def optEval (ev : Operand → Option AV) : Option Operand → Option (Option AV)
  | none => some none
  | some x => (ev x).map some

end
end Go.Abs
