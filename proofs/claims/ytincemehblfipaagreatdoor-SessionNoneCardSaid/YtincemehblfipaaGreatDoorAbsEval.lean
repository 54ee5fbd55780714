/- The evaluator. -/
import Derived.Test.YtincemehblfipaaGreatDoorAbsDef
import Derived.Laws.Strings
namespace Go.Abs
noncomputable section

def bytesOf : List AV → Option (List UInt8)
  | [] => some []
  | .i .u8 n :: rest => if 0 ≤ n ∧ n < 256 then (bytesOf rest).map (UInt8.ofNat n.toNat :: ·) else none
  | _ :: _ => none

def byteAVs (s : List UInt8) : List AV := s.map fun b => .i .u8 b.toNat

def scalarOf (a : AV) : Option Value := a.toVal 4

def elemInfo (P : Program) (t : TypeId) : Option (TypeId × Nat × Nat × List AV) :=
  match P.underlying t with
  | some (.slice e) => match P.info? e, zeroCellsOf P e with
    | some i, some z => if e ≠ 0 ∧ z.length = i.size then some (e, i.size, i.bytes, z) else none
    | _, _ => none
  | _ => none

/-- The cells that 'append' and 'copy' take: n elements of a size. -/
def srcCells (σ : ASt) (size : Nat) : AV → Option (Nat × List AV)
  | .nils => some (0, [])
  | .sl id off len _ => match σ.get id with
    | some (.cells c _ _ _) => (takeN c off (len * size)).map fun r => (len, r)
    | _ => none
  | .s x => if size = 1 then some (x.length, byteAVs x) else none
  | .ro l => if l.all (fun a => a.cells.length == size) = true then some (l.length, l.flatMap AV.cells) else none
  | _ => none

def isSrcT (P : Program) (t : TypeId) : Bool :=
  match P.underlying t with
  | some (.slice _) | some .string => true
  | _ => false

def sliceLen : AV → Nat
  | .sl _ _ n _ => n
  | _ => 0

def aAppend (P : Program) (argTypes : Array TypeId) (s x : AV) (σ : ASt) : Option (AV × ASt) :=
  match argTypes.toList with
  | [t, t1] =>
    match elemInfo P t, isSrcT P t1 with
    | some (e, size, bytes, _), true =>
      match srcCells σ size x with
      | some (n, new) =>
        if size = 0 ∨ new.all AV.isAddrOrScalar = false ∨ ¬ (2 * (sliceLen s + n) * bytes ≤ 2 ^ 48 ∧ sliceLen s + n ≤ 2 ^ 48) then none else
        match s with
        | .nils =>
          if n = 0 then some (.nils, σ) else some (.sl σ.next 0 n none, σ.new (.cells new e true true))
        | .sl id off len (some cap) =>
          if len + n ≤ cap then
            if n = 0 then some (s, σ) else
            match σ.get id with
            | some (.cells c et true opn) =>
              if σ.lock ≤ id then
                (setRange c (off + len * size) new).map fun c' => (.sl id off (len + n) (some cap), σ.put id (.cells c' et true opn))
              else none
            | _ => none
          else
            match σ.get id with
            | some (.cells c _ _ _) => (takeN c off (len * size)).map fun old => (.sl σ.next 0 (len + n) none, σ.new (.cells (old ++ new) e true true))
            | _ => none
        | .sl id off len none =>
          if n = 0 then some (s, σ)
          else if σ.lock ≤ id then
            match σ.get id with
            | some (.cells c et true true) => if et = e then (takeN c off (len * size)).map fun old => (.sl σ.next 0 (len + n) none, (σ.kill id).new (.cells (old ++ new) e true true)) else none
            | _ => none
          else none
        | .ro l => if n = 0 then some (.ro l, σ) else none
        | _ => none
      | none => none
    | _, _ => none
  | _ => none

def aLen (P : Program) (σ : ASt) (t : TypeId) (x : AV) : Option AV :=
  match P.underlying t, x with
  | some .string, .s s => some (.i .i64 s.length)
  | some (.slice _), .nils => some (.i .i64 0)
  | some (.slice _), .sl _ _ n _ => some (.i .i64 n)
  | some (.slice _), .ro l => some (.i .i64 l.length)
  | some (.map _ _), .nilm => some (.i .i64 0)
  | some (.map _ _), .mp id => match σ.get id with
    | some (.map es) => some (.i .i64 es.length)
    | _ => none
  | some (.array n _), _ => some (.i .i64 n)
  | _, _ => none

def aMakeSlice (P : Program) (t : TypeId) (len cap : AV) (σ : ASt) : Option (AV × ASt) :=
  match elemInfo P t, aInt len, aInt cap with
  | some (e, size, bytes, z), some l, some c =>
    if 0 ≤ l ∧ l ≤ c ∧ bytes * c ≤ 2 ^ 48 ∧ c ≤ 2 ^ 60 then
      some (.sl σ.next 0 l.toNat (some c.toNat), σ.new (.cells (if size = 0 then [] else repl c.toNat z) e true false))
    else none
  | _, _, _ => none

/-- A part of a slice that nobody changes: the elements have the type's size. -/
def aRoSlice (size : Nat) (es : List AV) (l h : Nat) : Option AV :=
  if h = l then some (.ro []) else
  match es[0]? with
  | some a => if a.cells.length = size then some (.ro ((es.take h).drop l)) else none
  | none => none

def aSlice (P : Program) (t : TypeId) (σ : ASt) (x : AV) (lo hi : Option AV) : Option AV :=
  match P.underlying t, x with
  | some .string, .s s =>
    (aBounds s.length (fun h => Nat.ble h s.length) lo hi).map fun (l, h) => .s ((s.take h).drop l)
  | some (.slice e), .sl id off len cap =>
    match sizeT P e, cap with
    | some size, some c =>
      (aBounds len (fun h => Nat.ble h c) lo hi).bind fun (l, h) =>
        if c = l then some (.sl id off (h - l) (some 0)) else some (.sl id (off + l * size) (h - l) (some (c - l)))
    | some size, none =>
      match σ.get id with
      | some (.cells _ et _ true) => if et = e then
          (aBounds len (fun h => Nat.ble h len) lo hi).bind fun (l, h) =>
            if l < len then some (.sl id (off + l * size) (h - l) none) else if l = 0 then some (.sl id off (h - l) none) else if h = l then some (.ro []) else none
        else none
      | _ => none
    | none, _ => none
  | some (.slice e), .nils => match sizeT P e with
    | some _ => (aBounds 0 (fun h => Nat.ble h 0) lo hi).map fun _ => .nils
    | none => none
  | some (.slice e), .ro es => match sizeT P e with
    | some size => (aBounds es.length (fun h => Nat.ble h es.length) lo hi).bind fun (l, h) => aRoSlice size es l h
    | none => none
  | _, _ => none

def aFieldAddr (P : Program) (t : TypeId) (x : AV) (f : Nat) : Option AV :=
  match P.underlying t, x with
  | some (.struct fields), .p id off =>
    match fields[f]? with
    | some fd => match sizeT P fd.type with
      | some n => if n = 0 then none else some (.p id (off + fd.offset))
      | none => none
    | none => none
  | some (.struct fields), .rp a off =>
    match fields[f]? with
    | some fd => match sizeT P fd.type with
      | some n => if n = 0 then none else some (.rp a (off + fd.offset))
      | none => none
    | none => none
  | _, _ => none

def aField (P : Program) (t : TypeId) (x : AV) (f : Nat) : Option AV :=
  match P.underlying t, x with
  | some (.struct fields), .agg cs =>
    match fields[f]? with
    | some fd => aPart P fd.type cs fd.offset
    | none => none
  | _, _ => none

def aIndexAddr (P : Program) (t : TypeId) (x ix : AV) : Option AV :=
  match P.underlying t, x, aInt ix with
  | some (.slice e), .sl id off len _, some k =>
    match sizeT P e with
    | some size => if 0 ≤ k ∧ k < len then some (.p id (off + k.toNat * size)) else none
    | none => none
  | some (.array len e), .p id off, some k =>
    match sizeT P e with
    | some size => if 0 ≤ k ∧ k < len then some (.p id (off + k.toNat * size)) else none
    | none => none
  | some (.slice e), .ro l, some k =>
    match sizeT P e with
    | some size => if 0 ≤ k then match l[k.toNat]? with
      | some a => if a.cells.length = size then some (.rp a 0) else none
      | none => none
      else none
    | none => none
  | some (.array len e), .rp a off, some k =>
    match sizeT P e with
    | some size => if 0 ≤ k ∧ k < len then some (.rp a (off + k.toNat * size)) else none
    | none => none
  | _, _, _ => none

def aIndex (P : Program) (t : TypeId) (x ix : AV) : Option AV :=
  match P.underlying t, x, aInt ix with
  | some .string, .s s, some k =>
    if 0 ≤ k then match s[k.toNat]? with
      | some c => some (.i .u8 c.toNat)
      | none => none
    else none
  | some (.array len e), .agg cs, some k =>
    match sizeT P e with
    | some size => if 0 ≤ k ∧ k < len then aPart P e cs (k.toNat * size) else none
    | none => none
  | _, _, _ => none

def aConvert (P : Program) (src dst : TypeId) (x : AV) (σ : ASt) : Option (AV × ASt) :=
  match P.underlying src, P.underlying dst, x with
  | some _, some (.int k), .i _ n => some (.i k (k.wrap n), σ)
  | some .string, some .string, .s s => some (.s s, σ)
  | some .string, some (.slice e), .s s =>
    match P.underlying e with
    | some (.int .u8) => if e ≠ 0 ∧ sizeT P e = some 1 then some (.sl σ.next 0 s.length none, σ.new (.cells (byteAVs s) e true true)) else none
    | _ => none
  | some (.slice e), some .string, .nils =>
    match P.underlying e with
    | some (.int .u8) => some (.s [], σ)
    | _ => none
  | some (.slice e), some .string, .sl id off len _ =>
    match P.underlying e, σ.get id with
    | some (.int .u8), some (.cells c _ _ _) => match takeN c off len with
      | some r => (bytesOf r).map fun b => (.s b, σ)
      | none => none
    | _, _ => none
  | some (.slice e), some .string, .ro l =>
    match P.underlying e with
    | some (.int .u8) => (bytesOf l).map fun b => (.s b, σ)
    | _ => none
  | some (.pointer t), some .unsafePointer, .p id off =>
    match σ.get id, sizeT P t with
    | some (.cells c et _ false), some n => if et ≠ 0 ∧ off < c.length ∧ n ≠ 0 then some (.p id off, σ) else none
    | _, _ => none
  | some .unsafePointer, some (.pointer u), .p id off =>
    match σ.get id, sizeT P u with
    | some (.cells c et _ false), some _ => if et ≠ 0 ∧ liesAt P P.depth et (c.length / P.cellsOf et) off u 1 = true then some (.p id off, σ) else none
    | _, _ => none
  | _, _, _ => none

/-- Two integers of which bounds are known. -/
def cmpZ (op : BinOp) (a b c d : Int) : Option AV :=
  match op with
  | .lss => if b < c then some (.b true) else if d ≤ a then some (.b false) else none
  | .leq => if b ≤ c then some (.b true) else if d < a then some (.b false) else none
  | .gtr => if d < a then some (.b true) else if b ≤ c then some (.b false) else none
  | .geq => if d ≤ a then some (.b true) else if b < c then some (.b false) else none
  | .eql => if b < c ∨ d < a then some (.b false) else none
  | .neq => if b < c ∨ d < a then some (.b true) else none
  | _ => none

/-- An interface value's or a pointer's comparison with nil, or of scalars. -/
def aBin (P : Program) (op : BinOp) (t : TypeId) (x y : Operand) (a b : AV) : Option AV :=
  match op, a, b with
  | .eql, .p id off, .p id' off' => match P.underlying t with
    | some (.pointer e) => match sizeT P e with
      | some n => if id = id' ∧ n ≠ 0 then some (.b (off == off')) else none
      | none => none
    | _ => none
  | .neq, .p id off, .p id' off' => match P.underlying t with
    | some (.pointer e) => match sizeT P e with
      | some n => if id = id' ∧ n ≠ 0 then some (.b (!(off == off'))) else none
      | none => none
    | _ => none
  | .eql, .p _ _, .nilp | .eql, .nilp, .p _ _ => match P.underlying t with
    | some (.pointer _) => some (.b false)
    | _ => none
  | .neq, .p _ _, .nilp | .neq, .nilp, .p _ _ => match P.underlying t with
    | some (.pointer _) => some (.b true)
    | _ => none
  | .eql, .ro (_ :: _), .nils | .eql, .nils, .ro (_ :: _) => match P.underlying t with
    | some (.slice _) => some (.b false)
    | _ => none
  | .neq, .ro (_ :: _), .nils | .neq, .nils, .ro (_ :: _) => match P.underlying t with
    | some (.slice _) => some (.b true)
    | _ => none
  | .eql, .rp _ _, .nilp | .eql, .nilp, .rp _ _ => match P.underlying t with
    | some (.pointer _) => some (.b false)
    | _ => none
  | .neq, .rp _ _, .nilp | .neq, .nilp, .rp _ _ => match P.underlying t with
    | some (.pointer _) => some (.b true)
    | _ => none
  | .eql, .sl .., .nils | .eql, .nils, .sl .. => match P.underlying t with
    | some (.slice _) => some (.b false)
    | _ => none
  | .neq, .sl .., .nils | .neq, .nils, .sl .. => match P.underlying t with
    | some (.slice _) => some (.b true)
    | _ => none
  | .eql, .ifc _ _, .nili | .eql, .nili, .ifc _ _ => match P.underlying t with
    | some (.interface _) => some (.b false)
    | _ => none
  | .neq, .ifc _ _, .nili | .neq, .nili, .ifc _ _ => match P.underlying t with
    | some (.interface _) => some (.b true)
    | _ => none
  | .eql, .mp _, .nilm | .eql, .nilm, .mp _ => match P.underlying t with
    | some (.map _ _) => some (.b false)
    | _ => none
  | .neq, .mp _, .nilm | .neq, .nilm, .mp _ => match P.underlying t with
    | some (.map _ _) => some (.b true)
    | _ => none
  | _, .z k lo hi, .i k' n => if k = k' then cmpZ op lo hi n n else none
  | _, .i k n, .z k' lo hi => if k = k' then cmpZ op n n lo hi else none
  | _, _, _ =>
    match scalarOf a, scalarOf b with
    | some u, some v => (pureRun P (do eqGuard op t x y u v; binOp op t u v)).bind (ofVal 4)
    | _, _ => none

def keySame : AV → AV → Option Bool
  | .i k a, .i k' b => if k = k' then some (a == b) else none
  | .s a, .s b => some (a == b)
  | .b a, .b b => some (a == b)
  | .z k lo hi, .i k' b => if k = k' ∧ (b < lo ∨ hi < b) then some false else none
  | _, _ => none

def findA (k : AV) : List (AV × AV) → Nat → Option (Option (Nat × AV))
  | [], _ => some none
  | e :: es, i => match keySame k e.1 with
    | some true => some (some (i, e.2))
    | some false => findA k es (i + 1)
    | none => none

def plainKey (P : Program) (t : TypeId) : Bool :=
  match P.underlying t with
  | some (.int _) | some .string | some .bool => true
  | _ => false

def fitKey (P : Program) (t : TypeId) (k : AV) : Bool :=
  match P.underlying t, k with
  | some (.int _), .i _ _ | some (.int _), .z _ _ _ | some .string, .s _ | some .bool, .b _ => true
  | _, _ => false

def aLookup (P : Program) (t : TypeId) (m k : AV) (ok : Bool) (σ : ASt) : Option AV :=
  match P.underlying t with
  | some (.map kt et) =>
    match (match m with | .nilm => some [] | .mp id => (match σ.get id with | some (.map es) => some es | _ => none) | _ => none) with
    | some es =>
      if fitKey P kt k then
        match findA k es 0 with
        | some (some (_, v)) => some (if ok then .tup [v, .b true] else v)
        | some none =>
          match P.info? et with
          | some i => match i.zero with
            | some z => (ofVal 4 z).map fun z => if ok then .tup [z, .b false] else z
            | none => none
          | none => none
        | none => none
      else none
    | none => none
  | _ => none

def aMapUpdate (P : Program) (t : TypeId) (m k v : AV) (σ : ASt) : Option ASt :=
  match P.underlying t, m with
  | some (.map kt _), .mp id =>
    match σ.get id with
    | some (.map es) =>
      if σ.lock ≤ id ∧ fitKey P kt k then
        match findA k es 0 with
        | some (some (i, _)) => some (σ.put id (.map (es.set i (k, v))))
        | some none => some (σ.put id (.map (es ++ [(k, v)])))
        | none => none
      else none
    | _ => none
  | _, _ => none

def isIfaceT (P : Program) (t : TypeId) : Option Bool :=
  match P.underlying t with
  | some (.interface _) => some true
  | some _ => some false
  | none => none

def aTypeAssert (P : Program) (x : AV) (t : TypeId) (ok : Bool) : Option AV :=
  match isIfaceT P t, x with
  | some false, .ifc u v =>
    if u = t then some (if ok then .tup [v, .b true] else v)
    else if ok then match P.info? t with
      | some i => match i.zero with
        | some z => (ofVal 4 z).map fun z => .tup [z, .b false]
        | none => none
      | none => none
    else none
  | some false, .nili =>
    if ok then match P.info? t with
      | some i => match i.zero with
        | some z => (ofVal 4 z).map fun z => .tup [z, .b false]
        | none => none
      | none => none
    else none
  | _, _ => none

def aNext (it : AV) (σ : ASt) : Option (AV × ASt) :=
  match it with
  | .p id 0 =>
    match σ.get id with
    | some (.iter s pos) =>
      if σ.lock ≤ id then
        if pos < s.length then
          let r := Utf8.decode ⟨⟨s⟩⟩ pos
          some (.tup [.b true, .i .i64 pos, .i .i32 r.1], σ.put id (.iter s (pos + r.2)))
        else some (.tup [.b false], σ)
      else none
    | _ => none
  | _ => none

def aCopy (P : Program) (argTypes : Array TypeId) (d x : AV) (σ : ASt) : Option (AV × ASt) :=
  match argTypes[0]? with
  | some t =>
    match elemInfo P t, d with
    | some (_, size, _, _), .sl id off dLen _ =>
      match srcCells σ size x, σ.get id with
      | some (n, new), some (.cells c et true opn) =>
        let k := Nat.min n dLen
        if size = 0 then none else
        if σ.lock ≤ id ∧ new.all AV.isAddrOrScalar then
          (setRange c off (new.take (k * size))).map fun c' => (.i .i64 k, σ.put id (.cells c' et true opn))
        else none
      | _, _ => none
    | some (_, size, _, _), .nils => match srcCells σ size x with
      | some _ => some (.i .i64 0, σ)
      | none => none
    | _, _ => none
  | none => none

/-- clear: the elements become zero; a map becomes empty. -/
def aClear (P : Program) (t : TypeId) (x : AV) (σ : ASt) : Option (AV × ASt) :=
  match P.underlying t, x with
  | some (.slice _), .nils => some (.tup [], σ)
  | some (.slice _), .ro [] => some (.tup [], σ)
  | some (.slice e), .sl id off n _ =>
    if n = 0 then some (.tup [], σ) else
    match zeroCellsOf P e, σ.get id with
    | some z, some (.cells c et true opn) =>
      if σ.lock ≤ id ∧ z.all AV.isAddrOrScalar then
        (setRange c off (repl n z)).map fun c' => (.tup [], σ.put id (.cells c' et true opn))
      else none
    | _, _ => none
  | some (.map _ _), .nilm => some (.tup [], σ)
  | some (.map _ _), .mp id => match σ.get id with
    | some (.map _) => if σ.lock ≤ id then some (.tup [], σ.put id (.map [])) else none
    | _ => none
  | _, _ => none

/-- The method that an interface value's call runs, and its receiver. -/
def aMethod (P : Program) (name : String) (σ : ASt) : AV → Option (FuncId × AV)
  | .ifc t v =>
    match P.info? t, P.underlying t with
    | some i, some d => match i.methods.find? (·.name == name) with
      | some m => match m.path.toList, m.func with
        | [], some (f, ptr) => match d, ptr with
          | .pointer _, true => some (f, v)
          | .pointer e, false => match v with
            | .p id off => (aLoad P e σ (.p id off)).map fun x => (f, x)
            | _ => none
          | _, true => none
          | _, false => some (f, v)
        | _, _ => none
      | none => none
    | _, _ => none
  | _ => none

abbrev Caller := FuncId → List AV → ASt → Option (AV × ASt)

def retV (σ : ASt) : Option AV → Option (Option AV × ASt) := Option.map fun v => (some v, σ)
def retVS : Option (AV × ASt) → Option (Option AV × ASt) := Option.map fun (v, σ) => (some v, σ)
def retS : Option ASt → Option (Option AV × ASt) := Option.map fun σ => (none, σ)

def aBuiltin (P : Program) (b : Builtin) (argTypes : Array TypeId) (args : List AV) (σ : ASt) : Option (Option AV × ASt) :=
  match b, args with
  | .len, [x] => match argTypes[0]? with
    | some t => retV σ (aLen P σ t x)
    | none => none
  | .append, [s, x] => retVS (aAppend P argTypes s x σ)
  | .copy, [d, x] => retVS (aCopy P argTypes d x σ)
  | .clear, [x] => match argTypes[0]? with
    | some t => retVS (aClear P t x σ)
    | none => none
  | .unsafeSliceData, [.nils] => retV σ (some .nilp)
  | .unsafeSliceData, [.sl id off n cap] => if n = 0 ∧ (cap = none ∨ cap = some 0) then none else retV σ (some (.p id off))
  | .unsafeString, [x, .i .i64 n] =>
    match argTypes.toList with
    | [t, _] =>
      if n = 0 then (match x with
        | .nilp => retV σ (some (.s []))
        | .p _ _ => retV σ (some (.s []))
        | _ => none)
      else match x with
      | .p id off => match P.underlying t, σ.get id with
        | some (.pointer e), some (.cells c et true opn) =>
          if et = e ∧ e ≠ 0 ∧ P.cellsOf e = 1 ∧ 0 < n ∧ n < 2 ^ 62 ∧ σ.lock ≤ id then
            match takeN c off n.toNat with
            | some r => match bytesOf r with
              | some b => some (some (.s b), σ.put id (.cells c et false opn))
              | none => none
            | none => none
          else none
        | _, _ => none
      | _ => none
    | _ => none
  | .min, [x, y] => match scalarOf x, scalarOf y with
    | some u, some v => retV σ ((pureRun P (Builtin.min_ #[] 0 #[u, v])).bind (ofVal 4))
    | _, _ => none
  | .max, [x, y] => match scalarOf x, scalarOf y with
    | some u, some v => retV σ ((pureRun P (Builtin.max_ #[] 0 #[u, v])).bind (ofVal 4))
    | _, _ => none
  | _, _ => none

def aOp (P : Program) (call : Caller) (o : Oper) (ev : Operand → Option AV) (σ : ASt) : Option (Option AV × ASt) :=
  match o.op with
  | .move x | .assign x => retV σ (ev x)
  | .pick c a b => match ev c with
    | some (.b t) => retV σ (if t then ev a else ev b)
    | _ => none
  | .alloc t => (zeroCellsOf P t).map fun z => (some (.p σ.next 0), σ.new (.cells z t true false))
  | .box t x => (ev x).map fun v => (some (.p σ.next 0), σ.new (.cells v.cells t true false))
  | .build t parts => match evalParts ev parts.toList with
    | some ps => retV σ (aBuild P t ps)
    | none => none
  | .buildSlice t len parts =>
    match elemInfo P t, evalParts ev parts.toList with
    | some (e, size, _, z), some ps =>
      if len * size > 2 ^ 24 then none else
      match aFill (fun i => some (i * size, size)) (if len * size = 0 then [] else repl len z) ps with
      | some cs => some (some (.sl σ.next 0 len (some len)), σ.new (.cells cs e true false))
      | none => none
    | _, _ => none
  | .load t a => match ev a with
    | some a => retV σ (aLoad P t σ a)
    | none => none
  | .store t a x => match ev a, ev x with
    | some a, some v => retS (aStore P t σ a v)
    | _, _ => none
  | .nilCheck x => match ev x with
    | some (.p id off) => retV σ (some (.p id off))
    | some (.rp a off) => retV σ (some (.rp a off))
    | some (.fn f fs cs) => retV σ (some (.fn f fs cs))
    | _ => none
  | .binOp op t x y _ => match ev x, ev y with
    | some a, some b => retV σ (aBin P op t x y a b)
    | _, _ => none
  | .unOp op _ x => match ev x with
    | some a => match scalarOf a with
      | some u => retV σ ((pureRun P (Op.unary op u)).bind (ofVal 4))
      | none => none
    | none => none
  | .convert src dst x => match ev x with
    | some a => retVS (aConvert P src dst a σ)
    | none => none
  | .makeInterface t x => match ev x, isIfaceT P t with
    | some a, some false => retV σ (some (.ifc t a))
    | _, _ => none
  | .makeFunc (.func f) first caps => match evals ev first.toList, evals ev caps.toList with
      | some fs, some cs => retV σ (some (.fn f fs cs))
      | _, _ => none
  | .makeMap t r => match r with
    | none => some (some (.mp σ.next), σ.new (.map []))
    | some h => match (ev h).bind aInt, P.underlying t with
      | some _, some (.map _ _) => some (some (.mp σ.next), σ.new (.map []))
      | _, _ => none
  | .makeSlice t l c => match ev l, ev c with
    | some l, some c => retVS (aMakeSlice P t l c σ)
    | _, _ => none
  | .slice t x lo hi none => match ev x, optEval ev lo, optEval ev hi with
    | some v, some lo, some hi => retV σ (aSlice P t σ v lo hi)
    | _, _, _ => none
  | .fieldAddr t x f => match ev x with
    | some a => retV σ (aFieldAddr P t a f)
    | none => none
  | .field t x f => match ev x with
    | some a => retV σ (aField P t a f)
    | none => none
  | .indexAddr t x ix => match ev x, ev ix with
    | some a, some k => retV σ (aIndexAddr P t a k)
    | _, _ => none
  | .index t x ix => match ev x, ev ix with
    | some a, some k => retV σ (aIndex P t a k)
    | _, _ => none
  | .lookup t m k ok => match ev m, ev k with
    | some m, some k => retV σ (aLookup P t m k ok σ)
    | _, _ => none
  | .mapUpdate t m k v | .insert t m k v => match ev m, ev k, ev v with
    | some m, some k, some v => retS (aMapUpdate P t m k v σ)
    | _, _, _ => none
  | .range t x => match P.underlying t, ev x with
    | some .string, some (.s s) => some (some (.p σ.next 0), σ.new (.iter s 0))
    | some (.map _ _), some .nilm => some (some (.p σ.next 0), σ.new (.iterM none))
    | some (.map _ _), some (.mp id) => match σ.get id with
      | some (.map _) => some (some (.p σ.next 0), σ.new (.iterM (some id)))
      | _ => none
    | _, _ => none
  | .next it true => match ev it with
    | some a => retVS (aNext a σ)
    | none => none
  | .next it false => match ev it with
    | some (.p id 0) => match σ.get id with
      | some (.iterM none) => some (some (.tup [.b false]), σ)
      | some (.iterM (some m)) => match σ.get m with
        | some (.map []) => some (some (.tup [.b false]), σ)
        | _ => none
      | _ => none
    | _ => none
  | .typeAssert x _ t ok => match ev x with
    | some a => retV σ (aTypeAssert P a t ok)
    | none => none
  | .extract x k => match ev x with
    | some (.tup l) => retV σ l[k]?
    | _ => none
  | .call c => match evals ev c.args.toList with
    | some args =>
      match c.callee with
      | .builtin b => aBuiltin P b c.argTypes args σ
      | .value f => match ev f with
        | some (.fn f fi caps) => retVS (call f (fi ++ args ++ caps) σ)
        | _ => none
      | .invoke r name => match (ev r).bind (aMethod P name σ) with
        | some (f, x) => retVS (call f (x :: args) σ)
        | none => none
    | none => none
  | _ => none

/-! ### The same, quicker for the kernel: small bodies, and numbers and texts first -/
def fInt (op : BinOp) (k : IntKind) (a b : Int) : Option AV :=
  match op with
  | .add => some (.i k (k.wrap (a + b)))
  | .sub => some (.i k (k.wrap (a - b)))
  | .mul => some (.i k (k.wrap (a * b)))
  | .eql => some (.b (a == b))
  | .neq => some (.b (a != b))
  | .lss => some (.b (decide (a < b)))
  | .leq => some (.b (decide (a ≤ b)))
  | .gtr => some (.b (decide (a > b)))
  | .geq => some (.b (decide (a ≥ b)))
  | _ => none
def fStr (op : BinOp) (a b : List UInt8) : Option AV :=
  match op with
  | .add => if a.length + b.length ≤ 9223372036854775807 then some (.s (a ++ b)) else none
  | .eql => some (.b (a == b))
  | .neq => some (.b (!(a == b)))
  | .lss => some (.b (Op.bytesLess a b))
  | .leq => some (.b (Op.bytesLess a b || a == b))
  | .gtr => some (.b (!(Op.bytesLess a b || a == b)))
  | .geq => some (.b (!(Op.bytesLess a b)))
  | _ => none
def fBin (P : Program) (op : BinOp) (t : TypeId) (x y : Operand) (a b : AV) : Option AV :=
  match a with
  | .i k m => match b with
    | .i k' n => if k = k' then match fInt op k m n with
        | some r => some r
        | none => aBin P op t x y a b
      else aBin P op t x y a b
    | _ => aBin P op t x y a b
  | .s u => match b with
    | .s v => match fStr op u v with
      | some r => some r
      | none => aBin P op t x y a b
    | _ => aBin P op t x y a b
  | _ => aBin P op t x y a b

theorem toList_mk (l : List UInt8) : (⟨⟨l⟩⟩ : ByteArray).toList = l := by rw [ByteArray.toList_eq]

theorem fInt_eq {P : Program} {op : BinOp} {t : TypeId} {x y : Operand} {k : IntKind} {m n : Int} {r : AV} (h : fInt op k m n = some r) : aBin P op t x y (.i k m) (.i k n) = some r := by
  have key : ∀ v : Value, (do eqGuard op t x y (.int k m) (.int k n); binOp op t (.int k m) (.int k n) : Sem Value) = .pure v → ofVal 4 v = some r → aBin P op t x y (.i k m) (.i k n) = some r := by
    intro v hv hr
    have : aBin P op t x y (.i k m) (.i k n) = (pureRun P (do eqGuard op t x y (.int k m) (.int k n); binOp op t (.int k m) (.int k n) : Sem Value)).bind (ofVal 4) := by
      cases op <;> rfl
    rw [this, hv]
    exact hr
  cases op <;> simp only [fInt, reduceCtorEq, Option.some.injEq] at h <;> subst h
  all_goals refine key _ (by simp only [eqGuard, binOp, ne_eq, not_true_eq_false, if_false, Op.intArith, Op.intCmp]; rfl) rfl

theorem append_mk (a b : List UInt8) : ((⟨⟨a⟩⟩ : ByteArray) ++ ⟨⟨b⟩⟩) = ⟨⟨a ++ b⟩⟩ := by
  apply ByteArray.ext
  rw [ByteArray.data_append]
  simp
theorem fStr_eq {P : Program} {op : BinOp} {t : TypeId} {x y : Operand} {u v : List UInt8} {r : AV} (h : fStr op u v = some r) : aBin P op t x y (.s u) (.s v) = some r := by
  have key : ∀ z : Value, (do eqGuard op t x y (.string ⟨⟨u⟩⟩) (.string ⟨⟨v⟩⟩); binOp op t (.string ⟨⟨u⟩⟩) (.string ⟨⟨v⟩⟩) : Sem Value) = .pure z → ofVal 4 z = some r → aBin P op t x y (.s u) (.s v) = some r := by
    intro z hz hr
    have : aBin P op t x y (.s u) (.s v) = (pureRun P (do eqGuard op t x y (.string ⟨⟨u⟩⟩) (.string ⟨⟨v⟩⟩); binOp op t (.string ⟨⟨u⟩⟩) (.string ⟨⟨v⟩⟩) : Sem Value)).bind (ofVal 4) := by
      cases op <;> rfl
    rw [this, hz]
    exact hr
  cases op <;> simp only [fStr, reduceCtorEq, Option.some.injEq] at h
  case add =>
    split at h
    · next hb =>
      cases h
      have : ¬ (((⟨⟨u⟩⟩ : ByteArray).size + (⟨⟨v⟩⟩ : ByteArray).size : Nat) : Int) > IntKind.i64.max := by
        show ¬ ((u.length + v.length : Nat) : Int) > 9223372036854775807
        omega
      exact key (.string ⟨⟨u ++ v⟩⟩) (by simp only [eqGuard, binOp, Op.stringOp, if_neg this, append_mk]; rfl) rfl
    · cases h
  all_goals subst h
  all_goals refine key _ (by simp only [eqGuard, binOp, Op.stringOp, toList_mk]; rfl) rfl

theorem fBin_eq (P : Program) (op : BinOp) (t : TypeId) (x y : Operand) (a b : AV) : fBin P op t x y a b = aBin P op t x y a b := by
  unfold fBin
  split
  · split
    · split
      · next hk =>
        subst hk
        split
        · next r hr => exact (fInt_eq hr).symm
        · rfl
      · rfl
    · rfl
  · split
    · split
      · next r hr => exact (fStr_eq hr).symm
      · rfl
    · rfl
  · rfl

def fUn (P : Program) (σ : ASt) (op : UnOp) (a : AV) : Option (Option AV × ASt) :=
  match op with
  | .not => match a with
    | .b x => some (some (.b (!x)), σ)
    | _ => match scalarOf a with
      | some u => retV σ ((pureRun P (Op.unary op u)).bind (ofVal 4))
      | none => none
  | _ => match scalarOf a with
    | some u => retV σ ((pureRun P (Op.unary op u)).bind (ofVal 4))
    | none => none
def fOp0 (_P : Program) (_call : Caller) (ev : Operand → Option AV) (σ : ASt) (x : Operand) : Option (Option AV × ASt) :=
  retV σ (ev x)
def fOp1 (_P : Program) (_call : Caller) (ev : Operand → Option AV) (σ : ASt) (c : Operand) (a : Operand) (b : Operand) : Option (Option AV × ASt) :=
  match ev c with
    | some (.b t) => retV σ (if t then ev a else ev b)
    | _ => none
def fOp2 (P : Program) (_call : Caller) (_ev : Operand → Option AV) (σ : ASt) (t : TypeId) : Option (Option AV × ASt) :=
  (zeroCellsOf P t).map fun z => (some (.p σ.next 0), σ.new (.cells z t true false))
def fOp3 (_P : Program) (_call : Caller) (ev : Operand → Option AV) (σ : ASt) (t : TypeId) (x : Operand) : Option (Option AV × ASt) :=
  (ev x).map fun v => (some (.p σ.next 0), σ.new (.cells v.cells t true false))
def fOp4 (P : Program) (_call : Caller) (ev : Operand → Option AV) (σ : ASt) (t : TypeId) (parts : Array (Nat × Operand)) : Option (Option AV × ASt) :=
  match evalParts ev parts.toList with
    | some ps => retV σ (aBuild P t ps)
    | none => none
def fOp5 (P : Program) (_call : Caller) (ev : Operand → Option AV) (σ : ASt) (t : TypeId) (len : Nat) (parts : Array (Nat × Operand)) : Option (Option AV × ASt) :=
     match elemInfo P t, evalParts ev parts.toList with
    | some (e, size, _, z), some ps =>
      if len * size > 2 ^ 24 then none else
      match aFill (fun i => some (i * size, size)) (if len * size = 0 then [] else repl len z) ps with
      | some cs => some (some (.sl σ.next 0 len (some len)), σ.new (.cells cs e true false))
      | none => none
    | _, _ => none
def fOp6 (P : Program) (_call : Caller) (ev : Operand → Option AV) (σ : ASt) (t : TypeId) (a : Operand) : Option (Option AV × ASt) :=
  match ev a with
    | some a => retV σ (aLoad P t σ a)
    | none => none
def fOp7 (P : Program) (_call : Caller) (ev : Operand → Option AV) (σ : ASt) (t : TypeId) (a : Operand) (x : Operand) : Option (Option AV × ASt) :=
  match ev a, ev x with
    | some a, some v => retS (aStore P t σ a v)
    | _, _ => none
def fOp8 (_P : Program) (_call : Caller) (ev : Operand → Option AV) (σ : ASt) (x : Operand) : Option (Option AV × ASt) :=
  match ev x with
    | some (.p id off) => retV σ (some (.p id off))
    | some (.rp a off) => retV σ (some (.rp a off))
    | some (.fn f fs cs) => retV σ (some (.fn f fs cs))
    | _ => none
def fOp9 (P : Program) (_call : Caller) (ev : Operand → Option AV) (σ : ASt) (op : BinOp) (t : TypeId) (x : Operand) (y : Operand) : Option (Option AV × ASt) :=
  match ev x, ev y with
    | some a, some b => retV σ (fBin P op t x y a b)
    | _, _ => none
def fOp10 (P : Program) (_call : Caller) (ev : Operand → Option AV) (σ : ASt) (op : UnOp) (x : Operand) : Option (Option AV × ASt) :=
  match ev x with
    | some a => fUn P σ op a
    | none => none
def fOp11 (P : Program) (_call : Caller) (ev : Operand → Option AV) (σ : ASt) (src : TypeId) (dst : TypeId) (x : Operand) : Option (Option AV × ASt) :=
  match ev x with
    | some a => retVS (aConvert P src dst a σ)
    | none => none
def fOp12 (P : Program) (_call : Caller) (ev : Operand → Option AV) (σ : ASt) (t : TypeId) (x : Operand) : Option (Option AV × ASt) :=
  match ev x, isIfaceT P t with
    | some a, some false => retV σ (some (.ifc t a))
    | _, _ => none
def fOp13 (_P : Program) (_call : Caller) (ev : Operand → Option AV) (σ : ASt) (f : FuncId) (first : Array Operand) (caps : Array Operand) : Option (Option AV × ASt) :=
  match evals ev first.toList, evals ev caps.toList with
      | some fs, some cs => retV σ (some (.fn f fs cs))
      | _, _ => none
def fOp14 (P : Program) (_call : Caller) (ev : Operand → Option AV) (σ : ASt) (t : TypeId) (r : Option Operand) : Option (Option AV × ASt) :=
  match r with
    | none => some (some (.mp σ.next), σ.new (.map []))
    | some h => match (ev h).bind aInt, P.underlying t with
      | some _, some (.map _ _) => some (some (.mp σ.next), σ.new (.map []))
      | _, _ => none
def fOp15 (P : Program) (_call : Caller) (ev : Operand → Option AV) (σ : ASt) (t : TypeId) (l : Operand) (c : Operand) : Option (Option AV × ASt) :=
  match ev l, ev c with
    | some l, some c => retVS (aMakeSlice P t l c σ)
    | _, _ => none
def fOp16 (P : Program) (_call : Caller) (ev : Operand → Option AV) (σ : ASt) (t : TypeId) (x : Operand) (lo : Option Operand) (hi : Option Operand) : Option (Option AV × ASt) :=
  match ev x, optEval ev lo, optEval ev hi with
    | some v, some lo, some hi => retV σ (aSlice P t σ v lo hi)
    | _, _, _ => none
def fOp17 (P : Program) (_call : Caller) (ev : Operand → Option AV) (σ : ASt) (t : TypeId) (x : Operand) (f : Nat) : Option (Option AV × ASt) :=
  match ev x with
    | some a => retV σ (aFieldAddr P t a f)
    | none => none
def fOp18 (P : Program) (_call : Caller) (ev : Operand → Option AV) (σ : ASt) (t : TypeId) (x : Operand) (f : Nat) : Option (Option AV × ASt) :=
  match ev x with
    | some a => retV σ (aField P t a f)
    | none => none
def fOp19 (P : Program) (_call : Caller) (ev : Operand → Option AV) (σ : ASt) (t : TypeId) (x : Operand) (ix : Operand) : Option (Option AV × ASt) :=
  match ev x, ev ix with
    | some a, some k => retV σ (aIndexAddr P t a k)
    | _, _ => none
def fOp20 (P : Program) (_call : Caller) (ev : Operand → Option AV) (σ : ASt) (t : TypeId) (x : Operand) (ix : Operand) : Option (Option AV × ASt) :=
  match ev x, ev ix with
    | some a, some k => retV σ (aIndex P t a k)
    | _, _ => none
def fOp21 (P : Program) (_call : Caller) (ev : Operand → Option AV) (σ : ASt) (t : TypeId) (m : Operand) (k : Operand) (ok : Bool) : Option (Option AV × ASt) :=
  match ev m, ev k with
    | some m, some k => retV σ (aLookup P t m k ok σ)
    | _, _ => none
def fOp22 (P : Program) (_call : Caller) (ev : Operand → Option AV) (σ : ASt) (t : TypeId) (m : Operand) (k : Operand) (v : Operand) : Option (Option AV × ASt) :=
  match ev m, ev k, ev v with
    | some m, some k, some v => retS (aMapUpdate P t m k v σ)
    | _, _, _ => none
def fOp23 (P : Program) (_call : Caller) (ev : Operand → Option AV) (σ : ASt) (t : TypeId) (x : Operand) : Option (Option AV × ASt) :=
  match P.underlying t, ev x with
    | some .string, some (.s s) => some (some (.p σ.next 0), σ.new (.iter s 0))
    | some (.map _ _), some .nilm => some (some (.p σ.next 0), σ.new (.iterM none))
    | some (.map _ _), some (.mp id) => match σ.get id with
      | some (.map _) => some (some (.p σ.next 0), σ.new (.iterM (some id)))
      | _ => none
    | _, _ => none
def fOp24 (_P : Program) (_call : Caller) (ev : Operand → Option AV) (σ : ASt) (it : Operand) : Option (Option AV × ASt) :=
  match ev it with
    | some a => retVS (aNext a σ)
    | none => none
def fOp25 (_P : Program) (_call : Caller) (ev : Operand → Option AV) (σ : ASt) (it : Operand) : Option (Option AV × ASt) :=
  match ev it with
    | some (.p id 0) => match σ.get id with
      | some (.iterM none) => some (some (.tup [.b false]), σ)
      | some (.iterM (some m)) => match σ.get m with
        | some (.map []) => some (some (.tup [.b false]), σ)
        | _ => none
      | _ => none
    | _ => none
def fOp26 (P : Program) (_call : Caller) (ev : Operand → Option AV) (σ : ASt) (x : Operand) (t : TypeId) (ok : Bool) : Option (Option AV × ASt) :=
  match ev x with
    | some a => retV σ (aTypeAssert P a t ok)
    | none => none
def fOp27 (_P : Program) (_call : Caller) (ev : Operand → Option AV) (σ : ASt) (x : Operand) (k : Nat) : Option (Option AV × ASt) :=
  match ev x with
    | some (.tup l) => retV σ l[k]?
    | _ => none
def fOp28 (P : Program) (call : Caller) (ev : Operand → Option AV) (σ : ASt) (c : Call) : Option (Option AV × ASt) :=
  match evals ev c.args.toList with
    | some args =>
      match c.callee with
      | .builtin b => aBuiltin P b c.argTypes args σ
      | .value f => match ev f with
        | some (.fn f fi caps) => retVS (call f (fi ++ args ++ caps) σ)
        | _ => none
      | .invoke r name => match (ev r).bind (aMethod P name σ) with
        | some (f, x) => retVS (call f (x :: args) σ)
        | none => none
    | none => none
/-- What is to be done at an operation: by its text alone, so that the kernel finds it once. -/
structure OpW where
  f : Program → Caller → (Operand → Option AV) → ASt → Option (Option AV × ASt)
def opF (o : Op) : OpW :=
  Op.casesOn (motive := fun _ => OpW) o
    (fun x => ⟨fun P call ev σ => fOp0 P call ev σ x⟩)
    (fun x => ⟨fun P call ev σ => fOp0 P call ev σ x⟩)
    (fun c a b => ⟨fun P call ev σ => fOp1 P call ev σ c a b⟩)
    (fun t => ⟨fun P call ev σ => fOp2 P call ev σ t⟩)
    (fun t x => ⟨fun P call ev σ => fOp3 P call ev σ t x⟩)
    (fun t parts => ⟨fun P call ev σ => fOp4 P call ev σ t parts⟩)
    (fun t len parts => ⟨fun P call ev σ => fOp5 P call ev σ t len parts⟩)
    (fun t m k v => ⟨fun P call ev σ => fOp22 P call ev σ t m k v⟩)
    (fun t a => ⟨fun P call ev σ => fOp6 P call ev σ t a⟩)
    (fun t a x => ⟨fun P call ev σ => fOp7 P call ev σ t a x⟩)
    (fun _ => ⟨fun _P _call _ev _σ => none⟩)
    (fun _ => ⟨fun _P _call _ev _σ => none⟩)
    (fun x => ⟨fun P call ev σ => fOp8 P call ev σ x⟩)
    (fun op t x y _ => ⟨fun P call ev σ => fOp9 P call ev σ op t x y⟩)
    (fun op _ x => ⟨fun P call ev σ => fOp10 P call ev σ op x⟩)
    (fun src dst x => ⟨fun P call ev σ => fOp11 P call ev σ src dst x⟩)
    (fun _ _ => ⟨fun _P _call _ev _σ => none⟩)
    (fun t x => ⟨fun P call ev σ => fOp12 P call ev σ t x⟩)
    (fun fn first caps => ⟨fun P call ev σ => match fn with | .func f => fOp13 P call ev σ f first caps | _ => none⟩)
    (fun t r => ⟨fun P call ev σ => fOp14 P call ev σ t r⟩)
    (fun _ _ => ⟨fun _P _call _ev _σ => none⟩)
    (fun t l c => ⟨fun P call ev σ => fOp15 P call ev σ t l c⟩)
    (fun t x lo hi mx => ⟨fun P call ev σ => match mx with | none => fOp16 P call ev σ t x lo hi | some _ => none⟩)
    (fun t x f => ⟨fun P call ev σ => fOp17 P call ev σ t x f⟩)
    (fun t x f => ⟨fun P call ev σ => fOp18 P call ev σ t x f⟩)
    (fun t x ix => ⟨fun P call ev σ => fOp19 P call ev σ t x ix⟩)
    (fun t x ix => ⟨fun P call ev σ => fOp20 P call ev σ t x ix⟩)
    (fun t m k ok => ⟨fun P call ev σ => fOp21 P call ev σ t m k ok⟩)
    (fun t m k v => ⟨fun P call ev σ => fOp22 P call ev σ t m k v⟩)
    (fun _ _ _ => ⟨fun _P _call _ev _σ => none⟩)
    (fun _ _ _ _ => ⟨fun _P _call _ev _σ => none⟩)
    (fun t x => ⟨fun P call ev σ => fOp23 P call ev σ t x⟩)
    (fun it b => ⟨fun P call ev σ => bif b then fOp24 P call ev σ it else fOp25 P call ev σ it⟩)
    (fun _ => ⟨fun _P _call _ev _σ => none⟩)
    (fun x _ t ok => ⟨fun P call ev σ => fOp26 P call ev σ x t ok⟩)
    (fun x k => ⟨fun P call ev σ => fOp27 P call ev σ x k⟩)
    (fun c => ⟨fun P call ev σ => fOp28 P call ev σ c⟩)
    (fun _ => ⟨fun _P _call _ev _σ => none⟩)
    (fun _ => ⟨fun _P _call _ev _σ => none⟩)
    (fun _ => ⟨fun _P _call _ev _σ => none⟩)
    (fun _ _ => ⟨fun _P _call _ev _σ => none⟩)
    (fun _ _ _ => ⟨fun _P _call _ev _σ => none⟩)
    (fun _ _ => ⟨fun _P _call _ev _σ => none⟩)
def fOp (P : Program) (call : Caller) (o : Oper) (ev : Operand → Option AV) (σ : ASt) : Option (Option AV × ASt) := (opF o.op).f P call ev σ

theorem fUn_eq (P : Program) (σ : ASt) (op : UnOp) (a : AV) : fUn P σ op a = match scalarOf a with
    | some u => retV σ ((pureRun P (Op.unary op u)).bind (ofVal 4))
    | none => none := by
  cases op <;> first | rfl | skip
  cases a <;> rfl

theorem fOp_eq (P : Program) (call : Caller) (o : Oper) (ev : Operand → Option AV) (σ : ASt) : fOp P call o ev σ = aOp P call o ev σ := by
  obtain ⟨dst, op, type, pos, after, guard⟩ := o
  cases op with
  | binOp op t x y _ =>
    show fOp9 P call ev σ op t x y = _
    simp only [fOp9, fBin_eq, aOp]
  | unOp op _ x =>
    show fOp10 P call ev σ op x = _
    simp only [fOp10, fUn_eq, aOp]
  | slice t x lo hi mx => cases mx <;> rfl
  | makeFunc fn _ _ => cases fn <;> rfl
  | next it b => cases b <;> rfl
  | _ => rfl

def wantedA (o : Oper) (ops : Array Oper) (a : AAct) : Option Bool :=
  match o.guard with
  | none => some true
  | some (j, want) =>
    match ops[j]? with
    | some q => match q.dst with
      | some d => match a.t.get d with
        | some (.b x) => some (x == want)
        | _ => none
      | none => none
    | none => none

def aStep (P : Program) (call : Caller) (ops : Array Oper) (i : Nat) (a : AAct) (σ : ASt) : Option (AAct × ASt) :=
  match ops[i]? with
  | none => none
  | some o =>
    match wantedA o ops a with
    | none => none
    | some false => (a.put o.dst none).map (·, σ)
    | some true =>
      match fOp P call o a.eval σ with
      | none => none
      | some (v, σ') => (a.put o.dst v).map (·, σ')

def aOps (P : Program) (call : Caller) (ops : Array Oper) : List Nat → AAct → ASt → Option (AAct × ASt)
  | [], a, σ => some (a, σ)
  | i :: rest, a, σ =>
    match aStep P call ops i a σ with
    | some (a', σ') => aOps P call ops rest a' σ'
    | none => none

inductive AExit where
  | normal
  | exit (id : Nat)
  | ret

def aResults (P : Program) (σ : ASt) (a : AAct) : List ResultVar → Option (List AV)
  | [] => some []
  | .tmp t :: rs => match a.t.get t, aResults P σ a rs with
    | some v, some r => some (v :: r)
    | _, _ => none
  | .cell t ty :: rs => match (a.t.get t).bind (aLoad P ty σ), aResults P σ a rs with
    | some v, some r => some (v :: r)
    | _, _ => none

def tupOf : List AV → AV
  | [v] => v
  | l => .tup l

def argTr : List AV → Nat → Tr AV → Tr AV
  | [], _, t => t
  | v :: vs, k, t => argTr vs (k + 1) (t.set k (some v))

abbrev Drawer := Array Oper → AAct → ASt → Option (AAct × ASt)

abbrev Prims := FuncId → Option (List AV → ASt → Option (AV × ASt))

/-- A call: a function that is known by its contract, or one whose body is run. -/
def callWith (P : Program) (pr : Prims) (run : Code → AAct → ASt → Option (AExit × AAct × ASt)) : Caller := fun f args σ =>
  match pr f with
  | some g => g args σ
  | none =>
    match P.funcs[f]? with
    | none => none
    | some fn => match fn.body with
      | none => none
      | some c =>
        match run c { t := argTr args 0 .nil, n := max args.length fn.ntmps, gn := P.globals.size } σ with
        | some (.normal, a', σ') | some (.ret, a', σ') => (aResults P σ' a' fn.results.toList).map fun l => (tupOf l, σ')
        | _ => none

/-- One step of code, where the rest is run by 'run'. -/
def codeBody (P : Program) (dr : Caller → Drawer) (pr : Prims) (run : Code → AAct → ASt → Option (AExit × AAct × ASt)) (c : Code) (a : AAct) (σ : ASt) : Option (AExit × AAct × ASt) :=
  match c with
  | .skip => some (.normal, a, σ)
  | .region _ ops false => (aOps P (callWith P pr run) ops (List.range ops.size) a σ).map fun (a, σ) => (.normal, a, σ)
  | .region _ ops true => (dr (callWith P pr run) ops a σ).map fun (a, σ) => (.normal, a, σ)
  | .seq x y =>
    match run x a σ with
    | some (.normal, a', σ') => run y a' σ'
    | r => r
  | .cond x y z =>
    match a.eval x with
    | some (.b t) => run (if t then y else z) a σ
    | _ => none
  | .block id b =>
    match run b a σ with
    | some (.exit id', a', σ') => if id' = id then some (.normal, a', σ') else some (.exit id', a', σ')
    | r => r
  | .loop b =>
    match run b a σ with
    | some (.normal, a', σ') => run (.loop b) a' σ'
    | r => r
  | .exit id => some (.exit id, a, σ)
  | .ret => some (.ret, a, σ)
  | _ => none

structure CodeW where
  f : Program → (Caller → Drawer) → Prims → (Code → AAct → ASt → Option (AExit × AAct × ASt)) → AAct → ASt → Option (AExit × AAct × ASt)
def cSkip : CodeW := ⟨fun _ _ _ _ a σ => some (.normal, a, σ)⟩
def cReg (ops : Array Oper) (d : Bool) : CodeW := bif d then ⟨fun P dr pr run a σ => (dr (callWith P pr run) ops a σ).map fun (a, σ) => (.normal, a, σ)⟩
  else ⟨fun P _ pr run a σ => (aOps P (callWith P pr run) ops (List.range ops.size) a σ).map fun (a, σ) => (.normal, a, σ)⟩
def cSeq (x y : Code) : CodeW := ⟨fun _ _ _ run a σ => match run x a σ with
    | some (.normal, a', σ') => run y a' σ'
    | r => r⟩
def cCond (x : Operand) (y z : Code) : CodeW := ⟨fun _ _ _ run a σ => match a.eval x with
    | some (.b t) => run (if t then y else z) a σ
    | _ => none⟩
def cBlock (id : Nat) (b : Code) : CodeW := ⟨fun _ _ _ run a σ => match run b a σ with
    | some (.exit id', a', σ') => if id' = id then some (.normal, a', σ') else some (.exit id', a', σ')
    | r => r⟩
def cLoop (b : Code) : CodeW := ⟨fun _ _ _ run a σ => match run b a σ with
    | some (.normal, a', σ') => run (.loop b) a' σ'
    | r => r⟩
def cExit (id : Nat) : CodeW := ⟨fun _ _ _ _ a σ => some (.exit id, a, σ)⟩
def cRet : CodeW := ⟨fun _ _ _ _ a σ => some (.ret, a, σ)⟩
def cNo : CodeW := ⟨fun _ _ _ _ _ _ => none⟩
def codeF (c : Code) : CodeW :=
  Code.casesOn (motive := fun _ => CodeW) c
    cSkip
    (fun _ ops d => cReg ops d)
    (fun x y => cSeq x y)
    (fun x y z => cCond x y z)
    (fun id b => cBlock id b)
    (fun b => cLoop b)
    (fun _ _ _ _ => cNo)
    (fun id => cExit id)
    (fun _ => cNo)
    (fun _ => cNo)
    (fun _ => cNo)
    cRet
    (fun _ => cNo)

theorem codeF_eq (P : Program) (dr : Caller → Drawer) (pr : Prims) (run : Code → AAct → ASt → Option (AExit × AAct × ASt)) (c : Code) (a : AAct) (σ : ASt) : (codeF c).f P dr pr run a σ = codeBody P dr pr run c a σ := by
  cases c with
  | region id ops d => cases d <;> rfl
  | _ => rfl

def aCodeF (P : Program) (dr : Caller → Drawer) (pr : Prims) (n : Nat) : Code → AAct → ASt → Option (AExit × AAct × ASt) :=
  Nat.rec (motive := fun _ => Code → AAct → ASt → Option (AExit × AAct × ASt)) (fun _ _ _ => none) (fun _ run c a σ => (codeF c).f P dr pr run a σ) n
theorem aCodeF_zero (P : Program) (dr : Caller → Drawer) (pr : Prims) (c : Code) (a : AAct) (σ : ASt) : aCodeF P dr pr 0 c a σ = none := rfl
theorem aCodeF_succ (P : Program) (dr : Caller → Drawer) (pr : Prims) (n : Nat) (c : Code) (a : AAct) (σ : ASt) : aCodeF P dr pr (n + 1) c a σ = codeBody P dr pr (aCodeF P dr pr n) c a σ := codeF_eq P dr pr _ c a σ

def aCall (P : Program) (dr : Caller → Drawer) (pr : Prims) (n : Nat) : Caller := callWith P pr (aCodeF P dr pr n)

end
end Go.Abs
