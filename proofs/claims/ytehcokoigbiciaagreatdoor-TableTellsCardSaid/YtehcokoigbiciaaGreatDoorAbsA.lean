/- Ground values, and the nodes by which a symbolic run names them. -/
import Derived.Calls
import Derived.Below
import Derived.Orders
import Derived.LoopN
import Derived.KernelRfl
import Derived.Laws.Strings
import Derived.WalkKit

/-! # AbsGV -/
namespace Go.Abs
noncomputable section

/-- Values without memory of their own: a slice is its elements, an aggregate its cells. -/
inductive GV where
  | b (x : Bool)
  | i (k : IntKind) (n : Int)
  | s (x : List UInt8)
  | l (xs : List GV)
  | g (cs : List GV)
  deriving Inhabited

def GV.cells : GV → List GV
  | .g cs => cs
  | v => [v]
def GV.scalar : GV → Bool
  | .g _ => false
  | _ => true

/-- An element of so many cells. -/
def GV.elemOk (size : Nat) (g : GV) : Bool := Nat.beq g.cells.length size && g.cells.all GV.scalar

def intG (op : BinOp) (k : IntKind) (a b : Int) : Option GV :=
  match op with
  | .add => some (.i k (k.wrap (a + b)))
  | .sub => some (.i k (k.wrap (a - b)))
  | .mul => some (.i k (k.wrap (a * b)))
  | .quo => if b = 0 then none else some (.i k (k.wrap (a.tdiv b)))
  | .rem => if b = 0 then none else some (.i k (a.tmod b))
  | .and => some (.i k (k.wrap (BitVec.ofInt k.bits a &&& BitVec.ofInt k.bits b).toNat))
  | .or => some (.i k (k.wrap (BitVec.ofInt k.bits a ||| BitVec.ofInt k.bits b).toNat))
  | .xor => some (.i k (k.wrap (BitVec.ofInt k.bits a ^^^ BitVec.ofInt k.bits b).toNat))
  | .andNot => some (.i k (k.wrap (BitVec.ofInt k.bits a &&& ~~~ BitVec.ofInt k.bits b).toNat))
  | .eql => some (.b (a == b))
  | .neq => some (.b (a != b))
  | .lss => some (.b (decide (a < b)))
  | .leq => some (.b (decide (a ≤ b)))
  | .gtr => some (.b (decide (a > b)))
  | .geq => some (.b (decide (a ≥ b)))
  | _ => none
def shG (op : BinOp) (k : IntKind) (a b : Int) : Option GV :=
  if b < 0 then none else
  match op with
  | .shl => some (.i k (k.wrap (a * 2 ^ (min b.toNat k.bits))))
  | .shr => some (.i k (a.fdiv (2 ^ (min b.toNat k.bits))))
  | _ => none
def strG (op : BinOp) (a b : List UInt8) : Option GV :=
  match op with
  | .add => if ((a.length + b.length : Nat) : Int) ≤ IntKind.i64.max then some (.s (a ++ b)) else none
  | .eql => some (.b (a == b))
  | .neq => some (.b (!(a == b)))
  | .lss => some (.b (Op.bytesLess a b))
  | .leq => some (.b (Op.bytesLess a b || a == b))
  | .gtr => some (.b (!(Op.bytesLess a b || a == b)))
  | .geq => some (.b (!(Op.bytesLess a b)))
  | _ => none
/-- Are two aggregates' cells, of these kinds, the same? -/
def eqGs : List Nat → List GV → List GV → Option Bool
  | [], [], [] => some true
  | 0 :: ks, .i k a :: l, .i k' b :: m => if k = k' then (eqGs ks l m).map ((a == b) && ·) else none
  | 1 :: ks, .s a :: l, .s b :: m => (eqGs ks l m).map ((a == b) && ·)
  | 2 :: ks, .b a :: l, .b b :: m => (eqGs ks l m).map ((a == b) && ·)
  | _, _, _ => none
def binG (op : BinOp) : GV → GV → Option GV
  | .i k a, .i k' b => match op with
    | .shl => shG .shl k a b
    | .shr => shG .shr k a b
    | op => if k = k' then intG op k a b else none
  | .s a, .s b => strG op a b
  | _, _ => none
def binB (op : BinOp) : GV → GV → Option GV
  | .b a, .b b => match op with
    | .eql => some (.b (a == b))
    | .neq => some (.b (!(a == b)))
    | _ => none
  | _, _ => none
def binC (op : BinOp) (ks : List Nat) : GV → GV → Option GV
  | .g a, .g b => match op with
    | .eql => (eqGs ks a b).map .b
    | .neq => (eqGs ks a b).map fun r => .b (!r)
    | _ => none
  | _, _ => none
def unG (op : UnOp) : GV → Option GV
  | .b a => match op with
    | .not => some (.b (!a))
    | _ => none
  | .i k n => match op with
    | .neg => some (.i k (k.wrap (0 - n)))
    | .xor => intG .xor k (if k.signed then -1 else k.max) n
    | _ => none
  | _ => none

def bytesG : List GV → Option (List UInt8)
  | [] => some []
  | .i .u8 n :: rest => if 0 ≤ n ∧ n < 256 then (bytesG rest).map (UInt8.ofNat n.toNat :: ·) else none
  | _ :: _ => none
def byteGs (s : List UInt8) : List GV := s.map fun b => .i .u8 b.toNat

/-- How a value comes of others: the others are told by numbers. -/
inductive Nd where
  | arg
  | ci (k : IntKind) (n : Int)
  | cb (x : Bool)
  | cs (x : List UInt8)
  | bin (op : BinOp) (a b : Nat)  -- of numbers, or texts
  | binb (op : BinOp) (a b : Nat) -- of truth values
  | binc (op : BinOp) (ks : List Nat) (a b : Nat) -- of aggregates of cells of these kinds
  | un (op : UnOp) (a : Nat)
  | mm (big : Bool) (a b : Nat)
  | conv (k : IntKind) (a : Nat)
  | len (a : Nat)                 -- of a list
  | slen (a : Nat)                -- of a text
  | sidx (a i : Nat)
  | ssub (a lo hi : Nat)
  | lsub (size a lo hi : Nat)
  | idx (a i : Nat)
  | at (size a i : Nat)
  | cell (off a : Nat)
  | mk (l : List Nat)
  | ml (l : List Nat)
  | app (size bytes a b : Nat)
  | upd (size off a i : Nat) (vs : List Nat)
  | rep (size bytes z l c : Nat)
  | bytes (a : Nat)
  | str (a : Nat)
  | sid (a : Nat)                 -- the same text
  | same (a b : Nat)              -- the list b, which is as long as a
  | isi (a j : Nat)               -- is a number, of whatever kind, this one?
  | call (f : Nat) (l : List Nat) (j : Nat)
  | mget (z m k : Nat)            -- what a list of pairs holds at a key, or else z
  | mhas (m k : Nat)
  | mput (m k v : Nat)
  deriving Inhabited

/-! Lists of pairs, by keys. -/
def keyEq : GV → GV → Bool
  | .i k a, .i k' b => Nat.beq (IntKind.casesOn k 0 1 2 3 4 5 6 7) (IntKind.casesOn k' 0 1 2 3 4 5 6 7) && a == b
  | .s a, .s b => a == b
  | _, _ => false
def assocG (k : GV) : List GV → Option GV
  | [] => none
  | .g [a, v] :: l => if keyEq k a = true then some v else assocG k l
  | _ :: l => assocG k l
def putG (k v : GV) : List GV → List GV
  | [] => [.g [k, v]]
  | .g [a, u] :: l => if keyEq k a = true then .g [k, v] :: l else .g [a, u] :: putG k v l
  | x :: l => x :: putG k v l

def valsOf (val : Nat → Option GV) : List Nat → Option (List GV)
  | [] => some []
  | n :: l => match val n, valsOf val l with
    | some g, some r => some (g :: r)
    | _, _ => none

def GV.int : GV → Option Int
  | .i _ n => some n
  | _ => none

/-- The cells from a place on, put. -/
def putCells (cs : List GV) (off : Nat) (vs : List GV) : Option (List GV) :=
  if off + vs.length ≤ cs.length then some (cs.take off ++ vs ++ cs.drop (off + vs.length)) else none
def GV.put (x : GV) (off : Nat) (vs : List GV) : Option GV :=
  match x with
  | .g cs => (putCells cs off vs).map .g
  | _ => match off, vs with
    | 0, [v] => some v
    | _, _ => none

def Nd.den (I : Nat → List GV → Option (List GV)) (val : Nat → Option GV) : Nd → Option GV
  | .arg => none
  | .ci k n => some (.i k n)
  | .cb x => some (.b x)
  | .cs x => some (.s x)
  | .bin op a b => match val a, val b with
    | some x, some y => binG op x y
    | _, _ => none
  | .binb op a b => match val a, val b with
    | some x, some y => binB op x y
    | _, _ => none
  | .binc op ks a b => match val a, val b with
    | some x, some y => binC op ks x y
    | _, _ => none
  | .un op a => match val a with
    | some x => unG op x
    | none => none
  | .mm big a b => match val a, val b with
    | some (.i k x), some (.i k' y) => if k = k' then some (.i k (if big then (if x < y then y else x) else (if y < x then y else x))) else none
    | _, _ => none
  | .conv k a => match val a with
    | some (.i _ n) => some (.i k (k.wrap n))
    | _ => none
  | .len a => match val a with
    | some (.l xs) => some (.i .i64 xs.length)
    | _ => none
  | .slen a => match val a with
    | some (.s x) => some (.i .i64 x.length)
    | _ => none
  | .sidx a i => match val a, val i with
    | some (.s x), some (.i _ k) => if 0 ≤ k then match x[k.toNat]? with
      | some c => some (.i .u8 c.toNat)
      | none => none
      else none
    | _, _ => none
  | .ssub a lo hi => match val a, val lo, val hi with
    | some (.s x), some (.i _ l), some (.i _ h) => if 0 ≤ l ∧ l ≤ h ∧ h ≤ x.length then some (.s ((x.take h.toNat).drop l.toNat)) else none
    | _, _, _ => none
  | .lsub size a lo hi => match val a, val lo, val hi with
    | some (.l xs), some (.i _ l), some (.i _ h) =>
      if 0 ≤ l ∧ l ≤ h ∧ h ≤ xs.length ∧ (xs.all fun x => Nat.beq x.cells.length size) = true then some (.l ((xs.take h.toNat).drop l.toNat)) else none
    | _, _, _ => none
  | .idx a i => match val a, val i with
    | some (.l xs), some (.i _ k) => if 0 ≤ k ∧ k < xs.length then some (.i .i64 k) else none
    | _, _ => none
  | .at size a i => match val a, val i with
    | some (.l xs), some (.i _ k) => if 0 ≤ k then match xs[k.toNat]? with
      | some x => if x.cells.length = size then some x else none
      | none => none
      else none
    | _, _ => none
  | .cell off a => match val a with
    | some g => match g.cells[off]? with
      | some c => if c.scalar then some c else none
      | none => none
    | none => none
  | .mk l => match valsOf val l with
    | some gs => if gs.all GV.scalar then some (.g gs) else none
    | none => none
  | .ml l => (valsOf val l).map .l
  | .app size bs a b => match val a, val b with
    | some (.l xs), some (.l ys) =>
      if ys.all (GV.elemOk size) = true ∧ 2 * (xs.length + ys.length) * bs ≤ 2 ^ 48 ∧ xs.length + ys.length ≤ 2 ^ 48 then some (.l (xs ++ ys)) else none
    | _, _ => none
  | .upd size off a i vs => match val a, val i, valsOf val vs with
    | some (.l xs), some (.i _ k), some gs =>
      if 0 ≤ k ∧ gs.all GV.scalar = true then match xs[k.toNat]? with
      | some x => if x.cells.length = size then (x.put off gs).map fun y => .l (xs.set k.toNat y) else none
      | none => none
      else none
    | _, _, _ => none
  | .rep size by' z l c => match val z, val l, val c with
    | some x, some (.i _ n), some (.i _ m) =>
      if 0 ≤ n ∧ n ≤ m ∧ by' * m ≤ 2 ^ 48 ∧ m ≤ 2 ^ 60 ∧ x.elemOk size = true then some (.l (List.replicate n.toNat x)) else none
    | _, _, _ => none
  | .bytes a => match val a with
    | some (.s x) => some (.l (byteGs x))
    | _ => none
  | .str a => match val a with
    | some (.l xs) => if xs.length ≤ 2 ^ 48 then (bytesG xs).map .s else none
    | _ => none
  | .sid a => match val a with
    | some (.s x) => some (.s x)
    | _ => none
  | .same a b => match val a, val b with
    | some (.l xs), some (.l ys) => if ys.length = xs.length then some (.l ys) else none
    | _, _ => none
  | .isi a j => match val a with
    | some (.i _ m) => some (.b (decide (m = (j : Int))))
    | _ => none
  | .call f l j => match valsOf val l with
    | some gs => match I f gs with
      | some r => r[j]?
      | none => none
    | none => none
  | .mget z m k => match val z, val m, val k with
    | some d, some (.l xs), some g => some ((assocG g xs).getD d)
    | _, _, _ => none
  | .mhas m k => match val m, val k with
    | some (.l xs), some g => some (.b (assocG g xs).isSome)
    | _, _ => none
  | .mput m k v => match val m, val k, val v with
    | some (.l xs), some g, some u => some (.l (putG g u xs))
    | _, _, _ => none

def opc (o : BinOp) : Nat := BinOp.casesOn o 0 1 2 3 4 5 6 7 8 9 10 11 12 13 14 15 16
theorem opc_inj {o o' : BinOp} (h : Nat.beq (opc o) (opc o') = true) : o = o' := by
  cases o <;> cases o' <;> first | rfl | (simp [opc] at h)
def unc (o : UnOp) : Nat := UnOp.casesOn o 0 1 2 3
theorem unc_inj {o o' : UnOp} (h : Nat.beq (unc o) (unc o') = true) : o = o' := by
  cases o <;> cases o' <;> first | rfl | (simp [unc] at h)
def kc (k : IntKind) : Nat := IntKind.casesOn k 0 1 2 3 4 5 6 7
theorem kc_inj {o o' : IntKind} (h : Nat.beq (kc o) (kc o') = true) : o = o' := by
  cases o <;> cases o' <;> first | rfl | (simp [kc] at h)

def natsEq : List Nat → List Nat → Bool
  | [], [] => true
  | a :: l, b :: m => Nat.beq a b && natsEq l m
  | _, _ => false
theorem natsEq_eq : ∀ {l m : List Nat}, natsEq l m = true → l = m
  | [], [], _ => rfl
  | a :: l, b :: m, h => by
    simp only [natsEq, Bool.and_eq_true] at h
    rw [Nat.eq_of_beq_eq_true h.1, natsEq_eq h.2]
  | [], _ :: _, h => by simp [natsEq] at h
  | _ :: _, [], h => by simp [natsEq] at h
def bytesEq : List UInt8 → List UInt8 → Bool
  | [], [] => true
  | a :: l, b :: m => Nat.beq a.toNat b.toNat && bytesEq l m
  | _, _ => false
theorem bytesEq_eq : ∀ {l m : List UInt8}, bytesEq l m = true → l = m
  | [], [], _ => rfl
  | a :: l, b :: m, h => by
    simp only [bytesEq, Bool.and_eq_true] at h
    rw [UInt8.toNat_inj.1 (Nat.eq_of_beq_eq_true h.1), bytesEq_eq h.2]
  | [], _ :: _, h => by simp [bytesEq] at h
  | _ :: _, [], h => by simp [bytesEq] at h
def intEq (a b : Int) : Bool := match a, b with
  | .ofNat m, .ofNat n => Nat.beq m n
  | .negSucc m, .negSucc n => Nat.beq m n
  | _, _ => false
theorem intEq_eq {a b : Int} (h : intEq a b = true) : a = b := by
  unfold intEq at h; split at h
  · rw [Nat.eq_of_beq_eq_true h]
  · rw [Nat.eq_of_beq_eq_true h]
  · cases h

def Nd.eq (x y : Nd) : Bool :=
  match x with
  | .arg => false
  | .ci k n => match y with | .ci k' n' => Nat.beq (kc k) (kc k') && intEq n n' | _ => false
  | .cb b => match y with | .cb b' => (bif b then b' else !b') | _ => false
  | .cs s => match y with | .cs s' => bytesEq s s' | _ => false
  | .bin op a b => match y with | .bin op' a' b' => Nat.beq a a' && Nat.beq b b' && Nat.beq (opc op) (opc op') | _ => false
  | .binb op a b => match y with | .binb op' a' b' => Nat.beq a a' && Nat.beq b b' && Nat.beq (opc op) (opc op') | _ => false
  | .binc op ks a b => match y with | .binc op' ks' a' b' => Nat.beq a a' && Nat.beq b b' && Nat.beq (opc op) (opc op') && natsEq ks ks' | _ => false
  | .un op a => match y with | .un op' a' => Nat.beq a a' && Nat.beq (unc op) (unc op') | _ => false
  | .mm g a b => match y with | .mm g' a' b' => Nat.beq a a' && Nat.beq b b' && (bif g then g' else !g') | _ => false
  | .conv k a => match y with | .conv k' a' => Nat.beq a a' && Nat.beq (kc k) (kc k') | _ => false
  | .len a => match y with | .len a' => Nat.beq a a' | _ => false
  | .slen a => match y with | .slen a' => Nat.beq a a' | _ => false
  | .sidx a i => match y with | .sidx a' i' => Nat.beq a a' && Nat.beq i i' | _ => false
  | .ssub a l h => match y with | .ssub a' l' h' => Nat.beq a a' && Nat.beq l l' && Nat.beq h h' | _ => false
  | .lsub s a l h => match y with | .lsub s' a' l' h' => Nat.beq s s' && Nat.beq a a' && Nat.beq l l' && Nat.beq h h' | _ => false
  | .idx a i => match y with | .idx a' i' => Nat.beq a a' && Nat.beq i i' | _ => false
  | .at s a i => match y with | .at s' a' i' => Nat.beq s s' && Nat.beq a a' && Nat.beq i i' | _ => false
  | .cell o a => match y with | .cell o' a' => Nat.beq o o' && Nat.beq a a' | _ => false
  | .mk l => match y with | .mk l' => natsEq l l' | _ => false
  | .ml l => match y with | .ml l' => natsEq l l' | _ => false
  | .app z s a b => match y with | .app z' s' a' b' => Nat.beq z z' && Nat.beq s s' && Nat.beq a a' && Nat.beq b b' | _ => false
  | .upd s o a i vs => match y with | .upd s' o' a' i' vs' => Nat.beq s s' && Nat.beq o o' && Nat.beq a a' && Nat.beq i i' && natsEq vs vs' | _ => false
  | .rep s b z l c => match y with | .rep s' b' z' l' c' => Nat.beq s s' && Nat.beq b b' && Nat.beq z z' && Nat.beq l l' && Nat.beq c c' | _ => false
  | .bytes a => match y with | .bytes a' => Nat.beq a a' | _ => false
  | .str a => match y with | .str a' => Nat.beq a a' | _ => false
  | .sid a => match y with | .sid a' => Nat.beq a a' | _ => false
  | .same a b => match y with | .same a' b' => Nat.beq a a' && Nat.beq b b' | _ => false
  | .isi a j => match y with | .isi a' j' => Nat.beq a a' && Nat.beq j j' | _ => false
  | .call f l j => match y with | .call f' l' j' => Nat.beq f f' && Nat.beq j j' && natsEq l l' | _ => false
  | .mget z m k => match y with | .mget z' m' k' => Nat.beq z z' && Nat.beq m m' && Nat.beq k k' | _ => false
  | .mhas m k => match y with | .mhas m' k' => Nat.beq m m' && Nat.beq k k' | _ => false
  | .mput m k v => match y with | .mput m' k' v' => Nat.beq m m' && Nat.beq k k' && Nat.beq v v' | _ => false

theorem nbq {a b : Nat} : Nat.beq a b = true ↔ a = b := ⟨Nat.eq_of_beq_eq_true, fun h => by rw [h]; exact Nat.beq_refl b⟩
theorem natsEq_iff {l m : List Nat} : natsEq l m = true ↔ l = m := ⟨natsEq_eq, fun h => by subst h; induction l with | nil => rfl | cons a l ih => simp [natsEq, ih]⟩
theorem bytesEq_iff {l m : List UInt8} : bytesEq l m = true ↔ l = m := ⟨bytesEq_eq, fun h => by subst h; induction l with | nil => rfl | cons a l ih => simp [bytesEq, ih]⟩
theorem intEq_iff {a b : Int} : intEq a b = true ↔ a = b := ⟨intEq_eq, fun h => by subst h; cases a <;> simp [intEq]⟩
theorem opc_iff {o o' : BinOp} : opc o = opc o' ↔ o = o' := ⟨fun h => opc_inj (nbq.2 h), fun h => by rw [h]⟩
theorem unc_iff {o o' : UnOp} : unc o = unc o' ↔ o = o' := ⟨fun h => unc_inj (nbq.2 h), fun h => by rw [h]⟩
theorem kc_iff {o o' : IntKind} : kc o = kc o' ↔ o = o' := ⟨fun h => kc_inj (nbq.2 h), fun h => by rw [h]⟩
theorem bif_iff {a b : Bool} : (bif a then b else !b) = true ↔ a = b := by cases a <;> cases b <;> simp

theorem Nd.eq_of {x y : Nd} (h : x.eq y = true) : x = y ∧ x ≠ .arg := by
  cases x <;> simp only [Nd.eq] at h
  case arg => cases h
  all_goals
    split at h
    · simp only [Bool.and_eq_true, nbq, natsEq_iff, bytesEq_iff, intEq_iff, opc_iff, unc_iff, kc_iff, bif_iff] at h
      simp_all
    · cases h

/-- The nodes that a run may name, and what is known of conditions. -/
class NodesOf where
  nodes : List Nd
  dec : List (Nat × Bool)
  ka : Nat := 0

def findGo (x : Nd) : List Nd → Nat → Option Nat
  | [], _ => none
  | y :: l, k => bif x.eq y then some k else findGo x l (k + 1)
def findNd [NodesOf] (x : Nd) : Option Nat := findGo x NodesOf.nodes 0
def decGo (n : Nat) : List (Nat × Bool) → Option Bool
  | [] => none
  | p :: l => bif Nat.beq n p.1 then some p.2 else decGo n l
def decOf [NodesOf] (n : Nat) : Option Bool := decGo n NodesOf.dec

theorem findGo_some {x : Nd} : ∀ {l : List Nd} {k n : Nat}, findGo x l k = some n → k ≤ n ∧ l[n - k]? = some x ∧ x ≠ .arg
  | [], _, _, h => by simp [findGo] at h
  | y :: l, k, n, h => by
    simp only [findGo] at h
    cases he : x.eq y with
    | true =>
      rw [he] at h; simp only [cond_true, Option.some.injEq] at h; subst h
      obtain ⟨rfl, h2⟩ := Nd.eq_of he
      exact ⟨Nat.le_refl _, by simp, h2⟩
    | false =>
      rw [he] at h; simp only [cond_false] at h
      obtain ⟨h1, h2, h3⟩ := findGo_some h
      refine ⟨by omega, ?_, h3⟩
      have : n - k = (n - (k + 1)) + 1 := by omega
      rw [this, List.getElem?_cons_succ]; exact h2
theorem findNd_some [NodesOf] {x : Nd} {n : Nat} (h : findNd x = some n) : NodesOf.nodes[n]? = some x ∧ x ≠ .arg := by
  obtain ⟨_, h2, h3⟩ := findGo_some h
  exact ⟨by simpa using h2, h3⟩
theorem decGo_some {n : Nat} {b : Bool} : ∀ {l : List (Nat × Bool)}, decGo n l = some b → (n, b) ∈ l
  | [], h => by simp [decGo] at h
  | p :: l, h => by
    simp only [decGo] at h
    cases he : Nat.beq n p.1 with
    | true =>
      rw [he] at h; simp only [cond_true, Option.some.injEq] at h
      have : p = (n, b) := by rw [← h, Nat.eq_of_beq_eq_true he]
      rw [this]; simp
    | false =>
      rw [he] at h; simp only [cond_false] at h
      exact List.mem_cons_of_mem _ (decGo_some h)

end
end Go.Abs

/-! # AbsDef -/
namespace Go.Abs
noncomputable section

/-- Abstract values: a pointer names an abstract block and an offset. -/
inductive AV where
  | b (x : Bool)
  | i (k : IntKind) (n : Int)
  | s (x : List UInt8)
  | nilp
  | p (id off : Nat)
  | nils
  | sl (id off len : Nat) (cap : Option Nat)
  | nilm
  | mp (id : Nat)
  | nilf
  | fn (f : FuncId) (first caps : List AV)
  | nili
  | ifc (t : TypeId) (v : AV)
  | agg (l : List AV)
  | tup (l : List AV)
  | z (k : IntKind) (lo hi : Int)
  | ro (l : List AV)              -- a slice of elements that nobody changes; without elements it may be nil
  | rp (a : AV) (off : Nat)       -- an address within such an element
  | nd (n : Nat)                  -- a node's value
  | rx (n off : Nat)              -- an address within an element that nobody changes, a node's value
  | sv (id n : Nat)               -- the whole slice of a block of elements, as many as a node's list has; nil, maybe, where there are none
  | pv (id n off : Nat)           -- an address within such a block's element: its number is a node's
  | pd (id n : Nat)               -- the address of such a block's first cell, where there is one
  deriving Inhabited

/-- The concrete place of an abstract block: block, first cell, number of cells, cells an element. -/
structure Place where
  bl : Nat
  ba : Nat
  sz : Nat
  es : Nat

/-- Where the abstract blocks lie, the blocks that nobody changes, and the names of blocks that there are not yet. -/
structure Env where
  pl : Nat → Option Place
  ro : Nat → Option Obj
  gh : Nat → Bool
instance : CoeFun Env (fun _ => Nat → Option Place) := ⟨Env.pl⟩

/-- The program's tables: a global's number, and what its cells hold; what the nodes stand for. -/
class TabsOf extends NodesOf where
  tabs : List (Nat × List AV)
  I : Nat → List GV → Option (List GV)
  val : Nat → Option GV
  nodeOk : ∀ (n : Nat) nd, nodes[n]? = some nd → nd ≠ .arg → ∃ g, val n = some g ∧ nd.den I val = some g
  decOk : ∀ (n : Nat) (b : Bool), (n, b) ∈ dec → val n = some (.b b)

/-- The cells of values, one behind the other. -/
def cellsL (xs : List Value) : List Value := xs.flatMap fun x => x.cells.toList
def cellsAt (cs : Array Value) (off : Nat) (l : List Value) : Prop := ∀ (k : Nat) x, l[k]? = some x → cs[off + k]? = some x

mutual
/-- What ground values stand for, over the blocks that nobody changes. -/
def GR (ro : Nat → Option Obj) : GV → Value → Prop
  | .b x, v => v = .bool x
  | .i k n, v => v = .int k n
  | .s x, v => v = .string ⟨⟨x⟩⟩
  | .g cs, v => ∃ vs, v = .agg ⟨vs⟩ ∧ GRs ro cs vs
  | .l xs, v => (xs = [] ∧ ∃ p, v = .slice p 0 0) ∨ ∃ bl off c ys sz, v = .slice (some ⟨bl, off, none⟩) xs.length c ∧ xs.length ≤ c ∧ GRs ro xs ys ∧ (∀ x ∈ ys, x.cells.size = sz) ∧
      (xs ≠ [] → ∃ cs elem fr, ro bl = some (.cells cs elem fr) ∧ off + (cellsL ys).length ≤ cs.size ∧ cellsAt cs off (cellsL ys))
def GRs (ro : Nat → Option Obj) : List GV → List Value → Prop
  | [], vs => vs = []
  | a :: l, vs => ∃ x xs, vs = x :: xs ∧ GR ro a x ∧ GRs ro l xs
end

variable [TabsOf]
mutual
def VR (η : Env) : AV → Value → Prop
  | .b x, v => v = .bool x
  | .i k n, v => v = .int k n
  | .s x, v => v = .string ⟨⟨x⟩⟩
  | .nilp, v => v = .pointer none
  | .p id off, v => ∃ q, η id = some q ∧ v = .pointer (some ⟨q.bl, q.ba + off, none⟩)
  | .nils, v => v = .slice none 0 0
  | .sl id off len cap, v => ∃ q, η id = some q ∧ len ≤ cap.getD ((q.sz - off) / q.es) ∧ v = .slice (some ⟨q.bl, q.ba + off, none⟩) len (cap.getD ((q.sz - off) / q.es))
  | .nilm, v => v = .map none
  | .mp id, v => ∃ q, η id = some q ∧ v = .map (some q.bl)
  | .nilf, v => v = .nilFunc
  | .fn f fi caps, v => ∃ us vs, v = .func (.func f) ⟨us⟩ ⟨vs⟩ ∧ VRs η fi us ∧ VRs η caps vs
  | .nili, v => v = .nilIface
  | .ifc t a, v => ∃ x, v = .iface t x ∧ VR η a x
  | .agg l, v => ∃ vs, v = .agg ⟨vs⟩ ∧ VRs η l vs
  | .tup l, v => ∃ vs, v = .tuple ⟨vs⟩ ∧ VRs η l vs
  | .z k lo hi, v => ∃ n : Int, lo ≤ n ∧ n ≤ hi ∧ v = .int k n
  | .ro l, v => (l = [] ∧ ∃ p, v = .slice p 0 0) ∨ ∃ bl off c xs sz, v = .slice (some ⟨bl, off, none⟩) l.length c ∧ l.length ≤ c ∧ VRs η l xs ∧ (∀ x ∈ xs, x.cells.size = sz) ∧
      (l ≠ [] → ∃ cs elem fr, η.ro bl = some (.cells cs elem fr) ∧ off + (cellsL xs).length ≤ cs.size ∧ cellsAt cs off (cellsL xs))
  | .rp a off, v => ∃ bl base cs elem fr x, η.ro bl = some (.cells cs elem fr) ∧ VR η a x ∧ v = .pointer (some ⟨bl, base + off, none⟩) ∧ base + x.cells.size ≤ cs.size ∧ cellsAt cs base x.cells.toList
  | .nd n, v => ∃ g, TabsOf.val n = some g ∧ g.scalar = true ∧ GR η.ro g v
  | .rx n off, v => ∃ g bl base cs elem fr x, TabsOf.val n = some g ∧ η.ro bl = some (.cells cs elem fr) ∧ GR η.ro g x ∧ v = .pointer (some ⟨bl, base + off, none⟩) ∧ base + x.cells.size ≤ cs.size ∧ cellsAt cs base x.cells.toList
  | .sv id n, v => ∃ xs, TabsOf.val n = some (.l xs) ∧ ((∃ q, η id = some q ∧ xs.length ≤ q.sz / q.es ∧ v = .slice (some ⟨q.bl, q.ba, none⟩) xs.length (q.sz / q.es)) ∨ (η.gh id = true ∧ xs = [] ∧ v = .slice none 0 0))
  | .pv id n off, v => ∃ q k i, η id = some q ∧ TabsOf.val n = some (.i k i) ∧ v = .pointer (some ⟨q.bl, q.ba + i.toNat * q.es + off, none⟩)
  | .pd id n, v => ∃ xs p, TabsOf.val n = some (.l xs) ∧ v = .pointer p ∧ (xs ≠ [] → ∃ q, η id = some q ∧ p = some ⟨q.bl, q.ba, none⟩)
def VRs (η : Env) : List AV → List Value → Prop
  | [], vs => vs = []
  | a :: l, vs => ∃ x xs, vs = x :: xs ∧ VR η a x ∧ VRs η l xs
end

/-- A binary tree of places 0, 1, ..: quick in the kernel. -/
inductive Tr (α : Type) where
  | nil
  | nd (v : Option α) (l r : Tr α)
  deriving Inhabited

def Tr.val {α : Type} (t : Tr α) : Option α := Tr.casesOn t none (fun v _ _ => v)
def Tr.lft {α : Type} (t : Tr α) : Tr α := Tr.casesOn t .nil (fun _ l _ => l)
def Tr.rgt {α : Type} (t : Tr α) : Tr α := Tr.casesOn t .nil (fun _ _ r => r)
/-- By a path: the recursor itself, which the kernel unfolds quickly. -/
def Tr.getP {α : Type} (p : List Bool) : Tr α → Option α := List.rec (motive := fun _ => Tr α → Option α) Tr.val (fun b _ ih t => ih (bif b then t.lft else t.rgt)) p
def Tr.setP {α : Type} (x : Option α) (p : List Bool) : Tr α → Tr α := List.rec (motive := fun _ => Tr α → Tr α) (fun t => .nd x t.lft t.rgt)
  (fun b _ ih t => bif b then .nd t.val (ih t.lft) t.rgt else .nd t.val t.lft (ih t.rgt)) p
def pathF (f : Nat) : Nat → List Bool := Nat.rec (motive := fun _ => Nat → List Bool) (fun _ => []) (fun _ ih n => bif Nat.beq n 0 then [] else Nat.beq ((n - 1) % 2) 0 :: ih ((n - 1) / 2)) f
def path (n : Nat) : List Bool := pathF (Nat.log2 n + 1) n
def Tr.get {α : Type} (t : Tr α) (n : Nat) : Option α := Tr.getP (path n) t
def Tr.set {α : Type} (t : Tr α) (n : Nat) (x : Option α) : Tr α := Tr.setP x (path n) t

/-- An abstract block. -/
inductive AObj where
  | cells (c : List AV) (et : TypeId) (rw opn : Bool)
  | iter (s : List UInt8) (pos : Nat)
  | map (es : List (AV × AV))
  | iterM (m : Option Nat)        -- a map's iterator that has not moved
  | vec (n : Nat) (et : TypeId) (f : Bool)   -- a block of elements of our own: a node's list, and room behind it; has it room for one?
  | smap (n : Nat) (kk : Option IntKind) (sz : Option Nat)   -- a map: a node's list of pairs; the keys' kind (none: texts); how many cells a value has (none: a scalar)
  | pmap (es : List (List UInt8 × AV))   -- a map from texts that are known, no two the same, that were put in some order
  deriving Inhabited

structure ASt where
  h : Tr AObj
  next : Nat
  lock : Nat
  deriving Inhabited

def ASt.get (σ : ASt) (id : Nat) : Option AObj := σ.h.get id
def ASt.put (σ : ASt) (id : Nat) (o : AObj) : ASt := { σ with h := σ.h.set id (some o) }
def ASt.kill (σ : ASt) (id : Nat) : ASt := { σ with h := σ.h.set id none }
def ASt.new (σ : ASt) (o : AObj) : ASt := { σ with h := σ.h.set σ.next (some o), next := σ.next + 1 }

def optMap {α β : Type} (f : α → Option β) : List α → Option (List β)
  | [] => some []
  | x :: xs => match f x with
    | none => none
    | some y => match optMap f xs with
      | none => none
      | some ys => some (y :: ys)

/-- What a value is that holds no address. -/
def AV.toVal : Nat → AV → Option Value
  | 0, _ => none
  | n + 1, a =>
    match a with
    | .b x => some (.bool x)
    | .i k x => some (.int k x)
    | .s x => some (.string ⟨⟨x⟩⟩)
    | .nilp => some (.pointer none)
    | .nils => some (.slice none 0 0)
    | .nilm => some (.map none)
    | .nilf => some .nilFunc
    | .nili => some .nilIface
    | .ifc t v => (AV.toVal n v).map (.iface t)
    | .agg l => (optMap (AV.toVal n) l).map fun vs => .agg ⟨vs⟩
    | .tup l => (optMap (AV.toVal n) l).map fun vs => .tuple ⟨vs⟩
    | _ => none

def ofVal : Nat → Value → Option AV
  | 0, _ => none
  | n + 1, v =>
    match v with
    | .bool x => some (.b x)
    | .int k x => some (.i k x)
    | .string s => some (.s s.data.toList)
    | .pointer none => some .nilp
    | .slice none 0 0 => some .nils
    | .map none => some .nilm
    | .nilFunc => some .nilf
    | .nilIface => some .nili
    | .iface t x => (ofVal n x).map (.ifc t)
    | .agg cs => (optMap (ofVal n) cs.toList).map .agg
    | .tuple cs => (optMap (ofVal n) cs.toList).map .tup
    | _ => none

def pureRun {α : Type} (P : Program) : Sem α → Option α
  | .pure a => some a
  | .program k => pureRun P (k P)
  | .mark _ k => pureRun P k
  | _ => none

structure AAct where
  t : Tr AV
  n : Nat
  gn : Nat

def AAct.eval (a : AAct) : Operand → Option AV
  | .tmp t => a.t.get t
  | .const v => ofVal 4 v
  | .global g => if g < a.gn then some (.p g 0) else none
  | .func f => some (.fn f [] [])

def AAct.put (a : AAct) (dst : Option Tmp) (v : Option AV) : Option AAct :=
  match dst with
  | none => some a
  | some d => if d < a.n then some { a with t := a.t.set d v } else none

/-- The cells of a value. -/
def AV.cells : AV → List AV
  | .agg l => l
  | v => [v]

def AV.isAddrOrScalar : AV → Bool
  | .agg _ | .tup _ => false
  | _ => true

def zeroCellsOf (P : Program) (t : TypeId) : Option (List AV) :=
  match P.info? t with
  | some i => match i.zero with
    | some z => (ofVal 4 z).map AV.cells
    | none => none
  | none => none

def isAggT (P : Program) (t : TypeId) : Option Bool :=
  match P.underlying t with
  | some (.struct _) | some (.array _ _) => some true
  | some _ => some false
  | none => none

def sizeT (P : Program) (t : TypeId) : Option Nat := (P.info? t).map (·.size)

/-- Cells from a place on. -/
def takeN (l : List AV) (off n : Nat) : Option (List AV) :=
  let r := (l.drop off).take n
  if r.length = n then some r else none

def setRange (l : List AV) (off : Nat) (vs : List AV) : Option (List AV) :=
  if off + vs.length ≤ l.length then some (l.take off ++ vs ++ l.drop (off + vs.length)) else none

def aFill (place : Nat → Option (Nat × Nat)) (cells : List AV) : List (Nat × AV) → Option (List AV)
  | [] => some cells
  | (i, v) :: rest =>
    match place i with
    | none => none
    | some (off, size) =>
      if v.cells.length = size then
        match setRange cells off v.cells with
        | some cs => aFill place cs rest
        | none => none
      else none

def evalParts (ev : Operand → Option AV) : List (Nat × Operand) → Option (List (Nat × AV))
  | [] => some []
  | (i, x) :: rest => match ev x, evalParts ev rest with
    | some v, some r => some ((i, v) :: r)
    | _, _ => none

def evals (ev : Operand → Option AV) : List Operand → Option (List AV)
  | [] => some []
  | x :: rest => match ev x, evals ev rest with
    | some v, some r => some (v :: r)
    | _, _ => none

def aPart (P : Program) (t : TypeId) (cs : List AV) (off : Nat) : Option AV :=
  match isAggT P t with
  | some true => match sizeT P t with
    | some n => (takeN cs off n).map .agg
    | none => none
  | some false => cs[off]?
  | none => none

def sizesOf (P : Program) : List Field → Option (List (Nat × Nat))
  | [] => some []
  | f :: fs => match sizeT P f.type, sizesOf P fs with
    | some n, some r => some ((f.offset, n) :: r)
    | _, _ => none

def aBuild (P : Program) (t : TypeId) (parts : List (Nat × AV)) : Option AV :=
  match zeroCellsOf P t, P.underlying t with
  | some zero, some (.struct fields) =>
    match sizesOf P fields.toList with
    | some places => (aFill (fun i => places[i]?) zero parts).map .agg
    | none => none
  | some zero, some (.array _ elem) =>
    match sizeT P elem with
    | some size => (aFill (fun i => some (i * size, size)) zero parts).map .agg
    | none => none
  | _, _ => none

def repl (n : Nat) (zero : List AV) : List AV := (List.replicate n zero).flatten

def aLoad (P : Program) (t : TypeId) (σ : ASt) (a : AV) : Option AV :=
  match a with
  | .p id off =>
    match σ.get id with
    | some (.cells c _ _ _) =>
      match isAggT P t with
      | some true => match sizeT P t with
        | some n => (takeN c off n).map .agg
        | none => none
      | some false => c[off]?
      | none => none
    | _ => none
  | .rp e off =>
    match isAggT P t with
    | some true => match sizeT P t with
      | some n => (takeN e.cells off n).map .agg
      | none => none
    | some false => e.cells[off]?
    | none => none
  | _ => none

def aStore (P : Program) (t : TypeId) (σ : ASt) (a v : AV) : Option ASt :=
  match a with
  | .p id off =>
    match σ.get id with
    | some (.cells c et true opn) =>
      if σ.lock ≤ id ∧ sizeT P t = some v.cells.length ∧ v.cells.all AV.isAddrOrScalar then
        (setRange c off v.cells).map fun c' => σ.put id (.cells c' et true opn)
      else none
    | _ => none
  | _ => none

def aInt : AV → Option Int
  | .i _ n => some n
  | _ => none

/-- The bounds of a slice expression on 'len', where 'room' tells what is within the capacity. -/
def aHigh (len : Nat) (room : Nat → Bool) : Option AV → Option Nat
  | none => some len
  | some v => match aInt v with
    | some h => if 0 ≤ h ∧ room h.toNat = true then some h.toNat else none
    | none => none
def aLow (h : Nat) : Option AV → Option Nat
  | none => some 0
  | some v => match aInt v with
    | some l => if 0 ≤ l ∧ l ≤ h then some l.toNat else none
    | none => none
def aBounds (len : Nat) (room : Nat → Bool) (low high : Option AV) : Option (Nat × Nat) :=
  match aHigh len room high with
  | none => none
  | some h => match aLow h low with
    | none => none
    | some l => some (l, h)

def optEval (ev : Operand → Option AV) : Option Operand → Option (Option AV)
  | none => some none
  | some x => (ev x).map some

end
end Go.Abs

/-! # AbsEval -/
namespace Go.Abs
noncomputable section
variable [NodesOf]
set_option linter.unusedSectionVars false
set_option linter.unusedVariables false
set_option linter.unusedSimpArgs false

def bytesOf : List AV → Option (List UInt8)
  | [] => some []
  | .i .u8 n :: rest => if 0 ≤ n ∧ n < 256 then (bytesOf rest).map (UInt8.ofNat n.toNat :: ·) else none
  | _ :: _ => none

def byteAVs (s : List UInt8) : List AV := s.map fun b => .i .u8 b.toNat

def scalarOf (a : AV) : Option Value := a.toVal 4

def elemInfo (P : Program) (t : TypeId) : Option (TypeId × Nat × Nat × List AV) :=
  match P.underlying t with
  | some (.slice e) => match P.info? e, zeroCellsOf P e with
    | some i, some z => if e ≠ 0 ∧ z.length = i.size then some (e, i.size, i.bytes, z) else none
    | _, _ => none
  | _ => none

/-- The cells that 'append' and 'copy' take: n elements of a size. -/
def srcCells (σ : ASt) (size : Nat) : AV → Option (Nat × List AV)
  | .nils => some (0, [])
  | .sl id off len _ => match σ.get id with
    | some (.cells c _ _ _) => (takeN c off (len * size)).map fun r => (len, r)
    | _ => none
  | .s x => if size = 1 then some (x.length, byteAVs x) else none
  | .ro l => if l.all (fun a => a.cells.length == size) = true then some (l.length, l.flatMap AV.cells) else none
  | _ => none

def isSrcT (P : Program) (t : TypeId) : Bool :=
  match P.underlying t with
  | some (.slice _) | some .string => true
  | _ => false

def sliceLen : AV → Nat
  | .sl _ _ n _ => n
  | _ => 0

/-- An append of n elements, of these cells. -/
def aAppTo (e size bytes : Nat) (s : AV) (n : Nat) (new : List AV) (σ : ASt) : Option (AV × ASt) :=
  if size = 0 ∨ new.all AV.isAddrOrScalar = false ∨ ¬ (2 * (sliceLen s + n) * bytes ≤ 2 ^ 48 ∧ sliceLen s + n ≤ 2 ^ 48) then none else
  match s with
  | .nils =>
    if n = 0 then some (.nils, σ) else some (.sl σ.next 0 n none, σ.new (.cells new e true true))
  | .sl id off len (some cap) =>
    if len + n ≤ cap then
      if n = 0 then some (s, σ) else
      match σ.get id with
      | some (.cells c et true opn) =>
        if σ.lock ≤ id then
          (setRange c (off + len * size) new).map fun c' => (.sl id off (len + n) (some cap), σ.put id (.cells c' et true opn))
        else none
      | _ => none
    else
      match σ.get id with
      | some (.cells c _ _ _) => (takeN c off (len * size)).map fun old => (.sl σ.next 0 (len + n) none, σ.new (.cells (old ++ new) e true true))
      | _ => none
  | .sl id off len none =>
    if n = 0 then some (s, σ)
    else if σ.lock ≤ id then
      match σ.get id with
      | some (.cells c et true true) => if et = e then (takeN c off (len * size)).map fun old => (.sl σ.next 0 (len + n) none, (σ.kill id).new (.cells (old ++ new) e true true)) else none
      | _ => none
    else none
  | .ro l => if n = 0 then some (.ro l, σ) else none
  | _ => none

def aAppend (P : Program) (argTypes : Array TypeId) (s x : AV) (σ : ASt) : Option (AV × ASt) :=
  match argTypes.toList with
  | [t, t1] =>
    match elemInfo P t, isSrcT P t1 with
    | some (e, size, bytes, _), true =>
      match srcCells σ size x with
      | some (n, new) => aAppTo e size bytes s n new σ
      | none => none
    | _, _ => none
  | _ => none

def aLen (P : Program) (σ : ASt) (t : TypeId) (x : AV) : Option AV :=
  match P.underlying t, x with
  | some .string, .s s => some (.i .i64 s.length)
  | some (.slice _), .nils => some (.i .i64 0)
  | some (.slice _), .sl _ _ n _ => some (.i .i64 n)
  | some (.slice _), .ro l => some (.i .i64 l.length)
  | some (.map _ _), .nilm => some (.i .i64 0)
  | some (.map _ _), .mp id => match σ.get id with
    | some (.map es) => some (.i .i64 es.length)
    | _ => none
  | some (.array n _), _ => some (.i .i64 n)
  | _, _ => none

def aMakeSlice (P : Program) (t : TypeId) (len cap : AV) (σ : ASt) : Option (AV × ASt) :=
  match elemInfo P t, aInt len, aInt cap with
  | some (e, size, bytes, z), some l, some c =>
    if 0 ≤ l ∧ l ≤ c ∧ bytes * c ≤ 2 ^ 48 ∧ c ≤ 2 ^ 60 then
      some (.sl σ.next 0 l.toNat (some c.toNat), σ.new (.cells (if size = 0 then [] else repl c.toNat z) e true false))
    else none
  | _, _, _ => none

/-- A part of a slice that nobody changes: the elements have the type's size. -/
def aRoSlice (size : Nat) (es : List AV) (l h : Nat) : Option AV :=
  if h = l then some (.ro []) else
  match es[0]? with
  | some a => if a.cells.length = size then some (.ro ((es.take h).drop l)) else none
  | none => none

def aSlice (P : Program) (t : TypeId) (σ : ASt) (x : AV) (lo hi : Option AV) : Option AV :=
  match P.underlying t, x with
  | some .string, .s s =>
    (aBounds s.length (fun h => Nat.ble h s.length) lo hi).map fun (l, h) => .s ((s.take h).drop l)
  | some (.slice e), .sl id off len cap =>
    match sizeT P e, cap with
    | some size, some c =>
      (aBounds len (fun h => Nat.ble h c) lo hi).bind fun (l, h) =>
        if c = l then some (.sl id off (h - l) (some 0)) else some (.sl id (off + l * size) (h - l) (some (c - l)))
    | some size, none =>
      match σ.get id with
      | some (.cells _ et _ true) => if et = e then
          (aBounds len (fun h => Nat.ble h len) lo hi).bind fun (l, h) =>
            if l < len then some (.sl id (off + l * size) (h - l) none) else if l = 0 then some (.sl id off (h - l) none) else if h = l then some (.ro []) else none
        else none
      | _ => none
    | none, _ => none
  | some (.slice e), .nils => match sizeT P e with
    | some _ => (aBounds 0 (fun h => Nat.ble h 0) lo hi).map fun _ => .nils
    | none => none
  | some (.slice e), .ro es => match sizeT P e with
    | some size => (aBounds es.length (fun h => Nat.ble h es.length) lo hi).bind fun (l, h) => aRoSlice size es l h
    | none => none
  | some (.array n e), .p id off => match sizeT P e with
    | some size => (aBounds n (fun h => Nat.ble h n) lo hi).map fun (l, h) =>
        if n = l then .sl id off (h - l) (some 0) else .sl id (off + l * size) (h - l) (some (n - l))
    | none => none
  | _, _ => none

def aFieldAddr (P : Program) (t : TypeId) (x : AV) (f : Nat) : Option AV :=
  match P.underlying t, x with
  | some (.struct fields), .p id off =>
    match fields[f]? with
    | some fd => match sizeT P fd.type with
      | some n => if n = 0 then none else some (.p id (off + fd.offset))
      | none => none
    | none => none
  | some (.struct fields), .rp a off =>
    match fields[f]? with
    | some fd => match sizeT P fd.type with
      | some n => if n = 0 then none else some (.rp a (off + fd.offset))
      | none => none
    | none => none
  | _, _ => none

def aField (P : Program) (t : TypeId) (x : AV) (f : Nat) : Option AV :=
  match P.underlying t, x with
  | some (.struct fields), .agg cs =>
    match fields[f]? with
    | some fd => aPart P fd.type cs fd.offset
    | none => none
  | _, _ => none

def aIndexAddr (P : Program) (t : TypeId) (x ix : AV) : Option AV :=
  match P.underlying t, x, aInt ix with
  | some (.slice e), .sl id off len _, some k =>
    match sizeT P e with
    | some size => if 0 ≤ k ∧ k < len then some (.p id (off + k.toNat * size)) else none
    | none => none
  | some (.array len e), .p id off, some k =>
    match sizeT P e with
    | some size => if 0 ≤ k ∧ k < len then some (.p id (off + k.toNat * size)) else none
    | none => none
  | some (.slice e), .ro l, some k =>
    match sizeT P e with
    | some size => if 0 ≤ k then match l[k.toNat]? with
      | some a => if a.cells.length = size then some (.rp a 0) else none
      | none => none
      else none
    | none => none
  | some (.array len e), .rp a off, some k =>
    match sizeT P e with
    | some size => if 0 ≤ k ∧ k < len then some (.rp a (off + k.toNat * size)) else none
    | none => none
  | _, _, _ => none

def aIndex (P : Program) (t : TypeId) (x ix : AV) : Option AV :=
  match P.underlying t, x, aInt ix with
  | some .string, .s s, some k =>
    if 0 ≤ k then match s[k.toNat]? with
      | some c => some (.i .u8 c.toNat)
      | none => none
    else none
  | some (.array len e), .agg cs, some k =>
    match sizeT P e with
    | some size => if 0 ≤ k ∧ k < len then aPart P e cs (k.toNat * size) else none
    | none => none
  | _, _, _ => none

def aConvert (P : Program) (src dst : TypeId) (x : AV) (σ : ASt) : Option (AV × ASt) :=
  match P.underlying src, P.underlying dst, x with
  | some _, some (.int k), .i _ n => some (.i k (k.wrap n), σ)
  | some .string, some .string, .s s => some (.s s, σ)
  | some .string, some (.slice e), .s s =>
    match P.underlying e with
    | some (.int .u8) => if e ≠ 0 ∧ sizeT P e = some 1 then some (.sl σ.next 0 s.length none, σ.new (.cells (byteAVs s) e true true)) else none
    | _ => none
  | some (.slice e), some .string, .nils =>
    match P.underlying e with
    | some (.int .u8) => some (.s [], σ)
    | _ => none
  | some (.slice e), some .string, .sl id off len _ =>
    match P.underlying e, σ.get id with
    | some (.int .u8), some (.cells c _ _ _) => match takeN c off len with
      | some r => (bytesOf r).map fun b => (.s b, σ)
      | none => none
    | _, _ => none
  | some (.slice e), some .string, .ro l =>
    match P.underlying e with
    | some (.int .u8) => (bytesOf l).map fun b => (.s b, σ)
    | _ => none
  | some (.pointer t), some .unsafePointer, .p id off =>
    match σ.get id, sizeT P t with
    | some (.cells c et _ false), some n => if et ≠ 0 ∧ off < c.length ∧ n ≠ 0 then some (.p id off, σ) else none
    | _, _ => none
  | some .unsafePointer, some (.pointer u), .p id off =>
    match σ.get id, sizeT P u with
    | some (.cells c et _ false), some _ => if et ≠ 0 ∧ liesAt P P.depth et (c.length / P.cellsOf et) off u 1 = true then some (.p id off, σ) else none
    | _, _ => none
  | _, _, _ => none

/-- Two integers of which bounds are known. -/
def cmpZ (op : BinOp) (a b c d : Int) : Option AV :=
  match op with
  | .lss => if b < c then some (.b true) else if d ≤ a then some (.b false) else none
  | .leq => if b ≤ c then some (.b true) else if d < a then some (.b false) else none
  | .gtr => if d < a then some (.b true) else if b ≤ c then some (.b false) else none
  | .geq => if d ≤ a then some (.b true) else if b < c then some (.b false) else none
  | .eql => if b < c ∨ d < a then some (.b false) else none
  | .neq => if b < c ∨ d < a then some (.b true) else none
  | _ => none

/-- An interface value's or a pointer's comparison with nil, or of scalars. -/
def aBin (P : Program) (op : BinOp) (t : TypeId) (x y : Operand) (a b : AV) : Option AV :=
  match op, a, b with
  | .eql, .p id off, .p id' off' => match P.underlying t with
    | some (.pointer e) => match sizeT P e with
      | some n => if id = id' ∧ n ≠ 0 then some (.b (off == off')) else none
      | none => none
    | _ => none
  | .neq, .p id off, .p id' off' => match P.underlying t with
    | some (.pointer e) => match sizeT P e with
      | some n => if id = id' ∧ n ≠ 0 then some (.b (!(off == off'))) else none
      | none => none
    | _ => none
  | .eql, .p _ _, .nilp | .eql, .nilp, .p _ _ => match P.underlying t with
    | some (.pointer _) => some (.b false)
    | _ => none
  | .neq, .p _ _, .nilp | .neq, .nilp, .p _ _ => match P.underlying t with
    | some (.pointer _) => some (.b true)
    | _ => none
  | .eql, .ro (_ :: _), .nils | .eql, .nils, .ro (_ :: _) => match P.underlying t with
    | some (.slice _) => some (.b false)
    | _ => none
  | .neq, .ro (_ :: _), .nils | .neq, .nils, .ro (_ :: _) => match P.underlying t with
    | some (.slice _) => some (.b true)
    | _ => none
  | .eql, .rp _ _, .nilp | .eql, .nilp, .rp _ _ => match P.underlying t with
    | some (.pointer _) => some (.b false)
    | _ => none
  | .neq, .rp _ _, .nilp | .neq, .nilp, .rp _ _ => match P.underlying t with
    | some (.pointer _) => some (.b true)
    | _ => none
  | .eql, .sl .., .nils | .eql, .nils, .sl .. => match P.underlying t with
    | some (.slice _) => some (.b false)
    | _ => none
  | .neq, .sl .., .nils | .neq, .nils, .sl .. => match P.underlying t with
    | some (.slice _) => some (.b true)
    | _ => none
  | .eql, .ifc _ _, .nili | .eql, .nili, .ifc _ _ => match P.underlying t with
    | some (.interface _) => some (.b false)
    | _ => none
  | .neq, .ifc _ _, .nili | .neq, .nili, .ifc _ _ => match P.underlying t with
    | some (.interface _) => some (.b true)
    | _ => none
  | .eql, .mp _, .nilm | .eql, .nilm, .mp _ => match P.underlying t with
    | some (.map _ _) => some (.b false)
    | _ => none
  | .neq, .mp _, .nilm | .neq, .nilm, .mp _ => match P.underlying t with
    | some (.map _ _) => some (.b true)
    | _ => none
  | _, .z k lo hi, .i k' n => if k = k' then cmpZ op lo hi n n else none
  | _, .i k n, .z k' lo hi => if k = k' then cmpZ op n n lo hi else none
  | _, _, _ =>
    match scalarOf a, scalarOf b with
    | some u, some v => (pureRun P (do eqGuard op t x y u v; binOp op t u v)).bind (ofVal 4)
    | _, _ => none

def keySame : AV → AV → Option Bool
  | .i k a, .i k' b => if k = k' then some (a == b) else none
  | .s a, .s b => some (a == b)
  | .b a, .b b => some (a == b)
  | .z k lo hi, .i k' b => if k = k' ∧ (b < lo ∨ hi < b) then some false else none
  | _, _ => none

def findA (k : AV) : List (AV × AV) → Nat → Option (Option (Nat × AV))
  | [], _ => some none
  | e :: es, i => match keySame k e.1 with
    | some true => some (some (i, e.2))
    | some false => findA k es (i + 1)
    | none => none

def plainKey (P : Program) (t : TypeId) : Bool :=
  match P.underlying t with
  | some (.int _) | some .string | some .bool => true
  | _ => false

def fitKey (P : Program) (t : TypeId) (k : AV) : Bool :=
  match P.underlying t, k with
  | some (.int _), .i _ _ | some (.int _), .z _ _ _ | some .string, .s _ | some .bool, .b _ => true
  | _, _ => false

def aLookup (P : Program) (t : TypeId) (m k : AV) (ok : Bool) (σ : ASt) : Option AV :=
  match P.underlying t with
  | some (.map kt et) =>
    match (match m with | .nilm => some [] | .mp id => (match σ.get id with | some (.map es) => some es | _ => none) | _ => none) with
    | some es =>
      if fitKey P kt k then
        match findA k es 0 with
        | some (some (_, v)) => some (if ok then .tup [v, .b true] else v)
        | some none =>
          match P.info? et with
          | some i => match i.zero with
            | some z => (ofVal 4 z).map fun z => if ok then .tup [z, .b false] else z
            | none => none
          | none => none
        | none => none
      else none
    | none => none
  | _ => none

def aMapUpdate (P : Program) (t : TypeId) (m k v : AV) (σ : ASt) : Option ASt :=
  match P.underlying t, m with
  | some (.map kt _), .mp id =>
    match σ.get id with
    | some (.map es) =>
      if σ.lock ≤ id ∧ fitKey P kt k then
        match findA k es 0 with
        | some (some (i, _)) => some (σ.put id (.map (es.set i (k, v))))
        | some none => some (σ.put id (.map (es ++ [(k, v)])))
        | none => none
      else none
    | _ => none
  | _, _ => none

def isIfaceT (P : Program) (t : TypeId) : Option Bool :=
  match P.underlying t with
  | some (.interface _) => some true
  | some _ => some false
  | none => none

def aTypeAssert (P : Program) (x : AV) (t : TypeId) (ok : Bool) : Option AV :=
  match isIfaceT P t, x with
  | some false, .ifc u v =>
    if u = t then some (if ok then .tup [v, .b true] else v)
    else if ok then match P.info? t with
      | some i => match i.zero with
        | some z => (ofVal 4 z).map fun z => .tup [z, .b false]
        | none => none
      | none => none
    else none
  | some false, .nili =>
    if ok then match P.info? t with
      | some i => match i.zero with
        | some z => (ofVal 4 z).map fun z => .tup [z, .b false]
        | none => none
      | none => none
    else none
  | _, _ => none

def aNext (it : AV) (σ : ASt) : Option (AV × ASt) :=
  match it with
  | .p id 0 =>
    match σ.get id with
    | some (.iter s pos) =>
      if σ.lock ≤ id then
        if pos < s.length then
          let r := Utf8.decode ⟨⟨s⟩⟩ pos
          some (.tup [.b true, .i .i64 pos, .i .i32 r.1], σ.put id (.iter s (pos + r.2)))
        else some (.tup [.b false], σ)
      else none
    | _ => none
  | _ => none

def aCopy (P : Program) (argTypes : Array TypeId) (d x : AV) (σ : ASt) : Option (AV × ASt) :=
  match argTypes[0]? with
  | some t =>
    match elemInfo P t, d with
    | some (_, size, _, _), .sl id off dLen _ =>
      match srcCells σ size x, σ.get id with
      | some (n, new), some (.cells c et true opn) =>
        let k := Nat.min n dLen
        if size = 0 then none else
        if σ.lock ≤ id ∧ new.all AV.isAddrOrScalar then
          (setRange c off (new.take (k * size))).map fun c' => (.i .i64 k, σ.put id (.cells c' et true opn))
        else none
      | _, _ => none
    | some (_, size, _, _), .nils => match srcCells σ size x with
      | some _ => some (.i .i64 0, σ)
      | none => none
    | _, _ => none
  | none => none

/-- clear: the elements become zero; a map becomes empty. -/
def aClear (P : Program) (t : TypeId) (x : AV) (σ : ASt) : Option (AV × ASt) :=
  match P.underlying t, x with
  | some (.slice _), .nils => some (.tup [], σ)
  | some (.slice _), .ro [] => some (.tup [], σ)
  | some (.slice e), .sl id off n _ =>
    if n = 0 then some (.tup [], σ) else
    match zeroCellsOf P e, σ.get id with
    | some z, some (.cells c et true opn) =>
      if σ.lock ≤ id ∧ z.all AV.isAddrOrScalar then
        (setRange c off (repl n z)).map fun c' => (.tup [], σ.put id (.cells c' et true opn))
      else none
    | _, _ => none
  | some (.map _ _), .nilm => some (.tup [], σ)
  | some (.map _ _), .mp id => match σ.get id with
    | some (.map _) => if σ.lock ≤ id then some (.tup [], σ.put id (.map [])) else none
    | _ => none
  | _, _ => none

/-! ### Values that are named by nodes -/

/-- Are two nodes different constants? -/
def constNe (m m' : Nat) : Bool := match NodesOf.nodes[m]?, NodesOf.nodes[m']? with
  | some (.ci k a), some (.ci k' b) => Nat.beq (kc k) (kc k') && !(intEq a b)
  | some (.cs a), some (.cs b) => !(bytesEq a b)
  | _, _ => false
/-- Was it decided that a node is another constant? -/
def neKnown (n m : Nat) : List (Nat × Bool) → Bool
  | [] => false
  | p :: l => (bif p.2 then (match NodesOf.nodes[p.1]? with
    | some (.bin .eql n' m') => Nat.beq n n' && constNe m m'
    | _ => false) else false) || neKnown n m l
/-- The comparison that says the contrary. -/
def complOp : BinOp → Option BinOp
  | .eql => some .neq
  | .neq => some .eql
  | .lss => some .geq
  | .geq => some .lss
  | .leq => some .gtr
  | .gtr => some .leq
  | _ => none
/-- Was a comparison of two nodes decided? -/
def cmpKnown (c n m : Nat) : List (Nat × Bool) → Option Bool
  | [] => none
  | p :: l => match NodesOf.nodes[p.1]? with
    | some (.bin op n' m') => bif Nat.beq n n' && Nat.beq m m' && Nat.beq (opc op) c then some p.2 else cmpKnown c n m l
    | _ => cmpKnown c n m l
def ruleC (op : BinOp) (n m : Nat) : Option Bool := match complOp op with
  | some op' => (cmpKnown (opc op') n m NodesOf.dec).map fun b => !b
  | none => none
def ruleD (x : Nd) : Option Bool := match x with
  | .bin .eql n m => bif neKnown n m NodesOf.dec then some false else ruleC .eql n m
  | .bin .neq n m => bif neKnown n m NodesOf.dec then some true else ruleC .neq n m
  | .bin op n m => ruleC op n m
  | _ => none
/-- The node of a value, by how it comes. -/
def mkN (x : Nd) : Option AV :=
  match findNd x with
  | some n => match decOf n with
    | some b => some (.b b)
    | none => match ruleD x with
      | some b => some (.b b)
      | none => some (.nd n)
  | none => none
def nodeOf : AV → Option Nat
  | .nd n => some n
  | .i k n => findNd (.ci k n)
  | .b x => findNd (.cb x)
  | .s x => findNd (.cs x)
  | .nils => findNd (.ml [])
  | _ => none
def nodesOf : List AV → Option (List Nat)
  | [] => some []
  | a :: l => match nodeOf a, nodesOf l with
    | some n, some r => some (n :: r)
    | _, _ => none
def aggNode : AV → Option Nat
  | .agg l => match nodesOf l with
    | some ns => findNd (.mk ns)
    | none => none
  | _ => none

/-- Are a list's elements as many as another one's, by how it came of it? -/
def sameLen : Nat → Nat → Nat → Bool
  | 0, m, n => Nat.beq m n
  | f + 1, m, n => Nat.beq m n || match NodesOf.nodes[m]? with
    | some (.upd _ _ a _ _) => sameLen f a n
    | some (.same a _) => sameLen f a n
    | _ => false

/-- The elements of a list of cells, as nodes. -/
def elemsOf (agg : Bool) (size : Nat) : Nat → List AV → Option (List Nat)
  | 0, _ => some []
  | n + 1, cs => match (if agg then aggNode (.agg (cs.take size)) else (cs.head?).bind nodeOf), elemsOf agg size n (cs.drop size) with
    | some a, some r => some (a :: r)
    | _, _ => none

/-- The node of what a slice, or a text's bytes, holds. -/
def listOf (P : Program) (σ : ASt) (e : TypeId) : AV → Option Nat
  | .nd n => some n
  | .nils => findNd (.ml [])
  | .sv id n => match σ.get id with
    | some (.vec m et _) => if Nat.beq e et && sameLen 100 m n then some m else none
    | _ => none
  | .sl id off len _ => match σ.get id, sizeT P e, isAggT P e with
    | some (.cells c et _ _), some size, some agg => if Nat.beq e et && ((agg && Nat.blt 0 size) || Nat.beq size 1) then match takeN c off (len * size) with
      | some cs => match elemsOf agg size len cs with
        | some ns => findNd (.ml ns)
        | none => none
      | none => none
      else none
    | _, _, _ => none
  | _ => none

def isSymA (a : AV) : Bool :=
  match a with
  | .nd _ | .rx _ _ | .sv _ _ | .pv _ _ _ | .pd _ _ => true
  | _ => false

/-- A struct of plain fields: how many there are. -/
def plainT (P : Program) (t : TypeId) : Option Nat :=
  match P.underlying t with
  | some (.int _) => some 0
  | some .string => some 1
  | some .bool => some 2
  | _ => none
def plainFields (P : Program) : List Field → Nat → Option (List Nat)
  | [], _ => some []
  | f :: fs, k => if !(f.name == "_") && Nat.beq f.offset k then match plainT P f.type, plainFields P fs (k + 1) with
    | some a, some r => some (a :: r)
    | _, _ => none
    else none

def symBin (P : Program) (op : BinOp) (t : TypeId) (a b : AV) : Option AV :=
  match P.underlying t with
  | some (.int _) | some .string => match nodeOf a, nodeOf b with
    | some x, some y => mkN (.bin op x y)
    | _, _ => none
  | some .bool => match nodeOf a, nodeOf b with
    | some x, some y => mkN (.binb op x y)
    | _, _ => none
  | some (.struct fs) => if !(P.stoodInHeld t) && !(P.eqGuardType P.depth t) then match plainFields P fs.toList 0, aggNode a, aggNode b with
      | some ks, some x, some y => mkN (.binc op ks x y)
      | _, _, _ => none
    else none
  | some (.pointer _) => match op, a, b with
    | .eql, .rx _ _, .nilp | .eql, .nilp, .rx _ _ => some (.b false)
    | .neq, .rx _ _, .nilp | .neq, .nilp, .rx _ _ => some (.b true)
    | .eql, .pv _ _ _, .nilp | .eql, .nilp, .pv _ _ _ => some (.b false)
    | .neq, .pv _ _ _, .nilp | .neq, .nilp, .pv _ _ _ => some (.b true)
    | _, _, _ => none
  | _ => none

def symUn (op : UnOp) (a : AV) : Option AV :=
  match a with
  | .nd n => mkN (.un op n)
  | _ => none

def symConvert (P : Program) (src dst : TypeId) (x : AV) (σ : ASt) : Option (AV × ASt) :=
  match P.underlying src, P.underlying dst, x with
  | some _, some (.int k), .nd n => (mkN (.conv k n)).map (·, σ)
  | some .string, some .string, .nd n => (mkN (.sid n)).map (·, σ)
  | some .string, some (.slice e), .nd n =>
    match P.underlying e with
    | some (.int .u8) => if e ≠ 0 ∧ sizeT P e = some 1 then match findNd (.bytes n) with
        | some m => some (.sv σ.next m, σ.new (.vec m e false))
        | none => none
      else none
    | _ => none
  | some (.slice e), some .string, x =>
    match P.underlying e with
    | some (.int .u8) => match listOf P σ e x with
        | some m => (mkN (.str m)).map (·, σ)
        | none => none
    | _ => none
  | _, _, _ => none

def symLen (P : Program) (t : TypeId) (x : AV) : Option AV :=
  match P.underlying t, x with
  | some .string, .nd n => mkN (.slen n)
  | some (.slice _), .nd n => mkN (.len n)
  | some (.slice _), .sv _ n => mkN (.len n)
  | _, _ => none

/-- A truth value, where it is decided. -/
def dB (a : Option AV) : Option AV :=
  match a with
  | some (.nd n) => match decOf n with
    | some b => some (.b b)
    | none => none
  | x => x
/-! Maps whose keys are not known. -/
/-- An index that is not known, told apart: which number is it? -/
def litIx (i : Nat) : Nat → Nat → Option AV
  | 0, _ => none
  | c + 1, j => match mkN (.isi i j) with
    | some (.b true) => some (.i .i64 j)
    | some (.b false) => litIx i c (j + 1)
    | some (.nd m) => match dB (some (.nd m)) with
      | some (.b true) => some (.i .i64 j)
      | some (.b false) => litIx i c (j + 1)
      | _ => none
    | _ => none
def symIndex (P : Program) (t : TypeId) (x ix : AV) : Option AV :=
  match P.underlying t with
  | some .string => match nodeOf x, nodeOf ix with
    | some n, some i => mkN (.sidx n i)
    | _, _ => none
  | some (.array len _) => match nodeOf ix with
    | some i => match litIx i len 0 with
      | some k => aIndex P t x k
      | none => none
    | none => none
  | _ => none

def boundLo : Option AV → Option Nat
  | none => findNd (.ci .i64 0)
  | some a => nodeOf a
def boundHi (x : Nd) : Option AV → Option Nat
  | none => findNd x
  | some a => nodeOf a

def symSlice (P : Program) (t : TypeId) (x : AV) (lo hi : Option AV) : Option AV :=
  match P.underlying t with
  | some .string => match nodeOf x with
    | some n => match boundLo lo, boundHi (.slen n) hi with
      | some l, some h => mkN (.ssub n l h)
      | _, _ => none
    | none => none
  | some (.slice e) => match x, sizeT P e with
    | .nd n, some size => match boundLo lo, boundHi (.len n) hi with
      | some l, some h => mkN (.lsub size n l h)
      | _, _ => none
    | _, _ => none
  | _ => none

/-- A slice of a list of our own: a shorter one from the first on is our own; another one is frozen. -/
def symSliceS (P : Program) (t : TypeId) (σ : ASt) (x : AV) (lo hi : Option AV) : Option (AV × ASt) :=
  match P.underlying t, x with
  | some (.slice e), .sv id n => match σ.get id, sizeT P e with
    | some (.vec m et f), some size => if Nat.beq e et && sameLen 100 m n && Nat.ble σ.lock id then
        match lo with
        | none => match boundLo none, boundHi (.len m) hi with
          | some z, some h => (findNd (.lsub size m z h)).map fun k => (.sv id k, σ.put id (.vec k et f))
          | _, _ => none
        | some _ => (symSlice P t (.nd m) lo hi).map (·, σ.kill id)
      else none
    | _, _ => none
  | _, _ => none

def symFieldAddr (P : Program) (t : TypeId) (x : AV) (f : Nat) : Option AV :=
  match P.underlying t with
  | some (.struct fields) =>
    match fields[f]? with
    | some fd => match sizeT P fd.type with
      | some n => if n = 0 then none else match x with
        | .rx m off => some (.rx m (off + fd.offset))
        | .pv id m off => some (.pv id m (off + fd.offset))
        | _ => none
      | none => none
    | none => none
  | _ => none

def symIndexAddr (P : Program) (σ : ASt) (t : TypeId) (x ix : AV) : Option AV :=
  match P.underlying t with
  | some (.slice e) => match sizeT P e, nodeOf ix with
    | some size, some i => match x with
      | .nd n => (findNd (.at size n i)).map fun m => .rx m 0
      | .sv id n => match σ.get id with
        | some (.vec _ et _) => if Nat.beq e et then (findNd (.idx n i)).map fun m => .pv id m 0 else none
        | _ => none
      | .sl _ _ len _ => match litIx i len 0 with
        | some k => aIndexAddr P t x k
        | none => none
      | _ => none
    | _, _ => none
  | some (.array len _) => match nodeOf ix with
    | some i => match litIx i len 0 with
      | some k => aIndexAddr P t x k
      | none => none
    | none => none
  | _ => none

/-- Cells of an element. -/
def cellNs (m : Nat) : Nat → Nat → Option (List AV)
  | _, 0 => some []
  | off, n + 1 => match mkN (.cell off m), cellNs m (off + 1) n with
    | some a, some r => some (a :: r)
    | _, _ => none
def symPart (P : Program) (t : TypeId) (m off : Nat) : Option AV :=
  match isAggT P t with
  | some true => match sizeT P t with
    | some n => (cellNs m off n).map .agg
    | none => none
  | some false => mkN (.cell off m)
  | none => none
def symLoad (P : Program) (t : TypeId) (σ : ASt) (a : AV) : Option AV :=
  match a with
  | .rx m off => symPart P t m off
  | .pv id i off => match σ.get id with
    | some (.vec m et _) => match sizeT P et with
      | some size => match findNd (.at size m i) with
        | some x => symPart P t x off
        | none => none
      | none => none
    | _ => none
  | _ => none

/-- A key's node, and its kind (none: a text). -/
def keyNode (P : Program) (kt : TypeId) (k : AV) : Option (Nat × Option IntKind) :=
  match P.underlying kt, nodeOf k with
  | some (.int kk), some n => match findNd (.ci kk 0) with
    | some z => (findNd (.bin .eql n z)).map fun _ => (n, some kk)
    | none => none
  | some .string, some n => match findNd (.cs []) with
    | some z => (findNd (.bin .eql n z)).map fun _ => (n, none)
    | none => none
  | _, _ => none
/-- Is a key an entry's? -/
def keySameN (n : Nat) (e : AV) : Option Bool :=
  match nodeOf e with
  | some m => match (mkN (.bin .eql n m)) with
    | some (.b b) => some b
    | some (.nd j) => match dB (some (.nd j)) with
      | some (.b b) => some b
      | _ => none
    | _ => none
  | none => none
def findN (n : Nat) : List (AV × AV) → Nat → Option (Option (Nat × AV))
  | [], _ => some none
  | e :: es, i => match keySameN n e.1 with
    | some true => some (some (i, e.2))
    | some false => findN n es (i + 1)
    | none => none
/-- A value as a node, by its type; and of how many cells it is. -/
def valNode (P : Program) (et : TypeId) (v : AV) : Option (Nat × Option Nat) :=
  match isAggT P et with
  | some true => match aggNode v, sizeT P et with
    | some n, some k => if Nat.beq v.cells.length k then some (n, some k) else none
    | _, _ => none
  | some false => (nodeOf v).map (·, none)
  | none => none
def kkEq : Option IntKind → Option IntKind → Bool
  | none, none => true
  | some a, some b => Nat.beq (kc a) (kc b)
  | _, _ => false
def szEq : Option Nat → Option Nat → Bool
  | none, none => true
  | some a, some b => Nat.beq a b
  | _, _ => false
def zeroAV (P : Program) (et : TypeId) : Option AV :=
  match P.info? et with
  | some i => match i.zero with
    | some z => ofVal 4 z
    | none => none
  | none => none
def symLookup (P : Program) (t : TypeId) (m k : AV) (ok : Bool) (σ : ASt) : Option AV :=
  match P.underlying t, m with
  | some (.map kt et), .mp id =>
    match keyNode P kt k, σ.get id with
    | some (n, _), some (.map es) => match findN n es 0 with
      | some (some (_, v)) => some (if ok then .tup [v, .b true] else v)
      | some none => (zeroAV P et).map fun z => if ok then .tup [z, .b false] else z
      | none => none
    | some (n, kk), some (.pmap es) =>
      if kkEq kk none then match findN n (es.map fun e => (AV.s e.1, e.2)) 0 with
        | some (some (_, v)) => some (if ok then .tup [v, .b true] else v)
        | some none => (zeroAV P et).map fun z => if ok then .tup [z, .b false] else z
        | none => none
      else none
    | some (n, kk), some (.smap j kk' sz) =>
      if kkEq kk kk' then match (zeroAV P et).bind (valNode P et) with
        | some (z, sz') => if szEq sz sz' then match (findNd (.mget z j n)).bind fun g => symPart P et g 0 with
          | some v => if ok then match mkN (.mhas j n) with
              | some b => some (.tup [v, b])
              | none => none
            else some v
          | none => none
          else none
        | none => none
      else none
    | _, _ => none
  | _, _ => none
def symMapUpdate (P : Program) (t : TypeId) (m k v : AV) (σ : ASt) : Option ASt :=
  match P.underlying t, m with
  | some (.map kt et), .mp id =>
    if Nat.ble σ.lock id then
      match keyNode P kt k, valNode P et v, σ.get id with
      | some (n, kk), some (u, sz), some (.map []) => match findNd (.ml []) with
        | some j => (findNd (.mput j n u)).map fun j' => σ.put id (.smap j' kk sz)
        | none => none
      | some (n, kk), some (u, sz), some (.smap j kk' sz') =>
        if kkEq kk kk' && szEq sz sz' then (findNd (.mput j n u)).map fun j' => σ.put id (.smap j' kk sz) else none
      | _, _, _ => none
    else none
  | _, _ => none
/-- May a map be made of this size? -/
def mapArg (v : AV) : Bool := match v with
  | .nd n => (match NodesOf.nodes[n]? with
    | some (.len _) => true
    | _ => false)
  | v => (aInt v).isSome

def symStore (P : Program) (t : TypeId) (σ : ASt) (a v : AV) : Option ASt :=
  match a with
  | .pv id i off => match σ.get id with
    | some (.vec m et f) =>
      if σ.lock ≤ id ∧ sizeT P t = some v.cells.length then
        match sizeT P et, nodesOf v.cells with
        | some size, some vs => match findNd (.upd size off m i vs) with
          | some m' => some (σ.put id (.vec m' et f))
          | none => none
        | _, _ => none
      else none
    | _ => none
  | _ => none

def symAppend (P : Program) (argTypes : Array TypeId) (s x : AV) (σ : ASt) : Option (AV × ASt) :=
  match argTypes.toList with
  | [t, t1] =>
    match elemInfo P t with
    | some (e, size, bytes, _) =>
      if size = 0 then none else
      match (match P.underlying t1 with
        | some .string => if size = 1 then match nodeOf x with
            | some n => findNd (.bytes n)
            | none => none
          else none
        | some (.slice _) => listOf P σ e x
        | _ => none) with
      | none => none
      | some b =>
        match s with
        | .nils => match findNd (.ml []) with
          | some a => (findNd (.app size bytes a b)).map fun m => (.sv σ.next m, σ.new (.vec m e true))
          | none => none
        | .sv id n => match σ.get id with
          | some (.vec a et f) => if Nat.beq et e && sameLen 100 a n && Nat.ble σ.lock id then (findNd (.app size bytes a b)).map fun m => (.sv σ.next m, (σ.kill id).new (.vec m e f)) else none
          | _ => none
        | .sl id 0 0 (some 0) => match σ.get id with
          | some (.cells [] et true false) => if Nat.beq et e && Nat.ble σ.lock id then match findNd (.ml []) with
            | some a => (findNd (.app size bytes a b)).map fun m => (.sv σ.next m, (σ.kill id).new (.vec m e false))
            | none => none
            else none
          | _ => none
        | .sl id 0 len none => match σ.get id with
          | some (.cells c et true true) => if Nat.beq et e && Nat.ble σ.lock id && Nat.beq c.length (len * size) then match listOf P σ e (.sl id 0 len none) with
            | some a => (findNd (.app size bytes a b)).map fun m => (.sv σ.next m, (σ.kill id).new (.vec m e false))
            | none => none
            else none
          | _ => none
        | _ => none
    | none => none
  | _ => none

/-- The node of a literal's elements, where one of them is not known. -/
def litNode (P : Program) (e : TypeId) (size len : Nat) (cs : List AV) : Option Nat :=
  if cs.any isSymA then
    match isAggT P e with
    | some agg => if ((agg && Nat.blt 0 size) || Nat.beq size 1) && Nat.blt 0 len && Nat.beq cs.length (len * size) then match elemsOf agg size len cs with
      | some ns => findNd (.ml ns)
      | none => none
      else none
    | none => none
  else none
def litSl (P : Program) (σ : ASt) (e : TypeId) (size len : Nat) (cs : List AV) : Option AV × ASt :=
  match litNode P e size len cs with
  | some m => (some (.sv σ.next m), σ.new (.vec m e false))
  | none => (some (.sl σ.next 0 len (some len)), σ.new (.cells cs e true false))

def symMakeSlice (P : Program) (t : TypeId) (len cap : AV) (σ : ASt) : Option (AV × ASt) :=
  match P.underlying t with
  | some (.slice e') => match elemInfo P t, isAggT P e' with
    | some (e, size, bytes, z), some agg =>
      if size = 0 then none else
      match (if agg then aggNode (.agg z) else (z.head?).bind nodeOf), nodeOf len, nodeOf cap with
      | some zn, some l, some c => (findNd (.rep size bytes zn l c)).map fun m => (.sv σ.next m, σ.new (.vec m e false))
      | _, _, _ => none
    | _, _ => none
  | _ => none

def symBuiltin (P : Program) (b : Builtin) (argTypes : Array TypeId) (args : List AV) (σ : ASt) : Option (Option AV × ASt) :=
  match b, args with
  | .len, [x] => match argTypes[0]? with
    | some t => (symLen P t x).map fun v => (some v, σ)
    | none => none
  | .append, [s, x] => (symAppend P argTypes s x σ).map fun r => (some r.1, r.2)
  | .min, [x, y] => match nodeOf x, nodeOf y with
    | some m, some n => (mkN (.mm false m n)).map fun v => (some v, σ)
    | _, _ => none
  | .max, [x, y] => match nodeOf x, nodeOf y with
    | some m, some n => (mkN (.mm true m n)).map fun v => (some v, σ)
    | _, _ => none
  | .unsafeSliceData, [.sv id n] => match σ.get id with
    | some (.vec m _ true) => if sameLen 100 m n then some (some (.pd id n), σ) else none
    | _ => none
  | .unsafeString, [.pd id n, .nd k] =>
    match argTypes.toList with
    | [t, _] =>
      match P.underlying t, σ.get id with
      | some (.pointer e), some (.vec m et _) =>
        if et = e ∧ e ≠ 0 ∧ P.cellsOf e = 1 ∧ σ.lock ≤ id then
          match NodesOf.nodes[k]? with
          | some (.len n') => if sameLen 100 m n && sameLen 100 m n' then (mkN (.str m)).map fun v => (some v, σ.kill id) else none
          | _ => none
        else none
      | _, _ => none
    | _ => none
  | _, _ => none

/-- The method that an interface value's call runs, and its receiver. -/
def aMethod (P : Program) (name : String) (σ : ASt) : AV → Option (FuncId × AV)
  | .ifc t v =>
    match P.info? t, P.underlying t with
    | some i, some d => match i.methods.find? (·.name == name) with
      | some m => match m.path.toList, m.func with
        | [], some (f, ptr) => match d, ptr with
          | .pointer _, true => some (f, v)
          | .pointer e, false => match v with
            | .p id off => (aLoad P e σ (.p id off)).map fun x => (f, x)
            | _ => none
          | _, true => none
          | _, false => some (f, v)
        | _, _ => none
      | none => none
    | _, _ => none
  | _ => none

abbrev Caller := FuncId → List AV → ASt → Option (AV × ASt)

def retV (σ : ASt) : Option AV → Option (Option AV × ASt) := Option.map fun v => (some v, σ)
def retVS : Option (AV × ASt) → Option (Option AV × ASt) := Option.map fun (v, σ) => (some v, σ)
def retS : Option ASt → Option (Option AV × ASt) := Option.map fun σ => (none, σ)

def aBuiltin (P : Program) (b : Builtin) (argTypes : Array TypeId) (args : List AV) (σ : ASt) : Option (Option AV × ASt) :=
  match b, args with
  | .len, [x] => match argTypes[0]? with
    | some t => retV σ (aLen P σ t x)
    | none => none
  | .append, [s, x] => retVS (aAppend P argTypes s x σ)
  | .copy, [d, x] => retVS (aCopy P argTypes d x σ)
  | .clear, [x] => match argTypes[0]? with
    | some t => retVS (aClear P t x σ)
    | none => none
  | .cap, [x] => match argTypes[0]? with
    | some t => match P.underlying t, x with
      | some (.slice _), .nils => retV σ (some (.i .i64 0))
      | some (.slice _), .sl _ _ _ (some c) => retV σ (some (.i .i64 c))
      | _, _ => none
    | none => none
  | .unsafeSliceData, [.nils] => retV σ (some .nilp)
  | .unsafeSliceData, [.sl id off n cap] => if n = 0 ∧ (cap = none ∨ cap = some 0) then none else retV σ (some (.p id off))
  | .unsafeString, [x, .i .i64 n] =>
    match argTypes.toList with
    | [t, _] =>
      if n = 0 then (match x with
        | .nilp => retV σ (some (.s []))
        | .p _ _ => retV σ (some (.s []))
        | _ => none)
      else match x with
      | .p id off => match P.underlying t, σ.get id with
        | some (.pointer e), some (.cells c et true opn) =>
          if et = e ∧ e ≠ 0 ∧ P.cellsOf e = 1 ∧ 0 < n ∧ n < 2 ^ 62 ∧ σ.lock ≤ id then
            match takeN c off n.toNat with
            | some r => match bytesOf r with
              | some b => some (some (.s b), σ.put id (.cells c et false opn))
              | none => none
            | none => none
          else none
        | _, _ => none
      | _ => none
    | _ => none
  | .min, [x, y] => match scalarOf x, scalarOf y with
    | some u, some v => retV σ ((pureRun P (Builtin.min_ #[] 0 #[u, v])).bind (ofVal 4))
    | _, _ => none
  | .max, [x, y] => match scalarOf x, scalarOf y with
    | some u, some v => retV σ ((pureRun P (Builtin.max_ #[] 0 #[u, v])).bind (ofVal 4))
    | _, _ => none
  | .min, [x, y, z] => match scalarOf x, scalarOf y, scalarOf z with
    | some u, some v, some t => retV σ ((pureRun P (Builtin.min_ #[] 0 #[u, v, t])).bind (ofVal 4))
    | _, _, _ => none
  | _, _ => none

/-- Is the list that comes of this told by a node, before it is tried as a list of its own? -/
def symFirst (b : Builtin) (args : List AV) : Bool :=
  match b, args with
  | .append, .nils :: _ => !(NodesOf.nodes.isEmpty)
  | _, _ => false

/-- The first answer, or else the other one. -/
def orT {α : Type} (a : Option α) (b : Unit → Option α) : Option α :=
  match a with
  | some x => some x
  | none => b ()
theorem orT_some {α : Type} {a : Option α} {b : Unit → Option α} {x : α} (h : orT a b = some x) : a = some x ∨ b () = some x := by
  unfold orT at h; split at h
  · exact .inl h
  · exact .inr h

def aOp (P : Program) (call : Caller) (o : Oper) (ev : Operand → Option AV) (σ : ASt) : Option (Option AV × ASt) :=
  match o.op with
  | .move x | .assign x => retV σ (ev x)
  | .pick c a b => match dB (ev c) with
    | some (.b t) => retV σ (if t then ev a else ev b)
    | _ => none
  | .alloc t => (zeroCellsOf P t).map fun z => (some (.p σ.next 0), σ.new (.cells z t true false))
  | .box t x => (ev x).map fun v => (some (.p σ.next 0), σ.new (.cells v.cells t true false))
  | .build t parts => match evalParts ev parts.toList with
    | some ps => retV σ (aBuild P t ps)
    | none => none
  | .buildSlice t len parts =>
    match elemInfo P t, evalParts ev parts.toList with
    | some (e, size, _, z), some ps =>
      if len * size > 2 ^ 24 then none else
      match aFill (fun i => some (i * size, size)) (if len * size = 0 then [] else repl len z) ps with
      | some cs => some (litSl P σ e size len cs)
      | none => none
    | _, _ => none
  | .load t a => match ev a with
    | some a => retV σ (orT (aLoad P t σ a) fun _ => symLoad P t σ a)
    | none => none
  | .store t a x => match ev a, ev x with
    | some a, some v => retS (orT (aStore P t σ a v) fun _ => symStore P t σ a v)
    | _, _ => none
  | .nilCheck x => match ev x with
    | some (.p id off) => retV σ (some (.p id off))
    | some (.rp a off) => retV σ (some (.rp a off))
    | some (.rx m off) => retV σ (some (.rx m off))
    | some (.pv id m off) => retV σ (some (.pv id m off))
    | some (.fn f fs cs) => retV σ (some (.fn f fs cs))
    | _ => none
  | .binOp op t x y _ => match ev x, ev y with
    | some a, some b => retV σ (orT (aBin P op t x y a b) fun _ => symBin P op t a b)
    | _, _ => none
  | .unOp op _ x => match ev x with
    | some a => match scalarOf a with
      | some u => retV σ ((pureRun P (Op.unary op u)).bind (ofVal 4))
      | none => retV σ (symUn op a)
    | none => none
  | .convert src dst x => match ev x with
    | some a => retVS (orT (aConvert P src dst a σ) fun _ => symConvert P src dst a σ)
    | none => none
  | .makeInterface t x => match ev x, isIfaceT P t with
    | some a, some false => retV σ (some (.ifc t a))
    | _, _ => none
  | .makeFunc (.func f) first caps => match evals ev first.toList, evals ev caps.toList with
      | some fs, some cs => retV σ (some (.fn f fs cs))
      | _, _ => none
  | .makeMap t r => match r with
    | none => some (some (.mp σ.next), σ.new (.map []))
    | some h => match ev h, P.underlying t with
      | some v, some (.map _ _) => if mapArg v then some (some (.mp σ.next), σ.new (.map [])) else none
      | _, _ => none
  | .makeSlice t l c => match ev l, ev c with
    | some l, some c => retVS (orT (aMakeSlice P t l c σ) fun _ => symMakeSlice P t l c σ)
    | _, _ => none
  | .slice t x lo hi none => match ev x, optEval ev lo, optEval ev hi with
    | some v, some lo, some hi => orT (retV σ (orT (aSlice P t σ v lo hi) fun _ => symSlice P t v lo hi)) fun _ => retVS (symSliceS P t σ v lo hi)
    | _, _, _ => none
  | .fieldAddr t x f => match ev x with
    | some a => retV σ (orT (aFieldAddr P t a f) fun _ => symFieldAddr P t a f)
    | none => none
  | .field t x f => match ev x with
    | some a => retV σ (aField P t a f)
    | none => none
  | .indexAddr t x ix => match ev x, ev ix with
    | some a, some k => retV σ (orT (aIndexAddr P t a k) fun _ => symIndexAddr P σ t a k)
    | _, _ => none
  | .index t x ix => match ev x, ev ix with
    | some a, some k => retV σ (orT (aIndex P t a k) fun _ => symIndex P t a k)
    | _, _ => none
  | .lookup t m k ok => match ev m, ev k with
    | some m, some k => retV σ (orT (aLookup P t m k ok σ) fun _ => symLookup P t m k ok σ)
    | _, _ => none
  | .mapUpdate t m k v | .insert t m k v => match ev m, ev k, ev v with
    | some m, some k, some v => retS (orT (aMapUpdate P t m k v σ) fun _ => symMapUpdate P t m k v σ)
    | _, _, _ => none
  | .range t x => match P.underlying t, ev x with
    | some .string, some (.s s) => some (some (.p σ.next 0), σ.new (.iter s 0))
    | some (.map _ _), some .nilm => some (some (.p σ.next 0), σ.new (.iterM none))
    | some (.map _ _), some (.mp id) => match σ.get id with
      | some (.map _) => some (some (.p σ.next 0), σ.new (.iterM (some id)))
      | _ => none
    | _, _ => none
  | .next it true => match ev it with
    | some a => retVS (aNext a σ)
    | none => none
  | .next it false => match ev it with
    | some (.p id 0) => match σ.get id with
      | some (.iterM none) => some (some (.tup [.b false]), σ)
      | some (.iterM (some m)) => match σ.get m with
        | some (.map []) => some (some (.tup [.b false]), σ)
        | _ => none
      | _ => none
    | _ => none
  | .typeAssert x _ t ok => match ev x with
    | some a => retV σ (aTypeAssert P a t ok)
    | none => none
  | .extract x k => match ev x with
    | some (.tup l) => retV σ l[k]?
    | _ => none
  | .call c => match evals ev c.args.toList with
    | some args =>
      match c.callee with
      | .builtin b => bif symFirst b args then orT (symBuiltin P b c.argTypes args σ) fun _ => aBuiltin P b c.argTypes args σ else orT (aBuiltin P b c.argTypes args σ) fun _ => symBuiltin P b c.argTypes args σ
      | .value f => match ev f with
        | some (.fn f fi caps) => retVS (call f (fi ++ args ++ caps) σ)
        | _ => none
      | .invoke r name => match (ev r).bind (aMethod P name σ) with
        | some (f, x) => retVS (call f (x :: args) σ)
        | none => none
    | none => none
  | _ => none

/-! ### The same, quicker for the kernel: small bodies, and numbers and texts first -/
def fInt (op : BinOp) (k : IntKind) (a b : Int) : Option AV :=
  match op with
  | .add => some (.i k (k.wrap (a + b)))
  | .sub => some (.i k (k.wrap (a - b)))
  | .mul => some (.i k (k.wrap (a * b)))
  | .eql => some (.b (a == b))
  | .neq => some (.b (a != b))
  | .lss => some (.b (decide (a < b)))
  | .leq => some (.b (decide (a ≤ b)))
  | .gtr => some (.b (decide (a > b)))
  | .geq => some (.b (decide (a ≥ b)))
  | _ => none
def fStr (op : BinOp) (a b : List UInt8) : Option AV :=
  match op with
  | .add => if a.length + b.length ≤ 9223372036854775807 then some (.s (a ++ b)) else none
  | .eql => some (.b (a == b))
  | .neq => some (.b (!(a == b)))
  | .lss => some (.b (Op.bytesLess a b))
  | .leq => some (.b (Op.bytesLess a b || a == b))
  | .gtr => some (.b (!(Op.bytesLess a b || a == b)))
  | .geq => some (.b (!(Op.bytesLess a b)))
  | _ => none
def fBin (P : Program) (op : BinOp) (t : TypeId) (x y : Operand) (a b : AV) : Option AV :=
  match a with
  | .i k m => match b with
    | .i k' n => if k = k' then match fInt op k m n with
        | some r => some r
        | none => aBin P op t x y a b
      else aBin P op t x y a b
    | _ => aBin P op t x y a b
  | .s u => match b with
    | .s v => match fStr op u v with
      | some r => some r
      | none => aBin P op t x y a b
    | _ => aBin P op t x y a b
  | _ => aBin P op t x y a b

theorem toList_mk (l : List UInt8) : (⟨⟨l⟩⟩ : ByteArray).toList = l := by rw [ByteArray.toList_eq]

theorem fInt_eq {P : Program} {op : BinOp} {t : TypeId} {x y : Operand} {k : IntKind} {m n : Int} {r : AV} (h : fInt op k m n = some r) : aBin P op t x y (.i k m) (.i k n) = some r := by
  have key : ∀ v : Value, (do eqGuard op t x y (.int k m) (.int k n); binOp op t (.int k m) (.int k n) : Sem Value) = .pure v → ofVal 4 v = some r → aBin P op t x y (.i k m) (.i k n) = some r := by
    intro v hv hr
    have : aBin P op t x y (.i k m) (.i k n) = (pureRun P (do eqGuard op t x y (.int k m) (.int k n); binOp op t (.int k m) (.int k n) : Sem Value)).bind (ofVal 4) := by
      cases op <;> rfl
    rw [this, hv]
    exact hr
  cases op <;> simp only [fInt, reduceCtorEq, Option.some.injEq] at h <;> subst h
  all_goals refine key _ (by simp only [eqGuard, binOp, ne_eq, not_true_eq_false, if_false, Op.intArith, Op.intCmp]; rfl) rfl

theorem append_mk (a b : List UInt8) : ((⟨⟨a⟩⟩ : ByteArray) ++ ⟨⟨b⟩⟩) = ⟨⟨a ++ b⟩⟩ := by
  apply ByteArray.ext
  rw [ByteArray.data_append]
  simp
theorem fStr_eq {P : Program} {op : BinOp} {t : TypeId} {x y : Operand} {u v : List UInt8} {r : AV} (h : fStr op u v = some r) : aBin P op t x y (.s u) (.s v) = some r := by
  have key : ∀ z : Value, (do eqGuard op t x y (.string ⟨⟨u⟩⟩) (.string ⟨⟨v⟩⟩); binOp op t (.string ⟨⟨u⟩⟩) (.string ⟨⟨v⟩⟩) : Sem Value) = .pure z → ofVal 4 z = some r → aBin P op t x y (.s u) (.s v) = some r := by
    intro z hz hr
    have : aBin P op t x y (.s u) (.s v) = (pureRun P (do eqGuard op t x y (.string ⟨⟨u⟩⟩) (.string ⟨⟨v⟩⟩); binOp op t (.string ⟨⟨u⟩⟩) (.string ⟨⟨v⟩⟩) : Sem Value)).bind (ofVal 4) := by
      cases op <;> rfl
    rw [this, hz]
    exact hr
  cases op <;> simp only [fStr, reduceCtorEq, Option.some.injEq] at h
  case add =>
    split at h
    · next hb =>
      cases h
      have : ¬ (((⟨⟨u⟩⟩ : ByteArray).size + (⟨⟨v⟩⟩ : ByteArray).size : Nat) : Int) > IntKind.i64.max := by
        show ¬ ((u.length + v.length : Nat) : Int) > 9223372036854775807
        omega
      exact key (.string ⟨⟨u ++ v⟩⟩) (by simp only [eqGuard, binOp, Op.stringOp, if_neg this, append_mk]; rfl) rfl
    · cases h
  all_goals subst h
  all_goals refine key _ (by simp only [eqGuard, binOp, Op.stringOp, toList_mk]; rfl) rfl

theorem fBin_eq (P : Program) (op : BinOp) (t : TypeId) (x y : Operand) (a b : AV) : fBin P op t x y a b = aBin P op t x y a b := by
  unfold fBin
  split
  · split
    · split
      · next hk =>
        subst hk
        split
        · next r hr => exact (fInt_eq hr).symm
        · rfl
      · rfl
    · rfl
  · split
    · split
      · next r hr => exact (fStr_eq hr).symm
      · rfl
    · rfl
  · rfl

def fUn (P : Program) (σ : ASt) (op : UnOp) (a : AV) : Option (Option AV × ASt) :=
  match op with
  | .not => match a with
    | .b x => some (some (.b (!x)), σ)
    | _ => match scalarOf a with
      | some u => retV σ ((pureRun P (Op.unary op u)).bind (ofVal 4))
      | none => retV σ (symUn op a)
  | _ => match scalarOf a with
    | some u => retV σ ((pureRun P (Op.unary op u)).bind (ofVal 4))
    | none => retV σ (symUn op a)
def fOp0 (_P : Program) (_call : Caller) (ev : Operand → Option AV) (σ : ASt) (x : Operand) : Option (Option AV × ASt) :=
  retV σ (ev x)
def fOp1 (_P : Program) (_call : Caller) (ev : Operand → Option AV) (σ : ASt) (c : Operand) (a : Operand) (b : Operand) : Option (Option AV × ASt) :=
  match dB (ev c) with
    | some (.b t) => retV σ (if t then ev a else ev b)
    | _ => none
def fOp2 (P : Program) (_call : Caller) (_ev : Operand → Option AV) (σ : ASt) (t : TypeId) : Option (Option AV × ASt) :=
  (zeroCellsOf P t).map fun z => (some (.p σ.next 0), σ.new (.cells z t true false))
def fOp3 (_P : Program) (_call : Caller) (ev : Operand → Option AV) (σ : ASt) (t : TypeId) (x : Operand) : Option (Option AV × ASt) :=
  (ev x).map fun v => (some (.p σ.next 0), σ.new (.cells v.cells t true false))
def fOp4 (P : Program) (_call : Caller) (ev : Operand → Option AV) (σ : ASt) (t : TypeId) (parts : Array (Nat × Operand)) : Option (Option AV × ASt) :=
  match evalParts ev parts.toList with
    | some ps => retV σ (aBuild P t ps)
    | none => none
def fOp5 (P : Program) (_call : Caller) (ev : Operand → Option AV) (σ : ASt) (t : TypeId) (len : Nat) (parts : Array (Nat × Operand)) : Option (Option AV × ASt) :=
     match elemInfo P t, evalParts ev parts.toList with
    | some (e, size, _, z), some ps =>
      if len * size > 2 ^ 24 then none else
      match aFill (fun i => some (i * size, size)) (if len * size = 0 then [] else repl len z) ps with
      | some cs => some (litSl P σ e size len cs)
      | none => none
    | _, _ => none
def fOp6 (P : Program) (_call : Caller) (ev : Operand → Option AV) (σ : ASt) (t : TypeId) (a : Operand) : Option (Option AV × ASt) :=
  match ev a with
    | some a => retV σ (orT (aLoad P t σ a) fun _ => symLoad P t σ a)
    | none => none
def fOp7 (P : Program) (_call : Caller) (ev : Operand → Option AV) (σ : ASt) (t : TypeId) (a : Operand) (x : Operand) : Option (Option AV × ASt) :=
  match ev a, ev x with
    | some a, some v => retS (orT (aStore P t σ a v) fun _ => symStore P t σ a v)
    | _, _ => none
def fOp8 (_P : Program) (_call : Caller) (ev : Operand → Option AV) (σ : ASt) (x : Operand) : Option (Option AV × ASt) :=
  match ev x with
    | some (.p id off) => retV σ (some (.p id off))
    | some (.rp a off) => retV σ (some (.rp a off))
    | some (.rx m off) => retV σ (some (.rx m off))
    | some (.pv id m off) => retV σ (some (.pv id m off))
    | some (.fn f fs cs) => retV σ (some (.fn f fs cs))
    | _ => none
def fOp9 (P : Program) (_call : Caller) (ev : Operand → Option AV) (σ : ASt) (op : BinOp) (t : TypeId) (x : Operand) (y : Operand) : Option (Option AV × ASt) :=
  match ev x, ev y with
    | some a, some b => retV σ (orT (fBin P op t x y a b) fun _ => symBin P op t a b)
    | _, _ => none
def fOp10 (P : Program) (_call : Caller) (ev : Operand → Option AV) (σ : ASt) (op : UnOp) (x : Operand) : Option (Option AV × ASt) :=
  match ev x with
    | some a => fUn P σ op a
    | none => none
def fOp11 (P : Program) (_call : Caller) (ev : Operand → Option AV) (σ : ASt) (src : TypeId) (dst : TypeId) (x : Operand) : Option (Option AV × ASt) :=
  match ev x with
    | some a => retVS (orT (aConvert P src dst a σ) fun _ => symConvert P src dst a σ)
    | none => none
def fOp12 (P : Program) (_call : Caller) (ev : Operand → Option AV) (σ : ASt) (t : TypeId) (x : Operand) : Option (Option AV × ASt) :=
  match ev x, isIfaceT P t with
    | some a, some false => retV σ (some (.ifc t a))
    | _, _ => none
def fOp13 (_P : Program) (_call : Caller) (ev : Operand → Option AV) (σ : ASt) (f : FuncId) (first : Array Operand) (caps : Array Operand) : Option (Option AV × ASt) :=
  match evals ev first.toList, evals ev caps.toList with
      | some fs, some cs => retV σ (some (.fn f fs cs))
      | _, _ => none
def fOp14 (P : Program) (_call : Caller) (ev : Operand → Option AV) (σ : ASt) (t : TypeId) (r : Option Operand) : Option (Option AV × ASt) :=
  match r with
    | none => some (some (.mp σ.next), σ.new (.map []))
    | some h => match ev h, P.underlying t with
      | some v, some (.map _ _) => if mapArg v then some (some (.mp σ.next), σ.new (.map [])) else none
      | _, _ => none
def fOp15 (P : Program) (_call : Caller) (ev : Operand → Option AV) (σ : ASt) (t : TypeId) (l : Operand) (c : Operand) : Option (Option AV × ASt) :=
  match ev l, ev c with
    | some l, some c => retVS (orT (aMakeSlice P t l c σ) fun _ => symMakeSlice P t l c σ)
    | _, _ => none
def fOp16 (P : Program) (_call : Caller) (ev : Operand → Option AV) (σ : ASt) (t : TypeId) (x : Operand) (lo : Option Operand) (hi : Option Operand) : Option (Option AV × ASt) :=
  match ev x, optEval ev lo, optEval ev hi with
    | some v, some lo, some hi => orT (retV σ (orT (aSlice P t σ v lo hi) fun _ => symSlice P t v lo hi)) fun _ => retVS (symSliceS P t σ v lo hi)
    | _, _, _ => none
def fOp17 (P : Program) (_call : Caller) (ev : Operand → Option AV) (σ : ASt) (t : TypeId) (x : Operand) (f : Nat) : Option (Option AV × ASt) :=
  match ev x with
    | some a => retV σ (orT (aFieldAddr P t a f) fun _ => symFieldAddr P t a f)
    | none => none
def fOp18 (P : Program) (_call : Caller) (ev : Operand → Option AV) (σ : ASt) (t : TypeId) (x : Operand) (f : Nat) : Option (Option AV × ASt) :=
  match ev x with
    | some a => retV σ (aField P t a f)
    | none => none
def fOp19 (P : Program) (_call : Caller) (ev : Operand → Option AV) (σ : ASt) (t : TypeId) (x : Operand) (ix : Operand) : Option (Option AV × ASt) :=
  match ev x, ev ix with
    | some a, some k => retV σ (orT (aIndexAddr P t a k) fun _ => symIndexAddr P σ t a k)
    | _, _ => none
def fOp20 (P : Program) (_call : Caller) (ev : Operand → Option AV) (σ : ASt) (t : TypeId) (x : Operand) (ix : Operand) : Option (Option AV × ASt) :=
  match ev x, ev ix with
    | some a, some k => retV σ (orT (aIndex P t a k) fun _ => symIndex P t a k)
    | _, _ => none
def fOp21 (P : Program) (_call : Caller) (ev : Operand → Option AV) (σ : ASt) (t : TypeId) (m : Operand) (k : Operand) (ok : Bool) : Option (Option AV × ASt) :=
  match ev m, ev k with
    | some m, some k => retV σ (orT (aLookup P t m k ok σ) fun _ => symLookup P t m k ok σ)
    | _, _ => none
def fOp22 (P : Program) (_call : Caller) (ev : Operand → Option AV) (σ : ASt) (t : TypeId) (m : Operand) (k : Operand) (v : Operand) : Option (Option AV × ASt) :=
  match ev m, ev k, ev v with
    | some m, some k, some v => retS (orT (aMapUpdate P t m k v σ) fun _ => symMapUpdate P t m k v σ)
    | _, _, _ => none
def fOp23 (P : Program) (_call : Caller) (ev : Operand → Option AV) (σ : ASt) (t : TypeId) (x : Operand) : Option (Option AV × ASt) :=
  match P.underlying t, ev x with
    | some .string, some (.s s) => some (some (.p σ.next 0), σ.new (.iter s 0))
    | some (.map _ _), some .nilm => some (some (.p σ.next 0), σ.new (.iterM none))
    | some (.map _ _), some (.mp id) => match σ.get id with
      | some (.map _) => some (some (.p σ.next 0), σ.new (.iterM (some id)))
      | _ => none
    | _, _ => none
def fOp24 (_P : Program) (_call : Caller) (ev : Operand → Option AV) (σ : ASt) (it : Operand) : Option (Option AV × ASt) :=
  match ev it with
    | some a => retVS (aNext a σ)
    | none => none
def fOp25 (_P : Program) (_call : Caller) (ev : Operand → Option AV) (σ : ASt) (it : Operand) : Option (Option AV × ASt) :=
  match ev it with
    | some (.p id 0) => match σ.get id with
      | some (.iterM none) => some (some (.tup [.b false]), σ)
      | some (.iterM (some m)) => match σ.get m with
        | some (.map []) => some (some (.tup [.b false]), σ)
        | _ => none
      | _ => none
    | _ => none
def fOp26 (P : Program) (_call : Caller) (ev : Operand → Option AV) (σ : ASt) (x : Operand) (t : TypeId) (ok : Bool) : Option (Option AV × ASt) :=
  match ev x with
    | some a => retV σ (aTypeAssert P a t ok)
    | none => none
def fOp27 (_P : Program) (_call : Caller) (ev : Operand → Option AV) (σ : ASt) (x : Operand) (k : Nat) : Option (Option AV × ASt) :=
  match ev x with
    | some (.tup l) => retV σ l[k]?
    | _ => none
def fOp28 (P : Program) (call : Caller) (ev : Operand → Option AV) (σ : ASt) (c : Call) : Option (Option AV × ASt) :=
  match evals ev c.args.toList with
    | some args =>
      match c.callee with
      | .builtin b => bif symFirst b args then orT (symBuiltin P b c.argTypes args σ) fun _ => aBuiltin P b c.argTypes args σ else orT (aBuiltin P b c.argTypes args σ) fun _ => symBuiltin P b c.argTypes args σ
      | .value f => match ev f with
        | some (.fn f fi caps) => retVS (call f (fi ++ args ++ caps) σ)
        | _ => none
      | .invoke r name => match (ev r).bind (aMethod P name σ) with
        | some (f, x) => retVS (call f (x :: args) σ)
        | none => none
    | none => none
/-- What is to be done at an operation: by its text alone, so that the kernel finds it once. -/
structure OpW where
  f : Program → Caller → (Operand → Option AV) → ASt → Option (Option AV × ASt)
def opF (o : Op) : OpW :=
  Op.casesOn (motive := fun _ => OpW) o
    (fun x => ⟨fun P call ev σ => fOp0 P call ev σ x⟩)
    (fun x => ⟨fun P call ev σ => fOp0 P call ev σ x⟩)
    (fun c a b => ⟨fun P call ev σ => fOp1 P call ev σ c a b⟩)
    (fun t => ⟨fun P call ev σ => fOp2 P call ev σ t⟩)
    (fun t x => ⟨fun P call ev σ => fOp3 P call ev σ t x⟩)
    (fun t parts => ⟨fun P call ev σ => fOp4 P call ev σ t parts⟩)
    (fun t len parts => ⟨fun P call ev σ => fOp5 P call ev σ t len parts⟩)
    (fun t m k v => ⟨fun P call ev σ => fOp22 P call ev σ t m k v⟩)
    (fun t a => ⟨fun P call ev σ => fOp6 P call ev σ t a⟩)
    (fun t a x => ⟨fun P call ev σ => fOp7 P call ev σ t a x⟩)
    (fun _ => ⟨fun _P _call _ev _σ => none⟩)
    (fun _ => ⟨fun _P _call _ev _σ => none⟩)
    (fun x => ⟨fun P call ev σ => fOp8 P call ev σ x⟩)
    (fun op t x y _ => ⟨fun P call ev σ => fOp9 P call ev σ op t x y⟩)
    (fun op _ x => ⟨fun P call ev σ => fOp10 P call ev σ op x⟩)
    (fun src dst x => ⟨fun P call ev σ => fOp11 P call ev σ src dst x⟩)
    (fun _ _ => ⟨fun _P _call _ev _σ => none⟩)
    (fun t x => ⟨fun P call ev σ => fOp12 P call ev σ t x⟩)
    (fun fn first caps => ⟨fun P call ev σ => match fn with | .func f => fOp13 P call ev σ f first caps | _ => none⟩)
    (fun t r => ⟨fun P call ev σ => fOp14 P call ev σ t r⟩)
    (fun _ _ => ⟨fun _P _call _ev _σ => none⟩)
    (fun t l c => ⟨fun P call ev σ => fOp15 P call ev σ t l c⟩)
    (fun t x lo hi mx => ⟨fun P call ev σ => match mx with | none => fOp16 P call ev σ t x lo hi | some _ => none⟩)
    (fun t x f => ⟨fun P call ev σ => fOp17 P call ev σ t x f⟩)
    (fun t x f => ⟨fun P call ev σ => fOp18 P call ev σ t x f⟩)
    (fun t x ix => ⟨fun P call ev σ => fOp19 P call ev σ t x ix⟩)
    (fun t x ix => ⟨fun P call ev σ => fOp20 P call ev σ t x ix⟩)
    (fun t m k ok => ⟨fun P call ev σ => fOp21 P call ev σ t m k ok⟩)
    (fun t m k v => ⟨fun P call ev σ => fOp22 P call ev σ t m k v⟩)
    (fun _ _ _ => ⟨fun _P _call _ev _σ => none⟩)
    (fun _ _ _ _ => ⟨fun _P _call _ev _σ => none⟩)
    (fun t x => ⟨fun P call ev σ => fOp23 P call ev σ t x⟩)
    (fun it b => ⟨fun P call ev σ => bif b then fOp24 P call ev σ it else fOp25 P call ev σ it⟩)
    (fun _ => ⟨fun _P _call _ev _σ => none⟩)
    (fun x _ t ok => ⟨fun P call ev σ => fOp26 P call ev σ x t ok⟩)
    (fun x k => ⟨fun P call ev σ => fOp27 P call ev σ x k⟩)
    (fun c => ⟨fun P call ev σ => fOp28 P call ev σ c⟩)
    (fun _ => ⟨fun _P _call _ev _σ => none⟩)
    (fun _ => ⟨fun _P _call _ev _σ => none⟩)
    (fun _ => ⟨fun _P _call _ev _σ => none⟩)
    (fun _ _ => ⟨fun _P _call _ev _σ => none⟩)
    (fun _ _ _ => ⟨fun _P _call _ev _σ => none⟩)
    (fun _ _ => ⟨fun _P _call _ev _σ => none⟩)
def fOp (P : Program) (call : Caller) (o : Oper) (ev : Operand → Option AV) (σ : ASt) : Option (Option AV × ASt) := (opF o.op).f P call ev σ

theorem fUn_eq (P : Program) (σ : ASt) (op : UnOp) (a : AV) : fUn P σ op a = match scalarOf a with
    | some u => retV σ ((pureRun P (Op.unary op u)).bind (ofVal 4))
    | none => retV σ (symUn op a) := by
  cases op <;> first | rfl | skip
  cases a <;> rfl

theorem fOp_eq (P : Program) (call : Caller) (o : Oper) (ev : Operand → Option AV) (σ : ASt) : fOp P call o ev σ = aOp P call o ev σ := by
  obtain ⟨dst, op, type, pos, after, guard⟩ := o
  cases op with
  | binOp op t x y _ =>
    show fOp9 P call ev σ op t x y = _
    simp only [fOp9, fBin_eq, aOp]
  | unOp op _ x =>
    show fOp10 P call ev σ op x = _
    simp only [fOp10, fUn_eq, aOp]
  | slice t x lo hi mx => cases mx <;> rfl
  | makeFunc fn _ _ => cases fn <;> rfl
  | next it b => cases b <;> rfl
  | _ => rfl

def wantedA (o : Oper) (ops : Array Oper) (a : AAct) : Option Bool :=
  match o.guard with
  | none => some true
  | some (j, want) =>
    match ops[j]? with
    | some q => match q.dst with
      | some d => match dB (a.t.get d) with
        | some (.b x) => some (x == want)
        | some (.tup _) => some false
        | _ => none
      | none => none
    | none => none

def aStep (P : Program) (call : Caller) (ops : Array Oper) (i : Nat) (a : AAct) (σ : ASt) : Option (AAct × ASt) :=
  match ops[i]? with
  | none => none
  | some o =>
    match wantedA o ops a with
    | none => none
    | some false => (a.put o.dst (some (.tup []))).map (·, σ)
    | some true =>
      match fOp P call o a.eval σ with
      | none => none
      | some (v, σ') => (a.put o.dst v).map (·, σ')

def aOps (P : Program) (call : Caller) (ops : Array Oper) : List Nat → AAct → ASt → Option (AAct × ASt)
  | [], a, σ => some (a, σ)
  | i :: rest, a, σ =>
    match aStep P call ops i a σ with
    | some (a', σ') => aOps P call ops rest a' σ'
    | none => none

inductive AExit where
  | normal
  | exit (id : Nat)
  | ret

def aResults (P : Program) (σ : ASt) (a : AAct) : List ResultVar → Option (List AV)
  | [] => some []
  | .tmp t :: rs => match a.t.get t, aResults P σ a rs with
    | some v, some r => some (v :: r)
    | _, _ => none
  | .cell t ty :: rs => match (a.t.get t).bind (aLoad P ty σ), aResults P σ a rs with
    | some v, some r => some (v :: r)
    | _, _ => none

def tupOf : List AV → AV
  | [v] => v
  | l => .tup l

def argTr : List AV → Nat → Tr AV → Tr AV
  | [], _, t => t
  | v :: vs, k, t => argTr vs (k + 1) (t.set k (some v))

abbrev Drawer := Array Oper → AAct → ASt → Option (AAct × ASt)

abbrev Prims := FuncId → Option (List AV → ASt → Option (AV × ASt))

/-- A call: a function that is known by its contract, or one whose body is run. -/
def callWith (P : Program) (pr : Prims) (run : Code → AAct → ASt → Option (AExit × AAct × ASt)) : Caller := fun f args σ =>
  match pr f with
  | some g => g args σ
  | none =>
    match P.funcs[f]? with
    | none => none
    | some fn => match fn.body with
      | none => none
      | some c =>
        match run c { t := argTr args 0 .nil, n := max args.length fn.ntmps, gn := P.globals.size } σ with
        | some (.normal, a', σ') | some (.ret, a', σ') => (aResults P σ' a' fn.results.toList).map fun l => (tupOf l, σ')
        | _ => none

/-- One step of code, where the rest is run by 'run'. -/
def codeBody (P : Program) (dr : Caller → Drawer) (pr : Prims) (run : Code → AAct → ASt → Option (AExit × AAct × ASt)) (c : Code) (a : AAct) (σ : ASt) : Option (AExit × AAct × ASt) :=
  match c with
  | .skip => some (.normal, a, σ)
  | .region _ ops false => (aOps P (callWith P pr run) ops (List.range ops.size) a σ).map fun (a, σ) => (.normal, a, σ)
  | .region _ ops true => (dr (callWith P pr run) ops a σ).map fun (a, σ) => (.normal, a, σ)
  | .seq x y =>
    match run x a σ with
    | some (.normal, a', σ') => run y a' σ'
    | r => r
  | .cond x y z =>
    match dB (a.eval x) with
    | some (.b t) => run (if t then y else z) a σ
    | _ => none
  | .block id b =>
    match run b a σ with
    | some (.exit id', a', σ') => if id' = id then some (.normal, a', σ') else some (.exit id', a', σ')
    | r => r
  | .loop b =>
    match run b a σ with
    | some (.normal, a', σ') => run (.loop b) a' σ'
    | r => r
  | .exit id => some (.exit id, a, σ)
  | .ret => some (.ret, a, σ)
  | _ => none

structure CodeW where
  f : Program → (Caller → Drawer) → Prims → (Code → AAct → ASt → Option (AExit × AAct × ASt)) → AAct → ASt → Option (AExit × AAct × ASt)
def cSkip : CodeW := ⟨fun _ _ _ _ a σ => some (.normal, a, σ)⟩
def cReg (ops : Array Oper) (d : Bool) : CodeW := bif d then ⟨fun P dr pr run a σ => (dr (callWith P pr run) ops a σ).map fun (a, σ) => (.normal, a, σ)⟩
  else ⟨fun P _ pr run a σ => (aOps P (callWith P pr run) ops (List.range ops.size) a σ).map fun (a, σ) => (.normal, a, σ)⟩
def cSeq (x y : Code) : CodeW := ⟨fun _ _ _ run a σ => match run x a σ with
    | some (.normal, a', σ') => run y a' σ'
    | r => r⟩
def cCond (x : Operand) (y z : Code) : CodeW := ⟨fun _ _ _ run a σ => match dB (a.eval x) with
    | some (.b t) => run (if t then y else z) a σ
    | _ => none⟩
def cBlock (id : Nat) (b : Code) : CodeW := ⟨fun _ _ _ run a σ => match run b a σ with
    | some (.exit id', a', σ') => if id' = id then some (.normal, a', σ') else some (.exit id', a', σ')
    | r => r⟩
def cLoop (b : Code) : CodeW := ⟨fun _ _ _ run a σ => match run b a σ with
    | some (.normal, a', σ') => run (.loop b) a' σ'
    | r => r⟩
def cExit (id : Nat) : CodeW := ⟨fun _ _ _ _ a σ => some (.exit id, a, σ)⟩
def cRet : CodeW := ⟨fun _ _ _ _ a σ => some (.ret, a, σ)⟩
def cNo : CodeW := ⟨fun _ _ _ _ _ _ => none⟩
def codeF (c : Code) : CodeW :=
  Code.casesOn (motive := fun _ => CodeW) c
    cSkip
    (fun _ ops d => cReg ops d)
    (fun x y => cSeq x y)
    (fun x y z => cCond x y z)
    (fun id b => cBlock id b)
    (fun b => cLoop b)
    (fun _ _ _ _ => cNo)
    (fun id => cExit id)
    (fun _ => cNo)
    (fun _ => cNo)
    (fun _ => cNo)
    cRet
    (fun _ => cNo)

theorem codeF_eq (P : Program) (dr : Caller → Drawer) (pr : Prims) (run : Code → AAct → ASt → Option (AExit × AAct × ASt)) (c : Code) (a : AAct) (σ : ASt) : (codeF c).f P dr pr run a σ = codeBody P dr pr run c a σ := by
  cases c with
  | region id ops d => cases d <;> rfl
  | _ => rfl

def aCodeF (P : Program) (dr : Caller → Drawer) (pr : Prims) (n : Nat) : Code → AAct → ASt → Option (AExit × AAct × ASt) :=
  Nat.rec (motive := fun _ => Code → AAct → ASt → Option (AExit × AAct × ASt)) (fun _ _ _ => none) (fun _ run c a σ => (codeF c).f P dr pr run a σ) n
theorem aCodeF_zero (P : Program) (dr : Caller → Drawer) (pr : Prims) (c : Code) (a : AAct) (σ : ASt) : aCodeF P dr pr 0 c a σ = none := rfl
theorem aCodeF_succ (P : Program) (dr : Caller → Drawer) (pr : Prims) (n : Nat) (c : Code) (a : AAct) (σ : ASt) : aCodeF P dr pr (n + 1) c a σ = codeBody P dr pr (aCodeF P dr pr n) c a σ := codeF_eq P dr pr _ c a σ

def aCall (P : Program) (dr : Caller → Drawer) (pr : Prims) (n : Nat) : Caller := callWith P pr (aCodeF P dr pr n)

end
end Go.Abs

/-! # AbsRel -/
namespace Go.Abs
noncomputable section
variable [TabsOf]
set_option linter.unusedSectionVars false
set_option linter.unusedVariables false

/-! ### Lists of values, place by place -/
theorem VRs_iff {η : Env} : ∀ {l : List AV} {vs : List Value}, VRs η l vs ↔ l.length = vs.length ∧ ∀ (k : Nat) a x, l[k]? = some a → vs[k]? = some x → VR η a x
  | [], vs => by
    simp only [VRs]
    constructor
    · rintro rfl; simp
    · rintro ⟨h, _⟩; cases vs with
      | nil => rfl
      | cons _ _ => simp at h
  | a :: l, vs => by
    simp only [VRs]
    constructor
    · rintro ⟨x, xs, rfl, h1, h2⟩
      have ih := (VRs_iff (l := l) (vs := xs)).1 h2
      refine ⟨by simp [ih.1], ?_⟩
      intro k b y hk hy
      cases k with
      | zero => simp at hk hy; subst hk; subst hy; exact h1
      | succ k => simp at hk hy; exact ih.2 k b y hk hy
    · rintro ⟨hl, h⟩
      cases vs with
      | nil => simp at hl
      | cons x xs =>
        refine ⟨x, xs, rfl, h 0 a x (by simp) (by simp), (VRs_iff (l := l) (vs := xs)).2 ⟨by simpa using hl, ?_⟩⟩
        intro k b y hk hy
        exact h (k + 1) b y (by simpa using hk) (by simpa using hy)

theorem VRs.length {η : Env} {l : List AV} {vs : List Value} (h : VRs η l vs) : l.length = vs.length := (VRs_iff.1 h).1
theorem VRs.at {η : Env} {l : List AV} {vs : List Value} (h : VRs η l vs) {k : Nat} {a : AV} (hk : l[k]? = some a) : ∃ x, vs[k]? = some x ∧ VR η a x := by
  have h' := VRs_iff.1 h
  obtain ⟨hlt, rfl⟩ := List.getElem?_eq_some_iff.1 hk
  have : k < vs.length := by omega
  exact ⟨vs[k], List.getElem?_eq_getElem this, h'.2 k _ _ hk (List.getElem?_eq_getElem this)⟩
theorem VRs.of {η : Env} {l : List AV} {vs : List Value} (hl : l.length = vs.length) (h : ∀ (k : Nat) a, l[k]? = some a → ∃ x, vs[k]? = some x ∧ VR η a x) : VRs η l vs :=
  VRs_iff.2 ⟨hl, fun k a x hk hx => by obtain ⟨y, hy, hv⟩ := h k a hk; rw [hx] at hy; cases hy; exact hv⟩
theorem VRs.append {η : Env} {l l' : List AV} {vs vs' : List Value} (h : VRs η l vs) (h' : VRs η l' vs') : VRs η (l ++ l') (vs ++ vs') := by
  induction l generalizing vs with
  | nil => simp only [VRs] at h; subst h; simpa using h'
  | cons a l ih =>
    simp only [VRs] at h
    obtain ⟨x, xs, rfl, h1, h2⟩ := h
    exact ⟨x, xs ++ vs', rfl, h1, ih h2⟩
theorem VRs.take {η : Env} {l : List AV} {vs : List Value} (h : VRs η l vs) (n : Nat) : VRs η (l.take n) (vs.take n) := by
  induction n generalizing l vs with
  | zero => simp [VRs]
  | succ n ih => cases l with
    | nil => simp only [VRs] at h; subst h; simp [VRs]
    | cons a l =>
      simp only [VRs] at h
      obtain ⟨x, xs, rfl, h1, h2⟩ := h
      exact ⟨x, xs.take n, by simp, h1, ih h2⟩
theorem VRs.drop {η : Env} {l : List AV} {vs : List Value} (h : VRs η l vs) (n : Nat) : VRs η (l.drop n) (vs.drop n) := by
  induction n generalizing l vs with
  | zero => simpa using h
  | succ n ih => cases l with
    | nil => simp only [VRs] at h; subst h; simp [VRs]
    | cons a l =>
      simp only [VRs] at h
      obtain ⟨x, xs, rfl, h1, h2⟩ := h
      simpa using ih h2
theorem VRs.nil_iff {η : Env} {vs : List Value} : VRs η [] vs ↔ vs = [] := by simp [VRs]
theorem VRs.cons {η : Env} {a : AV} {l : List AV} {x : Value} {vs : List Value} (h : VR η a x) (h' : VRs η l vs) : VRs η (a :: l) (x :: vs) := ⟨x, vs, rfl, h, h'⟩

/-! ### More places change nothing -/
structure Env.le (η η' : Env) : Prop where
  pl : ∀ id q, η id = some q → η' id = some q
  ro : ∀ b o, η.ro b = some o → η'.ro b = some o
  gh : ∀ id, η.gh id = true → η'.gh id = true
theorem Env.le.refl (η : Env) : η.le η := ⟨fun _ _ h => h, fun _ _ h => h, fun _ h => h⟩
theorem Env.le.trans {a b c : Env} (h : a.le b) (h' : b.le c) : a.le c := ⟨fun id q hq => h'.pl id q (h.pl id q hq), fun b o ho => h'.ro b o (h.ro b o ho), fun id hq => h'.gh id (h.gh id hq)⟩

/-- Is the name of a block in use? -/
def Env.has (η : Env) (id : Nat) : Prop := (∃ q, η id = some q) ∨ η.gh id = true
theorem Env.has.mono {η η' : Env} {id : Nat} (h : η.has id) (hle : η.le η') : η'.has id := h.elim (fun ⟨q, hq⟩ => .inl ⟨q, hle.pl _ _ hq⟩) fun hg => .inr (hle.gh _ hg)

mutual
theorem GR.mono {ro ro' : Nat → Option Obj} (h : ∀ b o, ro b = some o → ro' b = some o) : ∀ (a : GV) (v : Value), GR ro a v → GR ro' a v
  | .b _, _, hv => by simpa only [GR] using hv
  | .i _ _, _, hv => by simpa only [GR] using hv
  | .s _, _, hv => by simpa only [GR] using hv
  | .g l, _, hv => by simp only [GR] at hv ⊢; obtain ⟨x, e, h1⟩ := hv; exact ⟨x, e, GRs.mono h l x h1⟩
  | .l xs, _, hv => by
    simp only [GR] at hv ⊢
    rcases hv with hv | ⟨bl, off, c, ys, sz, e, hc, h1, h2, h3⟩
    · exact .inl hv
    exact .inr ⟨bl, off, c, ys, sz, e, hc, GRs.mono h xs ys h1, h2, fun hn => by obtain ⟨cs, elem, fr, h4, h5⟩ := h3 hn; exact ⟨cs, elem, fr, h _ _ h4, h5⟩⟩
theorem GRs.mono {ro ro' : Nat → Option Obj} (h : ∀ b o, ro b = some o → ro' b = some o) : ∀ (l : List GV) (vs : List Value), GRs ro l vs → GRs ro' l vs
  | [], _, hv => by simpa only [GRs] using hv
  | a :: l, _, hv => by
    simp only [GRs] at hv ⊢
    obtain ⟨x, xs, e, h1, h2⟩ := hv
    exact ⟨x, xs, e, GR.mono h a x h1, GRs.mono h l xs h2⟩
end

mutual
theorem VR.mono {η η' : Env} (h : η.le η') : ∀ (a : AV) (v : Value), VR η a v → VR η' a v
  | .b _, _, hv => by simpa only [VR] using hv
  | .i _ _, _, hv => by simpa only [VR] using hv
  | .s _, _, hv => by simpa only [VR] using hv
  | .nilp, _, hv => by simpa only [VR] using hv
  | .p _ _, _, hv => by simp only [VR] at hv ⊢; obtain ⟨q, hq, e⟩ := hv; exact ⟨q, h.pl _ _ hq, e⟩
  | .nils, _, hv => by simpa only [VR] using hv
  | .sl _ _ _ _, _, hv => by simp only [VR] at hv ⊢; obtain ⟨q, hq, e⟩ := hv; exact ⟨q, h.pl _ _ hq, e⟩
  | .nilm, _, hv => by simpa only [VR] using hv
  | .mp _, _, hv => by simp only [VR] at hv ⊢; obtain ⟨q, hq, e⟩ := hv; exact ⟨q, h.pl _ _ hq, e⟩
  | .nilf, _, hv => by simpa only [VR] using hv
  | .fn _ fi cs, _, hv => by
    simp only [VR] at hv ⊢
    obtain ⟨us, vs, e, h1, h2⟩ := hv
    exact ⟨us, vs, e, VRs.mono h fi us h1, VRs.mono h cs vs h2⟩
  | .nili, _, hv => by simpa only [VR] using hv
  | .ifc _ a, _, hv => by simp only [VR] at hv ⊢; obtain ⟨x, e, h1⟩ := hv; exact ⟨x, e, VR.mono h a x h1⟩
  | .agg l, _, hv => by simp only [VR] at hv ⊢; obtain ⟨x, e, h1⟩ := hv; exact ⟨x, e, VRs.mono h l x h1⟩
  | .tup l, _, hv => by simp only [VR] at hv ⊢; obtain ⟨x, e, h1⟩ := hv; exact ⟨x, e, VRs.mono h l x h1⟩
  | .z _ _ _, _, hv => by simpa only [VR] using hv
  | .ro l, _, hv => by
    simp only [VR] at hv ⊢
    rcases hv with hv | ⟨bl, off, c, xs, sz, e, hc, h1, h2, h3⟩
    · exact .inl hv
    refine .inr ?_
    exact ⟨bl, off, c, xs, sz, e, hc, VRs.mono h l xs h1, h2, fun hn => by obtain ⟨cs, elem, fr, h4, h5⟩ := h3 hn; exact ⟨cs, elem, fr, h.ro _ _ h4, h5⟩⟩
  | .rp a _, _, hv => by
    simp only [VR] at hv ⊢
    obtain ⟨bl, base, cs, elem, fr, x, h1, h2, h3⟩ := hv
    exact ⟨bl, base, cs, elem, fr, x, h.ro _ _ h1, VR.mono h a x h2, h3⟩
  | .nd _, _, hv => by simp only [VR] at hv ⊢; obtain ⟨g, h1, h2, h3⟩ := hv; exact ⟨g, h1, h2, GR.mono h.ro _ _ h3⟩
  | .rx _ _, _, hv => by simp only [VR] at hv ⊢; obtain ⟨g, bl, base, cs, elem, fr, x, h1, h2, h3, h4⟩ := hv; exact ⟨g, bl, base, cs, elem, fr, x, h1, h.ro _ _ h2, GR.mono h.ro _ _ h3, h4⟩
  | .sv _ _, _, hv => by
    simp only [VR] at hv ⊢
    obtain ⟨xs, h1, ⟨q, hq, h2⟩ | ⟨hg, h2⟩⟩ := hv
    · exact ⟨xs, h1, .inl ⟨q, h.pl _ _ hq, h2⟩⟩
    · exact ⟨xs, h1, .inr ⟨h.gh _ hg, h2⟩⟩
  | .pv _ _ _, _, hv => by simp only [VR] at hv ⊢; obtain ⟨q, k, i, hq, h2⟩ := hv; exact ⟨q, k, i, h.pl _ _ hq, h2⟩
  | .pd _ _, _, hv => by
    simp only [VR] at hv ⊢
    obtain ⟨xs, p, h1, h2, h3⟩ := hv
    exact ⟨xs, p, h1, h2, fun hn => by obtain ⟨q, hq, h4⟩ := h3 hn; exact ⟨q, h.pl _ _ hq, h4⟩⟩
theorem VRs.mono {η η' : Env} (h : η.le η') : ∀ (l : List AV) (vs : List Value), VRs η l vs → VRs η' l vs
  | [], _, hv => by simpa only [VRs] using hv
  | a :: l, _, hv => by
    simp only [VRs] at hv ⊢
    obtain ⟨x, xs, e, h1, h2⟩ := hv
    exact ⟨x, xs, e, VR.mono h a x h1, VRs.mono h l xs h2⟩
end

/-! ### Values without addresses -/
theorem optMap_some {α β : Type} {f : α → Option β} : ∀ {l : List α} {r : List β}, optMap f l = some r → l.length = r.length ∧ ∀ (k : Nat) x, l[k]? = some x → ∃ y, r[k]? = some y ∧ f x = some y
  | [], r, h => by simp [optMap] at h; subst h; simp
  | x :: xs, r, h => by
    simp only [optMap] at h
    split at h
    · cases h
    · rename_i y hy
      split at h
      · cases h
      · rename_i ys hys
        cases h
        have ih := optMap_some hys
        refine ⟨by simp [ih.1], fun k z hz => ?_⟩
        cases k with
        | zero => simp at hz; subst hz; exact ⟨y, by simp, hy⟩
        | succ k => simp at hz; obtain ⟨u, hu, hf⟩ := ih.2 k z hz; exact ⟨u, by simpa using hu, hf⟩

theorem toVal_VR {η : Env} : ∀ (n : Nat) (a : AV) (v : Value), a.toVal n = some v → VR η a v := by
  intro n
  induction n with
  | zero => intro a v h; simp [AV.toVal] at h
  | succ n ih =>
    intro a v h
    have lst : ∀ (l : List AV) (vs : List Value), optMap (AV.toVal n) l = some vs → VRs η l vs := fun l vs hl => by
      have := optMap_some hl
      exact VRs.of this.1 fun k a hk => by obtain ⟨y, hy, hf⟩ := this.2 k a hk; exact ⟨y, hy, ih _ _ hf⟩
    cases a <;> simp only [AV.toVal, Option.map_eq_some_iff, Option.some.injEq] at h <;> simp only [VR] <;> first | exact h.symm | (cases h; done) | skip
    case ifc t a => obtain ⟨y, h1, h2⟩ := h; exact ⟨_, h2.symm, ih _ _ h1⟩
    case agg l => obtain ⟨y, h1, h2⟩ := h; exact ⟨_, h2.symm, lst _ _ h1⟩
    case tup l => obtain ⟨y, h1, h2⟩ := h; exact ⟨_, h2.symm, lst _ _ h1⟩

/-- A value without addresses stands for one concrete value alone. -/
theorem toVal_unique {η : Env} : ∀ (n : Nat) (a : AV) (v x : Value), a.toVal n = some v → VR η a x → x = v := by
  intro n
  induction n with
  | zero => intro a v x h; simp [AV.toVal] at h
  | succ n ih =>
    intro a v x h hx
    have lst : ∀ (l : List AV) (vs us : List Value), optMap (AV.toVal n) l = some vs → VRs η l us → us = vs := fun l vs us hl hu => by
      have h1 := optMap_some hl
      have h2 := VRs_iff.1 hu
      apply List.ext_getElem?
      intro k
      by_cases hk : k < l.length
      · obtain ⟨y, hy, hf⟩ := h1.2 k _ (List.getElem?_eq_getElem hk)
        obtain ⟨z, hz, hv⟩ := hu.at (List.getElem?_eq_getElem hk)
        rw [hy, hz, ih _ _ _ hf hv]
      · rw [List.getElem?_eq_none (by omega), List.getElem?_eq_none (by omega)]
    cases a <;> simp only [AV.toVal, Option.map_eq_some_iff, Option.some.injEq] at h <;> simp only [VR] at hx <;> first | exact hx.trans h | (cases h; done) | skip
    case ifc t a => obtain ⟨y, h1, h2⟩ := h; obtain ⟨z, rfl, hz⟩ := hx; rw [← h2, ih _ _ _ h1 hz]
    case agg l => obtain ⟨y, h1, h2⟩ := h; obtain ⟨z, rfl, hz⟩ := hx; rw [← h2, lst _ _ _ h1 hz]
    case tup l => obtain ⟨y, h1, h2⟩ := h; obtain ⟨z, rfl, hz⟩ := hx; rw [← h2, lst _ _ _ h1 hz]

theorem ofVal_VR {η : Env} : ∀ (n : Nat) (v : Value) (a : AV), ofVal n v = some a → VR η a v := by
  intro n
  induction n with
  | zero => intro v a h; simp [ofVal] at h
  | succ n ih =>
    intro v a h
    have lst : ∀ (vs : List Value) (l : List AV), optMap (ofVal n) vs = some l → VRs η l vs := fun vs l hl => by
      have h1 := optMap_some hl
      refine VRs.of h1.1.symm fun k a hk => ?_
      have hlt : k < vs.length := by have := (List.getElem?_eq_some_iff.1 hk).1; omega
      obtain ⟨y, hy, hf⟩ := h1.2 k _ (List.getElem?_eq_getElem hlt)
      rw [hk] at hy; cases hy
      exact ⟨_, List.getElem?_eq_getElem hlt, ih _ _ hf⟩
    unfold ofVal at h
    split at h
    all_goals try (cases h; done)
    all_goals try (cases h; simp only [VR]; done)
    · simp only [Option.map_eq_some_iff] at h; obtain ⟨y, h1, rfl⟩ := h; simp only [VR]; exact ⟨_, rfl, ih _ _ h1⟩
    · simp only [Option.map_eq_some_iff] at h; obtain ⟨y, h1, rfl⟩ := h; simp only [VR]; exact ⟨_, rfl, lst _ _ h1⟩
    · simp only [Option.map_eq_some_iff] at h; obtain ⟨y, h1, rfl⟩ := h; simp only [VR]; exact ⟨_, rfl, lst _ _ h1⟩

theorem pureRun_run {α : Type} {P : Program} {s : Sem α} {a : α} (h : pureRun P s = some a) (w : World) : s.run P w = .ok a w := by
  induction s with
  | pure x => simp [pureRun] at h; subst h; rfl
  | program k ih => exact ih P h
  | mark m k ih => exact ih h
  | _ => simp [pureRun] at h

/-! ### The tree of places -/
omit [TabsOf] in
theorem Tr.getP_nil {α : Type} : ∀ p : List Bool, (Tr.nil : Tr α).getP p = none
  | [] => rfl
  | b :: p => by
    show Tr.getP p (bif b then Tr.nil else Tr.nil) = none
    cases b <;> exact Tr.getP_nil p
omit [TabsOf] in
@[simp] theorem Tr.get_nil {α : Type} (m : Nat) : (Tr.nil : Tr α).get m = none := Tr.getP_nil _
omit [TabsOf] in
theorem Tr.getP_setP {α : Type} (x : Option α) : ∀ (p q : List Bool) (t : Tr α), (t.setP x p).getP q = if q = p then x else t.getP q
  | [], [], t => rfl
  | [], c :: q, t => by
    rw [if_neg (by simp)]
    rfl
  | b :: p, [], t => by
    rw [if_neg (by simp)]
    cases b <;> rfl
  | b :: p, c :: q, t => by
    have h1 : (t.setP x (b :: p)) = bif b then .nd t.val (t.lft.setP x p) t.rgt else .nd t.val t.lft (t.rgt.setP x p) := rfl
    have h2 : ∀ u : Tr α, u.getP (c :: q) = (bif c then u.lft else u.rgt).getP q := fun _ => rfl
    rw [h1, h2, h2]
    cases b <;> cases c
    · show (t.rgt.setP x p).getP q = _
      rw [Tr.getP_setP x p q]
      simp
    · show t.lft.getP q = _
      simp
    · show t.rgt.getP q = _
      simp
    · show (t.lft.setP x p).getP q = _
      rw [Tr.getP_setP x p q]
      simp
def unpath : List Bool → Nat
  | [] => 0
  | b :: p => 2 * unpath p + (if b then 1 else 2)
omit [TabsOf] in
theorem unpath_pathF : ∀ (f n : Nat), n < 2 ^ f → unpath (pathF f n) = n
  | 0, n, h => by
    have : n = 0 := by simpa using h
    subst this; rfl
  | f + 1, n, h => by
    have h1 : pathF (f + 1) n = bif Nat.beq n 0 then [] else Nat.beq ((n - 1) % 2) 0 :: pathF f ((n - 1) / 2) := rfl
    rw [h1]
    by_cases h0 : n = 0
    · subst h0; rfl
    · have hb : Nat.beq n 0 = false := by cases n with | zero => exact absurd rfl h0 | succ n => rfl
      rw [hb]
      show 2 * unpath (pathF f ((n - 1) / 2)) + _ = n
      have hp : 2 ^ (f + 1) = 2 * 2 ^ f := by rw [Nat.pow_succ, Nat.mul_comm]
      rw [unpath_pathF f _ (by omega)]
      rcases Nat.mod_two_eq_zero_or_one (n - 1) with h2 | h2
      · rw [h2]; show 2 * ((n - 1) / 2) + 1 = n; omega
      · rw [h2]; show 2 * ((n - 1) / 2) + 2 = n; omega
omit [TabsOf] in
theorem unpath_path (n : Nat) : unpath (path n) = n := unpath_pathF _ _ Nat.lt_log2_self
omit [TabsOf] in
theorem path_inj {n m : Nat} : path n = path m ↔ n = m := ⟨fun h => by rw [← unpath_path n, h, unpath_path], fun h => by rw [h]⟩
omit [TabsOf] in
theorem Tr.get_set {α : Type} (t : Tr α) (n m : Nat) (x : Option α) : (t.set n x).get m = if m = n then x else t.get m := by
  unfold Tr.get Tr.set
  rw [Tr.getP_setP]
  by_cases h : m = n
  · subst h; simp
  · rw [if_neg h, if_neg (fun e => h (path_inj.1 e))]

omit [TabsOf] in
theorem ASt.get_put (σ : ASt) (id id' : Nat) (o : AObj) : (σ.put id o).get id' = if id' = id then some o else σ.get id' := Tr.get_set _ _ _ _
omit [TabsOf] in
theorem ASt.get_kill (σ : ASt) (id id' : Nat) : (σ.kill id).get id' = if id' = id then none else σ.get id' := Tr.get_set _ _ _ _
omit [TabsOf] in
theorem ASt.get_new (σ : ASt) (id' : Nat) (o : AObj) : (σ.new o).get id' = if id' = σ.next then some o else σ.get id' := Tr.get_set _ _ _ _

/-! ### States -/
def AObj.own : AObj → Bool
  | .cells _ _ rw _ => rw
  | _ => true

structure CellsR (P : Program) (η : Env) (q : Place) (c : List AV) (et : TypeId) (rw opn : Bool) (cs : Array Value) (elem : TypeId) (fr : Nat × Nat) : Prop where
  fits : q.ba + q.sz ≤ cs.size
  le : c.length ≤ q.sz
  shut : opn = false → c.length = q.sz
  cell : ∀ (k : Nat) a, c[k]? = some a → ∃ x, cs[q.ba + k]? = some x ∧ VR η a x
  free : rw = true → ∀ k, k < q.sz → ¬ (fr.1 ≤ q.ba + k ∧ q.ba + k < fr.2)
  whole : et ≠ 0 → elem = et ∧ q.ba + q.sz = cs.size ∧ (opn = false → q.ba = 0)
  room : opn = true → et ≠ 0 ∧ 0 < q.es ∧ sizeT P et = some q.es

/-- A list of pairs, and a map's entries. -/
def keyOk (kk : Option IntKind) (a : GV) : Prop := match kk with
  | some k => ∃ n, a = .i k n
  | none => ∃ s, a = .s s
def valOk (sz : Option Nat) (b : GV) : Prop := match sz with
  | none => b.scalar = true
  | some n => ∃ cs, b = .g cs ∧ cs.length = n ∧ cs.all GV.scalar = true
def MapR (ro : Nat → Option Obj) (kk : Option IntKind) (sz : Option Nat) : List GV → List MapEntry → Prop
  | [], ms => ms = []
  | x :: xs, ms => ∃ a b m rest, x = .g [a, b] ∧ ms = m :: rest ∧ keyOk kk a ∧ valOk sz b ∧ GR ro a m.key ∧ GR ro b m.val ∧ MapR ro kk sz xs rest
theorem MapR.mono {ro ro' : Nat → Option Obj} (h : ∀ b o, ro b = some o → ro' b = some o) {kk : Option IntKind} {sz : Option Nat} : ∀ {xs : List GV} {ms : List MapEntry}, MapR ro kk sz xs ms → MapR ro' kk sz xs ms
  | [], ms, r => r
  | x :: xs, ms, r => by
    obtain ⟨a, b, m, rest, e1, e2, h1, h2, h3, h4, h5⟩ := r
    exact ⟨a, b, m, rest, e1, e2, h1, h2, GR.mono h _ _ h3, GR.mono h _ _ h4, MapR.mono h h5⟩

def OR (P : Program) (η : Env) (q : Place) (w : World) : AObj → Prop
  | .cells c et rw opn => ∃ cs elem fr, w.heap[q.bl]? = some (.cells cs elem fr) ∧ CellsR P η q c et rw opn cs elem fr
  | .iter s pos => w.heap[q.bl]? = some (.stringIter ⟨⟨s⟩⟩ pos) ∧ q.ba = 0
  | .map es => ∃ ms clock, w.heap[q.bl]? = some (.map ms clock) ∧ ms.size = es.length ∧ ∀ (k : Nat) e, es[k]? = some e → ∃ m, ms[k]? = some m ∧ VR η e.1 m.key ∧ VR η e.2 m.val
  | .vec n et f => ∃ xs cs elem fr ys, TabsOf.val n = some (.l xs) ∧ w.heap[q.bl]? = some (.cells cs elem fr) ∧ GRs η.ro xs ys ∧ (∀ y ∈ ys, y.cells.size = q.es) ∧ cellsAt cs q.ba (cellsL ys) ∧ xs.length * q.es ≤ q.sz ∧ CellsR P η q [] et true true cs elem fr ∧ (∀ x ∈ xs, x.cells.all GV.scalar = true) ∧ (f = true → q.es ≤ q.sz)
  | .smap n kk sz => ∃ xs ms clock, TabsOf.val n = some (.l xs) ∧ w.heap[q.bl]? = some (.map ms clock) ∧ MapR η.ro kk sz xs ms.toList
  | .pmap es => (es.map (·.1)).Nodup ∧ ∃ ms clock ms', w.heap[q.bl]? = some (.map ms clock) ∧ ms.toList.Perm ms' ∧ ms'.length = es.length ∧ ∀ (k : Nat) e, es[k]? = some e → ∃ m, ms'[k]? = some m ∧ m.key = .string ⟨⟨e.1⟩⟩ ∧ VR η e.2 m.val
  | .iterM none => q.ba = 0 ∧ ∃ since last, w.heap[q.bl]? = some (.mapIter none since #[] last)
  | .iterM (some m) => q.ba = 0 ∧ ∃ since last q', η m = some q' ∧ w.heap[q.bl]? = some (.mapIter (some q'.bl) since #[] last)

theorem CellsR.mono {P : Program} {η η' : Env} (h : η.le η') {q : Place} {c : List AV} {et : TypeId} {rw opn : Bool} {cs : Array Value} {elem : TypeId} {fr : Nat × Nat}
    (r : CellsR P η q c et rw opn cs elem fr) : CellsR P η' q c et rw opn cs elem fr :=
  { r with cell := fun k a hk => by obtain ⟨x, hx, hv⟩ := r.cell k a hk; exact ⟨x, hx, VR.mono h _ _ hv⟩ }

theorem OR.mono {P : Program} {η η' : Env} (h : η.le η') {q : Place} {w : World} {o : AObj} (r : OR P η q w o) : OR P η' q w o := by
  cases o with
  | cells c et rw opn => obtain ⟨cs, elem, fr, h1, h2⟩ := r; exact ⟨cs, elem, fr, h1, h2.mono h⟩
  | iter s pos => exact r
  | map es =>
    obtain ⟨ms, clock, h1, h2, h3⟩ := r
    refine ⟨ms, clock, h1, h2, fun k e hk => ?_⟩
    obtain ⟨m, hm, ha, hb⟩ := h3 k e hk
    exact ⟨m, hm, VR.mono h _ _ ha, VR.mono h _ _ hb⟩
  | iterM m =>
    cases m with
    | none => exact r
    | some m =>
      obtain ⟨h0, since, last, q', h1, h2⟩ := r
      exact ⟨h0, since, last, q', h.pl _ _ h1, h2⟩
  | smap n kk sz =>
    obtain ⟨xs, ms, clock, h1, h2, h3⟩ := r
    exact ⟨xs, ms, clock, h1, h2, h3.mono h.ro⟩
  | pmap es =>
    obtain ⟨hn, ms, clock, ms', h1, hp, h2, h3⟩ := r
    refine ⟨hn, ms, clock, ms', h1, hp, h2, fun k e hk => ?_⟩
    obtain ⟨m, hm, ha, hb⟩ := h3 k e hk
    exact ⟨m, hm, ha, VR.mono h _ _ hb⟩
  | vec n et f =>
    obtain ⟨xs, cs, elem, fr, ys, h1, h2, h3, h4, h5, h6, h7, h8⟩ := r
    exact ⟨xs, cs, elem, fr, ys, h1, h2, GRs.mono h.ro _ _ h3, h4, h5, h6, h7.mono h, h8⟩

theorem OR.heap {P : Program} {η : Env} {q : Place} {w w' : World} {o : AObj} (h : w'.heap[q.bl]? = w.heap[q.bl]?) (r : OR P η q w o) : OR P η q w' o := by
  cases o with
  | iterM m => cases m <;> simp only [OR] at r ⊢ <;> rw [h] <;> exact r
  | _ => simp only [OR] at r ⊢; rw [h]; exact r

/-- What a table's cell holds: the value that is told, or an integer of which bounds are told. -/
def TabE (a : AV) (x : Value) : Prop := a.toVal 4 = some x ∨ ∃ k lo hi m, a = .z k lo hi ∧ x = .int k m ∧ lo ≤ m ∧ m ≤ hi
/-- What a table's cells are: as it says, all of them; a table without a word is a variable that holds an interface's value. -/
def TabC (c : List AV) (cs : Array Value) : Prop := (∀ (k : Nat) a, c[k]? = some a → ∃ x, cs[k]? = some x ∧ TabE a x) ∧ (c ≠ [] → cs.size = c.length) ∧ (c = [] → ∃ t q, cs[0]? = some (.iface t q))
theorem TabE.vr {η : Env} {a : AV} {x : Value} (h : TabE a x) : VR η a x := by
  rcases h with h | ⟨k, lo, hi, m, rfl, rfl, h1, h2⟩
  · exact toVal_VR 4 a x h
  · simp only [VR]; exact ⟨m, h1, h2, rfl⟩
/-- What a table's block holds, among those that nobody changes. -/
def TabRo (η : Env) (g : Nat) (c : List AV) : Prop := ∃ cs elem fr, η.ro g = some (.cells cs elem fr) ∧ c.length ≤ cs.size ∧ TabC c cs
theorem TabRo.mono {η η' : Env} {g : Nat} {c : List AV} (h : TabRo η g c) (hle : η.le η') : TabRo η' g c := by
  obtain ⟨cs, elem, fr, h1, h2⟩ := h
  exact ⟨cs, elem, fr, hle.ro _ _ h1, h2⟩

/-- What a state's object stands for: it lies somewhere, or there is none yet. -/
def Live (P : Program) (η : Env) (w : World) (id : Nat) (o : AObj) : Prop := (∃ q, η id = some q ∧ OR P η q w o) ∨ (η.gh id = true ∧ ∃ n et f, o = .vec n et f ∧ TabsOf.val n = some (.l []))

theorem Live.mono {P : Program} {η η' : Env} (h : η.le η') {w : World} {id : Nat} {o : AObj} (r : Live P η w id o) : Live P η' w id o := by
  rcases r with ⟨q, hq, hr⟩ | ⟨hg, h2⟩
  · exact .inl ⟨q, h.pl _ _ hq, hr.mono h⟩
  · exact .inr ⟨h.gh _ hg, h2⟩
theorem Live.heap {P : Program} {η : Env} {w w' : World} {id : Nat} {o : AObj} (r : Live P η w id o) (h : ∀ q, η id = some q → OR P η q w o → w'.heap[q.bl]? = w.heap[q.bl]?) : Live P η w' id o := by
  rcases r with ⟨q, hq, hr⟩ | h2
  · exact .inl ⟨q, hq, OR.heap (h q hq hr) hr⟩
  · exact .inr h2

structure SR (P : Program) (η : Env) (σ : ASt) (w : World) : Prop where
  glob : ∀ g, g ≤ P.globals.size → ∃ sz es, η g = some ⟨g, 0, sz, es⟩
  dom : ∀ id q, η id = some q → id < σ.next
  live : ∀ id o, σ.get id = some o → Live P η w id o
  ghd : ∀ id, η.gh id = true → η id = none ∧ id < σ.next
  sep : ∀ id o id' o' q q', σ.get id = some o → o.own = true → σ.get id' = some o' → id ≠ id' → η id = some q → η id' = some q' → q.bl ≠ q'.bl
  roAt : ∀ b o, η.ro b = some o → w.heap[b]? = some o
  roSep : ∀ id o q, σ.get id = some o → o.own = true → η id = some q → η.ro q.bl = none
  tabs : ∀ p ∈ TabsOf.tabs, TabRo η p.1 p.2

def AObj.isVec : AObj → Bool
  | .vec _ _ _ => true
  | _ => false
/-- An object that is no such block lies somewhere. -/
theorem SR.obj {P : Program} {η : Env} {σ : ASt} {w : World} (h : SR P η σ w) : ∀ id o, σ.get id = some o → o.isVec = false → ∃ q, η id = some q ∧ OR P η q w o := by
  intro id o ho hv
  rcases h.live id o ho with h1 | ⟨_, n, et, f, rfl, _⟩
  · exact h1
  · cases hv
theorem SR.at {P : Program} {η : Env} {σ : ASt} {w : World} (h : SR P η σ w) {id : Nat} {o : AObj} {q : Place} (ho : σ.get id = some o) (hq : η id = some q) : OR P η q w o := by
  rcases h.live id o ho with ⟨q', hq', hr⟩ | ⟨hg, _⟩
  · rw [hq] at hq'; cases hq'; exact hr
  · rw [(h.ghd id hg).1] at hq; cases hq

/-- A step of the concrete world, and what the state says before and behind it. -/
structure St (P : Program) (η : Env) (σ : ASt) (w : World) (η' : Env) (σ' : ASt) (w' : World) : Prop where
  ext : η.le η'
  rel : SR P η' σ' w'
  size : w.heap.size ≤ w'.heap.size
  keep : ∀ bl, bl < w.heap.size → (∀ id o q, σ.get id = some o → o.own = true → σ.lock ≤ id → η id = some q → q.bl ≠ bl) → w'.heap[bl]? = w.heap[bl]?
  own : ∀ id o q, σ'.get id = some o → o.own = true → σ.lock ≤ id → η' id = some q → w.heap.size ≤ q.bl ∨ ∃ id0 o0 q0, σ.get id0 = some o0 ∧ o0.own = true ∧ σ.lock ≤ id0 ∧ η id0 = some q0 ∧ q0.bl = q.bl
  os : w'.os = w.os
  tape : w'.tape = w.tape
  output : w'.output = w.output
  lock : σ'.lock = σ.lock
  next : σ.next ≤ σ'.next
  new : ∀ id, η'.has id → η.has id ∨ (σ.next ≤ id ∧ id < σ'.next)
  roNew : ∀ b, η'.ro b ≠ none → η.ro b ≠ none ∨ w.heap.size ≤ b ∨ ∃ id0 o0 q0, σ.get id0 = some o0 ∧ o0.own = true ∧ σ.lock ≤ id0 ∧ η id0 = some q0 ∧ q0.bl = b

theorem St.refl {P : Program} {η : Env} {σ : ASt} {w : World} (h : SR P η σ w) : St P η σ w η σ w :=
  ⟨Env.le.refl _, h, Nat.le_refl _, fun _ _ _ => rfl, fun id o q h1 h2 h3 h4 => .inr ⟨id, o, q, h1, h2, h3, h4, rfl⟩, rfl, rfl, rfl, rfl, Nat.le_refl _, fun _ h => .inl h, fun _ h => .inl h⟩

theorem St.trans {P : Program} {η η1 η2 : Env} {σ σ1 σ2 : ASt} {w w1 w2 : World} (h : St P η σ w η1 σ1 w1) (k : St P η1 σ1 w1 η2 σ2 w2) : St P η σ w η2 σ2 w2 := by
  refine ⟨h.ext.trans k.ext, k.rel, Nat.le_trans h.size k.size, ?_, ?_, k.os.trans h.os, k.tape.trans h.tape, k.output.trans h.output, k.lock.trans h.lock, Nat.le_trans h.next k.next, ?_, ?_⟩
  rotate_right
  · intro b hb
    rcases k.roNew b hb with h1 | h1 | ⟨id0, o0, q0, a1, b1, c1, d1, e1⟩
    · exact h.roNew b h1
    · exact .inr (.inl (Nat.le_trans h.size h1))
    · rcases h.own id0 o0 q0 a1 b1 (h.lock ▸ c1) d1 with h2 | ⟨id2, o2, q2, a2, b2, c2, d2, e2⟩
      · right; left; omega
      · exact .inr (.inr ⟨id2, o2, q2, a2, b2, c2, d2, e2.trans e1⟩)
  rotate_right
  · intro id hq
    rcases k.new id hq with h1 | ⟨h1, h2⟩
    · rcases h.new id h1 with h3 | ⟨h3, h4⟩
      · exact .inl h3
      · exact .inr ⟨h3, Nat.lt_of_lt_of_le h4 k.next⟩
    · exact .inr ⟨Nat.le_trans h.next h1, h2⟩
  · intro bl hbl hno
    rw [k.keep bl (Nat.lt_of_lt_of_le hbl h.size) ?_, h.keep bl hbl hno]
    intro id o q h1 h2 h3 h4
    rcases h.own id o q h1 h2 (h.lock ▸ h3) h4 with h5 | ⟨id0, o0, q0, a, b, c, d, e⟩
    · omega
    · rw [← e]; exact hno id0 o0 q0 a b c d
  · intro id o q h1 h2 h3 h4
    rcases k.own id o q h1 h2 (by rw [h.lock]; exact h3) h4 with h5 | ⟨id0, o0, q0, a, b, c, d, e⟩
    · exact .inl (Nat.le_trans h.size h5)
    · rcases h.own id0 o0 q0 a b (h.lock ▸ c) d with h6 | ⟨id1, o1, q1, a1, b1, c1, d1, e1⟩
      · left; omega
      · exact .inr ⟨id1, o1, q1, a1, b1, c1, d1, e1.trans e⟩

theorem SR.hasLt {P : Program} {η : Env} {σ : ASt} {w : World} (h : SR P η σ w) {id : Nat} (hh : η.has id) : id < σ.next := hh.elim (fun ⟨q, hq⟩ => h.dom id q hq) fun hg => (h.ghd id hg).2
theorem SR.hasOf {P : Program} {η : Env} {σ : ASt} {w : World} (h : SR P η σ w) {id : Nat} {o : AObj} (ho : σ.get id = some o) : η.has id := (h.live id o ho).elim (fun ⟨q, hq, _⟩ => .inl ⟨q, hq⟩) fun ⟨hg, _⟩ => .inr hg
/-- A place in use behind a step was there, or is new. -/
theorem St.newPl {P : Program} {η η' : Env} {σ σ' : ASt} {w w' : World} (h : St P η σ w η' σ' w') {id : Nat} {q : Place} (hq : η' id = some q) : η id = some q ∨ (σ.next ≤ id ∧ id < σ'.next) := by
  rcases h.new id (.inl ⟨q, hq⟩) with (⟨p, hp⟩ | hg) | hn
  · have := h.ext.pl _ _ hp
    rw [hq] at this; cases this
    exact .inl hp
  · have := (h.rel.ghd id (h.ext.gh _ hg)).1
    rw [hq] at this; cases this
  · exact .inr hn

/-- A draw from the tape changes nothing. -/
theorem SR.drew {P : Program} {η : Env} {σ : ASt} {w : World} (h : SR P η σ w) : SR P η σ { w with drawn := w.drawn + 1 } :=
  ⟨h.glob, h.dom, fun id o ho => (h.live id o ho).heap (w := w) (fun _ _ _ => rfl), h.ghd, h.sep, h.roAt, h.roSep, h.tabs⟩

theorem St.drew {P : Program} {η : Env} {σ : ASt} {w : World} (h : SR P η σ w) : St P η σ w η σ { w with drawn := w.drawn + 1 } :=
  ⟨Env.le.refl _, h.drew, Nat.le_refl _, fun _ _ _ => rfl, fun id o q h1 h2 h3 h4 => .inr ⟨id, o, q, h1, h2, h3, h4, rfl⟩, rfl, rfl, rfl, rfl, Nat.le_refl _, fun _ h => .inl h, fun _ h => .inl h⟩

end
end Go.Abs

/-! # AbsMem -/
namespace Go.Abs
noncomputable section
variable [TabsOf]
set_option linter.unusedSectionVars false
set_option linter.unusedVariables false
set_option linter.unusedSimpArgs false

theorem add_none (bl off n : Nat) : (⟨bl, off, none⟩ : Addr).add n = ⟨bl, off + n, none⟩ := by
  unfold Addr.add; split
  · next h => simp [h]
  · rfl

theorem cell_eq {w : World} {bl off : Nat} {cs : Array Value} {elem : TypeId} {fr : Nat × Nat} (h : w.heap[bl]? = some (.cells cs elem fr)) :
    w.cell? ⟨bl, off, none⟩ = cs[off]? := by
  simp [World.cell?, h]

theorem frozen_eq {w : World} {bl off : Nat} {cs : Array Value} {elem : TypeId} {fr : Nat × Nat} (h : w.heap[bl]? = some (.cells cs elem fr)) :
    w.frozen? ⟨bl, off, none⟩ = (decide (fr.1 ≤ off) && decide (off < fr.2)) := by
  simp [World.frozen?, h]

theorem run_loadCellsFrom {P : Program} {w : World} {bl off : Nat} {cs : Array Value} {elem : TypeId} {fr : Nat × Nat} (h : w.heap[bl]? = some (.cells cs elem fr)) :
    ∀ (n i : Nat) (acc : Array Value), off + i + n ≤ cs.size →
      (loadCellsFrom ⟨bl, off, none⟩ i n acc).run P w = .ok (acc ++ (cs.toList.drop (off + i)).take n) w := by
  intro n
  induction n with
  | zero => intro i acc _; simp [loadCellsFrom]
  | succ n ih =>
    intro i acc hle
    have hlt : off + i < cs.size := by omega
    have hc : w.cell? ⟨bl, off + i, none⟩ = some cs[off + i] := by rw [cell_eq h]; simp [hlt]
    simp only [loadCellsFrom, Sem.run_bind, add_none]
    have hl : (load ⟨bl, off + i, none⟩).run P w = .ok cs[off + i] w := by simp [load, Sem.run, hc]
    rw [hl]
    simp only [Result.andThen_ok]
    rw [ih (i + 1) _ (by omega)]
    congr 1
    have : cs.toList.drop (off + i) = cs[off + i] :: cs.toList.drop (off + (i + 1)) := by
      rw [List.drop_eq_getElem_cons (by simpa using hlt)]; simp [Nat.add_assoc]
    rw [this]; simp

theorem run_loadCells {P : Program} {w : World} {bl off n : Nat} {cs : Array Value} {elem : TypeId} {fr : Nat × Nat} (h : w.heap[bl]? = some (.cells cs elem fr)) (hle : off + n ≤ cs.size) :
    (loadCells ⟨bl, off, none⟩ n).run P w = .ok ⟨(cs.toList.drop off).take n⟩ w := by
  unfold loadCells
  rw [run_loadCellsFrom h n 0 #[] (by simpa using hle)]
  simp

theorem run_load1 {P : Program} {w : World} {bl off : Nat} {cs : Array Value} {elem : TypeId} {fr : Nat × Nat} {x : Value} (h : w.heap[bl]? = some (.cells cs elem fr)) (hx : cs[off]? = some x) :
    (load ⟨bl, off, none⟩).run P w = .ok x w := by
  have hc : w.cell? ⟨bl, off, none⟩ = some x := by rw [cell_eq h, hx]
  simp [load, Sem.run, hc]

/-- The cells of a block from a place on, written. -/
def setFrom (cs : Array Value) (off : Nat) : List Value → Array Value
  | [] => cs
  | v :: vs => setFrom (cs.setIfInBounds off v) (off + 1) vs

theorem setFrom_size : ∀ (vs : List Value) (cs : Array Value) (off : Nat), (setFrom cs off vs).size = cs.size
  | [], _, _ => rfl
  | v :: vs, cs, off => by rw [setFrom, setFrom_size vs]; simp

theorem setFrom_get : ∀ (vs : List Value) (cs : Array Value) (off k : Nat), off + vs.length ≤ cs.size →
    (setFrom cs off vs)[k]? = if off ≤ k ∧ k < off + vs.length then vs[k - off]? else cs[k]?
  | [], cs, off, k, h => by simp [setFrom]; omega
  | v :: vs, cs, off, k, h => by
    simp only [List.length_cons] at h
    rw [setFrom, setFrom_get vs _ _ _ (by simp; omega)]
    by_cases h1 : off + 1 ≤ k ∧ k < off + 1 + vs.length
    · rw [if_pos h1, if_pos ⟨by omega, by simp; omega⟩]
      have : k - off = (k - (off + 1)) + 1 := by omega
      rw [this]; simp
    · rw [if_neg h1]
      by_cases h2 : k = off
      · subst h2
        rw [if_pos ⟨Nat.le_refl _, by simp⟩]
        have hk : k < cs.size := by omega
        simp [hk]
      · rw [if_neg (by simp only [List.length_cons]; omega)]
        rw [Array.getElem?_setIfInBounds, if_neg (fun e => h2 e.symm)]

def setBlk (w : World) (bl : Nat) (o : Obj) : World := { w with heap := w.heap.setIfInBounds bl o }

theorem setBlk_at {w : World} {bl : Nat} {o o' : Obj} (h : w.heap[bl]? = some o) : (setBlk w bl o').heap[bl]? = some o' := by
  have : bl < w.heap.size := (Array.getElem?_eq_some_iff.1 h).1
  simp [setBlk, this]
theorem setBlk_ne {w : World} {bl k : Nat} {o' : Obj} (h : k ≠ bl) : (setBlk w bl o').heap[k]? = w.heap[k]? := by
  simp only [setBlk]; rw [Array.getElem?_setIfInBounds, if_neg (fun e => h e.symm)]
theorem setBlk_size {w : World} {bl : Nat} {o' : Obj} : (setBlk w bl o').heap.size = w.heap.size := by simp [setBlk]
theorem setBlk_twice {w : World} {bl : Nat} {o o' : Obj} : setBlk (setBlk w bl o) bl o' = setBlk w bl o' := by
  simp only [setBlk]; congr 1
  apply Array.ext_getElem?; intro i
  simp only [Array.getElem?_setIfInBounds, Array.size_setIfInBounds]
  split <;> rfl

theorem setCell_eq {w : World} {bl off : Nat} {cs : Array Value} {elem : TypeId} {fr : Nat × Nat} (h : w.heap[bl]? = some (.cells cs elem fr)) (v : Value) :
    w.setCell ⟨bl, off, none⟩ v = setBlk w bl (.cells (cs.setIfInBounds off v) elem fr) := by
  unfold World.setCell setBlk
  congr 1
  apply Array.ext_getElem?; intro i
  rw [Array.getElem?_modify, Array.getElem?_setIfInBounds]
  by_cases e : bl = i
  · subst e
    have : bl < w.heap.size := (Array.getElem?_eq_some_iff.1 h).1
    rw [if_pos rfl, if_pos rfl, if_pos this, h]; rfl
  · rw [if_neg e, if_neg e]

theorem setBlk_same {w : World} {bl : Nat} {o : Obj} (h : w.heap[bl]? = some o) : setBlk w bl o = w := by
  unfold setBlk
  have : w.heap.setIfInBounds bl o = w.heap := by
    apply Array.ext_getElem?; intro i
    rw [Array.getElem?_setIfInBounds]
    by_cases e : bl = i
    · subst e
      have : bl < w.heap.size := (Array.getElem?_eq_some_iff.1 h).1
      rw [if_pos rfl, if_pos this, h]
    · rw [if_neg e]
  rw [this]

def oneC : Value → Bool
  | .agg _ | .tuple _ => false
  | _ => true

theorem run_storeCells {P : Program} : ∀ (vs : List Value) (w : World) (bl off i : Nat) (cs : Array Value) (elem : TypeId) (fr : Nat × Nat),
    w.heap[bl]? = some (.cells cs elem fr) → off + i + vs.length ≤ cs.size → (∀ v ∈ vs, oneC v = true) →
    (∀ k, off + i ≤ k → k < off + i + vs.length → ¬ (fr.1 ≤ k ∧ k < fr.2)) →
    (storeCells ⟨bl, off, none⟩ vs i).run P w = .ok () (setBlk w bl (.cells (setFrom cs (off + i) vs) elem fr))
  | [], w, bl, off, i, cs, elem, fr, h, _, _, _ => by simp [storeCells, setFrom, setBlk_same h]
  | v :: vs, w, bl, off, i, cs, elem, fr, h, hle, hone, hfr => by
    simp only [List.length_cons] at hle hfr
    have hlt : off + i < cs.size := by omega
    have hc : w.cell? ⟨bl, off + i, none⟩ = some cs[off + i] := by rw [cell_eq h]; simp [hlt]
    have hf : w.frozen? ⟨bl, off + i, none⟩ = false := by
      rw [frozen_eq h]; have := hfr (off + i) (by omega) (by omega); simpa using this
    have hv := hone v (by simp)
    have hs : (store ⟨bl, off + i, none⟩ v).run P w = .ok () (setBlk w bl (.cells (cs.setIfInBounds (off + i) v) elem fr)) := by
      rw [← setCell_eq h]
      cases v <;> simp [oneC] at hv <;> simp [store, Sem.run, hc, hf]
    simp only [storeCells, Sem.run_bind, add_none, hs, Result.andThen_ok]
    rw [run_storeCells vs _ bl off (i + 1) (cs.setIfInBounds (off + i) v) elem fr (setBlk_at h) (by simp; omega) (fun x hx => hone x (by simp [hx])) (fun k h1 h2 => hfr k (by omega) (by omega))]
    rw [setBlk_twice]
    rfl

/-! ### Steps -/
def Env.put (η : Env) (id : Nat) (q : Place) : Env := ⟨fun k => if k = id then some q else η k, η.ro, η.gh⟩

theorem Env.put_le {P : Program} {η : Env} {σ : ASt} {w : World} (h : SR P η σ w) (q : Place) : η.le (η.put σ.next q) := by
  refine ⟨fun id p hp => ?_, fun _ _ h => h, fun _ h => h⟩
  have := h.dom id p hp
  simp only [Env.put]; rw [if_neg (by omega)]; exact hp

theorem getLt {w : World} {k : Nat} {o : Obj} (h : w.heap[k]? = some o) : k < w.heap.size := (Array.getElem?_eq_some_iff.1 h).1

theorem OR.lt {P : Program} {η : Env} {q : Place} {w : World} {o : AObj} (h : OR P η q w o) : q.bl < w.heap.size := by
  cases o with
  | cells c et rw opn => obtain ⟨cs, elem, fr, h1, _⟩ := h; exact getLt h1
  | iter s pos => exact getLt h.1
  | map es => obtain ⟨ms, clock, h1, _⟩ := h; exact getLt h1
  | iterM m => cases m with
    | none => obtain ⟨_, _, _, h1⟩ := h; exact getLt h1
    | some m => obtain ⟨_, _, _, _, _, h1⟩ := h; exact getLt h1
  | vec n et f => obtain ⟨_, _, _, _, _, _, h1, _⟩ := h; exact getLt h1
  | smap n kk sz => obtain ⟨_, _, _, _, h1, _⟩ := h; exact getLt h1
  | pmap es => obtain ⟨_, _, _, _, h1, _⟩ := h; exact getLt h1

theorem Env.put_gh {P : Program} {η : Env} {σ : ASt} {w : World} (h : SR P η σ w) (q : Place) {n : Nat} (hn : σ.next < n) : ∀ id, (η.put σ.next q).gh id = true → (η.put σ.next q) id = none ∧ id < n := by
  intro id hid
  obtain ⟨h1, h2⟩ := h.ghd id hid
  refine ⟨?_, by omega⟩
  simp only [Env.put]; rw [if_neg (by omega)]; exact h1

/-- A new block. -/
theorem St.alloc {P : Program} {η : Env} {σ : ASt} {w : World} (h : SR P η σ w) (o : AObj) (oc : Obj) (q : Place) (hq : q.bl = w.heap.size)
    (ho : OR P (η.put σ.next q) q { w with heap := w.heap.push oc } o) : St P η σ w (η.put σ.next q) (σ.new o) { w with heap := w.heap.push oc } := by
  have hle := Env.put_le h q
  have hat : ∀ k, k < w.heap.size → (w.heap.push oc)[k]? = w.heap[k]? := fun k hk => by rw [Array.getElem?_push, if_neg (by omega)]
  have hrolt : ∀ b o, η.ro b = some o → b < w.heap.size := fun b o hb => getLt (h.roAt b o hb)
  refine ⟨hle, ⟨?_, ?_, ?_, Env.put_gh h q (Nat.lt_succ_self _), ?_, fun b o hb => ?_, fun id o1 p a1 a2 a3 => ?_, fun p hp => (h.tabs p hp).mono hle⟩, by simp, fun bl hbl _ => hat bl hbl, ?_, rfl, rfl, rfl, rfl, Nat.le_succ _, ?_, fun _ h => .inl h⟩
  rotate_right
  · rintro id (⟨p, hp⟩ | hg)
    · simp only [Env.put] at hp
      split at hp
      · next e => subst e; exact .inr ⟨Nat.le_refl _, Nat.lt_succ_self _⟩
      · exact .inl (.inl ⟨p, hp⟩)
    · exact .inl (.inr hg)
  · intro g hg; obtain ⟨sz, es, h1⟩ := h.glob g hg; exact ⟨sz, es, hle.pl _ _ h1⟩
  · intro id p hp
    simp only [Env.put] at hp
    show id < σ.next + 1
    split at hp
    · omega
    · have := h.dom id p hp; omega
  · intro id o' ho'
    rw [ASt.get_new] at ho'
    split at ho'
    · next e => cases ho'; subst e; exact .inl ⟨q, by simp [Env.put], ho⟩
    · exact ((h.live id o' ho').heap (w := w) (fun p _ hr => hat _ hr.lt)).mono hle
  · intro id o1 id' o2 p p' h1 h2 h3 h4 h5 h6
    rw [ASt.get_new] at h1 h3
    simp only [Env.put] at h5 h6
    split at h1 <;> split at h3
    · omega
    · next e e' =>
      rw [if_pos e] at h5; rw [if_neg e'] at h6; cases h5
      have := (h.at h3 h6).lt; omega
    · next e e' =>
      rw [if_neg e] at h5; rw [if_pos e'] at h6; cases h6
      have := (h.at h1 h5).lt; omega
    · next e e' =>
      rw [if_neg e] at h5; rw [if_neg e'] at h6
      exact h.sep id o1 id' o2 p p' h1 h2 h3 h4 h5 h6
  · exact (hat b (hrolt b o hb)).trans (h.roAt b o hb)
  · rw [ASt.get_new] at a1
    simp only [Env.put] at a3 ⊢
    split at a1
    · next e =>
      rw [if_pos e] at a3; cases a3
      cases hro : η.ro q.bl with
      | none => rfl
      | some o2 => have := hrolt _ _ hro; omega
    · next e => rw [if_neg e] at a3; exact h.roSep id o1 p a1 a2 a3
  · intro id o1 p h1 h2 h3 h4
    rw [ASt.get_new] at h1
    simp only [Env.put] at h4
    split at h1
    · next e => rw [if_pos e] at h4; cases h4; left; omega
    · next e => rw [if_neg e] at h4; exact .inr ⟨id, o1, p, h1, h2, h3, h4, rfl⟩

/-- A write into a block of our own. -/
theorem St.write {P : Program} {η : Env} {σ : ASt} {w w' : World} (h : SR P η σ w) {id : Nat} {o o' : AObj} {q : Place} (hg : σ.get id = some o) (ho : o.own = true) (hl : σ.lock ≤ id)
    (hq : η id = some q) (hsz : w'.heap.size = w.heap.size) (hk : ∀ k, k ≠ q.bl → w'.heap[k]? = w.heap[k]?) (h1 : w'.os = w.os) (h2 : w'.tape = w.tape) (h3 : w'.output = w.output)
    (hr : OR P η q w' o') : St P η σ w η (σ.put id o') w' := by
  have hro := h.roSep id o q hg ho hq
  refine ⟨Env.le.refl _, ⟨h.glob, h.dom, ?_, h.ghd, ?_, fun b o2 hb => ?_, fun id2 o2 p a1 a2 a3 => ?_, h.tabs⟩, by omega, ?_, ?_, h1, h2, h3, rfl, Nat.le_refl _, fun _ h => .inl h, fun _ h => .inl h⟩
  · intro id' o2 h4
    rw [ASt.get_put] at h4
    split at h4
    · next e => cases h4; subst e; exact .inl ⟨q, hq, hr⟩
    · next e => exact (h.live id' o2 h4).heap (w := w) fun p hp _ => hk _ (h.sep id o id' o2 q p hg ho h4 (fun e' => e e'.symm) hq hp).symm
  · intro id1 o1 id2 o2 p p' a b c d e f
    rw [ASt.get_put] at a c
    split at a <;> split at c
    · omega
    · next e1 e2 => subst e1; exact h.sep id1 o id2 o2 p p' hg ho c d e f
    · next e1 e2 => subst e2; exact h.sep id1 o1 id2 o p p' a b hg d e f
    · exact h.sep id1 o1 id2 o2 p p' a b c d e f
  · rw [hk b (fun e => by rw [e] at hb; rw [hro] at hb; cases hb)]; exact h.roAt b o2 hb
  · rw [ASt.get_put] at a1
    split at a1
    · next e => subst e; rw [hq] at a3; cases a3; exact hro
    · exact h.roSep id2 o2 p a1 a2 a3
  · intro bl hbl hno
    exact hk bl (hno id o q hg ho hl hq).symm
  · intro id1 o1 p a b c d
    rw [ASt.get_put] at a
    split at a
    · next e => subst e; exact .inr ⟨id1, o, p, hg, ho, hl, d, rfl⟩
    · exact .inr ⟨id1, o1, p, a, b, c, d, rfl⟩

/-- A block of our own is given up, and a part of it comes back under a new name. -/
theorem St.again {P : Program} {η : Env} {σ : ASt} {w w' : World} (h : SR P η σ w) {id : Nat} {o o' : AObj} {q q' : Place} (hg : σ.get id = some o) (ho : o.own = true) (hl : σ.lock ≤ id)
    (hq : η id = some q) (hq' : q'.bl = q.bl) (hsz : w'.heap.size = w.heap.size) (hk : ∀ k, k ≠ q.bl → w'.heap[k]? = w.heap[k]?) (h1 : w'.os = w.os) (h2 : w'.tape = w.tape) (h3 : w'.output = w.output)
    (hr : OR P (η.put σ.next q') q' w' o') : St P η σ w (η.put σ.next q') ((σ.kill id).new o') w' := by
  have hle := Env.put_le h q'
  have hid : id < σ.next := h.dom id q hq
  have get : ∀ k, ((σ.kill id).new o').get k = if k = σ.next then some o' else if k = id then none else σ.get k := fun k => by
    rw [ASt.get_new, ASt.get_kill]; rfl
  have hro := h.roSep id o q hg ho hq
  refine ⟨hle, ⟨?_, ?_, ?_, Env.put_gh h q' (Nat.lt_succ_self _), ?_, fun b o2 hb => ?_, fun id2 o2 p a1 a2 a3 => ?_, fun p hp => (h.tabs p hp).mono hle⟩, by omega, ?_, ?_, h1, h2, h3, rfl, Nat.le_succ _, ?_, fun _ h => .inl h⟩
  rotate_right
  · rintro id (⟨p, hp⟩ | hg)
    · simp only [Env.put] at hp
      split at hp
      · next e => subst e; exact .inr ⟨Nat.le_refl _, Nat.lt_succ_self _⟩
      · exact .inl (.inl ⟨p, hp⟩)
    · exact .inl (.inr hg)
  · intro g hg; obtain ⟨sz, es, h1⟩ := h.glob g hg; exact ⟨sz, es, hle.pl _ _ h1⟩
  · intro k p hp
    simp only [Env.put] at hp
    show k < σ.next + 1
    split at hp
    · omega
    · have := h.dom k p hp; omega
  · intro k o2 h4
    rw [get] at h4
    split at h4
    · next e => cases h4; subst e; exact .inl ⟨q', by simp [Env.put], hr⟩
    · split at h4
      · cases h4
      · next e e2 => exact ((h.live k o2 h4).heap (w := w) fun p hp _ => hk _ (h.sep id o k o2 q p hg ho h4 (fun e' => e2 e'.symm) hq hp).symm).mono hle
  · intro id1 o1 id2 o2 p p' a b c d e f
    rw [get] at a c
    simp only [Env.put] at e f
    split at a <;> split at c
    · omega
    · next e1 e2 =>
      split at c
      · cases c
      · next e3 =>
        rw [if_pos e1] at e; rw [if_neg e2] at f; cases e
        rw [hq']
        exact h.sep id o id2 o2 q p' hg ho c (fun e' => e3 e'.symm) hq f
    · next e1 e2 =>
      split at a
      · cases a
      · next e3 =>
        rw [if_neg e1] at e; rw [if_pos e2] at f; cases f
        rw [hq']
        exact h.sep id1 o1 id o p q a b hg e3 e hq
    · next e1 e2 =>
      split at a
      · cases a
      · split at c
        · cases c
        · rw [if_neg e1] at e; rw [if_neg e2] at f
          exact h.sep id1 o1 id2 o2 p p' a b c d e f
  · rw [hk b (fun e => by rw [e] at hb; have hb' : η.ro q.bl = some o2 := hb; rw [hro] at hb'; cases hb')]; exact h.roAt b o2 hb
  · rw [get] at a1
    simp only [Env.put] at a3 ⊢
    split at a1
    · next e => rw [if_pos e] at a3; cases a3; rw [hq']; exact hro
    · next e =>
      rw [if_neg e] at a3
      split at a1
      · cases a1
      · exact h.roSep id2 o2 p a1 a2 a3
  · intro bl hbl hno
    exact hk bl (hno id o q hg ho hl hq).symm
  · intro id1 o1 p a b c d
    rw [get] at a
    simp only [Env.put] at d
    split at a
    · next e => rw [if_pos e] at d; cases d; exact .inr ⟨id, o, q, hg, ho, hl, hq, hq'.symm⟩
    · next e =>
      rw [if_neg e] at d
      split at a
      · cases a
      · exact .inr ⟨id1, o1, p, a, b, c, d, rfl⟩

/-- Less is said of the state: what is said stands. -/
theorem SR.sub {P : Program} {η : Env} {σ τ : ASt} {w : World} (h : SR P η σ w) (hs : ∀ id o, τ.get id = some o → σ.get id = some o) (hn : σ.next ≤ τ.next) : SR P η τ w :=
  ⟨h.glob, fun id q hq => Nat.lt_of_lt_of_le (h.dom id q hq) hn, fun id o ho => h.live id o (hs id o ho), fun id hid => ⟨(h.ghd id hid).1, Nat.lt_of_lt_of_le (h.ghd id hid).2 hn⟩,
    fun id o id' o' q q' a b c d e f => h.sep id o id' o' q q' (hs _ _ a) b (hs _ _ c) d e f, h.roAt, fun id o q a b c => h.roSep id o q (hs _ _ a) b c, h.tabs⟩

theorem St.sub {P : Program} {η η' : Env} {σ σ' τ : ASt} {w w' : World} (h : St P η σ w η' σ' w') (hs : ∀ id o, τ.get id = some o → σ'.get id = some o) (hn : σ'.next ≤ τ.next) (hl : τ.lock = σ'.lock) : St P η σ w η' τ w' :=
  { h with rel := h.rel.sub hs hn, own := fun id o q a b c d => h.own id o q (hs _ _ a) b c d, lock := hl.trans h.lock, next := Nat.le_trans h.next hn, new := fun id hq => (h.new id hq).imp (fun x => x) fun ⟨a, b⟩ => ⟨a, Nat.lt_of_lt_of_le b hn⟩ }

end
end Go.Abs
