/- Plain laws over trees: values of one's own as ground values; how a tree is gone through. -/
import Derived.Test.YtehcokoigbiciaaGreatDoorAbsJ
namespace Go.Abs
set_option linter.unusedSimpArgs false

theorem lim_of {Ds : List PDef} {k : Nat} {d : PDef} {gs out : List GV} (hk : Ds[k]? = some d) (h : d.den (TofL Ds).lim gs = some out) : (TofL Ds).lim k gs = some out := PProg.lim_eq hk h

/-! How trees compute, for simp. -/
/-- Values, one more. -/
def upd (val : Nat → Option GV) (k : Nat) (g : GV) : Nat → Option GV := fun n => if n = k then some g else val n
def argV (gs : List GV) : Nat → Option GV := fun n => gs[n]?
@[simp] theorem argV_eq {gs : List GV} {n : Nat} : argV gs n = gs[n]? := rfl
@[simp] theorem upd_same {val : Nat → Option GV} {k : Nat} {g : GV} : upd val k g k = some g := if_pos rfl
@[simp] theorem upd_ne {val : Nat → Option GV} {k n : Nat} {g : GV} (h : n ≠ k) : upd val k g n = val n := if_neg h
/-- How a tree computes, the values as a function. -/
def Tree.go (I : Itp) : Tree → Nat → (Nat → Option GV) → Option (List GV)
  | .step nd t, k, val => match nd.den I val with
    | some g => t.go I (k + 1) (upd val k g)
    | none => none
  | .ite n t e, k, val => match val n with
    | some (.b true) => t.go I k val
    | some (.b false) => e.go I k val
    | _ => none
  | .ret l, _, val => valsOf val l
  | .tail f l, _, val => match valsOf val l with
    | some gs => I f gs
    | none => none
  | .dead, _, _ => none
theorem Tree.go_den {I : Itp} : ∀ (t : Tree) (env : List GV), t.go I env.length (fun n => env[n]?) = t.den I env
  | .step nd t, env => by
    simp only [Tree.go, Tree.den]
    cases nd.den I fun n => env[n]? with
    | none => rfl
    | some g =>
      simp only
      rw [← Tree.go_den t (env ++ [g])]
      congr 1
      · simp
      · funext n
        unfold upd
        split
        · next h => subst h; simp
        · next h =>
          show env[n]? = (env ++ [g])[n]?
          rcases Nat.lt_or_ge n env.length with hl | hl
          · rw [List.getElem?_append_left hl]
          · rw [List.getElem?_append_right hl, List.getElem?_eq_none (l := env) hl, List.getElem?_eq_none]
            simp; omega
  | .ite n t e, env => by simp only [Tree.go, Tree.den, Tree.go_den t env, Tree.go_den e env]; rfl
  | .ret l, env => rfl
  | .tail f l, env => rfl
  | .dead, env => rfl
def bindT (o : Option GV) (I : Itp) (t : Tree) (k : Nat) (val : Nat → Option GV) : Option (List GV) := match o with
  | some g => t.go I (k + 1) (upd val k g)
  | none => none
def condT (o : Option GV) (I : Itp) (t e : Tree) (k : Nat) (val : Nat → Option GV) : Option (List GV) := match o with
  | some (.b true) => t.go I k val
  | some (.b false) => e.go I k val
  | _ => none
section
variable {I : Itp} {k : Nat} {val : Nat → Option GV}
@[simp] theorem bindT_some {g : GV} {t : Tree} : bindT (some g) I t k val = t.go I (k + 1) (upd val k g) := rfl
@[simp] theorem condT_b {c : Bool} {t e : Tree} : condT (some (.b c)) I t e k val = if c = true then t.go I k val else e.go I k val := by cases c <;> rfl
@[simp] theorem tgo_step {nd : Nd} {t : Tree} : (Tree.step nd t).go I k val = bindT (nd.den I val) I t k val := rfl
@[simp] theorem tgo_ite {n : Nat} {t e : Tree} : (Tree.ite n t e).go I k val = condT (val n) I t e k val := rfl
@[simp] theorem tgo_ret {l : List Nat} : (Tree.ret l).go I k val = valsOf val l := rfl
@[simp] theorem tgo_dead : Tree.dead.go I k val = none := rfl
@[simp] theorem tgo_tail {f : Nat} {l : List Nat} : (Tree.tail f l).go I k val = (valsOf val l).bind (I f) := by
  simp only [Tree.go]; cases valsOf val l <;> rfl
end
@[simp] theorem nden_call {I : Itp} {f j : Nat} {l : List Nat} {val : Nat → Option GV} : (Nd.call f l j).den I val = (valsOf val l).bind fun gs => (I f gs).bind fun r => r[j]? := by
  simp only [Nd.den]; cases valsOf val l with
  | none => rfl
  | some gs => simp only [Option.bind_some]; cases I f gs <;> rfl
@[simp] theorem valsOf_nil {val : Nat → Option GV} : valsOf val [] = some [] := rfl
@[simp] theorem valsOf_cons {val : Nat → Option GV} {n : Nat} {l : List Nat} : valsOf val (n :: l) = (val n).bind fun g => (valsOf val l).bind fun r => some (g :: r) := by
  simp only [valsOf]; cases val n <;> cases valsOf val l <;> rfl
def bin2 (op : BinOp) (x y : Option GV) : Option GV := match x, y with
  | some a, some b => binG op a b
  | _, _ => none
def binb2 (op : BinOp) (x y : Option GV) : Option GV := match x, y with
  | some a, some b => binB op a b
  | _, _ => none
def binc2 (op : BinOp) (ks : List Nat) (x y : Option GV) : Option GV := match x, y with
  | some a, some b => binC op ks a b
  | _, _ => none
def un1 (op : UnOp) (x : Option GV) : Option GV := match x with
  | some a => unG op a
  | none => none
section
variable {I : Itp} {val : Nat → Option GV}
@[simp] theorem nden_ci {k : IntKind} {n : Int} : (Nd.ci k n).den I val = some (.i k n) := rfl
@[simp] theorem nden_cb {x : Bool} : (Nd.cb x).den I val = some (.b x) := rfl
@[simp] theorem nden_cs {x : List UInt8} : (Nd.cs x).den I val = some (.s x) := rfl
@[simp] theorem nden_bin {op : BinOp} {a b : Nat} : (Nd.bin op a b).den I val = bin2 op (val a) (val b) := rfl
@[simp] theorem nden_binb {op : BinOp} {a b : Nat} : (Nd.binb op a b).den I val = binb2 op (val a) (val b) := rfl
@[simp] theorem nden_binc {op : BinOp} {ks : List Nat} {a b : Nat} : (Nd.binc op ks a b).den I val = binc2 op ks (val a) (val b) := rfl
@[simp] theorem nden_un {op : UnOp} {a : Nat} : (Nd.un op a).den I val = un1 op (val a) := rfl
def mm2 (big : Bool) (x y : Option GV) : Option GV := match x, y with
  | some (.i k x), some (.i k' y) => if k = k' then some (.i k (if big then (if x < y then y else x) else (if y < x then y else x))) else none
  | _, _ => none
@[simp] theorem nden_mm {g : Bool} {a b : Nat} : (Nd.mm g a b).den I val = mm2 g (val a) (val b) := rfl
@[simp] theorem mm2_t {k : IntKind} {x y : Int} : mm2 true (some (.i k x)) (some (.i k y)) = some (.i k (if x < y then y else x)) := by simp [mm2]
@[simp] theorem mm2_f {k : IntKind} {x y : Int} : mm2 false (some (.i k x)) (some (.i k y)) = some (.i k (if y < x then y else x)) := by simp [mm2]
def conv1 (k : IntKind) (x : Option GV) : Option GV := match x with
  | some (.i _ n) => some (.i k (k.wrap n))
  | _ => none
@[simp] theorem nden_conv {k : IntKind} {a : Nat} : (Nd.conv k a).den I val = conv1 k (val a) := rfl
@[simp] theorem conv1_i {k k' : IntKind} {n : Int} : conv1 k (some (.i k' n)) = some (.i k (k.wrap n)) := rfl
def len1 (x : Option GV) : Option GV := match x with
  | some (.l xs) => some (.i .i64 xs.length)
  | _ => none
@[simp] theorem nden_len {a : Nat} : (Nd.len a).den I val = len1 (val a) := rfl
@[simp] theorem len1_l {xs : List GV} : len1 (some (.l xs)) = some (.i .i64 xs.length) := rfl
def slen1 (x : Option GV) : Option GV := match x with
  | some (.s x) => some (.i .i64 x.length)
  | _ => none
@[simp] theorem nden_slen {a : Nat} : (Nd.slen a).den I val = slen1 (val a) := rfl
@[simp] theorem slen1_s {x : List UInt8} : slen1 (some (.s x)) = some (.i .i64 x.length) := rfl
def sidx2 (x i : Option GV) : Option GV := match x, i with
  | some (.s x), some (.i _ k) => if 0 ≤ k then match x[k.toNat]? with
    | some c => some (.i .u8 c.toNat)
    | none => none
    else none
  | _, _ => none
@[simp] theorem nden_sidx {a i : Nat} : (Nd.sidx a i).den I val = sidx2 (val a) (val i) := rfl
@[simp] theorem sidx2_i {x : List UInt8} {kk : IntKind} {k : Int} : sidx2 (some (.s x)) (some (.i kk k)) = if 0 ≤ k then (x[k.toNat]?).bind fun c => some (.i .u8 c.toNat) else none := by
  simp only [sidx2]; split
  · cases x[k.toNat]? <;> rfl
  · rfl
def ssub3 (x lo hi : Option GV) : Option GV := match x, lo, hi with
  | some (.s x), some (.i _ l), some (.i _ h) => if 0 ≤ l ∧ l ≤ h ∧ h ≤ x.length then some (.s ((x.take h.toNat).drop l.toNat)) else none
  | _, _, _ => none
@[simp] theorem nden_ssub {a l h : Nat} : (Nd.ssub a l h).den I val = ssub3 (val a) (val l) (val h) := rfl
def mget3 (z m k : Option GV) : Option GV := match z, m, k with
  | some d, some (.l xs), some g => some ((assocG g xs).getD d)
  | _, _, _ => none
def mhas2 (m k : Option GV) : Option GV := match m, k with
  | some (.l xs), some g => some (.b (assocG g xs).isSome)
  | _, _ => none
def mput3 (m k v : Option GV) : Option GV := match m, k, v with
  | some (.l xs), some g, some u => some (.l (putG g u xs))
  | _, _, _ => none
@[simp] theorem nden_mget {z m k : Nat} : (Nd.mget z m k).den I val = mget3 (val z) (val m) (val k) := rfl
@[simp] theorem nden_mhas {m k : Nat} : (Nd.mhas m k).den I val = mhas2 (val m) (val k) := rfl
@[simp] theorem nden_mput {m k v : Nat} : (Nd.mput m k v).den I val = mput3 (val m) (val k) (val v) := rfl
@[simp] theorem mget3_l {d g : GV} {xs : List GV} : mget3 (some d) (some (.l xs)) (some g) = some ((assocG g xs).getD d) := rfl
@[simp] theorem mhas2_l {g : GV} {xs : List GV} : mhas2 (some (.l xs)) (some g) = some (.b (assocG g xs).isSome) := rfl
@[simp] theorem mput3_l {g u : GV} {xs : List GV} : mput3 (some (.l xs)) (some g) (some u) = some (.l (putG g u xs)) := rfl
@[simp] theorem ssub3_i {x : List UInt8} {k k' : IntKind} {l h : Int} : ssub3 (some (.s x)) (some (.i k l)) (some (.i k' h)) = if 0 ≤ l ∧ l ≤ h ∧ h ≤ x.length then some (.s ((x.take h.toNat).drop l.toNat)) else none := rfl
def lsub3 (size : Nat) (x lo hi : Option GV) : Option GV := match x, lo, hi with
  | some (.l xs), some (.i _ l), some (.i _ h) => if 0 ≤ l ∧ l ≤ h ∧ h ≤ xs.length ∧ (xs.all fun x => Nat.beq x.cells.length size) = true then some (.l ((xs.take h.toNat).drop l.toNat)) else none
  | _, _, _ => none
@[simp] theorem nden_lsub {s a l h : Nat} : (Nd.lsub s a l h).den I val = lsub3 s (val a) (val l) (val h) := rfl
@[simp] theorem lsub3_i {s : Nat} {xs : List GV} {k k' : IntKind} {l h : Int} : lsub3 s (some (.l xs)) (some (.i k l)) (some (.i k' h)) = if 0 ≤ l ∧ l ≤ h ∧ h ≤ xs.length ∧ (xs.all fun x => Nat.beq x.cells.length s) = true then some (.l ((xs.take h.toNat).drop l.toNat)) else none := rfl
def idx2 (x i : Option GV) : Option GV := match x, i with
  | some (.l xs), some (.i _ k) => if 0 ≤ k ∧ k < xs.length then some (.i .i64 k) else none
  | _, _ => none
@[simp] theorem nden_idx {a i : Nat} : (Nd.idx a i).den I val = idx2 (val a) (val i) := rfl
@[simp] theorem idx2_i {xs : List GV} {kk : IntKind} {k : Int} : idx2 (some (.l xs)) (some (.i kk k)) = if 0 ≤ k ∧ k < xs.length then some (.i .i64 k) else none := rfl
def at2 (size : Nat) (x i : Option GV) : Option GV := match x, i with
  | some (.l xs), some (.i _ k) => if 0 ≤ k then match xs[k.toNat]? with
    | some x => if x.cells.length = size then some x else none
    | none => none
    else none
  | _, _ => none
@[simp] theorem nden_at {s a i : Nat} : (Nd.at s a i).den I val = at2 s (val a) (val i) := rfl
@[simp] theorem at2_i {s : Nat} {xs : List GV} {kk : IntKind} {k : Int} : at2 s (some (.l xs)) (some (.i kk k)) = if 0 ≤ k then (xs[k.toNat]?).bind fun x => if x.cells.length = s then some x else none else none := by
  simp only [at2]; split
  · cases xs[k.toNat]? <;> rfl
  · rfl
def cell1 (off : Nat) (x : Option GV) : Option GV := match x with
  | some g => match g.cells[off]? with
    | some c => if c.scalar then some c else none
    | none => none
  | none => none
@[simp] theorem nden_cell {o a : Nat} : (Nd.cell o a).den I val = cell1 o (val a) := rfl
@[simp] theorem cell1_g {o : Nat} {g : GV} : cell1 o (some g) = (g.cells[o]?).bind fun c => if c.scalar = true then some c else none := by
  simp only [cell1]; cases g.cells[o]? <;> rfl
@[simp] theorem nden_mk {l : List Nat} : (Nd.mk l).den I val = (valsOf val l).bind fun gs => if gs.all GV.scalar = true then some (.g gs) else none := by
  simp only [Nd.den]; cases valsOf val l <;> rfl
@[simp] theorem nden_ml {l : List Nat} : (Nd.ml l).den I val = (valsOf val l).bind fun gs => some (.l gs) := by
  simp only [Nd.den]; cases valsOf val l <;> rfl
def app2 (size bs : Nat) (x y : Option GV) : Option GV := match x, y with
  | some (.l xs), some (.l ys) => if ys.all (GV.elemOk size) = true ∧ 2 * (xs.length + ys.length) * bs ≤ 2 ^ 48 ∧ xs.length + ys.length ≤ 2 ^ 48 then some (.l (xs ++ ys)) else none
  | _, _ => none
@[simp] theorem nden_app {z s a b : Nat} : (Nd.app z s a b).den I val = app2 z s (val a) (val b) := rfl
@[simp] theorem app2_l {z s : Nat} {xs ys : List GV} : app2 z s (some (.l xs)) (some (.l ys)) = if ys.all (GV.elemOk z) = true ∧ 2 * (xs.length + ys.length) * s ≤ 2 ^ 48 ∧ xs.length + ys.length ≤ 2 ^ 48 then some (.l (xs ++ ys)) else none := rfl
def upd4 (size off : Nat) (x i : Option GV) (vs : Option (List GV)) : Option GV := match x, i, vs with
  | some (.l xs), some (.i _ k), some gs => if 0 ≤ k ∧ gs.all GV.scalar = true then match xs[k.toNat]? with
    | some x => if x.cells.length = size then (x.put off gs).map fun y => .l (xs.set k.toNat y) else none
    | none => none
    else none
  | _, _, _ => none
@[simp] theorem nden_upd {s o a i : Nat} {vs : List Nat} : (Nd.upd s o a i vs).den I val = upd4 s o (val a) (val i) (valsOf val vs) := rfl
@[simp] theorem upd4_i {s o : Nat} {xs : List GV} {kk : IntKind} {k : Int} {gs : List GV} : upd4 s o (some (.l xs)) (some (.i kk k)) (some gs) = if 0 ≤ k ∧ gs.all GV.scalar = true then (xs[k.toNat]?).bind fun x => if x.cells.length = s then (x.put o gs).map fun y => .l (xs.set k.toNat y) else none else none := by
  simp only [upd4]; split
  · cases xs[k.toNat]? <;> rfl
  · rfl
@[simp] theorem put_i {k : IntKind} {n : Int} {v : GV} : (GV.i k n).put 0 [v] = some v := rfl
def rep3 (size by' : Nat) (z l c : Option GV) : Option GV := match z, l, c with
  | some x, some (.i _ n), some (.i _ m) => if 0 ≤ n ∧ n ≤ m ∧ by' * m ≤ 2 ^ 48 ∧ m ≤ 2 ^ 60 ∧ x.elemOk size = true then some (.l (List.replicate n.toNat x)) else none
  | _, _, _ => none
@[simp] theorem nden_rep {s b z l c : Nat} : (Nd.rep s b z l c).den I val = rep3 s b (val z) (val l) (val c) := rfl
@[simp] theorem rep3_i {s b : Nat} {x : GV} {k k' : IntKind} {n m : Int} : rep3 s b (some x) (some (.i k n)) (some (.i k' m)) = if 0 ≤ n ∧ n ≤ m ∧ b * m ≤ 2 ^ 48 ∧ m ≤ 2 ^ 60 ∧ x.elemOk s = true then some (.l (List.replicate n.toNat x)) else none := by
  cases x <;> rfl
@[simp] theorem nden_bytes {a : Nat} : (Nd.bytes a).den I val = (val a).bind fun g => match g with | .s x => some (.l (byteGs x)) | _ => none := by
  simp only [Nd.den]; cases val a with
  | none => rfl
  | some g => cases g <;> rfl
@[simp] theorem nden_str {a : Nat} : (Nd.str a).den I val = (val a).bind fun g => match g with | .l xs => if xs.length ≤ 2 ^ 48 then (bytesG xs).map .s else none | _ => none := by
  simp only [Nd.den]; cases val a with
  | none => rfl
  | some g => cases g <;> rfl
@[simp] theorem nden_same {a b : Nat} : (Nd.same a b).den I val = (val a).bind fun g => (val b).bind fun h => match g, h with | .l xs, .l ys => if ys.length = xs.length then some (.l ys) else none | _, _ => none := by
  simp only [Nd.den]; cases val a with
  | none => rfl
  | some g => cases val b with
    | none => cases g <;> rfl
    | some h => cases g <;> cases h <;> rfl
@[simp] theorem nden_isi {a j : Nat} : (Nd.isi a j).den I val = (val a).bind fun g => match g with | .i _ m => some (.b (decide (m = (j : Int)))) | _ => none := by
  simp only [Nd.den]; cases val a with
  | none => rfl
  | some g => cases g <;> rfl
@[simp] theorem nden_sid {a : Nat} : (Nd.sid a).den I val = (val a).bind fun g => match g with | .s x => some (.s x) | _ => none := by
  simp only [Nd.den]; cases val a with
  | none => rfl
  | some g => cases g <;> rfl
end
section
variable {k : IntKind} {a b : Int}
@[simp] theorem bin2_add : bin2 .add (some (.i k a)) (some (.i k b)) = some (.i k (k.wrap (a + b))) := by simp [bin2, binG, intG]
@[simp] theorem bin2_sub : bin2 .sub (some (.i k a)) (some (.i k b)) = some (.i k (k.wrap (a - b))) := by simp [bin2, binG, intG]
@[simp] theorem bin2_mul : bin2 .mul (some (.i k a)) (some (.i k b)) = some (.i k (k.wrap (a * b))) := by simp [bin2, binG, intG]
@[simp] theorem bin2_quo : bin2 .quo (some (.i k a)) (some (.i k b)) = if b = 0 then none else some (.i k (k.wrap (a.tdiv b))) := by simp [bin2, binG, intG]
@[simp] theorem bin2_rem : bin2 .rem (some (.i k a)) (some (.i k b)) = if b = 0 then none else some (.i k (a.tmod b)) := by simp [bin2, binG, intG]
@[simp] theorem bin2_eql : bin2 .eql (some (.i k a)) (some (.i k b)) = some (.b (decide (a = b))) := by
  simp only [bin2, binG, intG, if_true]; rw [show (a == b) = decide (a = b) from rfl]
@[simp] theorem bin2_neq : bin2 .neq (some (.i k a)) (some (.i k b)) = some (.b (decide (a ≠ b))) := by
  simp only [bin2, binG, intG, if_true, bne]; rw [show (a == b) = decide (a = b) from rfl, ← decide_not]
@[simp] theorem bin2_lss : bin2 .lss (some (.i k a)) (some (.i k b)) = some (.b (decide (a < b))) := by simp [bin2, binG, intG]
@[simp] theorem bin2_leq : bin2 .leq (some (.i k a)) (some (.i k b)) = some (.b (decide (a ≤ b))) := by simp [bin2, binG, intG]
@[simp] theorem bin2_gtr : bin2 .gtr (some (.i k a)) (some (.i k b)) = some (.b (decide (b < a))) := by simp [bin2, binG, intG]
@[simp] theorem bin2_geq : bin2 .geq (some (.i k a)) (some (.i k b)) = some (.b (decide (b ≤ a))) := by simp [bin2, binG, intG]
@[simp] theorem bin2_and : bin2 .and (some (.i k a)) (some (.i k b)) = intG .and k a b := by simp [bin2, binG]
@[simp] theorem bin2_or : bin2 .or (some (.i k a)) (some (.i k b)) = intG .or k a b := by simp [bin2, binG]
@[simp] theorem bin2_xor : bin2 .xor (some (.i k a)) (some (.i k b)) = intG .xor k a b := by simp [bin2, binG]
@[simp] theorem bin2_shl {k' : IntKind} : bin2 .shl (some (.i k a)) (some (.i k' b)) = shG .shl k a b := rfl
@[simp] theorem bin2_shr {k' : IntKind} : bin2 .shr (some (.i k a)) (some (.i k' b)) = shG .shr k a b := rfl
end
section
variable {a b : List UInt8}
@[simp] theorem bin2_sadd : bin2 .add (some (.s a)) (some (.s b)) = if ((a.length + b.length : Nat) : Int) ≤ 9223372036854775807 then some (.s (a ++ b)) else none := by
  simp only [bin2, binG, strG]; rfl
@[simp] theorem bin2_seql : bin2 .eql (some (.s a)) (some (.s b)) = some (.b (decide (a = b))) := by
  simp only [bin2, binG, strG]; congr 2; rw [Bool.eq_iff_iff]; simp
@[simp] theorem bin2_sneq : bin2 .neq (some (.s a)) (some (.s b)) = some (.b (decide (a ≠ b))) := by
  simp only [bin2, binG, strG]; congr 2; rw [Bool.eq_iff_iff]; simp
@[simp] theorem bin2_slss : bin2 .lss (some (.s a)) (some (.s b)) = some (.b (Op.bytesLess a b)) := rfl
@[simp] theorem bin2_sgeq : bin2 .geq (some (.s a)) (some (.s b)) = some (.b (!(Op.bytesLess a b))) := rfl
@[simp] theorem bin2_sleq : bin2 .leq (some (.s a)) (some (.s b)) = some (.b (Op.bytesLess a b || a == b)) := rfl
@[simp] theorem bin2_sgtr : bin2 .gtr (some (.s a)) (some (.s b)) = some (.b (!(Op.bytesLess a b || a == b))) := rfl
end
@[simp] theorem binb2_eql {a b : Bool} : binb2 .eql (some (.b a)) (some (.b b)) = some (.b (a == b)) := rfl
@[simp] theorem binb2_neq {a b : Bool} : binb2 .neq (some (.b a)) (some (.b b)) = some (.b (!(a == b))) := rfl
@[simp] theorem binc2_eql {ks : List Nat} {a b : List GV} : binc2 .eql ks (some (.g a)) (some (.g b)) = (eqGs ks a b).bind fun r => some (.b r) := by
  simp only [binc2, binC]; cases eqGs ks a b <;> rfl
@[simp] theorem binc2_neq {ks : List Nat} {a b : List GV} : binc2 .neq ks (some (.g a)) (some (.g b)) = (eqGs ks a b).bind fun r => some (.b (!r)) := by
  simp only [binc2, binC]; cases eqGs ks a b <;> rfl
@[simp] theorem un1_not {a : Bool} : un1 .not (some (.b a)) = some (.b (!a)) := rfl
@[simp] theorem un1_neg {k : IntKind} {a : Int} : un1 .neg (some (.i k a)) = some (.i k (k.wrap (0 - a))) := rfl
@[simp] theorem cells_g {cs : List GV} : (GV.g cs).cells = cs := rfl
@[simp] theorem cells_i {k : IntKind} {n : Int} : (GV.i k n).cells = [.i k n] := rfl
@[simp] theorem cells_b {x : Bool} : (GV.b x).cells = [.b x] := rfl
@[simp] theorem cells_s {x : List UInt8} : (GV.s x).cells = [.s x] := rfl
@[simp] theorem cells_l {x : List GV} : (GV.l x).cells = [.l x] := rfl
@[simp] theorem scalar_g {cs : List GV} : (GV.g cs).scalar = false := rfl
@[simp] theorem scalar_i {k : IntKind} {n : Int} : (GV.i k n).scalar = true := rfl
@[simp] theorem scalar_b {x : Bool} : (GV.b x).scalar = true := rfl
@[simp] theorem scalar_s {x : List UInt8} : (GV.s x).scalar = true := rfl
@[simp] theorem scalar_l {x : List GV} : (GV.l x).scalar = true := rfl
theorem fn_lim {Ds : List PDef} {k : Nat} {si so : List OSh} {t : Tree} {gs out : List GV} (hk : Ds[k]? = some (.fn si so t)) (hi : shFits si gs = true) (h : t.go (TofL Ds).lim gs.length (argV gs) = some out) (ho : shFits so out = true) : (TofL Ds).lim k gs = some out := by
  have h : t.den (TofL Ds).lim gs = some out := (Tree.go_den t gs).symm.trans h
  exact lim_of hk (by simp only [PDef.den, if_pos hi, h, if_pos ho])
theorem tree_lim {Ds : List PDef} {k n : Nat} {t : Tree} {gs out : List GV} (hk : Ds[k]? = some (.tree n t)) (hn : gs.length = n) (h : t.go (TofL Ds).lim gs.length (argV gs) = some out) : (TofL Ds).lim k gs = some out := by
  have h : t.den (TofL Ds).lim gs = some out := (Tree.go_den t gs).symm.trans h
  exact lim_of hk (by simp only [PDef.den, if_pos hn, h])
theorem prim_lim {Ds : List PDef} {k : Nat} {f : List GV → Option (List GV)} {gs out : List GV} (hk : Ds[k]? = some (.prim f)) (h : f gs = some out) : (TofL Ds).lim k gs = some out :=
  lim_of hk h

theorem ite_goal {α : Type} {c : Prop} [Decidable c] {A B X : α} (h1 : c → A = X) (h2 : ¬ c → B = X) : (if c then A else B) = X := by
  by_cases h : c
  · rw [if_pos h]; exact h1 h
  · rw [if_neg h]; exact h2 h

/-! What arguments are. -/
theorem hasA_nil {gs : List GV} (h : hasArgs [] gs) : gs = [] := by simpa only [hasArgs] using h
theorem hasA_agg {l : List GTy} {r : List (Bool × List GTy)} {gs : List GV} (h : hasArgs ((true, l) :: r) gs) : ∃ cs gs', gs = .g cs :: gs' ∧ GTy.hasL l cs ∧ hasArgs r gs' := by
  simp only [hasArgs] at h
  obtain ⟨g, gs', rfl, h1, h2, h3⟩ := h
  cases g <;> simp [GV.scalar] at h2
  exact ⟨_, _, rfl, h1, h3⟩
theorem hasL_cons {t : GTy} {l : List GTy} {gs : List GV} (h : GTy.hasL (t :: l) gs) : ∃ g r, gs = g :: r ∧ t.has g ∧ GTy.hasL l r := by simpa only [GTy.hasL] using h
theorem hasL_nil {gs : List GV} (h : GTy.hasL [] gs) : gs = [] := by simpa only [GTy.hasL] using h
theorem hasA_sc {t : GTy} {r : List (Bool × List GTy)} {gs : List GV} (h : hasArgs ((false, [t]) :: r) gs) : ∃ g gs', gs = g :: gs' ∧ t.has g ∧ hasArgs r gs' := by
  simp only [hasArgs] at h
  obtain ⟨g, gs', rfl, h1, h2, h3⟩ := h
  refine ⟨_, _, rfl, ?_, h3⟩
  obtain ⟨g0, r0, e, h4, h5⟩ := hasL_cons h1
  cases g <;> simp [GV.scalar] at h2 <;> simp only [GV.cells, List.cons.injEq] at e <;> rw [e.1] <;> exact h4
theorem has_u64 {g : GV} (h : (GTy.int .u64).has g) : ∃ n, g = .i .u64 n ∧ 0 ≤ n ∧ n < 18446744073709551616 := by
  simp only [GTy.has] at h
  obtain ⟨n, rfl, h1, h2⟩ := h
  exact ⟨n, rfl, by simpa [IntKind.min, IntKind.signed] using h1, by simp [IntKind.max, IntKind.signed, IntKind.bits] at h2; omega⟩
theorem has_str {g : GV} (h : GTy.str.has g) : ∃ s, g = .s s ∧ s.length ≤ reachBytes := by simpa only [GTy.has] using h
theorem has_list {b : Bool} {e : List GTy} {g : GV} (h : (GTy.list b e).has g) : ∃ xs, g = .l xs ∧ xs.length ≤ reachBytes ∧ ∀ x ∈ xs, GTy.hasL e x.cells ∧ x.scalar = !b := by simpa only [GTy.has] using h

/-- Elements each of a kind: a list of what they tell. -/
theorem list_map {α : Type} {f : α → GV} {p : α → Prop} : ∀ {xs : List GV}, (∀ x ∈ xs, ∃ r, p r ∧ x = f r) → ∃ rs : List α, (∀ r ∈ rs, p r) ∧ xs = rs.map f
  | [], _ => ⟨[], by simp, rfl⟩
  | x :: xs, h => by
    obtain ⟨r, h1, h2⟩ := h x (by simp)
    obtain ⟨rs, h3, h4⟩ := list_map (xs := xs) fun y hy => h y (by simp [hy])
    refine ⟨r :: rs, fun q hq => ?_, by rw [h2, h4]; rfl⟩
    rcases List.mem_cons.1 hq with rfl | hq
    · exact h1
    · exact h3 q hq

/-- Sums that do not overflow. -/
theorem wrap64 {n : Int} (h0 : -9223372036854775808 ≤ n) (h1 : n ≤ 9223372036854775807) : IntKind.i64.wrap n = n := by
  have : IntKind.i64.wrap n = if n % 18446744073709551616 ≥ 9223372036854775808 then n % 18446744073709551616 - 18446744073709551616 else n % 18446744073709551616 := by
    simp [IntKind.wrap, IntKind.signed, IntKind.bits]
  rw [this]; split <;> omega
theorem wrapu64 {n : Int} (h0 : 0 ≤ n) (h1 : n < 18446744073709551616) : IntKind.u64.wrap n = n := by
  have : IntKind.u64.wrap n = n % 18446744073709551616 := by
    simp [IntKind.wrap, IntKind.signed, IntKind.bits]
  rw [this]; omega
end Go.Abs
