/- Plain laws over trees: values of one's own as ground values; how a tree is gone through. -/
import Derived.Test.YtpkihgnabejkkaaGreatDoorAbsJ
namespace Go.aJ
set_option linter.unusedSimpArgs false
theorem yS {Ds:List aH} {k:Nat} {d:aH} {gs out:List GV} (hk:Ds[k]? = some d) (h:d.den (qJ Ds).lim gs=some out):(qJ Ds).lim k gs=some out:=eX.agY hk h
def upd (val:Nat→Option GV) (k:Nat) (g:GV):Nat→Option GV:=fun n=>if n=k then some g else val n
def KA (gs:List GV):Nat→Option GV:=fun n=>gs[n]?
@[simp] theorem anl {gs:List GV} {n:Nat}:KA gs n=gs[n]?:=rfl
@[simp] theorem upd_same {val:Nat→Option GV} {k:Nat} {g:GV}:upd val k g k=some g:=if_pos rfl
@[simp] theorem upd_ne {val:Nat→Option GV} {k n:Nat} {g:GV} (h:n≠k):upd val k g n=val n:=if_neg h
def Tree.go (I:fD):Tree→Nat→(Nat→Option GV)→Option (List GV)
 | .step nd t,k,val=>match nd.den I val with
  | some g=>t.go I (k+1) (upd val k g)
  | none=>none
 | .ite n t e,k,val=>match val n with
  | some (.b true)=>t.go I k val
  | some (.b false)=>e.go I k val
  | _=>none
 | .ret l,_,val=>valsOf val l
 | .tail f l,_,val=>match valsOf val l with
  | some gs=>I f gs
  | none=>none
 | .dead,_,_=>none
theorem Tree.DJ {I:fD}:∀ (t:Tree) (env:List GV),t.go I env.length (fun n=>env[n]?)=t.den I env
 | .step nd t,env=>by
  simp only [Tree.go,Tree.den]
  cases nd.den I fun n=>env[n]? with
  | none=>rfl
  | some g=>
   simp only
   rw [← Tree.DJ t (env++[g])]
   congr 1
   ·simp
   ·funext n
    unfold upd
    split
    ·next h=>subst h;simp
    ·next h=>
     show env[n]? = (env++[g])[n]?
     rcases Nat.lt_or_ge n env.length with hl | hl
     ·rw [List.getElem?_append_left hl]
     ·rw [List.getElem?_append_right hl,List.getElem?_eq_none (l:=env) hl,List.getElem?_eq_none]
      simp;omega
 | .ite n t e,env=>by simp only [Tree.go,Tree.den,Tree.DJ t env,Tree.DJ e env];rfl
 | .ret l,env=>rfl
 | .tail f l,env=>rfl
 | .dead,env=>rfl
def Rj (o:Option GV) (I:fD) (t:Tree) (k:Nat) (val:Nat→Option GV):Option (List GV):=match o with
 | some g=>t.go I (k+1) (upd val k g)
 | none=>none
def Vd (o:Option GV) (I:fD) (t e:Tree) (k:Nat) (val:Nat→Option GV):Option (List GV):=match o with
 | some (.b true)=>t.go I k val
 | some (.b false)=>e.go I k val
 | _=>none
section
variable {I:fD} {k:Nat} {val:Nat→Option GV}
@[simp] theorem acS {g:GV} {t:Tree}:Rj (some g) I t k val=t.go I (k+1) (upd val k g):=rfl
@[simp] theorem an2 {c:Bool} {t e:Tree}:Vd (some (.b c)) I t e k val=if c=true then t.go I k val else e.go I k val:=by cases c<;>rfl
@[simp] theorem al9 {nd:Nd} {t:Tree}:(Tree.step nd t).go I k val=Rj (nd.den I val) I t k val:=rfl
@[simp] theorem apG {n:Nat} {t e:Tree}:(Tree.ite n t e).go I k val=Vd (val n) I t e k val:=rfl
@[simp] theorem apH {l:List Nat}:(Tree.ret l).go I k val=valsOf val l:=rfl
@[simp] theorem apF:Tree.dead.go I k val=none:=rfl
@[simp] theorem apI {f:Nat} {l:List Nat}:(Tree.tail f l).go I k val=(valsOf val l).bind (I f):=by
 simp only [Tree.go];cases valsOf val l<;>rfl
end
@[simp] theorem ahR {I:fD} {f j:Nat} {l:List Nat} {val:Nat→Option GV}:(Nd.call f l j).den I val=(valsOf val l).bind fun gs=>(I f gs).bind fun r=>r[j]?:=by
 simp only [Nd.den];cases valsOf val l with
 | none=>rfl
 | some gs=>simp only [Option.bind_some];cases I f gs<;>rfl
@[simp] theorem apM {val:Nat→Option GV}:valsOf val []=some []:=rfl
@[simp] theorem aci {val:Nat→Option GV} {n:Nat} {l:List Nat}:valsOf val (n::l)=(val n).bind fun g=>(valsOf val l).bind fun r=>some (g::r):=by
 simp only [valsOf];cases val n<;>cases valsOf val l<;>rfl
def eY (op:BinOp) (x y:Option GV):Option GV:=match x,y with
 | some a,some b=>eH op a b
 | _,_=>none
def KG (op:BinOp) (x y:Option GV):Option GV:=match x,y with
 | some a,some b=>FH op a b
 | _,_=>none
def CX (op:BinOp) (ks:List Nat) (x y:Option GV):Option GV:=match x,y with
 | some a,some b=>Ac op ks a b
 | _,_=>none
def PI (op:UnOp) (x:Option GV):Option GV:=match x with
 | some a=>JQ op a
 | none=>none
section
variable {I:fD} {val:Nat→Option GV}
@[simp] theorem ao0 {k:IntKind} {n:Int}:(Nd.ci k n).den I val=some (.i k n):=rfl
@[simp] theorem aoY {x:Bool}:(Nd.cb x).den I val=some (.b x):=rfl
@[simp] theorem ao2 {x:List UInt8}:(Nd.cs x).den I val=some (.s x):=rfl
@[simp] theorem aoU {op:BinOp} {a b:Nat}:(Nd.bin op a b).den I val=eY op (val a) (val b):=rfl
@[simp] theorem aoV {op:BinOp} {a b:Nat}:(Nd.uw op a b).den I val=KG op (val a) (val b):=rfl
@[simp] theorem aoW {op:BinOp} {ks:List Nat} {a b:Nat}:(Nd.ql op ks a b).den I val=CX op ks (val a) (val b):=rfl
@[simp] theorem apk {op:UnOp} {a:Nat}:(Nd.un op a).den I val=PI op (val a):=rfl
def Ea (big:Bool) (x y:Option GV):Option GV:=match x,y with
 | some (.i k x),some (.i k' y)=>if k=k' then some (.i k (if big then (if x < y then y else x) else (if y < x then y else x))) else none
 | _,_=>none
@[simp] theorem apa {g:Bool} {a b:Nat}:(Nd.mm g a b).den I val=Ea g (val a) (val b):=rfl
@[simp] theorem aoQ {k:IntKind} {x y:Int}:Ea true (some (.i k x)) (some (.i k y))=some (.i k (if x < y then y else x)):=by simp [Ea]
@[simp] theorem aoP {k:IntKind} {x y:Int}:Ea false (some (.i k x)) (some (.i k y))=some (.i k (if y < x then y else x)):=by simp [Ea]
def Vf (k:IntKind) (x:Option GV):Option GV:=match x with
 | some (.i _ n)=>some (.i k (k.wrap n))
 | _=>none
@[simp] theorem ao1 {k:IntKind} {a:Nat}:(Nd.conv k a).den I val=Vf k (val a):=rfl
@[simp] theorem an3 {k k':IntKind} {n:Int}:Vf k (some (.i k' n))=some (.i k (k.wrap n)):=rfl
def len1 (x:Option GV):Option GV:=match x with
 | some (.l xs)=>some (.i .i64 xs.length)
 | _=>none
@[simp] theorem ao4 {a:Nat}:(Nd.len a).den I val=len1 (val a):=rfl
@[simp] theorem aoL {xs:List GV}:len1 (some (.l xs))=some (.i .i64 xs.length):=rfl
def abA (x:Option GV):Option GV:=match x with
 | some (.s x)=>some (.i .i64 x.length)
 | _=>none
@[simp] theorem apg {a:Nat}:(Nd.slen a).den I val=abA (val a):=rfl
@[simp] theorem apC {x:List UInt8}:abA (some (.s x))=some (.i .i64 x.length):=rfl
def O8 (x i:Option GV):Option GV:=match x,i with
 | some (.s x),some (.i _ k)=>if 0≤k then match x[k.toNat]? with
  | some c=>some (.i .u8 c.toNat)
  | none=>none
  else none
 | _,_=>none
@[simp] theorem apf {a i:Nat}:(Nd.kN a i).den I val=O8 (val a) (val i):=rfl
@[simp] theorem apB {x:List UInt8} {kk:IntKind} {k:Int}:O8 (some (.s x)) (some (.i kk k))=if 0≤k then (x[k.toNat]?).bind fun c=>some (.i .u8 c.toNat) else none:=by
 simp only [O8];split
 ·cases x[k.toNat]?<;>rfl
 ·rfl
def abH (x lo hi:Option GV):Option GV:=match x,lo,hi with
 | some (.s x),some (.i _ l),some (.i _ h)=>if 0≤l∧l≤h∧h≤x.length then some (.s ((x.take h.toNat).drop l.toNat)) else none
 | _,_,_=>none
@[simp] theorem aph {a l h:Nat}:(Nd.iC a l h).den I val=abH (val a) (val l) (val h):=rfl
def aad (z m k:Option GV):Option GV:=match z,m,k with
 | some d,some (.l xs),some g=>some ((ng g xs).getD d)
 | _,_,_=>none
def aae (m k:Option GV):Option GV:=match m,k with
 | some (.l xs),some g=>some (.b (ng g xs).isSome)
 | _,_=>none
def aaf (m k v:Option GV):Option GV:=match m,k,v with
 | some (.l xs),some g,some u=>some (.l (tq g u xs))
 | _,_,_=>none
@[simp] theorem ao6 {z m k:Nat}:(Nd.yX z m k).den I val=aad (val z) (val m) (val k):=rfl
@[simp] theorem ao7 {m k:Nat}:(Nd.yY m k).den I val=aae (val m) (val k):=rfl
@[simp] theorem apb {m k v:Nat}:(Nd.uT m k v).den I val=aaf (val m) (val k) (val v):=rfl
@[simp] theorem aoN {d g:GV} {xs:List GV}:aad (some d) (some (.l xs)) (some g)=some ((ng g xs).getD d):=rfl
@[simp] theorem aoO {g:GV} {xs:List GV}:aae (some (.l xs)) (some g)=some (.b (ng g xs).isSome):=rfl
@[simp] theorem aoR {g u:GV} {xs:List GV}:aaf (some (.l xs)) (some g) (some u)=some (.l (tq g u xs)):=rfl
@[simp] theorem apE {x:List UInt8} {k k':IntKind} {l h:Int}:abH (some (.s x)) (some (.i k l)) (some (.i k' h))=if 0≤l∧l≤h∧h≤x.length then some (.s ((x.take h.toNat).drop l.toNat)) else none:=rfl
def ZQ (size:Nat) (x lo hi:Option GV):Option GV:=match x,lo,hi with
 | some (.l xs),some (.i _ l),some (.i _ h)=>if 0≤l∧l≤h∧h≤xs.length∧(xs.all fun x=>Nat.beq x.cells.length size)=true then some (.l ((xs.take h.toNat).drop l.toNat)) else none
 | _,_,_=>none
@[simp] theorem ao5 {s a l h:Nat}:(Nd.qZ s a l h).den I val=ZQ s (val a) (val l) (val h):=rfl
@[simp] theorem aoM {s:Nat} {xs:List GV} {k k':IntKind} {l h:Int}:ZQ s (some (.l xs)) (some (.i k l)) (some (.i k' h))=if 0≤l∧l≤h∧h≤xs.length∧(xs.all fun x=>Nat.beq x.cells.length s)=true then some (.l ((xs.take h.toNat).drop l.toNat)) else none:=rfl
def Zh (x i:Option GV):Option GV:=match x,i with
 | some (.l xs),some (.i _ k)=>if 0≤k∧k < xs.length then some (.i .i64 k) else none
 | _,_=>none
@[simp] theorem ao3 {a i:Nat}:(Nd.idx a i).den I val=Zh (val a) (val i):=rfl
@[simp] theorem aoK {xs:List GV} {kk:IntKind} {k:Int}:Zh (some (.l xs)) (some (.i kk k))=if 0≤k∧k < xs.length then some (.i .i64 k) else none:=rfl
def at2 (size:Nat) (x i:Option GV):Option GV:=match x,i with
 | some (.l xs),some (.i _ k)=>if 0≤k then match xs[k.toNat]? with
  | some x=>if x.cells.length=size then some x else none
  | none=>none
  else none
 | _,_=>none
@[simp] theorem aoT {s a i:Nat}:(Nd.at s a i).den I val=at2 s (val a) (val i):=rfl
@[simp] theorem anm {s:Nat} {xs:List GV} {kk:IntKind} {k:Int}:at2 s (some (.l xs)) (some (.i kk k))=if 0≤k then (xs[k.toNat]?).bind fun x=>if x.cells.length=s then some x else none else none:=by
 simp only [at2];split
 ·cases xs[k.toNat]?<;>rfl
 ·rfl
def cell1 (off:Nat) (x:Option GV):Option GV:=match x with
 | some g=>match g.cells[off]? with
  | some c=>if c.scalar then some c else none
  | none=>none
 | none=>none
@[simp] theorem aoZ {o a:Nat}:(Nd.cell o a).den I val=cell1 o (val a):=rfl
@[simp] theorem anX {o:Nat} {g:GV}:cell1 o (some g)=(g.cells[o]?).bind fun c=>if c.scalar=true then some c else none:=by
 simp only [cell1];cases g.cells[o]?<;>rfl
@[simp] theorem ao8 {l:List Nat}:(Nd.mk l).den I val=(valsOf val l).bind fun gs=>if gs.all GV.scalar=true then some (.g gs) else none:=by
 simp only [Nd.den];cases valsOf val l<;>rfl
@[simp] theorem ao9 {l:List Nat}:(Nd.ml l).den I val=(valsOf val l).bind fun gs=>some (.l gs):=by
 simp only [Nd.den];cases valsOf val l<;>rfl
def Qq (size bs:Nat) (x y:Option GV):Option GV:=match x,y with
 | some (.l xs),some (.l ys)=>if ys.all (GV.fA size)=true∧2 * (xs.length+ys.length) * bs≤2 ^ 48∧xs.length+ys.length≤2 ^ 48 then some (.l (xs++ys)) else none
 | _,_=>none
@[simp] theorem aoS {z s a b:Nat}:(Nd.app z s a b).den I val=Qq z s (val a) (val b):=rfl
@[simp] theorem ank {z s:Nat} {xs ys:List GV}:Qq z s (some (.l xs)) (some (.l ys))=if ys.all (GV.fA z)=true∧2 * (xs.length+ys.length) * s≤2 ^ 48∧xs.length+ys.length≤2 ^ 48 then some (.l (xs++ys)) else none:=rfl
def PO (size off:Nat) (x i:Option GV) (vs:Option (List GV)):Option GV:=match x,i,vs with
 | some (.l xs),some (.i _ k),some gs=>if 0≤k∧gs.all GV.scalar=true then match xs[k.toNat]? with
  | some x=>if x.cells.length=size then (x.put off gs).map fun y=>.l (xs.set k.toNat y) else none
  | none=>none
  else none
 | _,_,_=>none
@[simp] theorem apl {s o a i:Nat} {vs:List Nat}:(Nd.upd s o a i vs).den I val=PO s o (val a) (val i) (valsOf val vs):=rfl
@[simp] theorem apL {s o:Nat} {xs:List GV} {kk:IntKind} {k:Int} {gs:List GV}:PO s o (some (.l xs)) (some (.i kk k)) (some gs)=if 0≤k∧gs.all GV.scalar=true then (xs[k.toNat]?).bind fun x=>if x.cells.length=s then (x.put o gs).map fun y=>.l (xs.set k.toNat y) else none else none:=by
 simp only [PO];split
 ·cases xs[k.toNat]?<;>rfl
 ·rfl
@[simp] theorem apr {k:IntKind} {n:Int} {v:GV}:(GV.i k n).put 0 [v]=some v:=rfl
def aaN (size KH:Nat) (z l c:Option GV):Option GV:=match z,l,c with
 | some x,some (.i _ n),some (.i _ m)=>if 0≤n∧n≤m∧KH * m≤2 ^ 48∧m≤2 ^ 60∧x.fA size=true then some (.l (List.replicate n.toNat x)) else none
 | _,_,_=>none
@[simp] theorem apc {s b z l c:Nat}:(Nd.rep s b z l c).den I val=aaN s b (val z) (val l) (val c):=rfl
@[simp] theorem aps {s b:Nat} {x:GV} {k k':IntKind} {n m:Int}:aaN s b (some x) (some (.i k n)) (some (.i k' m))=if 0≤n∧n≤m∧b * m≤2 ^ 48∧m≤2 ^ 60∧x.fA s=true then some (.l (List.replicate n.toNat x)) else none:=by
 cases x<;>rfl
@[simp] theorem aoX {a:Nat}:(Nd.bytes a).den I val=(val a).bind fun g=>match g with | .s x=>some (.l (kS x)) | _=>none:=by
 simp only [Nd.den];cases val a with
 | none=>rfl
 | some g=>cases g<;>rfl
@[simp] theorem apj {a:Nat}:(Nd.str a).den I val=(val a).bind fun g=>match g with | .l xs=>if xs.length≤2 ^ 48 then (lF xs).map .s else none | _=>none:=by
 simp only [Nd.den];cases val a with
 | none=>rfl
 | some g=>cases g<;>rfl
@[simp] theorem apd {a b:Nat}:(Nd.same a b).den I val=(val a).bind fun g=>(val b).bind fun h=>match g,h with | .l xs,.l ys=>if ys.length=xs.length then some (.l ys) else none | _,_=>none:=by
 simp only [Nd.den];cases val a with
 | none=>rfl
 | some g=>cases val b with
  | none=>cases g<;>rfl
  | some h=>cases g<;>cases h<;>rfl
@[simp] theorem ape {a:Nat}:(Nd.zF a).den I val=(val a).bind fun g=>match g with | .s x=>some (.s x) | _=>none:=by
 simp only [Nd.den];cases val a with
 | none=>rfl
 | some g=>cases g<;>rfl
end
section
variable {k:IntKind} {a b:Int}
@[simp] theorem ano:eY .add (some (.i k a)) (some (.i k b))=some (.i k (k.wrap (a+b))):=by simp [eY,eH,fF]
@[simp] theorem anL:eY .sub (some (.i k a)) (some (.i k b))=some (.i k (k.wrap (a - b))):=by simp [eY,eH,fF]
@[simp] theorem anw:eY .mul (some (.i k a)) (some (.i k b))=some (.i k (k.wrap (a * b))):=by simp [eY,eH,fF]
@[simp] theorem anA:eY .quo (some (.i k a)) (some (.i k b))=if b=0 then none else some (.i k (k.wrap (a.tdiv b))):=by simp [eY,eH,fF]
@[simp] theorem anB:eY .rem (some (.i k a)) (some (.i k b))=if b=0 then none else some (.i k (a.tmod b)):=by simp [eY,eH,fF]
@[simp] theorem anq:eY .eql (some (.i k a)) (some (.i k b))=some (.b (decide (a=b))):=by
 simp only [eY,eH,fF,if_true];rw [show (a==b)=decide (a=b) from rfl]
@[simp] theorem anx:eY .neq (some (.i k a)) (some (.i k b))=some (.b (decide (a≠b))):=by
 simp only [eY,eH,fF,if_true,bne];rw [show (a==b)=decide (a=b) from rfl,← decide_not]
@[simp] theorem anv:eY .lss (some (.i k a)) (some (.i k b))=some (.b (decide (a < b))):=by simp [eY,eH,fF]
@[simp] theorem anu:eY .leq (some (.i k a)) (some (.i k b))=some (.b (decide (a≤b))):=by simp [eY,eH,fF]
@[simp] theorem ant:eY .gtr (some (.i k a)) (some (.i k b))=some (.b (decide (b < a))):=by simp [eY,eH,fF]
@[simp] theorem anr:eY .geq (some (.i k a)) (some (.i k b))=some (.b (decide (b≤a))):=by simp [eY,eH,fF]
@[simp] theorem anp:eY .and (some (.i k a)) (some (.i k b))=fF .and k a b:=by simp [eY,eH]
@[simp] theorem anz:eY .or (some (.i k a)) (some (.i k b))=fF .or k a b:=by simp [eY,eH]
@[simp] theorem anM:eY .xor (some (.i k a)) (some (.i k b))=fF .xor k a b:=by simp [eY,eH]
@[simp] theorem anG {k':IntKind}:eY .shl (some (.i k a)) (some (.i k' b))=mW .shl k a b:=rfl
@[simp] theorem anH {k':IntKind}:eY .shr (some (.i k a)) (some (.i k' b))=mW .shr k a b:=rfl
end
section
variable {a b:List UInt8}
@[simp] theorem anC:eY .add (some (.s a)) (some (.s b))=if ((a.length+b.length:Nat):Int)≤9223372036854775807 then some (.s (a++b)) else none:=by
 simp only [eY,eH,pq];rfl
@[simp] theorem anD:eY .eql (some (.s a)) (some (.s b))=some (.b (decide (a=b))):=by
 simp only [eY,eH,pq];congr 2;rw [Bool.eq_iff_iff];simp
@[simp] theorem anK:eY .neq (some (.s a)) (some (.s b))=some (.b (decide (a≠b))):=by
 simp only [eY,eH,pq];congr 2;rw [Bool.eq_iff_iff];simp
@[simp] theorem anJ:eY .lss (some (.s a)) (some (.s b))=some (.b (Op.bytesLess a b)):=rfl
@[simp] theorem anE:eY .geq (some (.s a)) (some (.s b))=some (.b (!(Op.bytesLess a b))):=rfl
@[simp] theorem anI:eY .leq (some (.s a)) (some (.s b))=some (.b (Op.bytesLess a b || a==b)):=rfl
@[simp] theorem anF:eY .gtr (some (.s a)) (some (.s b))=some (.b (!(Op.bytesLess a b || a==b))):=rfl
end
@[simp] theorem anN {a b:Bool}:KG .eql (some (.b a)) (some (.b b))=some (.b (a==b)):=rfl
@[simp] theorem anO {a b:Bool}:KG .neq (some (.b a)) (some (.b b))=some (.b (!(a==b))):=rfl
@[simp] theorem anP {ks:List Nat} {a b:List GV}:CX .eql ks (some (.g a)) (some (.g b))=(jk ks a b).bind fun r=>some (.b r):=by
 simp only [CX,Ac];cases jk ks a b<;>rfl
@[simp] theorem anQ {ks:List Nat} {a b:List GV}:CX .neq ks (some (.g a)) (some (.g b))=(jk ks a b).bind fun r=>some (.b (!r)):=by
 simp only [CX,Ac];cases jk ks a b<;>rfl
@[simp] theorem apK {a:Bool}:PI .not (some (.b a))=some (.b (!a)):=rfl
@[simp] theorem apJ {k:IntKind} {a:Int}:PI .neg (some (.i k a))=some (.i k (k.wrap (0 - a))):=rfl
@[simp] theorem KN {cs:List GV}:(GV.g cs).cells=cs:=rfl
@[simp] theorem anZ {k:IntKind} {n:Int}:(GV.i k n).cells=[.i k n]:=rfl
@[simp] theorem anY {x:Bool}:(GV.b x).cells=[.b x]:=rfl
@[simp] theorem an1 {x:List UInt8}:(GV.s x).cells=[.s x]:=rfl
@[simp] theorem an0 {x:List GV}:(GV.l x).cells=[.l x]:=rfl
@[simp] theorem apx {cs:List GV}:(GV.g cs).scalar=false:=rfl
@[simp] theorem apy {k:IntKind} {n:Int}:(GV.i k n).scalar=true:=rfl
@[simp] theorem apw {x:Bool}:(GV.b x).scalar=true:=rfl
@[simp] theorem apA {x:List UInt8}:(GV.s x).scalar=true:=rfl
@[simp] theorem apz {x:List GV}:(GV.l x).scalar=true:=rfl
theorem aA {Ds:List aH} {k:Nat} {si so:List nO} {t:Tree} {gs out:List GV} (hk:Ds[k]? = some (.fn si so t)) (hi:lq si gs=true) (h:t.go (qJ Ds).lim gs.length (KA gs)=some out) (ho:lq so out=true):(qJ Ds).lim k gs=some out:=by
 have h:t.den (qJ Ds).lim gs=some out:=(Tree.DJ t gs).symm.trans h
 exact yS hk (by simp only [aH.den,if_pos hi,h,if_pos ho])
theorem ay {Ds:List aH} {k n:Nat} {t:Tree} {gs out:List GV} (hk:Ds[k]? = some (.tree n t)) (hn:gs.length=n) (h:t.go (qJ Ds).lim gs.length (KA gs)=some out):(qJ Ds).lim k gs=some out:=by
 have h:t.den (qJ Ds).lim gs=some out:=(Tree.DJ t gs).symm.trans h
 exact yS hk (by simp only [aH.den,if_pos hn,h])
theorem Ib {Ds:List aH} {k:Nat} {f:List GV→Option (List GV)} {gs out:List GV} (hk:Ds[k]? = some (.vg f)) (h:f gs=some out):(qJ Ds).lim k gs=some out:=
 yS hk h
theorem afV {gs:List GV} (h:hasArgs [] gs):gs=[]:=by simpa only [hasArgs] using h
theorem Y2 {l:List bg} {r:List (Bool×List bg)} {gs:List GV} (h:hasArgs ((true,l)::r) gs):∃cs gs',gs=.g cs::gs'∧bg.fJ l cs∧hasArgs r gs':=by
 simp only [hasArgs] at h
 obtain ⟨g,gs',rfl,h1,h2,h3⟩:=h
 cases g<;>simp [GV.scalar] at h2
 exact ⟨_,_,rfl,h1,h3⟩
theorem fM {t:bg} {l:List bg} {gs:List GV} (h:bg.fJ (t::l) gs):∃g r,gs=g::r∧t.has g∧bg.fJ l r:=by simpa only [bg.fJ] using h
theorem DR {gs:List GV} (h:bg.fJ [] gs):gs=[]:=by simpa only [bg.fJ] using h
theorem GI {t:bg} {r:List (Bool×List bg)} {gs:List GV} (h:hasArgs ((false,[t])::r) gs):∃g gs',gs=g::gs'∧t.has g∧hasArgs r gs':=by
 simp only [hasArgs] at h
 obtain ⟨g,gs',rfl,h1,h2,h3⟩:=h
 refine ⟨_,_,rfl, ?_,h3⟩
 obtain ⟨g0,r0,e,h4,h5⟩:=fM h1
 cases g<;>simp [GV.scalar] at h2<;>simp only [GV.cells,List.cons.injEq] at e<;>rw [e.1]<;>exact h4
theorem lI {g:GV} (h:(bg.int .u64).has g):∃n,g=.i .u64 n∧0≤n∧n < 18446744073709551616:=by
 simp only [bg.has] at h
 obtain ⟨n,rfl,h1,h2⟩:=h
 exact ⟨n,rfl,by simpa [IntKind.min,IntKind.signed] using h1,by simp [IntKind.max,IntKind.signed,IntKind.bits] at h2;omega⟩
theorem sK {g:GV} (h:bg.str.has g):∃s,g=.s s∧s.length≤reachBytes:=by simpa only [bg.has] using h
theorem GL {b:Bool} {e:List bg} {g:GV} (h:(bg.list b e).has g):∃xs,g=.l xs∧xs.length≤reachBytes∧∀x∈xs,bg.fJ e x.cells∧x.scalar = !b:=by simpa only [bg.has] using h
theorem D6 {α:Type} {f:α→GV} {p:α→Prop}:∀ {xs:List GV},(∀x∈xs,∃r,p r∧x=f r)→∃rs:List α,(∀r∈rs,p r)∧xs=rs.map f
 | [],_=>⟨[],by simp,rfl⟩
 | x::xs,h=>by
  obtain ⟨r,h1,h2⟩:=h x (by simp)
  obtain ⟨rs,h3,h4⟩:=D6 (xs:=xs) fun y hy=>h y (by simp [hy])
  refine ⟨r::rs,fun q hq=>?_,by rw [h2,h4];rfl⟩
  rcases List.mem_cons.1 hq with rfl | hq
  ·exact h1
  ·exact h3 q hq
theorem wrap64 {n:Int} (h0 : -9223372036854775808≤n) (h1:n≤9223372036854775807):IntKind.i64.wrap n=n:=by
 have:IntKind.i64.wrap n=if n % 18446744073709551616≥9223372036854775808 then n % 18446744073709551616 - 18446744073709551616 else n % 18446744073709551616:=by
  simp [IntKind.wrap,IntKind.signed,IntKind.bits]
 rw [this];split<;>omega
theorem gK {n:Int} (h0:0≤n) (h1:n < 18446744073709551616):IntKind.u64.wrap n=n:=by
 have:IntKind.u64.wrap n=n % 18446744073709551616:=by
  simp [IntKind.wrap,IntKind.signed,IntKind.bits]
 rw [this];omega
end Go.aJ
