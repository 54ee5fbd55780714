/- Plain laws over trees: values of one's own as ground values; how a tree is gone through. -/
import Derived.Test.YtlifdeocdbjalaaGreatDoorAbsJ
namespace Go.aN
set_option linter.unusedSimpArgs false
theorem zh {Ds:List aA} {k:Nat} {d:aA} {gs out:List GV} (hk:Ds[k]? = some d) (h:d.den (qQ Ds).lim gs=some out):(qQ Ds).lim k gs=some out:=eF.ajy hk h
def upd (val:Nat→Option GV) (k:Nat) (g:GV):Nat→Option GV:=fun n=>if n=k then some g else val n
def MW (gs:List GV):Nat→Option GV:=fun n=>gs[n]?
@[simp] theorem ase {gs:List GV} {n:Nat}:MW gs n=gs[n]?:=rfl
@[simp] theorem upd_same {val:Nat→Option GV} {k:Nat} {g:GV}:upd val k g k=some g:=if_pos rfl
@[simp] theorem upd_ne {val:Nat→Option GV} {k n:Nat} {g:GV} (h:n≠k):upd val k g n=val n:=if_neg h
def Tree.go (I:fH):Tree→Nat→(Nat→Option GV)→Option (List GV)
 | .step nd t,k,val=>match nd.den I val with
   | some g=>t.go I (k+1) (upd val k g)
   | none=>none
 | .ite n t e,k,val=>match val n with
   | some (.b true)=>t.go I k val
   | some (.b false)=>e.go I k val
   | _=>none
 | .ret l,_,val=>valsOf val l
 | .tail f l,_,val=>match valsOf val l with
   | some gs=>I f gs
   | none=>none
 | .dead,_,_=>none
theorem Tree.EG {I:fH}:∀ (t:Tree) (env:List GV),t.go I env.length (fun n=>env[n]?)=t.den I env
 | .step nd t,env=>by
   simp only [Tree.go,Tree.den]
   cases nd.den I fun n=>env[n]? with
   | none=>rfl
   | some g=>
     simp only
     rw [← Tree.EG t (env++[g])]
     congr 1
     ·simp
     ·funext n
      unfold upd
      split
      ·next h=>subst h;simp
      ·next h=>
       show env[n]? = (env++[g])[n]?
       rcases Nat.lt_or_ge n env.length with hl | hl
       ·rw [List.getElem?_append_left hl]
       ·rw [List.getElem?_append_right hl,List.getElem?_eq_none (l:=env) hl,List.getElem?_eq_none]
        simp;omega
 | .ite n t e,env=>by simp only [Tree.go,Tree.den,Tree.EG t env,Tree.EG e env];rfl
 | .ret l,env=>rfl
 | .tail f l,env=>rfl
 | .dead,env=>rfl
def Ui (o:Option GV) (I:fH) (t:Tree) (k:Nat) (val:Nat→Option GV):Option (List GV):=match o with
 | some g=>t.go I (k+1) (upd val k g)
 | none=>none
def XE (o:Option GV) (I:fH) (t e:Tree) (k:Nat) (val:Nat→Option GV):Option (List GV):=match o with
 | some (.b true)=>t.go I k val
 | some (.b false)=>e.go I k val
 | _=>none
section
variable {I:fH} {k:Nat} {val:Nat→Option GV}
@[simp] theorem asK {g:GV} {t:Tree}:Ui (some g) I t k val=t.go I (k+1) (upd val k g):=rfl
@[simp] theorem asW {c:Bool} {t e:Tree}:XE (some (.b c)) I t e k val=if c=true then t.go I k val else e.go I k val:=by cases c<;>rfl
@[simp] theorem avx {nd:Nd} {t:Tree}:(Tree.step nd t).go I k val=Ui (nd.den I val) I t k val:=rfl
@[simp] theorem avv {n:Nat} {t e:Tree}:(Tree.ite n t e).go I k val=XE (val n) I t e k val:=rfl
@[simp] theorem avw {l:List Nat}:(Tree.ret l).go I k val=valsOf val l:=rfl
@[simp] theorem avu:Tree.dead.go I k val=none:=rfl
@[simp] theorem avy {f:Nat} {l:List Nat}:(Tree.tail f l).go I k val=(valsOf val l).bind (I f):=by
 simp only [Tree.go];cases valsOf val l<;>rfl
end
@[simp] theorem auO {I:fH} {f j:Nat} {l:List Nat} {val:Nat→Option GV}:(Nd.call f l j).den I val=(valsOf val l).bind fun gs=>(I f gs).bind fun r=>r[j]?:=by
 simp only [Nd.den];cases valsOf val l with
 | none=>rfl
 | some gs=>simp only [Option.bind_some];cases I f gs<;>rfl
@[simp] theorem avG {val:Nat→Option GV}:valsOf val []=some []:=rfl
@[simp] theorem avF {val:Nat→Option GV} {n:Nat} {l:List Nat}:valsOf val (n::l)=(val n).bind fun g=>(valsOf val l).bind fun r=>some (g::r):=by
 simp only [valsOf];cases val n<;>cases valsOf val l<;>rfl
def dU (op:BinOp) (x y:Option GV):Option GV:=match x,y with
 | some a,some b=>dY op a b
 | _,_=>none
def Nq (op:BinOp) (x y:Option GV):Option GV:=match x,y with
 | some a,some b=>G8 op a b
 | _,_=>none
def D5 (op:BinOp) (ks:List Nat) (x y:Option GV):Option GV:=match x,y with
 | some a,some b=>AA op ks a b
 | _,_=>none
def RQ (op:UnOp) (x:Option GV):Option GV:=match x with
 | some a=>LQ op a
 | none=>none
section
variable {I:fH} {val:Nat→Option GV}
@[simp] theorem auR {k:IntKind} {n:Int}:(Nd.ci k n).den I val=some (.i k n):=rfl
@[simp] theorem auP {x:Bool}:(Nd.cb x).den I val=some (.b x):=rfl
@[simp] theorem auT {x:List UInt8}:(Nd.cs x).den I val=some (.s x):=rfl
@[simp] theorem auK {op:BinOp} {a b:Nat}:(Nd.bin op a b).den I val=dU op (val a) (val b):=rfl
@[simp] theorem auL {op:BinOp} {a b:Nat}:(Nd.oD op a b).den I val=Nq op (val a) (val b):=rfl
@[simp] theorem auM {op:BinOp} {ks:List Nat} {a b:Nat}:(Nd.sW op ks a b).den I val=D5 op ks (val a) (val b):=rfl
@[simp] theorem au9 {op:UnOp} {a:Nat}:(Nd.un op a).den I val=RQ op (val a):=rfl
def E9 (big:Bool) (x y:Option GV):Option GV:=match x,y with
 | some (.i k x),some (.i k' y)=>if k=k' then some (.i k (if big then (if x < y then y else x) else (if y < x then y else x))) else none
 | _,_=>none
@[simp] theorem au1 {g:Bool} {a b:Nat}:(Nd.mm g a b).den I val=E9 g (val a) (val b):=rfl
@[simp] theorem auG {k:IntKind} {x y:Int}:E9 true (some (.i k x)) (some (.i k y))=some (.i k (if x < y then y else x)):=by simp [E9]
@[simp] theorem auF {k:IntKind} {x y:Int}:E9 false (some (.i k x)) (some (.i k y))=some (.i k (if y < x then y else x)):=by simp [E9]
def XG (k:IntKind) (x:Option GV):Option GV:=match x with
 | some (.i _ n)=>some (.i k (k.wrap n))
 | _=>none
@[simp] theorem auS {k:IntKind} {a:Nat}:(Nd.conv k a).den I val=XG k (val a):=rfl
@[simp] theorem asX {k k':IntKind} {n:Int}:XG k (some (.i k' n))=some (.i k (k.wrap n)):=rfl
def len1 (x:Option GV):Option GV:=match x with
 | some (.l xs)=>some (.i .i64 xs.length)
 | _=>none
@[simp] theorem auV {a:Nat}:(Nd.len a).den I val=len1 (val a):=rfl
@[simp] theorem auC {xs:List GV}:len1 (some (.l xs))=some (.i .i64 xs.length):=rfl
def ad2 (x:Option GV):Option GV:=match x with
 | some (.s x)=>some (.i .i64 x.length)
 | _=>none
@[simp] theorem au6 {a:Nat}:(Nd.slen a).den I val=ad2 (val a):=rfl
@[simp] theorem avp {x:List UInt8}:ad2 (some (.s x))=some (.i .i64 x.length):=rfl
def Rq (x i:Option GV):Option GV:=match x,i with
 | some (.s x),some (.i _ k)=>if 0≤k then match x[k.toNat]? with
   | some c=>some (.i .u8 c.toNat)
   | none=>none
   else none
 | _,_=>none
@[simp] theorem au5 {a i:Nat}:(Nd.sD a i).den I val=Rq (val a) (val i):=rfl
@[simp] theorem avo {x:List UInt8} {kk:IntKind} {k:Int}:Rq (some (.s x)) (some (.i kk k))=if 0≤k then (x[k.toNat]?).bind fun c=>some (.i .u8 c.toNat) else none:=by
 simp only [Rq];split
 ·cases x[k.toNat]?<;>rfl
 ·rfl
def ad9 (x lo hi:Option GV):Option GV:=match x,lo,hi with
 | some (.s x),some (.i _ l),some (.i _ h)=>if 0≤l∧l≤h∧h≤x.length then some (.s ((x.take h.toNat).drop l.toNat)) else none
 | _,_,_=>none
@[simp] theorem au7 {a l h:Nat}:(Nd.zZ a l h).den I val=ad9 (val a) (val l) (val h):=rfl
def acv (z m k:Option GV):Option GV:=match z,m,k with
 | some d,some (.l xs),some g=>some ((iZ g xs).getD d)
 | _,_,_=>none
def acw (m k:Option GV):Option GV:=match m,k with
 | some (.l xs),some g=>some (.b (iZ g xs).isSome)
 | _,_=>none
def acy (m k v:Option GV):Option GV:=match m,k,v with
 | some (.l xs),some g,some u=>some (.l (qL g u xs))
 | _,_,_=>none
@[simp] theorem auX {z m k:Nat}:(Nd.BN z m k).den I val=acv (val z) (val m) (val k):=rfl
@[simp] theorem auY {m k:Nat}:(Nd.E8 m k).den I val=acw (val m) (val k):=rfl
@[simp] theorem au2 {m k v:Nat}:(Nd.xK m k v).den I val=acy (val m) (val k) (val v):=rfl
@[simp] theorem auD {d g:GV} {xs:List GV}:acv (some d) (some (.l xs)) (some g)=some ((iZ g xs).getD d):=rfl
@[simp] theorem auE {g:GV} {xs:List GV}:acw (some (.l xs)) (some g)=some (.b (iZ g xs).isSome):=rfl
@[simp] theorem auH {g u:GV} {xs:List GV}:acy (some (.l xs)) (some g) (some u)=some (.l (qL g u xs)):=rfl
@[simp] theorem avt {x:List UInt8} {k k':IntKind} {l h:Int}:ad9 (some (.s x)) (some (.i k l)) (some (.i k' h))=if 0≤l∧l≤h∧h≤x.length then some (.s ((x.take h.toNat).drop l.toNat)) else none:=rfl
def EX (size:Nat) (x lo hi:Option GV):Option GV:=match x,lo,hi with
 | some (.l xs),some (.i _ l),some (.i _ h)=>if 0≤l∧l≤h∧h≤xs.length∧(xs.all fun x=>Nat.beq x.cells.length size)=true then some (.l ((xs.take h.toNat).drop l.toNat)) else none
 | _,_,_=>none
@[simp] theorem auW {s a l h:Nat}:(Nd.iG s a l h).den I val=EX s (val a) (val l) (val h):=rfl
@[simp] theorem rV {s:Nat} {xs:List GV} {k k':IntKind} {l h:Int}:EX s (some (.l xs)) (some (.i k l)) (some (.i k' h))=if 0≤l∧l≤h∧h≤xs.length∧(xs.all fun x=>Nat.beq x.cells.length s)=true then some (.l ((xs.take h.toNat).drop l.toNat)) else none:=rfl
def abq (x i:Option GV):Option GV:=match x,i with
 | some (.l xs),some (.i _ k)=>if 0≤k∧k < xs.length then some (.i .i64 k) else none
 | _,_=>none
@[simp] theorem auU {a i:Nat}:(Nd.idx a i).den I val=abq (val a) (val i):=rfl
@[simp] theorem auB {xs:List GV} {kk:IntKind} {k:Int}:abq (some (.l xs)) (some (.i kk k))=if 0≤k∧k < xs.length then some (.i .i64 k) else none:=rfl
def at2 (size:Nat) (x i:Option GV):Option GV:=match x,i with
 | some (.l xs),some (.i _ k)=>if 0≤k then match xs[k.toNat]? with
   | some x=>if x.cells.length=size then some x else none
   | none=>none
   else none
 | _,_=>none
@[simp] theorem auJ {s a i:Nat}:(Nd.at s a i).den I val=at2 s (val a) (val i):=rfl
@[simp] theorem pq {s:Nat} {xs:List GV} {kk:IntKind} {k:Int}:at2 s (some (.l xs)) (some (.i kk k))=if 0≤k then (xs[k.toNat]?).bind fun x=>if x.cells.length=s then some x else none else none:=by
 simp only [at2];split
 ·cases xs[k.toNat]?<;>rfl
 ·rfl
def cell1 (off:Nat) (x:Option GV):Option GV:=match x with
 | some g=>match g.cells[off]? with
   | some c=>if c.scalar then some c else none
   | none=>none
 | none=>none
@[simp] theorem auQ {o a:Nat}:(Nd.cell o a).den I val=cell1 o (val a):=rfl
@[simp] theorem asQ {o:Nat} {g:GV}:cell1 o (some g)=(g.cells[o]?).bind fun c=>if c.scalar=true then some c else none:=by
 simp only [cell1];cases g.cells[o]?<;>rfl
@[simp] theorem auZ {l:List Nat}:(Nd.mk l).den I val=(valsOf val l).bind fun gs=>if gs.all GV.scalar=true then some (.g gs) else none:=by
 simp only [Nd.den];cases valsOf val l<;>rfl
@[simp] theorem au0 {l:List Nat}:(Nd.ml l).den I val=(valsOf val l).bind fun gs=>some (.l gs):=by
 simp only [Nd.den];cases valsOf val l<;>rfl
def DT (size bs:Nat) (x y:Option GV):Option GV:=match x,y with
 | some (.l xs),some (.l ys)=>if ys.all (GV.fD size)=true∧2 * (xs.length+ys.length) * bs≤2 ^ 48∧xs.length+ys.length≤2 ^ 48 then some (.l (xs++ys)) else none
 | _,_=>none
@[simp] theorem auI {z s a b:Nat}:(Nd.app z s a b).den I val=DT z s (val a) (val b):=rfl
@[simp] theorem DU {z s:Nat} {xs ys:List GV}:DT z s (some (.l xs)) (some (.l ys))=if ys.all (GV.fD z)=true∧2 * (xs.length+ys.length) * s≤2 ^ 48∧xs.length+ys.length≤2 ^ 48 then some (.l (xs++ys)) else none:=rfl
def RV (size off:Nat) (x i:Option GV) (vs:Option (List GV)):Option GV:=match x,i,vs with
 | some (.l xs),some (.i _ k),some gs=>if 0≤k∧gs.all GV.scalar=true then match xs[k.toNat]? with
   | some x=>if x.cells.length=size then (x.put off gs).map fun y=>.l (xs.set k.toNat y) else none
   | none=>none
   else none
 | _,_,_=>none
@[simp] theorem ava {s o a i:Nat} {vs:List Nat}:(Nd.upd s o a i vs).den I val=RV s o (val a) (val i) (valsOf val vs):=rfl
@[simp] theorem avE {s o:Nat} {xs:List GV} {kk:IntKind} {k:Int} {gs:List GV}:RV s o (some (.l xs)) (some (.i kk k)) (some gs)=if 0≤k∧gs.all GV.scalar=true then (xs[k.toNat]?).bind fun x=>if x.cells.length=s then (x.put o gs).map fun y=>.l (xs.set k.toNat y) else none else none:=by
 simp only [RV];split
 ·cases xs[k.toNat]?<;>rfl
 ·rfl
@[simp] theorem ave {k:IntKind} {n:Int} {v:GV}:(GV.i k n).put 0 [v]=some v:=rfl
def ac7 (size Nr:Nat) (z l c:Option GV):Option GV:=match z,l,c with
 | some x,some (.i _ n),some (.i _ m)=>if 0≤n∧n≤m∧Nr * m≤2 ^ 48∧m≤2 ^ 60∧x.fD size=true then some (.l (List.replicate n.toNat x)) else none
 | _,_,_=>none
@[simp] theorem au3 {s b z l c:Nat}:(Nd.rep s b z l c).den I val=ac7 s b (val z) (val l) (val c):=rfl
@[simp] theorem avg {s b:Nat} {x:GV} {k k':IntKind} {n m:Int}:ac7 s b (some x) (some (.i k n)) (some (.i k' m))=if 0≤n∧n≤m∧b * m≤2 ^ 48∧m≤2 ^ 60∧x.fD s=true then some (.l (List.replicate n.toNat x)) else none:=by
 cases x<;>rfl
@[simp] theorem auN {a:Nat}:(Nd.bytes a).den I val=(val a).bind fun g=>match g with | .s x=>some (.l (kM x)) | _=>none:=by
 simp only [Nd.den];cases val a with
 | none=>rfl
 | some g=>cases g<;>rfl
@[simp] theorem au8 {a:Nat}:(Nd.str a).den I val=(val a).bind fun g=>match g with | .l xs=>if xs.length≤2 ^ 48 then (jJ xs).map .s else none | _=>none:=by
 simp only [Nd.den];cases val a with
 | none=>rfl
 | some g=>cases g<;>rfl
@[simp] theorem au4 {a:Nat}:(Nd.FP a).den I val=(val a).bind fun g=>match g with | .s x=>some (.s x) | _=>none:=by
 simp only [Nd.den];cases val a with
 | none=>rfl
 | some g=>cases g<;>rfl
end
section
variable {k:IntKind} {a b:Int}
@[simp] theorem asf:dU .add (some (.i k a)) (some (.i k b))=some (.i k (k.wrap (a+b))):=by simp [dU,dY,gK]
@[simp] theorem asE:dU .sub (some (.i k a)) (some (.i k b))=some (.i k (k.wrap (a - b))):=by simp [dU,dY,gK]
@[simp] theorem aso:dU .mul (some (.i k a)) (some (.i k b))=some (.i k (k.wrap (a * b))):=by simp [dU,dY,gK]
@[simp] theorem asu:dU .quo (some (.i k a)) (some (.i k b))=if b=0 then none else some (.i k (k.wrap (a.tdiv b))):=by simp [dU,dY,gK]
@[simp] theorem asv:dU .rem (some (.i k a)) (some (.i k b))=if b=0 then none else some (.i k (a.tmod b)):=by simp [dU,dY,gK]
@[simp] theorem ash:dU .eql (some (.i k a)) (some (.i k b))=some (.b (decide (a=b))):=by
 simp only [dU,dY,gK,if_true];rw [show (a==b)=decide (a=b) from rfl]
@[simp] theorem asq:dU .neq (some (.i k a)) (some (.i k b))=some (.b (decide (a≠b))):=by
 simp only [dU,dY,gK,if_true,bne];rw [show (a==b)=decide (a=b) from rfl,← decide_not]
@[simp] theorem asn:dU .lss (some (.i k a)) (some (.i k b))=some (.b (decide (a < b))):=by simp [dU,dY,gK]
@[simp] theorem asl:dU .leq (some (.i k a)) (some (.i k b))=some (.b (decide (a≤b))):=by simp [dU,dY,gK]
@[simp] theorem asj:dU .gtr (some (.i k a)) (some (.i k b))=some (.b (decide (b < a))):=by simp [dU,dY,gK]
@[simp] theorem asi:dU .geq (some (.i k a)) (some (.i k b))=some (.b (decide (b≤a))):=by simp [dU,dY,gK]
@[simp] theorem asg:dU .and (some (.i k a)) (some (.i k b))=gK .and k a b:=by simp [dU,dY]
@[simp] theorem asr:dU .or (some (.i k a)) (some (.i k b))=gK .or k a b:=by simp [dU,dY]
@[simp] theorem asF:dU .xor (some (.i k a)) (some (.i k b))=gK .xor k a b:=by simp [dU,dY]
@[simp] theorem asz {k':IntKind}:dU .shl (some (.i k a)) (some (.i k' b))=um .shl k a b:=rfl
@[simp] theorem asA {k':IntKind}:dU .shr (some (.i k a)) (some (.i k' b))=um .shr k a b:=rfl
end
section
variable {a b:List UInt8}
@[simp] theorem Np:dU .add (some (.s a)) (some (.s b))=if ((a.length+b.length:Nat):Int)≤9223372036854775807 then some (.s (a++b)) else none:=by
 simp only [dU,dY,qj];rfl
@[simp] theorem asw:dU .eql (some (.s a)) (some (.s b))=some (.b (decide (a=b))):=by
 simp only [dU,dY,qj];congr 2;rw [Bool.eq_iff_iff];simp
@[simp] theorem asD:dU .neq (some (.s a)) (some (.s b))=some (.b (decide (a≠b))):=by
 simp only [dU,dY,qj];congr 2;rw [Bool.eq_iff_iff];simp
@[simp] theorem asC:dU .lss (some (.s a)) (some (.s b))=some (.b (Op.bytesLess a b)):=rfl
@[simp] theorem asx:dU .geq (some (.s a)) (some (.s b))=some (.b (!(Op.bytesLess a b))):=rfl
@[simp] theorem asB:dU .leq (some (.s a)) (some (.s b))=some (.b (Op.bytesLess a b || a==b)):=rfl
@[simp] theorem asy:dU .gtr (some (.s a)) (some (.s b))=some (.b (!(Op.bytesLess a b || a==b))):=rfl
end
@[simp] theorem asG {a b:Bool}:Nq .eql (some (.b a)) (some (.b b))=some (.b (a==b)):=rfl
@[simp] theorem asH {a b:Bool}:Nq .neq (some (.b a)) (some (.b b))=some (.b (!(a==b))):=rfl
@[simp] theorem asI {ks:List Nat} {a b:List GV}:D5 .eql ks (some (.g a)) (some (.g b))=(jk ks a b).bind fun r=>some (.b r):=by
 simp only [D5,AA];cases jk ks a b<;>rfl
@[simp] theorem asJ {ks:List Nat} {a b:List GV}:D5 .neq ks (some (.g a)) (some (.g b))=(jk ks a b).bind fun r=>some (.b (!r)):=by
 simp only [D5,AA];cases jk ks a b<;>rfl
@[simp] theorem avA {a:Bool}:RQ .not (some (.b a))=some (.b (!a)):=rfl
@[simp] theorem avz {k:IntKind} {a:Int}:RQ .neg (some (.i k a))=some (.i k (k.wrap (0 - a))):=rfl
@[simp] theorem Ny {cs:List GV}:(GV.g cs).cells=cs:=rfl
@[simp] theorem asT {k:IntKind} {n:Int}:(GV.i k n).cells=[.i k n]:=rfl
@[simp] theorem asR {x:Bool}:(GV.b x).cells=[.b x]:=rfl
@[simp] theorem asV {x:List UInt8}:(GV.s x).cells=[.s x]:=rfl
@[simp] theorem asU {x:List GV}:(GV.l x).cells=[.l x]:=rfl
@[simp] theorem avk {cs:List GV}:(GV.g cs).scalar=false:=rfl
@[simp] theorem avl {k:IntKind} {n:Int}:(GV.i k n).scalar=true:=rfl
@[simp] theorem avj {x:Bool}:(GV.b x).scalar=true:=rfl
@[simp] theorem avn {x:List UInt8}:(GV.s x).scalar=true:=rfl
@[simp] theorem avm {x:List GV}:(GV.l x).scalar=true:=rfl
theorem aH {Ds:List aA} {k:Nat} {si so:List oz} {t:Tree} {gs out:List GV} (hk:Ds[k]? = some (.fn si so t)) (hi:kZ si gs=true) (h:t.go (qQ Ds).lim gs.length (MW gs)=some out) (ho:kZ so out=true):(qQ Ds).lim k gs=some out:=by
 have h:t.den (qQ Ds).lim gs=some out:=(Tree.EG t gs).symm.trans h
 exact zh hk (by simp only [aA.den,if_pos hi,h,if_pos ho])
theorem au {Ds:List aA} {k n:Nat} {t:Tree} {gs out:List GV} (hk:Ds[k]? = some (.tree n t)) (hn:gs.length=n) (h:t.go (qQ Ds).lim gs.length (MW gs)=some out):(qQ Ds).lim k gs=some out:=by
 have h:t.den (qQ Ds).lim gs=some out:=(Tree.EG t gs).symm.trans h
 exact zh hk (by simp only [aA.den,if_pos hn,h])
theorem Fq {Ds:List aA} {k:Nat} {f:List GV→Option (List GV)} {gs out:List GV} (hk:Ds[k]? = some (.wu f)) (h:f gs=some out):(qQ Ds).lim k gs=some out:=
 zh hk h
theorem aiz {gs:List GV} (h:hasArgs [] gs):gs=[]:=by simpa only [hasArgs] using h
theorem eX {t:bg} {l:List bg} {gs:List GV} (h:bg.fE (t::l) gs):∃g r,gs=g::r∧t.has g∧bg.fE l r:=by simpa only [bg.fE] using h
theorem BA {gs:List GV} (h:bg.fE [] gs):gs=[]:=by simpa only [bg.fE] using h
theorem OD {t:bg} {r:List (Bool×List bg)} {gs:List GV} (h:hasArgs ((false,[t])::r) gs):∃g gs',gs=g::gs'∧t.has g∧hasArgs r gs':=by
 simp only [hasArgs] at h
 obtain ⟨g,gs',rfl,h1,h2,h3⟩:=h
 refine ⟨_,_,rfl, ?_,h3⟩
 obtain ⟨g0,r0,e,h4,h5⟩:=eX h1
 cases g<;>simp [GV.scalar] at h2<;>simp only [GV.cells,List.cons.injEq] at e<;>rw [e.1]<;>exact h4
theorem mJ {g:GV} (h:(bg.int .u64).has g):∃n,g=.i .u64 n∧0≤n∧n < 18446744073709551616:=by
 simp only [bg.has] at h
 obtain ⟨n,rfl,h1,h2⟩:=h
 exact ⟨n,rfl,by simpa [IntKind.min,IntKind.signed] using h1,by simp [IntKind.max,IntKind.signed,IntKind.bits] at h2;omega⟩
theorem xA {g:GV} (h:bg.str.has g):∃s,g=.s s∧s.length≤reachBytes:=by simpa only [bg.has] using h
theorem BD {b:Bool} {e:List bg} {g:GV} (h:(bg.list b e).has g):∃xs,g=.l xs∧xs.length≤reachBytes∧∀x∈xs,bg.fE e x.cells∧x.scalar = !b:=by simpa only [bg.has] using h
theorem zi {α:Type} {f:α→GV} {p:α→Prop}:∀ {xs:List GV},(∀x∈xs,∃r,p r∧x=f r)→∃rs:List α,(∀r∈rs,p r)∧xs=rs.map f
 | [],_=>⟨[],by simp,rfl⟩
 | x::xs,h=>by
   obtain ⟨r,h1,h2⟩:=h x (by simp)
   obtain ⟨rs,h3,h4⟩:=zi (xs:=xs) fun y hy=>h y (by simp [hy])
   refine ⟨r::rs,fun q hq=>?_,by rw [h2,h4];rfl⟩
   rcases List.mem_cons.1 hq with rfl | hq
   ·exact h1
   ·exact h3 q hq
theorem wrap64 {n:Int} (h0 : -9223372036854775808≤n) (h1:n≤9223372036854775807):IntKind.i64.wrap n=n:=by
 have:IntKind.i64.wrap n=if n % 18446744073709551616≥9223372036854775808 then n % 18446744073709551616 - 18446744073709551616 else n % 18446744073709551616:=by
  simp [IntKind.wrap,IntKind.signed,IntKind.bits]
 rw [this];split<;>omega
theorem jI {n:Int} (h0:0≤n) (h1:n < 18446744073709551616):IntKind.u64.wrap n=n:=by
 have:IntKind.u64.wrap n=n % 18446744073709551616:=by
  simp [IntKind.wrap,IntKind.signed,IntKind.bits]
 rw [this];omega
end Go.aN
